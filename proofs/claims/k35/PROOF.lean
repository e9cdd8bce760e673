import PyProof.Rows.All
import Wide.All
import OpenK.AllK
import Wide.FinOn
import HandS.ForMost
import HandS.Wide
import HandS.TupAny
import HandS.ExcValue
import HandS.HeadHook1
import HandS.Lambda
import HandS.HeadHook4
import HandS.IsInst
import HandS.Flow
import HandS.Style
import HandS.ForExc
import HandS.Defaults
import HandS.HeadEnd
import HandS.ExcIs
import HandS.TryOnly
import HandS.Comp
import HandS.EndBits
import HandS.List
import HandS.SetFor
import PyProof.Rows.CountFlat
import HandS.Iter
import HandS.SortInts
import HandS.TupSets
import HandS.Strs
import HandS.Set
import PyProof.Rows.SortStr
import PyProof.CollectStr
import HandS.Text
import HandS.Zip
import HandS.TupMul
import HandS.Deep
import HandS.MakeKwOnly
import PyProof.ListStr
import KE.KStateDown
import HandS.Replace
import HandS.Head0
import HandS.Head1
import HandS.Head2
import HandS.HeadHook2
import HandS.HeadHook3
import PySem.Challenge.RW_laterless_k35_words_of_rules
set_option Elab.async false
set_option linter.all false
set_option maxRecDepth 100000
set_option maxHeartbeats 4000000
/-! LD0: values with tuples inline, over the hand layer -/
namespace LD
open PySem PySem.Spec PyProof.Rows L2

inductive D where
  | non | bl (b : Bool) | int (i : Int) | str (x : Str) | tup (xs : List D) | lst (xs : List D) | dct (kvs : List (D × D)) | ref (a : Addr) | ty (n : String)

/-- a list that is never written again -/
def FrL (K : PySem.W.Frag) (H : Hp) (a : Addr) (vs : List V) : Prop := (∃ o, H a = some (.frz o (.lst vs))) ∨
  ∃ (o : Obj) (its : Array Value) (n : Nat), K.lookup a = some o ∧ o.cls = .type "list" ∧ o.dict = none ∧ o.data = .seq its n ∧ its.size ≤ sizeLine ∧ L2.Vals vs its.toList
theorem FrL.sq {K : PySem.W.Frag} {H : Hp} {a : Addr} {vs : List V} (h : FrL K H a vs) : SqL K H a vs := h.elim (fun ⟨o, h⟩ => .inl (.inr ⟨o, h⟩)) .inr
/-- the raw entries of a dict -/
def dictIs (a : Addr) (es : List DictEntry) (h : Heap) : Prop := ∃ o ep, h.get? a = some o ∧ o.ExactDict ∧ o.data = .dict es.toArray ep

mutual
def den (K : PySem.W.Frag) (H : Hp) : V → D → Prop
  | v, .non => v = .non
  | v, .bl b => v = .bl b
  | v, .int i => v = .int i
  | v, .str x => v = .str x
  | v, .ref a => v = .ref a
  | v, .ty n => v = .ty n
  | v, .tup ds => ∃ a vs, v = .ref a ∧ SqT K H a vs ∧ dens K H vs ds
  | v, .lst ds => ∃ a vs, v = .ref a ∧ FrL K H a vs ∧ dens K H vs ds
  | v, .dct kvs => ∃ a o vs, v = .ref a ∧ H a = some (.frz o (.dK vs)) ∧ denKV K H vs kvs
def dens (K : PySem.W.Frag) (H : Hp) : List V → List D → Prop
  | vs, [] => vs = []
  | vs, d :: ds => ∃ v r, vs = v :: r ∧ den K H v d ∧ dens K H r ds
def denKV (K : PySem.W.Frag) (H : Hp) : List (Key × V) → List (D × D) → Prop
  | vs, [] => vs = []
  | vs, (k, d) :: ds => ∃ q v r, vs = (q, v) :: r ∧ den K H (kV q) k ∧ den K H v d ∧ denKV K H r ds
end

/-- what never changes stays -/
structure Ext (H H' : Hp) : Prop where
  tup : ∀ a xs, H a = some (.tup xs) → H' a = some (.tup xs)
  frz : ∀ a o u, H a = some (.frz o u) → H' a = some (.frz o u)
theorem Ext.refl (H : Hp) : Ext H H := ⟨fun _ _ h => h, fun _ _ _ h => h⟩
theorem Ext.trans {H H1 H2 : Hp} (a : Ext H H1) (b : Ext H1 H2) : Ext H H2 := ⟨fun _ _ h => b.tup _ _ (a.tup _ _ h), fun _ _ _ h => b.frz _ _ _ (a.frz _ _ _ h)⟩
theorem Ext.new {H : Hp} {p : Addr} {o : HO} (h : H p = none) : Ext H (upd H p o) :=
  ⟨fun a xs e => by rw [upd_ne (ne_of_none e h)]; exact e, fun a u o e => by rw [upd_ne (ne_of_none e h)]; exact e⟩
theorem Ext.put {H : Hp} {p : Addr} {o u : HO} (h : H p = some u) (m : Mut (some u)) : Ext H (upd H p o) :=
  ⟨fun a xs e => by rw [upd_ne (fun z => by subst z; rw [h] at e; cases e; exact m)]; exact e,
   fun a w v e => by rw [upd_ne (fun z => by subst z; rw [h] at e; cases e; exact m)]; exact e⟩
theorem Ext.sqT {K : PySem.W.Frag} {H H' : Hp} (x : Ext H H') {a : Addr} {vs : List V} (h : SqT K H a vs) : SqT K H' a vs := by
  rcases h with (h | ⟨o, h⟩) | h
  · exact .inl (.inl (x.tup _ _ h))
  · exact .inl (.inr ⟨o, x.frz _ _ _ h⟩)
  · exact .inr h
theorem Ext.frL {K : PySem.W.Frag} {H H' : Hp} (x : Ext H H') {a : Addr} {vs : List V} (h : FrL K H a vs) : FrL K H' a vs :=
  h.elim (fun ⟨o, h⟩ => .inl ⟨o, x.frz _ _ _ h⟩) .inr
mutual
theorem den_ext {K : PySem.W.Frag} {H H' : Hp} (x : Ext H H') : ∀ (v : V) (d : D), den K H v d → den K H' v d
  | v, .non, h => by rw [den] at h ⊢; exact h
  | v, .bl b, h => by rw [den] at h ⊢; exact h
  | v, .int i, h => by rw [den] at h ⊢; exact h
  | v, .str y, h => by rw [den] at h ⊢; exact h
  | v, .ref a, h => by rw [den] at h ⊢; exact h
  | v, .ty n, h => by rw [den] at h ⊢; exact h
  | v, .tup ds, h => by
    rw [den] at h ⊢
    obtain ⟨a, vs, e, s, r⟩ := h
    exact ⟨a, vs, e, x.sqT s, dens_ext x vs ds r⟩
  | v, .lst ds, h => by
    rw [den] at h ⊢
    obtain ⟨a, vs, e, s, r⟩ := h
    exact ⟨a, vs, e, x.frL s, dens_ext x vs ds r⟩
  | v, .dct kvs, h => by
    rw [den] at h ⊢
    obtain ⟨a, o, vs, e, s, r⟩ := h
    exact ⟨a, o, vs, e, x.frz _ _ _ s, denKV_ext x vs kvs r⟩
theorem dens_ext {K : PySem.W.Frag} {H H' : Hp} (x : Ext H H') : ∀ (vs : List V) (ds : List D), dens K H vs ds → dens K H' vs ds
  | vs, [], h => by rw [dens] at h ⊢; exact h
  | vs, d :: ds, h => by
    rw [dens] at h ⊢
    obtain ⟨v, r, e, h1, h2⟩ := h
    exact ⟨v, r, e, den_ext x v d h1, dens_ext x r ds h2⟩
theorem denKV_ext {K : PySem.W.Frag} {H H' : Hp} (x : Ext H H') : ∀ (vs : List (Key × V)) (ds : List (D × D)), denKV K H vs ds → denKV K H' vs ds
  | vs, [], h => by rw [denKV] at h ⊢; exact h
  | vs, (k, d) :: ds, h => by
    rw [denKV] at h ⊢
    obtain ⟨q, v, r, e, h0, h1, h2⟩ := h
    exact ⟨q, v, r, e, den_ext x _ k h0, den_ext x v d h1, denKV_ext x r ds h2⟩
end

/-! ### lists of values -/
section
variable {K : PySem.W.Frag} {H : Hp}
theorem dens_nil : dens K H [] [] := by rw [dens]
theorem dens_cons {v : V} {vs : List V} {d : D} {ds : List D} (h : den K H v d) (t : dens K H vs ds) : dens K H (v :: vs) (d :: ds) := by rw [dens]; exact ⟨v, vs, rfl, h, t⟩
theorem dens_length : ∀ {vs : List V} {ds : List D}, dens K H vs ds → vs.length = ds.length
  | vs, [], h => by rw [dens] at h; rw [h]; rfl
  | vs, d :: ds, h => by
    rw [dens] at h
    obtain ⟨v, r, e, _, h2⟩ := h
    rw [e, List.length_cons, List.length_cons, dens_length h2]
theorem dens_get : ∀ {vs : List V} {ds : List D} {i : Nat} {d : D}, dens K H vs ds → ds[i]? = some d → ∃ v, vs[i]? = some v ∧ den K H v d
  | _, [], _, _, _, e => by simp at e
  | vs, d0 :: ds, 0, d, h, e => by
    rw [dens] at h
    obtain ⟨v, r, e1, h1, h2⟩ := h
    simp at e; subst e; subst e1
    exact ⟨v, rfl, h1⟩
  | vs, d0 :: ds, i + 1, d, h, e => by
    rw [dens] at h
    obtain ⟨v, r, e1, h1, h2⟩ := h
    subst e1
    obtain ⟨u, h3, h4⟩ := dens_get (i := i) (d := d) h2 (by simpa using e)
    exact ⟨u, by simpa using h3, h4⟩
theorem dens_getV : ∀ {vs : List V} {ds : List D} {i : Nat} {v : V}, dens K H vs ds → vs[i]? = some v → ∃ d, ds[i]? = some d ∧ den K H v d
  | vs, [], i, v, h, e => by rw [dens] at h; subst h; simp at e
  | vs, d0 :: ds, 0, v, h, e => by
    rw [dens] at h
    obtain ⟨v0, r, e1, h1, h2⟩ := h
    subst e1; simp at e; subst e
    exact ⟨d0, rfl, h1⟩
  | vs, d0 :: ds, i + 1, v, h, e => by
    rw [dens] at h
    obtain ⟨v0, r, e1, h1, h2⟩ := h
    subst e1
    obtain ⟨u, h3, h4⟩ := dens_getV (i := i) (v := v) h2 (by simpa using e)
    exact ⟨u, by simpa using h3, h4⟩
theorem dens_append : ∀ {vs ws : List V} {ds es : List D}, dens K H vs ds → dens K H ws es → dens K H (vs ++ ws) (ds ++ es)
  | vs, ws, [], es, h, t => by rw [dens] at h; subst h; exact t
  | vs, ws, d :: ds, es, h, t => by
    rw [dens] at h
    obtain ⟨v, r, e, h1, h2⟩ := h
    subst e
    exact dens_cons h1 (dens_append h2 t)
theorem dens_take : ∀ {vs : List V} {ds : List D} (n : Nat), dens K H vs ds → dens K H (vs.take n) (ds.take n)
  | vs, _, 0, _ => by rw [List.take_zero, List.take_zero]; exact dens_nil
  | vs, [], n + 1, h => by rw [dens] at h; subst h; exact dens_nil
  | vs, d :: ds, n + 1, h => by
    rw [dens] at h
    obtain ⟨v, r, e, h1, h2⟩ := h
    subst e
    exact dens_cons h1 (dens_take n h2)
theorem dens_drop : ∀ {vs : List V} {ds : List D} (n : Nat), dens K H vs ds → dens K H (vs.drop n) (ds.drop n)
  | vs, _, 0, h => h
  | vs, [], n + 1, h => by rw [dens] at h; subst h; exact dens_nil
  | vs, d :: ds, n + 1, h => by
    rw [dens] at h
    obtain ⟨v, r, e, h1, h2⟩ := h
    subst e
    exact dens_drop n h2
theorem dens_set {v : V} {d : D} (hv : den K H v d) : ∀ {vs : List V} {ds : List D} (i : Nat), dens K H vs ds → dens K H (vs.set i v) (ds.set i d)
  | vs, [], i, h => by rw [dens] at h; subst h; exact dens_nil
  | vs, d0 :: ds, 0, h => by
    rw [dens] at h
    obtain ⟨w, r, e, h1, h2⟩ := h
    subst e
    exact dens_cons hv h2
  | vs, d0 :: ds, i + 1, h => by
    rw [dens] at h
    obtain ⟨w, r, e, h1, h2⟩ := h
    subst e
    exact dens_cons h1 (dens_set hv i h2)
theorem dens_reverse : ∀ {vs : List V} {ds : List D}, dens K H vs ds → dens K H vs.reverse ds.reverse
  | vs, [], h => by rw [dens] at h; subst h; exact dens_nil
  | vs, d0 :: ds, h => by
    rw [dens] at h
    obtain ⟨w, r, e, h1, h2⟩ := h
    subst e
    rw [List.reverse_cons, List.reverse_cons]
    exact dens_append (dens_reverse h2) (dens_cons h1 dens_nil)
theorem dens_dropLast {vs : List V} {ds : List D} (h : dens K H vs ds) : dens K H vs.dropLast ds.dropLast := by
  rw [List.dropLast_eq_take, List.dropLast_eq_take, dens_length h]
  exact dens_take _ h
theorem dens_ints {ns : List Int} : dens K H (ns.map V.int) (ns.map D.int) := by
  induction ns with
  | nil => exact dens_nil
  | cons n ns ih => exact dens_cons (by rw [den]) ih
theorem dens_isNil {vs : List V} {ds : List D} (h : dens K H vs ds) : vs.isEmpty = ds.isEmpty := by
  have := dens_length h
  cases vs <;> cases ds <;> simp_all
end

/-! ### mutable objects -/
/-- an exception object of the class cls -/
def ExI (cls : Value) (a : Addr) : HO := .ext fun h => ∃ (oe : Obj) (vs : Array Value), h.get? a = some oe ∧ Zc cls none oe ∧ oe.data = .fields vs
/-- of the module's class x -/
def IsExc (K : PySem.W.Frag) (H : Hp) (a : Addr) (x : Str) : Prop := H a = some (ExO (.ref (He.ga K x)) a) ∨ H a = some (ExI (.ref (He.ga K x)) a)
/-- the table of code objects of the def d -/
def IsTab (K : PySem.W.Frag) (H : Hp) (a : Addr) (d : Str × Option Str) (q : Str) : Prop := a = (He.cT K d).2 ∧ LamX.TabS H a q
inductive MO where
  | exc (x : Str)
  | tab (d : Str × Option Str) (q : Str)
  | lst (ds : List D)
  | dct (kvs : List (D × D))
  | rol (ds : List D)
  | raw (o : HO)
abbrev DM := Addr → Option MO
def put (M : DM) (a : Addr) (o : MO) : DM := fun b => if b = a then some o else M b
theorem put_same {M : DM} {a : Addr} {o : MO} : put M a o a = some o := by unfold put; rw [if_pos rfl]
theorem put_ne {M : DM} {a b : Addr} {o : MO} (h : b ≠ a) : put M a o b = M b := by unfold put; rw [if_neg h]
theorem put_put {M : DM} {a : Addr} {o u : MO} : put (put M a o) a u = put M a u := by funext b; unfold put; split <;> rfl
def denO (K : PySem.W.Frag) (H : Hp) (a : Addr) : MO → Prop
  | .lst ds => ∃ vs, H a = some (.lst vs) ∧ dens K H vs ds
  | .dct kvs => ∃ vs, H a = some (.dK vs) ∧ denKV K H vs kvs
  | .rol ds => ∃ o vs, H a = some (.frz o (.lst vs)) ∧ dens K H vs ds
  | .raw o => H a = some o
  | .exc x => IsExc K H a x
  | .tab d q => IsTab K H a d q
def MRel (K : PySem.W.Frag) (H : Hp) (M : DM) : Prop := ∀ a o, M a = some o → denO K H a o
/-- the known part is smaller -/
def Sub (M M' : DM) : Prop := ∀ a o, M a = some o → M' a = some o
theorem Sub.refl (M : DM) : Sub M M := fun _ _ h => h
theorem Sub.trans {M M1 M2 : DM} (a : Sub M M1) (b : Sub M1 M2) : Sub M M2 := fun c o h => b c o (a c o h)
theorem Sub.new {M : DM} {p : Addr} {o : MO} (h : M p = none) : Sub M (put M p o) := fun a u e => by rw [put_ne (fun z => by rw [z, h] at e; cases e)]; exact e
theorem MRel.sub {K : PySem.W.Frag} {H : Hp} {M M' : DM} (r : MRel K H M') (s : Sub M M') : MRel K H M := fun a o e => r a o (s a o e)
theorem MRel.free {K : PySem.W.Frag} {H : Hp} {M : DM} (r : MRel K H M) {p : Addr} (h : H p = none) : M p = none := by
  cases e : M p with
  | none => rfl
  | some o =>
    have q := r p o e
    cases o with
    | lst ds => obtain ⟨vs, q, _⟩ := q; rw [h] at q; cases q
    | dct kvs => obtain ⟨vs, q, _⟩ := q; rw [h] at q; cases q
    | rol ds =>
      obtain ⟨o, vs, q, _⟩ := q
      rw [h] at q; cases q
    | raw o => have q : H p = some o := q; rw [h] at q; cases q
    | exc x =>
      have q : IsExc K H p x := q
      rcases q with q | q <;> rw [h] at q <;> cases q
    | tab d q =>
      obtain ⟨_, ps, z, _⟩ : IsTab K H p d _ := q
      rw [h] at z; cases z

abbrev DSt := List (Option D)
structure SRel (K : PySem.W.Frag) (H : Hp) (σ : L2.St) (δ : DSt) : Prop where
  len : σ.length = δ.length
  get : ∀ (i : Nat) (d : D), δ[i]? = some (some d) → ∃ v, σ[i]? = some (some v) ∧ den K H v d
theorem SRel.ext {K : PySem.W.Frag} {H H' : Hp} {σ : L2.St} {δ : DSt} (x : Ext H H') (s : SRel K H σ δ) : SRel K H' σ δ :=
  ⟨s.len, fun i d e => let ⟨v, h1, h2⟩ := s.get i d e; ⟨v, h1, den_ext x v d h2⟩⟩
theorem SRel.set {K : PySem.W.Frag} {H : Hp} {σ : L2.St} {δ : DSt} (s : SRel K H σ δ) {v : V} {d : D} (h : den K H v d) (i : Nat) : SRel K H (σ.set i (some v)) (δ.set i (some d)) := by
  refine ⟨by rw [List.length_set, List.length_set]; exact s.len, fun j e hj => ?_⟩
  by_cases hij : i = j
  · subst hij
    by_cases hl : i < δ.length
    · rw [List.getElem?_set_self hl] at hj
      cases hj
      exact ⟨v, List.getElem?_set_self (by rw [s.len]; exact hl), h⟩
    · rw [List.getElem?_eq_none (by simpa using hl)] at hj; cases hj
  · rw [List.getElem?_set_ne hij] at hj
    rw [List.getElem?_set_ne hij]
    exact s.get j e hj
theorem SRel.setN {K : PySem.W.Frag} {H : Hp} {σ : L2.St} {δ : DSt} (s : SRel K H σ δ) (i : Nat) : SRel K H (σ.set i none) (δ.set i none) := by
  refine ⟨by rw [List.length_set, List.length_set]; exact s.len, fun j e hj => ?_⟩
  by_cases hij : i = j
  · subst hij
    by_cases hl : i < δ.length
    · rw [List.getElem?_set_self hl] at hj; cases hj
    · rw [List.getElem?_eq_none (by simpa using hl)] at hj; cases hj
  · rw [List.getElem?_set_ne hij] at hj
    rw [List.getElem?_set_ne hij]
    exact s.get j e hj

/-! ### readings -/
structure DE where
  run : DSt → DM → (D → DM → Prop) → Prop
  mono : ∀ {δ : DSt} {M : DM} {Q Q' : D → DM → Prop}, run δ M Q → (∀ d M', Q d M' → Q' d M') → run δ M Q'
structure DT where
  run : DSt → DM → (Bool → DM → Prop) → Prop
  mono : ∀ {δ : DSt} {M : DM} {Q Q' : Bool → DM → Prop}, run δ M Q → (∀ d M', Q d M' → Q' d M') → run δ M Q'
structure DA where
  run : DSt → DM → (List D → DM → Prop) → Prop
  mono : ∀ {δ : DSt} {M : DM} {Q Q' : List D → DM → Prop}, run δ M Q → (∀ d M', Q d M' → Q' d M') → run δ M Q'
structure DEnds where
  nx : DSt → DM → Prop
  rt : D → DM → Prop
  bk : DSt → DM → Prop := fun _ _ => False
  ct : DSt → DM → Prop := fun _ _ => False
structure DEnds.Le (E E' : DEnds) : Prop where
  nx : ∀ δ M, E.nx δ M → E'.nx δ M
  rt : ∀ d M, E.rt d M → E'.rt d M
  bk : ∀ δ M, E.bk δ M → E'.bk δ M
  ct : ∀ δ M, E.ct δ M → E'.ct δ M
structure DS where
  run : DEnds → DSt → DM → Prop
  mono : ∀ {E E' : DEnds} {δ : DSt} {M : DM}, run E δ M → E.Le E' → run E' δ M
structure DG where
  run : D → DSt → DM → (DSt → DM → Prop) → Prop
  mono : ∀ {d : D} {δ : DSt} {M : DM} {Q Q' : DSt → DM → Prop}, run d δ M Q → (∀ δ' M', Q δ' M' → Q' δ' M') → run d δ M Q'

section
variable (K : PySem.W.Frag)
def lQ (H : Hp) (Q : VK) : D → DM → Prop := fun d M' => ∀ v H', Ext H H' → MRel K H' M' → den K H' v d → Q v H'
def lE (t : DE) : TE := fun σ H Q => ∃ δ M, SRel K H σ δ ∧ MRel K H M ∧ t.run δ M (lQ K H Q)
def lT (t : DT) : TT := fun σ H Q => ∃ δ M, SRel K H σ δ ∧ MRel K H M ∧ t.run δ M (fun b M' => ∀ H', Ext H H' → MRel K H' M' → Q b H')
def lA (t : DA) : TA := fun σ H Q => ∃ δ M, SRel K H σ δ ∧ MRel K H M ∧ t.run δ M (fun ds M' => ∀ vs H', Ext H H' → MRel K H' M' → dens K H' vs ds → Q vs H')
def lEnds (H : Hp) (E : Ends) : DEnds where
  nx := fun δ' M' => ∀ σ' H', Ext H H' → SRel K H' σ' δ' → MRel K H' M' → E.nx σ' H'
  rt := fun d M' => ∀ v H', Ext H H' → MRel K H' M' → den K H' v d → E.rt v H'
  bk := fun δ' M' => ∀ σ' H', Ext H H' → SRel K H' σ' δ' → MRel K H' M' → E.bk σ' H'
  ct := fun δ' M' => ∀ σ' H', Ext H H' → SRel K H' σ' δ' → MRel K H' M' → E.ct σ' H'
def lS (t : DS) : TS := fun E σ H => ∃ δ M, SRel K H σ δ ∧ MRel K H M ∧ t.run (lEnds K H E) δ M
def lG (t : DG) : TG := fun v σ H Q => ∃ d δ M, den K H v d ∧ SRel K H σ δ ∧ MRel K H M ∧ t.run d δ M (fun δ' M' => ∀ σ' H', Ext H H' → SRel K H' σ' δ' → MRel K H' M' → Q σ' H')
end

/-- the judgements -/
abbrev QE (X : Cx) (e : Expr) (t : DE) : Prop := PE X e (lE X.K t)
abbrev QT (X : Cx) (e : Expr) (t : DT) : Prop := PT X e (lT X.K t)
abbrev QW (X : Cx) (e : Expr) (t : DT) : Prop := PW X e (lT X.K t)
abbrev QA (X : Cx) (es : List Expr) (t : DA) : Prop := PA X es (lA X.K t)
abbrev QS (X : Cx) (s : Stmt) (t : DS) : Prop := PS X s (lS X.K t)
abbrev QSs (X : Cx) (s : List Stmt) (t : DS) : Prop := PSs X s (lS X.K t)
abbrev QG (X : Cx) (e : Expr) (t : DG) : Prop := PG X e (lG X.K t)

section
variable {X : Cx} {e : Expr}
theorem PE.imp {t t' : TE} (h : PE X e t) (w : ∀ σ H Q, t' σ H Q → t σ H Q) : PE X e t' := ⟨fun pins s σ H Q I q => h.run pins s σ H Q I (w _ _ _ q)⟩
theorem PT.imp {t t' : TT} (h : PT X e t) (w : ∀ σ H Q, t' σ H Q → t σ H Q) : PT X e t' := ⟨fun pins s σ H Q I q => h.run pins s σ H Q I (w _ _ _ q)⟩
theorem PW.imp {t t' : TT} (h : PW X e t) (w : ∀ σ H Q, t' σ H Q → t σ H Q) : PW X e t' := ⟨fun wh pins s σ H Q I q => h.run wh pins s σ H Q I (w _ _ _ q)⟩
theorem PA.imp {es : List Expr} {t t' : TA} (h : PA X es t) (w : ∀ σ H Q, t' σ H Q → t σ H Q) : PA X es t' := ⟨fun pos pins s σ H Q I q => h.run pos pins s σ H Q I (w _ _ _ q)⟩
theorem PS.imp {s : Stmt} {t t' : TS} (h : PS X s t) (w : ∀ D σ H, t' D σ H → t D σ H) : PS X s t' := ⟨fun pins s σ H Q I q => h.run pins s σ H Q I (w _ _ _ q)⟩
theorem PSs.imp {s : List Stmt} {t t' : TS} (h : PSs X s t) (w : ∀ D σ H, t' D σ H → t D σ H) : PSs X s t' := ⟨fun pins s σ H Q I q => h.run pins s σ H Q I (w _ _ _ q)⟩
theorem PG.imp {t t' : TG} (h : PG X e t) (w : ∀ v σ H Q, t' v σ H Q → t v σ H Q) : PG X e t' := ⟨fun pins s σ H v u Q I r q => h.run pins s σ H v u Q I r (w _ _ _ _ q)⟩
end

/-- going on from one lifted reading to the next -/
theorem lE_step {K : PySem.W.Frag} {t : DE} {σ : L2.St} {H : Hp} {Q : VK} {δ : DSt} {M : DM} {Qd : D → DM → Prop} (s : SRel K H σ δ) (m : MRel K H M) (h : t.run δ M Qd)
    (k : ∀ d M' v H', Ext H H' → MRel K H' M' → den K H' v d → Qd d M' → Q v H') : lE K t σ H Q :=
  ⟨δ, M, s, m, t.mono h fun d M' q v H' x mr dn => k d M' v H' x mr dn q⟩
theorem lT_step {K : PySem.W.Frag} {t : DT} {σ : L2.St} {H : Hp} {Q : Bool → Hp → Prop} {δ : DSt} {M : DM} {Qd : Bool → DM → Prop} (s : SRel K H σ δ) (m : MRel K H M) (h : t.run δ M Qd)
    (k : ∀ d M' H', Ext H H' → MRel K H' M' → Qd d M' → Q d H') : lT K t σ H Q :=
  ⟨δ, M, s, m, t.mono h fun d M' q H' x mr => k d M' H' x mr q⟩
theorem lA_step {K : PySem.W.Frag} {t : DA} {σ : L2.St} {H : Hp} {Q : List V → Hp → Prop} {δ : DSt} {M : DM} {Qd : List D → DM → Prop} (s : SRel K H σ δ) (m : MRel K H M) (h : t.run δ M Qd)
    (k : ∀ ds M' vs H', Ext H H' → MRel K H' M' → dens K H' vs ds → Qd ds M' → Q vs H') : lA K t σ H Q :=
  ⟨δ, M, s, m, t.mono h fun d M' q v H' x mr dn => k d M' v H' x mr dn q⟩
theorem lS_step {K : PySem.W.Frag} {t : DS} {E : Ends} {E' : DEnds} {σ : L2.St} {H : Hp} {δ : DSt} {M : DM} (s : SRel K H σ δ) (m : MRel K H M) (h : t.run E' δ M) (k : E'.Le (lEnds K H E)) : lS K t E σ H :=
  ⟨δ, M, s, m, t.mono h k⟩
theorem lG_step {K : PySem.W.Frag} {t : DG} {d : D} {v : V} {σ : L2.St} {H : Hp} {Q : L2.St → Hp → Prop} {δ : DSt} {M : DM} {Qd : DSt → DM → Prop} (dn : den K H v d) (s : SRel K H σ δ) (m : MRel K H M) (h : t.run d δ M Qd)
    (k : ∀ δ' M' σ' H', Ext H H' → SRel K H' σ' δ' → MRel K H' M' → Qd δ' M' → Q σ' H') : lG K t v σ H Q :=
  ⟨d, δ, M, dn, s, m, t.mono h fun δ' M' q σ' H' x sr mr => k δ' M' σ' H' x sr mr q⟩

/-! ### names and constants -/
def dVar (i : Nat) : DE where
  run δ M Q := match δ[i]? with | some (some d) => Q d M | _ => False
  mono {δ M Q Q'} h k := by
    revert h
    split <;> intro h
    · exact k _ _ h
    · exact h
def dC (d : D) : DE := ⟨fun _ M Q => Q d M, fun h k => k _ _ h⟩
section
variable {X : Cx}
theorem qe_var {e : Expr} {i : Nat} (h : PE X e (tVar i)) : QE X e (dVar i) := by
  refine PE.imp h fun σ H Q q => ?_
  obtain ⟨δ, M, s, m, q⟩ := q
  have q : match δ[i]? with | some (some d) => lQ X.K H Q d M | _ => False := q
  split at q
  · rename_i d e
    obtain ⟨v, h1, h2⟩ := s.get _ _ e
    exact ⟨v, h1, q v H (.refl H) m h2⟩
  · exact q.elim
theorem qe_c {e : Expr} {v : V} {d : D} (h : PE X e (tC v)) (hd : ∀ H, den X.K H v d) : QE X e (dC d) := by
  refine PE.imp h fun σ H Q q => ?_
  obtain ⟨δ, M, s, m, q⟩ := q
  exact q v H (.refl H) m (hd H)
theorem qe_int {i j pos} : QE X (.Constant (.int i) j pos) (dC (.int i)) := qe_c pe_int fun _ => by rw [den]
theorem qe_bl {b j pos} : QE X (.Constant (.bool b) j pos) (dC (.bl b)) := qe_c pe_bl fun _ => by rw [den]
theorem qe_non {j pos} : QE X (.Constant .none j pos) (dC .non) := qe_c pe_non fun _ => by rw [den]
theorem qe_str {x j pos} : QE X (.Constant (.str x) j pos) (dC (.str x)) := qe_c pe_str fun _ => by rw [den]
theorem qv (i : Nat) {x : Str} {pos : Pos} (hN : X.N[i]? = some x := by rfl) (hv : Vis X.env.scope x := by first | exact Or.inl rfl | exact Or.inr (Or.inl rfl) | exact Or.inr (Or.inr rfl)) (hd : (x == ("__debug__" : Str)) = false := by decide)
    (hcd : (x == ("__classdict__" : Str)) = false := by decide) : QE X (.Name x pos) (dVar i) := qe_var (pe_var hN hv hd hcd)
end

/-! ### argument lists, displays -/
def dNil : DA := ⟨fun _ M Q => Q [] M, fun h k => k _ _ h⟩
def dCons (t : DE) (r : DA) : DA where
  run δ M Q := t.run δ M fun d M1 => r.run δ M1 fun ds M2 => Q (d :: ds) M2
  mono h k := t.mono h fun d M1 q => r.mono q fun ds M2 => k (d :: ds) M2
section
variable {X : Cx} {e : Expr} {es : List Expr} {t : DE} {r : DA}
theorem qa_nil : QA X [] dNil := by
  refine PA.imp pa_nil fun σ H Q q => ?_
  obtain ⟨δ, M, s, m, q⟩ := q
  exact q [] H (.refl H) m dens_nil
theorem qa_cons (ha : QE X e t) (hr : QA X es r) (hs : starEach (e :: es) X.env = (false, eval e X.env) :: starEach es X.env := by rfl) : QA X (e :: es) (dCons t r) := by
  refine PA.imp (pa_cons ha hr hs) fun σ H Q q => ?_
  obtain ⟨δ, M, s, m, q⟩ := q
  refine lE_step s m q fun d M1 v H1 x1 m1 d1 q1 => ?_
  refine lA_step (s.ext x1) m1 q1 fun ds M2 vs H2 x2 m2 d2 q2 => ?_
  exact q2 (v :: vs) H2 (x1.trans x2) m2 (dens_cons (den_ext x2 v d d1) d2)
end
def dTup (t : DA) : DE where
  run δ M Q := t.run δ M fun ds M1 => ds.length ≤ sizeLine ∧ Q (.tup ds) M1
  mono h k := t.mono h fun ds M1 q => ⟨q.1, k _ _ q.2⟩
def dLst (t : DA) : DE where
  run δ M Q := t.run δ M fun ds M1 => ds.length ≤ sizeLine ∧ ∀ p, M1 p = none → Q (.ref p) (put M1 p (.lst ds))
  mono h k := t.mono h fun ds M1 q => ⟨q.1, fun p hp => k _ _ (q.2 p hp)⟩
theorem MRel.ext {K : PySem.W.Frag} {H H' : Hp} {M : DM} (m : MRel K H M) (x : Ext H H') (k : ∀ a o, M a = some o → H a ≠ none → H' a = H a) (kc : ∀ a φ, H a = some (.ext φ) → H' a = some (.ext φ)) : MRel K H' M := fun a o e => by
  have q := m a o e
  cases o with
  | lst ds => obtain ⟨vs, h1, h2⟩ := q; exact ⟨vs, by rw [k a _ e (by rw [h1]; simp)]; exact h1, dens_ext x _ _ h2⟩
  | dct kvs => obtain ⟨vs, h1, h2⟩ := q; exact ⟨vs, by rw [k a _ e (by rw [h1]; simp)]; exact h1, denKV_ext x _ _ h2⟩
  | rol ds => obtain ⟨o, vs, h1, h2⟩ := q; exact ⟨o, vs, x.frz _ _ _ h1, dens_ext x _ _ h2⟩
  | raw o => exact (k a _ e (by rw [show H a = some o from q]; simp)).trans q
  | exc x =>
    have q : IsExc K H a x := q
    rcases q with q | q
    · exact .inl ((k a _ e (by rw [q]; simp)).trans q)
    · exact .inr ((k a _ e (by rw [q]; simp)).trans q)
  | tab d q =>
    obtain ⟨h0, ps, h1, h2, h3⟩ : IsTab K H a d _ := q
    refine ⟨h0, ps, (k a _ e (by rw [h1]; simp)).trans h1, h2, fun pos cv hc => ?_⟩
    obtain ⟨c, e1, e2⟩ := h3 pos cv hc
    exact ⟨c, e1, kc _ _ e2⟩
/-- the heap grew at a new place that is not told -/
theorem MRel.grow {K : PySem.W.Frag} {H : Hp} {M : DM} {p : Addr} {o : HO} (m : MRel K H M) (h : H p = none) : MRel K (upd H p o) M :=
  m.ext (.new h) (fun a _ _ n => upd_ne (fun z => n (by rw [z]; exact h))) fun a φ e => by rw [upd_ne (fun z => by rw [z, h] at e; cases e)]; exact e
/-- .. and is told -/
theorem MRel.new {K : PySem.W.Frag} {H : Hp} {M : DM} {p : Addr} {o : HO} {u : MO} (m : MRel K H M) (h : H p = none) (n : denO K (upd H p o) p u) : MRel K (upd H p o) (put M p u) := fun a v e => by
  by_cases ha : a = p
  · subst ha; rw [put_same] at e; cases e; exact n
  · rw [put_ne ha] at e
    exact m.grow h a v e
/-- an object written -/
theorem MRel.put {K : PySem.W.Frag} {H : Hp} {M : DM} {p : Addr} {o q : HO} {u : MO} (m : MRel K H M) (h : H p = some q) (mu : Mut (some q)) (n : denO K (upd H p o) p u) (ne : ∀ φ, q ≠ .ext φ := by intro _ z; cases z) : MRel K (upd H p o) (put M p u) := fun a v e => by
  by_cases ha : a = p
  · subst ha; rw [put_same] at e; cases e; exact n
  · rw [put_ne ha] at e
    have x : Ext H (upd H p o) := .put h mu
    have z := m a v e
    have k : ∀ w, H a = some w → upd H p o a = some w := fun w hw => by rw [upd_ne ha]; exact hw
    cases v with
    | lst ds => obtain ⟨vs, h1, h2⟩ := z; exact ⟨vs, k _ h1, dens_ext x _ _ h2⟩
    | dct kvs => obtain ⟨vs, h1, h2⟩ := z; exact ⟨vs, k _ h1, denKV_ext x _ _ h2⟩
    | rol ds => obtain ⟨o, vs, h1, h2⟩ := z; exact ⟨o, vs, x.frz _ _ _ h1, dens_ext x _ _ h2⟩
    | raw w => exact k _ z
    | exc x =>
      have z : IsExc K H a x := z
      exact z.elim (fun z => .inl (k _ z)) fun z => .inr (k _ z)
    | tab d q =>
      obtain ⟨h0, ps, h1, h2, h3⟩ : IsTab K H a d q := z
      refine ⟨h0, ps, k _ h1, h2, fun pos cv hc => ?_⟩
      obtain ⟨c, e1, e2⟩ := h3 pos cv hc
      exact ⟨c, e1, by rw [upd_ne (fun z => by rw [z, h] at e2; exact ne _ (Option.some.inj e2))]; exact e2⟩
section
variable {X : Cx} {e : Expr} {es : List Expr} {t : DE} {r : DA} {pos : Pos}
theorem qe_tup {x1} (h : QA X es r) : QE X (.Tuple es x1 pos) (dTup r) := by
  refine PE.imp (pe_tup h) fun σ H Q q => ?_
  obtain ⟨δ, M, s, m, q⟩ := q
  refine lA_step s m q fun ds M1 vs H1 x1 m1 d1 q1 => ⟨by rw [dens_length d1]; exact q1.1, fun p hp => ?_⟩
  refine q1.2 _ _ (x1.trans (.new hp)) (m1.grow hp) ?_
  rw [den]
  exact ⟨p, vs, rfl, .of upd_same, dens_ext (.new hp) _ _ d1⟩
theorem qe_lst (h : QA X es r) : QE X (.List es pos) (dLst r) := by
  refine PE.imp (pe_lst h) fun σ H Q q => ?_
  obtain ⟨δ, M, s, m, q⟩ := q
  refine lA_step s m q fun ds M1 vs H1 x1 m1 d1 q1 => ⟨by rw [dens_length d1]; exact q1.1, fun p hp => ?_⟩
  refine q1.2 p (m1.free hp) _ _ (x1.trans (.new hp)) (m1.new hp ⟨vs, upd_same, dens_ext (.new hp) _ _ d1⟩) ?_
  rw [den]
end
end LD

/-! LD1: operators, comparisons, tests -/
namespace LD
open PySem PySem.Spec PyProof.Rows L2

/-! ### lists and sequences -/
def isL (M : DM) (d : D) (ds : List D) : Prop := match d with
  | .lst es => es = ds
  | .ref p => M p = some (.lst ds) ∨ M p = some (.rol ds)
  | _ => False
def isSeq (M : DM) (d : D) (ds : List D) : Prop := match d with
  | .tup es => es = ds
  | .lst es => es = ds
  | .ref p => M p = some (.lst ds) ∨ M p = some (.rol ds)
  | _ => False
section
variable {K : PySem.W.Frag} {H : Hp} {M : DM} {v : V} {d : D} {ds : List D}
theorem isL_rd (m : MRel K H M) (h : den K H v d) (l : isL M d ds) : ∃ a vs, v = .ref a ∧ SqL K H a vs ∧ dens K H vs ds := by
  cases d with
  | lst es =>
    have e : es = ds := l
    subst e
    rw [den] at h
    obtain ⟨a, vs, e, f, r⟩ := h
    exact ⟨a, vs, e, f.sq, r⟩
  | ref p =>
    rw [den] at h
    have l : M p = some (.lst ds) ∨ M p = some (.rol ds) := l
    rcases l with l | l
    · obtain ⟨vs, q, r⟩ := m p _ l
      exact ⟨p, vs, h, .inl (.inl q), r⟩
    · obtain ⟨o, vs, q, r⟩ := m p _ l
      exact ⟨p, vs, h, .inl (.inr ⟨o, q⟩), r⟩
  | _ => exact l.elim
theorem isSeq_sq (m : MRel K H M) (h : den K H v d) (l : isSeq M d ds) : ∃ a vs, v = .ref a ∧ (SqL K H a vs ∨ SqT K H a vs) ∧ dens K H vs ds := by
  cases d with
  | tup es =>
    have e : es = ds := l
    subst e
    rw [den] at h
    obtain ⟨a, vs, e, f, r⟩ := h
    exact ⟨a, vs, e, .inr f, r⟩
  | lst es =>
    obtain ⟨a, vs, e, f, r⟩ := isL_rd (d := .lst es) m h l
    exact ⟨a, vs, e, .inl f, r⟩
  | ref p =>
    obtain ⟨a, vs, e, f, r⟩ := isL_rd (d := .ref p) m h l
    exact ⟨a, vs, e, .inl f, r⟩
  | _ => exact l.elim
theorem isL_fun {es : List D} (a : isL M d ds) (b : isL M d es) : ds = es := by
  cases d with
  | lst xs => have a : xs = ds := a; have b : xs = es := b; rw [← a, ← b]
  | ref p =>
    have a : M p = some (.lst ds) ∨ M p = some (.rol ds) := a
    have b : M p = some (.lst es) ∨ M p = some (.rol es) := b
    rcases a with a | a <;> rcases b with b | b <;> rw [a] at b <;> cases b <;> rfl
  | _ => exact a.elim
end
/-- list + list, whatever may be read -/
theorem cat_any {prog : Program} {w : World} {A : Around} {E : Value → Shared → Prop} {s : Shared} {l b : Addr} {vs ws : List Value} {Q : Value → Shared → Prop} (hl : s.heap.IsList l vs.toArray) (hb : s.heap.IsList b ws.toArray) (hsz : vs.length + ws.length ≤ sizeLine)
    (h : Q (.ref s.heap.objs.size) { s with heap := s.heap.push { cls := .type "list", data := .seq (vs ++ ws).toArray } }) : wpAny (model prog w) A (binaryOp .Add (.ref l) (.ref b)) Q E s := by
  obtain ⟨⟨c1, d1, x1, s1⟩, h1, k1, n1, z1⟩ := id hl
  obtain ⟨⟨c2, d2, x2, s2⟩, h2, k2, n2, z2⟩ := id hb
  dsimp only at k1 z1 k2 z2
  subst k1 z1 k2 z2
  refine concat_meets ⟨_, h1, rfl⟩ ⟨_, h2, rfl⟩ noFill_list_add seq_list_add PySem.F.slot_list_add PySem.F.entry_list_add
    (PySem.F.args_list_add_2 _ _) (list_addW l b _ _ n1 n2 d1 d2 s1 s2 (by simpa using hsz)) ⟨h1, h2, ?_⟩
  rw [List.append_toArray]
  exact h

/-! ### two-place operations -/
structure DO2 where
  run : D → D → DM → (D → DM → Prop) → Prop
  mono : ∀ {x y : D} {M : DM} {Q Q' : D → DM → Prop}, run x y M Q → (∀ d M', Q d M' → Q' d M') → run x y M Q'
structure DO1 where
  run : D → DM → (D → DM → Prop) → Prop
  mono : ∀ {x : D} {M : DM} {Q Q' : D → DM → Prop}, run x M Q → (∀ d M', Q d M' → Q' d M') → run x M Q'
def l2 (K : PySem.W.Frag) (r : DO2) : R2 := fun x y H Q => ∃ dx dy M, den K H x dx ∧ den K H y dy ∧ MRel K H M ∧ r.run dx dy M (lQ K H Q)
def l1 (K : PySem.W.Frag) (r : DO1) : V → Hp → VK → Prop := fun x H Q => ∃ dx M, den K H x dx ∧ MRel K H M ∧ r.run dx M (lQ K H Q)
abbrev O2 (X : Cx) (f : Value → Value → Sem Value) (r : DO2) : Prop := OpR X f (l2 X.K r)
abbrev O1 (X : Cx) (f : Value → Sem Value) (r : DO1) : Prop := UnR X f (l1 X.K r)
def dOp (r : DO2) (a b : DE) : DE where
  run δ M Q := a.run δ M fun x M1 => b.run δ M1 fun y M2 => r.run x y M2 Q
  mono h k := a.mono h fun x M1 q => b.mono q fun y M2 q => r.mono q k
def dUn (r : DO1) (a : DE) : DE where
  run δ M Q := a.run δ M fun x M1 => r.run x M1 Q
  mono h k := a.mono h fun x M1 q => r.mono q k
theorem lQ_ext {K : PySem.W.Frag} {H H' : Hp} {Q : VK} (x : Ext H H') {d : D} {M : DM} (h : lQ K H Q d M) : lQ K H' Q d M := fun v H2 x2 m dn => h v H2 (x.trans x2) m dn
theorem lOp {K : PySem.W.Frag} {r : DO2} {ta tb : DE} {σ : L2.St} {H : Hp} {Q : VK} (q : lE K (dOp r ta tb) σ H Q) : tOp (l2 K r) (lE K ta) (lE K tb) σ H Q := by
  obtain ⟨δ, M, s, m, q⟩ := q
  refine lE_step s m q fun d M1 v H1 x1 m1 d1 q1 => ?_
  refine lE_step (s.ext x1) m1 q1 fun e M2 w H2 x2 m2 d2 q2 => ?_
  exact ⟨d, e, M2, den_ext x2 _ _ d1, d2, m2, r.mono q2 fun _ _ h => lQ_ext (x1.trans x2) h⟩
section
variable {X : Cx} {a b : Expr} {ta tb : DE} {pos : Pos}
theorem qe_op {op : Operator} {r : DO2} (ho : O2 X (binaryOp op) r) (ha : QE X a ta) (hb : QE X b tb) : QE X (.BinOp a op b pos) (dOp r ta tb) :=
  PE.imp (pe_op ho ha hb) fun _ _ _ q => lOp q
theorem qe_cmp {op : CmpOp} {r : DO2} (ho : O2 X (compareOp op) r) (ha : QE X a ta) (hb : QE X b tb) (hm : behindInMarks op b = false) : QE X (.Compare a [op] [b] pos) (dOp r ta tb) :=
  PE.imp (pe_cmpR ho ha hb hm) fun _ _ _ q => lOp q
theorem qe_un {op : UnaryOp} {r : DO1} (ho : O1 X (unaryOp op) r) (ha : QE X a ta) : QE X (.UnaryOp op a pos) (dUn r ta) := by
  refine PE.imp (pe_un ho ha) fun σ H Q q => ?_
  obtain ⟨δ, M, s, m, q⟩ := q
  refine lE_step s m q fun d M1 v H1 x1 m1 d1 q1 => ?_
  exact ⟨d, M1, d1, m1, r.mono q1 fun _ _ h => lQ_ext x1 h⟩
/-- a test whose value is a bool -/
def dTB (t : DE) : DT where
  run δ M Q := t.run δ M fun d M1 => match d with | .bl b => Q b M1 | _ => False
  mono h k := t.mono h fun d M1 q => by
    revert q; split <;> intro q
    · exact k _ _ q
    · exact q
theorem qt_cmp {op : CmpOp} {r : DO2} (ho : O2 X (compareOp op) r) (ha : QE X a ta) (hb : QE X b tb) (hm : behindInMarks op b = false) : QT X (.Compare a [op] [b] pos) (dTB (dOp r ta tb)) := by
  refine PT.imp (pt_cmpR ho ha hb hm) fun σ H Q q => ?_
  obtain ⟨δ, M, s, m, q⟩ := q
  refine lOp (Q := fun x H' => ∃ k, x = .bl k ∧ Q k H') ⟨δ, M, s, m, (dOp r ta tb).mono q fun d M1 q v H1 x1 m1 d1 => ?_⟩
  revert q; split <;> intro q
  · rw [den] at d1
    exact ⟨_, d1, q H1 x1 m1⟩
  · exact q.elim
end

/-! ### arithmetic -/
def oAdd : DO2 where
  run x y M Q := match x, y with
    | .int i, .int j => Q (.int (i + j)) M
    | .bl i, .bl j => Q (.int (b2i i + b2i j)) M
    | .int i, .bl j => Q (.int (i + b2i j)) M
    | .bl i, .int j => Q (.int (b2i i + j)) M
    | .str i, .str j => i.length + j.length ≤ sizeLine ∧ Q (.str (i ++ j)) M
    | .tup i, .tup j => i.length + j.length ≤ sizeLine ∧ Q (.tup (i ++ j)) M
    | x, y => ∃ a b, isL M x a ∧ isL M y b ∧ a.length + b.length ≤ sizeLine ∧ ∀ p, M p = none → Q (.ref p) (put M p (.lst (a ++ b)))
  mono {x y M Q Q'} h k := by
    revert h
    split <;> intro h
    · exact k _ _ h
    · exact k _ _ h
    · exact k _ _ h
    · exact k _ _ h
    · exact ⟨h.1, k _ _ h.2⟩
    · exact ⟨h.1, k _ _ h.2⟩
    · obtain ⟨a, b, h1, h2, h3, h4⟩ := h
      exact ⟨a, b, h1, h2, h3, fun p hp => k _ _ (h4 p hp)⟩
def oSub : DO2 where
  run x y M Q := match x, y with
    | .int i, .int j => Q (.int (i - j)) M
    | .bl i, .bl j => Q (.int (b2i i - b2i j)) M
    | _, _ => False
  mono {x y M Q Q'} h k := by
    revert h
    split <;> intro h <;> first | exact k _ _ h | exact h
/-- the size of a product -/
def MulOk (i j : Int) : Prop := CMul i j ∨ CMulW i j
def oMul : DO2 where
  run x y M Q := match x, y with
    | .int i, .int j => MulOk i j ∧ Q (.int (i * j)) M
    | .str z, .int k => PySem.MulOk z k ∧ Q (.str (Txt.mul z k)) M
    | _, _ => False
  mono {x y M Q Q'} h k := by
    revert h
    split <;> intro h <;> first | exact ⟨h.1, k _ _ h.2⟩ | exact h
def oFdiv : DO2 where
  run x y M Q := match x, y with
    | .int i, .int j => CDivW i j ∧ Q (.int (i / j)) M
    | _, _ => False
  mono {x y M Q Q'} h k := by
    revert h
    split <;> intro h <;> first | exact ⟨h.1, k _ _ h.2⟩ | exact h
def oMod : DO2 where
  run x y M Q := match x, y with
    | .int i, .int j => 0 < j ∧ Q (.int (i % j)) M
    | _, _ => False
  mono {x y M Q Q'} h k := by
    revert h
    split <;> intro h <;> first | exact ⟨h.1, k _ _ h.2⟩ | exact h
def oPow : DO2 where
  run x y M Q := match x, y with
    | .int i, .int j => CPow i j ∧ Q (.int (i ^ j.toNat)) M
    | _, _ => False
  mono {x y M Q Q'} h k := by
    revert h
    split <;> intro h <;> first | exact ⟨h.1, k _ _ h.2⟩ | exact h
def oNeg : DO1 where
  run x M Q := match x with
    | .int i => Q (.int (-i)) M
    | _ => False
  mono {x M Q Q'} h k := by
    revert h
    split <;> intro h <;> first | exact k _ _ h | exact h

theorem lint {K : PySem.W.Frag} {H : Hp} {v : V} {i : Int} (h : den K H v (.int i)) : v = .int i := by rw [den] at h; exact h
theorem lbl {K : PySem.W.Frag} {H : Hp} {v : V} {i : Bool} (h : den K H v (.bl i)) : v = .bl i := by rw [den] at h; exact h
theorem lstr {K : PySem.W.Frag} {H : Hp} {v : V} {i : Str} (h : den K H v (.str i)) : v = .str i := by rw [den] at h; exact h
theorem dint {K : PySem.W.Frag} {H : Hp} {i : Int} : den K H (.int i) (.int i) := by rw [den]
theorem dbl {K : PySem.W.Frag} {H : Hp} {i : Bool} : den K H (.bl i) (.bl i) := by rw [den]
theorem dstr {K : PySem.W.Frag} {H : Hp} {i : Str} : den K H (.str i) (.str i) := by rw [den]
theorem dref {K : PySem.W.Frag} {H : Hp} {a : Addr} : den K H (.ref a) (.ref a) := by rw [den]
theorem dnon {K : PySem.W.Frag} {H : Hp} : den K H .non .non := by rw [den]

section
variable {X : Cx}
/-- two ints of values -/
theorem vint2 {x y : V} {v u : Value} {i j : Int} {K : PySem.W.Frag} {H : Hp} (rx : RelV x v) (ry : RelV y u) (hx : den K H x (.int i)) (hy : den K H y (.int j)) : ∃ t t', v = .int i t ∧ u = .int j t' := by
  have e1 := lint hx
  have e2 := lint hy
  subst e1 e2
  obtain ⟨t, h1⟩ := rx
  obtain ⟨t', h2⟩ := ry
  exact ⟨t, t', h1, h2⟩
theorem fin_int {pins : List (Addr × Obj)} {σ : L2.St} {H : Hp} {s : Shared} {M : DM} {Q : VK} {i : Int} {t : Tok} {n : Nat} (I : Inv X pins σ H s) (m : MRel X.K H M) (q : lQ X.K H Q (.int i) M) : EP X pins σ Q (.int i t) { s with toks := n } :=
  ⟨.int i, H, I.tok n, ⟨_, rfl⟩, q _ _ (.refl H) m dint⟩
theorem fin_bool {pins : List (Addr × Obj)} {σ : L2.St} {H : Hp} {s : Shared} {M : DM} {Q : VK} {b : Bool} (I : Inv X pins σ H s) (m : MRel X.K H M) (q : lQ X.K H Q (.bl b) M) : EP X pins σ Q (.bool b) s :=
  ⟨.bl b, H, I, rfl, q _ _ (.refl H) m dbl⟩
theorem b2i_if (b : Bool) : (if b = true then (1 : Int) else 0) = b2i b := by cases b <;> rfl
theorem o_add : O2 X (binaryOp .Add) oAdd := by
  intro pins s σ H x y v u Q I rx ry h
  obtain ⟨dx, dy, M, hx, hy, m, q⟩ := h
  have q0 := q
  dsimp only [oAdd] at q
  split at q
  · obtain ⟨t, t', rfl, rfl⟩ := vint2 rx ry hx hy
    exact add_int (fin_int I m q)
  · cases lbl hx; cases lbl hy; cases rx; cases ry
    exact add_bool (fin_int I m q)
  · cases lint hx; cases lbl hy; obtain ⟨t, rfl⟩ := rx; cases ry
    exact PySem.add_int_bool (by rw [b2i_if]; exact fin_int I m q)
  · cases lbl hx; cases lint hy; obtain ⟨t, rfl⟩ := ry; cases rx
    exact PySem.IntBool.add_bool_int (by rw [b2i_if]; exact fin_int I m q)
  · cases lstr hx; cases lstr hy; obtain ⟨t, rfl⟩ := rx; obtain ⟨t', rfl⟩ := ry
    exact add_str (fun t' tk => ⟨.str _, H, I.tok _, ⟨_, rfl⟩, q.2 _ _ (.refl H) m dstr⟩) q.1
  · rename_i i j
    rw [den] at hx hy
    obtain ⟨a, vs, rfl, sa, da⟩ := hx
    obtain ⟨b, ws, rfl, sb, db⟩ := hy
    have la := dens_length da
    have lb := dens_length db
    refine op_catA pins s σ H _ _ v u Q I rx ry ⟨a, b, vs, ws, rfl, rfl, sa, sb, by omega, fun e => ?_, fun e e2 => ?_, fun e e2 p hp => ?_⟩
    · refine q.2 _ _ (.refl H) m ?_
      rw [den]
      subst e
      have : i = [] := by cases i with | nil => rfl | cons => simp at la
      subst this
      exact ⟨b, ws, rfl, sb, db⟩
    · refine q.2 _ _ (.refl H) m ?_
      rw [den]
      subst e2
      have : j = [] := by cases j with | nil => rfl | cons => simp at lb
      subst this
      rw [List.append_nil]
      exact ⟨a, vs, rfl, sa, da⟩
    · refine q.2 _ _ (.new hp) (m.grow hp) ?_
      rw [den]
      exact ⟨p, _, rfl, .of upd_same, dens_append (dens_ext (.new hp) _ _ da) (dens_ext (.new hp) _ _ db)⟩
  · obtain ⟨ds, es, h1, h2, hz, q⟩ := q
    obtain ⟨a, vs, rfl, sa, da⟩ := isL_rd m hx h1
    obtain ⟨b, ws, rfl, sb, db⟩ := isL_rd m hy h2
    cases rx
    cases ry
    obtain ⟨its, r, pl, z⟩ := I.list sa
    obtain ⟨its2, r2, pl2, z2⟩ := I.list sb
    have la := dens_length da
    have lb := dens_length db
    have ka := r.length
    have kb := r2.length
    have hp : H s.heap.objs.size = none := I.fresh
    refine cat_any pl.isList pl2.isList (by omega) ?_
    exact ⟨.ref _, _, I.lnew (t' := s.toks) (r.append r2) (by rw [List.length_append]; omega), rfl, q _ (m.free hp) _ _ (.new hp) (m.new hp ⟨_, upd_same, dens_append (dens_ext (.new hp) _ _ da) (dens_ext (.new hp) _ _ db)⟩) dref⟩
theorem o_sub : O2 X (binaryOp .Sub) oSub := by
  intro pins s σ H x y v u Q I rx ry h
  obtain ⟨dx, dy, M, hx, hy, m, q⟩ := h
  dsimp only [oSub] at q
  split at q
  · obtain ⟨t, t', rfl, rfl⟩ := vint2 rx ry hx hy
    exact sub_int (fin_int I m q)
  · cases lbl hx; cases lbl hy; cases rx; cases ry
    exact sub_bool (fin_int I m q)
  · exact q.elim
theorem o_mul : O2 X (binaryOp .Mult) oMul := by
  intro pins s σ H x y v u Q I rx ry h
  obtain ⟨dx, dy, M, hx, hy, m, q⟩ := h
  dsimp only [oMul] at q
  split at q
  · obtain ⟨t, t', rfl, rfl⟩ := vint2 rx ry hx hy
    exact PyProof.Rows.mul_int (fin_int I m q.2) (q.1.elim CMul.ok CMulW.ok)
  · cases lstr hx; cases lint hy
    obtain ⟨t, rfl⟩ := rx
    obtain ⟨t', rfl⟩ := ry
    exact SB.mul q.1 fun t' k => ⟨.str _, H, I.tok _, ⟨_, rfl⟩, q.2 _ _ (.refl H) m dstr⟩
  · exact q.elim
theorem o_fdiv : O2 X (binaryOp .FloorDiv) oFdiv := by
  intro pins s σ H x y v u Q I rx ry h
  obtain ⟨dx, dy, M, hx, hy, m, q⟩ := h
  dsimp only [oFdiv] at q
  split at q
  · rename_i i j
    cases lint hx; cases lint hy
    exact op_fdivW pins s σ H _ _ v u Q I rx ry ⟨i, j, rfl, rfl, q.1, q.2 _ _ (.refl H) m dint⟩
  · exact q.elim
theorem o_mod : O2 X (binaryOp .Mod) oMod := by
  intro pins s σ H x y v u Q I rx ry h
  obtain ⟨dx, dy, M, hx, hy, m, q⟩ := h
  dsimp only [oMod] at q
  split at q
  · rename_i i j
    cases lint hx; cases lint hy
    exact op_mod pins s σ H _ _ v u Q I rx ry ⟨i, j, rfl, rfl, q.1, q.2 _ _ (.refl H) m dint⟩
  · exact q.elim
theorem o_pow : O2 X (binaryOp .Pow) oPow := by
  intro pins s σ H x y v u Q I rx ry h
  obtain ⟨dx, dy, M, hx, hy, m, q⟩ := h
  dsimp only [oPow] at q
  split at q
  · rename_i i j
    cases lint hx; cases lint hy
    exact op_pow pins s σ H _ _ v u Q I rx ry ⟨i, j, rfl, rfl, q.1, q.2 _ _ (.refl H) m dint⟩
  · exact q.elim
theorem o_neg : O1 X (unaryOp .USub) oNeg := by
  intro pins s σ H x v Q I rx h
  obtain ⟨dx, M, hx, m, q⟩ := h
  dsimp only [oNeg] at q
  split at q
  · rename_i i
    cases lint hx
    exact un_neg pins s σ H _ v Q I rx ⟨i, rfl, q _ _ (.refl H) m dint⟩
  · exact q.elim
end

/-! ### data -/
mutual
def dat (M : DM) : PyData → D → Prop
  | .none, d => d = .non
  | .bool b, d => d = .bl b
  | .int i, d => d = .int i
  | .str x, d => d = .str x
  | .list ts, d => ∃ ds, isL M d ds ∧ dats M ts ds
  | .tuple ts, d => ∃ ds, d = .tup ds ∧ dats M ts ds
  | .dict _, _ => False
def dats (M : DM) : List PyData → List D → Prop
  | [], ds => ds = []
  | t :: ts, ds => ∃ d r, ds = d :: r ∧ dat M t d ∧ dats M ts r
end
mutual
theorem dat_dp {K : PySem.W.Frag} {H : Hp} {M : DM} (m : MRel K H M) : ∀ (t : PyData) (d : D) (v : V), dat M t d → den K H v d → Dp K H v t
  | .none, d, v, h, hd => by rw [dat] at h; subst h; rw [den] at hd; subst hd; exact .non
  | .bool b, d, v, h, hd => by rw [dat] at h; subst h; rw [den] at hd; subst hd; exact .bl b
  | .int b, d, v, h, hd => by rw [dat] at h; subst h; rw [den] at hd; subst hd; exact .int b
  | .str b, d, v, h, hd => by rw [dat] at h; subst h; rw [den] at hd; subst hd; exact .str b
  | .list ts, d, v, h, hd => by
    rw [dat] at h
    obtain ⟨ds, h1, h2⟩ := h
    obtain ⟨a, vs, e, s, r⟩ := isL_rd m hd h1
    subst e
    exact .lst s (dats_dp m ts ds vs h2 r)
  | .tuple ts, d, v, h, hd => by
    rw [dat] at h
    obtain ⟨ds, h1, h2⟩ := h
    subst h1
    rw [den] at hd
    obtain ⟨a, vs, e, s, r⟩ := hd
    subst e
    exact .tup s (dats_dp m ts ds vs h2 r)
  | .dict _, d, v, h, hd => by rw [dat] at h; exact h.elim
theorem dats_dp {K : PySem.W.Frag} {H : Hp} {M : DM} (m : MRel K H M) : ∀ (ts : List PyData) (ds : List D) (vs : List V), dats M ts ds → dens K H vs ds → DpAll K H vs ts
  | [], ds, vs, h, hd => by rw [dats] at h; subst h; rw [dens] at hd; subst hd; exact .nil
  | t :: ts, ds, vs, h, hd => by
    rw [dats] at h
    obtain ⟨d, r, e, h1, h2⟩ := h
    subst e
    rw [dens] at hd
    obtain ⟨v, w, e, h3, h4⟩ := hd
    subst e
    exact .cons (dat_dp m t d v h1 h3) (dats_dp m ts r w h2 h4)
end
/-! data without references -/
mutual
def toP : D → PyData
  | .non => .none
  | .bl b => .bool b
  | .int i => .int i
  | .str x => .str x
  | .tup ds => .tuple (toPs ds)
  | .lst ds => .list (toPs ds)
  | .dct _ => .none
  | .ref _ => .none
  | .ty _ => .none
def toPs : List D → List PyData
  | [] => []
  | d :: ds => toP d :: toPs ds
end
mutual
def pureD : D → Bool
  | .tup ds => pureDs ds
  | .lst ds => pureDs ds
  | .dct _ => false
  | .ref _ => false
  | .ty _ => false
  | _ => true
def pureDs : List D → Bool
  | [] => true
  | d :: ds => pureD d && pureDs ds
end
mutual
theorem dat_toP {M : DM} : ∀ d : D, pureD d = true → dat M (toP d) d
  | .non, _ => by rw [toP, dat]
  | .bl _, _ => by rw [toP, dat]
  | .int _, _ => by rw [toP, dat]
  | .str _, _ => by rw [toP, dat]
  | .tup ds, h => by rw [toP, dat]; exact ⟨ds, rfl, dats_toP ds (by rw [pureD] at h; exact h)⟩
  | .lst ds, h => by rw [toP, dat]; exact ⟨ds, rfl, dats_toP ds (by rw [pureD] at h; exact h)⟩
  | .dct _, h => by rw [pureD] at h; cases h
  | .ref _, h => by rw [pureD] at h; cases h
  | .ty _, h => by rw [pureD] at h; cases h
theorem dats_toP {M : DM} : ∀ ds : List D, pureDs ds = true → dats M (toPs ds) ds
  | [], _ => by rw [toPs, dats]
  | d :: ds, h => by
    rw [pureDs, Bool.and_eq_true] at h
    rw [toPs, dats]
    exact ⟨d, ds, rfl, dat_toP d h.1, dats_toP ds h.2⟩
end

def oEqN (neg : Bool) : DO2 where
  run x y M Q := match x, y with
    | .int i, .int j => Q (.bl (decide (i = j) ^^ neg)) M
    | .str i, .str j => Q (.bl (decide (i = j) ^^ neg)) M
    | x, y => ∃ t u, dat M t x ∧ dat M u y ∧ SeqAt.shaped t = true ∧ SeqAt.shaped u = true ∧ Q (.bl (PyData.eqv t u ^^ neg)) M
  mono {x y M Q Q'} h k := by
    revert h
    split <;> intro h
    · exact k _ _ h
    · exact k _ _ h
    · obtain ⟨t, u, h1, h2, h3, h4, h5⟩ := h
      exact ⟨t, u, h1, h2, h3, h4, k _ _ h5⟩
abbrev oEq : DO2 := oEqN false
abbrev oNe : DO2 := oEqN true
section
variable {X : Cx}
theorem o_eq (hu : X.A.units + 64 < cLine) : O2 X (compareOp .Eq) oEq := by
  intro pins s σ H x y v u Q I rx ry h
  obtain ⟨dx, dy, M, hx, hy, m, q⟩ := h
  dsimp only [oEq, oEqN] at q
  split at q
  · rename_i i j
    cases lint hx; cases lint hy
    refine op_eq pins s σ H _ _ v u Q I rx ry ⟨rfl, ?_⟩
    have q2 := q _ _ (.refl H) m dbl
    rw [Bool.xor_false] at q2
    have e : decide (V.int i = V.int j) = decide (i = j) := by rw [dec_int, Bool.beq_eq_decide_eq]
    rw [e]; exact q2
  · rename_i i j
    cases lstr hx; cases lstr hy
    refine op_eq pins s σ H _ _ v u Q I rx ry ⟨rfl, ?_⟩
    have q2 := q _ _ (.refl H) m dbl
    rw [Bool.xor_false] at q2
    have e : decide (V.str i = V.str j) = decide (i = j) := by rw [dec_str, Bool.beq_eq_decide_eq]
    rw [e]; exact q2
  · obtain ⟨t, w, h1, h2, h3, h4, q⟩ := q
    have q2 := q _ _ (.refl H) m dbl
    rw [Bool.xor_false] at q2
    exact op_eqD hu pins s σ H x y v u Q I rx ry ⟨t, w, dat_dp m t _ _ h1 hx, dat_dp m w _ _ h2 hy, h3, h4, q2⟩
theorem o_ne (hu : X.A.units + 64 < cLine) : O2 X (compareOp .NotEq) oNe := by
  intro pins s σ H x y v u Q I rx ry h
  obtain ⟨dx, dy, M, hx, hy, m, q⟩ := h
  dsimp only [oNe, oEqN] at q
  split at q
  · rename_i i j
    cases lint hx; cases lint hy
    refine op_ne pins s σ H _ _ v u Q I rx ry ⟨rfl, ?_⟩
    have q2 := q _ _ (.refl H) m dbl
    rw [Bool.xor_true] at q2
    have e : decide (V.int i = V.int j) = decide (i = j) := by rw [dec_int, Bool.beq_eq_decide_eq]
    rw [e]; exact q2
  · rename_i i j
    cases lstr hx; cases lstr hy
    refine op_ne pins s σ H _ _ v u Q I rx ry ⟨rfl, ?_⟩
    have q2 := q _ _ (.refl H) m dbl
    rw [Bool.xor_true] at q2
    have e : decide (V.str i = V.str j) = decide (i = j) := by rw [dec_str, Bool.beq_eq_decide_eq]
    rw [e]; exact q2
  · obtain ⟨t, w, h1, h2, h3, h4, q⟩ := q
    have q2 := q _ _ (.refl H) m dbl
    rw [Bool.xor_true] at q2
    exact op_neD hu pins s σ H x y v u Q I rx ry ⟨t, w, dat_dp m t _ _ h1 hx, dat_dp m w _ _ h2 hy, h3, h4, q2⟩
end
/-- order of ints -/
def oOrd (p : Int → Int → Bool) : DO2 where
  run x y M Q := match x, y with
    | .int i, .int j => Q (.bl (p i j)) M
    | _, _ => False
  mono {x y M Q Q'} h k := by
    revert h
    split <;> intro h <;> first | exact k _ _ h | exact h
abbrev oLt : DO2 := oOrd fun i j => decide (i < j)
abbrev oLe : DO2 := oOrd fun i j => decide (i ≤ j)
abbrev oGt : DO2 := oOrd fun i j => decide (j < i)
abbrev oGe : DO2 := oOrd fun i j => decide (j ≤ i)
section
variable {X : Cx}
theorem o_ord {op : CmpOp} {p : Int → Int → Bool} (h0 : OpR X (compareOp op) (rI0 fun i j => .bl (p i j))) : O2 X (compareOp op) (oOrd p) := by
  intro pins s σ H x y v u Q I rx ry h
  obtain ⟨dx, dy, M, hx, hy, m, q⟩ := h
  dsimp only [oOrd] at q
  split at q
  · rename_i i j
    cases lint hx; cases lint hy
    exact h0 pins s σ H _ _ v u Q I rx ry ⟨i, j, rfl, rfl, q _ _ (.refl H) m dbl⟩
  · exact q.elim
theorem o_lt : O2 X (compareOp .Lt) oLt := o_ord op_lt
theorem o_le : O2 X (compareOp .LtE) oLe := o_ord op_le
theorem o_gt : O2 X (compareOp .Gt) oGt := o_ord op_gt
theorem o_ge : O2 X (compareOp .GtE) oGe := o_ord op_ge
end
/-- x is None -/
def isNon : D → Bool
  | .non => true
  | _ => false
def oIsN (neg : Bool) : DO2 where
  run x y M Q := match y with
    | .non => Q (.bl (isNon x ^^ neg)) M
    | _ => False
  mono {x y M Q Q'} h k := by
    revert h
    split <;> intro h <;> first | exact k _ _ h | exact h
theorem isNon_eq {K : PySem.W.Frag} {H : Hp} {v : V} {d : D} (h : den K H v d) : decide (v = .non) = isNon d := by
  cases d with
  | non => rw [den] at h; subst h; rfl
  | bl b => rw [den] at h; subst h; rfl
  | int i => rw [den] at h; subst h; rfl
  | str i => rw [den] at h; subst h; rfl
  | ref i => rw [den] at h; subst h; rfl
  | ty i => rw [den] at h; subst h; rfl
  | tup ds => rw [den] at h; obtain ⟨a, vs, e, _⟩ := h; subst e; rfl
  | lst ds => rw [den] at h; obtain ⟨a, vs, e, _⟩ := h; subst e; rfl
  | dct ds => rw [den] at h; obtain ⟨a, o, vs, e, _⟩ := h; subst e; rfl
section
variable {X : Cx}
theorem o_is : O2 X (compareOp .Is) (oIsN false) := by
  intro pins s σ H x y v u Q I rx ry h
  obtain ⟨dx, dy, M, hx, hy, m, q⟩ := h
  dsimp only [oIsN] at q
  split at q
  · rw [den] at hy; subst hy
    have q2 := q _ _ (.refl H) m dbl
    rw [Bool.xor_false, ← isNon_eq hx] at q2
    exact op_isN pins s σ H x _ v u Q I rx ry ⟨rfl, q2⟩
  · exact q.elim
theorem o_isn : O2 X (compareOp .IsNot) (oIsN true) := by
  intro pins s σ H x y v u Q I rx ry h
  obtain ⟨dx, dy, M, hx, hy, m, q⟩ := h
  dsimp only [oIsN] at q
  split at q
  · rw [den] at hy; subst hy
    have q2 := q _ _ (.refl H) m dbl
    rw [Bool.xor_true, ← isNon_eq hx] at q2
    exact op_notN pins s σ H x _ v u Q I rx ry ⟨rfl, q2⟩
  · exact q.elim
end
end LD

/-! LD2: tests, subscripts, built-in calls -/
namespace LD
open PySem PySem.Spec PyProof.Rows L2

/-- by the answer -/
def bcase (c : Bool) (A B : Prop) : Prop := match c with | true => A | false => B
theorem bcase_mono {c : Bool} {A B A' B' : Prop} (h : bcase c A B) (ha : A → A') (hb : B → B') : bcase c A' B' := by
  cases c
  · exact hb h
  · exact ha h
theorem bcase_of {c : Bool} {A B : Prop} (ha : c = true → A) (hb : c = false → B) : bcase c A B := by
  cases c
  · exact hb rfl
  · exact ha rfl
theorem bcase_t {c : Bool} {A B : Prop} (h : c = true) (a : A) : bcase c A B := by subst h; exact a
theorem bcase_f {c : Bool} {A B : Prop} (h : c = false) (a : B) : bcase c A B := by subst h; exact a
theorem bcase_dec {p : Prop} [Decidable p] {A B : Prop} (ha : p → A) (hb : ¬ p → B) : bcase (decide p) A B := bcase_of (fun e => ha (of_decide_eq_true e)) fun e => hb (of_decide_eq_false e)
theorem bcase_if {c : Bool} {A B : Prop} (h : bcase c A B) : if c = true then A else B := by
  cases c
  · rw [if_neg Bool.false_ne_true]; exact h
  · rw [if_pos rfl]; exact h

/-! ### and, or, not -/
def dAndT (a b : DT) : DT where
  run δ M Q := a.run δ M fun c M1 => bcase c (b.run δ M1 Q) (Q false M1)
  mono h k := a.mono h fun c M1 q => bcase_mono q (fun q => b.mono q k) (k _ _)
def dOrT (a b : DT) : DT where
  run δ M Q := a.run δ M fun c M1 => bcase c (Q true M1) (b.run δ M1 Q)
  mono h k := a.mono h fun c M1 q => bcase_mono q (k _ _) (fun q => b.mono q k)
def dNotT (a : DT) : DT where
  run δ M Q := a.run δ M fun c M1 => Q (!c) M1
  mono h k := a.mono h fun c M1 q => k _ _ q
def dAndV (a b : DE) : DE where
  run δ M Q := a.run δ M fun d M1 => match d with | .bl c => bcase c (b.run δ M1 Q) (Q (.bl false) M1) | _ => False
  mono h k := a.mono h fun d M1 q => by
    revert q; split <;> intro q
    · exact bcase_mono q (fun q => b.mono q k) (k _ _)
    · exact q
def dOrV (a b : DE) : DE where
  run δ M Q := a.run δ M fun d M1 => match d with | .bl c => bcase c (Q (.bl true) M1) (b.run δ M1 Q) | _ => False
  mono h k := a.mono h fun d M1 q => by
    revert q; split <;> intro q
    · exact bcase_mono q (k _ _) (fun q => b.mono q k)
    · exact q
def dNotV (a : DE) : DE where
  run δ M Q := a.run δ M fun d M1 => match d with | .bl c => Q (.bl (!c)) M1 | _ => False
  mono h k := a.mono h fun d M1 q => by
    revert q; split <;> intro q
    · exact k _ _ q
    · exact q
def dIf (c : DT) (a b : DE) : DE where
  run δ M Q := c.run δ M fun k M1 => bcase k (a.run δ M1 Q) (b.run δ M1 Q)
  mono h k := c.mono h fun c M1 q => bcase_mono q (fun q => a.mono q k) (fun q => b.mono q k)
def dChain (r r' : DO2) (a b c : DE) : DE where
  run δ M Q := a.run δ M fun x M1 => b.run δ M1 fun y M2 => r.run x y M2 fun z M3 => match z with
    | .bl k => bcase k (c.run δ M3 fun w M4 => r'.run y w M4 Q) (Q (.bl false) M3)
    | _ => False
  mono h k := a.mono h fun x M1 q => b.mono q fun y M2 q => r.mono q fun z M3 q => by
    revert q; split <;> intro q
    · exact bcase_mono q (fun q => c.mono q fun w M4 q => r'.mono q k) (k _ _)
    · exact q
section
variable {X : Cx} {a b c : Expr} {ta tb : DT} {va vb vc : DE} {pos : Pos} {rest : List Expr}
theorem lT_ext {K : PySem.W.Frag} {H H' : Hp} {Q : Bool → Hp → Prop} (x : Ext H H') {b : Bool} {M : DM} (h : ∀ H2, Ext H H2 → MRel K H2 M → Q b H2) : ∀ H2, Ext H' H2 → MRel K H2 M → Q b H2 := fun H2 x2 m => h H2 (x.trans x2) m
theorem qw_and1 (ha : QT X a ta) : QW X (.BoolOp .And [a] pos) ta := pw_and1 ha
theorem qw_or1 (ha : QT X a ta) : QW X (.BoolOp .Or [a] pos) ta := pw_or1 ha
theorem qw_and (ha : QT X a ta) (hb : QW X (.BoolOp .And (b :: rest) pos) tb) : QW X (.BoolOp .And (a :: b :: rest) pos) (dAndT ta tb) := by
  refine PW.imp (pw_and ha hb) fun σ H Q q => ?_
  obtain ⟨δ, M, s, m, q⟩ := q
  refine lT_step s m q fun c M1 H1 x1 m1 q1 => bcase_if ?_
  exact bcase_mono q1 (fun q => ⟨δ, M1, s.ext x1, m1, tb.mono q fun _ _ h => lT_ext x1 h⟩) fun q => q H1 x1 m1
theorem qw_or (ha : QT X a ta) (hb : QW X (.BoolOp .Or (b :: rest) pos) tb) : QW X (.BoolOp .Or (a :: b :: rest) pos) (dOrT ta tb) := by
  refine PW.imp (pw_or ha hb) fun σ H Q q => ?_
  obtain ⟨δ, M, s, m, q⟩ := q
  refine lT_step s m q fun c M1 H1 x1 m1 q1 => bcase_if ?_
  exact bcase_mono q1 (fun q => q H1 x1 m1) fun q => ⟨δ, M1, s.ext x1, m1, tb.mono q fun _ _ h => lT_ext x1 h⟩
theorem qt_not (ha : QT X a ta) : QT X (.UnaryOp .Not a pos) (dNotT ta) := by
  refine PT.imp (pt_not ha) fun σ H Q q => ?_
  obtain ⟨δ, M, s, m, q⟩ := q
  exact lT_step s m q fun c M1 H1 x1 m1 q1 => q1 H1 x1 m1
/-- a test whose value is a bool, any expression but comparisons, and, or, not -/
theorem qt_val (h : QE X a va) (he : ∀ whole, isTrue a X.env whole = (do let v ← whole; standAt a.pos; holding [v] (truthy v)) := by intro _; rfl) : QT X a (dTB va) := by
  refine PT.imp (pt_val h he) fun σ H Q q => ?_
  obtain ⟨δ, M, s, m, q⟩ := q
  refine lE_step s m q fun d M1 v H1 x1 m1 d1 q1 => ?_
  revert q1; split <;> intro q1
  · exact ⟨_, lbl d1, q1 H1 x1 m1⟩
  · exact q1.elim
theorem qe_one {op} (h : QE X a va) : QE X (.BoolOp op [a] pos) va := pe_one h
theorem qe_and (ha : QE X a va) (hb : QE X (.BoolOp .And (b :: rest) pos) vb) : QE X (.BoolOp .And (a :: b :: rest) pos) (dAndV va vb) := by
  refine PE.imp (pe_and ha hb) fun σ H Q q => ?_
  obtain ⟨δ, M, s, m, q⟩ := q
  refine lE_step s m q fun d M1 v H1 x1 m1 d1 q1 => ?_
  revert q1; split <;> intro q1
  · exact ⟨_, lbl d1, bcase_if (bcase_mono q1 (fun q => ⟨δ, M1, s.ext x1, m1, vb.mono q fun _ _ h => lQ_ext x1 h⟩) fun q => q _ _ x1 m1 dbl)⟩
  · exact q1.elim
theorem qe_or (ha : QE X a va) (hb : QE X (.BoolOp .Or (b :: rest) pos) vb) : QE X (.BoolOp .Or (a :: b :: rest) pos) (dOrV va vb) := by
  refine PE.imp (pe_or ha hb) fun σ H Q q => ?_
  obtain ⟨δ, M, s, m, q⟩ := q
  refine lE_step s m q fun d M1 v H1 x1 m1 d1 q1 => ?_
  revert q1; split <;> intro q1
  · exact ⟨_, lbl d1, bcase_if (bcase_mono q1 (fun q => q _ _ x1 m1 dbl) fun q => ⟨δ, M1, s.ext x1, m1, vb.mono q fun _ _ h => lQ_ext x1 h⟩)⟩
  · exact q1.elim
theorem qe_not (ha : QE X a va) : QE X (.UnaryOp .Not a pos) (dNotV va) := by
  refine PE.imp (pe_not ha) fun σ H Q q => ?_
  obtain ⟨δ, M, s, m, q⟩ := q
  refine lE_step s m q fun d M1 v H1 x1 m1 d1 q1 => ?_
  revert q1; split <;> intro q1
  · exact ⟨_, lbl d1, q1 _ _ x1 m1 dbl⟩
  · exact q1.elim
theorem qe_if (hc : QT X c ta) (ha : QE X a va) (hb : QE X b vb) : QE X (.IfExp c a b pos) (dIf ta va vb) := by
  refine PE.imp (pe_ifExp hc ha hb) fun σ H Q q => ?_
  obtain ⟨δ, M, s, m, q⟩ := q
  refine lT_step s m q fun c M1 H1 x1 m1 q1 => bcase_if ?_
  exact bcase_mono q1 (fun q => ⟨δ, M1, s.ext x1, m1, va.mono q fun _ _ h => lQ_ext x1 h⟩) fun q => ⟨δ, M1, s.ext x1, m1, vb.mono q fun _ _ h => lQ_ext x1 h⟩
theorem lChain {K : PySem.W.Frag} {r r' : DO2} {σ : L2.St} {H : Hp} {Q : VK} (q : lE K (dChain r r' va vb vc) σ H Q) : tChain (l2 K r) (l2 K r') (lE K va) (lE K vb) (lE K vc) σ H Q := by
  obtain ⟨δ, M, s, m, q⟩ := q
  refine lE_step s m q fun d M1 v H1 x1 m1 d1 q1 => ?_
  refine lE_step (s.ext x1) m1 q1 fun e M2 w H2 x2 m2 d2 q2 => ?_
  refine ⟨d, e, M2, den_ext x2 _ _ d1, d2, m2, r.mono q2 fun z M3 q3 v3 H3 x3 m3 d3 => ?_⟩
  revert q3; split <;> intro q3
  · refine ⟨_, lbl d3, bcase_if (bcase_mono q3 (fun q => ?_) fun q => q _ _ ((x1.trans x2).trans x3) m3 dbl)⟩
    refine lE_step (s.ext ((x1.trans x2).trans x3)) m3 q fun f M4 v4 H4 x4 m4 d4 q4 => ?_
    exact ⟨e, f, M4, den_ext (x3.trans x4) _ _ d2, d4, m4, r'.mono q4 fun _ _ h => lQ_ext (((x1.trans x2).trans x3).trans x4) h⟩
  · exact q3.elim
theorem qe_chain {op op' : CmpOp} {r r' : DO2} (ho : O2 X (compareOp op) r) (ho' : O2 X (compareOp op') r') (ha : QE X a va) (hb : QE X b vb) (hc : QE X c vc)
    (hm : lastMarks [op, op'] [b, c] = false := by with_unfolding_all rfl) : QE X (.Compare a [op, op'] [b, c] pos) (dChain r r' va vb vc) :=
  PE.imp (pe_chain ho ho' ha hb hc hm) fun _ _ _ q => lChain q
theorem qt_chain {op op' : CmpOp} {r r' : DO2} (ho : O2 X (compareOp op) r) (ho' : O2 X (compareOp op') r') (ha : QE X a va) (hb : QE X b vb) (hc : QE X c vc)
    (hm : lastMarks [op, op'] [b, c] = false := by with_unfolding_all rfl) : QT X (.Compare a [op, op'] [b, c] pos) (dTB (dChain r r' va vb vc)) := by
  refine PT.imp (pt_chain ho ho' ha hb hc hm) fun σ H Q q => ?_
  obtain ⟨δ, M, s, m, q⟩ := q
  refine lChain (Q := fun x H' => ∃ k, x = .bl k ∧ Q k H') ⟨δ, M, s, m, (dChain r r' va vb vc).mono q fun d M1 q v H1 x1 m1 d1 => ?_⟩
  revert q; split <;> intro q
  · exact ⟨_, lbl d1, q H1 x1 m1⟩
  · exact q.elim
end

/-! ### subscripts -/
theorem atI_dens {K : PySem.W.Frag} {H : Hp} {vs : List V} {ds : List D} {i : Int} {d : D} (h : dens K H vs ds) (e : atI ds i = some d) : ∃ v, atI vs i = some v ∧ den K H v d := by
  unfold atI at e ⊢
  rw [dens_length h]
  cases q : ixN ds.length i with
  | none => rw [q] at e; cases e
  | some j =>
    rw [q] at e
    exact dens_get (i := j) h e
def oIx : DO2 where
  run x y M Q := match x, y with
    | .str z, .int i => ∃ c, z.length ≤ sizeLine ∧ atI z.cps.toList i = some c ∧ Q (.str ⟨#[c]⟩) M
    | x, .int i => ∃ ds d, isSeq M x ds ∧ atI ds i = some d ∧ Q d M
    | _, _ => False
  mono {x y M Q Q'} h k := by
    revert h
    split <;> intro h
    · obtain ⟨c, h1, h2, h3⟩ := h; exact ⟨c, h1, h2, k _ _ h3⟩
    · obtain ⟨ds, d, h1, h2, h3⟩ := h; exact ⟨ds, d, h1, h2, k _ _ h3⟩
    · exact h
section
variable {X : Cx} {a b : Expr} {ta tb : DE} {pos : Pos}
theorem ix_d : IxR X (l2 X.K oIx) := by
  intro value slice pins s σ H x y v u Q I rx ry h hs
  obtain ⟨dx, dy, M, hx, hy, m, q⟩ := h
  dsimp only [oIx] at q
  split at q
  · cases lstr hx; cases lint hy
    obtain ⟨c, h1, h2, h3⟩ := q
    exact ix_str value slice pins s σ H _ _ v u Q I rx ry ⟨_, _, c, rfl, rfl, h1, h2, h3 _ _ (.refl H) m dstr⟩ hs
  · cases lint hy
    obtain ⟨ds, d, h1, h2, h3⟩ := q
    obtain ⟨p, vs, rfl, hq, dv⟩ := isSeq_sq m hx h1
    obtain ⟨w, h4, h5⟩ := atI_dens dv h2
    rcases hq with hq | hq
    · exact ix_list value slice pins s σ H _ _ v u Q I rx ry ⟨p, vs, _, w, rfl, rfl, hq, h4, h3 _ _ (.refl H) m h5⟩ hs
    · exact ix_tup value slice pins s σ H _ _ v u Q I rx ry ⟨p, vs, _, w, rfl, rfl, hq, h4, h3 _ _ (.refl H) m h5⟩ hs
  · exact q.elim
theorem qe_ix (ha : QE X a ta) (hb : QE X b tb) (hs : PlainIx b) : QE X (.Subscript a b pos) (dOp oIx ta tb) :=
  PE.imp (pe_ix ix_d ha hb hs) fun _ _ _ q => lOp q
end
/-- what a slice cuts out -/
def cutD {α : Type} (xs : List α) (lo hi : Option Int) : List α := (xs.drop (HT.sIx xs.length 0 lo)).take (HT.sIx xs.length xs.length hi - HT.sIx xs.length 0 lo)
theorem cutD_V (xs : List V) (lo hi : Option Int) : cutV xs lo hi = cutD xs lo hi := rfl
theorem dens_cut {K : PySem.W.Frag} {H : Hp} {vs : List V} {ds : List D} (lo hi : Option Int) (h : dens K H vs ds) : dens K H (cutV vs lo hi) (cutD ds lo hi) := by
  unfold cutV cutD
  rw [dens_length h]
  exact dens_take _ (dens_drop _ h)
structure DP where
  run : DSt → DM → (Option Int → DM → Prop) → Prop
  mono : ∀ {δ : DSt} {M : DM} {Q Q' : Option Int → DM → Prop}, run δ M Q → (∀ d M', Q d M' → Q' d M') → run δ M Q'
def dNoP : DP := ⟨fun _ M Q => Q none M, fun h k => k _ _ h⟩
def dPart (t : DE) : DP where
  run δ M Q := t.run δ M fun d M1 => match d with | .int i => Q (some i) M1 | _ => False
  mono h k := t.mono h fun d M1 q => by
    revert q; split <;> intro q
    · exact k _ _ q
    · exact q
def lP (K : PySem.W.Frag) (t : DP) : TO := fun σ H Q => ∃ δ M, SRel K H σ δ ∧ MRel K H M ∧ t.run δ M (fun b M' => ∀ H', Ext H H' → MRel K H' M' → Q b H')
def sliceD (x : D) (lo hi : Option Int) (M : DM) (Q : D → DM → Prop) : Prop := match x with
  | .tup ds => Q (.tup (cutD ds lo hi)) M
  | .str z => z.length ≤ sizeLine ∧ Q (.str (cutS z lo hi)) M
  | x => ∃ ds, isL M x ds ∧ ∀ p, M p = none → Q (.ref p) (put M p (.lst (cutD ds lo hi)))
theorem sliceD_mono {x : D} {lo hi : Option Int} {M : DM} {Q Q' : D → DM → Prop} (h : sliceD x lo hi M Q) (k : ∀ d M', Q d M' → Q' d M') : sliceD x lo hi M Q' := by
  unfold sliceD at h ⊢
  revert h
  split <;> intro h
  · exact k _ _ h
  · exact ⟨h.1, k _ _ h.2⟩
  · obtain ⟨ds, h1, h2⟩ := h; exact ⟨ds, h1, fun p hp => k _ _ (h2 p hp)⟩
def dSlice (t : DE) (lo hi : DP) : DE where
  run δ M Q := t.run δ M fun x M1 => lo.run δ M1 fun l M2 => hi.run δ M2 fun h M3 => sliceD x l h M3 Q
  mono h k := t.mono h fun x M1 q => lo.mono q fun l M2 q => hi.mono q fun h M3 q => sliceD_mono q k
def rSl (K : PySem.W.Frag) : V → Option Int → Option Int → Hp → VK → Prop := fun x lo hi H Q => ∃ d M, den K H x d ∧ MRel K H M ∧ sliceD d lo hi M (lQ K H Q)
section
variable {X : Cx} {e : Expr} {lo hi : Option Expr} {t : DE} {tl th : DP} {pos p2 : Pos}
theorem sl_d : SlR X (rSl X.K) := by
  intro pins s σ H x v vl vu lo hi sl Q I rx hs pl pu h
  obtain ⟨d, M, hx, m, q⟩ := h
  unfold sliceD at q
  split at q
  · rw [den] at hx
    obtain ⟨a, vs, rfl, sq, dv⟩ := hx
    refine sl_tupA pins s σ H _ v vl vu lo hi sl Q I rx hs pl pu ⟨a, vs, rfl, sq, fun hw => ?_, fun hw p hp => ?_⟩
    · refine q _ _ (.refl H) m ?_
      rw [den]
      refine ⟨a, vs, rfl, sq, ?_⟩
      have e : vs = cutV vs lo hi := by unfold cutV; rw [hw.1, hw.2]; simp
      rw [e]
      exact dens_cut lo hi dv
    · refine q _ _ (.new hp) (m.grow hp) ?_
      rw [den]
      exact ⟨p, _, rfl, .of upd_same, dens_ext (.new hp) _ _ (dens_cut lo hi dv)⟩
  · cases lstr hx
    exact sl_str pins s σ H _ v vl vu lo hi sl Q I rx hs pl pu ⟨_, rfl, q.1, q.2 _ _ (.refl H) m dstr⟩
  · obtain ⟨ds, h1, h2⟩ := q
    obtain ⟨a, vs, rfl, sq, dv⟩ := isL_rd m hx h1
    exact sl_list pins s σ H _ v vl vu lo hi sl Q I rx hs pl pu ⟨a, vs, rfl, sq, fun p hp => h2 p (m.free hp) _ _ (.new hp) (m.new hp ⟨_, upd_same, dens_ext (.new hp) _ _ (dens_cut lo hi dv)⟩) dref⟩
theorem qo_none : PO X none (lP X.K dNoP) := by
  refine ⟨fun pins s σ H Q I h => po_none.run pins s σ H Q I ?_⟩
  obtain ⟨δ, M, sr, m, q⟩ := h
  exact q H (.refl H) m
theorem qo_some (h : QE X e t) : PO X (some e) (lP X.K (dPart t)) := by
  refine ⟨fun pins s σ H Q I hq => (po_some h).run pins s σ H Q I ?_⟩
  obtain ⟨δ, M, sr, m, q⟩ := hq
  refine lE_step sr m q fun d M1 v H1 x1 m1 d1 q1 => ?_
  revert q1; split <;> intro q1
  · exact ⟨_, lint d1, q1 H1 x1 m1⟩
  · exact q1.elim
theorem qe_slice (he : QE X e t) (hl : PO X lo (lP X.K tl)) (hu : PO X hi (lP X.K th)) : QE X (.Subscript e (.Slice lo hi none p2) pos) (dSlice t tl th) := by
  refine PE.imp (pe_slice sl_d he hl hu) fun σ H Q q => ?_
  obtain ⟨δ, M, s, m, q⟩ := q
  refine lE_step s m q fun d M1 v H1 x1 m1 d1 q1 => ?_
  refine ⟨δ, M1, s.ext x1, m1, tl.mono q1 fun l M2 q2 H2 x2 m2 => ?_⟩
  refine ⟨δ, M2, s.ext (x1.trans x2), m2, th.mono q2 fun u M3 q3 H3 x3 m3 => ?_⟩
  exact ⟨d, M3, den_ext (x2.trans x3) _ _ d1, m3, sliceD_mono q3 fun _ _ h => lQ_ext ((x1.trans x2).trans x3) h⟩
end

/-! ### built-ins by values -/
structure DC where
  run : List D → DM → (D → DM → Prop) → Prop
  mono : ∀ {xs : List D} {M : DM} {Q Q' : D → DM → Prop}, run xs M Q → (∀ d M', Q d M' → Q' d M') → run xs M Q'
def lC (K : PySem.W.Frag) (r : DC) : List V → Hp → VK → Prop := fun vs H Q => ∃ ds M, dens K H vs ds ∧ MRel K H M ∧ r.run ds M (lQ K H Q)
abbrev OC (X : Cx) (f : Value) (r : DC) : Prop := CallR X f (lC X.K r)
def dCB (r : DC) (t : DA) : DE where
  run δ M Q := t.run δ M fun ds M1 => r.run ds M1 Q
  mono h k := t.mono h fun ds M1 q => r.mono q k
theorem lCB {K : PySem.W.Frag} {r : DC} {t : DA} {σ : L2.St} {H : Hp} {Q : VK} (q : lE K (dCB r t) σ H Q) : tCB (lC K r) (lA K t) σ H Q := by
  obtain ⟨δ, M, s, m, q⟩ := q
  refine lA_step s m q fun ds M1 vs H1 x1 m1 d1 q1 => ?_
  exact ⟨ds, M1, d1, m1, r.mono q1 fun _ _ h => lQ_ext x1 h⟩
section
variable {X : Cx} {x : Str} {p pos : Pos} {e : Expr} {es : List Expr} {t : DA} {id T : String} {r : DC}
theorem qe_callB (hc : OC X (.builtin id) r) (hg : Gl X x) (hm : X.mg x = none) (hv : bootBuiltins x = some (.builtin id)) (ha : QA X (e :: es) t) (hn : x ≠ "__name__" := by decide) (hdb : (x == ("__debug__" : Str)) = false := by decide)
    (he : starEach (e :: es) X.env = (false, eval e X.env) :: starEach es X.env := by rfl) (hpl : (backTo pos (starEach es X.env)).any (·.1) = false := by rfl) : QE X (.Call (.Name x p) (e :: es) [] pos) (dCB r t) :=
  PE.imp (pe_callB hc hg hm hv ha hn hdb he hpl) fun _ _ _ q => lCB q
theorem qe_callTy (hc : OC X (.type T) r) (hg : Gl X x) (hm : X.mg x = none) (hv : bootBuiltins x = some (.type T)) (ha : QA X (e :: es) t) (hn : x ≠ "__name__" := by decide) (hdb : (x == ("__debug__" : Str)) = false := by decide)
    (he : starEach (e :: es) X.env = (false, eval e X.env) :: starEach es X.env := by rfl) (hpl : (backTo pos (starEach es X.env)).any (·.1) = false := by rfl) : QE X (.Call (.Name x p) (e :: es) [] pos) (dCB r t) :=
  PE.imp (pe_callTy hc hg hm hv ha hn hdb he hpl) fun _ _ _ q => lCB q
end
theorem dens1 {K : PySem.W.Frag} {H : Hp} {vs : List V} {d : D} (h : dens K H vs [d]) : ∃ v, vs = [v] ∧ den K H v d := by
  rw [dens] at h
  obtain ⟨v, r, e, h1, h2⟩ := h
  rw [dens] at h2
  subst h2 e
  exact ⟨v, rfl, h1⟩
theorem dens2 {K : PySem.W.Frag} {H : Hp} {vs : List V} {d d' : D} (h : dens K H vs [d, d']) : ∃ v w, vs = [v, w] ∧ den K H v d ∧ den K H w d' := by
  rw [dens] at h
  obtain ⟨v, r, e, h1, h2⟩ := h
  obtain ⟨w, e2, h3⟩ := dens1 h2
  subst e2 e
  exact ⟨v, w, rfl, h1, h3⟩
/-- len -/
def rLen : DC where
  run xs M Q := match xs with
    | [.str z] => z.length ≤ sizeLine ∧ Q (.int z.length) M
    | [.tup ds] => Q (.int ds.length) M
    | [.lst ds] => Q (.int ds.length) M
    | [.ref p] => ∃ ds, isL M (.ref p) ds ∧ Q (.int ds.length) M
    | _ => False
  mono {xs M Q Q'} h k := by
    revert h
    split <;> intro h
    · exact ⟨h.1, k _ _ h.2⟩
    · exact k _ _ h
    · exact k _ _ h
    · obtain ⟨ds, h1, h2⟩ := h; exact ⟨ds, h1, k _ _ h2⟩
    · exact h
def rAbs : DC where
  run xs M Q := match xs with
    | [.int i] => Q (.int (i.natAbs : Int)) M
    | _ => False
  mono {xs M Q Q'} h k := by
    revert h
    split <;> intro h
    · exact k _ _ h
    · exact h
def rInt : DC where
  run xs M Q := match xs with
    | [.int i] => Q (.int i) M
    | [.bl b] => Q (.int (b2i b)) M
    | _ => False
  mono {xs M Q Q'} h k := by
    revert h
    split <;> intro h
    · exact k _ _ h
    · exact k _ _ h
    · exact h
def rList : DC where
  run xs M Q := match xs with
    | [x] => ∃ ds, isSeq M x ds ∧ ∀ p, M p = none → Q (.ref p) (put M p (.lst ds))
    | _ => False
  mono {xs M Q Q'} h k := by
    revert h
    split <;> intro h
    · obtain ⟨ds, h1, h2⟩ := h; exact ⟨ds, h1, fun p hp => k _ _ (h2 p hp)⟩
    · exact h
def rTuple : DC where
  run xs M Q := match xs with
    | [x] => ∃ ds, isSeq M x ds ∧ Q (.tup ds) M
    | _ => False
  mono {xs M Q Q'} h k := by
    revert h
    split <;> intro h
    · obtain ⟨ds, h1, h2⟩ := h; exact ⟨ds, h1, k _ _ h2⟩
    · exact h
section
variable {X : Cx}
theorem c_len : OC X (.builtin "len") rLen := by
  intro pins s σ H vs us Q I r h
  obtain ⟨ds, M, hd, m, q⟩ := h
  dsimp only [rLen] at q
  split at q
  · obtain ⟨v, rfl, d1⟩ := dens1 hd
    cases lstr d1
    exact call_len_str pins s σ H _ us Q I r ⟨_, rfl, q.1, q.2 _ _ (.refl H) m dint⟩
  · obtain ⟨v, rfl, d1⟩ := dens1 hd
    rw [den] at d1
    obtain ⟨a, ws, rfl, sq, dv⟩ := d1
    rw [← dens_length dv] at q
    exact call_len_seq pins s σ H _ us Q I r ⟨a, ws, rfl, .inr sq, q _ _ (.refl H) m dint⟩
  · obtain ⟨v, rfl, d1⟩ := dens1 hd
    rw [den] at d1
    obtain ⟨a, ws, rfl, sq, dv⟩ := d1
    rw [← dens_length dv] at q
    exact call_len_seq pins s σ H _ us Q I r ⟨a, ws, rfl, .inl sq.sq, q _ _ (.refl H) m dint⟩
  · obtain ⟨v, rfl, d1⟩ := dens1 hd
    obtain ⟨es, h1, q⟩ := q
    obtain ⟨a, ws, rfl, sq, dv⟩ := isL_rd m d1 h1
    rw [← dens_length dv] at q
    exact call_len_seq pins s σ H _ us Q I r ⟨a, ws, rfl, .inl sq, q _ _ (.refl H) m dint⟩
  · exact q.elim
theorem c_abs : OC X (.builtin "abs") rAbs := by
  intro pins s σ H vs us Q I r h
  obtain ⟨ds, M, hd, m, q⟩ := h
  dsimp only [rAbs] at q
  split at q
  · obtain ⟨v, rfl, d1⟩ := dens1 hd
    cases lint d1
    rename_i i
    have e : (i.natAbs : Int) = if i < 0 then -i else i := by split <;> omega
    rw [e] at q
    exact call_abs pins s σ H _ us Q I r ⟨i, rfl, q _ _ (.refl H) m dint⟩
  · exact q.elim
theorem c_int : OC X (.type "int") rInt := by
  intro pins s σ H vs us Q I r h
  obtain ⟨ds, M, hd, m, q⟩ := h
  dsimp only [rInt] at q
  split at q
  · obtain ⟨v, rfl, d1⟩ := dens1 hd
    cases lint d1
    exact call_int1 pins s σ H _ us Q I r (.inl ⟨_, rfl, q _ _ (.refl H) m dint⟩)
  · obtain ⟨v, rfl, d1⟩ := dens1 hd
    cases lbl d1
    rename_i b
    refine call_int1 pins s σ H _ us Q I r (.inr ⟨b, rfl, ?_⟩)
    have e : (if b = true then (1 : Int) else 0) = b2i b := by cases b <;> rfl
    rw [e]
    exact q _ _ (.refl H) m dint
  · exact q.elim
theorem c_list : OC X (.type "list") rList := by
  intro pins s σ H vs us Q I r h
  obtain ⟨ds, M, hd, m, q⟩ := h
  dsimp only [rList] at q
  split at q
  · obtain ⟨v, rfl, d1⟩ := dens1 hd
    obtain ⟨es, h1, q⟩ := q
    obtain ⟨a, ws, rfl, sq, dv⟩ := isSeq_sq m d1 h1
    exact call_list_of pins s σ H _ us Q I r ⟨a, ws, rfl, sq, fun p hp => q p (m.free hp) _ _ (.new hp) (m.new hp ⟨_, upd_same, dens_ext (.new hp) _ _ dv⟩) dref⟩
  · exact q.elim
theorem c_tuple : OC X (.type "tuple") rTuple := by
  intro pins s σ H vs us Q I r h
  obtain ⟨ds, M, hd, m, q⟩ := h
  dsimp only [rTuple] at q
  split at q
  · obtain ⟨v, rfl, d1⟩ := dens1 hd
    obtain ⟨es, h1, q⟩ := q
    obtain ⟨a, ws, rfl, sq, dv⟩ := isSeq_sq m d1 h1
    refine call_tuple_of pins s σ H _ us Q I r ⟨a, ws, rfl, ?_⟩
    rcases sq with sq | sq
    · refine .inl ⟨sq, fun p hp => q _ _ (.new hp) (m.grow hp) ?_⟩
      rw [den]
      exact ⟨p, _, rfl, .of upd_same, dens_ext (.new hp) _ _ dv⟩
    · refine .inr ⟨sq, q _ _ (.refl H) m ?_⟩
      rw [den]
      exact ⟨a, ws, rfl, sq, dv⟩
  · exact q.elim
end

/-! ### isinstance -/
inductive Ty where
  | none | bool | int | str | tuple | list | dict
  deriving DecidableEq
def Ty.name : Ty → String
  | .none => "NoneType" | .bool => "bool" | .int => "int" | .str => "str" | .tuple => "tuple" | .list => "list" | .dict => "dict"
def isi (a b : Ty) : Bool := match a, b with
  | .bool, .int => true
  | .none, .none => true | .bool, .bool => true | .int, .int => true | .str, .str => true | .tuple, .tuple => true | .list, .list => true | .dict, .dict => true
  | _, _ => false
theorem kitB_isi (a b : Ty) : kitB a.name b.name = some (isi a b) := by
  cases a <;> cases b <;> decide +kernel
/-- the type of a value -/
def tyQ (d : D) (M : DM) (Q : Ty → Prop) : Prop := match d with
  | .non => Q .none
  | .bl _ => Q .bool
  | .int _ => Q .int
  | .str _ => Q .str
  | .tup _ => Q .tuple
  | .lst _ => Q .list
  | .dct _ => Q .dict
  | .ref p => (∃ ds, isL M (.ref p) ds ∧ Q .list) ∨ ∃ kvs, M p = some (.dct kvs) ∧ Q .dict
  | .ty _ => False
theorem tyQ_mono {d : D} {M : DM} {Q Q' : Ty → Prop} (h : tyQ d M Q) (k : ∀ t, Q t → Q' t) : tyQ d M Q' := by
  unfold tyQ at h ⊢
  revert h
  split <;> intro h <;> first
    | exact k _ h
    | exact h.elim (fun ⟨ds, h1, h2⟩ => .inl ⟨ds, h1, k _ h2⟩) fun ⟨kvs, h1, h2⟩ => .inr ⟨kvs, h1, k _ h2⟩
    | exact h
theorem tyQ_ty {K : PySem.W.Frag} {H : Hp} {M : DM} {v : V} {d : D} {Q : Ty → Prop} (m : MRel K H M) (hd : den K H v d) (h : tyQ d M Q) : ∃ t : Ty, TyX K H v (.type t.name) ∧ Q t := by
  unfold tyQ at h
  split at h
  · rw [den] at hd; subst hd; exact ⟨.none, .base .non, h⟩
  · rw [den] at hd; subst hd; exact ⟨.bool, .base (.bl _), h⟩
  · rw [den] at hd; subst hd; exact ⟨.int, .base (.int _), h⟩
  · rw [den] at hd; subst hd; exact ⟨.str, .base (.str _), h⟩
  · rw [den] at hd
    obtain ⟨a, vs, rfl, sq, _⟩ := hd
    refine ⟨.tuple, ?_, h⟩
    rcases sq with (sq | ⟨o, sq⟩) | ⟨o, its, n, sq, c, _⟩
    · exact .base (.tup sq)
    · exact .fTuple sq
    · exact .kTuple sq c
  · rw [den] at hd
    obtain ⟨a, vs, rfl, sq, _⟩ := hd
    refine ⟨.list, ?_, h⟩
    rcases sq with ⟨o, sq⟩ | ⟨o, its, n, sq, c, _⟩
    · exact .base (.frz sq)
    · exact .kList sq c
  · rw [den] at hd
    obtain ⟨a, o, vs, rfl, sq, _⟩ := hd
    exact ⟨.dict, .fDict sq, h⟩
  · rcases h with ⟨ds, h1, h2⟩ | ⟨kvs, h1, h2⟩
    · obtain ⟨a, vs, rfl, sq, _⟩ := isL_rd m hd h1
      refine ⟨.list, ?_, h2⟩
      rcases sq with (sq | ⟨o, sq⟩) | ⟨o, its, n, sq, c, _⟩
      · exact .base (.lst sq)
      · exact .base (.frz sq)
      · exact .kList sq c
    · rw [den] at hd; subst hd
      obtain ⟨vs, q, _⟩ := m _ _ h1
      exact ⟨.dict, .base (.dK q), h2⟩
  · exact h.elim
def dIsi (c : Ty) (t : DE) : DE where
  run δ M Q := t.run δ M fun d M1 => tyQ d M1 fun T => Q (.bl (isi T c)) M1
  mono h k := t.mono h fun d M1 q => tyQ_mono q fun T q => k _ _ q
section
variable {X : Cx} {a : Expr} {t : DE} {p p2 pos : Pos} {n : Str}
theorem qe_isi (c : Ty) (ha : QE X a t) (hg : Gl X "isinstance") (hm : X.mg "isinstance" = none) (hg2 : Gl X n) (hm2 : X.mg n = none) (hv : bootBuiltins "isinstance" = some (.builtin "isinstance")) (hv2 : bootBuiltins n = some (.type c.name)) (hn : n ≠ "__name__" := by decide) (hdb : (n == ("__debug__" : Str)) = false := by decide)
    (hs1 : starEach [a, .Name n p2] X.env = (false, eval a X.env) :: starEach [.Name n p2] X.env := by rfl) (hs2 : starEach [.Name n p2] X.env = (false, eval (.Name n p2) X.env) :: starEach [] X.env := by rfl) (hpl : (backTo pos (starEach [.Name n p2] X.env)).any (·.1) = false := by rfl) :
    QE X (.Call (.Name "isinstance" p) [a, .Name n p2] [] pos) (dIsi c t) := by
  have hb : PE X (.Name n p2) (tC (.ty c.name)) := pe_bltn hg2 hm2 hv2 rfl hn hdb
  refine PE.imp (pe_callB call_isi hg hm hv (pa_cons ha (pa_cons hb pa_nil hs2) hs1) (by decide) (by decide) hs1 hpl) fun σ H Q q => ?_
  obtain ⟨δ, M, s, m, q⟩ := q
  refine lE_step s m q fun d M1 v H1 x1 m1 d1 q1 => ?_
  obtain ⟨T, h1, h2⟩ := tyQ_ty m1 d1 q1
  exact ⟨v, .ty c.name, _, _, isi T c, rfl, .ty _, h1, kit_ty (kitB_isi T c), h2 _ _ x1 m1 dbl⟩
end
end LD

/-! LD3: frozen objects, statements, loops -/
namespace LD
open PySem PySem.Spec PyProof.Rows L2

/-! ### some objects are never written from here on -/
structure Froz (h : Heap) (H H' : Hp) : Prop where
  at_ : ∀ a, H' a = H a ∨ ∃ u o, H a = some u ∧ Mut (some u) ∧ h.get? a = some o ∧ H' a = some (.frz o u)
theorem Froz.refl {h : Heap} {H : Hp} : Froz h H H := ⟨fun _ => .inl rfl⟩
theorem Froz.same {h : Heap} {H H' : Hp} (f : Froz h H H') {a : Addr} {u : HO} (e : H a = some u) (n : ¬ Mut (some u)) : H' a = some u := by
  rcases f.at_ a with q | ⟨w, o, e2, m, _, _⟩
  · rw [q, e]
  · rw [e] at e2; cases e2; exact (n m).elim
theorem Froz.none {h : Heap} {H H' : Hp} (f : Froz h H H') {a : Addr} (e : H a = none) : H' a = none := by
  rcases f.at_ a with q | ⟨w, o, e2, _⟩
  · rw [q, e]
  · rw [e] at e2; cases e2
theorem Froz.ext {h : Heap} {H H' : Hp} (f : Froz h H H') : Ext H H' := ⟨fun _ _ e => f.same e id, fun _ _ _ e => f.same e id⟩
theorem Froz.trans {h : Heap} {H H1 H2 : Hp} (f : Froz h H H1) (g : Froz h H1 H2) : Froz h H H2 := ⟨fun a => by
  rcases f.at_ a with q | ⟨w, o, e, m, e2, e3⟩
  · rcases g.at_ a with r | ⟨w, o, e, m, e2, e3⟩
    · exact .inl (r.trans q)
    · exact .inr ⟨w, o, q ▸ e, m, e2, e3⟩
  · exact .inr ⟨w, o, e, m, e2, g.same e3 id⟩⟩
theorem Froz.hok {P : Program} {w : World} {h : Heap} {H H' : Hp} (f : Froz h H H') (ok : HOk P w H h) : HOk P w H' h := fun a u e => by
  have st : ∀ v, H a = some v → ObjOk P w H' h a v := fun v hv => (ok a v hv).stay (fun _ _ _ q => q) (fun b q => f.same q id) fun b xs q => f.same q id
  rcases f.at_ a with q | ⟨v, o, e1, _, e2, e3⟩
  · exact st u (q ▸ e)
  · rw [e3] at e; cases e
    exact ⟨e2, st v e1⟩
theorem Froz.inv {X : Cx} {pins : List (Addr × Obj)} {σ : L2.St} {H H' : Hp} {s : Shared} (f : Froz s.heap H H') (I : Inv X pins σ H s) : Inv X pins σ H' s := by
  refine ⟨I.ok, I.os, I.bare, ⟨I.base.keep, I.base.slot, fun b o e n hx => f.none (I.base.free b o e n hx), I.base.there, fun b xs e => f.same (I.base.tups b xs e) id, fun b o u e => f.same (I.base.frzs b o u e) id, fun b ps e => ?_⟩,
    I.loc, I.cell, f.none I.free, fun x c e => f.none (I.freeC x c e), fun p hp => ?_, f.hok I.hok, I.len⟩
  · obtain ⟨more, q⟩ := I.base.tbls b ps e
    exact ⟨more, f.same q id⟩
  · obtain ⟨a1, a2, a3⟩ := I.pin p hp
    exact ⟨a1, f.none a2, a3⟩

/-- the state may be told otherwise -/
def Imp (δ : DSt) (M : DM) (δ' : DSt) (M' : DM) : Prop :=
  ∀ (P : Program) (w : World) (K : PySem.W.Frag) (H : Hp) (h : Heap) (σ : L2.St), HOk P w H h → SRel K H σ δ → MRel K H M → ∃ H', Froz h H H' ∧ SRel K H' σ δ' ∧ MRel K H' M'
def ImpV (vs : List D) (M : DM) (vs' : List D) (M' : DM) : Prop :=
  ∀ (P : Program) (w : World) (K : PySem.W.Frag) (H : Hp) (h : Heap) (us : List V), HOk P w H h → dens K H us vs → MRel K H M → ∃ H', Froz h H H' ∧ dens K H' us vs' ∧ MRel K H' M'
/-- told otherwise, P -/
def Gh (δ : DSt) (M : DM) (P : DSt → DM → Prop) : Prop := ∃ δ' M', Imp δ M δ' M' ∧ P δ' M'
def GhV (vs : List D) (M : DM) (P : List D → DM → Prop) : Prop := ∃ vs' M', ImpV vs M vs' M' ∧ P vs' M'
theorem Imp.refl {δ : DSt} {M : DM} : Imp δ M δ M := fun _ _ _ H _ _ _ s m => ⟨H, .refl, s, m⟩
theorem ImpV.refl {vs : List D} {M : DM} : ImpV vs M vs M := fun _ _ _ H _ _ _ s m => ⟨H, .refl, s, m⟩
theorem Gh.here {δ : DSt} {M : DM} {P : DSt → DM → Prop} (h : P δ M) : Gh δ M P := ⟨δ, M, .refl, h⟩
theorem GhV.here {vs : List D} {M : DM} {P : List D → DM → Prop} (h : P vs M) : GhV vs M P := ⟨vs, M, .refl, h⟩
theorem Gh.mono {δ : DSt} {M : DM} {P P' : DSt → DM → Prop} (h : Gh δ M P) (k : ∀ δ M, P δ M → P' δ M) : Gh δ M P' := let ⟨a, b, c, d⟩ := h; ⟨a, b, c, k _ _ d⟩
theorem GhV.mono {vs : List D} {M : DM} {P P' : List D → DM → Prop} (h : GhV vs M P) (k : ∀ δ M, P δ M → P' δ M) : GhV vs M P' := let ⟨a, b, c, d⟩ := h; ⟨a, b, c, k _ _ d⟩
theorem Imp.trans {δ δ1 δ2 : DSt} {M M1 M2 : DM} (a : Imp δ M δ1 M1) (b : Imp δ1 M1 δ2 M2) : Imp δ M δ2 M2 := fun P w K H h σ ok s m =>
  let ⟨H1, f1, s1, m1⟩ := a P w K H h σ ok s m
  let ⟨H2, f2, s2, m2⟩ := b P w K H1 h σ (f1.hok ok) s1 m1
  ⟨H2, f1.trans f2, s2, m2⟩
theorem Gh.by {δ δ' : DSt} {M M' : DM} {P : DSt → DM → Prop} (a : Imp δ M δ' M') (h : Gh δ' M' P) : Gh δ M P := let ⟨x, y, b, q⟩ := h; ⟨x, y, a.trans b, q⟩
/-- forget a part of the objects -/
theorem Imp.sub {δ : DSt} {M M' : DM} (s : Sub M' M) : Imp δ M δ M' := fun _ _ _ H _ _ _ sr m => ⟨H, .refl, sr, m.sub s⟩
theorem ImpV.sub {δ : List D} {M M' : DM} (s : Sub M' M) : ImpV δ M δ M' := fun _ _ _ H _ _ _ sr m => ⟨H, .refl, sr, m.sub s⟩
/-- the list at p is never written again -/
theorem freeze {P : Program} {w : World} {K : PySem.W.Frag} {H : Hp} {h : Heap} {M : DM} {p : Addr} {ds : List D} (ok : HOk P w H h) (m : MRel K H M) (e : M p = some (.lst ds)) :
    ∃ H', Froz h H H' ∧ MRel K H' (put M p (.rol ds)) ∧ den K H' (.ref p) (.lst ds) := by
  obtain ⟨vs, q, dv⟩ := m p _ e
  obtain ⟨_, its, n, _, eo⟩ := ok p _ q
  have f : Froz h H (upd H p (.frz { cls := .type "list", data := .seq its.toArray n } (.lst vs))) := ⟨fun a => by
    by_cases ha : a = p
    · subst ha; exact .inr ⟨_, _, q, trivial, eo, upd_same⟩
    · exact .inl (upd_ne ha)⟩
  refine ⟨_, f, m.put q trivial ⟨_, vs, upd_same, dens_ext f.ext _ _ dv⟩, ?_⟩
  rw [den]
  exact ⟨p, vs, rfl, .inl ⟨_, upd_same⟩, dens_ext f.ext _ _ dv⟩
theorem Imp.frz {δ : DSt} {M : DM} {p : Addr} {ds : List D} (e : M p = some (.lst ds)) : Imp δ M δ (put M p (.rol ds)) := fun P w K H h σ ok s m =>
  let ⟨H', f, m', _⟩ := freeze ok m e
  ⟨H', f, s.ext f.ext, m'⟩
/-- a frozen list in a slot, told as its items -/
theorem rol_den {K : PySem.W.Frag} {H : Hp} {M : DM} {p : Addr} {ds : List D} (m : MRel K H M) (e : M p = some (.rol ds)) : den K H (.ref p) (.lst ds) := by
  obtain ⟨o, vs, q, dv⟩ := m p _ e
  rw [den]
  exact ⟨p, vs, rfl, .inl ⟨o, q⟩, dv⟩
theorem Imp.view {δ : DSt} {M : DM} {p : Addr} {ds : List D} {i : Nat} (e : M p = some (.rol ds)) (hi : δ[i]? = some (some (.ref p))) : Imp δ M (δ.set i (some (.lst ds))) M := fun P w K H h σ ok s m => by
  refine ⟨H, .refl, ⟨by rw [List.length_set]; exact s.len, fun j d hj => ?_⟩, m⟩
  by_cases hij : i = j
  · subst hij
    have hl : i < δ.length := (List.getElem?_eq_some_iff.mp hi).1
    rw [List.getElem?_set_self hl] at hj
    cases hj
    obtain ⟨v, h1, h2⟩ := s.get i _ hi
    rw [den] at h2
    subst h2
    exact ⟨_, h1, rol_den m e⟩
  · rw [List.getElem?_set_ne hij] at hj
    exact s.get j d hj
/-- the list at p, in the slot i, is frozen -/
theorem Gh.frz {δ : DSt} {M : DM} {P : DSt → DM → Prop} {p : Addr} {ds : List D} (i : Nat) (e : M p = some (.lst ds)) (hi : δ[i]? = some (some (.ref p))) (h : Gh (δ.set i (some (.lst ds))) (put M p (.rol ds)) P) : Gh δ M P :=
  .by (.trans (.frz e) (.view put_same hi)) h
theorem GhV.one {M : DM} {P : List D → DM → Prop} {p : Addr} {ds : List D} (e : M p = some (.lst ds)) (h : P [.lst ds] (put M p (.rol ds))) : GhV [.ref p] M P :=
  ⟨_, _, fun P w K H hp us ok d m => by
    obtain ⟨H', f, m', dn⟩ := freeze ok m e
    obtain ⟨v, e2, d1⟩ := dens1 d
    rw [den] at d1
    subst d1 e2
    exact ⟨H', f, dens_cons dn dens_nil, m'⟩, h⟩

/-! ### readings with such a step behind them -/
def dEnd (t : DS) : DS where
  run E δ M := t.run { E with nx := fun δ' M' => Gh δ' M' E.nx } δ M
  mono h k := t.mono h ⟨fun _ _ q => q.mono k.nx, k.rt, k.bk, k.ct⟩
def dSeq (t u : DS) : DS where
  run E δ M := t.run { E with nx := fun δ' M' => Gh δ' M' (u.run E) } δ M
  mono h k := t.mono h ⟨fun _ _ q => q.mono fun _ _ q => u.mono q k, k.rt, k.bk, k.ct⟩
def dSNil : DS := ⟨fun E δ M => E.nx δ M, fun h k => k.nx _ _ h⟩
/-- a value, told otherwise -/
def dGh (t : DE) : DE where
  run δ M Q := t.run δ M fun d M1 => GhV [d] M1 fun ds M2 => match ds with | [e] => Q e M2 | _ => False
  mono h k := t.mono h fun d M1 q => q.mono fun ds M2 q => by
    revert q; split <;> intro q
    · exact k _ _ q
    · exact q
section
variable {X : Cx}
theorem qss_nil : QSs X [] dSNil := by
  refine PSs.imp pss_nil fun D σ H q => ?_
  obtain ⟨δ, M, s, m, q⟩ := q
  exact q σ H (.refl H) s m
/-- the state behind a statement that went on, told otherwise -/
theorem nx_gh {pins : List (Addr × Obj)} {P : DSt → DM → Prop} {H0 H' : Hp} {δ : DSt} {M : DM} {σ : L2.St} {s : Shared} (I : Inv X pins σ H' s) (x : Ext H0 H') (sr : SRel X.K H' σ δ) (m : MRel X.K H' M) (g : Gh δ M P) :
    ∃ H2 δ2 M2, Inv X pins σ H2 s ∧ Ext H0 H2 ∧ SRel X.K H2 σ δ2 ∧ MRel X.K H2 M2 ∧ P δ2 M2 := by
  obtain ⟨δ2, M2, imp, p⟩ := g
  obtain ⟨H2, f, s2, m2⟩ := imp X.prog X.w X.K H' s.heap σ I.hok sr m
  exact ⟨H2, δ2, M2, f.inv I, x.trans f.ext, s2, m2, p⟩
theorem lEnds_ext {K : PySem.W.Frag} {H H' : Hp} {D : Ends} (x : Ext H H') : (lEnds K H D).Le (lEnds K H' D) :=
  ⟨fun _ _ q σ H2 x2 => q σ H2 (x.trans x2), fun _ _ q v H2 x2 => q v H2 (x.trans x2), fun _ _ q σ H2 x2 => q σ H2 (x.trans x2), fun _ _ q σ H2 x2 => q σ H2 (x.trans x2)⟩
/-- a statement, with D-ends -/
theorem run_s {st : Stmt} {t : DS} (h : QS X st t) {pins : List (Addr × Obj)} {s : Shared} {σ : L2.St} {H : Hp} {δ : DSt} {M : DM} {E : DEnds} (I : Inv X pins σ H s) (sr : SRel X.K H σ δ) (m : MRel X.K H M) (q : t.run E δ M) :
    wpAny (model X.prog X.w) X.A (exec st X.env) (fun f s' => match f with
      | .next => ∃ σ' H' δ' M', Inv X pins σ' H' s' ∧ Ext H H' ∧ SRel X.K H' σ' δ' ∧ MRel X.K H' M' ∧ E.nx δ' M'
      | .brk => ∃ σ' H' δ' M', Inv X pins σ' H' s' ∧ Ext H H' ∧ SRel X.K H' σ' δ' ∧ MRel X.K H' M' ∧ E.bk δ' M'
      | .cont => ∃ σ' H' δ' M', Inv X pins σ' H' s' ∧ Ext H H' ∧ SRel X.K H' σ' δ' ∧ MRel X.K H' M' ∧ E.ct δ' M'
      | .ret u => ∃ v d σ' H' M', Inv X pins σ' H' s' ∧ Ext H H' ∧ MRel X.K H' M' ∧ L2.RelV v u ∧ den X.K H' v d ∧ E.rt d M') X.xe s := by
  let D : Ends :=
    { nx := fun σ' H' => (∃ δ' M', Ext H H' ∧ SRel X.K H' σ' δ' ∧ MRel X.K H' M' ∧ E.nx δ' M')
      rt := fun v H' => (∃ d M', Ext H H' ∧ MRel X.K H' M' ∧ den X.K H' v d ∧ E.rt d M')
      bk := fun σ' H' => (∃ δ' M', Ext H H' ∧ SRel X.K H' σ' δ' ∧ MRel X.K H' M' ∧ E.bk δ' M')
      ct := fun σ' H' => (∃ δ' M', Ext H H' ∧ SRel X.K H' σ' δ' ∧ MRel X.K H' M' ∧ E.ct δ' M') }
  refine thn (h.run pins s σ H D I ⟨δ, M, sr, m, t.mono q ?_⟩) fun f s' hs => ?_
  · exact ⟨fun δ M q σ' H' x s m => ⟨δ, M, x, s, m, q⟩, fun d M q v H' x m dn => ⟨d, M, x, m, dn, q⟩, fun δ M q σ' H' x s m => ⟨δ, M, x, s, m, q⟩, fun δ M q σ' H' x s m => ⟨δ, M, x, s, m, q⟩⟩
  · cases f with
    | next => obtain ⟨σ', H', I', δ', M', x, s, m, q⟩ := hs; exact ⟨σ', H', δ', M', I', x, s, m, q⟩
    | brk => obtain ⟨σ', H', I', δ', M', x, s, m, q⟩ := hs; exact ⟨σ', H', δ', M', I', x, s, m, q⟩
    | cont => obtain ⟨σ', H', I', δ', M', x, s, m, q⟩ := hs; exact ⟨σ', H', δ', M', I', x, s, m, q⟩
    | ret u => obtain ⟨v, σ', H', I', r, d, M', x, m, dn, q⟩ := hs; exact ⟨v, d, σ', H', M', I', x, m, r, dn, q⟩
theorem sp_of {pins : List (Addr × Obj)} {H : Hp} {D : Ends} {f : Flow} {s' : Shared} (h : match f with
      | .next => ∃ σ' H' δ' M', Inv X pins σ' H' s' ∧ Ext H H' ∧ SRel X.K H' σ' δ' ∧ MRel X.K H' M' ∧ (lEnds X.K H D).nx δ' M'
      | .brk => ∃ σ' H' δ' M', Inv X pins σ' H' s' ∧ Ext H H' ∧ SRel X.K H' σ' δ' ∧ MRel X.K H' M' ∧ (lEnds X.K H D).bk δ' M'
      | .cont => ∃ σ' H' δ' M', Inv X pins σ' H' s' ∧ Ext H H' ∧ SRel X.K H' σ' δ' ∧ MRel X.K H' M' ∧ (lEnds X.K H D).ct δ' M'
      | .ret u => ∃ v d σ' H' M', Inv X pins σ' H' s' ∧ Ext H H' ∧ MRel X.K H' M' ∧ L2.RelV v u ∧ den X.K H' v d ∧ (lEnds X.K H D).rt d M') : SP X pins D f s' := by
  cases f with
  | next => obtain ⟨σ', H', δ', M', I', x, s, m, q⟩ := h; exact ⟨σ', H', I', q σ' H' x s m⟩
  | brk => obtain ⟨σ', H', δ', M', I', x, s, m, q⟩ := h; exact ⟨σ', H', I', q σ' H' x s m⟩
  | cont => obtain ⟨σ', H', δ', M', I', x, s, m, q⟩ := h; exact ⟨σ', H', I', q σ' H' x s m⟩
  | ret u => obtain ⟨v, d, σ', H', M', I', x, m, r, dn, q⟩ := h; exact ⟨v, σ', H', I', r, q v H' x m dn⟩
theorem qss_cons {st : Stmt} {rest : List Stmt} {t u : DS} (h1 : QS X st t) (h2 : QSs X rest u) : QSs X (st :: rest) (dSeq t u) := by
  refine ⟨fun pins s σ H D I h => ?_⟩
  obtain ⟨δ, M, sr, m, q⟩ := h
  refine wpAny_execs_cons (thn (run_s h1 I sr m q) fun f s1 q => ?_)
  cases f with
  | next =>
    obtain ⟨σ', H', δ', M', I', x, s2, m2, q⟩ := q
    obtain ⟨H2, δ2, M2, I2, x2, sr2, m3, q⟩ := nx_gh I' x s2 m2 q
    exact h2.run pins s1 σ' H2 D I2 ⟨δ2, M2, sr2, m3, u.mono q (lEnds_ext x2)⟩
  | ret v => exact sp_of (f := .ret v) q
  | brk => exact sp_of (f := .brk) q
  | cont => exact sp_of (f := .cont) q
theorem qss_one {st : Stmt} {t : DS} (h1 : QS X st t) : QSs X [st] (dEnd t) := by
  refine ⟨fun pins s σ H D I h => ?_⟩
  obtain ⟨δ, M, sr, m, q⟩ := h
  refine wpAny_execs_cons (thn (run_s h1 I sr m q) fun f s1 q => ?_)
  cases f with
  | next =>
    obtain ⟨σ', H', δ', M', I', x, s2, m2, q⟩ := q
    obtain ⟨H2, δ2, M2, I2, x2, sr2, m3, q⟩ := nx_gh I' x s2 m2 q
    exact wpAny_execs_nil ⟨σ', H2, I2, q σ' H2 x2 sr2 m3⟩
  | ret v => exact sp_of (f := .ret v) q
  | brk => exact sp_of (f := .brk) q
  | cont => exact sp_of (f := .cont) q
theorem qe_gh {e : Expr} {t : DE} (h : QE X e t) : QE X e (dGh t) := by
  refine ⟨fun pins s σ H Q I hq => ?_⟩
  obtain ⟨δ, M, sr, m, q⟩ := hq
  refine thn (h.run pins s σ H (fun v H' => ∃ d M', Ext H H' ∧ MRel X.K H' M' ∧ den X.K H' v d ∧ GhV [d] M' fun ds M2 => match ds with | [e] => lQ X.K H Q e M2 | _ => False) I
    ⟨δ, M, sr, m, t.mono q fun d M1 q v H1 x1 m1 d1 => ⟨d, M1, x1, m1, d1, q⟩⟩) fun u s1 ⟨v, H1, I1, r, d, M1, x1, m1, d1, g⟩ => ?_
  obtain ⟨ds, M2, imp, q⟩ := g
  obtain ⟨H2, f, d2, m2⟩ := imp X.prog X.w X.K H1 s1.heap [v] I1.hok (dens_cons d1 dens_nil) m1
  revert q; split <;> intro q
  · obtain ⟨v', e, d3⟩ := dens1 d2
    cases e
    exact ⟨v, H2, f.inv I1, r, q v H2 (x1.trans f.ext) m2 d3⟩
  · exact q.elim
end

/-! ### small statements -/
def dPass : DS := ⟨fun E δ M => E.nx δ M, fun h k => k.nx _ _ h⟩
def dBreak : DS := ⟨fun E δ M => E.bk δ M, fun h k => k.bk _ _ h⟩
def dCont : DS := ⟨fun E δ M => E.ct δ M, fun h k => k.ct _ _ h⟩
def dNever : DS := ⟨fun _ _ _ => False, fun h _ => h⟩
def dDrop (t : DE) : DS := ⟨fun E δ M => t.run δ M fun _ M1 => E.nx δ M1, fun h k => t.mono h fun _ M1 q => k.nx _ _ q⟩
def dRet (t : DE) : DS := ⟨fun E δ M => t.run δ M E.rt, fun h k => t.mono h k.rt⟩
def dRetN : DS := ⟨fun E δ M => E.rt .non M, fun h k => k.rt _ _ h⟩
def dIfS (c : DT) (a b : DS) : DS := ⟨fun E δ M => c.run δ M fun k M1 => bcase k (a.run E δ M1) (b.run E δ M1), fun h k => c.mono h fun _ M1 q => bcase_mono q (fun q => a.mono q k) fun q => b.mono q k⟩
def dName (i : Nat) : DG := ⟨fun d δ M Q => Q (δ.set i (some d)) M, fun h k => k _ _ h⟩
def dAsg (t : DE) (g : DG) : DS := ⟨fun E δ M => t.run δ M fun d M1 => g.run d δ M1 E.nx, fun h k => t.mono h fun d M1 q => g.mono q k.nx⟩
def dSet (i : Nat) (t : DE) : DS := ⟨fun E δ M => t.run δ M fun d M1 => E.nx (δ.set i (some d)) M1, fun h k => t.mono h fun d M1 q => k.nx _ _ q⟩
/-- several targets -/
structure DGs where
  run : List D → DSt → DM → (DSt → DM → Prop) → Prop
  mono : ∀ {ds : List D} {δ : DSt} {M : DM} {Q Q' : DSt → DM → Prop}, run ds δ M Q → (∀ δ' M', Q δ' M' → Q' δ' M') → run ds δ M Q'
def dGNil : DGs := ⟨fun ds δ M Q => match ds with | [] => Q δ M | _ => False, fun {ds δ M Q Q'} h k => by
  cases ds with
  | nil => exact k _ _ h
  | cons => exact h⟩
def dGCons (g : DG) (r : DGs) : DGs := ⟨fun ds δ M Q => match ds with | d :: ds => g.run d δ M fun δ1 M1 => r.run ds δ1 M1 Q | _ => False, fun {ds δ M Q Q'} h k => by
  cases ds with
  | nil => exact h
  | cons => exact g.mono h fun _ _ q => r.mono q k⟩
def dGTup (r : DGs) : DG := ⟨fun d δ M Q => match d with | .tup ds => r.run ds δ M Q | _ => False, fun {d δ M Q Q'} h k => by
  revert h; split <;> intro h
  · exact r.mono h k
  · exact h⟩
def lGs (K : PySem.W.Frag) (t : DGs) : TGs := fun vs σ H Q => ∃ ds δ M, dens K H vs ds ∧ SRel K H σ δ ∧ MRel K H M ∧ t.run ds δ M (fun δ' M' => ∀ σ' H', Ext H H' → SRel K H' σ' δ' → MRel K H' M' → Q σ' H')
abbrev QGs (X : Cx) (es : List Expr) (t : DGs) : Prop := PGs X es (lGs X.K t)
section
variable {X : Cx} {e : Expr} {t : DE} {pos : Pos}
theorem qs_pass : QS X (.Pass pos) dPass := PS.imp ps_pass fun D σ H ⟨δ, M, s, m, q⟩ => q σ H (.refl H) s m
theorem qs_break : QS X (.Break pos) dBreak := PS.imp ps_break fun D σ H ⟨δ, M, s, m, q⟩ => q σ H (.refl H) s m
theorem qs_cont : QS X (.Continue pos) dCont := PS.imp ps_continue fun D σ H ⟨δ, M, s, m, q⟩ => q σ H (.refl H) s m
theorem qs_never {st : Stmt} : QS X st dNever := PS.imp ps_never fun D σ H ⟨δ, M, s, m, q⟩ => q
theorem qss_never {st : List Stmt} : QSs X st dNever := PSs.imp pss_never fun D σ H ⟨δ, M, s, m, q⟩ => q
theorem qs_expr (he : QE X e t) (hs : swapsWith e none pos.line X.env = pure false := by rfl) : QS X (.Expr e pos) (dDrop t) := by
  refine PS.imp (ps_expr he hs) fun D σ H q => ?_
  obtain ⟨δ, M, s, m, q⟩ := q
  exact lE_step s m q fun d M1 v H1 x1 m1 d1 q1 => q1 σ H1 x1 (s.ext x1) m1
theorem qs_ret (he : QE X e t) : QS X (.Return (some e) pos) (dRet t) := by
  refine PS.imp (ps_ret he) fun D σ H q => ?_
  obtain ⟨δ, M, s, m, q⟩ := q
  exact lE_step s m q fun d M1 v H1 x1 m1 d1 q1 => q1 v H1 x1 m1 d1
theorem qs_retN : QS X (.Return none pos) dRetN := PS.imp ps_retN fun D σ H ⟨δ, M, s, m, q⟩ => q _ H (.refl H) m dnon
theorem qs_if {c : Expr} {a b : List Stmt} {tc : DT} {ta tb : DS} (hc : QT X c tc) (ha : QSs X a ta) (hb : QSs X b tb) : QS X (.If c a b pos) (dIfS tc ta tb) := by
  refine PS.imp (ps_if hc ha hb) fun D σ H q => ?_
  obtain ⟨δ, M, s, m, q⟩ := q
  refine lT_step s m q fun k M1 H1 x1 m1 q1 => bcase_if ?_
  exact bcase_mono q1 (fun q => ⟨δ, M1, s.ext x1, m1, ta.mono q (lEnds_ext x1)⟩) fun q => ⟨δ, M1, s.ext x1, m1, tb.mono q (lEnds_ext x1)⟩
theorem qg_name {i : Nat} {x : Str} (hN : X.N.Nodup) (hi : X.N[i]? = some x) (hx : Loc X.env.scope x) (hf : X.fn x = true ∨ X.env.scope.names.lookup x = some .local := by first | exact .inl rfl | exact .inr rfl | assumption) : QG X (.Name x pos) (dName i) := by
  refine PG.imp (pg_name hN hi hx hf) fun v σ H Q q => ?_
  obtain ⟨d, δ, M, dn, s, m, q⟩ := q
  exact q _ H (.refl H) (s.set dn i) m
theorem qs_set {i : Nat} {x : Str} {pos' : Pos} (hN : X.N.Nodup) (hi : X.N[i]? = some x) (hx : Loc X.env.scope x) (he : QE X e t) (hs : swapsWith e (some (.Name x pos')) pos.line X.env = pure false := by rfl) (hf : X.fn x = true ∨ X.env.scope.names.lookup x = some .local := by first | exact .inl rfl | exact .inr rfl | assumption) :
    QS X (.Assign [.Name x pos'] e pos) (dSet i t) := by
  refine PS.imp (ps_set hN hi hx he hs hf) fun D σ H q => ?_
  obtain ⟨δ, M, s, m, q⟩ := q
  exact lE_step s m q fun d M1 v H1 x1 m1 d1 q1 => q1 _ H1 x1 ((s.ext x1).set d1 i) m1
theorem qs_asg {tg : Expr} {g : DG} (he : QE X e t) (hg : QG X tg g) (hs : swapsWithSole [tg] e pos.line X.env = pure false := by rfl) (hw : swappedStores [tg] e X.env = pure none := by rfl)
    (h1 : (assignEach [tg] X.env).map (·.2) = [assign tg X.env] := by rfl) : QS X (.Assign [tg] e pos) (dAsg t g) := by
  refine PS.imp (ps_asg he hg hs hw h1) fun D σ H q => ?_
  obtain ⟨δ, M, s, m, q⟩ := q
  refine lE_step s m q fun d M1 v H1 x1 m1 d1 q1 => ?_
  exact lG_step d1 (s.ext x1) m1 q1 fun δ' M' σ' H' x' s' m' q' => q' σ' H' (x1.trans x') s' m'
theorem qgs_nil : QGs X [] dGNil := by
  refine ⟨fun pins s σ H vs us Q I r h => pgs_nil.run pins s σ H vs us Q I r ?_⟩
  obtain ⟨ds, δ, M, dn, sr, m, q⟩ := h
  cases ds with
  | nil => rw [dens] at dn; exact ⟨dn, q σ H (.refl H) sr m⟩
  | cons => exact q.elim
theorem qgs_cons {es : List Expr} {g : DG} {r : DGs} (h1 : QG X e g) (h2 : QGs X es r)
    (hs : (assignEach (e :: es) X.env).map (·.2) = assign e X.env :: (assignEach es X.env).map (·.2) := by rfl) : QGs X (e :: es) (dGCons g r) := by
  refine ⟨fun pins s σ H vs us Q I rv h => (pgs_cons h1 h2 hs).run pins s σ H vs us Q I rv ?_⟩
  obtain ⟨ds, δ, M, dn, sr, m, q⟩ := h
  cases ds with
  | nil => exact q.elim
  | cons d ds =>
    rw [dens] at dn
    obtain ⟨v, w, e1, d1, d2⟩ := dn
    subst e1
    refine ⟨v, w, rfl, lG_step d1 sr m q fun δ' M' σ' H' x' s' m' q' => ?_⟩
    exact ⟨ds, δ', M', dens_ext x' _ _ d2, s', m', r.mono q' fun δ2 M2 q2 σ2 H2 x2 => q2 σ2 H2 (x'.trans x2)⟩
theorem qg_tup {es : List Expr} {k : Nat} {r : DGs} {n : Nat} (hc : X.calm = true) (h : QGs X es r) (hn : (assignEach es X.env).length = n := by rfl) (hst : (assignEach es X.env).findIdx? (·.1) = none := by rfl)
    (hl : ∀ ds δ M Q, r.run ds δ M Q → ds.length = n) : QG X (.Tuple es k pos) (dGTup r) := by
  refine PG.imp (pg_tup (n := n) hc h hn hst) fun v σ H Q q => ?_
  obtain ⟨d, δ, M, dn, s, m, q⟩ := q
  dsimp only [dGTup] at q
  split at q
  · rw [den] at dn
    obtain ⟨a, vs, rfl, sq, dv⟩ := dn
    exact ⟨a, vs, rfl, sq, (dens_length dv).trans (hl _ _ _ _ q), _, δ, M, dv, s, m, q⟩
  · exact q.elim
theorem dGs_len0 : ∀ ds δ M Q, dGNil.run ds δ M Q → ds.length = 0 := fun ds δ M Q h => by cases ds with | nil => rfl | cons => exact h.elim
theorem dGs_len {g : DG} {r : DGs} {n : Nat} (hr : ∀ ds δ M Q, r.run ds δ M Q → ds.length = n) (gn : ∀ d δ M Q, g.run d δ M Q → ∃ δ' M', Q δ' M') : ∀ ds δ M Q, (dGCons g r).run ds δ M Q → ds.length = n + 1 := fun ds δ M Q h => by
  cases ds with
  | nil => exact h.elim
  | cons d ds =>
    obtain ⟨δ', M', q⟩ := gn _ _ _ _ h
    rw [List.length_cons, hr _ _ _ _ q]
theorem dName_go {i : Nat} : ∀ d δ M Q, (dName i).run d δ M Q → ∃ δ' M', Q δ' M' := fun d δ M Q h => ⟨_, _, h⟩
theorem dGTup_go {r : DGs} (hr : ∀ ds δ M Q, r.run ds δ M Q → ∃ δ' M', Q δ' M') : ∀ d δ M Q, (dGTup r).run d δ M Q → ∃ δ' M', Q δ' M' := fun d δ M Q h => by
  dsimp only [dGTup] at h
  split at h
  · exact hr _ _ _ _ h
  · exact h.elim
theorem dGNil_go : ∀ ds δ M Q, dGNil.run ds δ M Q → ∃ δ' M', Q δ' M' := fun ds δ M Q h => by cases ds with | nil => exact ⟨_, _, h⟩ | cons => exact h.elim
theorem dGCons_go {g : DG} {r : DGs} (gn : ∀ d δ M Q, g.run d δ M Q → ∃ δ' M', Q δ' M') (hr : ∀ ds δ M Q, r.run ds δ M Q → ∃ δ' M', Q δ' M') : ∀ ds δ M Q, (dGCons g r).run ds δ M Q → ∃ δ' M', Q δ' M' := fun ds δ M Q h => by
  cases ds with
  | nil => exact h.elim
  | cons d ds =>
    obtain ⟨δ', M', q⟩ := gn _ _ _ _ h
    exact hr _ _ _ _ q
end
def dPar2 (i j : Nat) (t : DA) : DS := ⟨fun E δ M => t.run δ M fun ds M1 => match ds with | [a, b] => E.nx ((δ.set i (some a)).set j (some b)) M1 | _ => False, fun h k => t.mono h fun ds M1 q => by
  revert q; split <;> intro q
  · exact k.nx _ _ q
  · exact q⟩
def dPar3 (i j l : Nat) (t : DA) : DS := ⟨fun E δ M => t.run δ M fun ds M1 => match ds with | [a, b, c] => E.nx (((δ.set i (some a)).set j (some b)).set l (some c)) M1 | _ => False, fun h k => t.mono h fun ds M1 q => by
  revert q; split <;> intro q
  · exact k.nx _ _ q
  · exact q⟩
section
variable {X : Cx} {pos : Pos}
theorem qs_par2 {i j : Nat} {x y : Str} {a b : Expr} {ta : DA} {px py pt : Pos} {kt k2 pt2} (hc : X.calm = true) (hN : X.N.Nodup) (hi : X.N[i]? = some x) (hj : X.N[j]? = some y) (hij : i ≠ j)
    (hx : X.env.scope.names.lookup x = some .local) (hy : X.env.scope.names.lookup y = some .local) (ha : QA X [a, b] ta)
    (hw : swappedStores [.Tuple [.Name x px, .Name y py] kt pt] (.Tuple [a, b] k2 pt2) X.env = pure (some [x, y]))
    (hs : swapsWithSole [.Tuple [.Name x px, .Name y py] kt pt] (.Tuple [a, b] k2 pt2) pos.line X.env = pure false := by rfl) :
    QS X (.Assign [.Tuple [.Name x px, .Name y py] kt pt] (.Tuple [a, b] k2 pt2) pos) (dPar2 i j ta) := by
  refine PS.imp (ps_par hc hN hi hj hij hx hy ha hw hs) fun D σ H q => ?_
  obtain ⟨δ, M, s, m, q⟩ := q
  refine lA_step s m q fun ds M1 vs H1 x1 m1 d1 q1 => ?_
  revert q1; split <;> intro q1
  · obtain ⟨v, w, e, h1, h2⟩ := dens2 d1
    exact ⟨v, w, e, q1 _ H1 x1 (((s.ext x1).set h1 i).set h2 j) m1⟩
  · exact q1.elim
theorem qs_par3 {i j l : Nat} {x y z : Str} {a b c : Expr} {ta : DA} {px py pz pt : Pos} {kt k2 pt2} (hc : X.calm = true) (hN : X.N.Nodup) (hi : X.N[i]? = some x) (hj : X.N[j]? = some y) (hl : X.N[l]? = some z) (hij : i ≠ j) (hil : i ≠ l) (hjl : j ≠ l)
    (hx : X.env.scope.names.lookup x = some .local) (hy : X.env.scope.names.lookup y = some .local) (hz : X.env.scope.names.lookup z = some .local) (ha : QA X [a, b, c] ta)
    (hw : swappedStores [.Tuple [.Name x px, .Name y py, .Name z pz] kt pt] (.Tuple [a, b, c] k2 pt2) X.env = pure (some [x, y, z]))
    (hs : swapsWithSole [.Tuple [.Name x px, .Name y py, .Name z pz] kt pt] (.Tuple [a, b, c] k2 pt2) pos.line X.env = pure false := by rfl) :
    QS X (.Assign [.Tuple [.Name x px, .Name y py, .Name z pz] kt pt] (.Tuple [a, b, c] k2 pt2) pos) (dPar3 i j l ta) := by
  refine PS.imp (ps_par3 hc hN hi hj hl hij hil hjl hx hy hz ha hw hs) fun D σ H q => ?_
  obtain ⟨δ, M, s, m, q⟩ := q
  refine lA_step s m q fun ds M1 vs H1 x1 m1 d1 q1 => ?_
  revert q1; split <;> intro q1
  · rw [dens] at d1
    obtain ⟨v, r, e, h1, d2⟩ := d1
    obtain ⟨w, u, e2, h2, h3⟩ := dens2 d2
    subst e e2
    exact ⟨v, w, u, rfl, q1 _ H1 x1 ((((s.ext x1).set h1 i).set h2 j).set h3 l) m1⟩
  · exact q1.elim
end
/-- xs[i] = e -/
def dSubL (o i : DE) : DG where
  run d δ M Q := o.run δ M fun x M1 => i.run δ M1 fun y M2 => match x, y with
    | .ref p, .int k => ∃ ds j, M2 p = some (.lst ds) ∧ ixN ds.length k = some j ∧ Q δ (put M2 p (.lst (ds.set j d)))
    | _, _ => False
  mono h k := o.mono h fun x M1 q => i.mono q fun y M2 q => by
    revert q; split <;> intro q
    · obtain ⟨ds, j, h1, h2, h3⟩ := q; exact ⟨ds, j, h1, h2, k _ _ h3⟩
    · exact q
section
variable {X : Cx} {o i : Expr} {pos : Pos} {to ti : DE}
theorem qg_subL (ho : QE X o to) (hi : QE X i ti) (ha : ∀ v, assign (.Subscript o i pos) X.env v = (do
      let ov ← holding [v] (eval o X.env)
      let iv ← holding [v, ov] (eval i X.env)
      standAt pos
      holding [v, ov, iv] (setItem ov iv v)
      release [v, ov, iv] []) := by intro _; rfl) : QG X (.Subscript o i pos) (dSubL to ti) := by
  refine PG.imp (pg_sub ho hi set_list ha) fun v σ H Q q => ?_
  obtain ⟨d, δ, M, dn, s, m, q⟩ := q
  refine lE_step s m q fun x M1 vx H1 x1 m1 d1 q1 => ?_
  refine lE_step (s.ext x1) m1 q1 fun y M2 vy H2 x2 m2 d2 q2 => ?_
  revert q2; split <;> intro q2
  · obtain ⟨ds, j, h1, h2, h3⟩ := q2
    rw [den] at d1
    cases lint d2
    obtain ⟨vs, h4, h5⟩ := m2 _ _ h1
    refine ⟨_, vs, _, j, d1, rfl, h4, by rw [dens_length h5]; exact h2, ?_⟩
    have x3 : Ext H2 (upd H2 _ (.lst (vs.set j v))) := .put h4 trivial
    exact h3 σ _ ((x1.trans x2).trans x3) (s.ext ((x1.trans x2).trans x3)) (m2.put h4 trivial ⟨_, upd_same, dens_ext x3 _ _ (dens_set (den_ext (x1.trans x2) _ _ dn) j h5)⟩)
  · exact q2.elim
end

/-! ### while -/
def whRun (c : DT) (b : DS) (E : DEnds) : Nat → DSt → DM → Prop
  | 0, _, _ => False
  | n + 1, δ, M => c.run δ M fun k M1 => bcase k (b.run { E with nx := whRun c b E n, ct := whRun c b E n } δ M1) (E.nx δ M1)
theorem whRun_mono {c : DT} {b : DS} {E E' : DEnds} (k : E.Le E') : ∀ (n : Nat) (δ : DSt) (M : DM), whRun c b { E with bk := E.nx } n δ M → whRun c b { E' with bk := E'.nx } n δ M
  | 0, _, _, h => h
  | n + 1, δ, M, h => c.mono h fun _ M1 q => bcase_mono q (fun q => b.mono q ⟨whRun_mono k n, k.rt, k.nx, whRun_mono k n⟩) (k.nx _ _)
def dWhile (c : DT) (b : DS) : DS := ⟨fun E δ M => ∃ n, whRun c b { E with bk := E.nx } n δ M, fun ⟨n, h⟩ k => ⟨n, whRun_mono k n _ _ h⟩⟩
section
variable {X : Cx} {pos : Pos}
theorem qs_while {c : Expr} {body : List Stmt} {tc : DT} {tb : DS} (hp : PassesOwn (model X.prog X.w) X.A X.env X.xe) (hc : QT X c tc) (hb : QSs X body tb) : QS X (.While c body [] pos) (dWhile tc tb) := by
  refine PS.imp (ps_while hp hc hb) fun D σ H q => ?_
  obtain ⟨δ, M, s, m, n, q⟩ := q
  refine ⟨fun n σ' H' => ∃ δ' M', Ext H H' ∧ SRel X.K H' σ' δ' ∧ MRel X.K H' M' ∧ whRun tc tb { lEnds X.K H D with bk := (lEnds X.K H D).nx } n δ' M', ⟨n, δ, M, .refl H, s, m, q⟩, ?_⟩
  rintro n σ1 H1 ⟨δ1, M1, x1, s1, m1, q1⟩
  cases n with
  | zero => exact q1.elim
  | succ n =>
    refine lT_step s1 m1 q1 fun k M2 H2 x2 m2 q2 => bcase_if (bcase_mono q2 (fun q3 => ?_) fun q3 => q3 σ1 H2 (x1.trans x2) (s1.ext x2) m2)
    refine ⟨fun σ' H' => ∃ δ' M', Ext H H' ∧ SRel X.K H' σ' δ' ∧ MRel X.K H' M' ∧ whRun tc tb { lEnds X.K H D with bk := (lEnds X.K H D).nx } n δ' M', fun σ' H' ⟨δ', M', a⟩ => ⟨n, Nat.lt_succ_self n, δ', M', a⟩, ?_⟩
    have y := x1.trans x2
    exact ⟨δ1, M2, s1.ext x2, m2, tb.mono q3 ⟨fun δ' M' r σ' H' x s m => ⟨δ', M', y.trans x, s, m, r⟩, fun d M' r v H' x m dn => r v H' (y.trans x) m dn, fun δ' M' r σ' H' x s m => r σ' H' (y.trans x) s m, fun δ' M' r σ' H' x s m => ⟨δ', M', y.trans x, s, m, r⟩⟩⟩
end
theorem wh_now {c : DT} {b : DS} {E : DEnds} {δ : DSt} {M : DM} (h : ∃ n, c.run δ M fun k M1 => bcase k (b.run { E with nx := whRun c b { E with bk := E.nx } n, ct := whRun c b { E with bk := E.nx } n, bk := E.nx } δ M1) (E.nx δ M1)) : (dWhile c b).run E δ M :=
  let ⟨n, h⟩ := h; ⟨n + 1, h⟩

/-! ### for -/
/-- what is walked: its items, and what must hold of the objects at each turn -/
structure DI where
  run : DSt → DM → (List D → (DM → Prop) → DM → Prop) → Prop
  mono : ∀ {δ : DSt} {M : DM} {Q Q' : List D → (DM → Prop) → DM → Prop}, run δ M Q → (∀ ds c M', Q ds c M' → Q' ds c M') → run δ M Q'
structure ItOk (K : PySem.W.Frag) (H0 : Hp) (J : It) (items : List D) (chk : DM → Prop) : Prop where
  go : ∀ i H M, Ext H0 H → MRel K H M → chk M → i < items.length → J.go i H
  yld : ∀ i H M x H', Ext H0 H → MRel K H M → chk M → J.yld i H x H' → Ext H H' ∧ (∀ M2, MRel K H M2 → MRel K H' M2) ∧ ∀ d, items[i]? = some d → den K H' x d
  stop : ∀ i H M, Ext H0 H → MRel K H M → chk M → items.length ≤ i → J.stop i H
def lI (K : PySem.W.Frag) (t : DI) : TI := fun σ H R => ∃ δ M, SRel K H σ δ ∧ MRel K H M ∧ t.run δ M fun items chk M' => ∀ J H', Ext H H' → MRel K H' M' → ItOk K H' J items chk → R J H'
abbrev QI (X : Cx) (tg e : Expr) (t : DI) : Prop := PI X tg e (lI X.K t)
def forRun (g : DG) (b : DS) (E : DEnds) (chk : DM → Prop) : List D → DSt → DM → Prop
  | [], δ, M => chk M ∧ E.nx δ M
  | x :: xs, δ, M => chk M ∧ g.run x δ M fun δ1 M1 => b.run { E with nx := forRun g b E chk xs, ct := forRun g b E chk xs, bk := E.nx } δ1 M1
theorem forRun_mono {g : DG} {b : DS} {E E' : DEnds} (k : E.Le E') {chk : DM → Prop} : ∀ (xs : List D) (δ : DSt) (M : DM), forRun g b E chk xs δ M → forRun g b E' chk xs δ M
  | [], _, _, h => ⟨h.1, k.nx _ _ h.2⟩
  | x :: xs, δ, M, h => ⟨h.1, g.mono h.2 fun δ1 M1 q => b.mono q ⟨forRun_mono k xs, k.rt, k.nx, forRun_mono k xs⟩⟩
def dFor (w : DI) (g : DG) (b : DS) : DS := ⟨fun E δ M => w.run δ M fun items chk M1 => forRun g b E chk items δ M1, fun h k => w.mono h fun items chk M1 q => forRun_mono k items _ _ q⟩
section
variable {X : Cx} {pos : Pos}
theorem qs_for {tg iter : Expr} {body : List Stmt} {w : DI} {g : DG} {tb : DS} (hp : PassesOwn (model X.prog X.w) X.A X.env X.xe) (hc : X.calm = true) (hi : QI X tg iter w) (hg : QG X tg g) (hb : QSs X body tb)
    (hs : ∀ x, foldedSetIterable iter X.env x = pure x := by intro _; rfl) : QS X (.For tg iter body [] pos) (dFor w g tb) := by
  refine PS.imp (ps_for hp hc hi hg hb hs) fun D σ H q => ?_
  obtain ⟨δ, M, s, m, q⟩ := q
  refine ⟨δ, M, s, m, w.mono q fun items chk M1 q1 J H1 x1 m1 ok => ?_⟩
  refine ⟨fun i n σ' H' => n = items.length - i ∧ i ≤ items.length ∧ ∃ δ' M', Ext H1 H' ∧ SRel X.K H' σ' δ' ∧ MRel X.K H' M' ∧ forRun g tb (lEnds X.K H D) chk (items.drop i) δ' M', ⟨items.length, by simp, Nat.zero_le _, δ, M1, .refl H1, s.ext x1, m1, q1⟩, ?_⟩
  rintro i n σ2 H2 ⟨rfl, hi2, δ2, M2, x2, s2, m2, q2⟩
  by_cases hlt : i < items.length
  · have e : items.drop i = items[i] :: items.drop (i + 1) := List.drop_eq_getElem_cons hlt
    rw [e] at q2
    obtain ⟨hchk, q2⟩ := q2
    refine .inr ⟨ok.go i H2 M2 x2 m2 hchk hlt, fun σ' H' => ∃ δ' M', Ext H1 H' ∧ SRel X.K H' σ' δ' ∧ MRel X.K H' M' ∧ forRun g tb (lEnds X.K H D) chk (items.drop (i + 1)) δ' M', fun σ' H' ⟨δ', M', a⟩ => ⟨items.length - (i + 1), by omega, rfl, hlt, δ', M', a⟩, fun x H3 hy => ?_⟩
    obtain ⟨x3, mk, hd⟩ := ok.yld i H2 M2 x H3 x2 m2 hchk hy
    have dn := hd items[i] (List.getElem?_eq_getElem hlt)
    refine lG_step dn (s2.ext x3) (mk M2 m2) q2 fun δ4 M4 σ4 H4 x4 s4 m4 q4 => ?_
    have y := (x2.trans x3).trans x4
    refine ⟨δ4, M4, s4, m4, tb.mono q4 ⟨fun δ' M' r σ' H' x s m => ⟨δ', M', y.trans x, s, m, r⟩, fun d M' r v H' x m dn => r v H' (x1.trans (y.trans x)) m dn, fun δ' M' r σ' H' x s m => r σ' H' (x1.trans (y.trans x)) s m, fun δ' M' r σ' H' x s m => ⟨δ', M', y.trans x, s, m, r⟩⟩⟩
  · have e : i = items.length := by omega
    subst e
    rw [List.drop_length] at q2
    exact .inl ⟨ok.stop _ H2 M2 x2 m2 q2.1 (Nat.le_refl _), q2.2 σ2 H2 (x1.trans x2) s2 m2⟩
end

/-! ### what is walked -/
/-- a tuple or a list -/
def dItSeq (t : DE) : DI where
  run δ M Q := t.run δ M fun d M1 => match d with
    | .tup ds => Q ds (fun _ => True) M1
    | .lst ds => Q ds (fun _ => True) M1
    | .ref p => ∃ ds, isL M1 (.ref p) ds ∧ Q ds (fun M => isL M (.ref p) ds) M1
    | _ => False
  mono h k := t.mono h fun d M1 q => by
    revert q; split <;> intro q
    · exact k _ _ _ q
    · exact k _ _ _ q
    · obtain ⟨ds, h1, h2⟩ := q; exact ⟨ds, h1, k _ _ _ h2⟩
    · exact q
/-- the walks of a tuple, or of a list -/
structure PI2 (X : Cx) (tg iter : Expr) (t : TE) : Prop where
  run : ∀ (pins : List (Addr × Obj)) (s : Shared) (σ : L2.St) (H : Hp) (R : It → Hp → Prop), Inv X pins σ H s → t σ H (fun v H1 => ∃ a, v = .ref a ∧ (((∃ xs, SqL X.K H1 a xs) ∧ R (Itl X.K a) H1) ∨ ((∃ xs, SqT X.K H1 a xs) ∧ R (Itt X.K a) H1))) →
    wpAny (model X.prog X.w) X.A (eval iter X.env) (fun v s1 => wpAny (model X.prog X.w) X.A (pyIter v) (PIE X pins σ tg R) X.xe s1) X.xe s
theorem SqT.inj {K : PySem.W.Frag} {H : Hp} {a : Addr} {xs ys : List V} (h : SqT K H a xs) (g : SqT K H a ys) (hf : H a ≠ none ∨ True) : True := trivial
section
variable {X : Cx} {tg e : Expr} {t : DE} {te : TE}
theorem pi_two (he : PE X e te) : PI2 X tg e te := by
  refine ⟨fun pins s σ H R I h => ?_⟩
  refine thn (he.run pins s σ H _ I h) fun v s1 ⟨x, H1, I1, r1, a, ex, q1⟩ => ?_
  subst ex
  cases r1
  rcases q1 with ⟨⟨xs, hq⟩, q⟩ | ⟨⟨xs, hq⟩, q⟩
  · obtain ⟨its, rv, p, hz⟩ := I1.list hq
    refine wpAny_pyIter_list p.isList ?_
    refine ⟨s1.heap.objs.size, [s1.heap.objs.size], _, _, H1, rfl, I1.kept (t' := s1.toks) fun b o z => Heap.get?_push_of_some _ z, turn_list a _, ⟨_, Heap.get?_push_size _ rfl, rfl, rfl⟩, fun b hb => ?_, q⟩
    rw [List.mem_singleton] at hb
    rw [hb]
    exact I1.fpOk (Nat.le_refl _) I1.fresh
  · obtain ⟨its, rv, p, hz⟩ := I1.tuple hq
    refine wpAny_pyIter_tuple (show s1.heap.IsTuple a its.toArray from p) ?_
    refine ⟨s1.heap.objs.size, [s1.heap.objs.size], _, _, H1, rfl, I1.kept (t' := s1.toks) fun b o z => Heap.get?_push_of_some _ z, turn_tuple a _, ⟨_, Heap.get?_push_size _ rfl, rfl, rfl⟩, fun b hb => ?_, q⟩
    rw [List.mem_singleton] at hb
    rw [hb]
    exact I1.fpOk (Nat.le_refl _) I1.fresh
theorem it_tup {K : PySem.W.Frag} {H0 : Hp} {a : Addr} {vs : List V} {ds : List D} (sq : SqT K H0 a vs) (dv : dens K H0 vs ds) : ItOk K H0 (Itt K a) ds fun _ => True where
  go i H M x m _ hi := by
    obtain ⟨v, h1, _⟩ := dens_get (i := i) dv (List.getElem?_eq_getElem hi)
    exact ⟨vs, v, x.sqT sq, h1⟩
  yld i H M y H' x m _ hy := by
    obtain ⟨e, hy⟩ := hy
    subst e
    refine ⟨.refl _, fun _ h => h, fun d hd => ?_⟩
    obtain ⟨v, h1, h2⟩ := dens_get (i := i) dv hd
    have := hy vs (x.sqT sq)
    rw [h1] at this
    cases this
    exact den_ext x _ _ h2
  stop i H M x m _ hi := ⟨vs, x.sqT sq, by rw [dens_length dv]; exact hi⟩
theorem it_frl {K : PySem.W.Frag} {H0 : Hp} {a : Addr} {vs : List V} {ds : List D} (sq : FrL K H0 a vs) (dv : dens K H0 vs ds) : ItOk K H0 (Itl K a) ds fun _ => True where
  go i H M x m _ hi := by
    obtain ⟨v, h1, _⟩ := dens_get (i := i) dv (List.getElem?_eq_getElem hi)
    exact ⟨vs, v, (x.frL sq).sq, h1⟩
  yld i H M y H' x m _ hy := by
    obtain ⟨e, hy⟩ := hy
    subst e
    refine ⟨.refl _, fun _ h => h, fun d hd => ?_⟩
    obtain ⟨v, h1, h2⟩ := dens_get (i := i) dv hd
    have := hy vs ((x.frL sq).sq)
    rw [h1] at this
    cases this
    exact den_ext x _ _ h2
  stop i H M x m _ hi := ⟨vs, (x.frL sq).sq, by rw [dens_length dv]; exact hi⟩
theorem it_ref {K : PySem.W.Frag} {H0 : Hp} {p : Addr} {ds : List D} : ItOk K H0 (Itl K p) ds fun M => isL M (.ref p) ds where
  go i H M x m hc hi := by
    obtain ⟨a, vs, e, rd, dv⟩ := isL_rd m dref hc
    cases e
    obtain ⟨v, h1, _⟩ := dens_get (i := i) dv (List.getElem?_eq_getElem hi)
    exact ⟨vs, v, rd, h1⟩
  yld i H M y H' x m hc hy := by
    obtain ⟨e, hy⟩ := hy
    subst e
    refine ⟨.refl _, fun _ h => h, fun d hd => ?_⟩
    obtain ⟨a, vs, e, rd, dv⟩ := isL_rd m dref hc
    cases e
    obtain ⟨v, h1, h2⟩ := dens_get (i := i) dv hd
    have := hy vs rd
    rw [h1] at this
    cases this
    exact h2
  stop i H M x m hc hi := by
    obtain ⟨a, vs, e, rd, dv⟩ := isL_rd m dref hc
    cases e
    exact ⟨vs, rd, by rw [dens_length dv]; exact hi⟩
theorem qi_seq (he : QE X e t) : QI X tg e (dItSeq t) := by
  refine ⟨fun pins s σ H R I h => (pi_two (tg := tg) he).run pins s σ H R I ?_⟩
  obtain ⟨δ, M, sr, m, q⟩ := h
  refine lE_step sr m q fun d M1 v H1 x1 m1 d1 q1 => ?_
  revert q1; split <;> intro q1
  · rw [den] at d1
    obtain ⟨a, vs, rfl, sq, dv⟩ := d1
    exact ⟨a, rfl, .inr ⟨⟨vs, sq⟩, q1 _ H1 x1 m1 (it_tup sq dv)⟩⟩
  · rw [den] at d1
    obtain ⟨a, vs, rfl, sq, dv⟩ := d1
    exact ⟨a, rfl, .inl ⟨⟨vs, sq.sq⟩, q1 _ H1 x1 m1 (it_frl sq dv)⟩⟩
  · obtain ⟨ds, h1, q1⟩ := q1
    obtain ⟨a, vs, e, rd, dv⟩ := isL_rd m1 d1 h1
    rw [den] at d1
    subst e
    cases d1
    exact ⟨_, rfl, .inl ⟨⟨vs, rd⟩, q1 _ H1 x1 m1 it_ref⟩⟩
  · exact q1.elim
end
/-- range(n), range(a, b) -/
def rngD (lo : Int) (n : Nat) : List D := (List.range n).map fun (i : Nat) => D.int (lo + (i : Int))
theorem rngD_len {lo : Int} {n : Nat} : (rngD lo n).length = n := by unfold rngD; rw [List.length_map, List.length_range]
def dItR1 (t : DE) : DI where
  run δ M Q := t.run δ M fun d M1 => match d with
    | .int j => (-(2 ^ 62) ≤ j ∧ j < 2 ^ 62) ∧ Q (rngD 0 j.toNat) (fun _ => True) M1
    | _ => False
  mono h k := t.mono h fun d M1 q => by
    revert q; split <;> intro q
    · exact ⟨q.1, k _ _ _ q.2⟩
    · exact q
def dItR2 (t u : DE) : DI where
  run δ M Q := t.run δ M fun c M1 => u.run δ M1 fun d M2 => match c, d with
    | .int i, .int j => (-(2 ^ 62) ≤ i ∧ i < 2 ^ 62 ∧ -(2 ^ 62) ≤ j ∧ j < 2 ^ 62) ∧ Q (rngD i (j - i).toNat) (fun _ => True) M2
    | _, _ => False
  mono h k := t.mono h fun d M1 q => u.mono q fun d M1 q => by
    revert q; split <;> intro q
    · exact ⟨q.1, k _ _ _ q.2⟩
    · exact q
theorem it_rng {K : PySem.W.Frag} {H0 : Hp} {lo : Int} {n : Nat} : ItOk K H0 (Itr lo n) (rngD lo n) fun _ => True where
  go i H M x m hc hi := by rw [rngD_len] at hi; exact hi
  yld i H M y H' x m hc hy := by
    obtain ⟨e, hy⟩ := hy
    subst e hy
    refine ⟨.refl _, fun _ h => h, fun d hd => ?_⟩
    unfold rngD at hd
    rw [List.getElem?_map] at hd
    cases e : (List.range n)[i]? with
    | none => rw [e] at hd; cases hd
    | some j =>
      rw [e] at hd
      cases hd
      obtain ⟨h1, h2⟩ := List.getElem?_eq_some_iff.mp e
      rw [List.getElem_range] at h2
      subst h2
      exact dint
  stop i H M x m hc hi := by rw [rngD_len] at hi; exact hi
section
variable {X : Cx} {tg a b : Expr} {t u : DE} {p pos : Pos}
theorem qi_r1 (hg : Gl X "range") (hm : X.mg "range" = none) (ha : QE X a t) (hs : starEach [a] X.env = [(false, eval a X.env)] := by rfl) : QI X tg (.Call (.Name "range" p) [a] [] pos) (dItR1 t) := by
  refine ⟨fun pins s σ H R I h => (pi_range1 hg hm (pa_cons ha pa_nil hs) hs).run pins s σ H R I ?_⟩
  obtain ⟨δ, M, sr, m, q⟩ := h
  refine lE_step sr m q fun d M1 v H1 x1 m1 d1 q1 => ?_
  revert q1; split <;> intro q1
  · cases lint d1
    exact ⟨_, rfl, q1.1.1, q1.1.2, q1.2 _ H1 x1 m1 it_rng⟩
  · exact q1.elim
theorem qi_r2 (hg : Gl X "range") (hm : X.mg "range" = none) (ha : QE X a t) (hb : QE X b u) (hs : starEach [a, b] X.env = [(false, eval a X.env), (false, eval b X.env)] := by rfl) (hs2 : starEach [b] X.env = [(false, eval b X.env)] := by rfl) : QI X tg (.Call (.Name "range" p) [a, b] [] pos) (dItR2 t u) := by
  refine ⟨fun pins s σ H R I h => (pi_range2 hg hm (pa_cons ha (pa_cons hb pa_nil hs2) (by rw [hs2]; exact hs)) hs hs2).run pins s σ H R I ?_⟩
  obtain ⟨δ, M, sr, m, q⟩ := h
  refine lE_step sr m q fun d M1 v H1 x1 m1 d1 q1 => ?_
  refine lE_step (sr.ext x1) m1 q1 fun e M2 w H2 x2 m2 d2 q2 => ?_
  revert q2; split <;> intro q2
  · cases lint d1; cases lint d2
    exact ⟨_, _, rfl, q2.1, q2.2 _ H2 (x1.trans x2) m2 it_rng⟩
  · exact q2.elim
end
end LD

/-! LD4: what a def promises, calls, raise -/
namespace LD
open PySem PySem.Spec PyProof.Rows L2

/-- what is wanted where an error of the class of a name leaves -/
abbrev XD := Str → DM → Prop
def xNo : XD := fun _ _ => False
abbrev DSp := List D → DM → (D → DM → Prop) → XD → Prop
def lX (K : PySem.W.Frag) (mg : Str → Option Value) (H : Hp) (E : XK) : XD := fun x M' => ∀ C H', mg x = some (.ref C) → Ext H H' → MRel K H' M' → E (.ref C) none H'
def lSp (K : PySem.W.Frag) (mg : Str → Option Value) (n : Nat) (sp : DSp) : Sp := fun vs H Q E => vs.length = n ∧ ∃ ds M, dens K H vs ds ∧ MRel K H M ∧
  ∃ (Q0 : D → DM → Prop) (X0 : XD), (∀ d M', Q0 d M' → lQ K H Q d M') ∧ (∀ x M', X0 x M' → lX K mg H E x M') ∧ sp ds M Q0 X0
/-- a smaller part of the objects is told -/
def Wk (M : DM) (P : DM → Prop) : Prop := ∃ M', Sub M' M ∧ P M'
theorem Wk.here {M : DM} {P : DM → Prop} (h : P M) : Wk M P := ⟨M, .refl M, h⟩
theorem Wk.to {M M' : DM} {P : DM → Prop} (s : Sub M' M) (h : P M') : Wk M P := ⟨M', s, h⟩
/-- a body's ends, from a promise's -/
def spEnds (Q : D → DM → Prop) : DEnds where
  nx := fun _ M => Wk M (Q .non)
  rt := fun d M => Wk M (Q d)
def dStart (n : Nat) (ds : List D) : DSt := ds.map some ++ List.replicate (n - ds.length) none
theorem srel_start {K : PySem.W.Frag} {H : Hp} {N : List Str} {vs : List V} {ds : List D} (h : dens K H vs ds) : SRel K H (start N vs) (dStart N.length ds) := by
  have hl := dens_length h
  refine ⟨?_, fun i d e => ?_⟩
  · unfold L2.start dStart
    rw [List.length_append, List.length_append, List.length_map, List.length_map, List.length_replicate, List.length_replicate, hl]
  · unfold dStart at e
    by_cases hi : i < ds.length
    · rw [List.getElem?_append_left (by simpa using hi), List.getElem?_map] at e
      cases q : ds[i]? with
      | none => rw [q] at e; cases e
      | some d' =>
        rw [q] at e
        cases e
        obtain ⟨v, h1, h2⟩ := dens_get h q
        refine ⟨v, ?_, h2⟩
        unfold L2.start
        rw [List.getElem?_append_left (by rw [List.length_map, hl]; exact hi), List.getElem?_map, h1]
        rfl
    · rw [List.getElem?_append_right (by simpa using hi), List.getElem?_replicate] at e
      split at e <;> cases e

/-- the objects that stood at a def's entry and are never written, stand -/
theorem Inv.ext0 {X : Cx} {pins : List (Addr × Obj)} {σ : L2.St} {H : Hp} {s : Shared} (I : Inv X pins σ H s) : Ext X.H_0 H := ⟨I.base.tups, I.base.frzs⟩

section
variable {P : Program} {w : World} {K : PySem.W.Frag} {mg : Str → Option Value} {base : Heap}
/-- an exception's end of a def, with what stood at its entry -/
def lXE (K : PySem.W.Frag) (mg : Str → Option Value) (H0 : Hp) (X : XD) : XK := fun cls d H' => d = none ∧ ∃ x C M', cls = .ref C ∧ mg x = some (.ref C) ∧ MRel K H' M' ∧ X x M' ∧ Ext H0 H'
end

/-- what may be raised, a smaller part of the objects told -/
def wkX (X : XD) : XD := fun x M => Wk M (X x)

/-! ### promises -/
/-- room for calls, and no repr runs around -/
structure Rm (gb : Bool) (k : Nat) (A : Around) : Prop where
  room : Room k A
  gd : gb = true → A.guards = some []
theorem Rm.mono {j k : Nat} {A : Around} (r : Rm gb k A) (h : j ≤ k) : Rm gb j A := ⟨r.room.mono h, r.gd⟩
theorem Rm.deeper {k : Nat} {A : Around} (r : Rm gb (k + 1) A) (env : Env) : Rm gb k (A.deeper env) := ⟨r.room.deeper env, r.gd⟩
theorem Rm.hu {k : Nat} {A : Around} (r : Rm gb k A) : A.units + 64 < cLine := r.room.units
/-- the def at f keeps a promise, where such room is -/
structure FnG (gb : Bool) (P : Program) (w : World) (K : PySem.W.Frag) (mg : Str → Option Value) (base : Heap) (k : Nat) (f : Addr) (fd : FuncData) (ps : List Str) (sp : Sp) : Prop where
  len : ∀ vs H Q E, sp vs H Q E → vs.length = ps.length
  run : ∀ {A : Around} {outer : List Env} {s : Shared} {H : Hp} {args : Args} {us : List Value} {vs : List V} {Q : VK} {E : XK}, Rm gb k A → Env0 P w K mg base A outer s H →
    BindsTo s fd args (ps.zip us) → L2.Vals vs us → sp vs H Q E → codeAny (model P w) A (.call (.ref f) args) (CR (L2.CX P w) outer P w H s Q E) s
/-- the context of a body -/
abbrev bx (P : Program) (w : World) (K : PySem.W.Frag) (mg : Str → Option Value) (base : Heap) (N : List Str) (qual : Str) (scope : Scope) (f : Addr) (cd : Value) (A : Around) (outer : List Env) (s : Shared) (H : Hp) (E : XK) : Cx :=
  cxOf (L2.CX P w) P w K mg base N qual scope f cd A outer s H E
/-- the code object of the def at f -/
def CodeF (K : PySem.W.Frag) (f : Addr) (cdv : Value) : Prop := ∃ (oc : Value) (od : Option Addr) (fd : FuncData) (osl : Array (Option Value)), K.lookup f = some ⟨oc, od, .func fd, osl⟩ ∧ fd.code = cdv
theorem fnG_of {P : Program} {w : World} {K : PySem.W.Frag} {mg : Str → Option Value} {base : Heap} {k : Nat} {f : Addr} {x qual : Str} {params : Arguments} {body : List Stmt} {scope : Scope} {dvs : List V} {kws : List (Str × V)} {fd : FuncData} {N ps : List Str} {sp : Sp}
    (F : FunD K x qual params body scope dvs kws f fd) (S : FnScope N ps scope) (len : ∀ vs H Q E, sp vs H Q E → vs.length = ps.length)
    (hb : ∀ (cdv : Value) (A : Around) (outer : List Env) (s : Shared) (H : Hp) (vs : List V) (Q : VK) (E : XK), CodeF K f cdv → Rm gb k (A.deeper (envOfC qual scope s.heap.objs.size f cdv)) → sp vs H Q E →
      ∃ t, PSs (bx P w K mg base N qual scope f cdv A outer s H E) body t ∧ t { nx := fun _ H' => Q .non H', rt := Q } (start N vs) H) : FnG gb P w K mg base (k + 1) f fd ps sp := by
  obtain ⟨oc, od, dV, kV, doc, pm, an, cdv, ct, osl, rfl, lk, hcd, _, _⟩ := F.ex
  constructor
  · exact len
  · intro A outer s H args us vs Q E hr e0 hbind r hsp
    have stay : ∀ b o, base.get? b = some o → s.heap.get? b = some o := fun b o e => (e0.bs b o e).1
    have KX : K.In s.heap := PySem.W.Frag.In.keeps e0.mod.kin stay
    have lim := Heap.NoLimit.keeps e0.mod.nolimit stay
    have kinds : ∀ y ∈ ps.zip us, scope.names.lookup y.1 = some .local ∨
        (scope.names.lookup y.1 = some .cell ∧ ((cellsFrom (s.heap.objs.size + 1) scope.names []).lookup y.1).isSome = true) := by
      intro y hy
      rcases S.par y.1 (List.of_mem_zip hy).1 with q | q
      · exact Or.inl q
      · exact Or.inr ⟨q, PySem.W.cellsFrom_some _ _ _ (Or.inl q)⟩
    refine codeAny_call_function hr.room.depth (KX f _ lk) rfl S.co S.gen rfl (PySem.W.codeRec_of KX hcd) (hbind _ _ _ _ ?_)
    refine wpAny_newFunctionEnv_cells S.kind kinds fun env he s1 ic => ?_
    subst he
    refine And.intro (lim.keeps ic.toInCall.keep) (codeAny_func ?_)
    obtain ⟨t, ht, hq⟩ := hb cdv A outer s H vs Q E ⟨_, _, _, _, lk, rfl⟩ (hr.deeper _) hsp
    have I0 := inv_start (CX := L2.CX P w) (E := E) S hr.room.hd e0 (len _ _ _ _ hsp) r ic
    refine wpAny_mono (ht.run [] s1 _ H _ I0 hq) (fun fl s' hs => ?_) fun e s' hs => hs
    cases fl with
    | next =>
      obtain ⟨σ', H', J, q⟩ := hs
      exact ⟨.non, H', J.os, J.bare, J.base, J.hok, rfl, q⟩
    | ret u =>
      obtain ⟨v, σ', H', J, rv, q⟩ := hs
      exact ⟨v, H', J.os, J.bare, J.base, J.hok, rv, q⟩
    | brk => exact hs.elim fun _ z => z.elim fun _ z => z.2.elim
    | cont => exact hs.elim fun _ z => z.elim fun _ z => z.2.elim
theorem FnG.mono {P : Program} {w : World} {K : PySem.W.Frag} {mg : Str → Option Value} {base : Heap} {j k : Nat} {f : Addr} {fd : FuncData} {ps : List Str} {sp : Sp} (F : FnG gb P w K mg base j f fd ps sp) (h : j ≤ k) : FnG gb P w K mg base k f fd ps sp :=
  ⟨F.len, fun hr => F.run (hr.mono h)⟩
/-- a name of the module is a def that keeps a promise -/
structure Good (gb : Bool) (P : Program) (w : World) (K : PySem.W.Frag) (mg : Str → Option Value) (base : Heap) (x : Str) (k : Nat) (ps : List Str) (sp : DSp) : Prop where
  ex : ∃ f fd, mg x = some (.ref f) ∧ PySem.W.keepIn K (.ref f) = true ∧ Binds K fd ps [] ∧ FnG gb P w K mg base k f fd ps (lSp K mg ps.length sp)
theorem Good.mono {P : Program} {w : World} {K : PySem.W.Frag} {mg : Str → Option Value} {base : Heap} {x : Str} {j k : Nat} {ps : List Str} {sp : DSp} (g : Good gb P w K mg base x j ps sp) (h : j ≤ k) : Good gb P w K mg base x k ps sp :=
  let ⟨f, fd, h1, h2, h3, h4⟩ := g.ex; ⟨f, fd, h1, h2, h3, h4.mono h⟩

/-! ### calls -/
def callQ (sp : DSp) (ds : List D) (M : DM) (Q : D → DM → Prop) (X : XD) : Prop :=
  ∃ Q0 : D → DM → Prop, ∃ X0 : XD, (∀ d M', Q0 d M' → Q d M') ∧ (∀ x M', X0 x M' → X x M') ∧ GhV ds M fun ds' M' => sp ds' M' Q0 X0
theorem callQ.go {sp : DSp} {ds : List D} {M : DM} {Q : D → DM → Prop} {X : XD} (h : sp ds M Q X) : callQ sp ds M Q X := ⟨Q, X, fun _ _ q => q, fun _ _ q => q, .here h⟩
theorem callQ.gh {sp : DSp} {ds : List D} {M : DM} {Q : D → DM → Prop} {X : XD} (h : GhV ds M fun ds' M' => sp ds' M' Q X) : callQ sp ds M Q X := ⟨Q, X, fun _ _ q => q, fun _ _ q => q, h⟩
theorem callQ.mono {sp : DSp} {ds : List D} {M : DM} {Q Q' : D → DM → Prop} {X : XD} (h : callQ sp ds M Q X) (k : ∀ d M', Q d M' → Q' d M') : callQ sp ds M Q' X := by
  obtain ⟨Q0, X0, h1, h2, h3⟩ := h
  exact ⟨Q0, X0, fun d M' q => k _ _ (h1 d M' q), h2, h3⟩
/-- f(e, ..) -/
def dCall (sp : DSp) (t : DA) (X : XD) : DE where
  run δ M Q := t.run δ M fun ds M1 => callQ sp ds M1 Q X
  mono h k := t.mono h fun ds M1 q => q.mono k
/-- what is raised is taken as the body wishes -/
def Lets (X : Cx) (E : XD) : Prop := Takes X (fun cls d _ H => lXE X.K X.mg X.H_0 E cls d H)
section
variable {X : Cx}
theorem lets_no : Lets X xNo := takes0.imp fun cls d σ H h => by
  obtain ⟨_, _, _, _, _, _, _, z, _⟩ := h
  exact z
theorem lets_bx {P : Program} {w : World} {K : PySem.W.Frag} {mg : Str → Option Value} {base : Heap} {N : List Str} {qual : Str} {scope : Scope} {f : Addr} {cd : Value} {A : Around} {outer : List Env} {s : Shared} {H : Hp} {E : XK} {X0 : XD} (h : ∀ x M', X0 x M' → lX K mg H E x M') :
    Lets (bx P w K mg base N qual scope f cd A outer s H E) (wkX X0) := (takes_of (E := E) rfl rfl rfl rfl).imp fun cls d σ H' q => by
  obtain ⟨rfl, x, C, M', rfl, e, m, ⟨M2, sub, q⟩, x0⟩ := q
  exact h x M2 q C H' e x0 (m.sub sub)
/-- a call, from a body -/
theorem run_call {k : Nat} {ps : List Str} {sp : DSp} {E : XD} {f : Addr} {fd : FuncData} (F : FnG gb X.prog X.w X.K X.mg X.base k f fd ps (lSp X.K X.mg ps.length sp)) (hr : Rm gb k X.A) (hb : Binds X.K fd ps []) (lt : Lets X E)
    {pins : List (Addr × Obj)} {σ : L2.St} {H : Hp} {s : Shared} {Q : VK} {us : List Value} {vs : List V} {ds : List D} {M : DM} (hn : vs.length = ps.length) (I : Inv X pins σ H s) (r : L2.Vals vs us) (dv : dens X.K H vs ds) (m : MRel X.K H M) (q : callQ sp ds M (lQ X.K H Q) E) :
    wpAny (model X.prog X.w) X.A (call (.ref f) us) (EP X pins σ Q) X.xe s := by
  obtain ⟨Q0, X0, h1, h2, ds', M', imp, q⟩ := q
  obtain ⟨H', fz, d', m'⟩ := imp X.prog X.w X.K H s.heap vs I.hok dv m
  have I' := fz.inv I
  have i0 := Inv.ext0 I'
  have hsp : lSp X.K X.mg ps.length sp vs H' Q (lXE X.K X.mg X.H_0 X0) := ⟨hn, ds', M', d', m', Q0, X0, fun d M2 q2 v H2 x2 => h1 d M2 q2 v H2 (fz.ext.trans x2), fun y M2 q2 C H2 e x2 m2 => ⟨rfl, y, C, M2, rfl, e, m2, q2, i0.trans x2⟩, q⟩
  have hl : (us ++ ([] : List Value)).length = ps.length := by rw [List.append_nil, ← r.length]; exact hn
  have hbind := hb s us I'.kIn hl
  rw [List.append_nil] at hbind
  refine wpAny_call (codeAny_mono (F.run hr I'.env0 hbind r hsp) fun rs s' hq => ?_)
  cases rs with
  | error e => exact passes_call lt (fun cls d σ H2 hE => ⟨hE.1, hE.2.elim fun y z => z.elim fun C z => z.elim fun M2 z => ⟨y, C, M2, z.1, z.2.1, z.2.2.1, h2 _ _ z.2.2.2.1, z.2.2.2.2⟩⟩) pins σ H' s e s' I' hq
  | ok fl =>
    cases fl with
    | ret u => exact I'.after hq
    | next => exact False.elim hq
    | brk => exact False.elim hq
    | cont => exact False.elim hq
variable {x : Str} {p pos : Pos} {e : Expr} {es : List Expr} {t : DA} {k : Nat} {ps : List Str} {sp : DSp} {E : XD}
theorem qe_call (G : Good gb X.prog X.w X.K X.mg X.base x k ps sp) (hr : Rm gb k X.A) (lt : Lets X E) (hg : Gl X x) (ha : QA X (e :: es) t) (hn : (e :: es).length = ps.length)
    (hl : ∀ pins s σ H Q, Inv X pins σ H s → lA X.K t σ H Q → lA X.K t σ H fun vs H1 => vs.length = (e :: es).length ∧ Q vs H1)
    (hdb : (x == ("__debug__" : Str)) = false := by decide) (he : starEach (e :: es) X.env = (false, eval e X.env) :: starEach es X.env := by rfl) (hpl : (backTo pos (starEach es X.env)).any (·.1) = false := by rfl) :
    QE X (.Call (.Name x p) (e :: es) [] pos) (dCall sp t E) := by
  obtain ⟨f, fd, hm, hk, hb, F⟩ := G.ex
  refine ⟨fun pins s σ H Q I h => ?_⟩
  obtain ⟨δ, M, sr, m, q⟩ := h
  refine wpAny_Call_Name_kw (ld_glob I hg hm ?_ hdb)
  have q2 : lA X.K t σ H fun vs H1 => ∃ ds M1, Ext H H1 ∧ dens X.K H1 vs ds ∧ MRel X.K H1 M1 ∧ callQ sp ds M1 (lQ X.K H Q) E := lA_step sr m q fun ds M1 vs H1 x1 m1 d1 q1 => ⟨ds, M1, x1, d1, m1, q1⟩
  refine PySem.W.callWith_K (h₀ := X.base) I.ok.mod.kin hk (thn (ha.run pos pins s σ H _ I (hl pins s σ H _ I q2)) fun us s1 ⟨vs, H1, I1, r, hv, ds, M1, x1, d1, m1, q1⟩ => ⟨I1.kIn, ?_⟩) he hpl
  exact run_call F hr hb lt (hv.trans hn) I1 r d1 m1 (q1.mono fun _ _ h => lQ_ext x1 h)
theorem qe_call0 (G : Good gb X.prog X.w X.K X.mg X.base x k [] sp) (hr : Rm gb k X.A) (lt : Lets X E) (hg : Gl X x) (hdb : (x == ("__debug__" : Str)) = false := by decide) : QE X (.Call (.Name x p) [] [] pos) (dCall sp dNil E) := by
  obtain ⟨f, fd, hm, hk, hb, F⟩ := G.ex
  refine ⟨fun pins s σ H Q I h => ?_⟩
  obtain ⟨δ, M, sr, m, q⟩ := h
  refine wpAny_Call_Name_kw (ld_glob I hg hm ?_ hdb)
  exact PySem.W.callWith_K0 I.kIn hk (run_call F hr hb lt rfl I .nil dens_nil m q)
/-! the number of arguments -/
theorem la_nil : ∀ pins s σ H Q, Inv X pins σ H s → lA X.K dNil σ H Q → lA X.K dNil σ H fun vs H1 => vs.length = ([] : List Expr).length ∧ Q vs H1 := fun _ _ σ H Q _ ⟨δ, M, sr, m, q⟩ =>
  ⟨δ, M, sr, m, fun vs H1 x1 m1 d1 => ⟨by rw [dens_length d1]; rfl, q vs H1 x1 m1 d1⟩⟩
end
/-- an argument list gives that many -/
structure DA.Is (t : DA) (n : Nat) : Prop where
  is : ∀ {δ M Q}, t.run δ M Q → t.run δ M fun ds M' => ds.length = n ∧ Q ds M'
theorem is_nil : dNil.Is 0 := ⟨fun h => ⟨rfl, h⟩⟩
theorem is_cons {t : DE} {r : DA} {n : Nat} (h : r.Is n) : (dCons t r).Is (n + 1) := ⟨fun {δ M Q} q => t.mono q fun d M1 q => r.mono (h.is q) fun ds M2 q => ⟨congrArg Nat.succ q.1, q.2⟩⟩
section
variable {X : Cx} {x : Str} {p pos : Pos} {e : Expr} {es : List Expr} {t : DA} {k : Nat} {ps : List Str} {sp : DSp} {E : XD}
/-- f(e, ..) of a def of the module -/
theorem qe_fn (G : Good gb X.prog X.w X.K X.mg X.base x k ps sp) (hr : Rm gb k X.A) (lt : Lets X E) (hg : Gl X x) (ha : QA X (e :: es) t) (hi : t.Is ps.length) (hn : (e :: es).length = ps.length := by rfl)
    (hdb : (x == ("__debug__" : Str)) = false := by decide) (he : starEach (e :: es) X.env = (false, eval e X.env) :: starEach es X.env := by rfl) (hpl : (backTo pos (starEach es X.env)).any (·.1) = false := by rfl) :
    QE X (.Call (.Name x p) (e :: es) [] pos) (dCall sp t E) := by
  refine qe_call G hr lt hg ha hn (fun pins s σ H Q I h => ?_) hdb he hpl
  obtain ⟨δ, M, sr, m, q⟩ := h
  exact ⟨δ, M, sr, m, t.mono (hi.is q) fun ds M1 q1 vs H1 x1 m1 d1 => ⟨by rw [dens_length d1, hn]; exact q1.1, q1.2 vs H1 x1 m1 d1⟩⟩
end

/-! ### a def keeps its promise -/
theorem fn_goodC {P : Program} {w : World} {K : PySem.W.Frag} {mg : Str → Option Value} {base : Heap} {k : Nat} {f : Addr} {x qual : Str} {params : Arguments} {body : List Stmt} {scope : Scope} {dvs : List V} {kws : List (Str × V)} {fd : FuncData} {N ps : List Str} {sp : DSp} {b : XD → DS}
    (F : FunD K x qual params body scope dvs kws f fd) (S : FnScope N ps scope)
    (pure : ∀ ds M Q X, ds.length = ps.length → sp ds M Q X → (b (wkX X)).run (spEnds Q) (dStart N.length ds) M)
    (hd : ∀ (cdv : Value) (A : Around) (outer : List Env) (s : Shared) (H : Hp) (E : XK) (X : XD), CodeF K f cdv → Rm gb k (bx P w K mg base N qual scope f cdv A outer s H E).A → Lets (bx P w K mg base N qual scope f cdv A outer s H E) X → QSs (bx P w K mg base N qual scope f cdv A outer s H E) body (b X)) :
    FnG gb P w K mg base (k + 1) f fd ps (lSp K mg ps.length sp) := by
  refine fnG_of F S (fun vs H Q E h => h.1) fun cdv A outer s H vs Q E hc hr h => ?_
  obtain ⟨hl, ds, M, dv, m, Q0, X0, h1, h2, q⟩ := h
  refine ⟨_, hd cdv A outer s H E (wkX X0) hc hr (lets_bx h2), dStart N.length ds, M, srel_start dv, m, ?_⟩
  refine (b (wkX X0)).mono (pure ds M Q0 X0 ((dens_length dv).symm.trans hl) q) ⟨fun δ M' ⟨M2, sub, z⟩ σ' H' x1 sr m1 => h1 _ _ z _ H' x1 (m1.sub sub) dnon, fun d M' ⟨M2, sub, z⟩ v H' x1 m1 dn => h1 _ _ z v H' x1 (m1.sub sub) dn, fun _ _ z => z.elim, fun _ _ z => z.elim⟩
theorem fn_good {P : Program} {w : World} {K : PySem.W.Frag} {mg : Str → Option Value} {base : Heap} {k : Nat} {f : Addr} {x qual : Str} {params : Arguments} {body : List Stmt} {scope : Scope} {dvs : List V} {kws : List (Str × V)} {fd : FuncData} {N ps : List Str} {sp : DSp} {b : XD → DS}
    (F : FunD K x qual params body scope dvs kws f fd) (S : FnScope N ps scope)
    (pure : ∀ ds M Q X, ds.length = ps.length → sp ds M Q X → (b (wkX X)).run (spEnds Q) (dStart N.length ds) M)
    (hd : ∀ (cdv : Value) (A : Around) (outer : List Env) (s : Shared) (H : Hp) (E : XK) (X : XD), Rm gb k (bx P w K mg base N qual scope f cdv A outer s H E).A → Lets (bx P w K mg base N qual scope f cdv A outer s H E) X → QSs (bx P w K mg base N qual scope f cdv A outer s H E) body (b X)) :
    FnG gb P w K mg base (k + 1) f fd ps (lSp K mg ps.length sp) :=
  fn_goodC F S pure fun cdv A outer s H E X _ hr lt => hd cdv A outer s H E X hr lt
theorem good_of {P : Program} {w : World} {K : PySem.W.Frag} {mg : Str → Option Value} {base : Heap} {k : Nat} {f : Addr} {x qual : Str} {params : Arguments} {body : List Stmt} {scope : Scope} {dvs : List V} {kws : List (Str × V)} {fd : FuncData} {N ps : List Str} {sp : DSp} {b : XD → DS}
    (F : FunD K x qual params body scope dvs kws f fd) (hm : mg x = some (.ref f)) (hbi : Binds K fd ps []) (S : FnScope N ps scope)
    (pure : ∀ ds M Q X, ds.length = ps.length → sp ds M Q X → (b (wkX X)).run (spEnds Q) (dStart N.length ds) M)
    (hd : ∀ (cdv : Value) (A : Around) (outer : List Env) (s : Shared) (H : Hp) (E : XK) (X : XD), Rm gb k (bx P w K mg base N qual scope f cdv A outer s H E).A → Lets (bx P w K mg base N qual scope f cdv A outer s H E) X → QSs (bx P w K mg base N qual scope f cdv A outer s H E) body (b X)) :
    Good gb P w K mg base x (k + 1) ps sp :=
  ⟨f, fd, hm, F.kp, hbi, fn_good F S pure hd⟩
theorem po_bx {P : Program} {w : World} {K : PySem.W.Frag} {mg : Str → Option Value} {base : Heap} {N : List Str} {qual : Str} {scope : Scope} {f : Addr} {cd : Value} {A : Around} {outer : List Env} {s : Shared} {H : Hp} {E : XK} :
    PassesOwn (model P w) (bx P w K mg base N qual scope f cd A outer s H E).A (bx P w K mg base N qual scope f cd A outer s H E).env (bx P w K mg base N qual scope f cd A outer s H E).xe := passes_of (X := bx P w K mg base N qual scope f cd A outer s H E) rfl

/-! ### raise -/
/-- raise C('..'), C an own error class -/
def dRaise (x : Str) (X : XD) : DS := ⟨fun _ _ M => X x M, fun h _ => h⟩
/-- what the text says of an own error class -/
structure ErrC (K : PySem.W.Frag) (mg : Str → Option Value) (x : Str) : Prop where
  ex : ∃ C, mg x = some (.ref C) ∧ PySem.W.excIn K C He.veBase "ValueError.__new__" = true ∧ PySem.W.keepIn K (.ref C) = true ∧ PySem.W.subIn K (.ref C) (.type "BaseException") = some true ∧ PySem.W.typeIn K (.ref C) = some (.type "type")
section
variable {X : Cx} {x m : Str} {j : Nat} {p p2 pos pos2 : Pos} {E : XD}
theorem qs_raise (ex : ErrC X.K X.mg x) (lt : Lets X E) (hc : X.calm = true) (hg : Gl X x) (hdb : (x == ("__debug__" : Str)) = false := by decide) :
    QS X (.Raise (some (.Call (.Name x p) [.Constant (.str m) j p2] [] pos)) none pos2) (dRaise x E) := by
  obtain ⟨C, e1, e2, e3, e4, e5⟩ := ex.ex
  refine ⟨fun pins s σ H Dd I h => ?_⟩
  obtain ⟨δ, M, sr, mr, q⟩ := h
  exact (ps_raise hc lt (pmk_own PySem.F.excBase_ValueError e2 e1 e3 (raises_own e4 e5) hg hdb)).run pins s σ H Dd I ⟨rfl, x, C, M, rfl, e1, mr, q, Inv.ext0 I⟩
end

/-! ### enumerate of a list -/
def enumD : Nat → List D → List D
  | _, [] => []
  | i, d :: ds => .tup [.int (i : Int), d] :: enumD (i + 1) ds
theorem enumD_len : ∀ (ds : List D) (i : Nat), (enumD i ds).length = ds.length
  | [], _ => rfl
  | _ :: ds, i => congrArg Nat.succ (enumD_len ds (i + 1))
theorem enumD_get : ∀ (ds : List D) (i j : Nat), (enumD i ds)[j]? = (ds[j]?).map fun d => D.tup [.int ((i + j : Nat) : Int), d]
  | [], _, _ => by simp [enumD]
  | d :: ds, i, 0 => by simp [enumD]
  | d :: ds, i, j + 1 => by
    simp only [enumD, List.getElem?_cons_succ]
    rw [enumD_get ds (i + 1) j]
    congr 1
    funext e
    rw [show i + 1 + j = i + (j + 1) by omega]
def dItEnum (t : DE) : DI where
  run δ M Q := t.run δ M fun d M1 => match d with
    | .lst ds => Q (enumD 0 ds) (fun _ => True) M1
    | .ref p => ∃ ds, isL M1 (.ref p) ds ∧ Q (enumD 0 ds) (fun M => isL M (.ref p) ds) M1
    | _ => False
  mono h k := t.mono h fun d M1 q => by
    revert q; split <;> intro q
    · exact k _ _ _ q
    · obtain ⟨ds, h1, h2⟩ := q; exact ⟨ds, h1, k _ _ _ h2⟩
    · exact q
theorem it_enum {K : PySem.W.Frag} {H0 : Hp} {a : Addr} {ds : List D} {chk : DM → Prop} (hc : ∀ H M, Ext H0 H → MRel K H M → chk M → ∃ vs, SqL K H a vs ∧ dens K H vs ds) : ItOk K H0 (Ite K a) (enumD 0 ds) chk where
  go i H M x m c hi := by
    rw [enumD_len] at hi
    obtain ⟨vs, rd, dv⟩ := hc H M x m c
    obtain ⟨v, h1, _⟩ := dens_get (i := i) dv (List.getElem?_eq_getElem hi)
    exact ⟨vs, v, rd, h1⟩
  yld i H M y H' x m c hy := by
    obtain ⟨T, v, e1, hT, e2, hv⟩ := hy
    subst e1 e2
    refine ⟨.new hT, fun M2 m2 => m2.grow hT, fun d hd => ?_⟩
    obtain ⟨vs, rd, dv⟩ := hc H M x m c
    rw [enumD_get] at hd
    cases q : ds[i]? with
    | none => rw [q] at hd; cases hd
    | some d0 =>
      rw [q] at hd
      cases hd
      obtain ⟨u, h1, h2⟩ := dens_get (i := i) dv q
      have h3 := hv vs rd
      rw [h1] at h3
      cases h3
      rw [den]
      refine ⟨T, _, rfl, .of upd_same, dens_cons ?_ (dens_cons (den_ext (.new hT) _ _ h2) dens_nil)⟩
      rw [Nat.zero_add]
      exact dint
  stop i H M x m c hi := by
    rw [enumD_len] at hi
    obtain ⟨vs, rd, dv⟩ := hc H M x m c
    exact ⟨vs, rd, by rw [dens_length dv]; exact hi⟩
section
variable {X : Cx} {e : Expr} {t : DE} {p pos tpos : Pos} {elts : List Expr} {kk : Nat}
theorem qi_enum (hg : Gl X "enumerate") (hm : X.mg "enumerate" = none) (ha : QE X e t) (hs : starEach [e] X.env = [(false, eval e X.env)] := by rfl) :
    QI X (.Tuple elts kk tpos) (.Call (.Name "enumerate" p) [e] [] pos) (dItEnum t) := by
  refine ⟨fun pins s σ H R I h => (pi_enum hg hm (pa_cons ha pa_nil hs) hs).run pins s σ H R I ?_⟩
  obtain ⟨δ, M, sr, m, q⟩ := h
  refine lE_step sr m q fun d M1 v H1 x1 m1 d1 q1 => ?_
  revert q1; split <;> intro q1
  · rw [den] at d1
    obtain ⟨a, vs, rfl, sq, dv⟩ := d1
    exact ⟨a, vs, rfl, sq.sq, q1 _ H1 x1 m1 (it_enum fun H M x m _ => ⟨vs, (x.frL sq).sq, dens_ext x _ _ dv⟩)⟩
  · obtain ⟨ds, h1, q1⟩ := q1
    obtain ⟨a, vs, e, rd, dv⟩ := isL_rd m1 d1 h1
    have d2 := d1
    rw [den] at d2
    subst e
    cases d2
    exact ⟨_, vs, rfl, rd, q1 _ H1 x1 m1 (it_enum fun H M x m c => by
      obtain ⟨b, us, e, rd2, dv2⟩ := isL_rd m dref c
      cases e
      exact ⟨us, rd2, dv2⟩)⟩
  · exact q1.elim
end

/-! ### repr -/
def rRepr : DC where
  run xs M Q := match xs with
    | [.str z] => (reprText z).length ≤ sizeLine ∧ Q (.str (reprText z)) M
    | [x] => ∃ t, dat M t x ∧ t.showable = true ∧ t.shown.length ≤ sizeLine ∧ t.depth < 100 ∧ Q (.str t.shown) M
    | _ => False
  mono {xs M Q Q'} h k := by
    revert h
    split <;> intro h
    · exact ⟨h.1, k _ _ h.2⟩
    · obtain ⟨t, h1, h2, h3, h4, h5⟩ := h; exact ⟨t, h1, h2, h3, h4, k _ _ h5⟩
    · exact h
mutual
theorem dat_noDict {M : DM} : ∀ (t : PyData) (d : D), dat M t d → t.hasDict = false
  | .none, d, h => by rw [PyData.hasDict]
  | .bool b, d, h => by rw [PyData.hasDict]
  | .int b, d, h => by rw [PyData.hasDict]
  | .str b, d, h => by rw [PyData.hasDict]
  | .list ts, d, h => by rw [dat] at h; obtain ⟨ds, h1, h2⟩ := h; rw [PyData.hasDict]; exact dats_noDict ts ds h2
  | .tuple ts, d, h => by rw [dat] at h; obtain ⟨ds, h1, h2⟩ := h; rw [PyData.hasDict]; exact dats_noDict ts ds h2
  | .dict _, d, h => by rw [dat] at h; exact h.elim
theorem dats_noDict {M : DM} : ∀ (ts : List PyData) (ds : List D), dats M ts ds → PyData.hasDictAll ts = false
  | [], ds, h => by rw [PyData.hasDictAll]
  | t :: ts, ds, h => by
    rw [dats] at h
    obtain ⟨d, r, e, h1, h2⟩ := h
    rw [PyData.hasDictAll, dat_noDict t d h1, dats_noDict ts r h2]
    rfl
end
section
variable {X : Cx}
theorem c_repr {k : Nat} (hr : Rm true k X.A) : OC X (.builtin "repr") rRepr := by
  intro pins s σ H vs us Q I r h
  obtain ⟨ds, M, hd, m, q⟩ := h
  have hu := hr.room.un
  have hg := hr.gd rfl
  dsimp only [rRepr] at q
  split at q
  · obtain ⟨v, rfl, d1⟩ := dens1 hd
    cases lstr d1
    obtain ⟨u, rfl, t, rfl⟩ := vals1 r
    exact PySem.P.repr_of_str ⟨.str _, H, I.tok _, ⟨_, rfl⟩, q.2 _ _ (.refl H) m dstr⟩ q.1
  · obtain ⟨v, rfl, d1⟩ := dens1 hd
    obtain ⟨t, h1, h2, h3, h4, q⟩ := q
    obtain ⟨u, rfl, ru⟩ := vals1 r
    have dp := dat_dp m t _ _ h1 d1
    obtain ⟨as, rd⟩ := Dp.reads I t v u dp ru
    have fin : ∀ (h' : Heap) (u : Tok) (tk : Nat), (∀ b o, s.heap.get? b = some o → h'.get? b = some o) → EP X pins σ Q (.str t.shown u) { s with heap := h', toks := tk } := fun h' u tk kp =>
      ⟨.str _, H, I.kept (t' := tk) kp, ⟨_, rfl⟩, q _ _ (.refl H) m dstr⟩
    have ref : ∀ a, u = .ref a → wpAny (model X.prog X.w) X.A (call (.builtin "repr") [u]) (EP X pins σ Q) X.xe s := by
      rintro a rfl
      exact repr_of_reads' rd h2 (PyData.noDict_hsm (dat_noDict t _ h1)) hg (by omega) (fun _ _ e => e) fin h3
    cases dp with
    | non =>
      cases ru
      simp only [PyData.shown] at fin
      exact PySem.P.repr_of_none (fin s.heap _ _ fun _ _ e => e)
    | bl b =>
      cases ru
      simp only [PyData.shown] at fin
      exact PySem.P.repr_of_bool (fin s.heap _ _ fun _ _ e => e)
    | int i =>
      obtain ⟨t, rfl⟩ := ru
      simp only [PyData.shown] at fin
      have h2 : decide (i.natAbs.log2 < 1920) = true := by simpa only [PyData.showable] using h2
      exact PySem.P.repr_of_int (of_decide_eq_true h2) (fin s.heap _ _ fun _ _ e => e)
    | str z =>
      obtain ⟨t, rfl⟩ := ru
      simp only [PyData.shown] at fin h3
      exact PySem.P.repr_of_str (fin s.heap _ _ fun _ _ e => e) h3
    | lst h => exact ref _ ru
    | tup h => exact ref _ ru
  · exact q.elim
end
end LD

/-! LD5: the end of a law -/
namespace LD
open PySem PySem.Spec PyProof.Rows L2

/-- the script alone is told, where the module does not hold it itself -/
def scrH (t : Bool) (a : Addr) (u : HO) : Hp := fun b => if b = a then (if t then some u else none) else none
theorem scrH_other {t : Bool} {a b : Addr} {u : HO} (h : b ≠ a) : scrH t a u b = none := if_neg h
theorem scrH_f {a b : Addr} {u : HO} : scrH false a u b = none := by unfold scrH; split <;> rfl
theorem scrH_t {a : Addr} {u : HO} : scrH true a u a = some u := by unfold scrH; rw [if_pos rfl]; rfl
theorem scrH_cases {t : Bool} {a b : Addr} {u v : HO} (h : scrH t a u b = some v) : b = a ∧ t = true ∧ v = u := by
  unfold scrH at h
  split at h
  · rename_i e
    cases t
    · cases h
    · cases h; exact ⟨e, rfl, rfl⟩
  · cases h
section
variable {P : Program} {w : World} {K : PySem.W.Frag} {mg mb : Str → Option Value} {k : Nat} {fa a : Addr} {fd : FuncData} {x : Str} {sp : DSp} {s : Shared} {vs : List Value} {ns : List Int}
/-- the law's def is run at the script -/
theorem law_run (KX : K.In s.heap) (hns : s.heap.Ns mainGlobals mg) (hb : s.heap.Ns builtinsNs mb) (hbb : ∀ y : Str, y ≠ "__name__" → mb y = bootBuiltins y) (hlim : s.heap.NoLimit) (hg : s.gens = #[])
    (ha : s.heap.get? a = some { cls := .type "list", data := .seq vs.toArray }) (hi : IntsAre vs ns) (hl : ns.length ≤ sizeLine) (hr : Rm gb k callerA)
    (F : ∀ base : Heap, K.In base → base.Ns mainGlobals mg → FnG gb P w K mg base k fa fd [x] (lSp K mg 1 sp)) (hbind : ∀ (s : Shared) (u : Value), BindsTo s fd ⟨[u], []⟩ [(x, u)])
    (hsp : sp [.lst (ns.map D.int)] (fun _ => none) (fun d _ => d = .bl true) xNo) :
    codeAny (model P w) callerA (.call (.ref fa) ⟨[.ref a], []⟩) (fun r s' => r = .ok (.ret (.bool true)) ∧ OldK s.heap s'.heap ∧ s'.os = s.os ∧ AllBare s'.gens) s := by
  let ob : Obj := { cls := .type "list", data := .seq vs.toArray }
  let u : HO := .frz ob (.lst (ns.map V.int))
  have rv := vals_ints hi
  have hlen := hi.length
  -- at any choice of t that fits, the run
  have go : ∀ t : Bool, (t = true → K.lookup a = none) → (t = false → K.lookup a = some ob) →
      codeAny (model P w) callerA (.call (.ref fa) ⟨[.ref a], []⟩) (fun r s' => r = .ok (.ret (.bool true)) ∧ OldK s.heap s'.heap ∧ s'.os = s.os ∧ AllBare s'.gens) s := by
    intro t ht hf
    have ok : HOk P w (scrH t a u) s.heap := by
      intro b v e
      obtain ⟨rfl, _, rfl⟩ := scrH_cases e
      exact ⟨ha, by rw [List.length_map]; exact hl, vs, _, rv, ha⟩
    have dict : ∀ {b : Addr} {o : Obj} {es : Array DictEntry} {ep : Nat}, s.heap.get? b = some o → o.data = .dict es ep → scrH t a u b = none := by
      intro b o es ep e d
      refine scrH_other fun z => ?_
      subst z
      rw [ha] at e
      cases e
      exact nomatch (show Data.seq vs.toArray _ = Data.dict es ep from d)
    have nsB : ∀ {b : Addr} {m : Str → Option Value}, s.heap.Ns b m → (hidT s.heap (scrH t a u)).Ns b m := fun ⟨o, es, ep, e, d, r⟩ => ⟨o, es, ep, hidT_get e (dict e d), d, r⟩
    have KB : K.In (hidT s.heap (scrH t a u)) := by
      intro b o e
      refine hidT_get (KX b o e) ?_
      cases q : scrH t a u b with
      | none => rfl
      | some v =>
        obtain ⟨rfl, ht', _⟩ := scrH_cases q
        rw [ht ht'] at e
        cases e
    have md : Mod K mg (hidT s.heap (scrH t a u)) := ⟨KB, nsB hns, ⟨mb, nsB hb, hbb⟩, hlim.elim fun mc z => ⟨mc, nsB z.1, z.2⟩⟩
    have e0 : Env0 P w K mg (hidT s.heap (scrH t a u)) callerA [] s (scrH t a u) :=
      ⟨rfl, md, fun b o e => of_hidT e, Nat.le_of_eq (hidT_size _ _), trivial, fun b hb => (List.not_mem_nil hb).elim, ok, .of_eq hg⟩
    have dn : den K (scrH t a u) (.ref a) (.lst (ns.map D.int)) := by
      rw [den]
      refine ⟨a, ns.map V.int, rfl, ?_, dens_ints⟩
      cases t with
      | true => exact .inl ⟨ob, scrH_t⟩
      | false => exact .inr ⟨ob, vs.toArray, 0, hf rfl, rfl, rfl, rfl, by rw [List.size_toArray, hlen]; exact hl, rv⟩
    have hS : lSp K mg 1 sp [.ref a] (scrH t a u) (fun v _ => v = .bl true) fun _ _ _ => False := by
      refine ⟨rfl, _, fun _ => none, dens_cons dn dens_nil, (fun _ _ e => nomatch e), _, _, fun d M q v H' _ _ d' => ?_, fun _ _ q => q.elim, hsp⟩
      subst q
      exact lbl d'
    refine codeAny_mono ((F _ KB (nsB hns)).run (args := ⟨[.ref a], []⟩) (us := [.ref a]) (vs := [.ref a]) hr e0 (hbind s _) (.cons rfl .nil) hS) fun r s' h => ?_
    cases r with
    | error e => exact h.elim fun _ z => z.elim fun _ z => z.elim fun _ z => z.elim fun _ z => z.elim fun _ z => z.2.2.2.2.2.2.2.elim
    | ok fl =>
      cases fl with
      | next => exact h.elim
      | brk => exact h.elim
      | cont => exact h.elim
      | ret y =>
        obtain ⟨v, H', os, bare, un, ok', r', q⟩ := h
        subst q
        cases r'
        refine ⟨rfl, OldK.of_keep fun b o e => ?_, os, bare⟩
        cases q : scrH t a u b with
        | none => exact un.keep b o e q List.not_mem_nil List.not_mem_nil
        | some v =>
          obtain ⟨rfl, _, rfl⟩ := scrH_cases q
          have e1 := (ok' _ _ (un.frzs _ _ _ q)).1
          rw [ha] at e
          cases e
          exact e1
  cases hk : K.lookup a with
  | none => exact go true (fun _ => hk) fun z => nomatch z
  | some o =>
    have e := KX a o hk
    rw [ha] at e
    cases e
    exact go false (fun z => nomatch z) fun _ => hk
end
theorem rm_caller {k : Nat} (h1 : callerA.depth + 3 * k + 5 < recursionLimit) (h2 : callerA.units + 16 * k + 200 < cLine) : Rm gb k callerA := ⟨⟨rfl, h1, h2⟩, fun _ => rfl⟩
/-- a law, from its def's promise -/
theorem law_end {l : PySem.W.OpenLaw} {n k : Nat} {q : Program} {loose : List Str} {XP : (Str → Option Value) → Heap → Prop} {YP : World → Heap → Prop} {d : DefRec} {x : Str}
    (hn : l.most = some n) (hn2 : n ≤ sizeLine) (hdf : d.params.defaults = []) (hr : Rm gb k callerA)
    (F : ∀ (w : World) (mg : Str → Option Value) (fa : Addr) (h : Heap), YP w h → h.Ns mainGlobals mg → mg d.name = some (.ref fa) →
      ∃ (K : PySem.W.Frag) (fd : FuncData) (sp : DSp), K.In h ∧ (∀ (s : Shared) (u : Value), BindsTo s fd ⟨[u], []⟩ [(x, u)]) ∧
        (∀ ns : List Int, ns.length ≤ n → sp [.lst (ns.map D.int)] (fun _ => none) (fun d _ => d = .bl true) xNo) ∧
        ∀ base : Heap, K.In base → base.Ns mainGlobals mg → FnG gb l.prog w K mg base k fa fd [x] (lSp K mg 1 sp)) :
    PySem.W.WalkO q loose XP YP l.row.toRowW d [] (fun f vs => PySem.call f vs) := by
  apply Att.attach_call hn hdf
  intro w s₀ s₁ mg mb fa o pm cd doc a vs ns G Y ho hd hcd hmg hobj hints hlen hg
  obtain ⟨K, fd, sp, KX, hb, hsp, hF⟩ := F w mg fa _ Y G.T.g hmg
  exact law_run KX G.T.g G.T.b G.T.builtins G.T.nolimit hg hobj hints (Nat.le_trans hlen hn2) hr hF hb (hsp ns hlen)
end LD

/-! LE1: errors as values; try; list comprehensions -/
namespace LD
open PySem PySem.Spec PyProof.Rows L2

/-- which error is of which class: all are of LaterError and ValueError -/
def relE (y c : Str) : Bool := y == c || c == "LaterError"
/-- what the module says of its classes of errors -/
structure Errs (K : PySem.W.Frag) (cs : List Str) : Prop where
  inst : ∀ y ∈ cs, L2.ExcC K (He.ga K y)
  rel : ∀ y ∈ cs, ∀ c ∈ cs, PySem.W.kitOne K (.ref (He.ga K y)) (.ref (He.ga K c)) = some (relE y c)
  relV : ∀ y ∈ cs, PySem.W.kitOne K (.ref (He.ga K y)) (.type "ValueError") = some true
  exm : ∀ y ∈ cs, PySem.W.exmOne K (.ref (He.ga K y)) (.ref (He.ga K "LaterError")) = some true
def errsB (cs : List Str) (K : PySem.W.Frag) : Bool := cs.all fun y =>
  decide (PySem.W.findIn K (.ref (He.ga K y)) "__getattribute__" = some (some (.builtin "BaseException.__getattribute__"))) &&
  (decide (PySem.W.findIn K (.ref (He.ga K y)) "__getattr__" = some none) &&
  (decide (PySem.W.subIn K (.ref (He.ga K y)) (.type "BaseException") = some true) &&
  (PySem.W.hasDictIn K (He.ga K y) &&
  (decide (PySem.W.findIn K (.ref (He.ga K y)) "__class__" = some (some (.builtin "object.__class__"))) &&
  (decide (PySem.W.specialIn K (.builtin "object.__class__") "__get__" = some (some (.builtin "getset_descriptor.__get__"))) &&
  (decide (PySem.W.takesIn K (.builtin "object.__class__") = some true) &&
  (decide (PySem.W.mroIn K (He.ga K y) (.type "object") = some true) &&
  (cs.all (fun c => decide (PySem.W.kitOne K (.ref (He.ga K y)) (.ref (He.ga K c)) = some (relE y c))) &&
  (decide (PySem.W.kitOne K (.ref (He.ga K y)) (.type "ValueError") = some true) &&
  decide (PySem.W.exmOne K (.ref (He.ga K y)) (.ref (He.ga K "LaterError")) = some true))))))))))
theorem and2 {a b : Bool} (h : (a && b) = true) : a = true ∧ b = true := by
  cases a <;> cases b <;> first | exact ⟨rfl, rfl⟩ | cases h
theorem errs_ok {cs : List Str} {K : PySem.W.Frag} (h : errsB cs K = true) : Errs K cs := by
  have g : ∀ y ∈ cs, _ := fun y hy => List.all_eq_true.mp h y hy
  refine ⟨fun y hy => ?_, fun y hy c hc => ?_, fun y hy => ?_, fun y hy => ?_⟩
  all_goals
    obtain ⟨c1, r⟩ := and2 (g y hy)
    obtain ⟨c2, r⟩ := and2 r
    obtain ⟨c3, r⟩ := and2 r
    obtain ⟨c4, r⟩ := and2 r
    obtain ⟨c5, r⟩ := and2 r
    obtain ⟨c6, r⟩ := and2 r
    obtain ⟨c7, r⟩ := and2 r
    obtain ⟨c8, r⟩ := and2 r
    obtain ⟨c9, r⟩ := and2 r
    obtain ⟨c10, c11⟩ := and2 r
  · exact ⟨of_decide_eq_true c1, of_decide_eq_true c2, of_decide_eq_true c3, c4, of_decide_eq_true c5, of_decide_eq_true c6, of_decide_eq_true c7, of_decide_eq_true c8⟩
  · exact of_decide_eq_true (List.all_eq_true.mp c9 c hc)
  · exact of_decide_eq_true c10
  · exact of_decide_eq_true c11

/-! ### isinstance of an error -/
def dIsX (cs : List Str) (c : Str) (t : DE) : DE where
  run δ M Q := t.run δ M fun d M1 => match d with
    | .ref p => ∃ y, M1 p = some (.exc y) ∧ y ∈ cs ∧ Q (.bl (relE y c)) M1
    | _ => False
  mono h k := t.mono h fun d M1 q => by
    revert q; split <;> intro q
    · obtain ⟨y, h1, h2, h3⟩ := q; exact ⟨y, h1, h2, k _ _ h3⟩
    · exact q
def dIsXV (cs : List Str) (t : DE) : DE where
  run δ M Q := t.run δ M fun d M1 => match d with
    | .ref p => ∃ y, M1 p = some (.exc y) ∧ y ∈ cs ∧ Q (.bl true) M1
    | _ => False
  mono h k := t.mono h fun d M1 q => by
    revert q; split <;> intro q
    · obtain ⟨y, h1, h2, h3⟩ := q; exact ⟨y, h1, h2, k _ _ h3⟩
    · exact q
def rIsR (K : PySem.W.Frag) : List V → Hp → VK → Prop := fun xs H Q => ∃ (a : Addr) (y : Str) (c : V) (cv : Value) (b : Bool), xs = [.ref a, c] ∧ (∀ u, RelV c u → u = cv) ∧ IsExc K H a y ∧ L2.ExcC K (He.ga K y) ∧ PySem.W.kitOne K (.ref (He.ga K y)) cv = some b ∧ Q (.bl b) H
section
variable {X : Cx}
theorem isExc_at {pins : List (Addr × Obj)} {σ : L2.St} {H : Hp} {s : Shared} (I : Inv X pins σ H s) {a : Addr} {y : Str} (h : IsExc X.K H a y) : ∃ oe, PySem.W.InstAt s.heap a oe (He.ga X.K y) none := by
  have fin : ∀ (oe : Obj) (vs : Array Value), s.heap.get? a = some oe → Zc (.ref (He.ga X.K y)) none oe → oe.data = .fields vs → ∃ oe, PySem.W.InstAt s.heap a oe (He.ga X.K y) none := by
    intro oe vs h1 h2 h3
    obtain ⟨c, d, dt, sl⟩ := oe
    obtain ⟨z1, z2⟩ := h2
    dsimp only at z1 z2 h3
    subst z1 z2 h3
    exact ⟨_, h1, rfl, rfl, trivial⟩
  rcases h with h | h
  · obtain ⟨⟨oe, vs, h1, h2, h3, _⟩, _⟩ := I.hok a _ h
    exact fin oe vs h1 h2 h3
  · obtain ⟨⟨oe, vs, h1, h2, h3⟩, _⟩ := I.hok a _ h
    exact fin oe vs h1 h2 h3
theorem call_isR : CallR X (.builtin "isinstance") (rIsR X.K) := by
  intro pins s σ H xs us Q I r h
  obtain ⟨a, y, c, cv, b, rfl, hcv, ie, C, e, q⟩ := h
  obtain ⟨u1, rest, rfl, r1, r2⟩ : ∃ u1 rest, us = u1 :: rest ∧ RelV (.ref a) u1 ∧ L2.Vals [c] rest := by
    cases r with | cons r1 r2 => exact ⟨_, _, rfl, r1, r2⟩
  obtain ⟨u2, rfl, r3⟩ := vals1 r2
  cases r1
  cases hcv _ r3
  obtain ⟨oe, J⟩ := isExc_at I ie
  exact PySem.W.kia_one (PySem.W.handS_kitx_exc C.hg C.hk C.hs C.hd C.ha C.hn C.ht C.hm) I.kIn J e (fun z => nomatch z) fun tk => ⟨.bl b, H, I.kept (t' := tk) fun _ _ z => z, rfl, q⟩
variable {a : Expr} {t : DE} {p p2 pos : Pos} {c : Str} {cs : List Str}
theorem qe_isX (E : Errs X.K cs) (hc : c ∈ cs) (hm3 : X.mg c = some (.ref (He.ga X.K c))) (ha : QE X a t) (hg : Gl X "isinstance") (hm : X.mg "isinstance" = none) (hg2 : Gl X c) (hv : bootBuiltins "isinstance" = some (.builtin "isinstance")) (hdb : (c == ("__debug__" : Str)) = false := by decide)
    (hs1 : starEach [a, .Name c p2] X.env = (false, eval a X.env) :: starEach [.Name c p2] X.env := by rfl) (hs2 : starEach [.Name c p2] X.env = (false, eval (.Name c p2) X.env) :: starEach [] X.env := by rfl) (hpl : (backTo pos (starEach [.Name c p2] X.env)).any (·.1) = false := by rfl) :
    QE X (.Call (.Name "isinstance" p) [a, .Name c p2] [] pos) (dIsX cs c t) := by
  have hb : PE X (.Name c p2) (tC (.ref (He.ga X.K c))) := pe_glob hg2 hm3 rfl hdb
  refine PE.imp (pe_callB call_isR hg hm hv (pa_cons ha (pa_cons hb pa_nil hs2) hs1) (by decide) (by decide) hs1 hpl) fun σ H Q q => ?_
  obtain ⟨δ, M, s, m, q⟩ := q
  refine lE_step s m q fun d M1 v H1 x1 m1 d1 q1 => ?_
  revert q1; split <;> intro q1
  · obtain ⟨y, h1, h2, h3⟩ := q1
    rw [den] at d1
    subst d1
    exact ⟨_, y, _, _, relE y c, rfl, fun u r => by cases r; rfl, m1 _ _ h1, E.inst y h2, E.rel y h2 c hc, h3 _ _ x1 m1 dbl⟩
  · exact q1.elim
theorem qe_isXV (E : Errs X.K cs) (ha : QE X a t) (hg : Gl X "isinstance") (hm : X.mg "isinstance" = none) (hg2 : Gl X "ValueError") (hm2 : X.mg "ValueError" = none) (hv : bootBuiltins "isinstance" = some (.builtin "isinstance")) (hv2 : bootBuiltins "ValueError" = some (.type "ValueError"))
    (hs1 : starEach [a, .Name "ValueError" p2] X.env = (false, eval a X.env) :: starEach [.Name "ValueError" p2] X.env := by rfl) (hs2 : starEach [.Name "ValueError" p2] X.env = (false, eval (.Name "ValueError" p2) X.env) :: starEach [] X.env := by rfl) (hpl : (backTo pos (starEach [.Name "ValueError" p2] X.env)).any (·.1) = false := by rfl) :
    QE X (.Call (.Name "isinstance" p) [a, .Name "ValueError" p2] [] pos) (dIsXV cs t) := by
  have hb : PE X (.Name "ValueError" p2) (tC (.ty "ValueError")) := pe_bltn hg2 hm2 hv2 rfl (by decide) (by decide)
  refine PE.imp (pe_callB call_isR hg hm hv (pa_cons ha (pa_cons hb pa_nil hs2) hs1) (by decide) (by decide) hs1 hpl) fun σ H Q q => ?_
  obtain ⟨δ, M, s, m, q⟩ := q
  refine lE_step s m q fun d M1 v H1 x1 m1 d1 q1 => ?_
  revert q1; split <;> intro q1
  · obtain ⟨y, h1, h2, h3⟩ := q1
    rw [den] at d1
    subst d1
    exact ⟨_, y, _, _, true, rfl, fun u r => by cases r; rfl, m1 _ _ h1, E.inst y h2, E.relV y h2, h3 _ _ x1 m1 dbl⟩
  · exact q1.elim
end

/-! ### an error made -/
def dNew (x : Str) (t : DE) : DE where
  run δ M Q := t.run δ M fun _ M1 => ∀ a, M1 a = none → Q (.ref a) (put M1 a (.exc x))
  mono h k := t.mono h fun d M1 q a ha => k _ _ (q a ha)
structure ErrG (K : PySem.W.Frag) (mg : Str → Option Value) (x : Str) : Prop where
  g : mg x = some (.ref (He.ga K x))
  e : PySem.W.excIn K (He.ga K x) He.veBase "ValueError.__new__" = true ∧ PySem.W.keepIn K (.ref (He.ga K x)) = true ∧ PySem.W.subIn K (.ref (He.ga K x)) (.type "BaseException") = some true ∧ PySem.W.typeIn K (.ref (He.ga K x)) = some (.type "type")
theorem ErrG.c {K : PySem.W.Frag} {mg : Str → Option Value} {x : Str} (h : ErrG K mg x) : ErrC K mg x := ⟨_, h.g, h.e⟩
section
variable {X : Cx} {x : Str} {e : Expr} {t : DE} {p pos : Pos}
theorem qe_new (G : ErrG X.K X.mg x) (hg : Gl X x) (he : QE X e t) (hs : starEach [e] X.env = (false, eval e X.env) :: starEach [] X.env := by rfl) (hdb : (x == ("__debug__" : Str)) = false := by decide) : QE X (.Call (.Name x p) [e] [] pos) (dNew x t) := by
  refine PE.imp (pe_exc1 PySem.F.excBase_ValueError G.e.1 G.g G.e.2.1 hg he hs hdb) fun σ H Q q => ?_
  obtain ⟨δ, M, s, m, q⟩ := q
  refine lE_step s m q fun d M1 v H1 x1 m1 d1 q1 a ha => ?_
  have x2 : Ext H1 (upd H1 a (ExO (.ref (He.ga X.K x)) a)) := .new ha
  exact q1 a (m1.free ha) _ _ (x1.trans x2) (m1.new ha (.inl upd_same)) dref
end

/-! ### a call whose errors are told with the slots -/
def lCallS (K : PySem.W.Frag) (mg : Str → Option Value) (sp : DSp) (t : DA) (W : WX) : TE := fun σ H Q => ∃ δ M, SRel K H σ δ ∧ MRel K H M ∧ t.run δ M fun ds M1 =>
  ∃ (Q0 : D → DM → Prop) (X0 : XD), (∀ d M', Q0 d M' → lQ K H Q d M') ∧ (∀ y M' C H', X0 y M' → mg y = some (.ref C) → Ext H H' → MRel K H' M' → W (.ref C) none σ H') ∧ GhV ds M1 fun ds' M2 => sp ds' M2 Q0 X0
section
variable {X : Cx} {x : Str} {p pos : Pos} {e : Expr} {es : List Expr} {t : DA} {k : Nat} {ps : List Str} {sp : DSp} {W : WX}
theorem pe_callW (G : Good gb X.prog X.w X.K X.mg X.base x k ps sp) (hr : Rm gb k X.A) (tk : Takes X W) (hg : Gl X x) (ha : QA X (e :: es) t) (hi : t.Is ps.length) (hn : (e :: es).length = ps.length := by rfl)
    (hdb : (x == ("__debug__" : Str)) = false := by decide) (he : starEach (e :: es) X.env = (false, eval e X.env) :: starEach es X.env := by rfl) (hpl : (backTo pos (starEach es X.env)).any (·.1) = false := by rfl) :
    PE X (.Call (.Name x p) (e :: es) [] pos) (lCallS X.K X.mg sp t W) := by
  obtain ⟨f, fd, hm, hk, hb, F⟩ := G.ex
  refine ⟨fun pins s σ H Q I h => ?_⟩
  obtain ⟨δ, M, sr, m, q⟩ := h
  refine wpAny_Call_Name_kw (ld_glob I hg hm ?_ hdb)
  have q2 : lA X.K t σ H fun vs H1 => vs.length = ps.length ∧ ∃ ds M1, Ext H H1 ∧ dens X.K H1 vs ds ∧ MRel X.K H1 M1 ∧ ∃ (Q0 : D → DM → Prop) (X0 : XD), (∀ d M', Q0 d M' → lQ X.K H Q d M') ∧ (∀ y M' C H', X0 y M' → X.mg y = some (.ref C) → Ext H H' → MRel X.K H' M' → W (.ref C) none σ H') ∧ GhV ds M1 fun ds' M2 => sp ds' M2 Q0 X0 :=
    lA_step sr m (hi.is q) fun ds M1 vs H1 x1 m1 d1 q1 => ⟨by rw [dens_length d1]; exact q1.1, ds, M1, x1, d1, m1, q1.2⟩
  refine PySem.W.callWith_K (h₀ := X.base) I.ok.mod.kin hk (thn (ha.run pos pins s σ H _ I q2) fun us s1 ⟨vs, H1, I1, r, hv, ds, M1, x1, d1, m1, Q0, X0, h1, h2, ds', M', imp, q⟩ => ⟨I1.kIn, ?_⟩) he hpl
  obtain ⟨H', fz, d', m'⟩ := imp X.prog X.w X.K H1 s1.heap vs I1.hok d1 m1
  have I' := fz.inv I1
  have hsp : lSp X.K X.mg ps.length sp vs H' Q (WE W σ) := ⟨hv, ds', M', d', m', Q0, X0, fun d M2 q2 v H2 x2 => h1 d M2 q2 v H2 ((x1.trans fz.ext).trans x2), fun y M2 q2 C H2 e x2 m2 => h2 y M2 C H2 q2 e ((x1.trans fz.ext).trans x2) m2, q⟩
  have hl : (us ++ ([] : List Value)).length = ps.length := by rw [List.append_nil, ← r.length]; exact hv
  have hbind := hb s1 us I'.kIn hl
  rw [List.append_nil] at hbind
  refine wpAny_call (codeAny_mono (F.run hr I'.env0 hbind r hsp) fun rs s' hq => ?_)
  cases rs with
  | error e => exact passAt tk σ pins H' s1 e s' I' hq
  | ok fl =>
    cases fl with
    | ret u => exact I'.after hq
    | next => exact False.elim hq
    | brk => exact False.elim hq
    | cont => exact False.elim hq
end

/-! ### an object that is new to the def, told from now on -/
theorem Inv.track {X : Cx} {pins : List (Addr × Obj)} {σ : L2.St} {H : Hp} {s : Shared} {a : Addr} {cls : Value} {oe : Obj} {vs : Array Value} (I : Inv X pins σ H s) (he : s.heap.get? a = some oe) (hz : Zc cls none oe) (hd : oe.data = .fields vs) (na : H a = none)
    (nL : a ≠ X.env.locals) (hnew : X.s_0.heap.get? a = none) (np : ∀ p ∈ X.pn ++ pins, p.1 ≠ a) : Inv X pins σ (upd H a (ExI cls a)) s := by
  have up : ∀ b o, H b = some o → upd H a (ExI cls a) b = some o := fun b o e => by rw [upd_ne (fun z => by rw [z, na] at e; cases e)]; exact e
  have ne : ∀ b o, X.s_0.heap.get? b = some o → b ≠ a := fun b o e z => by rw [z, hnew] at e; cases e
  refine ⟨I.ok, I.os, I.bare, ⟨I.base.keep, I.base.slot, fun b o e n hx => ?_, I.base.there, fun b xs e => up _ _ (I.base.tups b xs e), fun b o u e => up _ _ (I.base.frzs b o u e), fun b ps e => ?_⟩, I.loc, I.cell, ?_, fun x c e => ?_, fun p hp => ?_, fun b o e => ?_, I.len⟩
  · rw [upd_ne (ne b o e)]; exact I.base.free b o e n hx
  · obtain ⟨more, q⟩ := I.base.tbls b ps e
    exact ⟨more, up _ _ q⟩
  · rw [upd_ne (Ne.symm nL)]; exact I.free
  · rw [upd_ne ?_]
    · exact I.freeC x c e
    · intro z
      obtain ⟨v, o, h1, h2⟩ := I.cell x c e
      rw [z, he] at h1
      cases h1
      rw [hd] at h2
      cases h2
  · obtain ⟨h1, h2, h3, h4, h5⟩ := I.pin p hp
    exact ⟨h1, by rw [upd_ne (np p hp)]; exact h2, h3, h4, h5⟩
  · by_cases hb : b = a
    · subst hb
      rw [upd_same] at e
      cases e
      exact ⟨⟨oe, vs, he, hz, hd⟩, ⟨oe, he⟩, fun h1 h2 ⟨o, v, k1, k2, k3⟩ st => ⟨o, v, st _ k1, k2, k3⟩⟩
    · rw [upd_ne hb] at e
      exact (I.hok b o e).stay (fun _ _ _ q => q) (fun c q => up _ _ q) fun c xs q => up _ _ q
theorem bb_ValueError : bootBuiltins "ValueError" = some (.type "ValueError") := by decide +kernel
end LD

/-! LE2: try: f(..) except LaterError as n: m = n; list comprehensions -/
namespace LD
open PySem PySem.Spec PyProof.Rows L2

def dTryAs (cs : List Str) (sp : DSp) (t : DA) (i j : Nat) : DS where
  run E δ M := t.run δ M fun ds M1 => ∃ (Q0 : D → DM → Prop) (X0 : XD), (∀ d M', Q0 d M' → E.nx δ M') ∧
    (∀ y M', X0 y M' → y ∈ cs ∧ ∀ a, M' a = none → E.nx ((δ.set j (some (.ref a))).set i none) (put M' a (.exc y))) ∧ GhV ds M1 fun ds' M2 => sp ds' M2 Q0 X0
  mono h k := t.mono h fun ds M1 ⟨Q0, X0, h1, h2, h3⟩ => ⟨Q0, X0, fun d M' q => k.nx _ _ (h1 d M' q), fun y M' q => ⟨(h2 y M' q).1, fun a ha => k.nx _ _ ((h2 y M' q).2 a ha)⟩, h3⟩

section
variable {X : Cx} {f n m : Str} {pf pc pe np pm pn2 pa pos' pos : Pos} {ex e : Expr} {es : List Expr} {t : DA} {k i j : Nat} {ps : List Str} {sp : DSp} {cs : List Str}
/-- what such a try wishes of an error of its body -/
def wTry (X : Cx) (cs : List Str) (i j : Nat) (D : Ends) (H0 : Hp) : WX := fun cls d σ H => d = none ∧ ∃ y M' δ', cls = .ref (He.ga X.K y) ∧ y ∈ cs ∧ (σ.length = X.N.length → SRel X.K H σ δ') ∧ δ'.length = X.N.length ∧ Ext H0 H ∧ MRel X.K H M' ∧
  ∀ a, M' a = none → (lEnds X.K H D).nx ((δ'.set j (some (.ref a))).set i none) (put M' a (.exc y))
theorem ps_tryK {te : WX → TE} (E : Errs X.K cs) (hstk : X.stack = X.env :: X.outer) (hfr : X.env.frame = some X.env.locals) (hex : X.ex = []) (hN : X.N.Nodup) (hi : X.N[i]? = some n) (hij : i ≠ j)
    (kn : X.env.kindOf n = some .local) (gL : X.mg "LaterError" = some (.ref (He.ga X.K "LaterError"))) (hgl : Gl X "LaterError")
    (hbody : ∀ (W : WX) (pn : List (Addr × Obj)) (xe : Value → Shared → Prop), Takes (X.tr pn xe) W → PE (X.tr pn xe) ex (te W))
    (hsu : ∀ (a : Addr) (pn : List (Addr × Obj)), QSs (X.suite a pn) [.Assign [.Name m pm] (.Name n pn2) pa] (dEnd (dSet j (dVar i))))
    (hsw : swapsWith ex none pe.line X.env = pure false) :
    PS X (.Try [.Expr ex pe] [.ExceptHandler (some (.Name "LaterError" np)) (some n) [.Assign [.Name m pm] (.Name n pn2) pa] pos'] [] [] pos) (fun D σ H => te (wTry X cs i j D H) σ H fun _ H' => D.nx σ H') := by
  refine ⟨fun pins s σ H D I h => ?_⟩
  have ok := I.ok
  have frA : X.A.frames = some (X.env :: X.outer) := by rw [ok.frames, hstk]
  have locn : Loc X.env.scope n := .inl kn
  refine wpAny_Try_except ?_
  have body : ∀ (pn : List (Addr × Obj)) (xe : Value → Shared → Prop), Takes (X.tr pn xe) (wTry X cs i j D H) → PSs (X.tr pn xe) [.Expr ex pe] (tDrop (te (wTry X cs i j D H))) :=
    fun pn xe tk => pss_one (ps_expr (hbody _ pn xe tk) hsw)
  refine wpAny_mono ((body (X.pn ++ pins) _ (fun u sE xx => ?_)).run [] s σ H D (I.toTry _) h) (fun fl s1 hsp => ?_) (fun u s1 hu => hu)
  · -- an error comes out of the body
    obtain ⟨a, B, sI, pq, σE, HE, cls, d, rfl, JE, nb, up, sky, na, os, ag, rfl, y, M', δ, rfl, hy, srE, dl, xE, mE, go⟩ := xx
    have J : Inv X pins σE HE sI := JE.ofTry ok
    have skyX : Sky B (X.env :: X.outer) a (Zc (.ref (He.ga X.K y)) none) X.env.locals sE.heap := by rw [← hstk]; exact sky
    show wpAny (model X.prog X.w) X.A (noteFrame (.ref a) X.env) _ _ _
    refine Sky.land Zc.steady frA hfr skyX fun hA flA upA => ?_
    have JA : Inv X pins σE HE { sE with heap := hA } := J.landed nb flA.1 (up.trans upA) os ag
    obtain ⟨oA, vA, eA, zA, dA⟩ := flA.there
    have notFrame : a ∉ frs (X.env :: X.outer) := fun hm => by
      obtain ⟨_, ob, eb, hnf⟩ := flA.2.2.1.mem hm
      rw [eA] at eb
      cases eb
      exact hnf _ dA
    have offLocals : a ≠ X.env.locals := fun z => notFrame (List.mem_filterMap.mpr ⟨X.env, List.mem_cons_self, by rw [hfr, z]⟩)
    have offFrames : a ∉ X.fs := fun hm => by
      obtain ⟨v, hv, z⟩ := List.mem_filterMap.mp hm
      exact notFrame (List.mem_filterMap.mpr ⟨v, List.mem_cons_of_mem _ hv, z⟩)
    have ground : B.get? a = none := flA.2.1
    -- it is new to the def, and no pinned object
    have fresh : X.s_0.heap.get? a = none := by
      cases z : X.s_0.heap.get? a with
      | none => rfl
      | some ob =>
        obtain ⟨ob2, z2⟩ := J.base.there a ob z (by rw [hex]; exact List.not_mem_nil)
        have z3 := nb a ob2 z2 (by rw [hstk]; exact notFrame)
        rw [ground] at z3
        cases z3
    have offPins : ∀ p ∈ X.pn ++ pins, p.1 ≠ a := fun p hp z => by
      obtain ⟨g1, g2, g3, g4, _⟩ := J.pin p hp
      have notF : p.1 ∉ frs (X.tr (X.pn ++ pins) (fun _ _ => True)).stack := by
        show p.1 ∉ frs X.stack
        rw [hstk]
        intro hm
        obtain ⟨v, hv, z⟩ := List.mem_filterMap.mp hm
        rcases List.mem_cons.mp hv with ev | hv
        · rw [ev, hfr] at z
          exact g3 (Option.some.inj z).symm
        · exact g4 (List.mem_filterMap.mpr ⟨v, hv, z⟩)
      have z3 := nb p.1 _ g1 notF
      rw [z, ground] at z3
      cases z3
    have SA := JA.suite eA dA na offLocals offFrames
    refine wpAny_handleBy_cons (codeAny_handlers_test ?_) (by intro z; cases z)
    have typ : PySem.W.Looks (model X.prog X.w) hA (typeOf (.ref a)) (.ref (He.ga X.K y)) := fun _ _ _ _ kp z => wpAny_typeOf_ref (kp _ _ eA) (by rw [zA.1]; exact z)
    refine ld_glob (X := X.suite a ((a, oA) :: (X.pn ++ pins))) SA hgl gL ?_ (by decide)
    refine (PySem.W.exm_one (M := model X.prog X.w) JA.kIn typ (E.exm y hy)).here ?_
    refine codeAny_handlers_suite_as ?_
    refine HandSPX.lands_againZ flA fun hB flB upB => ?_
    have JB : Inv X pins σE HE { sE with heap := hB } := J.landed nb flB.1 ((up.trans upA).trans upB) os ag
    obtain ⟨oB, vB, eB, zB, dB⟩ := flB.there
    have SB := JB.suite eB dB na offLocals offFrames
    refine store_ok (X := X.suite a ((a, oB) :: (X.pn ++ pins))) (v := .ref a) SB hN hi locn rfl (fun sC SC => ?_) (.inr kn)
    have mA : M' a = none := mE.free na
    have st : SRel X.K HE (σE.set i (some (.ref a))) (δ.set i (some (.ref a))) := (srE JE.len).set dref i
    refine wpAny_mono ((hsu a ((a, oB) :: (X.pn ++ pins))).run [] sC _ HE { nx := fun σ6 H6 => Ext HE H6 ∧ SRel X.K H6 σ6 ((δ.set i (some (.ref a))).set j (some (.ref a))) ∧ MRel X.K H6 M', rt := fun _ _ => False } SC ⟨δ.set i (some (.ref a)), M', st, mE, ?_⟩) (fun fl s6 hsp => ?_) (fun _ _ z => False.elim z)
    · show (dVar i).run _ _ _
      have hlt : i < δ.length := by rw [dl]; exact (List.getElem?_eq_some_iff.mp hi).1
      dsimp only [dVar]
      rw [List.getElem?_set_self hlt]
      exact .here fun σ6 H6 x6 s6 m6 => ⟨x6, s6, m6⟩
    cases fl with
    | ret u => obtain ⟨v, σ6, H6, S6, r6, q6⟩ := hsp; exact q6.elim
    | brk => obtain ⟨σ6, H6, S6, q6⟩ := hsp; exact q6.elim
    | cont => obtain ⟨σ6, H6, S6, q6⟩ := hsp; exact q6.elim
    | next =>
      obtain ⟨σ6, H6, S6, x6, s6r, m6⟩ := hsp
      have P6 : Inv X ((a, oB) :: pins) σ6 H6 s6 := ⟨ok, S6.os, S6.bare, S6.base, S6.loc, S6.cell, S6.free, S6.freeC, fun p hp => S6.pin p (by
        rcases List.mem_append.mp hp with hp | hp
        · exact List.mem_append_left _ (List.mem_cons_of_mem _ (List.mem_append_left _ hp))
        · rcases List.mem_cons.mp hp with rfl | hp
          · exact List.mem_append_left _ List.mem_cons_self
          · exact List.mem_append_left _ (List.mem_cons_of_mem _ (List.mem_append_right _ hp))), S6.hok, S6.len⟩
      refine gone_ok P6 hN hi kn fun s7 P7 => ?_
      obtain ⟨g1, g2, g3, _, _⟩ := P7.pin (a, oB) (List.mem_append_right _ List.mem_cons_self)
      have I7 : Inv X pins (σ6.set i none) H6 s7 := ⟨ok, P7.os, P7.bare, P7.base, P7.loc, P7.cell, P7.free, P7.freeC, fun p hp => P7.pin p (by
        rcases List.mem_append.mp hp with hp | hp
        · exact List.mem_append_left _ hp
        · exact List.mem_append_right _ (List.mem_cons_of_mem _ hp)), P7.hok, P7.len⟩
      have T7 := Inv.track I7 g1 zB dB g2 g3 fresh offPins
      have xN : Ext H6 (upd H6 a (ExI (.ref (He.ga X.K y)) a)) := .new g2
      refine ⟨_, _, T7, go a mA _ _ (x6.trans xN) ?_ (m6.new g2 (.inr upd_same))⟩
      have z := (s6r.ext xN).setN i
      rw [List.set_comm _ _ hij, List.set_set] at z
      exact z
  · cases fl with
    | next =>
      obtain ⟨σ', H', J', q⟩ := hsp
      exact wpAny_execs_nil ⟨σ', H', J'.ofTry ok, q⟩
    | ret u => obtain ⟨v, σ', H', J', r, q⟩ := hsp; exact ⟨v, σ', H', J'.ofTry ok, r, q⟩
    | brk => obtain ⟨σ', H', J', q⟩ := hsp; exact ⟨σ', H', J'.ofTry ok, q⟩
    | cont => obtain ⟨σ', H', J', q⟩ := hsp; exact ⟨σ', H', J'.ofTry ok, q⟩
theorem qs_try (E : Errs X.K cs) (hstk : X.stack = X.env :: X.outer) (hfr : X.env.frame = some X.env.locals) (hex : X.ex = []) (hN : X.N.Nodup) (hi : X.N[i]? = some n) (hj : X.N[j]? = some m) (hij : i ≠ j)
    (kn : X.env.kindOf n = some .local) (km : X.env.kindOf m = some .local) (gL : X.mg "LaterError" = some (.ref (He.ga X.K "LaterError"))) (hgl : Gl X "LaterError") (gy : ∀ y ∈ cs, X.mg y = some (.ref (He.ga X.K y)))
    (G : Good gb X.prog X.w X.K X.mg X.base f k ps sp) (hr : Rm gb k X.A) (hg : Gl X f) (hi2 : t.Is ps.length)
    (ha : ∀ (pn : List (Addr × Obj)) (xe : Value → Shared → Prop), QA (X.tr pn xe) (e :: es) t)
    (hsu : ∀ (a : Addr) (pn : List (Addr × Obj)), QSs (X.suite a pn) [.Assign [.Name m pm] (.Name n pn2) pa] (dEnd (dSet j (dVar i))))
    (hn : (e :: es).length = ps.length := by rfl)
    (hdb : (f == ("__debug__" : Str)) = false := by decide) (he : starEach (e :: es) X.env = (false, eval e X.env) :: starEach es X.env := by rfl) (hpl : (backTo pc (starEach es X.env)).any (·.1) = false := by rfl)
    (hsw : swapsWith (.Call (.Name f pf) (e :: es) [] pc) none pe.line X.env = pure false := by rfl) :
    QS X (.Try [.Expr (.Call (.Name f pf) (e :: es) [] pc) pe] [.ExceptHandler (some (.Name "LaterError" np)) (some n) [.Assign [.Name m pm] (.Name n pn2) pa] pos'] [] [] pos) (dTryAs cs sp t i j) := by
  refine ⟨fun pins s σ H D I h => ?_⟩
  obtain ⟨δ, M, sr, mr, q⟩ := h
  refine (ps_tryK (te := lCallS X.K X.mg sp t) E hstk hfr hex hN hi hij kn gL hgl (fun W pn xe tk => pe_callW (X := X.tr pn xe) G hr tk hg (ha pn xe) hi2 hn hdb he hpl) hsu hsw).run pins s σ H D I ?_
  refine ⟨δ, M, sr, mr, t.mono q fun ds M1 ⟨Q0, X0, h1, h2, h3⟩ => ⟨Q0, X0, fun d M' q0 v H' x' m' _ => h1 d M' q0 σ H' x' (sr.ext x') m', fun y M' C H' q0 gC x' m' => ?_, h3⟩⟩
  obtain ⟨hy, go⟩ := h2 y M' q0
  have eC : C = He.ga X.K y := by
    have z := gC.symm.trans (gy y hy)
    cases z
    rfl
  subst eC
  exact ⟨rfl, y, M', δ, rfl, hy, fun _ => sr.ext x', sr.len.symm.trans I.len, x', m', fun a ha => (lEnds_ext x').nx _ _ (go a ha)⟩
end

/-! ### [e for x in ..] -/
def lcRun (t : DE) (i : Nat) (δ : DSt) (A : Addr) (Q : D → DM → Prop) (chk : DM → Prop) : List D → DM → Prop
  | [], M => chk M ∧ Q (.ref A) M
  | x :: xs, M => chk M ∧ t.run (δ.set i (some x)) M fun y M1 => ∃ acc, M1 A = some (.lst acc) ∧ acc.length < sizeLine ∧ lcRun t i δ A Q chk xs (put M1 A (.lst (acc ++ [y])))
theorem lcRun_mono {t : DE} {i : Nat} {δ : DSt} {A : Addr} {Q Q' : D → DM → Prop} {chk : DM → Prop} (k : ∀ d M, Q d M → Q' d M) : ∀ (xs : List D) (M : DM), lcRun t i δ A Q chk xs M → lcRun t i δ A Q' chk xs M
  | [], _, h => ⟨h.1, k _ _ h.2⟩
  | _ :: xs, _, h => ⟨h.1, t.mono h.2 fun y M1 ⟨acc, h1, h2, h3⟩ => ⟨acc, h1, h2, lcRun_mono k xs _ h3⟩⟩
def dLc (w : DI) (i : Nat) (t : DE) : DE where
  run δ M Q := w.run δ M fun items chk M1 => ∀ A, M1 A = none → lcRun t i (δ.set i none) A Q chk items (put M1 A (.lst []))
  mono h k := w.mono h fun items chk M1 q A hA => lcRun_mono k items _ (q A hA)
theorem lLc {K : PySem.W.Frag} {w : DI} {t : DE} {i : Nat} {σ : L2.St} {H : Hp} {Q : VK} (q : lE K (dLc w i t) σ H Q) : tLc (lI K w) (gName i) tYes (lE K t) [i] σ H Q := by
  obtain ⟨δ, M, s, m, q⟩ := q
  refine ⟨δ, M, s, m, w.mono q fun items chk M1 q1 J H1 x1 m1 ok A hA => ?_⟩
  have q1 := q1 A (m1.free hA)
  have xA : Ext H1 (upd H1 A (.lst [])) := .new hA
  refine ⟨fun k n H' => n = items.length - k ∧ k ≤ items.length ∧ ∃ M', Ext H1 H' ∧ MRel K H' M' ∧ lcRun t i (δ.set i none) A (lQ K H Q) chk (items.drop k) M', ⟨items.length, by simp, Nat.zero_le _, _, xA, m1.new (u := .lst []) hA ⟨[], upd_same, dens_nil⟩, q1⟩, ?_⟩
  rintro k n H2 ⟨rfl, hk, M2, x2, m2, q2⟩
  by_cases hlt : k < items.length
  · rw [List.drop_eq_getElem_cons hlt] at q2
    obtain ⟨hchk, q2⟩ := q2
    refine .inr ⟨ok.go k H2 M2 x2 m2 hchk hlt, fun H' => ∃ M', Ext H1 H' ∧ MRel K H' M' ∧ lcRun t i (δ.set i none) A (lQ K H Q) chk (items.drop (k + 1)) M', fun H' ⟨M', a⟩ => ⟨items.length - (k + 1), by omega, rfl, hlt, M', a⟩, fun y H3 hy => ?_⟩
    obtain ⟨x3, mk, hd⟩ := ok.yld k H2 M2 y H3 x2 m2 hchk hy
    have dn := hd items[k] (List.getElem?_eq_getElem hlt)
    have y3 := x2.trans x3
    have sr : SRel K H3 ((wipe σ [i]).set i (some y)) ((δ.set i none).set i (some items[k])) := ((s.ext (x1.trans y3)).setN i).set dn i
    refine ⟨by show ((wipe σ [i]).set i (some y)).set i none = (σ.set i none); show ((σ.set i none).set i (some y)).set i none = _; rw [List.set_set, List.set_set], ?_⟩
    unfold tYes
    dsimp only
    rw [if_pos rfl]
    refine lE_step sr (mk M2 m2) q2 fun d M4 v H4 x4 m4 d4 q4 => ?_
    obtain ⟨acc, h1, h2, h3⟩ := q4
    obtain ⟨vs, h4, h5⟩ := m4 A _ h1
    have xp : Ext H4 (upd H4 A (.lst (vs ++ [v]))) := .put h4 trivial
    exact ⟨vs, h4, by rw [dens_length h5]; exact h2, _, (y3.trans x4).trans xp, m4.put (u := .lst (acc ++ [d])) h4 trivial ⟨_, upd_same, dens_append (dens_ext xp _ _ h5) (dens_cons (den_ext xp _ _ d4) dens_nil)⟩, h3⟩
  · have e : k = items.length := by omega
    subst e
    rw [List.drop_length] at q2
    refine .inl ⟨ok.stop _ H2 M2 x2 m2 q2.1 (Nat.le_refl _), q2.2 _ H2 (x1.trans x2) m2 dref⟩
section
variable {X : Cx} {elt iter : Expr} {x : Str} {px pos : Pos} {scope : Scope} {w : DI} {t : DE} {i : Nat}
theorem qe_lc (hc : X.calm = true) (hN : X.N.Nodup) (hi : QI X (.Name x px) iter w) (ok : BlkOk X.N X.env.scope scope [(x, i)])
    (hg : ∀ (s : Shared) (H : Hp) (C : Addr) (cl : List (Str × Addr)) (fp : List Addr), PG (X.blk s H scope (compEnvC scope cl C X.env) fp) (.Name x px) (gName i))
    (he : ∀ (s : Shared) (H : Hp) (C : Addr) (cl : List (Str × Addr)) (fp : List Addr), QE (X.blk s H scope (compEnvC scope cl C X.env) fp) elt t) (hs : ∀ y, foldedSetIterable iter X.env y = pure y := by intro _; rfl) :
    QE X (.ListComp elt [⟨.Name x px, iter, [], 0⟩] scope pos) (dLc w i t) := by
  exact PE.imp (pe_lc (te := lE X.K t) hc hN hi ok hg (fun _ _ _ _ _ => pts_nil) he hs) fun _ _ _ q => lLc q
end
end LD

/-! LE4: lambdas without parameters, handed to a def that calls them in a try; laws with such -/
namespace LD
open PySem PySem.Spec PyProof.Rows L2

/-- of the told tables, this one alone -/
def oneTab (M : DM) (d : Str × Option Str) (q : Str) : DM := fun a => match M a with
  | some (.tab d' q') => if d' = d ∧ q' = q then some (.tab d' q') else none
  | some (.raw _) => none
  | o => o
theorem oneTab_sub {M : DM} {d : Str × Option Str} {q : Str} : Sub (oneTab M d q) M := fun a o e => by
  unfold oneTab at e
  split at e
  · rename_i d' q' h
    split at e
    · cases e; exact h
    · cases e
  · cases e
  · exact e
theorem oneTab_tab {M : DM} {d : Str × Option Str} {q : Str} {a : Addr} {d' : Str × Option Str} {q' : Str} (h : oneTab M d q a = some (.tab d' q')) : d' = d ∧ q' = q := by
  unfold oneTab at h
  split at h
  · split at h
    · rename_i z; cases h; exact z
    · cases h
  · cases h
  · rename_i o hn _
    exact (hn _ _ h).elim
theorem oneTab_keep {M : DM} {d : Str × Option Str} {q : Str} {a : Addr} {o : MO} (h : M a = some o) (n : ∀ d' q', o = .tab d' q' → d' = d ∧ q' = q) (r : ∀ u, o ≠ .raw u := by intro _ z; cases z) : oneTab M d q a = some o := by
  unfold oneTab
  rw [h]
  cases o with
  | tab d' q' => exact if_pos (n _ _ rfl)
  | raw u => exact (r u rfl).elim
  | _ => rfl
theorem oneTab_none {M : DM} {d : Str × Option Str} {q : Str} {a : Addr} (h : M a = none) : oneTab M d q a = none := by
  unfold oneTab
  rw [h]

section
variable {K : PySem.W.Frag} {H H1 : Hp} {M : DM} {d : Str × Option Str} {q : Str}
theorem ext_lam (e : LamX.ExtN H H1) : Ext H H1 := ⟨fun a xs h => e a _ h (fun _ z => by cases z), fun a o u h => e a _ h (fun _ z => by cases z)⟩
/-- a lambda was made -/
theorem mrel_lam (m : MRel K H (oneTab M d q)) (e : LamX.ExtN H H1) (t : LamX.TabS H1 (He.cT K d).2 q) : MRel K H1 (oneTab M d q) := fun a o h => by
  have z := m a o h
  cases o with
  | lst ds => obtain ⟨vs, h1, h2⟩ := z; exact ⟨vs, e _ _ h1 (fun _ z => by cases z), dens_ext (ext_lam e) _ _ h2⟩
  | dct kvs => obtain ⟨vs, h1, h2⟩ := z; exact ⟨vs, e _ _ h1 (fun _ z => by cases z), denKV_ext (ext_lam e) _ _ h2⟩
  | rol ds => obtain ⟨u, vs, h1, h2⟩ := z; exact ⟨u, vs, e _ _ h1 (fun _ z => by cases z), dens_ext (ext_lam e) _ _ h2⟩
  | exc x => exact z.elim (fun z => .inl (e _ _ z fun _ y => by unfold ExO at y; cases y)) fun z => .inr (e _ _ z fun _ y => by unfold ExI at y; cases y)
  | tab d' q' =>
    obtain ⟨rfl, rfl⟩ := oneTab_tab h
    obtain ⟨h0, _⟩ := z
    exact ⟨h0, h0 ▸ t⟩
  | raw u =>
    exfalso
    unfold oneTab at h
    split at h
    · split at h <;> cases h
    · cases h
    · rename_i o hn hr
      exact hr _ h
end

/-! ### x(lambda: f(..)), x a def that calls what it got in a try, and tells a word -/
/-- what such a def makes of the lambda's reading -/
def TTw (K : PySem.W.Frag) (cs : List Str) (wd : Str → Str) : (XK → Hp → VK → Prop) → Hp → VK → Prop := fun tl H Q => ∀ (E' : XK) (Q' : VK),
  (∀ cls d H', (d = none ∧ ∃ y M', cls = .ref (He.ga K y) ∧ y ∈ cs ∧ Ext H H' ∧ MRel K H' M' ∧ ∀ H'', Ext H' H'' → MRel K H'' M' → Q (.str (wd y)) H'') → E' cls d H') →
  (∀ v H', (∃ M', Ext H H' ∧ MRel K H' M' ∧ ∀ H'', Ext H' H'' → MRel K H'' M' → Q (.str "fine") H'') → Q' v H') → tl E' H Q'
def dLamW (sp : DSp) (t : DA) (d : Str × Option Str) (q : Str) (cs : List Str) (wd : Str → Str) : DE where
  run δ M Q := (∃ P, M P = some (.tab d q)) ∧ t.run δ (oneTab M d q) fun ds M1 => ∃ (Q0 : D → DM → Prop) (X0 : XD), (∀ e M', Q0 e M' → Q (.str "fine") M') ∧ (∀ y M', X0 y M' → y ∈ cs ∧ Q (.str (wd y)) M') ∧ GhV ds M1 fun ds' M2 => sp ds' M2 Q0 X0
  mono h k := ⟨h.1, t.mono h.2 fun ds M1 ⟨Q0, X0, h1, h2, h3⟩ => ⟨Q0, X0, fun e M' q => k _ _ (h1 e M' q), fun y M' q => ⟨(h2 y M' q).1, k _ _ (h2 y M' q).2⟩, h3⟩⟩
section
variable {X : Cx} {x a f : Str} {g : Addr} {k : Nat} {pg : Arguments} {bg : List Stmt} {sg : Scope} {Ng : List Str} {gfd : FuncData} {d : Str × Option Str} {q : Str} {params : Arguments} {scope : Scope} {e : Expr} {es : List Expr} {t : DA} {ps : List Str} {sp : DSp} {cs : List Str} {wd : Str → Str} {p lpos pf pc pos : Pos}
theorem qe_lamW (Fg : FunD X.K x x pg bg sg [] [] g gfd) (hg : Gl X x) (hm : X.mg x = some (.ref g)) (Bg : L2.Binds X.K gfd [a] []) (Sg : FnScope Ng [a] sg) (hNg : Ng[0]? = some a) (hva : Vis sg a)
    (hG : ∀ (cdg : Value), LamX.GivesTo X Ng x sg g cdg bg a q (TTw X.K cs wd)) (TB : LamX.TabB X.base X.mg (He.cT X.K d).1 (He.cT X.K d).2) (hcode : X.env.code = .ref (He.cT X.K d).1) (hq : X.env.qual ++ "<lambda>" = q) (hr : Rm gb (k + 2) X.A) (L : LamX.LamS X.env.scope scope)
    (gy : ∀ y ∈ cs, X.mg y = some (.ref (He.ga X.K y))) (G : Good false X.prog X.w X.K X.mg X.base f k ps sp) (hgf : ∀ (A : Around) (outer : List Env) (s : Shared) (H : Hp) (E : XK) (f' c' : Addr), Gl (LamX.lamCx X A outer s H E scope f' c') f)
    (ha : ∀ (A : Around) (outer : List Env) (s : Shared) (H : Hp) (E : XK) (f' c' : Addr), QA (LamX.lamCx X A outer s H E scope f' c') (e :: es) t) (hi : t.Is ps.length)
    (hdef : defaultsOf params X.env = ([], []) := by rfl) (hbind : ∀ (q : Str) (cl : List (Str × Addr)) (pm cv ctv : Value), bindArgs (PySem.W.kla_fn "<lambda>" q params (.Call (.Name f pf) (e :: es) [] pc) scope cl pm cv ctv) ⟨[], []⟩ = pure [] := by intros; rfl)
    (hn : (e :: es).length = ps.length := by rfl) (hdb : (f == ("__debug__" : Str)) = false := by decide) (he : ∀ env, starEach (e :: es) env = (false, eval e env) :: starEach es env := by intro _; rfl) (hpl : ∀ env, (backTo pc (starEach es env)).any (·.1) = false := by intro _; rfl)
    (hdx : (x == ("__debug__" : Str)) = false := by decide) (hd : (a == ("__debug__" : Str)) = false := by decide) (hcd : (a == ("__classdict__" : Str)) = false := by decide) :
    QE X (.Call (.Name x p) [.Lambda params (.Call (.Name f pf) (e :: es) [] pc) scope lpos] [] pos) (dLamW sp t d q cs wd) := by
  obtain ⟨oc, od, dV, kV, doc, pm, an, cdv, ct, osl, rfl, lk, hcg, _, _⟩ := Fg.ex
  have T1 : ((He.cT X.K d).2, X.env.qual ++ "<lambda>") ∈ [((He.cT X.K d).2, X.env.qual ++ "<lambda>")] := List.mem_cons_self
  refine PE.imp (LamX.pe_lamcall (T := [((He.cT X.K d).2, X.env.qual ++ "<lambda>")]) (t := fun E => lCallS X.K X.mg sp t (fun cls d _ H' => E cls d H')) hg hm Fg.kp lk hcg Bg Sg hNg hva (TT := TTw X.K cs wd) (by rw [hq]; exact hG cdv) TB hcode T1
    (fun p hp _ => by rw [List.mem_singleton.mp hp]) hr.room L hdef hbind (fun A outer s H E f' c' hr2 => ?_) hdx hd hcd) fun σ H Q z => ?_
  · exact pe_callW (X := LamX.lamCx X A outer s H E scope f' c') (gb := false) G ⟨hr2, fun z => nomatch z⟩ (takes_of (E := E) rfl rfl rfl rfl) (hgf A outer s H E f' c') (ha A outer s H E f' c') hi hn hdb (he _) (hpl _)
  · obtain ⟨δ, M, sr, m, ⟨P, hP⟩, z⟩ := z
    have m1 := m.sub (oneTab_sub (d := d) (q := q))
    obtain ⟨h0, tab⟩ : IsTab X.K H P d q := m P _ hP
    subst h0
    have tabs : LamX.Tabs [((He.cT X.K d).2, X.env.qual ++ "<lambda>")] H := fun p hp => by
      rw [List.mem_singleton.mp hp]
      show LamX.TabS H _ (X.env.qual ++ "<lambda>")
      rw [hq]
      exact tab
    refine ⟨tabs, fun H1 eN tb E' Q' hE hQ => ?_⟩
    have tab1 : LamX.TabS H1 (He.cT X.K d).2 q := by
      have y := tb _ T1
      rw [← hq]
      exact y
    have x1 := ext_lam eN
    refine ⟨δ, _, sr.ext x1, mrel_lam m1 eN tab1, t.mono z fun ds M1 ⟨Q0, X0, h1, h2, h3⟩ => ⟨Q0, X0, fun e M' q0 v H' x' m' _ => ?_, fun y M' C H' q0 gC x' m' => ?_, h3⟩⟩
    · refine hQ _ _ ?_
      exact ⟨M', x', m', fun H'' x'' m'' => h1 e M' q0 _ H'' ((x1.trans x').trans x'') m'' dstr⟩
    · obtain ⟨hy, q1⟩ := h2 y M' q0
      have eC : C = He.ga X.K y := by
        have z := gC.symm.trans (gy y hy)
        cases z
        rfl
      subst eC
      refine hE _ _ _ ?_
      exact ⟨rfl, y, M', rfl, hy, x', m', fun H'' x'' m'' => q1 _ H'' ((x1.trans x').trans x'') m'' dstr⟩
end

/-! ### the def that calls what it got -/
section
variable {X : Cx} {x a n m q : Str} {cs : List Str} {wd : Str → Str} {Ng : List Str} {sg : Scope} {g : Addr} {cdg : Value} {rest : List Stmt} {tr : DS} {pm0 pn0 pp0 p1 p2 pe np pm pn2 pa pos' pos : Pos} {kc : Nat}
theorem gives_word (E : Errs X.K cs) (gL : X.mg "LaterError" = some (.ref (He.ga X.K "LaterError"))) (hN : Ng.Nodup) (h0 : Ng[0]? = some a) (h1 : Ng[1]? = some m) (h2 : Ng[2]? = some n) (km : sg.names.lookup m = some .local) (kn : sg.names.lookup n = some .local) (kl : sg.names.lookup ("LaterError" : Str) = some .globalImplicit) (hdn : (n == ("__debug__" : Str)) = false) (hcn : (n == ("__classdict__" : Str)) = false)
    (hrest : ∀ (s : Shared) (H : Hp), QSs ((cxOf C8.CX0 X.prog X.w X.K X.mg X.base Ng x sg g cdg X.A X.stack s H C8.E0).nox) rest tr)
    (fine : ∀ (E : DEnds) (δ : DSt) (M : DM), δ.length = Ng.length → δ[1]? = some (some .non) → (∀ M'', Sub M M'' → E.rt (.str "fine") M'') → tr.run E δ M)
    (word : ∀ (E : DEnds) (δ : DSt) (M : DM) (b : Addr) (y : Str), δ.length = Ng.length → δ[1]? = some (some (.ref b)) → M b = some (.exc y) → y ∈ cs → (∀ M'', Sub M M'' → E.rt (.str (wd y)) M'') → tr.run E δ M) :
    LamX.GivesTo X Ng x sg g cdg (.Assign [.Name m pm0] (.Constant .none kc pn0) pp0 :: .Try [.Expr (.Call (.Name a p1) [] [] p2) pe] [.ExceptHandler (some (.Name "LaterError" np)) (some n) [.Assign [.Name m pm] (.Name n pn2) pa] pos'] [] [] pos :: rest) a q (TTw X.K cs wd) := by
  intro f c' s H Q tl act hc h
  have len : 2 < Ng.length := (List.getElem?_eq_some_iff.mp h2).1
  refine ⟨_, pss_cons (ps_set (i := 1) hN h1 (.inl km) pe_non rfl (.inl rfl)) (pss_cons (ps_tryK (X := (cxOf C8.CX0 X.prog X.w X.K X.mg X.base Ng x sg g cdg X.A X.stack s H C8.E0).nox) (i := 2) (j := 1)
      (te := fun W σZ HZ Q => ∃ Ech : XK, (∀ cls d σ' H', Ech cls d H' → W cls d σ' H') ∧ σZ[0]? = some (some (.ref f)) ∧ HZ c' = some (LamX.CodeO c' q) ∧ tl Ech HZ Q) E rfl rfl rfl hN h2 (by decide) kn gL kl (fun W pn xe tk => ?_) (fun b pn => ?_) rfl) (hrest s H)), ?_⟩
  · refine ⟨fun pins s' σ H' Q I ⟨Ech, hW, e1, e2, e3⟩ => ?_⟩
    exact (act W pn xe Ech p1 p2 tk hW).run pins s' σ H' Q I ⟨e1, e2, e3⟩
  · exact qss_one (qs_set hN h1 (.inl km) (qe_var (pe_var h2 (.inl kn) hdn hcn)) rfl (.inl rfl))
  · -- the run, from the lambda's reading
    have l0 : (L2.start Ng [V.ref f]).length = Ng.length := by
      unfold L2.start
      rw [List.length_append, List.length_map, List.length_replicate]
      show 1 + (Ng.length - 1) = Ng.length
      omega
    have nones : ∀ (K : PySem.W.Frag) (H : Hp) (σ : L2.St), σ.length = Ng.length → SRel K H σ (List.replicate Ng.length none) := fun K H σ hl => ⟨by rw [hl, List.length_replicate], fun i d e => by
      rw [List.getElem?_replicate] at e
      split at e <;> cases e⟩
    show ∃ Ech : XK, _
    refine ⟨fun cls d H' => ∀ σ', _, fun cls d σ' H' z => z σ', ?_, hc, h _ _ (fun cls d H' z σ' => ?_) fun v H' z => ?_⟩
    · show ((L2.start Ng [V.ref f]).set 1 (some V.non))[0]? = _
      rw [List.getElem?_set_ne (by decide)]
      rfl
    · obtain ⟨rfl, y, M', rfl, hy, x', m', fin⟩ := z
      refine ⟨rfl, y, M', List.replicate Ng.length none, rfl, hy, fun hl => nones _ _ _ hl, List.length_replicate, x', m', fun b hb σ2 H2 x2 s2 m2 => ?_⟩
      refine ⟨_, _, s2, m2, word _ _ _ b y (by simp) ?_ put_same hy fun M'' sub v H'' x'' m'' dn => ?_⟩
      · rw [List.getElem?_set_ne (by decide), List.getElem?_set_self (by rw [List.length_replicate]; omega)]
      · rw [lstr dn]
        exact fin H'' (x2.trans x'') (m''.sub ((Sub.new hb).trans sub))
    · obtain ⟨M', x', m', fin⟩ := z
      have s1 : SRel X.K H' ((L2.start Ng [V.ref f]).set 1 (some V.non)) ((List.replicate Ng.length none).set 1 (some .non)) := (nones X.K H' _ l0).set dnon 1
      refine ⟨_, _, s1, m', fine _ _ _ (by simp) ?_ fun M'' sub v H'' x'' m'' dn => ?_⟩
      · rw [List.getElem?_set_self (by rw [List.length_replicate]; omega)]
      · rw [lstr dn]
        exact fin H'' x'' (m''.sub sub)
end
end LD

/-! LE5: the end of a law whose def makes lambdas -/
namespace LD
open PySem PySem.Spec PyProof.Rows L2

/-- .. and the def's table -/
def scrT (t : Bool) (a : Addr) (u : HO) (P : Addr) : Hp := fun b => if b = P then some (.tbl #[]) else scrH t a u b
theorem scrT_P {t : Bool} {a P : Addr} {u : HO} : scrT t a u P P = some (.tbl #[]) := if_pos rfl
theorem scrT_ne {t : Bool} {a b P : Addr} {u : HO} (h : b ≠ P) : scrT t a u P b = scrH t a u b := if_neg h
section
variable {P : Program} {w : World} {K : PySem.W.Frag} {mg mb : Str → Option Value} {k : Nat} {fa a T : Addr} {c : Addr} {fd : FuncData} {x : Str} {sp : DSp} {s : Shared} {vs : List Value} {ns : List Int} {d : Str × Option Str} {q : Str}
theorem law_runT (KX : K.In s.heap) (hns : s.heap.Ns mainGlobals mg) (hb : s.heap.Ns builtinsNs mb) (hbb : ∀ y : Str, y ≠ "__name__" → mb y = bootBuiltins y) (hlim : s.heap.NoLimit) (hg : s.gens = #[])
    (hT : s.heap.get? (He.cT K d).2 = some { cls := .none, data := .fields #[] }) (nT : K.lookup (He.cT K d).2 = none) (hC : PySem.W.codeHdIn K (He.cT K d).1 (He.cT K d).2 = true)
    (hbm : ∃ (bm : Addr) (ob : Obj), mg "__builtins__" = some (.ref bm) ∧ bm ≠ builtinsNs ∧ s.heap.get? bm = some ob ∧ ob.cls = .type "module" ∧ ob.dict = some builtinsNs ∧ ob.data = .plain)
    (ha : s.heap.get? a = some { cls := .type "list", data := .seq vs.toArray }) (hi : IntsAre vs ns) (hl : ns.length ≤ sizeLine) (hr : Rm gb k callerA)
    (F : ∀ base : Heap, K.In base → base.Ns mainGlobals mg → LamX.TabB base mg (He.cT K d).1 (He.cT K d).2 → FnG gb P w K mg base k fa fd [x] (lSp K mg 1 sp)) (hbind : ∀ (s : Shared) (u : Value), BindsTo s fd ⟨[u], []⟩ [(x, u)])
    (hsp : sp [.lst (ns.map D.int)] (put (fun _ => none) (He.cT K d).2 (.tab d q)) (fun d _ => d = .bl true) xNo) :
    codeAny (model P w) callerA (.call (.ref fa) ⟨[.ref a], []⟩) (fun r s' => r = .ok (.ret (.bool true)) ∧ OldK s.heap s'.heap ∧ s'.os = s.os ∧ AllBare s'.gens) s := by
  generalize eT : (He.cT K d).2 = T at hT nT hC F hsp
  let ob : Obj := { cls := .type "list", data := .seq vs.toArray }
  let u : HO := .frz ob (.lst (ns.map V.int))
  have rv := vals_ints hi
  have hlen := hi.length
  have aT : a ≠ T := fun z => by
    rw [z, hT] at ha
    cases ha
  have go : ∀ t : Bool, (t = true → K.lookup a = none) → (t = false → K.lookup a = some ob) →
      codeAny (model P w) callerA (.call (.ref fa) ⟨[.ref a], []⟩) (fun r s' => r = .ok (.ret (.bool true)) ∧ OldK s.heap s'.heap ∧ s'.os = s.os ∧ AllBare s'.gens) s := by
    intro t ht hf
    have cases_ : ∀ {b : Addr} {v : HO}, scrT t a u T b = some v → (b = T ∧ v = .tbl #[]) ∨ (b = a ∧ t = true ∧ v = u) := fun {b v} e => by
      by_cases hbT : b = T
      · subst hbT
        rw [scrT_P] at e
        exact .inl ⟨rfl, (Option.some.inj e).symm⟩
      · rw [scrT_ne hbT] at e
        exact .inr (scrH_cases e)
    have ok : HOk P w (scrT t a u T) s.heap := by
      intro b v e
      rcases cases_ e with ⟨rfl, rfl⟩ | ⟨rfl, _, rfl⟩
      · exact hT
      · exact ⟨ha, by rw [List.length_map]; exact hl, vs, _, rv, ha⟩
    have free : ∀ {b : Addr} {o : Obj}, s.heap.get? b = some o → (∀ xs n, o.data ≠ .seq xs n) → o.data ≠ .fields #[] → scrT t a u T b = none := by
      intro b o e h1 h2
      cases z : scrT t a u T b with
      | none => rfl
      | some v =>
        exfalso
        rcases cases_ z with ⟨rfl, _⟩ | ⟨rfl, _, _⟩
        · rw [hT] at e; cases e; exact h2 rfl
        · rw [ha] at e; cases e; exact h1 _ _ rfl
    have nsB : ∀ {b : Addr} {m : Str → Option Value}, s.heap.Ns b m → (hidT s.heap (scrT t a u T)).Ns b m := fun ⟨o, es, ep, e, dd, r⟩ => ⟨o, es, ep, hidT_get e (free e (fun _ _ z => by rw [dd] at z; cases z) (fun z => by rw [dd] at z; cases z)), dd, r⟩
    have KB : K.In (hidT s.heap (scrT t a u T)) := by
      intro b o e
      refine hidT_get (KX b o e) ?_
      cases z : scrT t a u T b with
      | none => rfl
      | some v =>
        rcases cases_ z with ⟨rfl, _⟩ | ⟨rfl, ht', _⟩
        · rw [nT] at e; cases e
        · rw [ht ht'] at e; cases e
    have md : Mod K mg (hidT s.heap (scrT t a u T)) := ⟨KB, nsB hns, ⟨mb, nsB hb, hbb⟩, hlim.elim fun mc z => ⟨mc, nsB z.1, z.2⟩⟩
    have e0 : Env0 P w K mg (hidT s.heap (scrT t a u T)) callerA [] s (scrT t a u T) :=
      ⟨rfl, md, fun b o e => of_hidT e, Nat.le_of_eq (hidT_size _ _), trivial, fun b hb => (List.not_mem_nil hb).elim, ok, .of_eq hg⟩
    have TB : LamX.TabB (hidT s.heap (scrT t a u T)) mg (He.cT K d).1 T := by
      obtain ⟨bm, bo, b1, b2, b3, b4, b5, b6⟩ := hbm
      obtain ⟨og, esg, epg, eg, dg, _⟩ := id hns
      refine ⟨PySem.W.codeHd_of_K KB hC, ⟨bm, bo, b1, b2, fun z => ?_, fun z => ?_, hidT_get b3 (free b3 (fun _ _ z => by rw [b6] at z; cases z) (fun z => by rw [b6] at z; cases z)), b4, b5, b6⟩, fun z => ?_⟩
      · rw [z, eg] at b3; cases b3; rw [dg] at b6; cases b6
      · rw [z, hT] at b3; cases b3; cases b6
      · rw [z, hT] at eg; cases eg; cases dg
    have dn : den K (scrT t a u T) (.ref a) (.lst (ns.map D.int)) := by
      rw [den]
      refine ⟨a, ns.map V.int, rfl, ?_, dens_ints⟩
      cases t with
      | true => exact .inl ⟨ob, by rw [scrT_ne aT]; exact scrH_t⟩
      | false => exact .inr ⟨ob, vs.toArray, 0, hf rfl, rfl, rfl, rfl, by rw [List.size_toArray, hlen]; exact hl, rv⟩
    have mr : MRel K (scrT t a u T) (put (fun _ => none) T (.tab d q)) := fun b o e => by
      by_cases hbT : b = T
      · subst hbT
        rw [put_same] at e
        cases e
        exact ⟨eT.symm, LamX.TabS.nil scrT_P⟩
      · rw [put_ne hbT] at e; cases e
    have hS : lSp K mg 1 sp [.ref a] (scrT t a u T) (fun v _ => v = .bl true) fun _ _ _ => False := by
      refine ⟨rfl, _, _, dens_cons dn dens_nil, mr, _, _, fun d M q v H' _ _ d' => ?_, fun _ _ q => q.elim, hsp⟩
      subst q
      exact lbl d'
    refine codeAny_mono ((F _ KB (nsB hns) TB).run (args := ⟨[.ref a], []⟩) (us := [.ref a]) (vs := [.ref a]) hr e0 (hbind s _) (.cons rfl .nil) hS) fun r s' h => ?_
    cases r with
    | error e => exact h.elim fun _ z => z.elim fun _ z => z.elim fun _ z => z.elim fun _ z => z.elim fun _ z => z.2.2.2.2.2.2.2.elim
    | ok fl =>
      cases fl with
      | next => exact h.elim
      | brk => exact h.elim
      | cont => exact h.elim
      | ret y =>
        obtain ⟨v, H', os, bare, un, ok', r', z⟩ := h
        subst z
        cases r'
        have same : ∀ b o, b ≠ T → s.heap.get? b = some o → s'.heap.get? b = some o := fun b o nb e => by
          cases z : scrT t a u T b with
          | none => exact un.keep b o e z List.not_mem_nil List.not_mem_nil
          | some v =>
            rcases cases_ z with ⟨z1, _⟩ | ⟨rfl, _, rfl⟩
            · exact (nb z1).elim
            · have e1 := (ok' _ _ (un.frzs _ _ _ z)).1
              rw [ha] at e
              cases e
              exact e1
        obtain ⟨more, gT⟩ := un.tbls T #[] scrT_P
        have atT := ok' T _ gT
        refine ⟨rfl, ⟨fun b o e => ?_, fun b o e => ?_⟩, os, bare⟩
        · by_cases hbT : b = T
          · subst hbT
            rw [hT] at e
            cases e
            exact .inr (.inl ⟨((PySem.W.codeHd_of_K KX hC).tab hT).isCodeTable, rfl, #[], more, rfl, atT⟩)
          · exact .inl (same b o hbT e)
        · by_cases hbT : b = T
          · subst hbT
            exact ⟨_, atT⟩
          · exact ⟨o, same b o hbT e⟩
  cases hk : K.lookup a with
  | none => exact go true (fun _ => hk) fun z => nomatch z
  | some o =>
    have e := KX a o hk
    rw [ha] at e
    cases e
    exact go false (fun z => nomatch z) fun _ => hk
end
/-- a law, from its def's promise -/
theorem law_endT {l : PySem.W.OpenLaw} {n k : Nat} {q : Program} {loose : List Str} {XP : (Str → Option Value) → Heap → Prop} {YP : World → Heap → Prop} {d : DefRec} {x : Str}
    (hn : l.most = some n) (hn2 : n ≤ sizeLine) (hdf : d.params.defaults = []) (hr : Rm gb k callerA)
    (F : ∀ (w : World) (mg : Str → Option Value) (fa : Addr) (h : Heap), YP w h → h.Ns mainGlobals mg → mg d.name = some (.ref fa) →
      ∃ (K : PySem.W.Frag) (fd : FuncData) (sp : DSp) (dd : Str × Option Str) (qq : Str), K.In h ∧ (∀ (s : Shared) (u : Value), BindsTo s fd ⟨[u], []⟩ [(x, u)]) ∧
        (h.get? (He.cT K dd).2 = some { cls := .none, data := .fields #[] } ∧ K.lookup (He.cT K dd).2 = none ∧ PySem.W.codeHdIn K (He.cT K dd).1 (He.cT K dd).2 = true) ∧
        (∀ ns : List Int, ns.length ≤ n → sp [.lst (ns.map D.int)] (put (fun _ => none) (He.cT K dd).2 (.tab dd qq)) (fun d _ => d = .bl true) xNo) ∧
        ∀ base : Heap, K.In base → base.Ns mainGlobals mg → LamX.TabB base mg (He.cT K dd).1 (He.cT K dd).2 → FnG gb l.prog w K mg base k fa fd [x] (lSp K mg 1 sp)) :
    PySem.W.WalkO q loose XP YP l.row.toRowW d [] (fun f vs => PySem.call f vs) := by
  apply Att.attach_callB hn hdf
  intro w s₀ s₁ mg mb fa o pm cd doc a vs ns G Y ho hd hcd hmg hobj hints hlen hbits hg
  obtain ⟨K, fd, sp, dd, qq, KX, hb, ⟨hT, nT, hC⟩, hsp, hF⟩ := F w mg fa _ Y G.T.g hmg
  exact law_runT KX G.T.g G.T.b G.T.builtins G.T.nolimit hg hT nT hC G.T.bmain hobj hints (Nat.le_trans hlen hn2) hr hF hb (hsp ns hlen)
end LD

/-! LE6: in, list methods, a name bound to a list comprehension -/
namespace LD
open PySem PySem.Spec PyProof.Rows L2

/-! ### flat values -/
def flatD : D → Bool
  | .non => true
  | .bl _ => true
  | .int _ => true
  | .str _ => true
  | _ => false
def flV : D → V
  | .bl b => .bl b
  | .int i => .int i
  | .str x => .str x
  | _ => .non
section
variable {K : PySem.W.Frag} {H : Hp}
theorem flat_den {v : V} {d : D} (h : den K H v d) (f : flatD d = true) : v = flV d ∧ flatV v = true := by
  cases d with
  | non => rw [den] at h; subst h; exact ⟨rfl, rfl⟩
  | bl b => rw [den] at h; subst h; exact ⟨rfl, rfl⟩
  | int b => rw [den] at h; subst h; exact ⟨rfl, rfl⟩
  | str b => rw [den] at h; subst h; exact ⟨rfl, rfl⟩
  | _ => cases f
theorem flats_den : ∀ {vs : List V} {ds : List D}, dens K H vs ds → ds.all flatD = true → vs = ds.map flV ∧ vs.all flatV = true
  | vs, [], h, _ => by rw [dens] at h; subst h; exact ⟨rfl, rfl⟩
  | vs, d :: ds, h, f => by
    rw [dens] at h
    obtain ⟨v, r, e, h1, h2⟩ := h
    rw [List.all_cons, Bool.and_eq_true] at f
    obtain ⟨e1, f1⟩ := flat_den h1 f.1
    obtain ⟨e2, f2⟩ := flats_den h2 f.2
    subst e
    exact ⟨by rw [List.map_cons, ← e1, ← e2], by rw [List.all_cons, f1, f2]; rfl⟩
end
/-- x in ys, ys a list or tuple of flat values -/
def oIn (neg : Bool) : DO2 where
  run x y M Q := ∃ ds, isSeq M y ds ∧ flatD x = true ∧ ds.all flatD = true ∧ Q (.bl (inV (flV x) (ds.map flV) ^^ neg)) M
  mono h k := let ⟨ds, h1, h2, h3, h4⟩ := h; ⟨ds, h1, h2, h3, k _ _ h4⟩
section
variable {X : Cx}
theorem o_in : O2 X (compareOp .In) (oIn false) := by
  intro pins s σ H x y v u Q I rx ry h
  obtain ⟨dx, dy, M, hx, hy, m, ds, h1, h2, h3, q⟩ := h
  obtain ⟨a, vs, rfl, sq, dv⟩ := isSeq_sq m hy h1
  obtain ⟨e1, f1⟩ := flat_den hx h2
  obtain ⟨e2, f2⟩ := flats_den dv h3
  have q2 := q _ _ (.refl H) m dbl
  rw [Bool.xor_false, ← e1, ← e2] at q2
  exact op_in_seq pins s σ H x _ v u Q I rx ry ⟨a, vs, rfl, sq, f1, f2, q2⟩
theorem o_notin : O2 X (compareOp .NotIn) (oIn true) := by
  intro pins s σ H x y v u Q I rx ry h
  obtain ⟨dx, dy, M, hx, hy, m, ds, h1, h2, h3, q⟩ := h
  obtain ⟨a, vs, rfl, sq, dv⟩ := isSeq_sq m hy h1
  obtain ⟨e1, f1⟩ := flat_den hx h2
  obtain ⟨e2, f2⟩ := flats_den dv h3
  have q2 := q _ _ (.refl H) m dbl
  rw [Bool.xor_true, ← e1, ← e2] at q2
  exact op_notIn_seq pins s σ H x _ v u Q I rx ry ⟨a, vs, rfl, sq, f1, f2, q2⟩
end

/-! ### methods of lists -/
structure DMt where
  run : D → List D → DM → (D → DM → Prop) → Prop
  mono : ∀ {x : D} {xs : List D} {M : DM} {Q Q' : D → DM → Prop}, run x xs M Q → (∀ d M', Q d M' → Q' d M') → run x xs M Q'
def lM (K : PySem.W.Frag) (r : DMt) : V → List V → Hp → VK → Prop := fun x xs H Q => ∃ d ds M, den K H x d ∧ dens K H xs ds ∧ MRel K H M ∧ r.run d ds M (lQ K H Q)
abbrev OM (X : Cx) (id : String) (r : DMt) : Prop := MtR X id (lM X.K r)
def dMethL (r : DMt) (to : DE) (t : DA) : DE where
  run δ M Q := to.run δ M fun d M1 => (∃ ds, isL M1 d ds) ∧ t.run δ M1 fun xs M2 => r.run d xs M2 Q
  mono h k := to.mono h fun d M1 q => ⟨q.1, t.mono q.2 fun xs M2 q => r.mono q k⟩
def mAppend : DMt where
  run x xs M Q := match x, xs with
    | .ref p, [y] => ∃ ds, M p = some (.lst ds) ∧ ds.length < sizeLine ∧ Q .non (put M p (.lst (ds ++ [y])))
    | _, _ => False
  mono {x xs M Q Q'} h k := by
    revert h
    split <;> intro h
    · obtain ⟨ds, h1, h2, h3⟩ := h; exact ⟨ds, h1, h2, k _ _ h3⟩
    · exact h
def mIndex : DMt where
  run x xs M Q := match xs with
    | [y] => ∃ (ds : List D) (j : Nat) (z : D), isL M x ds ∧ flatD y = true ∧ ds.all flatD = true ∧ ds[j]? = some z ∧ eqV (flV z) (flV y) = true ∧ (∀ (m : Nat) (z' : D), m < j → ds[m]? = some z' → eqV (flV z') (flV y) = false) ∧ Q (.int (j : Nat)) M
    | _ => False
  mono {x xs M Q Q'} h k := by
    revert h
    split <;> intro h
    · obtain ⟨ds, j, z, h1, h2, h3, h4, h5, h6, h7⟩ := h; exact ⟨ds, j, z, h1, h2, h3, h4, h5, h6, k _ _ h7⟩
    · exact h
def mCountB : DMt where
  run x xs M Q := match xs with
    | [.bl k] => ∃ bs : List Bool, isL M x (bs.map D.bl) ∧ Q (.int (bs.count k : Nat)) M
    | _ => False
  mono {x xs M Q Q'} h k := by
    revert h
    split <;> intro h
    · obtain ⟨bs, h1, h2⟩ := h; exact ⟨bs, h1, k _ _ h2⟩
    · exact h
section
variable {X : Cx}
theorem m_append : OM X "list.append" mAppend := by
  intro pins s σ H x xs v us Q I rx rxs h
  obtain ⟨d, ds, M, hd, hds, m, q⟩ := h
  dsimp only [mAppend] at q
  split at q
  · obtain ⟨es, h1, h2, h3⟩ := q
    rw [den] at hd
    subst hd
    obtain ⟨y, rfl, dy⟩ := dens1 hds
    obtain ⟨vs, h4, h5⟩ := m _ _ h1
    have x3 : Ext H (upd H _ (.lst (vs ++ [y]))) := .put h4 trivial
    exact mt_append pins s σ H _ _ v us Q I rx rxs ⟨_, vs, y, rfl, rfl, h4, by rw [dens_length h5]; exact h2, h3 _ _ x3 (m.put (u := .lst (es ++ [_])) h4 trivial ⟨_, upd_same, dens_append (dens_ext x3 _ _ h5) (dens_cons (den_ext x3 _ _ dy) dens_nil)⟩) dnon⟩
  · exact q.elim
theorem m_index : OM X "list.index" mIndex := by
  intro pins s σ H x xs v us Q I rx rxs h
  obtain ⟨d, ds, M, hd, hds, m, q⟩ := h
  dsimp only [mIndex] at q
  split at q
  · obtain ⟨es, j, z, h1, h2, h3, h4, h5, h6, h7⟩ := q
    obtain ⟨y, rfl, dy⟩ := dens1 hds
    obtain ⟨a, vs, rfl, sq, dv⟩ := isL_rd m hd h1
    obtain ⟨e1, f1⟩ := flat_den dy h2
    obtain ⟨e2, f2⟩ := flats_den dv h3
    subst e1 e2
    refine mt_index pins s σ H _ _ v us Q I rx rxs ⟨a, es.map flV, _, j, flV z, rfl, rfl, sq, f1, f2, by rw [List.getElem?_map, h4]; rfl, h5, fun k z' hk hz => ?_, h7 _ _ (.refl H) m dint⟩
    rw [List.getElem?_map] at hz
    cases e : es[k]? with
    | none => rw [e] at hz; cases hz
    | some w => rw [e] at hz; cases hz; exact h6 k w hk e
  · exact q.elim
theorem countP_eqU {x : V} : ∀ {xs : List V} {us : List Value}, L2.Vals xs us → xs.all flatV = true → us.countP (eqU x) = xs.countP fun y => eqV y x
  | _, _, .nil, _ => rfl
  | y :: xs, u :: us, .cons r t, f => by
    rw [List.all_cons, Bool.and_eq_true] at f
    rw [List.countP_cons, List.countP_cons, countP_eqU t f.2, eqU_of r f.1]
theorem count_bools (k : Bool) : ∀ bs : List Bool, ((bs.map D.bl).map flV).countP (fun y => eqV y (.bl k)) = bs.count k
  | [] => rfl
  | b :: bs => by
    rw [List.map_cons, List.map_cons, List.countP_cons, List.count_cons, count_bools k bs]
    rfl
theorem m_countB : OM X "list.count" mCountB := by
  intro pins s σ H x xs v us Q I rx rxs h
  obtain ⟨d, ds, M, hd, hds, m, q⟩ := h
  dsimp only [mCountB] at q
  split at q
  · rename_i k
    obtain ⟨bs, h1, q⟩ := q
    obtain ⟨y, rfl, dy⟩ := dens1 hds
    cases lbl dy
    obtain ⟨a, vs, rfl, sq, dv⟩ := isL_rd m hd h1
    obtain ⟨e2, f2⟩ := flats_den dv (by rw [List.all_map]; exact List.all_eq_true.mpr fun _ _ => rfl)
    subst e2
    obtain ⟨u, rfl, ru⟩ := vals1 rxs
    cases rx
    cases ru
    obtain ⟨its, rv, ⟨⟨cl, dd, data, sl⟩, n, ho, hcl, hdn, hda⟩, hlen⟩ := I.list sq
    simp only at hcl hda
    subst hcl hda
    refine call_meets PySem.F.slot_list_count ⟨_, ho, rfl⟩ PySem.F.entry_list_count (PySem.F.args_list_count_2 _ _) (SeqAt.list_countAt a its.toArray n dd sl (.bool k) (eqU (.bl k))) ⟨ho, fun y hy => mem_eqAt (x := .bl k) rfl rfl rv f2 y (by simpa using hy), ?_⟩
    refine ⟨.int (bs.count k : Nat), H, I.tok _, ⟨s.toks, ?_⟩, q _ _ (.refl H) m dint⟩
    rw [show its.toArray.toList = its from rfl, countP_eqU rv f2, count_bools]
  · exact q.elim
variable {o e : Expr} {es : List Expr} {to : DE} {t : DA} {name : Str} {apos cpos : Pos} {id : String} {r : DMt}
theorem qe_methL (slot : Slot "list" name id) (hty : typeOf (.builtin id) = pure (.type "method_descriptor")) (hm : OM X id r) (ho : QE X o to) (ha : QA X (e :: es) t)
    (hbase : attributeBase o name X.env (eval o X.env) = eval o X.env := by rfl)
    (hfew : ((backTo cpos (starEach (e :: es) X.env)).all (fun x => !x.1) && (backToKw cpos (keywordEach [] X.env)).all (fun x => x.1.isSome)
      && decide ((e :: es).length + ([] : List Keyword).length + (if ([] : List Keyword).isEmpty then 0 else 1) < 30)) = true := by rfl)
    (hline : (apos.endLine == cpos.line) = true := by rfl) (hs : starEach (e :: es) X.env = (false, eval e X.env) :: starEach es X.env := by rfl) (hplain : (backTo cpos (starEach es X.env)).any (·.1) = false := by rfl) :
    QE X (.Call (.Attribute o name apos) (e :: es) [] cpos) (dMethL r to t) := by
  refine PE.imp (pe_bm PySem.F.plainAttrs_list slot hty hm ho ha hbase hfew hline hs hplain) fun σ H Q q => ?_
  obtain ⟨δ, M, s, m, q⟩ := q
  refine lE_step s m q fun d M1 v H1 x1 m1 d1 q1 => ?_
  obtain ⟨⟨ds, h1⟩, q1⟩ := q1
  obtain ⟨a, vs, rfl, sq, dv⟩ := isL_rd m1 d1 h1
  refine ⟨.inl ⟨rfl, vs, sq⟩, ?_⟩
  refine lA_step (s.ext x1) m1 q1 fun xs M2 ws H2 x2 m2 d2 q2 => ?_
  exact ⟨d, xs, M2, den_ext x2 _ _ d1, d2, m2, r.mono q2 fun _ _ h => lQ_ext (x1.trans x2) h⟩
end

/-! ### name = [..] on one line -/
section
variable {X : Cx} {elt iter : Expr} {x y : Str} {px py pos spos : Pos} {scope : Scope} {w : DI} {t : DE} {i j : Nat}
theorem qs_setLc (hc : X.calm = true) (hN : X.N.Nodup) (hy : X.N[j]? = some y) (hyl : X.env.scope.names.lookup y = some .local)
    (hsw : swapsWith (.ListComp elt [⟨.Name x px, iter, [], 0⟩] scope pos) (some (.Name y py)) spos.line X.env = pure true) (hi : QI X (.Name x px) iter w) (ok : BlkOk X.N X.env.scope scope [(x, i)])
    (hg : ∀ (s : Shared) (H : Hp) (C : Addr) (cl : List (Str × Addr)) (fp : List Addr), PG (X.blk s H scope (compEnvC scope cl C X.env) fp) (.Name x px) (gName i))
    (he : ∀ (s : Shared) (H : Hp) (C : Addr) (cl : List (Str × Addr)) (fp : List Addr), QE (X.blk s H scope (compEnvC scope cl C X.env) fp) elt t) (hs : ∀ z, foldedSetIterable iter X.env z = pure z := by intro _; rfl) :
    QS X (.Assign [.Name y py] (.ListComp elt [⟨.Name x px, iter, [], 0⟩] scope pos) spos) (dSet j (dLc w i t)) := by
  refine PS.imp (ps_setLc (te := lE X.K t) hc hN hy hyl hsw hi ok hg (fun _ _ _ _ _ => pts_nil) he hs) fun D σ H q => ?_
  obtain ⟨δ, M, s, m, q⟩ := q
  refine lLc ⟨δ, M, s, m, (dLc w i t).mono q fun d M1 q v H1 x1 m1 d1 => ?_⟩
  exact q _ H1 x1 ((s.ext x1).set d1 j) m1
end
end LD

/-! LE8: constants of the module; all, any, max, min, sorted of lists; loops over texts -/
namespace LD
open PySem PySem.Spec PyProof.Rows L2

/-! ### constants of the module -/
section
variable {X : Cx} {x : Str} {i : Int} {z : Str} {pos : Pos}
theorem qe_gint (hg : Gl X x) (hm : ∃ t, X.mg x = some (.int i t)) (hd : (x == ("__debug__" : Str)) = false := by decide) : QE X (.Name x pos) (dC (.int i)) := by
  obtain ⟨t, hm⟩ := hm
  exact qe_c (pe_glob (v := .int i) hg hm ⟨t, rfl⟩ hd) fun _ => dint
theorem qe_gstr (hg : Gl X x) (hm : ∃ t, X.mg x = some (.str z t)) (hd : (x == ("__debug__" : Str)) = false := by decide) : QE X (.Name x pos) (dC (.str z)) := by
  obtain ⟨t, hm⟩ := hm
  exact qe_c (pe_glob (v := .str z) hg hm ⟨t, rfl⟩ hd) fun _ => dstr
end

/-! ### all, any of a list of bools; max, min, sorted of a list of ints -/
def rBools (f : List Bool → Bool) : DC where
  run xs M Q := match xs with
    | [x] => ∃ bs : List Bool, isL M x (bs.map D.bl) ∧ Q (.bl (f bs)) M
    | _ => False
  mono {xs M Q Q'} h k := by
    revert h
    split <;> intro h
    · obtain ⟨bs, h1, h2⟩ := h; exact ⟨bs, h1, k _ _ h2⟩
    · exact h
abbrev rAllB : DC := rBools fun bs => bs.all id
abbrev rAnyB : DC := rBools fun bs => bs.any id
def rMost (lt : Int → Int → Prop) : DC where
  run xs M Q := match xs with
    | [x] => ∃ ns : List Int, isL M x (ns.map D.int) ∧ 0 < ns.length ∧ ∀ m, m ∈ ns → (∀ y, y ∈ ns → lt y m) → Q (.int m) M
    | _ => False
  mono {xs M Q Q'} h k := by
    revert h
    split <;> intro h
    · obtain ⟨ns, h1, h2, h3⟩ := h; exact ⟨ns, h1, h2, fun m a b => k _ _ (h3 m a b)⟩
    · exact h
abbrev rMaxI : DC := rMost fun y m => y ≤ m
abbrev rMinI : DC := rMost fun y m => m ≤ y
def rMax2 (f : Int → Int → Int) : DC where
  run xs M Q := match xs with
    | [.int i, .int j] => Q (.int (f i j)) M
    | _ => False
  mono {xs M Q Q'} h k := by
    revert h
    split <;> intro h
    · exact k _ _ h
    · exact h
theorem flI {K : PySem.W.Frag} {H : Hp} : ∀ {vs : List V} {ns : List Int}, dens K H vs (ns.map D.int) → vs = ns.map V.int
  | vs, [], h => by rw [List.map_nil, dens] at h; exact h
  | vs, n :: ns, h => by
    rw [List.map_cons, dens] at h
    obtain ⟨v, r, e, h1, h2⟩ := h
    rw [e, lint h1, flI h2]; rfl
theorem flB {K : PySem.W.Frag} {H : Hp} : ∀ {vs : List V} {ns : List Bool}, dens K H vs (ns.map D.bl) → vs = ns.map V.bl
  | vs, [], h => by rw [List.map_nil, dens] at h; exact h
  | vs, n :: ns, h => by
    rw [List.map_cons, dens] at h
    obtain ⟨v, r, e, h1, h2⟩ := h
    rw [e, lbl h1, flB h2]; rfl
section
variable {X : Cx}
theorem c_all (hc : X.calm = true) : OC X (.builtin "all") rAllB := by
  intro pins s σ H vs us Q I r h
  obtain ⟨ds, M, hd, m, q⟩ := h
  dsimp only [rAllB, rBools] at q
  split at q
  · obtain ⟨bs, h1, q⟩ := q
    obtain ⟨v, rfl, d1⟩ := dens1 hd
    obtain ⟨a, ws, rfl, sq, dv⟩ := isL_rd m d1 h1
    cases flB dv
    exact cr_all hc pins s σ H _ us Q I r ⟨a, bs, rfl, sq, q _ _ (.refl H) m dbl⟩
  · exact q.elim
theorem c_any (hc : X.calm = true) : OC X (.builtin "any") rAnyB := by
  intro pins s σ H vs us Q I r h
  obtain ⟨ds, M, hd, m, q⟩ := h
  dsimp only [rAnyB, rBools] at q
  split at q
  · obtain ⟨bs, h1, q⟩ := q
    obtain ⟨v, rfl, d1⟩ := dens1 hd
    obtain ⟨a, ws, rfl, sq, dv⟩ := isL_rd m d1 h1
    cases flB dv
    exact cr_any hc pins s σ H _ us Q I r ⟨a, bs, rfl, sq, q _ _ (.refl H) m dbl⟩
  · exact q.elim
theorem c_maxI (hc : X.calm = true) : OC X (.builtin "max") rMaxI := by
  intro pins s σ H vs us Q I r h
  obtain ⟨ds, M, hd, m, q⟩ := h
  dsimp only [rMaxI, rMost] at q
  split at q
  · obtain ⟨ns, h1, h2, q⟩ := q
    obtain ⟨v, rfl, d1⟩ := dens1 hd
    obtain ⟨a, ws, rfl, sq, dv⟩ := isL_rd m d1 h1
    cases flI dv
    exact cr_max hc pins s σ H _ us Q I r ⟨a, ns, rfl, sq, h2, fun k a b => q k a b _ _ (.refl H) m dint⟩
  · exact q.elim
theorem c_minI (hc : X.calm = true) : OC X (.builtin "min") rMinI := by
  intro pins s σ H vs us Q I r h
  obtain ⟨ds, M, hd, m, q⟩ := h
  dsimp only [rMinI, rMost] at q
  split at q
  · obtain ⟨ns, h1, h2, q⟩ := q
    obtain ⟨v, rfl, d1⟩ := dens1 hd
    obtain ⟨a, ws, rfl, sq, dv⟩ := isL_rd m d1 h1
    cases flI dv
    exact cr_min hc pins s σ H _ us Q I r ⟨a, ns, rfl, sq, h2, fun k a b => q k a b _ _ (.refl H) m dint⟩
  · exact q.elim
theorem c_max2 (hc : X.calm = true) : OC X (.builtin "max") (rMax2 fun i j => if j > i then j else i) := by
  intro pins s σ H vs us Q I r h
  obtain ⟨ds, M, hd, m, q⟩ := h
  dsimp only [rMax2] at q
  split at q
  · obtain ⟨v, w, rfl, d1, d2⟩ := dens2 hd
    cases lint d1; cases lint d2
    exact call_max2 hc pins s σ H _ us Q I r ⟨_, _, rfl, q _ _ (.refl H) m dint⟩
  · exact q.elim
theorem c_min2 (hc : X.calm = true) : OC X (.builtin "min") (rMax2 fun i j => if j < i then j else i) := by
  intro pins s σ H vs us Q I r h
  obtain ⟨ds, M, hd, m, q⟩ := h
  dsimp only [rMax2] at q
  split at q
  · obtain ⟨v, w, rfl, d1, d2⟩ := dens2 hd
    cases lint d1; cases lint d2
    exact call_min2 hc pins s σ H _ us Q I r ⟨_, _, rfl, q _ _ (.refl H) m dint⟩
  · exact q.elim
end

/-! ### loops over a text -/
def signsD (x : Str) : List D := x.cps.toList.map fun c => D.str ⟨#[c]⟩
def dItStr (t : DE) : DI where
  run δ M Q := t.run δ M fun d M1 => match d with
    | .str x => Q (signsD x) (fun _ => True) M1
    | _ => False
  mono h k := t.mono h fun d M1 q => by
    revert q; split <;> intro q
    · exact k _ _ _ q
    · exact q
theorem signsD_get (x : Str) (i : Nat) : (signsD x)[i]? = (x.cps[i]?).map fun c => D.str ⟨#[c]⟩ := by
  unfold signsD
  rw [List.getElem?_map, Array.getElem?_toList]
theorem signsD_len (x : Str) : (signsD x).length = x.cps.size := by
  unfold signsD
  rw [List.length_map, Array.length_toList]
theorem it_str {K : PySem.W.Frag} {H0 : Hp} {x : Str} : ItOk K H0 (Its x) (signsD x) fun _ => True where
  go i H M _ _ _ hi := by rw [signsD_len] at hi; exact hi
  yld i H M y H' _ _ _ hy := by
    obtain ⟨e, c, h1, h2⟩ := hy
    subst e h2
    refine ⟨.refl _, fun _ h => h, fun d hd => ?_⟩
    rw [signsD_get, h1] at hd
    cases hd
    exact dstr
  stop i H M _ _ _ hi := by rw [signsD_len] at hi; exact hi
theorem qi_str {X : Cx} {tg e : Expr} {t : DE} (he : QE X e t) : QI X tg e (dItStr t) := by
  refine ⟨fun pins s σ H R I h => (pi_str (tg := tg) he).run pins s σ H R I ?_⟩
  obtain ⟨δ, M, sr, m, q⟩ := h
  refine lE_step sr m q fun d M1 v H1 x1 m1 d1 q1 => ?_
  revert q1; split <;> intro q1
  · exact ⟨_, lstr d1, q1 _ H1 x1 m1 it_str⟩
  · exact q1.elim
/-- x in y, of texts -/
def oInS (neg : Bool) : DO2 where
  run x y M Q := match x, y with
    | .str i, .str j => Q (.bl (!(Builtin.Str.occurrences j i 0 j.length 1).isEmpty ^^ neg)) M
    | _, _ => False
  mono {x y M Q Q'} h k := by
    revert h
    split <;> intro h <;> first | exact k _ _ h | exact h
theorem o_inS {X : Cx} : O2 X (compareOp .In) (oInS false) := by
  intro pins s σ H x y v u Q I rx ry h
  obtain ⟨dx, dy, M, hx, hy, m, q⟩ := h
  dsimp only [oInS] at q
  split at q
  · cases lstr hx; cases lstr hy
    have q2 := q _ _ (.refl H) m dbl
    rw [Bool.xor_false] at q2
    exact op_in_str pins s σ H _ _ v u Q I rx ry ⟨_, _, rfl, rfl, q2⟩
  · exact q.elim

/-! ### [e for x in .. if c] -/
def lcRunI (c : DT) (t : DE) (i : Nat) (δ : DSt) (A : Addr) (Q : D → DM → Prop) (chk : DM → Prop) : List D → DM → Prop
  | [], M => chk M ∧ Q (.ref A) M
  | x :: xs, M => chk M ∧ c.run (δ.set i (some x)) M fun b M0 => bcase b (t.run (δ.set i (some x)) M0 fun y M1 => ∃ acc, M1 A = some (.lst acc) ∧ acc.length < sizeLine ∧ lcRunI c t i δ A Q chk xs (put M1 A (.lst (acc ++ [y])))) (lcRunI c t i δ A Q chk xs M0)
theorem lcRunI_mono {c : DT} {t : DE} {i : Nat} {δ : DSt} {A : Addr} {Q Q' : D → DM → Prop} {chk : DM → Prop} (k : ∀ d M, Q d M → Q' d M) : ∀ (xs : List D) (M : DM), lcRunI c t i δ A Q chk xs M → lcRunI c t i δ A Q' chk xs M
  | [], _, h => ⟨h.1, k _ _ h.2⟩
  | _ :: xs, _, h => ⟨h.1, c.mono h.2 fun b M0 q => bcase_mono q (fun q => t.mono q fun y M1 ⟨acc, h1, h2, h3⟩ => ⟨acc, h1, h2, lcRunI_mono k xs _ h3⟩) fun q => lcRunI_mono k xs _ q⟩
def dLcI (w : DI) (i : Nat) (c : DT) (t : DE) : DE where
  run δ M Q := w.run δ M fun items chk M1 => ∀ A, M1 A = none → lcRunI c t i (δ.set i none) A Q chk items (put M1 A (.lst []))
  mono h k := w.mono h fun items chk M1 q A hA => lcRunI_mono k items _ (q A hA)
theorem lLcI {K : PySem.W.Frag} {w : DI} {c : DT} {t : DE} {i : Nat} {σ : L2.St} {H : Hp} {Q : VK} (q : lE K (dLcI w i c t) σ H Q) : tLc (lI K w) (gName i) (lT K c) (lE K t) [i] σ H Q := by
  obtain ⟨δ, M, s, m, q⟩ := q
  refine ⟨δ, M, s, m, w.mono q fun items chk M1 q1 J H1 x1 m1 ok A hA => ?_⟩
  have q1 := q1 A (m1.free hA)
  have xA : Ext H1 (upd H1 A (.lst [])) := .new hA
  refine ⟨fun k n H' => n = items.length - k ∧ k ≤ items.length ∧ ∃ M', Ext H1 H' ∧ MRel K H' M' ∧ lcRunI c t i (δ.set i none) A (lQ K H Q) chk (items.drop k) M', ⟨items.length, by simp, Nat.zero_le _, _, xA, m1.new (u := .lst []) hA ⟨[], upd_same, dens_nil⟩, q1⟩, ?_⟩
  rintro k n H2 ⟨rfl, hk, M2, x2, m2, q2⟩
  by_cases hlt : k < items.length
  · rw [List.drop_eq_getElem_cons hlt] at q2
    obtain ⟨hchk, q2⟩ := q2
    refine .inr ⟨ok.go k H2 M2 x2 m2 hchk hlt, fun H' => ∃ M', Ext H1 H' ∧ MRel K H' M' ∧ lcRunI c t i (δ.set i none) A (lQ K H Q) chk (items.drop (k + 1)) M', fun H' ⟨M', a⟩ => ⟨items.length - (k + 1), by omega, rfl, hlt, M', a⟩, fun y H3 hy => ?_⟩
    obtain ⟨x3, mk, hd⟩ := ok.yld k H2 M2 y H3 x2 m2 hchk hy
    have dn := hd items[k] (List.getElem?_eq_getElem hlt)
    have y3 := x2.trans x3
    have sr : SRel K H3 ((wipe σ [i]).set i (some y)) ((δ.set i none).set i (some items[k])) := ((s.ext (x1.trans y3)).setN i).set dn i
    refine ⟨by show ((wipe σ [i]).set i (some y)).set i none = (σ.set i none); show ((σ.set i none).set i (some y)).set i none = _; rw [List.set_set, List.set_set], ?_⟩
    refine lT_step sr (mk M2 m2) q2 fun b M0 H0 x0 m0 q0 => ?_
    cases b with
    | false =>
      rw [if_neg Bool.false_ne_true]
      exact ⟨M0, y3.trans x0, m0, q0⟩
    | true =>
      rw [if_pos rfl]
      refine lE_step (sr.ext x0) m0 q0 fun d M4 v H4 x4 m4 d4 q4 => ?_
      obtain ⟨acc, h1, h2, h3⟩ := q4
      obtain ⟨vs, h4, h5⟩ := m4 A _ h1
      have xp : Ext H4 (upd H4 A (.lst (vs ++ [v]))) := .put h4 trivial
      exact ⟨vs, h4, by rw [dens_length h5]; exact h2, _, ((y3.trans x0).trans x4).trans xp, m4.put (u := .lst (acc ++ [d])) h4 trivial ⟨_, upd_same, dens_append (dens_ext xp _ _ h5) (dens_cons (den_ext xp _ _ d4) dens_nil)⟩, h3⟩
  · have e : k = items.length := by omega
    subst e
    rw [List.drop_length] at q2
    refine .inl ⟨ok.stop _ H2 M2 x2 m2 q2.1 (Nat.le_refl _), q2.2 _ H2 (x1.trans x2) m2 dref⟩
section
variable {X : Cx} {elt iter cnd : Expr} {x y : Str} {px py pos spos : Pos} {scope : Scope} {w : DI} {c : DT} {t : DE} {i j : Nat}
theorem qe_lcI (hc : X.calm = true) (hN : X.N.Nodup) (hi : QI X (.Name x px) iter w) (ok : BlkOk X.N X.env.scope scope [(x, i)])
    (hg : ∀ (s : Shared) (H : Hp) (C : Addr) (cl : List (Str × Addr)) (fp : List Addr), PG (X.blk s H scope (compEnvC scope cl C X.env) fp) (.Name x px) (gName i))
    (hif : ∀ (s : Shared) (H : Hp) (C : Addr) (cl : List (Str × Addr)) (fp : List Addr), QT (X.blk s H scope (compEnvC scope cl C X.env) fp) cnd c)
    (he : ∀ (s : Shared) (H : Hp) (C : Addr) (cl : List (Str × Addr)) (fp : List Addr), QE (X.blk s H scope (compEnvC scope cl C X.env) fp) elt t) (hs : ∀ y, foldedSetIterable iter X.env y = pure y := by intro _; rfl) :
    QE X (.ListComp elt [⟨.Name x px, iter, [cnd], 0⟩] scope pos) (dLcI w i c t) :=
  PE.imp (pe_lc (tt := lT X.K c) (te := lE X.K t) hc hN hi ok hg (fun s H C cl fp => pts_one (hif s H C cl fp)) he hs) fun _ _ _ q => lLcI q
theorem qs_setLcI (hc : X.calm = true) (hN : X.N.Nodup) (hy : X.N[j]? = some y) (hyl : X.env.scope.names.lookup y = some .local)
    (hsw : swapsWith (.ListComp elt [⟨.Name x px, iter, [cnd], 0⟩] scope pos) (some (.Name y py)) spos.line X.env = pure true) (hi : QI X (.Name x px) iter w) (ok : BlkOk X.N X.env.scope scope [(x, i)])
    (hg : ∀ (s : Shared) (H : Hp) (C : Addr) (cl : List (Str × Addr)) (fp : List Addr), PG (X.blk s H scope (compEnvC scope cl C X.env) fp) (.Name x px) (gName i))
    (hif : ∀ (s : Shared) (H : Hp) (C : Addr) (cl : List (Str × Addr)) (fp : List Addr), QT (X.blk s H scope (compEnvC scope cl C X.env) fp) cnd c)
    (he : ∀ (s : Shared) (H : Hp) (C : Addr) (cl : List (Str × Addr)) (fp : List Addr), QE (X.blk s H scope (compEnvC scope cl C X.env) fp) elt t) (hs : ∀ z, foldedSetIterable iter X.env z = pure z := by intro _; rfl) :
    QS X (.Assign [.Name y py] (.ListComp elt [⟨.Name x px, iter, [cnd], 0⟩] scope pos) spos) (dSet j (dLcI w i c t)) := by
  refine PS.imp (ps_setLc (tt := lT X.K c) (te := lE X.K t) hc hN hy hyl hsw hi ok hg (fun s H C cl fp => pts_one (hif s H C cl fp)) he hs) fun D σ H q => ?_
  obtain ⟨δ, M, s, m, q⟩ := q
  refine lLcI ⟨δ, M, s, m, (dLcI w i c t).mono q fun d M1 q v H1 x1 m1 d1 => ?_⟩
  exact q _ H1 x1 ((s.ext x1).set d1 j) m1
end
end LD

/-! LE9: extend, pop, pop(i), clear; sorted of ints -/
namespace LD
open PySem PySem.Spec PyProof.Rows L2

def mExtend : DMt where
  run x xs M Q := match x, xs with
    | .ref p, [.ref b] => ∃ ds es, M p = some (.lst ds) ∧ M b = some (.lst es) ∧ ds.length + es.length ≤ sizeLine ∧ Q .non (put M p (.lst (ds ++ es)))
    | _, _ => False
  mono {x xs M Q Q'} h k := by
    revert h
    split <;> intro h
    · obtain ⟨ds, es, h1, h2, h3, h4⟩ := h; exact ⟨ds, es, h1, h2, h3, k _ _ h4⟩
    · exact h
def mPop : DMt where
  run x xs M Q := match x, xs with
    | .ref p, [] => ∃ ds y, M p = some (.lst ds) ∧ ds[ds.length - 1]? = some y ∧ Q y (put M p (.lst ds.dropLast))
    | _, _ => False
  mono {x xs M Q Q'} h k := by
    revert h
    split <;> intro h
    · obtain ⟨ds, y, h1, h2, h3⟩ := h; exact ⟨ds, y, h1, h2, k _ _ h3⟩
    · exact h
def mPopAt : DMt where
  run x xs M Q := match x, xs with
    | .ref p, [.int i] => ∃ ds j y, M p = some (.lst ds) ∧ -(2 ^ 63) ≤ i ∧ i < 2 ^ 63 ∧ seqIndex? i ds.length = some j ∧ ds[j]? = some y ∧ Q y (put M p (.lst (ds.eraseIdx j)))
    | _, _ => False
  mono {x xs M Q Q'} h k := by
    revert h
    split <;> intro h
    · obtain ⟨ds, j, y, h1, h2, h3, h4, h5, h6⟩ := h; exact ⟨ds, j, y, h1, h2, h3, h4, h5, k _ _ h6⟩
    · exact h
def mClear : DMt where
  run x xs M Q := match x, xs with
    | .ref p, [] => ∃ ds, M p = some (.lst ds) ∧ Q .non (put M p (.lst []))
    | _, _ => False
  mono {x xs M Q Q'} h k := by
    revert h
    split <;> intro h
    · obtain ⟨ds, h1, h2⟩ := h; exact ⟨ds, h1, k _ _ h2⟩
    · exact h
theorem dens_erase {K : PySem.W.Frag} {H : Hp} : ∀ {vs : List V} {ds : List D} (j : Nat), dens K H vs ds → dens K H (vs.eraseIdx j) (ds.eraseIdx j)
  | vs, [], j, h => by rw [dens] at h; subst h; exact dens_nil
  | vs, d :: ds, 0, h => by
    rw [dens] at h
    obtain ⟨v, r, e, _, h2⟩ := h
    subst e
    exact h2
  | vs, d :: ds, j + 1, h => by
    rw [dens] at h
    obtain ⟨v, r, e, h1, h2⟩ := h
    subst e
    exact dens_cons h1 (dens_erase j h2)
theorem dens0 {K : PySem.W.Frag} {H : Hp} {vs : List V} (h : dens K H vs []) : vs = [] := by rw [dens] at h; exact h
section
variable {X : Cx}
theorem m_extend : OM X "list.extend" mExtend := by
  intro pins s σ H x xs v us Q I rx rxs h
  obtain ⟨d, ds, M, hd, hds, m, q⟩ := h
  dsimp only [mExtend] at q
  split at q
  · obtain ⟨es, fs, h1, h2, h3, q⟩ := q
    rw [den] at hd
    subst hd
    obtain ⟨y, rfl, dy⟩ := dens1 hds
    rw [den] at dy
    subst dy
    obtain ⟨vs, g1, g2⟩ := m _ _ h1
    obtain ⟨ws, g3, g4⟩ := m _ _ h2
    have x3 : Ext H (upd H _ (.lst (vs ++ ws))) := .put g1 trivial
    exact mt_extend pins s σ H _ _ v us Q I rx rxs ⟨_, _, vs, ws, rfl, rfl, g1, g3, by rw [dens_length g2, dens_length g4]; exact h3, q _ _ x3 (m.put (u := .lst (es ++ fs)) g1 trivial ⟨_, upd_same, dens_append (dens_ext x3 _ _ g2) (dens_ext x3 _ _ g4)⟩) dnon⟩
  · exact q.elim
theorem m_pop : OM X "list.pop" mPop := by
  intro pins s σ H x xs v us Q I rx rxs h
  obtain ⟨d, ds, M, hd, hds, m, q⟩ := h
  dsimp only [mPop] at q
  split at q
  · obtain ⟨es, y, h1, h2, q⟩ := q
    rw [den] at hd
    subst hd
    cases dens0 hds
    obtain ⟨vs, g1, g2⟩ := m _ _ h1
    obtain ⟨u, g3, g4⟩ := dens_get g2 h2
    have x3 : Ext H (upd H _ (.lst vs.dropLast)) := .put g1 trivial
    exact mt_pop pins s σ H _ _ v us Q I rx rxs ⟨_, vs, u, rfl, rfl, g1, by rw [dens_length g2]; exact g3, q _ _ x3 (m.put (u := .lst es.dropLast) g1 trivial ⟨_, upd_same, dens_ext x3 _ _ (dens_dropLast g2)⟩) (den_ext x3 _ _ g4)⟩
  · exact q.elim
theorem m_popAt : OM X "list.pop" mPopAt := by
  intro pins s σ H x xs v us Q I rx rxs h
  obtain ⟨d, ds, M, hd, hds, m, q⟩ := h
  dsimp only [mPopAt] at q
  split at q
  · obtain ⟨es, j, y, h1, h2, h3, h4, h5, q⟩ := q
    rw [den] at hd
    subst hd
    obtain ⟨w, rfl, dw⟩ := dens1 hds
    cases lint dw
    obtain ⟨vs, g1, g2⟩ := m _ _ h1
    obtain ⟨u, g3, g4⟩ := dens_get g2 h5
    have x3 : Ext H (upd H _ (.lst (vs.eraseIdx j))) := .put g1 trivial
    exact mt_popAt pins s σ H _ _ v us Q I rx rxs ⟨_, vs, _, j, u, rfl, rfl, g1, h2, h3, by rw [dens_length g2]; exact h4, g3, q _ _ x3 (m.put (u := .lst (es.eraseIdx j)) g1 trivial ⟨_, upd_same, dens_ext x3 _ _ (dens_erase j g2)⟩) (den_ext x3 _ _ g4)⟩
  · exact q.elim
theorem m_clear : OM X "list.clear" mClear := by
  intro pins s σ H x xs v us Q I rx rxs h
  obtain ⟨d, ds, M, hd, hds, m, q⟩ := h
  dsimp only [mClear] at q
  split at q
  · obtain ⟨es, h1, q⟩ := q
    rw [den] at hd
    subst hd
    cases dens0 hds
    obtain ⟨vs, g1, g2⟩ := m _ _ h1
    have x3 : Ext H (upd H _ (.lst [])) := .put g1 trivial
    exact mt_clear pins s σ H _ _ v us Q I rx rxs ⟨_, vs, rfl, rfl, g1, q _ _ x3 (m.put (u := .lst []) g1 trivial ⟨_, upd_same, dens_nil⟩) dnon⟩
  · exact q.elim
end
/-- o.m() of a list -/
def dMethL0 (r : DMt) (to : DE) : DE where
  run δ M Q := to.run δ M fun d M1 => (∃ ds, isL M1 d ds) ∧ r.run d [] M1 Q
  mono h k := to.mono h fun d M1 q => ⟨q.1, r.mono q.2 k⟩
section
variable {X : Cx} {o : Expr} {to : DE} {name : Str} {apos cpos : Pos} {id : String} {r : DMt}
theorem qe_methL0 (slot : Slot "list" name id) (hty : typeOf (.builtin id) = pure (.type "method_descriptor")) (hm : OM X id r) (ho : QE X o to)
    (hbase : attributeBase o name X.env (eval o X.env) = eval o X.env := by rfl) (hline : (apos.endLine == cpos.line) = true := by rfl) : QE X (.Call (.Attribute o name apos) [] [] cpos) (dMethL0 r to) := by
  refine PE.imp (pe_bm0 PySem.F.plainAttrs_list slot hty hm ho hbase hline) fun σ H Q q => ?_
  obtain ⟨δ, M, s, m, q⟩ := q
  refine lE_step s m q fun d M1 v H1 x1 m1 d1 q1 => ?_
  obtain ⟨⟨ds, h1⟩, q1⟩ := q1
  obtain ⟨a, vs, rfl, sq, dv⟩ := isL_rd m1 d1 h1
  exact ⟨.inl ⟨rfl, vs, sq⟩, d, [], M1, d1, dens_nil, m1, r.mono q1 fun _ _ h => lQ_ext x1 h⟩
end

/-! ### sorted of a list of ints -/
def rSortedN : DC where
  run xs M Q := match xs with
    | [x] => ∃ ns : List Int, isL M x (ns.map D.int) ∧ ∀ (ns' : List Int) (p : Addr), ns'.Perm ns → ns'.Pairwise (· ≤ ·) → M p = none → Q (.ref p) (put M p (.lst (ns'.map D.int)))
    | _ => False
  mono {xs M Q Q'} h k := by
    revert h
    split <;> intro h
    · obtain ⟨ns, h1, h2⟩ := h; exact ⟨ns, h1, fun n p a b c => k _ _ (h2 n p a b c)⟩
    · exact h
theorem c_sortedN {X : Cx} : OC X (.builtin "sorted") rSortedN := by
  intro pins s σ H vs us Q I r h
  obtain ⟨ds, M, hd, m, q⟩ := h
  dsimp only [rSortedN] at q
  split at q
  · obtain ⟨ns, h1, q⟩ := q
    obtain ⟨v, rfl, d1⟩ := dens1 hd
    obtain ⟨a, ws, rfl, sq, dv⟩ := isL_rd m d1 h1
    cases flI dv
    exact cr_sortedI pins s σ H _ us Q I r ⟨a, ns, rfl, sq, fun ns' p h1 h2 hp => q ns' p h1 h2 (m.free hp) _ _ (.new hp) (m.new (u := .lst (ns'.map D.int)) hp ⟨_, upd_same, dens_ints⟩) dref⟩
  · exact q.elim

/-! ### what is walked, of any kind -/
def dItAny (t : DE) : DI where
  run δ M Q := t.run δ M fun d M1 => match d with
    | .tup ds => Q ds (fun _ => True) M1
    | .lst ds => Q ds (fun _ => True) M1
    | .str x => Q (signsD x) (fun _ => True) M1
    | .ref p => ∃ ds, isL M1 (.ref p) ds ∧ Q ds (fun M => isL M (.ref p) ds) M1
    | _ => False
  mono h k := t.mono h fun d M1 q => by
    revert q; split <;> intro q
    · exact k _ _ _ q
    · exact k _ _ _ q
    · exact k _ _ _ q
    · obtain ⟨ds, h1, h2⟩ := q; exact ⟨ds, h1, k _ _ _ h2⟩
    · exact q
section
variable {X : Cx} {tg e : Expr} {t : DE}
theorem qi_any (he : QE X e t) : QI X tg e (dItAny t) := by
  refine ⟨fun pins s σ H R I h => ?_⟩
  obtain ⟨δ, M, sr, m, q⟩ := h
  refine thn (he.run pins s σ H (fun v H1 => (∃ a, v = .ref a ∧ (((∃ xs, SqL X.K H1 a xs) ∧ R (Itl X.K a) H1) ∨ ((∃ xs, SqT X.K H1 a xs) ∧ R (Itt X.K a) H1))) ∨ ∃ z, v = .str z ∧ R (Its z) H1) I ⟨δ, M, sr, m, t.mono q fun d M1 q1 v H1 x1 m1 d1 => ?_⟩) fun v s1 ⟨y, H1, I1, r1, fin⟩ => ?_
  · revert q1; split <;> intro q1
    · rw [den] at d1
      obtain ⟨a, vs, rfl, sq, dv⟩ := d1
      exact .inl ⟨a, rfl, .inr ⟨⟨vs, sq⟩, q1 _ H1 x1 m1 (it_tup sq dv)⟩⟩
    · rw [den] at d1
      obtain ⟨a, vs, rfl, sq, dv⟩ := d1
      exact .inl ⟨a, rfl, .inl ⟨⟨vs, sq.sq⟩, q1 _ H1 x1 m1 (it_frl sq dv)⟩⟩
    · exact .inr ⟨_, lstr d1, q1 _ H1 x1 m1 it_str⟩
    · obtain ⟨ds, h1, q1⟩ := q1
      obtain ⟨a, vs, ea, rd, dv⟩ := isL_rd m1 d1 h1
      rw [den] at d1
      subst ea
      cases d1
      exact .inl ⟨_, rfl, .inl ⟨⟨vs, rd⟩, q1 _ H1 x1 m1 it_ref⟩⟩
    · exact q1.elim
  · rcases fin with ⟨a, rfl, fin⟩ | ⟨z, rfl, fin⟩
    · cases r1
      rcases fin with ⟨⟨xs, hq⟩, fin⟩ | ⟨⟨xs, hq⟩, fin⟩
      · obtain ⟨its, rv, p, hz⟩ := I1.list hq
        exact wpAny_pyIter_list p.isList (pi_one (tk := s1.toks) I1 _ (turn_list a _) ⟨_, Heap.get?_push_size _ rfl, rfl, rfl⟩ fin)
      · obtain ⟨its, rv, p, hz⟩ := I1.tuple hq
        exact wpAny_pyIter_tuple (show s1.heap.IsTuple a its.toArray from p) (pi_one (tk := s1.toks) I1 _ (turn_tuple a _) ⟨_, Heap.get?_push_size _ rfl, rfl, rfl⟩ fin)
    · obtain ⟨tk, rfl⟩ := r1
      cases hz : z.cps.all (· < 128) with
      | false => exact wpAny_pyIter_wide hz (pi_one (tk := s1.toks) I1 _ (turn_str _ z tk "str_iterator" (.inr rfl)) ⟨_, Heap.get?_push_size _ rfl, rfl, rfl⟩ fin)
      | true => exact wpAny_pyIter_ascii hz (pi_one (tk := s1.toks) I1 _ (turn_str _ z tk "str_ascii_iterator" (.inl rfl)) ⟨_, Heap.get?_push_size _ rfl, rfl, rfl⟩ fin)
end
/-- in, of texts or flat sequences -/
def oInX (neg : Bool) : DO2 where
  run x y M Q := match y with
    | .str j => (match x with | .str i => Q (.bl (!(Builtin.Str.occurrences j i 0 j.length 1).isEmpty ^^ neg)) M | _ => False)
    | y => (oIn neg).run x y M Q
  mono {x y M Q Q'} h k := by
    revert h
    split
    · intro h
      revert h
      split <;> intro h <;> first | exact k _ _ h | exact h
    · intro h
      exact (oIn neg).mono h k
section
variable {X : Cx}
theorem o_inX : O2 X (compareOp .In) (oInX false) := by
  intro pins s σ H x y v u Q I rx ry h
  obtain ⟨dx, dy, M, hx, hy, m, q⟩ := h
  dsimp only [oInX] at q
  split at q
  · split at q
    · cases lstr hx; cases lstr hy
      have q2 := q _ _ (.refl H) m dbl
      rw [Bool.xor_false] at q2
      exact op_in_str pins s σ H _ _ v u Q I rx ry ⟨_, _, rfl, rfl, q2⟩
    · exact q.elim
  · exact o_in pins s σ H x y v u Q I rx ry ⟨dx, _, M, hx, hy, m, q⟩
theorem o_notinX : O2 X (compareOp .NotIn) (oInX true) := by
  intro pins s σ H x y v u Q I rx ry h
  obtain ⟨dx, dy, M, hx, hy, m, q⟩ := h
  dsimp only [oInX] at q
  split at q
  · split at q
    · cases lstr hx; cases lstr hy
      have q2 := q _ _ (.refl H) m dbl
      rw [Bool.xor_true] at q2
      exact L2.op_notin_str pins s σ H _ _ v u Q I rx ry ⟨_, _, rfl, rfl, q2⟩
    · exact q.elim
  · exact o_notin pins s σ H x y v u Q I rx ry ⟨dx, _, M, hx, hy, m, q⟩
end
/-! ### sorted of ints, or of few texts -/
def rSortedX : DC where
  run xs M Q := rSortedN.run xs M Q ∨ ∃ (x : D) (zs : List Str), xs = [x] ∧ isL M x (zs.map D.str) ∧ zs.length < 64 ∧ ∀ (ys : List Str) (p : Addr), ys.Perm zs → sortedS ys = true → M p = none → Q (.ref p) (put M p (.lst (ys.map D.str)))
  mono h k := h.elim (fun h => .inl (rSortedN.mono h k)) fun ⟨x, zs, h1, h2, h3, h4⟩ => .inr ⟨x, zs, h1, h2, h3, fun ys p a b c => k _ _ (h4 ys p a b c)⟩
theorem flS {K : PySem.W.Frag} {H : Hp} : ∀ {vs : List V} {ns : List Str}, dens K H vs (ns.map D.str) → vs = ns.map V.str
  | vs, [], h => by rw [List.map_nil, dens] at h; exact h
  | vs, n :: ns, h => by
    rw [List.map_cons, dens] at h
    obtain ⟨v, r, e, h1, h2⟩ := h
    rw [e, lstr h1, flS h2]; rfl
theorem dens_strs {K : PySem.W.Frag} {H : Hp} : ∀ {ns : List Str}, dens K H (ns.map V.str) (ns.map D.str)
  | [] => dens_nil
  | _ :: _ => dens_cons dstr dens_strs
theorem c_sortedX {X : Cx} : OC X (.builtin "sorted") rSortedX := by
  intro pins s σ H vs us Q I r h
  obtain ⟨ds, M, hd, m, q⟩ := h
  rcases q with q | ⟨x, zs, rfl, h1, h2, q⟩
  · exact c_sortedN pins s σ H vs us Q I r ⟨ds, M, hd, m, q⟩
  · obtain ⟨v, rfl, d1⟩ := dens1 hd
    obtain ⟨a, ws, rfl, sq, dv⟩ := isL_rd m d1 h1
    cases flS dv
    exact cr_sortedS pins s σ H _ us Q I r ⟨a, zs, rfl, sq, h2, fun ys p h3 h4 hp => q ys p h3 h4 (m.free hp) _ _ (.new hp) (m.new (u := .lst (ys.map D.str)) hp ⟨_, upd_same, dens_strs⟩) dref⟩
theorem bb_sorted : bootBuiltins "sorted" = some (.builtin "sorted") := by decide +kernel
theorem bb_all : bootBuiltins "all" = some (.builtin "all") := by decide +kernel
theorem bb_any : bootBuiltins "any" = some (.builtin "any") := by decide +kernel
theorem bb_max : bootBuiltins "max" = some (.builtin "max") := by decide +kernel
theorem bb_min : bootBuiltins "min" = some (.builtin "min") := by decide +kernel
end LD

/-! LE10: the set of a text's signs, and sorted of it -/
namespace LD
open PySem PySem.Spec PyProof.Rows L2

/-! ### what a set of ints is -/
def keyS (e : Int × Value) : Str := match e.2 with | .str k _ => k | _ => Str.empty
def GoodS (w : World) (e : Int × Value) : Prop := ∃ k tk, e.2 = Value.str k tk ∧ e.1 = hashStr w k

/-- the set of ints at a: S its members, n their number; its table rises and can be walked -/
def SetS (w : World) (h : Heap) (a : Addr) (S : Str → Bool) (n : Nat) : Prop :=
  ∃ o es ep t, h.get? a = some o ∧ o.ExactSet ∧ o.data = .set es ep t ∧ (∀ e ∈ es.toList, GoodS w e) ∧ (es.toList.map keyS).Nodup ∧ (∀ k, S k = true ↔ k ∈ es.toList.map keyS) ∧
    es.size < scanBound ∧ t.fits es.size = true ∧ es.size = n ∧ Ris t.place.toList ∧ (w.params.followText "set-order" = true ∨ t.led = true)

section
variable {P : Program} {w : World} {h h' : Heap} {a : Addr} {S : Str → Bool} {n : Nat}

theorem SetS.at (R : SetS w h a S n) (k : ∀ o, h.get? a = some o → h'.get? a = some o) : SetS w h' a S n := by
  obtain ⟨o, es, ep, t, ho, r⟩ := R
  exact ⟨o, es, ep, t, k o ho, r⟩
theorem SetS.lt (R : SetS w h a S n) : a < h.objs.size := by
  obtain ⟨o, es, ep, t, ho, r⟩ := R
  exact Heap.lt_size ho
theorem SetS.congr {S' : Str → Bool} (R : SetS w h a S n) (e : ∀ k, S' k = S k) : SetS w h a S' n := by
  have q : S' = S := funext e
  rw [q]; exact R
theorem goodS_elems {l : List (Int × Value)} (g : ∀ e ∈ l, GoodS w e) : ElemsOf (strKind P w) l := fun e he => by
  obtain ⟨k, tk, h1, h2⟩ := g e he
  exact ⟨⟨k, by rw [h1]; exact strKind_is _ _ _ _, h2⟩, by rw [h1] <;> rfl⟩
theorem goodS_is {e : Int × Value} (g : GoodS w e) (k : Str) : (strKind P w).is k e.2 = true ↔ keyS e = k := by
  obtain ⟨k0, tk, h1, _⟩ := g
  unfold keyS
  rw [h1]
  show (Value.isStrOf k (.str k0 tk) = true) ↔ k0 = k
  simp [Value.isStrOf]
  try exact eq_comm
theorem goodS_mem {l : List (Int × Value)} (g : ∀ e ∈ l, GoodS w e) (k : Str) : k ∈ l.map keyS ↔ ∃ e ∈ l, (strKind P w).is k e.2 = true := by
  rw [List.mem_map]
  constructor
  · rintro ⟨e, he, q⟩
    exact ⟨e, he, (goodS_is (g e he) k).2 q⟩
  · rintro ⟨e, he, q⟩
    exact ⟨e, he, (goodS_is (g e he) k).1 q⟩
theorem SetS.setOf (R : SetS w h a S n) : h.SetOf (strKind P w) a S n := by
  obtain ⟨o, es, ep, t, ho, hx, hd, g, nd, hm, hb, hf, hn, _⟩ := R
  exact ⟨o, es, ep, t, ho, hx, hd, goodS_elems g, fun k => (hm k).trans (goodS_mem g k), hb, hf, hn⟩
end

section
variable {P : Program} {w : World} {A : Around} {E : Value → Shared → Prop} {s : Shared} {a : Addr} {S : Str → Bool} {n : Nat}

theorem setS_add_tail {g : Bool → Sem Unit} (hg : ∀ (b : Bool) (s₁ : Shared) (Q' : Unit → Shared → Prop), Q' () s₁ → wpAny (model P w) A (g b) Q' E s₁)
    {o : Obj} {es : Array (Int × Value)} {ep : Nat} {t : SetTable} (ho : s.heap.get? a = some o) (hex : o.ExactSet) (hd : o.data = .set es ep t)
    {es1 : Array (Int × Value)} {t2 : SetTable} {S' : Str → Bool} (g1 : ∀ e ∈ es1.toList, GoodS w e) (nd1 : (es1.toList.map keyS).Nodup) (m1 : ∀ k, S' k = true ↔ k ∈ es1.toList.map keyS)
    (hb1 : es1.size < scanBound) (hf2 : t2.fits es1.size = true) (hr : Ris t2.place.toList) (hl : w.params.followText "set-order" = true ∨ t2.led = true) {wasDummy : Bool} {R : Option Bool → Shared → Prop}
    (hR : ∀ h', Heap.SameBut a s.heap h' → SetS w h' a S' es1.size → R (some true) { s with heap := h' }) :
    wpAny (model P w) A (do
        storeSet a es1 t2
        if (!wasDummy && t2.tooFull) = true then do
            g (relayAll t2 es1 (SetTable.grown es1.size)).2.2
            storeSet a (relayAll t2 es1 (SetTable.grown es1.size)).1 (relayAll t2 es1 (SetTable.grown es1.size)).2.1
            pure (some true)
          else pure (some true)) R E s := by
  refine wpAny_bind (wpAny_storeSet_of ho hd ?_ (fits_of_scanBound hb1))
  have ho1 := store_at (es' := es1) (t' := t2) ho hd
  have sb1 := Heap.SameBut.update s.heap a (Obj.putSet es1 t2)
  split
  · have pm := relayAll_perm t2 es1 (SetTable.grown es1.size)
    have hf3 := relayAll_fits t2 es1 (SetTable.grown es1.size)
    have hr3 := relayAll_ris t2 es1 (SetTable.grown es1.size)
    have hl3 := relayAll_led t2 es1 (SetTable.grown es1.size)
    generalize relayAll t2 es1 (SetTable.grown es1.size) = Z at pm hf3 hr3 hl3 ⊢
    obtain ⟨es2, t3, gave⟩ := Z
    dsimp only at pm hf3 hr3 hl3 ⊢
    have hsz : es2.size = es1.size := by rw [← Array.length_toList, pm.length_eq, Array.length_toList]
    have hb2 : es2.size < scanBound := by rw [hsz]; exact hb1
    refine wpAny_bind (hg _ _ _ ?_)
    refine wpAny_bind (wpAny_storeSet_of ho1 rfl ?_ (fits_of_scanBound hb2))
    have ho2 := store_at (es' := es2) (t' := t3) ho1 rfl
    refine wpAny_pure (hR _ (sb1.trans (Heap.SameBut.update _ a _)) ?_)
    exact ⟨_, es2, _, t3, ho2, hex, rfl, fun e he => g1 e (pm.mem_iff.mp he), (pm.map keyS).nodup_iff.mpr nd1, fun k => (m1 k).trans (pm.map keyS).mem_iff.symm, hb2, hf3, hsz, hr3,
      hl.imp id fun z => by rw [hl3]; exact z⟩
  · exact wpAny_pure (hR _ sb1 ⟨_, es1, _, t2, ho1, hex, rfl, g1, nd1, m1, hb1, hf2, rfl, hr, hl⟩)

theorem setS_add_hashed {k : Str} {tk : Tok} {Q : Bool → Shared → Prop} (R : SetS w s.heap a S n) (room : n + 1 < scanBound)
    (hQ : ∀ h', Heap.SameBut a s.heap h' → SetS w h' a (fun j => S j || decide (j = k)) (if S k = true then n else n + 1) → Q (!S k) { s with heap := h' }) :
    wpAny (model P w) A (setAddHashed a (.str k tk) ((strKind P w).hash k)) Q E s := by
  obtain ⟨o, es, ep, t, ho, hex, hd, g, nd, hm, hb, hf, hn, hr, hl⟩ := R
  have hkey : (strKind P w).is k (.str k tk) = true := strKind_is _ _ _ _
  have hsc : (Value.str k tk).scannable = true := rfl
  have hel : ElemsOf (strKind P w) es.toList := goodS_elems g
  unfold setAddHashed setAddHashedIn
  refine wpAny_holding (wpAny_bind (wpAny_setState_of ho hd hf ?_))
  dsimp only
  rw [byScan_of hsc hb hel]
  simp only [↓reduceIte]
  unfold setAddByScan
  refine wpAny_bind ?_
  refine wpAny_bind (wpAny_rule ?_)
  refine wpAny_bind (wpAny_setScan_of hkey ho hd hf hel ?_)
  cases hfi : List.findIdx? (fun e => (strKind P w).is k e.2) es.toList with
  | some j =>
    dsimp only
    obtain ⟨hj, pj, _⟩ := List.findIdx?_eq_some_iff_getElem.mp hfi
    have hSk : S k = true := (hm k).2 ((goodS_mem (P := P) (w := w) g k).2 ⟨es.toList[j], List.getElem_mem hj, pj⟩)
    refine wpAny_pure (wpAny_pure ?_)
    have q := hQ s.heap (Heap.SameBut.refl a s.heap) ⟨o, es, ep, t, ho, hex, hd, g, nd, fun i => by
      rw [Bool.or_eq_true, decide_eq_true_eq, ← hm i]
      exact ⟨fun z => z.elim id (fun e => e ▸ hSk), .inl⟩, hb, hf, by rw [if_pos hSk]; exact hn, hr, hl⟩
    rw [hSk] at q
    exact q
  | none =>
    dsimp only
    have hnk : k ∉ es.toList.map keyS := fun z => by
      obtain ⟨e, he, q⟩ := (goodS_mem (P := P) (w := w) g k).1 z
      have c := List.findIdx?_eq_none_iff.mp hfi e he
      rw [q] at c
      cases c
    have hSk : S k = false := by
      cases q : S k with
      | false => rfl
      | true => exact absurd ((hm k).1 q) hnk
    have hgw : ∀ (b : Bool) {s₁ : Shared} {Q' : Unit → Shared → Prop}, Q' () s₁ → wpAny (model P w) A (match b with | true => rule "set.scan.the-table-gave-way" | false => pure ()) Q' E s₁ :=
      fun b s₁ Q' q => by cases b <;> first | exact wpAny_pure q | exact wpAny_rule q
    have pm := layNew_perm t es ((strKind P w).hash k) (.str k tk)
    have hf1 := layNew_fits t es ((strKind P w).hash k) (.str k tk)
    have hr1 := layNew_ris t es ((strKind P w).hash k) (.str k tk) hr
    have hl1 := layNew_led t es ((strKind P w).hash k) (.str k tk)
    generalize layNew t es ((strKind P w).hash k) (.str k tk) = Z at pm hf1 hr1 hl1 ⊢
    obtain ⟨es1, t1, wasDummy, gave⟩ := Z
    dsimp only at pm hf1 hr1 hl1 ⊢
    rw [Array.toList_push] at pm
    have pc : es1.toList.Perm (((strKind P w).hash k, Value.str k tk) :: es.toList) := pm.trans (List.perm_append_singleton _ _)
    have pk : (es1.toList.map keyS).Perm (k :: es.toList.map keyS) := pc.map keyS
    have g1 : ∀ e ∈ es1.toList, GoodS w e := fun e he => by
      rcases List.mem_cons.mp (pc.mem_iff.mp he) with z | z
      · rw [z]; exact ⟨k, tk, rfl, rfl⟩
      · exact g e z
    have nd1 : (es1.toList.map keyS).Nodup := pk.nodup_iff.mpr (List.nodup_cons.mpr ⟨hnk, nd⟩)
    have m1 : ∀ i, (S i || decide (i = k)) = true ↔ i ∈ es1.toList.map keyS := fun i => by
      rw [Bool.or_eq_true, decide_eq_true_eq, hm i, pk.mem_iff, List.mem_cons]
      exact Or.comm
    have hsz : es1.size = n + 1 := by rw [← Array.length_toList, pc.length_eq, List.length_cons, Array.length_toList, hn]
    have hb1 : es1.size < scanBound := by rw [hsz]; exact room
    have hled : w.params.followText "set-order" = true ∨ t1.led = true := hl.imp id fun z => by rw [hl1]; exact z
    have fin : ∀ h', Heap.SameBut a s.heap h' → SetS w h' a (fun j => S j || decide (j = k)) es1.size → Q true { s with heap := h' } := fun h' sb r => by
      have q := hQ h' sb
      rw [hSk] at q
      rw [hsz] at r
      exact q r
    refine wpAny_bind (hgw _ ?_)
    split
    · refine wpAny_bind ?_
      rw [hashByValue_scannable 8 hsc]
      refine wpAny_pure ?_
      refine setS_add_tail ?_ ho hex hd g1 nd1 m1 hb1 ?_ ?_ ?_ ?_
      · intro b s₁ Q' q; cases b <;> first | exact wpAny_pure q | exact wpAny_rule q
      · first | (split <;> first | exact hf1 | exact SetTable.fits_plain_off hf1) | exact hf1
      · first | (split <;> exact hr1) | exact hr1
      · first | (split <;> exact hled) | exact hled
      · intro h' sb r; dsimp only; exact wpAny_pure (fin h' sb r)
    · refine wpAny_bind (wpAny_pure ?_)
      simp only [↓reduceIte]
      refine setS_add_tail ?_ ho hex hd g1 nd1 m1 hb1 hf1 hr1 hled ?_
      · intro b s₁ Q' q; cases b <;> first | exact wpAny_pure q | exact wpAny_rule q
      · intro h' sb r; dsimp only; exact wpAny_pure (fin h' sb r)


theorem setS_fresh {h : Heap} (w : World) : SetS w (h.push { cls := .type "set", dict := none, data := .set #[] 0 (.fresh 0 0 (!w.params.followText "set-order")) }) h.objs.size (fun _ => false) 0 :=
  ⟨_, #[], 0, _, Heap.get?_push_size _ rfl, ⟨rfl, rfl, rfl⟩, rfl, (fun e he => by simp at he), (by simp), (fun k => by simp), (by decide), (by rfl), rfl, List.Pairwise.nil, by
    show _ ∨ (!w.params.followText "set-order") = true
    cases w.params.followText "set-order"
    · exact .inr rfl
    · exact .inl rfl⟩
theorem set_update_text {x : Str} {I : Addr} {fp wr : List Addr} {G : Array GenState → Array GenState → Prop} {St : Nat → Shared → Prop} {R : Result → Shared → Prop}
    (W : WalksS P w A.in1 I fp wr G x.cps.size (SignAt x) St) (a : Addr) (hSf : a ∉ fp) (hz : x.cps.size < 64)
    (h0 : Heap) (hS0 : h0.get? a = none) (hw0 : ∀ b ∈ wr, h0.get? b = none) :
    ∀ (k i : Nat) (s : Shared), x.cps.size - i = k → i ≤ x.cps.size → St i s → (∀ b o, h0.get? b = some o → s.heap.get? b = some o) →
      (∃ S n, SetS w s.heap a S n ∧ n ≤ i ∧ ∀ k, S k = true ↔ ∃ c ∈ x.cps.toList.take i, k = ⟨#[c]⟩) →
      (∀ s' S n, Moved (a :: wr) G s s' → SetS w s'.heap a S n → n ≤ x.cps.size → (∀ k, S k = true ↔ ∃ c ∈ x.cps.toList, k = ⟨#[c]⟩) → (∀ b o, h0.get? b = some o → s'.heap.get? b = some o) → R (.ok (.ret .none)) s') →
      codeAny (model P w) A (.builtin "set.update.loop" ⟨[.ref a, .ref I], []⟩) R s := by
  have hSw : a ∉ wr := fun h => hSf (W.sub _ h)
  have hsub : ∀ b ∈ wr, b ∈ a :: wr := fun b hb => List.mem_cons_of_mem _ hb
  have keepM : ∀ {s s' : Shared}, Moved wr G s s' → (∀ b o, h0.get? b = some o → s.heap.get? b = some o) → ∀ b o, h0.get? b = some o → s'.heap.get? b = some o := fun hm hkp b o e =>
    hm.heap b o (fun hb => by rw [hw0 b hb] at e; cases e) (hkp b o e)
  intro k
  induction k with
  | zero =>
    intro i s hk' hi hst hkp ⟨S, n, hS, hn, hm0⟩ hR
    have hin : i = x.cps.size := by omega
    subst hin
    refine codeAny_builtin F.entry_set_update_loop ?_
    rw [Around.under_plainId F.plain_set_update_loop _]
    show wpAny _ A.in1 (pyNext (.ref I) >>= _) _ _ s
    refine wpAny_bind (W.done s _ _ hst fun s' hm => ?_)
    show wpAny _ A.in1 (ret Value.none) _ _ s'
    refine wpAny_pure (hR s' S n (hm.mono hsub) (hS.at fun o e => hm.heap a o hSw e) hn (fun k => ?_) (keepM hm hkp))
    rw [hm0 k, List.take_of_length_le (by rw [Array.length_toList]; exact Nat.le_refl _)]
  | succ k ih =>
    intro i s hk' hi hst hkp ⟨S, n, hS, hn, hm0⟩ hR
    have hlt : i < x.cps.size := by omega
    refine codeAny_builtin F.entry_set_update_loop ?_
    rw [Around.under_plainId F.plain_set_update_loop _]
    show wpAny _ A.in1 (pyNext (.ref I) >>= _) _ _ s
    refine wpAny_bind (W.item i s _ _ hlt hst fun v s' hP hst' hm => ?_)
    obtain ⟨c, u, hc, rfl⟩ := hP
    have hkp' := keepM hm hkp
    have hS' : SetS w s'.heap a S n := hS.at fun o e => hm.heap a o hSw e
    show wpAny _ A.in1 (holding [Value.str ⟨#[c]⟩ u] (setAdd a (.str ⟨#[c]⟩ u)) >>= _) _ _ s'
    refine wpAny_bind (wpAny_holding ?_)
    unfold setAdd
    refine wpAny_holding ?_
    refine wpAny_bind ((strKind P w).pyHash (k := ⟨#[c]⟩) (strKind_is _ _ _ _) ?_)
    refine setS_add_hashed (P := P) (s := { s' with toks := s'.toks + 1 }) hS' (by unfold scanBound; omega) fun h' hsb hS2 => ?_
    have hkp2 : ∀ b o, h0.get? b = some o → h'.get? b = some o := fun b o e => (hsb.2 b (fun z => by rw [z, hS0] at e; cases e)).trans (hkp' b o e)
    refine wpAny_pure ⟨plainId_quiet F.plain_set_update_loop _, ih (i + 1) _ (by omega) hlt (W.frame _ s' _ _ hst' (Nat.le_add_right _ _) fun b hb o e => ?_) hkp2 ⟨_, _, hS2, by split <;> omega, fun j => ?_⟩ fun s'' S2 n2 hm'' hS'' g'' m'' hkp'' => ?_⟩
    · rw [hsb.2 b (fun h : b = a => hSf (by rw [← h]; exact hb))]; exact e
    · have e1 : x.cps.toList.take (i + 1) = x.cps.toList.take i ++ [c] := by
        rw [List.take_add_one, Array.getElem?_toList, hc] <;> rfl
      rw [Bool.or_eq_true, decide_eq_true_eq, hm0 j, e1]
      constructor
      · rintro (⟨d, h1, h2⟩ | h)
        · exact ⟨d, List.mem_append_left _ h1, h2⟩
        · exact ⟨c, List.mem_append_right _ (List.mem_singleton.mpr rfl), h⟩
      · rintro ⟨d, h1, h2⟩
        rcases List.mem_append.mp h1 with h1 | h1
        · exact .inl ⟨d, h1, h2⟩
        · rw [List.mem_singleton.mp h1] at h2; exact .inr h2
    · refine hR s'' S2 n2 (Moved.trans W.gtrans ((hm.mono hsub).then_heap (Nat.le_add_right _ _) fun b o hb e => ?_) hm'') hS'' g'' m'' hkp''
      rw [hsb.2 b (fun h : b = a => hb (by rw [h]; exact List.mem_cons_self))]; exact e
set_option maxRecDepth 100000 in
set_option maxHeartbeats 3200000 in
/-- set(t) -/
theorem call_set_text {x : Str} {u : Tok} {Q : Value → Shared → Prop} (hh : A.handled = none) (hz : x.cps.size < 64)
    (h : ∀ (h' : Heap) (tk : Nat) S n, SetS w h' s.heap.objs.size S n → n ≤ x.cps.size → (∀ k, S k = true ↔ ∃ c ∈ x.cps.toList, k = ⟨#[c]⟩) → (∀ b o, s.heap.get? b = some o → h'.get? b = some o) → Q (.ref s.heap.objs.size) { s with heap := h', toks := tk }) :
    wpAny (model P w) A (call (.type "set") [.str x u]) Q E s := by
  have none_of : ∀ b, s.heap.objs.size ≤ b → s.heap.get? b = none := fun b hb => by
    cases q : s.heap.get? b with
    | none => rfl
    | some o => exact absurd (Nat.lt_of_lt_of_le (Heap.lt_size q) hb) (Nat.lt_irrefl _)
  obtain ⟨c, tl, hmro⟩ := F.called_set.mro
  have hmade := F.called_set.made
  have hsub := F.called_set.sub
  refine wpAny_call (codeAny_of_tree ?_)
  show wpAny _ _ (callAny (.type "set") _) _ _ _
  refine wpAny_pure ⟨Code.quiet_builtin _ (by decide +kernel), codeAny_builtin F.entry_type_call ?_⟩
  rw [Around.under_plain (weight_type_call_type "set" [.str x u] []) rfl]
  have h1 := F.called_set.notType
  have h2 := F.called_set.canCreate
  have hct := F.typeCall_set_1 (.str x u)
  repeat (any_goals (first | assumption | wp_step))

  refine codeAny_mono (code_set_led1 (.str x u) (E := E) (Q₁ := fun obj s₁ => obj = .ref s.heap.objs.size ∧ s₁ = { s with heap := s.heap.push { cls := .type "set", dict := none, data := .set #[] 0 (.fresh 0 0 (!w.params.followText "set-order")) } }) ⟨rfl, rfl⟩) fun r s₁ hr => ?_
  cases r with
  | error e => exact hr
  | ok fl =>
    cases fl with
    | ret obj =>
      obtain ⟨rfl, rfl⟩ := hr
      have hS : (s.heap.push { cls := .type "set", dict := none, data := .set #[] 0 (.fresh 0 0 (!w.params.followText "set-order")) }).get? s.heap.objs.size = some { cls := .type "set", dict := none, data := .set #[] 0 (.fresh 0 0 (!w.params.followText "set-order")) } := Heap.get?_push_size _ rfl
      have hT : Shared.TypeIs { s with heap := s.heap.push { cls := .type "set", dict := none, data := .set #[] 0 (.fresh 0 0 (!w.params.followText "set-order")) } } (.ref s.heap.objs.size) "set" := ⟨_, hS, rfl⟩
      have hli := F.called_set.init.lookup
      have hbi := F.called_set.init.bind (.ref s.heap.objs.size)
      repeat (any_goals (first | assumption | wp_step))

      refine codeAny_mono (codeAny_call_builtin (R := wants (fun r s₂ => r = .none ∧ ∃ h' tk S n, s₂ = { s with heap := h', toks := tk } ∧ SetS w h' s.heap.objs.size S n ∧ n ≤ x.cps.size ∧ (∀ k, S k = true ↔ ∃ c ∈ x.cps.toList, k = ⟨#[c]⟩) ∧
          (∀ b o, s.heap.get? b = some o → h'.get? b = some o)) E) F.called_set.init.plain F.entry_set_init (check_set_init_1 hT ?_)) fun r₂ s₂ hr₂ => ?_
      · have hsls := PySem.F.sub_str_set
        have hslf := PySem.F.sub_str_frozenset
        have hne : (Value.type "str" == Value.type "dict") = false := by decide
        unfold Builtin.«set.__init__» noKeywords Builtin.Frozenset.updateFrom
        generalize hPI : pyIter = PI
        wp_walk
        subst hPI
        refine wpAny_pyIter_str fun o St W hst => ?_
        refine wpAny_bind (wpAny_runValue ?_)
        have hh3 : A.in1.in1.in1.handled = none := by simp [hh]
        refine set_update_text (x := x) (W _ hh3).toS s.heap.objs.size (by
            rw [Heap.size_push]; simp only [List.mem_cons, List.mem_singleton, List.not_mem_nil, or_false, not_or]
            exact Nat.ne_of_lt (Nat.lt_succ_self _)) hz s.heap (none_of _ (Nat.le_refl _)) (fun b hb => none_of b (by
            rw [List.mem_singleton.mp hb, Heap.size_push]
            exact Nat.le_succ _)) (x.cps.size - 0) 0 _ (by omega) (Nat.zero_le _) hst (fun b o e => Heap.get?_push_of_some _ (Heap.get?_push_of_some _ e))
          ⟨_, 0, (setS_fresh w).at fun o e => Heap.get?_push_of_some _ e, Nat.le_refl _, fun k => by simp⟩ ?hR
        case hR =>
          intro s' S n hm hS' hn' hk' hkp
          obtain ⟨h', g2, d', tk', os'⟩ := s'
          have eg : g2 = s.gens := hm.gens
          have ed : d' = s.drawn := hm.drawn
          have eo : os' = s.os := hm.os
          subst eg; subst ed; subst eo
          show wpAny _ _ _ _ _ _
          refine wpAny_pure ?_
          show wpAny _ _ (ret Value.none) _ _ _
          exact wpAny_pure ⟨rfl, h', tk', S, n, rfl, hS', hn', hk', hkp⟩

      · cases r₂ with
        | error e => exact hr₂
        | ok fl₂ =>
          cases fl₂ with
          | ret r =>
            obtain ⟨rfl, h', tk, S, n, rfl, hS', hn', hm', hk'⟩ := hr₂
            repeat (any_goals (first | assumption | wp_step))
            exact h _ _ _ _ hS' hn' hm' hk'
          | _ => exact hr₂.elim
    | _ => exact hr.elim
theorem sorted_setS {S : Str → Bool} {n : Nat} {Q : Value → Shared → Prop} (R : SetS w s.heap a S n) (hh : A.handled = none) (h64 : n < 64)
    (hQ : ∀ s' p (out : Array Value) (c : Nat) (ns : List Str), (∀ b o, s.heap.get? b = some o → s'.heap.get? b = some o) → s'.gens = s.gens → s'.os = s.os → s.heap.objs.size ≤ p →
      s'.heap.get? p = some (seqObj "list" out c) → StrsAre out.toList ns → sortedS ns = true ∧ ns.Nodup → (∀ k, k ∈ ns ↔ S k = true) → ns.length = n → Q (.ref p) s') :
    wpAny (model P w) A (call (.builtin "sorted") [.ref a]) Q E s := by
  obtain ⟨o, es, ep, t, ho, hex, hd, g, nd, hm, hb, hf, hn, hr, hl⟩ := R
  refine Calls.call_function_entry kind_sorted plain_sorted entry_sorted (args_sorted1 _) ?_
  unfold Builtin.«sorted»
  refine wpAny_bind (m := checkCount "sorted" 1 1 _) (wpAny_pure ?_)
  refine wpAny_bind (collect_set (A := A.in1) hh ⟨o, ho, hex.1, hd⟩ hf hb hr hl fun s1 vs k1 hz g1 o1 pm => ?_)
  have hvl : vs.length = n := by rw [pm.length_eq, List.length_map, Array.length_toList]; exact hn
  have hI : StrsAre vs (vs.map strOf) := strsAre_map vs fun v hv => by
    obtain ⟨e, he, q⟩ := List.mem_map.mp (pm.mem_iff.mp hv)
    obtain ⟨k, tk, h1, _⟩ := g e he
    exact ⟨k, tk, by rw [← q]; exact h1⟩
  have pk : (vs.map strOf).Perm (es.toList.map keyS) := by
    have q := pm.map strOf
    rw [List.map_map] at q
    refine q.trans (List.Perm.of_eq (List.map_congr_left fun e he => ?_))
    obtain ⟨k, tk, h1, _⟩ := g e he
    show strOf e.2 = keyS e
    unfold keyS
    rw [h1] <;> rfl
  refine wpAny_bind (wpAny_newList ?_ (by rw [hvl, sizeLine_eq]; omega))
  have hoL : (s1.heap.push (seqObj "list" vs.toArray 0)).get? s1.heap.objs.size = some (seqObj "list" vs.toArray 0) := Heap.get?_push_size _ rfl
  refine wpAny_bind (wpAny_holding (wpAny_call_entry slot_list_sort ⟨_, hoL, rfl⟩ entry_list_sort (list_sort_treeK strKind_oneLt hoL hI.keysOf (fun v₁ v₂ rest e => keyKind_strs (by rw [← e]; exact hI)) (by rw [hvl]; exact h64) fun st' hp hs => ⟨_, rfl, ?_⟩) (args_list_sort _)))
  obtain ⟨ns', a1, a2, a3⟩ := sorted_out_str hI hp hs
  generalize ho' : (arrOf st').map (·.2) = out at *
  obtain ⟨c, hc⟩ := sortedHeap_at (vs := vs) (out := out) hoL
  have pn : ns'.Perm (es.toList.map keyS) := a2.trans pk
  refine wpAny_pure ⟨_, rfl, hQ _ s1.heap.objs.size out c ns' (fun b u e => ?_) g1 o1 hz hc a1 ⟨a3, pn.nodup_iff.mpr nd⟩ (fun k => by rw [pn.mem_iff, ← hm k]) ?_⟩
  · have q := k1 b u e
    have hlt := Heap.lt_size q
    show (sortedHeap (s1.heap.push (seqObj "list" vs.toArray 0)) s1.heap.objs.size vs out).get? b = some u
    rw [sortedHeap_old (Nat.ne_of_lt hlt) (by rw [size_push']; exact Nat.lt_succ_of_lt hlt)]
    exact Heap.get?_push_of_some _ q
  · rw [pn.length_eq, List.length_map, Array.length_toList]; exact hn

def SetSO (w : World) (a : Addr) (S : Str → Bool) (n : Nat) : HO := .ext fun h => SetS w h a S n
theorem setSO_new {H : Hp} {h : Heap} {a : Addr} {S : Str → Bool} {n : Nat} (R : SetS w h a S n) : ObjOk P w H h a (SetSO w a S n) := by
  have ⟨o, _, _, _, ho, _⟩ := R
  exact ⟨R, ⟨o, ho⟩, fun h1 h2 p k => SetS.at p k⟩
end
section
variable {X : Cx}
/-- set(t): a text -/
def rSetTx (w : World) : List V → Hp → VK → Prop := fun xs H Q => ∃ x : Str, xs = [V.str x] ∧ x.cps.size < 64 ∧ ∀ p S n, H p = none → n < 64 → (∀ k, S k = true ↔ ∃ c ∈ x.cps.toList, k = ⟨#[c]⟩) → Q (.ref p) (upd H p (SetSO w p S n))
theorem cr_setTx (hc : X.calm = true) : CallR X (.type "set") (rSetTx X.w) := by
  intro pins s σ H xs us Q I r h
  obtain ⟨x, rfl, hz, q⟩ := h
  obtain ⟨u0, rfl, u, rfl⟩ := vals1 r
  have hn : H s.heap.objs.size = none := I.hok.fresh (Nat.le_refl _)
  refine call_set_text (P := X.prog) (w := X.w) (I.ok.hd hc) hz fun h' tk S n R hn' hm k => ?_
  exact ⟨.ref s.heap.objs.size, upd H s.heap.objs.size (SetSO X.w s.heap.objs.size S n), I.laid (t' := tk) k (Nat.le_refl _) (setSO_new R), rfl, q _ S n hn (by omega) hm⟩
/-- sorted(set): of texts -/
def rSortedTx (w : World) : List V → Hp → VK → Prop := fun vs H Q => ∃ (a : Addr) (S : Str → Bool) (n : Nat), vs = [V.ref a] ∧ H a = some (SetSO w a S n) ∧ n < 64 ∧
  ∀ (ns : List Str) (p : Addr), sortedS ns = true → ns.Nodup → (∀ k, k ∈ ns ↔ S k = true) → H p = none → Q (.ref p) (upd H p (.lst (ns.map V.str)))
theorem cr_sortedTx (hc : X.calm = true) : CallR X (.builtin "sorted") (rSortedTx X.w) := by
  intro pins s σ H vs us Q I r h
  obtain ⟨a, S, n, rfl, ha, h64, q⟩ := h
  have R : SetS X.w s.heap a S n := (I.hok a _ ha).1
  rw [Vals.ref1 r]
  refine sorted_setS R (I.ok.hd hc) h64 fun s' p out c ns k g o hp hg hi hs hm hl => ?_
  have hlen : (ns.map V.str).length ≤ sizeLine := by rw [List.length_map, hl, sizeLine_eq]; omega
  have hn : H p = none := I.hok.fresh hp
  have J : Inv X pins σ (upd H p (.lst (ns.map V.str))) { s with heap := s'.heap, gens := s'.gens, drawn := s'.drawn, toks := s'.toks } :=
    I.call (ch := []) (Un.laid k hp hn) (I.hok.laid k hp ⟨hlen, out.toList, c, vals_of_strs hi, hg⟩) (by rw [g]; exact I.bare) (fun _ z => nomatch z)
  have e : s' = { s with heap := s'.heap, gens := s'.gens, drawn := s'.drawn, toks := s'.toks } := by
    cases s'
    cases s
    cases o
    rfl
  rw [e]
  exact ⟨.ref p, _, J, rfl, q ns p hs.1 hs.2 hm hn⟩

/-- sorted(set(t)): the signs of a text -/
def dSortSet (t : DE) : DE where
  run δ M Q := t.run δ M fun d M1 => match d with
    | .str x => x.cps.size < 64 ∧ ∀ (ns : List Str) (p : Addr), sortedS ns = true → ns.Nodup → (∀ k : Str, k ∈ ns ↔ ∃ c ∈ x.cps.toList, k = ⟨#[c]⟩) → M1 p = none → Q (.ref p) (put M1 p (.lst (ns.map D.str)))
    | _ => False
  mono h k := t.mono h fun d M1 q => by
    revert q; split <;> intro q
    · exact ⟨q.1, fun ns p a b c e => k _ _ (q.2 ns p a b c e)⟩
    · exact q
theorem qe_sortSet {e : Expr} {t : DE} {p p2 pos pos2 : Pos} (hc : X.calm = true) (hg : Gl X "sorted") (hm : X.mg "sorted" = none) (hg2 : Gl X "set") (hm2 : X.mg "set" = none) (he : QE X e t)
    (hv : bootBuiltins "sorted" = some (.builtin "sorted")) (hv2 : bootBuiltins "set" = some (.type "set"))
    (hs1 : starEach [e] X.env = (false, eval e X.env) :: starEach [] X.env := by rfl) (hpl : (backTo pos2 (starEach [] X.env)).any (·.1) = false := by rfl)
    (hs2 : starEach [.Call (.Name "set" p2) [e] [] pos2] X.env = (false, eval (.Call (.Name "set" p2) [e] [] pos2) X.env) :: starEach [] X.env := by rfl) (hpl2 : (backTo pos (starEach [] X.env)).any (·.1) = false := by rfl) :
    QE X (.Call (.Name "sorted" p) [.Call (.Name "set" p2) [e] [] pos2] [] pos) (dSortSet t) := by
  refine PE.imp (pe_callB (cr_sortedTx hc) hg hm hv (pa_cons (pe_callTy (cr_setTx hc) hg2 hm2 hv2 (pa_cons he pa_nil hs1) (by decide) (by decide) hs1 hpl) pa_nil hs2) (by decide) (by decide) hs2 hpl2) fun σ H Q q => ?_
  obtain ⟨δ, M, s, m, q⟩ := q
  refine lE_step s m q fun d M1 v H1 x1 m1 d1 q1 => ?_
  revert q1; split <;> intro q1
  · cases lstr d1
    refine ⟨_, rfl, q1.1, fun a S n ha hn hS => ?_⟩
    have m2 : MRel X.K (upd H1 a (SetSO X.w a S n)) M1 := m1.ext (.new ha) (fun b o _ hb => upd_ne (fun z => hb (by rw [z]; exact ha))) (fun b φ hb => by rw [upd_ne (fun z => by rw [z, ha] at hb; cases hb)]; exact hb)
    refine ⟨a, S, n, rfl, upd_same, hn, fun ns b h1 h2 h3 hb => ?_⟩
    refine q1.2 ns b h1 h2 (fun k => (h3 k).trans (hS k)) (m2.free hb) _ _ (x1.trans ((Ext.new ha).trans (.new hb))) (m2.new (u := .lst (ns.map D.str)) hb ⟨_, upd_same, dens_strs⟩) dref
  · exact q1.elim
end
theorem bb_set : bootBuiltins "set" = some (.type "set") := by decide +kernel
end LD

/-! LE11: "..".join(list of texts) -/
namespace LD
open PySem PySem.Spec PyProof.Rows L2
/-- sep.join(e): e a list or a tuple of texts -/
def dJoin (to t : DE) : DE where
  run δ M Q := to.run δ M fun d M1 => match d with
    | .str a => t.run δ M1 fun d2 M2 => ∃ ys : List Str, isL M2 d2 (ys.map D.str) ∧ (ys.map (·.length)).sum + ys.length * a.length ≤ 16777216 ∧ Q (.str (Txt.join a ys)) M2
    | _ => False
  mono h k := to.mono h fun d M1 q => by
    revert q; split <;> intro q
    · exact t.mono q fun d2 M2 ⟨ys, h1, h2, h3⟩ => ⟨ys, h1, h2, k _ _ h3⟩
    · exact q
theorem qe_join {X : Cx} {o e : Expr} {to t : DE} {apos pos : Pos} (ho : QE X o to) (he : QE X e t) (hs : starEach [e] X.env = [(false, eval e X.env)] := by rfl)
    (hbase : attributeBase o "join" X.env (eval o X.env) = eval o X.env := by rfl) (hline : (apos.endLine == pos.line) = true := by rfl) :
    QE X (.Call (.Attribute o "join" apos) [e] [] pos) (dJoin to t) := by
  refine PE.imp (pe_join ho he hs hbase hline) fun σ H Q q => ?_
  obtain ⟨δ, M, s, m, q⟩ := q
  refine lE_step s m q fun d M1 v H1 x1 m1 d1 q1 => ?_
  revert q1; split <;> intro q1
  · cases lstr d1
    refine ⟨⟨_, rfl⟩, lE_step (s.ext x1) m1 q1 fun d2 M2 v2 H2 x2 m2 d2' q2 => ?_⟩
    obtain ⟨ys, h1, h2, h3⟩ := q2
    obtain ⟨a, ws, rfl, sq, dv⟩ := isL_rd m2 d2' h1
    cases flS dv
    exact ⟨_, a, ys, rfl, rfl, .inl sq, h2, h3 _ _ (x1.trans x2) m2 dstr⟩
  · exact q1.elim
end LD

/-! LE12: isinstance with a tuple of built-in types -/
namespace LD
open PySem PySem.Spec PyProof.Rows L2
def tTys : List Ty → TA
  | [] => tNil
  | c :: cs => tCons (tC (.ty c.name)) (tTys cs)
theorem tTys_eq : ∀ (cs : List Ty) (σ : L2.St) (H : Hp) (Q : List V → Hp → Prop), tTys cs σ H Q = Q (cs.map fun c => V.ty c.name) H
  | [], _, _, _ => rfl
  | c :: cs, σ, H, Q => tTys_eq cs σ H fun vs H2 => Q (V.ty c.name :: vs) H2
theorem tys_pair : ∀ cs : List Ty, Paired ClsV (cs.map fun c => V.ty c.name) (cs.map fun c => Value.type c.name)
  | [] => .nil
  | c :: cs => .cons (.ty _) (tys_pair cs)
theorem kit_tys {K : PySem.W.Frag} (T : Ty) : ∀ cs : List Ty, PySem.W.kitAny K (.type T.name) (cs.map fun c => Value.type c.name) = some (cs.any fun c => isi T c)
  | [] => rfl
  | c :: cs => by
    have h := kit_tys (K := K) T cs
    have h1 : PySem.W.kitOne K (.type T.name) (.type c.name) = some (isi T c) := kit_ty (kitB_isi T c)
    rw [List.map_cons, PySem.W.kitAny, h1, List.any_cons]
    cases isi T c <;> simp [h]
def dIsiT (cs : List Ty) (t : DE) : DE where
  run δ M Q := t.run δ M fun d M1 => tyQ d M1 fun T => Q (.bl (cs.any fun c => isi T c)) M1
  mono h k := t.mono h fun d M1 q => tyQ_mono q fun T q => k _ _ q
theorem qe_isiT {X : Cx} {a : Expr} {es : List Expr} {t : DE} {p pos tpos : Pos} {k} (cs : List Ty) (hl : (cs.length ≤ 8) = True) (ha : QE X a t) (hes : PA X es (tTys cs)) (hg : Gl X "isinstance") (hm : X.mg "isinstance" = none) (hv : bootBuiltins "isinstance" = some (.builtin "isinstance"))
    (hs1 : starEach [a, .Tuple es k tpos] X.env = (false, eval a X.env) :: starEach [.Tuple es k tpos] X.env := by rfl) (hs2 : starEach [.Tuple es k tpos] X.env = (false, eval (.Tuple es k tpos) X.env) :: starEach [] X.env := by rfl) (hpl : (backTo pos (starEach [.Tuple es k tpos] X.env)).any (·.1) = false := by rfl) :
    QE X (.Call (.Name "isinstance" p) [a, .Tuple es k tpos] [] pos) (dIsiT cs t) := by
  refine PE.imp (pe_callB call_isiT hg hm hv (pa_cons ha (pa_cons (pe_tup hes) pa_nil hs2) hs1) (by decide) (by decide) hs1 hpl) fun σ H Q q => ?_
  obtain ⟨δ, M, s, m, q⟩ := q
  refine lE_step s m q fun d M1 v H1 x1 m1 d1 q1 => ?_
  show tTys cs σ H1 _
  rw [tTys_eq]
  refine ⟨by rw [List.length_map]; exact Nat.le_trans (of_eq_true hl) (by decide), fun b hb => ?_⟩
  have x2 : Ext H1 (upd H1 b (.tup (cs.map fun c => V.ty c.name))) := .new hb
  have m2 : MRel X.K (upd H1 b (.tup (cs.map fun c => V.ty c.name))) M1 := m1.ext x2 (fun c o _ hc => upd_ne (fun z => hc (by rw [z]; exact hb))) (fun c φ hc => by rw [upd_ne (fun z => by rw [z, hb] at hc; cases hc)]; exact hc)
  obtain ⟨T, h1, h2⟩ := tyQ_ty m2 (den_ext x2 _ _ d1) q1
  exact ⟨v, b, _, _, _, cs.any fun c => isi T c, rfl, upd_same, tys_pair cs, h1, kit_tys T cs, h2 _ _ (x1.trans x2) m2 dbl⟩
theorem pa_tys0 {X : Cx} : PA X [] (tTys []) := pa_nil
theorem pa_tys {X : Cx} {n : Str} {p2 : Pos} {es : List Expr} {cs : List Ty} (c : Ty) (hg2 : Gl X n) (hm2 : X.mg n = none) (hv2 : bootBuiltins n = some (.type c.name)) (h : PA X es (tTys cs)) (hn : n ≠ "__name__" := by decide) (hdb : (n == ("__debug__" : Str)) = false := by decide)
    (hs : starEach (.Name n p2 :: es) X.env = (false, eval (.Name n p2) X.env) :: starEach es X.env := by rfl) : PA X (.Name n p2 :: es) (tTys (c :: cs)) :=
  pa_cons (pe_bltn hg2 hm2 hv2 rfl hn hdb) h hs
end LD

/-! LE13: t.find(e) -/
namespace LD
open PySem PySem.Spec PyProof.Rows L2
def dFind (to t : DE) : DE where
  run δ M Q := to.run δ M fun d M1 => match d with
    | .str a => t.run δ M1 fun d2 M2 => ∃ b : Str, d2 = .str b ∧ Q (.int (Txt.find a b)) M2
    | _ => False
  mono h k := to.mono h fun d M1 q => by
    revert q; split <;> intro q
    · exact t.mono q fun d2 M2 ⟨b, h1, h2⟩ => ⟨b, h1, k _ _ h2⟩
    · exact q
theorem qe_find {X : Cx} {o e : Expr} {to t : DE} {apos pos : Pos} (ho : QE X o to) (he : QE X e t) (hs : starEach [e] X.env = [(false, eval e X.env)] := by rfl)
    (hbase : attributeBase o "find" X.env (eval o X.env) = eval o X.env := by rfl) (hline : (apos.endLine == pos.line) = true := by rfl) :
    QE X (.Call (.Attribute o "find" apos) [e] [] pos) (dFind to t) := by
  refine PE.imp (pe_m1 PySem.F.slot_str_find PySem.F.type_str_find mt_find ho he hs hbase hline) fun σ H Q q => ?_
  obtain ⟨δ, M, s, m, q⟩ := q
  refine lE_step s m q fun d M1 v H1 x1 m1 d1 q1 => ?_
  revert q1; split <;> intro q1
  · cases lstr d1
    refine ⟨⟨_, rfl⟩, lE_step (s.ext x1) m1 q1 fun d2 M2 v2 H2 x2 m2 d2' q2 => ?_⟩
    obtain ⟨b, rfl, h3⟩ := q2
    cases lstr d2'
    exact ⟨_, b, rfl, rfl, h3 _ _ (x1.trans x2) m2 dint⟩
  · exact q1.elim
end LD

/-! LE14: len(set(e)), e a list of ints that may repeat -/
namespace LD
open PySem PySem.Spec PyProof.Rows L2
def tLenSetR (K : PySem.W.Frag) (ta : TE) : TE := fun σ H Q => ta σ H fun x H1 => ∃ (l : Addr) (ns : List Int), x = .ref l ∧ SqL K H1 l (ns.map V.int) ∧ ns.length ≤ 4000 ∧ Q (.int ((firstMet (fun i => ns.getD i 0) ns.length).length : Nat)) H1
theorem pe_lenSetR {X : Cx} {a : Expr} {ta : TE} {p p2 q pos : Pos} (hg : Gl X "len") (hm : X.mg "len" = none) (hg2 : Gl X "set") (hm2 : X.mg "set" = none) (ha : PE X a ta) (hc : X.calm = true := by rfl)
    (na : starEach [a] X.env = (false, eval a X.env) :: starEach [] X.env := by rfl) : PE X (.Call (.Name "len" p) [.Call (.Name "set" p2) [a] [] q] [] pos) (tLenSetR X.K ta) := by
  refine ⟨fun pins s σ H Q I h => ?_⟩
  refine Call_ (ld_blt I hg hm boot_len ?_)
  refine PyProof.Rows.callWith_builtin1 (PyProof.Rows.args_cons ?_ rfl) rfl rfl
  refine Call_ (ld_blt I hg2 hm2 boot_set ?_)
  refine PyProof.Rows.callWith_type1 (PyProof.Rows.args_cons (thn (ha.run pins s σ H _ I h) fun v s1 ⟨x, H1, I1, r1, q1⟩ => PyProof.Rows.args_nil ?_) na) na rfl
  obtain ⟨l, ns, rfl, hq, hl, q1⟩ := q1
  cases r1
  obtain ⟨its, r, pl, hz⟩ := I1.list hq
  have hlen : its.toArray.size = ns.length := by rw [List.size_toArray, ← r.length, List.length_map]
  refine call_set_list (I1.ok.hd hc) pl.isList (by simpa using r.ints) (by rw [hlen]; unfold scanBound; omega) fun h' tk hS hk => ?_
  refine PyProof.Rows.args_nil ?_
  rw [hlen] at hS
  have hb' := firstMet_length_le (fun i => ns.getD i 0) ns.length
  obtain ⟨o, es, ep, t, ho, hex, hd, _, _, _, hf, hn⟩ := hS
  have I2 : Inv X pins σ H1 { s1 with heap := h', toks := tk } := I1.kept fun b o e => hk b o (Heap.lt_size e) e
  exact call_len_set ho hex hd hf (by rw [hn] <;> omega) ⟨.int _, H1, I2.tok _, ⟨_, by rw [hn]⟩, q1⟩
/-- len(set(e)): e a list of ints -/
def dLenSet (t : DE) : DE where
  run δ M Q := t.run δ M fun d M1 => ∃ ns : List Int, isL M1 d (ns.map D.int) ∧ ns.length ≤ 4000 ∧ Q (.int ((firstMet (fun i => ns.getD i 0) ns.length).length : Nat)) M1
  mono h k := t.mono h fun d M1 ⟨ns, h1, h2, h3⟩ => ⟨ns, h1, h2, k _ _ h3⟩
theorem qe_lenSet {X : Cx} {a : Expr} {t : DE} {p p2 q pos : Pos} (hc : X.calm = true) (hg : Gl X "len") (hm : X.mg "len" = none) (hg2 : Gl X "set") (hm2 : X.mg "set" = none) (ha : QE X a t)
    (na : starEach [a] X.env = (false, eval a X.env) :: starEach [] X.env := by rfl) : QE X (.Call (.Name "len" p) [.Call (.Name "set" p2) [a] [] q] [] pos) (dLenSet t) := by
  refine PE.imp (pe_lenSetR hg hm hg2 hm2 ha hc na) fun σ H Q q => ?_
  obtain ⟨δ, M, s, m, q⟩ := q
  refine lE_step s m q fun d M1 v H1 x1 m1 d1 q1 => ?_
  obtain ⟨ns, h1, h2, h3⟩ := q1
  obtain ⟨a, ws, rfl, sq, dv⟩ := isL_rd m1 d1 h1
  cases flI dv
  exact ⟨a, ns, rfl, sq, h2, h3 _ _ x1 m1 dint⟩
end LD

/-! LE15: {} -/
namespace LD
open PySem PySem.Spec PyProof.Rows L2
/-- {} -/
def dDict0 : DE where
  run δ M Q := ∀ p, M p = none → Q (.ref p) (put M p (.dct []))
  mono h k := fun p hp => k _ _ (h p hp)
theorem qe_dict0 {X : Cx} {pos : Pos} : QE X (.Dict [] [] pos) dDict0 := by
  refine PE.imp pe_dnewK fun σ H Q q => ?_
  obtain ⟨δ, M, s, m, q⟩ := q
  intro p hp
  exact q p (m.free hp) _ _ (.new hp) (m.new (u := .dct []) hp ⟨_, upd_same, by simp [denKV]⟩) dref
end LD

/-! LD6: built-in names; numbers -/
namespace LD
open PySem PySem.Spec PyProof.Rows L2

theorem bb_len : bootBuiltins "len" = some (.builtin "len") := by decide +kernel
theorem bb_abs : bootBuiltins "abs" = some (.builtin "abs") := by decide +kernel
theorem bb_repr : bootBuiltins "repr" = some (.builtin "repr") := by decide +kernel
theorem bb_isinstance : bootBuiltins "isinstance" = some (.builtin "isinstance") := by decide +kernel
theorem bb_int : bootBuiltins "int" = some (.type "int") := by decide +kernel
theorem bb_bool : bootBuiltins "bool" = some (.type "bool") := by decide +kernel
theorem bb_str : bootBuiltins "str" = some (.type "str") := by decide +kernel
theorem bb_list : bootBuiltins "list" = some (.type "list") := by decide +kernel
theorem bb_tuple : bootBuiltins "tuple" = some (.type "tuple") := by decide +kernel
theorem bb_dict : bootBuiltins "dict" = some (.type "dict") := by decide +kernel

/-! ### what operations do, by constructors -/
section
variable {i j : Int} {b c : Bool} {x y : Str} {p q : Addr} {d e : D} {ds es : List D} {M : DM} {Q : D → DM → Prop} {neg : Bool} {f : Int → Int → Bool}
theorem r_add_ii : oAdd.run (.int i) (.int j) M Q = Q (.int (i + j)) M := rfl
theorem r_add_ss : oAdd.run (.str x) (.str y) M Q = (x.length + y.length ≤ sizeLine ∧ Q (.str (x ++ y)) M) := rfl
theorem r_add_tt : oAdd.run (.tup ds) (.tup es) M Q = (ds.length + es.length ≤ sizeLine ∧ Q (.tup (ds ++ es)) M) := rfl
theorem r_add_r : oAdd.run (.ref p) d M Q = (∃ a b, isL M (.ref p) a ∧ isL M d b ∧ a.length + b.length ≤ sizeLine ∧ ∀ q, M q = none → Q (.ref q) (put M q (.lst (a ++ b)))) := rfl
theorem r_add_l : oAdd.run (.lst ds) d M Q = (∃ a b, isL M (.lst ds) a ∧ isL M d b ∧ a.length + b.length ≤ sizeLine ∧ ∀ q, M q = none → Q (.ref q) (put M q (.lst (a ++ b)))) := rfl
theorem r_add_ib : oAdd.run (.int i) (.bl b) M Q = Q (.int (i + b2i b)) M := rfl
theorem r_add_bi : oAdd.run (.bl b) (.int i) M Q = Q (.int (b2i b + i)) M := rfl
theorem r_add_bb : oAdd.run (.bl b) (.bl c) M Q = Q (.int (b2i b + b2i c)) M := rfl
theorem r_sub_ii : oSub.run (.int i) (.int j) M Q = Q (.int (i - j)) M := rfl
theorem r_sub_bb : oSub.run (.bl b) (.bl c) M Q = Q (.int (b2i b - b2i c)) M := rfl
theorem r_mul_ii : oMul.run (.int i) (.int j) M Q = (MulOk i j ∧ Q (.int (i * j)) M) := rfl
theorem r_mul_si : oMul.run (.str x) (.int i) M Q = (PySem.MulOk x i ∧ Q (.str (Txt.mul x i)) M) := rfl
theorem r_fdiv_ii : oFdiv.run (.int i) (.int j) M Q = (CDivW i j ∧ Q (.int (i / j)) M) := rfl
theorem r_mod_ii : oMod.run (.int i) (.int j) M Q = (0 < j ∧ Q (.int (i % j)) M) := rfl
theorem r_pow_ii : oPow.run (.int i) (.int j) M Q = (CPow i j ∧ Q (.int (i ^ j.toNat)) M) := rfl
theorem r_neg_i : oNeg.run (.int i) M Q = Q (.int (-i)) M := rfl
theorem r_eq_ii : (oEqN neg).run (.int i) (.int j) M Q = Q (.bl (decide (i = j) ^^ neg)) M := rfl
theorem r_eq_ss : (oEqN neg).run (.str x) (.str y) M Q = Q (.bl (decide (x = y) ^^ neg)) M := rfl
theorem r_eq_t : (oEqN neg).run (.tup ds) d M Q = (∃ t u, dat M t (.tup ds) ∧ dat M u d ∧ SeqAt.shaped t = true ∧ SeqAt.shaped u = true ∧ Q (.bl (PyData.eqv t u ^^ neg)) M) := rfl
theorem r_eq_r : (oEqN neg).run (.ref p) d M Q = (∃ t u, dat M t (.ref p) ∧ dat M u d ∧ SeqAt.shaped t = true ∧ SeqAt.shaped u = true ∧ Q (.bl (PyData.eqv t u ^^ neg)) M) := rfl
theorem r_ord_ii : (oOrd f).run (.int i) (.int j) M Q = Q (.bl (f i j)) M := rfl
theorem r_ix_t : oIx.run (.tup ds) (.int i) M Q = (∃ es d, isSeq M (.tup ds) es ∧ atI es i = some d ∧ Q d M) := rfl
theorem r_ix_l : oIx.run (.lst ds) (.int i) M Q = (∃ es d, isSeq M (.lst ds) es ∧ atI es i = some d ∧ Q d M) := rfl
theorem r_ix_r : oIx.run (.ref p) (.int i) M Q = (∃ es d, isSeq M (.ref p) es ∧ atI es i = some d ∧ Q d M) := rfl
theorem r_ix_s : oIx.run (.str x) (.int i) M Q = (∃ c, x.length ≤ sizeLine ∧ atI x.cps.toList i = some c ∧ Q (.str ⟨#[c]⟩) M) := rfl
theorem r_len_s : rLen.run [.str x] M Q = (x.length ≤ sizeLine ∧ Q (.int x.length) M) := rfl
theorem r_len_t : rLen.run [.tup ds] M Q = Q (.int ds.length) M := rfl
theorem r_len_l : rLen.run [.lst ds] M Q = Q (.int ds.length) M := rfl
theorem r_len_r : rLen.run [.ref p] M Q = (∃ ds, isL M (.ref p) ds ∧ Q (.int ds.length) M) := rfl
theorem r_abs_i : rAbs.run [.int i] M Q = Q (.int (i.natAbs : Int)) M := rfl
theorem r_int_i : rInt.run [.int i] M Q = Q (.int i) M := rfl
theorem r_int_b : rInt.run [.bl b] M Q = Q (.int (b2i b)) M := rfl
theorem r_list : rList.run [d] M Q = (∃ ds, isSeq M d ds ∧ ∀ p, M p = none → Q (.ref p) (put M p (.lst ds))) := rfl
theorem r_tuple : rTuple.run [d] M Q = (∃ ds, isSeq M d ds ∧ Q (.tup ds) M) := rfl
theorem r_repr_s : rRepr.run [.str x] M Q = ((reprText x).length ≤ sizeLine ∧ Q (.str (reprText x)) M) := rfl
theorem r_repr_i : rRepr.run [.int i] M Q = (∃ t, dat M t (.int i) ∧ t.showable = true ∧ t.shown.length ≤ sizeLine ∧ t.depth < 100 ∧ Q (.str t.shown) M) := rfl
theorem r_repr_t : rRepr.run [.tup ds] M Q = (∃ t, dat M t (.tup ds) ∧ t.showable = true ∧ t.shown.length ≤ sizeLine ∧ t.depth < 100 ∧ Q (.str t.shown) M) := rfl
theorem r_repr_r : rRepr.run [.ref p] M Q = (∃ t, dat M t (.ref p) ∧ t.showable = true ∧ t.shown.length ≤ sizeLine ∧ t.depth < 100 ∧ Q (.str t.shown) M) := rfl
end

/-! ### types of values -/
theorem tyQ_get {d : D} {M : DM} {Q : Ty → Prop} (h : tyQ d M Q) : ∃ T, Q T ∧ ∀ Q' : Ty → Prop, Q' T → tyQ d M Q' := by
  cases d with
  | ref p =>
    rcases h with ⟨ds, h1, h2⟩ | ⟨kvs, h1, h2⟩
    · exact ⟨.list, h2, fun Q' q => .inl ⟨ds, h1, q⟩⟩
    · exact ⟨.dict, h2, fun Q' q => .inr ⟨kvs, h1, q⟩⟩
  | ty n => exact h.elim
  | _ => exact ⟨_, h, fun Q' q => q⟩
/-- its type can be told -/
def Kn (M : DM) (d : D) : Prop := tyQ d M fun _ => True
def isIntD : D → Bool
  | .int _ => true
  | _ => false
theorem Kn.go {M : DM} {d : D} (h : Kn M d) : ∃ T, (isi T .int && !isi T .bool) = isIntD d ∧ (T = .tuple ↔ ∃ ds, d = .tup ds) ∧ ∀ Q' : Ty → Prop, Q' T → tyQ d M Q' := by
  cases d with
  | ref p =>
    rcases h with ⟨ds, h1, h2⟩ | ⟨kvs, h1, h2⟩
    · exact ⟨.list, rfl, ⟨nofun, nofun⟩, fun Q' q => .inl ⟨ds, h1, q⟩⟩
    · exact ⟨.dict, rfl, ⟨nofun, nofun⟩, fun Q' q => .inr ⟨kvs, h1, q⟩⟩
  | ty n => exact h.elim
  | tup ds => exact ⟨.tuple, rfl, ⟨fun _ => ⟨ds, rfl⟩, fun _ => rfl⟩, fun Q' q => q⟩
  | non => exact ⟨.none, rfl, ⟨nofun, nofun⟩, fun Q' q => q⟩
  | bl b => exact ⟨.bool, rfl, ⟨nofun, nofun⟩, fun Q' q => q⟩
  | int i => exact ⟨.int, rfl, ⟨nofun, nofun⟩, fun Q' q => q⟩
  | str i => exact ⟨.str, rfl, ⟨nofun, nofun⟩, fun Q' q => q⟩
  | lst i => exact ⟨.list, rfl, ⟨nofun, nofun⟩, fun Q' q => q⟩
  | dct i => exact ⟨.dict, rfl, ⟨nofun, nofun⟩, fun Q' q => q⟩

/-! ### numbers -/
abbrev S_is_integer : DSp := fun ds M Q X => ∃ x, ds = [x] ∧ Kn M x ∧ Q (.bl (isIntD x)) M
abbrev S_common : DSp := fun ds M Q X => ∃ a b : Nat, ds = [.int a, .int b] ∧ Q (.int (Nat.gcd a b : Nat)) M
/-- the number n / d -/
def numD (n d : Int) : D := .tup [.int (n / (Nat.gcd n.natAbs d.natAbs : Nat)), .int (d / (Nat.gcd n.natAbs d.natAbs : Nat))]
def Sm (k : Nat) (i : Int) : Prop := i.natAbs < 2 ^ k
abbrev S_reduced : DSp := fun ds M Q X => ∃ n d : Int, ds = [.int n, .int d] ∧ 0 < d ∧ Sm 9000 d ∧ Q (numD n d) M
/-- a value that is a number -/
def isNum : D → Bool
  | .tup [.int n, .int d] => decide (1 ≤ d) && decide (Nat.gcd n.natAbs d.natAbs = 1)
  | _ => false
/-- so much is known that is_number can be asked -/
def KnN (M : DM) : D → Prop
  | .tup ds => ds.length ≤ sizeLine ∧ ∀ d ∈ ds, Kn M d
  | d => Kn M d
abbrev S_is_number : DSp := fun ds M Q X => ∃ x, ds = [x] ∧ KnN M x ∧ Q (.bl (isNum x)) M
abbrev S_need_number : DSp := fun ds M Q X => ∃ x, ds = [x] ∧ KnN M x ∧ bcase (isNum x) (Q .non M) (X "NoNumber" M)
abbrev S_number_of : DSp := fun ds M Q X => ∃ n d, ds = [n, d] ∧ Kn M n ∧ Kn M d ∧ match n, d with
  | .int n, .int d => bcase (decide (d < 1)) (X "NoDivisor" M) (Sm 9000 d ∧ Q (numD n d) M)
  | .int _, _ => X "NoDivisor" M
  | _, _ => X "NoNumber" M
abbrev S_raw_plus : DSp := fun ds M Q X => ∃ a b c d : Int, ds = [.tup [.int a, .int b], .tup [.int c, .int d]] ∧ 0 < b ∧ 0 < d ∧ Sm 4000 a ∧ Sm 4000 b ∧ Sm 4000 c ∧ Sm 4000 d ∧ Q (numD (a * d + c * b) (b * d)) M
abbrev S_raw_minus : DSp := fun ds M Q X => ∃ a b c d : Int, ds = [.tup [.int a, .int b], .tup [.int c, .int d]] ∧ 0 < b ∧ 0 < d ∧ Sm 4000 a ∧ Sm 4000 b ∧ Sm 4000 c ∧ Sm 4000 d ∧ Q (numD (a * d - c * b) (b * d)) M
def cmpN (a b c d : Int) : Int := b2i (decide (a * d > c * b)) - b2i (decide (a * d < c * b))
abbrev S_raw_compared : DSp := fun ds M Q X => ∃ a b c d : Int, ds = [.tup [.int a, .int b], .tup [.int c, .int d]] ∧ Sm 4000 a ∧ Sm 4000 b ∧ Sm 4000 c ∧ Sm 4000 d ∧ Q (.int (cmpN a b c d)) M
/-- plus, minus, compared, by the answer for numbers -/
def twoN (f : Int → Int → Int → Int → D) (x y : D) (M : DM) (Q : D → DM → Prop) (X : XD) : Prop := KnN M x ∧ bcase (isNum x) (KnN M y ∧ bcase (isNum y)
  (∃ a b c d : Int, x = .tup [.int a, .int b] ∧ y = .tup [.int c, .int d] ∧ Sm 4000 a ∧ Sm 4000 b ∧ Sm 4000 c ∧ Sm 4000 d ∧ Q (f a b c d) M) (X "NoNumber" M)) (X "NoNumber" M)
abbrev S_plus : DSp := fun ds M Q X => ∃ x y, ds = [x, y] ∧ twoN (fun a b c d => numD (a * d + c * b) (b * d)) x y M Q X
abbrev S_minus : DSp := fun ds M Q X => ∃ x y, ds = [x, y] ∧ twoN (fun a b c d => numD (a * d - c * b) (b * d)) x y M Q X
abbrev S_compared : DSp := fun ds M Q X => ∃ x y, ds = [x, y] ∧ twoN (fun a b c d => .int (cmpN a b c d)) x y M Q X

def b_is_integer (X : XD) : DS :=
  dEnd (dRet (dAndV (dIsi .int (dVar 0)) (dNotV (dIsi .bool (dVar 0)))))
def b_common (X : XD) : DS :=
  dSeq (dWhile (dTB (dOp oNe (dVar 1) (dC (.int 0)))) (dEnd (dPar2 0 1 (dCons (dVar 1) (dCons (dOp oMod (dVar 0) (dVar 1)) (dNil))))))
  (dEnd (dRet (dVar 0)))
def b_reduced (X : XD) : DS :=
  dSeq (dSet 2 (dCall S_common (dCons (dCB rAbs (dCons (dVar 0) (dNil))) (dCons (dVar 1) (dNil))) X))
  (dEnd (dRet (dTup (dCons (dOp oFdiv (dVar 0) (dVar 2)) (dCons (dOp oFdiv (dVar 1) (dVar 2)) (dNil))))))
def b_is_number (X : XD) : DS :=
  dSeq (dIfS (dOrT (dNotT (dTB (dIsi .tuple (dVar 0)))) (dOrT (dTB (dOp oNe (dCB rLen (dCons (dVar 0) (dNil))) (dC (.int 2)))) (dOrT (dNotT (dTB (dCall S_is_integer (dCons (dOp oIx (dVar 0) (dC (.int 0))) (dNil)) X))) (dNotT (dTB (dCall S_is_integer (dCons (dOp oIx (dVar 0) (dC (.int 1))) (dNil)) X)))))) (dEnd (dRet (dC (.bl false)))) (dSNil))
  (dEnd (dRet (dAndV (dOp oGe (dOp oIx (dVar 0) (dC (.int 1))) (dC (.int 1))) (dOp oEq (dCall S_common (dCons (dCB rAbs (dCons (dOp oIx (dVar 0) (dC (.int 0))) (dNil))) (dCons (dOp oIx (dVar 0) (dC (.int 1))) (dNil))) X) (dC (.int 1))))))
def b_need_number (X : XD) : DS :=
  dEnd (dIfS (dNotT (dTB (dCall S_is_number (dCons (dVar 0) (dNil)) X))) (dEnd (dRaise "NoNumber" X)) (dSNil))
def b_number_of (X : XD) : DS :=
  dSeq (dIfS (dNotT (dTB (dCall S_is_integer (dCons (dVar 0) (dNil)) X))) (dEnd (dRaise "NoNumber" X)) (dSNil))
  (dSeq (dIfS (dOrT (dNotT (dTB (dCall S_is_integer (dCons (dVar 1) (dNil)) X))) (dTB (dOp oLt (dVar 1) (dC (.int 1))))) (dEnd (dRaise "NoDivisor" X)) (dSNil))
  (dEnd (dRet (dCall S_reduced (dCons (dVar 0) (dCons (dVar 1) (dNil))) X))))
def b_raw_plus (X : XD) : DS :=
  dEnd (dRet (dCall S_reduced (dCons (dOp oAdd (dOp oMul (dOp oIx (dVar 0) (dC (.int 0))) (dOp oIx (dVar 1) (dC (.int 1)))) (dOp oMul (dOp oIx (dVar 1) (dC (.int 0))) (dOp oIx (dVar 0) (dC (.int 1))))) (dCons (dOp oMul (dOp oIx (dVar 0) (dC (.int 1))) (dOp oIx (dVar 1) (dC (.int 1)))) (dNil))) X))
def b_raw_minus (X : XD) : DS :=
  dEnd (dRet (dCall S_reduced (dCons (dOp oSub (dOp oMul (dOp oIx (dVar 0) (dC (.int 0))) (dOp oIx (dVar 1) (dC (.int 1)))) (dOp oMul (dOp oIx (dVar 1) (dC (.int 0))) (dOp oIx (dVar 0) (dC (.int 1))))) (dCons (dOp oMul (dOp oIx (dVar 0) (dC (.int 1))) (dOp oIx (dVar 1) (dC (.int 1)))) (dNil))) X))
def b_raw_compared (X : XD) : DS :=
  dSeq (dPar2 2 3 (dCons (dOp oMul (dOp oIx (dVar 0) (dC (.int 0))) (dOp oIx (dVar 1) (dC (.int 1)))) (dCons (dOp oMul (dOp oIx (dVar 1) (dC (.int 0))) (dOp oIx (dVar 0) (dC (.int 1)))) (dNil))))
  (dEnd (dRet (dOp oSub (dOp oGt (dVar 2) (dVar 3)) (dOp oLt (dVar 2) (dVar 3)))))
def b_plus (X : XD) : DS :=
  dSeq (dDrop (dCall S_need_number (dCons (dVar 0) (dNil)) X))
  (dSeq (dDrop (dCall S_need_number (dCons (dVar 1) (dNil)) X))
  (dEnd (dRet (dCall S_raw_plus (dCons (dVar 0) (dCons (dVar 1) (dNil))) X))))
def b_minus (X : XD) : DS :=
  dSeq (dDrop (dCall S_need_number (dCons (dVar 0) (dNil)) X))
  (dSeq (dDrop (dCall S_need_number (dCons (dVar 1) (dNil)) X))
  (dEnd (dRet (dCall S_raw_minus (dCons (dVar 0) (dCons (dVar 1) (dNil))) X))))
def b_compared (X : XD) : DS :=
  dSeq (dDrop (dCall S_need_number (dCons (dVar 0) (dNil)) X))
  (dSeq (dDrop (dCall S_need_number (dCons (dVar 1) (dNil)) X))
  (dEnd (dRet (dCall S_raw_compared (dCons (dVar 0) (dCons (dVar 1) (dNil))) X))))

theorem p_is_integer (ds : List D) (M : DM) (Q : D → DM → Prop) (X : XD) (hl : ds.length = 1) (h : S_is_integer ds M Q X) : (b_is_integer (wkX X)).run (spEnds Q) (dStart 1 ds) M := by
  obtain ⟨x, rfl, kn, q⟩ := h
  show (b_is_integer _).run (spEnds Q) [some x] M
  obtain ⟨T, e, _, go⟩ := kn.go
  dsimp only [dSeq, dEnd, dSNil, dPass, dBreak, dCont, dNever, dDrop, dRet, dRetN, dIfS, dName, dAsg, dSet, dPar2, dPar3, dGNil, dGCons, dGTup, dSubL, dWhile, dFor, dItSeq, dItR1, dItR2, dItEnum, dVar, dC, dNil, dCons, dTup, dLst, dOp, dUn, dTB, dAndT, dOrT, dNotT, dAndV, dOrV, dNotV, dIf, dChain, dSlice, dNoP, dPart, dCB, dIsi, dCall, dRaise, oEq, oNe, oLt, oLe, oGt, oGe, oIsN, r_add_ii, r_add_ss, r_add_tt, r_add_r, r_add_l, r_add_ib, r_add_bi, r_add_bb, r_sub_ii, r_sub_bb, r_mul_ii, r_mul_si, r_fdiv_ii, r_mod_ii, r_pow_ii, r_neg_i, r_eq_ii, r_eq_ss, r_ord_ii, r_ix_t, r_ix_l, r_ix_r, r_ix_s, r_len_s, r_len_t, r_len_l, r_len_r, r_abs_i, r_int_i, r_int_b, r_list, r_tuple, r_repr_s, spEnds, wkX, List.getElem?_cons_zero, List.getElem?_cons_succ, List.set_cons_zero, List.set_cons_succ, b_is_integer]
  refine go _ ?_
  rw [← e] at q
  cases h : isi T .int
  · rw [h] at q
    exact .here q
  · rw [h] at q
    refine bcase_t rfl (go _ ?_)
    exact .here q
theorem gcd_step (a b : Nat) (h : b ≠ 0) : Nat.gcd b (a % b) = Nat.gcd a b := by rw [Nat.gcd_comm b (a % b), ← Nat.gcd_rec, Nat.gcd_comm]
theorem common_loop {E : DEnds} {M : DM} : ∀ n a b : Nat, b ≤ n → E.nx [some (.int (Nat.gcd a b : Nat)), some (.int 0)] M →
    whRun (dTB (dOp oNe (dVar 1) (dC (.int 0)))) (dEnd (dPar2 0 1 (dCons (dVar 1) (dCons (dOp oMod (dVar 0) (dVar 1)) (dNil))))) E (n + 1) [some (.int a), some (.int b)] M := by
  intro n
  induction n with
  | zero =>
    intro a b hb q
    have e : b = 0 := by omega
    subst e
    rw [Nat.gcd_zero_right] at q
    exact q
  | succ n ih =>
    intro a b hb q
    rw [whRun]
    dsimp only [dSeq, dEnd, dSNil, dPass, dBreak, dCont, dNever, dDrop, dRet, dRetN, dIfS, dName, dAsg, dSet, dPar2, dPar3, dGNil, dGCons, dGTup, dSubL, dWhile, dFor, dItSeq, dItR1, dItR2, dItEnum, dVar, dC, dNil, dCons, dTup, dLst, dOp, dUn, dTB, dAndT, dOrT, dNotT, dAndV, dOrV, dNotV, dIf, dChain, dSlice, dNoP, dPart, dCB, dIsi, dCall, dRaise, oEq, oNe, oLt, oLe, oGt, oGe, oIsN, r_add_ii, r_add_ss, r_add_tt, r_add_r, r_add_l, r_add_ib, r_add_bi, r_add_bb, r_sub_ii, r_sub_bb, r_mul_ii, r_mul_si, r_fdiv_ii, r_mod_ii, r_pow_ii, r_neg_i, r_eq_ii, r_eq_ss, r_ord_ii, r_ix_t, r_ix_l, r_ix_r, r_ix_s, r_len_s, r_len_t, r_len_l, r_len_r, r_abs_i, r_int_i, r_int_b, r_list, r_tuple, r_repr_s, spEnds, wkX, List.getElem?_cons_zero, List.getElem?_cons_succ, List.set_cons_zero, List.set_cons_succ]
    by_cases e : b = 0
    · subst e
      rw [Nat.gcd_zero_right] at q
      exact bcase_f (by decide) q
    · refine bcase_t (by simpa using e) ⟨by omega, .here ?_⟩
      refine ih b (a % b) ?_ ?_
      · have := Nat.mod_lt a (show b > 0 by omega)
        omega
      · rw [gcd_step a b e]; exact q
theorem p_common (ds : List D) (M : DM) (Q : D → DM → Prop) (X : XD) (hl : ds.length = 2) (h : S_common ds M Q X) : (b_common (wkX X)).run (spEnds Q) (dStart 2 ds) M := by
  obtain ⟨a, b, rfl, q⟩ := h
  show (b_common _).run (spEnds Q) [some (.int a), some (.int b)] M
  dsimp only [b_common, dSeq, dWhile]
  refine ⟨b + 1, common_loop b a b (Nat.le_refl b) (.here ?_)⟩
  exact .here q
theorem szle {n : Nat} (h : n ≤ 100000 := by decide) : n ≤ sizeLine := Nat.le_trans h (by decide)
theorem cdivw {i j : Int} (h : 0 < j) (s : Sm 9000 j) : CDivW i j := ⟨h, by
  by_cases e : j.natAbs = 0
  · omega
  · exact (Nat.log2_lt e).mpr s⟩
theorem Sm.le {k : Nat} {i j : Int} (h : Sm k i) (e : j.natAbs ≤ i.natAbs) : Sm k j := Nat.lt_of_le_of_lt e h
theorem Sm.mono {k l : Nat} {i : Int} (h : Sm k i) (e : k ≤ l) : Sm l i := Nat.lt_of_lt_of_le h (Nat.pow_le_pow_right (by decide) e)
theorem Sm.mul {k l : Nat} {i j : Int} (h : Sm k i) (g : Sm l j) : Sm (k + l) (i * j) := by
  unfold Sm at *
  rw [Int.natAbs_mul, Nat.pow_add]
  exact Nat.mul_lt_mul_of_lt_of_lt h g
theorem Sm.add {k : Nat} {i j : Int} (h : Sm k i) (g : Sm k j) : Sm (k + 1) (i + j) := by
  unfold Sm at *
  have := Int.natAbs_add_le i j
  rw [Nat.pow_succ]
  omega
theorem Sm.sub {k : Nat} {i j : Int} (h : Sm k i) (g : Sm k j) : Sm (k + 1) (i - j) := by
  unfold Sm at *
  have := Int.natAbs_sub_le i j
  rw [Nat.pow_succ]
  omega
theorem Sm.log {k : Nat} {i : Int} (h : Sm k i) (hk : 0 < k) : i.natAbs.log2 < k := by
  by_cases e : i.natAbs = 0
  · rw [e]; exact hk
  · exact (Nat.log2_lt e).mpr h
theorem mulok {k l : Nat} {i j : Int} (h : Sm k i) (g : Sm l j) (hk : 0 < k) (hl : 0 < l) (e : k + l ≤ 1000000) : MulOk i j := .inr (by
  have h1 := h.log hk
  have h2 := g.log hl
  show _ + _ < _
  omega)
theorem mulokR {i j : Int} (h : j.natAbs < 2 ^ 64) : MulOk i j := .inl (.inr ⟨by omega, by omega⟩)
theorem gcd_pos_r {n d : Int} (h : 0 < d) : 0 < (Nat.gcd n.natAbs d.natAbs : Int) := by
  have := Nat.gcd_pos_of_pos_right n.natAbs (show 0 < d.natAbs by omega)
  omega
theorem gcd_sm {k : Nat} {n d : Int} (h : 0 < d) (s : Sm k d) : Sm k (Nat.gcd n.natAbs d.natAbs : Nat) := by
  refine s.le ?_
  rw [Int.natAbs_natCast]
  exact Nat.gcd_le_right _ (by omega)
theorem nat_of_pos {d : Int} (h : 0 < d) : ((d.natAbs : Nat) : Int) = d := by omega
theorem p_reduced (ds : List D) (M : DM) (Q : D → DM → Prop) (X : XD) (hl : ds.length = 2) (h : S_reduced ds M Q X) : (b_reduced (wkX X)).run (spEnds Q) (dStart 3 ds) M := by
  obtain ⟨n, d, rfl, hd, sm, q⟩ := h
  show (b_reduced _).run (spEnds Q) [some (.int n), some (.int d), none] M
  dsimp only [dSeq, dEnd, dSNil, dPass, dBreak, dCont, dNever, dDrop, dRet, dRetN, dIfS, dName, dAsg, dSet, dPar2, dPar3, dGNil, dGCons, dGTup, dSubL, dWhile, dFor, dItSeq, dItR1, dItR2, dItEnum, dVar, dC, dNil, dCons, dTup, dLst, dOp, dUn, dTB, dAndT, dOrT, dNotT, dAndV, dOrV, dNotV, dIf, dChain, dSlice, dNoP, dPart, dCB, dIsi, dCall, dRaise, oEq, oNe, oLt, oLe, oGt, oGe, oIsN, r_add_ii, r_add_ss, r_add_tt, r_add_r, r_add_l, r_add_ib, r_add_bi, r_add_bb, r_sub_ii, r_sub_bb, r_mul_ii, r_mul_si, r_fdiv_ii, r_mod_ii, r_pow_ii, r_neg_i, r_eq_ii, r_eq_ss, r_ord_ii, r_ix_t, r_ix_l, r_ix_r, r_ix_s, r_len_s, r_len_t, r_len_l, r_len_r, r_abs_i, r_int_i, r_int_b, r_list, r_tuple, r_repr_s, spEnds, wkX, List.getElem?_cons_zero, List.getElem?_cons_succ, List.set_cons_zero, List.set_cons_succ, b_reduced]
  refine .go ⟨n.natAbs, d.natAbs, by rw [nat_of_pos hd], .here ?_⟩
  have g := gcd_pos_r (n := n) hd
  have s := gcd_sm (n := n) hd sm
  exact ⟨cdivw g s, cdivw g s, szle (n := 2), .here q⟩
theorem isNum2 (a b : D) (h : isIntD a = true) (g : isIntD b = true) : ∃ n d : Int, a = .int n ∧ b = .int d := by
  cases a <;> first | (cases h; done) | skip
  cases b <;> first | (cases g; done) | skip
  exact ⟨_, _, rfl, rfl⟩
theorem isNum_not {a b : D} (h : isIntD a = false ∨ isIntD b = false) : isNum (.tup [a, b]) = false := by
  cases a with
  | int n => cases b with
    | int d => rcases h with h | h <;> cases h
    | _ => rfl
  | _ => rfl
theorem p_is_number (ds : List D) (M : DM) (Q : D → DM → Prop) (X : XD) (hl : ds.length = 1) (h : S_is_number ds M Q X) : (b_is_number (wkX X)).run (spEnds Q) (dStart 1 ds) M := by
  obtain ⟨x, rfl, kn, q⟩ := h
  show (b_is_number _).run (spEnds Q) [some x] M
  dsimp only [dSeq, dEnd, dSNil, dPass, dBreak, dCont, dNever, dDrop, dRet, dRetN, dIfS, dName, dAsg, dSet, dPar2, dPar3, dGNil, dGCons, dGTup, dSubL, dWhile, dFor, dItSeq, dItR1, dItR2, dItEnum, dVar, dC, dNil, dCons, dTup, dLst, dOp, dUn, dTB, dAndT, dOrT, dNotT, dAndV, dOrV, dNotV, dIf, dChain, dSlice, dNoP, dPart, dCB, dIsi, dCall, dRaise, oEq, oNe, oLt, oLe, oGt, oGe, oIsN, r_add_ii, r_add_ss, r_add_tt, r_add_r, r_add_l, r_add_ib, r_add_bi, r_add_bb, r_sub_ii, r_sub_bb, r_mul_ii, r_mul_si, r_fdiv_ii, r_mod_ii, r_pow_ii, r_neg_i, r_eq_ii, r_eq_ss, r_ord_ii, r_ix_t, r_ix_l, r_ix_r, r_ix_s, r_len_s, r_len_t, r_len_l, r_len_r, r_abs_i, r_int_i, r_int_b, r_list, r_tuple, r_repr_s, spEnds, wkX, List.getElem?_cons_zero, List.getElem?_cons_succ, List.set_cons_zero, List.set_cons_succ, b_is_number]
  by_cases hx : ∃ ds, x = .tup ds
  · obtain ⟨ds, rfl⟩ := hx
    obtain ⟨hz, kn⟩ := kn
    show bcase (decide ((ds.length : Int) = 2) ^^ true) _ _
    by_cases h2 : ds.length = 2
    · refine bcase_f (by simp [h2]) ?_
      obtain ⟨a, b, rfl⟩ : ∃ a b, ds = [a, b] := by
        match ds, h2 with
        | [a, b], _ => exact ⟨a, b, rfl⟩
      refine ⟨_, a, rfl, rfl, .go ⟨a, rfl, kn a (by simp), ?_⟩⟩
      cases ha : isIntD a
      · rw [isNum_not (.inl ha)] at q
        exact .here q
      · refine bcase_f (by rfl) ⟨_, b, rfl, rfl, .go ⟨b, rfl, kn b (by simp), ?_⟩⟩
        cases hb : isIntD b
        · rw [isNum_not (.inr hb)] at q
          exact .here q
        · obtain ⟨n, d, rfl, rfl⟩ := isNum2 a b ha hb
          refine .here ⟨_, _, rfl, rfl, ?_⟩
          dsimp only [dSeq, dEnd, dSNil, dPass, dBreak, dCont, dNever, dDrop, dRet, dRetN, dIfS, dName, dAsg, dSet, dPar2, dPar3, dGNil, dGCons, dGTup, dSubL, dWhile, dFor, dItSeq, dItR1, dItR2, dItEnum, dVar, dC, dNil, dCons, dTup, dLst, dOp, dUn, dTB, dAndT, dOrT, dNotT, dAndV, dOrV, dNotV, dIf, dChain, dSlice, dNoP, dPart, dCB, dIsi, dCall, dRaise, oEq, oNe, oLt, oLe, oGt, oGe, oIsN, r_add_ii, r_add_ss, r_add_tt, r_add_r, r_add_l, r_add_ib, r_add_bi, r_add_bb, r_sub_ii, r_sub_bb, r_mul_ii, r_mul_si, r_fdiv_ii, r_mod_ii, r_pow_ii, r_neg_i, r_eq_ii, r_eq_ss, r_ord_ii, r_ix_t, r_ix_l, r_ix_r, r_ix_s, r_len_s, r_len_t, r_len_l, r_len_r, r_abs_i, r_int_i, r_int_b, r_list, r_tuple, r_repr_s, spEnds, wkX, List.getElem?_cons_zero, List.getElem?_cons_succ, List.set_cons_zero, List.set_cons_succ]
          by_cases hd : 1 ≤ d
          · refine bcase_t (by simpa using hd) ⟨_, _, rfl, rfl, ⟨_, _, rfl, rfl, .go ⟨n.natAbs, d.natAbs, by rw [nat_of_pos hd], ?_⟩⟩⟩
            dsimp only [dSeq, dEnd, dSNil, dPass, dBreak, dCont, dNever, dDrop, dRet, dRetN, dIfS, dName, dAsg, dSet, dPar2, dPar3, dGNil, dGCons, dGTup, dSubL, dWhile, dFor, dItSeq, dItR1, dItR2, dItEnum, dVar, dC, dNil, dCons, dTup, dLst, dOp, dUn, dTB, dAndT, dOrT, dNotT, dAndV, dOrV, dNotV, dIf, dChain, dSlice, dNoP, dPart, dCB, dIsi, dCall, dRaise, oEq, oNe, oLt, oLe, oGt, oGe, oIsN, r_add_ii, r_add_ss, r_add_tt, r_add_r, r_add_l, r_add_ib, r_add_bi, r_add_bb, r_sub_ii, r_sub_bb, r_mul_ii, r_mul_si, r_fdiv_ii, r_mod_ii, r_pow_ii, r_neg_i, r_eq_ii, r_eq_ss, r_ord_ii, r_ix_t, r_ix_l, r_ix_r, r_ix_s, r_len_s, r_len_t, r_len_l, r_len_r, r_abs_i, r_int_i, r_int_b, r_list, r_tuple, r_repr_s, spEnds, wkX, List.getElem?_cons_zero, List.getElem?_cons_succ, List.set_cons_zero, List.set_cons_succ]
            refine .here ?_
            have e : isNum (.tup [.int n, .int d]) = (decide (((Nat.gcd n.natAbs d.natAbs : Nat) : Int) = 1) ^^ false) := by
              rw [Bool.xor_false]
              show (decide (1 ≤ d) && decide (Nat.gcd n.natAbs d.natAbs = 1)) = _
              rw [decide_eq_true hd, Bool.true_and]
              exact decide_eq_decide.mpr (by omega)
            rw [← e]; exact q
          · refine bcase_f (by simpa using hd) (.here ?_)
            have e : isNum (.tup [.int n, .int d]) = false := by
              show (decide (1 ≤ d) && _) = _
              rw [decide_eq_false hd]; rfl
            rw [← e]; exact q
    · refine bcase_t (by rw [decide_eq_false (by omega)]; rfl) ?_
      refine .here ?_
      have e : isNum (.tup ds) = false := by
        unfold isNum
        split
        · rename_i e; cases e; exact (h2 rfl).elim
        · rfl
      rw [← e]; exact q
  · have kn : Kn M x := by
      cases x with
      | tup ds => exact (hx ⟨ds, rfl⟩).elim
      | _ => exact kn
    obtain ⟨T, _, e, go⟩ := kn.go
    refine go _ ?_
    have n : T ≠ .tuple := fun z => hx (e.mp z)
    refine bcase_t (by cases T <;> first | rfl | exact (n rfl).elim) (.here ?_)
    have e : isNum x = false := by
      cases x with
      | tup ds => exact (hx ⟨ds, rfl⟩).elim
      | _ => rfl
    rw [← e]; exact q
theorem p_need_number (ds : List D) (M : DM) (Q : D → DM → Prop) (X : XD) (hl : ds.length = 1) (h : S_need_number ds M Q X) : (b_need_number (wkX X)).run (spEnds Q) (dStart 1 ds) M := by
  obtain ⟨x, rfl, kn, q⟩ := h
  show (b_need_number _).run (spEnds Q) [some x] M
  dsimp only [dSeq, dEnd, dSNil, dPass, dBreak, dCont, dNever, dDrop, dRet, dRetN, dIfS, dName, dAsg, dSet, dPar2, dPar3, dGNil, dGCons, dGTup, dSubL, dWhile, dFor, dItSeq, dItR1, dItR2, dItEnum, dVar, dC, dNil, dCons, dTup, dLst, dOp, dUn, dTB, dAndT, dOrT, dNotT, dAndV, dOrV, dNotV, dIf, dChain, dSlice, dNoP, dPart, dCB, dIsi, dCall, dRaise, oEq, oNe, oLt, oLe, oGt, oGe, oIsN, r_add_ii, r_add_ss, r_add_tt, r_add_r, r_add_l, r_add_ib, r_add_bi, r_add_bb, r_sub_ii, r_sub_bb, r_mul_ii, r_mul_si, r_fdiv_ii, r_mod_ii, r_pow_ii, r_neg_i, r_eq_ii, r_eq_ss, r_ord_ii, r_ix_t, r_ix_l, r_ix_r, r_ix_s, r_len_s, r_len_t, r_len_l, r_len_r, r_abs_i, r_int_i, r_int_b, r_list, r_tuple, r_repr_s, spEnds, wkX, List.getElem?_cons_zero, List.getElem?_cons_succ, List.set_cons_zero, List.set_cons_succ, b_need_number]
  refine .go ⟨x, rfl, kn, ?_⟩
  cases h : isNum x
  · rw [h] at q
    exact .here q
  · rw [h] at q
    exact .here (.here q)
theorem p_number_of (ds : List D) (M : DM) (Q : D → DM → Prop) (X : XD) (hl : ds.length = 2) (h : S_number_of ds M Q X) : (b_number_of (wkX X)).run (spEnds Q) (dStart 2 ds) M := by
  obtain ⟨n, d, rfl, kn, kd, q⟩ := h
  show (b_number_of _).run (spEnds Q) [some n, some d] M
  dsimp only [dSeq, dEnd, dSNil, dPass, dBreak, dCont, dNever, dDrop, dRet, dRetN, dIfS, dName, dAsg, dSet, dPar2, dPar3, dGNil, dGCons, dGTup, dSubL, dWhile, dFor, dItSeq, dItR1, dItR2, dItEnum, dVar, dC, dNil, dCons, dTup, dLst, dOp, dUn, dTB, dAndT, dOrT, dNotT, dAndV, dOrV, dNotV, dIf, dChain, dSlice, dNoP, dPart, dCB, dIsi, dCall, dRaise, oEq, oNe, oLt, oLe, oGt, oGe, oIsN, r_add_ii, r_add_ss, r_add_tt, r_add_r, r_add_l, r_add_ib, r_add_bi, r_add_bb, r_sub_ii, r_sub_bb, r_mul_ii, r_mul_si, r_fdiv_ii, r_mod_ii, r_pow_ii, r_neg_i, r_eq_ii, r_eq_ss, r_ord_ii, r_ix_t, r_ix_l, r_ix_r, r_ix_s, r_len_s, r_len_t, r_len_l, r_len_r, r_abs_i, r_int_i, r_int_b, r_list, r_tuple, r_repr_s, spEnds, wkX, List.getElem?_cons_zero, List.getElem?_cons_succ, List.set_cons_zero, List.set_cons_succ, b_number_of]
  refine .go ⟨n, rfl, kn, ?_⟩
  cases n with
  | int n =>
    refine .here (.go ⟨d, rfl, kd, ?_⟩)
    cases d with
    | int d =>
      dsimp only at q
      refine bcase_f (by rfl) ?_
      dsimp only [dSeq, dEnd, dSNil, dPass, dBreak, dCont, dNever, dDrop, dRet, dRetN, dIfS, dName, dAsg, dSet, dPar2, dPar3, dGNil, dGCons, dGTup, dSubL, dWhile, dFor, dItSeq, dItR1, dItR2, dItEnum, dVar, dC, dNil, dCons, dTup, dLst, dOp, dUn, dTB, dAndT, dOrT, dNotT, dAndV, dOrV, dNotV, dIf, dChain, dSlice, dNoP, dPart, dCB, dIsi, dCall, dRaise, oEq, oNe, oLt, oLe, oGt, oGe, oIsN, r_add_ii, r_add_ss, r_add_tt, r_add_r, r_add_l, r_add_ib, r_add_bi, r_add_bb, r_sub_ii, r_sub_bb, r_mul_ii, r_mul_si, r_fdiv_ii, r_mod_ii, r_pow_ii, r_neg_i, r_eq_ii, r_eq_ss, r_ord_ii, r_ix_t, r_ix_l, r_ix_r, r_ix_s, r_len_s, r_len_t, r_len_l, r_len_r, r_abs_i, r_int_i, r_int_b, r_list, r_tuple, r_repr_s, spEnds, wkX, List.getElem?_cons_zero, List.getElem?_cons_succ, List.set_cons_zero, List.set_cons_succ]
      by_cases e : d < 1
      · rw [decide_eq_true e] at q ⊢
        exact .here q
      · rw [decide_eq_false e] at q ⊢
        exact .here (.go ⟨n, d, rfl, by omega, q.1, .here q.2⟩)
    | _ => exact .here q
  | _ => exact .here q
theorem p_raw_plus (ds : List D) (M : DM) (Q : D → DM → Prop) (X : XD) (hl : ds.length = 2) (h : S_raw_plus ds M Q X) : (b_raw_plus (wkX X)).run (spEnds Q) (dStart 2 ds) M := by
  obtain ⟨a, b, c, d, rfl, hb, hd, sa, sb, sc, sd, q⟩ := h
  show (b_raw_plus _).run (spEnds Q) [some (.tup [.int a, .int b]), some (.tup [.int c, .int d])] M
  dsimp only [dSeq, dEnd, dSNil, dPass, dBreak, dCont, dNever, dDrop, dRet, dRetN, dIfS, dName, dAsg, dSet, dPar2, dPar3, dGNil, dGCons, dGTup, dSubL, dWhile, dFor, dItSeq, dItR1, dItR2, dItEnum, dVar, dC, dNil, dCons, dTup, dLst, dOp, dUn, dTB, dAndT, dOrT, dNotT, dAndV, dOrV, dNotV, dIf, dChain, dSlice, dNoP, dPart, dCB, dIsi, dCall, dRaise, oEq, oNe, oLt, oLe, oGt, oGe, oIsN, r_add_ii, r_add_ss, r_add_tt, r_add_r, r_add_l, r_add_ib, r_add_bi, r_add_bb, r_sub_ii, r_sub_bb, r_mul_ii, r_mul_si, r_fdiv_ii, r_mod_ii, r_pow_ii, r_neg_i, r_eq_ii, r_eq_ss, r_ord_ii, r_ix_t, r_ix_l, r_ix_r, r_ix_s, r_len_s, r_len_t, r_len_l, r_len_r, r_abs_i, r_int_i, r_int_b, r_list, r_tuple, r_repr_s, spEnds, wkX, List.getElem?_cons_zero, List.getElem?_cons_succ, List.set_cons_zero, List.set_cons_succ, b_raw_plus]
  refine ⟨_, _, rfl, rfl, _, _, rfl, rfl, mulok sa sd (by decide) (by decide) (by decide), ?_⟩
  refine ⟨_, _, rfl, rfl, _, _, rfl, rfl, mulok sc sb (by decide) (by decide) (by decide), ?_⟩
  refine ⟨_, _, rfl, rfl, _, _, rfl, rfl, mulok sb sd (by decide) (by decide) (by decide), ?_⟩
  exact .go ⟨_, _, rfl, Int.mul_pos hb hd, (sb.mul sd).mono (by decide), .here q⟩
theorem p_raw_minus (ds : List D) (M : DM) (Q : D → DM → Prop) (X : XD) (hl : ds.length = 2) (h : S_raw_minus ds M Q X) : (b_raw_minus (wkX X)).run (spEnds Q) (dStart 2 ds) M := by
  obtain ⟨a, b, c, d, rfl, hb, hd, sa, sb, sc, sd, q⟩ := h
  show (b_raw_minus _).run (spEnds Q) [some (.tup [.int a, .int b]), some (.tup [.int c, .int d])] M
  dsimp only [dSeq, dEnd, dSNil, dPass, dBreak, dCont, dNever, dDrop, dRet, dRetN, dIfS, dName, dAsg, dSet, dPar2, dPar3, dGNil, dGCons, dGTup, dSubL, dWhile, dFor, dItSeq, dItR1, dItR2, dItEnum, dVar, dC, dNil, dCons, dTup, dLst, dOp, dUn, dTB, dAndT, dOrT, dNotT, dAndV, dOrV, dNotV, dIf, dChain, dSlice, dNoP, dPart, dCB, dIsi, dCall, dRaise, oEq, oNe, oLt, oLe, oGt, oGe, oIsN, r_add_ii, r_add_ss, r_add_tt, r_add_r, r_add_l, r_add_ib, r_add_bi, r_add_bb, r_sub_ii, r_sub_bb, r_mul_ii, r_mul_si, r_fdiv_ii, r_mod_ii, r_pow_ii, r_neg_i, r_eq_ii, r_eq_ss, r_ord_ii, r_ix_t, r_ix_l, r_ix_r, r_ix_s, r_len_s, r_len_t, r_len_l, r_len_r, r_abs_i, r_int_i, r_int_b, r_list, r_tuple, r_repr_s, spEnds, wkX, List.getElem?_cons_zero, List.getElem?_cons_succ, List.set_cons_zero, List.set_cons_succ, b_raw_minus]
  refine ⟨_, _, rfl, rfl, _, _, rfl, rfl, mulok sa sd (by decide) (by decide) (by decide), ?_⟩
  refine ⟨_, _, rfl, rfl, _, _, rfl, rfl, mulok sc sb (by decide) (by decide) (by decide), ?_⟩
  refine ⟨_, _, rfl, rfl, _, _, rfl, rfl, mulok sb sd (by decide) (by decide) (by decide), ?_⟩
  exact .go ⟨_, _, rfl, Int.mul_pos hb hd, (sb.mul sd).mono (by decide), .here q⟩
theorem p_raw_compared (ds : List D) (M : DM) (Q : D → DM → Prop) (X : XD) (hl : ds.length = 2) (h : S_raw_compared ds M Q X) : (b_raw_compared (wkX X)).run (spEnds Q) (dStart 4 ds) M := by
  obtain ⟨a, b, c, d, rfl, sa, sb, sc, sd, q⟩ := h
  show (b_raw_compared _).run (spEnds Q) [some (.tup [.int a, .int b]), some (.tup [.int c, .int d]), none, none] M
  dsimp only [dSeq, dEnd, dSNil, dPass, dBreak, dCont, dNever, dDrop, dRet, dRetN, dIfS, dName, dAsg, dSet, dPar2, dPar3, dGNil, dGCons, dGTup, dSubL, dWhile, dFor, dItSeq, dItR1, dItR2, dItEnum, dVar, dC, dNil, dCons, dTup, dLst, dOp, dUn, dTB, dAndT, dOrT, dNotT, dAndV, dOrV, dNotV, dIf, dChain, dSlice, dNoP, dPart, dCB, dIsi, dCall, dRaise, oEq, oNe, oLt, oLe, oGt, oGe, oIsN, r_add_ii, r_add_ss, r_add_tt, r_add_r, r_add_l, r_add_ib, r_add_bi, r_add_bb, r_sub_ii, r_sub_bb, r_mul_ii, r_mul_si, r_fdiv_ii, r_mod_ii, r_pow_ii, r_neg_i, r_eq_ii, r_eq_ss, r_ord_ii, r_ix_t, r_ix_l, r_ix_r, r_ix_s, r_len_s, r_len_t, r_len_l, r_len_r, r_abs_i, r_int_i, r_int_b, r_list, r_tuple, r_repr_s, spEnds, wkX, List.getElem?_cons_zero, List.getElem?_cons_succ, List.set_cons_zero, List.set_cons_succ, b_raw_compared]
  refine ⟨_, _, rfl, rfl, _, _, rfl, rfl, mulok sa sd (by decide) (by decide) (by decide), ?_⟩
  refine ⟨_, _, rfl, rfl, _, _, rfl, rfl, mulok sc sb (by decide) (by decide) (by decide), ?_⟩
  exact .here (.here q)
theorem num_parts {x : D} (h : isNum x = true) : ∃ a b : Int, x = .tup [.int a, .int b] ∧ 0 < b ∧ Nat.gcd a.natAbs b.natAbs = 1 := by
  unfold isNum at h
  split at h
  · rename_i n d
    rw [Bool.and_eq_true] at h
    exact ⟨n, d, rfl, by have := of_decide_eq_true h.1; omega, of_decide_eq_true h.2⟩
  · cases h
theorem p_plus (ds : List D) (M : DM) (Q : D → DM → Prop) (X : XD) (hl : ds.length = 2) (h : S_plus ds M Q X) : (b_plus (wkX X)).run (spEnds Q) (dStart 2 ds) M := by
  obtain ⟨x, y, rfl, kx, q⟩ := h
  show (b_plus _).run (spEnds Q) [some x, some y] M
  dsimp only [dSeq, dEnd, dSNil, dPass, dBreak, dCont, dNever, dDrop, dRet, dRetN, dIfS, dName, dAsg, dSet, dPar2, dPar3, dGNil, dGCons, dGTup, dSubL, dWhile, dFor, dItSeq, dItR1, dItR2, dItEnum, dVar, dC, dNil, dCons, dTup, dLst, dOp, dUn, dTB, dAndT, dOrT, dNotT, dAndV, dOrV, dNotV, dIf, dChain, dSlice, dNoP, dPart, dCB, dIsi, dCall, dRaise, oEq, oNe, oLt, oLe, oGt, oGe, oIsN, r_add_ii, r_add_ss, r_add_tt, r_add_r, r_add_l, r_add_ib, r_add_bi, r_add_bb, r_sub_ii, r_sub_bb, r_mul_ii, r_mul_si, r_fdiv_ii, r_mod_ii, r_pow_ii, r_neg_i, r_eq_ii, r_eq_ss, r_ord_ii, r_ix_t, r_ix_l, r_ix_r, r_ix_s, r_len_s, r_len_t, r_len_l, r_len_r, r_abs_i, r_int_i, r_int_b, r_list, r_tuple, r_repr_s, spEnds, wkX, List.getElem?_cons_zero, List.getElem?_cons_succ, List.set_cons_zero, List.set_cons_succ, b_plus]
  refine .go ⟨x, rfl, kx, ?_⟩
  cases hx : isNum x
  · rw [hx] at q; exact .here q
  · rw [hx] at q
    refine .here (.go ⟨y, rfl, q.1, ?_⟩)
    cases hy : isNum y
    · have q := q.2; rw [hy] at q; exact .here q
    · have q := q.2; rw [hy] at q
      obtain ⟨a, b, c, d, rfl, rfl, sa, sb, sc, sd, q⟩ := q
      obtain ⟨_, _, e, hb, _⟩ := num_parts hx
      cases e
      obtain ⟨_, _, e, hd, _⟩ := num_parts hy
      cases e
      exact .here (.go ⟨a, b, c, d, rfl, hb, hd, sa, sb, sc, sd, .here q⟩)
theorem p_minus (ds : List D) (M : DM) (Q : D → DM → Prop) (X : XD) (hl : ds.length = 2) (h : S_minus ds M Q X) : (b_minus (wkX X)).run (spEnds Q) (dStart 2 ds) M := by
  obtain ⟨x, y, rfl, kx, q⟩ := h
  show (b_minus _).run (spEnds Q) [some x, some y] M
  dsimp only [dSeq, dEnd, dSNil, dPass, dBreak, dCont, dNever, dDrop, dRet, dRetN, dIfS, dName, dAsg, dSet, dPar2, dPar3, dGNil, dGCons, dGTup, dSubL, dWhile, dFor, dItSeq, dItR1, dItR2, dItEnum, dVar, dC, dNil, dCons, dTup, dLst, dOp, dUn, dTB, dAndT, dOrT, dNotT, dAndV, dOrV, dNotV, dIf, dChain, dSlice, dNoP, dPart, dCB, dIsi, dCall, dRaise, oEq, oNe, oLt, oLe, oGt, oGe, oIsN, r_add_ii, r_add_ss, r_add_tt, r_add_r, r_add_l, r_add_ib, r_add_bi, r_add_bb, r_sub_ii, r_sub_bb, r_mul_ii, r_mul_si, r_fdiv_ii, r_mod_ii, r_pow_ii, r_neg_i, r_eq_ii, r_eq_ss, r_ord_ii, r_ix_t, r_ix_l, r_ix_r, r_ix_s, r_len_s, r_len_t, r_len_l, r_len_r, r_abs_i, r_int_i, r_int_b, r_list, r_tuple, r_repr_s, spEnds, wkX, List.getElem?_cons_zero, List.getElem?_cons_succ, List.set_cons_zero, List.set_cons_succ, b_minus]
  refine .go ⟨x, rfl, kx, ?_⟩
  cases hx : isNum x
  · rw [hx] at q; exact .here q
  · rw [hx] at q
    refine .here (.go ⟨y, rfl, q.1, ?_⟩)
    cases hy : isNum y
    · have q := q.2; rw [hy] at q; exact .here q
    · have q := q.2; rw [hy] at q
      obtain ⟨a, b, c, d, rfl, rfl, sa, sb, sc, sd, q⟩ := q
      obtain ⟨_, _, e, hb, _⟩ := num_parts hx
      cases e
      obtain ⟨_, _, e, hd, _⟩ := num_parts hy
      cases e
      exact .here (.go ⟨a, b, c, d, rfl, hb, hd, sa, sb, sc, sd, .here q⟩)
theorem p_compared (ds : List D) (M : DM) (Q : D → DM → Prop) (X : XD) (hl : ds.length = 2) (h : S_compared ds M Q X) : (b_compared (wkX X)).run (spEnds Q) (dStart 2 ds) M := by
  obtain ⟨x, y, rfl, kx, q⟩ := h
  show (b_compared _).run (spEnds Q) [some x, some y] M
  dsimp only [dSeq, dEnd, dSNil, dPass, dBreak, dCont, dNever, dDrop, dRet, dRetN, dIfS, dName, dAsg, dSet, dPar2, dPar3, dGNil, dGCons, dGTup, dSubL, dWhile, dFor, dItSeq, dItR1, dItR2, dItEnum, dVar, dC, dNil, dCons, dTup, dLst, dOp, dUn, dTB, dAndT, dOrT, dNotT, dAndV, dOrV, dNotV, dIf, dChain, dSlice, dNoP, dPart, dCB, dIsi, dCall, dRaise, oEq, oNe, oLt, oLe, oGt, oGe, oIsN, r_add_ii, r_add_ss, r_add_tt, r_add_r, r_add_l, r_add_ib, r_add_bi, r_add_bb, r_sub_ii, r_sub_bb, r_mul_ii, r_mul_si, r_fdiv_ii, r_mod_ii, r_pow_ii, r_neg_i, r_eq_ii, r_eq_ss, r_ord_ii, r_ix_t, r_ix_l, r_ix_r, r_ix_s, r_len_s, r_len_t, r_len_l, r_len_r, r_abs_i, r_int_i, r_int_b, r_list, r_tuple, r_repr_s, spEnds, wkX, List.getElem?_cons_zero, List.getElem?_cons_succ, List.set_cons_zero, List.set_cons_succ, b_compared]
  refine .go ⟨x, rfl, kx, ?_⟩
  cases hx : isNum x
  · rw [hx] at q; exact .here q
  · rw [hx] at q
    refine .here (.go ⟨y, rfl, q.1, ?_⟩)
    cases hy : isNum y
    · have q := q.2; rw [hy] at q; exact .here q
    · have q := q.2; rw [hy] at q
      obtain ⟨a, b, c, d, rfl, rfl, sa, sb, sc, sd, q⟩ := q
      obtain ⟨_, _, e, hb, _⟩ := num_parts hx
      cases e
      obtain ⟨_, _, e, hd, _⟩ := num_parts hy
      cases e
      exact .here (.go ⟨a, b, c, d, rfl, sa, sb, sc, sd, .here q⟩)
end LD

/-! LD7: the pen -/
namespace LD
open PySem PySem.Spec PyProof.Rows L2

def penO (n : Nat) (o : MO) : Prop := ∃ (cs : List Int) (k rest : Nat), o = .lst [.lst (cs.map .int), .int k, .int rest] ∧ k ≤ n
/-- a pen at p, at most n cells on -/
def Pen (M : DM) (p : Addr) (n : Nat) : Prop := ∃ o, M p = some o ∧ penO n o
theorem Pen.mono {M : DM} {p : Addr} {n m : Nat} (h : Pen M p n) (e : n ≤ m) : Pen M p m := by
  obtain ⟨o, h1, cs, k, r, h2, h3⟩ := h
  exact ⟨o, h1, cs, k, r, h2, by omega⟩
theorem Pen.put {M : DM} {p q : Addr} {n : Nat} {o : MO} (h : Pen M p n) (e : M q = none) : Pen (put M q o) p n := by
  obtain ⟨u, h1, h2⟩ := h
  exact ⟨u, by rw [put_ne (fun z => by rw [z, e] at h1; cases h1)]; exact h1, h2⟩
theorem Pen.now {M : DM} {p : Addr} {n : Nat} {o : MO} (h : penO n o) : Pen (LD.put M p o) p n := ⟨o, put_same, h⟩
theorem Pen.ne {M : DM} {p q : Addr} {n : Nat} (h : Pen M p n) (e : M q = none) : q ≠ p := fun z => by
  obtain ⟨u, h1, h2⟩ := h
  rw [← z, e] at h1; cases h1

abbrev S_law_spread : DSp := fun ds M Q X => ∃ (c : Int) (n : Nat), ds = [.int c, .int n] ∧ n < 1000000 ∧ ∀ r : Nat, Q (.int r) M
abbrev S_law_open : DSp := fun ds M Q X => ∃ ns : List Int, ds = [.lst (ns.map D.int)] ∧ ns.length ≤ 63 ∧ ∀ p o, M p = none → penO 0 o → Q (.ref p) (put M p o)
abbrev S_law_take : DSp := fun ds M Q X => ∃ (p : Addr) (m : Int) (n : Nat), ds = [.ref p, .int m] ∧ 0 < m ∧ Sm 9000 m ∧ Pen M p n ∧ n < 1000000 ∧ ∀ r o, 0 ≤ r → r < m → penO (n + 1) o → Q (.int r) (put M p o)
abbrev S_law_x_pick : DSp := fun ds M Q X => ∃ (p : Addr) (x : D) (es : List D) (n : Nat), ds = [.ref p, x] ∧ (∀ M' : DM, (∀ a, a ≠ p → M' a = M a) → isSeq M' x es) ∧ (∀ r, x = .ref r → r ≠ p) ∧ 0 < es.length ∧ es.length < 1000000 ∧ Pen M p n ∧ n < 1000000 ∧ ∀ d o, d ∈ es → penO (n + 1) o → Q d (put M p o)

theorem ixN_in {n : Nat} {k : Int} (h0 : 0 ≤ k) (h1 : k < n) : ixN n k = some k.toNat := by
  unfold ixN
  rw [if_pos h0, if_pos h1]
theorem atI_in {α : Type} {ds : List α} {k : Int} (h0 : 0 ≤ k) (h1 : k < ds.length) : ∃ d, atI ds k = some d ∧ d ∈ ds := by
  unfold atI
  rw [ixN_in h0 h1]
  have h : k.toNat < ds.length := by omega
  exact ⟨ds[k.toNat], List.getElem?_eq_getElem h, List.getElem_mem h⟩
theorem cpow {i j : Int} (h0 : 0 ≤ j) (h1 : j ≤ 1000000) (h : i.natAbs < 2 ^ 64) : CPow i j := ⟨h0, h1, h⟩

def b_law_spread (X : XD) : DS :=
  dSeq (dIfS (dTB (dOp oGe (dVar 0) (dOp oPow (dC (.int 10)) (dC (.int 18))))) (dEnd (dRet (dVar 0))) (dSNil))
  (dSeq (dSet 2 (dLst (dCons (dC (.int 2147483629)) (dCons (dC (.int 2147483587)) (dCons (dC (.int 2147483579)) (dCons (dC (.int 2147483563)) (dCons (dC (.int 2147483549)) (dCons (dC (.int 2147483543)) (dCons (dC (.int 2147483497)) (dCons (dC (.int 2147483489)) (dNil)))))))))))
  (dSeq (dSet 2 (dOp oAdd (dVar 2) (dLst (dCons (dC (.int 2147483477)) (dCons (dC (.int 2147483423)) (dCons (dC (.int 2147483399)) (dCons (dC (.int 2147483353)) (dCons (dC (.int 2147483323)) (dNil)))))))))
  (dSeq (dSet 3 (dOp oMul (dOp oMod (dCB rInt (dCons (dVar 0) (dNil))) (dC (.int 1000000007))) (dOp oAdd (dOp oMul (dC (.int 2)) (dVar 1)) (dC (.int 69069)))))
  (dSeq (dSet 3 (dOp oMod (dCB rInt (dCons (dOp oPow (dOp oAdd (dOp oAdd (dVar 3) (dOp oMul (dVar 1) (dC (.int 40503)))) (dC (.int 977))) (dC (.int 3))) (dNil))) (dOp oIx (dVar 2) (dOp oMod (dCB rInt (dCons (dVar 1) (dNil))) (dC (.int 13))))))
  (dSeq (dSet 4 (dOp oMod (dCB rInt (dCons (dOp oPow (dOp oAdd (dOp oAdd (dOp oMul (dVar 3) (dOp oAdd (dVar 1) (dC (.int 3)))) (dOp oMod (dCB rInt (dCons (dVar 0) (dNil))) (dC (.int 65537)))) (dC (.int 5))) (dC (.int 5))) (dNil))) (dOp oIx (dVar 2) (dOp oMod (dCB rInt (dCons (dOp oAdd (dVar 1) (dC (.int 5))) (dNil))) (dC (.int 13))))))
  (dSeq (dSet 5 (dOp oMod (dCB rInt (dCons (dOp oPow (dOp oAdd (dOp oAdd (dVar 4) (dOp oMod (dCB rInt (dCons (dVar 3) (dNil))) (dC (.int 1009)))) (dVar 1)) (dC (.int 3))) (dNil))) (dOp oIx (dVar 2) (dOp oMod (dCB rInt (dCons (dOp oAdd (dVar 1) (dC (.int 7))) (dNil))) (dC (.int 13))))))
  (dEnd (dRet (dOp oAdd (dOp oMul (dOp oAdd (dOp oMul (dVar 3) (dC (.int 2147483647))) (dVar 4)) (dC (.int 2147483647))) (dVar 5))))))))))
def b_law_open (X : XD) : DS :=
  dSeq (dSet 1 (dCB rList (dCons (dSlice (dVar 0) dNoP (dPart (dC (.int 12)))) (dNil))))
  (dSeq (dFor (dItEnum (dSlice (dVar 0) (dPart (dC (.int 12))) (dPart (dC (.int 63))))) (dGTup (dGCons (dName 2) (dGCons (dName 3) (dGNil)))) (dEnd (dAsg (dOp oAdd (dOp oIx (dVar 1) (dOp oMod (dCB rInt (dCons (dVar 2) (dNil))) (dC (.int 12)))) (dVar 3)) (dSubL (dVar 1) (dOp oMod (dCB rInt (dCons (dVar 2) (dNil))) (dC (.int 12)))))))
  (dEnd (dRet (dLst (dCons (dVar 1) (dCons (dC (.int 0)) (dCons (dC (.int 0)) (dNil))))))))
def b_law_take (X : XD) : DS :=
  dSeq (dIfS (dTB (dOp oLt (dOp oIx (dVar 0) (dC (.int 2))) (dVar 1))) (dSeq (dSet 2 (dOp oIx (dVar 0) (dC (.int 1))))
  (dSeq (dSet 3 (dC (.int 0)))
  (dSeq (dIfS (dTB (dOp oLt (dVar 2) (dCB rLen (dCons (dOp oIx (dVar 0) (dC (.int 0))) (dNil))))) (dEnd (dSet 3 (dOp oIx (dOp oIx (dVar 0) (dC (.int 0))) (dVar 2)))) (dEnd (dIfS (dTB (dOp oGt (dCB rLen (dCons (dOp oIx (dVar 0) (dC (.int 0))) (dNil))) (dC (.int 0)))) (dEnd (dSet 3 (dOp oMod (dCB rInt (dCons (dOp oIx (dOp oIx (dVar 0) (dC (.int 0))) (dOp oMod (dCB rInt (dCons (dOp oAdd (dOp oMul (dVar 2) (dC (.int 5))) (dC (.int 3))) (dNil))) (dCB rLen (dCons (dOp oIx (dVar 0) (dC (.int 0))) (dNil))))) (dNil))) (dOp oAdd (dOp oPow (dC (.int 10)) (dC (.int 17))) (dVar 2))))) (dSNil))))
  (dSeq (dAsg (dOp oAdd (dVar 2) (dC (.int 1))) (dSubL (dVar 0) (dC (.int 1))))
  (dEnd (dAsg (dCall S_law_spread (dCons (dVar 3) (dCons (dVar 2) (dNil))) X) (dSubL (dVar 0) (dC (.int 2))))))))) (dSNil))
  (dSeq (dSet 4 (dOp oMod (dCB rInt (dCons (dOp oIx (dVar 0) (dC (.int 2))) (dNil))) (dVar 1)))
  (dSeq (dAsg (dOp oFdiv (dOp oIx (dVar 0) (dC (.int 2))) (dVar 1)) (dSubL (dVar 0) (dC (.int 2))))
  (dEnd (dRet (dVar 4)))))
def b_law_x_pick (X : XD) : DS :=
  dEnd (dRet (dOp oIx (dVar 1) (dCall S_law_take (dCons (dVar 0) (dCons (dCB rLen (dCons (dVar 1) (dNil))) (dNil))) X)))

def P8 : List D := [.int 2147483629, .int 2147483587, .int 2147483579, .int 2147483563, .int 2147483549, .int 2147483543, .int 2147483497, .int 2147483489]
def P5 : List D := [.int 2147483477, .int 2147483423, .int 2147483399, .int 2147483353, .int 2147483323]
theorem prime_in {k : Int} (h0 : 0 ≤ k) (h1 : k < 13) : ∃ j : Int, atI (P8 ++ P5) k = some (.int j) ∧ 0 < j ∧ j < 2 ^ 31 := by
  obtain ⟨d, h2, h3⟩ := atI_in (ds := P8 ++ P5) h0 h1
  have h : ∀ d ∈ P8 ++ P5, ∃ j : Int, d = .int j ∧ 0 < j ∧ j < 2 ^ 31 := by
    intro d hd
    simp only [P8, P5, List.cons_append, List.nil_append, List.mem_cons, List.not_mem_nil, or_false] at hd
    rcases hd with rfl | rfl | rfl | rfl | rfl | rfl | rfl | rfl | rfl | rfl | rfl | rfl | rfl <;> exact ⟨_, rfl, by decide, by decide⟩
  obtain ⟨j, rfl, h4⟩ := h d h3
  exact ⟨j, h2, h4⟩
theorem p_law_spread (ds : List D) (M : DM) (Q : D → DM → Prop) (X : XD) (hl : ds.length = 2) (h : S_law_spread ds M Q X) : (b_law_spread (wkX X)).run (spEnds Q) (dStart 6 ds) M := by
  obtain ⟨c, n, rfl, hn, q⟩ := h
  show (b_law_spread _).run (spEnds Q) [some (.int c), some (.int n), none, none, none, none] M
  dsimp only [dSeq, dEnd, dSNil, dPass, dBreak, dCont, dNever, dDrop, dRet, dRetN, dIfS, dName, dAsg, dSet, dPar2, dPar3, dGNil, dGCons, dGTup, dSubL, dWhile, dFor, dItSeq, dItR1, dItR2, dItEnum, dVar, dC, dNil, dCons, dTup, dLst, dOp, dUn, dTB, dAndT, dOrT, dNotT, dAndV, dOrV, dNotV, dIf, dChain, dSlice, dNoP, dPart, dCB, dIsi, dCall, dRaise, oEq, oNe, oLt, oLe, oGt, oGe, oIsN, r_add_ii, r_add_ss, r_add_tt, r_add_r, r_add_l, r_add_ib, r_add_bi, r_add_bb, r_sub_ii, r_sub_bb, r_mul_ii, r_mul_si, r_fdiv_ii, r_mod_ii, r_pow_ii, r_neg_i, r_eq_ii, r_eq_ss, r_ord_ii, r_ix_t, r_ix_l, r_ix_r, r_ix_s, r_len_s, r_len_t, r_len_l, r_len_r, r_abs_i, r_int_i, r_int_b, r_list, r_tuple, r_repr_s, spEnds, wkX, List.getElem?_cons_zero, List.getElem?_cons_succ, List.set_cons_zero, List.set_cons_succ, b_law_spread]
  refine ⟨cpow (by decide) (by decide) (by decide), ?_⟩
  by_cases hc : c ≥ 10 ^ (18 : Int).toNat
  · refine bcase_t (decide_eq_true hc) (.here ?_)
    have e : (c.toNat : Int) = c := by
      have : (0 : Int) ≤ 10 ^ (18 : Int).toNat := by decide
      omega
    rw [← e]
    exact q _
  · refine bcase_f (decide_eq_false hc) (.here ⟨szle, fun p1 f1 => .here ⟨szle, fun p2 f2 => ⟨[D.int 2147483629, D.int 2147483587, D.int 2147483579, D.int 2147483563, D.int 2147483549, D.int 2147483543, D.int 2147483497, D.int 2147483489], [D.int 2147483477, D.int 2147483423, D.int 2147483399, D.int 2147483353, D.int 2147483323], ?_⟩⟩⟩)
    have n1 : p1 ≠ p2 := fun z => by rw [← z, put_same] at f2; cases f2
    refine ⟨.inl (by rw [put_ne n1, put_same]), .inl (by rw [put_same]), szle, fun p3 f3 => .here ?_⟩
    have hi : ∀ k : Int, ∃ j : Int, atI (P8 ++ P5) (k % 13) = some (.int j) ∧ 0 < j ∧ j < 2 ^ 31 := fun k => prime_in (by omega) (by omega)
    have hL : isSeq (put (put (put M p1 (.lst [D.int 2147483629, D.int 2147483587, D.int 2147483579, D.int 2147483563, D.int 2147483549, D.int 2147483543, D.int 2147483497, D.int 2147483489])) p2 (.lst [D.int 2147483477, D.int 2147483423, D.int 2147483399, D.int 2147483353, D.int 2147483323])) p3 (.lst ([D.int 2147483629, D.int 2147483587, D.int 2147483579, D.int 2147483563, D.int 2147483549, D.int 2147483543, D.int 2147483497, D.int 2147483489] ++ [D.int 2147483477, D.int 2147483423, D.int 2147483399, D.int 2147483353, D.int 2147483323]))) (.ref p3) (P8 ++ P5) := .inl put_same
    have fin : ∀ r : Nat, Wk (put (put (put M p1 (.lst [D.int 2147483629, D.int 2147483587, D.int 2147483579, D.int 2147483563, D.int 2147483549, D.int 2147483543, D.int 2147483497, D.int 2147483489])) p2 (.lst [D.int 2147483477, D.int 2147483423, D.int 2147483399, D.int 2147483353, D.int 2147483323])) p3 (.lst ([D.int 2147483629, D.int 2147483587, D.int 2147483579, D.int 2147483563, D.int 2147483549, D.int 2147483543, D.int 2147483497, D.int 2147483489] ++ [D.int 2147483477, D.int 2147483423, D.int 2147483399, D.int 2147483353, D.int 2147483323]))) (Q (.int r)) := fun r => .to (((Sub.new f1).trans (Sub.new f2)).trans (Sub.new f3)) (q r)
    generalize put (put (put M p1 (.lst [D.int 2147483629, D.int 2147483587, D.int 2147483579, D.int 2147483563, D.int 2147483549, D.int 2147483543, D.int 2147483497, D.int 2147483489])) p2 (.lst [D.int 2147483477, D.int 2147483423, D.int 2147483399, D.int 2147483353, D.int 2147483323])) p3 (.lst ([D.int 2147483629, D.int 2147483587, D.int 2147483579, D.int 2147483563, D.int 2147483549, D.int 2147483543, D.int 2147483497, D.int 2147483489] ++ [D.int 2147483477, D.int 2147483423, D.int 2147483399, D.int 2147483353, D.int 2147483323])) = M3 at hL fin ⊢
    have b0 : Sm 31 (c % 1000000007) := by unfold Sm; omega
    have b1 : Sm 22 (2 * (n : Int) + 69069) := by unfold Sm; omega
    have c0 : 0 ≤ c % 1000000007 * (2 * (n : Int) + 69069) := Int.mul_nonneg (by omega) (by omega)
    refine ⟨by decide, mulokR (by omega), mulokR (by omega), .here ?_⟩
    have b2 := b0.mul b1
    dsimp only [dSeq, dEnd, dSNil, dPass, dBreak, dCont, dNever, dDrop, dRet, dRetN, dIfS, dName, dAsg, dSet, dPar2, dPar3, dGNil, dGCons, dGTup, dSubL, dWhile, dFor, dItSeq, dItR1, dItR2, dItEnum, dVar, dC, dNil, dCons, dTup, dLst, dOp, dUn, dTB, dAndT, dOrT, dNotT, dAndV, dOrV, dNotV, dIf, dChain, dSlice, dNoP, dPart, dCB, dIsi, dCall, dRaise, oEq, oNe, oLt, oLe, oGt, oGe, oIsN, r_add_ii, r_add_ss, r_add_tt, r_add_r, r_add_l, r_add_ib, r_add_bi, r_add_bb, r_sub_ii, r_sub_bb, r_mul_ii, r_mul_si, r_fdiv_ii, r_mod_ii, r_pow_ii, r_neg_i, r_eq_ii, r_eq_ss, r_ord_ii, r_ix_t, r_ix_l, r_ix_r, r_ix_s, r_len_s, r_len_t, r_len_l, r_len_r, r_abs_i, r_int_i, r_int_b, r_list, r_tuple, r_repr_s, spEnds, wkX, List.getElem?_cons_zero, List.getElem?_cons_succ, List.set_cons_zero, List.set_cons_succ]
    generalize c % 1000000007 * (2 * (n : Int) + 69069) = x1 at b2 c0 ⊢
    unfold Sm at b2
    obtain ⟨j1, a1, k1, l1⟩ := hi n
    refine ⟨mulokR (by decide), cpow (by decide) (by decide) (by omega), by decide, _, _, hL, a1, k1, .here ?_⟩
    dsimp only [dSeq, dEnd, dSNil, dPass, dBreak, dCont, dNever, dDrop, dRet, dRetN, dIfS, dName, dAsg, dSet, dPar2, dPar3, dGNil, dGCons, dGTup, dSubL, dWhile, dFor, dItSeq, dItR1, dItR2, dItEnum, dVar, dC, dNil, dCons, dTup, dLst, dOp, dUn, dTB, dAndT, dOrT, dNotT, dAndV, dOrV, dNotV, dIf, dChain, dSlice, dNoP, dPart, dCB, dIsi, dCall, dRaise, oEq, oNe, oLt, oLe, oGt, oGe, oIsN, r_add_ii, r_add_ss, r_add_tt, r_add_r, r_add_l, r_add_ib, r_add_bi, r_add_bb, r_sub_ii, r_sub_bb, r_mul_ii, r_mul_si, r_fdiv_ii, r_mod_ii, r_pow_ii, r_neg_i, r_eq_ii, r_eq_ss, r_ord_ii, r_ix_t, r_ix_l, r_ix_r, r_ix_s, r_len_s, r_len_t, r_len_l, r_len_r, r_abs_i, r_int_i, r_int_b, r_list, r_tuple, r_repr_s, spEnds, wkX, List.getElem?_cons_zero, List.getElem?_cons_succ, List.set_cons_zero, List.set_cons_succ]
    have c1 := Int.emod_nonneg ((x1 + n * 40503 + 977) ^ (3 : Int).toNat) (show j1 ≠ 0 by omega)
    have d1 := Int.emod_lt_of_pos ((x1 + n * 40503 + 977) ^ (3 : Int).toNat) k1
    generalize (x1 + n * 40503 + 977) ^ (3 : Int).toNat % j1 = x2 at c1 d1 ⊢
    have b3 : Sm 53 (x2 * ((n : Int) + 3)) := Sm.mul (k := 31) (l := 22) (by unfold Sm; omega) (by unfold Sm; omega)
    unfold Sm at b3
    obtain ⟨j2, a2, k2, l2⟩ := hi (n + 5)
    refine ⟨mulokR (by omega), by decide, cpow (by decide) (by decide) (by omega), by decide, _, _, hL, a2, k2, .here ?_⟩
    dsimp only [dSeq, dEnd, dSNil, dPass, dBreak, dCont, dNever, dDrop, dRet, dRetN, dIfS, dName, dAsg, dSet, dPar2, dPar3, dGNil, dGCons, dGTup, dSubL, dWhile, dFor, dItSeq, dItR1, dItR2, dItEnum, dVar, dC, dNil, dCons, dTup, dLst, dOp, dUn, dTB, dAndT, dOrT, dNotT, dAndV, dOrV, dNotV, dIf, dChain, dSlice, dNoP, dPart, dCB, dIsi, dCall, dRaise, oEq, oNe, oLt, oLe, oGt, oGe, oIsN, r_add_ii, r_add_ss, r_add_tt, r_add_r, r_add_l, r_add_ib, r_add_bi, r_add_bb, r_sub_ii, r_sub_bb, r_mul_ii, r_mul_si, r_fdiv_ii, r_mod_ii, r_pow_ii, r_neg_i, r_eq_ii, r_eq_ss, r_ord_ii, r_ix_t, r_ix_l, r_ix_r, r_ix_s, r_len_s, r_len_t, r_len_l, r_len_r, r_abs_i, r_int_i, r_int_b, r_list, r_tuple, r_repr_s, spEnds, wkX, List.getElem?_cons_zero, List.getElem?_cons_succ, List.set_cons_zero, List.set_cons_succ]
    have c2 := Int.emod_nonneg ((x2 * (n + 3) + c % 65537 + 5) ^ (5 : Int).toNat) (show j2 ≠ 0 by omega)
    have d2 := Int.emod_lt_of_pos ((x2 * (n + 3) + c % 65537 + 5) ^ (5 : Int).toNat) k2
    generalize (x2 * (n + 3) + c % 65537 + 5) ^ (5 : Int).toNat % j2 = x3 at c2 d2 ⊢
    obtain ⟨j3, a3, k3, l3⟩ := hi (n + 7)
    refine ⟨by decide, cpow (by decide) (by decide) (by omega), by decide, _, _, hL, a3, k3, .here ?_⟩
    dsimp only [dSeq, dEnd, dSNil, dPass, dBreak, dCont, dNever, dDrop, dRet, dRetN, dIfS, dName, dAsg, dSet, dPar2, dPar3, dGNil, dGCons, dGTup, dSubL, dWhile, dFor, dItSeq, dItR1, dItR2, dItEnum, dVar, dC, dNil, dCons, dTup, dLst, dOp, dUn, dTB, dAndT, dOrT, dNotT, dAndV, dOrV, dNotV, dIf, dChain, dSlice, dNoP, dPart, dCB, dIsi, dCall, dRaise, oEq, oNe, oLt, oLe, oGt, oGe, oIsN, r_add_ii, r_add_ss, r_add_tt, r_add_r, r_add_l, r_add_ib, r_add_bi, r_add_bb, r_sub_ii, r_sub_bb, r_mul_ii, r_mul_si, r_fdiv_ii, r_mod_ii, r_pow_ii, r_neg_i, r_eq_ii, r_eq_ss, r_ord_ii, r_ix_t, r_ix_l, r_ix_r, r_ix_s, r_len_s, r_len_t, r_len_l, r_len_r, r_abs_i, r_int_i, r_int_b, r_list, r_tuple, r_repr_s, spEnds, wkX, List.getElem?_cons_zero, List.getElem?_cons_succ, List.set_cons_zero, List.set_cons_succ]
    have c3 := Int.emod_nonneg ((x3 + x2 % 1009 + n) ^ (3 : Int).toNat) (show j3 ≠ 0 by omega)
    generalize (x3 + x2 % 1009 + n) ^ (3 : Int).toNat % j3 = x4 at c3 ⊢
    refine ⟨mulokR (by decide), mulokR (by decide), ?_⟩
    have e : ((((x2 * 2147483647 + x3) * 2147483647 + x4).toNat : Nat) : Int) = (x2 * 2147483647 + x3) * 2147483647 + x4 := by omega
    rw [← e]
    exact fin _

theorem Sub.put2 {M M' : DM} (h : Sub M M') (p : Addr) (o : MO) : Sub (put M p o) (put M' p o) := fun a u e => by
  by_cases ha : a = p
  · subst ha; rw [put_same] at e ⊢; exact e
  · rw [put_ne ha] at e ⊢; exact h a u e
theorem Sub.out {M M' : DM} (h : Sub M M') {p : Addr} {o : MO} (e : M p = none) : Sub M (put M' p o) := fun a u e2 => by
  rw [put_ne (fun z => by rw [z, e] at e2; cases e2)]; exact h a u e2
theorem Sub.none {M M' : DM} (h : Sub M M') {p : Addr} (e : M' p = none) : M p = none := by
  cases q : M p with
  | none => rfl
  | some o => rw [h p o q] at e; cases e
theorem open_loop {M0 : DM} {E : DEnds} {p2 p3 : Addr} {x0 : Option D} {ds3 : List D} (hne : p2 ≠ p3) (hM0 : M0 p2 = none) (fin : ∀ (cs : List Int) (M : DM) (s2 s3 : Option D), M p2 = some (.lst (cs.map .int)) → Sub M0 M → E.nx [x0, some (.ref p2), s2, s3] M) :
    ∀ (es : List Int) (k : Nat) (cs : List Int) (M : DM) (s2 s3 : Option D), (es ≠ [] → cs.length = 12) → M p2 = some (.lst (cs.map .int)) → isL M (.ref p3) ds3 → Sub M0 M →
      forRun (dGTup (dGCons (dName 2) (dGCons (dName 3) (dGNil)))) (dEnd (dAsg (dOp oAdd (dOp oIx (dVar 1) (dOp oMod (dCB rInt (dCons (dVar 2) (dNil))) (dC (.int 12)))) (dVar 3)) (dSubL (dVar 1) (dOp oMod (dCB rInt (dCons (dVar 2) (dNil))) (dC (.int 12))))))
        E (fun M => isL M (.ref p3) ds3) (enumD k (es.map D.int)) [x0, some (.ref p2), s2, s3] M := by
  intro es
  induction es with
  | nil =>
    intro k cs M s2 s3 _ h1 h2 h3
    exact ⟨h2, fin cs M s2 s3 h1 h3⟩
  | cons e es ih =>
    intro k cs M s2 s3 h0 h1 h2 h3
    have hl := h0 (by simp)
    have i0 : 0 ≤ (k : Int) % 12 := by omega
    have i1 : (k : Int) % 12 < ((cs.map D.int).length : Int) := by rw [List.length_map, hl]; omega
    obtain ⟨d, a1, a2⟩ := atI_in i0 i1
    rw [List.mem_map] at a2
    obtain ⟨c, _, rfl⟩ := a2
    rw [List.map_cons, enumD, forRun]
    dsimp only [dSeq, dEnd, dSNil, dPass, dBreak, dCont, dNever, dDrop, dRet, dRetN, dIfS, dName, dAsg, dSet, dPar2, dPar3, dGNil, dGCons, dGTup, dSubL, dWhile, dFor, dItSeq, dItR1, dItR2, dItEnum, dVar, dC, dNil, dCons, dTup, dLst, dOp, dUn, dTB, dAndT, dOrT, dNotT, dAndV, dOrV, dNotV, dIf, dChain, dSlice, dNoP, dPart, dCB, dIsi, dCall, dRaise, oEq, oNe, oLt, oLe, oGt, oGe, oIsN, r_add_ii, r_add_ss, r_add_tt, r_add_r, r_add_l, r_add_ib, r_add_bi, r_add_bb, r_sub_ii, r_sub_bb, r_mul_ii, r_mul_si, r_fdiv_ii, r_mod_ii, r_pow_ii, r_neg_i, r_eq_ii, r_eq_ss, r_ord_ii, r_ix_t, r_ix_l, r_ix_r, r_ix_s, r_len_s, r_len_t, r_len_l, r_len_r, r_abs_i, r_int_i, r_int_b, r_list, r_tuple, r_repr_s, spEnds, wkX, List.getElem?_cons_zero, List.getElem?_cons_succ, List.set_cons_zero, List.set_cons_succ]
    refine ⟨h2, by decide, _, _, .inl h1, a1, by decide, _, _, h1, ixN_in i0 i1, .here ?_⟩
    rw [← List.map_set]
    refine ih (k + 1) _ _ _ _ (fun _ => by rw [List.length_set]; exact hl) put_same ?_ (h3.out hM0)
    rcases h2 with h2 | h2
    · exact .inl (by rw [put_ne hne.symm]; exact h2)
    · exact .inr (by rw [put_ne hne.symm]; exact h2)
theorem cut_map {f : Int → D} {ns : List Int} {lo hi : Option Int} : cutD (ns.map f) lo hi = (cutD ns lo hi).map f := by
  unfold cutD
  rw [List.length_map, List.map_take, List.map_drop]
theorem p_law_open (ds : List D) (M : DM) (Q : D → DM → Prop) (X : XD) (hl : ds.length = 1) (h : S_law_open ds M Q X) : (b_law_open (wkX X)).run (spEnds Q) (dStart 4 ds) M := by
  obtain ⟨ns, rfl, hn, q⟩ := h
  show (b_law_open _).run (spEnds Q) [some (.lst (ns.map D.int)), none, none, none] M
  dsimp only [b_law_open, dSeq, dFor]
  dsimp only [dSeq, dEnd, dSNil, dPass, dBreak, dCont, dNever, dDrop, dRet, dRetN, dIfS, dName, dAsg, dSet, dPar2, dPar3, dGNil, dGCons, dGTup, dSubL, dWhile, dFor, dItSeq, dItR1, dItR2, dItEnum, dVar, dC, dNil, dCons, dTup, dLst, dOp, dUn, dTB, dAndT, dOrT, dNotT, dAndV, dOrV, dNotV, dIf, dChain, dSlice, dNoP, dPart, dCB, dIsi, dCall, dRaise, oEq, oNe, oLt, oLe, oGt, oGe, oIsN, r_add_ii, r_add_ss, r_add_tt, r_add_r, r_add_l, r_add_ib, r_add_bi, r_add_bb, r_sub_ii, r_sub_bb, r_mul_ii, r_mul_si, r_fdiv_ii, r_mod_ii, r_pow_ii, r_neg_i, r_eq_ii, r_eq_ss, r_ord_ii, r_ix_t, r_ix_l, r_ix_r, r_ix_s, r_len_s, r_len_t, r_len_l, r_len_r, r_abs_i, r_int_i, r_int_b, r_list, r_tuple, r_repr_s, spEnds, wkX, List.getElem?_cons_zero, List.getElem?_cons_succ, List.set_cons_zero, List.set_cons_succ]
  refine ⟨_, rfl, fun p1 f1 => ⟨_, .inl put_same, fun p2 f2 => .here ⟨_, rfl, fun p3 f3 => ⟨_, .inl put_same, ?_⟩⟩⟩⟩
  have n1 : p1 ≠ p2 := fun z => by rw [← z, put_same] at f2; cases f2
  have n2 : p2 ≠ p3 := fun z => by rw [← z, put_same] at f3; cases f3
  have hM0 : M p2 = none := (Sub.new f1).none f2
  rw [cut_map, cut_map]
  have hc : cutD ns (some 12) (some 63) ≠ [] → (cutD ns none (some 12)).length = 12 := by
    intro h
    have h2 : 12 < ns.length := by
      rcases Nat.lt_or_ge 12 ns.length with h3 | h3
      · exact h3
      · exfalso
        apply h
        unfold cutD HT.sIx
        apply List.eq_nil_of_length_eq_zero
        rw [List.length_take, List.length_drop]
        simp
        omega
    unfold cutD HT.sIx
    rw [List.length_take, List.length_drop]
    simp
    omega
  rw [cut_map] at f2 f3
  refine open_loop (M0 := M) (ds3 := (cutD ns (some 12) (some 63)).map D.int) n2 hM0 ?_ _ 0 _ _ _ _ hc ?_ (.inl put_same) (((Sub.new f1).trans (Sub.new f2)).trans (Sub.new f3))
  · intro cs M' s2 s3 h1 h2
    refine .frz 1 h1 rfl (.here ?_)
    dsimp only [dSeq, dEnd, dSNil, dPass, dBreak, dCont, dNever, dDrop, dRet, dRetN, dIfS, dName, dAsg, dSet, dPar2, dPar3, dGNil, dGCons, dGTup, dSubL, dWhile, dFor, dItSeq, dItR1, dItR2, dItEnum, dVar, dC, dNil, dCons, dTup, dLst, dOp, dUn, dTB, dAndT, dOrT, dNotT, dAndV, dOrV, dNotV, dIf, dChain, dSlice, dNoP, dPart, dCB, dIsi, dCall, dRaise, oEq, oNe, oLt, oLe, oGt, oGe, oIsN, r_add_ii, r_add_ss, r_add_tt, r_add_r, r_add_l, r_add_ib, r_add_bi, r_add_bb, r_sub_ii, r_sub_bb, r_mul_ii, r_mul_si, r_fdiv_ii, r_mod_ii, r_pow_ii, r_neg_i, r_eq_ii, r_eq_ss, r_ord_ii, r_ix_t, r_ix_l, r_ix_r, r_ix_s, r_len_s, r_len_t, r_len_l, r_len_r, r_abs_i, r_int_i, r_int_b, r_list, r_tuple, r_repr_s, spEnds, wkX, List.getElem?_cons_zero, List.getElem?_cons_succ, List.set_cons_zero, List.set_cons_succ]
    refine ⟨szle (n := 3), fun p f4 => ?_⟩
    have h3 : Sub M (put M' p2 (.rol (cs.map D.int))) := h2.out hM0
    exact .to (h3.put2 _ _) (q p _ (h3.none f4) ⟨cs, 0, 0, rfl, Nat.le_refl 0⟩)
  · rw [put_ne n2, put_same]
theorem tailsG {G : Prop} {ι : Type} {P : DSt → DM → Prop} (st : ι → DSt) (mm : ι → DM) (C : ι → Prop) (h1 : (∀ i, C i → Gh (st i) (mm i) P) → G) (h2 : ∀ i, C i → P (st i) (mm i)) : G := h1 fun i c => .here (h2 i c)
theorem at3 {a b c : D} : atI [a, b, c] 0 = some a ∧ atI [a, b, c] 1 = some b ∧ atI [a, b, c] 2 = some c := ⟨rfl, rfl, rfl⟩
theorem p_law_take (ds : List D) (M : DM) (Q : D → DM → Prop) (X : XD) (hl : ds.length = 2) (h : S_law_take ds M Q X) : (b_law_take (wkX X)).run (spEnds Q) (dStart 5 ds) M := by
  obtain ⟨p, m, n, rfl, hm, sm, ⟨o, hp, cs, k, rest, rfl, hk⟩, hn, q⟩ := h
  show (b_law_take _).run (spEnds Q) [some (.ref p), some (.int m), none, none, none] M
  dsimp only [b_law_take, dSeq]
  dsimp only [dSeq, dEnd, dSNil, dPass, dBreak, dCont, dNever, dDrop, dRet, dRetN, dIfS, dName, dAsg, dSet, dPar2, dPar3, dGNil, dGCons, dGTup, dSubL, dWhile, dFor, dItSeq, dItR1, dItR2, dItEnum, dVar, dC, dNil, dCons, dTup, dLst, dOp, dUn, dTB, dAndT, dOrT, dNotT, dAndV, dOrV, dNotV, dIf, dChain, dSlice, dNoP, dPart, dCB, dIsi, dCall, dRaise, oEq, oNe, oLt, oLe, oGt, oGe, oIsN, r_add_ii, r_add_ss, r_add_tt, r_add_r, r_add_l, r_add_ib, r_add_bi, r_add_bb, r_sub_ii, r_sub_bb, r_mul_ii, r_mul_si, r_fdiv_ii, r_mod_ii, r_pow_ii, r_neg_i, r_eq_ii, r_eq_ss, r_ord_ii, r_ix_t, r_ix_l, r_ix_r, r_ix_s, r_len_s, r_len_t, r_len_l, r_len_r, r_abs_i, r_int_i, r_int_b, r_list, r_tuple, r_repr_s, spEnds, wkX, List.getElem?_cons_zero, List.getElem?_cons_succ, List.set_cons_zero, List.set_cons_succ]
  refine ⟨_, _, .inl hp, rfl, ?_⟩
  apply tailsG (ι := DM × Option D × Option D) (fun i => [some (.ref p), some (.int m), i.2.1, i.2.2, none]) (fun i => i.1) fun i => ∃ k1 r1 : Nat, i.1 p = some (.lst [.lst (cs.map .int), .int k1, .int r1]) ∧ k1 ≤ n + 1 ∧ (∀ o, put i.1 p o = put M p o)
  · intro tl
    by_cases hr : (rest : Int) < m
    · refine bcase_t (decide_eq_true hr) ⟨_, _, .inl hp, rfl, .here (.here ?_)⟩
      refine ⟨_, _, .inl hp, rfl, ?_⟩
      dsimp only [dSeq, dEnd, dSNil, dPass, dBreak, dCont, dNever, dDrop, dRet, dRetN, dIfS, dName, dAsg, dSet, dPar2, dPar3, dGNil, dGCons, dGTup, dSubL, dWhile, dFor, dItSeq, dItR1, dItR2, dItEnum, dVar, dC, dNil, dCons, dTup, dLst, dOp, dUn, dTB, dAndT, dOrT, dNotT, dAndV, dOrV, dNotV, dIf, dChain, dSlice, dNoP, dPart, dCB, dIsi, dCall, dRaise, oEq, oNe, oLt, oLe, oGt, oGe, oIsN, r_add_ii, r_add_ss, r_add_tt, r_add_r, r_add_l, r_add_ib, r_add_bi, r_add_bb, r_sub_ii, r_sub_bb, r_mul_ii, r_mul_si, r_fdiv_ii, r_mod_ii, r_pow_ii, r_neg_i, r_eq_ii, r_eq_ss, r_ord_ii, r_ix_t, r_ix_l, r_ix_r, r_ix_s, r_len_s, r_len_t, r_len_l, r_len_r, r_abs_i, r_int_i, r_int_b, r_list, r_tuple, r_repr_s, spEnds, wkX, List.getElem?_cons_zero, List.getElem?_cons_succ, List.set_cons_zero, List.set_cons_succ]
      apply tailsG (ι := Int) (fun c => [some (.ref p), some (.int m), some (.int k), some (.int c), none]) (fun _ => M) fun _ => True
      · intro tail
        by_cases h1 : (k : Int) < ((cs.map D.int).length : Int)
        · obtain ⟨d, a1, a2⟩ := atI_in (ds := cs.map D.int) (k := (k : Int)) (by omega) h1
          rw [List.mem_map] at a2
          obtain ⟨c, _, rfl⟩ := a2
          refine bcase_t (decide_eq_true h1) ⟨_, _, .inl hp, rfl, _, _, rfl, a1, .here ?_⟩
          exact tail c trivial
        · refine bcase_f (decide_eq_false h1) ⟨_, _, .inl hp, rfl, ?_⟩
          dsimp only [dSeq, dEnd, dSNil, dPass, dBreak, dCont, dNever, dDrop, dRet, dRetN, dIfS, dName, dAsg, dSet, dPar2, dPar3, dGNil, dGCons, dGTup, dSubL, dWhile, dFor, dItSeq, dItR1, dItR2, dItEnum, dVar, dC, dNil, dCons, dTup, dLst, dOp, dUn, dTB, dAndT, dOrT, dNotT, dAndV, dOrV, dNotV, dIf, dChain, dSlice, dNoP, dPart, dCB, dIsi, dCall, dRaise, oEq, oNe, oLt, oLe, oGt, oGe, oIsN, r_add_ii, r_add_ss, r_add_tt, r_add_r, r_add_l, r_add_ib, r_add_bi, r_add_bb, r_sub_ii, r_sub_bb, r_mul_ii, r_mul_si, r_fdiv_ii, r_mod_ii, r_pow_ii, r_neg_i, r_eq_ii, r_eq_ss, r_ord_ii, r_ix_t, r_ix_l, r_ix_r, r_ix_s, r_len_s, r_len_t, r_len_l, r_len_r, r_abs_i, r_int_i, r_int_b, r_list, r_tuple, r_repr_s, spEnds, wkX, List.getElem?_cons_zero, List.getElem?_cons_succ, List.set_cons_zero, List.set_cons_succ]
          by_cases h2 : ((cs.map D.int).length : Int) > 0
          · refine bcase_t (decide_eq_true h2) ⟨_, _, .inl hp, rfl, ?_⟩
            refine ⟨mulokR (by decide), _, _, .inl hp, rfl, ?_⟩
            obtain ⟨d, a1, a2⟩ := atI_in (ds := cs.map D.int) (k := ((k : Int) * 5 + 3) % ((cs.map D.int).length : Int)) (Int.emod_nonneg _ (by omega)) (Int.emod_lt_of_pos _ h2)
            rw [List.mem_map] at a2
            obtain ⟨c, _, rfl⟩ := a2
            refine ⟨h2, _, _, rfl, a1, cpow (by decide) (by decide) (by decide), ?_, .here (.here ?_)⟩
            · have : (0 : Int) < 10 ^ (17 : Int).toNat := by decide
              omega
            · generalize c % (10 ^ (17 : Int).toNat + k) = c2
              exact tail c2 trivial
          · refine bcase_f (decide_eq_false h2) (.here ?_)
            exact tail 0 trivial
      · intro c _
        dsimp only [dSeq, dEnd, dSNil, dPass, dBreak, dCont, dNever, dDrop, dRet, dRetN, dIfS, dName, dAsg, dSet, dPar2, dPar3, dGNil, dGCons, dGTup, dSubL, dWhile, dFor, dItSeq, dItR1, dItR2, dItEnum, dVar, dC, dNil, dCons, dTup, dLst, dOp, dUn, dTB, dAndT, dOrT, dNotT, dAndV, dOrV, dNotV, dIf, dChain, dSlice, dNoP, dPart, dCB, dIsi, dCall, dRaise, oEq, oNe, oLt, oLe, oGt, oGe, oIsN, r_add_ii, r_add_ss, r_add_tt, r_add_r, r_add_l, r_add_ib, r_add_bi, r_add_bb, r_sub_ii, r_sub_bb, r_mul_ii, r_mul_si, r_fdiv_ii, r_mod_ii, r_pow_ii, r_neg_i, r_eq_ii, r_eq_ss, r_ord_ii, r_ix_t, r_ix_l, r_ix_r, r_ix_s, r_len_s, r_len_t, r_len_l, r_len_r, r_abs_i, r_int_i, r_int_b, r_list, r_tuple, r_repr_s, spEnds, wkX, List.getElem?_cons_zero, List.getElem?_cons_succ, List.set_cons_zero, List.set_cons_succ]
        refine ⟨_, _, hp, rfl, .here (.go ⟨c, k, rfl, by omega, fun r => ⟨_, _, put_same, rfl, .here ?_⟩⟩)⟩
        rw [put_put]
        exact tl (_, _, _) ⟨k + 1, r, put_same, by omega, fun o => put_put⟩
    · refine bcase_f (decide_eq_false hr) ?_
      exact tl (M, _, _) ⟨k, rest, hp, by omega, fun o => rfl⟩
  · intro ⟨M1, s2, s3⟩ ⟨k1, r1, h1, h2, h3⟩
    dsimp only [dSeq, dEnd, dSNil, dPass, dBreak, dCont, dNever, dDrop, dRet, dRetN, dIfS, dName, dAsg, dSet, dPar2, dPar3, dGNil, dGCons, dGTup, dSubL, dWhile, dFor, dItSeq, dItR1, dItR2, dItEnum, dVar, dC, dNil, dCons, dTup, dLst, dOp, dUn, dTB, dAndT, dOrT, dNotT, dAndV, dOrV, dNotV, dIf, dChain, dSlice, dNoP, dPart, dCB, dIsi, dCall, dRaise, oEq, oNe, oLt, oLe, oGt, oGe, oIsN, r_add_ii, r_add_ss, r_add_tt, r_add_r, r_add_l, r_add_ib, r_add_bi, r_add_bb, r_sub_ii, r_sub_bb, r_mul_ii, r_mul_si, r_fdiv_ii, r_mod_ii, r_pow_ii, r_neg_i, r_eq_ii, r_eq_ss, r_ord_ii, r_ix_t, r_ix_l, r_ix_r, r_ix_s, r_len_s, r_len_t, r_len_l, r_len_r, r_abs_i, r_int_i, r_int_b, r_list, r_tuple, r_repr_s, spEnds, wkX, List.getElem?_cons_zero, List.getElem?_cons_succ, List.set_cons_zero, List.set_cons_succ]
    refine ⟨_, _, .inl h1, rfl, hm, .here ⟨_, _, .inl h1, rfl, cdivw hm sm, _, _, h1, rfl, .here (.here ?_)⟩⟩
    rw [h3]
    have e : ((((r1 : Int) / m).toNat : Nat) : Int) = (r1 : Int) / m := Int.toNat_of_nonneg (Int.ediv_nonneg (by omega) (by omega))
    refine q _ _ (Int.emod_nonneg _ (by omega)) (Int.emod_lt_of_pos _ hm) ⟨cs, k1, ((r1 : Int) / m).toNat, ?_, h2⟩
    rw [e]
    rfl
theorem p_law_x_pick (ds : List D) (M : DM) (Q : D → DM → Prop) (X : XD) (hl : ds.length = 2) (h : S_law_x_pick ds M Q X) : (b_law_x_pick (wkX X)).run (spEnds Q) (dStart 2 ds) M := by
  obtain ⟨p, x, es, n, rfl, hx, hp, h0, hz, pen, hn, q⟩ := h
  show (b_law_x_pick _).run (spEnds Q) [some (.ref p), some x] M
  have hM := hx M fun _ _ => rfl
  have fin : ∀ (r : Int) (o : MO), 0 ≤ r → r < (es.length : Int) → penO (n + 1) o → ∃ d, isSeq (put M p o) x es ∧ atI es r = some d ∧ Wk (put M p o) (Q d) := by
    intro r o g0 g1 po
    obtain ⟨d, a1, a2⟩ := atI_in g0 g1
    exact ⟨d, hx _ (fun a ha => put_ne ha), a1, .here (q d o a2 po)⟩
  have sm : Sm 9000 (es.length : Int) := by
    have : Sm 20 (es.length : Int) := by unfold Sm; omega
    exact this.mono (by decide)
  dsimp only [dSeq, dEnd, dSNil, dPass, dBreak, dCont, dNever, dDrop, dRet, dRetN, dIfS, dName, dAsg, dSet, dPar2, dPar3, dGNil, dGCons, dGTup, dSubL, dWhile, dFor, dItSeq, dItR1, dItR2, dItEnum, dVar, dC, dNil, dCons, dTup, dLst, dOp, dUn, dTB, dAndT, dOrT, dNotT, dAndV, dOrV, dNotV, dIf, dChain, dSlice, dNoP, dPart, dCB, dIsi, dCall, dRaise, oEq, oNe, oLt, oLe, oGt, oGe, oIsN, r_add_ii, r_add_ss, r_add_tt, r_add_r, r_add_l, r_add_ib, r_add_bi, r_add_bb, r_sub_ii, r_sub_bb, r_mul_ii, r_mul_si, r_fdiv_ii, r_mod_ii, r_pow_ii, r_neg_i, r_eq_ii, r_eq_ss, r_ord_ii, r_ix_t, r_ix_l, r_ix_r, r_ix_s, r_len_s, r_len_t, r_len_l, r_len_r, r_abs_i, r_int_i, r_int_b, r_list, r_tuple, r_repr_s, spEnds, wkX, List.getElem?_cons_zero, List.getElem?_cons_succ, List.set_cons_zero, List.set_cons_succ, b_law_x_pick]
  cases x with
  | tup xs =>
    cases (show xs = es from hM)
    refine .go ⟨p, _, n, rfl, by omega, sm, pen, hn, fun r o g0 g1 po => ?_⟩
    obtain ⟨d, b1, b2, b3⟩ := fin r o g0 g1 po
    exact ⟨_, d, b1, b2, b3⟩
  | lst xs =>
    cases (show xs = es from hM)
    refine .go ⟨p, _, n, rfl, by omega, sm, pen, hn, fun r o g0 g1 po => ?_⟩
    obtain ⟨d, b1, b2, b3⟩ := fin r o g0 g1 po
    exact ⟨_, d, b1, b2, b3⟩
  | ref a =>
    refine ⟨es, hM, .go ⟨p, _, n, rfl, by omega, sm, pen, hn, fun r o g0 g1 po => ?_⟩⟩
    obtain ⟨d, b1, b2, b3⟩ := fin r o g0 g1 po
    exact ⟨_, d, b1, b2, b3⟩
  | _ => exact hM.elim
end LD

/-! LF0: readings without addresses: values are plain, lists that change belong to one name -/
namespace LD
open PySem PySem.Spec PyProof.Rows L2

inductive U where
  | non | bl (b : Bool) | int (i : Int) | str (x : Str) | tup (us : List U) | lst (us : List U) | dct (kvs : List (U × U)) | pen
mutual
def U.d (p : Addr) : U → D
  | .non => .non
  | .bl b => .bl b
  | .int i => .int i
  | .str x => .str x
  | .tup us => .tup (Us.d p us)
  | .lst us => .lst (Us.d p us)
  | .dct kvs => .dct (Uk.d p kvs)
  | .pen => .ref p
def Us.d (p : Addr) : List U → List D
  | [] => []
  | u :: us => U.d p u :: Us.d p us
def Uk.d (p : Addr) : List (U × U) → List (D × D)
  | [] => []
  | (k, v) :: kvs => (U.d p k, U.d p v) :: Uk.d p kvs
end
theorem Us.d_map (p : Addr) : ∀ us : List U, Us.d p us = us.map (U.d p)
  | [] => rfl
  | u :: us => by rw [Us.d, List.map_cons, Us.d_map p us]
theorem Uk.d_map (p : Addr) : ∀ us : List (U × U), Uk.d p us = us.map fun kv => (U.d p kv.1, U.d p kv.2)
  | [] => rfl
  | (k, v) :: us => by rw [Uk.d, List.map_cons, Uk.d_map p us]
theorem U.d_tup (p : Addr) (us : List U) : U.d p (.tup us) = .tup (us.map (U.d p)) := by rw [U.d, Us.d_map]
theorem U.d_lst (p : Addr) (us : List U) : U.d p (.lst us) = .lst (us.map (U.d p)) := by rw [U.d, Us.d_map]

/-- what a name holds: a plain value, or a list or a dict that is its own -/
inductive W where
  | v (u : U) | ol (i : Nat) (us : List U) | od (i : Nat) (kvs : List (U × U))
structure FSt where
  v : List (Option W)
  n : Nat
def FSt.set (s : FSt) (i : Nat) (w : Option W) : FSt := ⟨s.v.set i w, s.n⟩
def FSt.pn (s : FSt) (n : Nat) : FSt := ⟨s.v, n⟩
theorem FSt.set_mk {v : List (Option W)} {n i : Nat} {w : Option W} : FSt.set ⟨v, n⟩ i w = ⟨v.set i w, n⟩ := rfl

/-- the pen's place (if there is a pen), and what else stands -/
structure FC where
  p : Addr
  hp : Bool
  M0 : DM
structure Frame (c : FC) (n : Nat) (M : DM) : Prop where
  m0 : ∀ a o, c.M0 a = some o → M a = some o
  pen : c.hp = true → Pen M c.p n
/-- a place that is neither the pen's nor among what stood -/
structure Own (c : FC) (a : Addr) : Prop where
  m0 : c.M0 a = none
  pen : c.hp = true → a ≠ c.p
def DOf (c : FC) (M : DM) (δ : DSt) (i : Nat) (o : MO) (a : Addr) : Prop := δ[i]? = some (some (D.ref a)) ∧ M a = some o ∧ Own c a
def ownO (c : FC) : W → Option (Nat × MO)
  | .v _ => none
  | .ol i us => some (i, .lst (us.map (U.d c.p)))
  | .od i kvs => some (i, .dct (Uk.d c.p kvs))
structure Conc (c : FC) (s : FSt) (δ : DSt) (M : DM) : Prop where
  len : s.v.length = δ.length
  val : ∀ (i : Nat) (u : U), s.v[i]? = some (some (W.v u)) → δ[i]? = some (some (u.d c.p))
  own : ∀ (i : Nat) (w : W) (j : Nat) (o : MO), s.v[i]? = some (some w) → ownO c w = some (j, o) → j = i ∧ ∃ a, DOf c M δ i o a
  inj : ∀ (i j : Nat) (w w' : W) (q q' : Nat × MO) (a : Addr), s.v[i]? = some (some w) → s.v[j]? = some (some w') → ownO c w = some q → ownO c w' = some q' → δ[i]? = some (some (D.ref a)) → δ[j]? = some (some (D.ref a)) → i = j
  fr : Frame c s.n M
  pm0 : c.hp = true ∧ (c.hp = true → c.M0 c.p = none)
/-- a value, as it stands -/
def VRel (c : FC) (δ : DSt) (M : DM) (w : W) (d : D) : Prop := match w with
  | .v u => d = u.d c.p
  | .ol i us => ∃ a, d = .ref a ∧ DOf c M δ i (.lst (us.map (U.d c.p))) a
  | .od i kvs => ∃ a, d = .ref a ∧ DOf c M δ i (.dct (Uk.d c.p kvs)) a
/-- the value still stands so -/
def Still (s : FSt) : W → Prop
  | .v _ => True
  | .ol i us => s.v[i]? = some (some (W.ol i us))
  | .od i kvs => s.v[i]? = some (some (W.od i kvs))
theorem VRel.still {c : FC} {s : FSt} {δ : DSt} {M M' : DM} {w : W} {d : D} (h : VRel c δ M w d) (C : Conc c s δ M') (st : Still s w) : VRel c δ M' w d := by
  cases w with
  | v u => exact h
  | ol i us =>
    obtain ⟨a, e, h1, _⟩ := h
    obtain ⟨_, b, h2, h3⟩ := C.own i _ _ _ st rfl
    rw [h1] at h2
    cases h2
    exact ⟨a, e, h1, h3⟩
  | od i us =>
    obtain ⟨a, e, h1, _⟩ := h
    obtain ⟨_, b, h2, h3⟩ := C.own i _ _ _ st rfl
    rw [h1] at h2
    cases h2
    exact ⟨a, e, h1, h3⟩
theorem Conc.look {c : FC} {s : FSt} {δ : DSt} {M : DM} (C : Conc c s δ M) {i : Nat} {w : W} (h : s.v[i]? = some (some w)) : ∃ d, δ[i]? = some (some d) ∧ VRel c δ M w d := by
  cases w with
  | v u => exact ⟨_, C.val i u h, rfl⟩
  | ol j us =>
    obtain ⟨e, a, h1⟩ := C.own i _ _ _ h rfl
    subst e
    exact ⟨_, h1.1, a, rfl, h1⟩
  | od j us =>
    obtain ⟨e, a, h1⟩ := C.own i _ _ _ h rfl
    subst e
    exact ⟨_, h1.1, a, rfl, h1⟩
theorem Conc.sub {c : FC} {s : FSt} {δ : DSt} {M M' : DM} (C : Conc c s δ M) (h : Sub M M') : Conc c s δ M' :=
  ⟨C.len, C.val, fun i w j o h1 h2 => let ⟨e, a, h3, h4, h5⟩ := C.own i w j o h1 h2; ⟨e, a, h3, h _ _ h4, h5⟩, C.inj, ⟨fun a o e => h _ _ (C.fr.m0 a o e), fun e => let ⟨o, a, b⟩ := C.fr.pen e; ⟨o, h _ _ a, b⟩⟩, C.pm0⟩
/-- a name gets a plain value, or is forgotten -/
theorem Conc.setV {c : FC} {s : FSt} {δ : DSt} {M : DM} (C : Conc c s δ M) (i : Nat) (w : Option U) (d : Option D) (h : ∀ u, w = some u → d = some (u.d c.p)) : Conc c (s.set i (w.map W.v)) (δ.set i d) M := by
  have key : ∀ j x, (s.v.set i (w.map W.v))[j]? = some (some x) → (j = i ∧ i < s.v.length ∧ w.map W.v = some x) ∨ (j ≠ i ∧ s.v[j]? = some (some x)) := fun j x e => by
    by_cases hij : i = j
    · subst hij
      by_cases hl : i < s.v.length
      · rw [List.getElem?_set_self hl] at e
        exact .inl ⟨rfl, hl, Option.some.inj e⟩
      · rw [List.getElem?_eq_none (by simpa using hl)] at e; cases e
    · rw [List.getElem?_set_ne hij] at e
      exact .inr ⟨fun z => hij z.symm, e⟩
  have kd : ∀ j, j ≠ i → (δ.set i d)[j]? = δ[j]? := fun j hj => List.getElem?_set_ne (Ne.symm hj)
  refine ⟨by show (s.v.set i _).length = _; rw [List.length_set, List.length_set]; exact C.len, fun j u e => ?_, fun j x k o e1 e2 => ?_, fun j k x y q q' a e1 e2 e3 e4 e5 e6 => ?_, C.fr, C.pm0⟩
  · rcases key j _ e with ⟨rfl, hl, e⟩ | ⟨hj, e⟩
    · cases w with
      | none => cases e
      | some w =>
        cases e
        rw [List.getElem?_set_self (by rw [← C.len]; exact hl), h _ rfl]
    · rw [kd j hj]; exact C.val j u e
  · rcases key j _ e1 with ⟨rfl, hl, e⟩ | ⟨hj, e⟩
    · cases w with
      | none => cases e
      | some w => cases e; cases e2
    · obtain ⟨z, b, h1, h2, h3⟩ := C.own j x k o e e2
      exact ⟨z, b, by rw [kd j hj]; exact h1, h2, h3⟩
  · have nv : ∀ x, w.map W.v = some x → ownO c x = none := fun x e => by
      cases w with
      | none => cases e
      | some w => cases e; rfl
    rcases key j _ e1 with ⟨_, _, e⟩ | ⟨hj, e⟩
    · rw [nv _ e] at e3; cases e3
    · rcases key k _ e2 with ⟨_, _, e'⟩ | ⟨hk, e'⟩
      · rw [nv _ e'] at e4; cases e4
      · rw [kd j hj] at e5
        rw [kd k hk] at e6
        exact C.inj j k x y q q' a e e' e3 e4 e5 e6
theorem Conc.pn {c : FC} {s : FSt} {δ : DSt} {M : DM} (C : Conc c s δ M) (n : Nat) (M' : DM) (f : Frame c n M') (k : ∀ a o, Own c a → M a = some o → M' a = some o) : Conc c (s.pn n) δ M' :=
  ⟨C.len, C.val, fun i w j o h1 h2 => let ⟨e, a, h3, h4, h5⟩ := C.own i w j o h1 h2; ⟨e, a, h3, k _ _ h5 h4, h5⟩, C.inj, f, C.pm0⟩
/-- a name gets an object of its own -/
theorem Conc.setO {c : FC} {s : FSt} {δ : DSt} {M M' : DM} (C : Conc c s δ M) (i : Nat) {w : W} {o : MO} {a : Addr} (ho : ownO c w = some (i, o)) (ha : M' a = some o) (hf : Own c a) (hs : ∀ b u, b ≠ a → M b = some u → M' b = some u) (hn : M a = none) : Conc c (s.set i (some w)) (δ.set i (some (D.ref a))) M' := by
  have key : ∀ j x, (s.v.set i (some w))[j]? = some (some x) → (j = i ∧ i < s.v.length ∧ w = x) ∨ (j ≠ i ∧ s.v[j]? = some (some x)) := fun j x e => by
    by_cases hij : i = j
    · subst hij
      by_cases hl : i < s.v.length
      · rw [List.getElem?_set_self hl] at e
        exact .inl ⟨rfl, hl, Option.some.inj (Option.some.inj e)⟩
      · rw [List.getElem?_eq_none (by simpa using hl)] at e; cases e
    · rw [List.getElem?_set_ne hij] at e
      exact .inr ⟨fun z => hij z.symm, e⟩
  have kd : ∀ j, j ≠ i → (δ.set i (some (D.ref a)))[j]? = δ[j]? := fun j hj => List.getElem?_set_ne (Ne.symm hj)
  have ki : i < s.v.length → (δ.set i (some (D.ref a)))[i]? = some (some (.ref a)) := fun hl => List.getElem?_set_self (by rw [← C.len]; exact hl)
  have far : ∀ j x q b, s.v[j]? = some (some x) → ownO c x = some q → δ[j]? = some (some (D.ref b)) → b ≠ a := fun j x q b e1 e2 e3 z => by
    obtain ⟨_, b', h1, h2, _⟩ := C.own j x q.1 q.2 e1 e2
    rw [h1] at e3; cases e3
    rw [z, hn] at h2; cases h2
  refine ⟨by show (s.v.set i _).length = _; rw [List.length_set, List.length_set]; exact C.len, fun j u e => ?_, fun j x k u e1 e2 => ?_, fun j k x y q q' b e1 e2 e3 e4 e5 e6 => ?_, ⟨fun b u e => ?_, fun e => ?_⟩, C.pm0⟩
  · rcases key j _ e with ⟨rfl, hl, e⟩ | ⟨hj, e⟩
    · rw [e] at ho; cases ho
    · rw [kd j hj]; exact C.val j u e
  · rcases key j _ e1 with ⟨rfl, hl, e⟩ | ⟨hj, e⟩
    · rw [← e, ho] at e2
      cases e2
      exact ⟨rfl, a, ki hl, ha, hf⟩
    · obtain ⟨z, b, h1, h2, h3⟩ := C.own j x k u e e2
      exact ⟨z, b, by rw [kd j hj]; exact h1, hs _ _ (far j x _ b e e2 h1) h2, h3⟩
  · rcases key j _ e1 with ⟨hj, hl, e⟩ | ⟨hj, e⟩
    · rcases key k _ e2 with ⟨hk, _, e'⟩ | ⟨hk, e'⟩
      · rw [hj, hk]
      · subst hj
        rw [ki hl] at e5; cases e5
        rw [kd k hk] at e6
        exact (far k y _ _ e' e4 e6 rfl).elim
    · rcases key k _ e2 with ⟨hk, hl, e'⟩ | ⟨hk, e'⟩
      · subst hk
        rw [ki hl] at e6; cases e6
        rw [kd j hj] at e5
        exact (far j x _ _ e e3 e5 rfl).elim
      · rw [kd j hj] at e5
        rw [kd k hk] at e6
        exact C.inj j k x y q q' b e e' e3 e4 e5 e6
  · exact hs _ _ (fun z => by rw [z, hf.m0] at e; cases e) (C.fr.m0 b u e)
  · obtain ⟨o', a', b'⟩ := C.fr.pen e
    exact ⟨o', hs _ _ (fun z => hf.pen e z.symm) a', b'⟩
/-- a name's own object is changed -/
theorem Conc.mut {c : FC} {s : FSt} {δ : DSt} {M : DM} (C : Conc c s δ M) {i : Nat} {w w' : W} {o o' : MO} {a : Addr} (hw : s.v[i]? = some (some w)) (ho : ownO c w = some (i, o)) (hd : δ[i]? = some (some (D.ref a))) (ho' : ownO c w' = some (i, o')) : Conc c (s.set i (some w')) δ (put M a o') := by
  obtain ⟨_, b, h1, h2, h3⟩ := C.own i w i o hw ho
  rw [hd] at h1; cases h1
  have hl : i < s.v.length := (List.getElem?_eq_some_iff.mp hw).1
  have key : ∀ j x, (s.v.set i (some w'))[j]? = some (some x) → (j = i ∧ w' = x) ∨ (j ≠ i ∧ s.v[j]? = some (some x)) := fun j x e => by
    by_cases hij : i = j
    · subst hij
      rw [List.getElem?_set_self hl] at e
      exact .inl ⟨rfl, Option.some.inj (Option.some.inj e)⟩
    · rw [List.getElem?_set_ne hij] at e
      exact .inr ⟨fun z => hij z.symm, e⟩
  have far : ∀ j x q b, j ≠ i → s.v[j]? = some (some x) → ownO c x = some q → δ[j]? = some (some (D.ref b)) → b ≠ a := fun j x q b hj e1 e2 e3 z => by
    subst z
    exact hj (C.inj j i x w q (i, o) b e1 hw e2 ho e3 hd)
  refine ⟨by show (s.v.set i _).length = _; rw [List.length_set]; exact C.len, fun j u e => ?_, fun j x k u e1 e2 => ?_, fun j k x y q q' b e1 e2 e3 e4 e5 e6 => ?_, ⟨fun b u e => ?_, fun e => ?_⟩, C.pm0⟩
  · rcases key j _ e with ⟨rfl, e'⟩ | ⟨hj, e⟩
    · rw [e'] at ho'; cases ho'
    · exact C.val j u e
  · rcases key j _ e1 with ⟨rfl, e⟩ | ⟨hj, e⟩
    · rw [← e, ho'] at e2
      cases e2
      exact ⟨rfl, a, hd, put_same, h3⟩
    · obtain ⟨z, b, h1, h4, h5⟩ := C.own j x k u e e2
      exact ⟨z, b, h1, by rw [put_ne (far j x _ b hj e e2 h1)]; exact h4, h5⟩
  · have old : ∀ j x q, (s.v.set i (some w'))[j]? = some (some x) → ownO c x = some q → ∃ y r, s.v[j]? = some (some y) ∧ ownO c y = some r := fun j x q e1 e2 => by
      rcases key j _ e1 with ⟨hj, e⟩ | ⟨hj, e⟩
      · subst hj; exact ⟨w, _, hw, ho⟩
      · exact ⟨x, q, e, e2⟩
    obtain ⟨y1, r1, a1, a2⟩ := old j x q e1 e3
    obtain ⟨y2, r2, b1, b2⟩ := old k y q' e2 e4
    exact C.inj j k y1 y2 r1 r2 b a1 b1 a2 b2 e5 e6
  · rw [put_ne (fun z => by rw [z, h3.m0] at e; cases e)]; exact C.fr.m0 b u e
  · obtain ⟨o2, a', b'⟩ := C.fr.pen e
    exact ⟨o2, by rw [put_ne (fun z => h3.pen e z.symm)]; exact a', b'⟩
theorem Conc.fresh {c : FC} {s : FSt} {δ : DSt} {M : DM} (C : Conc c s δ M) {a : Addr} (h : M a = none) : Own c a := by
  refine ⟨?_, fun hp z => ?_⟩
  · cases e : c.M0 a with
    | none => rfl
    | some o => rw [C.fr.m0 a o e] at h; cases h
  · obtain ⟨o, a', _⟩ := C.fr.pen hp
    rw [z, a'] at h; cases h

/-! ### readings -/
abbrev XF := Str → Nat → Prop
def xfNo : XF := fun _ _ => False
structure FE where
  run : XF → FSt → (W → FSt → Prop) → Prop
  mono : ∀ {X : XF} {s : FSt} {Q Q' : W → FSt → Prop}, run X s Q → (∀ w s', Q w s' → Q' w s') → run X s Q'
structure FT where
  run : XF → FSt → (Bool → FSt → Prop) → Prop
  mono : ∀ {X : XF} {s : FSt} {Q Q' : Bool → FSt → Prop}, run X s Q → (∀ w s', Q w s' → Q' w s') → run X s Q'
/-- a new list -/
structure FN where
  run : XF → FSt → (List U → FSt → Prop) → Prop
  mono : ∀ {X : XF} {s : FSt} {Q Q' : List U → FSt → Prop}, run X s Q → (∀ w s', Q w s' → Q' w s') → run X s Q'
/-- a new dict -/
structure FM where
  run : XF → FSt → (List (U × U) → FSt → Prop) → Prop
  mono : ∀ {X : XF} {s : FSt} {Q Q' : List (U × U) → FSt → Prop}, run X s Q → (∀ w s', Q w s' → Q' w s') → run X s Q'
structure FEnds where
  nx : FSt → Prop
  rt : U → Nat → Prop
  bk : FSt → Prop := fun _ => False
  ct : FSt → Prop := fun _ => False
structure FEnds.Le (E E' : FEnds) : Prop where
  nx : ∀ s, E.nx s → E'.nx s
  rt : ∀ u n, E.rt u n → E'.rt u n
  bk : ∀ s, E.bk s → E'.bk s
  ct : ∀ s, E.ct s → E'.ct s
structure FS where
  run : XF → FEnds → FSt → Prop
  mono : ∀ {X : XF} {E E' : FEnds} {s : FSt}, run X E s → E.Le E' → run X E' s
structure FG where
  run : XF → U → FSt → (FSt → Prop) → Prop
  mono : ∀ {X : XF} {u : U} {s : FSt} {Q Q' : FSt → Prop}, run X u s Q → (∀ s', Q s' → Q' s') → run X u s Q'
/-- arguments -/
structure FA where
  run : XF → FSt → (List W → FSt → Prop) → Prop
  mono : ∀ {X : XF} {s : FSt} {Q Q' : List W → FSt → Prop}, run X s Q → (∀ w s', Q w s' → Q' w s') → run X s Q'
/-- what is walked -/
structure FI where
  run : XF → FSt → (List U → FSt → Prop) → Prop
  mono : ∀ {X : XF} {s : FSt} {Q Q' : List U → FSt → Prop}, run X s Q → (∀ w s', Q w s' → Q' w s') → run X s Q'
/-- a part of a slice -/
structure FP where
  run : XF → FSt → (Option Int → FSt → Prop) → Prop
  mono : ∀ {X : XF} {s : FSt} {Q Q' : Option Int → FSt → Prop}, run X s Q → (∀ w s', Q w s' → Q' w s') → run X s Q'
inductive VRels (c : FC) (δ : DSt) (M : DM) : List W → List D → Prop
  | nil : VRels c δ M [] []
  | cons {w d ws ds} : VRel c δ M w d → VRels c δ M ws ds → VRels c δ M (w :: ws) (d :: ds)

/-- a table of code objects of a def, the name that its lambdas bear -/
abbrev Tb := (Str × Option Str) × Str
/-- what is wanted where errors leave, and the tables that stand -/
structure XE where
  X : XD
  T : List Tb
def XE.no (E : XE) : XE := ⟨xNo, E.T⟩
/-- of the tables those of T alone, nothing raw -/
def someTab (M : DM) (T : List Tb) : DM := fun a => match M a with
  | some (.tab d' q') => if (d', q') ∈ T then some (.tab d' q') else none
  | some (.raw _) => none
  | o => o
theorem someTab_sub {M : DM} {T : List Tb} : Sub (someTab M T) M := fun a o e => by
  unfold someTab at e
  split at e
  · rename_i d' q' h
    split at e
    · cases e; exact h
    · cases e
  · cases e
  · exact e
theorem someTab_tab {M : DM} {T : List Tb} {a : Addr} {d' : Str × Option Str} {q' : Str} (h : someTab M T a = some (.tab d' q')) : (d', q') ∈ T := by
  unfold someTab at h
  split at h
  · rename_i d2 q2 e
    split at h
    · rename_i hm; cases h; exact hm
    · cases h
  · cases h
  · rename_i o h1 h2
    exact (h1 _ _ h).elim
theorem someTab_keep {M : DM} {T : List Tb} {a : Addr} {o : MO} (h : M a = some o) (n : ∀ d' q', o = .tab d' q' → (d', q') ∈ T) (r : ∀ u, o ≠ .raw u := by intro _ z; cases z) : someTab M T a = some o := by
  unfold someTab
  rw [h]
  cases o with
  | tab d' q' => exact if_pos (n d' q' rfl)
  | raw u => exact (r u rfl).elim
  | _ => rfl
theorem someTab_none {M : DM} {T : List Tb} {a : Addr} (h : M a = none) : someTab M T a = none := by unfold someTab; rw [h]
/-- nothing raw, no other tables (where tables count at all) -/
def Clean (T : List Tb) (M : DM) : Prop := T ≠ [] → ∀ a o, M a = some o → (∀ u, o ≠ .raw u) ∧ ∀ d q, o = .tab d q → (d, q) ∈ T
theorem clean_some {T : List Tb} {M : DM} : Clean T (someTab M T) := fun _ a o h => ⟨fun u z => by
  subst z
  unfold someTab at h
  split at h
  · split at h <;> cases h
  · cases h
  · rename_i o1 h1 h2; exact h2 _ h, fun d q z => by subst z; exact someTab_tab h⟩
theorem clean_same {T : List Tb} {M : DM} (h : Clean T M) (n : T ≠ []) : someTab M T = M := by
  funext a
  cases e : M a with
  | none => exact someTab_none e
  | some o =>
    obtain ⟨h1, h2⟩ := h n a o e
    exact someTab_keep e h2 h1
def HasT (T : List Tb) (c : FC) : Prop := (∀ t ∈ T, ∃ P, c.M0 P = some (.tab t.1 t.2)) ∧ Clean T c.M0
def XLk (c : FC) (F : XF) (X : XE) : Prop := (∀ x n M, Frame c n M → F x n → X.X x M) ∧ HasT X.T c
/-- within a lambda the objects that are known are fewer -/
theorem Conc.tabs {c : FC} {s : FSt} {δ : DSt} {M : DM} (C : Conc c s δ M) (T : List Tb) : Conc ⟨c.p, c.hp, someTab c.M0 T⟩ s δ (someTab M T) := by
  have ow : ∀ w, ownO (⟨c.p, c.hp, someTab c.M0 T⟩ : FC) w = ownO c w := fun w => by cases w <;> rfl
  refine ⟨C.len, C.val, fun i w j o h1 h2 => ?_, fun i j w w' q q' a h1 h2 h3 h4 => C.inj i j w w' q q' a h1 h2 ((ow w).symm.trans h3) ((ow w').symm.trans h4), ⟨fun a o e => ?_, fun e => ?_⟩, ⟨C.pm0.1, fun h => someTab_none (C.pm0.2 h)⟩⟩
  · rw [ow] at h2
    obtain ⟨e, a, g1, g2, g3⟩ := C.own i w j o h1 h2
    refine ⟨e, a, g1, someTab_keep g2 (fun d q z => ?_) (fun u z => ?_), ⟨someTab_none g3.m0, g3.pen⟩⟩
    · subst z; cases w <;> cases h2
    · subst z; cases w <;> cases h2
  · have e : someTab c.M0 T a = some o := e
    have e0 := someTab_sub _ _ e
    refine someTab_keep (C.fr.m0 a o e0) (fun d q z => ?_) (fun u z => ?_)
    · subst z; exact someTab_tab e
    · subst z
      unfold someTab at e
      split at e
      · split at e <;> cases e
      · cases e
      · rename_i o1 h1 h2; exact h2 _ e
  · obtain ⟨o, a, b⟩ := C.fr.pen e
    refine ⟨o, someTab_keep a (fun d q z => ?_) (fun u z => ?_), b⟩
    · obtain ⟨cs, k, r, z2, _⟩ := b; rw [z] at z2; cases z2
    · obtain ⟨cs, k, r, z2, _⟩ := b; rw [z] at z2; cases z2
theorem Conc.clean {c : FC} {s : FSt} {δ : DSt} {M : DM} {T : List Tb} (C : Conc c s δ M) (h : Clean T c.M0) (n : T ≠ []) : Conc c s δ (someTab M T) := by
  have := C.tabs T
  rw [clean_same h n] at this
  exact this
def lFE (X : XE) (t : FE) : DE where
  run δ M Q := ∃ (c : FC) (s : FSt) (F : XF), XLk c F X ∧ Conc c s δ M ∧ t.run F s fun w s' => ∀ d M', Conc c s' δ M' → VRel c δ M' w d → Q d M'
  mono h k := let ⟨c, s, F, h1, h2, h3⟩ := h; ⟨c, s, F, h1, h2, t.mono h3 fun w s' q d M' a b => k _ _ (q d M' a b)⟩
def lFT (X : XE) (t : FT) : DT where
  run δ M Q := ∃ (c : FC) (s : FSt) (F : XF), XLk c F X ∧ Conc c s δ M ∧ t.run F s fun w s' => ∀ M', Conc c s' δ M' → Q w M'
  mono h k := let ⟨c, s, F, h1, h2, h3⟩ := h; ⟨c, s, F, h1, h2, t.mono h3 fun w s' q M' a => k _ _ (q M' a)⟩
def lFA (X : XE) (t : FA) : DA where
  run δ M Q := ∃ (c : FC) (s : FSt) (F : XF), XLk c F X ∧ Conc c s δ M ∧ t.run F s fun ws s' => ∀ ds M', Conc c s' δ M' → VRels c δ M' ws ds → Q ds M'
  mono h k := let ⟨c, s, F, h1, h2, h3⟩ := h; ⟨c, s, F, h1, h2, t.mono h3 fun w s' q ds M' a b => k _ _ (q ds M' a b)⟩
def lFI (X : XE) (t : FI) : DI where
  run δ M Q := ∃ (c : FC) (s : FSt) (F : XF), XLk c F X ∧ Conc c s δ M ∧ t.run F s fun us s' => ∀ M', Conc c s' δ M' → Q (us.map (U.d c.p)) (fun _ => True) M'
  mono h k := let ⟨c, s, F, h1, h2, h3⟩ := h; ⟨c, s, F, h1, h2, t.mono h3 fun w s' q M' a => k _ _ _ (q M' a)⟩
def lFP (X : XE) (t : FP) : DP where
  run δ M Q := ∃ (c : FC) (s : FSt) (F : XF), XLk c F X ∧ Conc c s δ M ∧ t.run F s fun us s' => ∀ M', Conc c s' δ M' → Q us M'
  mono h k := let ⟨c, s, F, h1, h2, h3⟩ := h; ⟨c, s, F, h1, h2, t.mono h3 fun w s' q M' a => k _ _ (q M' a)⟩
def lFN (X : XE) (t : FN) : DE where
  run δ M Q := ∃ (c : FC) (s : FSt) (F : XF), XLk c F X ∧ Conc c s δ M ∧ t.run F s fun us s' => ∀ p M', Conc c s' δ M' → M' p = none → Q (.ref p) (put M' p (.lst (us.map (U.d c.p))))
  mono h k := let ⟨c, s, F, h1, h2, h3⟩ := h; ⟨c, s, F, h1, h2, t.mono h3 fun w s' q p M' a b => k _ _ (q p M' a b)⟩
def lFM (X : XE) (t : FM) : DE where
  run δ M Q := ∃ (c : FC) (s : FSt) (F : XF), XLk c F X ∧ Conc c s δ M ∧ t.run F s fun us s' => ∀ p M', Conc c s' δ M' → M' p = none → Q (.ref p) (put M' p (.dct (Uk.d c.p us)))
  mono h k := let ⟨c, s, F, h1, h2, h3⟩ := h; ⟨c, s, F, h1, h2, t.mono h3 fun w s' q p M' a b => k _ _ (q p M' a b)⟩
structure ELk (c : FC) (F : FEnds) (E : DEnds) : Prop where
  nx : ∀ s δ M, Conc c s δ M → F.nx s → E.nx δ M
  rt : ∀ u n M, Frame c n M → F.rt u n → E.rt (u.d c.p) M
  bk : ∀ s δ M, Conc c s δ M → F.bk s → E.bk δ M
  ct : ∀ s δ M, Conc c s δ M → F.ct s → E.ct δ M
def lFS (X : XE) (t : FS) : DS where
  run E δ M := ∃ (c : FC) (s : FSt) (F : XF) (EF : FEnds), XLk c F X ∧ Conc c s δ M ∧ ELk c EF E ∧ t.run F EF s
  mono h k := let ⟨c, s, F, EF, h1, h2, h3, h4⟩ := h; ⟨c, s, F, EF, h1, h2, ⟨fun s δ M a b => k.nx _ _ (h3.nx s δ M a b), fun u n M a b => k.rt _ _ (h3.rt u n M a b), fun s δ M a b => k.bk _ _ (h3.bk s δ M a b), fun s δ M a b => k.ct _ _ (h3.ct s δ M a b)⟩, h4⟩
def lFG (X : XE) (t : FG) : DG where
  run d δ M Q := ∃ (c : FC) (s : FSt) (F : XF) (u : U), XLk c F X ∧ Conc c s δ M ∧ d = u.d c.p ∧ t.run F u s fun s' => ∀ δ' M', Conc c s' δ' M' → Q δ' M'
  mono h k := let ⟨c, s, F, u, h1, h2, h3, h4⟩ := h; ⟨c, s, F, u, h1, h2, h3, t.mono h4 fun s' q δ' M' a => k _ _ (q δ' M' a)⟩
end LD

/-! LF1: expressions -/
namespace LD
open PySem PySem.Spec PyProof.Rows L2

section
variable {X : Cx} {e : Expr}
theorem QE.to {t t' : DE} (h : QE X e t) (k : ∀ δ M Q, t'.run δ M Q → t.run δ M Q) : QE X e t' := PE.imp h fun σ H Q ⟨δ, M, s, m, q⟩ => ⟨δ, M, s, m, k _ _ _ q⟩
theorem QT.to {t t' : DT} (h : QT X e t) (k : ∀ δ M Q, t'.run δ M Q → t.run δ M Q) : QT X e t' := PT.imp h fun σ H Q ⟨δ, M, s, m, q⟩ => ⟨δ, M, s, m, k _ _ _ q⟩
theorem QW.to {t t' : DT} (h : QW X e t) (k : ∀ δ M Q, t'.run δ M Q → t.run δ M Q) : QW X e t' := PW.imp h fun σ H Q ⟨δ, M, s, m, q⟩ => ⟨δ, M, s, m, k _ _ _ q⟩
theorem QA.to {es : List Expr} {t t' : DA} (h : QA X es t) (k : ∀ δ M Q, t'.run δ M Q → t.run δ M Q) : QA X es t' := PA.imp h fun σ H Q ⟨δ, M, s, m, q⟩ => ⟨δ, M, s, m, k _ _ _ q⟩
theorem QS.to {st : Stmt} {t t' : DS} (h : QS X st t) (k : ∀ E δ M, t'.run E δ M → t.run E δ M) : QS X st t' := PS.imp h fun D σ H ⟨δ, M, s, m, q⟩ => ⟨δ, M, s, m, k _ _ _ q⟩
theorem QSs.to {st : List Stmt} {t t' : DS} (h : QSs X st t) (k : ∀ E δ M, t'.run E δ M → t.run E δ M) : QSs X st t' := PSs.imp h fun D σ H ⟨δ, M, s, m, q⟩ => ⟨δ, M, s, m, k _ _ _ q⟩
theorem QG.to {t t' : DG} (h : QG X e t) (k : ∀ d δ M Q, t'.run d δ M Q → t.run d δ M Q) : QG X e t' := PG.imp h fun v σ H Q ⟨d, δ, M, dn, s, m, q⟩ => ⟨d, δ, M, dn, s, m, k _ _ _ _ q⟩
theorem QI.to {tg : Expr} {t t' : DI} (h : QI X tg e t) (k : ∀ δ M Q, t'.run δ M Q → t.run δ M Q) : QI X tg e t' :=
  ⟨fun pins s σ H R I q => h.run pins s σ H R I (let ⟨δ, M, a, b, q⟩ := q; ⟨δ, M, a, b, k _ _ _ q⟩)⟩
theorem PO.to {eo : Option Expr} {t t' : DP} (h : PO X eo (lP X.K t)) (k : ∀ δ M Q, t'.run δ M Q → t.run δ M Q) : PO X eo (lP X.K t') :=
  ⟨fun pins s σ H Q I q => h.run pins s σ H Q I (let ⟨δ, M, a, b, q⟩ := q; ⟨δ, M, a, b, k _ _ _ q⟩)⟩
end

/-! ### names, constants -/
def fVar (i : Nat) : FE where
  run X s Q := match s.v[i]? with | some (some w) => Q w s | _ => False
  mono {X s Q Q'} h k := by
    revert h
    split <;> intro h
    · exact k _ _ h
    · exact h
def fC (u : U) : FE := ⟨fun _ s Q => Q (.v u) s, fun h k => k _ _ h⟩
section
variable {X : Cx} {e : Expr} {E : XE}
theorem fe_var {i : Nat} (h : QE X e (dVar i)) : QE X e (lFE E (fVar i)) := h.to fun δ M Q ⟨c, s, F, xl, C, q⟩ => by
  have q : match s.v[i]? with | some (some w) => ∀ d M', Conc c s δ M' → VRel c δ M' w d → Q d M' | _ => False := q
  split at q
  · rename_i w hw
    obtain ⟨d, h1, h2⟩ := C.look hw
    show match δ[i]? with | some (some d) => Q d M | _ => False
    rw [h1]
    exact q d M C h2
  · exact q.elim
theorem fe_c {u : U} {d : D} (h : QE X e (dC d)) (hd : ∀ p, u.d p = d) : QE X e (lFE E (fC u)) := h.to fun δ M Q ⟨c, s, F, xl, C, q⟩ => q d M C (hd c.p).symm
theorem fv (i : Nat) {x : Str} {pos : Pos} (hN : X.N[i]? = some x := by rfl) (hv : Vis X.env.scope x := by first | exact Or.inl rfl | exact Or.inr (Or.inl rfl) | exact Or.inr (Or.inr rfl)) (hd : (x == ("__debug__" : Str)) = false := by decide)
    (hcd : (x == ("__classdict__" : Str)) = false := by decide) : QE X (.Name x pos) (lFE E (fVar i)) := fe_var (qv i hN hv hd hcd)
theorem fe_int {i j pos} : QE X (.Constant (.int i) j pos) (lFE E (fC (.int i))) := fe_c qe_int fun _ => by rw [U.d]
theorem fe_bl {b j pos} : QE X (.Constant (.bool b) j pos) (lFE E (fC (.bl b))) := fe_c qe_bl fun _ => by rw [U.d]
theorem fe_non {j pos} : QE X (.Constant .none j pos) (lFE E (fC .non)) := fe_c qe_non fun _ => by rw [U.d]
theorem fe_str {x j pos} : QE X (.Constant (.str x) j pos) (lFE E (fC (.str x))) := fe_c qe_str fun _ => by rw [U.d]
theorem fe_gint {x : Str} {pos : Pos} {i : Int} (hg : Gl X x) (hm : ∃ t, X.mg x = some (.int i t)) (hd : (x == ("__debug__" : Str)) = false := by decide) : QE X (.Name x pos) (lFE E (fC (.int i))) := fe_c (qe_gint hg hm hd) fun _ => by rw [U.d]
theorem fe_gstr {x : Str} {pos : Pos} {z : Str} (hg : Gl X x) (hm : ∃ t, X.mg x = some (.str z t)) (hd : (x == ("__debug__" : Str)) = false := by decide) : QE X (.Name x pos) (lFE E (fC (.str z))) := fe_c (qe_gstr hg hm hd) fun _ => by rw [U.d]
end
/-- a value, told as .v -/
theorem VRel.v {c : FC} {δ : DSt} {M : DM} {u : U} {d : D} (h : VRel c δ M (.v u) d) : d = u.d c.p := h

/-! ### lists of arguments -/
def faNil : FA := ⟨fun _ s Q => Q [] s, fun h k => k _ _ h⟩
def faCons (t : FE) (r : FA) : FA where
  run X s Q := t.run X s fun w s1 => r.run X s1 fun ws s2 => Still s2 w ∧ Q (w :: ws) s2
  mono h k := t.mono h fun w s1 q => r.mono q fun ws s2 q => ⟨q.1, k _ _ q.2⟩
def plains : List W → Option (List U)
  | [] => some []
  | .v u :: ws => match plains ws with | some us => some (u :: us) | none => none
  | _ :: _ => none
theorem VRels.plain {c : FC} {δ : DSt} {M : DM} : ∀ {ws : List W} {ds : List D} {us : List U}, VRels c δ M ws ds → plains ws = some us → ds = us.map (U.d c.p)
  | _, _, us, .nil, h => by cases h; rfl
  | .v u :: ws, d :: ds, us, .cons h t, e => by
    rw [plains] at e
    split at e
    · rename_i us' e'
      cases e
      rw [List.map_cons, ← t.plain e', h.v]
    · cases e
  | .ol _ _ :: _, _, _, .cons _ _, e => by cases e
  | .od _ _ :: _, _, _, .cons _ _, e => by cases e
section
variable {X : Cx} {e : Expr} {es : List Expr} {E : XE}
theorem fa_nil : QA X [] (lFA E faNil) := qa_nil.to fun δ M Q ⟨c, s, F, xl, C, q⟩ => q [] M C .nil
theorem fa_cons {t : FE} {r : FA} (ha : QE X e (lFE E t)) (hr : QA X es (lFA E r)) (hs : starEach (e :: es) X.env = (false, eval e X.env) :: starEach es X.env := by rfl) : QA X (e :: es) (lFA E (faCons t r)) :=
  (qa_cons ha hr hs).to fun δ M Q ⟨c, s, F, xl, C, q⟩ => ⟨c, s, F, xl, C, t.mono q fun w s1 q1 d M1 C1 v1 => ⟨c, s1, F, xl, C1, r.mono q1 fun ws s2 q2 ds M2 C2 v2 => q2.2 (d :: ds) M2 C2 (.cons (v1.still C2 q2.1) v2)⟩⟩
end
theorem fa_is0 {E : XE} : (lFA E faNil).Is 0 := ⟨fun ⟨c, s, F, xl, C, q⟩ => ⟨c, s, F, xl, C, fun ds M' C' v => by
  refine ⟨?_, q ds M' C' v⟩
  cases v; rfl⟩⟩
theorem VRels.len {c : FC} {δ : DSt} {M : DM} : ∀ {ws : List W} {ds : List D}, VRels c δ M ws ds → ds.length = ws.length
  | _, _, .nil => rfl
  | _, _, .cons _ t => congrArg Nat.succ t.len
structure FA.Is (t : FA) (n : Nat) : Prop where
  is : ∀ {X s Q}, t.run X s Q → t.run X s fun ws s' => ws.length = n ∧ Q ws s'
theorem fis_nil : faNil.Is 0 := ⟨fun h => ⟨rfl, h⟩⟩
theorem fis_cons {t : FE} {r : FA} {n : Nat} (h : r.Is n) : (faCons t r).Is (n + 1) := ⟨fun {X s Q} q => t.mono q fun w s1 q => r.mono (h.is q) fun ws s2 q => ⟨q.2.1, congrArg Nat.succ q.1, q.2.2⟩⟩
theorem FA.Is.d {t : FA} {n : Nat} (h : t.Is n) {E : XE} : (lFA E t).Is n := ⟨fun ⟨c, s, F, xl, C, q⟩ => ⟨c, s, F, xl, C, t.mono (h.is q) fun ws s' q ds M' C' v => ⟨v.len.trans q.1, q.2 ds M' C' v⟩⟩⟩

/-! ### displays -/
def fTup (t : FA) : FE where
  run X s Q := t.run X s fun ws s' => ∃ us, plains ws = some us ∧ us.length ≤ sizeLine ∧ Q (.v (.tup us)) s'
  mono h k := t.mono h fun ws s' ⟨us, h1, h2, q⟩ => ⟨us, h1, h2, k _ _ q⟩
def fnLst (t : FA) : FN where
  run X s Q := t.run X s fun ws s' => ∃ us, plains ws = some us ∧ us.length ≤ sizeLine ∧ Q us s'
  mono h k := t.mono h fun ws s' ⟨us, h1, h2, q⟩ => ⟨us, h1, h2, k _ _ q⟩
/-- a new list that is never written -/
def fFz (t : FN) : FE where
  run X s Q := t.run X s fun us s' => Q (.v (.lst us)) s'
  mono h k := t.mono h fun us s' q => k _ _ q
theorem impV_frz {M : DM} {p : Addr} {ds : List D} (h : M p = none) : ImpV [.ref p] (put M p (.lst ds)) [.lst ds] M := fun P w K H hp us ok d m => by
  obtain ⟨H', f, m', dn⟩ := freeze ok m put_same
  obtain ⟨v, e2, d1⟩ := dens1 d
  rw [den] at d1
  subst d1 e2
  refine ⟨H', f, dens_cons dn dens_nil, m'.sub ?_⟩
  rw [put_put]
  exact .new h
section
variable {X : Cx} {e : Expr} {es : List Expr} {E : XE} {pos : Pos}
theorem fe_tup {x1} {t : FA} (h : QA X es (lFA E t)) : QE X (.Tuple es x1 pos) (lFE E (fTup t)) :=
  (qe_tup h).to fun δ M Q ⟨c, s, F, xl, C, q⟩ => ⟨c, s, F, xl, C, t.mono q fun ws s1 ⟨us, h1, h2, q1⟩ ds M1 C1 v1 => by
    have e := v1.plain h1
    subst e
    exact ⟨by rw [List.length_map]; exact h2, q1 _ M1 C1 (by show _ = _; rw [U.d_tup])⟩⟩
theorem fn_lst {t : FA} (h : QA X es (lFA E t)) : QE X (.List es pos) (lFN E (fnLst t)) :=
  (qe_lst h).to fun δ M Q ⟨c, s, F, xl, C, q⟩ => ⟨c, s, F, xl, C, t.mono q fun ws s1 ⟨us, h1, h2, q1⟩ ds M1 C1 v1 => by
    have e := v1.plain h1
    subst e
    exact ⟨by rw [List.length_map]; exact h2, fun p hp => q1 p M1 C1 hp⟩⟩
theorem fe_fz {t : FN} (h : QE X e (lFN E t)) : QE X e (lFE E (fFz t)) :=
  (qe_gh h).to fun δ M Q ⟨c, s, F, xl, C, q⟩ => ⟨c, s, F, xl, C, t.mono q fun us s1 q1 p M1 C1 hp => by
    refine ⟨_, _, impV_frz hp, ?_⟩
    exact q1 _ M1 C1 (by show _ = _; rw [U.d_lst])⟩
end

/-! ### operators -/
structure FO2 where
  run : W → W → (U → Prop) → Prop
  mono : ∀ {w u : W} {Q Q' : U → Prop}, run w u Q → (∀ x, Q x → Q' x) → run w u Q'
structure FO1 where
  run : W → (U → Prop) → Prop
  mono : ∀ {w : W} {Q Q' : U → Prop}, run w Q → (∀ x, Q x → Q' x) → run w Q'
def fOp (r : FO2) (a b : FE) : FE where
  run X s Q := a.run X s fun w s1 => b.run X s1 fun u s2 => Still s2 w ∧ r.run w u fun x => Q (.v x) s2
  mono h k := a.mono h fun w s1 q => b.mono q fun u s2 q => ⟨q.1, r.mono q.2 fun x => k _ _⟩
def fUn (r : FO1) (a : FE) : FE where
  run X s Q := a.run X s fun w s1 => r.run w fun x => Q (.v x) s1
  mono h k := a.mono h fun w s1 q => r.mono q fun x => k _ _
/-- nothing is made -/
def Op0 (r' : FO2) (r : DO2) : Prop := ∀ (c : FC) (δ : DSt) (M : DM) (w u : W) (d e : D) (Q : U → Prop) (R : D → DM → Prop), VRel c δ M w d → VRel c δ M u e → r'.run w u Q → (∀ x, Q x → R (x.d c.p) M) → r.run d e M R
/-- a list may be made -/
def OpG (r' : FO2) (r : DO2) : Prop := ∀ (c : FC) (δ : DSt) (M : DM) (w u : W) (d e : D) (Q : U → Prop), VRel c δ M w d → VRel c δ M u e → r'.run w u Q → r.run d e M fun z M' => GhV [z] M' fun ds M2 => ∃ x, ds = [x.d c.p] ∧ Q x ∧ M2 = M
theorem Op0.g {r' : FO2} {r : DO2} (h : Op0 r' r) : OpG r' r := fun c δ M w u d e Q v1 v2 q => h c δ M w u d e Q _ v1 v2 q fun x q => .here ⟨x, rfl, q, rfl⟩
def Op1 (r' : FO1) (r : DO1) : Prop := ∀ (c : FC) (δ : DSt) (M : DM) (w : W) (d : D) (Q : U → Prop) (R : D → DM → Prop), VRel c δ M w d → r'.run w Q → (∀ x, Q x → R (x.d c.p) M) → r.run d M R
theorem ghv_out {c : FC} {δ : DSt} {z : D} {M M' : DM} {Q : U → Prop} {R : D → DM → Prop} (h : GhV [z] M' fun ds M2 => ∃ x, ds = [x.d c.p] ∧ Q x ∧ M2 = M) (k : ∀ x, Q x → R (x.d c.p) M) : GhV [z] M' fun ds M2 => match ds with | [e] => R e M2 | _ => False :=
  h.mono fun ds M2 ⟨x, e, q, s⟩ => by subst e s; exact k x q
section
variable {X : Cx} {a b : Expr} {E : XE} {pos : Pos} {ta tb : FE}
theorem fe_op {op : Operator} {r' : FO2} {r : DO2} (ok : OpG r' r) (ho : O2 X (binaryOp op) r) (ha : QE X a (lFE E ta)) (hb : QE X b (lFE E tb)) : QE X (.BinOp a op b pos) (lFE E (fOp r' ta tb)) :=
  (qe_gh (qe_op ho ha hb)).to fun δ M Q ⟨c, s, F, xl, C, q⟩ => ⟨c, s, F, xl, C, ta.mono q fun w s1 q1 d M1 C1 v1 => ⟨c, s1, F, xl, C1, tb.mono q1 fun u s2 q2 e M2 C2 v2 =>
    r.mono (ok c δ M2 w u d e _ (v1.still C2 q2.1) v2 q2.2) fun z M' g => ghv_out (δ := δ) g fun x q => q _ M2 C2 rfl⟩⟩
theorem fe_cmp {op : CmpOp} {r' : FO2} {r : DO2} (ok : Op0 r' r) (ho : O2 X (compareOp op) r) (ha : QE X a (lFE E ta)) (hb : QE X b (lFE E tb)) (hm : behindInMarks op b = false) : QE X (.Compare a [op] [b] pos) (lFE E (fOp r' ta tb)) :=
  (qe_cmp ho ha hb hm).to fun δ M Q ⟨c, s, F, xl, C, q⟩ => ⟨c, s, F, xl, C, ta.mono q fun w s1 q1 d M1 C1 v1 => ⟨c, s1, F, xl, C1, tb.mono q1 fun u s2 q2 e M2 C2 v2 =>
    ok c δ M2 w u d e _ _ (v1.still C2 q2.1) v2 q2.2 fun x q => q _ M2 C2 rfl⟩⟩
theorem fe_un {op : UnaryOp} {r' : FO1} {r : DO1} (ok : Op1 r' r) (ho : O1 X (unaryOp op) r) (ha : QE X a (lFE E ta)) : QE X (.UnaryOp op a pos) (lFE E (fUn r' ta)) :=
  (qe_un ho ha).to fun δ M Q ⟨c, s, F, xl, C, q⟩ => ⟨c, s, F, xl, C, ta.mono q fun w s1 q1 d M1 C1 v1 => ok c δ M1 w d _ _ v1 q1 fun x q => q _ M1 C1 rfl⟩
/-- xs[i] -/
theorem fe_ix {r' : FO2} (ok : Op0 r' oIx) (ha : QE X a (lFE E ta)) (hb : QE X b (lFE E tb)) (hs : PlainIx b) : QE X (.Subscript a b pos) (lFE E (fOp r' ta tb)) :=
  (qe_ix ha hb hs).to fun δ M Q ⟨c, s, F, xl, C, q⟩ => ⟨c, s, F, xl, C, ta.mono q fun w s1 q1 d M1 C1 v1 => ⟨c, s1, F, xl, C1, tb.mono q1 fun u s2 q2 e M2 C2 v2 =>
    ok c δ M2 w u d e _ _ (v1.still C2 q2.1) v2 q2.2 fun x q => q _ M2 C2 rfl⟩⟩
end
/-! tests -/
def fTB (t : FE) : FT where
  run X s Q := t.run X s fun w s1 => match w with | .v (.bl b) => Q b s1 | _ => False
  mono h k := t.mono h fun d M1 q => by
    revert q; split <;> intro q
    · exact k _ _ q
    · exact q
def fAndT (a b : FT) : FT where
  run X s Q := a.run X s fun c s1 => bcase c (b.run X s1 Q) (Q false s1)
  mono h k := a.mono h fun c M1 q => bcase_mono q (fun q => b.mono q k) (k _ _)
def fOrT (a b : FT) : FT where
  run X s Q := a.run X s fun c s1 => bcase c (Q true s1) (b.run X s1 Q)
  mono h k := a.mono h fun c M1 q => bcase_mono q (k _ _) (fun q => b.mono q k)
def fNotT (a : FT) : FT where
  run X s Q := a.run X s fun c s1 => Q (!c) s1
  mono h k := a.mono h fun c M1 q => k _ _ q
def fAndV (a b : FE) : FE where
  run X s Q := a.run X s fun w s1 => match w with | .v (.bl c) => bcase c (b.run X s1 Q) (Q (.v (.bl false)) s1) | _ => False
  mono h k := a.mono h fun d M1 q => by
    revert q; split <;> intro q
    · exact bcase_mono q (fun q => b.mono q k) (k _ _)
    · exact q
def fOrV (a b : FE) : FE where
  run X s Q := a.run X s fun w s1 => match w with | .v (.bl c) => bcase c (Q (.v (.bl true)) s1) (b.run X s1 Q) | _ => False
  mono h k := a.mono h fun d M1 q => by
    revert q; split <;> intro q
    · exact bcase_mono q (k _ _) (fun q => b.mono q k)
    · exact q
def fNotV (a : FE) : FE where
  run X s Q := a.run X s fun w s1 => match w with | .v (.bl c) => Q (.v (.bl (!c))) s1 | _ => False
  mono h k := a.mono h fun d M1 q => by
    revert q; split <;> intro q
    · exact k _ _ q
    · exact q
def fIf (c : FT) (a b : FE) : FE where
  run X s Q := c.run X s fun k s1 => bcase k (a.run X s1 Q) (b.run X s1 Q)
  mono h k := c.mono h fun c M1 q => bcase_mono q (fun q => a.mono q k) (fun q => b.mono q k)
def fChain (r r' : FO2) (a b c : FE) : FE where
  run X s Q := a.run X s fun w s1 => b.run X s1 fun u s2 => Still s2 w ∧ r.run w u fun z => match z with
    | .bl k => bcase k (c.run X s2 fun x s3 => Still s3 u ∧ r'.run u x fun z => Q (.v z) s3) (Q (.v (.bl false)) s2)
    | _ => False
  mono h k := a.mono h fun w s1 q => b.mono q fun u s2 q => ⟨q.1, r.mono q.2 fun z q => by
    revert q; split <;> intro q
    · exact bcase_mono q (fun q => c.mono q fun w M4 q => ⟨q.1, r'.mono q.2 fun _ => k _ _⟩) (k _ _)
    · exact q⟩
section
variable {X : Cx} {a b c : Expr} {E : XE} {pos : Pos} {ta tb : FT} {va vb vc : FE} {rest : List Expr}
theorem vbl {cc : FC} {δ : DSt} {M : DM} {b : Bool} {d : D} (h : VRel cc δ M (.v (.bl b)) d) : d = .bl b := by have := h.v; rw [U.d] at this; exact this
theorem ftb_le {va : FE} {δ M Q} (q : (lFT E (fTB va)).run δ M Q) : (dTB (lFE E va)).run δ M Q := by
  obtain ⟨cc, s, F, xl, C, q⟩ := q
  refine ⟨cc, s, F, xl, C, va.mono q fun w s1 q1 d M1 C1 v1 => ?_⟩
  revert q1; split <;> intro q1
  · rw [vbl v1]; exact q1 M1 C1
  · exact q1.elim
theorem ft_val (h : QE X a (lFE E va)) (he : ∀ whole, isTrue a X.env whole = (do let v ← whole; standAt a.pos; holding [v] (truthy v)) := by intro _; rfl) : QT X a (lFT E (fTB va)) := (qt_val h he).to fun _ _ _ => ftb_le
theorem ft_cmp {op : CmpOp} {r' : FO2} {r : DO2} (ok : Op0 r' r) (ho : O2 X (compareOp op) r) (ha : QE X a (lFE E va)) (hb : QE X b (lFE E vb)) (hm : behindInMarks op b = false) : QT X (.Compare a [op] [b] pos) (lFT E (fTB (fOp r' va vb))) :=
  (qt_cmp ho ha hb hm).to fun δ M Q ⟨c, s, F, xl, C, q⟩ => ⟨c, s, F, xl, C, va.mono q fun w s1 q1 d M1 C1 v1 => ⟨c, s1, F, xl, C1, vb.mono q1 fun u s2 q2 e M2 C2 v2 =>
    ok c δ M2 w u d e _ _ (v1.still C2 q2.1) v2 q2.2 fun x q => by
      revert q; split <;> intro q
      · rename_i e2; cases e2; rw [U.d]; exact q M2 C2
      · exact q.elim⟩⟩
theorem fchain_le {r1 r2 : FO2} {d1 d2 : DO2} (ok1 : Op0 r1 d1) (ok2 : Op0 r2 d2) {δ M Q} (q : (lFE E (fChain r1 r2 va vb vc)).run δ M Q) : (dChain d1 d2 (lFE E va) (lFE E vb) (lFE E vc)).run δ M Q := by
  obtain ⟨c, s, F, xl, C, q⟩ := q
  refine ⟨c, s, F, xl, C, va.mono q fun w s1 q1 d M1 C1 v1 => ⟨c, s1, F, xl, C1, vb.mono q1 fun u s2 q2 e M2 C2 v2 => ok1 c δ M2 w u d e _ _ (v1.still C2 q2.1) v2 q2.2 fun x q => ?_⟩⟩
  revert q; split <;> intro q
  · rw [U.d]
    exact bcase_mono q (fun q => ⟨c, s2, F, xl, C2, vc.mono q fun y s3 q3 f M3 C3 v3 => ok2 c δ M3 u y e f _ _ (v2.still C3 q3.1) v3 q3.2 fun z q => q _ M3 C3 rfl⟩) fun q => q _ M2 C2 (by show _ = _; rw [U.d])
  · exact q.elim
theorem fe_chain {op op' : CmpOp} {r1 r2 : FO2} {d1 d2 : DO2} (ok1 : Op0 r1 d1) (ok2 : Op0 r2 d2) (ho : O2 X (compareOp op) d1) (ho' : O2 X (compareOp op') d2) (ha : QE X a (lFE E va)) (hb : QE X b (lFE E vb)) (hc : QE X c (lFE E vc))
    (hm : lastMarks [op, op'] [b, c] = false := by with_unfolding_all rfl) : QE X (.Compare a [op, op'] [b, c] pos) (lFE E (fChain r1 r2 va vb vc)) := (qe_chain ho ho' ha hb hc hm).to fun _ _ _ => fchain_le ok1 ok2
theorem ft_chain {op op' : CmpOp} {r1 r2 : FO2} {d1 d2 : DO2} (ok1 : Op0 r1 d1) (ok2 : Op0 r2 d2) (ho : O2 X (compareOp op) d1) (ho' : O2 X (compareOp op') d2) (ha : QE X a (lFE E va)) (hb : QE X b (lFE E vb)) (hc : QE X c (lFE E vc))
    (hm : lastMarks [op, op'] [b, c] = false := by with_unfolding_all rfl) : QT X (.Compare a [op, op'] [b, c] pos) (lFT E (fTB (fChain r1 r2 va vb vc))) :=
  (qt_chain ho ho' ha hb hc hm).to fun δ M Q q => by
    have q0 : (lFE E (fChain r1 r2 va vb vc)).run δ M fun d M' => ∃ b, d = .bl b ∧ Q b M' := by
      obtain ⟨c, s, F, xl, C, q⟩ := q
      have q : (fChain r1 r2 va vb vc).run F s fun w s1 => match w with | .v (.bl b) => ∀ (M' : DM), Conc c s1 δ M' → Q b M' | _ => False := q
      refine ⟨c, s, F, xl, C, (fChain r1 r2 va vb vc).mono q fun w s1 q1 d M1 C1 v1 => ?_⟩
      revert q1; split <;> intro q1
      · exact ⟨_, vbl v1, q1 M1 C1⟩
      · exact q1.elim
    exact (dChain d1 d2 (lFE E va) (lFE E vb) (lFE E vc)).mono (fchain_le ok1 ok2 q0) fun d M' ⟨b, e, q⟩ => by subst e; exact q
theorem fw_and1 (ha : QT X a (lFT E ta)) : QW X (.BoolOp .And [a] pos) (lFT E ta) := qw_and1 ha
theorem fw_or1 (ha : QT X a (lFT E ta)) : QW X (.BoolOp .Or [a] pos) (lFT E ta) := qw_or1 ha
theorem fw_and (ha : QT X a (lFT E ta)) (hb : QW X (.BoolOp .And (b :: rest) pos) (lFT E tb)) : QW X (.BoolOp .And (a :: b :: rest) pos) (lFT E (fAndT ta tb)) :=
  (qw_and ha hb).to fun δ M Q ⟨c, s, F, xl, C, q⟩ => ⟨c, s, F, xl, C, ta.mono q fun k s1 q1 M1 C1 => bcase_mono q1 (fun q => ⟨c, s1, F, xl, C1, q⟩) fun q => q M1 C1⟩
theorem fw_or (ha : QT X a (lFT E ta)) (hb : QW X (.BoolOp .Or (b :: rest) pos) (lFT E tb)) : QW X (.BoolOp .Or (a :: b :: rest) pos) (lFT E (fOrT ta tb)) :=
  (qw_or ha hb).to fun δ M Q ⟨c, s, F, xl, C, q⟩ => ⟨c, s, F, xl, C, ta.mono q fun k s1 q1 M1 C1 => bcase_mono q1 (fun q => q M1 C1) fun q => ⟨c, s1, F, xl, C1, q⟩⟩
theorem ft_not (ha : QT X a (lFT E ta)) : QT X (.UnaryOp .Not a pos) (lFT E (fNotT ta)) :=
  (qt_not ha).to fun δ M Q ⟨c, s, F, xl, C, q⟩ => ⟨c, s, F, xl, C, ta.mono q fun k s1 q1 M1 C1 => q1 M1 C1⟩
theorem fe_one {op} (h : QE X a (lFE E va)) : QE X (.BoolOp op [a] pos) (lFE E va) := qe_one h
theorem fe_and (ha : QE X a (lFE E va)) (hb : QE X (.BoolOp .And (b :: rest) pos) (lFE E vb)) : QE X (.BoolOp .And (a :: b :: rest) pos) (lFE E (fAndV va vb)) :=
  (qe_and ha hb).to fun δ M Q ⟨c, s, F, xl, C, q⟩ => ⟨c, s, F, xl, C, va.mono q fun w s1 q1 d M1 C1 v1 => by
    revert q1; split <;> intro q1
    · rw [vbl v1]; exact bcase_mono q1 (fun q => ⟨c, s1, F, xl, C1, q⟩) fun q => q _ M1 C1 (by show _ = _; rw [U.d])
    · exact q1.elim⟩
theorem fe_or (ha : QE X a (lFE E va)) (hb : QE X (.BoolOp .Or (b :: rest) pos) (lFE E vb)) : QE X (.BoolOp .Or (a :: b :: rest) pos) (lFE E (fOrV va vb)) :=
  (qe_or ha hb).to fun δ M Q ⟨c, s, F, xl, C, q⟩ => ⟨c, s, F, xl, C, va.mono q fun w s1 q1 d M1 C1 v1 => by
    revert q1; split <;> intro q1
    · rw [vbl v1]; exact bcase_mono q1 (fun q => q _ M1 C1 (by show _ = _; rw [U.d])) fun q => ⟨c, s1, F, xl, C1, q⟩
    · exact q1.elim⟩
theorem fe_not (ha : QE X a (lFE E va)) : QE X (.UnaryOp .Not a pos) (lFE E (fNotV va)) :=
  (qe_not ha).to fun δ M Q ⟨c, s, F, xl, C, q⟩ => ⟨c, s, F, xl, C, va.mono q fun w s1 q1 d M1 C1 v1 => by
    revert q1; split <;> intro q1
    · rw [vbl v1]; exact q1 _ M1 C1 (by show _ = _; rw [U.d])
    · exact q1.elim⟩
theorem fe_if (hc : QT X c (lFT E ta)) (ha : QE X a (lFE E va)) (hb : QE X b (lFE E vb)) : QE X (.IfExp c a b pos) (lFE E (fIf ta va vb)) :=
  (qe_if hc ha hb).to fun δ M Q ⟨c, s, F, xl, C, q⟩ => ⟨c, s, F, xl, C, ta.mono q fun k s1 q1 M1 C1 => bcase_mono q1 (fun q => ⟨c, s1, F, xl, C1, q⟩) fun q => ⟨c, s1, F, xl, C1, q⟩⟩
end

/-! ### slices -/
def fNoP : FP := ⟨fun _ s Q => Q none s, fun h k => k _ _ h⟩
def fPart (t : FE) : FP where
  run X s Q := t.run X s fun w s1 => match w with | .v (.int i) => Q (some i) s1 | _ => False
  mono h k := t.mono h fun d M1 q => by
    revert q; split <;> intro q
    · exact k _ _ q
    · exact q
def sliceF (w : W) (lo hi : Option Int) (Q : U → Prop) : Prop := match w with
  | .v (.tup us) => Q (.tup (cutD us lo hi))
  | .v (.str z) => z.length ≤ sizeLine ∧ Q (.str (cutS z lo hi))
  | .v (.lst us) => Q (.lst (cutD us lo hi))
  | .ol _ us => Q (.lst (cutD us lo hi))
  | _ => False
theorem sliceF_mono {w : W} {lo hi : Option Int} {Q Q' : U → Prop} (h : sliceF w lo hi Q) (k : ∀ x, Q x → Q' x) : sliceF w lo hi Q' := by
  unfold sliceF at h ⊢
  revert h
  split <;> intro h
  · exact k _ h
  · exact ⟨h.1, k _ h.2⟩
  · exact k _ h
  · exact k _ h
  · exact h
def fSlice (t : FE) (lo hi : FP) : FE where
  run X s Q := t.run X s fun w s1 => lo.run X s1 fun l s2 => hi.run X s2 fun h s3 => Still s3 w ∧ sliceF w l h fun x => Q (.v x) s3
  mono h k := t.mono h fun x M1 q => lo.mono q fun l M2 q => hi.mono q fun h M3 q => ⟨q.1, sliceF_mono q.2 fun x => k _ _⟩
theorem cutD_map {α β : Type} {f : α → β} {xs : List α} {lo hi : Option Int} : cutD (xs.map f) lo hi = (cutD xs lo hi).map f := by
  unfold cutD
  rw [List.length_map, List.map_take, List.map_drop]
section
variable {X : Cx} {e : Expr} {E : XE} {pos p2 : Pos} {t : FE} {tl th : FP} {lo hi : Option Expr}
theorem fo_none : PO X none (lP X.K (lFP E fNoP)) := PO.to qo_none fun δ M Q ⟨c, s, F, xl, C, q⟩ => q M C
theorem fo_some (h : QE X e (lFE E t)) : PO X (some e) (lP X.K (lFP E (fPart t))) := PO.to (qo_some h) fun δ M Q ⟨c, s, F, xl, C, q⟩ => ⟨c, s, F, xl, C, t.mono q fun w s1 q1 d M1 C1 v1 => by
  revert q1; split <;> intro q1
  · have := v1.v; rw [U.d] at this; rw [this]; exact q1 M1 C1
  · exact q1.elim⟩
theorem fe_slice (he : QE X e (lFE E t)) (hl : PO X lo (lP X.K (lFP E tl))) (hu : PO X hi (lP X.K (lFP E th))) : QE X (.Subscript e (.Slice lo hi none p2) pos) (lFE E (fSlice t tl th)) :=
  (qe_gh (qe_slice he hl hu)).to fun δ M Q ⟨c, s, F, xl, C, q⟩ => ⟨c, s, F, xl, C, t.mono q fun w s1 q1 d M1 C1 v1 => ⟨c, s1, F, xl, C1, tl.mono q1 fun l s2 q2 M2 C2 => ⟨c, s2, F, xl, C2, th.mono q2 fun h s3 ⟨st, q3⟩ M3 C3 => by
    have v3 := v1.still C3 st
    unfold sliceF at q3
    split at q3
    · have := v3.v; rw [U.d_tup] at this; subst this
      refine .here (q3 _ M3 C3 ?_)
      show _ = _
      rw [U.d_tup, cutD_map]
    · have := v3.v; rw [U.d] at this; subst this
      refine ⟨q3.1, .here (q3.2 _ M3 C3 ?_)⟩
      show _ = _
      rw [U.d]
    · have := v3.v; rw [U.d_lst] at this; subst this
      refine ⟨_, rfl, fun p hp => ⟨_, _, impV_frz hp, ?_⟩⟩
      refine q3 _ M3 C3 ?_
      show _ = _
      rw [U.d_lst, cutD_map]
    · obtain ⟨a, e, h1, h2, h3⟩ := v3
      subst e
      refine ⟨_, .inl h2, fun p hp => ⟨_, _, impV_frz hp, ?_⟩⟩
      refine q3 _ M3 C3 ?_
      show _ = _
      rw [U.d_lst, cutD_map]
    · exact q3.elim⟩⟩⟩
end

/-! ### built-in calls by values -/
structure FC1 where
  run : List W → (U → Prop) → Prop
  mono : ∀ {ws : List W} {Q Q' : U → Prop}, run ws Q → (∀ x, Q x → Q' x) → run ws Q'
def fCB (r : FC1) (t : FA) : FE where
  run X s Q := t.run X s fun ws s1 => r.run ws fun x => Q (.v x) s1
  mono h k := t.mono h fun ws s1 q => r.mono q fun x => k _ _
def CbG (r' : FC1) (r : DC) : Prop := ∀ (c : FC) (δ : DSt) (M : DM) (ws : List W) (ds : List D) (Q : U → Prop), VRels c δ M ws ds → r'.run ws Q → r.run ds M fun z M' => GhV [z] M' fun ds M2 => ∃ x, ds = [x.d c.p] ∧ Q x ∧ M2 = M
section
variable {X : Cx} {x : Str} {p pos : Pos} {e : Expr} {es : List Expr} {t : FA} {id T : String} {r : DC} {r' : FC1} {E : XE}
theorem fe_callB (ok : CbG r' r) (hc : OC X (.builtin id) r) (hg : Gl X x) (hm : X.mg x = none) (hv : bootBuiltins x = some (.builtin id)) (ha : QA X (e :: es) (lFA E t)) (hn : x ≠ "__name__" := by decide) (hdb : (x == ("__debug__" : Str)) = false := by decide)
    (he : starEach (e :: es) X.env = (false, eval e X.env) :: starEach es X.env := by rfl) (hpl : (backTo pos (starEach es X.env)).any (·.1) = false := by rfl) : QE X (.Call (.Name x p) (e :: es) [] pos) (lFE E (fCB r' t)) :=
  (qe_gh (qe_callB hc hg hm hv ha hn hdb he hpl)).to fun δ M Q ⟨c, s, F, xl, C, q⟩ => ⟨c, s, F, xl, C, t.mono q fun ws s1 q1 ds M1 C1 v1 => r.mono (ok c δ M1 ws ds _ v1 q1) fun z M' g => ghv_out (δ := δ) g fun x q => q _ M1 C1 rfl⟩
theorem fe_callTy (ok : CbG r' r) (hc : OC X (.type T) r) (hg : Gl X x) (hm : X.mg x = none) (hv : bootBuiltins x = some (.type T)) (ha : QA X (e :: es) (lFA E t)) (hn : x ≠ "__name__" := by decide) (hdb : (x == ("__debug__" : Str)) = false := by decide)
    (he : starEach (e :: es) X.env = (false, eval e X.env) :: starEach es X.env := by rfl) (hpl : (backTo pos (starEach es X.env)).any (·.1) = false := by rfl) : QE X (.Call (.Name x p) (e :: es) [] pos) (lFE E (fCB r' t)) :=
  (qe_gh (qe_callTy hc hg hm hv ha hn hdb he hpl)).to fun δ M Q ⟨c, s, F, xl, C, q⟩ => ⟨c, s, F, xl, C, t.mono q fun ws s1 q1 ds M1 C1 v1 => r.mono (ok c δ M1 ws ds _ v1 q1) fun z M' g => ghv_out (δ := δ) g fun x q => q _ M1 C1 rfl⟩
end
end LD

/-! LF2: statements, calls, loops, comprehensions -/
namespace LD
open PySem PySem.Spec PyProof.Rows L2

/-! ### the state behind a name's assignment -/
def fName (i : Nat) : FG := ⟨fun _ u s Q => Q (s.set i (some (.v u))), fun h k => k _ h⟩
structure FGs where
  run : XF → List U → FSt → (FSt → Prop) → Prop
  mono : ∀ {X : XF} {us : List U} {s : FSt} {Q Q' : FSt → Prop}, run X us s Q → (∀ s', Q s' → Q' s') → run X us s Q'
def fGNil : FGs := ⟨fun _ us s Q => match us with | [] => Q s | _ => False, fun {X us s Q Q'} h k => by
  cases us with
  | nil => exact k _ h
  | cons => exact h⟩
def fGCons (g : FG) (r : FGs) : FGs := ⟨fun X us s Q => match us with | u :: us => g.run X u s fun s1 => r.run X us s1 Q | _ => False, fun {X us s Q Q'} h k => by
  cases us with
  | nil => exact h
  | cons => exact g.mono h fun _ q => r.mono q k⟩
def fGTup (r : FGs) : FG := ⟨fun X u s Q => match u with | .tup us => r.run X us s Q | _ => False, fun {X u s Q Q'} h k => by
  revert h; split <;> intro h
  · exact r.mono h k
  · exact h⟩
def lFGs (X : XE) (t : FGs) : DGs where
  run ds δ M Q := ∃ (c : FC) (s : FSt) (F : XF) (us : List U), XLk c F X ∧ Conc c s δ M ∧ ds = us.map (U.d c.p) ∧ t.run F us s fun s' => ∀ δ' M', Conc c s' δ' M' → Q δ' M'
  mono h k := let ⟨c, s, F, u, h1, h2, h3, h4⟩ := h; ⟨c, s, F, u, h1, h2, h3, t.mono h4 fun s' q δ' M' a => k _ _ (q δ' M' a)⟩
section
variable {X : Cx} {e : Expr} {E : XE} {pos : Pos}
theorem fg_name {i : Nat} {x : Str} (hN : X.N.Nodup) (hi : X.N[i]? = some x) (hx : Loc X.env.scope x) (hf : X.fn x = true ∨ X.env.scope.names.lookup x = some .local := by first | exact .inl rfl | exact .inr rfl | assumption) : QG X (.Name x pos) (lFG E (fName i)) :=
  (qg_name hN hi hx hf).to fun d δ M Q ⟨c, s, F, u, xl, C, hd, q⟩ => by
    subst hd
    exact q _ M (C.setV i (some u) (some (u.d c.p)) fun _ h => by cases h; rfl)
theorem QGs.to {es : List Expr} {t t' : DGs} (h : QGs X es t) (k : ∀ ds δ M Q, t'.run ds δ M Q → t.run ds δ M Q) : QGs X es t' :=
  ⟨fun pins s σ H vs us Q I rv q => h.run pins s σ H vs us Q I rv (let ⟨ds, δ, M, a, b, c, q⟩ := q; ⟨ds, δ, M, a, b, c, k _ _ _ _ q⟩)⟩
theorem fgs_nil : QGs X [] (lFGs E fGNil) := qgs_nil.to fun ds δ M Q ⟨c, s, F, us, xl, C, hd, q⟩ => by
  cases us with
  | nil => subst hd; exact q δ M C
  | cons => exact q.elim
theorem fgs_cons {es : List Expr} {g : FG} {r : FGs} (h1 : QG X e (lFG E g)) (h2 : QGs X es (lFGs E r))
    (hs : (assignEach (e :: es) X.env).map (·.2) = assign e X.env :: (assignEach es X.env).map (·.2) := by rfl) : QGs X (e :: es) (lFGs E (fGCons g r)) := (qgs_cons h1 h2 hs).to fun ds δ M Q ⟨c, s, F, us, xl, C, hd, q⟩ => by
  cases us with
  | nil => exact q.elim
  | cons u us =>
    subst hd
    exact ⟨c, s, F, u, xl, C, rfl, g.mono q fun s1 q1 δ1 M1 C1 => ⟨c, s1, F, us, xl, C1, rfl, q1⟩⟩
/-- so many items -/
structure FGs.Is (t : FGs) (n : Nat) : Prop where
  is : ∀ {X us s Q}, t.run X us s Q → us.length = n
/-- it goes on -/
structure FG.Go (t : FG) : Prop where
  go : ∀ {X u s Q}, t.run X u s Q → ∃ s', Q s'
structure FGs.Go (t : FGs) : Prop where
  go : ∀ {X us s Q}, t.run X us s Q → ∃ s', Q s'
theorem fgi_nil : fGNil.Is 0 := ⟨fun {X us s Q} h => by cases us with | nil => rfl | cons => exact h.elim⟩
theorem fgi_cons {g : FG} {r : FGs} {n : Nat} (hr : r.Is n) (hg : g.Go) : (fGCons g r).Is (n + 1) := ⟨fun {X us s Q} h => by
  cases us with
  | nil => exact h.elim
  | cons u us =>
    obtain ⟨s', q⟩ := hg.go h
    rw [List.length_cons, hr.is q]⟩
theorem fgo_name {i : Nat} : (fName i).Go := ⟨fun h => ⟨_, h⟩⟩
theorem fgo_nil : fGNil.Go := ⟨fun {X us s Q} h => by cases us with | nil => exact ⟨_, h⟩ | cons => exact h.elim⟩
theorem fgo_cons {g : FG} {r : FGs} (hg : g.Go) (hr : r.Go) : (fGCons g r).Go := ⟨fun {X us s Q} h => by
  cases us with
  | nil => exact h.elim
  | cons u us => obtain ⟨s', q⟩ := hg.go h; exact hr.go q⟩
theorem fgo_tup {r : FGs} (hr : r.Go) : (fGTup r).Go := ⟨fun {X u s Q} h => by
  dsimp only [fGTup] at h
  split at h
  · exact hr.go h
  · exact h.elim⟩
theorem fg_tup {es : List Expr} {k : Nat} {r : FGs} {n : Nat} (hc : X.calm = true) (h : QGs X es (lFGs E r)) (hl : r.Is n) (hn : (assignEach es X.env).length = n := by rfl) (hst : (assignEach es X.env).findIdx? (·.1) = none := by rfl) : QG X (.Tuple es k pos) (lFG E (fGTup r)) :=
  (qg_tup hc h hn hst fun ds δ M Q ⟨c, s, F, us, xl, C, hd, q⟩ => by rw [hd, List.length_map]; exact hl.is q).to fun d δ M Q ⟨c, s, F, u, xl, C, hd, q⟩ => by
    dsimp only [fGTup] at q
    split at q
    · rw [U.d_tup] at hd
      subst hd
      exact ⟨c, s, F, _, xl, C, rfl, q⟩
    · exact q.elim
/-- xs[i] = v, of a name's own list -/
def fSubL (i : Nat) (t : FE) : FG where
  run X u s Q := match s.v[i]? with
    | some (some (.ol _ _)) => t.run X s fun w s1 => match s1.v[i]?, w with
      | some (some (.ol j us)), .v (.int k) => ∃ m, ixN us.length k = some m ∧ Q (s1.set i (some (.ol j (us.set m u))))
      | _, _ => False
    | _ => False
  mono {X u s Q Q'} h k := by
    revert h; split <;> intro h
    · exact t.mono h fun w s1 q => by
        revert q; split <;> intro q
        · obtain ⟨m, h1, h2⟩ := q; exact ⟨m, h1, k _ h2⟩
        · exact q
    · exact h
theorem vint {cc : FC} {δ : DSt} {M : DM} {b : Int} {d : D} (h : VRel cc δ M (.v (.int b)) d) : d = .int b := by have := h.v; rw [U.d] at this; exact this
theorem fg_subL {o ix : Expr} {i : Nat} {t : FE} (ho : QE X o (dVar i)) (hi : QE X ix (lFE E t)) (ha : ∀ v, assign (.Subscript o ix pos) X.env v = (do
      let ov ← holding [v] (eval o X.env)
      let iv ← holding [v, ov] (eval ix X.env)
      standAt pos
      holding [v, ov, iv] (setItem ov iv v)
      release [v, ov, iv] []) := by intro _; rfl) : QG X (.Subscript o ix pos) (lFG E (fSubL i t)) := (qg_subL ho hi ha).to fun d δ M Q ⟨c, s, F, u, xl, C, hd, q⟩ => by
  dsimp only [fSubL] at q
  split at q
  · rename_i j0 us0 h0
    obtain ⟨e0, a, ha, _⟩ := C.own i _ _ _ h0 rfl
    show match δ[i]? with | some (some d') => _ | _ => False
    rw [ha]
    refine ⟨c, s, F, xl, C, t.mono q fun w s1 q1 y M1 C1 v1 => ?_⟩
    split at q1
    · rename_i j us k hj
      obtain ⟨m, h1, h2⟩ := q1
      obtain ⟨e, b, g1, g2, g3⟩ := C1.own i _ _ _ hj rfl
      rw [ha] at g1; cases g1
      rw [vint v1]
      subst e hd
      refine ⟨_, m, g2, by rw [List.length_map]; exact h1, h2 δ _ ?_⟩
      have := C1.mut (w' := .ol j (us.set m u)) (o' := .lst ((us.set m u).map (U.d c.p))) hj rfl ha rfl
      rw [List.map_set] at this
      exact this
    · exact q1.elim
  · exact q.elim
end

/-! ### small statements -/
def fPass : FS := ⟨fun _ E s => E.nx s, fun h k => k.nx _ h⟩
def fBreak : FS := ⟨fun _ E s => E.bk s, fun h k => k.bk _ h⟩
def fCont : FS := ⟨fun _ E s => E.ct s, fun h k => k.ct _ h⟩
def fNever : FS := ⟨fun _ _ _ => False, fun h _ => h⟩
def fSNil : FS := ⟨fun _ E s => E.nx s, fun h k => k.nx _ h⟩
def fDrop (t : FE) : FS := ⟨fun X E s => t.run X s fun _ s1 => E.nx s1, fun h k => t.mono h fun _ M1 q => k.nx _ q⟩
def fRet (t : FE) : FS := ⟨fun X E s => t.run X s fun w s1 => match w with | .v u => E.rt u s1.n | _ => False, fun {X E E' s} h k => t.mono h fun w s1 q => by
  revert q; split <;> intro q
  · exact k.rt _ _ q
  · exact q⟩
def fRetN : FS := ⟨fun _ E s => E.rt .non s.n, fun h k => k.rt _ _ h⟩
def fIfS (c : FT) (a b : FS) : FS := ⟨fun X E s => c.run X s fun k s1 => bcase k (a.run X E s1) (b.run X E s1), fun h k => c.mono h fun _ M1 q => bcase_mono q (fun q => a.mono q k) fun q => b.mono q k⟩
def fAsg (t : FE) (g : FG) : FS := ⟨fun X E s => t.run X s fun w s1 => match w with | .v u => g.run X u s1 E.nx | _ => False, fun {X E E' s} h k => t.mono h fun w s1 q => by
  revert q; split <;> intro q
  · exact g.mono q k.nx
  · exact q⟩
def fSet (i : Nat) (t : FE) : FS := ⟨fun X E s => t.run X s fun w s1 => match w with | .v u => E.nx (s1.set i (some (.v u))) | _ => False, fun {X E E' s} h k => t.mono h fun w s1 q => by
  revert q; split <;> intro q
  · exact k.nx _ q
  · exact q⟩
/-- x = a new list of its own -/
def fOwn (i : Nat) (t : FN) : FS := ⟨fun X E s => t.run X s fun us s1 => E.nx (s1.set i (some (.ol i us))), fun {X E E' s} h k => t.mono h fun w s1 q => k.nx _ q⟩
def fOwnM (i : Nat) (t : FM) : FS := ⟨fun X E s => t.run X s fun us s1 => E.nx (s1.set i (some (.od i us))), fun {X E E' s} h k => t.mono h fun w s1 q => k.nx _ q⟩
def fPar2 (i j : Nat) (t : FA) : FS := ⟨fun X E s => t.run X s fun ws s1 => match ws with | [.v a, .v b] => E.nx ((s1.set i (some (.v a))).set j (some (.v b))) | _ => False, fun {X E E' s} h k => t.mono h fun ds M1 q => by
  revert q; split <;> intro q
  · exact k.nx _ q
  · exact q⟩
def fPar3 (i j l : Nat) (t : FA) : FS := ⟨fun X E s => t.run X s fun ws s1 => match ws with | [.v a, .v b, .v c] => E.nx (((s1.set i (some (.v a))).set j (some (.v b))).set l (some (.v c))) | _ => False, fun {X E E' s} h k => t.mono h fun ds M1 q => by
  revert q; split <;> intro q
  · exact k.nx _ q
  · exact q⟩
def fSeq (t u : FS) : FS := ⟨fun X E s => t.run X { E with nx := fun s1 => u.run X E s1 } s, fun {X E E' s} h k => t.mono h ⟨fun _ q => u.mono q k, k.rt, k.bk, k.ct⟩⟩
def fRaise (x : Str) : FS := ⟨fun X _ s => X x s.n, fun h _ => h⟩
/-- a name's own list is never written from here on -/
def fFrz (i : Nat) (t : FS) : FS := ⟨fun X E s => match s.v[i]? with
  | some (some (.ol _ us)) => t.run X E (s.set i (some (.v (.lst us))))
  | _ => t.run X E s, fun {X E E' s} h k => by
    revert h; split <;> intro h <;> exact t.mono h k⟩
def dGhS (t : DS) : DS := ⟨fun E δ M => Gh δ M fun δ' M' => t.run E δ' M', fun h k => h.mono fun _ _ q => t.mono q k⟩
section
variable {X : Cx} {e : Expr} {E : XE} {pos : Pos} {t : FE}
theorem ELk.nxE {c : FC} {F : FEnds} {D : DEnds} (h : ELk c F D) : ∀ s δ M, Conc c s δ M → F.nx s → D.nx δ M := h.nx
theorem fs_pass : QS X (.Pass pos) (lFS E fPass) := qs_pass.to fun D δ M ⟨c, s, F, EF, xl, C, el, q⟩ => el.nx _ _ _ C q
theorem fs_break : QS X (.Break pos) (lFS E fBreak) := qs_break.to fun D δ M ⟨c, s, F, EF, xl, C, el, q⟩ => el.bk _ _ _ C q
theorem fs_cont : QS X (.Continue pos) (lFS E fCont) := qs_cont.to fun D δ M ⟨c, s, F, EF, xl, C, el, q⟩ => el.ct _ _ _ C q
theorem fs_never {st : Stmt} : QS X st (lFS E fNever) := qs_never.to fun D δ M ⟨c, s, F, EF, xl, C, el, q⟩ => q
theorem fss_nil : QSs X [] (lFS E fSNil) := qss_nil.to fun D δ M ⟨c, s, F, EF, xl, C, el, q⟩ => el.nx _ _ _ C q
theorem fs_expr (he : QE X e (lFE E t)) (hs : swapsWith e none pos.line X.env = pure false := by rfl) : QS X (.Expr e pos) (lFS E (fDrop t)) :=
  (qs_expr he hs).to fun D δ M ⟨c, s, F, EF, xl, C, el, q⟩ => ⟨c, s, F, xl, C, t.mono q fun w s1 q1 d M1 C1 v1 => el.nx _ _ _ C1 q1⟩
theorem fs_ret (he : QE X e (lFE E t)) : QS X (.Return (some e) pos) (lFS E (fRet t)) :=
  (qs_ret he).to fun D δ M ⟨c, s, F, EF, xl, C, el, q⟩ => ⟨c, s, F, xl, C, t.mono q fun w s1 q1 d M1 C1 v1 => by
    revert q1; split <;> intro q1
    · rw [v1.v]; exact el.rt _ _ _ C1.fr q1
    · exact q1.elim⟩
theorem fs_retN : QS X (.Return none pos) (lFS E fRetN) := qs_retN.to fun D δ M ⟨c, s, F, EF, xl, C, el, q⟩ => by
  have := el.rt .non s.n M C.fr q
  rw [U.d] at this; exact this
theorem fs_if {cd : Expr} {a b : List Stmt} {tc : FT} {ta tb : FS} (hc : QT X cd (lFT E tc)) (ha : QSs X a (lFS E ta)) (hb : QSs X b (lFS E tb)) : QS X (.If cd a b pos) (lFS E (fIfS tc ta tb)) :=
  (qs_if hc ha hb).to fun D δ M ⟨c, s, F, EF, xl, C, el, q⟩ => ⟨c, s, F, xl, C, tc.mono q fun k s1 q1 M1 C1 => bcase_mono q1 (fun q => ⟨c, s1, F, EF, xl, C1, el, q⟩) fun q => ⟨c, s1, F, EF, xl, C1, el, q⟩⟩
theorem fs_asg {tg : Expr} {g : FG} (he : QE X e (lFE E t)) (hg : QG X tg (lFG E g)) (hs : swapsWithSole [tg] e pos.line X.env = pure false := by rfl) (hw : swappedStores [tg] e X.env = pure none := by rfl)
    (h1 : (assignEach [tg] X.env).map (·.2) = [assign tg X.env] := by rfl) : QS X (.Assign [tg] e pos) (lFS E (fAsg t g)) :=
  (qs_asg he hg hs hw h1).to fun D δ M ⟨c, s, F, EF, xl, C, el, q⟩ => ⟨c, s, F, xl, C, t.mono q fun w s1 q1 d M1 C1 v1 => by
    revert q1; split <;> intro q1
    · exact ⟨c, s1, F, _, xl, C1, v1.v, g.mono q1 fun s2 q2 δ' M' C2 => el.nx _ _ _ C2 q2⟩
    · exact q1.elim⟩
theorem fs_set {i : Nat} {x : Str} {pos' : Pos} (hN : X.N.Nodup) (hi : X.N[i]? = some x) (hx : Loc X.env.scope x) (he : QE X e (lFE E t)) (hs : swapsWith e (some (.Name x pos')) pos.line X.env = pure false := by rfl) (hf : X.fn x = true ∨ X.env.scope.names.lookup x = some .local := by first | exact .inl rfl | exact .inr rfl | assumption) :
    QS X (.Assign [.Name x pos'] e pos) (lFS E (fSet i t)) :=
  (qs_set hN hi hx he hs hf).to fun D δ M ⟨c, s, F, EF, xl, C, el, q⟩ => ⟨c, s, F, xl, C, t.mono q fun w s1 q1 d M1 C1 v1 => by
    revert q1; split <;> intro q1
    · exact el.nx _ _ _ (C1.setV i (some _) (some d) fun _ h => by cases h; exact congrArg some v1.v) q1
    · exact q1.elim⟩
theorem fs_own {i : Nat} {x : Str} {pos' : Pos} {t : FN} (hN : X.N.Nodup) (hi : X.N[i]? = some x) (hx : Loc X.env.scope x) (he : QE X e (lFN E t)) (hs : swapsWith e (some (.Name x pos')) pos.line X.env = pure false := by rfl) (hf : X.fn x = true ∨ X.env.scope.names.lookup x = some .local := by first | exact .inl rfl | exact .inr rfl | assumption) :
    QS X (.Assign [.Name x pos'] e pos) (lFS E (fOwn i t)) :=
  (qs_set hN hi hx he hs hf).to fun D δ M ⟨c, s, F, EF, xl, C, el, q⟩ => ⟨c, s, F, xl, C, t.mono q fun us s1 q1 p M1 C1 hp =>
    el.nx _ _ _ (C1.setO (w := .ol i us) (o := .lst (us.map (U.d c.p))) i rfl put_same (C1.fresh hp) (fun b u hb e => by rw [put_ne hb]; exact e) hp) q1⟩
theorem fs_ownM {i : Nat} {x : Str} {pos' : Pos} {t : FM} (hN : X.N.Nodup) (hi : X.N[i]? = some x) (hx : Loc X.env.scope x) (he : QE X e (lFM E t)) (hs : swapsWith e (some (.Name x pos')) pos.line X.env = pure false := by rfl) (hf : X.fn x = true ∨ X.env.scope.names.lookup x = some .local := by first | exact .inl rfl | exact .inr rfl | assumption) :
    QS X (.Assign [.Name x pos'] e pos) (lFS E (fOwnM i t)) :=
  (qs_set hN hi hx he hs hf).to fun D δ M ⟨c, s, F, EF, xl, C, el, q⟩ => ⟨c, s, F, xl, C, t.mono q fun us s1 q1 p M1 C1 hp =>
    el.nx _ _ _ (C1.setO (w := .od i us) (o := .dct (Uk.d c.p us)) i rfl put_same (C1.fresh hp) (fun b u hb e => by rw [put_ne hb]; exact e) hp) q1⟩
theorem fs_par2 {i j : Nat} {x y : Str} {a b : Expr} {ta : FA} {px py pt : Pos} {kt k2 pt2} (hc : X.calm = true) (hN : X.N.Nodup) (hi : X.N[i]? = some x) (hj : X.N[j]? = some y) (hij : i ≠ j)
    (hx : X.env.scope.names.lookup x = some .local) (hy : X.env.scope.names.lookup y = some .local) (ha : QA X [a, b] (lFA E ta))
    (hw : swappedStores [.Tuple [.Name x px, .Name y py] kt pt] (.Tuple [a, b] k2 pt2) X.env = pure (some [x, y]))
    (hs : swapsWithSole [.Tuple [.Name x px, .Name y py] kt pt] (.Tuple [a, b] k2 pt2) pos.line X.env = pure false := by rfl) :
    QS X (.Assign [.Tuple [.Name x px, .Name y py] kt pt] (.Tuple [a, b] k2 pt2) pos) (lFS E (fPar2 i j ta)) :=
  (qs_par2 hc hN hi hj hij hx hy ha hw hs).to fun D δ M ⟨c, s, F, EF, xl, C, el, q⟩ => ⟨c, s, F, xl, C, ta.mono q fun ws s1 q1 ds M1 C1 v1 => by
    revert q1; split <;> intro q1
    · cases v1.plain rfl
      exact el.nx _ _ _ ((C1.setV i (some _) (some _) fun _ h => by cases h; rfl).setV j (some _) (some _) fun _ h => by cases h; rfl) q1
    · exact q1.elim⟩
theorem fs_par3 {i j l : Nat} {x y z : Str} {a b d : Expr} {ta : FA} {px py pz pt : Pos} {kt k2 pt2} (hc : X.calm = true) (hN : X.N.Nodup) (hi : X.N[i]? = some x) (hj : X.N[j]? = some y) (hl : X.N[l]? = some z) (hij : i ≠ j) (hil : i ≠ l) (hjl : j ≠ l)
    (hx : X.env.scope.names.lookup x = some .local) (hy : X.env.scope.names.lookup y = some .local) (hz : X.env.scope.names.lookup z = some .local) (ha : QA X [a, b, d] (lFA E ta))
    (hw : swappedStores [.Tuple [.Name x px, .Name y py, .Name z pz] kt pt] (.Tuple [a, b, d] k2 pt2) X.env = pure (some [x, y, z]))
    (hs : swapsWithSole [.Tuple [.Name x px, .Name y py, .Name z pz] kt pt] (.Tuple [a, b, d] k2 pt2) pos.line X.env = pure false := by rfl) :
    QS X (.Assign [.Tuple [.Name x px, .Name y py, .Name z pz] kt pt] (.Tuple [a, b, d] k2 pt2) pos) (lFS E (fPar3 i j l ta)) :=
  (qs_par3 hc hN hi hj hl hij hil hjl hx hy hz ha hw hs).to fun D δ M ⟨c, s, F, EF, xl, C, el, q⟩ => ⟨c, s, F, xl, C, ta.mono q fun ws s1 q1 ds M1 C1 v1 => by
    revert q1; split <;> intro q1
    · cases v1.plain rfl
      exact el.nx _ _ _ (((C1.setV i (some _) (some _) fun _ h => by cases h; rfl).setV j (some _) (some _) fun _ h => by cases h; rfl).setV l (some _) (some _) fun _ h => by cases h; rfl) q1
    · exact q1.elim⟩
theorem fss_cons {st : Stmt} {rest : List Stmt} {t u : FS} (h1 : QS X st (lFS E t)) (h2 : QSs X rest (lFS E u)) : QSs X (st :: rest) (lFS E (fSeq t u)) :=
  (qss_cons h1 h2).to fun D δ M ⟨c, s, F, EF, xl, C, el, q⟩ => ⟨c, s, F, { EF with nx := fun s1 => u.run F EF s1 }, xl, C, ⟨fun s1 δ1 M1 C1 q1 => .here ⟨c, s1, F, EF, xl, C1, el, q1⟩, el.rt, el.bk, el.ct⟩, q⟩
theorem fss_one {st : Stmt} {t : FS} (h1 : QS X st (lFS E t)) : QSs X [st] (lFS E t) :=
  (qss_one h1).to fun D δ M ⟨c, s, F, EF, xl, C, el, q⟩ => ⟨c, s, F, EF, xl, C, ⟨fun s1 δ1 M1 C1 q1 => .here (el.nx _ _ _ C1 q1), el.rt, el.bk, el.ct⟩, q⟩
theorem qss_ghs {ss : List Stmt} {t : DS} (h : QSs X ss t) : QSs X ss (dGhS t) := by
  refine ⟨fun pins s σ H D I h0 => ?_⟩
  obtain ⟨δ, M, sr, m, δ2, M2, imp, q⟩ := h0
  obtain ⟨H2, f, s2, m2⟩ := imp X.prog X.w X.K H s.heap σ I.hok sr m
  exact h.run pins s σ H2 D (f.inv I) ⟨δ2, M2, s2, m2, t.mono q (lEnds_ext f.ext)⟩
def dGhP (t : DS) : DS := ⟨fun E δ M => t.run { E with nx := fun δ' M' => Gh δ' M' E.nx } δ M, fun h k => t.mono h ⟨fun _ _ q => q.mono k.nx, k.rt, k.bk, k.ct⟩⟩
theorem qs_ghp {st : Stmt} {t : DS} (h1 : QS X st t) : QS X st (dGhP t) := by
  refine ⟨fun pins s σ H D I h => ?_⟩
  obtain ⟨δ, M, sr, m, q⟩ := h
  refine thn (run_s h1 I sr m q) fun f s1 q => ?_
  cases f with
  | next =>
    obtain ⟨σ', H', δ', M', I', x, s2, m2, q⟩ := q
    obtain ⟨H2, δ2, M2, I2, x2, sr2, m3, q⟩ := nx_gh I' x s2 m2 q
    exact ⟨σ', H2, I2, q σ' H2 x2 sr2 m3⟩
  | ret v => exact sp_of (f := .ret v) q
  | brk => exact sp_of (f := .brk) q
  | cont => exact sp_of (f := .cont) q
theorem fss_frz {ss : List Stmt} {t : FS} (i : Nat) (h : QSs X ss (lFS E t)) : QSs X ss (lFS E (fFrz i t)) :=
  (qss_ghs h).to fun D δ M ⟨c, s, F, EF, xl, C, el, q⟩ => by
    dsimp only [fFrz] at q
    split at q
    · rename_i j us hj
      obtain ⟨e, a, h1, h2, h3⟩ := C.own i _ _ _ hj rfl
      refine Gh.by ((Imp.frz h2).trans (Imp.view put_same h1)) (.here ⟨c, _, F, EF, xl, ?_, el, q⟩)
      have C2 : Conc c (s.set i none) (δ.set i none) (put M a (.rol (us.map (U.d c.p)))) := by
        have Ca := C.setV i none none fun _ h => by cases h
        refine ⟨Ca.len, Ca.val, fun k w j' o g1 g2 => ?_, Ca.inj, ⟨fun b o g => ?_, fun g => ?_⟩, Ca.pm0⟩
        · obtain ⟨e1, b, g3, g4, g5⟩ := Ca.own k w j' o g1 g2
          refine ⟨e1, b, g3, ?_, g5⟩
          rw [put_ne]
          · exact g4
          · intro z
            subst z
            by_cases hk : k = i
            · subst hk
              rw [show (s.set k none).v = s.v.set k none from rfl] at g1
              rw [List.getElem?_set_self (List.getElem?_eq_some_iff.mp hj).1] at g1
              cases g1
            · rw [show (s.set i none).v = s.v.set i none from rfl, List.getElem?_set_ne (Ne.symm hk)] at g1
              rw [List.getElem?_set_ne (Ne.symm hk)] at g3
              exact hk (C.inj k i _ _ _ _ b g1 hj g2 rfl g3 h1)
        · rw [put_ne (fun z => by rw [z, h3.m0] at g; cases g)]; exact C.fr.m0 b o g
        · obtain ⟨o2, a', b'⟩ := C.fr.pen g
          exact ⟨o2, by rw [put_ne (fun z => h3.pen g z.symm)]; exact a', b'⟩
      have C3 := C2.setV i (some (.lst us)) (some (.lst (us.map (U.d c.p)))) fun _ h => by cases h; rw [U.d_lst]
      rw [show (s.set i none).set i (Option.map W.v (some (U.lst us))) = s.set i (some (.v (.lst us))) from by
        unfold FSt.set; rw [List.set_set]; rfl, List.set_set] at C3
      exact C3
    · exact .here ⟨c, s, F, EF, xl, C, el, q⟩
end

/-! ### promises, calls, raise -/
abbrev FSp := List U → Nat → (U → Nat → Prop) → XF → Prop
/-- what stands behind a call -/
def Aft (hp : Bool) (p : Addr) (M : DM) (n : Nat) (R : DM → Prop) : Prop := match hp with
  | true => ∀ o, penO n o → R (put M p o)
  | false => R M
def dsp (T : List Tb) (sp : FSp) : DSp := fun ds M Q X => ((∀ t ∈ T, ∃ P, M P = some (.tab t.1 t.2)) ∧ Clean T M) ∧ ∃ (p : Addr) (hp : Bool) (n : Nat) (us : List U), ds = us.map (U.d p) ∧ (hp = true ∧ Pen M p n) ∧
  ∃ (Q0 : U → Nat → Prop) (X0 : XF), (∀ u n', Q0 u n' → Aft hp p M n' fun M' => Q (u.d p) M') ∧ (∀ x n', X0 x n' → Aft hp p M n' fun M' => X x M') ∧ sp us n Q0 X0
def fStart (n : Nat) (us : List U) : List (Option W) := us.map (fun u => some (.v u)) ++ List.replicate (n - us.length) none
theorem Aft.out {c : FC} {M M' : DM} {n : Nat} {R : DM → Prop} (h0 : ∀ a, c.M0 a = if c.hp = true ∧ a = c.p then none else M a) (f : Frame c n M') (h : Aft c.hp c.p M n R) : ∃ M2, Sub M2 M' ∧ R M2 := by
  cases hp : c.hp with
  | false =>
    rw [hp] at h
    refine ⟨M, fun a o e => f.m0 a o ?_, h⟩
    rw [h0, if_neg (by rw [hp]; simp)]; exact e
  | true =>
    rw [hp] at h
    obtain ⟨o, e, po⟩ := f.pen hp
    refine ⟨_, fun a u g => ?_, h o po⟩
    by_cases ha : a = c.p
    · subst ha; rw [put_same] at g; cases g; exact e
    · rw [put_ne ha] at g
      refine f.m0 a u ?_
      rw [h0, if_neg (fun z => ha z.2)]; exact g
theorem conc_start {c : FC} {M : DM} {N n : Nat} {us : List U} (h0 : ∀ a, c.M0 a = if c.hp = true ∧ a = c.p then none else M a) (hp : c.hp = true ∧ Pen M c.p n) : Conc c ⟨fStart N us, n⟩ (dStart N (us.map (U.d c.p))) M := by
  have noO : ∀ {i : Nat} {w : W}, (fStart N us)[i]? = some (some w) → ∃ u, us[i]? = some u ∧ w = .v u := fun {i w} e => by
    unfold fStart at e
    by_cases hi : i < us.length
    · rw [List.getElem?_append_left (by simpa using hi), List.getElem?_map] at e
      cases q : us[i]? with
      | none => rw [q] at e; cases e
      | some u => rw [q] at e; cases e; exact ⟨u, rfl, rfl⟩
    · rw [List.getElem?_append_right (by simpa using hi), List.getElem?_replicate] at e
      split at e <;> cases e
  refine ⟨?_, fun i u e => ?_, fun i w j o e1 e2 => ?_, fun i j w w' q q' a e1 e2 e3 e4 => ?_, ⟨fun a o e => ?_, fun _ => hp.2⟩, ⟨hp.1, fun h => ?_⟩⟩
  · unfold fStart dStart; simp
  · obtain ⟨u', h1, h2⟩ := noO e
    cases h2
    unfold dStart
    rw [List.getElem?_append_left (by rw [List.length_map, List.length_map]; exact (List.getElem?_eq_some_iff.mp h1).1), List.getElem?_map, List.getElem?_map, h1]
    rfl
  · obtain ⟨u', h1, h2⟩ := noO e1
    subst h2; cases e2
  · obtain ⟨u', h1, h2⟩ := noO e1
    subst h2; cases e3
  · rw [h0] at e
    split at e
    · cases e
    · exact e
  · rw [h0, if_pos ⟨h, rfl⟩]
/-- a def's promise, from its reading -/
theorem fpure {T : List Tb} {sp : FSp} {k N : Nat} {t : FS} (h : ∀ us n Q X, us.length = k → sp us n Q X → t.run X { nx := fun s => Q .non s.n, rt := Q } ⟨fStart N us, n⟩) :
    ∀ ds M Q X, ds.length = k → dsp T sp ds M Q X → (lFS ⟨wkX X, T⟩ t).run (spEnds Q) (dStart N ds) M := fun ds M Q X hl ⟨⟨tb, cl⟩, p, hp, n, us, e, pen, Q0, X0, hQ, hX, q⟩ => by
  subst e
  rw [List.length_map] at hl
  have h0 : ∀ a, (⟨p, hp, fun a => if hp = true ∧ a = p then none else M a⟩ : FC).M0 a = if hp = true ∧ a = p then none else M a := fun a => rfl
  refine ⟨⟨p, hp, fun a => if hp = true ∧ a = p then none else M a⟩, _, X0, { nx := fun s => Q0 .non s.n, rt := Q0 }, ⟨fun x n' M' f q => ?_, fun t ht => ?_, fun nT a o ha => ?_⟩, conc_start h0 pen, ⟨fun s δ M' C q => ?_, fun u n' M' f q => ?_, fun _ _ _ _ z => z.elim, fun _ _ _ _ z => z.elim⟩, h us n _ _ hl q⟩
  · obtain ⟨M2, s, q⟩ := Aft.out h0 f (hX _ _ q)
    exact ⟨M2, s, q⟩
  · obtain ⟨P, hP⟩ := tb t ht
    refine ⟨P, ?_⟩
    rw [h0, if_neg]
    · exact hP
    · intro z
      obtain ⟨o, e1, cs, k, r, e2, _⟩ := pen.2
      rw [z.2, e1, e2] at hP
      cases hP
  · rw [h0] at ha
    split at ha
    · cases ha
    · exact cl nT a o ha
  · obtain ⟨M2, s, q⟩ := Aft.out h0 C.fr (hQ _ _ q)
    rw [U.d] at q
    exact ⟨M2, s, q⟩
  · obtain ⟨M2, s, q⟩ := Aft.out h0 f (hQ _ _ q)
    exact ⟨M2, s, q⟩
def fCall (sp : FSp) (t : FA) : FE where
  run X s Q := t.run X s fun ws s1 => ∃ us, plains ws = some us ∧ ∃ (Q0 : U → Nat → Prop) (X0 : XF), (∀ u n, Q0 u n → Q (.v u) (s1.pn n)) ∧ (∀ x n, X0 x n → X x n) ∧ sp us s1.n Q0 X0
  mono h k := t.mono h fun ws s1 ⟨us, e, Q0, X0, h1, h2, h3⟩ => ⟨us, e, Q0, X0, fun u n q => k _ _ (h1 u n q), h2, h3⟩
theorem fcall_go {sp : FSp} {us : List U} {s1 : FSt} {X : XF} {Q : W → FSt → Prop} (h : sp us s1.n (fun u n => Q (.v u) (s1.pn n)) X) : ∃ (Q0 : U → Nat → Prop) (X0 : XF), (∀ u n, Q0 u n → Q (.v u) (s1.pn n)) ∧ (∀ x n, X0 x n → X x n) ∧ sp us s1.n Q0 X0 := ⟨_, X, fun _ _ q => q, fun _ _ q => q, h⟩
theorem aft_of {c : FC} {s : FSt} {δ : DSt} {M : DM} {n : Nat} {R : DM → Prop} (C : Conc c s δ M) (h : ∀ M', Conc c (s.pn n) δ M' → R M') : Aft c.hp c.p M n R := by
  cases hp : c.hp with
  | false =>
    show R M
    refine h M (C.pn n M ⟨C.fr.m0, fun z => by rw [hp] at z; cases z⟩ fun _ _ _ e => e)
  | true =>
    intro o po
    refine h _ (C.pn n _ ⟨fun a u e => ?_, fun _ => ⟨o, put_same, po⟩⟩ fun a u ow e => ?_)
    · rw [put_ne (fun z => by rw [z, C.pm0.2 hp] at e; cases e)]; exact C.fr.m0 a u e
    · rw [put_ne (ow.pen hp)]; exact e
/-- the objects, as far as a call may know them -/
theorem conc_call {c : FC} {s : FSt} {δ : DSt} {M : DM} {F : XF} {E : XE} {T : List Tb} (hT : T = [] ∨ T = E.T) (xl : XLk c F E) (C : Conc c s δ M) : ∃ M2, Sub M2 M ∧ Conc c s δ M2 ∧ (∀ t ∈ T, ∃ P, M2 P = some (.tab t.1 t.2)) ∧ Clean T M2 := by
  by_cases hn : T = []
  · subst hn
    exact ⟨M, .refl M, C, fun t ht => (List.not_mem_nil ht).elim, fun z => (z rfl).elim⟩
  · rcases hT with e | e
    · exact (hn e).elim
    · subst e
      have C2 := C.clean xl.2.2 hn
      exact ⟨_, someTab_sub, C2, fun t ht => let ⟨P, h⟩ := xl.2.1 t ht; ⟨P, C2.fr.m0 _ _ h⟩, clean_some⟩
theorem callQ_of {sp : FSp} {c : FC} {s1 : FSt} {δ : DSt} {M1 : DM} {us : List U} {F : XF} {E : XE} {T : List Tb} (hT : T = [] ∨ T = E.T) {Q : W → FSt → Prop} {R : D → DM → Prop} (xl : XLk c F E) (C1 : Conc c s1 δ M1)
    (h : ∃ (Q0 : U → Nat → Prop) (X0 : XF), (∀ u n, Q0 u n → Q (.v u) (s1.pn n)) ∧ (∀ x n, X0 x n → F x n) ∧ sp us s1.n Q0 X0) (k : ∀ u n M', Conc c (s1.pn n) δ M' → Q (.v u) (s1.pn n) → R (u.d c.p) M') : callQ (dsp T sp) (us.map (U.d c.p)) M1 R E.X := by
  obtain ⟨Q0, X0, h1, h2, h3⟩ := h
  obtain ⟨M2, sub, C2, t1, t2⟩ := conc_call hT xl C1
  exact .gh ⟨_, M2, .sub sub, ⟨t1, t2⟩, c.p, c.hp, s1.n, us, rfl, ⟨C2.pm0.1, C2.fr.pen C2.pm0.1⟩, Q0, X0, fun u n q => aft_of C2 fun M' C' => k u n M' C' (h1 u n q), fun x n q => aft_of C2 fun M' C' => xl.1 x n M' C'.fr (h2 x n q), h3⟩
section
variable {X : Cx} {x : Str} {p pos : Pos} {e : Expr} {es : List Expr} {t : FA} {k : Nat} {ps : List Str} {sp : FSp} {E : XE} {T : List Tb} {gb : Bool}
theorem fe_fn (hT : T = [] ∨ T = E.T) (G : Good gb X.prog X.w X.K X.mg X.base x k ps (dsp T sp)) (hr : Rm gb k X.A) (lt : Lets X E.X) (hg : Gl X x) (ha : QA X (e :: es) (lFA E t)) (hi : t.Is ps.length) (hn : (e :: es).length = ps.length := by rfl)
    (hdb : (x == ("__debug__" : Str)) = false := by decide) (he : starEach (e :: es) X.env = (false, eval e X.env) :: starEach es X.env := by rfl) (hpl : (backTo pos (starEach es X.env)).any (·.1) = false := by rfl) :
    QE X (.Call (.Name x p) (e :: es) [] pos) (lFE E (fCall sp t)) :=
  (qe_fn G hr lt hg ha hi.d hn hdb he hpl).to fun δ M Q ⟨c, s, F, xl, C, q⟩ => ⟨c, s, F, xl, C, t.mono q fun ws s1 ⟨us, h1, q1⟩ ds M1 C1 v1 => by
    have e := v1.plain h1
    subst e
    exact callQ_of hT (Q := fun w s' => ∀ (d : D) (M' : DM), Conc c s' δ M' → VRel c δ M' w d → Q d M') xl C1 q1 fun u n M' C' q => q _ M' C' rfl⟩
theorem fe_call0 (hT : T = [] ∨ T = E.T) (G : Good gb X.prog X.w X.K X.mg X.base x k [] (dsp T sp)) (hr : Rm gb k X.A) (lt : Lets X E.X) (hg : Gl X x) (hdb : (x == ("__debug__" : Str)) = false := by decide) : QE X (.Call (.Name x p) [] [] pos) (lFE E (fCall sp faNil)) :=
  (qe_call0 G hr lt hg hdb).to fun δ M Q ⟨c, s, F, xl, C, q⟩ => by
    obtain ⟨us, h1, q1⟩ := q
    cases h1
    exact callQ_of hT (us := []) (Q := fun w s' => ∀ (d : D) (M' : DM), Conc c s' δ M' → VRel c δ M' w d → Q d M') xl C q1 fun u n M' C' q => q _ M' C' rfl
theorem fs_raise {x m : Str} {j : Nat} {p p2 pos pos2 : Pos} (ex : ErrC X.K X.mg x) (lt : Lets X E.X) (hc : X.calm = true) (hg : Gl X x) (hdb : (x == ("__debug__" : Str)) = false := by decide) :
    QS X (.Raise (some (.Call (.Name x p) [.Constant (.str m) j p2] [] pos)) none pos2) (lFS E (fRaise x)) :=
  (qs_raise ex lt hc hg hdb).to fun D δ M ⟨c, s, F, EF, xl, C, el, q⟩ => xl.1 x s.n M C.fr q
end

/-! ### loops -/
def whF (c : FT) (b : FS) (X : XF) (E : FEnds) : Nat → FSt → Prop
  | 0, _ => False
  | n + 1, s => c.run X s fun k s1 => bcase k (b.run X { E with nx := whF c b X E n, ct := whF c b X E n } s1) (E.nx s1)
theorem whF_mono {c : FT} {b : FS} {X : XF} {E E' : FEnds} (k : E.Le E') : ∀ (n : Nat) (s : FSt), whF c b X { E with bk := E.nx } n s → whF c b X { E' with bk := E'.nx } n s
  | 0, _, h => h
  | n + 1, s, h => c.mono h fun _ M1 q => bcase_mono q (fun q => b.mono q ⟨whF_mono k n, k.rt, k.nx, whF_mono k n⟩) (k.nx _)
def fWhile (c : FT) (b : FS) : FS := ⟨fun X E s => ∃ n, whF c b X { E with bk := E.nx } n s, fun ⟨n, h⟩ k => ⟨n, whF_mono k n _ h⟩⟩
def forF (g : FG) (b : FS) (X : XF) (E : FEnds) : List U → FSt → Prop
  | [], s => E.nx s
  | x :: xs, s => g.run X x s fun s1 => b.run X { E with nx := forF g b X E xs, ct := forF g b X E xs, bk := E.nx } s1
theorem forF_mono {g : FG} {b : FS} {X : XF} {E E' : FEnds} (k : E.Le E') : ∀ (xs : List U) (s : FSt), forF g b X E xs s → forF g b X E' xs s
  | [], _, h => k.nx _ h
  | x :: xs, s, h => g.mono h fun s1 q => b.mono q ⟨forF_mono k xs, k.rt, k.nx, forF_mono k xs⟩
def fFor (w : FI) (g : FG) (b : FS) : FS := ⟨fun X E s => w.run X s fun us s1 => forF g b X E us s1, fun h k => w.mono h fun us s1 q => forF_mono k us _ q⟩
section
variable {X : Cx} {pos : Pos} {E : XE}
theorem fs_while {cd : Expr} {body : List Stmt} {tc : FT} {tb : FS} (hp : PassesOwn (model X.prog X.w) X.A X.env X.xe) (hc : QT X cd (lFT E tc)) (hb : QSs X body (lFS E tb)) : QS X (.While cd body [] pos) (lFS E (fWhile tc tb)) :=
  (qs_while hp hc hb).to fun D δ M ⟨c, s, F, EF, xl, C, el, n, q⟩ => by
    have key : ∀ (n : Nat) (s : FSt) (δ : DSt) (M : DM), Conc c s δ M → whF tc tb F { EF with bk := EF.nx } n s → whRun (lFT E tc) (lFS E tb) { D with bk := D.nx } n δ M := fun n => by
      induction n with
      | zero => exact fun _ _ _ _ q => q
      | succ n ih =>
        intro s δ M C q
        exact ⟨c, s, F, xl, C, tc.mono q fun k s1 q1 M1 C1 => bcase_mono q1 (fun q => ⟨c, s1, F, { EF with nx := whF tc tb F { EF with bk := EF.nx } n, ct := whF tc tb F { EF with bk := EF.nx } n, bk := EF.nx }, xl, C1, ⟨ih, el.rt, el.nx, ih⟩, q⟩) fun q => el.nx _ _ _ C1 q⟩
    exact ⟨n, key n s δ M C q⟩
theorem fs_for {tg iter : Expr} {body : List Stmt} {w : FI} {g : FG} {tb : FS} (hp : PassesOwn (model X.prog X.w) X.A X.env X.xe) (hc : X.calm = true) (hi : QI X tg iter (lFI E w)) (hg : QG X tg (lFG E g)) (hb : QSs X body (lFS E tb))
    (hs : ∀ x, foldedSetIterable iter X.env x = pure x := by intro _; rfl) : QS X (.For tg iter body [] pos) (lFS E (fFor w g tb)) :=
  (qs_for hp hc hi hg hb hs).to fun D δ M ⟨c, s, F, EF, xl, C, el, q⟩ => ⟨c, s, F, xl, C, w.mono q fun us s1 q1 M1 C1 => by
    have key : ∀ (us : List U) (s : FSt) (δ : DSt) (M : DM), Conc c s δ M → forF g tb F EF us s → forRun (lFG E g) (lFS E tb) D (fun _ => True) (us.map (U.d c.p)) δ M := fun us => by
      induction us with
      | nil => exact fun s δ M C q => ⟨trivial, el.nx _ _ _ C q⟩
      | cons u us ih =>
        intro s δ M C q
        exact ⟨trivial, c, s, F, u, xl, C, rfl, g.mono q fun s1 q1 δ1 M1 C1 => ⟨c, s1, F, { EF with nx := forF g tb F EF us, ct := forF g tb F EF us, bk := EF.nx }, xl, C1, ⟨ih, el.rt, el.nx, ih⟩, q1⟩⟩
    exact key us s1 δ M1 C1 q1⟩
end
end LD

/-! LF3: operators, built-ins, walks, comprehensions, methods -/
namespace LD
open PySem PySem.Spec PyProof.Rows L2

def listW : W → Option (List U)
  | .v (.lst us) => some us
  | .ol _ us => some us
  | _ => none
def seqW : W → Option (List U)
  | .v (.lst us) => some us
  | .v (.tup us) => some us
  | .ol _ us => some us
  | _ => none
section
variable {c : FC} {δ : DSt} {M : DM} {w : W} {d : D} {us : List U}
theorem listW_isL (v : VRel c δ M w d) (h : listW w = some us) : isL M d (us.map (U.d c.p)) := by
  unfold listW at h
  split at h
  · cases h; have := v.v; rw [U.d_lst] at this; subst this; exact rfl
  · cases h; obtain ⟨a, e, _, h2, _⟩ := v; subst e; exact .inl h2
  · cases h
theorem seqW_isSeq (v : VRel c δ M w d) (h : seqW w = some us) : isSeq M d (us.map (U.d c.p)) := by
  unfold seqW at h
  split at h
  · cases h; have := v.v; rw [U.d_lst] at this; subst this; exact rfl
  · cases h; have := v.v; rw [U.d_tup] at this; subst this; exact rfl
  · cases h; obtain ⟨a, e, _, h2, _⟩ := v; subst e; exact .inl h2
  · cases h
theorem vstr {x : Str} (v : VRel c δ M (.v (.str x)) d) : d = .str x := by have := v.v; rw [U.d] at this; exact this
theorem vnon (v : VRel c δ M (.v .non) d) : d = .non := by have := v.v; rw [U.d] at this; exact this
theorem vtup (v : VRel c δ M (.v (.tup us)) d) : d = .tup (us.map (U.d c.p)) := by have := v.v; rw [U.d_tup] at this; exact this
theorem vlst (v : VRel c δ M (.v (.lst us)) d) : d = .lst (us.map (U.d c.p)) := by have := v.v; rw [U.d_lst] at this; exact this
end

/-! ### data -/
mutual
def toPy : U → PyData
  | .non => .none
  | .bl b => .bool b
  | .int i => .int i
  | .str x => .str x
  | .tup us => .tuple (toPys us)
  | .lst us => .list (toPys us)
  | .dct _ => .none
  | .pen => .none
def toPys : List U → List PyData
  | [] => []
  | u :: us => toPy u :: toPys us
end
mutual
def noD : U → Bool
  | .tup us => noDs us
  | .lst us => noDs us
  | .dct _ => false
  | .pen => false
  | _ => true
def noDs : List U → Bool
  | [] => true
  | u :: us => noD u && noDs us
end
mutual
theorem dat_toPy {M : DM} {p : Addr} : ∀ u : U, noD u = true → dat M (toPy u) (u.d p)
  | .non, _ => by rw [toPy, dat, U.d]
  | .bl b, _ => by rw [toPy, dat, U.d]
  | .int b, _ => by rw [toPy, dat, U.d]
  | .str b, _ => by rw [toPy, dat, U.d]
  | .tup us, h => by
    rw [noD] at h
    rw [toPy, dat, U.d]
    exact ⟨_, rfl, dats_toPy us h⟩
  | .lst us, h => by
    rw [noD] at h
    rw [toPy, dat, U.d]
    exact ⟨_, rfl, dats_toPy us h⟩
  | .dct _, h => by rw [noD] at h; cases h
  | .pen, h => by rw [noD] at h; cases h
theorem dats_toPy {M : DM} {p : Addr} : ∀ us : List U, noDs us = true → dats M (toPys us) (Us.d p us)
  | [], _ => by rw [toPys, dats, Us.d]
  | u :: us, h => by
    rw [noDs, Bool.and_eq_true] at h
    rw [toPys, dats, Us.d]
    exact ⟨_, _, rfl, dat_toPy u h.1, dats_toPy us h.2⟩
end
/-- what == and repr may be asked of -/
structure Sz (n w : Nat) (u : U) : Prop where
  nd : noD u = true
  lay : (toPy u).canLay0 = true
  sho : (toPy u).showable = true
  dep : (toPy u).depth ≤ n
  len : (toPy u).shown.length ≤ w
def pyW : W → U
  | .v u => u
  | .ol _ us => .lst us
  | .od _ kvs => .dct kvs
theorem dat_pyW {c : FC} {δ : DSt} {M : DM} {w : W} {d : D} (v : VRel c δ M w d) (h : noD (pyW w) = true) : dat M (toPy (pyW w)) d := by
  cases w with
  | v u => have := v.v; subst this; exact dat_toPy u h
  | ol i us =>
    obtain ⟨a, e, _, h2, _⟩ := v
    subst e
    rw [pyW, noD] at h
    rw [pyW, toPy, dat]
    refine ⟨_, .inl h2, ?_⟩
    rw [← Us.d_map]
    exact dats_toPy us h
  | od i us => rw [pyW, noD] at h; cases h

/-! ### arithmetic -/
def addF : FO2 where
  run w u Q := match w, u with
    | .v (.int i), .v (.int j) => Q (.int (i + j))
    | .v (.bl i), .v (.bl j) => Q (.int (b2i i + b2i j))
    | .v (.int i), .v (.bl j) => Q (.int (i + b2i j))
    | .v (.bl i), .v (.int j) => Q (.int (b2i i + j))
    | .v (.str i), .v (.str j) => i.length + j.length ≤ sizeLine ∧ Q (.str (i ++ j))
    | .v (.tup i), .v (.tup j) => i.length + j.length ≤ sizeLine ∧ Q (.tup (i ++ j))
    | w, u => ∃ a b, listW w = some a ∧ listW u = some b ∧ a.length + b.length ≤ sizeLine ∧ Q (.lst (a ++ b))
  mono {w u Q Q'} h k := by
    revert h
    split <;> intro h
    · exact k _ h
    · exact k _ h
    · exact k _ h
    · exact k _ h
    · exact ⟨h.1, k _ h.2⟩
    · exact ⟨h.1, k _ h.2⟩
    · obtain ⟨a, b, h1, h2, h3, h4⟩ := h
      exact ⟨a, b, h1, h2, h3, k _ h4⟩
theorem ok_add : OpG addF oAdd := fun c δ M w u d e Q v1 v2 q => by
  dsimp only [addF] at q
  split at q
  · cases vint v1; cases vint v2; exact .here ⟨.int _, by rw [U.d], q, rfl⟩
  · cases vbl v1; cases vbl v2; exact .here ⟨.int _, by rw [U.d], q, rfl⟩
  · cases vint v1; cases vbl v2; exact .here ⟨.int _, by rw [U.d], q, rfl⟩
  · cases vbl v1; cases vint v2; exact .here ⟨.int _, by rw [U.d], q, rfl⟩
  · cases vstr v1; cases vstr v2; exact ⟨q.1, .here ⟨.str _, by rw [U.d], q.2, rfl⟩⟩
  · cases vtup v1; cases vtup v2
    refine ⟨by rw [List.length_map, List.length_map]; exact q.1, .here ⟨.tup _, ?_, q.2, rfl⟩⟩
    rw [U.d_tup, List.map_append]
  · obtain ⟨a, b, h1, h2, h3, h4⟩ := q
    have l1 := listW_isL v1 h1
    have l2 := listW_isL v2 h2
    have key : ∃ a b, isL M d a ∧ isL M e b ∧ a.length + b.length ≤ sizeLine ∧ ∀ p, M p = none → GhV [D.ref p] (put M p (.lst (a ++ b))) fun ds M2 => ∃ x, ds = [U.d c.p x] ∧ Q x ∧ M2 = M := by
      refine ⟨_, _, l1, l2, by rw [List.length_map, List.length_map]; exact h3, fun p hp => ⟨_, _, impV_frz hp, _, ?_, h4, rfl⟩⟩
      rw [U.d_lst, List.map_append]
    cases d with
    | lst ds => exact key
    | ref r => exact key
    | _ => exact l1.elim
def ii (f : Int → Int → (U → Prop) → Prop) (m : ∀ {i j Q Q'}, f i j Q → (∀ x, Q x → Q' x) → f i j Q') : FO2 where
  run w u Q := match w, u with
    | .v (.int i), .v (.int j) => f i j Q
    | _, _ => False
  mono {w u Q Q'} h k := by
    revert h
    split <;> intro h
    · exact m h k
    · exact h
def subF : FO2 where
  run w u Q := match w, u with
    | .v (.int i), .v (.int j) => Q (.int (i - j))
    | .v (.bl i), .v (.bl j) => Q (.int (b2i i - b2i j))
    | _, _ => False
  mono {w u Q Q'} h k := by
    revert h
    split <;> intro h <;> first | exact k _ h | exact h
theorem ok_sub : OpG subF oSub := fun c δ M w u d e Q v1 v2 q => by
  dsimp only [subF] at q
  split at q
  · cases vint v1; cases vint v2; exact .here ⟨.int _, by rw [U.d], q, rfl⟩
  · cases vbl v1; cases vbl v2; exact .here ⟨.int _, by rw [U.d], q, rfl⟩
  · exact q.elim
def mulF : FO2 where
  run w u Q := match w, u with
    | .v (.int i), .v (.int j) => MulOk i j ∧ Q (.int (i * j))
    | .v (.str z), .v (.int k) => PySem.MulOk z k ∧ Q (.str (Txt.mul z k))
    | _, _ => False
  mono {w u Q Q'} h k := by
    revert h
    split <;> intro h <;> first | exact ⟨h.1, k _ h.2⟩ | exact h
theorem ok_mul : OpG mulF oMul := fun c δ M w u d e Q v1 v2 q => by
  dsimp only [mulF] at q
  split at q
  · cases vint v1; cases vint v2; exact ⟨q.1, .here ⟨.int _, by rw [U.d], q.2, rfl⟩⟩
  · cases vstr v1; cases vint v2; exact ⟨q.1, .here ⟨.str _, by rw [U.d], q.2, rfl⟩⟩
  · exact q.elim
def fdivF : FO2 := ii (fun i j Q => CDivW i j ∧ Q (.int (i / j))) fun h k => ⟨h.1, k _ h.2⟩
theorem ok_fdiv : OpG fdivF oFdiv := fun c δ M w u d e Q v1 v2 q => by
  dsimp only [fdivF, ii] at q
  split at q
  · cases vint v1; cases vint v2; exact ⟨q.1, .here ⟨.int _, by rw [U.d], q.2, rfl⟩⟩
  · exact q.elim
def modF : FO2 := ii (fun i j Q => 0 < j ∧ Q (.int (i % j))) fun h k => ⟨h.1, k _ h.2⟩
theorem ok_mod : OpG modF oMod := fun c δ M w u d e Q v1 v2 q => by
  dsimp only [modF, ii] at q
  split at q
  · cases vint v1; cases vint v2; exact ⟨q.1, .here ⟨.int _, by rw [U.d], q.2, rfl⟩⟩
  · exact q.elim
def powF : FO2 := ii (fun i j Q => CPow i j ∧ Q (.int (i ^ j.toNat))) fun h k => ⟨h.1, k _ h.2⟩
theorem ok_pow : OpG powF oPow := fun c δ M w u d e Q v1 v2 q => by
  dsimp only [powF, ii] at q
  split at q
  · cases vint v1; cases vint v2; exact ⟨q.1, .here ⟨.int _, by rw [U.d], q.2, rfl⟩⟩
  · exact q.elim
def negF : FO1 where
  run w Q := match w with
    | .v (.int i) => Q (.int (-i))
    | _ => False
  mono {w Q Q'} h k := by
    revert h
    split <;> intro h <;> first | exact k _ h | exact h
theorem ok_neg : Op1 negF oNeg := fun c δ M w d Q R v1 q k => by
  dsimp only [negF] at q
  split at q
  · cases vint v1
    have := k _ q; rw [U.d] at this; exact this
  · exact q.elim
/-! comparisons -/
def ordF (f : Int → Int → Bool) : FO2 := ii (fun i j Q => Q (.bl (f i j))) fun h k => k _ h
theorem ok_ord {f : Int → Int → Bool} : Op0 (ordF f) (oOrd f) := fun c δ M w u d e Q R v1 v2 q k => by
  dsimp only [ordF, ii] at q
  split at q
  · cases vint v1; cases vint v2
    have := k _ q; rw [U.d] at this; exact this
  · exact q.elim
abbrev ltF : FO2 := ordF fun i j => decide (i < j)
abbrev leF : FO2 := ordF fun i j => decide (i ≤ j)
abbrev gtF : FO2 := ordF fun i j => decide (i > j)
abbrev geF : FO2 := ordF fun i j => decide (i ≥ j)
theorem ok_lt : Op0 ltF oLt := ok_ord
theorem ok_le : Op0 leF oLe := ok_ord
theorem ok_gt : Op0 gtF oGt := ok_ord
theorem ok_ge : Op0 geF oGe := ok_ord
theorem dat_int {M : DM} {i : Int} : ∀ {t : PyData}, dat M t (.int i) → t = .int i
  | .none, h => by rw [dat] at h; cases h
  | .bool b, h => by rw [dat] at h; cases h
  | .int j, h => by rw [dat] at h; cases h; rfl
  | .str b, h => by rw [dat] at h; cases h
  | .list ts, h => by rw [dat] at h; obtain ⟨ds, h1, h2⟩ := h; exact h1.elim
  | .tuple ts, h => by rw [dat] at h; obtain ⟨ds, h1, h2⟩ := h; cases h1
  | .dict _, h => by rw [dat] at h; exact h.elim
theorem dat_str {M : DM} {i : Str} : ∀ {t : PyData}, dat M t (.str i) → t = .str i
  | .none, h => by rw [dat] at h; cases h
  | .bool b, h => by rw [dat] at h; cases h
  | .str j, h => by rw [dat] at h; cases h; rfl
  | .int b, h => by rw [dat] at h; cases h
  | .list ts, h => by rw [dat] at h; obtain ⟨ds, h1, h2⟩ := h; exact h1.elim
  | .tuple ts, h => by rw [dat] at h; obtain ⟨ds, h1, h2⟩ := h; cases h1
  | .dict _, h => by rw [dat] at h; exact h.elim
/-- may be asked of == -/
def eqOk (w : W) : Prop := noD (pyW w) = true ∧ SeqAt.shaped (toPy (pyW w)) = true
def eqF (neg : Bool) : FO2 where
  run w u Q := match w, u with
    | .v (.int i), .v (.int j) => Q (.bl (decide (i = j) ^^ neg))
    | .v (.str i), .v (.str j) => Q (.bl (decide (i = j) ^^ neg))
    | w, u => eqOk w ∧ eqOk u ∧ Q (.bl (PyData.eqv (toPy (pyW w)) (toPy (pyW u)) ^^ neg))
  mono {w u Q Q'} h k := by
    revert h
    split <;> intro h
    · exact k _ h
    · exact k _ h
    · exact ⟨h.1, h.2.1, k _ h.2.2⟩
theorem ok_eqN {neg : Bool} : Op0 (eqF neg) (oEqN neg) := fun c δ M w u d e Q R v1 v2 q k => by
  dsimp only [eqF] at q
  split at q
  · cases vint v1; cases vint v2
    have := k _ q; rw [U.d] at this; exact this
  · cases vstr v1; cases vstr v2
    have := k _ q; rw [U.d] at this; exact this
  · obtain ⟨h1, h2, q⟩ := q
    have g1 := dat_pyW v1 h1.1
    have g2 := dat_pyW v2 h2.1
    have k := k _ q
    rw [U.d] at k
    dsimp only [oEqN]
    split
    · rename_i i j
      rw [dat_int g1, dat_int g2, PyData.eqv, Bool.beq_eq_decide_eq] at k
      exact k
    · rename_i i j
      rw [dat_str g1, dat_str g2, PyData.eqv, Bool.beq_eq_decide_eq] at k
      exact k
    · exact ⟨_, _, g1, g2, h1.2, h2.2, k⟩
theorem ok_eq : Op0 (eqF false) oEq := ok_eqN
theorem ok_ne : Op0 (eqF true) oNe := ok_eqN
/-- is None -/
def isNonW : W → Bool
  | .v .non => true
  | _ => false
def isNF (neg : Bool) : FO2 where
  run w u Q := match u with
    | .v .non => Q (.bl (isNonW w ^^ neg))
    | _ => False
  mono {w u Q Q'} h k := by
    revert h
    split <;> intro h <;> first | exact k _ h | exact h
theorem isNonW_eq {c : FC} {δ : DSt} {M : DM} {w : W} {d : D} (v : VRel c δ M w d) : isNon d = isNonW w := by
  cases w with
  | v u =>
    have := v.v; subst this
    cases u <;> rw [U.d] <;> rfl
  | ol i us => obtain ⟨a, e, _⟩ := v; subst e; rfl
  | od i us => obtain ⟨a, e, _⟩ := v; subst e; rfl
theorem ok_isN {neg : Bool} : Op0 (isNF neg) (oIsN neg) := fun c δ M w u d e Q R v1 v2 q k => by
  dsimp only [isNF] at q
  split at q
  · cases vnon v2
    have := k _ q; rw [U.d] at this
    show R (.bl (isNon d ^^ neg)) M
    rw [isNonW_eq v1]; exact this
  · exact q.elim
/-! in -/
def flatU : U → Bool
  | .non => true
  | .bl _ => true
  | .int _ => true
  | .str _ => true
  | _ => false
def fuV : U → V
  | .bl b => .bl b
  | .int i => .int i
  | .str x => .str x
  | _ => .non
theorem flatU_d {p : Addr} {u : U} (h : flatU u = true) : flatD (u.d p) = true ∧ flV (u.d p) = fuV u := by
  cases u <;> first | (cases h; done) | (rw [U.d]; exact ⟨rfl, rfl⟩)
theorem flatUs_d {p : Addr} {us : List U} (h : us.all flatU = true) : (us.map (U.d p)).all flatD = true ∧ (us.map (U.d p)).map flV = us.map fuV := by
  rw [List.all_eq_true] at h
  refine ⟨List.all_eq_true.mpr fun d hd => ?_, ?_⟩
  · obtain ⟨u, hu, rfl⟩ := List.mem_map.mp hd
    exact (flatU_d (h u hu)).1
  · rw [List.map_map]
    exact List.map_congr_left fun u hu => (flatU_d (h u hu)).2
/-- one sign, or a text, in a text -/
def inS (x y : Str) : Bool := !(Builtin.Str.occurrences y x 0 y.length 1).isEmpty
def inF (neg : Bool) : FO2 where
  run w u Q := match w, u with
    | .v (.str i), .v (.str j) => Q (.bl (inS i j ^^ neg))
    | .v x, u => ∃ us, seqW u = some us ∧ flatU x = true ∧ us.all flatU = true ∧ Q (.bl (inV (fuV x) (us.map fuV) ^^ neg))
    | _, _ => False
  mono {w u Q Q'} h k := by
    revert h
    split <;> intro h
    · exact k _ h
    · obtain ⟨us, h1, h2, h3, h4⟩ := h; exact ⟨us, h1, h2, h3, k _ h4⟩
    · exact h
theorem ok_in {neg : Bool} : Op0 (inF neg) (oInX neg) := fun c δ M w u d e Q R v1 v2 q k => by
  dsimp only [inF] at q
  split at q
  · cases vstr v1; cases vstr v2
    have := k _ q; rw [U.d] at this; exact this
  · obtain ⟨us, h1, h2, h3, h4⟩ := q
    have hs := seqW_isSeq v2 h1
    have hx := v1.v
    subst hx
    have h := k _ h4
    rw [U.d, ← (flatU_d (p := c.p) h2).2, ← (flatUs_d (p := c.p) h3).2] at h
    dsimp only [oInX]
    split
    · exact hs.elim
    · exact ⟨_, hs, (flatU_d h2).1, (flatUs_d h3).1, h⟩
  · exact q.elim
/-! subscripts -/
def ixF : FO2 where
  run w u Q := match w, u with
    | .v (.str z), .v (.int i) => ∃ c, z.length ≤ sizeLine ∧ atI z.cps.toList i = some c ∧ Q (.str ⟨#[c]⟩)
    | w, .v (.int i) => ∃ us x, seqW w = some us ∧ atI us i = some x ∧ Q x
    | _, _ => False
  mono {w u Q Q'} h k := by
    revert h
    split <;> intro h
    · obtain ⟨c, h1, h2, h3⟩ := h; exact ⟨c, h1, h2, k _ h3⟩
    · obtain ⟨ds, d, h1, h2, h3⟩ := h; exact ⟨ds, d, h1, h2, k _ h3⟩
    · exact h
theorem atI_map {α β : Type} {f : α → β} {xs : List α} {i : Int} {x : α} (h : atI xs i = some x) : atI (xs.map f) i = some (f x) := by
  unfold atI at h ⊢
  rw [List.length_map]
  cases e : ixN xs.length i with
  | none => rw [e] at h; cases h
  | some j =>
    rw [e] at h
    have h : xs[j]? = some x := h
    show (xs.map f)[j]? = _
    rw [List.getElem?_map, h]; rfl
theorem ok_ix : Op0 ixF oIx := fun c δ M w u d e Q R v1 v2 q k => by
  dsimp only [ixF] at q
  split at q
  · cases vstr v1; cases vint v2
    obtain ⟨ch, h1, h2, h3⟩ := q
    have := k _ h3; rw [U.d] at this
    exact ⟨ch, h1, h2, this⟩
  · cases vint v2
    obtain ⟨us, x, h1, h2, h3⟩ := q
    have hs := seqW_isSeq v1 h1
    have : ∃ ds d', isSeq M d ds ∧ atI ds _ = some d' ∧ R d' M := ⟨_, _, hs, atI_map h2, k _ h3⟩
    cases d with
    | str x => exact hs.elim
    | _ => exact this
  · exact q.elim

/-! ### isinstance -/
def tyW : W → Option Ty
  | .v .non => some .none
  | .v (.bl _) => some .bool
  | .v (.int _) => some .int
  | .v (.str _) => some .str
  | .v (.tup _) => some .tuple
  | .v (.lst _) => some .list
  | .v (.dct _) => some .dict
  | .v .pen => none
  | .ol _ _ => some .list
  | .od _ _ => some .dict
theorem tyW_q {c : FC} {δ : DSt} {M : DM} {w : W} {d : D} {T : Ty} {Q : Ty → Prop} (v : VRel c δ M w d) (h : tyW w = some T) (q : Q T) : tyQ d M Q := by
  cases w with
  | v u =>
    have := v.v; subst this
    cases u <;> first | (cases h; done) | (cases h; rw [U.d]; exact q)
  | ol i us => obtain ⟨a, e, _, h2, _⟩ := v; subst e; cases h; exact .inl ⟨_, .inl h2, q⟩
  | od i us => obtain ⟨a, e, _, h2, _⟩ := v; subst e; cases h; exact .inr ⟨_, h2, q⟩
def fIsi (t : Ty) (a : FE) : FE where
  run X s Q := a.run X s fun w s1 => match tyW w with | some T => Q (.v (.bl (isi T t))) s1 | none => False
  mono h k := a.mono h fun w s1 q => by
    revert q; split <;> intro q
    · exact k _ _ q
    · exact q
def fIsiT (ts : List Ty) (a : FE) : FE where
  run X s Q := a.run X s fun w s1 => match tyW w with | some T => Q (.v (.bl (ts.any fun t => isi T t))) s1 | none => False
  mono h k := a.mono h fun w s1 q => by
    revert q; split <;> intro q
    · exact k _ _ q
    · exact q
section
variable {X : Cx} {e : Expr} {E : XE}
theorem fe_isi {t : Ty} {a : FE} (h : QE X e (dIsi t (lFE E a))) : QE X e (lFE E (fIsi t a)) := h.to fun δ M Q ⟨c, s, F, xl, C, q⟩ => ⟨c, s, F, xl, C, a.mono q fun w s1 q1 d M1 C1 v1 => by
  split at q1
  · rename_i T hT
    exact tyW_q v1 hT (by have := q1 _ M1 C1 rfl; rw [U.d] at this; exact this)
  · exact q1.elim⟩
theorem fe_isiT {ts : List Ty} {a : FE} (h : QE X e (dIsiT ts (lFE E a))) : QE X e (lFE E (fIsiT ts a)) := h.to fun δ M Q ⟨c, s, F, xl, C, q⟩ => ⟨c, s, F, xl, C, a.mono q fun w s1 q1 d M1 C1 v1 => by
  split at q1
  · rename_i T hT
    exact tyW_q v1 hT (by have := q1 _ M1 C1 rfl; rw [U.d] at this; exact this)
  · exact q1.elim⟩
end

/-! ### built-ins -/
def f1c (f : W → (U → Prop) → Prop) (m : ∀ {w Q Q'}, f w Q → (∀ x, Q x → Q' x) → f w Q') : FC1 where
  run ws Q := match ws with
    | [w] => f w Q
    | _ => False
  mono {ws Q Q'} h k := by
    revert h
    split <;> intro h
    · exact m h k
    · exact h
theorem vrels1 {c : FC} {δ : DSt} {M : DM} {w : W} {ds : List D} (h : VRels c δ M [w] ds) : ∃ d, ds = [d] ∧ VRel c δ M w d := by
  cases h with | cons a b => cases b; exact ⟨_, rfl, a⟩
theorem vrels2 {c : FC} {δ : DSt} {M : DM} {w u : W} {ds : List D} (h : VRels c δ M [w, u] ds) : ∃ d e, ds = [d, e] ∧ VRel c δ M w d ∧ VRel c δ M u e := by
  cases h with | cons a b => obtain ⟨e, rfl, b2⟩ := vrels1 b; exact ⟨_, e, rfl, a, b2⟩
def lenF : FC1 := f1c (fun w Q => match w with
    | .v (.str z) => z.length ≤ sizeLine ∧ Q (.int z.length)
    | .od _ kvs => False
    | w => ∃ us, seqW w = some us ∧ Q (.int us.length)) fun {w Q Q'} h k => by
  revert h
  split <;> intro h
  · exact ⟨h.1, k _ h.2⟩
  · exact h
  · obtain ⟨us, h1, h2⟩ := h; exact ⟨us, h1, k _ h2⟩
theorem ok_len : CbG lenF rLen := fun c δ M ws ds Q vs q => by
  dsimp only [lenF, f1c] at q
  split at q
  · obtain ⟨d, rfl, v⟩ := vrels1 vs
    split at q
    · cases vstr v; exact ⟨q.1, .here ⟨.int _, by rw [U.d], q.2, rfl⟩⟩
    · exact q.elim
    · obtain ⟨us, h1, q⟩ := q
      have hs := seqW_isSeq v h1
      have g : GhV [D.int us.length] M fun ds M2 => ∃ x, ds = [U.d c.p x] ∧ Q x ∧ M2 = M := .here ⟨.int _, by rw [U.d], q, rfl⟩
      have el : us.length = (us.map (U.d c.p)).length := by rw [List.length_map]
      cases d with
      | tup ds => cases hs; dsimp only [rLen]; rw [List.length_map]; exact g
      | lst ds => cases hs; dsimp only [rLen]; rw [List.length_map]; exact g
      | ref r => exact ⟨_, hs, by rw [List.length_map]; exact g⟩
      | _ => exact hs.elim
  · exact q.elim
def absF : FC1 := f1c (fun w Q => match w with
    | .v (.int i) => Q (.int (i.natAbs : Int))
    | _ => False) fun {w Q Q'} h k => by
  revert h
  split <;> intro h
  · exact k _ h
  · exact h
theorem ok_abs : CbG absF rAbs := fun c δ M ws ds Q vs q => by
  dsimp only [absF, f1c] at q
  split at q
  · obtain ⟨d, rfl, v⟩ := vrels1 vs
    split at q
    · cases vint v; exact .here ⟨.int _, by rw [U.d], q, rfl⟩
    · exact q.elim
  · exact q.elim
def intF : FC1 := f1c (fun w Q => match w with
    | .v (.int i) => Q (.int i)
    | .v (.bl b) => Q (.int (b2i b))
    | _ => False) fun {w Q Q'} h k => by
  revert h
  split <;> intro h
  · exact k _ h
  · exact k _ h
  · exact h
theorem ok_int : CbG intF rInt := fun c δ M ws ds Q vs q => by
  dsimp only [intF, f1c] at q
  split at q
  · obtain ⟨d, rfl, v⟩ := vrels1 vs
    split at q
    · cases vint v; exact .here ⟨.int _, by rw [U.d], q, rfl⟩
    · cases vbl v; exact .here ⟨.int _, by rw [U.d], q, rfl⟩
    · exact q.elim
  · exact q.elim
def tupleF : FC1 := f1c (fun w Q => ∃ us, seqW w = some us ∧ Q (.tup us)) fun h k => let ⟨us, a, b⟩ := h; ⟨us, a, k _ b⟩
theorem ok_tuple : CbG tupleF rTuple := fun c δ M ws ds Q vs q => by
  dsimp only [tupleF, f1c] at q
  split at q
  · obtain ⟨d, rfl, v⟩ := vrels1 vs
    obtain ⟨us, h1, q⟩ := q
    exact ⟨_, seqW_isSeq v h1, .here ⟨.tup us, by rw [U.d_tup], q, rfl⟩⟩
  · exact q.elim
def boolsOf : List U → Option (List Bool)
  | [] => some []
  | .bl b :: us => (boolsOf us).map (b :: ·)
  | _ :: _ => none
theorem boolsOf_d {p : Addr} : ∀ {us : List U} {bs : List Bool}, boolsOf us = some bs → us.map (U.d p) = bs.map D.bl
  | [], _, h => by cases h; rfl
  | .bl b :: us, bs, h => by
    rw [boolsOf] at h
    cases e : boolsOf us with
    | none => rw [e] at h; cases h
    | some cs => rw [e] at h; cases h; rw [List.map_cons, List.map_cons, boolsOf_d e, U.d]
  | .non :: _, _, h | .int _ :: _, _, h | .str _ :: _, _, h | .tup _ :: _, _, h | .lst _ :: _, _, h | .dct _ :: _, _, h | .pen :: _, _, h => by cases h
def boolsF (f : List Bool → Bool) : FC1 := f1c (fun w Q => ∃ us bs, listW w = some us ∧ boolsOf us = some bs ∧ Q (.bl (f bs))) fun h k => let ⟨us, bs, a, b, q⟩ := h; ⟨us, bs, a, b, k _ q⟩
theorem ok_bools {f : List Bool → Bool} : CbG (boolsF f) (rBools f) := fun c δ M ws ds Q vs q => by
  dsimp only [boolsF, f1c] at q
  split at q
  · obtain ⟨d, rfl, v⟩ := vrels1 vs
    obtain ⟨us, bs, h1, h2, q⟩ := q
    refine ⟨bs, ?_, .here ⟨.bl _, by rw [U.d], q, rfl⟩⟩
    have := listW_isL v h1
    rw [boolsOf_d h2] at this; exact this
  · exact q.elim
abbrev allF : FC1 := boolsF fun bs => bs.all id
abbrev anyF : FC1 := boolsF fun bs => bs.any id
theorem ok_all : CbG allF rAllB := ok_bools
theorem ok_any : CbG anyF rAnyB := ok_bools
/-- repr -/
def reprOk (u : U) : Prop := noD u = true ∧ (toPy u).showable = true ∧ (toPy u).shown.length ≤ sizeLine ∧ (toPy u).depth < 100
def reprF : FC1 := f1c (fun w Q => reprOk (pyW w) ∧ Q (.str (toPy (pyW w)).shown)) fun h k => ⟨h.1, k _ h.2⟩
theorem ok_repr : CbG reprF rRepr := fun c δ M ws ds Q vs q => by
  dsimp only [reprF, f1c] at q
  split at q
  · obtain ⟨d, rfl, v⟩ := vrels1 vs
    obtain ⟨⟨h1, h2, h3, h4⟩, q⟩ := q
    have g := dat_pyW v h1
    have r : GhV [D.str (toPy (pyW _)).shown] M fun ds M2 => ∃ x, ds = [U.d c.p x] ∧ Q x ∧ M2 = M := .here ⟨.str _, by rw [U.d], q, rfl⟩
    dsimp only [rRepr]
    split
    · rename_i z e
      cases e
      rw [dat_str g, PyData.shown] at h3 r
      exact ⟨h3, r⟩
    · rename_i x e e2
      cases e2
      exact ⟨_, g, h2, h3, h4, r⟩
    · rename_i e1 e2; exact (e2 _ rfl).elim
  · exact q.elim

/-! new lists by calls -/
def fnList (t : FA) : FN where
  run X s Q := t.run X s fun ws s1 => match ws with | [.v (.str x)] => False | [w] => ∃ us, seqW w = some us ∧ Q us s1 | _ => False
  mono h k := t.mono h fun ws s1 q => by
    revert q; split <;> intro q
    · exact q
    · obtain ⟨us, a, b⟩ := q; exact ⟨us, a, k _ _ b⟩
    · exact q
section
variable {X : Cx} {e : Expr} {E : XE} {t : FA}
theorem fn_list (h : QE X e (dCB rList (lFA E t))) : QE X e (lFN E (fnList t)) := h.to fun δ M Q ⟨c, s, F, xl, C, q⟩ => ⟨c, s, F, xl, C, t.mono q fun ws s1 q1 ds M1 C1 v1 => by
  split at q1
  · exact q1.elim
  · obtain ⟨d, rfl, v⟩ := vrels1 v1
    obtain ⟨us, h1, q1⟩ := q1
    exact ⟨_, seqW_isSeq v h1, fun p hp => q1 p M1 C1 hp⟩
  · exact q1.elim⟩
end

/-! ### what is walked -/
def signsU (x : Str) : List U := x.cps.toList.map fun c => U.str ⟨#[c]⟩
def fItAny (t : FE) : FI where
  run X s Q := t.run X s fun w s1 => match w with
    | .v (.tup us) => Q us s1
    | .v (.lst us) => Q us s1
    | .v (.str x) => Q (signsU x) s1
    | _ => False
  mono h k := t.mono h fun d M1 q => by
    revert q; split <;> intro q
    · exact k _ _ q
    · exact k _ _ q
    · exact k _ _ q
    · exact q
def rngU (lo : Int) (n : Nat) : List U := (List.range n).map fun (i : Nat) => U.int (lo + (i : Int))
def fItR1 (t : FE) : FI where
  run X s Q := t.run X s fun w s1 => match w with
    | .v (.int j) => (-(2 ^ 62) ≤ j ∧ j < 2 ^ 62) ∧ Q (rngU 0 j.toNat) s1
    | _ => False
  mono h k := t.mono h fun d M1 q => by
    revert q; split <;> intro q
    · exact ⟨q.1, k _ _ q.2⟩
    · exact q
def fItR2 (t u : FE) : FI where
  run X s Q := t.run X s fun w s1 => u.run X s1 fun w2 s2 => match w, w2 with
    | .v (.int i), .v (.int j) => (-(2 ^ 62) ≤ i ∧ i < 2 ^ 62 ∧ -(2 ^ 62) ≤ j ∧ j < 2 ^ 62) ∧ Q (rngU i (j - i).toNat) s2
    | _, _ => False
  mono h k := t.mono h fun d M1 q => u.mono q fun d M1 q => by
    revert q; split <;> intro q
    · exact ⟨q.1, k _ _ q.2⟩
    · exact q
def enumU : Nat → List U → List U
  | _, [] => []
  | i, d :: ds => .tup [.int (i : Int), d] :: enumU (i + 1) ds
def fItEnum (t : FE) : FI where
  run X s Q := t.run X s fun w s1 => match w with
    | .v (.lst us) => Q (enumU 0 us) s1
    | _ => False
  mono h k := t.mono h fun d M1 q => by
    revert q; split <;> intro q
    · exact k _ _ q
    · exact q
theorem enumU_d {p : Addr} : ∀ (us : List U) (i : Nat), (enumU i us).map (U.d p) = enumD i (us.map (U.d p))
  | [], _ => rfl
  | u :: us, i => by rw [enumU, List.map_cons, List.map_cons, enumD, enumU_d us, U.d_tup]; simp only [List.map_cons, List.map_nil, U.d]
theorem rngU_d {p : Addr} {lo : Int} {n : Nat} : (rngU lo n).map (U.d p) = rngD lo n := by
  unfold rngU rngD
  rw [List.map_map]
  exact List.map_congr_left fun _ _ => by show U.d p (.int _) = _; rw [U.d]
theorem signsU_d {p : Addr} {x : Str} : (signsU x).map (U.d p) = signsD x := by
  unfold signsU signsD
  rw [List.map_map]
  exact List.map_congr_left fun _ _ => by show U.d p (.str _) = _; rw [U.d]
section
variable {X : Cx} {tg e : Expr} {E : XE} {t u : FE}
theorem fi_any (h : QI X tg e (dItAny (lFE E t))) : QI X tg e (lFI E (fItAny t)) := h.to fun δ M Q ⟨c, s, F, xl, C, q⟩ => ⟨c, s, F, xl, C, t.mono q fun w s1 q1 d M1 C1 v1 => by
  split at q1
  · cases vtup v1; exact q1 M1 C1
  · cases vlst v1; exact q1 M1 C1
  · cases vstr v1
    have := q1 M1 C1; rw [signsU_d] at this; exact this
  · exact q1.elim⟩
theorem fi_r1 (h : QI X tg e (dItR1 (lFE E t))) : QI X tg e (lFI E (fItR1 t)) := h.to fun δ M Q ⟨c, s, F, xl, C, q⟩ => ⟨c, s, F, xl, C, t.mono q fun w s1 q1 d M1 C1 v1 => by
  split at q1
  · cases vint v1
    have := q1.2 M1 C1; rw [rngU_d] at this; exact ⟨q1.1, this⟩
  · exact q1.elim⟩
theorem fi_r2 (h : QI X tg e (dItR2 (lFE E t) (lFE E u))) : QI X tg e (lFI E (fItR2 t u)) := h.to fun δ M Q ⟨c, s, F, xl, C, q⟩ => ⟨c, s, F, xl, C, t.mono q fun w s1 q1 d M1 C1 v1 => ⟨c, s1, F, xl, C1, u.mono q1 fun w2 s2 q2 d2 M2 C2 v2 => by
  split at q2
  · cases vint v1; cases vint v2
    have := q2.2 M2 C2; rw [rngU_d] at this; exact ⟨q2.1, this⟩
  · exact q2.elim⟩⟩
theorem fi_enum (h : QI X tg e (dItEnum (lFE E t))) : QI X tg e (lFI E (fItEnum t)) := h.to fun δ M Q ⟨c, s, F, xl, C, q⟩ => ⟨c, s, F, xl, C, t.mono q fun w s1 q1 d M1 C1 v1 => by
  split at q1
  · cases vlst v1
    have := q1 M1 C1; rw [enumU_d] at this; exact this
  · exact q1.elim⟩
end

/-! ### list comprehensions -/
/-- the slot of a comprehension's name, as it was -/
def back (i : Nat) (s0 s1 : FSt) : FSt := s1.set i (match s0.v[i]? with | some (some (.v u)) => some (.v u) | _ => none)
def lcF (t : FE) (i : Nat) (Q : List U → FSt → Prop) : List U → FSt → List U → Prop
  | [], s, acc => Q acc s
  | x :: xs, s, acc => t.run xfNo (s.set i (some (.v x))) fun w s1 => match w with | .v y => acc.length < sizeLine ∧ lcF t i Q xs s1 (acc ++ [y]) | _ => False
theorem lcF_mono {t : FE} {i : Nat} {Q Q' : List U → FSt → Prop} (k : ∀ us s, Q us s → Q' us s) : ∀ (xs : List U) (s : FSt) (acc : List U), lcF t i Q xs s acc → lcF t i Q' xs s acc
  | [], _, _, h => k _ _ h
  | _ :: xs, _, _, h => t.mono h fun w s1 q => by
    revert q; split <;> intro q
    · exact ⟨q.1, lcF_mono k xs _ _ q.2⟩
    · exact q
def fnLc (w : FI) (i : Nat) (t : FE) : FN where
  run X s Q := w.run X s fun us s1 => lcF t i (fun acc s2 => Q acc (back i s1 s2)) us (s1.set i none) []
  mono h k := w.mono h fun us s1 q => lcF_mono (fun _ _ => k _ _) us _ _ q
def lcFI (cd : FT) (t : FE) (i : Nat) (Q : List U → FSt → Prop) : List U → FSt → List U → Prop
  | [], s, acc => Q acc s
  | x :: xs, s, acc => cd.run xfNo (s.set i (some (.v x))) fun b s0 => bcase b (t.run xfNo s0 fun w s1 => match w with | .v y => acc.length < sizeLine ∧ lcFI cd t i Q xs s1 (acc ++ [y]) | _ => False) (lcFI cd t i Q xs s0 acc)
theorem lcFI_mono {cd : FT} {t : FE} {i : Nat} {Q Q' : List U → FSt → Prop} (k : ∀ us s, Q us s → Q' us s) : ∀ (xs : List U) (s : FSt) (acc : List U), lcFI cd t i Q xs s acc → lcFI cd t i Q' xs s acc
  | [], _, _, h => k _ _ h
  | _ :: xs, _, _, h => cd.mono h fun b s0 q => bcase_mono q (fun q => t.mono q fun w s1 q => by
    revert q; split <;> intro q
    · exact ⟨q.1, lcFI_mono k xs _ _ q.2⟩
    · exact q) fun q => lcFI_mono k xs _ _ q
def fnLcI (w : FI) (i : Nat) (cd : FT) (t : FE) : FN where
  run X s Q := w.run X s fun us s1 => lcFI cd t i (fun acc s2 => Q acc (back i s1 s2)) us (s1.set i none) []
  mono h k := w.mono h fun us s1 q => lcFI_mono (fun _ _ => k _ _) us _ _ q
/-- within a comprehension: the list that grows stands among what stood -/
def FC.more (c : FC) (A : Addr) (o : MO) : FC := ⟨c.p, c.hp, put c.M0 A o⟩
theorem ownO_more {c : FC} {A : Addr} {o : MO} (w : W) : ownO (c.more A o) w = ownO c w := by cases w <;> rfl
theorem Own.more {c : FC} {A a : Addr} {o : MO} (h : Own c a) (n : a ≠ A) : Own (c.more A o) a := ⟨by show put c.M0 A o a = none; rw [put_ne n]; exact h.m0, h.pen⟩
theorem Own.less {c : FC} {A a : Addr} {o : MO} (h : Own (c.more A o) a) (e : c.M0 A = none) : Own c a := ⟨by
  have h1 : put c.M0 A o a = none := h.m0
  by_cases ha : a = A
  · rw [ha]; exact e
  · rw [put_ne ha] at h1; exact h1, h.pen⟩
theorem Conc.more {c : FC} {s : FSt} {δ : DSt} {M : DM} (C : Conc c s δ M) {A : Addr} {o : MO} (h : M A = some o) (hA : Own c A) (far : ∀ (i : Nat) (w : W) (q : Nat × MO), s.v[i]? = some (some w) → ownO c w = some q → δ[i]? ≠ some (some (D.ref A))) : Conc (c.more A o) s δ M := by
  refine ⟨C.len, C.val, fun i w j o' h1 h2 => ?_, fun i j w w' q q' a h1 h2 h3 h4 => C.inj i j w w' q q' a h1 h2 ((ownO_more w).symm.trans h3) ((ownO_more w').symm.trans h4), ⟨fun a u e => ?_, C.fr.pen⟩, ⟨C.pm0.1, fun hp => ?_⟩⟩
  · rw [ownO_more] at h2
    obtain ⟨e, a, g1, g2, g3⟩ := C.own i w j o' h1 h2
    exact ⟨e, a, g1, g2, g3.more fun z => far i w _ h1 h2 (by rw [g1, z])⟩
  · by_cases ha : a = A
    · subst ha
      have e : put c.M0 a o a = some u := e
      rw [put_same] at e; cases e; exact h
    · have e : put c.M0 A o a = some u := e
      rw [put_ne ha] at e; exact C.fr.m0 a u e
  · show put c.M0 A o c.p = none
    rw [put_ne (fun z => hA.pen hp z.symm)]; exact C.pm0.2 hp
theorem Conc.less {c : FC} {s : FSt} {δ : DSt} {M : DM} {A : Addr} {o : MO} (C : Conc (c.more A o) s δ M) (e : c.M0 A = none) (hp : c.hp = true → A ≠ c.p) : M A = some o ∧ Conc c s δ M ∧ ∀ (i : Nat) (w : W) (q : Nat × MO), s.v[i]? = some (some w) → ownO c w = some q → δ[i]? ≠ some (some (D.ref A)) := by
  refine ⟨C.fr.m0 A o put_same, ⟨C.len, C.val, fun i w j o' h1 h2 => ?_, fun i j w w' q q' a h1 h2 h3 h4 => C.inj i j w w' q q' a h1 h2 ((ownO_more w).trans h3) ((ownO_more w').trans h4), ⟨fun a u g => ?_, C.fr.pen⟩, ⟨C.pm0.1, fun h => ?_⟩⟩, fun i w q h1 h2 z => ?_⟩
  · rw [← ownO_more (A := A) (o := o)] at h2
    obtain ⟨e1, a, g1, g2, g3⟩ := C.own i w j o' h1 h2
    exact ⟨e1, a, g1, g2, g3.less e⟩
  · refine C.fr.m0 a u ?_
    show put c.M0 A o a = _
    rw [put_ne (fun z => by rw [z, e] at g; cases g)]; exact g
  · have := C.pm0.2 h
    have this : put c.M0 A o c.p = none := this
    rw [put_ne (fun z => hp h z.symm)] at this; exact this
  · rw [← ownO_more (A := A) (o := o)] at h2
    obtain ⟨e1, a, g1, g2, g3⟩ := C.own i w q.1 q.2 h1 h2
    rw [z] at g1; cases g1
    have := g3.m0
    have this : put c.M0 A o A = none := this
    rw [put_same] at this; cases this
theorem Conc.putFar {c : FC} {s : FSt} {δ : DSt} {M : DM} (C : Conc c s δ M) {A : Addr} {o : MO} (hA : Own c A) (far : ∀ (i : Nat) (w : W) (q : Nat × MO), s.v[i]? = some (some w) → ownO c w = some q → δ[i]? ≠ some (some (D.ref A))) : Conc c s δ (put M A o) := by
  refine ⟨C.len, C.val, fun i w j o' h1 h2 => ?_, C.inj, ⟨fun a u e => ?_, fun e => ?_⟩, C.pm0⟩
  · obtain ⟨e, a, g1, g2, g3⟩ := C.own i w j o' h1 h2
    exact ⟨e, a, g1, by rw [put_ne (fun z => far i w _ h1 h2 (by rw [g1, z]))]; exact g2, g3⟩
  · rw [put_ne (fun z => by rw [z, hA.m0] at e; cases e)]; exact C.fr.m0 a u e
  · obtain ⟨o2, a', b'⟩ := C.fr.pen e
    exact ⟨o2, by rw [put_ne (fun z => hA.pen e z.symm)]; exact a', b'⟩
/-- the slot told as it was -/
theorem Conc.back {c : FC} {s0 s1 : FSt} {δ : DSt} {M0 M : DM} {i : Nat} (C0 : Conc c s0 δ M0) {x : Option D} (C : Conc c s1 (δ.set i x) M) : Conc c (back i s0 s1) δ M := by
  unfold LD.back
  have key : ∀ (w : Option U) (d : Option D), (∀ u, w = some u → d = some (u.d c.p)) → (∀ d0, d = d0 → δ[i]? = some d0 ∨ δ.length ≤ i) → Conc c (s1.set i (w.map W.v)) δ M := fun w d h1 h2 => by
    have := C.setV i w d h1
    rw [List.set_set] at this
    have e : δ.set i d = δ := by
      rcases h2 d rfl with h | h
      · exact List.ext_getElem? fun j => by
          by_cases hj : i = j
          · subst hj
            rw [List.getElem?_set_self (List.getElem?_eq_some_iff.mp h).1, h]
          · rw [List.getElem?_set_ne hj]
      · exact List.set_eq_of_length_le h
    rw [e] at this
    exact this
  split
  · rename_i u h
    refine key (some u) (some (u.d c.p)) (fun _ e => by cases e; rfl) fun d0 e => .inl ?_
    subst e
    exact C0.val i u h
  · by_cases hl : i < δ.length
    · exact key none δ[i] (fun _ e => by cases e) fun d0 e => .inl (by subst e; exact List.getElem?_eq_getElem hl)
    · exact key none none (fun _ e => by cases e) fun d0 e => .inr (by omega)
/-- no name's own object stands at A -/
def Far (c : FC) (s : FSt) (δ : DSt) (A : Addr) : Prop := ∀ (i : Nat) (w : W) (q : Nat × MO), s.v[i]? = some (some w) → ownO c w = some q → δ[i]? ≠ some (some (D.ref A))
section
variable {c : FC} {s : FSt} {δ : DSt} {M : DM} {A : Addr} {o : MO} {i : Nat} {x : Option D}
theorem set_v {s : FSt} {i : Nat} {w : Option W} : (s.set i w).v = s.v.set i w := rfl
theorem lc_elem (u : U) (C : Conc c s (δ.set i x) M) (hM : M A = some o) (oA : Own c A) (far : Far c s (δ.set i x) A) : Conc (c.more A o) (s.set i (some (.v u))) ((δ.set i none).set i (some (u.d c.p))) M := by
  have C3 : Conc c (s.set i (some (.v u))) ((δ.set i x).set i (some (u.d c.p))) M := C.setV i (some u) (some (u.d c.p)) fun _ e => by cases e; rfl
  rw [List.set_set] at C3 ⊢
  refine C3.more hM oA fun k w q g1 g2 => ?_
  rw [set_v] at g1
  by_cases hk : i = k
  · subst hk
    have hl : i < s.v.length := by
      have := (List.getElem?_eq_some_iff.mp g1).1
      rw [List.length_set] at this
      exact this
    rw [List.getElem?_set_self hl] at g1
    cases g1; cases g2
  · rw [List.getElem?_set_ne hk] at g1
    have := far k w q g1 g2
    rw [List.getElem?_set_ne hk] at this ⊢
    exact this
theorem lc_after {d : Option D} (C : Conc (c.more A o) s ((δ.set i none).set i d) M) (oA : Own c A) : M A = some o ∧ Far c s (δ.set i d) A ∧ Conc c s (δ.set i d) M ∧ ∀ o', Conc c s (δ.set i d) (put M A o') := by
  rw [List.set_set] at C
  obtain ⟨h1, C5, far⟩ := C.less oA.m0 oA.pen
  exact ⟨h1, far, C5, fun o' => C5.putFar oA far⟩
theorem lc_end {s1 : FSt} {M1 : DM} {Q : D → DM → Prop} (C1 : Conc c s1 δ M1) (C : Conc c s (δ.set i x) M) (hM : M A = some o) (oA : Own c A) (far : Far c s (δ.set i x) A) (q : ∀ p M', Conc c (back i s1 s) δ M' → M' p = none → Q (.ref p) (put M' p o)) : Q (.ref A) M := by
  have C3 : Conc c (back i s1 s) δ M := C1.back C
  have far3 : Far c (back i s1 s) δ A := fun k w q g1 g2 => by
    unfold LD.back at g1
    rw [set_v] at g1
    by_cases hk : i = k
    · subst hk
      have hl : i < s.v.length := by
        have := (List.getElem?_eq_some_iff.mp g1).1
        rw [List.length_set] at this
        exact this
      rw [List.getElem?_set_self hl] at g1
      revert g1
      split
      · intro g1; cases g1; cases g2
      · intro g1; cases g1
    · rw [List.getElem?_set_ne hk] at g1
      have := far k w q g1 g2
      rw [List.getElem?_set_ne hk] at this
      exact this
  have C4 : Conc c (back i s1 s) δ (fun a => if a = A then none else M a) := by
    refine ⟨C3.len, C3.val, fun k w j o g1 g2 => ?_, C3.inj, ⟨fun a u e => ?_, fun e => ?_⟩, C3.pm0⟩
    · obtain ⟨e, a, g3, g4, g5⟩ := C3.own k w j o g1 g2
      refine ⟨e, a, g3, ?_, g5⟩
      show (if a = A then none else M a) = _
      rw [if_neg (fun z => far3 k w _ g1 g2 (by rw [g3, z]))]
      exact g4
    · show (if a = A then none else M a) = _
      rw [if_neg (fun z => by rw [z, oA.m0] at e; cases e)]; exact C3.fr.m0 a u e
    · obtain ⟨o2, a', b'⟩ := C3.fr.pen e
      exact ⟨o2, by show (if c.p = A then none else M c.p) = _; rw [if_neg (fun z => oA.pen e z.symm)]; exact a', b'⟩
  have := q A _ C4 (if_pos rfl)
  have e : put (fun a => if a = A then none else M a) A o = M := by
    funext a
    by_cases ha : a = A
    · subst ha; rw [put_same, hM]
    · rw [put_ne ha]; exact if_neg ha
  rw [e] at this
  exact this
theorem lc_start (C : Conc c s δ M) (hA : M A = none) (i : Nat) : Conc c (s.set i none) (δ.set i none) (put M A o) ∧ Far c (s.set i none) (δ.set i none) A := by
  have C1 := C.setV i none none fun _ e => by cases e
  have far : Far c (s.set i none) (δ.set i none) A := fun k w q g1 g2 z => by
    obtain ⟨e, a, g3, g4, g5⟩ := C1.own k w q.1 q.2 g1 g2
    rw [z] at g3; cases g3
    rw [hA] at g4; cases g4
  exact ⟨C1.putFar (C1.fresh hA) far, far⟩
end
theorem xl_no {c : FC} {F : XF} {E : XE} {A : Addr} {ds : List D} (oA : Own c A) (xl : XLk c F E) : XLk (c.more A (.lst ds)) xfNo E.no := ⟨fun _ _ _ _ z => z.elim, fun t ht => by
  obtain ⟨P, h⟩ := xl.2.1 t ht
  refine ⟨P, ?_⟩
  show put c.M0 A (.lst ds) P = _
  rw [put_ne (fun z => by rw [z, oA.m0] at h; cases h)]; exact h, fun n a o h => by
  have h : put c.M0 A (.lst ds) a = some o := h
  by_cases ha : a = A
  · subst ha
    rw [put_same] at h
    cases h
    exact ⟨fun _ => (nofun), fun _ _ => (nofun)⟩
  · rw [put_ne ha] at h
    exact xl.2.2 n a o h⟩
section
variable {E : XE} {w : FI} {t : FE} {cd : FT} {i : Nat}
theorem lc_le {δ : DSt} {M : DM} {Q : D → DM → Prop} (q : (lFN E (fnLc w i t)).run δ M Q) : (dLc (lFI E w) i (lFE E.no t)).run δ M Q := by
  obtain ⟨c, s, F, xl, C, q⟩ := q
  refine ⟨c, s, F, xl, C, w.mono q fun us s1 q1 M1 C1 A hA => ?_⟩
  have oA : Own c A := C1.fresh hA
  have key : ∀ (us : List U) (s2 : FSt) (acc : List U) (M2 : DM) (x : Option D), Conc c s2 (δ.set i x) M2 → M2 A = some (.lst (acc.map (U.d c.p))) → Far c s2 (δ.set i x) A →
      lcF t i (fun acc s2 => ∀ p M', Conc c (back i s1 s2) δ M' → M' p = none → Q (.ref p) (put M' p (.lst (acc.map (U.d c.p))))) us s2 acc → lcRun (lFE E.no t) i (δ.set i none) A Q (fun _ => True) (us.map (U.d c.p)) M2 := fun us => by
    induction us with
    | nil => exact fun s2 acc M2 x C2 hM far q2 => ⟨trivial, lc_end C1 C2 hM oA far q2⟩
    | cons u us ih =>
      intro s2 acc M2 x C2 hM far q2
      refine ⟨trivial, c.more A (.lst (acc.map (U.d c.p))), _, xfNo, xl_no oA xl, lc_elem u C2 hM oA far, t.mono q2 fun w s4 q4 d M4 C4 v4 => ?_⟩
      obtain ⟨hA4, far4, C5, C6⟩ := lc_after C4 oA
      split at q4
      · rename_i y
        have hd : d = y.d c.p := v4.v
        subst hd
        refine ⟨_, hA4, by rw [List.length_map]; exact q4.1, ?_⟩
        have := ih s4 (acc ++ [y]) (put M4 A (.lst (acc.map (U.d c.p) ++ [y.d c.p]))) _ (C6 _) (by rw [put_same, List.map_append]; rfl) far4 q4.2
        exact this
      · exact q4.elim
  obtain ⟨C2, far⟩ := lc_start (o := .lst []) C1 hA i
  exact key us _ [] _ none C2 put_same far q1
theorem lcI_le {δ : DSt} {M : DM} {Q : D → DM → Prop} (q : (lFN E (fnLcI w i cd t)).run δ M Q) : (dLcI (lFI E w) i (lFT E.no cd) (lFE E.no t)).run δ M Q := by
  obtain ⟨c, s, F, xl, C, q⟩ := q
  refine ⟨c, s, F, xl, C, w.mono q fun us s1 q1 M1 C1 A hA => ?_⟩
  have oA : Own c A := C1.fresh hA
  have key : ∀ (us : List U) (s2 : FSt) (acc : List U) (M2 : DM) (x : Option D), Conc c s2 (δ.set i x) M2 → M2 A = some (.lst (acc.map (U.d c.p))) → Far c s2 (δ.set i x) A →
      lcFI cd t i (fun acc s2 => ∀ p M', Conc c (back i s1 s2) δ M' → M' p = none → Q (.ref p) (put M' p (.lst (acc.map (U.d c.p))))) us s2 acc → lcRunI (lFT E.no cd) (lFE E.no t) i (δ.set i none) A Q (fun _ => True) (us.map (U.d c.p)) M2 := fun us => by
    induction us with
    | nil => exact fun s2 acc M2 x C2 hM far q2 => ⟨trivial, lc_end C1 C2 hM oA far q2⟩
    | cons u us ih =>
      intro s2 acc M2 x C2 hM far q2
      refine ⟨trivial, c.more A (.lst (acc.map (U.d c.p))), _, xfNo, xl_no oA xl, lc_elem u C2 hM oA far, cd.mono q2 fun b s3 q3 M3 C3 => bcase_mono q3 (fun q3 => ⟨c.more A (.lst (acc.map (U.d c.p))), _, xfNo, xl_no oA xl, C3, t.mono q3 fun w s4 q4 d M4 C4 v4 => ?_⟩) fun q3 => ?_⟩
      · obtain ⟨hA4, far4, C5, C6⟩ := lc_after C4 oA
        split at q4
        · rename_i y
          have hd : d = y.d c.p := v4.v
          subst hd
          refine ⟨_, hA4, by rw [List.length_map]; exact q4.1, ?_⟩
          have := ih s4 (acc ++ [y]) (put M4 A (.lst (acc.map (U.d c.p) ++ [y.d c.p]))) _ (C6 _) (by rw [put_same, List.map_append]; rfl) far4 q4.2
          exact this
        · exact q4.elim
      · obtain ⟨hA4, far4, C5, C6⟩ := lc_after C3 oA
        exact ih s3 acc M3 _ C5 hA4 far4 q3
  obtain ⟨C2, far⟩ := lc_start (o := .lst []) C1 hA i
  exact key us _ [] _ none C2 put_same far q1
variable {X : Cx} {e : Expr}
theorem fn_lc (h : QE X e (dLc (lFI E w) i (lFE E.no t))) : QE X e (lFN E (fnLc w i t)) := h.to fun _ _ _ => lc_le
theorem fn_lcI (h : QE X e (dLcI (lFI E w) i (lFT E.no cd) (lFE E.no t))) : QE X e (lFN E (fnLcI w i cd t)) := h.to fun _ _ _ => lcI_le
end
end LD

/-! LF4: more rules: lists of texts, methods, tuple * int, in of nested data, keywords -/
namespace LD
open PySem PySem.Spec PyProof.Rows L2

/-! ### a name bound to a new list, told by its reading -/
theorem own_le {E : XE} {j : Nat} {t : FN} {D : DEnds} {δ : DSt} {M : DM} (h : (lFS E (fOwn j t)).run D δ M) : (dSet j (lFN E t)).run D δ M := by
  obtain ⟨c, s, F, EF, xl, C, el, q⟩ := h
  exact ⟨c, s, F, xl, C, t.mono q fun us s1 q1 p M1 C1 hp =>
    el.nx _ _ _ (C1.setO (w := .ol j us) (o := .lst (us.map (U.d c.p))) j rfl put_same (C1.fresh hp) (fun b u hb e => by rw [put_ne hb]; exact e) hp) q1⟩
section
variable {X : Cx} {elt iter : Expr} {x y : Str} {px py pos spos : Pos} {scope : Scope} {w : FI} {t : FE} {cd : FT} {i j : Nat} {E : XE} {st : Stmt}
theorem fs_ownLc (h : QS X st (dSet j (dLc (lFI E w) i (lFE E.no t)))) : QS X st (lFS E (fOwn j (fnLc w i t))) := h.to fun D δ M q => lc_le (own_le q)
theorem fs_ownLcI (h : QS X st (dSet j (dLcI (lFI E w) i (lFT E.no cd) (lFE E.no t)))) : QS X st (lFS E (fOwn j (fnLcI w i cd t))) := h.to fun D δ M q => lcI_le (own_le q)
end

theorem frz_le {E : XE} {j : Nat} {t : FN} {En : DEnds} {δ : DSt} {M : DM} (h : (lFS E (fSet j (fFz t))).run En δ M) : (dGhP (dSet j (lFN E t))).run En δ M := by
  obtain ⟨c, s, F, EF, xl, C, el, q⟩ := h
  refine ⟨c, s, F, xl, C, t.mono q fun us s1 q1 p M1 C1 hp => ?_⟩
  by_cases hl : j < δ.length
  · refine .by (δ' := (δ.set j (some (.ref p))).set j (some (.lst (us.map (U.d c.p))))) ((Imp.frz put_same).trans ((Imp.view put_same (List.getElem?_set_self hl)).trans (.sub (M' := M1) (by rw [put_put]; exact .new hp)))) (.here ?_)
    rw [List.set_set]
    exact el.nx _ _ _ (C1.setV j (some (.lst us)) (some (.lst (us.map (U.d c.p)))) fun _ e => by cases e; rw [U.d_lst]) q1
  · refine .by (.sub (M' := M1) (.new hp)) (.here ?_)
    have e : δ.set j (some (D.ref p)) = δ.set j (some (D.lst (us.map (U.d c.p)))) := by rw [List.set_eq_of_length_le (by omega), List.set_eq_of_length_le (by omega)]
    rw [e]
    exact el.nx _ _ _ (C1.setV j (some (.lst us)) (some (.lst (us.map (U.d c.p)))) fun _ e => by cases e; rw [U.d_lst]) q1
section
variable {X : Cx} {w : FI} {t : FE} {cd : FT} {i j : Nat} {E : XE} {st : Stmt}
theorem fs_frzLc (h : QS X st (dSet j (dLc (lFI E w) i (lFE E.no t)))) : QS X st (lFS E (fSet j (fFz (fnLc w i t)))) := (qs_ghp h).to fun D δ M q => lc_le (frz_le q)
theorem fs_frzLcI (h : QS X st (dSet j (dLcI (lFI E w) i (lFT E.no cd) (lFE E.no t)))) : QS X st (lFS E (fSet j (fFz (fnLcI w i cd t)))) := (qs_ghp h).to fun D δ M q => lcI_le (frz_le q)
end

/-! ### list(text) -/
def rListTx : List V → Hp → VK → Prop := fun xs H Q => ∃ x : Str, xs = [V.str x] ∧ x.length ≤ sizeLine ∧ ∀ p, H p = none → Q (.ref p) (upd H p (.lst (x.cps.toList.map fun c => V.str ⟨#[c]⟩)))
theorem signs_vals {x : Str} {acc : Array Value} {n : Nat} (h : ItemsOf (SignAt x) acc n) (hn : n = x.cps.size) : L2.Vals (x.cps.toList.map fun c => V.str ⟨#[c]⟩) acc.toList := by
  subst hn
  have key : ∀ (cs : List Nat) (vs : List Value), vs.length = cs.length → (∀ j v, vs[j]? = some v → ∃ (c : Nat) (u : Tok), cs[j]? = some c ∧ v = Value.str ⟨#[c]⟩ u) → L2.Vals (cs.map fun c => V.str ⟨#[c]⟩) vs := fun cs => by
    induction cs with
    | nil => intro vs hl _; cases vs with | nil => exact .nil | cons => cases hl
    | cons c cs ih =>
      intro vs hl hv
      cases vs with
      | nil => cases hl
      | cons v vs =>
        refine .cons ?_ (ih vs (by simpa using hl) fun j v h => hv (j + 1) v (by rw [List.getElem?_cons_succ]; exact h))
        obtain ⟨c', u, e1, e2⟩ := hv 0 v rfl
        cases e1
        exact ⟨u, e2⟩
  refine key _ _ (by rw [Array.length_toList, Array.length_toList]; exact h.1) fun j v hv => ?_
  obtain ⟨c, u, e1, e2⟩ := h.2 j v (by simpa using hv)
  exact ⟨c, u, by simpa using e1, e2⟩
theorem call_listTx {X : Cx} (hc : X.calm = true) : CallR X (.type "list") rListTx := by
  intro pins s σ H xs us Q I r h
  obtain ⟨x, rfl, hz, q⟩ := h
  obtain ⟨u0, rfl, u, rfl⟩ := vals1 r
  have hn : H s.heap.objs.size = none := I.hok.fresh (Nat.le_refl _)
  refine call_list_str (I.ok.hd hc) x u (hn := hz) fun h' tk acc' c' hk hS hacc => ?_
  have rv := signs_vals hacc rfl
  refine ⟨.ref s.heap.objs.size, _, I.laid (t' := tk) (o := .lst (x.cps.toList.map fun c => V.str ⟨#[c]⟩)) hk (Nat.le_refl _) ?_, rfl, q _ hn⟩
  refine ⟨by rw [List.length_map, Array.length_toList]; exact hz, acc'.toList, c', rv, ?_⟩
  rw [hS]
theorem dens_signs {K : PySem.W.Frag} {H : Hp} {x : Str} : dens K H (x.cps.toList.map fun c => V.str ⟨#[c]⟩) (signsD x) := by
  unfold signsD
  induction x.cps.toList with
  | nil => exact dens_nil
  | cons c cs ih => exact dens_cons dstr ih
/-- list(x): a text, a list, a tuple -/
def rListX : DC where
  run xs M Q := match xs with
    | [.str x] => x.length ≤ sizeLine ∧ ∀ p, M p = none → Q (.ref p) (put M p (.lst (signsD x)))
    | xs => rList.run xs M Q
  mono {xs M Q Q'} h k := by
    revert h
    split <;> intro h
    · exact ⟨h.1, fun p hp => k _ _ (h.2 p hp)⟩
    · exact rList.mono h k
theorem c_listX {X : Cx} (hc : X.calm = true) : OC X (.type "list") rListX := by
  intro pins s σ H vs us Q I r h
  obtain ⟨ds, M, hd, m, q⟩ := h
  dsimp only [rListX] at q
  split at q
  · obtain ⟨v, rfl, d1⟩ := dens1 hd
    cases lstr d1
    exact call_listTx hc pins s σ H _ us Q I r ⟨_, rfl, q.1, fun p hp => q.2 p (m.free hp) _ _ (.new hp) (m.new hp ⟨_, upd_same, dens_signs⟩) dref⟩
  · exact c_list pins s σ H _ us Q I r ⟨_, M, hd, m, q⟩
def fnListX (t : FA) : FN where
  run X s Q := t.run X s fun ws s1 => match ws with | [.v (.str x)] => x.length ≤ sizeLine ∧ Q (signsU x) s1 | [w] => ∃ us, seqW w = some us ∧ Q us s1 | _ => False
  mono h k := t.mono h fun ws s1 q => by
    revert q; split <;> intro q
    · exact ⟨q.1, k _ _ q.2⟩
    · obtain ⟨us, a, b⟩ := q; exact ⟨us, a, k _ _ b⟩
    · exact q
theorem fn_listX {X : Cx} {e : Expr} {E : XE} {t : FA} (h : QE X e (dCB rListX (lFA E t))) : QE X e (lFN E (fnListX t)) := h.to fun δ M Q ⟨c, s, F, xl, C, q⟩ => ⟨c, s, F, xl, C, t.mono q fun ws s1 q1 ds M1 C1 v1 => by
  split at q1
  · obtain ⟨d, rfl, v⟩ := vrels1 v1
    cases vstr v
    refine ⟨q1.1, fun p hp => ?_⟩
    have := q1.2 p M1 C1 hp
    rw [signsU_d] at this; exact this
  · obtain ⟨d, rfl, v⟩ := vrels1 v1
    obtain ⟨us, h1, q1⟩ := q1
    have hs := seqW_isSeq v h1
    have g : rList.run [d] M1 Q := ⟨_, hs, fun p hp => q1 p M1 C1 hp⟩
    cases d with
    | str x => exact hs.elim
    | _ => exact g
  · exact q1.elim⟩

/-! ### methods of a name's own list -/
structure FMt where
  run : List U → List W → (List U → U → Prop) → Prop
  mono : ∀ {us : List U} {ws : List W} {Q Q' : List U → U → Prop}, run us ws Q → (∀ a b, Q a b → Q' a b) → run us ws Q'
def MtOk (r' : FMt) (r : DMt) : Prop := ∀ (c : FC) (s : FSt) (δ : DSt) (M : DM) (a : Addr) (us : List U) (ws : List W) (ds : List D) (Q : List U → U → Prop) (R : D → DM → Prop), Conc c s δ M → M a = some (.lst (us.map (U.d c.p))) → VRels c δ M ws ds → r'.run us ws Q →
  (∀ us' u, Q us' u → R (u.d c.p) (put M a (.lst (us'.map (U.d c.p))))) → r.run (.ref a) ds M R
/-- the list of the name in slot i is changed -/
def fMeth (i : Nat) (r : FMt) (t : FA) : FE where
  run X s Q := match s.v[i]? with
    | some (some (.ol _ _)) => t.run X s fun ws s1 => match s1.v[i]? with
      | some (some (.ol j us)) => r.run us ws fun us' u => Q (.v u) (s1.set i (some (.ol j us')))
      | _ => False
    | _ => False
  mono {X s Q Q'} h k := by
    revert h; split <;> intro h
    · exact t.mono h fun ws s1 q => by
        revert q; split <;> intro q
        · exact r.mono q fun a b => k _ _
        · exact q
    · exact h
section
variable {X : Cx} {o e : Expr} {es : List Expr} {E : XE} {t : FA} {i : Nat} {r' : FMt} {r : DMt}
theorem meth_le (ok : MtOk r' r) {δ : DSt} {M : DM} {Q : D → DM → Prop} (q : (lFE E (fMeth i r' t)).run δ M Q) : (dMethL r (dVar i) (lFA E t)).run δ M Q := by
  obtain ⟨c, s, F, xl, C, q⟩ := q
  dsimp only [fMeth] at q
  split at q
  · rename_i j0 us0 h0
    obtain ⟨e0, a, ha, hM, _⟩ := C.own i _ _ _ h0 rfl
    show match δ[i]? with | some (some d') => _ | _ => False
    rw [ha]
    refine ⟨⟨_, .inl hM⟩, c, s, F, xl, C, t.mono q fun ws s1 q1 ds M1 C1 v1 => ?_⟩
    split at q1
    · rename_i j us hj
      obtain ⟨e, b, g1, g2, g3⟩ := C1.own i _ _ _ hj rfl
      rw [ha] at g1; cases g1
      subst e
      refine ok c s1 δ M1 a us ws ds _ Q C1 g2 v1 q1 fun us' u q => ?_
      exact q _ _ (C1.mut (w' := .ol j us') (o' := .lst (us'.map (U.d c.p))) hj rfl ha rfl) rfl
    · exact q1.elim
  · exact q.elim
theorem meth0_le (ok : MtOk r' r) {δ : DSt} {M : DM} {Q : D → DM → Prop} (q : (lFE E (fMeth i r' faNil)).run δ M Q) : (dMethL0 r (dVar i)).run δ M Q := by
  obtain ⟨c, s, F, xl, C, q⟩ := q
  dsimp only [fMeth, faNil] at q
  split at q
  · rename_i j0 us0 h0
    obtain ⟨e0, a, ha, hM, _⟩ := C.own i _ _ _ h0 rfl
    show match δ[i]? with | some (some d') => _ | _ => False
    rw [ha]
    refine ⟨⟨_, .inl hM⟩, ?_⟩
    subst e0
    refine ok c s δ M a us0 [] [] _ Q C hM .nil q fun us' u q => ?_
    exact q _ _ (C.mut (w' := .ol j0 us') (o' := .lst (us'.map (U.d c.p))) h0 rfl ha rfl) rfl
  · exact q.elim
theorem fe_meth (ok : MtOk r' r) (h : QE X e (dMethL r (dVar i) (lFA E t))) : QE X e (lFE E (fMeth i r' t)) := h.to fun _ _ _ => meth_le ok
theorem fe_meth0 (ok : MtOk r' r) (h : QE X e (dMethL0 r (dVar i))) : QE X e (lFE E (fMeth i r' faNil)) := h.to fun _ _ _ => meth0_le ok
end
def appendF : FMt where
  run us ws Q := match ws with | [.v u] => us.length < sizeLine ∧ Q (us ++ [u]) .non | _ => False
  mono h k := by
    revert h; split <;> intro h
    · exact ⟨h.1, k _ _ h.2⟩
    · exact h
theorem ok_append : MtOk appendF mAppend := fun c s δ M a us ws ds Q R C hM v q k => by
  dsimp only [appendF] at q
  split at q
  · obtain ⟨d, rfl, vv⟩ := vrels1 v
    have e := vv.v
    subst e
    refine ⟨_, hM, by rw [List.length_map]; exact q.1, ?_⟩
    have := k _ _ q.2
    rw [List.map_append, U.d] at this
    exact this
  · exact q.elim
def popF : FMt where
  run us ws Q := match ws with | [] => ∃ y, us[us.length - 1]? = some y ∧ Q us.dropLast y | _ => False
  mono h k := by
    revert h; split <;> intro h
    · obtain ⟨y, a, b⟩ := h; exact ⟨y, a, k _ _ b⟩
    · exact h
theorem ok_pop : MtOk popF mPop := fun c s δ M a us ws ds Q R C hM v q k => by
  dsimp only [popF] at q
  split at q
  · cases v
    obtain ⟨y, h1, q⟩ := q
    refine ⟨_, y.d c.p, hM, by rw [List.length_map, List.getElem?_map, h1]; rfl, ?_⟩
    have := k _ _ q
    rw [List.map_dropLast] at this
    exact this
  · exact q.elim
/-! methods that read -/
def fMethR (r : FO2) (to t : FE) : FE := fOp r to t
def indexOk (us : List U) (y : U) (j : Nat) : Prop := flatU y = true ∧ us.all flatU = true ∧ ∃ z, us[j]? = some z ∧ eqV (fuV z) (fuV y) = true ∧ ∀ (m : Nat) (z' : U), m < j → us[m]? = some z' → eqV (fuV z') (fuV y) = false
def indexF : FO2 where
  run w u Q := match u with | .v y => ∃ us j, listW w = some us ∧ indexOk us y j ∧ Q (.int (j : Nat)) | _ => False
  mono h k := by
    revert h; split <;> intro h
    · obtain ⟨us, j, a, b, c⟩ := h; exact ⟨us, j, a, b, k _ c⟩
    · exact h
def countBF : FO2 where
  run w u Q := match u with | .v (.bl k) => ∃ us bs, listW w = some us ∧ boolsOf us = some bs ∧ Q (.int (bs.count k : Nat)) | _ => False
  mono h k := by
    revert h; split <;> intro h
    · obtain ⟨us, j, a, b, c⟩ := h; exact ⟨us, j, a, b, k _ c⟩
    · exact h
section
variable {X : Cx} {e : Expr} {E : XE} {to t : FE}
theorem methR_le {r' : FO2} {r : DMt} (ok : ∀ (c : FC) (δ : DSt) (M : DM) (w u : W) (d e : D) (Q : U → Prop) (R : D → DM → Prop), VRel c δ M w d → VRel c δ M u e → r'.run w u Q → (∀ x, Q x → R (x.d c.p) M) → r.run d [e] M R)
    (hl : ∀ {w u Q}, r'.run w u Q → ∃ us, listW w = some us) (h : QE X e (dMethL r (lFE E to) (dCons (lFE E t) dNil))) {ht : ∀ {X s Q}, (fOp r' to t).run X s Q → to.run X s fun w s1 => (∃ us, listW w = some us) ∧ t.run X s1 fun u s2 => Still s2 w ∧ r'.run w u fun x => Q (.v x) s2} : QE X e (lFE E (fOp r' to t)) :=
  h.to fun δ M Q ⟨c, s, F, xl, C, q⟩ => ⟨c, s, F, xl, C, to.mono (ht q) fun w s1 q1 d M1 C1 v1 => by
    obtain ⟨⟨us, hu⟩, q1⟩ := q1
    refine ⟨⟨_, listW_isL v1 hu⟩, c, s1, F, xl, C1, t.mono q1 fun u s2 q2 e M2 C2 v2 => ?_⟩
    exact ok c δ M2 w u d e _ _ (v1.still C2 q2.1) v2 q2.2 fun x q => q _ M2 C2 rfl⟩
end
/-- xs.m(e), the list is asked first -/
def fMR (r : FO2) (to t : FE) : FE where
  run X s Q := to.run X s fun w s1 => (∃ us, listW w = some us) ∧ t.run X s1 fun u s2 => Still s2 w ∧ r.run w u fun x => Q (.v x) s2
  mono h k := to.mono h fun w s1 q => ⟨q.1, t.mono q.2 fun u s2 q => ⟨q.1, r.mono q.2 fun x => k _ _⟩⟩
section
variable {X : Cx} {e : Expr} {E : XE} {to t : FE}
theorem fe_mR {r' : FO2} {r : DMt} (ok : ∀ (c : FC) (δ : DSt) (M : DM) (w u : W) (d e : D) (Q : U → Prop) (R : D → DM → Prop), VRel c δ M w d → VRel c δ M u e → r'.run w u Q → (∀ x, Q x → R (x.d c.p) M) → r.run d [e] M R)
    (h : QE X e (dMethL r (lFE E to) (dCons (lFE E t) dNil))) : QE X e (lFE E (fMR r' to t)) :=
  h.to fun δ M Q ⟨c, s, F, xl, C, q⟩ => ⟨c, s, F, xl, C, to.mono q fun w s1 q1 d M1 C1 v1 => by
    obtain ⟨⟨us, hu⟩, q1⟩ := q1
    refine ⟨⟨_, listW_isL v1 hu⟩, c, s1, F, xl, C1, t.mono q1 fun u s2 q2 e M2 C2 v2 => ?_⟩
    exact ok c δ M2 w u d e _ _ (v1.still C2 q2.1) v2 q2.2 fun x q => q _ M2 C2 rfl⟩
theorem ok_index (c : FC) (δ : DSt) (M : DM) (w u : W) (d e : D) (Q : U → Prop) (R : D → DM → Prop) (v1 : VRel c δ M w d) (v2 : VRel c δ M u e) (q : indexF.run w u Q) (k : ∀ x, Q x → R (x.d c.p) M) : mIndex.run d [e] M R := by
  dsimp only [indexF] at q
  split at q
  · rename_i y
    obtain ⟨us, j, h1, ⟨h2, h3, z, h4, h5, h6⟩, q⟩ := q
    have ey := v2.v
    subst ey
    have f2 := flatU_d (p := c.p) h2
    have hall := List.all_eq_true.mp h3
    have fz := flatU_d (p := c.p) (hall z (List.mem_of_getElem? h4))
    have k := k _ q
    rw [U.d] at k
    refine ⟨_, j, z.d c.p, listW_isL v1 h1, f2.1, (flatUs_d h3).1, by rw [List.getElem?_map, h4]; rfl, by rw [f2.2, fz.2]; exact h5, fun m z' hm hz => ?_, k⟩
    rw [List.getElem?_map] at hz
    cases e : us[m]? with
    | none => rw [e] at hz; cases hz
    | some z0 =>
      rw [e] at hz; cases hz
      rw [f2.2, (flatU_d (p := c.p) (hall z0 (List.mem_of_getElem? e))).2]
      exact h6 m z0 hm e
  · exact q.elim
theorem ok_countB (c : FC) (δ : DSt) (M : DM) (w u : W) (d e : D) (Q : U → Prop) (R : D → DM → Prop) (v1 : VRel c δ M w d) (v2 : VRel c δ M u e) (q : countBF.run w u Q) (k : ∀ x, Q x → R (x.d c.p) M) : mCountB.run d [e] M R := by
  dsimp only [countBF] at q
  split at q
  · rename_i b
    obtain ⟨us, bs, h1, h2, q⟩ := q
    cases vbl v2
    have k := k _ q
    rw [U.d] at k
    have hl := listW_isL v1 h1
    rw [boolsOf_d h2] at hl
    exact ⟨bs, hl, k⟩
  · exact q.elim
/-! t.join(xs), t.find(x) -/
def strsOf : List U → Option (List Str)
  | [] => some []
  | .str b :: us => (strsOf us).map (b :: ·)
  | _ :: _ => none
theorem strsOf_d {p : Addr} : ∀ {us : List U} {bs : List Str}, strsOf us = some bs → us.map (U.d p) = bs.map D.str
  | [], _, h => by cases h; rfl
  | .str b :: us, bs, h => by
    rw [strsOf] at h
    cases e : strsOf us with
    | none => rw [e] at h; cases h
    | some cs => rw [e] at h; cases h; rw [List.map_cons, List.map_cons, strsOf_d e, U.d]
  | .non :: _, _, h | .int _ :: _, _, h | .bl _ :: _, _, h | .tup _ :: _, _, h | .lst _ :: _, _, h | .dct _ :: _, _, h | .pen :: _, _, h => by cases h
def fJoin (to t : FE) : FE where
  run X s Q := to.run X s fun w s1 => match w with
    | .v (.str a) => t.run X s1 fun w2 s2 => ∃ us ys, listW w2 = some us ∧ strsOf us = some ys ∧ (ys.map (·.length)).sum + ys.length * a.length ≤ 16777216 ∧ Q (.v (.str (Txt.join a ys))) s2
    | _ => False
  mono h k := to.mono h fun d M1 q => by
    revert q; split <;> intro q
    · exact t.mono q fun d2 M2 ⟨us, ys, h1, h2, h3, h4⟩ => ⟨us, ys, h1, h2, h3, k _ _ h4⟩
    · exact q
theorem fe_join (h : QE X e (dJoin (lFE E to) (lFE E t))) : QE X e (lFE E (fJoin to t)) := h.to fun δ M Q ⟨c, s, F, xl, C, q⟩ => ⟨c, s, F, xl, C, to.mono q fun w s1 q1 d M1 C1 v1 => by
  split at q1
  · cases vstr v1
    refine ⟨c, s1, F, xl, C1, t.mono q1 fun w2 s2 ⟨us, ys, h1, h2, h3, q2⟩ d2 M2 C2 v2 => ?_⟩
    have hl := listW_isL v2 h1
    rw [strsOf_d h2] at hl
    exact ⟨ys, hl, h3, q2 _ M2 C2 (by show _ = _; rw [U.d])⟩
  · exact q1.elim⟩
def fFind (to t : FE) : FE where
  run X s Q := to.run X s fun w s1 => match w with
    | .v (.str a) => t.run X s1 fun w2 s2 => match w2 with | .v (.str b) => Q (.v (.int (Txt.find a b))) s2 | _ => False
    | _ => False
  mono h k := to.mono h fun d M1 q => by
    revert q; split <;> intro q
    · exact t.mono q fun d2 M2 q => by
        revert q; split <;> intro q
        · exact k _ _ q
        · exact q
    · exact q
theorem fe_find (h : QE X e (dFind (lFE E to) (lFE E t))) : QE X e (lFE E (fFind to t)) := h.to fun δ M Q ⟨c, s, F, xl, C, q⟩ => ⟨c, s, F, xl, C, to.mono q fun w s1 q1 d M1 C1 v1 => by
  split at q1
  · cases vstr v1
    refine ⟨c, s1, F, xl, C1, t.mono q1 fun w2 s2 q2 d2 M2 C2 v2 => ?_⟩
    split at q2
    · cases vstr v2
      exact ⟨_, rfl, q2 _ M2 C2 (by show _ = _; rw [U.d])⟩
    · exact q2.elim
  · exact q1.elim⟩
/-- sorted(set(text)) -/
def fnSortSet (t : FE) : FN where
  run X s Q := t.run X s fun w s1 => match w with
    | .v (.str x) => x.cps.size < 64 ∧ ∀ ns : List Str, sortedS ns = true → ns.Nodup → (∀ k : Str, k ∈ ns ↔ ∃ c ∈ x.cps.toList, k = ⟨#[c]⟩) → Q (ns.map U.str) s1
    | _ => False
  mono h k := t.mono h fun d M1 q => by
    revert q; split <;> intro q
    · exact ⟨q.1, fun ns a b c => k _ _ (q.2 ns a b c)⟩
    · exact q
theorem strs_d {p : Addr} {ns : List Str} : (ns.map U.str).map (U.d p) = ns.map D.str := by
  rw [List.map_map]
  exact List.map_congr_left fun _ _ => by show U.d p (.str _) = _; rw [U.d]
theorem fn_sortSet (h : QE X e (dSortSet (lFE E t))) : QE X e (lFN E (fnSortSet t)) := h.to fun δ M Q ⟨c, s, F, xl, C, q⟩ => ⟨c, s, F, xl, C, t.mono q fun w s1 q1 d M1 C1 v1 => by
  split at q1
  · cases vstr v1
    refine ⟨q1.1, fun ns p h1 h2 h3 hp => ?_⟩
    have := q1.2 ns h1 h2 h3 p M1 C1 hp
    rw [strs_d] at this; exact this
  · exact q1.elim⟩
end

/-! ### in, of nested data -/
def oInD (neg : Bool) : DO2 where
  run x y M Q := ∃ t ts, dat M t x ∧ (dat M (.list ts) y ∨ dat M (.tuple ts) y) ∧ SeqAt.shaped t = true ∧ SeqAt.shaped (.list ts) = true ∧ Q (.bl ((ts.any fun z => PyData.eqv z t) ^^ neg)) M
  mono h k := let ⟨t, ts, a, b, c, d, e⟩ := h; ⟨t, ts, a, b, c, d, k _ _ e⟩
theorem shaped_tl {ts : List PyData} (h : SeqAt.shaped (.list ts) = true) : SeqAt.shaped (.tuple ts) = true := by
  have e1 : (PyData.tuple ts).canLay0 = (PyData.list ts).canLay0 := by simp only [PyData.canLay0]
  have e2 : (PyData.tuple ts).depth = (PyData.list ts).depth := by simp only [PyData.depth]
  unfold SeqAt.shaped at h ⊢
  rw [e1, e2]
  exact h
section
variable {X : Cx}
theorem o_inD (hu : X.A.units + 65 < cLine) : O2 X (compareOp .In) (oInD false) := by
  intro pins s σ H x y v u Q I rx ry h
  obtain ⟨dx, dy, M, hx, hy, m, t, ts, g1, g2, g3, g4, q⟩ := h
  obtain ⟨as, r1⟩ := Dp.reads I t x v (dat_dp m t _ _ g1 hx) rx
  have q2 := q _ _ (.refl H) m dbl
  rw [Bool.xor_false] at q2
  rcases g2 with g2 | g2
  · obtain ⟨bs, r2⟩ := Dp.reads I (.list ts) y u (dat_dp m _ _ _ g2 hy) ry
    exact SeqAt.in_list_reads r2 r1 (SeqAt.canLay_of_shaped g4) (SeqAt.canLay_of_shaped g3) (PyProof.Rows.room_in_shaped g3 hu) ⟨.bl _, H, I, rfl, q2⟩
  · obtain ⟨bs, r2⟩ := Dp.reads I (.tuple ts) y u (dat_dp m _ _ _ g2 hy) ry
    exact SeqAt.in_tuple_reads r2 r1 (SeqAt.canLay_of_shaped (shaped_tl g4)) (SeqAt.canLay_of_shaped g3) (PyProof.Rows.room_in_shaped g3 hu) ⟨.bl _, H, I, rfl, q2⟩
end
end LD

/-! LF5: calls with keywords and defaults; lambdas, several tables -/
namespace LD
open PySem PySem.Spec PyProof.Rows L2

/-- .. called with n values, and the keywords ks: gV puts them, and the defaults, in the parameters' order -/
structure GoodN (gb : Bool) (P : Program) (w : World) (K : PySem.W.Frag) (mg : Str → Option Value) (base : Heap) (x : Str) (k : Nat) (ps : List Str) (sp : DSp) (n : Nat) (ks : List Str) (gV : List V → List V → List V) : Prop where
  ex : ∃ f fd g, mg x = some (.ref f) ∧ PySem.W.keepIn K (.ref f) = true ∧ KBn K fd ps n ks g gV ∧ FnG gb P w K mg base k f fd ps (lSp K mg ps.length sp)
theorem GoodN.mono {P : Program} {w : World} {K : PySem.W.Frag} {mg : Str → Option Value} {base : Heap} {x : Str} {j k : Nat} {ps : List Str} {sp : DSp} {n : Nat} {ks : List Str} {gV : List V → List V → List V} (g : GoodN gb P w K mg base x j ps sp n ks gV) (h : j ≤ k) : GoodN gb P w K mg base x k ps sp n ks gV :=
  let ⟨f, fd, g, h1, h2, h3, h4⟩ := g.ex; ⟨f, fd, g, h1, h2, h3, h4.mono h⟩
theorem Good.n {P : Program} {w : World} {K : PySem.W.Frag} {mg : Str → Option Value} {base : Heap} {x : Str} {k : Nat} {ps : List Str} {sp : DSp} (g : Good gb P w K mg base x k ps sp) : GoodN gb P w K mg base x k ps sp ps.length [] (fun vs _ => vs) := by
  obtain ⟨f, fd, h1, h2, h3, h4⟩ := g.ex
  refine ⟨f, fd, fun us _ => us, h1, h2, ⟨fun s us ws X l1 l2 => ?_, fun r _ => r⟩, h4⟩
  have := h3 s us X (by rw [List.append_nil]; exact l1)
  rw [List.append_nil] at this
  exact this

/-! ### a call, with wishes for what it gives and for what it raises -/
structure DCw where
  run : DSt → DM → (D → DM → Prop) → XD → Prop
  mono : ∀ {δ : DSt} {M : DM} {Q Q' : D → DM → Prop} {X X' : XD}, run δ M Q X → (∀ d M', Q d M' → Q' d M') → (∀ x M', X x M' → X' x M') → run δ M Q' X'
/-- puts values in the parameters' order -/
structure PutD (n m l : Nat) (gV : List V → List V → List V) (gD : List D → List D → List D) : Prop where
  rel : ∀ {K : PySem.W.Frag} {H : Hp} {vs zs : List V} {ds es : List D}, dens K H vs ds → dens K H zs es → dens K H (gV vs zs) (gD ds es)
  len : ∀ {vs zs : List V}, vs.length = n → zs.length = m → (gV vs zs).length = l
def dCallW (sp : DSp) (gD : List D → List D → List D) (n m : Nat) (t tk : DA) : DCw where
  run δ M Q X := t.run δ M fun ds M1 => tk.run δ M1 fun es M2 => ds.length = n ∧ es.length = m ∧ callQ sp (gD ds es) M2 Q X
  mono h k kx := t.mono h fun ds M1 q => tk.mono q fun es M2 q => ⟨q.1, q.2.1, let ⟨Q0, X0, h1, h2, h3⟩ := q.2.2; ⟨Q0, X0, fun d M' a => k _ _ (h1 d M' a), fun x M' a => kx _ _ (h2 x M' a), h3⟩⟩
def lCW (K : PySem.W.Frag) (mg : Str → Option Value) (r : DCw) (W : WX) : TE := fun σ H Q => ∃ δ M, SRel K H σ δ ∧ MRel K H M ∧ r.run δ M (lQ K H Q) fun y M' => ∀ C H', mg y = some (.ref C) → Ext H H' → MRel K H' M' → W (.ref C) none σ H'
abbrev QK (X : Cx) (kws : List Keyword) (t : DA) : Prop := PK X kws (lA X.K t)
section
variable {X : Cx} {e : Expr} {kws : List Keyword} {nm : Option Str} {kpos : Pos} {t : DE} {r : DA}
theorem qk_nil : QK X [] dNil := ⟨fun pos pins s σ H Q I ⟨δ, M, sr, m, q⟩ => pk_nil.run pos pins s σ H Q I (q [] H (.refl H) m dens_nil)⟩
theorem qk_cons (ha : QE X e t) (hr : QK X kws r) : QK X (⟨nm, e, kpos⟩ :: kws) (dCons t r) :=
  ⟨fun pos pins s σ H Q I ⟨δ, M, sr, m, q⟩ => (pk_cons ha hr).run pos pins s σ H Q I (by
    refine lE_step sr m q fun d M1 v H1 x1 m1 d1 q1 => ?_
    refine lA_step (sr.ext x1) m1 q1 fun ds M2 vs H2 x2 m2 d2 q2 => ?_
    exact q2 (v :: vs) H2 (x1.trans x2) m2 (dens_cons (den_ext x2 v d d1) d2))⟩
end
section
variable {X : Cx} {x : Str} {p pos : Pos} {e : Expr} {es : List Expr} {kws : List Keyword} {t tk : DA} {k n : Nat} {ps ks : List Str} {sp : DSp} {W : WX} {E : XD} {gV : List V → List V → List V} {gD : List D → List D → List D}
theorem pe_callNW (G : GoodN gb X.prog X.w X.K X.mg X.base x k ps sp n ks gV) (pd : PutD n ks.length ps.length gV gD) (hr : Rm gb k X.A) (tks : Takes X W) (hg : Gl X x) (ha : QA X (e :: es) t) (hkw : QK X kws tk)
    (hall : (backToKw pos (keywordEach kws X.env)).all (·.1.isSome) = true := by rfl) (hks : (backToKw pos (keywordEach kws X.env)).filterMap (·.1) = ks := by rfl)
    (hdb : (x == ("__debug__" : Str)) = false := by decide) (he : starEach (e :: es) X.env = (false, eval e X.env) :: starEach es X.env := by rfl)
    (hpl : ((backTo pos (starEach (e :: es) X.env)).any (·.1) || (backToKw pos (keywordEach kws X.env)).any (·.1.isNone)) = false := by rfl) :
    PE X (.Call (.Name x p) (e :: es) kws pos) (lCW X.K X.mg (dCallW sp gD n ks.length t tk) W) := by
  obtain ⟨f, fd, g, hm, hk, hb, F⟩ := G.ex
  refine ⟨fun pins s σ H Q I h => ?_⟩
  obtain ⟨δ, M, sr, m, q⟩ := h
  refine wpAny_Call_Name_kw (ld_glob I hg hm ?_ hdb)
  have q2 : lA X.K t σ H fun vs H1 => lA X.K tk σ H1 fun zs H2 => vs.length = n ∧ zs.length = ks.length ∧ ∃ ds M2, Ext H H2 ∧ dens X.K H2 (gV vs zs) ds ∧ MRel X.K H2 M2 ∧ callQ sp ds M2 (lQ X.K H Q) fun y M' => ∀ C H', X.mg y = some (.ref C) → Ext H H' → MRel X.K H' M' → W (.ref C) none σ H' :=
    lA_step sr m q fun ds M1 vs H1 x1 m1 d1 q1 => lA_step (sr.ext x1) m1 q1 fun es M2 zs H2 x2 m2 d2 q2 => ⟨(dens_length d1).trans q2.1, (dens_length d2).trans q2.2.1, _, M2, x1.trans x2, pd.rel (dens_ext x2 _ _ d1) d2, m2, q2.2.2⟩
  refine PySem.W.callWith_KW (h₀ := X.base) I.ok.mod.kin hk hall (thn (ha.run pos pins s σ H _ I q2) fun us s1 ⟨vs, H1, I1, r, q⟩ => ?_) hpl he
  refine thn (hkw.run pos pins s1 σ H1 _ I1 q) fun ws s2 ⟨zs, H2, I2, rz, l1, l2, ds, M2, x2, d2, m2, Q0, X0, h1, h2, ds', M', imp, q2⟩ => ⟨I2.kIn, ?_⟩
  rw [hks]
  obtain ⟨H', fz, d', m'⟩ := imp X.prog X.w X.K H2 s2.heap (gV vs zs) I2.hok d2 m2
  have I' := fz.inv I2
  have x' := x2.trans fz.ext
  have hsp : lSp X.K X.mg ps.length sp (gV vs zs) H' Q (WE W σ) := ⟨pd.len l1 l2, ds', M', d', m', Q0, X0, fun d M2 q2 v H2 x2 => h1 d M2 q2 v H2 (x'.trans x2), fun y M2 q2 C H2 e x2 m2 => h2 y M2 q2 C H2 e (x'.trans x2) m2, q2⟩
  have r2 := hb.rel r rz
  refine wpAny_call (codeAny_mono (F.run hr I'.env0 (hb.to s2 us ws I'.kIn (r.length.symm.trans l1) (rz.length.symm.trans l2)) r2 hsp) fun rs s' hq => ?_)
  cases rs with
  | error e => exact passAt tks σ pins H' s2 e s' I' hq
  | ok fl =>
    cases fl with
    | ret u => exact I'.after hq
    | next => exact False.elim hq
    | brk => exact False.elim hq
    | cont => exact False.elim hq
def dCallN (r : DCw) (X : XD) : DE where
  run δ M Q := r.run δ M Q X
  mono h k := r.mono h k fun _ _ q => q
/-- f(e, .., k = v, ..) -/
theorem qe_callN (G : GoodN gb X.prog X.w X.K X.mg X.base x k ps sp n ks gV) (pd : PutD n ks.length ps.length gV gD) (hr : Rm gb k X.A) (lt : Lets X E) (hg : Gl X x) (ha : QA X (e :: es) t) (hkw : QK X kws tk)
    (hall : (backToKw pos (keywordEach kws X.env)).all (·.1.isSome) = true := by rfl) (hks : (backToKw pos (keywordEach kws X.env)).filterMap (·.1) = ks := by rfl)
    (hdb : (x == ("__debug__" : Str)) = false := by decide) (he : starEach (e :: es) X.env = (false, eval e X.env) :: starEach es X.env := by rfl)
    (hpl : ((backTo pos (starEach (e :: es) X.env)).any (·.1) || (backToKw pos (keywordEach kws X.env)).any (·.1.isNone)) = false := by rfl) :
    QE X (.Call (.Name x p) (e :: es) kws pos) (dCallN (dCallW sp gD n ks.length t tk) E) := by
  obtain ⟨f, fd, g, hm, hk, hb, F⟩ := G.ex
  refine ⟨fun pins s σ H Q I h => ?_⟩
  obtain ⟨δ, M, sr, m, q⟩ := h
  refine wpAny_Call_Name_kw (ld_glob I hg hm ?_ hdb)
  have q2 : lA X.K t σ H fun vs H1 => lA X.K tk σ H1 fun zs H2 => vs.length = n ∧ zs.length = ks.length ∧ ∃ ds M2, Ext H H2 ∧ dens X.K H2 (gV vs zs) ds ∧ MRel X.K H2 M2 ∧ callQ sp ds M2 (lQ X.K H Q) E :=
    lA_step sr m q fun ds M1 vs H1 x1 m1 d1 q1 => lA_step (sr.ext x1) m1 q1 fun es M2 zs H2 x2 m2 d2 q2 => ⟨(dens_length d1).trans q2.1, (dens_length d2).trans q2.2.1, _, M2, x1.trans x2, pd.rel (dens_ext x2 _ _ d1) d2, m2, q2.2.2⟩
  refine PySem.W.callWith_KW (h₀ := X.base) I.ok.mod.kin hk hall (thn (ha.run pos pins s σ H _ I q2) fun us s1 ⟨vs, H1, I1, r, q⟩ => ?_) hpl he
  refine thn (hkw.run pos pins s1 σ H1 _ I1 q) fun ws s2 ⟨zs, H2, I2, rz, l1, l2, ds, M2, x2, d2, m2, Q0, X0, h1, h2, ds', M', imp, q2⟩ => ⟨I2.kIn, ?_⟩
  rw [hks]
  obtain ⟨H', fz, d', m'⟩ := imp X.prog X.w X.K H2 s2.heap (gV vs zs) I2.hok d2 m2
  have I' := fz.inv I2
  have x' := x2.trans fz.ext
  have i0 := Inv.ext0 I'
  have hsp : lSp X.K X.mg ps.length sp (gV vs zs) H' Q (lXE X.K X.mg X.H_0 X0) := ⟨pd.len l1 l2, ds', M', d', m', Q0, X0, fun d M2 q2 v H2 x2 => h1 d M2 q2 v H2 (x'.trans x2), fun y M2 q2 C H2 e x2 m2 => ⟨rfl, y, C, M2, rfl, e, m2, q2, i0.trans x2⟩, q2⟩
  have r2 := hb.rel r rz
  refine wpAny_call (codeAny_mono (F.run hr I'.env0 (hb.to s2 us ws I'.kIn (r.length.symm.trans l1) (rz.length.symm.trans l2)) r2 hsp) fun rs s' hq => ?_)
  cases rs with
  | error e => exact passes_call lt (fun cls d σ H2 hE => ⟨hE.1, hE.2.elim fun y z => z.elim fun C z => z.elim fun M2 z => ⟨y, C, M2, z.1, z.2.1, z.2.2.1, h2 _ _ z.2.2.2.1, z.2.2.2.2⟩⟩) pins σ H' s2 e s' I' hq
  | ok fl =>
    cases fl with
    | ret u => exact I'.after hq
    | next => exact False.elim hq
    | brk => exact False.elim hq
    | cont => exact False.elim hq
end

/-! ### lambdas, where several tables stand -/
section
variable {K : PySem.W.Frag} {H H1 : Hp} {M : DM} {T : List Tb}
/-- a lambda was made -/
theorem mrel_lams (m : MRel K H (someTab M T)) (e : LamX.ExtN H H1) (t : ∀ x ∈ T, LamX.TabS H1 (He.cT K x.1).2 x.2) : MRel K H1 (someTab M T) := fun a o h => by
  have z := m a o h
  cases o with
  | lst ds => obtain ⟨vs, h1, h2⟩ := z; exact ⟨vs, e _ _ h1 (fun _ z => by cases z), dens_ext (ext_lam e) _ _ h2⟩
  | dct ds => obtain ⟨vs, h1, h2⟩ := z; exact ⟨vs, e _ _ h1 (fun _ z => by cases z), denKV_ext (ext_lam e) _ _ h2⟩
  | rol ds => obtain ⟨o, vs, h1, h2⟩ := z; exact ⟨o, vs, e _ _ h1 (fun _ z => by cases z), dens_ext (ext_lam e) _ _ h2⟩
  | exc x =>
    have z : IsExc K H a x := z
    exact z.elim (fun z => .inl (e _ _ z (fun _ z => by cases z))) fun z => .inr (e _ _ z (fun _ z => by cases z))
  | tab d q =>
    obtain ⟨h0, _⟩ : IsTab K H a d q := z
    have := t _ (someTab_tab h)
    exact ⟨h0, by rw [h0]; exact this⟩
  | raw u =>
    exfalso
    unfold someTab at h
    split at h
    · split at h <;> cases h
    · cases h
    · rename_i o hn hr
      exact hr _ h
end
/-- x(lambda: a call) -/
def dLamG (T : List Tb) (r : DCw) (cs : List Str) (wd : Str → Str) : DE where
  run δ M Q := (∀ t ∈ T, ∃ P, M P = some (.tab t.1 t.2)) ∧ r.run δ (someTab M T) (fun _ M' => Q (.str "fine") M') fun y M' => y ∈ cs ∧ Q (.str (wd y)) M'
  mono h k := ⟨h.1, r.mono h.2 (fun _ M' q => k _ _ q) fun y M' q => ⟨q.1, k _ _ q.2⟩⟩
section
variable {X : Cx} {x a f : Str} {g : Addr} {k n : Nat} {pg : Arguments} {bg : List Stmt} {sg : Scope} {Ng : List Str} {gfd : FuncData} {d : Str × Option Str} {q : Str} {params : Arguments} {scope : Scope} {e : Expr} {es : List Expr} {kws : List Keyword} {t tk : DA} {ps ks : List Str} {sp : DSp} {cs : List Str} {wd : Str → Str} {p lpos pf pc pos : Pos} {T : List Tb} {gV : List V → List V → List V} {gD : List D → List D → List D}
theorem qe_lamG (hT : (d, q) ∈ T) (hdist : ∀ t ∈ T, (He.cT X.K t.1).2 = (He.cT X.K d).2 → t.2 = q) (Fg : FunD X.K x x pg bg sg [] [] g gfd) (hg : Gl X x) (hm : X.mg x = some (.ref g)) (Bg : L2.Binds X.K gfd [a] []) (Sg : FnScope Ng [a] sg) (hNg : Ng[0]? = some a) (hva : Vis sg a)
    (hG : ∀ (cdg : Value), LamX.GivesTo X Ng x sg g cdg bg a q (TTw X.K cs wd)) (TB : LamX.TabB X.base X.mg (He.cT X.K d).1 (He.cT X.K d).2) (hcode : X.env.code = .ref (He.cT X.K d).1) (hq : X.env.qual ++ "<lambda>" = q) (hr : Rm gb (k + 2) X.A) (L : LamX.LamS X.env.scope scope)
    (gy : ∀ y ∈ cs, X.mg y = some (.ref (He.ga X.K y))) (G : GoodN false X.prog X.w X.K X.mg X.base f k ps sp n ks gV) (pd : PutD n ks.length ps.length gV gD) (hgf : ∀ (A : Around) (outer : List Env) (s : Shared) (H : Hp) (E : XK) (f' c' : Addr), Gl (LamX.lamCx X A outer s H E scope f' c') f)
    (ha : ∀ (A : Around) (outer : List Env) (s : Shared) (H : Hp) (E : XK) (f' c' : Addr), QA (LamX.lamCx X A outer s H E scope f' c') (e :: es) t)
    (hkw : ∀ (A : Around) (outer : List Env) (s : Shared) (H : Hp) (E : XK) (f' c' : Addr), QK (LamX.lamCx X A outer s H E scope f' c') kws tk)
    (hdef : defaultsOf params X.env = ([], []) := by rfl) (hbind : ∀ (q : Str) (cl : List (Str × Addr)) (pm cv ctv : Value), bindArgs (PySem.W.kla_fn "<lambda>" q params (.Call (.Name f pf) (e :: es) kws pc) scope cl pm cv ctv) ⟨[], []⟩ = pure [] := by intros; rfl)
    (hall : ∀ env, (backToKw pc (keywordEach kws env)).all (·.1.isSome) = true := by intro _; rfl) (hks : ∀ env, (backToKw pc (keywordEach kws env)).filterMap (·.1) = ks := by intro _; rfl)
    (hdb : (f == ("__debug__" : Str)) = false := by decide) (he : ∀ env, starEach (e :: es) env = (false, eval e env) :: starEach es env := by intro _; rfl)
    (hpl : ∀ env, ((backTo pc (starEach (e :: es) env)).any (·.1) || (backToKw pc (keywordEach kws env)).any (·.1.isNone)) = false := by intro _; rfl)
    (hdx : (x == ("__debug__" : Str)) = false := by decide) (hd : (a == ("__debug__" : Str)) = false := by decide) (hcd : (a == ("__classdict__" : Str)) = false := by decide) :
    QE X (.Call (.Name x p) [.Lambda params (.Call (.Name f pf) (e :: es) kws pc) scope lpos] [] pos) (dLamG T (dCallW sp gD n ks.length t tk) cs wd) := by
  obtain ⟨oc, od, dV, kV, doc, pm, an, cdv, ct, osl, rfl, lk, hcg, _, _⟩ := Fg.ex
  have T1 : ((He.cT X.K d).2, X.env.qual ++ "<lambda>") ∈ T.map fun t => ((He.cT X.K t.1).2, t.2) := List.mem_map.mpr ⟨(d, q), hT, by rw [hq]⟩
  refine PE.imp (LamX.pe_lamcall (T := T.map fun t => ((He.cT X.K t.1).2, t.2)) (t := fun E => lCW X.K X.mg (dCallW sp gD n ks.length t tk) (fun cls d _ H' => E cls d H')) hg hm Fg.kp lk hcg Bg Sg hNg hva (TT := TTw X.K cs wd) (by rw [hq]; exact hG cdv) TB hcode T1
    (fun p hp e => by
      obtain ⟨t, ht, rfl⟩ := List.mem_map.mp hp
      rw [hq]; exact hdist t ht e) hr.room L hdef hbind (fun A outer s H E f' c' hr2 => ?_) hdx hd hcd) fun σ H Q z => ?_
  · exact pe_callNW (X := LamX.lamCx X A outer s H E scope f' c') (gb := false) G pd ⟨hr2, fun z => nomatch z⟩ (takes_of (E := E) rfl rfl rfl rfl) (hgf A outer s H E f' c') (ha A outer s H E f' c') (hkw A outer s H E f' c') (hall _) (hks _) hdb (he _) (hpl _)
  · obtain ⟨δ, M, sr, m, hP, z⟩ := z
    have m1 := m.sub (someTab_sub (T := T))
    have tabs : LamX.Tabs (T.map fun t => ((He.cT X.K t.1).2, t.2)) H := fun p hp => by
      obtain ⟨t, ht, rfl⟩ := List.mem_map.mp hp
      obtain ⟨P, hP⟩ := hP t ht
      obtain ⟨h0, tab⟩ : IsTab X.K H P t.1 t.2 := m P _ hP
      rw [h0] at tab
      exact tab
    refine ⟨tabs, fun H1 eN tb E' Q' hE hQ => ?_⟩
    have x1 := ext_lam eN
    refine ⟨δ, _, sr.ext x1, mrel_lams m1 eN (fun t ht => tb _ (List.mem_map.mpr ⟨t, ht, rfl⟩)), (dCallW sp gD n ks.length t tk).mono z (fun e M' q0 v H' x' m' _ => ?_) fun y M' q0 C H' gC x' m' => ?_⟩
    · refine hQ _ _ ?_
      exact ⟨M', x', m', fun H'' x'' m'' => q0 _ H'' ((x1.trans x').trans x'') m'' dstr⟩
    · obtain ⟨hy, q1⟩ := q0
      have eC : C = He.ga X.K y := by
        have z := gC.symm.trans (gy y hy)
        cases z
        rfl
      subst eC
      refine hE _ _ _ ?_
      exact ⟨rfl, y, M', rfl, hy, x', m', fun H'' x'' m'' => q1 _ H'' ((x1.trans x').trans x'') m'' dstr⟩
end

/-! ### the same without addresses -/
structure PutU (gD : List D → List D → List D) (gU : List U → List U → List U) : Prop where
  rel : ∀ (p : Addr) (us es : List U), gD (us.map (U.d p)) (es.map (U.d p)) = (gU us es).map (U.d p)
structure FCw where
  run : XF → FSt → (U → FSt → Prop) → (Str → FSt → Prop) → Prop
  mono : ∀ {X : XF} {s : FSt} {Q Q' : U → FSt → Prop} {R R' : Str → FSt → Prop}, run X s Q R → (∀ u s', Q u s' → Q' u s') → (∀ x n, R x n → R' x n) → run X s Q' R'
def fCallW (sp : FSp) (gU : List U → List U → List U) (t tk : FA) : FCw where
  run X s Q R := t.run X s fun ws s1 => tk.run X s1 fun zs s2 => ∃ us es, plains ws = some us ∧ plains zs = some es ∧ ∃ (Q0 : U → Nat → Prop) (X0 : XF), (∀ u n, Q0 u n → Q u (s2.pn n)) ∧ (∀ x n, X0 x n → R x (s2.pn n)) ∧ sp (gU us es) s2.n Q0 X0
  mono h k kx := t.mono h fun ws s1 q => tk.mono q fun zs s2 ⟨us, es, e1, e2, Q0, X0, h1, h2, h3⟩ => ⟨us, es, e1, e2, Q0, X0, fun u n q => k _ _ (h1 u n q), fun x n q => kx _ _ (h2 x n q), h3⟩
def fCallN (r : FCw) : FE where
  run X s Q := r.run X s (fun u s' => Q (.v u) s') fun x s' => X x s'.n
  mono h k := r.mono h (fun _ _ q => k _ _ q) fun _ _ q => q
def fLamG (r : FCw) (cs : List Str) (wd : Str → Str) : FE where
  run X s Q := r.run xfNo s (fun _ s' => Q (.v (.str "fine")) s') fun y s' => y ∈ cs ∧ Q (.v (.str (wd y))) s'
  mono h k := r.mono h (fun _ _ q => k _ _ q) fun y n q => ⟨q.1, k _ _ q.2⟩
section
variable {X : Cx} {e : Expr} {E E' : XE} {t tk : FA} {sp : FSp} {T : List Tb} {gD : List D → List D → List D} {gU : List U → List U → List U} {n m : Nat} {cs : List Str} {wd : Str → Str}
theorem callW_le (hT : T = [] ∨ T = E.T) (pu : PutU gD gU) (hn : t.Is n) (hm : tk.Is m) {c : FC} {s : FSt} {F : XF} {δ : DSt} {M : DM} {Q : U → FSt → Prop} {R : Str → FSt → Prop} {Qd : D → DM → Prop} {Rd : XD} (xl : XLk c F E) (C : Conc c s δ M) (q : (fCallW sp gU t tk).run F s Q R)
    (hQ : ∀ u s' M', Conc c s' δ M' → Q u s' → Qd (u.d c.p) M') (hR : ∀ x s' M', Conc c s' δ M' → R x s' → Rd x M') : (dCallW (dsp T sp) gD n m (lFA E t) (lFA E tk)).run δ M Qd Rd := by
  refine ⟨c, s, F, xl, C, t.mono (hn.is q) fun ws s1 ⟨lw, q1⟩ ds M1 C1 v1 => ⟨c, s1, F, xl, C1, tk.mono (hm.is q1) fun zs s2 ⟨lz, us, es, e1, e2, q2⟩ es' M2 C2 v2 => ?_⟩⟩
  have a1 := v1.plain e1
  have a2 := v2.plain e2
  refine ⟨v1.len.trans lw, v2.len.trans lz, ?_⟩
  rw [a1, a2, pu.rel]
  obtain ⟨Q0, X0, h1, h2, h3⟩ := q2
  obtain ⟨M3, sub, C3, t1, t2⟩ := conc_call hT xl C2
  exact .gh ⟨_, M3, .sub sub, ⟨t1, t2⟩, c.p, c.hp, s2.n, _, rfl, ⟨C3.pm0.1, C3.fr.pen C3.pm0.1⟩, Q0, X0, fun u n q => aft_of C3 fun M' C' => hQ u _ M' C' (h1 u n q), fun x n q => aft_of C3 fun M' C' => hR x _ M' C' (h2 x n q), h3⟩
theorem fe_callN (hT : T = [] ∨ T = E.T) (pu : PutU gD gU) (hn : t.Is n) (hm : tk.Is m) (h : QE X e (dCallN (dCallW (dsp T sp) gD n m (lFA E t) (lFA E tk)) E.X)) : QE X e (lFE E (fCallN (fCallW sp gU t tk))) :=
  h.to fun δ M Q ⟨c, s, F, xl, C, q⟩ => callW_le (Q := fun u s' => ∀ (d : D) (M' : DM), Conc c s' δ M' → VRel c δ M' (.v u) d → Q d M') (R := fun x s' => F x s'.n) hT pu hn hm xl C q (fun u s' M' C' q => q _ M' C' rfl) fun x s' M' C' q => xl.1 x _ M' C'.fr q
theorem xl_lam {c : FC} {F : XF} {X0 : XD} (xl : XLk c F E) : XLk c xfNo ⟨X0, E.T⟩ := ⟨fun _ _ _ _ z => z.elim, xl.2⟩
theorem fe_lamG (hE : E.T ≠ []) (hT : T = [] ∨ T = E.T) (pu : PutU gD gU) (hn : t.Is n) (hm : tk.Is m) (h : QE X e (dLamG E.T (dCallW (dsp T sp) gD n m (lFA E.no t) (lFA E.no tk)) cs wd)) : QE X e (lFE E (fLamG (fCallW sp gU t tk) cs wd)) :=
  h.to fun δ M Q ⟨c, s, F, xl, C, q⟩ => ⟨fun t ht => let ⟨P, h⟩ := xl.2.1 t ht; ⟨P, C.fr.m0 _ _ h⟩,
    callW_le (E := E.no) (Q := fun _ s' => ∀ (d : D) (M' : DM), Conc c s' δ M' → VRel c δ M' (.v (.str "fine")) d → Q d M') (R := fun y s' => y ∈ cs ∧ ∀ (d : D) (M' : DM), Conc c s' δ M' → VRel c δ M' (.v (.str (wd y))) d → Q d M') hT pu hn hm (xl_lam xl) (C.clean xl.2.2 hE) q (fun u s' M' C' q => q _ M' C' (by show _ = _; rw [U.d])) fun x s' M' C' q => ⟨q.1, q.2 _ M' C' (by show _ = _; rw [U.d])⟩⟩
end
end LD

/-! LF6: several names at once, among them new lists and dicts -/
namespace LD
open PySem PySem.Spec PyProof.Rows L2

inductive FArg where
  | v (t : FE) | n (t : FN) | m (t : FM)
inductive Fr where
  | v (u : U) | n (us : List U) | m (kvs : List (U × U))
def fEvalA : List FArg → XF → FSt → (List Fr → FSt → Prop) → Prop
  | [], _, s, Q => Q [] s
  | .v t :: r, X, s, Q => t.run X s fun w s1 => match w with | .v u => fEvalA r X s1 fun fs s2 => Q (.v u :: fs) s2 | _ => False
  | .n t :: r, X, s, Q => t.run X s fun us s1 => fEvalA r X s1 fun fs s2 => Q (.n us :: fs) s2
  | .m t :: r, X, s, Q => t.run X s fun us s1 => fEvalA r X s1 fun fs s2 => Q (.m us :: fs) s2
theorem fEvalA_mono : ∀ (as : List FArg) {X : XF} {s : FSt} {Q Q' : List Fr → FSt → Prop}, fEvalA as X s Q → (∀ fs s', Q fs s' → Q' fs s') → fEvalA as X s Q'
  | [], _, _, _, _, h, k => k _ _ h
  | .v t :: r, _, _, _, _, h, k => t.mono h fun w s1 q => by
    revert q; split <;> intro q
    · exact fEvalA_mono r q fun _ _ => k _ _
    · exact q
  | .n t :: r, _, _, _, _, h, k => t.mono h fun w s1 q => fEvalA_mono r q fun _ _ => k _ _
  | .m t :: r, _, _, _, _, h, k => t.mono h fun w s1 q => fEvalA_mono r q fun _ _ => k _ _
def putFr : List Nat → List Fr → FSt → FSt
  | i :: is, .v u :: fs, s => putFr is fs (s.set i (some (.v u)))
  | i :: is, .n us :: fs, s => putFr is fs (s.set i (some (.ol i us)))
  | i :: is, .m us :: fs, s => putFr is fs (s.set i (some (.od i us)))
  | _, _, s => s
def putDs : List Nat → List D → DSt → DSt
  | i :: is, d :: ds, δ => putDs is ds (δ.set i (some d))
  | _, _, δ => δ
/-- i, j, .. = e, f, .. -/
def fParA (is : List Nat) (as : List FArg) : FS := ⟨fun X E s => fEvalA as X s fun fs s1 => fs.length = is.length ∧ E.nx (putFr is fs s1), fun h k => fEvalA_mono as h fun _ _ q => ⟨q.1, k.nx _ q.2⟩⟩
def dArgs (E : XE) : List FArg → DA
  | [] => dNil
  | .v t :: r => dCons (lFE E t) (dArgs E r)
  | .n t :: r => dCons (lFN E t) (dArgs E r)
  | .m t :: r => dCons (lFM E t) (dArgs E r)

def FC.minus (c : FC) (p : Addr) : FC := ⟨c.p, c.hp, fun a => if a = p then none else c.M0 a⟩
theorem more_minus {c : FC} {p : Addr} {o : MO} (h : c.M0 p = none) : (c.more p o).minus p = c := by
  obtain ⟨cp, hp, M0⟩ := c
  have e : (fun a => if a = p then none else put M0 p o a) = M0 := by
    funext a
    by_cases ha : a = p
    · subst ha; rw [if_pos rfl]; exact h.symm
    · rw [if_neg ha, put_ne ha]
  show (⟨cp, hp, fun a => if a = p then none else put M0 p o a⟩ : FC) = ⟨cp, hp, M0⟩
  rw [e]
theorem more_minus_ne {c : FC} {p q : Addr} {o : MO} (h : q ≠ p) : (c.more q o).minus p = (c.minus p).more q o := by
  show (⟨c.p, c.hp, _⟩ : FC) = ⟨c.p, c.hp, _⟩
  congr 1
  funext a
  by_cases ha : a = p
  · subst ha; rw [if_pos rfl, put_ne (Ne.symm h)]; show none = if a = a then none else c.M0 a; rw [if_pos rfl]
  · rw [if_neg ha]
    by_cases hq : a = q
    · subst hq; show put c.M0 a o a = put (c.minus p).M0 a o a; rw [put_same, put_same]
    · show put c.M0 q o a = put (c.minus p).M0 q o a; rw [put_ne hq, put_ne hq]; show c.M0 a = if a = p then none else c.M0 a; rw [if_neg ha]
/-- what was made on the way stands among what stood -/
inductive ExtR : FC → FC → List Fr → List D → Prop
  | nil {c} : ExtR c c [] []
  | v {c c' u fs ds} : ExtR c c' fs ds → ExtR c c' (.v u :: fs) (U.d c.p u :: ds)
  | n {c c' us p fs ds} : c.M0 p = none → (c.hp = true → p ≠ c.p) → ExtR (c.more p (.lst (us.map (U.d c.p)))) c' fs ds → ExtR c c' (.n us :: fs) (.ref p :: ds)
  | m {c c' us p fs ds} : c.M0 p = none → (c.hp = true → p ≠ c.p) → ExtR (c.more p (.dct (Uk.d c.p us))) c' fs ds → ExtR c c' (.m us :: fs) (.ref p :: ds)
theorem ExtR.base {c c' : FC} {fs : List Fr} {ds : List D} (h : ExtR c c' fs ds) : c'.p = c.p ∧ c'.hp = c.hp ∧ Sub c.M0 c'.M0 := by
  induction h with
  | nil => exact ⟨rfl, rfl, .refl _⟩
  | v _ ih => exact ih
  | n h1 _ _ ih => exact ⟨ih.1, ih.2.1, (Sub.new h1).trans ih.2.2⟩
  | m h1 _ _ ih => exact ⟨ih.1, ih.2.1, (Sub.new h1).trans ih.2.2⟩
theorem ExtR.len {c c' : FC} {fs : List Fr} {ds : List D} (h : ExtR c c' fs ds) : fs.length = ds.length := by
  induction h with
  | nil => rfl
  | v _ ih => exact congrArg Nat.succ ih
  | n _ _ _ ih => exact congrArg Nat.succ ih
  | m _ _ _ ih => exact congrArg Nat.succ ih
theorem ExtR.minus {c c' : FC} {fs : List Fr} {ds : List D} (h : ExtR c c' fs ds) {p : Addr} {o : MO} (hp : c.M0 p = some o) : ExtR (c.minus p) (c'.minus p) fs ds := by
  induction h with
  | nil => exact .nil
  | @v c c' u fs ds _ ih => exact ExtR.v (c := c.minus p) (ih hp)
  | @n c c' us q fs ds h1 h2 _ ih =>
    have nq : q ≠ p := fun z => by rw [z, hp] at h1; cases h1
    have := ih (show put c.M0 q _ p = some o by rw [put_ne (Ne.symm nq)]; exact hp)
    rw [more_minus_ne nq] at this
    exact .n (by show (if q = p then none else c.M0 q) = none; rw [if_neg nq]; exact h1) h2 this
  | @m c c' us q fs ds h1 h2 _ ih =>
    have nq : q ≠ p := fun z => by rw [z, hp] at h1; cases h1
    have := ih (show put c.M0 q _ p = some o by rw [put_ne (Ne.symm nq)]; exact hp)
    rw [more_minus_ne nq] at this
    exact .m (by show (if q = p then none else c.M0 q) = none; rw [if_neg nq]; exact h1) h2 this
/-- what stood becomes a name's own -/
theorem Conc.take {c : FC} {s : FSt} {δ : DSt} {M : DM} (C : Conc c s δ M) (i : Nat) {w : W} {o : MO} {p : Addr} (ho : ownO c w = some (i, o)) (h0 : c.M0 p = some o) (hp : c.hp = true → p ≠ c.p) : Conc (c.minus p) (s.set i (some w)) (δ.set i (some (.ref p))) M := by
  have ow : ∀ w, ownO (c.minus p) w = ownO c w := fun w => by cases w <;> rfl
  have key : ∀ j x, (s.v.set i (some w))[j]? = some (some x) → (j = i ∧ i < s.v.length ∧ w = x) ∨ (j ≠ i ∧ s.v[j]? = some (some x)) := fun j x e => by
    by_cases hij : i = j
    · subst hij
      by_cases hl : i < s.v.length
      · rw [List.getElem?_set_self hl] at e
        exact .inl ⟨rfl, hl, Option.some.inj (Option.some.inj e)⟩
      · rw [List.getElem?_eq_none (by simpa using hl)] at e; cases e
    · rw [List.getElem?_set_ne hij] at e
      exact .inr ⟨fun z => hij z.symm, e⟩
  have kd : ∀ j, j ≠ i → (δ.set i (some (D.ref p)))[j]? = δ[j]? := fun j hj => List.getElem?_set_ne (Ne.symm hj)
  have ki : i < s.v.length → (δ.set i (some (D.ref p)))[i]? = some (some (.ref p)) := fun hl => List.getElem?_set_self (by rw [← C.len]; exact hl)
  have own' : ∀ {a}, Own c a → Own (c.minus p) a := fun {a} h => ⟨by show (if a = p then none else c.M0 a) = none; split; rfl; exact h.m0, h.pen⟩
  have far : ∀ j x q b, s.v[j]? = some (some x) → ownO c x = some q → δ[j]? = some (some (D.ref b)) → b ≠ p := fun j x q b e1 e2 e3 z => by
    obtain ⟨_, b', h1, h2, h3⟩ := C.own j x q.1 q.2 e1 e2
    rw [h1] at e3; cases e3
    rw [z] at h3
    have := h3.m0
    rw [h0] at this; cases this
  refine ⟨by show (s.v.set i _).length = _; rw [List.length_set, List.length_set]; exact C.len, fun j u e => ?_, fun j x k u e1 e2 => ?_, fun j k x y q q' b e1 e2 e3 e4 e5 e6 => ?_, ⟨fun b u e => ?_, C.fr.pen⟩, ⟨C.pm0.1, fun e => ?_⟩⟩
  · rcases key j _ e with ⟨rfl, hl, e'⟩ | ⟨hj, e'⟩
    · rw [e'] at ho; cases ho
    · rw [kd j hj]; exact C.val j u e'
  · rw [ow] at e2
    rcases key j _ e1 with ⟨rfl, hl, e⟩ | ⟨hj, e⟩
    · rw [← e, ho] at e2
      cases e2
      exact ⟨rfl, p, ki hl, C.fr.m0 _ _ h0, ⟨if_pos rfl, hp⟩⟩
    · obtain ⟨z, b, h1, h2, h3⟩ := C.own j x k u e e2
      exact ⟨z, b, by rw [kd j hj]; exact h1, h2, own' h3⟩
  · rw [ow] at e3 e4
    rcases key j _ e1 with ⟨hj, hl, e⟩ | ⟨hj, e⟩
    · rcases key k _ e2 with ⟨hk, _, e'⟩ | ⟨hk, e'⟩
      · rw [hj, hk]
      · subst hj
        rw [ki hl] at e5; cases e5
        rw [kd k hk] at e6
        exact (far k y _ _ e' e4 e6 rfl).elim
    · rcases key k _ e2 with ⟨hk, hl, e'⟩ | ⟨hk, e'⟩
      · subst hk
        rw [ki hl] at e6; cases e6
        rw [kd j hj] at e5
        exact (far j x _ _ e e3 e5 rfl).elim
      · rw [kd j hj] at e5
        rw [kd k hk] at e6
        exact C.inj j k x y q q' b e e' e3 e4 e5 e6
  · have e : (if b = p then none else c.M0 b) = some u := e
    split at e
    · cases e
    · exact C.fr.m0 b u e
  · show (if c.p = p then none else c.M0 c.p) = none
    split
    · rfl
    · exact C.pm0.2 e
theorem ownO_p {c c' : FC} (h : c'.p = c.p) (w : W) : ownO c' w = ownO c w := by
  cases w with
  | v u => rfl
  | ol i us => unfold ownO; rw [h]
  | od i us => unfold ownO; rw [h]
theorem put_le {c c' : FC} {fs : List Fr} {ds : List D} (h : ExtR c c' fs ds) : ∀ {is : List Nat} {s : FSt} {δ : DSt} {M : DM}, fs.length = is.length → Conc c' s δ M → Conc c (putFr is fs s) (putDs is ds δ) M := by
  induction fs generalizing c c' ds with
  | nil =>
    intro is s δ M hl C
    cases h
    cases is with
    | nil => exact C
    | cons => cases hl
  | cons f fs ih =>
    intro is s δ M hl C
    cases is with
    | nil => cases hl
    | cons i is =>
      replace hl : fs.length = is.length := by simpa using hl
      cases h with
      | v h =>
        rename_i u ds
        exact ih h hl (C.setV i (some u) (some (U.d c.p u)) fun _ e => by cases e; rw [h.base.1])
      | n h1 h2 h =>
        rename_i us p ds
        obtain ⟨b1, b2, b3⟩ := h.base
        have b1 : c'.p = c.p := b1
        have b2 : c'.hp = c.hp := b2
        have C2 := C.take i (w := .ol i us) (o := .lst (us.map (U.d c.p))) (p := p) (by rw [ownO_p b1]; rfl) (b3 _ _ put_same) (by rw [b1, b2]; exact h2)
        have h3 := h.minus (p := p) (o := .lst (us.map (U.d c.p))) put_same
        rw [more_minus h1] at h3
        exact ih h3 hl C2
      | m h1 h2 h =>
        rename_i us p ds
        obtain ⟨b1, b2, b3⟩ := h.base
        have b1 : c'.p = c.p := b1
        have b2 : c'.hp = c.hp := b2
        have C2 := C.take i (w := .od i us) (o := .dct (Uk.d c.p us)) (p := p) (by rw [ownO_p b1]; rfl) (b3 _ _ put_same) (by rw [b1, b2]; exact h2)
        have h3 := h.minus (p := p) (o := .dct (Uk.d c.p us)) put_same
        rw [more_minus h1] at h3
        exact ih h3 hl C2
theorem xl_more {c : FC} {F : XF} {E : XE} {A : Addr} {o : MO} (oA : Own c A) (ho : (∀ u, o ≠ .raw u) ∧ ∀ d q, o ≠ .tab d q) (xl : XLk c F E) : XLk (c.more A o) F E := ⟨fun x n M f h => xl.1 x n M ⟨fun a u e => f.m0 a u (show put c.M0 A o a = some u by rw [put_ne (fun z => by rw [z, oA.m0] at e; cases e)]; exact e), f.pen⟩ h, fun t ht => by
  obtain ⟨P, h⟩ := xl.2.1 t ht
  refine ⟨P, ?_⟩
  show put c.M0 A o P = _
  rw [put_ne (fun z => by rw [z, oA.m0] at h; cases h)]; exact h, fun n a u h => by
  have h : put c.M0 A o a = some u := h
  by_cases ha : a = A
  · subst ha
    rw [put_same] at h
    cases h
    exact ⟨ho.1, fun d q z => (ho.2 d q z).elim⟩
  · rw [put_ne ha] at h
    exact xl.2.2 n a u h⟩
theorem conc_new {c : FC} {s : FSt} {δ : DSt} {M : DM} (C : Conc c s δ M) {p : Addr} {o : MO} (hp : M p = none) : Conc (c.more p o) s δ (put M p o) := by
  refine (C.sub (Sub.new hp)).more put_same (C.fresh hp) fun k w q g1 g2 z => ?_
  obtain ⟨e, a, g3, g4, g5⟩ := C.own k w q.1 q.2 g1 g2
  rw [z] at g3; cases g3
  rw [hp] at g4; cases g4
theorem args_le {E : XE} : ∀ (as : List FArg) {c : FC} {s : FSt} {δ : DSt} {M : DM} {F : XF} {Qf : List Fr → FSt → Prop} {Q : List D → DM → Prop}, XLk c F E → Conc c s δ M → fEvalA as F s Qf →
    (∀ fs s' ds M' c', Conc c' s' δ M' → ExtR c c' fs ds → Qf fs s' → Q ds M') → (dArgs E as).run δ M Q
  | [], c, s, δ, M, F, Qf, Q, xl, C, q, k => k [] s [] M c C .nil q
  | .v t :: r, c, s, δ, M, F, Qf, Q, xl, C, q, k => ⟨c, s, F, xl, C, t.mono q fun w s1 q1 d M1 C1 v1 => by
    split at q1
    · have e := v1.v
      subst e
      exact args_le r xl C1 q1 fun fs s' ds M' c' C' x q' => k _ s' _ M' c' C' (.v x) q'
    · exact q1.elim⟩
  | .n t :: r, c, s, δ, M, F, Qf, Q, xl, C, q, k => ⟨c, s, F, xl, C, t.mono q fun us s1 q1 p M1 C1 hp => by
    have oA := C1.fresh hp
    exact args_le r (xl_more (o := .lst (us.map (U.d c.p))) oA ⟨fun _ => (nofun), fun _ _ => (nofun)⟩ xl) (conc_new C1 hp) q1 fun fs s' ds M' c' C' x q' => k _ s' _ M' c' C' (.n oA.m0 oA.pen x) q'⟩
  | .m t :: r, c, s, δ, M, F, Qf, Q, xl, C, q, k => ⟨c, s, F, xl, C, t.mono q fun us s1 q1 p M1 C1 hp => by
    have oA := C1.fresh hp
    exact args_le r (xl_more (o := .dct (Uk.d c.p us)) oA ⟨fun _ => (nofun), fun _ _ => (nofun)⟩ xl) (conc_new C1 hp) q1 fun fs s' ds M' c' C' x q' => k _ s' _ M' c' C' (.m oA.m0 oA.pen x) q'⟩
section
variable {X : Cx} {st : Stmt} {E : XE} {as : List FArg} {i j l : Nat}
theorem fs_parA2 (h : QS X st (dPar2 i j (dArgs E as))) : QS X st (lFS E (fParA [i, j] as)) := h.to fun D δ M ⟨c, s, F, EF, xl, C, el, q⟩ => by
  refine args_le as xl C q fun fs s' ds M' c' C' x ⟨hl, q'⟩ => ?_
  have e := x.len.symm.trans hl
  obtain ⟨a, b, rfl⟩ : ∃ a b, ds = [a, b] := by
    have e : ds.length = 2 := e
    match ds, e with
    | [a, b], _ => exact ⟨a, b, rfl⟩
  exact el.nx _ _ _ (put_le x hl C') q'
theorem fs_parA3 (h : QS X st (dPar3 i j l (dArgs E as))) : QS X st (lFS E (fParA [i, j, l] as)) := h.to fun D δ M ⟨c, s, F, EF, xl, C, el, q⟩ => by
  refine args_le as xl C q fun fs s' ds M' c' C' x ⟨hl, q'⟩ => ?_
  have e := x.len.symm.trans hl
  obtain ⟨a, b, d, rfl⟩ : ∃ a b d, ds = [a, b, d] := by
    have e : ds.length = 3 := e
    match ds, e with
    | [a, b, d], _ => exact ⟨a, b, d, rfl⟩
  exact el.nx _ _ _ (put_le x hl C') q'
def dNames : List Nat → DGs
  | [] => dGNil
  | i :: is => dGCons (dName i) (dNames is)
theorem dNames_run : ∀ {is : List Nat} {ds : List D} {δ : DSt} {M : DM} {Q : DSt → DM → Prop}, ds.length = is.length → Q (putDs is ds δ) M → (dNames is).run ds δ M Q := fun {is} => by
  induction is with
  | nil =>
    intro ds δ M Q hl q
    cases ds with
    | nil => exact q
    | cons => cases hl
  | cons i is ih =>
    intro ds δ M Q hl q
    cases ds with
    | nil => cases hl
    | cons d ds => exact ih (by simpa using hl) q
theorem fs_parT {is : List Nat} (hz : is.length ≤ 100) (h : QS X st (dAsg (dTup (dArgs E as)) (dGTup (dNames is)))) : QS X st (lFS E (fParA is as)) := h.to fun D δ M ⟨c, s, F, EF, xl, C, el, q⟩ => by
  refine args_le as xl C q fun fs s' ds M' c' C' x ⟨hl, q'⟩ => ?_
  have e := x.len.symm.trans hl
  refine ⟨by rw [e]; exact Nat.le_trans hz (szle (n := 100)), ?_⟩
  exact dNames_run e (el.nx _ _ _ (put_le x hl C') q')
theorem qa_argsNil : QA X [] (dArgs E []) := qa_nil
end
end LD

/-! LEW: the word of an error (from k32's text) -/
namespace LD
open PySem PySem.Spec PyProof.Rows L2

theorem put_keep {M : DM} {p q : Addr} {o u : MO} (h : M p = some o) (f : M q = none) : put M q u p = some o := by
  rw [put_ne (fun z => by rw [z, f] at h; cases h)]
  exact h
theorem Gh.gen {δ : DSt} {M : DM} {P : DSt → DM → Prop} (C : DM → Prop) (h : C M) (k : ∀ M1, C M1 → P δ M1) : Gh δ M P := .here (k M h)
def clF (y : Str) (l : List Str) : List D := l.map fun c => .bl (relE y c)
def cs32 : List Str := ["LaterError", "NoMachine", "NoPlain", "NoLetters", "NoRule", "NoRow", "NoWord", "NoNumber", "NoDivisor", "NoMatch", "NoLimit", "HasRow", "TooGreat"]
def ecl32 : List Str := ["NoMachine", "NoPlain", "NoLetters", "NoRule", "NoRow", "NoWord", "NoNumber", "NoDivisor", "NoMatch", "TooGreat", "NoLimit", "HasRow"]
def wds32 : List Str := ["machine", "plain", "letters", "rule", "row", "word", "number", "divisor", "match", "great", "limit", "has"]
/-- the word of a class -/
def wd_law_x_word (y : Str) : Str := ((ecl32.zip wds32).lookup y).getD "odd"
def b_law_x_word (X : XD) : DS :=
  dSeq (dIfS (dTB (dOp (oIsN false) (dVar 1) (dC .non))) (dEnd (dRet (dC (.str "fine")))) (dSNil))
  (dSeq (dSet 3 (dLst (dCons (dIsX cs32 "NoMachine" (dVar 1)) (dCons (dIsX cs32 "NoPlain" (dVar 1)) (dCons (dIsX cs32 "NoLetters" (dVar 1)) (dNil))))))
  (dSeq (dSet 3 (dOp oAdd (dVar 3) (dLst (dCons (dIsX cs32 "NoRule" (dVar 1)) (dCons (dIsX cs32 "NoRow" (dVar 1)) (dCons (dIsX cs32 "NoWord" (dVar 1)) (dNil)))))))
  (dSeq (dSet 3 (dOp oAdd (dVar 3) (dLst (dCons (dIsX cs32 "NoNumber" (dVar 1)) (dCons (dIsX cs32 "NoDivisor" (dVar 1)) (dCons (dIsX cs32 "NoMatch" (dVar 1)) (dNil)))))))
  (dSeq (dSet 3 (dOp oAdd (dVar 3) (dLst (dCons (dIsX cs32 "TooGreat" (dVar 1)) (dCons (dIsX cs32 "NoLimit" (dVar 1)) (dCons (dIsX cs32 "HasRow" (dVar 1)) (dNil)))))))
  (dSeq (dSet 4 (dLst (dCons (dC (.str "machine")) (dCons (dC (.str "plain")) (dCons (dC (.str "letters")) (dCons (dC (.str "rule")) (dCons (dC (.str "row")) (dCons (dC (.str "word")) (dCons (dC (.str "number")) (dCons (dC (.str "divisor")) (dCons (dC (.str "match")) (dCons (dC (.str "great")) (dCons (dC (.str "limit")) (dNil))))))))))))))
  (dSeq (dDrop (dMethL mAppend (dVar 4) (dCons (dC (.str "has")) (dNil))))
  (dEnd (dRet (dIf (dAndT (dTB (dOp oEq (dMethL mCountB (dVar 3) (dCons (dC (.bl true)) (dNil))) (dC (.int 1)))) (dTB (dIsXV cs32 (dVar 1)))) (dOp oIx (dVar 4) (dMethL mIndex (dVar 3) (dCons (dC (.bl true)) (dNil)))) (dC (.str "odd")))))))))))

/-- of a list of bools, the first true one -/
def firstT : List Bool → Option Nat
  | [] => none
  | true :: _ => some 0
  | false :: bs => (firstT bs).map (· + 1)
theorem firstT_some : ∀ {bs : List Bool} {j : Nat}, firstT bs = some j → bs[j]? = some true ∧ ∀ m b, m < j → bs[m]? = some b → b = false
  | true :: bs, j, h => by
    have e : 0 = j := Option.some.inj h
    subst e
    exact ⟨rfl, fun m _ hm => absurd hm (Nat.not_lt_zero m)⟩
  | false :: bs, j, h => by
    cases e : firstT bs with
    | none => rw [firstT, e] at h; cases h
    | some i =>
      rw [firstT, e] at h
      have e2 : i + 1 = j := Option.some.inj h
      subst e2
      obtain ⟨h1, h2⟩ := firstT_some e
      refine ⟨h1, fun m b hm hb => ?_⟩
      cases m with
      | zero => exact (Option.some.inj hb).symm
      | succ m => exact h2 m b (by omega) hb
theorem word_facts : ∀ y ∈ cs32, ((ecl32.map (relE y)).count true = 1 ∧ ∃ j, firstT (ecl32.map (relE y)) = some j ∧ wds32[j]? = some (wd_law_x_word y)) ∨ ((ecl32.map (relE y)).count true = 0 ∧ wd_law_x_word y = "odd") := by
  intro y hy
  have key : ∀ y ∈ cs32, ((decide ((ecl32.map (relE y)).count true = 1) && (match firstT (ecl32.map (relE y)) with | some j => decide (wds32[j]? = some (wd_law_x_word y)) | none => false)) || (decide ((ecl32.map (relE y)).count true = 0) && decide (wd_law_x_word y = "odd"))) = true := by decide +kernel
  have k := key y hy
  rw [Bool.or_eq_true, Bool.and_eq_true, Bool.and_eq_true] at k
  rcases k with ⟨k1, k2⟩ | ⟨k1, k2⟩
  · refine .inl ⟨of_decide_eq_true k1, ?_⟩
    split at k2
    · rename_i j e; exact ⟨j, e, of_decide_eq_true k2⟩
    · cases k2
  · exact .inr ⟨of_decide_eq_true k1, of_decide_eq_true k2⟩
theorem p_word_fine (X : XD) (E : DEnds) (δ : DSt) (M : DM) (hl : δ.length = 5) (h1 : δ[1]? = some (some .non)) (q : ∀ M'', Sub M M'' → E.rt (.str "fine") M'') : (b_law_x_word X).run E δ M := by
  dsimp only [dSeq, dEnd, dSNil, dPass, dBreak, dCont, dNever, dDrop, dRet, dRetN, dIfS, dName, dAsg, dSet, dPar2, dPar3, dGNil, dGCons, dGTup, dSubL, dWhile, dFor, dItSeq, dItR1, dItR2, dItEnum, dVar, dC, dNil, dCons, dTup, dLst, dOp, dUn, dTB, dAndT, dOrT, dNotT, dAndV, dOrV, dNotV, dIf, dChain, dSlice, dNoP, dPart, dCB, dIsi, dCall, dRaise, oEq, oNe, oLt, oLe, oGt, oGe, oIsN, r_add_ii, r_add_ss, r_add_tt, r_add_r, r_add_l, r_add_ib, r_add_bi, r_add_bb, r_sub_ii, r_sub_bb, r_mul_ii, r_mul_si, r_fdiv_ii, r_mod_ii, r_pow_ii, r_neg_i, r_eq_ii, r_eq_ss, r_ord_ii, r_ix_t, r_ix_l, r_ix_r, r_ix_s, r_len_s, r_len_t, r_len_l, r_len_r, r_abs_i, r_int_i, r_int_b, r_list, r_tuple, r_repr_s, spEnds, wkX, List.getElem?_cons_zero, List.getElem?_cons_succ, List.set_cons_zero, List.set_cons_succ, dIsX, dIsXV, dNew, dTryAs, dMethL, mAppend, mIndex, mCountB, oIn, b_law_x_word]
  rw [h1]
  exact q M (.refl M)
theorem p_word (X : XD) (E : DEnds) (δ : DSt) (M : DM) (b : Addr) (y : Str) (hl : δ.length = 5) (h1 : δ[1]? = some (some (.ref b))) (hb : M b = some (.exc y)) (hy : y ∈ cs32) (q : ∀ M'', Sub M M'' → E.rt (.str (wd_law_x_word y)) M'') : (b_law_x_word X).run E δ M := by
  match δ, hl, h1 with
  | [t0, t1, t2, t3, t4], _, h1 =>
    have e1 : t1 = some (.ref b) := by simpa using h1
    subst e1
    clear h1
    dsimp only [dSeq, dEnd, dSNil, dPass, dBreak, dCont, dNever, dDrop, dRet, dRetN, dIfS, dName, dAsg, dSet, dPar2, dPar3, dGNil, dGCons, dGTup, dSubL, dWhile, dFor, dItSeq, dItR1, dItR2, dItEnum, dVar, dC, dNil, dCons, dTup, dLst, dOp, dUn, dTB, dAndT, dOrT, dNotT, dAndV, dOrV, dNotV, dIf, dChain, dSlice, dNoP, dPart, dCB, dIsi, dCall, dRaise, oEq, oNe, oLt, oLe, oGt, oGe, oIsN, r_add_ii, r_add_ss, r_add_tt, r_add_r, r_add_l, r_add_ib, r_add_bi, r_add_bb, r_sub_ii, r_sub_bb, r_mul_ii, r_mul_si, r_fdiv_ii, r_mod_ii, r_pow_ii, r_neg_i, r_eq_ii, r_eq_ss, r_ord_ii, r_ix_t, r_ix_l, r_ix_r, r_ix_s, r_len_s, r_len_t, r_len_l, r_len_r, r_abs_i, r_int_i, r_int_b, r_list, r_tuple, r_repr_s, spEnds, wkX, List.getElem?_cons_zero, List.getElem?_cons_succ, List.set_cons_zero, List.set_cons_succ, dIsX, dIsXV, dNew, dTryAs, dMethL, mAppend, mIndex, mCountB, oIn, b_law_x_word]
    refine .here ?_
    dsimp only [dSeq, dEnd, dSNil, dPass, dBreak, dCont, dNever, dDrop, dRet, dRetN, dIfS, dName, dAsg, dSet, dPar2, dPar3, dGNil, dGCons, dGTup, dSubL, dWhile, dFor, dItSeq, dItR1, dItR2, dItEnum, dVar, dC, dNil, dCons, dTup, dLst, dOp, dUn, dTB, dAndT, dOrT, dNotT, dAndV, dOrV, dNotV, dIf, dChain, dSlice, dNoP, dPart, dCB, dIsi, dCall, dRaise, oEq, oNe, oLt, oLe, oGt, oGe, oIsN, r_add_ii, r_add_ss, r_add_tt, r_add_r, r_add_l, r_add_ib, r_add_bi, r_add_bb, r_sub_ii, r_sub_bb, r_mul_ii, r_mul_si, r_fdiv_ii, r_mod_ii, r_pow_ii, r_neg_i, r_eq_ii, r_eq_ss, r_ord_ii, r_ix_t, r_ix_l, r_ix_r, r_ix_s, r_len_s, r_len_t, r_len_l, r_len_r, r_abs_i, r_int_i, r_int_b, r_list, r_tuple, r_repr_s, spEnds, wkX, List.getElem?_cons_zero, List.getElem?_cons_succ, List.set_cons_zero, List.set_cons_succ, dIsX, dIsXV, dNew, dTryAs, dMethL, mAppend, mIndex, mCountB, oIn]
    refine ⟨y, hb, hy, y, hb, hy, y, hb, hy, szle (n := 3), fun q0 f0 => .gen (fun Nw => Sub M Nw ∧ Nw q0 = some (.lst (clF y ["NoMachine", "NoPlain", "NoLetters"])) ∧ Nw b = some (.exc y)) ⟨.new f0, put_same, put_keep hb f0⟩ fun M1 ⟨s1, l1, p1⟩ => ?_⟩
    dsimp only [dSeq, dEnd, dSNil, dPass, dBreak, dCont, dNever, dDrop, dRet, dRetN, dIfS, dName, dAsg, dSet, dPar2, dPar3, dGNil, dGCons, dGTup, dSubL, dWhile, dFor, dItSeq, dItR1, dItR2, dItEnum, dVar, dC, dNil, dCons, dTup, dLst, dOp, dUn, dTB, dAndT, dOrT, dNotT, dAndV, dOrV, dNotV, dIf, dChain, dSlice, dNoP, dPart, dCB, dIsi, dCall, dRaise, oEq, oNe, oLt, oLe, oGt, oGe, oIsN, r_add_ii, r_add_ss, r_add_tt, r_add_r, r_add_l, r_add_ib, r_add_bi, r_add_bb, r_sub_ii, r_sub_bb, r_mul_ii, r_mul_si, r_fdiv_ii, r_mod_ii, r_pow_ii, r_neg_i, r_eq_ii, r_eq_ss, r_ord_ii, r_ix_t, r_ix_l, r_ix_r, r_ix_s, r_len_s, r_len_t, r_len_l, r_len_r, r_abs_i, r_int_i, r_int_b, r_list, r_tuple, r_repr_s, spEnds, wkX, List.getElem?_cons_zero, List.getElem?_cons_succ, List.set_cons_zero, List.set_cons_succ, dIsX, dIsXV, dNew, dTryAs, dMethL, mAppend, mIndex, mCountB, oIn]
    refine ⟨y, p1, hy, y, p1, hy, y, p1, hy, szle (n := 3), fun a f => ⟨clF y ["NoMachine", "NoPlain", "NoLetters"], clF y ["NoRule", "NoRow", "NoWord"], .inl (put_keep l1 f), .inl put_same, szle (n := 6), fun q1 g => ?_⟩⟩
    refine .gen (fun Nw => Sub M Nw ∧ Nw q1 = some (.lst (clF y ["NoMachine", "NoPlain", "NoLetters", "NoRule", "NoRow", "NoWord"])) ∧ Nw b = some (.exc y)) ⟨(s1.trans (.new f)).trans (.new g), put_same, put_keep (put_keep p1 f) g⟩ fun M2 ⟨s2, l2, p2⟩ => ?_
    dsimp only [dSeq, dEnd, dSNil, dPass, dBreak, dCont, dNever, dDrop, dRet, dRetN, dIfS, dName, dAsg, dSet, dPar2, dPar3, dGNil, dGCons, dGTup, dSubL, dWhile, dFor, dItSeq, dItR1, dItR2, dItEnum, dVar, dC, dNil, dCons, dTup, dLst, dOp, dUn, dTB, dAndT, dOrT, dNotT, dAndV, dOrV, dNotV, dIf, dChain, dSlice, dNoP, dPart, dCB, dIsi, dCall, dRaise, oEq, oNe, oLt, oLe, oGt, oGe, oIsN, r_add_ii, r_add_ss, r_add_tt, r_add_r, r_add_l, r_add_ib, r_add_bi, r_add_bb, r_sub_ii, r_sub_bb, r_mul_ii, r_mul_si, r_fdiv_ii, r_mod_ii, r_pow_ii, r_neg_i, r_eq_ii, r_eq_ss, r_ord_ii, r_ix_t, r_ix_l, r_ix_r, r_ix_s, r_len_s, r_len_t, r_len_l, r_len_r, r_abs_i, r_int_i, r_int_b, r_list, r_tuple, r_repr_s, spEnds, wkX, List.getElem?_cons_zero, List.getElem?_cons_succ, List.set_cons_zero, List.set_cons_succ, dIsX, dIsXV, dNew, dTryAs, dMethL, mAppend, mIndex, mCountB, oIn]
    refine ⟨y, p2, hy, y, p2, hy, y, p2, hy, szle (n := 3), fun a f => ⟨clF y ["NoMachine", "NoPlain", "NoLetters", "NoRule", "NoRow", "NoWord"], clF y ["NoNumber", "NoDivisor", "NoMatch"], .inl (put_keep l2 f), .inl put_same, szle (n := 9), fun q2 g => ?_⟩⟩
    refine .gen (fun Nw => Sub M Nw ∧ Nw q2 = some (.lst (clF y ["NoMachine", "NoPlain", "NoLetters", "NoRule", "NoRow", "NoWord", "NoNumber", "NoDivisor", "NoMatch"])) ∧ Nw b = some (.exc y)) ⟨(s2.trans (.new f)).trans (.new g), put_same, put_keep (put_keep p2 f) g⟩ fun M3 ⟨s3, l3, p3⟩ => ?_
    dsimp only [dSeq, dEnd, dSNil, dPass, dBreak, dCont, dNever, dDrop, dRet, dRetN, dIfS, dName, dAsg, dSet, dPar2, dPar3, dGNil, dGCons, dGTup, dSubL, dWhile, dFor, dItSeq, dItR1, dItR2, dItEnum, dVar, dC, dNil, dCons, dTup, dLst, dOp, dUn, dTB, dAndT, dOrT, dNotT, dAndV, dOrV, dNotV, dIf, dChain, dSlice, dNoP, dPart, dCB, dIsi, dCall, dRaise, oEq, oNe, oLt, oLe, oGt, oGe, oIsN, r_add_ii, r_add_ss, r_add_tt, r_add_r, r_add_l, r_add_ib, r_add_bi, r_add_bb, r_sub_ii, r_sub_bb, r_mul_ii, r_mul_si, r_fdiv_ii, r_mod_ii, r_pow_ii, r_neg_i, r_eq_ii, r_eq_ss, r_ord_ii, r_ix_t, r_ix_l, r_ix_r, r_ix_s, r_len_s, r_len_t, r_len_l, r_len_r, r_abs_i, r_int_i, r_int_b, r_list, r_tuple, r_repr_s, spEnds, wkX, List.getElem?_cons_zero, List.getElem?_cons_succ, List.set_cons_zero, List.set_cons_succ, dIsX, dIsXV, dNew, dTryAs, dMethL, mAppend, mIndex, mCountB, oIn]
    refine ⟨y, p3, hy, y, p3, hy, y, p3, hy, szle (n := 3), fun a f => ⟨clF y ["NoMachine", "NoPlain", "NoLetters", "NoRule", "NoRow", "NoWord", "NoNumber", "NoDivisor", "NoMatch"], clF y ["TooGreat", "NoLimit", "HasRow"], .inl (put_keep l3 f), .inl put_same, szle (n := 12), fun q3 g => ?_⟩⟩
    refine .gen (fun Nw => Sub M Nw ∧ Nw q3 = some (.lst (clF y ["NoMachine", "NoPlain", "NoLetters", "NoRule", "NoRow", "NoWord", "NoNumber", "NoDivisor", "NoMatch", "TooGreat", "NoLimit", "HasRow"])) ∧ Nw b = some (.exc y)) ⟨(s3.trans (.new f)).trans (.new g), put_same, put_keep (put_keep p3 f) g⟩ fun M4 ⟨s4, l4, p4⟩ => ?_
    dsimp only [dSeq, dEnd, dSNil, dPass, dBreak, dCont, dNever, dDrop, dRet, dRetN, dIfS, dName, dAsg, dSet, dPar2, dPar3, dGNil, dGCons, dGTup, dSubL, dWhile, dFor, dItSeq, dItR1, dItR2, dItEnum, dVar, dC, dNil, dCons, dTup, dLst, dOp, dUn, dTB, dAndT, dOrT, dNotT, dAndV, dOrV, dNotV, dIf, dChain, dSlice, dNoP, dPart, dCB, dIsi, dCall, dRaise, oEq, oNe, oLt, oLe, oGt, oGe, oIsN, r_add_ii, r_add_ss, r_add_tt, r_add_r, r_add_l, r_add_ib, r_add_bi, r_add_bb, r_sub_ii, r_sub_bb, r_mul_ii, r_mul_si, r_fdiv_ii, r_mod_ii, r_pow_ii, r_neg_i, r_eq_ii, r_eq_ss, r_ord_ii, r_ix_t, r_ix_l, r_ix_r, r_ix_s, r_len_s, r_len_t, r_len_l, r_len_r, r_abs_i, r_int_i, r_int_b, r_list, r_tuple, r_repr_s, spEnds, wkX, List.getElem?_cons_zero, List.getElem?_cons_succ, List.set_cons_zero, List.set_cons_succ, dIsX, dIsXV, dNew, dTryAs, dMethL, mAppend, mIndex, mCountB, oIn]
    refine ⟨szle (n := 11), fun w fw => .here ?_⟩
    dsimp only [dSeq, dEnd, dSNil, dPass, dBreak, dCont, dNever, dDrop, dRet, dRetN, dIfS, dName, dAsg, dSet, dPar2, dPar3, dGNil, dGCons, dGTup, dSubL, dWhile, dFor, dItSeq, dItR1, dItR2, dItEnum, dVar, dC, dNil, dCons, dTup, dLst, dOp, dUn, dTB, dAndT, dOrT, dNotT, dAndV, dOrV, dNotV, dIf, dChain, dSlice, dNoP, dPart, dCB, dIsi, dCall, dRaise, oEq, oNe, oLt, oLe, oGt, oGe, oIsN, r_add_ii, r_add_ss, r_add_tt, r_add_r, r_add_l, r_add_ib, r_add_bi, r_add_bb, r_sub_ii, r_sub_bb, r_mul_ii, r_mul_si, r_fdiv_ii, r_mod_ii, r_pow_ii, r_neg_i, r_eq_ii, r_eq_ss, r_ord_ii, r_ix_t, r_ix_l, r_ix_r, r_ix_s, r_len_s, r_len_t, r_len_l, r_len_r, r_abs_i, r_int_i, r_int_b, r_list, r_tuple, r_repr_s, spEnds, wkX, List.getElem?_cons_zero, List.getElem?_cons_succ, List.set_cons_zero, List.set_cons_succ, dIsX, dIsXV, dNew, dTryAs, dMethL, mAppend, mIndex, mCountB, oIn]
    refine ⟨⟨_, .inl put_same⟩, _, put_same, szle (n := 12), ?_⟩
    rw [put_put]
    have sF : Sub M (put M4 w (.lst (wds32.map D.str))) := s4.trans (.new fw)
    have lF := put_keep (u := .lst (wds32.map D.str)) l4 fw
    have pF := put_keep (u := .lst (wds32.map D.str)) p4 fw
    refine .gen (fun Nw => Sub M Nw ∧ Nw q3 = some (.lst (clF y ecl32)) ∧ Nw b = some (.exc y) ∧ Nw w = some (.lst (wds32.map D.str))) ⟨sF, lF, pF, put_same⟩ fun M5 ⟨s5, l5, p5, w5⟩ => ?_
    have eb : clF y ecl32 = (ecl32.map (relE y)).map D.bl := by unfold clF; rw [List.map_map]; rfl
    rw [eb] at l5
    dsimp only [dSeq, dEnd, dSNil, dPass, dBreak, dCont, dNever, dDrop, dRet, dRetN, dIfS, dName, dAsg, dSet, dPar2, dPar3, dGNil, dGCons, dGTup, dSubL, dWhile, dFor, dItSeq, dItR1, dItR2, dItEnum, dVar, dC, dNil, dCons, dTup, dLst, dOp, dUn, dTB, dAndT, dOrT, dNotT, dAndV, dOrV, dNotV, dIf, dChain, dSlice, dNoP, dPart, dCB, dIsi, dCall, dRaise, oEq, oNe, oLt, oLe, oGt, oGe, oIsN, r_add_ii, r_add_ss, r_add_tt, r_add_r, r_add_l, r_add_ib, r_add_bi, r_add_bb, r_sub_ii, r_sub_bb, r_mul_ii, r_mul_si, r_fdiv_ii, r_mod_ii, r_pow_ii, r_neg_i, r_eq_ii, r_eq_ss, r_ord_ii, r_ix_t, r_ix_l, r_ix_r, r_ix_s, r_len_s, r_len_t, r_len_l, r_len_r, r_abs_i, r_int_i, r_int_b, r_list, r_tuple, r_repr_s, spEnds, wkX, List.getElem?_cons_zero, List.getElem?_cons_succ, List.set_cons_zero, List.set_cons_succ, dIsX, dIsXV, dNew, dTryAs, dMethL, mAppend, mIndex, mCountB, oIn]
    refine ⟨⟨_, .inl l5⟩, _, .inl l5, ?_⟩
    rcases word_facts y hy with ⟨c1, j, e1, e2⟩ | ⟨c0, e2⟩
    · refine bcase_t (by rw [c1]; rfl) ⟨y, p5, hy, bcase_t rfl ⟨⟨_, .inl l5⟩, ?_⟩⟩
      obtain ⟨g1, g2⟩ := firstT_some e1
      refine ⟨_, j, .bl true, .inl l5, rfl, ?_, by rw [List.getElem?_map, g1]; rfl, rfl, fun m z hm hz => ?_, ?_⟩
      · rw [List.all_map]; exact List.all_eq_true.mpr fun _ _ => rfl
      · rw [List.getElem?_map] at hz
        cases eb : (ecl32.map (relE y))[m]? with
        | none => rw [eb] at hz; cases hz
        | some b0 =>
          rw [eb] at hz
          cases hz
          rw [g2 m b0 hm eb]
          rfl
      · have hj : j < wds32.length := (List.getElem?_eq_some_iff.mp e2).1
        refine ⟨_, _, .inl w5, ?_, q _ s5⟩
        unfold atI
        rw [List.length_map, ixN_in (by omega) (by omega)]
        show (wds32.map D.str)[(j : Int).toNat]? = _
        rw [Int.toNat_natCast, List.getElem?_map, e2]
        rfl
    · refine bcase_f (by rw [c0]; rfl) ?_
      rw [e2] at q
      exact q _ s5

end LD

/-! LF7: tuple * int, text.index(sign), in of nested data, keywords' parts; promises turned; a law's start and end -/
namespace LD
open PySem PySem.Spec PyProof.Rows L2

theorem hu65 {gb : Bool} {k : Nat} {A : Around} (hr : Rm gb k A) : A.units + 65 < cLine := by have := hr.room.un; omega

/-! ### tuple * int -/
theorem tuple_mul1 (l : Addr) (items : Array Value) (n : Nat) (dd : Option Addr) (sl : Array (Option Value)) (u : Tok) :
    Meets (Builtin.«tuple.__mul__» ⟨[.ref l, .int 1 u], []⟩) (fun _ R s => s.heap.get? l = some { cls := .type "tuple", dict := dd, data := .seq items n, slots := sl } ∧ R (.ok (.ret (Value.ref l))) s) :=
  .of_wp fun prog w A R s h => by
    obtain ⟨hp, g, d, tk, os⟩ := s
    obtain ⟨hl, h⟩ := h
    have f1 := AutoSeq1.idx_int
    have c1 : (items.isEmpty || (1 : Int) == 1) = true := by simp
    wp_walk using wpAny_loadPart' hl
    repeat (first
      | (refine wpAny_ite_false (by decide) ?_; wp_walk using wpAny_loadPart' hl)
      | (refine wpAny_ite_true (by simp) ?_; wp_walk using wpAny_loadPart' hl))
    exact ⟨_, rfl, h⟩

def rRepT1 (K : PySem.W.Frag) : R2 := fun x y H Q => ∃ l xs, x = .ref l ∧ y = .int 1 ∧ SqT K H l xs ∧ Q (.ref l) H
theorem op_repT1 {X : Cx} : OpR X (binaryOp .Mult) (rRepT1 X.K) := by
  intro pins s σ H x y v u Q I rx ry h
  obtain ⟨l, xs, rfl, rfl, hT, q⟩ := h
  cases rx
  obtain ⟨t, rfl⟩ := ry
  obtain ⟨its, r, ⟨⟨cls, dd, data, sl⟩, ho, hc, n, hd⟩, hs⟩ := I.tuple hT
  simp only at hc hd
  subst hc hd
  refine wpAny_binaryOp_repeat_ref (T := "tuple") (U := "int") (by decide) ⟨_, ho, rfl⟩ (fun s' => typeIs_int s' 1 t) noFill_tuple_mul F.fills_int_mul F.slot_int_rmul repeat_tuple F.slot_int_index.lookup
    (call_meets F.slot_int_rmul (typeIs_int s 1 t) F.entry_int_rmul (F.args_int_rmul_2 _ _) (int_rmul_tuple 1 t l its.toArray n dd sl)
      ⟨ho, rfl, ⟨_, ho, rfl⟩, call_meets F.slot_tuple_mul ⟨_, ho, rfl⟩ F.entry_tuple_mul (F.args_tuple_mul_2 _ _) (tuple_mul1 l its.toArray n dd sl t) ⟨ho, ?_⟩⟩)
  exact ⟨.ref l, H, I, rfl, q⟩
/-- a product: ints, a text or a tuple and an int -/
def oMulX : DO2 where
  run x y M Q := match x, y with
    | .tup ds, .int k => ds ≠ [] ∧ 1 ≤ k ∧ k ≤ 1000 ∧ ds.length ≤ 1000 ∧ Q (.tup (List.replicate k.toNat ds).flatten) M
    | x, y => oMul.run x y M Q
  mono {x y M Q Q'} h k := by
    revert h
    split <;> intro h
    · exact ⟨h.1, h.2.1, h.2.2.1, h.2.2.2.1, k _ _ h.2.2.2.2⟩
    · exact oMul.mono h k
theorem dens_flat {K : PySem.W.Frag} {H : Hp} {vs : List V} {ds : List D} (h : dens K H vs ds) : ∀ n : Nat, dens K H (List.replicate n vs).flatten (List.replicate n ds).flatten
  | 0 => dens_nil
  | n + 1 => by
    rw [List.replicate_succ, List.replicate_succ, List.flatten_cons, List.flatten_cons]
    exact dens_append h (dens_flat h n)
theorem o_mulX {X : Cx} : O2 X (binaryOp .Mult) oMulX := by
  intro pins s σ H x y v u Q I rx ry h
  obtain ⟨dx, dy, M, hx, hy, m, q⟩ := h
  dsimp only [oMulX] at q
  split at q
  · rename_i ds k
    cases lint hy
    rw [den] at hx
    obtain ⟨a, vs, rfl, sq, dv⟩ := hx
    obtain ⟨h1, h2, h3, h4, q⟩ := q
    have hl := dens_length dv
    by_cases e : k = 1
    · subst e
      refine op_repT1 pins s σ H _ _ v u Q I rx ry ⟨a, vs, rfl, rfl, sq, q _ _ (.refl H) m ?_⟩
      rw [den]
      exact ⟨a, vs, rfl, sq, by rw [show (1 : Int).toNat = 1 from rfl, List.replicate_one, List.flatten_singleton]; exact dv⟩
    · refine op_repT pins s σ H _ _ v u Q I rx ry ⟨a, k, vs, rfl, rfl, sq, fun z => h1 (by subst z; cases ds with | nil => rfl | cons => cases hl), by omega, h3, by omega, fun p hp => q _ _ (.new hp) (m.grow hp) ?_⟩
      rw [den]
      exact ⟨p, _, rfl, .of upd_same, dens_ext (.new hp) _ _ (dens_flat dv _)⟩
  · exact o_mul pins s σ H x y v u Q I rx ry ⟨_, _, M, hx, hy, m, q⟩
def mulXF : FO2 where
  run w u Q := match w, u with
    | .v (.tup us), .v (.int k) => us ≠ [] ∧ 1 ≤ k ∧ k ≤ 1000 ∧ us.length ≤ 1000 ∧ Q (.tup (List.replicate k.toNat us).flatten)
    | w, u => mulF.run w u Q
  mono {w u Q Q'} h k := by
    revert h
    split <;> intro h
    · exact ⟨h.1, h.2.1, h.2.2.1, h.2.2.2.1, k _ h.2.2.2.2⟩
    · exact mulF.mono h k
theorem map_flat {α β : Type} {f : α → β} {xs : List α} : ∀ n : Nat, ((List.replicate n xs).flatten).map f = (List.replicate n (xs.map f)).flatten
  | 0 => rfl
  | n + 1 => by rw [List.replicate_succ, List.replicate_succ, List.flatten_cons, List.flatten_cons, List.map_append, map_flat n]
theorem ok_mulX : OpG mulXF oMulX := fun c δ M w u d e Q v1 v2 q => by
  dsimp only [mulXF] at q
  split at q
  · cases vtup v1; cases vint v2
    obtain ⟨h1, h2, h3, h4, q⟩ := q
    refine ⟨fun z => h1 (List.map_eq_nil_iff.mp z), h2, h3, by rw [List.length_map]; exact h4, .here ⟨.tup _, ?_, q, rfl⟩⟩
    rw [U.d_tup, map_flat]
  · have := ok_mul c δ M w u d e Q v1 v2 q
    revert this
    dsimp only [oMulX]
    split
    · intro h; exact h.elim
    · exact id

/-! ### text.index(sign) -/
def dIndexS (to t : DE) : DE where
  run δ M Q := to.run δ M fun d M1 => match d with
    | .str a => t.run δ M1 fun d2 M2 => ∃ c : Nat, d2 = .str ⟨#[c]⟩ ∧ c ∈ a.cps.toList ∧ ∀ i : Nat, a.cps.toList[i]? = some c → Q (.int (i : Nat)) M2
    | _ => False
  mono h k := to.mono h fun d M1 q => by
    revert q; split <;> intro q
    · exact t.mono q fun d2 M2 ⟨b, h1, h2, h3⟩ => ⟨b, h1, h2, fun i hi => k _ _ (h3 i hi)⟩
    · exact q
theorem qe_indexS {X : Cx} {o e : Expr} {to t : DE} {apos pos : Pos} (ho : QE X o to) (he : QE X e t) (hs : starEach [e] X.env = [(false, eval e X.env)] := by rfl)
    (hbase : attributeBase o "index" X.env (eval o X.env) = eval o X.env := by rfl) (hline : (apos.endLine == pos.line) = true := by rfl) :
    QE X (.Call (.Attribute o "index" apos) [e] [] pos) (dIndexS to t) := by
  refine PE.imp (pe_m1 PySem.F.slot_str_index PySem.F.type_str_index mt_sindex ho he hs hbase hline) fun σ H Q q => ?_
  obtain ⟨δ, M, s, m, q⟩ := q
  refine lE_step s m q fun d M1 v H1 x1 m1 d1 q1 => ?_
  revert q1; split <;> intro q1
  · rename_i a
    cases lstr d1
    refine ⟨⟨a, rfl⟩, lE_step (s.ext x1) m1 q1 fun d2 M2 v2 H2 x2 m2 d2' q2 => ?_⟩
    obtain ⟨c, rfl, hc, hi⟩ := q2
    cases lstr d2'
    have hf := PySem.StrLaws.found_one a c
    rw [decide_eq_true hc] at hf
    cases ho : Builtin.Str.occurrences a ⟨#[c]⟩ 0 a.length 1 with
    | nil => rw [ho] at hf; cases hf
    | cons i rest =>
      refine ⟨a, ⟨#[c]⟩, i, rest, rfl, rfl, ho, ?_⟩
      have hs := (PySem.StrLaws.occ_spec a ⟨#[c]⟩ 0 a.length 1 i (by rw [ho]; exact List.mem_cons_self))
      refine hi i ?_ _ H2 (x1.trans x2) m2 dint
      exact (PySem.StrLaws.subAt_one a c i).mp hs
  · exact q1.elim
def fIndexS (to t : FE) : FE where
  run X s Q := to.run X s fun w s1 => match w with
    | .v (.str a) => t.run X s1 fun w2 s2 => match w2 with
      | .v (.str b) => ∃ c : Nat, b = ⟨#[c]⟩ ∧ c ∈ a.cps.toList ∧ ∀ i : Nat, a.cps.toList[i]? = some c → Q (.v (.int (i : Nat))) s2
      | _ => False
    | _ => False
  mono h k := to.mono h fun d M1 q => by
    revert q; split <;> intro q
    · exact t.mono q fun d2 M2 q => by
        revert q; split <;> intro q
        · obtain ⟨c, a, b, q⟩ := q; exact ⟨c, a, b, fun i hi => k _ _ (q i hi)⟩
        · exact q
    · exact q
theorem fe_indexS {X : Cx} {e : Expr} {E : XE} {to t : FE} (h : QE X e (dIndexS (lFE E to) (lFE E t))) : QE X e (lFE E (fIndexS to t)) := h.to fun δ M Q ⟨c, s, F, xl, C, q⟩ => ⟨c, s, F, xl, C, to.mono q fun w s1 q1 d M1 C1 v1 => by
  split at q1
  · cases vstr v1
    refine ⟨c, s1, F, xl, C1, t.mono q1 fun w2 s2 q2 d2 M2 C2 v2 => ?_⟩
    split at q2
    · obtain ⟨ch, rfl, hc, hi⟩ := q2
      cases vstr v2
      exact ⟨ch, rfl, hc, fun i h => hi i h _ M2 C2 (by show _ = _; rw [U.d])⟩
    · exact q2.elim
  · exact q1.elim⟩

/-! ### in, of nested data -/
def inDF (neg : Bool) : FO2 where
  run w u Q := ∃ us, seqW u = some us ∧ eqOk w ∧ eqOk (.v (.lst us)) ∧ Q (.bl ((us.any fun z => PyData.eqv (toPy z) (toPy (pyW w))) ^^ neg))
  mono h k := let ⟨us, a, b, c, d⟩ := h; ⟨us, a, b, c, k _ d⟩
theorem toPys_map : ∀ us : List U, toPys us = us.map toPy
  | [] => rfl
  | u :: us => by rw [toPys, List.map_cons, toPys_map us]
theorem ok_inD {neg : Bool} : Op0 (inDF neg) (oInD neg) := fun c δ M w u d e Q R v1 v2 q k => by
  obtain ⟨us, h1, h2, h3, q⟩ := q
  have g1 := dat_pyW v1 h2.1
  have k := k _ q
  rw [U.d] at k
  have hnd : noDs us = true := by have := h3.1; rw [pyW, noD] at this; exact this
  refine ⟨toPy (pyW w), toPys us, g1, ?_, h2.2, by have := h3.2; rw [pyW, toPy] at this; exact this, ?_⟩
  · unfold seqW at h1
    split at h1
    · cases h1
      left
      have e := v2.v
      subst e
      have := dat_toPy (M := M) (p := c.p) (.lst us) (by rw [noD]; exact hnd)
      rw [toPy] at this; exact this
    · cases h1
      right
      have e := v2.v
      subst e
      have := dat_toPy (M := M) (p := c.p) (.tup us) (by rw [noD]; exact hnd)
      rw [toPy] at this; exact this
    · rename_i i us'
      cases h1
      left
      have := dat_pyW v2 (by rw [pyW, noD]; exact hnd)
      rw [pyW, toPy] at this; exact this
    · cases h1
  · rw [toPys_map, List.any_map]
    exact k
theorem o_notinD {X : Cx} (hu : X.A.units + 65 < cLine) : O2 X (compareOp .NotIn) (oInD true) := by
  intro pins s σ H x y v u Q I rx ry h
  obtain ⟨dx, dy, M, hx, hy, m, t, ts, g1, g2, g3, g4, q⟩ := h
  obtain ⟨as, r1⟩ := Dp.reads I t x v (dat_dp m t _ _ g1 hx) rx
  have q2 := q _ _ (.refl H) m dbl
  rw [Bool.xor_true] at q2
  have hu' : X.A.units + 1 + min (PyData.depthAll ts) t.depth < cLine := PyProof.Rows.room_in_shaped g3 hu
  rcases g2 with g2 | g2
  · obtain ⟨bs, r2⟩ := Dp.reads I (.list ts) y u (dat_dp m _ _ _ g2 hy) ry
    exact SeqAt.notIn_list_reads r2 r1 (SeqAt.canLay_of_shaped g4) (SeqAt.canLay_of_shaped g3) hu' ⟨.bl _, H, I, rfl, q2⟩
  · obtain ⟨bs, r2⟩ := Dp.reads I (.tuple ts) y u (dat_dp m _ _ _ g2 hy) ry
    exact SeqAt.notIn_tuple_reads r2 r1 (SeqAt.canLay_of_shaped (shaped_tl g4)) (SeqAt.canLay_of_shaped g3) hu' ⟨.bl _, H, I, rfl, q2⟩

/-! ### [..] * int -/
def oRepM : DO2 where
  run x y M Q := match x, y with
    | .ref p, .int k => ∃ ds, M p = some (.lst ds) ∧ -(2 ^ 63) ≤ k ∧ k < 2 ^ 63 ∧ ds.length * k.toNat ≤ sizeLine ∧ ∀ r, M r = none → Q (.ref r) (put M r (.lst (List.replicate k.toNat ds).flatten))
    | _, _ => False
  mono {x y M Q Q'} h k := by
    revert h
    split <;> intro h
    · obtain ⟨ds, a, b, c, d, e⟩ := h; exact ⟨ds, a, b, c, d, fun r hr => k _ _ (e r hr)⟩
    · exact h
theorem o_repM {X : Cx} : O2 X (binaryOp .Mult) oRepM := by
  intro pins s σ H x y v u Q I rx ry h
  obtain ⟨dx, dy, M, hx, hy, m, q⟩ := h
  dsimp only [oRepM] at q
  split at q
  · cases lint hy
    rw [den] at hx; subst hx
    obtain ⟨ds, h1, h2, h3, h4, q⟩ := q
    obtain ⟨vs, g1, g2⟩ := m _ _ h1
    exact op_rep pins s σ H _ _ v u Q I rx ry ⟨_, _, vs, rfl, rfl, g1, h2, h3, by rw [dens_length g2]; exact h4, fun p hp => q p (m.free hp) _ _ (.new hp) (m.new hp ⟨_, upd_same, dens_ext (.new hp) _ _ (dens_flat g2 _)⟩) dref⟩
  · exact q.elim
def fnRep (t : FN) (a : FE) : FN where
  run X s Q := t.run X s fun us s1 => a.run X s1 fun w s2 => match w with
    | .v (.int k) => -(2 ^ 63) ≤ k ∧ k < 2 ^ 63 ∧ us.length * k.toNat ≤ sizeLine ∧ Q (List.replicate k.toNat us).flatten s2
    | _ => False
  mono h k := t.mono h fun us s1 q => a.mono q fun w s2 q => by
    revert q; split <;> intro q
    · exact ⟨q.1, q.2.1, q.2.2.1, k _ _ q.2.2.2⟩
    · exact q
theorem fn_rep {X : Cx} {a b : Expr} {E : XE} {pos : Pos} {t : FN} {u : FE} (ha : QE X a (lFN E t)) (hb : QE X b (lFE E u)) : QE X (.BinOp a .Mult b pos) (lFN E (fnRep t u)) :=
  (qe_op o_repM ha hb).to fun δ M Q ⟨c, s, F, xl, C, q⟩ => ⟨c, s, F, xl, C, t.mono q fun us s1 q1 p M1 C1 hp => by
    have oA := C1.fresh hp
    refine ⟨c.more p (.lst (us.map (U.d c.p))), s1, F, xl_more (o := .lst (us.map (U.d c.p))) oA ⟨fun _ => (nofun), fun _ _ => (nofun)⟩ xl, conc_new C1 hp, u.mono q1 fun w s2 q2 e M2 C2 v2 => ?_⟩
    split at q2
    · have e2 := v2.v
      rw [U.d] at e2
      subst e2
      obtain ⟨g1, C3, g2⟩ := C2.less oA.m0 oA.pen
      refine ⟨_, g1, q2.1, q2.2.1, by rw [List.length_map]; exact q2.2.2.1, fun r hr => ?_⟩
      have := q2.2.2.2 r M2 C3 hr
      rw [map_flat] at this
      exact this
    · exact q2.elim⟩

/-! ### keywords' parts -/
abbrev LK (X : Cx) (kws : List Keyword) (t : DA) : Prop := QK X kws t
theorem QK.to {X : Cx} {kws : List Keyword} {t t' : DA} (h : QK X kws t) (k : ∀ δ M Q, t'.run δ M Q → t.run δ M Q) : QK X kws t' :=
  ⟨fun pos pins s σ H Q I ⟨δ, M, a, b, q⟩ => h.run pos pins s σ H Q I ⟨δ, M, a, b, k _ _ _ q⟩⟩
section
variable {X : Cx} {e : Expr} {kws : List Keyword} {nm : Option Str} {kpos : Pos} {t : FE} {r : FA} {E : XE}
theorem fk_nil : QK X [] (lFA E faNil) := qk_nil.to fun δ M Q ⟨c, s, F, xl, C, q⟩ => q [] M C .nil
theorem fk_cons (ha : QE X e (lFE E t)) (hr : QK X kws (lFA E r)) : QK X (⟨nm, e, kpos⟩ :: kws) (lFA E (faCons t r)) :=
  (qk_cons ha hr).to fun δ M Q ⟨c, s, F, xl, C, q⟩ => ⟨c, s, F, xl, C, t.mono q fun w s1 q1 d M1 C1 v1 => ⟨c, s1, F, xl, C1, r.mono q1 fun ws s2 q2 ds M2 C2 v2 => q2.2 (d :: ds) M2 C2 (.cons (v1.still C2 q2.1) v2)⟩⟩
end
theorem putU_id : PutU (fun vs _ => vs) (fun vs _ => vs) := ⟨fun _ _ _ => rfl⟩
theorem putD_id {n : Nat} : PutD n 0 n (fun vs _ => vs) (fun vs _ => vs) := ⟨fun h _ => h, fun h _ => h⟩

/-! ### promises, turned -/
theorem FnG.imp {gb : Bool} {P : Program} {w : World} {K : PySem.W.Frag} {mg : Str → Option Value} {base : Heap} {k : Nat} {f : Addr} {fd : FuncData} {ps : List Str} {sp sp' : DSp} (F : FnG gb P w K mg base k f fd ps (lSp K mg ps.length sp))
    (h : ∀ ds M Q X, ds.length = ps.length → sp' ds M Q X → sp ds M Q X) : FnG gb P w K mg base k f fd ps (lSp K mg ps.length sp') := by
  have key : ∀ vs H Q E, lSp K mg ps.length sp' vs H Q E → lSp K mg ps.length sp vs H Q E := fun vs H Q E ⟨hl, ds, M, d, m, Q0, X0, h1, h2, h3⟩ => ⟨hl, ds, M, d, m, Q0, X0, h1, h2, h ds M Q0 X0 ((dens_length d).symm.trans hl) h3⟩
  exact ⟨fun vs H Q E z => F.len vs H Q E (key _ _ _ _ z), fun a b c d e => F.run a b c d (key _ _ _ _ e)⟩
theorem Good.imp {gb : Bool} {P : Program} {w : World} {K : PySem.W.Frag} {mg : Str → Option Value} {base : Heap} {x : Str} {k : Nat} {ps : List Str} {sp sp' : DSp} (g : Good gb P w K mg base x k ps sp) (h : ∀ ds M Q X, ds.length = ps.length → sp' ds M Q X → sp ds M Q X) : Good gb P w K mg base x k ps sp' :=
  let ⟨f, fd, h1, h2, h3, h4⟩ := g.ex; ⟨f, fd, h1, h2, h3, h4.imp h⟩

/-! ### a text's own start -/
/-- pen = _law_open(script); .. -/
def lawB (T : List Tb) (t : FS) (X : XD) : DS := dSeq (dSet 1 (dCall S_law_open (dCons (dVar 0) dNil) X)) (lFS ⟨X, T⟩ t)
/-- what a law's def promises -/
def S_lawF (T : List Tb) : DSp := fun ds M Q X => ∃ ns : List Int, ds = [.lst (ns.map D.int)] ∧ ns.length ≤ 63 ∧ ((∀ t ∈ T, ∃ P, M P = some (.tab t.1 t.2)) ∧ Clean T M) ∧ ∀ M', Q (.bl true) M'
theorem ints_d {p : Addr} {ns : List Int} : (ns.map U.int).map (U.d p) = ns.map D.int := by
  rw [List.map_map]
  exact List.map_congr_left fun _ _ => by show U.d p (.int _) = _; rw [U.d]
theorem law_pure {T : List Tb} {N : Nat} {t : FS} (h : t.run xfNo { nx := fun _ => False, rt := fun u _ => u = .bl true } ⟨none :: some (.v .pen) :: List.replicate N none, 0⟩) :
    ∀ ds M Q X, ds.length = 1 → S_lawF T ds M Q X → (lawB T t (wkX X)).run (spEnds Q) (dStart (N + 2) ds) M := fun ds M Q X hl ⟨ns, e, hn, ⟨tb, cl⟩, q⟩ => by
  subst e
  refine .go ⟨ns, rfl, hn, fun p o f po => .here ?_⟩
  have ne : ∀ a u, M a = some u → a ≠ p := fun a u e z => by rw [z, f] at e; cases e
  refine ⟨⟨p, true, M⟩, ⟨none :: some (.v .pen) :: List.replicate N none, 0⟩, xfNo, { nx := fun _ => False, rt := fun u _ => u = .bl true }, ⟨fun _ _ _ _ z => z.elim, tb, cl⟩, ?_, ⟨fun _ _ _ _ z => z.elim, fun u n M' _ z => ?_, fun _ _ _ _ z => z.elim, fun _ _ _ _ z => z.elim⟩, h⟩
  · have key : ∀ (i : Nat) (w : W), (none :: some (W.v U.pen) :: List.replicate N none)[i]? = some (some w) → i = 1 ∧ w = .v .pen := fun i w e => by
      match i, e with
      | 0, e => simp at e
      | 1, e => simp at e; exact ⟨rfl, e.symm⟩
      | i + 2, e =>
        rw [List.getElem?_cons_succ, List.getElem?_cons_succ, List.getElem?_replicate] at e
        split at e <;> cases e
    refine ⟨?_, fun i u e => ?_, fun i w j o' e1 e2 => ?_, fun i j w w' q q' a e1 e2 e3 => ?_, ⟨fun a u e => ?_, fun _ => ⟨o, put_same, po⟩⟩, ⟨rfl, fun _ => f⟩⟩
    · unfold dStart; simp
    · obtain ⟨rfl, e2⟩ := key i _ e
      cases e2
      rw [U.d]; rfl
    · obtain ⟨rfl, rfl⟩ := key i _ e1
      cases e2
    · obtain ⟨rfl, rfl⟩ := key i _ e1
      cases e3
    · rw [put_ne (ne a u e)]; exact e
  · subst z
    refine .here ?_
    rw [U.d]
    exact q M'
end LD

/-! LF8: the end of a law some of whose defs make lambdas -/
namespace LD
open PySem PySem.Spec PyProof.Rows L2

/-- the script, and the defs' tables -/
def scrTs (t : Bool) (a : Addr) (u : HO) (Ps : List Addr) : Hp := fun b => if b ∈ Ps then some (.tbl #[]) else scrH t a u b
theorem scrTs_P {t : Bool} {a P : Addr} {u : HO} {Ps : List Addr} (h : P ∈ Ps) : scrTs t a u Ps P = some (.tbl #[]) := if_pos h
theorem scrTs_ne {t : Bool} {a b : Addr} {u : HO} {Ps : List Addr} (h : b ∉ Ps) : scrTs t a u Ps b = scrH t a u b := if_neg h
/-- the tables, told -/
def tabM (K : PySem.W.Frag) : List Tb → DM
  | [] => fun _ => none
  | t :: T => put (tabM K T) (He.cT K t.1).2 (.tab t.1 t.2)
theorem tabM_of {K : PySem.W.Frag} : ∀ {T : List Tb} {a : Addr} {o : MO}, tabM K T a = some o → ∃ t ∈ T, a = (He.cT K t.1).2 ∧ o = .tab t.1 t.2
  | [], _, _, h => by cases h
  | t :: T, a, o, h => by
    unfold tabM at h
    by_cases ha : a = (He.cT K t.1).2
    · subst ha
      rw [put_same] at h
      cases h
      exact ⟨t, List.mem_cons_self, rfl, rfl⟩
    · rw [put_ne ha] at h
      obtain ⟨x, h1, h2⟩ := tabM_of h
      exact ⟨x, List.mem_cons_of_mem _ h1, h2⟩
theorem tabM_in {K : PySem.W.Frag} : ∀ {T : List Tb}, (T.map fun t => (He.cT K t.1).2).Nodup → ∀ t ∈ T, tabM K T (He.cT K t.1).2 = some (.tab t.1 t.2)
  | t :: T, hn, x, hx => by
    rw [List.map_cons, List.nodup_cons] at hn
    unfold tabM
    rcases List.mem_cons.mp hx with rfl | hx
    · exact put_same
    · rw [put_ne (fun z => hn.1 (by rw [← z]; exact List.mem_map.mpr ⟨x, hx, rfl⟩))]
      exact tabM_in hn.2 x hx
theorem tabM_clean {K : PySem.W.Frag} {T : List Tb} : Clean T (tabM K T) := fun _ a o h => by
  obtain ⟨t, h1, _, rfl⟩ := tabM_of h
  exact ⟨fun _ => (nofun), fun d q e => by cases e; exact h1⟩
section
variable {P : Program} {w : World} {K : PySem.W.Frag} {mg mb : Str → Option Value} {k : Nat} {fa a : Addr} {fd : FuncData} {x : Str} {sp : DSp} {s : Shared} {vs : List Value} {ns : List Int} {T : List Tb} {gb : Bool}
theorem law_runTs (KX : K.In s.heap) (hns : s.heap.Ns mainGlobals mg) (hb : s.heap.Ns builtinsNs mb) (hbb : ∀ y : Str, y ≠ "__name__" → mb y = bootBuiltins y) (hlim : s.heap.NoLimit) (hg : s.gens = #[])
    (hT : ∀ t ∈ T, s.heap.get? (He.cT K t.1).2 = some { cls := .none, data := .fields #[] }) (nT : ∀ t ∈ T, K.lookup (He.cT K t.1).2 = none) (hC : ∀ t ∈ T, PySem.W.codeHdIn K (He.cT K t.1).1 (He.cT K t.1).2 = true)
    (hbm : ∃ (bm : Addr) (ob : Obj), mg "__builtins__" = some (.ref bm) ∧ bm ≠ builtinsNs ∧ s.heap.get? bm = some ob ∧ ob.cls = .type "module" ∧ ob.dict = some builtinsNs ∧ ob.data = .plain)
    (ha : s.heap.get? a = some { cls := .type "list", data := .seq vs.toArray }) (hi : IntsAre vs ns) (hl : ns.length ≤ sizeLine) (hr : Rm gb k callerA)
    (F : ∀ base : Heap, K.In base → base.Ns mainGlobals mg → (∀ t ∈ T, LamX.TabB base mg (He.cT K t.1).1 (He.cT K t.1).2) → FnG gb P w K mg base k fa fd [x] (lSp K mg 1 sp)) (hbind : ∀ (s : Shared) (u : Value), BindsTo s fd ⟨[u], []⟩ [(x, u)])
    (hsp : sp [.lst (ns.map D.int)] (tabM K T) (fun d _ => d = .bl true) xNo) :
    codeAny (model P w) callerA (.call (.ref fa) ⟨[.ref a], []⟩) (fun r s' => r = .ok (.ret (.bool true)) ∧ OldK s.heap s'.heap ∧ s'.os = s.os ∧ AllBare s'.gens) s := by
  let Ps : List Addr := T.map fun t => (He.cT K t.1).2
  have inP : ∀ {b}, b ∈ Ps → ∃ t ∈ T, b = (He.cT K t.1).2 := fun {b} h => by
    obtain ⟨t, h1, h2⟩ := List.mem_map.mp h
    exact ⟨t, h1, h2.symm⟩
  have hP : ∀ {b}, b ∈ Ps → s.heap.get? b = some { cls := .none, data := .fields #[] } := fun {b} h => by
    obtain ⟨t, h1, rfl⟩ := inP h
    exact hT t h1
  have nP : ∀ {b}, b ∈ Ps → K.lookup b = none := fun {b} h => by
    obtain ⟨t, h1, rfl⟩ := inP h
    exact nT t h1
  let ob : Obj := { cls := .type "list", data := .seq vs.toArray }
  let u : HO := .frz ob (.lst (ns.map V.int))
  have rv := vals_ints hi
  have hlen := hi.length
  have aT : a ∉ Ps := fun z => by
    have := hP z
    rw [ha] at this
    cases this
  have go : ∀ t : Bool, (t = true → K.lookup a = none) → (t = false → K.lookup a = some ob) →
      codeAny (model P w) callerA (.call (.ref fa) ⟨[.ref a], []⟩) (fun r s' => r = .ok (.ret (.bool true)) ∧ OldK s.heap s'.heap ∧ s'.os = s.os ∧ AllBare s'.gens) s := by
    intro t ht hf
    have cases_ : ∀ {b : Addr} {v : HO}, scrTs t a u Ps b = some v → (b ∈ Ps ∧ v = .tbl #[]) ∨ (b = a ∧ t = true ∧ v = u) := fun {b v} e => by
      by_cases hbT : b ∈ Ps
      · rw [scrTs_P hbT] at e
        exact .inl ⟨hbT, (Option.some.inj e).symm⟩
      · rw [scrTs_ne hbT] at e
        exact .inr (scrH_cases e)
    have ok : HOk P w (scrTs t a u Ps) s.heap := by
      intro b v e
      rcases cases_ e with ⟨h1, rfl⟩ | ⟨rfl, _, rfl⟩
      · exact hP h1
      · exact ⟨ha, by rw [List.length_map]; exact hl, vs, _, rv, ha⟩
    have free : ∀ {b : Addr} {o : Obj}, s.heap.get? b = some o → (∀ xs n, o.data ≠ .seq xs n) → o.data ≠ .fields #[] → scrTs t a u Ps b = none := by
      intro b o e h1 h2
      cases z : scrTs t a u Ps b with
      | none => rfl
      | some v =>
        exfalso
        rcases cases_ z with ⟨hb, _⟩ | ⟨rfl, _, _⟩
        · rw [hP hb] at e; cases e; exact h2 rfl
        · rw [ha] at e; cases e; exact h1 _ _ rfl
    have nsB : ∀ {b : Addr} {m : Str → Option Value}, s.heap.Ns b m → (hidT s.heap (scrTs t a u Ps)).Ns b m := fun ⟨o, es, ep, e, dd, r⟩ => ⟨o, es, ep, hidT_get e (free e (fun _ _ z => by rw [dd] at z; cases z) (fun z => by rw [dd] at z; cases z)), dd, r⟩
    have KB : K.In (hidT s.heap (scrTs t a u Ps)) := by
      intro b o e
      refine hidT_get (KX b o e) ?_
      cases z : scrTs t a u Ps b with
      | none => rfl
      | some v =>
        rcases cases_ z with ⟨hb, _⟩ | ⟨rfl, ht', _⟩
        · rw [nP hb] at e; cases e
        · rw [ht ht'] at e; cases e
    have md : Mod K mg (hidT s.heap (scrTs t a u Ps)) := ⟨KB, nsB hns, ⟨mb, nsB hb, hbb⟩, hlim.elim fun mc z => ⟨mc, nsB z.1, z.2⟩⟩
    have e0 : Env0 P w K mg (hidT s.heap (scrTs t a u Ps)) callerA [] s (scrTs t a u Ps) :=
      ⟨rfl, md, fun b o e => of_hidT e, Nat.le_of_eq (hidT_size _ _), trivial, fun b hb => (List.not_mem_nil hb).elim, ok, .of_eq hg⟩
    have TB : ∀ x ∈ T, LamX.TabB (hidT s.heap (scrTs t a u Ps)) mg (He.cT K x.1).1 (He.cT K x.1).2 := fun x hx => by
      obtain ⟨bm, bo, b1, b2, b3, b4, b5, b6⟩ := hbm
      obtain ⟨og, esg, epg, eg, dg, _⟩ := id hns
      refine ⟨PySem.W.codeHd_of_K KB (hC x hx), ⟨bm, bo, b1, b2, fun z => ?_, fun z => ?_, hidT_get b3 (free b3 (fun _ _ z => by rw [b6] at z; cases z) (fun z => by rw [b6] at z; cases z)), b4, b5, b6⟩, fun z => ?_⟩
      · rw [z, eg] at b3; cases b3; rw [dg] at b6; cases b6
      · rw [z, hT x hx] at b3; cases b3; cases b6
      · rw [z, hT x hx] at eg; cases eg; cases dg
    have dn : den K (scrTs t a u Ps) (.ref a) (.lst (ns.map D.int)) := by
      rw [den]
      refine ⟨a, ns.map V.int, rfl, ?_, dens_ints⟩
      cases t with
      | true => exact .inl ⟨ob, by rw [scrTs_ne aT]; exact scrH_t⟩
      | false => exact .inr ⟨ob, vs.toArray, 0, hf rfl, rfl, rfl, rfl, by rw [List.size_toArray, hlen]; exact hl, rv⟩
    have mr : MRel K (scrTs t a u Ps) (tabM K T) := fun b o e => by
      obtain ⟨x, h1, rfl, rfl⟩ := tabM_of e
      exact ⟨rfl, LamX.TabS.nil (scrTs_P (List.mem_map.mpr ⟨x, h1, rfl⟩))⟩
    have hS : lSp K mg 1 sp [.ref a] (scrTs t a u Ps) (fun v _ => v = .bl true) fun _ _ _ => False := by
      refine ⟨rfl, _, _, dens_cons dn dens_nil, mr, _, _, fun d M q v H' _ _ d' => ?_, fun _ _ q => q.elim, hsp⟩
      subst q
      exact lbl d'
    refine codeAny_mono ((F _ KB (nsB hns) TB).run (args := ⟨[.ref a], []⟩) (us := [.ref a]) (vs := [.ref a]) hr e0 (hbind s _) (.cons rfl .nil) hS) fun r s' h => ?_
    cases r with
    | error e => exact h.elim fun _ z => z.elim fun _ z => z.elim fun _ z => z.elim fun _ z => z.elim fun _ z => z.2.2.2.2.2.2.2.elim
    | ok fl =>
      cases fl with
      | next => exact h.elim
      | brk => exact h.elim
      | cont => exact h.elim
      | ret y =>
        obtain ⟨v, H', os, bare, un, ok', r', z⟩ := h
        subst z
        cases r'
        have same : ∀ b o, b ∉ Ps → s.heap.get? b = some o → s'.heap.get? b = some o := fun b o nb e => by
          cases z : scrTs t a u Ps b with
          | none => exact un.keep b o e z List.not_mem_nil List.not_mem_nil
          | some v =>
            rcases cases_ z with ⟨z1, _⟩ | ⟨rfl, _, rfl⟩
            · exact (nb z1).elim
            · have e1 := (ok' _ _ (un.frzs _ _ _ z)).1
              rw [ha] at e
              cases e
              exact e1
        refine ⟨rfl, ⟨fun b o e => ?_, fun b o e => ?_⟩, os, bare⟩
        · by_cases hbT : b ∈ Ps
          · obtain ⟨more, gT⟩ := un.tbls b #[] (scrTs_P hbT)
            have atT := ok' b _ gT
            have hTb := hP hbT
            rw [hTb] at e
            cases e
            obtain ⟨x, h1, rfl⟩ := inP hbT
            exact .inr (.inl ⟨((PySem.W.codeHd_of_K KX (hC x h1)).tab hTb).isCodeTable, rfl, #[], more, rfl, atT⟩)
          · exact .inl (same b o hbT e)
        · by_cases hbT : b ∈ Ps
          · obtain ⟨more, gT⟩ := un.tbls b #[] (scrTs_P hbT)
            exact ⟨_, ok' b _ gT⟩
          · exact ⟨o, same b o hbT e⟩
  cases hk : K.lookup a with
  | none => exact go true (fun _ => hk) fun z => nomatch z
  | some o =>
    have e := KX a o hk
    rw [ha] at e
    cases e
    exact go false (fun z => nomatch z) fun _ => hk
end
/-- a law, from its def's promise -/
theorem law_endTs {l : PySem.W.OpenLaw} {n k : Nat} {q : Program} {loose : List Str} {XP : (Str → Option Value) → Heap → Prop} {YP : World → Heap → Prop} {d : DefRec} {x : Str} {gb : Bool} (T : List Tb)
    (hn : l.most = some n) (hn2 : n ≤ 63) (hdf : d.params.defaults = []) (hr : Rm gb k callerA)
    (F : ∀ (w : World) (mg : Str → Option Value) (fa : Addr) (h : Heap), YP w h → h.Ns mainGlobals mg → mg d.name = some (.ref fa) →
      ∃ (K : PySem.W.Frag) (fd : FuncData), K.In h ∧ (∀ (s : Shared) (u : Value), BindsTo s fd ⟨[u], []⟩ [(x, u)]) ∧
        (∀ t ∈ T, h.get? (He.cT K t.1).2 = some { cls := .none, data := .fields #[] } ∧ K.lookup (He.cT K t.1).2 = none ∧ PySem.W.codeHdIn K (He.cT K t.1).1 (He.cT K t.1).2 = true) ∧ (T.map fun t => (He.cT K t.1).2).Nodup ∧
        ∀ base : Heap, K.In base → base.Ns mainGlobals mg → (∀ t ∈ T, LamX.TabB base mg (He.cT K t.1).1 (He.cT K t.1).2) → FnG gb l.prog w K mg base k fa fd [x] (lSp K mg 1 (S_lawF T))) :
    PySem.W.WalkO q loose XP YP l.row.toRowW d [] (fun f vs => PySem.call f vs) := by
  apply Att.attach_callB hn hdf
  intro w s₀ s₁ mg mb fa o pm cd doc a vs ns G Y ho hd hcd hmg hobj hints hlen hbits hg
  obtain ⟨K, fd, KX, hb, hT, hnd, hF⟩ := F w mg fa _ Y G.T.g hmg
  refine law_runTs (T := T) KX G.T.g G.T.b G.T.builtins G.T.nolimit hg (fun t ht => (hT t ht).1) (fun t ht => (hT t ht).2.1) (fun t ht => (hT t ht).2.2) G.T.bmain hobj hints (Nat.le_trans hlen (Nat.le_trans hn2 (by decide))) hr hF hb ?_
  exact ⟨ns, rfl, Nat.le_trans hlen hn2, ⟨fun t ht => ⟨_, tabM_in hnd t ht⟩, tabM_clean⟩, fun _ => rfl⟩
/-- the errors' facts, and that the tables lie apart -/
def errsT (cs : List Str) (T : List Tb) (K : PySem.W.Frag) : Bool := errsB cs K && decide ((T.map fun t => (He.cT K t.1).2).Nodup)
theorem errsT_ok {cs : List Str} {T : List Tb} {K : PySem.W.Frag} (h : errsT cs T K = true) : Errs K cs ∧ (T.map fun t => (He.cT K t.1).2).Nodup := by
  unfold errsT at h
  rw [Bool.and_eq_true] at h
  exact ⟨errs_ok h.1, of_decide_eq_true h.2⟩
theorem hdist_of {K : PySem.W.Frag} {T : List Tb} (h : (T.map fun t => (He.cT K t.1).2).Nodup) {d : Str × Option Str} {q : Str} (hm : (d, q) ∈ T) : ∀ t ∈ T, (He.cT K t.1).2 = (He.cT K d).2 → t.2 = q := by
  induction T with
  | nil => cases hm
  | cons x T ih =>
    rw [List.map_cons, List.nodup_cons] at h
    intro t ht e
    rcases List.mem_cons.mp ht with rfl | ht <;> rcases List.mem_cons.mp hm with z | z
    · rw [← z]
    · exact (h.1 (by rw [e]; exact List.mem_map.mpr ⟨_, z, rfl⟩)).elim
    · exact (h.1 (by rw [← z]; rw [← e]; exact List.mem_map.mpr ⟨_, ht, rfl⟩)).elim
    · exact ih h.2 z t ht e
end LD
namespace LD
open PySem PySem.Spec PyProof.Rows L2
theorem code_ref {K : PySem.W.Frag} {d : Str × Option Str} {cdv : Value} {x qual : Str} {params : Arguments} {body : List Stmt} {scope : Scope} {dvs : List V} {kws : List (Str × V)} {fd : FuncData} (F : FunD K x qual params body scope dvs kws (He.fAd K d) fd) (h : CodeF K (He.fAd K d) cdv) : cdv = .ref (He.cT K d).1 := by
  obtain ⟨oc, od, dV, kV, doc, pm, an, cd, ct, osl, rfl, lk, hcd, _, _⟩ := F.ex
  obtain ⟨oc', od', fd', osl', lk', e⟩ := h
  rw [lk] at lk'
  cases lk'
  have e2 : cd = cdv := e
  subst e2
  cases cd with
  | ref c => exact congrArg Value.ref (He.codeOf_eq lk rfl).symm
  | _ => cases hcd

/-! ### how keywords and defaults are put -/
theorem putU_app : PutU (fun vs ks => vs ++ ks) (fun vs ks => vs ++ ks) := ⟨fun p us es => by rw [List.map_append]⟩
theorem putD_app {n m : Nat} : PutD n m (n + m) (fun vs ks => vs ++ ks) (fun vs ks => vs ++ ks) := ⟨fun h1 h2 => dens_append h1 h2, fun h1 h2 => by rw [List.length_append, h1, h2]⟩
theorem putU_dfl {gu : List U} {gd : List D} (h : ∀ p, gu.map (U.d p) = gd) : PutU (fun vs _ => vs ++ gd) (fun vs _ => vs ++ gu) := ⟨fun p us es => by show _ ++ _ = _; rw [List.map_append, h]⟩
theorem putD_dfl {n : Nat} {gv : List V} {gd : List D} (h : ∀ (K : PySem.W.Frag) (H : Hp), dens K H gv gd) : PutD n 0 (n + gv.length) (fun vs _ => vs ++ gv) (fun vs _ => vs ++ gd) := ⟨fun h1 _ => dens_append h1 (h _ _), fun h1 _ => by rw [List.length_append, h1]⟩
end LD

/-! LF9: comprehensions over a name's own list -/
namespace LD
open PySem PySem.Spec PyProof.Rows L2
def lcFO (t : FE) (i j : Nat) (l : List U) (Q : List U → FSt → Prop) : List U → FSt → List U → Prop
  | [], s, acc => s.v[j]? = some (some (.ol j l)) ∧ Q acc s
  | x :: xs, s, acc => s.v[j]? = some (some (.ol j l)) ∧ t.run xfNo (s.set i (some (.v x))) fun w s1 => match w with | .v y => acc.length < sizeLine ∧ lcFO t i j l Q xs s1 (acc ++ [y]) | _ => False
theorem lcFO_mono {t : FE} {i j : Nat} {l : List U} {Q Q' : List U → FSt → Prop} (k : ∀ us s, Q us s → Q' us s) : ∀ (xs : List U) (s : FSt) (acc : List U), lcFO t i j l Q xs s acc → lcFO t i j l Q' xs s acc
  | [], _, _, h => ⟨h.1, k _ _ h.2⟩
  | _ :: xs, _, _, h => ⟨h.1, t.mono h.2 fun w s1 q => by
    revert q; split <;> intro q
    · exact ⟨q.1, lcFO_mono k xs _ _ q.2⟩
    · exact q⟩
def fnLcO (j i : Nat) (t : FE) : FN where
  run X s Q := match s.v[j]? with
    | some (some (.ol j' us)) => j' = j ∧ (j == i) = false ∧ lcFO t i j us (fun acc s2 => Q acc (back i s s2)) us (s.set i none) []
    | _ => False
  mono h k := by
    revert h; split <;> intro h
    · exact ⟨h.1, h.2.1, lcFO_mono (fun _ _ q => k _ _ q) _ _ _ h.2.2⟩
    · exact h
section
variable {E : XE} {t : FE} {i j : Nat}
theorem lcO_le {δ : DSt} {M : DM} {Q : D → DM → Prop} (q : (lFN E (fnLcO j i t)).run δ M Q) : (dLc (dItAny (dVar j)) i (lFE E.no t)).run δ M Q := by
  obtain ⟨c, s1, F, xl, C1, q⟩ := q
  dsimp only [fnLcO] at q
  split at q
  · rename_i j' us0 hs
    obtain ⟨rfl, hij, q1⟩ := q
    have hij : j' ≠ i := by simpa using hij
    obtain ⟨_, a, ha⟩ := C1.own j' _ _ _ hs rfl
    show match δ[j']? with | some (some d) => _ | _ => False
    rw [ha.1]
    refine ⟨us0.map (U.d c.p), .inl ha.2.1, fun A hA => ?_⟩
    have oA : Own c A := C1.fresh hA
    have chk : ∀ (s2 : FSt) (M2 : DM) (x : Option D), Conc c s2 (δ.set i x) M2 → s2.v[j']? = some (some (.ol j' us0)) → isL M2 (.ref a) (us0.map (U.d c.p)) := fun s2 M2 x C2 h => by
      obtain ⟨_, b, hb⟩ := C2.own j' _ _ _ h rfl
      have h1 := hb.1
      rw [List.getElem?_set_ne (Ne.symm hij), ha.1] at h1
      cases h1
      exact .inl hb.2.1
    have key : ∀ (us : List U) (s2 : FSt) (acc : List U) (M2 : DM) (x : Option D), Conc c s2 (δ.set i x) M2 → M2 A = some (.lst (acc.map (U.d c.p))) → Far c s2 (δ.set i x) A →
        lcFO t i j' us0 (fun acc s2 => ∀ p M', Conc c (back i s1 s2) δ M' → M' p = none → Q (.ref p) (put M' p (.lst (acc.map (U.d c.p))))) us s2 acc → lcRun (lFE E.no t) i (δ.set i none) A Q (fun M => isL M (.ref a) (us0.map (U.d c.p))) (us.map (U.d c.p)) M2 := fun us => by
      induction us with
      | nil => exact fun s2 acc M2 x C2 hM far q2 => ⟨chk _ _ _ C2 q2.1, lc_end C1 C2 hM oA far q2.2⟩
      | cons u us ih =>
        intro s2 acc M2 x C2 hM far q2
        refine ⟨chk _ _ _ C2 q2.1, c.more A (.lst (acc.map (U.d c.p))), _, xfNo, xl_no oA xl, lc_elem u C2 hM oA far, t.mono q2.2 fun w s4 q4 d M4 C4 v4 => ?_⟩
        obtain ⟨hA4, far4, C5, C6⟩ := lc_after C4 oA
        split at q4
        · rename_i y
          have hd : d = y.d c.p := v4.v
          subst hd
          refine ⟨_, hA4, by rw [List.length_map]; exact q4.1, ?_⟩
          have := ih s4 (acc ++ [y]) (put M4 A (.lst (acc.map (U.d c.p) ++ [y.d c.p]))) _ (C6 _) (by rw [put_same, List.map_append]; rfl) far4 q4.2
          exact this
        · exact q4.elim
    obtain ⟨C2, far⟩ := lc_start (o := .lst []) C1 hA i
    exact key us0 _ [] _ none C2 put_same far q1
  · exact q.elim
variable {X : Cx} {e : Expr}
theorem fn_lcO (h : QE X e (dLc (dItAny (dVar j)) i (lFE E.no t))) : QE X e (lFN E (fnLcO j i t)) := h.to fun _ _ _ => lcO_le
end
end LD

/-! LG0: texts as lists of signs, letters; what == and repr ask -/
namespace LD
open PySem PySem.Spec PyProof.Rows L2

theorem ex2 {α β : Type} {c : α} {p : α → β → Prop} : (∃ us x, c = us ∧ p us x) ↔ ∃ x, p c x := ⟨fun ⟨_, x, e, h⟩ => ⟨x, by rw [e]; exact h⟩, fun ⟨x, h⟩ => ⟨c, x, rfl, h⟩⟩
theorem go2 {sp : FSp} {us : List U} {n : Nat} {B : U → Nat → Prop} {C : XF} (h : sp us n B C) : ∃ (Q0 : U → Nat → Prop) (X0 : XF), (∀ u n, Q0 u n → B u n) ∧ (∀ x n, X0 x n → C x n) ∧ sp us n Q0 X0 := ⟨B, C, fun _ _ q => q, fun _ _ q => q, h⟩
/-- the text of some signs -/
def tx (cs : List Nat) : Str := ⟨cs.toArray⟩
theorem tx_cps (cs : List Nat) : (tx cs).cps.toList = cs := by unfold tx; simp
theorem tx_len (cs : List Nat) : (tx cs).length = cs.length := by unfold tx Str.length; simp
theorem tx_size (cs : List Nat) : (tx cs).cps.size = cs.length := by unfold tx; simp
theorem tx_of (z : Str) : z = tx z.cps.toList := by unfold tx; simp
theorem tx_app (a b : List Nat) : tx a ++ tx b = tx (a ++ b) := by
  show (⟨(tx a).cps ++ (tx b).cps⟩ : Str) = _
  unfold tx; simp
theorem tx_inj {a b : List Nat} (h : tx a = tx b) : a = b := by rw [← tx_cps a, h, tx_cps]
theorem tx_one (c : Nat) : (⟨#[c]⟩ : Str) = tx [c] := rfl
theorem signs_tx (cs : List Nat) : signsU (tx cs) = cs.map fun c => U.str (tx [c]) := by unfold signsU; rw [tx_cps]; rfl
theorem inS_one (c : Nat) (cs : List Nat) : inS (tx [c]) (tx cs) = decide (c ∈ cs) := by
  have := PySem.StrLaws.found_one (tx cs) c
  rw [tx_cps] at this
  exact this

/-! ### strictly rising lists -/
theorem asc_ext : ∀ {as bs : List Nat}, as.Pairwise (· < ·) → bs.Pairwise (· < ·) → (∀ c, c ∈ as ↔ c ∈ bs) → as = bs
  | [], [], _, _, _ => rfl
  | [], b :: bs, _, _, h => by have := (h b).mpr List.mem_cons_self; cases this
  | a :: as, [], _, _, h => by have := (h a).mp List.mem_cons_self; cases this
  | a :: as, b :: bs, ha, hb, h => by
    rw [List.pairwise_cons] at ha hb
    have e : a = b := by
      rcases List.mem_cons.mp ((h a).mp List.mem_cons_self) with e | e
      · exact e
      · rcases List.mem_cons.mp ((h b).mpr List.mem_cons_self) with e2 | e2
        · exact e2.symm
        · have h1 := hb.1 a e
          have h2 := ha.1 b e2
          omega
    subst e
    rw [asc_ext ha.2 hb.2 fun c => ?_]
    constructor
    · intro hc
      rcases List.mem_cons.mp ((h c).mp (List.mem_cons_of_mem _ hc)) with e | e
      · have := ha.1 c hc; omega
      · exact e
    · intro hc
      rcases List.mem_cons.mp ((h c).mpr (List.mem_cons_of_mem _ hc)) with e | e
      · have := hb.1 c hc; omega
      · exact e
theorem ltCps_one (a b : Nat) : ltCps (tx [a]).cps.toList (tx [b]).cps.toList = decide (a < b) := by
  rw [tx_cps, tx_cps]
  by_cases h : a < b
  · simp [ltCps, h]
  · by_cases h2 : a = b
    · subst h2; simp [ltCps]
    · simp [ltCps, h, h2]
theorem rising_asc : ∀ (cs : List Nat) (c : Nat), risingS (tx [c]) (cs.map fun c => tx [c]) = true → (c :: cs).Nodup → (c :: cs).Pairwise (· < ·)
  | [], c, _, _ => by simp
  | d :: cs, c, h, hn => by
    rw [List.map_cons, risingS, Bool.and_eq_true, ltCps_one] at h
    rw [List.nodup_cons] at hn
    have ih := rising_asc cs d h.2 hn.2
    have hcd : c < d := by
      have h1 := h.1
      have h2 : c ≠ d := fun z => hn.1 (by rw [z]; exact List.mem_cons_self)
      simp at h1
      omega
    rw [List.pairwise_cons]
    refine ⟨fun e he => ?_, ih⟩
    rcases List.mem_cons.mp he with rfl | he
    · exact hcd
    · have := (List.pairwise_cons.mp ih).1 e he
      omega
/-- sorted(set(text)) -/
theorem sortSet_asc {cs : List Nat} {ns : List Str} (h1 : sortedS ns = true) (h2 : ns.Nodup) (h3 : ∀ k : Str, k ∈ ns ↔ ∃ c ∈ cs, k = ⟨#[c]⟩) : ∃ bs : List Nat, ns = bs.map (fun c => tx [c]) ∧ bs.Pairwise (· < ·) ∧ ∀ c, c ∈ bs ↔ c ∈ cs := by
  obtain ⟨bs, e⟩ : ∃ bs : List Nat, ns = bs.map (fun c => tx [c]) := by
    have key : ∀ l : List Str, (∀ k ∈ l, ∃ c : Nat, k = tx [c]) → ∃ bs : List Nat, l = bs.map (fun c => tx [c]) := fun l => by
      induction l with
      | nil => exact fun _ => ⟨[], rfl⟩
      | cons k l ih =>
        intro h
        obtain ⟨c, hc⟩ := h k List.mem_cons_self
        obtain ⟨bs, hb⟩ := ih fun k hk => h k (List.mem_cons_of_mem _ hk)
        exact ⟨c :: bs, by rw [hc, hb]; rfl⟩
    exact key ns fun k hk => let ⟨c, _, e⟩ := (h3 k).mp hk; ⟨c, e⟩
  subst e
  have hn : bs.Nodup := by
    have key : ∀ l : List Nat, (l.map fun c => tx [c]).Nodup → l.Nodup := fun l => by
      induction l with
      | nil => exact fun _ => List.nodup_nil
      | cons c l ih =>
        intro h
        rw [List.map_cons, List.nodup_cons] at h
        rw [List.nodup_cons]
        exact ⟨fun z => h.1 (List.mem_map.mpr ⟨c, z, rfl⟩), ih h.2⟩
    exact key bs h2
  refine ⟨bs, rfl, ?_, fun c => ?_⟩
  · cases bs with
    | nil => exact List.Pairwise.nil
    | cons b bs => exact rising_asc bs b h1 hn
  · constructor
    · intro hc
      obtain ⟨d, h4, h5⟩ := (h3 (tx [c])).mp (List.mem_map.mpr ⟨c, hc, rfl⟩)
      have e : [c] = [d] := tx_inj (h5.trans (tx_one d))
      cases e
      exact h4
    · intro hc
      obtain ⟨d, h4, h5⟩ := List.mem_map.mp ((h3 (tx [c])).mpr ⟨c, hc, rfl⟩)
      have e := tx_inj h5
      cases e
      exact h4

/-! ### == of data -/
theorem eqv_strs : ∀ as bs : List Str, PyData.eqvAll (as.map PyData.str) (bs.map PyData.str) = decide (as = bs)
  | [], [] => by rw [List.map_nil, PyData.eqvAll]; rfl
  | [], b :: bs => by rw [List.map_nil, List.map_cons, PyData.eqvAll]; rfl
  | a :: as, [] => by rw [List.map_nil, List.map_cons, PyData.eqvAll]; rfl
  | a :: as, b :: bs => by
    rw [List.map_cons, List.map_cons, PyData.eqvAll, PyData.eqv, eqv_strs as bs, Bool.beq_eq_decide_eq, Bool.eq_iff_iff]
    simp
theorem toPys_strs (as : List Str) : toPys (as.map U.str) = as.map PyData.str := by
  rw [toPys_map, List.map_map]
  exact List.map_congr_left fun _ _ => by show toPy (.str _) = _; rw [toPy]
/-! what == may be asked of -/
mutual
/-- strings of signs, no dicts, of some depth at most -/
def layU : Nat → U → Bool
  | _, .non => true
  | _, .bl _ => true
  | _, .int _ => true
  | _, .str x => x.cps.all (· < 0x110000)
  | n + 1, .tup us => layUs n us
  | n + 1, .lst us => layUs n us
  | _, _ => false
def layUs : Nat → List U → Bool
  | _, [] => true
  | n, u :: us => layU n u && layUs n us
end
theorem canLayAll_of {ds : List PyData} : PyData.canLayAll0 ds = ds.all PyData.canLay0 := by
  induction ds with
  | nil => rw [PyData.canLayAll0]; rfl
  | cons d ds ih => rw [PyData.canLayAll0, List.all_cons, ih]
mutual
theorem layU_ok : ∀ (n : Nat) (u : U), layU n u = true → noD u = true ∧ (toPy u).canLay0 = true ∧ (toPy u).depth ≤ n
  | n, .non, _ => by simp [noD, toPy, PyData.canLay0, PyData.depth]
  | n, .bl b, _ => by simp [noD, toPy, PyData.canLay0, PyData.depth]
  | n, .int b, _ => by simp [noD, toPy, PyData.canLay0, PyData.depth]
  | n, .str x, h => by
    have h : x.cps.all (· < 0x110000) = true := by cases n <;> exact h
    refine ⟨by rw [noD] <;> intros <;> first | rfl | contradiction, ?_, by simp [toPy, PyData.depth]⟩
    rw [toPy, PyData.canLay0]; exact h
  | n + 1, .tup us, h => by
    rw [layU] at h
    obtain ⟨h1, h2, h3⟩ := layUs_ok n us h
    refine ⟨by rw [noD]; exact h1, by rw [toPy]; simp only [PyData.canLay0]; exact h2, by rw [toPy]; simp only [PyData.depth]; omega⟩
  | n + 1, .lst us, h => by
    rw [layU] at h
    obtain ⟨h1, h2, h3⟩ := layUs_ok n us h
    refine ⟨by rw [noD]; exact h1, by rw [toPy]; simp only [PyData.canLay0]; exact h2, by rw [toPy]; simp only [PyData.depth]; omega⟩
  | 0, .tup us, h => by simp [layU] at h
  | 0, .lst us, h => by simp [layU] at h
  | n, .dct _, h => by cases n <;> simp [layU] at h
  | n, .pen, h => by cases n <;> simp [layU] at h
theorem layUs_ok : ∀ (n : Nat) (us : List U), layUs n us = true → noDs us = true ∧ PyData.canLayAll0 (toPys us) = true ∧ PyData.depthAll (toPys us) ≤ n
  | n, [], _ => by simp [noDs, toPys, PyData.canLayAll0, PyData.depthAll]
  | n, u :: us, h => by
    rw [layUs, Bool.and_eq_true] at h
    obtain ⟨h1, h2, h3⟩ := layU_ok n u h.1
    obtain ⟨g1, g2, g3⟩ := layUs_ok n us h.2
    refine ⟨by rw [noDs, h1, g1]; rfl, by rw [toPys, PyData.canLayAll0, h2, g2]; rfl, ?_⟩
    rw [toPys, PyData.depthAll]
    omega
end
theorem eqOk_of {n : Nat} {w : W} (h : layU n (pyW w) = true) (hn : n ≤ 64) : eqOk w := by
  obtain ⟨h1, h2, h3⟩ := layU_ok n _ h
  refine ⟨h1, ?_⟩
  unfold SeqAt.shaped
  rw [h2, decide_eq_true (by omega)]; rfl
theorem layUs_all {n : Nat} : ∀ {us : List U}, (∀ u ∈ us, layU n u = true) → layUs n us = true
  | [], _ => rfl
  | u :: us, h => by rw [layUs, h u List.mem_cons_self, layUs_all fun v hv => h v (List.mem_cons_of_mem _ hv)]; rfl
end LD
namespace LD
open PySem PySem.Spec PyProof.Rows L2
theorem shown_tuple (ts : List Str) : (tupleText ts).length ≤ (ts.map fun t => t.length + 2).sum + 4 := by
  cases ts with
  | nil => decide
  | cons t ts =>
    have h := join_length_add (t :: ts) (by simp)
    have e : piled (t :: ts) = ((t :: ts).map fun t => t.length + 2).sum := by
      have key : ∀ l : List Str, piled l = (l.map fun t => t.length + 2).sum := fun l => by
        induction l with
        | nil => rfl
        | cons a l ih => simp [piled] at ih ⊢ <;> omega
      exact key _
    unfold tupleText
    rw [Str.length_append, Str.length_append]
    have l1 : (Str.ofString "(").length = 1 := by decide
    have l2 : ∀ b : Bool, (Str.ofString (if b = true then ",)" else ")")).length ≤ 2 := by decide
    have l3 := l2 ((t :: ts).length == 1)
    have l4 : (("(" : Str)).length = 1 := l1
    rw [← e, l4]
    have l5 : ((if ((t :: ts).length == 1) = true then ",)" else ")" : String) : Str).length ≤ 2 := l3
    omega
theorem textFrom_le : ∀ (ts : List Str) (k : Nat) (acc : Str), (textFrom k acc ts).length ≤ acc.length + (ts.map fun t => t.length + 2).sum
  | [], k, acc => by show acc.length ≤ _; simp
  | t :: r, k, acc => by
    have ih := textFrom_le r (k + 1) (acc ++ (if k > 0 then ", " else "" : String) ++ t)
    show (textFrom (k + 1) (acc ++ (if k > 0 then ", " else "" : String) ++ t) r).length ≤ _
    rw [Str.length_append, Str.length_append] at ih
    have l1 : ((if k > 0 then ", " else "" : String) : Str).length ≤ 2 := by split <;> decide
    rw [List.map_cons, List.sum_cons]
    omega
theorem shown_list (ts : List Str) : (listText ts).length ≤ (ts.map fun t => t.length + 2).sum + 4 := by
  unfold listText
  rw [Str.length_append]
  have h := textFrom_le ts 0 "["
  have l1 : (("[" : Str)).length = 1 := by decide
  have l2 : (("]" : Str)).length = 1 := by decide
  omega
/-! ints of a size that can be shown -/
mutual
def intsU : U → Bool
  | .int i => decide (i.natAbs < 2 ^ 1900)
  | .tup us => intsUs us
  | .lst us => intsUs us
  | _ => true
def intsUs : List U → Bool
  | [] => true
  | u :: us => intsU u && intsUs us
end
mutual
def wtV : U → Nat
  | .str x => 10 * x.length + 2
  | .int _ => 1901
  | .tup us => wtVs us + 4
  | .lst us => wtVs us + 4
  | _ => 8
def wtVs : List U → Nat
  | [] => 0
  | u :: us => wtV u + 2 + wtVs us
end
mutual
theorem shown_le : ∀ (n : Nat) (u : U), layU n u = true → intsU u = true → (toPy u).showable = true ∧ (toPy u).shown.length ≤ wtV u
  | n, .non, _, _ => by simp [toPy, PyData.showable, PyData.shown, wtV]; decide
  | n, .bl b, _, _ => by cases b <;> simp [toPy, PyData.showable, PyData.shown, wtV] <;> decide
  | n, .int i, _, h => by
    rw [intsU, decide_eq_true_eq] at h
    have hs : Sm 1900 i := h
    have hl := hs.log (by decide)
    rw [toPy]
    simp only [PyData.showable, PyData.shown, wtV]
    exact ⟨decide_eq_true (by omega), by rw [PySem.ofString_length]; exact int_text_length_le (by decide) hl⟩
  | n, .str x, h, _ => by
    have h : x.cps.all (· < 0x110000) = true := by cases n <;> exact h
    rw [toPy]
    simp only [PyData.showable, PyData.shown, wtV]
    refine ⟨trivial, PySem.StrLaws.reprText_len x fun c hc => ?_⟩
    rw [Array.all_eq_true'] at h
    have := of_decide_eq_true (h c (by simpa using hc))
    omega
  | n + 1, .tup us, h, hi => by
    rw [layU] at h
    rw [intsU] at hi
    obtain ⟨h1, h2⟩ := shown_les n us h hi
    rw [toPy]
    simp only [PyData.showable, PyData.shown, wtV]
    exact ⟨h1, Nat.le_trans (shown_tuple _) (by omega)⟩
  | n + 1, .lst us, h, hi => by
    rw [layU] at h
    rw [intsU] at hi
    obtain ⟨h1, h2⟩ := shown_les n us h hi
    rw [toPy]
    simp only [PyData.showable, PyData.shown, wtV]
    exact ⟨h1, Nat.le_trans (shown_list _) (by omega)⟩
  | 0, .tup us, h, _ => by simp [layU] at h
  | 0, .lst us, h, _ => by simp [layU] at h
  | n, .dct _, h, _ => by cases n <;> simp [layU] at h
  | n, .pen, h, _ => by cases n <;> simp [layU] at h
theorem shown_les : ∀ (n : Nat) (us : List U), layUs n us = true → intsUs us = true → PyData.showableAll (toPys us) = true ∧ ((PyData.shownAll (toPys us)).map fun t => t.length + 2).sum ≤ wtVs us
  | n, [], _, _ => by simp [toPys, PyData.showableAll, PyData.shownAll, wtVs]
  | n, u :: us, h, hi => by
    rw [layUs, Bool.and_eq_true] at h
    rw [intsUs, Bool.and_eq_true] at hi
    obtain ⟨h1, h2⟩ := shown_le n u h.1 hi.1
    obtain ⟨g1, g2⟩ := shown_les n us h.2 hi.2
    rw [toPys, PyData.showableAll, PyData.shownAll, h1, g1, List.map_cons, List.sum_cons, wtVs]
    exact ⟨rfl, by omega⟩
end
theorem reprOk_of {n : Nat} {u : U} (h : layU n u = true) (hn : n < 100) (hi : intsU u = true) (hw : wtV u ≤ 16777216) : reprOk u := by
  obtain ⟨h1, _, h3⟩ := layU_ok n u h
  obtain ⟨h4, h5⟩ := shown_le n u h hi
  exact ⟨h1, h4, Nat.le_trans h5 (by rw [sizeLine_eq]; exact hw), by omega⟩
end LD

/-! LG1: the module machines: letters, rules, words -/
namespace LD
open PySem PySem.Spec PyProof.Rows L2

def isIntU : U → Bool
  | .int _ => true
  | _ => false
def withinB (lo hi : Int) : U → Bool
  | .int i => decide (lo ≤ i) && decide (i ≤ hi)
  | _ => false
/-- from a to z, rising -/
def Ltrs (cs : List Nat) : Prop := 1 ≤ cs.length ∧ cs.length ≤ 3 ∧ cs.Pairwise (· < ·) ∧ ∀ c ∈ cs, 97 ≤ c ∧ c ≤ 122
instance (cs : List Nat) : Decidable (Ltrs cs) := by unfold Ltrs; infer_instance
def lettersB : U → Bool
  | .str z => decide (Ltrs z.cps.toList)
  | _ => false
/-- a value that any def may look at -/
def notPen : U → Bool
  | .pen => false
  | _ => true
def strOkU : U → Bool
  | .str x => x.cps.all (· < 0x110000) && decide (x.length ≤ 1000000)
  | .pen => false
  | _ => true
abbrev F_is_integer : FSp := fun us n Q X => ∃ x, us = [x] ∧ notPen x = true ∧ Q (.bl (isIntU x)) n
abbrev F_is_within : FSp := fun us n Q X => ∃ x lo hi, us = [x, .int lo, .int hi] ∧ notPen x = true ∧ Q (.bl (withinB lo hi x)) n
abbrev F_are_letters : FSp := fun us n Q X => ∃ x, us = [x] ∧ strOkU x = true ∧ Q (.bl (lettersB x)) n
abbrev F_need_letters : FSp := fun us n Q X => ∃ x, us = [x] ∧ strOkU x = true ∧ bcase (lettersB x) (Q .non n) (X "NoLetters" n)

def f_is_integer : FS :=
  fRet (fAndV (fIsi .int (fVar 0)) (fNotV (fIsi .bool (fVar 0))))
-- slots of is_integer: 0=thing
def f_is_within : FS :=
  fRet (fAndV (fCall F_is_integer (faCons (fVar 0) (faNil))) (fChain leF leF (fVar 1) (fVar 0) (fVar 2)))
-- slots of is_within: 0=thing 1=least 2=most
def f_are_letters : FS :=
  fSeq (fIfS (fOrT (fNotT (fTB (fIsi .str (fVar 0)))) (fNotT (fTB (fChain leF leF (fC (.int 1)) (fCB lenF (faCons (fVar 0) (faNil))) (fC (.int 3)))))) (fRet (fC (.bl false))) (fSNil))
  (fRet (fAndV (fOp (eqF false) (fFz (fnListX (faCons (fVar 0) (faNil)))) (fFz (fnSortSet (fVar 0)))) (fCB allF (faCons (fFz (fnLc (fItAny (fVar 0)) 1 (fOp (inF false) (fVar 1) (fC (.str "abcdefghijklmnopqrstuvwxyz"))))) (faNil)))))
-- slots of are_letters: 0=thing 1=one
def f_need_letters : FS :=
  fIfS (fNotT (fTB (fCall F_are_letters (faCons (fVar 0) (faNil))))) (fRaise "NoLetters") (fSNil)
-- slots of need_letters: 0=thing

theorem fp_is_integer : ∀ us n Q X, us.length = 1 → F_is_integer us n Q X → f_is_integer.run X { nx := fun s => Q .non s.n, rt := Q } ⟨fStart 1 us, n⟩ := by
  rintro us n Q X hl ⟨x, rfl, hx, q⟩
  show f_is_integer.run X _ ⟨[some (.v x)], n⟩
  ((try dsimp only [fVar, fC, faNil, faCons, fTup, fnLst, fFz, fOp, fUn, fTB, fAndT, fOrT, fNotT, fAndV, fOrV, fNotV, fIf, fChain, fNoP, fPart, sliceF, fSlice, fCB, fName, fGNil, fGCons, fGTup, fSubL, fPass, fBreak, fCont, fNever, fSNil, fDrop, fRet, fRetN, fIfS, fAsg, fSet, fOwn, fOwnM, fSeq, fRaise, fFrz, fCall, fWhile, fFor, listW, seqW, pyW, addF, subF, ii, mulF, mulXF, fdivF, modF, powF, negF, ordF, ltF, leF, gtF, geF, eqF, isNonW, isNF, inF, inDF, ixF, tyW, fIsi, fIsiT, f1c, lenF, absF, intF, tupleF, boolsF, allF, anyF, reprF, fnListX, fItAny, fItR1, fItR2, fItEnum, fnLc, fnLcI, fnLcO, fMeth, appendF, popF, indexF, countBF, fMR, fJoin, fFind, fnSortSet, fIndexS, fnRep, fCallW, fCallN, fLamG, fParA, fEvalA, putFr, plains, Still, FSt.set_mk, FSt.pn, isi, List.any_cons, List.any_nil, List.getElem?_cons_zero, List.getElem?_cons_succ, List.set_cons_zero, List.set_cons_succ, f_is_integer]); (try simp only [true_and, ex2, Option.some.injEq, exists_eq_left']))
  cases x <;> first | (cases hx; done) | exact q
theorem fp_is_within : ∀ us n Q X, us.length = 3 → F_is_within us n Q X → f_is_within.run X { nx := fun s => Q .non s.n, rt := Q } ⟨fStart 3 us, n⟩ := by
  rintro us n Q X hl ⟨x, lo, hi, rfl, hx, q⟩
  show f_is_within.run X _ ⟨[some (.v x), some (.v (.int lo)), some (.v (.int hi))], n⟩
  ((try dsimp only [fVar, fC, faNil, faCons, fTup, fnLst, fFz, fOp, fUn, fTB, fAndT, fOrT, fNotT, fAndV, fOrV, fNotV, fIf, fChain, fNoP, fPart, sliceF, fSlice, fCB, fName, fGNil, fGCons, fGTup, fSubL, fPass, fBreak, fCont, fNever, fSNil, fDrop, fRet, fRetN, fIfS, fAsg, fSet, fOwn, fOwnM, fSeq, fRaise, fFrz, fCall, fWhile, fFor, listW, seqW, pyW, addF, subF, ii, mulF, mulXF, fdivF, modF, powF, negF, ordF, ltF, leF, gtF, geF, eqF, isNonW, isNF, inF, inDF, ixF, tyW, fIsi, fIsiT, f1c, lenF, absF, intF, tupleF, boolsF, allF, anyF, reprF, fnListX, fItAny, fItR1, fItR2, fItEnum, fnLc, fnLcI, fnLcO, fMeth, appendF, popF, indexF, countBF, fMR, fJoin, fFind, fnSortSet, fIndexS, fnRep, fCallW, fCallN, fLamG, fParA, fEvalA, putFr, plains, Still, FSt.set_mk, FSt.pn, isi, List.any_cons, List.any_nil, List.getElem?_cons_zero, List.getElem?_cons_succ, List.set_cons_zero, List.set_cons_succ, f_is_within]); (try simp only [true_and, ex2, Option.some.injEq, exists_eq_left']))
  refine go2 ⟨x, rfl, hx, ?_⟩
  cases x with
  | int i =>
    refine bcase_t rfl ?_
    ((try dsimp only [fVar, fC, faNil, faCons, fTup, fnLst, fFz, fOp, fUn, fTB, fAndT, fOrT, fNotT, fAndV, fOrV, fNotV, fIf, fChain, fNoP, fPart, sliceF, fSlice, fCB, fName, fGNil, fGCons, fGTup, fSubL, fPass, fBreak, fCont, fNever, fSNil, fDrop, fRet, fRetN, fIfS, fAsg, fSet, fOwn, fOwnM, fSeq, fRaise, fFrz, fCall, fWhile, fFor, listW, seqW, pyW, addF, subF, ii, mulF, mulXF, fdivF, modF, powF, negF, ordF, ltF, leF, gtF, geF, eqF, isNonW, isNF, inF, inDF, ixF, tyW, fIsi, fIsiT, f1c, lenF, absF, intF, tupleF, boolsF, allF, anyF, reprF, fnListX, fItAny, fItR1, fItR2, fItEnum, fnLc, fnLcI, fnLcO, fMeth, appendF, popF, indexF, countBF, fMR, fJoin, fFind, fnSortSet, fIndexS, fnRep, fCallW, fCallN, fLamG, fParA, fEvalA, putFr, plains, Still, FSt.set_mk, FSt.pn, isi, List.any_cons, List.any_nil, List.getElem?_cons_zero, List.getElem?_cons_succ, List.set_cons_zero, List.set_cons_succ]); (try simp only [true_and, ex2, Option.some.injEq, exists_eq_left']))
    replace q : Q (.bl (decide (lo ≤ i) && decide (i ≤ hi))) n := q
    by_cases h : lo ≤ i
    · refine bcase_t (decide_eq_true h) ?_
      rw [decide_eq_true h, Bool.true_and] at q
      exact q
    · refine bcase_f (decide_eq_false h) ?_
      rw [decide_eq_false h, Bool.false_and] at q
      exact q
  | _ => exact q
theorem alpha_codes : (Str.ofString "abcdefghijklmnopqrstuvwxyz") = tx (List.range' 97 26) := by decide +kernel
theorem in_alpha (c : Nat) : inS (tx [c]) "abcdefghijklmnopqrstuvwxyz" = decide (97 ≤ c ∧ c ≤ 122) := by
  rw [show (("abcdefghijklmnopqrstuvwxyz" : Str)) = tx (List.range' 97 26) from alpha_codes, inS_one]
  apply decide_eq_decide.mpr
  rw [List.mem_range'_1]
  omega
theorem boolsOf_map {α : Type} (f : α → Bool) : ∀ xs : List α, boolsOf (xs.map fun x => U.bl (f x)) = some (xs.map f)
  | [] => rfl
  | x :: xs => by rw [List.map_cons, List.map_cons, boolsOf, boolsOf_map f xs]; rfl
/-- a comprehension over a list of values, each of a known answer -/
theorem lcF_map {α : Type} {t : FE} {i : Nat} {Q : List U → FSt → Prop} (e : α → U) (g : α → U) (I : FSt → Prop) :
    ∀ (xs : List α) (step : ∀ x ∈ xs, ∀ (s : FSt) (R : W → FSt → Prop), I s → (∀ s', I s' → R (.v (g x)) s') → t.run xfNo (s.set i (some (.v (e x)))) R) (s : FSt) (acc : List U), I s → acc.length + xs.length ≤ sizeLine → (∀ s', I s' → Q (acc ++ xs.map g) s') → lcF t i Q (xs.map e) s acc
  | [], step, s, acc, hs, _, q => by have := q s hs; rw [List.map_nil, List.append_nil] at this; exact this
  | x :: xs, step, s, acc, hs, hl, q => by
    rw [List.length_cons] at hl
    refine step x List.mem_cons_self s _ hs fun s' hs' => ?_
    refine ⟨by omega, lcF_map e g I xs (fun y hy => step y (List.mem_cons_of_mem _ hy)) s' _ hs' (by rw [List.length_append]; simp; omega) fun s2 h2 => ?_⟩
    have := q s2 h2
    rw [List.map_cons] at this
    rw [List.append_assoc]
    exact this
theorem lcF_mapU {t : FE} {i : Nat} {Q : List U → FSt → Prop} (g : U → U) (I : FSt → Prop) (xs : List U)
    (step : ∀ x ∈ xs, ∀ (s : FSt) (R : W → FSt → Prop), I s → (∀ s', I s' → R (.v (g x)) s') → t.run xfNo (s.set i (some (.v x))) R) (s : FSt) (acc : List U) (hs : I s) (hl : acc.length + xs.length ≤ sizeLine) (q : ∀ s', I s' → Q (acc ++ xs.map g) s') : lcF t i Q xs s acc := by
  have := lcF_map id g I xs step s acc hs hl q
  rw [List.map_id] at this
  exact this
theorem lcFO_mapU {t : FE} {i j : Nat} {l : List U} {Q : List U → FSt → Prop} (g : U → U) (I : FSt → Prop) (hI : ∀ s, I s → s.v[j]? = some (some (.ol j l))) :
    ∀ (xs : List U) (step : ∀ x ∈ xs, ∀ (s : FSt) (R : W → FSt → Prop), I s → (∀ s', I s' → R (.v (g x)) s') → t.run xfNo (s.set i (some (.v x))) R) (s : FSt) (acc : List U), I s → acc.length + xs.length ≤ sizeLine → (∀ s', I s' → Q (acc ++ xs.map g) s') → lcFO t i j l Q xs s acc
  | [], step, s, acc, hs, _, q => by have := q s hs; rw [List.map_nil, List.append_nil] at this; exact ⟨hI s hs, this⟩
  | x :: xs, step, s, acc, hs, hl, q => by
    rw [List.length_cons] at hl
    refine ⟨hI s hs, step x List.mem_cons_self s _ hs fun s' hs' => ?_⟩
    refine ⟨by omega, lcFO_mapU g I hI xs (fun y hy => step y (List.mem_cons_of_mem _ hy)) s' _ hs' (by rw [List.length_append]; simp; omega) fun s2 h2 => ?_⟩
    have := q s2 h2
    rw [List.map_cons] at this
    rw [List.append_assoc]
    exact this
theorem inV_bl (b : Bool) : ∀ bs : List Bool, inV (fuV (.bl b)) ((bs.map U.bl).map fuV) = bs.contains b
  | [] => rfl
  | c :: bs => by
    have := inV_bl b bs
    unfold inV at this ⊢
    rw [List.map_cons, List.map_cons, List.any_cons, this, List.contains_cons]
    show ((c == b) || _) = ((b == c) || _)
    rw [Bool.beq_comm]
theorem flat_bl (bs : List Bool) : (bs.map U.bl).all flatU = true := by
  rw [List.all_map, List.all_eq_true]; exact fun _ _ => rfl
/-- a comprehension with a condition, each of a known answer -/
theorem lcFI_map {α : Type} {cd : FT} {t : FE} {i : Nat} {Q : List U → FSt → Prop} (e : α → U) (p : α → Bool) (g : α → U) (I : FSt → Prop) (J : α → FSt → Prop) :
    ∀ (xs : List α) (sc : ∀ x ∈ xs, ∀ (s : FSt) (R : Bool → FSt → Prop), I s → (∀ s', J x s' → I s' → R (p x) s') → cd.run xfNo (s.set i (some (.v (e x)))) R)
      (st : ∀ x ∈ xs, p x = true → ∀ (s : FSt) (R : W → FSt → Prop), J x s → (∀ s', I s' → R (.v (g x)) s') → t.run xfNo s R) (s : FSt) (acc : List U), I s → acc.length + xs.length ≤ sizeLine → (∀ s', I s' → Q (acc ++ (xs.filter p).map g) s') → lcFI cd t i Q (xs.map e) s acc
  | [], _, _, s, acc, hs, _, q => by have := q s hs; rw [List.filter_nil, List.map_nil, List.append_nil] at this; exact this
  | x :: xs, sc, st, s, acc, hs, hl, q => by
    rw [List.length_cons] at hl
    refine sc x List.mem_cons_self s _ hs fun s' hj hi => ?_
    cases hp : p x with
    | false =>
      refine bcase_f rfl (lcFI_map e p g I J xs (fun y hy => sc y (List.mem_cons_of_mem _ hy)) (fun y hy => st y (List.mem_cons_of_mem _ hy)) s' acc hi (by omega) fun s2 h2 => ?_)
      have := q s2 h2
      rw [List.filter_cons, hp] at this
      exact this
    | true =>
      refine bcase_t rfl (st x List.mem_cons_self hp s' _ hj fun s3 h3 => ?_)
      refine ⟨by omega, lcFI_map e p g I J xs (fun y hy => sc y (List.mem_cons_of_mem _ hy)) (fun y hy => st y (List.mem_cons_of_mem _ hy)) s3 _ h3 (by rw [List.length_append]; simp; omega) fun s2 h2 => ?_⟩
      have := q s2 h2
      rw [List.filter_cons, hp] at this
      rw [List.append_assoc]
      exact this
/-- a loop over a list of values, with what holds for the rest of the list -/
theorem forF_inv {α : Type} {g : FG} {b : FS} {X : XF} {E : FEnds} (e : α → U) (I : List α → FSt → Prop) (h0 : ∀ s, I [] s → E.nx s) :
    ∀ (xs : List α) (step : ∀ x rest, (∃ pre, xs = pre ++ x :: rest) → ∀ (s : FSt) (R : FSt → Prop), I (x :: rest) s → (∀ s', I rest s' → R s') → g.run X (e x) s fun s1 => b.run X { E with nx := R, ct := R, bk := E.nx } s1) (s : FSt), I xs s → forF g b X E (xs.map e) s
  | [], _, s, h => h0 s h
  | x :: xs, step, s, h => step x xs ⟨[], rfl⟩ s (forF g b X E (xs.map e)) h fun s' h' => forF_inv e I h0 xs (fun y rest ⟨pre, hp⟩ => step y rest ⟨x :: pre, by rw [hp]; rfl⟩) s' h'
theorem forF_invU {g : FG} {b : FS} {X : XF} {E : FEnds} (I : List U → FSt → Prop) (h0 : ∀ s, I [] s → E.nx s) (xs : List U)
    (step : ∀ x rest, (∃ pre, xs = pre ++ x :: rest) → ∀ (s : FSt) (R : FSt → Prop), I (x :: rest) s → (∀ s', I rest s' → R s') → g.run X x s fun s1 => b.run X { E with nx := R, ct := R, bk := E.nx } s1) (s : FSt) (h : I xs s) : forF g b X E xs s := by
  have := forF_inv id I h0 xs step s h
  rw [List.map_id] at this
  exact this
/-- a comprehension, with what holds for the rest and what is gathered -/
theorem lcF_inv {α : Type} {t : FE} {i : Nat} {Q : List U → FSt → Prop} (e : α → U) (I : List α → List U → FSt → Prop) (h0 : ∀ s acc, I [] acc s → Q acc s) :
    ∀ (xs : List α) (step : ∀ x ∈ xs, ∀ rest (s : FSt) (acc : List U) (R : W → FSt → Prop), I (x :: rest) acc s → (∀ y s', I rest (acc ++ [y]) s' → R (.v y) s') → t.run xfNo (s.set i (some (.v (e x)))) R) (s : FSt) (acc : List U), I xs acc s → acc.length + xs.length ≤ sizeLine → lcF t i Q (xs.map e) s acc
  | [], step, s, acc, hs, _ => h0 s acc hs
  | x :: xs, step, s, acc, hs, hl => by
    rw [List.length_cons] at hl
    exact step x List.mem_cons_self xs s acc _ hs fun y s' hs' => ⟨by omega, lcF_inv e I h0 xs (fun z hz => step z (List.mem_cons_of_mem _ hz)) s' _ hs' (by rw [List.length_append]; simp; omega)⟩
theorem lay_str {n : Nat} {x : Str} (h : x.cps.all (· < 0x110000) = true) : layU n (.str x) = true := by cases n <;> exact h
theorem signs_lay {z : Str} (h : z.cps.all (· < 0x110000) = true) : layU 1 (.lst (signsU z)) = true := by
  rw [layU]
  refine layUs_all fun u hu => ?_
  unfold signsU at hu
  obtain ⟨c, hc, rfl⟩ := List.mem_map.mp hu
  refine lay_str ?_
  rw [Array.all_eq_true'] at h
  simp
  have := h c (by simpa using hc)
  simpa using this
theorem fp_are_letters : ∀ us n Q X, us.length = 1 → F_are_letters us n Q X → f_are_letters.run X { nx := fun s => Q .non s.n, rt := Q } ⟨fStart 2 us, n⟩ := by
  rintro us n Q X hl ⟨x, rfl, hx, q⟩
  show f_are_letters.run X _ ⟨[some (.v x), none], n⟩
  ((try dsimp only [fVar, fC, faNil, faCons, fTup, fnLst, fFz, fOp, fUn, fTB, fAndT, fOrT, fNotT, fAndV, fOrV, fNotV, fIf, fChain, fNoP, fPart, sliceF, fSlice, fCB, fName, fGNil, fGCons, fGTup, fSubL, fPass, fBreak, fCont, fNever, fSNil, fDrop, fRet, fRetN, fIfS, fAsg, fSet, fOwn, fOwnM, fSeq, fRaise, fFrz, fCall, fWhile, fFor, listW, seqW, pyW, addF, subF, ii, mulF, mulXF, fdivF, modF, powF, negF, ordF, ltF, leF, gtF, geF, eqF, isNonW, isNF, inF, inDF, ixF, tyW, fIsi, fIsiT, f1c, lenF, absF, intF, tupleF, boolsF, allF, anyF, reprF, fnListX, fItAny, fItR1, fItR2, fItEnum, fnLc, fnLcI, fnLcO, fMeth, appendF, popF, indexF, countBF, fMR, fJoin, fFind, fnSortSet, fIndexS, fnRep, fCallW, fCallN, fLamG, fParA, fEvalA, putFr, plains, Still, FSt.set_mk, FSt.pn, isi, List.any_cons, List.any_nil, List.getElem?_cons_zero, List.getElem?_cons_succ, List.set_cons_zero, List.set_cons_succ, f_are_letters]); (try simp only [true_and, ex2, Option.some.injEq, exists_eq_left']))
  cases x with
  | str z =>
    rw [strOkU, Bool.and_eq_true, decide_eq_true_eq] at hx
    have hz : z.length ≤ sizeLine := by rw [sizeLine_eq]; omega
    ((try dsimp only [fVar, fC, faNil, faCons, fTup, fnLst, fFz, fOp, fUn, fTB, fAndT, fOrT, fNotT, fAndV, fOrV, fNotV, fIf, fChain, fNoP, fPart, sliceF, fSlice, fCB, fName, fGNil, fGCons, fGTup, fSubL, fPass, fBreak, fCont, fNever, fSNil, fDrop, fRet, fRetN, fIfS, fAsg, fSet, fOwn, fOwnM, fSeq, fRaise, fFrz, fCall, fWhile, fFor, listW, seqW, pyW, addF, subF, ii, mulF, mulXF, fdivF, modF, powF, negF, ordF, ltF, leF, gtF, geF, eqF, isNonW, isNF, inF, inDF, ixF, tyW, fIsi, fIsiT, f1c, lenF, absF, intF, tupleF, boolsF, allF, anyF, reprF, fnListX, fItAny, fItR1, fItR2, fItEnum, fnLc, fnLcI, fnLcO, fMeth, appendF, popF, indexF, countBF, fMR, fJoin, fFind, fnSortSet, fIndexS, fnRep, fCallW, fCallN, fLamG, fParA, fEvalA, putFr, plains, Still, FSt.set_mk, FSt.pn, isi, List.any_cons, List.any_nil, List.getElem?_cons_zero, List.getElem?_cons_succ, List.set_cons_zero, List.set_cons_succ]); (try simp only [true_and, ex2, Option.some.injEq, exists_eq_left']))
    have no : ¬ (1 ≤ z.length ∧ z.length ≤ 3) → Q (.bl false) n := fun h => by
      have e : lettersB (.str z) = false := by
        refine decide_eq_false fun l => h ⟨?_, ?_⟩
        · have := l.1; simpa [Str.length] using this
        · have := l.2.1; simpa [Str.length] using this
      rw [← e]; exact q
    refine ⟨hz, ?_⟩
    by_cases h1 : 1 ≤ z.length
    · refine bcase_t (decide_eq_true (by omega)) ?_
      ((try dsimp only [fVar, fC, faNil, faCons, fTup, fnLst, fFz, fOp, fUn, fTB, fAndT, fOrT, fNotT, fAndV, fOrV, fNotV, fIf, fChain, fNoP, fPart, sliceF, fSlice, fCB, fName, fGNil, fGCons, fGTup, fSubL, fPass, fBreak, fCont, fNever, fSNil, fDrop, fRet, fRetN, fIfS, fAsg, fSet, fOwn, fOwnM, fSeq, fRaise, fFrz, fCall, fWhile, fFor, listW, seqW, pyW, addF, subF, ii, mulF, mulXF, fdivF, modF, powF, negF, ordF, ltF, leF, gtF, geF, eqF, isNonW, isNF, inF, inDF, ixF, tyW, fIsi, fIsiT, f1c, lenF, absF, intF, tupleF, boolsF, allF, anyF, reprF, fnListX, fItAny, fItR1, fItR2, fItEnum, fnLc, fnLcI, fnLcO, fMeth, appendF, popF, indexF, countBF, fMR, fJoin, fFind, fnSortSet, fIndexS, fnRep, fCallW, fCallN, fLamG, fParA, fEvalA, putFr, plains, Still, FSt.set_mk, FSt.pn, isi, List.any_cons, List.any_nil, List.getElem?_cons_zero, List.getElem?_cons_succ, List.set_cons_zero, List.set_cons_succ]); (try simp only [true_and, ex2, Option.some.injEq, exists_eq_left']))
      by_cases h3 : z.length ≤ 3
      · rw [show decide ((z.length : Int) ≤ 3) = true from decide_eq_true (by omega)]
        refine ⟨hz, by have : z.cps.size = z.length := rfl; omega, fun ns n1 n2 n3 => ?_⟩
        obtain ⟨bs, rfl, b1, b2⟩ := sortSet_asc n1 n2 n3
        ((try dsimp only [fVar, fC, faNil, faCons, fTup, fnLst, fFz, fOp, fUn, fTB, fAndT, fOrT, fNotT, fAndV, fOrV, fNotV, fIf, fChain, fNoP, fPart, sliceF, fSlice, fCB, fName, fGNil, fGCons, fGTup, fSubL, fPass, fBreak, fCont, fNever, fSNil, fDrop, fRet, fRetN, fIfS, fAsg, fSet, fOwn, fOwnM, fSeq, fRaise, fFrz, fCall, fWhile, fFor, listW, seqW, pyW, addF, subF, ii, mulF, mulXF, fdivF, modF, powF, negF, ordF, ltF, leF, gtF, geF, eqF, isNonW, isNF, inF, inDF, ixF, tyW, fIsi, fIsiT, f1c, lenF, absF, intF, tupleF, boolsF, allF, anyF, reprF, fnListX, fItAny, fItR1, fItR2, fItEnum, fnLc, fnLcI, fnLcO, fMeth, appendF, popF, indexF, countBF, fMR, fJoin, fFind, fnSortSet, fIndexS, fnRep, fCallW, fCallN, fLamG, fParA, fEvalA, putFr, plains, Still, FSt.set_mk, FSt.pn, isi, List.any_cons, List.any_nil, List.getElem?_cons_zero, List.getElem?_cons_succ, List.set_cons_zero, List.set_cons_succ]); (try simp only [true_and, ex2, Option.some.injEq, exists_eq_left']))
        have hsz : z.cps.toList.length = z.length := by simp [Str.length]
        have hlay := signs_lay hx.1
        have hlay2 : layU 1 (.lst ((bs.map fun c => tx [c]).map U.str)) = true := by
          rw [layU]
          refine layUs_all fun u hu => ?_
          obtain ⟨x, hx1, rfl⟩ := List.mem_map.mp hu
          obtain ⟨c, hc, rfl⟩ := List.mem_map.mp hx1
          rw [layU] at hlay
          refine lay_str ?_
          have h1 := hx.1
          rw [Array.all_eq_true'] at h1
          have := h1 c (by simpa using (b2 c).mp hc)
          unfold tx; simpa using this
        have e1 : PyData.eqv (toPy (U.lst (signsU z))) (toPy (U.lst ((bs.map fun c => tx [c]).map U.str))) = decide (z.cps.toList = bs) := by
          have e2 : signsU z = (z.cps.toList.map fun c => tx [c]).map U.str := by rw [List.map_map]; rfl
          rw [toPy, toPy, PyData.eqv, e2, toPys_strs, toPys_strs, eqv_strs]
          refine decide_eq_decide.mpr ⟨fun h => ?_, fun h => by rw [h]⟩
          exact List.map_inj_right (fun a b h => by simpa using tx_inj h) |>.mp h
        refine ⟨eqOk_of (n := 1) hlay (by decide), eqOk_of (n := 1) hlay2 (by decide), ?_⟩
        rw [e1, Bool.xor_false]
        by_cases hb : z.cps.toList = bs
        · refine bcase_t (decide_eq_true hb) ?_
          refine lcF_map (fun c => U.str (tx [c])) (fun c => .bl (decide (97 ≤ c ∧ c ≤ 122))) (fun s => ∃ w, s = ⟨[some (.v (.str z)), w], n⟩) z.cps.toList ?_ _ _ ⟨none, rfl⟩ (by rw [hsz]; simp; exact hz) ?_
          · rintro c _ s R ⟨w, rfl⟩ k
            ((try dsimp only [fVar, fC, faNil, faCons, fTup, fnLst, fFz, fOp, fUn, fTB, fAndT, fOrT, fNotT, fAndV, fOrV, fNotV, fIf, fChain, fNoP, fPart, sliceF, fSlice, fCB, fName, fGNil, fGCons, fGTup, fSubL, fPass, fBreak, fCont, fNever, fSNil, fDrop, fRet, fRetN, fIfS, fAsg, fSet, fOwn, fOwnM, fSeq, fRaise, fFrz, fCall, fWhile, fFor, listW, seqW, pyW, addF, subF, ii, mulF, mulXF, fdivF, modF, powF, negF, ordF, ltF, leF, gtF, geF, eqF, isNonW, isNF, inF, inDF, ixF, tyW, fIsi, fIsiT, f1c, lenF, absF, intF, tupleF, boolsF, allF, anyF, reprF, fnListX, fItAny, fItR1, fItR2, fItEnum, fnLc, fnLcI, fnLcO, fMeth, appendF, popF, indexF, countBF, fMR, fJoin, fFind, fnSortSet, fIndexS, fnRep, fCallW, fCallN, fLamG, fParA, fEvalA, putFr, plains, Still, FSt.set_mk, FSt.pn, isi, List.any_cons, List.any_nil, List.getElem?_cons_zero, List.getElem?_cons_succ, List.set_cons_zero, List.set_cons_succ]); (try simp only [true_and, ex2, Option.some.injEq, exists_eq_left']))
            show R (.v (.bl (inS (tx [c]) "abcdefghijklmnopqrstuvwxyz" ^^ false))) _
            rw [in_alpha, Bool.xor_false]
            exact k _ ⟨_, rfl⟩
          · rintro s' ⟨w, rfl⟩
            rw [List.nil_append]
            refine ⟨_, boolsOf_map _ _, ?_⟩
            have e : lettersB (.str z) = (z.cps.toList.map fun c => decide (97 ≤ c ∧ c ≤ 122)).all id := by
              rw [lettersB, Bool.eq_iff_iff, decide_eq_true_eq, List.all_map, List.all_eq_true]
              unfold Ltrs
              rw [hsz]
              constructor
              · intro h c hc; exact decide_eq_true (h.2.2.2 c hc)
              · intro h; exact ⟨h1, h3, by rw [hb]; exact b1, fun c hc => of_decide_eq_true (h c hc)⟩
            rw [← e]
            exact q
        · refine bcase_f (decide_eq_false hb) ?_
          have e : lettersB (.str z) = false := by
            refine decide_eq_false fun l => hb ?_
            exact asc_ext l.2.2.1 b1 fun c => (b2 c).symm
          rw [← e]
          exact q
      · rw [show decide ((z.length : Int) ≤ 3) = false from decide_eq_false (by omega)]
        exact no fun h => h3 h.2
    · exact bcase_f (decide_eq_false (by omega)) (no fun h => h1 h.1)
  | pen => cases hx
  | _ => exact q
end LD

/-! LG2: rules -/
namespace LD
open PySem PySem.Spec PyProof.Rows L2

/-! values that any def may look at -/
mutual
def okU : U → Bool
  | .pen => false
  | .str x => x.cps.all (· < 0x110000) && decide (x.length ≤ 1000000)
  | .tup us => okUs us && decide (us.length ≤ 1000000)
  | .lst us => okUs us && decide (us.length ≤ 1000000)
  | .non => true
  | .bl _ => true
  | .int _ => true
  | .dct _ => true
def okUs : List U → Bool
  | [] => true
  | u :: us => okU u && okUs us
end
theorem okU_pen {x : U} (h : okU x = true) : notPen x = true := by cases x <;> first | rfl | simp [okU] at h
theorem okU_str {x : U} (h : okU x = true) : strOkU x = true := by cases x <;> first | rfl | exact h | simp [okU] at h
theorem okUs_mem : ∀ {us : List U}, okUs us = true → ∀ u ∈ us, okU u = true
  | u :: us, h, x, hx => by
    rw [okUs, Bool.and_eq_true] at h
    rcases List.mem_cons.mp hx with rfl | hx
    · exact h.1
    · exact okUs_mem h.2 x hx
theorem okUs_of : ∀ {us : List U}, (∀ u ∈ us, okU u = true) → okUs us = true
  | [], _ => rfl
  | u :: us, h => by rw [okUs, h u List.mem_cons_self, okUs_of fun v hv => h v (List.mem_cons_of_mem _ hv)]; rfl
theorem okU_tup {us : List U} (h : okU (.tup us) = true) : (∀ u ∈ us, okU u = true) ∧ us.length ≤ 1000000 := by
  rw [okU, Bool.and_eq_true, decide_eq_true_eq] at h
  exact ⟨okUs_mem h.1, h.2⟩

def isNonU : U → Bool
  | .non => true
  | _ => false
def lenSt : U → Nat
  | .str z => z.length
  | _ => 0
def entryB (m : Nat) (x : U) : Bool := isNonU x || withinB 0 ((m : Int) - 1) x
def stateB (k m : Nat) : U → Bool
  | .tup es => decide (es.length = k) && es.all (entryB m) && !es.all isNonU
  | _ => false
def ruleB : U → Bool
  | .tup [l, .tup sts] => lettersB l && decide (1 ≤ sts.length ∧ sts.length ≤ 4) && sts.all (stateB (lenSt l) sts.length)
  | _ => false
abbrev F_is_rule : FSp := fun us n Q X => ∃ x, us = [x] ∧ okU x = true ∧ Q (.bl (ruleB x)) n
abbrev F_free_rule : FSp := fun us n Q X => ∃ x, us = [x] ∧ strOkU x = true ∧ bcase (lettersB x) (Q (.tup [x, .tup [.tup (List.replicate (lenSt x) (.int 0))]]) n) (X "NoLetters" n)
def sideB (cs : List Nat) : U → Bool
  | .str z => decide (z.length ≤ 1500) && z.cps.toList.all fun c => decide (c ∈ cs)
  | _ => false
abbrev F_is_side : FSp := fun us n Q X => ∃ x cs, us = [x, .str (tx cs)] ∧ okU x = true ∧ Q (.bl (sideB cs x)) n

def f_is_rule : FS :=
  fSeq (fIfS (fOrT (fNotT (fTB (fIsi .tuple (fVar 0)))) (fOrT (fTB (fOp (eqF true) (fCB lenF (faCons (fVar 0) (faNil))) (fC (.int 2)))) (fNotT (fTB (fCall F_are_letters (faCons (fOp ixF (fVar 0) (fC (.int 0))) (faNil))))))) (fRet (fC (.bl false))) (fSNil))
  (fSeq (fIfS (fOrT (fNotT (fTB (fIsi .tuple (fOp ixF (fVar 0) (fC (.int 1)))))) (fNotT (fTB (fChain leF leF (fC (.int 1)) (fCB lenF (faCons (fOp ixF (fVar 0) (fC (.int 1))) (faNil))) (fC (.int 4)))))) (fRet (fC (.bl false))) (fSNil))
  (fSeq (fFor (fItAny (fOp ixF (fVar 0) (fC (.int 1)))) (fName 1) (fSeq (fIfS (fOrT (fNotT (fTB (fIsi .tuple (fVar 1)))) (fTB (fOp (eqF true) (fCB lenF (faCons (fVar 1) (faNil))) (fCB lenF (faCons (fOp ixF (fVar 0) (fC (.int 0))) (faNil)))))) (fRet (fC (.bl false))) (fSNil))
  (fSeq (fIfS (fNotT (fTB (fCB allF (faCons (fFz (fnLc (fItAny (fVar 1)) 2 (fOrV (fOp (isNF false) (fVar 2) (fC .non)) (fCall F_is_within (faCons (fVar 2) (faCons (fC (.int 0)) (faCons (fOp subF (fCB lenF (faCons (fOp ixF (fVar 0) (fC (.int 1))) (faNil))) (fC (.int 1))) (faNil)))))))) (faNil))))) (fRet (fC (.bl false))) (fSNil))
  (fIfS (fTB (fCB allF (faCons (fFz (fnLc (fItAny (fVar 1)) 2 (fOp (isNF false) (fVar 2) (fC .non)))) (faNil)))) (fRet (fC (.bl false))) (fSNil)))))
  (fRet (fC (.bl true)))))
-- slots of is_rule: 0=thing 1=state 2=one
def f_free_rule : FS :=
  fSeq (fDrop (fCall F_need_letters (faCons (fVar 0) (faNil))))
  (fRet (fTup (faCons (fVar 0) (faCons (fTup (faCons (fCB tupleF (faCons (fFz (fnLc (fItAny (fVar 0)) 1 (fC (.int 0)))) (faNil))) (faNil))) (faNil)))))
-- slots of free_rule: 0=letters 1=one
def f_is_side : FS :=
  fRet (fAndV (fIsi .str (fVar 0)) (fAndV (fOp leF (fCB lenF (faCons (fVar 0) (faNil))) (fC (.int 1500))) (fCB allF (faCons (fFz (fnLc (fItAny (fVar 0)) 2 (fOp (inF false) (fVar 2) (fVar 1)))) (faNil)))))
-- slots of is_side: 0=thing 1=letters 2=one

theorem fp_need_letters : ∀ us n Q X, us.length = 1 → F_need_letters us n Q X → f_need_letters.run X { nx := fun s => Q .non s.n, rt := Q } ⟨fStart 1 us, n⟩ := by
  rintro us n Q X hl ⟨x, rfl, hx, q⟩
  show f_need_letters.run X _ ⟨[some (.v x)], n⟩
  ((try dsimp only [fVar, fC, faNil, faCons, fTup, fnLst, fFz, fOp, fUn, fTB, fAndT, fOrT, fNotT, fAndV, fOrV, fNotV, fIf, fChain, fNoP, fPart, sliceF, fSlice, fCB, fName, fGNil, fGCons, fGTup, fSubL, fPass, fBreak, fCont, fNever, fSNil, fDrop, fRet, fRetN, fIfS, fAsg, fSet, fOwn, fOwnM, fSeq, fRaise, fFrz, fCall, fWhile, fFor, listW, seqW, pyW, addF, subF, ii, mulF, mulXF, fdivF, modF, powF, negF, ordF, ltF, leF, gtF, geF, eqF, isNonW, isNF, inF, inDF, ixF, tyW, fIsi, fIsiT, f1c, lenF, absF, intF, tupleF, boolsF, allF, anyF, reprF, fnListX, fItAny, fItR1, fItR2, fItEnum, fnLc, fnLcI, fnLcO, fMeth, appendF, popF, indexF, countBF, fMR, fJoin, fFind, fnSortSet, fIndexS, fnRep, fCallW, fCallN, fLamG, fParA, fEvalA, putFr, plains, Still, FSt.set_mk, FSt.pn, isi, List.any_cons, List.any_nil, List.getElem?_cons_zero, List.getElem?_cons_succ, List.set_cons_zero, List.set_cons_succ, f_need_letters]); (try simp only [true_and, ex2, Option.some.injEq, exists_eq_left']))
  refine go2 ⟨x, rfl, hx, ?_⟩
  cases h : lettersB x <;> rw [h] at q <;> exact q
theorem fp_is_side : ∀ us n Q X, us.length = 2 → F_is_side us n Q X → f_is_side.run X { nx := fun s => Q .non s.n, rt := Q } ⟨fStart 3 us, n⟩ := by
  rintro us n Q X hl ⟨x, cs, rfl, hx, q⟩
  show f_is_side.run X _ ⟨[some (.v x), some (.v (.str (tx cs))), none], n⟩
  ((try dsimp only [fVar, fC, faNil, faCons, fTup, fnLst, fFz, fOp, fUn, fTB, fAndT, fOrT, fNotT, fAndV, fOrV, fNotV, fIf, fChain, fNoP, fPart, sliceF, fSlice, fCB, fName, fGNil, fGCons, fGTup, fSubL, fPass, fBreak, fCont, fNever, fSNil, fDrop, fRet, fRetN, fIfS, fAsg, fSet, fOwn, fOwnM, fSeq, fRaise, fFrz, fCall, fWhile, fFor, listW, seqW, pyW, addF, subF, ii, mulF, mulXF, fdivF, modF, powF, negF, ordF, ltF, leF, gtF, geF, eqF, isNonW, isNF, inF, inDF, ixF, tyW, fIsi, fIsiT, f1c, lenF, absF, intF, tupleF, boolsF, allF, anyF, reprF, fnListX, fItAny, fItR1, fItR2, fItEnum, fnLc, fnLcI, fnLcO, fMeth, appendF, popF, indexF, countBF, fMR, fJoin, fFind, fnSortSet, fIndexS, fnRep, fCallW, fCallN, fLamG, fParA, fEvalA, putFr, plains, Still, FSt.set_mk, FSt.pn, isi, List.any_cons, List.any_nil, List.getElem?_cons_zero, List.getElem?_cons_succ, List.set_cons_zero, List.set_cons_succ, f_is_side]); (try simp only [true_and, ex2, Option.some.injEq, exists_eq_left']))
  cases x with
  | str z =>
    rw [okU, Bool.and_eq_true, decide_eq_true_eq] at hx
    have hz : z.length ≤ sizeLine := by rw [sizeLine_eq]; omega
    ((try dsimp only [fVar, fC, faNil, faCons, fTup, fnLst, fFz, fOp, fUn, fTB, fAndT, fOrT, fNotT, fAndV, fOrV, fNotV, fIf, fChain, fNoP, fPart, sliceF, fSlice, fCB, fName, fGNil, fGCons, fGTup, fSubL, fPass, fBreak, fCont, fNever, fSNil, fDrop, fRet, fRetN, fIfS, fAsg, fSet, fOwn, fOwnM, fSeq, fRaise, fFrz, fCall, fWhile, fFor, listW, seqW, pyW, addF, subF, ii, mulF, mulXF, fdivF, modF, powF, negF, ordF, ltF, leF, gtF, geF, eqF, isNonW, isNF, inF, inDF, ixF, tyW, fIsi, fIsiT, f1c, lenF, absF, intF, tupleF, boolsF, allF, anyF, reprF, fnListX, fItAny, fItR1, fItR2, fItEnum, fnLc, fnLcI, fnLcO, fMeth, appendF, popF, indexF, countBF, fMR, fJoin, fFind, fnSortSet, fIndexS, fnRep, fCallW, fCallN, fLamG, fParA, fEvalA, putFr, plains, Still, FSt.set_mk, FSt.pn, isi, List.any_cons, List.any_nil, List.getElem?_cons_zero, List.getElem?_cons_succ, List.set_cons_zero, List.set_cons_succ]); (try simp only [true_and, ex2, Option.some.injEq, exists_eq_left']))
    refine bcase_t rfl ⟨hz, ?_⟩
    have hsz : z.cps.toList.length = z.length := by simp [Str.length]
    by_cases hl : z.length ≤ 1500
    · refine bcase_t (decide_eq_true (by omega)) ?_
      refine lcF_map (fun c => U.str (tx [c])) (fun c => .bl (decide (c ∈ cs))) (fun s => ∃ w, s = ⟨[some (.v (.str z)), some (.v (.str (tx cs))), w], n⟩) z.cps.toList ?_ _ _ ⟨none, rfl⟩ (by rw [hsz]; simp; exact hz) ?_
      · rintro c _ s R ⟨w, rfl⟩ k
        show True ∧ R (.v (.bl (inS (tx [c]) (tx cs) ^^ false))) _
        rw [inS_one, Bool.xor_false]
        exact ⟨trivial, k _ ⟨_, rfl⟩⟩
      · rintro s' ⟨w, rfl⟩
        rw [List.nil_append]
        refine ⟨_, boolsOf_map _ _, ?_⟩
        have e : sideB cs (.str z) = (z.cps.toList.map fun c => decide (c ∈ cs)).all id := by
          rw [sideB, decide_eq_true hl, List.all_map]; rfl
        rw [← e]
        exact q
    · refine bcase_f (decide_eq_false (by omega)) ?_
      have e : sideB cs (.str z) = false := by rw [sideB, decide_eq_false hl]; rfl
      rw [← e]; exact q
  | pen => cases hx
  | _ => exact q
theorem fp_free_rule : ∀ us n Q X, us.length = 1 → F_free_rule us n Q X → f_free_rule.run X { nx := fun s => Q .non s.n, rt := Q } ⟨fStart 2 us, n⟩ := by
  rintro us n Q X hl ⟨x, rfl, hx, q⟩
  show f_free_rule.run X _ ⟨[some (.v x), none], n⟩
  ((try dsimp only [fVar, fC, faNil, faCons, fTup, fnLst, fFz, fOp, fUn, fTB, fAndT, fOrT, fNotT, fAndV, fOrV, fNotV, fIf, fChain, fNoP, fPart, sliceF, fSlice, fCB, fName, fGNil, fGCons, fGTup, fSubL, fPass, fBreak, fCont, fNever, fSNil, fDrop, fRet, fRetN, fIfS, fAsg, fSet, fOwn, fOwnM, fSeq, fRaise, fFrz, fCall, fWhile, fFor, listW, seqW, pyW, addF, subF, ii, mulF, mulXF, fdivF, modF, powF, negF, ordF, ltF, leF, gtF, geF, eqF, isNonW, isNF, inF, inDF, ixF, tyW, fIsi, fIsiT, f1c, lenF, absF, intF, tupleF, boolsF, allF, anyF, reprF, fnListX, fItAny, fItR1, fItR2, fItEnum, fnLc, fnLcI, fnLcO, fMeth, appendF, popF, indexF, countBF, fMR, fJoin, fFind, fnSortSet, fIndexS, fnRep, fCallW, fCallN, fLamG, fParA, fEvalA, putFr, plains, Still, FSt.set_mk, FSt.pn, isi, List.any_cons, List.any_nil, List.getElem?_cons_zero, List.getElem?_cons_succ, List.set_cons_zero, List.set_cons_succ, f_free_rule]); (try simp only [true_and, ex2, Option.some.injEq, exists_eq_left']))
  refine go2 ⟨x, rfl, hx, ?_⟩
  cases h : lettersB x with
  | false => rw [h] at q; exact q
  | true =>
    rw [h] at q
    replace q : Q (.tup [x, .tup [.tup (List.replicate (lenSt x) (.int 0))]]) n := q
    refine bcase_t rfl ?_
    cases x with
    | str z =>
      have hsz : z.cps.toList.length = z.length := by simp [Str.length]
      rw [strOkU, Bool.and_eq_true, decide_eq_true_eq] at hx
      refine lcF_map (fun c => U.str (tx [c])) (fun c => .int 0) (fun s => ∃ w, s = ⟨[some (.v (.str z)), w], n⟩) z.cps.toList ?_ _ _ ⟨none, rfl⟩ (by rw [hsz, sizeLine_eq]; simp; omega) ?_
      · rintro c _ s R ⟨w, rfl⟩ k
        exact k _ ⟨_, rfl⟩
      · rintro s' ⟨w, rfl⟩
        refine ⟨by rw [sizeLine_eq]; simp, by rw [sizeLine_eq]; simp, ?_⟩
        rw [List.nil_append, List.map_const', hsz]
        exact q
    | _ => cases h
theorem seqF {t u : FS} {X : XF} {E : FEnds} {s : FSt} (P : FSt → Prop) (h1 : t.run X { E with nx := P } s) (h2 : ∀ s', P s' → u.run X E s') : (fSeq t u).run X E s := t.mono h1 ⟨h2, fun _ _ q => q, fun _ q => q, fun _ q => q⟩
theorem ifF {c : FT} {a b : FS} {X : XF} {E : FEnds} {s : FSt} (P : Bool → FSt → Prop) (h1 : c.run X s P) (h2 : ∀ k s1, P k s1 → bcase k (a.run X E s1) (b.run X E s1)) : (fIfS c a b).run X E s := c.mono h1 h2
theorem forS {w : FI} {g : FG} {b : FS} {X : XF} {E : FEnds} {s : FSt} (R : List U → FSt → Prop) (h1 : w.run X s R) (h2 : ∀ us s1, R us s1 → forF g b X E us s1) : (fFor w g b).run X E s := w.mono h1 h2
/-- a while loop, with what is left of its turns -/
theorem whileF {c : FT} {b : FS} {X : XF} {E : FEnds} (I : Nat → FSt → Prop) (h : ∀ m s, I m s → c.run X s fun k s1 => bcase k (∃ m', m = m' + 1 ∧ b.run X { E with nx := I m', ct := I m', bk := E.nx } s1) (E.nx s1)) {m : Nat} {s : FSt} (hs : I m s) : (fWhile c b).run X E s := by
  have key : ∀ m s, I m s → whF c b X { E with bk := E.nx } (m + 1) s := fun m => by
    induction m with
    | zero =>
      intro s hs
      exact c.mono (h 0 s hs) fun k s1 q => bcase_mono q (fun ⟨m', e, _⟩ => by omega) fun q => q
    | succ m ih =>
      intro s hs
      refine c.mono (h (m + 1) s hs) fun k s1 q => bcase_mono q (fun ⟨m', e, q⟩ => ?_) fun q => q
      have : m = m' := by omega
      subst this
      exact b.mono q ⟨ih, fun _ _ q => q, fun _ q => q, ih⟩
  exact ⟨m + 1, key m s hs⟩
theorem inV_int (j : Nat) : ∀ js : List Nat, inV (fuV (.int j)) ((js.map fun i : Nat => U.int i).map fuV) = decide (j ∈ js)
  | [] => rfl
  | i :: js => by
    have := inV_int j js
    unfold inV at this ⊢
    rw [List.map_cons, List.map_cons, List.any_cons, this]
    show (((i : Int) == (j : Int)) || decide (j ∈ js)) = _
    rw [Bool.eq_iff_iff]
    simp only [Bool.or_eq_true, beq_iff_eq, decide_eq_true_eq, List.mem_cons]
    constructor
    · rintro (h | h)
      · exact .inl (by omega)
      · exact .inr h
    · rintro (h | h)
      · exact .inl (by omega)
      · exact .inr h
theorem flat_int (js : List Nat) : (js.map fun i : Nat => U.int i).all flatU = true := by
  rw [List.all_map, List.all_eq_true]; exact fun _ _ => rfl
theorem withinB_int {lo hi : Int} {x : U} (h : withinB lo hi x = true) : ∃ i : Int, x = .int i ∧ lo ≤ i ∧ i ≤ hi := by
  cases x <;> simp [withinB] at h
  exact ⟨_, rfl, h.1, h.2⟩
theorem fp_is_rule : ∀ us n Q X, us.length = 1 → F_is_rule us n Q X → f_is_rule.run X { nx := fun s => Q .non s.n, rt := Q } ⟨fStart 3 us, n⟩ := by
  rintro us n Q X hl ⟨x, rfl, hx, q⟩
  show f_is_rule.run X _ ⟨[some (.v x), none, none], n⟩
  unfold f_is_rule
  refine seqF (fun s => s = ⟨[some (.v x), none, none], n⟩ ∧ ∃ a b, x = .tup [a, b] ∧ lettersB a = true) ?_ ?_
  · cases x with
    | tup us =>
      ((try dsimp only [fVar, fC, faNil, faCons, fTup, fnLst, fFz, fOp, fUn, fTB, fAndT, fOrT, fNotT, fAndV, fOrV, fNotV, fIf, fChain, fNoP, fPart, sliceF, fSlice, fCB, fName, fGNil, fGCons, fGTup, fSubL, fPass, fBreak, fCont, fNever, fSNil, fDrop, fRet, fRetN, fIfS, fAsg, fSet, fOwn, fOwnM, fSeq, fRaise, fFrz, fCall, fWhile, fFor, listW, seqW, pyW, addF, subF, ii, mulF, mulXF, fdivF, modF, powF, negF, ordF, ltF, leF, gtF, geF, eqF, isNonW, isNF, inF, inDF, ixF, tyW, fIsi, fIsiT, f1c, lenF, absF, intF, tupleF, boolsF, allF, anyF, reprF, fnListX, fItAny, fItR1, fItR2, fItEnum, fnLc, fnLcI, fnLcO, fMeth, appendF, popF, indexF, countBF, fMR, fJoin, fFind, fnSortSet, fIndexS, fnRep, fCallW, fCallN, fLamG, fParA, fEvalA, putFr, plains, Still, FSt.set_mk, FSt.pn, isi, List.any_cons, List.any_nil, List.getElem?_cons_zero, List.getElem?_cons_succ, List.set_cons_zero, List.set_cons_succ]); (try simp only [true_and, ex2, Option.some.injEq, exists_eq_left']))
      obtain ⟨hm, hlen⟩ := okU_tup hx
      refine bcase_f rfl ?_
      ((try dsimp only [fVar, fC, faNil, faCons, fTup, fnLst, fFz, fOp, fUn, fTB, fAndT, fOrT, fNotT, fAndV, fOrV, fNotV, fIf, fChain, fNoP, fPart, sliceF, fSlice, fCB, fName, fGNil, fGCons, fGTup, fSubL, fPass, fBreak, fCont, fNever, fSNil, fDrop, fRet, fRetN, fIfS, fAsg, fSet, fOwn, fOwnM, fSeq, fRaise, fFrz, fCall, fWhile, fFor, listW, seqW, pyW, addF, subF, ii, mulF, mulXF, fdivF, modF, powF, negF, ordF, ltF, leF, gtF, geF, eqF, isNonW, isNF, inF, inDF, ixF, tyW, fIsi, fIsiT, f1c, lenF, absF, intF, tupleF, boolsF, allF, anyF, reprF, fnListX, fItAny, fItR1, fItR2, fItEnum, fnLc, fnLcI, fnLcO, fMeth, appendF, popF, indexF, countBF, fMR, fJoin, fFind, fnSortSet, fIndexS, fnRep, fCallW, fCallN, fLamG, fParA, fEvalA, putFr, plains, Still, FSt.set_mk, FSt.pn, isi, List.any_cons, List.any_nil, List.getElem?_cons_zero, List.getElem?_cons_succ, List.set_cons_zero, List.set_cons_succ]); (try simp only [true_and, ex2, Option.some.injEq, exists_eq_left']))
      match us, q, hx, hm with
      | [a, b], q, hx, hm =>
        refine bcase_f rfl ?_
        refine ⟨a, rfl, ?_⟩
        refine go2 ⟨a, rfl, okU_str (hm a List.mem_cons_self), ?_⟩
        cases h : lettersB a with
        | true => exact bcase_f rfl ⟨rfl, a, b, rfl, h⟩
        | false =>
          refine bcase_t rfl ?_
          have e : ruleB (.tup [a, b]) = false := by
            cases b <;> first | rfl | (rw [ruleB, h]; rfl)
          rw [← e]; exact q
      | [], q, _, _ => exact q
      | [a], q, _, _ => exact q
      | a :: b :: c :: r, q, _, _ => 
        have e : ruleB (.tup (a :: b :: c :: r)) = false := by cases b <;> rfl
        rw [e] at q
        refine bcase_t ?_ q
        show (decide (((a :: b :: c :: r).length : Int) = 2) ^^ true) = true
        rw [decide_eq_false (by simp; omega)]; rfl
    | pen => cases hx
    | _ => ((try dsimp only [fVar, fC, faNil, faCons, fTup, fnLst, fFz, fOp, fUn, fTB, fAndT, fOrT, fNotT, fAndV, fOrV, fNotV, fIf, fChain, fNoP, fPart, sliceF, fSlice, fCB, fName, fGNil, fGCons, fGTup, fSubL, fPass, fBreak, fCont, fNever, fSNil, fDrop, fRet, fRetN, fIfS, fAsg, fSet, fOwn, fOwnM, fSeq, fRaise, fFrz, fCall, fWhile, fFor, listW, seqW, pyW, addF, subF, ii, mulF, mulXF, fdivF, modF, powF, negF, ordF, ltF, leF, gtF, geF, eqF, isNonW, isNF, inF, inDF, ixF, tyW, fIsi, fIsiT, f1c, lenF, absF, intF, tupleF, boolsF, allF, anyF, reprF, fnListX, fItAny, fItR1, fItR2, fItEnum, fnLc, fnLcI, fnLcO, fMeth, appendF, popF, indexF, countBF, fMR, fJoin, fFind, fnSortSet, fIndexS, fnRep, fCallW, fCallN, fLamG, fParA, fEvalA, putFr, plains, Still, FSt.set_mk, FSt.pn, isi, List.any_cons, List.any_nil, List.getElem?_cons_zero, List.getElem?_cons_succ, List.set_cons_zero, List.set_cons_succ]); (try simp only [true_and, ex2, Option.some.injEq, exists_eq_left'])); exact q
  · rintro _ ⟨rfl, a, b, rfl, ha⟩
    obtain ⟨hm, hlen⟩ := okU_tup hx
    refine seqF (fun s => s = ⟨[some (.v (.tup [a, b])), none, none], n⟩ ∧ ∃ sts, b = .tup sts ∧ 1 ≤ sts.length ∧ sts.length ≤ 4) ?_ ?_
    · ((try dsimp only [fVar, fC, faNil, faCons, fTup, fnLst, fFz, fOp, fUn, fTB, fAndT, fOrT, fNotT, fAndV, fOrV, fNotV, fIf, fChain, fNoP, fPart, sliceF, fSlice, fCB, fName, fGNil, fGCons, fGTup, fSubL, fPass, fBreak, fCont, fNever, fSNil, fDrop, fRet, fRetN, fIfS, fAsg, fSet, fOwn, fOwnM, fSeq, fRaise, fFrz, fCall, fWhile, fFor, listW, seqW, pyW, addF, subF, ii, mulF, mulXF, fdivF, modF, powF, negF, ordF, ltF, leF, gtF, geF, eqF, isNonW, isNF, inF, inDF, ixF, tyW, fIsi, fIsiT, f1c, lenF, absF, intF, tupleF, boolsF, allF, anyF, reprF, fnListX, fItAny, fItR1, fItR2, fItEnum, fnLc, fnLcI, fnLcO, fMeth, appendF, popF, indexF, countBF, fMR, fJoin, fFind, fnSortSet, fIndexS, fnRep, fCallW, fCallN, fLamG, fParA, fEvalA, putFr, plains, Still, FSt.set_mk, FSt.pn, isi, List.any_cons, List.any_nil, List.getElem?_cons_zero, List.getElem?_cons_succ, List.set_cons_zero, List.set_cons_succ]); (try simp only [true_and, ex2, Option.some.injEq, exists_eq_left']))
      refine ⟨b, rfl, ?_⟩
      cases b with
      | tup sts =>
        ((try dsimp only [fVar, fC, faNil, faCons, fTup, fnLst, fFz, fOp, fUn, fTB, fAndT, fOrT, fNotT, fAndV, fOrV, fNotV, fIf, fChain, fNoP, fPart, sliceF, fSlice, fCB, fName, fGNil, fGCons, fGTup, fSubL, fPass, fBreak, fCont, fNever, fSNil, fDrop, fRet, fRetN, fIfS, fAsg, fSet, fOwn, fOwnM, fSeq, fRaise, fFrz, fCall, fWhile, fFor, listW, seqW, pyW, addF, subF, ii, mulF, mulXF, fdivF, modF, powF, negF, ordF, ltF, leF, gtF, geF, eqF, isNonW, isNF, inF, inDF, ixF, tyW, fIsi, fIsiT, f1c, lenF, absF, intF, tupleF, boolsF, allF, anyF, reprF, fnListX, fItAny, fItR1, fItR2, fItEnum, fnLc, fnLcI, fnLcO, fMeth, appendF, popF, indexF, countBF, fMR, fJoin, fFind, fnSortSet, fIndexS, fnRep, fCallW, fCallN, fLamG, fParA, fEvalA, putFr, plains, Still, FSt.set_mk, FSt.pn, isi, List.any_cons, List.any_nil, List.getElem?_cons_zero, List.getElem?_cons_succ, List.set_cons_zero, List.set_cons_succ]); (try simp only [true_and, ex2, Option.some.injEq, exists_eq_left']))
        refine bcase_f rfl ⟨_, rfl, ?_⟩
        ((try dsimp only [fVar, fC, faNil, faCons, fTup, fnLst, fFz, fOp, fUn, fTB, fAndT, fOrT, fNotT, fAndV, fOrV, fNotV, fIf, fChain, fNoP, fPart, sliceF, fSlice, fCB, fName, fGNil, fGCons, fGTup, fSubL, fPass, fBreak, fCont, fNever, fSNil, fDrop, fRet, fRetN, fIfS, fAsg, fSet, fOwn, fOwnM, fSeq, fRaise, fFrz, fCall, fWhile, fFor, listW, seqW, pyW, addF, subF, ii, mulF, mulXF, fdivF, modF, powF, negF, ordF, ltF, leF, gtF, geF, eqF, isNonW, isNF, inF, inDF, ixF, tyW, fIsi, fIsiT, f1c, lenF, absF, intF, tupleF, boolsF, allF, anyF, reprF, fnListX, fItAny, fItR1, fItR2, fItEnum, fnLc, fnLcI, fnLcO, fMeth, appendF, popF, indexF, countBF, fMR, fJoin, fFind, fnSortSet, fIndexS, fnRep, fCallW, fCallN, fLamG, fParA, fEvalA, putFr, plains, Still, FSt.set_mk, FSt.pn, isi, List.any_cons, List.any_nil, List.getElem?_cons_zero, List.getElem?_cons_succ, List.set_cons_zero, List.set_cons_succ]); (try simp only [true_and, ex2, Option.some.injEq, exists_eq_left']))
        by_cases h1 : 1 ≤ sts.length
        · refine bcase_t (decide_eq_true (by omega)) ?_
          by_cases h4 : sts.length ≤ 4
          · exact bcase_f (by rw [decide_eq_true (by omega)]; rfl) ⟨sts, rfl, h1, h4⟩
          · refine bcase_t (by rw [decide_eq_false (by omega)]; rfl) ?_
            have e : ruleB (.tup [a, .tup sts]) = false := by rw [ruleB, decide_eq_false (fun h => h4 h.2), Bool.and_false, Bool.false_and]
            rw [← e]; exact q
        · refine bcase_f (decide_eq_false (by omega)) ?_
          have e : ruleB (.tup [a, .tup sts]) = false := by rw [ruleB, decide_eq_false (fun h => h1 h.1), Bool.and_false, Bool.false_and]
          exact bcase_t rfl (by rw [← e]; exact q)
      | pen => have := hm .pen (by simp); cases this
      | _ => exact q
    · rintro _ ⟨rfl, sts, rfl, h1, h4⟩
      obtain ⟨z, rfl⟩ : ∃ z, a = .str z := by cases a <;> first | exact ⟨_, rfl⟩ | cases ha
      have hz : z.length ≤ sizeLine := by
        have := okU_str (hm (.str z) (by simp))
        rw [strOkU, Bool.and_eq_true, decide_eq_true_eq] at this
        rw [sizeLine_eq]; omega
      have hsts := okU_tup (hm (.tup sts) (by simp))
      have hrl : ruleB (.tup [.str z, .tup sts]) = sts.all (stateB (z.length) sts.length) := by rw [ruleB, ha, decide_eq_true ⟨h1, h4⟩]; rfl
      refine seqF (fun s => (∃ w1 w2, s = ⟨[some (.v (.tup [.str z, .tup sts])), w1, w2], n⟩) ∧ Q (.bl true) n) ?_ ?_
      · refine forS (fun us s => us = sts ∧ s = ⟨[some (.v (.tup [.str z, .tup sts])), none, none], n⟩) ?_ ?_
        · ((try dsimp only [fVar, fC, faNil, faCons, fTup, fnLst, fFz, fOp, fUn, fTB, fAndT, fOrT, fNotT, fAndV, fOrV, fNotV, fIf, fChain, fNoP, fPart, sliceF, fSlice, fCB, fName, fGNil, fGCons, fGTup, fSubL, fPass, fBreak, fCont, fNever, fSNil, fDrop, fRet, fRetN, fIfS, fAsg, fSet, fOwn, fOwnM, fSeq, fRaise, fFrz, fCall, fWhile, fFor, listW, seqW, pyW, addF, subF, ii, mulF, mulXF, fdivF, modF, powF, negF, ordF, ltF, leF, gtF, geF, eqF, isNonW, isNF, inF, inDF, ixF, tyW, fIsi, fIsiT, f1c, lenF, absF, intF, tupleF, boolsF, allF, anyF, reprF, fnListX, fItAny, fItR1, fItR2, fItEnum, fnLc, fnLcI, fnLcO, fMeth, appendF, popF, indexF, countBF, fMR, fJoin, fFind, fnSortSet, fIndexS, fnRep, fCallW, fCallN, fLamG, fParA, fEvalA, putFr, plains, Still, FSt.set_mk, FSt.pn, isi, List.any_cons, List.any_nil, List.getElem?_cons_zero, List.getElem?_cons_succ, List.set_cons_zero, List.set_cons_succ]); (try simp only [true_and, ex2, Option.some.injEq, exists_eq_left']))
          exact ⟨_, rfl, rfl, trivial⟩
        · rintro us _ ⟨he, rfl⟩
          rw [he]
          refine forF_invU (fun rest s => (∃ w1 w2, s = ⟨[some (.v (.tup [.str z, .tup sts])), w1, w2], n⟩) ∧ Q (.bl (rest.all (stateB (z.length) sts.length))) n) (fun s h => h) sts ?_ _ ⟨⟨_, _, rfl⟩, by rw [← hrl]; exact q⟩
          rintro x rest ⟨pre, hp⟩ s R ⟨⟨w1, w2, rfl⟩, q⟩ hR
          have hx := hsts.1 x (by rw [hp]; simp)
          dsimp only [fName, FSt.set_mk, List.set_cons_zero, List.set_cons_succ]
          refine seqF (fun s => s = ⟨[some (.v (.tup [.str z, .tup sts])), some (.v x), w2], n⟩ ∧ ∃ es, x = .tup es ∧ es.length = z.length) ?_ ?_
          · have no : (∀ es, x = .tup es → es.length ≠ z.length) → Q (.bl false) n := fun h => by
              have e : ((x :: rest).all (stateB z.length sts.length)) = false := by
                rw [List.all_cons]
                cases x <;> first | rfl | (rename_i es; rw [stateB, decide_eq_false (h es rfl)]; rfl)
              rw [← e]; exact q
            ((try dsimp only [fVar, fC, faNil, faCons, fTup, fnLst, fFz, fOp, fUn, fTB, fAndT, fOrT, fNotT, fAndV, fOrV, fNotV, fIf, fChain, fNoP, fPart, sliceF, fSlice, fCB, fName, fGNil, fGCons, fGTup, fSubL, fPass, fBreak, fCont, fNever, fSNil, fDrop, fRet, fRetN, fIfS, fAsg, fSet, fOwn, fOwnM, fSeq, fRaise, fFrz, fCall, fWhile, fFor, listW, seqW, pyW, addF, subF, ii, mulF, mulXF, fdivF, modF, powF, negF, ordF, ltF, leF, gtF, geF, eqF, isNonW, isNF, inF, inDF, ixF, tyW, fIsi, fIsiT, f1c, lenF, absF, intF, tupleF, boolsF, allF, anyF, reprF, fnListX, fItAny, fItR1, fItR2, fItEnum, fnLc, fnLcI, fnLcO, fMeth, appendF, popF, indexF, countBF, fMR, fJoin, fFind, fnSortSet, fIndexS, fnRep, fCallW, fCallN, fLamG, fParA, fEvalA, putFr, plains, Still, FSt.set_mk, FSt.pn, isi, List.any_cons, List.any_nil, List.getElem?_cons_zero, List.getElem?_cons_succ, List.set_cons_zero, List.set_cons_succ]); (try simp only [true_and, ex2, Option.some.injEq, exists_eq_left']))
            cases x with
            | tup es =>
              refine bcase_f rfl ⟨_, rfl, _, rfl, hz, ?_⟩
              by_cases he : es.length = z.length
              · exact bcase_f (by rw [decide_eq_true (by omega)]; rfl) ⟨es, rfl, he⟩
              · exact bcase_t (by rw [decide_eq_false (by omega)]; rfl) (no fun es' h => by cases h; exact he)
            | pen => cases hx
            | _ => exact no fun es h => by cases h
          · rintro _ ⟨rfl, es, rfl, hes⟩
            obtain ⟨hem, hel⟩ := okU_tup hx
            refine seqF (fun s => (∃ w2, s = ⟨[some (.v (.tup [.str z, .tup sts])), some (.v (.tup es)), w2], n⟩) ∧ es.all (entryB sts.length) = true) ?_ ?_
            · ((try dsimp only [fVar, fC, faNil, faCons, fTup, fnLst, fFz, fOp, fUn, fTB, fAndT, fOrT, fNotT, fAndV, fOrV, fNotV, fIf, fChain, fNoP, fPart, sliceF, fSlice, fCB, fName, fGNil, fGCons, fGTup, fSubL, fPass, fBreak, fCont, fNever, fSNil, fDrop, fRet, fRetN, fIfS, fAsg, fSet, fOwn, fOwnM, fSeq, fRaise, fFrz, fCall, fWhile, fFor, listW, seqW, pyW, addF, subF, ii, mulF, mulXF, fdivF, modF, powF, negF, ordF, ltF, leF, gtF, geF, eqF, isNonW, isNF, inF, inDF, ixF, tyW, fIsi, fIsiT, f1c, lenF, absF, intF, tupleF, boolsF, allF, anyF, reprF, fnListX, fItAny, fItR1, fItR2, fItEnum, fnLc, fnLcI, fnLcO, fMeth, appendF, popF, indexF, countBF, fMR, fJoin, fFind, fnSortSet, fIndexS, fnRep, fCallW, fCallN, fLamG, fParA, fEvalA, putFr, plains, Still, FSt.set_mk, FSt.pn, isi, List.any_cons, List.any_nil, List.getElem?_cons_zero, List.getElem?_cons_succ, List.set_cons_zero, List.set_cons_succ]); (try simp only [true_and, ex2, Option.some.injEq, exists_eq_left']))
              refine lcF_mapU (fun x => .bl (entryB sts.length x)) (fun s => ∃ w2, s = ⟨[some (.v (.tup [.str z, .tup sts])), some (.v (.tup es)), w2], n⟩) es ?_ _ _ ⟨none, rfl⟩ (by rw [sizeLine_eq]; simp; omega) ?_
              · rintro x hxm s R ⟨w, rfl⟩ k
                have hxk := okU_pen (hem x hxm)
                ((try dsimp only [fVar, fC, faNil, faCons, fTup, fnLst, fFz, fOp, fUn, fTB, fAndT, fOrT, fNotT, fAndV, fOrV, fNotV, fIf, fChain, fNoP, fPart, sliceF, fSlice, fCB, fName, fGNil, fGCons, fGTup, fSubL, fPass, fBreak, fCont, fNever, fSNil, fDrop, fRet, fRetN, fIfS, fAsg, fSet, fOwn, fOwnM, fSeq, fRaise, fFrz, fCall, fWhile, fFor, listW, seqW, pyW, addF, subF, ii, mulF, mulXF, fdivF, modF, powF, negF, ordF, ltF, leF, gtF, geF, eqF, isNonW, isNF, inF, inDF, ixF, tyW, fIsi, fIsiT, f1c, lenF, absF, intF, tupleF, boolsF, allF, anyF, reprF, fnListX, fItAny, fItR1, fItR2, fItEnum, fnLc, fnLcI, fnLcO, fMeth, appendF, popF, indexF, countBF, fMR, fJoin, fFind, fnSortSet, fIndexS, fnRep, fCallW, fCallN, fLamG, fParA, fEvalA, putFr, plains, Still, FSt.set_mk, FSt.pn, isi, List.any_cons, List.any_nil, List.getElem?_cons_zero, List.getElem?_cons_succ, List.set_cons_zero, List.set_cons_succ]); (try simp only [true_and, ex2, Option.some.injEq, exists_eq_left']))
                by_cases hn : x = .non
                · subst hn; exact k _ ⟨_, rfl⟩
                · have e1 : isNonU x = false := by cases x <;> first | rfl | exact (hn rfl).elim
                  refine bcase_f (by cases x <;> first | rfl | exact (hn rfl).elim) ?_
                  refine ⟨_, rfl, _, rfl, ?_⟩
                  refine go2 ⟨x, 0, _, rfl, hxk, ?_⟩
                  have := k ⟨[some (.v (.tup [.str z, .tup sts])), some (.v (.tup es)), some (.v x)], n⟩ ⟨_, rfl⟩
                  rw [entryB, e1, Bool.false_or] at this
                  exact this
              · rintro s' ⟨w, rfl⟩
                refine ⟨_, boolsOf_map _ _, ?_⟩
                rw [List.all_map]
                cases h : es.all (id ∘ entryB sts.length) with
                | true => exact bcase_f rfl ⟨⟨_, rfl⟩, h⟩
                | false =>
                  have e : ((U.tup es :: rest).all (stateB z.length sts.length)) = false := by
                    rw [List.all_cons, stateB, show es.all (entryB sts.length) = false from h, Bool.and_false]; rfl
                  exact bcase_t rfl (by rw [← e]; exact q)
            · rintro _ ⟨⟨w2, rfl⟩, hee⟩
              ((try dsimp only [fVar, fC, faNil, faCons, fTup, fnLst, fFz, fOp, fUn, fTB, fAndT, fOrT, fNotT, fAndV, fOrV, fNotV, fIf, fChain, fNoP, fPart, sliceF, fSlice, fCB, fName, fGNil, fGCons, fGTup, fSubL, fPass, fBreak, fCont, fNever, fSNil, fDrop, fRet, fRetN, fIfS, fAsg, fSet, fOwn, fOwnM, fSeq, fRaise, fFrz, fCall, fWhile, fFor, listW, seqW, pyW, addF, subF, ii, mulF, mulXF, fdivF, modF, powF, negF, ordF, ltF, leF, gtF, geF, eqF, isNonW, isNF, inF, inDF, ixF, tyW, fIsi, fIsiT, f1c, lenF, absF, intF, tupleF, boolsF, allF, anyF, reprF, fnListX, fItAny, fItR1, fItR2, fItEnum, fnLc, fnLcI, fnLcO, fMeth, appendF, popF, indexF, countBF, fMR, fJoin, fFind, fnSortSet, fIndexS, fnRep, fCallW, fCallN, fLamG, fParA, fEvalA, putFr, plains, Still, FSt.set_mk, FSt.pn, isi, List.any_cons, List.any_nil, List.getElem?_cons_zero, List.getElem?_cons_succ, List.set_cons_zero, List.set_cons_succ]); (try simp only [true_and, ex2, Option.some.injEq, exists_eq_left']))
              refine lcF_mapU (fun x => .bl (isNonU x)) (fun s => ∃ w2, s = ⟨[some (.v (.tup [.str z, .tup sts])), some (.v (.tup es)), w2], n⟩) es ?_ _ _ ⟨none, rfl⟩ (by rw [sizeLine_eq]; simp; omega) ?_
              · rintro x hxm s R ⟨w, rfl⟩ k
                have hxk := okU_pen (hem x hxm)
                have := k ⟨[some (.v (.tup [.str z, .tup sts])), some (.v (.tup es)), some (.v x)], n⟩ ⟨_, rfl⟩
                refine ⟨trivial, ?_⟩
                cases x <;> exact this
              · rintro s' ⟨w, rfl⟩
                refine ⟨_, boolsOf_map _ _, ?_⟩
                rw [List.all_map]
                cases h : es.all (id ∘ isNonU) with
                | false =>
                  refine bcase_f rfl (hR _ ⟨⟨_, _, rfl⟩, ?_⟩)
                  have e : ((U.tup es :: rest).all (stateB z.length sts.length)) = rest.all (stateB z.length sts.length) := by
                    rw [List.all_cons, stateB, hee, decide_eq_true hes, show es.all isNonU = false from h]; rfl
                  rw [← e]; exact q
                | true =>
                  have e : ((U.tup es :: rest).all (stateB z.length sts.length)) = false := by
                    rw [List.all_cons, stateB, show es.all isNonU = true from h, Bool.not_true, Bool.and_false]; rfl
                  exact bcase_t rfl (by rw [← e]; exact q)
      · rintro _ ⟨⟨w1, w2, rfl⟩, q⟩
        exact q
end LD

/-! LG3: rules as data; states behind words -/
namespace LD
open PySem PySem.Spec PyProof.Rows L2

def optU : Option Nat → U
  | none => .non
  | some k => .int k
def rowU (r : List (Option Nat)) : U := .tup (r.map optU)
def ruleU (cs : List Nat) (sts : List (List (Option Nat))) : U := .tup [.str (tx cs), .tup (sts.map rowU)]
structure OkR (cs : List Nat) (sts : List (List (Option Nat))) : Prop where
  ltr : Ltrs cs
  h1 : 1 ≤ sts.length
  h4 : sts.length ≤ 4
  row : ∀ r ∈ sts, r.length = cs.length ∧ (∀ k, some k ∈ r → k < sts.length) ∧ ∃ k, some k ∈ r
theorem letters_ok {cs : List Nat} (h : Ltrs cs) : lettersB (.str (tx cs)) = true := by
  rw [lettersB, tx_cps]; exact decide_eq_true h
theorem entryB_typed {m : Nat} {x : U} (h : entryB m x = true) : ∃ o, x = optU o ∧ ∀ k, o = some k → k < m := by
  rw [entryB, Bool.or_eq_true] at h
  rcases h with h | h
  · cases x <;> first | exact ⟨none, rfl, fun _ h => by cases h⟩ | cases h
  · obtain ⟨i, rfl, h1, h2⟩ := withinB_int h
    refine ⟨some i.toNat, ?_, fun k hk => ?_⟩
    · show U.int i = U.int (i.toNat : Int)
      rw [Int.toNat_of_nonneg h1]
    · cases hk; omega
theorem entries_typed {m : Nat} : ∀ {es : List U}, es.all (entryB m) = true → ∃ r : List (Option Nat), es = r.map optU ∧ ∀ k, some k ∈ r → k < m
  | [], _ => ⟨[], rfl, fun _ h => by cases h⟩
  | x :: es, h => by
    rw [List.all_cons, Bool.and_eq_true] at h
    obtain ⟨o, rfl, ho⟩ := entryB_typed h.1
    obtain ⟨r, rfl, hr⟩ := entries_typed h.2
    refine ⟨o :: r, rfl, fun k hk => ?_⟩
    rcases List.mem_cons.mp hk with e | e
    · exact ho k e.symm
    · exact hr k e
theorem nons_typed : ∀ {r : List (Option Nat)}, ((r.map optU).all isNonU) = false → ∃ k, some k ∈ r
  | [], h => by cases h
  | some k :: r, _ => ⟨k, List.mem_cons_self⟩
  | none :: r, h => by
    rw [List.map_cons, List.all_cons] at h
    obtain ⟨k, hk⟩ := nons_typed (r := r) (by simpa [optU, isNonU] using h)
    exact ⟨k, List.mem_cons_of_mem _ hk⟩
theorem states_typed {l m : Nat} : ∀ {ss : List U}, ss.all (stateB l m) = true → ∃ sts : List (List (Option Nat)), ss = sts.map rowU ∧ ∀ r ∈ sts, r.length = l ∧ (∀ k, some k ∈ r → k < m) ∧ ∃ k, some k ∈ r
  | [], _ => ⟨[], rfl, fun _ h => by cases h⟩
  | x :: ss, h => by
    rw [List.all_cons, Bool.and_eq_true] at h
    obtain ⟨sts, rfl, hs⟩ := states_typed h.2
    cases x with
    | tup es =>
      have h1 := h.1
      rw [stateB, Bool.and_eq_true, Bool.and_eq_true, decide_eq_true_eq] at h1
      obtain ⟨⟨h1, h2⟩, h3⟩ := h1
      obtain ⟨r, rfl, hr⟩ := entries_typed h2
      refine ⟨r :: sts, rfl, fun q hq => ?_⟩
      rcases List.mem_cons.mp hq with rfl | e
      · exact ⟨by simpa using h1, hr, nons_typed (by simpa using h3)⟩
      · exact hs q e
    | _ => cases h.1
theorem ruleB_typed {x : U} (h : ruleB x = true) : ∃ cs sts, x = ruleU cs sts ∧ OkR cs sts := by
  unfold ruleB at h
  split at h
  · rename_i l ss
    rw [Bool.and_eq_true, Bool.and_eq_true, decide_eq_true_eq] at h
    obtain ⟨⟨h1, h2⟩, h3⟩ := h
    obtain ⟨sts, rfl, hs⟩ := states_typed h3
    cases l with
    | str z =>
      refine ⟨z.cps.toList, sts, by rw [ruleU, ← tx_of], ⟨of_decide_eq_true h1, by simpa using h2.1, by simpa using h2.2, fun r hr => ?_⟩⟩
      have := hs r hr
      refine ⟨by rw [this.1]; simp [lenSt, Str.length], fun k hk => by have := this.2.1 k hk; simpa using this, this.2.2⟩
    | _ => cases h1
  · cases h
theorem entryB_opt {m : Nat} : ∀ o : Option Nat, (∀ k, o = some k → k < m) → entryB m (optU o) = true
  | none, _ => rfl
  | some k, h => by
    have := h k rfl
    rw [entryB, optU, withinB, decide_eq_true (show (0 : Int) ≤ k by omega), decide_eq_true (by omega)]; rfl
theorem ruleB_ok {cs : List Nat} {sts : List (List (Option Nat))} (h : OkR cs sts) : ruleB (ruleU cs sts) = true := by
  unfold ruleU
  rw [ruleB, letters_ok h.ltr, List.length_map, decide_eq_true ⟨h.h1, h.h4⟩, Bool.and_true, Bool.true_and, List.all_map, List.all_eq_true]
  intro r hr
  obtain ⟨h1, h2, k, h3⟩ := h.row r hr
  show stateB _ _ (rowU r) = true
  rw [rowU, stateB, List.length_map, Bool.and_eq_true, Bool.and_eq_true, decide_eq_true_eq, List.all_map, List.all_eq_true]
  refine ⟨⟨by rw [h1]; simp [lenSt, tx_len], fun o ho => entryB_opt o fun k hk => h2 k (hk ▸ ho)⟩, ?_⟩
  rw [Bool.not_eq_true', ← Bool.not_eq_true, List.all_eq_true]
  intro hall
  have := hall (optU (some k)) (List.mem_map.mpr ⟨_, h3, rfl⟩)
  cases this
theorem Ltrs.nodup {cs : List Nat} (h : Ltrs cs) : cs.Nodup := h.2.2.1.imp fun h => Nat.ne_of_lt h
theorem Ltrs.ix {cs : List Nat} (h : Ltrs cs) {i c : Nat} (e : cs[i]? = some c) : i < cs.length ∧ cs.idxOf c = i := by
  obtain ⟨hi, rfl⟩ := List.getElem?_eq_some_iff.mp e
  exact ⟨hi, List.Nodup.idxOf_getElem h.nodup i hi⟩
theorem atI_nat {α : Type} {xs : List α} {k : Nat} (h : k < xs.length) : atI xs (k : Int) = some xs[k] := by
  unfold atI
  rw [ixN_in (by omega) (by omega)]
  simp
theorem ltrs_ok {cs : List Nat} (h : Ltrs cs) : okU (.str (tx cs)) = true := by
  rw [okU, Bool.and_eq_true, decide_eq_true_eq, tx_len]
  refine ⟨?_, by have := h.2.1; omega⟩
  rw [Array.all_eq_true']
  intro c hc
  have := h.2.2.2 c (by unfold tx at hc; simpa using hc)
  exact decide_eq_true (by omega)
/-- a word of these letters is well -/
theorem word_ok {cs ws : List Nat} (h : Ltrs cs) (hw : ∀ c ∈ ws, c ∈ cs) (hl : ws.length ≤ 1000000) : okU (.str (tx ws)) = true := by
  rw [okU, Bool.and_eq_true, decide_eq_true_eq, tx_len]
  refine ⟨?_, hl⟩
  rw [Array.all_eq_true']
  intro c hc
  have := h.2.2.2 c (hw c (by unfold tx at hc; simpa using hc))
  exact decide_eq_true (by omega)
theorem rule_okU {cs : List Nat} {sts : List (List (Option Nat))} (h : OkR cs sts) : okU (ruleU cs sts) = true := by
  unfold ruleU
  have h3 : okU (.tup (sts.map rowU)) = true := by
    rw [okU, Bool.and_eq_true, decide_eq_true_eq, List.length_map]
    refine ⟨okUs_of fun u hu => ?_, by have := h.h4; omega⟩
    obtain ⟨r, hr, rfl⟩ := List.mem_map.mp hu
    have := (h.row r hr).1
    have h4 := h.ltr.2.1
    rw [rowU, okU, Bool.and_eq_true, decide_eq_true_eq, List.length_map]
    refine ⟨okUs_of fun u hu => ?_, by omega⟩
    obtain ⟨o, _, rfl⟩ := List.mem_map.mp hu
    cases o <;> rfl
  rw [okU, okUs, okUs, okUs, ltrs_ok h.ltr, h3]
  rfl

/-! ### steps -/
def stepR (cs : List Nat) (sts : List (List (Option Nat))) : Option Nat → Nat → Option Nat
  | none, _ => none
  | some k, c => ((sts.getD k []).getD (cs.idxOf c) none)
def afterR (cs : List Nat) (sts : List (List (Option Nat))) (k : Option Nat) (ws : List Nat) : Option Nat := ws.foldl (stepR cs sts) k
theorem afterR_none {cs : List Nat} {sts : List (List (Option Nat))} : ∀ ws : List Nat, afterR cs sts none ws = none
  | [] => rfl
  | _ :: ws => afterR_none ws
theorem stepR_lt {cs : List Nat} {sts : List (List (Option Nat))} (h : OkR cs sts) {k : Option Nat} {c j : Nat} (e : stepR cs sts k c = some j) : j < sts.length := by
  cases k with
  | none => cases e
  | some k =>
    rw [stepR, List.getD_eq_getElem?_getD, List.getD_eq_getElem?_getD] at e
    cases e1 : sts[k]? with
    | none => rw [e1] at e; simp at e
    | some r =>
      rw [e1] at e
      have hr : r ∈ sts := List.mem_of_getElem? e1
      cases e2 : r[cs.idxOf c]? with
      | none => simp [e2] at e
      | some o =>
        have ho := List.mem_of_getElem? e2
        simp [e2] at e
        exact (h.row r hr).2.1 j (e ▸ ho)
theorem afterR_lt {cs : List Nat} {sts : List (List (Option Nat))} (h : OkR cs sts) : ∀ {ws : List Nat} {k : Option Nat}, (∀ j, k = some j → j < sts.length) → ∀ j, afterR cs sts k ws = some j → j < sts.length
  | [], k, hk, j, e => hk j e
  | c :: ws, k, _, j, e => afterR_lt h (ws := ws) (k := stepR cs sts k c) (fun _ e => stepR_lt h e) j e
abbrev F_rule_after : FSp := fun us n Q X => ∃ cs sts k ws, us = [ruleU cs sts, optU k, .str (tx ws)] ∧ OkR cs sts ∧ (∀ c ∈ ws, c ∈ cs) ∧ (∀ j, k = some j → j < sts.length) ∧ Q (optU (afterR cs sts k ws)) n

def f_rule_after : FS :=
  fSeq (fFor (fItAny (fVar 2)) (fName 3) (fSeq (fIfS (fTB (fOp (isNF false) (fVar 1) (fC .non))) (fRet (fC .non)) (fSNil))
  (fSet 1 (fOp ixF (fOp ixF (fOp ixF (fVar 0) (fC (.int 1))) (fVar 1)) (fIndexS (fOp ixF (fVar 0) (fC (.int 0))) (fVar 3))))))
  (fRet (fVar 1))
-- slots of rule_after: 0=rule 1=state 2=word 3=letter
def f_law_x_behind : FS :=
  fSeq (fFor (fItAny (fVar 2)) (fName 3) (fIfS (fTB (fOp (isNF true) (fVar 1) (fC .non))) (fSet 1 (fOp ixF (fOp ixF (fOp ixF (fVar 0) (fC (.int 1))) (fVar 1)) (fIndexS (fOp ixF (fVar 0) (fC (.int 0))) (fVar 3)))) (fSNil)))
  (fRet (fVar 1))
-- slots of _law_x_behind: 0=rule 1=state 2=word 3=letter

theorem getD_in {α : Type} {xs : List α} {d : α} {k : Nat} (h : k < xs.length) : xs.getD k d = xs[k] := by
  rw [List.getD_eq_getElem?_getD, List.getElem?_eq_getElem h, Option.getD_some]
theorem ruleU_1 (cs : List Nat) (sts : List (List (Option Nat))) : atI [U.str (tx cs), U.tup (sts.map rowU)] 1 = some (.tup (sts.map rowU)) := rfl
theorem ruleU_0 (cs : List Nat) (sts : List (List (Option Nat))) : atI [U.str (tx cs), U.tup (sts.map rowU)] 0 = some (.str (tx cs)) := rfl
theorem look_row {cs : List Nat} {sts : List (List (Option Nat))} (h : OkR cs sts) {k : Nat} (hk : k < sts.length) : ∃ r, atI (sts.map rowU) (k : Int) = some (.tup (r.map optU)) ∧ r ∈ sts ∧ r.length = cs.length ∧ ∀ i : Nat, i < cs.length → ∃ o, atI (r.map optU) (i : Int) = some (optU o) ∧ (sts.getD k []).getD i none = o := by
  refine ⟨sts[k], ?_, List.getElem_mem hk, (h.row _ (List.getElem_mem hk)).1, fun i hi => ?_⟩
  · rw [atI_nat (by rw [List.length_map]; exact hk), List.getElem_map]; rfl
  · have hl := (h.row _ (List.getElem_mem hk)).1
    refine ⟨sts[k][i], ?_, ?_⟩
    · rw [atI_nat (by rw [List.length_map]; omega), List.getElem_map]
    · rw [getD_in hk, getD_in (show i < sts[k].length by omega)]
theorem fp_rule_after : ∀ us n Q X, us.length = 3 → F_rule_after us n Q X → f_rule_after.run X { nx := fun s => Q .non s.n, rt := Q } ⟨fStart 4 us, n⟩ := by
  rintro us n Q X hl ⟨cs, sts, k, ws, rfl, ok, hw, hk, q⟩
  show f_rule_after.run X _ ⟨[some (.v (ruleU cs sts)), some (.v (optU k)), some (.v (.str (tx ws))), none], n⟩
  unfold f_rule_after
  refine seqF (fun s => ∃ w, s = ⟨[some (.v (ruleU cs sts)), some (.v (optU (afterR cs sts k ws))), some (.v (.str (tx ws))), w], n⟩) ?_ ?_
  · refine forS (fun us s => us = ws.map (fun c => U.str (tx [c])) ∧ s = ⟨[some (.v (ruleU cs sts)), some (.v (optU k)), some (.v (.str (tx ws))), none], n⟩) ?_ ?_
    · ((try dsimp only [fVar, fC, faNil, faCons, fTup, fnLst, fFz, fOp, fUn, fTB, fAndT, fOrT, fNotT, fAndV, fOrV, fNotV, fIf, fChain, fNoP, fPart, sliceF, fSlice, fCB, fName, fGNil, fGCons, fGTup, fSubL, fPass, fBreak, fCont, fNever, fSNil, fDrop, fRet, fRetN, fIfS, fAsg, fSet, fOwn, fOwnM, fSeq, fRaise, fFrz, fCall, fWhile, fFor, listW, seqW, pyW, addF, subF, ii, mulF, mulXF, fdivF, modF, powF, negF, ordF, ltF, leF, gtF, geF, eqF, isNonW, isNF, inF, inDF, ixF, tyW, fIsi, fIsiT, f1c, lenF, absF, intF, tupleF, boolsF, allF, anyF, reprF, fnListX, fItAny, fItR1, fItR2, fItEnum, fnLc, fnLcI, fnLcO, fMeth, appendF, popF, indexF, countBF, fMR, fJoin, fFind, fnSortSet, fIndexS, fnRep, fCallW, fCallN, fLamG, fParA, fEvalA, putFr, plains, Still, FSt.set_mk, FSt.pn, isi, List.any_cons, List.any_nil, List.getElem?_cons_zero, List.getElem?_cons_succ, List.set_cons_zero, List.set_cons_succ]); (try simp only [true_and, ex2, Option.some.injEq, exists_eq_left']))
      exact ⟨signs_tx ws, trivial⟩
    · rintro us _ ⟨he, rfl⟩
      rw [he]
      refine forF_inv (fun c => U.str (tx [c])) (fun rest s => ∃ j w, s = ⟨[some (.v (ruleU cs sts)), some (.v (optU j)), some (.v (.str (tx ws))), w], n⟩ ∧ (∀ i, j = some i → i < sts.length) ∧ afterR cs sts j rest = afterR cs sts k ws) ?_ ws ?_ _ ⟨k, none, rfl, hk, rfl⟩
      · rintro s ⟨j, w, rfl, hj, e⟩
        refine ⟨w, ?_⟩
        rw [← e]; rfl
      · rintro c rest ⟨pre, hp⟩ s R ⟨j, w, rfl, hj, e⟩ hR
        have hc : c ∈ cs := hw c (by rw [hp]; simp)
        dsimp only [fName, FSt.set_mk, List.set_cons_zero, List.set_cons_succ]
        cases j with
        | none =>
          rw [afterR_none] at e
          rw [← e] at q
          ((try dsimp only [fVar, fC, faNil, faCons, fTup, fnLst, fFz, fOp, fUn, fTB, fAndT, fOrT, fNotT, fAndV, fOrV, fNotV, fIf, fChain, fNoP, fPart, sliceF, fSlice, fCB, fName, fGNil, fGCons, fGTup, fSubL, fPass, fBreak, fCont, fNever, fSNil, fDrop, fRet, fRetN, fIfS, fAsg, fSet, fOwn, fOwnM, fSeq, fRaise, fFrz, fCall, fWhile, fFor, listW, seqW, pyW, addF, subF, ii, mulF, mulXF, fdivF, modF, powF, negF, ordF, ltF, leF, gtF, geF, eqF, isNonW, isNF, inF, inDF, ixF, tyW, fIsi, fIsiT, f1c, lenF, absF, intF, tupleF, boolsF, allF, anyF, reprF, fnListX, fItAny, fItR1, fItR2, fItEnum, fnLc, fnLcI, fnLcO, fMeth, appendF, popF, indexF, countBF, fMR, fJoin, fFind, fnSortSet, fIndexS, fnRep, fCallW, fCallN, fLamG, fParA, fEvalA, putFr, plains, Still, FSt.set_mk, FSt.pn, isi, List.any_cons, List.any_nil, List.getElem?_cons_zero, List.getElem?_cons_succ, List.set_cons_zero, List.set_cons_succ]); (try simp only [true_and, ex2, Option.some.injEq, exists_eq_left']))
          exact q
        | some j =>
          have hj := hj j rfl
          obtain ⟨r, hr1, hr2, hr3, hr4⟩ := look_row ok hj
          refine seqF (fun s => s = ⟨[some (.v (ruleU cs sts)), some (.v (optU (some j))), some (.v (.str (tx ws))), some (.v (.str (tx [c])))], n⟩) ?_ ?_
          · ((try dsimp only [fVar, fC, faNil, faCons, fTup, fnLst, fFz, fOp, fUn, fTB, fAndT, fOrT, fNotT, fAndV, fOrV, fNotV, fIf, fChain, fNoP, fPart, sliceF, fSlice, fCB, fName, fGNil, fGCons, fGTup, fSubL, fPass, fBreak, fCont, fNever, fSNil, fDrop, fRet, fRetN, fIfS, fAsg, fSet, fOwn, fOwnM, fSeq, fRaise, fFrz, fCall, fWhile, fFor, listW, seqW, pyW, addF, subF, ii, mulF, mulXF, fdivF, modF, powF, negF, ordF, ltF, leF, gtF, geF, eqF, isNonW, isNF, inF, inDF, ixF, tyW, fIsi, fIsiT, f1c, lenF, absF, intF, tupleF, boolsF, allF, anyF, reprF, fnListX, fItAny, fItR1, fItR2, fItEnum, fnLc, fnLcI, fnLcO, fMeth, appendF, popF, indexF, countBF, fMR, fJoin, fFind, fnSortSet, fIndexS, fnRep, fCallW, fCallN, fLamG, fParA, fEvalA, putFr, plains, Still, FSt.set_mk, FSt.pn, isi, List.any_cons, List.any_nil, List.getElem?_cons_zero, List.getElem?_cons_succ, List.set_cons_zero, List.set_cons_succ]); (try simp only [true_and, ex2, Option.some.injEq, exists_eq_left']))
            exact bcase_f rfl trivial
          · rintro _ rfl
            unfold ruleU optU
            ((try dsimp only [fVar, fC, faNil, faCons, fTup, fnLst, fFz, fOp, fUn, fTB, fAndT, fOrT, fNotT, fAndV, fOrV, fNotV, fIf, fChain, fNoP, fPart, sliceF, fSlice, fCB, fName, fGNil, fGCons, fGTup, fSubL, fPass, fBreak, fCont, fNever, fSNil, fDrop, fRet, fRetN, fIfS, fAsg, fSet, fOwn, fOwnM, fSeq, fRaise, fFrz, fCall, fWhile, fFor, listW, seqW, pyW, addF, subF, ii, mulF, mulXF, fdivF, modF, powF, negF, ordF, ltF, leF, gtF, geF, eqF, isNonW, isNF, inF, inDF, ixF, tyW, fIsi, fIsiT, f1c, lenF, absF, intF, tupleF, boolsF, allF, anyF, reprF, fnListX, fItAny, fItR1, fItR2, fItEnum, fnLc, fnLcI, fnLcO, fMeth, appendF, popF, indexF, countBF, fMR, fJoin, fFind, fnSortSet, fIndexS, fnRep, fCallW, fCallN, fLamG, fParA, fEvalA, putFr, plains, Still, FSt.set_mk, FSt.pn, isi, List.any_cons, List.any_nil, List.getElem?_cons_zero, List.getElem?_cons_succ, List.set_cons_zero, List.set_cons_succ]); (try simp only [true_and, ex2, Option.some.injEq, exists_eq_left']))
            refine ⟨_, ruleU_1 cs sts, ?_⟩
            refine ⟨_, _, rfl, hr1, _, ruleU_0 cs sts, c, rfl, by rw [tx_cps]; exact hc, fun i hi => ?_⟩
            rw [tx_cps] at hi
            obtain ⟨hi1, hi2⟩ := ok.ltr.ix hi
            obtain ⟨o, ho1, ho2⟩ := hr4 i hi1
            have hst : stepR cs sts (some j) c = o := by rw [stepR, hi2, ho2]
            refine ⟨_, _, rfl, ho1, hR _ ⟨o, _, rfl, fun i e => stepR_lt ok (hst.trans e), ?_⟩⟩
            rw [← e, ← hst]; rfl
  · rintro _ ⟨w, rfl⟩
    exact q
theorem fp_law_x_behind : ∀ us n Q X, us.length = 3 → F_rule_after us n Q X → f_law_x_behind.run X { nx := fun s => Q .non s.n, rt := Q } ⟨fStart 4 us, n⟩ := by
  rintro us n Q X hl ⟨cs, sts, k, ws, rfl, ok, hw, hk, q⟩
  show f_law_x_behind.run X _ ⟨[some (.v (ruleU cs sts)), some (.v (optU k)), some (.v (.str (tx ws))), none], n⟩
  unfold f_law_x_behind
  refine seqF (fun s => ∃ w, s = ⟨[some (.v (ruleU cs sts)), some (.v (optU (afterR cs sts k ws))), some (.v (.str (tx ws))), w], n⟩) ?_ ?_
  · refine forS (fun us s => us = ws.map (fun c => U.str (tx [c])) ∧ s = ⟨[some (.v (ruleU cs sts)), some (.v (optU k)), some (.v (.str (tx ws))), none], n⟩) ?_ ?_
    · ((try dsimp only [fVar, fC, faNil, faCons, fTup, fnLst, fFz, fOp, fUn, fTB, fAndT, fOrT, fNotT, fAndV, fOrV, fNotV, fIf, fChain, fNoP, fPart, sliceF, fSlice, fCB, fName, fGNil, fGCons, fGTup, fSubL, fPass, fBreak, fCont, fNever, fSNil, fDrop, fRet, fRetN, fIfS, fAsg, fSet, fOwn, fOwnM, fSeq, fRaise, fFrz, fCall, fWhile, fFor, listW, seqW, pyW, addF, subF, ii, mulF, mulXF, fdivF, modF, powF, negF, ordF, ltF, leF, gtF, geF, eqF, isNonW, isNF, inF, inDF, ixF, tyW, fIsi, fIsiT, f1c, lenF, absF, intF, tupleF, boolsF, allF, anyF, reprF, fnListX, fItAny, fItR1, fItR2, fItEnum, fnLc, fnLcI, fnLcO, fMeth, appendF, popF, indexF, countBF, fMR, fJoin, fFind, fnSortSet, fIndexS, fnRep, fCallW, fCallN, fLamG, fParA, fEvalA, putFr, plains, Still, FSt.set_mk, FSt.pn, isi, List.any_cons, List.any_nil, List.getElem?_cons_zero, List.getElem?_cons_succ, List.set_cons_zero, List.set_cons_succ]); (try simp only [true_and, ex2, Option.some.injEq, exists_eq_left']))
      exact ⟨signs_tx ws, trivial⟩
    · rintro us _ ⟨he, rfl⟩
      rw [he]
      refine forF_inv (fun c => U.str (tx [c])) (fun rest s => ∃ j w, s = ⟨[some (.v (ruleU cs sts)), some (.v (optU j)), some (.v (.str (tx ws))), w], n⟩ ∧ (∀ i, j = some i → i < sts.length) ∧ afterR cs sts j rest = afterR cs sts k ws) ?_ ws ?_ _ ⟨k, none, rfl, hk, rfl⟩
      · rintro s ⟨j, w, rfl, hj, e⟩
        refine ⟨w, ?_⟩
        rw [← e]; rfl
      · rintro c rest ⟨pre, hp⟩ s R ⟨j, w, rfl, hj, e⟩ hR
        have hc : c ∈ cs := hw c (by rw [hp]; simp)
        cases j with
        | none =>
          ((try dsimp only [fVar, fC, faNil, faCons, fTup, fnLst, fFz, fOp, fUn, fTB, fAndT, fOrT, fNotT, fAndV, fOrV, fNotV, fIf, fChain, fNoP, fPart, sliceF, fSlice, fCB, fName, fGNil, fGCons, fGTup, fSubL, fPass, fBreak, fCont, fNever, fSNil, fDrop, fRet, fRetN, fIfS, fAsg, fSet, fOwn, fOwnM, fSeq, fRaise, fFrz, fCall, fWhile, fFor, listW, seqW, pyW, addF, subF, ii, mulF, mulXF, fdivF, modF, powF, negF, ordF, ltF, leF, gtF, geF, eqF, isNonW, isNF, inF, inDF, ixF, tyW, fIsi, fIsiT, f1c, lenF, absF, intF, tupleF, boolsF, allF, anyF, reprF, fnListX, fItAny, fItR1, fItR2, fItEnum, fnLc, fnLcI, fnLcO, fMeth, appendF, popF, indexF, countBF, fMR, fJoin, fFind, fnSortSet, fIndexS, fnRep, fCallW, fCallN, fLamG, fParA, fEvalA, putFr, plains, Still, FSt.set_mk, FSt.pn, isi, List.any_cons, List.any_nil, List.getElem?_cons_zero, List.getElem?_cons_succ, List.set_cons_zero, List.set_cons_succ]); (try simp only [true_and, ex2, Option.some.injEq, exists_eq_left']))
          exact hR _ ⟨none, _, rfl, fun _ h => (by cases h), by rw [← e]; rfl⟩
        | some j =>
          have hj := hj j rfl
          obtain ⟨r, hr1, hr2, hr3, hr4⟩ := look_row ok hj
          unfold ruleU optU
          ((try dsimp only [fVar, fC, faNil, faCons, fTup, fnLst, fFz, fOp, fUn, fTB, fAndT, fOrT, fNotT, fAndV, fOrV, fNotV, fIf, fChain, fNoP, fPart, sliceF, fSlice, fCB, fName, fGNil, fGCons, fGTup, fSubL, fPass, fBreak, fCont, fNever, fSNil, fDrop, fRet, fRetN, fIfS, fAsg, fSet, fOwn, fOwnM, fSeq, fRaise, fFrz, fCall, fWhile, fFor, listW, seqW, pyW, addF, subF, ii, mulF, mulXF, fdivF, modF, powF, negF, ordF, ltF, leF, gtF, geF, eqF, isNonW, isNF, inF, inDF, ixF, tyW, fIsi, fIsiT, f1c, lenF, absF, intF, tupleF, boolsF, allF, anyF, reprF, fnListX, fItAny, fItR1, fItR2, fItEnum, fnLc, fnLcI, fnLcO, fMeth, appendF, popF, indexF, countBF, fMR, fJoin, fFind, fnSortSet, fIndexS, fnRep, fCallW, fCallN, fLamG, fParA, fEvalA, putFr, plains, Still, FSt.set_mk, FSt.pn, isi, List.any_cons, List.any_nil, List.getElem?_cons_zero, List.getElem?_cons_succ, List.set_cons_zero, List.set_cons_succ]); (try simp only [true_and, ex2, Option.some.injEq, exists_eq_left']))
          refine bcase_t rfl ⟨_, ruleU_1 cs sts, ?_⟩
          refine ⟨_, _, rfl, hr1, _, ruleU_0 cs sts, c, rfl, by rw [tx_cps]; exact hc, fun i hi => ?_⟩
          rw [tx_cps] at hi
          obtain ⟨hi1, hi2⟩ := ok.ltr.ix hi
          obtain ⟨o, ho1, ho2⟩ := hr4 i hi1
          have hst : stepR cs sts (some j) c = o := by rw [stepR, hi2, ho2]
          refine ⟨_, _, rfl, ho1, hR _ ⟨o, _, rfl, fun i e => stepR_lt ok (hst.trans e), ?_⟩⟩
          rw [← e, ← hst]; rfl
  · rintro _ ⟨w, rfl⟩
    exact q
abbrev F_law_x_behind : FSp := F_rule_after

/-! ### is_of -/
def wordOf : U → List Nat
  | .str z => z.cps.toList
  | _ => []
def ringB (cs : List Nat) (x : U) : Bool := sideB cs x && !(wordOf x).isEmpty
/-- the state behind a ring, read some times -/
def ringsR (cs : List Nat) (sts : List (List (Option Nat))) (gs : List Nat) : Nat → Option Nat → Option Nat
  | 0, k => k
  | m + 1, k => ringsR cs sts gs m (afterR cs sts k gs)
abbrev F_is_of : FSp := fun us n Q X => ∃ r w g, us = [r, w, g] ∧ okU r = true ∧ okU w = true ∧ okU g = true ∧
  ((ruleB r = false ∧ X "NoRule" n) ∨ ∃ cs sts, r = ruleU cs sts ∧ OkR cs sts ∧ bcase (sideB cs w)
    (bcase (isNonU g) (Q (.bl (afterR cs sts (some 0) (wordOf w)).isSome) n) (bcase (ringB cs g) (Q (.bl (ringsR cs sts (wordOf g) sts.length (afterR cs sts (some 0) (wordOf w))).isSome) n) (X "NoWord" n))) (X "NoWord" n))
theorem sideB_word {cs : List Nat} {x : U} (h : sideB cs x = true) : x = .str (tx (wordOf x)) ∧ (wordOf x).length ≤ 1500 ∧ ∀ c ∈ wordOf x, c ∈ cs := by
  cases x with
  | str z =>
    rw [sideB, Bool.and_eq_true, decide_eq_true_eq, List.all_eq_true] at h
    exact ⟨by rw [wordOf, ← tx_of], by simpa [wordOf, Str.length] using h.1, fun c hc => of_decide_eq_true (h.2 c hc)⟩
  | _ => cases h

def f_is_of : FS :=
  fSeq (fIfS (fNotT (fTB (fCall F_is_rule (faCons (fVar 0) (faNil))))) (fRaise "NoRule") (fSNil))
  (fSeq (fIfS (fNotT (fTB (fCall F_is_side (faCons (fVar 1) (faCons (fOp ixF (fVar 0) (fC (.int 0))) (faNil)))))) (fRaise "NoWord") (fSNil))
  (fSeq (fSet 3 (fCall F_rule_after (faCons (fVar 0) (faCons (fC (.int 0)) (faCons (fVar 1) (faNil))))))
  (fSeq (fIfS (fTB (fOp (isNF false) (fVar 2) (fC .non))) (fRet (fOp (isNF true) (fVar 3) (fC .non))) (fSNil))
  (fSeq (fIfS (fOrT (fNotT (fTB (fCall F_is_side (faCons (fVar 2) (faCons (fOp ixF (fVar 0) (fC (.int 0))) (faNil)))))) (fTB (fOp (eqF false) (fVar 2) (fC (.str ""))))) (fRaise "NoWord") (fSNil))
  (fSeq (fFor (fItR1 (fCB lenF (faCons (fOp ixF (fVar 0) (fC (.int 1))) (faNil)))) (fName 4) (fSet 3 (fCall F_rule_after (faCons (fVar 0) (faCons (fVar 3) (faCons (fVar 2) (faNil)))))))
  (fRet (fOp (isNF true) (fVar 3) (fC .non))))))))
-- slots of is_of: 0=rule 1=word 2=ring 3=state 4=turn

theorem fp_is_of : ∀ us n Q X, us.length = 3 → F_is_of us n Q X → f_is_of.run X { nx := fun s => Q .non s.n, rt := Q } ⟨fStart 5 us, n⟩ := by
  rintro us n Q X hl ⟨r, w, g, rfl, hr, hw, hg, q⟩
  show f_is_of.run X _ ⟨[some (.v r), some (.v w), some (.v g), none, none], n⟩
  unfold f_is_of
  refine seqF (fun s => s = ⟨[some (.v r), some (.v w), some (.v g), none, none], n⟩ ∧ ruleB r = true) ?_ ?_
  · ((try dsimp only [fVar, fC, faNil, faCons, fTup, fnLst, fFz, fOp, fUn, fTB, fAndT, fOrT, fNotT, fAndV, fOrV, fNotV, fIf, fChain, fNoP, fPart, sliceF, fSlice, fCB, fName, fGNil, fGCons, fGTup, fSubL, fPass, fBreak, fCont, fNever, fSNil, fDrop, fRet, fRetN, fIfS, fAsg, fSet, fOwn, fOwnM, fSeq, fRaise, fFrz, fCall, fWhile, fFor, listW, seqW, pyW, addF, subF, ii, mulF, mulXF, fdivF, modF, powF, negF, ordF, ltF, leF, gtF, geF, eqF, isNonW, isNF, inF, inDF, ixF, tyW, fIsi, fIsiT, f1c, lenF, absF, intF, tupleF, boolsF, allF, anyF, reprF, fnListX, fItAny, fItR1, fItR2, fItEnum, fnLc, fnLcI, fnLcO, fMeth, appendF, popF, indexF, countBF, fMR, fJoin, fFind, fnSortSet, fIndexS, fnRep, fCallW, fCallN, fLamG, fParA, fEvalA, putFr, plains, Still, FSt.set_mk, FSt.pn, isi, List.any_cons, List.any_nil, List.getElem?_cons_zero, List.getElem?_cons_succ, List.set_cons_zero, List.set_cons_succ]); (try simp only [true_and, ex2, Option.some.injEq, exists_eq_left']))
    refine go2 ⟨r, rfl, hr, ?_⟩
    rcases q with ⟨h, q⟩ | ⟨cs, sts, rfl, ok, q⟩
    · rw [h]; exact q
    · rw [ruleB_ok ok]; exact bcase_f rfl ⟨rfl, rfl⟩
  · rintro _ ⟨rfl, hrb⟩
    obtain ⟨cs, sts, rfl, ok, q⟩ : ∃ cs sts, r = ruleU cs sts ∧ OkR cs sts ∧ bcase (sideB cs w)
      (bcase (isNonU g) (Q (.bl (afterR cs sts (some 0) (wordOf w)).isSome) n) (bcase (ringB cs g) (Q (.bl (ringsR cs sts (wordOf g) sts.length (afterR cs sts (some 0) (wordOf w))).isSome) n) (X "NoWord" n))) (X "NoWord" n) := by
      rcases q with ⟨h, q⟩ | q
      · rw [hrb] at h; cases h
      · exact q
    refine seqF (fun s => s = ⟨[some (.v (ruleU cs sts)), some (.v w), some (.v g), none, none], n⟩ ∧ sideB cs w = true) ?_ ?_
    · unfold ruleU
      ((try dsimp only [fVar, fC, faNil, faCons, fTup, fnLst, fFz, fOp, fUn, fTB, fAndT, fOrT, fNotT, fAndV, fOrV, fNotV, fIf, fChain, fNoP, fPart, sliceF, fSlice, fCB, fName, fGNil, fGCons, fGTup, fSubL, fPass, fBreak, fCont, fNever, fSNil, fDrop, fRet, fRetN, fIfS, fAsg, fSet, fOwn, fOwnM, fSeq, fRaise, fFrz, fCall, fWhile, fFor, listW, seqW, pyW, addF, subF, ii, mulF, mulXF, fdivF, modF, powF, negF, ordF, ltF, leF, gtF, geF, eqF, isNonW, isNF, inF, inDF, ixF, tyW, fIsi, fIsiT, f1c, lenF, absF, intF, tupleF, boolsF, allF, anyF, reprF, fnListX, fItAny, fItR1, fItR2, fItEnum, fnLc, fnLcI, fnLcO, fMeth, appendF, popF, indexF, countBF, fMR, fJoin, fFind, fnSortSet, fIndexS, fnRep, fCallW, fCallN, fLamG, fParA, fEvalA, putFr, plains, Still, FSt.set_mk, FSt.pn, isi, List.any_cons, List.any_nil, List.getElem?_cons_zero, List.getElem?_cons_succ, List.set_cons_zero, List.set_cons_succ]); (try simp only [true_and, ex2, Option.some.injEq, exists_eq_left']))
      refine ⟨_, ruleU_0 cs sts, ?_⟩
      refine go2 ⟨w, cs, rfl, hw, ?_⟩
      cases h : sideB cs w with
      | true => exact bcase_f rfl ⟨rfl, rfl⟩
      | false => rw [h] at q; exact q
    · rintro _ ⟨rfl, hsw⟩
      rw [hsw] at q
      obtain ⟨ew, hwl, hwm⟩ := sideB_word hsw
      have q : bcase (isNonU g) (Q (.bl (afterR cs sts (some 0) (wordOf w)).isSome) n) (bcase (ringB cs g) (Q (.bl (ringsR cs sts (wordOf g) sts.length (afterR cs sts (some 0) (wordOf w))).isSome) n) (X "NoWord" n)) := q
      have h0 : ∀ j, some 0 = some j → j < sts.length := fun j e => by cases e; exact ok.h1
      refine seqF (fun s => s = ⟨[some (.v (ruleU cs sts)), some (.v w), some (.v g), some (.v (optU (afterR cs sts (some 0) (wordOf w)))), none], n⟩) ?_ ?_
      · ((try dsimp only [fVar, fC, faNil, faCons, fTup, fnLst, fFz, fOp, fUn, fTB, fAndT, fOrT, fNotT, fAndV, fOrV, fNotV, fIf, fChain, fNoP, fPart, sliceF, fSlice, fCB, fName, fGNil, fGCons, fGTup, fSubL, fPass, fBreak, fCont, fNever, fSNil, fDrop, fRet, fRetN, fIfS, fAsg, fSet, fOwn, fOwnM, fSeq, fRaise, fFrz, fCall, fWhile, fFor, listW, seqW, pyW, addF, subF, ii, mulF, mulXF, fdivF, modF, powF, negF, ordF, ltF, leF, gtF, geF, eqF, isNonW, isNF, inF, inDF, ixF, tyW, fIsi, fIsiT, f1c, lenF, absF, intF, tupleF, boolsF, allF, anyF, reprF, fnListX, fItAny, fItR1, fItR2, fItEnum, fnLc, fnLcI, fnLcO, fMeth, appendF, popF, indexF, countBF, fMR, fJoin, fFind, fnSortSet, fIndexS, fnRep, fCallW, fCallN, fLamG, fParA, fEvalA, putFr, plains, Still, FSt.set_mk, FSt.pn, isi, List.any_cons, List.any_nil, List.getElem?_cons_zero, List.getElem?_cons_succ, List.set_cons_zero, List.set_cons_succ]); (try simp only [true_and, ex2, Option.some.injEq, exists_eq_left']))
        exact go2 ⟨cs, sts, some 0, wordOf w, by rw [← ew]; rfl, ok, hwm, h0, rfl⟩
      · rintro _ rfl
        refine seqF (fun s => s = ⟨[some (.v (ruleU cs sts)), some (.v w), some (.v g), some (.v (optU (afterR cs sts (some 0) (wordOf w)))), none], n⟩ ∧ isNonU g = false) ?_ ?_
        · ((try dsimp only [fVar, fC, faNil, faCons, fTup, fnLst, fFz, fOp, fUn, fTB, fAndT, fOrT, fNotT, fAndV, fOrV, fNotV, fIf, fChain, fNoP, fPart, sliceF, fSlice, fCB, fName, fGNil, fGCons, fGTup, fSubL, fPass, fBreak, fCont, fNever, fSNil, fDrop, fRet, fRetN, fIfS, fAsg, fSet, fOwn, fOwnM, fSeq, fRaise, fFrz, fCall, fWhile, fFor, listW, seqW, pyW, addF, subF, ii, mulF, mulXF, fdivF, modF, powF, negF, ordF, ltF, leF, gtF, geF, eqF, isNonW, isNF, inF, inDF, ixF, tyW, fIsi, fIsiT, f1c, lenF, absF, intF, tupleF, boolsF, allF, anyF, reprF, fnListX, fItAny, fItR1, fItR2, fItEnum, fnLc, fnLcI, fnLcO, fMeth, appendF, popF, indexF, countBF, fMR, fJoin, fFind, fnSortSet, fIndexS, fnRep, fCallW, fCallN, fLamG, fParA, fEvalA, putFr, plains, Still, FSt.set_mk, FSt.pn, isi, List.any_cons, List.any_nil, List.getElem?_cons_zero, List.getElem?_cons_succ, List.set_cons_zero, List.set_cons_succ]); (try simp only [true_and, ex2, Option.some.injEq, exists_eq_left']))
          cases g with
          | non =>
            have q : Q (.bl (afterR cs sts (some 0) (wordOf w)).isSome) n := q
            cases h : afterR cs sts (some 0) (wordOf w) <;> (rw [h] at q; exact q)
          | _ => exact bcase_f rfl rfl
        · rintro _ ⟨rfl, hgn⟩
          rw [hgn] at q
          have q : bcase (ringB cs g) (Q (.bl (ringsR cs sts (wordOf g) sts.length (afterR cs sts (some 0) (wordOf w))).isSome) n) (X "NoWord" n) := q
          refine seqF (fun s => s = ⟨[some (.v (ruleU cs sts)), some (.v w), some (.v g), some (.v (optU (afterR cs sts (some 0) (wordOf w)))), none], n⟩ ∧ ringB cs g = true) ?_ ?_
          · unfold ruleU
            ((try dsimp only [fVar, fC, faNil, faCons, fTup, fnLst, fFz, fOp, fUn, fTB, fAndT, fOrT, fNotT, fAndV, fOrV, fNotV, fIf, fChain, fNoP, fPart, sliceF, fSlice, fCB, fName, fGNil, fGCons, fGTup, fSubL, fPass, fBreak, fCont, fNever, fSNil, fDrop, fRet, fRetN, fIfS, fAsg, fSet, fOwn, fOwnM, fSeq, fRaise, fFrz, fCall, fWhile, fFor, listW, seqW, pyW, addF, subF, ii, mulF, mulXF, fdivF, modF, powF, negF, ordF, ltF, leF, gtF, geF, eqF, isNonW, isNF, inF, inDF, ixF, tyW, fIsi, fIsiT, f1c, lenF, absF, intF, tupleF, boolsF, allF, anyF, reprF, fnListX, fItAny, fItR1, fItR2, fItEnum, fnLc, fnLcI, fnLcO, fMeth, appendF, popF, indexF, countBF, fMR, fJoin, fFind, fnSortSet, fIndexS, fnRep, fCallW, fCallN, fLamG, fParA, fEvalA, putFr, plains, Still, FSt.set_mk, FSt.pn, isi, List.any_cons, List.any_nil, List.getElem?_cons_zero, List.getElem?_cons_succ, List.set_cons_zero, List.set_cons_succ]); (try simp only [true_and, ex2, Option.some.injEq, exists_eq_left']))
            refine ⟨_, ruleU_0 cs sts, ?_⟩
            refine go2 ⟨g, cs, rfl, hg, ?_⟩
            cases h : sideB cs g with
            | false =>
              have e : ringB cs g = false := by rw [ringB, h]; rfl
              rw [e] at q
              exact q
            | true =>
              cases g with
              | str z =>
                by_cases hz : z = ""
                · have e : ringB cs (.str z) = false := by rw [hz, ringB]; exact Bool.and_false _
                  rw [e] at q
                  exact bcase_f rfl (bcase_t (by rw [decide_eq_true hz]; rfl) q)
                · have e : ringB cs (.str z) = true := by
                    rw [ringB, h, Bool.true_and, wordOf]
                    cases hc : z.cps.toList with
                    | nil => exact (hz (by rw [tx_of z, hc]; rfl)).elim
                    | cons => rfl
                  exact bcase_f rfl (bcase_f (by rw [decide_eq_false hz]; rfl) ⟨rfl, e⟩)
              | _ => cases h
          · rintro _ ⟨rfl, hgr⟩
            rw [hgr] at q
            rw [ringB, Bool.and_eq_true] at hgr
            obtain ⟨eg, hgl, hgm⟩ := sideB_word hgr.1
            refine seqF (fun s => ∃ w1, s = ⟨[some (.v (ruleU cs sts)), some (.v w), some (.v g), some (.v (optU (ringsR cs sts (wordOf g) sts.length (afterR cs sts (some 0) (wordOf w))))), w1], n⟩) ?_ ?_
            · refine forS (fun us s => us = rngU 0 sts.length ∧ s = ⟨[some (.v (ruleU cs sts)), some (.v w), some (.v g), some (.v (optU (afterR cs sts (some 0) (wordOf w)))), none], n⟩) ?_ ?_
              · unfold ruleU
                ((try dsimp only [fVar, fC, faNil, faCons, fTup, fnLst, fFz, fOp, fUn, fTB, fAndT, fOrT, fNotT, fAndV, fOrV, fNotV, fIf, fChain, fNoP, fPart, sliceF, fSlice, fCB, fName, fGNil, fGCons, fGTup, fSubL, fPass, fBreak, fCont, fNever, fSNil, fDrop, fRet, fRetN, fIfS, fAsg, fSet, fOwn, fOwnM, fSeq, fRaise, fFrz, fCall, fWhile, fFor, listW, seqW, pyW, addF, subF, ii, mulF, mulXF, fdivF, modF, powF, negF, ordF, ltF, leF, gtF, geF, eqF, isNonW, isNF, inF, inDF, ixF, tyW, fIsi, fIsiT, f1c, lenF, absF, intF, tupleF, boolsF, allF, anyF, reprF, fnListX, fItAny, fItR1, fItR2, fItEnum, fnLc, fnLcI, fnLcO, fMeth, appendF, popF, indexF, countBF, fMR, fJoin, fFind, fnSortSet, fIndexS, fnRep, fCallW, fCallN, fLamG, fParA, fEvalA, putFr, plains, Still, FSt.set_mk, FSt.pn, isi, List.any_cons, List.any_nil, List.getElem?_cons_zero, List.getElem?_cons_succ, List.set_cons_zero, List.set_cons_succ]); (try simp only [true_and, ex2, Option.some.injEq, exists_eq_left']))
                refine ⟨_, ruleU_1 cs sts, _, rfl, ?_⟩
                have := ok.h4
                rw [List.length_map]
                exact ⟨⟨by omega, by omega⟩, by rw [Int.toNat_natCast], trivial⟩
              · rintro us _ ⟨he, rfl⟩
                rw [he]
                refine forF_inv (fun (i : Nat) => U.int (0 + (i : Int))) (fun rest s => ∃ j w1, s = ⟨[some (.v (ruleU cs sts)), some (.v w), some (.v g), some (.v (optU j)), w1], n⟩ ∧ (∀ i, j = some i → i < sts.length) ∧ ringsR cs sts (wordOf g) rest.length j = ringsR cs sts (wordOf g) sts.length (afterR cs sts (some 0) (wordOf w))) ?_ (List.range sts.length) ?_ _ ⟨_, _, rfl, afterR_lt ok h0, by rw [List.length_range]⟩
                · rintro s ⟨j, w1, rfl, hj, e⟩
                  refine ⟨w1, ?_⟩
                  rw [← e]; rfl
                · rintro x rest ⟨pre, hp⟩ s R ⟨j, w1, rfl, hj, e⟩ hR
                  ((try dsimp only [fVar, fC, faNil, faCons, fTup, fnLst, fFz, fOp, fUn, fTB, fAndT, fOrT, fNotT, fAndV, fOrV, fNotV, fIf, fChain, fNoP, fPart, sliceF, fSlice, fCB, fName, fGNil, fGCons, fGTup, fSubL, fPass, fBreak, fCont, fNever, fSNil, fDrop, fRet, fRetN, fIfS, fAsg, fSet, fOwn, fOwnM, fSeq, fRaise, fFrz, fCall, fWhile, fFor, listW, seqW, pyW, addF, subF, ii, mulF, mulXF, fdivF, modF, powF, negF, ordF, ltF, leF, gtF, geF, eqF, isNonW, isNF, inF, inDF, ixF, tyW, fIsi, fIsiT, f1c, lenF, absF, intF, tupleF, boolsF, allF, anyF, reprF, fnListX, fItAny, fItR1, fItR2, fItEnum, fnLc, fnLcI, fnLcO, fMeth, appendF, popF, indexF, countBF, fMR, fJoin, fFind, fnSortSet, fIndexS, fnRep, fCallW, fCallN, fLamG, fParA, fEvalA, putFr, plains, Still, FSt.set_mk, FSt.pn, isi, List.any_cons, List.any_nil, List.getElem?_cons_zero, List.getElem?_cons_succ, List.set_cons_zero, List.set_cons_succ]); (try simp only [true_and, ex2, Option.some.injEq, exists_eq_left']))
                  refine go2 ⟨cs, sts, j, wordOf g, by rw [← eg], ok, hgm, hj, ?_⟩
                  exact hR _ ⟨_, _, rfl, afterR_lt ok hj, by rw [← e]; rfl⟩
            · rintro _ ⟨w1, rfl⟩
              have q : Q (.bl (ringsR cs sts (wordOf g) sts.length (afterR cs sts (some 0) (wordOf w))).isSome) n := q
              ((try dsimp only [fVar, fC, faNil, faCons, fTup, fnLst, fFz, fOp, fUn, fTB, fAndT, fOrT, fNotT, fAndV, fOrV, fNotV, fIf, fChain, fNoP, fPart, sliceF, fSlice, fCB, fName, fGNil, fGCons, fGTup, fSubL, fPass, fBreak, fCont, fNever, fSNil, fDrop, fRet, fRetN, fIfS, fAsg, fSet, fOwn, fOwnM, fSeq, fRaise, fFrz, fCall, fWhile, fFor, listW, seqW, pyW, addF, subF, ii, mulF, mulXF, fdivF, modF, powF, negF, ordF, ltF, leF, gtF, geF, eqF, isNonW, isNF, inF, inDF, ixF, tyW, fIsi, fIsiT, f1c, lenF, absF, intF, tupleF, boolsF, allF, anyF, reprF, fnListX, fItAny, fItR1, fItR2, fItEnum, fnLc, fnLcI, fnLcO, fMeth, appendF, popF, indexF, countBF, fMR, fJoin, fFind, fnSortSet, fIndexS, fnRep, fCallW, fCallN, fLamG, fParA, fEvalA, putFr, plains, Still, FSt.set_mk, FSt.pn, isi, List.any_cons, List.any_nil, List.getElem?_cons_zero, List.getElem?_cons_succ, List.set_cons_zero, List.set_cons_succ]); (try simp only [true_and, ex2, Option.some.injEq, exists_eq_left']))
              cases h : ringsR cs sts (wordOf g) sts.length (afterR cs sts (some 0) (wordOf w)) with
              | none => rw [h] at q; exact q
              | some j => rw [h] at q; exact q
end LD

/-! LGP: drawing from the pen -/
namespace LD
open PySem PySem.Spec PyProof.Rows L2

abbrev F_law_take : FSp := fun us n Q X => ∃ m : Int, us = [.pen, .int m] ∧ 0 < m ∧ Sm 9000 m ∧ n < 1000000 ∧ ∀ r : Int, 0 ≤ r → r < m → Q (.int r) (n + 1)
theorem c_law_take : ∀ ds M Q X, ds.length = 2 → dsp [] F_law_take ds M Q X → S_law_take ds M Q X := fun ds M Q X hl ⟨_, p, hp, n, us, e, pen, Q0, X0, hQ, hX, m, e2, h1, h2, h3, q⟩ => by
  subst e2
  obtain ⟨rfl, pen⟩ := pen
  refine ⟨p, m, n, ?_, h1, h2, pen, h3, fun r o g1 g2 po => ?_⟩
  · rw [e]; simp [U.d]
  · have := hQ _ _ (q r g1 g2) o po
    rw [U.d] at this
    exact this
theorem go_take {m : Int} {n : Nat} {B : U → Nat → Prop} {C : XF} (h0 : 0 < m) (h1 : m ≤ 1000000) (hn : n < 1000000) (q : ∀ r : Int, 0 ≤ r → r < m → B (.int r) (n + 1)) :
    ∃ (Q0 : U → Nat → Prop) (X0 : XF), (∀ u n, Q0 u n → B u n) ∧ (∀ x n, X0 x n → C x n) ∧ F_law_take [.pen, .int m] n Q0 X0 :=
  go2 ⟨m, rfl, h0, by have : (2 : Nat) ^ 20 ≤ 2 ^ 9000 := Nat.pow_le_pow_right (by decide) (by decide); unfold Sm; omega, hn, q⟩
abbrev F_law_x_pick : FSp := fun us n Q X => ∃ xs : List U, us = [.pen, .lst xs] ∧ xs ≠ [] ∧ xs.length ≤ 1000000 ∧ n < 1000000 ∧ ∀ x ∈ xs, Q x (n + 1)
theorem go_pick {xs : List U} {n : Nat} {B : U → Nat → Prop} {C : XF} (h0 : xs ≠ []) (h1 : xs.length ≤ 1000000) (hn : n < 1000000) (q : ∀ x ∈ xs, B x (n + 1)) :
    ∃ (Q0 : U → Nat → Prop) (X0 : XF), (∀ u n, Q0 u n → B u n) ∧ (∀ x n, X0 x n → C x n) ∧ F_law_x_pick [.pen, .lst xs] n Q0 X0 := go2 ⟨xs, rfl, h0, h1, hn, q⟩

def f_law_x_pick : FS :=
  fRet (fOp ixF (fVar 1) (fCall F_law_take (faCons (fVar 0) (faCons (fCB lenF (faCons (fVar 1) (faNil))) (faNil)))))
-- slots of _law_x_pick: 0=pen 1=some

theorem fp_law_x_pick : ∀ us n Q X, us.length = 2 → F_law_x_pick us n Q X → f_law_x_pick.run X { nx := fun s => Q .non s.n, rt := Q } ⟨fStart 2 us, n⟩ := by
  rintro us n Q X hl ⟨xs, rfl, h0, h1, hn, q⟩
  show f_law_x_pick.run X _ ⟨[some (.v .pen), some (.v (.lst xs))], n⟩
  ((try dsimp only [fVar, fC, faNil, faCons, fTup, fnLst, fFz, fOp, fUn, fTB, fAndT, fOrT, fNotT, fAndV, fOrV, fNotV, fIf, fChain, fNoP, fPart, sliceF, fSlice, fCB, fName, fGNil, fGCons, fGTup, fSubL, fPass, fBreak, fCont, fNever, fSNil, fDrop, fRet, fRetN, fIfS, fAsg, fSet, fOwn, fOwnM, fSeq, fRaise, fFrz, fCall, fWhile, fFor, listW, seqW, pyW, addF, subF, ii, mulF, mulXF, fdivF, modF, powF, negF, ordF, ltF, leF, gtF, geF, eqF, isNonW, isNF, inF, inDF, ixF, tyW, fIsi, fIsiT, f1c, lenF, absF, intF, tupleF, boolsF, allF, anyF, reprF, fnListX, fItAny, fItR1, fItR2, fItEnum, fnLc, fnLcI, fnLcO, fMeth, appendF, popF, indexF, countBF, fMR, fJoin, fFind, fnSortSet, fIndexS, fnRep, fCallW, fCallN, fLamG, fParA, fEvalA, putFr, plains, Still, FSt.set_mk, FSt.pn, isi, List.any_cons, List.any_nil, List.getElem?_cons_zero, List.getElem?_cons_succ, List.set_cons_zero, List.set_cons_succ, f_law_x_pick]); (try simp only [true_and, ex2, Option.some.injEq, exists_eq_left']))
  have hl : 0 < xs.length := List.length_pos_iff.mpr h0
  refine go_take (by omega) (by omega) hn fun r g0 g1 => ?_
  obtain ⟨x, e, hx⟩ := atI_in (ds := xs) g0 (by omega)
  ((try dsimp only [fVar, fC, faNil, faCons, fTup, fnLst, fFz, fOp, fUn, fTB, fAndT, fOrT, fNotT, fAndV, fOrV, fNotV, fIf, fChain, fNoP, fPart, sliceF, fSlice, fCB, fName, fGNil, fGCons, fGTup, fSubL, fPass, fBreak, fCont, fNever, fSNil, fDrop, fRet, fRetN, fIfS, fAsg, fSet, fOwn, fOwnM, fSeq, fRaise, fFrz, fCall, fWhile, fFor, listW, seqW, pyW, addF, subF, ii, mulF, mulXF, fdivF, modF, powF, negF, ordF, ltF, leF, gtF, geF, eqF, isNonW, isNF, inF, inDF, ixF, tyW, fIsi, fIsiT, f1c, lenF, absF, intF, tupleF, boolsF, allF, anyF, reprF, fnListX, fItAny, fItR1, fItR2, fItEnum, fnLc, fnLcI, fnLcO, fMeth, appendF, popF, indexF, countBF, fMR, fJoin, fFind, fnSortSet, fIndexS, fnRep, fCallW, fCallN, fLamG, fParA, fEvalA, putFr, plains, Still, FSt.set_mk, FSt.pn, isi, List.any_cons, List.any_nil, List.getElem?_cons_zero, List.getElem?_cons_succ, List.set_cons_zero, List.set_cons_succ]); (try simp only [true_and, ex2, Option.some.injEq, exists_eq_left']))
  exact ⟨x, e, q x hx⟩
end LD

/-! LH35: the law of words of rules: what its defs draw -/
namespace LD
open PySem PySem.Spec PyProof.Rows L2

def TBS : List Tb := [(("_law_x_refused_right", none), "_law_x_refused_right.<locals>.<lambda>")]

abbrev F_law_x_letters : FSp := fun us n Q X => us = [.pen] ∧ n + 4 ≤ 1000000 ∧ ∀ cs, Ltrs cs → Q (.str (tx cs)) (n + 4)
abbrev F_law_x_rule : FSp := fun us n Q X => ∃ cs, ∃ most : Int, us = [.pen, .str (tx cs), .int most] ∧ Ltrs cs ∧ 1 ≤ most ∧ most ≤ 4 ∧ n + 100 ≤ 1000000 ∧ ∀ sts n', n' ≤ n + 100 → OkR cs sts → Q (ruleU cs sts) n'

def f_law_x_letters : FS :=
  fSeq (fParA [1, 2] [.v (fCall F_law_take (faCons (fVar 0) (faCons (fC (.int 24)) (faNil)))), .v (fC (.str "abcdefghijklmnopqrstuvwxyz"))])
  (fSeq (fSet 3 (fOp addF (fOp addF (fVar 1) (fC (.int 1))) (fCall F_law_take (faCons (fVar 0) (faCons (fOp subF (fC (.int 24)) (fVar 1)) (faNil))))))
  (fSeq (fSet 4 (fOp addF (fOp addF (fVar 3) (fC (.int 1))) (fCall F_law_take (faCons (fVar 0) (faCons (fOp subF (fC (.int 25)) (fVar 3)) (faNil))))))
  (fRet (fOp addF (fOp ixF (fVar 2) (fVar 1)) (fCall F_law_x_pick (faCons (fVar 0) (faCons (fFz (fnLst (faCons (fC (.str "")) (faCons (fOp ixF (fVar 2) (fVar 3)) (faCons (fOp ixF (fVar 2) (fVar 3)) (faCons (fOp ixF (fVar 2) (fVar 3)) (faCons (fOp addF (fOp ixF (fVar 2) (fVar 3)) (fOp ixF (fVar 2) (fVar 4))) (faNil)))))))) (faNil))))))))
-- slots of _law_x_letters: 0=pen 1=i 2=alphabet 3=j 4=k
def f_law_x_rule : FS :=
  fSeq (fParA [3, 4] [.v (fOp addF (fC (.int 1)) (fCall F_law_take (faCons (fVar 0) (faCons (fVar 2) (faNil))))), .n (fnLst (faNil))])
  (fSeq (fFor (fItR1 (fVar 3)) (fName 5) (fSeq (fOwn 6 (fnLc (fItAny (fVar 1)) 7 (fCall F_law_x_pick (faCons (fVar 0) (faCons (fFz (fnLst (faCons (fC .non) (faCons (fCall F_law_take (faCons (fVar 0) (faCons (fVar 3) (faNil)))) (faCons (fCall F_law_take (faCons (fVar 0) (faCons (fVar 3) (faNil)))) (faNil)))))) (faNil))))))
  (fSeq (fIfS (fTB (fOp (inF true) (fC (.bl false)) (fFz (fnLcO 6 8 (fOp (isNF false) (fVar 8) (fC .non)))))) (fAsg (fCall F_law_take (faCons (fVar 0) (faCons (fVar 3) (faNil)))) (fSubL 6 (fCall F_law_take (faCons (fVar 0) (faCons (fCB lenF (faCons (fVar 6) (faNil))) (faNil)))))) (fSNil))
  (fDrop (fMeth 4 appendF (faCons (fCB tupleF (faCons (fVar 6) (faNil))) (faNil)))))))
  (fRet (fTup (faCons (fVar 1) (faCons (fCB tupleF (faCons (fVar 4) (faNil))) (faNil))))))
-- slots of _law_x_rule: 0=pen 1=letters 2=most 3=many 4=states 5=state 6=row 7=letter 8=after

theorem alpha_at {i : Int} (h0 : 0 ≤ i) (h1 : i < 26) : atI (Str.ofString "abcdefghijklmnopqrstuvwxyz").cps.toList i = some (97 + i.toNat) := by
  obtain ⟨k, rfl⟩ := Int.eq_ofNat_of_zero_le h0
  rw [alpha_codes, tx_cps, atI_nat (by simp; omega)]
  simp
theorem alpha_len : (Str.ofString "abcdefghijklmnopqrstuvwxyz").length ≤ sizeLine := by rw [alpha_codes, tx_len, sizeLine_eq]; simp
theorem fp_law_x_letters : ∀ us n Q X, us.length = 1 → F_law_x_letters us n Q X → f_law_x_letters.run X { nx := fun s => Q .non s.n, rt := Q } ⟨fStart 5 us, n⟩ := by
  rintro us n Q X hl ⟨rfl, hn, q⟩
  show f_law_x_letters.run X _ ⟨[some (.v .pen), none, none, none, none], n⟩
  unfold f_law_x_letters
  refine seqF (fun s => ∃ i : Int, 0 ≤ i ∧ i < 24 ∧ s = ⟨[some (.v .pen), some (.v (.int i)), some (.v (.str "abcdefghijklmnopqrstuvwxyz")), none, none], n + 1⟩) ?_ ?_
  · ((try dsimp only [fVar, fC, faNil, faCons, fTup, fnLst, fFz, fOp, fUn, fTB, fAndT, fOrT, fNotT, fAndV, fOrV, fNotV, fIf, fChain, fNoP, fPart, sliceF, fSlice, fCB, fName, fGNil, fGCons, fGTup, fSubL, fPass, fBreak, fCont, fNever, fSNil, fDrop, fRet, fRetN, fIfS, fAsg, fSet, fOwn, fOwnM, fSeq, fRaise, fFrz, fCall, fWhile, fFor, listW, seqW, pyW, addF, subF, ii, mulF, mulXF, fdivF, modF, powF, negF, ordF, ltF, leF, gtF, geF, eqF, isNonW, isNF, inF, inDF, ixF, tyW, fIsi, fIsiT, f1c, lenF, absF, intF, tupleF, boolsF, allF, anyF, reprF, fnListX, fItAny, fItR1, fItR2, fItEnum, fnLc, fnLcI, fnLcO, fMeth, appendF, popF, indexF, countBF, fMR, fJoin, fFind, fnSortSet, fIndexS, fnRep, fCallW, fCallN, fLamG, fParA, fEvalA, putFr, plains, Still, FSt.set_mk, FSt.pn, isi, List.any_cons, List.any_nil, List.getElem?_cons_zero, List.getElem?_cons_succ, List.set_cons_zero, List.set_cons_succ]); (try simp only [true_and, ex2, Option.some.injEq, exists_eq_left']))
    refine go_take (by omega) (by omega) (by omega) fun r h0 h1 => ?_
    exact ⟨rfl, r, h0, h1, rfl⟩
  · rintro _ ⟨i, i0, i1, rfl⟩
    refine seqF (fun s => ∃ j : Int, i < j ∧ j ≤ 24 ∧ s = ⟨[some (.v .pen), some (.v (.int i)), some (.v (.str "abcdefghijklmnopqrstuvwxyz")), some (.v (.int j)), none], n + 2⟩) ?_ ?_
    · ((try dsimp only [fVar, fC, faNil, faCons, fTup, fnLst, fFz, fOp, fUn, fTB, fAndT, fOrT, fNotT, fAndV, fOrV, fNotV, fIf, fChain, fNoP, fPart, sliceF, fSlice, fCB, fName, fGNil, fGCons, fGTup, fSubL, fPass, fBreak, fCont, fNever, fSNil, fDrop, fRet, fRetN, fIfS, fAsg, fSet, fOwn, fOwnM, fSeq, fRaise, fFrz, fCall, fWhile, fFor, listW, seqW, pyW, addF, subF, ii, mulF, mulXF, fdivF, modF, powF, negF, ordF, ltF, leF, gtF, geF, eqF, isNonW, isNF, inF, inDF, ixF, tyW, fIsi, fIsiT, f1c, lenF, absF, intF, tupleF, boolsF, allF, anyF, reprF, fnListX, fItAny, fItR1, fItR2, fItEnum, fnLc, fnLcI, fnLcO, fMeth, appendF, popF, indexF, countBF, fMR, fJoin, fFind, fnSortSet, fIndexS, fnRep, fCallW, fCallN, fLamG, fParA, fEvalA, putFr, plains, Still, FSt.set_mk, FSt.pn, isi, List.any_cons, List.any_nil, List.getElem?_cons_zero, List.getElem?_cons_succ, List.set_cons_zero, List.set_cons_succ]); (try simp only [true_and, ex2, Option.some.injEq, exists_eq_left']))
      refine go_take (by omega) (by omega) (by omega) fun r h0 h1 => ?_
      exact ⟨i + 1 + r, by omega, by omega, rfl⟩
    · rintro _ ⟨j, j0, j1, rfl⟩
      refine seqF (fun s => ∃ k : Int, j < k ∧ k ≤ 25 ∧ s = ⟨[some (.v .pen), some (.v (.int i)), some (.v (.str "abcdefghijklmnopqrstuvwxyz")), some (.v (.int j)), some (.v (.int k))], n + 3⟩) ?_ ?_
      · ((try dsimp only [fVar, fC, faNil, faCons, fTup, fnLst, fFz, fOp, fUn, fTB, fAndT, fOrT, fNotT, fAndV, fOrV, fNotV, fIf, fChain, fNoP, fPart, sliceF, fSlice, fCB, fName, fGNil, fGCons, fGTup, fSubL, fPass, fBreak, fCont, fNever, fSNil, fDrop, fRet, fRetN, fIfS, fAsg, fSet, fOwn, fOwnM, fSeq, fRaise, fFrz, fCall, fWhile, fFor, listW, seqW, pyW, addF, subF, ii, mulF, mulXF, fdivF, modF, powF, negF, ordF, ltF, leF, gtF, geF, eqF, isNonW, isNF, inF, inDF, ixF, tyW, fIsi, fIsiT, f1c, lenF, absF, intF, tupleF, boolsF, allF, anyF, reprF, fnListX, fItAny, fItR1, fItR2, fItEnum, fnLc, fnLcI, fnLcO, fMeth, appendF, popF, indexF, countBF, fMR, fJoin, fFind, fnSortSet, fIndexS, fnRep, fCallW, fCallN, fLamG, fParA, fEvalA, putFr, plains, Still, FSt.set_mk, FSt.pn, isi, List.any_cons, List.any_nil, List.getElem?_cons_zero, List.getElem?_cons_succ, List.set_cons_zero, List.set_cons_succ]); (try simp only [true_and, ex2, Option.some.injEq, exists_eq_left']))
        refine go_take (by omega) (by omega) (by omega) fun r h0 h1 => ?_
        exact ⟨j + 1 + r, by omega, by omega, rfl⟩
      · rintro _ ⟨k, k0, k1, rfl⟩
        ((try dsimp only [fVar, fC, faNil, faCons, fTup, fnLst, fFz, fOp, fUn, fTB, fAndT, fOrT, fNotT, fAndV, fOrV, fNotV, fIf, fChain, fNoP, fPart, sliceF, fSlice, fCB, fName, fGNil, fGCons, fGTup, fSubL, fPass, fBreak, fCont, fNever, fSNil, fDrop, fRet, fRetN, fIfS, fAsg, fSet, fOwn, fOwnM, fSeq, fRaise, fFrz, fCall, fWhile, fFor, listW, seqW, pyW, addF, subF, ii, mulF, mulXF, fdivF, modF, powF, negF, ordF, ltF, leF, gtF, geF, eqF, isNonW, isNF, inF, inDF, ixF, tyW, fIsi, fIsiT, f1c, lenF, absF, intF, tupleF, boolsF, allF, anyF, reprF, fnListX, fItAny, fItR1, fItR2, fItEnum, fnLc, fnLcI, fnLcO, fMeth, appendF, popF, indexF, countBF, fMR, fJoin, fFind, fnSortSet, fIndexS, fnRep, fCallW, fCallN, fLamG, fParA, fEvalA, putFr, plains, Still, FSt.set_mk, FSt.pn, isi, List.any_cons, List.any_nil, List.getElem?_cons_zero, List.getElem?_cons_succ, List.set_cons_zero, List.set_cons_succ]); (try simp only [true_and, ex2, Option.some.injEq, exists_eq_left']))
        have ai := alpha_at i0 (show i < 26 by omega)
        have aj := alpha_at (show 0 ≤ j by omega) (show j < 26 by omega)
        have ak := alpha_at (show 0 ≤ k by omega) (show k < 26 by omega)
        refine ⟨_, alpha_len, ai, ?_⟩
        ((try dsimp only [fVar, fC, faNil, faCons, fTup, fnLst, fFz, fOp, fUn, fTB, fAndT, fOrT, fNotT, fAndV, fOrV, fNotV, fIf, fChain, fNoP, fPart, sliceF, fSlice, fCB, fName, fGNil, fGCons, fGTup, fSubL, fPass, fBreak, fCont, fNever, fSNil, fDrop, fRet, fRetN, fIfS, fAsg, fSet, fOwn, fOwnM, fSeq, fRaise, fFrz, fCall, fWhile, fFor, listW, seqW, pyW, addF, subF, ii, mulF, mulXF, fdivF, modF, powF, negF, ordF, ltF, leF, gtF, geF, eqF, isNonW, isNF, inF, inDF, ixF, tyW, fIsi, fIsiT, f1c, lenF, absF, intF, tupleF, boolsF, allF, anyF, reprF, fnListX, fItAny, fItR1, fItR2, fItEnum, fnLc, fnLcI, fnLcO, fMeth, appendF, popF, indexF, countBF, fMR, fJoin, fFind, fnSortSet, fIndexS, fnRep, fCallW, fCallN, fLamG, fParA, fEvalA, putFr, plains, Still, FSt.set_mk, FSt.pn, isi, List.any_cons, List.any_nil, List.getElem?_cons_zero, List.getElem?_cons_succ, List.set_cons_zero, List.set_cons_succ]); (try simp only [true_and, ex2, Option.some.injEq, exists_eq_left']))
        have hs : (1 : Nat) + 1 ≤ sizeLine := by rw [sizeLine_eq]; decide
        refine ⟨_, alpha_len, aj, _, alpha_len, aj, _, alpha_len, aj, _, alpha_len, aj, _, alpha_len, ak, hs, by rw [sizeLine_eq]; simp, ?_⟩
        have fin : ∀ bs : List Nat, bs.length ≤ 2 → Ltrs ((97 + i.toNat) :: bs) → ((tx [97 + i.toNat]).length + (tx bs).length ≤ sizeLine) ∧ Q (.str (tx [97 + i.toNat] ++ tx bs)) (n + 3 + 1) := fun bs hb hL => by
          refine ⟨by rw [tx_len, tx_len, sizeLine_eq]; simp; omega, ?_⟩
          rw [tx_app]
          exact q _ hL
        have e : (⟨#[97 + j.toNat]⟩ : Str) ++ ⟨#[97 + k.toNat]⟩ = tx [97 + j.toNat, 97 + k.toNat] := tx_app [_] [_]
        have f1 := fin [] (by simp) (by unfold Ltrs; simp; omega)
        have f2 := fin [97 + j.toNat] (by simp) (by unfold Ltrs; simp; omega)
        have f3 := fin [97 + j.toNat, 97 + k.toNat] (by simp) (by unfold Ltrs; simp; omega)
        rw [e]
        refine go_pick (by simp) (by simp) (by omega) fun x hx => ?_
        simp only [List.mem_cons, List.not_mem_nil, or_false] at hx
        rcases hx with rfl | rfl | rfl | rfl | rfl
        · exact f1
        · exact f2
        · exact f2
        · exact f2
        · exact f3
theorem fp_law_x_rule : ∀ us n Q X, us.length = 3 → F_law_x_rule us n Q X → f_law_x_rule.run X { nx := fun s => Q .non s.n, rt := Q } ⟨fStart 9 us, n⟩ := by
  rintro us n Q X hl ⟨cs, most, rfl, hc, m1, m4, hn, q⟩
  show f_law_x_rule.run X _ ⟨[some (.v .pen), some (.v (.str (tx cs))), some (.v (.int most)), none, none, none, none, none, none], n⟩
  unfold f_law_x_rule
  refine seqF (fun s => ∃ m : Nat, 1 ≤ m ∧ m ≤ 4 ∧ s = ⟨[some (.v .pen), some (.v (.str (tx cs))), some (.v (.int most)), some (.v (.int m)), some (.ol 4 []), none, none, none, none], n + 1⟩) ?_ ?_
  · ((try dsimp only [fVar, fC, faNil, faCons, fTup, fnLst, fFz, fOp, fUn, fTB, fAndT, fOrT, fNotT, fAndV, fOrV, fNotV, fIf, fChain, fNoP, fPart, sliceF, fSlice, fCB, fName, fGNil, fGCons, fGTup, fSubL, fPass, fBreak, fCont, fNever, fSNil, fDrop, fRet, fRetN, fIfS, fAsg, fSet, fOwn, fOwnM, fSeq, fRaise, fFrz, fCall, fWhile, fFor, listW, seqW, pyW, addF, subF, ii, mulF, mulXF, fdivF, modF, powF, negF, ordF, ltF, leF, gtF, geF, eqF, isNonW, isNF, inF, inDF, ixF, tyW, fIsi, fIsiT, f1c, lenF, absF, intF, tupleF, boolsF, allF, anyF, reprF, fnListX, fItAny, fItR1, fItR2, fItEnum, fnLc, fnLcI, fnLcO, fMeth, appendF, popF, indexF, countBF, fMR, fJoin, fFind, fnSortSet, fIndexS, fnRep, fCallW, fCallN, fLamG, fParA, fEvalA, putFr, plains, Still, FSt.set_mk, FSt.pn, isi, List.any_cons, List.any_nil, List.getElem?_cons_zero, List.getElem?_cons_succ, List.set_cons_zero, List.set_cons_succ]); (try simp only [true_and, ex2, Option.some.injEq, exists_eq_left']))
    refine go_take (by omega) (by omega) (by omega) fun r h0 h1 => ?_
    ((try dsimp only [fVar, fC, faNil, faCons, fTup, fnLst, fFz, fOp, fUn, fTB, fAndT, fOrT, fNotT, fAndV, fOrV, fNotV, fIf, fChain, fNoP, fPart, sliceF, fSlice, fCB, fName, fGNil, fGCons, fGTup, fSubL, fPass, fBreak, fCont, fNever, fSNil, fDrop, fRet, fRetN, fIfS, fAsg, fSet, fOwn, fOwnM, fSeq, fRaise, fFrz, fCall, fWhile, fFor, listW, seqW, pyW, addF, subF, ii, mulF, mulXF, fdivF, modF, powF, negF, ordF, ltF, leF, gtF, geF, eqF, isNonW, isNF, inF, inDF, ixF, tyW, fIsi, fIsiT, f1c, lenF, absF, intF, tupleF, boolsF, allF, anyF, reprF, fnListX, fItAny, fItR1, fItR2, fItEnum, fnLc, fnLcI, fnLcO, fMeth, appendF, popF, indexF, countBF, fMR, fJoin, fFind, fnSortSet, fIndexS, fnRep, fCallW, fCallN, fLamG, fParA, fEvalA, putFr, plains, Still, FSt.set_mk, FSt.pn, isi, List.any_cons, List.any_nil, List.getElem?_cons_zero, List.getElem?_cons_succ, List.set_cons_zero, List.set_cons_succ]); (try simp only [true_and, ex2, Option.some.injEq, exists_eq_left']))
    exact ⟨Nat.zero_le _, rfl, (1 + r).toNat, by omega, by omega, by rw [Int.toNat_of_nonneg (by omega)]⟩
  · rintro _ ⟨m, m1, m4, rfl⟩
    refine seqF (fun s => ∃ sts n' w5 w6 w7 w8, sts.length = m ∧ OkR cs sts ∧ n' ≤ n + 100 ∧ s = ⟨[some (.v .pen), some (.v (.str (tx cs))), some (.v (.int most)), some (.v (.int m)), some (.ol 4 (sts.map rowU)), w5, w6, w7, w8], n'⟩) ?_ ?_
    · refine forS (fun us s => us = rngU 0 m ∧ s = ⟨[some (.v .pen), some (.v (.str (tx cs))), some (.v (.int most)), some (.v (.int m)), some (.ol 4 []), none, none, none, none], n + 1⟩) ?_ ?_
      · ((try dsimp only [fVar, fC, faNil, faCons, fTup, fnLst, fFz, fOp, fUn, fTB, fAndT, fOrT, fNotT, fAndV, fOrV, fNotV, fIf, fChain, fNoP, fPart, sliceF, fSlice, fCB, fName, fGNil, fGCons, fGTup, fSubL, fPass, fBreak, fCont, fNever, fSNil, fDrop, fRet, fRetN, fIfS, fAsg, fSet, fOwn, fOwnM, fSeq, fRaise, fFrz, fCall, fWhile, fFor, listW, seqW, pyW, addF, subF, ii, mulF, mulXF, fdivF, modF, powF, negF, ordF, ltF, leF, gtF, geF, eqF, isNonW, isNF, inF, inDF, ixF, tyW, fIsi, fIsiT, f1c, lenF, absF, intF, tupleF, boolsF, allF, anyF, reprF, fnListX, fItAny, fItR1, fItR2, fItEnum, fnLc, fnLcI, fnLcO, fMeth, appendF, popF, indexF, countBF, fMR, fJoin, fFind, fnSortSet, fIndexS, fnRep, fCallW, fCallN, fLamG, fParA, fEvalA, putFr, plains, Still, FSt.set_mk, FSt.pn, isi, List.any_cons, List.any_nil, List.getElem?_cons_zero, List.getElem?_cons_succ, List.set_cons_zero, List.set_cons_succ]); (try simp only [true_and, ex2, Option.some.injEq, exists_eq_left']))
        exact ⟨⟨by omega, by omega⟩, by rw [Int.toNat_natCast], trivial⟩
      · rintro us _ ⟨he, rfl⟩
        rw [he]
        refine forF_inv (fun (i : Nat) => U.int (0 + (i : Int))) (fun rest s => ∃ sts n' w5 w6 w7 w8, sts.length + rest.length = m ∧ (∀ r ∈ sts, r.length = cs.length ∧ (∀ k, some k ∈ r → k < m) ∧ ∃ k, some k ∈ r) ∧ n' ≤ n + 1 + 11 * sts.length ∧ s = ⟨[some (.v .pen), some (.v (.str (tx cs))), some (.v (.int most)), some (.v (.int m)), some (.ol 4 (sts.map rowU)), w5, w6, w7, w8], n'⟩) ?_ (List.range m) ?_ _ ⟨([] : List (List (Option Nat))), n + 1, _, _, _, _, by simp, (fun _ h => by cases h), by simp, rfl⟩
        · rintro s ⟨sts, n', w5, w6, w7, w8, e, hr, hn', rfl⟩
          simp at e
          exact ⟨sts, n', _, _, _, _, e, ⟨hc, by omega, by omega, fun r h => by rw [e]; exact hr r h⟩, by omega, rfl⟩
        · rintro x rest ⟨pre, hp⟩ s R ⟨sts, n', w5, w6, w7, w8, e, hr, hn', rfl⟩ hR
          dsimp only [fName, FSt.set_mk, List.set_cons_zero, List.set_cons_succ]
          refine seqF (fun s => ∃ (r : List (Option Nat)) (n2 : Nat) (w7 : Option W), r.length = cs.length ∧ (∀ k, some k ∈ r → k < m) ∧ n2 ≤ n' + 9 ∧ s = ⟨[some (.v .pen), some (.v (.str (tx cs))), some (.v (.int most)), some (.v (.int m)), some (.ol 4 (sts.map rowU)), some (.v (.int (0 + (x : Int)))), some (.ol 6 (r.map optU)), w7, w8], n2⟩) ?_ ?_
          · ((try dsimp only [fVar, fC, faNil, faCons, fTup, fnLst, fFz, fOp, fUn, fTB, fAndT, fOrT, fNotT, fAndV, fOrV, fNotV, fIf, fChain, fNoP, fPart, sliceF, fSlice, fCB, fName, fGNil, fGCons, fGTup, fSubL, fPass, fBreak, fCont, fNever, fSNil, fDrop, fRet, fRetN, fIfS, fAsg, fSet, fOwn, fOwnM, fSeq, fRaise, fFrz, fCall, fWhile, fFor, listW, seqW, pyW, addF, subF, ii, mulF, mulXF, fdivF, modF, powF, negF, ordF, ltF, leF, gtF, geF, eqF, isNonW, isNF, inF, inDF, ixF, tyW, fIsi, fIsiT, f1c, lenF, absF, intF, tupleF, boolsF, allF, anyF, reprF, fnListX, fItAny, fItR1, fItR2, fItEnum, fnLc, fnLcI, fnLcO, fMeth, appendF, popF, indexF, countBF, fMR, fJoin, fFind, fnSortSet, fIndexS, fnRep, fCallW, fCallN, fLamG, fParA, fEvalA, putFr, plains, Still, FSt.set_mk, FSt.pn, isi, List.any_cons, List.any_nil, List.getElem?_cons_zero, List.getElem?_cons_succ, List.set_cons_zero, List.set_cons_succ]); (try simp only [true_and, ex2, Option.some.injEq, exists_eq_left']))
            refine lcF_inv (fun c => U.str (tx [c])) (fun rest acc s => ∃ (r : List (Option Nat)) (n2 : Nat) (w7 : Option W), acc = r.map optU ∧ r.length + rest.length = cs.length ∧ (∀ k, some k ∈ r → k < m) ∧ n2 ≤ n' + 3 * r.length ∧ s = ⟨[some (.v .pen), some (.v (.str (tx cs))), some (.v (.int most)), some (.v (.int m)), some (.ol 4 (sts.map rowU)), some (.v (.int (0 + (x : Int)))), w6, w7, w8], n2⟩) ?_ cs ?_ _ _ ⟨[], n', none, rfl, by simp, (fun _ h => by cases h), by simp, rfl⟩ (by have := hc.2.1; rw [sizeLine_eq]; simp; omega)
            · rintro s acc ⟨r, n2, w7', rfl, hrl, hrm, hn2, rfl⟩
              have := hc.2.1
              simp at hrl
              exact ⟨r, n2, _, hrl, hrm, by omega, rfl⟩
            · rintro c hcm rest s acc R ⟨r, n2, w7', rfl, hrl, hrm, hn2, rfl⟩ k
              have := hc.2.1
              rw [List.length_cons] at hrl
              rw [List.length_cons] at e
              ((try dsimp only [fVar, fC, faNil, faCons, fTup, fnLst, fFz, fOp, fUn, fTB, fAndT, fOrT, fNotT, fAndV, fOrV, fNotV, fIf, fChain, fNoP, fPart, sliceF, fSlice, fCB, fName, fGNil, fGCons, fGTup, fSubL, fPass, fBreak, fCont, fNever, fSNil, fDrop, fRet, fRetN, fIfS, fAsg, fSet, fOwn, fOwnM, fSeq, fRaise, fFrz, fCall, fWhile, fFor, listW, seqW, pyW, addF, subF, ii, mulF, mulXF, fdivF, modF, powF, negF, ordF, ltF, leF, gtF, geF, eqF, isNonW, isNF, inF, inDF, ixF, tyW, fIsi, fIsiT, f1c, lenF, absF, intF, tupleF, boolsF, allF, anyF, reprF, fnListX, fItAny, fItR1, fItR2, fItEnum, fnLc, fnLcI, fnLcO, fMeth, appendF, popF, indexF, countBF, fMR, fJoin, fFind, fnSortSet, fIndexS, fnRep, fCallW, fCallN, fLamG, fParA, fEvalA, putFr, plains, Still, FSt.set_mk, FSt.pn, isi, List.any_cons, List.any_nil, List.getElem?_cons_zero, List.getElem?_cons_succ, List.set_cons_zero, List.set_cons_succ]); (try simp only [true_and, ex2, Option.some.injEq, exists_eq_left']))
              refine go_take (by omega) (by omega) (by omega) fun r1 h0 h1 => ?_
              ((try dsimp only [fVar, fC, faNil, faCons, fTup, fnLst, fFz, fOp, fUn, fTB, fAndT, fOrT, fNotT, fAndV, fOrV, fNotV, fIf, fChain, fNoP, fPart, sliceF, fSlice, fCB, fName, fGNil, fGCons, fGTup, fSubL, fPass, fBreak, fCont, fNever, fSNil, fDrop, fRet, fRetN, fIfS, fAsg, fSet, fOwn, fOwnM, fSeq, fRaise, fFrz, fCall, fWhile, fFor, listW, seqW, pyW, addF, subF, ii, mulF, mulXF, fdivF, modF, powF, negF, ordF, ltF, leF, gtF, geF, eqF, isNonW, isNF, inF, inDF, ixF, tyW, fIsi, fIsiT, f1c, lenF, absF, intF, tupleF, boolsF, allF, anyF, reprF, fnListX, fItAny, fItR1, fItR2, fItEnum, fnLc, fnLcI, fnLcO, fMeth, appendF, popF, indexF, countBF, fMR, fJoin, fFind, fnSortSet, fIndexS, fnRep, fCallW, fCallN, fLamG, fParA, fEvalA, putFr, plains, Still, FSt.set_mk, FSt.pn, isi, List.any_cons, List.any_nil, List.getElem?_cons_zero, List.getElem?_cons_succ, List.set_cons_zero, List.set_cons_succ]); (try simp only [true_and, ex2, Option.some.injEq, exists_eq_left']))
              refine go_take (by omega) (by omega) (by omega) fun r2 g0 g1 => ?_
              ((try dsimp only [fVar, fC, faNil, faCons, fTup, fnLst, fFz, fOp, fUn, fTB, fAndT, fOrT, fNotT, fAndV, fOrV, fNotV, fIf, fChain, fNoP, fPart, sliceF, fSlice, fCB, fName, fGNil, fGCons, fGTup, fSubL, fPass, fBreak, fCont, fNever, fSNil, fDrop, fRet, fRetN, fIfS, fAsg, fSet, fOwn, fOwnM, fSeq, fRaise, fFrz, fCall, fWhile, fFor, listW, seqW, pyW, addF, subF, ii, mulF, mulXF, fdivF, modF, powF, negF, ordF, ltF, leF, gtF, geF, eqF, isNonW, isNF, inF, inDF, ixF, tyW, fIsi, fIsiT, f1c, lenF, absF, intF, tupleF, boolsF, allF, anyF, reprF, fnListX, fItAny, fItR1, fItR2, fItEnum, fnLc, fnLcI, fnLcO, fMeth, appendF, popF, indexF, countBF, fMR, fJoin, fFind, fnSortSet, fIndexS, fnRep, fCallW, fCallN, fLamG, fParA, fEvalA, putFr, plains, Still, FSt.set_mk, FSt.pn, isi, List.any_cons, List.any_nil, List.getElem?_cons_zero, List.getElem?_cons_succ, List.set_cons_zero, List.set_cons_succ]); (try simp only [true_and, ex2, Option.some.injEq, exists_eq_left']))
              have fin : ∀ o : Option Nat, (∀ i, o = some i → i < m) → R (.v (optU o)) ⟨[some (.v .pen), some (.v (.str (tx cs))), some (.v (.int most)), some (.v (.int m)), some (.ol 4 (sts.map rowU)), some (.v (.int (0 + (x : Int)))), w6, some (.v (.str (tx [c]))), w8], n2 + 1 + 1 + 1⟩ := fun o ho => by
                refine k _ _ ⟨r ++ [o], n2 + 1 + 1 + 1, _, by simp, by simp; omega, fun i hi => ?_, by simp; omega, rfl⟩
                rcases List.mem_append.mp hi with h | h
                · exact hrm i h
                · exact ho i (List.mem_singleton.mp h).symm
              refine ⟨by rw [sizeLine_eq]; simp, ?_⟩
              refine go_pick (by simp) (by simp) (by omega) fun u hu => ?_
              simp only [List.mem_cons, List.not_mem_nil, or_false] at hu
              rcases hu with rfl | rfl | rfl
              · exact fin none fun _ h => by cases h
              · have := fin (some r1.toNat) fun _ h => by cases h; omega
                rw [optU, Int.toNat_of_nonneg h0] at this; exact this
              · have := fin (some r2.toNat) fun _ h => by cases h; omega
                rw [optU, Int.toNat_of_nonneg g0] at this; exact this
          · rintro _ ⟨r, n2, w7, hrl, hrm, hn2, rfl⟩
            have := hc.2.1
            have := hc.1
            rw [List.length_cons] at e
            refine seqF (fun s => ∃ (r : List (Option Nat)) (n3 : Nat) (w8 : Option W), r.length = cs.length ∧ (∀ k, some k ∈ r → k < m) ∧ (∃ k, some k ∈ r) ∧ n3 ≤ n2 + 2 ∧ s = ⟨[some (.v .pen), some (.v (.str (tx cs))), some (.v (.int most)), some (.v (.int m)), some (.ol 4 (sts.map rowU)), some (.v (.int (0 + (x : Int)))), some (.ol 6 (r.map optU)), w7, w8], n3⟩) ?_ ?_
            · have cond : bcase (inV (fuV (.bl false)) ((((r.map optU).map isNonU).map U.bl).map fuV) ^^ true) (∀ k, some k ∉ r) (∃ k, some k ∈ r) := by
                rw [inV_bl]
                by_cases h : ∃ k, some k ∈ r
                · refine bcase_f ?_ h
                  obtain ⟨k, hk⟩ := h
                  have : ((r.map optU).map isNonU).contains false = true := by
                    rw [List.contains_iff_mem, List.map_map]
                    exact List.mem_map.mpr ⟨_, hk, rfl⟩
                  rw [this]; rfl
                · refine bcase_t ?_ (fun k hk => h ⟨k, hk⟩)
                  have : ((r.map optU).map isNonU).contains false = false := by
                    rw [← Bool.not_eq_true, List.contains_iff_mem, List.map_map]
                    intro hm
                    obtain ⟨o, ho, e⟩ := List.mem_map.mp hm
                    cases o with
                    | none => cases e
                    | some k => exact h ⟨k, ho⟩
                  rw [this]; rfl
              refine ifF (fun k s => (∃ w8, s = ⟨[some (.v .pen), some (.v (.str (tx cs))), some (.v (.int most)), some (.v (.int m)), some (.ol 4 (sts.map rowU)), some (.v (.int (0 + (x : Int)))), some (.ol 6 (r.map optU)), w7, w8], n2⟩) ∧ bcase k (∀ k, some k ∉ r) (∃ k, some k ∈ r)) ?_ ?_
              · ((try dsimp only [fVar, fC, faNil, faCons, fTup, fnLst, fFz, fOp, fUn, fTB, fAndT, fOrT, fNotT, fAndV, fOrV, fNotV, fIf, fChain, fNoP, fPart, sliceF, fSlice, fCB, fName, fGNil, fGCons, fGTup, fSubL, fPass, fBreak, fCont, fNever, fSNil, fDrop, fRet, fRetN, fIfS, fAsg, fSet, fOwn, fOwnM, fSeq, fRaise, fFrz, fCall, fWhile, fFor, listW, seqW, pyW, addF, subF, ii, mulF, mulXF, fdivF, modF, powF, negF, ordF, ltF, leF, gtF, geF, eqF, isNonW, isNF, inF, inDF, ixF, tyW, fIsi, fIsiT, f1c, lenF, absF, intF, tupleF, boolsF, allF, anyF, reprF, fnListX, fItAny, fItR1, fItR2, fItEnum, fnLc, fnLcI, fnLcO, fMeth, appendF, popF, indexF, countBF, fMR, fJoin, fFind, fnSortSet, fIndexS, fnRep, fCallW, fCallN, fLamG, fParA, fEvalA, putFr, plains, Still, FSt.set_mk, FSt.pn, isi, List.any_cons, List.any_nil, List.getElem?_cons_zero, List.getElem?_cons_succ, List.set_cons_zero, List.set_cons_succ]); (try simp only [true_and, ex2, Option.some.injEq, exists_eq_left']))
                refine ⟨rfl, ?_⟩
                refine lcFO_mapU (fun x => .bl (isNonU x)) (fun s => ∃ w8, s = ⟨[some (.v .pen), some (.v (.str (tx cs))), some (.v (.int most)), some (.v (.int m)), some (.ol 4 (sts.map rowU)), some (.v (.int (0 + (x : Int)))), some (.ol 6 (r.map optU)), w7, w8], n2⟩) (by rintro _ ⟨w, rfl⟩; rfl) _ ?_ _ _ ⟨none, rfl⟩ (by rw [sizeLine_eq]; simp; omega) ?_
                · rintro u hu s R ⟨w, rfl⟩ k
                  have := k ⟨[some (.v .pen), some (.v (.str (tx cs))), some (.v (.int most)), some (.v (.int m)), some (.ol 4 (sts.map rowU)), some (.v (.int (0 + (x : Int)))), some (.ol 6 (r.map optU)), w7, some (.v u)], n2⟩ ⟨_, rfl⟩
                  refine ⟨trivial, ?_⟩
                  cases u <;> exact this
                · rintro s' ⟨w, rfl⟩
                  have eb : (([] : List U) ++ List.map (fun x => U.bl (isNonU x)) (r.map optU)) = ((r.map optU).map isNonU).map U.bl := by rw [List.nil_append]; simp only [List.map_map]; rfl
                  rw [eb]
                  exact ⟨rfl, flat_bl _, ⟨_, rfl⟩, cond⟩
              · rintro k _ ⟨⟨w8, rfl⟩, hk⟩
                refine bcase_mono hk (fun hk => ?_) fun hk => ?_
                · ((try dsimp only [fVar, fC, faNil, faCons, fTup, fnLst, fFz, fOp, fUn, fTB, fAndT, fOrT, fNotT, fAndV, fOrV, fNotV, fIf, fChain, fNoP, fPart, sliceF, fSlice, fCB, fName, fGNil, fGCons, fGTup, fSubL, fPass, fBreak, fCont, fNever, fSNil, fDrop, fRet, fRetN, fIfS, fAsg, fSet, fOwn, fOwnM, fSeq, fRaise, fFrz, fCall, fWhile, fFor, listW, seqW, pyW, addF, subF, ii, mulF, mulXF, fdivF, modF, powF, negF, ordF, ltF, leF, gtF, geF, eqF, isNonW, isNF, inF, inDF, ixF, tyW, fIsi, fIsiT, f1c, lenF, absF, intF, tupleF, boolsF, allF, anyF, reprF, fnListX, fItAny, fItR1, fItR2, fItEnum, fnLc, fnLcI, fnLcO, fMeth, appendF, popF, indexF, countBF, fMR, fJoin, fFind, fnSortSet, fIndexS, fnRep, fCallW, fCallN, fLamG, fParA, fEvalA, putFr, plains, Still, FSt.set_mk, FSt.pn, isi, List.any_cons, List.any_nil, List.getElem?_cons_zero, List.getElem?_cons_succ, List.set_cons_zero, List.set_cons_succ]); (try simp only [true_and, ex2, Option.some.injEq, exists_eq_left']))
                  refine go_take (by omega) (by omega) (by omega) fun v v0 v1 => ?_
                  ((try dsimp only [fVar, fC, faNil, faCons, fTup, fnLst, fFz, fOp, fUn, fTB, fAndT, fOrT, fNotT, fAndV, fOrV, fNotV, fIf, fChain, fNoP, fPart, sliceF, fSlice, fCB, fName, fGNil, fGCons, fGTup, fSubL, fPass, fBreak, fCont, fNever, fSNil, fDrop, fRet, fRetN, fIfS, fAsg, fSet, fOwn, fOwnM, fSeq, fRaise, fFrz, fCall, fWhile, fFor, listW, seqW, pyW, addF, subF, ii, mulF, mulXF, fdivF, modF, powF, negF, ordF, ltF, leF, gtF, geF, eqF, isNonW, isNF, inF, inDF, ixF, tyW, fIsi, fIsiT, f1c, lenF, absF, intF, tupleF, boolsF, allF, anyF, reprF, fnListX, fItAny, fItR1, fItR2, fItEnum, fnLc, fnLcI, fnLcO, fMeth, appendF, popF, indexF, countBF, fMR, fJoin, fFind, fnSortSet, fIndexS, fnRep, fCallW, fCallN, fLamG, fParA, fEvalA, putFr, plains, Still, FSt.set_mk, FSt.pn, isi, List.any_cons, List.any_nil, List.getElem?_cons_zero, List.getElem?_cons_succ, List.set_cons_zero, List.set_cons_succ]); (try simp only [true_and, ex2, Option.some.injEq, exists_eq_left']))
                  refine go_take (by rw [List.length_map]; omega) (by rw [List.length_map]; omega) (by omega) fun p p0 p1 => ?_
                  rw [List.length_map] at p1
                  ((try dsimp only [fVar, fC, faNil, faCons, fTup, fnLst, fFz, fOp, fUn, fTB, fAndT, fOrT, fNotT, fAndV, fOrV, fNotV, fIf, fChain, fNoP, fPart, sliceF, fSlice, fCB, fName, fGNil, fGCons, fGTup, fSubL, fPass, fBreak, fCont, fNever, fSNil, fDrop, fRet, fRetN, fIfS, fAsg, fSet, fOwn, fOwnM, fSeq, fRaise, fFrz, fCall, fWhile, fFor, listW, seqW, pyW, addF, subF, ii, mulF, mulXF, fdivF, modF, powF, negF, ordF, ltF, leF, gtF, geF, eqF, isNonW, isNF, inF, inDF, ixF, tyW, fIsi, fIsiT, f1c, lenF, absF, intF, tupleF, boolsF, allF, anyF, reprF, fnListX, fItAny, fItR1, fItR2, fItEnum, fnLc, fnLcI, fnLcO, fMeth, appendF, popF, indexF, countBF, fMR, fJoin, fFind, fnSortSet, fIndexS, fnRep, fCallW, fCallN, fLamG, fParA, fEvalA, putFr, plains, Still, FSt.set_mk, FSt.pn, isi, List.any_cons, List.any_nil, List.getElem?_cons_zero, List.getElem?_cons_succ, List.set_cons_zero, List.set_cons_succ]); (try simp only [true_and, ex2, Option.some.injEq, exists_eq_left']))
                  refine ⟨p.toNat, by rw [ixN_in p0 (by rw [List.length_map]; omega)], r.set p.toNat (some v.toNat), n2 + 2, w8, by rw [List.length_set]; exact hrl, fun k hk => ?_, ⟨v.toNat, ?_⟩, Nat.le_refl _, ?_⟩
                  · rcases List.mem_or_eq_of_mem_set hk with h | h
                    · exact hrm k h
                    · cases h; omega
                  · exact List.mem_set (by omega) _
                  · rw [List.map_set, optU, Int.toNat_of_nonneg v0]
                · exact ⟨r, n2, w8, hrl, hrm, hk, by omega, rfl⟩
            · rintro _ ⟨r, n3, w8, hrl, hrm, hre, hn3, rfl⟩
              ((try dsimp only [fVar, fC, faNil, faCons, fTup, fnLst, fFz, fOp, fUn, fTB, fAndT, fOrT, fNotT, fAndV, fOrV, fNotV, fIf, fChain, fNoP, fPart, sliceF, fSlice, fCB, fName, fGNil, fGCons, fGTup, fSubL, fPass, fBreak, fCont, fNever, fSNil, fDrop, fRet, fRetN, fIfS, fAsg, fSet, fOwn, fOwnM, fSeq, fRaise, fFrz, fCall, fWhile, fFor, listW, seqW, pyW, addF, subF, ii, mulF, mulXF, fdivF, modF, powF, negF, ordF, ltF, leF, gtF, geF, eqF, isNonW, isNF, inF, inDF, ixF, tyW, fIsi, fIsiT, f1c, lenF, absF, intF, tupleF, boolsF, allF, anyF, reprF, fnListX, fItAny, fItR1, fItR2, fItEnum, fnLc, fnLcI, fnLcO, fMeth, appendF, popF, indexF, countBF, fMR, fJoin, fFind, fnSortSet, fIndexS, fnRep, fCallW, fCallN, fLamG, fParA, fEvalA, putFr, plains, Still, FSt.set_mk, FSt.pn, isi, List.any_cons, List.any_nil, List.getElem?_cons_zero, List.getElem?_cons_succ, List.set_cons_zero, List.set_cons_succ]); (try simp only [true_and, ex2, Option.some.injEq, exists_eq_left']))
              refine ⟨by rw [sizeLine_eq]; simp; omega, hR _ ⟨sts ++ [r], n3, _, _, _, _, by simp; omega, fun q hq => ?_, by simp; omega, by rw [List.map_append]; rfl⟩⟩
              rcases List.mem_append.mp hq with h | h
              · exact hr q h
              · rw [List.mem_singleton.mp h]; exact ⟨hrl, hrm, hre⟩
    · rintro _ ⟨sts, n', w5, w6, w7, w8, hl, ok, hn', rfl⟩
      ((try dsimp only [fVar, fC, faNil, faCons, fTup, fnLst, fFz, fOp, fUn, fTB, fAndT, fOrT, fNotT, fAndV, fOrV, fNotV, fIf, fChain, fNoP, fPart, sliceF, fSlice, fCB, fName, fGNil, fGCons, fGTup, fSubL, fPass, fBreak, fCont, fNever, fSNil, fDrop, fRet, fRetN, fIfS, fAsg, fSet, fOwn, fOwnM, fSeq, fRaise, fFrz, fCall, fWhile, fFor, listW, seqW, pyW, addF, subF, ii, mulF, mulXF, fdivF, modF, powF, negF, ordF, ltF, leF, gtF, geF, eqF, isNonW, isNF, inF, inDF, ixF, tyW, fIsi, fIsiT, f1c, lenF, absF, intF, tupleF, boolsF, allF, anyF, reprF, fnListX, fItAny, fItR1, fItR2, fItEnum, fnLc, fnLcI, fnLcO, fMeth, appendF, popF, indexF, countBF, fMR, fJoin, fFind, fnSortSet, fIndexS, fnRep, fCallW, fCallN, fLamG, fParA, fEvalA, putFr, plains, Still, FSt.set_mk, FSt.pn, isi, List.any_cons, List.any_nil, List.getElem?_cons_zero, List.getElem?_cons_succ, List.set_cons_zero, List.set_cons_succ]); (try simp only [true_and, ex2, Option.some.injEq, exists_eq_left']))
      exact ⟨by rw [sizeLine_eq]; simp, q sts n' hn' ok⟩

abbrev F_law_x_path : FSp := fun us n Q X => ∃ cs sts, ∃ k many : Nat, us = [.pen, ruleU cs sts, .int k, .int many] ∧ OkR cs sts ∧ k < sts.length ∧ many ≤ 1000 ∧ n + many ≤ 1000000 ∧
  ∀ ws (k' : Nat), ws.length = many → (∀ c ∈ ws, c ∈ cs) → k' < sts.length → afterR cs sts (some k) ws = some k' → Q (.tup [.str (tx ws), .int k']) (n + many)

def f_law_x_path : FS :=
  fSeq (fSet 4 (fC (.str "")))
  (fSeq (fFor (fItR1 (fVar 3)) (fName 5) (fSeq (fSet 6 (fCall F_law_x_pick (faCons (fVar 0) (faCons (fFz (fnLcI (fItR1 (fCB lenF (faCons (fOp ixF (fVar 1) (fC (.int 0))) (faNil)))) 7 (fTB (fOp (isNF true) (fOp ixF (fOp ixF (fOp ixF (fVar 1) (fC (.int 1))) (fVar 2)) (fVar 7)) (fC .non))) (fVar 7))) (faNil)))))
  (fParA [4, 2] [.v (fOp addF (fVar 4) (fOp ixF (fOp ixF (fVar 1) (fC (.int 0))) (fVar 6))), .v (fOp ixF (fOp ixF (fOp ixF (fVar 1) (fC (.int 1))) (fVar 2)) (fVar 6))])))
  (fRet (fTup (faCons (fVar 4) (faCons (fVar 2) (faNil))))))
-- slots of _law_x_path: 0=pen 1=rule 2=state 3=many 4=text 5=turn 6=at 7=k

theorem afterR_app {cs : List Nat} {sts : List (List (Option Nat))} {k : Option Nat} (a b : List Nat) : afterR cs sts k (a ++ b) = afterR cs sts (afterR cs sts k a) b := by
  unfold afterR; rw [List.foldl_append]
theorem fp_law_x_path : ∀ us n Q X, us.length = 4 → F_law_x_path us n Q X → f_law_x_path.run X { nx := fun s => Q .non s.n, rt := Q } ⟨fStart 8 us, n⟩ := by
  rintro us n Q X hl ⟨cs, sts, k, many, rfl, ok, hk, hm, hn, q⟩
  show f_law_x_path.run X _ ⟨[some (.v .pen), some (.v (ruleU cs sts)), some (.v (.int k)), some (.v (.int many)), none, none, none, none], n⟩
  unfold f_law_x_path
  refine seqF (fun s => s = ⟨[some (.v .pen), some (.v (ruleU cs sts)), some (.v (.int k)), some (.v (.int many)), some (.v (.str (tx []))), none, none, none], n⟩) ?_ ?_
  · ((try dsimp only [fVar, fC, faNil, faCons, fTup, fnLst, fFz, fOp, fUn, fTB, fAndT, fOrT, fNotT, fAndV, fOrV, fNotV, fIf, fChain, fNoP, fPart, sliceF, fSlice, fCB, fName, fGNil, fGCons, fGTup, fSubL, fPass, fBreak, fCont, fNever, fSNil, fDrop, fRet, fRetN, fIfS, fAsg, fSet, fOwn, fOwnM, fSeq, fRaise, fFrz, fCall, fWhile, fFor, listW, seqW, pyW, addF, subF, ii, mulF, mulXF, fdivF, modF, powF, negF, ordF, ltF, leF, gtF, geF, eqF, isNonW, isNF, inF, inDF, ixF, tyW, fIsi, fIsiT, f1c, lenF, absF, intF, tupleF, boolsF, allF, anyF, reprF, fnListX, fItAny, fItR1, fItR2, fItEnum, fnLc, fnLcI, fnLcO, fMeth, appendF, popF, indexF, countBF, fMR, fJoin, fFind, fnSortSet, fIndexS, fnRep, fCallW, fCallN, fLamG, fParA, fEvalA, putFr, plains, Still, FSt.set_mk, FSt.pn, isi, List.any_cons, List.any_nil, List.getElem?_cons_zero, List.getElem?_cons_succ, List.set_cons_zero, List.set_cons_succ]); (try simp only [true_and, ex2, Option.some.injEq, exists_eq_left']))
    rfl
  · rintro _ rfl
    refine seqF (fun s => ∃ (ws : List Nat) (j : Nat) (w5 w6 w7 : Option W), ws.length = many ∧ (∀ c ∈ ws, c ∈ cs) ∧ j < sts.length ∧ afterR cs sts (some k) ws = some j ∧ s = ⟨[some (.v .pen), some (.v (ruleU cs sts)), some (.v (.int j)), some (.v (.int many)), some (.v (.str (tx ws))), w5, w6, w7], n + many⟩) ?_ ?_
    · refine forS (fun us s => us = rngU 0 many ∧ s = ⟨[some (.v .pen), some (.v (ruleU cs sts)), some (.v (.int k)), some (.v (.int many)), some (.v (.str (tx []))), none, none, none], n⟩) ?_ ?_
      · ((try dsimp only [fVar, fC, faNil, faCons, fTup, fnLst, fFz, fOp, fUn, fTB, fAndT, fOrT, fNotT, fAndV, fOrV, fNotV, fIf, fChain, fNoP, fPart, sliceF, fSlice, fCB, fName, fGNil, fGCons, fGTup, fSubL, fPass, fBreak, fCont, fNever, fSNil, fDrop, fRet, fRetN, fIfS, fAsg, fSet, fOwn, fOwnM, fSeq, fRaise, fFrz, fCall, fWhile, fFor, listW, seqW, pyW, addF, subF, ii, mulF, mulXF, fdivF, modF, powF, negF, ordF, ltF, leF, gtF, geF, eqF, isNonW, isNF, inF, inDF, ixF, tyW, fIsi, fIsiT, f1c, lenF, absF, intF, tupleF, boolsF, allF, anyF, reprF, fnListX, fItAny, fItR1, fItR2, fItEnum, fnLc, fnLcI, fnLcO, fMeth, appendF, popF, indexF, countBF, fMR, fJoin, fFind, fnSortSet, fIndexS, fnRep, fCallW, fCallN, fLamG, fParA, fEvalA, putFr, plains, Still, FSt.set_mk, FSt.pn, isi, List.any_cons, List.any_nil, List.getElem?_cons_zero, List.getElem?_cons_succ, List.set_cons_zero, List.set_cons_succ]); (try simp only [true_and, ex2, Option.some.injEq, exists_eq_left']))
        exact ⟨⟨by omega, by omega⟩, by rw [Int.toNat_natCast], trivial⟩
      · rintro us _ ⟨he, rfl⟩
        rw [he]
        refine forF_inv (fun (i : Nat) => U.int (0 + (i : Int))) (fun rest s => ∃ (ws : List Nat) (j : Nat) (w5 w6 w7 : Option W), ws.length + rest.length = many ∧ (∀ c ∈ ws, c ∈ cs) ∧ j < sts.length ∧ afterR cs sts (some k) ws = some j ∧ s = ⟨[some (.v .pen), some (.v (ruleU cs sts)), some (.v (.int j)), some (.v (.int many)), some (.v (.str (tx ws))), w5, w6, w7], n + ws.length⟩) ?_ (List.range many) ?_ _ ⟨[], k, _, _, _, by simp, (fun _ h => by cases h), hk, rfl, rfl⟩
        · rintro s ⟨ws, j, w5, w6, w7, h1, h2, h3, h4, rfl⟩
          simp at h1
          exact ⟨ws, j, _, _, _, h1, h2, h3, h4, by rw [h1]⟩
        · rintro x rest ⟨pre, hp⟩ s R ⟨ws, j, w5, w6, w7, h1, h2, h3, h4, rfl⟩ hR
          rw [List.length_cons] at h1
          dsimp only [fName, FSt.set_mk, List.set_cons_zero, List.set_cons_succ]
          obtain ⟨r, hr1, hr2, hr3, hr4⟩ := look_row ok h3
          refine seqF (fun s => ∃ (i : Nat) (o : Nat) (w7 : Option W), i < cs.length ∧ (sts.getD j []).getD i none = some o ∧ s = ⟨[some (.v .pen), some (.v (ruleU cs sts)), some (.v (.int j)), some (.v (.int many)), some (.v (.str (tx ws))), some (.v (.int (0 + (x : Int)))), some (.v (.int i)), w7], n + ws.length + 1⟩) ?_ ?_
          · unfold ruleU
            ((try dsimp only [fVar, fC, faNil, faCons, fTup, fnLst, fFz, fOp, fUn, fTB, fAndT, fOrT, fNotT, fAndV, fOrV, fNotV, fIf, fChain, fNoP, fPart, sliceF, fSlice, fCB, fName, fGNil, fGCons, fGTup, fSubL, fPass, fBreak, fCont, fNever, fSNil, fDrop, fRet, fRetN, fIfS, fAsg, fSet, fOwn, fOwnM, fSeq, fRaise, fFrz, fCall, fWhile, fFor, listW, seqW, pyW, addF, subF, ii, mulF, mulXF, fdivF, modF, powF, negF, ordF, ltF, leF, gtF, geF, eqF, isNonW, isNF, inF, inDF, ixF, tyW, fIsi, fIsiT, f1c, lenF, absF, intF, tupleF, boolsF, allF, anyF, reprF, fnListX, fItAny, fItR1, fItR2, fItEnum, fnLc, fnLcI, fnLcO, fMeth, appendF, popF, indexF, countBF, fMR, fJoin, fFind, fnSortSet, fIndexS, fnRep, fCallW, fCallN, fLamG, fParA, fEvalA, putFr, plains, Still, FSt.set_mk, FSt.pn, isi, List.any_cons, List.any_nil, List.getElem?_cons_zero, List.getElem?_cons_succ, List.set_cons_zero, List.set_cons_succ]); (try simp only [true_and, ex2, Option.some.injEq, exists_eq_left']))
            have hc3 := ok.ltr.2.1
            refine ⟨_, ruleU_0 cs sts, by rw [tx_len, sizeLine_eq]; omega, by rw [tx_len]; omega, ?_⟩
            rw [tx_len, Int.toNat_natCast]
            refine lcFI_map (fun i : Nat => U.int (0 + (i : Int))) (fun i => ((sts.getD j []).getD i none).isSome) (fun i => U.int (0 + (i : Int))) (fun s => ∃ w7, s = ⟨[some (.v .pen), some (.v (.tup [.str (tx cs), .tup (sts.map rowU)])), some (.v (.int j)), some (.v (.int many)), some (.v (.str (tx ws))), some (.v (.int (0 + (x : Int)))), w6, w7], n + ws.length⟩) (fun i s => s = ⟨[some (.v .pen), some (.v (.tup [.str (tx cs), .tup (sts.map rowU)])), some (.v (.int j)), some (.v (.int many)), some (.v (.str (tx ws))), some (.v (.int (0 + (x : Int)))), w6, some (.v (.int (0 + (i : Int))))], n + ws.length⟩) (List.range cs.length) ?_ ?_ _ _ ⟨none, rfl⟩ (by rw [sizeLine_eq]; simp; omega) ?_
            · rintro i hi s R ⟨w, rfl⟩ k
              obtain ⟨o, ho1, ho2⟩ := hr4 i (List.mem_range.mp hi)
              ((try dsimp only [fVar, fC, faNil, faCons, fTup, fnLst, fFz, fOp, fUn, fTB, fAndT, fOrT, fNotT, fAndV, fOrV, fNotV, fIf, fChain, fNoP, fPart, sliceF, fSlice, fCB, fName, fGNil, fGCons, fGTup, fSubL, fPass, fBreak, fCont, fNever, fSNil, fDrop, fRet, fRetN, fIfS, fAsg, fSet, fOwn, fOwnM, fSeq, fRaise, fFrz, fCall, fWhile, fFor, listW, seqW, pyW, addF, subF, ii, mulF, mulXF, fdivF, modF, powF, negF, ordF, ltF, leF, gtF, geF, eqF, isNonW, isNF, inF, inDF, ixF, tyW, fIsi, fIsiT, f1c, lenF, absF, intF, tupleF, boolsF, allF, anyF, reprF, fnListX, fItAny, fItR1, fItR2, fItEnum, fnLc, fnLcI, fnLcO, fMeth, appendF, popF, indexF, countBF, fMR, fJoin, fFind, fnSortSet, fIndexS, fnRep, fCallW, fCallN, fLamG, fParA, fEvalA, putFr, plains, Still, FSt.set_mk, FSt.pn, isi, List.any_cons, List.any_nil, List.getElem?_cons_zero, List.getElem?_cons_succ, List.set_cons_zero, List.set_cons_succ]); (try simp only [true_and, ex2, Option.some.injEq, exists_eq_left']))
              refine ⟨_, ruleU_1 cs sts, _, _, rfl, hr1, _, _, rfl, by rw [Int.zero_add]; exact ho1, ?_⟩
              have := k _ rfl ⟨_, rfl⟩
              rw [ho2] at this
              cases o <;> exact this
            · rintro i hi hp s R rfl k
              exact k _ ⟨_, rfl⟩
            · rintro s' ⟨w, rfl⟩
              rw [List.nil_append]
              obtain ⟨o1, ho1⟩ := (ok.row r hr2).2.2
              obtain ⟨i1, hi1, ei1⟩ := List.mem_iff_getElem.mp ho1
              obtain ⟨o2, ho2, ho3⟩ := hr4 i1 (by omega)
              have : o2 = some o1 := by
                rw [atI_nat (by rw [List.length_map]; exact hi1), List.getElem_map, ei1] at ho2
                cases o2 with
                | none => cases ho2
                | some o2 => injection ho2 with h; injection h with h; rw [Int.ofNat.inj h]
              subst this
              refine go_pick ?_ ?_ (by show n + ws.length < _; omega) fun u hu => ?_
              · intro z
                have : i1 ∈ (List.range cs.length).filter (fun i => ((sts.getD j []).getD i none).isSome) := List.mem_filter.mpr ⟨List.mem_range.mpr (by omega), by rw [ho3]; rfl⟩
                rw [List.map_eq_nil_iff.mp z] at this
                cases this
              · rw [List.length_map]
                have := List.length_filter_le (fun i => ((sts.getD j []).getD i none).isSome) (List.range cs.length)
                rw [List.length_range] at this
                omega
              · obtain ⟨i, hi, rfl⟩ := List.mem_map.mp hu
                obtain ⟨h1, h2⟩ := List.mem_filter.mp hi
                obtain ⟨o, ho⟩ := Option.isSome_iff_exists.mp h2
                rw [show (0 : Int) + (i : Int) = (i : Int) from Int.zero_add _]
                exact ⟨i, o, _, List.mem_range.mp h1, ho, rfl⟩
          · rintro _ ⟨i, o, w7, hi, ho, rfl⟩
            unfold ruleU
            ((try dsimp only [fVar, fC, faNil, faCons, fTup, fnLst, fFz, fOp, fUn, fTB, fAndT, fOrT, fNotT, fAndV, fOrV, fNotV, fIf, fChain, fNoP, fPart, sliceF, fSlice, fCB, fName, fGNil, fGCons, fGTup, fSubL, fPass, fBreak, fCont, fNever, fSNil, fDrop, fRet, fRetN, fIfS, fAsg, fSet, fOwn, fOwnM, fSeq, fRaise, fFrz, fCall, fWhile, fFor, listW, seqW, pyW, addF, subF, ii, mulF, mulXF, fdivF, modF, powF, negF, ordF, ltF, leF, gtF, geF, eqF, isNonW, isNF, inF, inDF, ixF, tyW, fIsi, fIsiT, f1c, lenF, absF, intF, tupleF, boolsF, allF, anyF, reprF, fnListX, fItAny, fItR1, fItR2, fItEnum, fnLc, fnLcI, fnLcO, fMeth, appendF, popF, indexF, countBF, fMR, fJoin, fFind, fnSortSet, fIndexS, fnRep, fCallW, fCallN, fLamG, fParA, fEvalA, putFr, plains, Still, FSt.set_mk, FSt.pn, isi, List.any_cons, List.any_nil, List.getElem?_cons_zero, List.getElem?_cons_succ, List.set_cons_zero, List.set_cons_succ]); (try simp only [true_and, ex2, Option.some.injEq, exists_eq_left']))
            refine ⟨_, ruleU_0 cs sts, _, by rw [tx_len, sizeLine_eq]; have := ok.ltr.2.1; omega, by rw [tx_cps]; exact atI_nat hi, by rw [tx_len, sizeLine_eq]; show ws.length + 1 ≤ _; omega, ?_⟩
            ((try dsimp only [fVar, fC, faNil, faCons, fTup, fnLst, fFz, fOp, fUn, fTB, fAndT, fOrT, fNotT, fAndV, fOrV, fNotV, fIf, fChain, fNoP, fPart, sliceF, fSlice, fCB, fName, fGNil, fGCons, fGTup, fSubL, fPass, fBreak, fCont, fNever, fSNil, fDrop, fRet, fRetN, fIfS, fAsg, fSet, fOwn, fOwnM, fSeq, fRaise, fFrz, fCall, fWhile, fFor, listW, seqW, pyW, addF, subF, ii, mulF, mulXF, fdivF, modF, powF, negF, ordF, ltF, leF, gtF, geF, eqF, isNonW, isNF, inF, inDF, ixF, tyW, fIsi, fIsiT, f1c, lenF, absF, intF, tupleF, boolsF, allF, anyF, reprF, fnListX, fItAny, fItR1, fItR2, fItEnum, fnLc, fnLcI, fnLcO, fMeth, appendF, popF, indexF, countBF, fMR, fJoin, fFind, fnSortSet, fIndexS, fnRep, fCallW, fCallN, fLamG, fParA, fEvalA, putFr, plains, Still, FSt.set_mk, FSt.pn, isi, List.any_cons, List.any_nil, List.getElem?_cons_zero, List.getElem?_cons_succ, List.set_cons_zero, List.set_cons_succ]); (try simp only [true_and, ex2, Option.some.injEq, exists_eq_left']))
            obtain ⟨o', ho1, ho2⟩ := hr4 i hi
            rw [ho] at ho2
            refine ⟨_, ruleU_1 cs sts, _, _, rfl, hr1, _, _, rfl, ho1, rfl, ?_⟩
            subst ho2
            ((try dsimp only [fVar, fC, faNil, faCons, fTup, fnLst, fFz, fOp, fUn, fTB, fAndT, fOrT, fNotT, fAndV, fOrV, fNotV, fIf, fChain, fNoP, fPart, sliceF, fSlice, fCB, fName, fGNil, fGCons, fGTup, fSubL, fPass, fBreak, fCont, fNever, fSNil, fDrop, fRet, fRetN, fIfS, fAsg, fSet, fOwn, fOwnM, fSeq, fRaise, fFrz, fCall, fWhile, fFor, listW, seqW, pyW, addF, subF, ii, mulF, mulXF, fdivF, modF, powF, negF, ordF, ltF, leF, gtF, geF, eqF, isNonW, isNF, inF, inDF, ixF, tyW, fIsi, fIsiT, f1c, lenF, absF, intF, tupleF, boolsF, allF, anyF, reprF, fnListX, fItAny, fItR1, fItR2, fItEnum, fnLc, fnLcI, fnLcO, fMeth, appendF, popF, indexF, countBF, fMR, fJoin, fFind, fnSortSet, fIndexS, fnRep, fCallW, fCallN, fLamG, fParA, fEvalA, putFr, plains, Still, FSt.set_mk, FSt.pn, isi, List.any_cons, List.any_nil, List.getElem?_cons_zero, List.getElem?_cons_succ, List.set_cons_zero, List.set_cons_succ]); (try simp only [true_and, ex2, Option.some.injEq, exists_eq_left']))
            refine hR _ ⟨ws ++ [cs[i]], o, some (.v (.int (0 + (x : Int)))), some (.v (.int i)), w7, by rw [List.length_append]; simp; omega, fun c hc => ?_, ?_, ?_, ?_⟩
            · rcases List.mem_append.mp hc with h | h
              · exact h2 c h
              · rw [List.mem_singleton.mp h]; exact List.getElem_mem hi
            · have hst : stepR cs sts (some j) cs[i] = some o := by
                rw [stepR, (ok.ltr.ix (List.getElem?_eq_getElem hi)).2]; exact ho
              exact stepR_lt ok hst
            · rw [afterR_app, h4]
              show stepR cs sts (some j) cs[i] = some o
              rw [stepR, (ok.ltr.ix (List.getElem?_eq_getElem hi)).2]; exact ho
            · rw [← tx_app, List.length_append]; rfl
    · rintro _ ⟨ws, j, w5, w6, w7, h1, h2, h3, h4, rfl⟩
      ((try dsimp only [fVar, fC, faNil, faCons, fTup, fnLst, fFz, fOp, fUn, fTB, fAndT, fOrT, fNotT, fAndV, fOrV, fNotV, fIf, fChain, fNoP, fPart, sliceF, fSlice, fCB, fName, fGNil, fGCons, fGTup, fSubL, fPass, fBreak, fCont, fNever, fSNil, fDrop, fRet, fRetN, fIfS, fAsg, fSet, fOwn, fOwnM, fSeq, fRaise, fFrz, fCall, fWhile, fFor, listW, seqW, pyW, addF, subF, ii, mulF, mulXF, fdivF, modF, powF, negF, ordF, ltF, leF, gtF, geF, eqF, isNonW, isNF, inF, inDF, ixF, tyW, fIsi, fIsiT, f1c, lenF, absF, intF, tupleF, boolsF, allF, anyF, reprF, fnListX, fItAny, fItR1, fItR2, fItEnum, fnLc, fnLcI, fnLcO, fMeth, appendF, popF, indexF, countBF, fMR, fJoin, fFind, fnSortSet, fIndexS, fnRep, fCallW, fCallN, fLamG, fParA, fEvalA, putFr, plains, Still, FSt.set_mk, FSt.pn, isi, List.any_cons, List.any_nil, List.getElem?_cons_zero, List.getElem?_cons_succ, List.set_cons_zero, List.set_cons_succ]); (try simp only [true_and, ex2, Option.some.injEq, exists_eq_left']))
      exact ⟨by rw [sizeLine_eq]; simp, q ws j h1 h2 h3 h4⟩
end LD

/-! LH35b: the law of words of rules: rows, texts, what is refused -/
namespace LD
open PySem PySem.Spec PyProof.Rows L2

abbrev F_law_x_row : FSp := fun us n Q X => ∃ cs sts, ∃ k most : Nat, us = [.pen, ruleU cs sts, .int k, .int most] ∧ OkR cs sts ∧ k < sts.length ∧ 1 ≤ most ∧ most ≤ 6 ∧ n + 60 ≤ 1000000 ∧
  ∀ (a b : List Nat) (j n' : Nat), (∀ c ∈ a, c ∈ cs) → (∀ c ∈ b, c ∈ cs) → b ≠ [] → a.length + b.length ≤ 20 → afterR cs sts (some k) a = some j → afterR cs sts (some j) b = some j → n' ≤ n + 60 → Q (.tup [.str (tx a), .str (tx b)]) n'

def f_law_x_row : FS :=
  fSeq (fAsg (fCall F_law_x_path (faCons (fVar 0) (faCons (fVar 1) (faCons (fVar 2) (faCons (fCall F_law_take (faCons (fVar 0) (faCons (fVar 3) (faNil)))) (faNil)))))) (fGTup (fGCons (fName 4) (fGCons (fName 2) (fGNil)))))
  (fSeq (fParA [5, 6] [.n (fnLst (faNil)), .n (fnLst (faNil))])
  (fSeq (fWhile (fTB (fOp (inF true) (fVar 2) (fVar 6))) (fSeq (fDrop (fMeth 5 appendF (faCons (fCB lenF (faCons (fVar 4) (faNil))) (faNil))))
  (fSeq (fDrop (fMeth 6 appendF (faCons (fVar 2) (faNil))))
  (fSeq (fAsg (fCall F_law_x_path (faCons (fVar 0) (faCons (fVar 1) (faCons (fVar 2) (faCons (fOp addF (fC (.int 1)) (fCall F_law_take (faCons (fVar 0) (faCons (fC (.int 3)) (faNil))))) (faNil)))))) (fGTup (fGCons (fName 7) (fGCons (fName 2) (fGNil)))))
  (fSet 4 (fOp addF (fVar 4) (fVar 7)))))))
  (fSeq (fSet 8 (fOp ixF (fVar 5) (fMR indexF (fVar 6) (fVar 2))))
  (fRet (fTup (faCons (fSlice (fVar 4) fNoP (fPart (fVar 8))) (faCons (fSlice (fVar 4) (fPart (fVar 8)) fNoP) (faNil))))))))
-- slots of _law_x_row: 0=pen 1=rule 2=state 3=most 4=text 5=marks 6=states 7=more 8=at

theorem nodup_le {m : Nat} : ∀ {l : List Nat}, l.Nodup → (∀ i ∈ l, i < m) → l.length ≤ m := by
  induction m with
  | zero =>
    intro l _ h
    cases l with
    | nil => exact Nat.le_refl _
    | cons a l => exact absurd (h a List.mem_cons_self) (Nat.not_lt_zero a)
  | succ m ih =>
    intro l hn h
    by_cases hm : m ∈ l
    · have := ih (l := l.erase m) (hn.erase m) fun i hi => by
        rw [hn.mem_erase_iff] at hi
        have := h i hi.2
        omega
      rw [List.length_erase_of_mem hm] at this
      omega
    · have := ih hn fun i hi => by
        have h1 := h i hi
        have : i ≠ m := fun z => hm (z ▸ hi)
        omega
      omega
theorem index_int {j : Nat} {js : List Nat} (h : j ∈ js) : indexOk (js.map fun i : Nat => U.int i) (.int j) (js.idxOf j) := by
  have hi := List.idxOf_lt_length_iff.mpr h
  refine ⟨rfl, flat_int js, .int j, ?_, ?_, fun m z hm hz => ?_⟩
  · rw [List.getElem?_map, List.getElem?_eq_getElem hi, List.getElem_idxOf]; rfl
  · show ((j : Int) == (j : Int)) = true
    simp
  · rw [List.getElem?_map, List.getElem?_eq_getElem (by omega)] at hz
    cases hz
    have := List.not_of_lt_findIdx hm
    show ((js[m] : Int) == (j : Int)) = false
    simp at this
    rw [beq_eq_false_iff_ne]
    omega
theorem cutS_take (ws : List Nat) (m : Nat) : cutS (tx ws) none (some (m : Int)) = tx (ws.take m) := by
  unfold cutS
  rw [HT.sIx_none, HT.sIx_nat, tx_len, tx_cps, List.drop_zero, Nat.sub_zero, ← List.take_eq_take_min]
  rfl
theorem cutS_drop (ws : List Nat) (m : Nat) : cutS (tx ws) (some (m : Int)) none = tx (ws.drop m) := by
  unfold cutS
  rw [HT.sIx_none, HT.sIx_nat, tx_len, tx_cps]
  show tx _ = tx _
  congr 1
  by_cases h : m ≤ ws.length
  · rw [Nat.min_eq_left h, List.take_of_length_le (by rw [List.length_drop]; omega)]
  · rw [Nat.min_eq_right (by omega), Nat.sub_self, List.take_zero, List.drop_eq_nil_of_le (by omega)]
theorem cutS_last (ws : List Nat) : cutS (tx ws) none (some (-1)) = tx ws.dropLast := by
  unfold cutS
  rw [HT.sIx_none, tx_len, tx_cps, List.drop_zero, Nat.sub_zero, List.dropLast_eq_take]
  show tx (ws.take (HT.sIx ws.length ws.length (some (-1)))) = _
  have : HT.sIx ws.length ws.length (some (-1)) = ws.length - 1 := by
    show (if (-1 : Int) < 0 then ((-1 : Int) + (ws.length : Int)).toNat else min (-1 : Int).toNat ws.length) = _
    rw [if_pos (by omega)]
    omega
  rw [this]
theorem fp_law_x_row : ∀ us n Q X, us.length = 4 → F_law_x_row us n Q X → f_law_x_row.run X { nx := fun s => Q .non s.n, rt := Q } ⟨fStart 9 us, n⟩ := by
  rintro us n Q X hl ⟨cs, sts, k, most, rfl, ok, hk, hm, hm6, hn, q⟩
  show f_law_x_row.run X _ ⟨[some (.v .pen), some (.v (ruleU cs sts)), some (.v (.int k)), some (.v (.int most)), none, none, none, none, none], n⟩
  have h4 := ok.h4
  unfold f_law_x_row
  refine seqF (fun s => ∃ (ws : List Nat) (j n' : Nat), ws.length ≤ 5 ∧ (∀ c ∈ ws, c ∈ cs) ∧ j < sts.length ∧ afterR cs sts (some k) ws = some j ∧ n' ≤ n + 6 ∧ s = ⟨[some (.v .pen), some (.v (ruleU cs sts)), some (.v (.int j)), some (.v (.int most)), some (.v (.str (tx ws))), none, none, none, none], n'⟩) ?_ ?_
  · ((try dsimp only [fVar, fC, faNil, faCons, fTup, fnLst, fFz, fOp, fUn, fTB, fAndT, fOrT, fNotT, fAndV, fOrV, fNotV, fIf, fChain, fNoP, fPart, sliceF, fSlice, fCB, fName, fGNil, fGCons, fGTup, fSubL, fPass, fBreak, fCont, fNever, fSNil, fDrop, fRet, fRetN, fIfS, fAsg, fSet, fOwn, fOwnM, fSeq, fRaise, fFrz, fCall, fWhile, fFor, listW, seqW, pyW, addF, subF, ii, mulF, mulXF, fdivF, modF, powF, negF, ordF, ltF, leF, gtF, geF, eqF, isNonW, isNF, inF, inDF, ixF, tyW, fIsi, fIsiT, f1c, lenF, absF, intF, tupleF, boolsF, allF, anyF, reprF, fnListX, fItAny, fItR1, fItR2, fItEnum, fnLc, fnLcI, fnLcO, fMeth, appendF, popF, indexF, countBF, fMR, fJoin, fFind, fnSortSet, fIndexS, fnRep, fCallW, fCallN, fLamG, fParA, fEvalA, putFr, plains, Still, FSt.set_mk, FSt.pn, isi, List.any_cons, List.any_nil, List.getElem?_cons_zero, List.getElem?_cons_succ, List.set_cons_zero, List.set_cons_succ]); (try simp only [true_and, ex2, Option.some.injEq, exists_eq_left']))
    refine go_take (by omega) (by omega) (by omega) fun r r0 r1 => ?_
    ((try dsimp only [fVar, fC, faNil, faCons, fTup, fnLst, fFz, fOp, fUn, fTB, fAndT, fOrT, fNotT, fAndV, fOrV, fNotV, fIf, fChain, fNoP, fPart, sliceF, fSlice, fCB, fName, fGNil, fGCons, fGTup, fSubL, fPass, fBreak, fCont, fNever, fSNil, fDrop, fRet, fRetN, fIfS, fAsg, fSet, fOwn, fOwnM, fSeq, fRaise, fFrz, fCall, fWhile, fFor, listW, seqW, pyW, addF, subF, ii, mulF, mulXF, fdivF, modF, powF, negF, ordF, ltF, leF, gtF, geF, eqF, isNonW, isNF, inF, inDF, ixF, tyW, fIsi, fIsiT, f1c, lenF, absF, intF, tupleF, boolsF, allF, anyF, reprF, fnListX, fItAny, fItR1, fItR2, fItEnum, fnLc, fnLcI, fnLcO, fMeth, appendF, popF, indexF, countBF, fMR, fJoin, fFind, fnSortSet, fIndexS, fnRep, fCallW, fCallN, fLamG, fParA, fEvalA, putFr, plains, Still, FSt.set_mk, FSt.pn, isi, List.any_cons, List.any_nil, List.getElem?_cons_zero, List.getElem?_cons_succ, List.set_cons_zero, List.set_cons_succ]); (try simp only [true_and, ex2, Option.some.injEq, exists_eq_left']))
    refine go2 ⟨cs, sts, k, r.toNat, by rw [Int.toNat_of_nonneg r0], ok, hk, by omega, by omega, fun ws k' h1 h2 h3 h4 => ?_⟩
    exact ⟨ws, k', n + 1 + r.toNat, by omega, h2, h3, h4, by omega, rfl⟩
  · rintro _ ⟨ws, j, n', hw5, hwm, hj, hja, hn', rfl⟩
    refine seqF (fun s => s = ⟨[some (.v .pen), some (.v (ruleU cs sts)), some (.v (.int j)), some (.v (.int most)), some (.v (.str (tx ws))), some (.ol 5 []), some (.ol 6 []), none, none], n'⟩) ?_ ?_
    · ((try dsimp only [fVar, fC, faNil, faCons, fTup, fnLst, fFz, fOp, fUn, fTB, fAndT, fOrT, fNotT, fAndV, fOrV, fNotV, fIf, fChain, fNoP, fPart, sliceF, fSlice, fCB, fName, fGNil, fGCons, fGTup, fSubL, fPass, fBreak, fCont, fNever, fSNil, fDrop, fRet, fRetN, fIfS, fAsg, fSet, fOwn, fOwnM, fSeq, fRaise, fFrz, fCall, fWhile, fFor, listW, seqW, pyW, addF, subF, ii, mulF, mulXF, fdivF, modF, powF, negF, ordF, ltF, leF, gtF, geF, eqF, isNonW, isNF, inF, inDF, ixF, tyW, fIsi, fIsiT, f1c, lenF, absF, intF, tupleF, boolsF, allF, anyF, reprF, fnListX, fItAny, fItR1, fItR2, fItEnum, fnLc, fnLcI, fnLcO, fMeth, appendF, popF, indexF, countBF, fMR, fJoin, fFind, fnSortSet, fIndexS, fnRep, fCallW, fCallN, fLamG, fParA, fEvalA, putFr, plains, Still, FSt.set_mk, FSt.pn, isi, List.any_cons, List.any_nil, List.getElem?_cons_zero, List.getElem?_cons_succ, List.set_cons_zero, List.set_cons_succ]); (try simp only [true_and, ex2, Option.some.injEq, exists_eq_left']))
      exact ⟨Nat.zero_le _, Nat.zero_le _, rfl, trivial⟩
    · rintro _ rfl
      refine seqF (fun s => ∃ (ws ms ss : List Nat) (j n' : Nat) (w7 : Option W), ws.length ≤ 17 ∧ (∀ c ∈ ws, c ∈ cs) ∧ j ∈ ss ∧ afterR cs sts (some k) ws = some j ∧ ms.length = ss.length ∧ ss.length ≤ 4 ∧ (∀ i (h : i < ms.length) (h2 : i < ss.length), ms[i] < ws.length ∧ afterR cs sts (some k) (ws.take ms[i]) = some ss[i]) ∧ n' ≤ n + 6 + 16 ∧ s = ⟨[some (.v .pen), some (.v (ruleU cs sts)), some (.v (.int j)), some (.v (.int most)), some (.v (.str (tx ws))), some (.ol 5 (ms.map fun i : Nat => U.int i)), some (.ol 6 (ss.map fun i : Nat => U.int i)), w7, none], n'⟩) ?_ ?_
      · refine whileF (fun m s => ∃ (ws ms ss : List Nat) (j n' : Nat) (w7 : Option W), ss.length + m = sts.length ∧ ss.Nodup ∧ (∀ i ∈ ss, i < sts.length) ∧ j < sts.length ∧ ws.length ≤ 5 + 3 * ss.length ∧ (∀ c ∈ ws, c ∈ cs) ∧ afterR cs sts (some k) ws = some j ∧ ms.length = ss.length ∧ (∀ i (h : i < ms.length) (h2 : i < ss.length), ms[i] < ws.length ∧ afterR cs sts (some k) (ws.take ms[i]) = some ss[i]) ∧ n' ≤ n + 6 + 4 * ss.length ∧ s = ⟨[some (.v .pen), some (.v (ruleU cs sts)), some (.v (.int j)), some (.v (.int most)), some (.v (.str (tx ws))), some (.ol 5 (ms.map fun i : Nat => U.int i)), some (.ol 6 (ss.map fun i : Nat => U.int i)), w7, none], n'⟩) ?_ (m := sts.length) ⟨ws, [], [], j, n', none, by simp, List.nodup_nil, (fun _ h => by cases h), hj, by simp; omega, hwm, hja, rfl, (fun i h => by cases h), by simp; omega, rfl⟩
        rintro m s ⟨ws, ms, ss, j, n', w7, hm, hnd, hss, hj, hwl, hwm, hja, hms, hmk, hn', rfl⟩
        ((try dsimp only [fVar, fC, faNil, faCons, fTup, fnLst, fFz, fOp, fUn, fTB, fAndT, fOrT, fNotT, fAndV, fOrV, fNotV, fIf, fChain, fNoP, fPart, sliceF, fSlice, fCB, fName, fGNil, fGCons, fGTup, fSubL, fPass, fBreak, fCont, fNever, fSNil, fDrop, fRet, fRetN, fIfS, fAsg, fSet, fOwn, fOwnM, fSeq, fRaise, fFrz, fCall, fWhile, fFor, listW, seqW, pyW, addF, subF, ii, mulF, mulXF, fdivF, modF, powF, negF, ordF, ltF, leF, gtF, geF, eqF, isNonW, isNF, inF, inDF, ixF, tyW, fIsi, fIsiT, f1c, lenF, absF, intF, tupleF, boolsF, allF, anyF, reprF, fnListX, fItAny, fItR1, fItR2, fItEnum, fnLc, fnLcI, fnLcO, fMeth, appendF, popF, indexF, countBF, fMR, fJoin, fFind, fnSortSet, fIndexS, fnRep, fCallW, fCallN, fLamG, fParA, fEvalA, putFr, plains, Still, FSt.set_mk, FSt.pn, isi, List.any_cons, List.any_nil, List.getElem?_cons_zero, List.getElem?_cons_succ, List.set_cons_zero, List.set_cons_succ]); (try simp only [true_and, ex2, Option.some.injEq, exists_eq_left']))
        refine ⟨trivial, _, rfl, rfl, flat_int ss, ?_⟩
        rw [inV_int]
        by_cases hin : j ∈ ss
        · exact bcase_f (by rw [decide_eq_true hin]; rfl) ⟨ws, ms, ss, j, n', w7, by omega, hwm, hin, hja, hms, by omega, hmk, by omega, rfl⟩
        · refine bcase_t (by rw [decide_eq_false hin]; rfl) ?_
          have hlt : ss.length + 1 ≤ sts.length := nodup_le (l := j :: ss) (List.nodup_cons.mpr ⟨hin, hnd⟩) fun i hi => by
            rcases List.mem_cons.mp hi with rfl | h
            · exact hj
            · exact hss i h
          obtain ⟨m', rfl⟩ : ∃ m', m = m' + 1 := ⟨m - 1, by omega⟩
          refine ⟨m', rfl, trivial, by rw [tx_len, sizeLine_eq]; omega, trivial, by rw [List.length_map, sizeLine_eq]; omega, trivial, by rw [List.length_map, sizeLine_eq]; omega, trivial, trivial, _, rfl, ?_⟩
          refine go_take (by omega) (by omega) (by omega) fun r r0 r1 => ?_
          refine ⟨trivial, trivial, trivial, trivial, trivial, _, rfl, ?_⟩
          refine go2 ⟨cs, sts, j, (1 + r).toNat, by rw [Int.toNat_of_nonneg (by omega)], ok, hj, by omega, by omega, fun vs k' g1 g2 g3 g4 => ?_⟩
          ((try dsimp only [fVar, fC, faNil, faCons, fTup, fnLst, fFz, fOp, fUn, fTB, fAndT, fOrT, fNotT, fAndV, fOrV, fNotV, fIf, fChain, fNoP, fPart, sliceF, fSlice, fCB, fName, fGNil, fGCons, fGTup, fSubL, fPass, fBreak, fCont, fNever, fSNil, fDrop, fRet, fRetN, fIfS, fAsg, fSet, fOwn, fOwnM, fSeq, fRaise, fFrz, fCall, fWhile, fFor, listW, seqW, pyW, addF, subF, ii, mulF, mulXF, fdivF, modF, powF, negF, ordF, ltF, leF, gtF, geF, eqF, isNonW, isNF, inF, inDF, ixF, tyW, fIsi, fIsiT, f1c, lenF, absF, intF, tupleF, boolsF, allF, anyF, reprF, fnListX, fItAny, fItR1, fItR2, fItEnum, fnLc, fnLcI, fnLcO, fMeth, appendF, popF, indexF, countBF, fMR, fJoin, fFind, fnSortSet, fIndexS, fnRep, fCallW, fCallN, fLamG, fParA, fEvalA, putFr, plains, Still, FSt.set_mk, FSt.pn, isi, List.any_cons, List.any_nil, List.getElem?_cons_zero, List.getElem?_cons_succ, List.set_cons_zero, List.set_cons_succ]); (try simp only [true_and, ex2, Option.some.injEq, exists_eq_left']))
          have g1' : vs.length ≤ 3 := by omega
          have g1'' : 1 ≤ vs.length := by omega
          refine ⟨by rw [tx_len, tx_len, sizeLine_eq]; omega, ws ++ vs, ms ++ [ws.length], ss ++ [j], k', n' + 1 + (1 + r).toNat, some (.v (.str (tx vs))), ?_, ?_, ?_, g3, ?_, ?_, ?_, ?_, ?_, ?_, ?_⟩
          · rw [List.length_append]; simp; omega
          · rw [List.nodup_append]
            exact ⟨hnd, by simp, fun a ha b hb => by rw [List.mem_singleton.mp hb]; exact fun z => hin (z ▸ ha)⟩
          · intro i hi
            rcases List.mem_append.mp hi with h | h
            · exact hss i h
            · rw [List.mem_singleton.mp h]; exact hj
          · rw [List.length_append, List.length_append]; simp; omega
          · intro c hc
            rcases List.mem_append.mp hc with h | h
            · exact hwm c h
            · exact g2 c h
          · rw [afterR_app, hja]; exact g4
          · rw [List.length_append, List.length_append, hms]; rfl
          · intro i h h2
            rw [List.length_append] at h h2
            by_cases hi : i < ms.length
            · rw [List.getElem_append_left hi, List.getElem_append_left (by omega)]
              obtain ⟨f1, f2⟩ := hmk i hi (by omega)
              exact ⟨by rw [List.length_append]; omega, by rw [List.take_append_of_le_length (by omega)]; exact f2⟩
            · have : i = ms.length := by simp at h; omega
              subst this
              have e1 : (ms ++ [ws.length])[ms.length]'(by simp) = ws.length := by simp
              have e2 : (ss ++ [j])[ms.length]'(by simp; omega) = j := by simp [hms]
              rw [e1, e2]
              exact ⟨by rw [List.length_append]; omega, by rw [List.take_left]; exact hja⟩
          · rw [List.length_append]; simp; omega
          · rw [← tx_app, List.map_append, List.map_append, tx_len]; rfl
      · rintro _ ⟨ws, ms, ss, j, n', w7, hwl, hwm, hin, hja, hms, hs4, hmk, hn', rfl⟩
        ((try dsimp only [fVar, fC, faNil, faCons, fTup, fnLst, fFz, fOp, fUn, fTB, fAndT, fOrT, fNotT, fAndV, fOrV, fNotV, fIf, fChain, fNoP, fPart, sliceF, fSlice, fCB, fName, fGNil, fGCons, fGTup, fSubL, fPass, fBreak, fCont, fNever, fSNil, fDrop, fRet, fRetN, fIfS, fAsg, fSet, fOwn, fOwnM, fSeq, fRaise, fFrz, fCall, fWhile, fFor, listW, seqW, pyW, addF, subF, ii, mulF, mulXF, fdivF, modF, powF, negF, ordF, ltF, leF, gtF, geF, eqF, isNonW, isNF, inF, inDF, ixF, tyW, fIsi, fIsiT, f1c, lenF, absF, intF, tupleF, boolsF, allF, anyF, reprF, fnListX, fItAny, fItR1, fItR2, fItEnum, fnLc, fnLcI, fnLcO, fMeth, appendF, popF, indexF, countBF, fMR, fJoin, fFind, fnSortSet, fIndexS, fnRep, fCallW, fCallN, fLamG, fParA, fEvalA, putFr, plains, Still, FSt.set_mk, FSt.pn, isi, List.any_cons, List.any_nil, List.getElem?_cons_zero, List.getElem?_cons_succ, List.set_cons_zero, List.set_cons_succ]); (try simp only [true_and, ex2, Option.some.injEq, exists_eq_left']))
        have hi := List.idxOf_lt_length_iff.mpr hin
        have hi2 : ss.idxOf j < ms.length := by omega
        refine ⟨⟨_, rfl⟩, ss.idxOf j, index_int hin, .int (ms[ss.idxOf j] : Nat), by rw [atI_nat (by rw [List.length_map]; exact hi2), List.getElem_map], by rw [tx_len, sizeLine_eq]; omega, by rw [tx_len, sizeLine_eq]; omega, by rw [sizeLine_eq]; simp, ?_⟩
        obtain ⟨f1, f2⟩ := hmk _ hi2 hi
        rw [List.getElem_idxOf] at f2
        rw [cutS_take, cutS_drop]
        have hsp := List.take_append_drop ms[ss.idxOf j] ws
        refine q _ _ j n' (fun c hc => hwm c (List.mem_of_mem_take hc)) (fun c hc => hwm c (List.mem_of_mem_drop hc)) (fun z => ?_) ?_ f2 ?_ (by omega)
        · have := congrArg List.length z
          rw [List.length_drop] at this
          simp at this
          omega
        · rw [List.length_take, List.length_drop]; omega
        · rw [← f2, ← afterR_app, hsp, hja, f2]
end LD

/-! LH35c: the law of words of rules: the law's own is_of, texts, long words -/
namespace LD
open PySem PySem.Spec PyProof.Rows L2

abbrev F_law_x_is_of : FSp := fun us n Q X => ∃ cs sts a b, us = [ruleU cs sts, .tup [.str (tx a), .str (tx b)]] ∧ OkR cs sts ∧ (∀ c ∈ a, c ∈ cs) ∧ (∀ c ∈ b, c ∈ cs) ∧ Q (.bl (ringsR cs sts b 5 (afterR cs sts (some 0) a)).isSome) n
abbrev F_law_x_text : FSp := fun us n Q X => ∃ cs, ∃ most : Int, us = [.pen, .str (tx cs), .int most] ∧ Ltrs cs ∧ 1 ≤ most ∧ most ≤ 6 ∧ n + 20 ≤ 1000000 ∧ ∀ ws n', n' ≤ n + 20 → ws.length ≤ 6 → (∀ c ∈ ws, c ∈ cs) → Q (.str (tx ws)) n'
abbrev F_law_x_long : FSp := fun us n Q X => ∃ cs sts, us = [.pen, ruleU cs sts] ∧ OkR cs sts ∧ n + 100 ≤ 1000000 ∧ ∀ a b n', n' ≤ n + 100 → a.length ≤ 1500 → b.length ≤ 1500 → (∀ c ∈ a, c ∈ cs) → (∀ c ∈ b, c ∈ cs) → Q (.tup [.str (tx a), .str (tx b)]) n'

def f_law_x_is_of : FS :=
  fSeq (fSet 2 (fCall F_law_x_behind (faCons (fVar 0) (faCons (fC (.int 0)) (faCons (fOp ixF (fVar 1) (fC (.int 0))) (faNil))))))
  (fSeq (fFor (fItR1 (fC (.int 5))) (fName 3) (fSet 2 (fIf (fTB (fOp (isNF false) (fVar 2) (fC .non))) (fC .non) (fCall F_law_x_behind (faCons (fVar 0) (faCons (fVar 2) (faCons (fOp ixF (fVar 1) (fC (.int 1))) (faNil))))))))
  (fRet (fOp (isNF true) (fVar 2) (fC .non))))
-- slots of _law_x_is_of: 0=rule 1=row 2=state 3=turn
def f_law_x_text : FS :=
  fRet (fJoin (fC (.str "")) (fFz (fnLc (fItR1 (fCall F_law_take (faCons (fVar 0) (faCons (fVar 2) (faNil))))) 3 (fCall F_law_x_pick (faCons (fVar 0) (faCons (fFz (fnListX (faCons (fVar 1) (faNil)))) (faNil)))))))
-- slots of _law_x_text: 0=pen 1=letters 2=most 3=turn
def f_law_x_long : FS :=
  fSeq (fAsg (fCall F_law_x_row (faCons (fVar 0) (faCons (fVar 1) (faCons (fC (.int 0)) (faCons (fC (.int 6)) (faNil)))))) (fGTup (fGCons (fName 2) (fGCons (fName 3) (fGNil)))))
  (fSeq (fSet 4 (fCall F_law_x_pick (faCons (fVar 0) (faCons (fFz (fnLst (faCons (fC (.int 300)) (faCons (fC (.int 301)) (faCons (fC (.int 700)) (faCons (fC (.int 1500)) (faNil))))))) (faNil)))))
  (fSeq (fSet 5 (fSlice (fOp addF (fVar 2) (fOp mulXF (fVar 3) (fVar 4))) fNoP (fPart (fVar 4))))
  (fSeq (fSet 6 (fOp mulXF (fVar 3) (fOp fdivF (fVar 4) (fCB lenF (faCons (fVar 3) (faNil))))))
  (fSeq (fIfS (fTB (fOp (eqF false) (fCall F_law_take (faCons (fVar 0) (faCons (fC (.int 3)) (faNil)))) (fC (.int 0)))) (fSet 5 (fOp addF (fSlice (fVar 5) fNoP (fPart (fUn negF (fC (.int 1))))) (fCall F_law_x_pick (faCons (fVar 0) (faCons (fFz (fnListX (faCons (fOp ixF (fVar 1) (fC (.int 0))) (faNil)))) (faNil)))))) (fSNil))
  (fSeq (fIfS (fTB (fOp (eqF false) (fCall F_law_take (faCons (fVar 0) (faCons (fC (.int 3)) (faNil)))) (fC (.int 0)))) (fSet 6 (fOp addF (fSlice (fVar 6) fNoP (fPart (fUn negF (fC (.int 1))))) (fCall F_law_x_pick (faCons (fVar 0) (faCons (fFz (fnListX (faCons (fOp ixF (fVar 1) (fC (.int 0))) (faNil)))) (faNil)))))) (fSNil))
  (fRet (fTup (faCons (fVar 5) (faCons (fVar 6) (faNil))))))))))
-- slots of _law_x_long: 0=pen 1=rule 2=begin 3=again 4=most 5=word 6=loop

theorem fold_cat (ws : Array Nat) : ∀ (k : Nat) (acc : Array Nat), ((List.replicate k ws).foldl (· ++ ·) acc).toList = acc.toList ++ (List.replicate k ws.toList).flatten
  | 0, acc => by simp
  | k + 1, acc => by
    rw [List.replicate_succ, List.foldl_cons, fold_cat ws k, List.replicate_succ, List.flatten_cons, Array.toList_append, List.append_assoc]
theorem mul_tx (ws : List Nat) (k : Nat) : Txt.mul (tx ws) (k : Int) = tx (List.replicate k ws).flatten := by
  unfold Txt.mul
  split
  · have : k = 0 := by omega
    subst this; rfl
  · split
    · rename_i h1 h2
      rw [Bool.or_eq_true] at h2
      rcases h2 with h2 | h2
      · have : (k : Int) = 1 := by simpa using h2
        have : k = 1 := by omega
        subst this; simp
      · have : ws = [] := by
          rw [tx_len] at h2
          exact List.length_eq_zero_iff.mp (by simpa using h2)
        subst this
        rw [List.flatten_replicate_nil]
    · have e := fold_cat (tx ws).cps k #[]
      rw [Int.toNat_natCast]
      rw [tx_of ⟨List.foldl (fun x1 x2 => x1 ++ x2) #[] (List.replicate k (tx ws).cps)⟩]
      rw [e, tx_cps]; rfl
theorem mulOk_tx (ws : List Nat) (k : Nat) (hk : k ≤ 10000) (h : ws.length * k ≤ 1000000) : PySem.MulOk (tx ws) (k : Int) := by
  refine ⟨?_, fun h1 h2 h3 => ?_, fun h1 h2 => ?_⟩
  · rw [Bool.or_eq_false_iff]
    exact ⟨decide_eq_false (by omega), decide_eq_false (by omega)⟩
  · rw [tx_len] at h3
    have h4 : (1 : Int) ≤ k := by omega
    rw [gt_iff_lt, Int.ediv_lt_iff_lt_mul (by omega)] at h3
    have : (ws.length : Int) * k = ((ws.length * k : Nat) : Int) := by simp
    rw [this] at h3
    omega
  · rw [tx_len, Int.toNat_natCast]
    unfold Builtin.Str.tooLong
    exact decide_eq_false (by rw [sizeLine_eq]; omega)
theorem len_rep (ws : List Nat) (k : Nat) : (List.replicate k ws).flatten.length = k * ws.length := by simp
theorem mem_rep {ws : List Nat} {k c : Nat} (h : c ∈ (List.replicate k ws).flatten) : c ∈ ws := by
  obtain ⟨l, h1, h2⟩ := List.mem_flatten.mp h
  rw [(List.mem_replicate.mp h1).2] at h2
  exact h2
theorem strsOf_map {α : Type} (f : α → Str) : ∀ xs : List α, strsOf (xs.map fun x => U.str (f x)) = some (xs.map f)
  | [] => rfl
  | x :: xs => by rw [List.map_cons, strsOf, strsOf_map f xs]; rfl
theorem join_tx (ws : List Nat) : Txt.join (Str.ofString "") (ws.map fun c => tx [c]) = tx ws := by
  rw [TL.join_eq]
  have := join_nil_signs (tx ws)
  unfold signs at this
  rw [tx_cps] at this
  exact this
theorem sum_ones (ws : List Nat) : ((ws.map fun c => tx [c]).map fun x => x.length).sum = ws.length := by
  rw [List.map_map]
  induction ws with
  | nil => rfl
  | cons c ws ih => rw [List.map_cons, List.sum_cons, ih, List.length_cons]; show 1 + _ = _; omega
theorem ringsR_none {cs : List Nat} {sts : List (List (Option Nat))} {gs : List Nat} : ∀ m : Nat, ringsR cs sts gs m none = none
  | 0 => rfl
  | m + 1 => by rw [ringsR, afterR_none]; exact ringsR_none m
theorem fp_law_x_is_of : ∀ us n Q X, us.length = 2 → F_law_x_is_of us n Q X → f_law_x_is_of.run X { nx := fun s => Q .non s.n, rt := Q } ⟨fStart 4 us, n⟩ := by
  rintro us n Q X hl ⟨cs, sts, a, b, rfl, ok, ha, hb, q⟩
  show f_law_x_is_of.run X _ ⟨[some (.v (ruleU cs sts)), some (.v (.tup [.str (tx a), .str (tx b)])), none, none], n⟩
  unfold f_law_x_is_of
  have h0 : ∀ j, some 0 = some j → j < sts.length := fun j e => by cases e; exact ok.h1
  refine seqF (fun s => s = ⟨[some (.v (ruleU cs sts)), some (.v (.tup [.str (tx a), .str (tx b)])), some (.v (optU (afterR cs sts (some 0) a))), none], n⟩) ?_ ?_
  · ((try dsimp only [fVar, fC, faNil, faCons, fTup, fnLst, fFz, fOp, fUn, fTB, fAndT, fOrT, fNotT, fAndV, fOrV, fNotV, fIf, fChain, fNoP, fPart, sliceF, fSlice, fCB, fName, fGNil, fGCons, fGTup, fSubL, fPass, fBreak, fCont, fNever, fSNil, fDrop, fRet, fRetN, fIfS, fAsg, fSet, fOwn, fOwnM, fSeq, fRaise, fFrz, fCall, fWhile, fFor, listW, seqW, pyW, addF, subF, ii, mulF, mulXF, fdivF, modF, powF, negF, ordF, ltF, leF, gtF, geF, eqF, isNonW, isNF, inF, inDF, ixF, tyW, fIsi, fIsiT, f1c, lenF, absF, intF, tupleF, boolsF, allF, anyF, reprF, fnListX, fItAny, fItR1, fItR2, fItEnum, fnLc, fnLcI, fnLcO, fMeth, appendF, popF, indexF, countBF, fMR, fJoin, fFind, fnSortSet, fIndexS, fnRep, fCallW, fCallN, fLamG, fParA, fEvalA, putFr, plains, Still, FSt.set_mk, FSt.pn, isi, List.any_cons, List.any_nil, List.getElem?_cons_zero, List.getElem?_cons_succ, List.set_cons_zero, List.set_cons_succ]); (try simp only [true_and, ex2, Option.some.injEq, exists_eq_left']))
    refine ⟨.str (tx a), rfl, ?_⟩
    exact go2 ⟨cs, sts, some 0, a, rfl, ok, ha, h0, rfl⟩
  · rintro _ rfl
    refine seqF (fun s => ∃ w, s = ⟨[some (.v (ruleU cs sts)), some (.v (.tup [.str (tx a), .str (tx b)])), some (.v (optU (ringsR cs sts b 5 (afterR cs sts (some 0) a)))), w], n⟩) ?_ ?_
    · refine forS (fun us s => us = rngU 0 5 ∧ s = ⟨[some (.v (ruleU cs sts)), some (.v (.tup [.str (tx a), .str (tx b)])), some (.v (optU (afterR cs sts (some 0) a))), none], n⟩) ?_ ?_
      · ((try dsimp only [fVar, fC, faNil, faCons, fTup, fnLst, fFz, fOp, fUn, fTB, fAndT, fOrT, fNotT, fAndV, fOrV, fNotV, fIf, fChain, fNoP, fPart, sliceF, fSlice, fCB, fName, fGNil, fGCons, fGTup, fSubL, fPass, fBreak, fCont, fNever, fSNil, fDrop, fRet, fRetN, fIfS, fAsg, fSet, fOwn, fOwnM, fSeq, fRaise, fFrz, fCall, fWhile, fFor, listW, seqW, pyW, addF, subF, ii, mulF, mulXF, fdivF, modF, powF, negF, ordF, ltF, leF, gtF, geF, eqF, isNonW, isNF, inF, inDF, ixF, tyW, fIsi, fIsiT, f1c, lenF, absF, intF, tupleF, boolsF, allF, anyF, reprF, fnListX, fItAny, fItR1, fItR2, fItEnum, fnLc, fnLcI, fnLcO, fMeth, appendF, popF, indexF, countBF, fMR, fJoin, fFind, fnSortSet, fIndexS, fnRep, fCallW, fCallN, fLamG, fParA, fEvalA, putFr, plains, Still, FSt.set_mk, FSt.pn, isi, List.any_cons, List.any_nil, List.getElem?_cons_zero, List.getElem?_cons_succ, List.set_cons_zero, List.set_cons_succ]); (try simp only [true_and, ex2, Option.some.injEq, exists_eq_left']))
        exact ⟨⟨by omega, by omega⟩, rfl, trivial⟩
      · rintro us _ ⟨he, rfl⟩
        rw [he]
        refine forF_inv (fun (i : Nat) => U.int (0 + (i : Int))) (fun rest s => ∃ (j : Option Nat) (w : Option W), (∀ i, j = some i → i < sts.length) ∧ ringsR cs sts b rest.length j = ringsR cs sts b 5 (afterR cs sts (some 0) a) ∧ s = ⟨[some (.v (ruleU cs sts)), some (.v (.tup [.str (tx a), .str (tx b)])), some (.v (optU j)), w], n⟩) ?_ (List.range 5) ?_ _ ⟨_, _, afterR_lt ok h0, rfl, rfl⟩
        · rintro s ⟨j, w, hj, e, rfl⟩
          rw [← e]
          exact ⟨w, rfl⟩
        · rintro x rest ⟨pre, hp⟩ s R ⟨j, w, hj, e, rfl⟩ hR
          dsimp only [fName, FSt.set_mk, List.set_cons_zero, List.set_cons_succ]
          cases j with
          | none =>
            ((try dsimp only [fVar, fC, faNil, faCons, fTup, fnLst, fFz, fOp, fUn, fTB, fAndT, fOrT, fNotT, fAndV, fOrV, fNotV, fIf, fChain, fNoP, fPart, sliceF, fSlice, fCB, fName, fGNil, fGCons, fGTup, fSubL, fPass, fBreak, fCont, fNever, fSNil, fDrop, fRet, fRetN, fIfS, fAsg, fSet, fOwn, fOwnM, fSeq, fRaise, fFrz, fCall, fWhile, fFor, listW, seqW, pyW, addF, subF, ii, mulF, mulXF, fdivF, modF, powF, negF, ordF, ltF, leF, gtF, geF, eqF, isNonW, isNF, inF, inDF, ixF, tyW, fIsi, fIsiT, f1c, lenF, absF, intF, tupleF, boolsF, allF, anyF, reprF, fnListX, fItAny, fItR1, fItR2, fItEnum, fnLc, fnLcI, fnLcO, fMeth, appendF, popF, indexF, countBF, fMR, fJoin, fFind, fnSortSet, fIndexS, fnRep, fCallW, fCallN, fLamG, fParA, fEvalA, putFr, plains, Still, FSt.set_mk, FSt.pn, isi, List.any_cons, List.any_nil, List.getElem?_cons_zero, List.getElem?_cons_succ, List.set_cons_zero, List.set_cons_succ]); (try simp only [true_and, ex2, Option.some.injEq, exists_eq_left']))
            rw [ringsR_none] at e
            exact bcase_t rfl (hR _ ⟨none, _, (fun _ h => by cases h), by rw [ringsR_none]; exact e, rfl⟩)
          | some j =>
            ((try dsimp only [fVar, fC, faNil, faCons, fTup, fnLst, fFz, fOp, fUn, fTB, fAndT, fOrT, fNotT, fAndV, fOrV, fNotV, fIf, fChain, fNoP, fPart, sliceF, fSlice, fCB, fName, fGNil, fGCons, fGTup, fSubL, fPass, fBreak, fCont, fNever, fSNil, fDrop, fRet, fRetN, fIfS, fAsg, fSet, fOwn, fOwnM, fSeq, fRaise, fFrz, fCall, fWhile, fFor, listW, seqW, pyW, addF, subF, ii, mulF, mulXF, fdivF, modF, powF, negF, ordF, ltF, leF, gtF, geF, eqF, isNonW, isNF, inF, inDF, ixF, tyW, fIsi, fIsiT, f1c, lenF, absF, intF, tupleF, boolsF, allF, anyF, reprF, fnListX, fItAny, fItR1, fItR2, fItEnum, fnLc, fnLcI, fnLcO, fMeth, appendF, popF, indexF, countBF, fMR, fJoin, fFind, fnSortSet, fIndexS, fnRep, fCallW, fCallN, fLamG, fParA, fEvalA, putFr, plains, Still, FSt.set_mk, FSt.pn, isi, List.any_cons, List.any_nil, List.getElem?_cons_zero, List.getElem?_cons_succ, List.set_cons_zero, List.set_cons_succ]); (try simp only [true_and, ex2, Option.some.injEq, exists_eq_left']))
            refine bcase_f rfl ⟨.str (tx b), rfl, ?_⟩
            refine go2 ⟨cs, sts, some j, b, rfl, ok, hb, hj, ?_⟩
            exact hR _ ⟨_, _, afterR_lt ok hj, e, rfl⟩
    · rintro _ ⟨w, rfl⟩
      ((try dsimp only [fVar, fC, faNil, faCons, fTup, fnLst, fFz, fOp, fUn, fTB, fAndT, fOrT, fNotT, fAndV, fOrV, fNotV, fIf, fChain, fNoP, fPart, sliceF, fSlice, fCB, fName, fGNil, fGCons, fGTup, fSubL, fPass, fBreak, fCont, fNever, fSNil, fDrop, fRet, fRetN, fIfS, fAsg, fSet, fOwn, fOwnM, fSeq, fRaise, fFrz, fCall, fWhile, fFor, listW, seqW, pyW, addF, subF, ii, mulF, mulXF, fdivF, modF, powF, negF, ordF, ltF, leF, gtF, geF, eqF, isNonW, isNF, inF, inDF, ixF, tyW, fIsi, fIsiT, f1c, lenF, absF, intF, tupleF, boolsF, allF, anyF, reprF, fnListX, fItAny, fItR1, fItR2, fItEnum, fnLc, fnLcI, fnLcO, fMeth, appendF, popF, indexF, countBF, fMR, fJoin, fFind, fnSortSet, fIndexS, fnRep, fCallW, fCallN, fLamG, fParA, fEvalA, putFr, plains, Still, FSt.set_mk, FSt.pn, isi, List.any_cons, List.any_nil, List.getElem?_cons_zero, List.getElem?_cons_succ, List.set_cons_zero, List.set_cons_succ]); (try simp only [true_and, ex2, Option.some.injEq, exists_eq_left']))
      cases h : ringsR cs sts b 5 (afterR cs sts (some 0) a) <;> (rw [h] at q; exact q)
theorem fp_law_x_text : ∀ us n Q X, us.length = 3 → F_law_x_text us n Q X → f_law_x_text.run X { nx := fun s => Q .non s.n, rt := Q } ⟨fStart 4 us, n⟩ := by
  rintro us n Q X hl ⟨cs, most, rfl, hc, m1, m6, hn, q⟩
  show f_law_x_text.run X _ ⟨[some (.v .pen), some (.v (.str (tx cs))), some (.v (.int most)), none], n⟩
  ((try dsimp only [fVar, fC, faNil, faCons, fTup, fnLst, fFz, fOp, fUn, fTB, fAndT, fOrT, fNotT, fAndV, fOrV, fNotV, fIf, fChain, fNoP, fPart, sliceF, fSlice, fCB, fName, fGNil, fGCons, fGTup, fSubL, fPass, fBreak, fCont, fNever, fSNil, fDrop, fRet, fRetN, fIfS, fAsg, fSet, fOwn, fOwnM, fSeq, fRaise, fFrz, fCall, fWhile, fFor, listW, seqW, pyW, addF, subF, ii, mulF, mulXF, fdivF, modF, powF, negF, ordF, ltF, leF, gtF, geF, eqF, isNonW, isNF, inF, inDF, ixF, tyW, fIsi, fIsiT, f1c, lenF, absF, intF, tupleF, boolsF, allF, anyF, reprF, fnListX, fItAny, fItR1, fItR2, fItEnum, fnLc, fnLcI, fnLcO, fMeth, appendF, popF, indexF, countBF, fMR, fJoin, fFind, fnSortSet, fIndexS, fnRep, fCallW, fCallN, fLamG, fParA, fEvalA, putFr, plains, Still, FSt.set_mk, FSt.pn, isi, List.any_cons, List.any_nil, List.getElem?_cons_zero, List.getElem?_cons_succ, List.set_cons_zero, List.set_cons_succ, f_law_x_text]); (try simp only [true_and, ex2, Option.some.injEq, exists_eq_left']))
  refine go_take (by omega) (by omega) (by omega) fun r r0 r1 => ?_
  ((try dsimp only [fVar, fC, faNil, faCons, fTup, fnLst, fFz, fOp, fUn, fTB, fAndT, fOrT, fNotT, fAndV, fOrV, fNotV, fIf, fChain, fNoP, fPart, sliceF, fSlice, fCB, fName, fGNil, fGCons, fGTup, fSubL, fPass, fBreak, fCont, fNever, fSNil, fDrop, fRet, fRetN, fIfS, fAsg, fSet, fOwn, fOwnM, fSeq, fRaise, fFrz, fCall, fWhile, fFor, listW, seqW, pyW, addF, subF, ii, mulF, mulXF, fdivF, modF, powF, negF, ordF, ltF, leF, gtF, geF, eqF, isNonW, isNF, inF, inDF, ixF, tyW, fIsi, fIsiT, f1c, lenF, absF, intF, tupleF, boolsF, allF, anyF, reprF, fnListX, fItAny, fItR1, fItR2, fItEnum, fnLc, fnLcI, fnLcO, fMeth, appendF, popF, indexF, countBF, fMR, fJoin, fFind, fnSortSet, fIndexS, fnRep, fCallW, fCallN, fLamG, fParA, fEvalA, putFr, plains, Still, FSt.set_mk, FSt.pn, isi, List.any_cons, List.any_nil, List.getElem?_cons_zero, List.getElem?_cons_succ, List.set_cons_zero, List.set_cons_succ]); (try simp only [true_and, ex2, Option.some.injEq, exists_eq_left']))
  refine ⟨⟨by omega, by omega⟩, ?_⟩
  have hL := hc.2.1
  have hL0 := hc.1
  refine lcF_inv (fun (i : Nat) => U.int (0 + (i : Int))) (fun rest acc s => ∃ (ws : List Nat) (w : Option W), acc = ws.map (fun c => U.str (tx [c])) ∧ ws.length + rest.length = r.toNat ∧ (∀ c ∈ ws, c ∈ cs) ∧ s = ⟨[some (.v .pen), some (.v (.str (tx cs))), some (.v (.int most)), w], n + 1 + ws.length⟩) ?_ (List.range r.toNat) ?_ _ _ ⟨[], none, rfl, by simp, (fun _ h => by cases h), rfl⟩ (by rw [sizeLine_eq]; simp; omega)
  · rintro s acc ⟨ws, w, rfl, hw, hwm, rfl⟩
    simp at hw
    have e0 : (Str.ofString "").length = 0 := rfl
    refine ⟨_, strsOf_map _ _, by rw [sum_ones, e0]; omega, ?_⟩
    rw [join_tx]
    exact q ws _ (by show n + 1 + ws.length ≤ _; omega) (by omega) hwm
  · rintro x hx rest s acc R ⟨ws, w, rfl, hw, hwm, rfl⟩ k
    rw [List.length_cons] at hw
    ((try dsimp only [fVar, fC, faNil, faCons, fTup, fnLst, fFz, fOp, fUn, fTB, fAndT, fOrT, fNotT, fAndV, fOrV, fNotV, fIf, fChain, fNoP, fPart, sliceF, fSlice, fCB, fName, fGNil, fGCons, fGTup, fSubL, fPass, fBreak, fCont, fNever, fSNil, fDrop, fRet, fRetN, fIfS, fAsg, fSet, fOwn, fOwnM, fSeq, fRaise, fFrz, fCall, fWhile, fFor, listW, seqW, pyW, addF, subF, ii, mulF, mulXF, fdivF, modF, powF, negF, ordF, ltF, leF, gtF, geF, eqF, isNonW, isNF, inF, inDF, ixF, tyW, fIsi, fIsiT, f1c, lenF, absF, intF, tupleF, boolsF, allF, anyF, reprF, fnListX, fItAny, fItR1, fItR2, fItEnum, fnLc, fnLcI, fnLcO, fMeth, appendF, popF, indexF, countBF, fMR, fJoin, fFind, fnSortSet, fIndexS, fnRep, fCallW, fCallN, fLamG, fParA, fEvalA, putFr, plains, Still, FSt.set_mk, FSt.pn, isi, List.any_cons, List.any_nil, List.getElem?_cons_zero, List.getElem?_cons_succ, List.set_cons_zero, List.set_cons_succ]); (try simp only [true_and, ex2, Option.some.injEq, exists_eq_left']))
    refine ⟨by rw [tx_len, sizeLine_eq]; omega, ?_⟩
    rw [signs_tx]
    refine go_pick ?_ (by rw [List.length_map]; omega) (by omega) fun u hu => ?_
    · intro z
      rw [List.map_eq_nil_iff] at z
      rw [z] at hL0
      simp at hL0
    · obtain ⟨c, hcm, rfl⟩ := List.mem_map.mp hu
      refine k _ _ ⟨ws ++ [c], some (.v (.int (0 + (x : Int)))), by simp, by simp; omega, fun d hd => ?_, by rw [List.length_append]; rfl⟩
      rcases List.mem_append.mp hd with h | h
      · exact hwm d h
      · rw [List.mem_singleton.mp h]; exact hcm
end LD

set_option maxHeartbeats 400000
/-! LH35d: the law of words of rules: long words, what is refused -/
namespace LD
open PySem PySem.Spec PyProof.Rows L2
theorem fp_law_x_long : ∀ us n Q X, us.length = 2 → F_law_x_long us n Q X → f_law_x_long.run X { nx := fun s => Q .non s.n, rt := Q } ⟨fStart 7 us, n⟩ := by
  rintro us n Q X hl ⟨cs, sts, rfl, ok, hn, q⟩
  rw [show fStart 7 [.pen, ruleU cs sts] = [some (.v .pen), some (.v (ruleU cs sts)), none, none, none, none, none] from rfl]
  have hL := ok.ltr.2.1
  have hL0 := ok.ltr.1
  unfold f_law_x_long
  refine seqF (fun s => ∃ (a b : List Nat) (n' : Nat), (∀ c ∈ a, c ∈ cs) ∧ (∀ c ∈ b, c ∈ cs) ∧ 1 ≤ b.length ∧ a.length + b.length ≤ 20 ∧ n' ≤ n + 60 ∧ s = ⟨[some (.v .pen), some (.v (ruleU cs sts)), some (.v (.str (tx a))), some (.v (.str (tx b))), none, none, none], n'⟩) ?_ ?_
  · ((try dsimp only [fVar, fC, faNil, faCons, fTup, fnLst, fFz, fOp, fUn, fTB, fAndT, fOrT, fNotT, fAndV, fOrV, fNotV, fIf, fChain, fNoP, fPart, sliceF, fSlice, fCB, fName, fGNil, fGCons, fGTup, fSubL, fPass, fBreak, fCont, fNever, fSNil, fDrop, fRet, fRetN, fIfS, fAsg, fSet, fOwn, fOwnM, fSeq, fRaise, fFrz, fCall, fWhile, fFor, listW, seqW, pyW, addF, subF, ii, mulF, mulXF, fdivF, modF, powF, negF, ordF, ltF, leF, gtF, geF, eqF, isNonW, isNF, inF, inDF, ixF, tyW, fIsi, fIsiT, f1c, lenF, absF, intF, tupleF, boolsF, allF, anyF, reprF, fnListX, fItAny, fItR1, fItR2, fItEnum, fnLc, fnLcI, fnLcO, fMeth, appendF, popF, indexF, countBF, fMR, fJoin, fFind, fnSortSet, fIndexS, fnRep, fCallW, fCallN, fLamG, fParA, fEvalA, putFr, plains, Still, FSt.set_mk, FSt.pn, isi, List.any_cons, List.any_nil, List.getElem?_cons_zero, List.getElem?_cons_succ, List.set_cons_zero, List.set_cons_succ]); (try simp only [true_and, ex2, Option.some.injEq, exists_eq_left']))
    refine go2 ⟨cs, sts, 0, 6, rfl, ok, ok.h1, by omega, by omega, by omega, fun a b j n' h1 h2 h3 h4 _ _ h5 => ?_⟩
    exact ⟨a, b, n', h1, h2, List.length_pos_iff.mpr h3, h4, h5, rfl⟩
  · rintro _ ⟨a, b, n', ha, hb, hb1, hab, hn', rfl⟩
    refine seqF (fun s => ∃ m : Nat, 300 ≤ m ∧ m ≤ 1500 ∧ s = ⟨[some (.v .pen), some (.v (ruleU cs sts)), some (.v (.str (tx a))), some (.v (.str (tx b))), some (.v (.int m)), none, none], n' + 1⟩) ?_ ?_
    · ((try dsimp only [fVar, fC, faNil, faCons, fTup, fnLst, fFz, fOp, fUn, fTB, fAndT, fOrT, fNotT, fAndV, fOrV, fNotV, fIf, fChain, fNoP, fPart, sliceF, fSlice, fCB, fName, fGNil, fGCons, fGTup, fSubL, fPass, fBreak, fCont, fNever, fSNil, fDrop, fRet, fRetN, fIfS, fAsg, fSet, fOwn, fOwnM, fSeq, fRaise, fFrz, fCall, fWhile, fFor, listW, seqW, pyW, addF, subF, ii, mulF, mulXF, fdivF, modF, powF, negF, ordF, ltF, leF, gtF, geF, eqF, isNonW, isNF, inF, inDF, ixF, tyW, fIsi, fIsiT, f1c, lenF, absF, intF, tupleF, boolsF, allF, anyF, reprF, fnListX, fItAny, fItR1, fItR2, fItEnum, fnLc, fnLcI, fnLcO, fMeth, appendF, popF, indexF, countBF, fMR, fJoin, fFind, fnSortSet, fIndexS, fnRep, fCallW, fCallN, fLamG, fParA, fEvalA, putFr, plains, Still, FSt.set_mk, FSt.pn, isi, List.any_cons, List.any_nil, List.getElem?_cons_zero, List.getElem?_cons_succ, List.set_cons_zero, List.set_cons_succ]); (try simp only [true_and, ex2, Option.some.injEq, exists_eq_left']))
      refine ⟨by rw [sizeLine_eq]; simp, ?_⟩
      refine go_pick (by simp) (by simp) (by omega) fun u hu => ?_
      simp only [List.mem_cons, List.not_mem_nil, or_false] at hu
      rcases hu with rfl | rfl | rfl | rfl
      · exact ⟨300, by omega, by omega, rfl⟩
      · exact ⟨301, by omega, by omega, rfl⟩
      · exact ⟨700, by omega, by omega, rfl⟩
      · exact ⟨1500, by omega, by omega, rfl⟩
    · rintro _ ⟨m, m3, m15, rfl⟩
      refine seqF (fun s => ∃ w : List Nat, w.length ≤ 1500 ∧ (∀ c ∈ w, c ∈ cs) ∧ s = ⟨[some (.v .pen), some (.v (ruleU cs sts)), some (.v (.str (tx a))), some (.v (.str (tx b))), some (.v (.int m)), some (.v (.str (tx w))), none], n' + 1⟩) ?_ ?_
      · ((try dsimp only [fVar, fC, faNil, faCons, fTup, fnLst, fFz, fOp, fUn, fTB, fAndT, fOrT, fNotT, fAndV, fOrV, fNotV, fIf, fChain, fNoP, fPart, sliceF, fSlice, fCB, fName, fGNil, fGCons, fGTup, fSubL, fPass, fBreak, fCont, fNever, fSNil, fDrop, fRet, fRetN, fIfS, fAsg, fSet, fOwn, fOwnM, fSeq, fRaise, fFrz, fCall, fWhile, fFor, listW, seqW, pyW, addF, subF, ii, mulF, mulXF, fdivF, modF, powF, negF, ordF, ltF, leF, gtF, geF, eqF, isNonW, isNF, inF, inDF, ixF, tyW, fIsi, fIsiT, f1c, lenF, absF, intF, tupleF, boolsF, allF, anyF, reprF, fnListX, fItAny, fItR1, fItR2, fItEnum, fnLc, fnLcI, fnLcO, fMeth, appendF, popF, indexF, countBF, fMR, fJoin, fFind, fnSortSet, fIndexS, fnRep, fCallW, fCallN, fLamG, fParA, fEvalA, putFr, plains, Still, FSt.set_mk, FSt.pn, isi, List.any_cons, List.any_nil, List.getElem?_cons_zero, List.getElem?_cons_succ, List.set_cons_zero, List.set_cons_succ]); (try simp only [true_and, ex2, Option.some.injEq, exists_eq_left']))
        have hbm : b.length * m ≤ 20 * 1500 := Nat.mul_le_mul (by omega) m15
        have hc := Nat.mul_comm m b.length
        refine ⟨mulOk_tx b m (by omega) (by omega), ?_, ?_, (a ++ (List.replicate m b).flatten).take m, ?_, ?_, ?_⟩
        · rw [mul_tx, tx_len, tx_len, len_rep, sizeLine_eq]; omega
        · rw [mul_tx, tx_app, tx_len, List.length_append, len_rep, sizeLine_eq]; omega
        · rw [List.length_take]; omega
        · intro c h
          rcases List.mem_append.mp (List.mem_of_mem_take h) with h | h
          · exact ha c h
          · exact hb c (mem_rep h)
        · rw [mul_tx, tx_app, cutS_take]
      · rintro _ ⟨w, hw, hwm, rfl⟩
        refine seqF (fun s => ∃ l : List Nat, l.length ≤ 1500 ∧ (∀ c ∈ l, c ∈ cs) ∧ s = ⟨[some (.v .pen), some (.v (ruleU cs sts)), some (.v (.str (tx a))), some (.v (.str (tx b))), some (.v (.int m)), some (.v (.str (tx w))), some (.v (.str (tx l)))], n' + 1⟩) ?_ ?_
        · ((try dsimp only [fVar, fC, faNil, faCons, fTup, fnLst, fFz, fOp, fUn, fTB, fAndT, fOrT, fNotT, fAndV, fOrV, fNotV, fIf, fChain, fNoP, fPart, sliceF, fSlice, fCB, fName, fGNil, fGCons, fGTup, fSubL, fPass, fBreak, fCont, fNever, fSNil, fDrop, fRet, fRetN, fIfS, fAsg, fSet, fOwn, fOwnM, fSeq, fRaise, fFrz, fCall, fWhile, fFor, listW, seqW, pyW, addF, subF, ii, mulF, mulXF, fdivF, modF, powF, negF, ordF, ltF, leF, gtF, geF, eqF, isNonW, isNF, inF, inDF, ixF, tyW, fIsi, fIsiT, f1c, lenF, absF, intF, tupleF, boolsF, allF, anyF, reprF, fnListX, fItAny, fItR1, fItR2, fItEnum, fnLc, fnLcI, fnLcO, fMeth, appendF, popF, indexF, countBF, fMR, fJoin, fFind, fnSortSet, fIndexS, fnRep, fCallW, fCallN, fLamG, fParA, fEvalA, putFr, plains, Still, FSt.set_mk, FSt.pn, isi, List.any_cons, List.any_nil, List.getElem?_cons_zero, List.getElem?_cons_succ, List.set_cons_zero, List.set_cons_succ]); (try simp only [true_and, ex2, Option.some.injEq, exists_eq_left']))
          have e : (m : Int) / ((b.length : Nat) : Int) = ((m / b.length : Nat) : Int) := (Int.natCast_ediv m b.length).symm
          have h1 := Nat.mul_div_le m b.length
          have h2 := Nat.div_le_self m b.length
          have h3 := Nat.mul_comm b.length (m / b.length)
          rw [tx_len, e, mul_tx]
          refine ⟨by rw [sizeLine_eq]; omega, ⟨by omega, ?_⟩, mulOk_tx b _ (by omega) (by omega), _, ?_, ?_, rfl⟩
          · exact Sm.log (k := 9000) (by have : (2 : Nat) ^ 20 ≤ 2 ^ 9000 := Nat.pow_le_pow_right (by decide) (by decide); unfold Sm; omega) (by decide)
          · rw [len_rep]; omega
          · exact fun c h => hb c (mem_rep h)
        · rintro _ ⟨l, hl, hlm, rfl⟩
          refine seqF (fun s => ∃ (w : List Nat) (n2 : Nat), n2 ≤ n' + 3 ∧ w.length ≤ 1500 ∧ (∀ c ∈ w, c ∈ cs) ∧ s = ⟨[some (.v .pen), some (.v (ruleU cs sts)), some (.v (.str (tx a))), some (.v (.str (tx b))), some (.v (.int m)), some (.v (.str (tx w))), some (.v (.str (tx l)))], n2⟩) ?_ ?_
          · unfold ruleU
            ((try dsimp only [fVar, fC, faNil, faCons, fTup, fnLst, fFz, fOp, fUn, fTB, fAndT, fOrT, fNotT, fAndV, fOrV, fNotV, fIf, fChain, fNoP, fPart, sliceF, fSlice, fCB, fName, fGNil, fGCons, fGTup, fSubL, fPass, fBreak, fCont, fNever, fSNil, fDrop, fRet, fRetN, fIfS, fAsg, fSet, fOwn, fOwnM, fSeq, fRaise, fFrz, fCall, fWhile, fFor, listW, seqW, pyW, addF, subF, ii, mulF, mulXF, fdivF, modF, powF, negF, ordF, ltF, leF, gtF, geF, eqF, isNonW, isNF, inF, inDF, ixF, tyW, fIsi, fIsiT, f1c, lenF, absF, intF, tupleF, boolsF, allF, anyF, reprF, fnListX, fItAny, fItR1, fItR2, fItEnum, fnLc, fnLcI, fnLcO, fMeth, appendF, popF, indexF, countBF, fMR, fJoin, fFind, fnSortSet, fIndexS, fnRep, fCallW, fCallN, fLamG, fParA, fEvalA, putFr, plains, Still, FSt.set_mk, FSt.pn, isi, List.any_cons, List.any_nil, List.getElem?_cons_zero, List.getElem?_cons_succ, List.set_cons_zero, List.set_cons_succ]); (try simp only [true_and, ex2, Option.some.injEq, exists_eq_left']))
            refine go_take (by omega) (by omega) (by omega) fun r r0 r1 => ?_
            by_cases hr : r = 0
            · refine bcase_t (by rw [decide_eq_true hr]; rfl) ?_
              refine ⟨by rw [tx_len, sizeLine_eq]; omega, _, ruleU_0 cs sts, by rw [tx_len, sizeLine_eq]; omega, ?_⟩
              rw [signs_tx, cutS_last]
              refine go_pick ?_ (by rw [List.length_map]; omega) (by omega) fun u hu => ?_
              · intro z
                rw [List.map_eq_nil_iff] at z
                rw [z] at hL0
                simp at hL0
              · obtain ⟨c, hcm, rfl⟩ := List.mem_map.mp hu
                refine ⟨by rw [tx_len, tx_len, sizeLine_eq, List.length_dropLast]; simp; omega, w.dropLast ++ [c], (n' + 1) + 1 + 1, by omega, ?_, ?_, ?_⟩
                · rw [List.length_append, List.length_dropLast]; simp; omega
                · intro d hd
                  rcases List.mem_append.mp hd with h | h
                  · exact hwm d ((List.dropLast_sublist _).subset h)
                  · rw [List.mem_singleton.mp h]; exact hcm
                · rw [← tx_app]
            · exact bcase_f (by rw [decide_eq_false hr]; rfl) ⟨w, (n' + 1) + 1, by omega, hw, hwm, rfl⟩
          · rintro _ ⟨w, n2, hn2, hw, hwm, rfl⟩
            refine seqF (fun s => ∃ (l : List Nat) (n2 : Nat), n2 ≤ n' + 5 ∧ l.length ≤ 1500 ∧ (∀ c ∈ l, c ∈ cs) ∧ s = ⟨[some (.v .pen), some (.v (ruleU cs sts)), some (.v (.str (tx a))), some (.v (.str (tx b))), some (.v (.int m)), some (.v (.str (tx w))), some (.v (.str (tx l)))], n2⟩) ?_ ?_
            · unfold ruleU
              ((try dsimp only [fVar, fC, faNil, faCons, fTup, fnLst, fFz, fOp, fUn, fTB, fAndT, fOrT, fNotT, fAndV, fOrV, fNotV, fIf, fChain, fNoP, fPart, sliceF, fSlice, fCB, fName, fGNil, fGCons, fGTup, fSubL, fPass, fBreak, fCont, fNever, fSNil, fDrop, fRet, fRetN, fIfS, fAsg, fSet, fOwn, fOwnM, fSeq, fRaise, fFrz, fCall, fWhile, fFor, listW, seqW, pyW, addF, subF, ii, mulF, mulXF, fdivF, modF, powF, negF, ordF, ltF, leF, gtF, geF, eqF, isNonW, isNF, inF, inDF, ixF, tyW, fIsi, fIsiT, f1c, lenF, absF, intF, tupleF, boolsF, allF, anyF, reprF, fnListX, fItAny, fItR1, fItR2, fItEnum, fnLc, fnLcI, fnLcO, fMeth, appendF, popF, indexF, countBF, fMR, fJoin, fFind, fnSortSet, fIndexS, fnRep, fCallW, fCallN, fLamG, fParA, fEvalA, putFr, plains, Still, FSt.set_mk, FSt.pn, isi, List.any_cons, List.any_nil, List.getElem?_cons_zero, List.getElem?_cons_succ, List.set_cons_zero, List.set_cons_succ]); (try simp only [true_and, ex2, Option.some.injEq, exists_eq_left']))
              refine go_take (by omega) (by omega) (by omega) fun r r0 r1 => ?_
              by_cases hr : r = 0
              · refine bcase_t (by rw [decide_eq_true hr]; rfl) ?_
                refine ⟨by rw [tx_len, sizeLine_eq]; omega, _, ruleU_0 cs sts, by rw [tx_len, sizeLine_eq]; omega, ?_⟩
                rw [signs_tx, cutS_last]
                refine go_pick ?_ (by rw [List.length_map]; omega) (by omega) fun u hu => ?_
                · intro z
                  rw [List.map_eq_nil_iff] at z
                  rw [z] at hL0
                  simp at hL0
                · obtain ⟨c, hcm, rfl⟩ := List.mem_map.mp hu
                  refine ⟨by rw [tx_len, tx_len, sizeLine_eq, List.length_dropLast]; simp; omega, l.dropLast ++ [c], n2 + 1 + 1, by omega, ?_, ?_, ?_⟩
                  · rw [List.length_append, List.length_dropLast]; simp; omega
                  · intro d hd
                    rcases List.mem_append.mp hd with h | h
                    · exact hlm d ((List.dropLast_sublist _).subset h)
                    · rw [List.mem_singleton.mp h]; exact hcm
                  · rw [← tx_app]
              · exact bcase_f (by rw [decide_eq_false hr]; rfl) ⟨l, n2 + 1, by omega, hl, hlm, rfl⟩
            · rintro _ ⟨l, n3, hn3, hl, hlm, rfl⟩
              ((try dsimp only [fVar, fC, faNil, faCons, fTup, fnLst, fFz, fOp, fUn, fTB, fAndT, fOrT, fNotT, fAndV, fOrV, fNotV, fIf, fChain, fNoP, fPart, sliceF, fSlice, fCB, fName, fGNil, fGCons, fGTup, fSubL, fPass, fBreak, fCont, fNever, fSNil, fDrop, fRet, fRetN, fIfS, fAsg, fSet, fOwn, fOwnM, fSeq, fRaise, fFrz, fCall, fWhile, fFor, listW, seqW, pyW, addF, subF, ii, mulF, mulXF, fdivF, modF, powF, negF, ordF, ltF, leF, gtF, geF, eqF, isNonW, isNF, inF, inDF, ixF, tyW, fIsi, fIsiT, f1c, lenF, absF, intF, tupleF, boolsF, allF, anyF, reprF, fnListX, fItAny, fItR1, fItR2, fItEnum, fnLc, fnLcI, fnLcO, fMeth, appendF, popF, indexF, countBF, fMR, fJoin, fFind, fnSortSet, fIndexS, fnRep, fCallW, fCallN, fLamG, fParA, fEvalA, putFr, plains, Still, FSt.set_mk, FSt.pn, isi, List.any_cons, List.any_nil, List.getElem?_cons_zero, List.getElem?_cons_succ, List.set_cons_zero, List.set_cons_succ]); (try simp only [true_and, ex2, Option.some.injEq, exists_eq_left']))
              exact ⟨by rw [sizeLine_eq]; simp, q w l n3 (by omega) hw hl hwm hlm⟩
end LD

/-! LH35f: the law of words of rules: what is refused -/
namespace LD
open PySem PySem.Spec PyProof.Rows L2
abbrev F_law_x_refused_right : FSp := fun us n Q X => ∃ cs sts, us = [.pen, ruleU cs sts] ∧ OkR cs sts ∧ n + 20 ≤ 1000000 ∧ ∀ n', n' ≤ n + 20 → Q (.bl true) n'

def f_law_x_refused_right : FS :=
  fSeq (fSet 2 (fOp ixF (fVar 1) (fC (.int 0))))
  (fSeq (fSet 3 (fCall F_law_x_pick (faCons (fVar 0) (faCons (fFz (fnLcI (fItAny (fC (.str "abcdefghijklmnopqrstuvwxyz"))) 12 (fTB (fOp (inF true) (fVar 12) (fVar 2))) (fVar 12))) (faNil)))))
  (fSeq (fSet 4 (fFz (fnLc (fItR1 (fC (.int 3))) 13 (fOp (eqF false) (fCall F_law_take (faCons (fVar 0) (faCons (fC (.int 2)) (faNil)))) (fC (.int 0))))))
  (fSeq (fOwn 5 (fnLst (faCons (fC .non) (faCons (fVar 2) (faCons (fTup (faCons (fVar 2) (faNil))) (faCons (fFz (fnLst (faCons (fVar 2) (faCons (fTup (faNil)) (faNil))))) (faCons (fTup (faCons (fVar 2) (faCons (fTup (faNil)) (faNil)))) (faNil))))))))
  (fSeq (fDrop (fMeth 5 appendF (faCons (fTup (faCons (fVar 2) (faCons (fTup (faCons (fOp mulXF (fTup (faCons (fC .non) (faNil))) (fCB lenF (faCons (fVar 2) (faNil)))) (faNil))) (faNil)))) (faNil))))
  (fFrz 5 (fSeq (fSet 6 (fCall F_law_x_pick (faCons (fVar 0) (faCons (fVar 5) (faNil)))))
  (fSeq (fSet 9 (fIf (fTB (fOp ixF (fVar 4) (fC (.int 0)))) (fVar 6) (fVar 1)))
  (fSeq (fOwn 5 (fnLst (faCons (fC .non) (faCons (fVar 3) (faCons (fOp addF (fVar 2) (fVar 3)) (faCons (fTup (faCons (fVar 2) (faNil))) (faCons (fC (.int 0)) (faCons (fOp addF (fOp addF (fOp ixF (fVar 2) (fC (.int 0))) (fVar 3)) (fOp ixF (fVar 2) (fC (.int 0)))) (faNil)))))))))
  (fSeq (fSet 6 (fCall F_law_x_pick (faCons (fVar 0) (faCons (fOp addF (fVar 5) (fFz (fnLst (faCons (fOp mulXF (fOp ixF (fVar 2) (fC (.int 0))) (fC (.int 1501))) (faNil))))) (faNil)))))
  (fSeq (fSet 11 (fIf (fTB (fOp ixF (fVar 4) (fC (.int 1)))) (fVar 6) (fVar 2)))
  (fSeq (fOwn 5 (fnLst (faCons (fC (.str "")) (faCons (fVar 3) (faCons (fC (.int 7)) (faCons (fC (.bl true)) (faCons (fTup (faCons (fVar 2) (faNil))) (faCons (fOp addF (fOp addF (fOp ixF (fVar 2) (fC (.int 0))) (fVar 3)) (fOp ixF (fVar 2) (fC (.int 0)))) (faNil)))))))))
  (fSeq (fSet 6 (fCall F_law_x_pick (faCons (fVar 0) (faCons (fOp addF (fVar 5) (fFz (fnLst (faCons (fOp mulXF (fOp ixF (fVar 2) (fC (.int 0))) (fC (.int 1501))) (faNil))))) (faNil)))))
  (fSeq (fSet 8 (fIf (fTB (fOp ixF (fVar 4) (fC (.int 2)))) (fVar 6) (fVar 2)))
  (fSeq (fSet 7 (fIf (fTB (fOp ixF (fVar 4) (fC (.int 0)))) (fC (.str "rule")) (fIf (fOrT (fTB (fOp ixF (fVar 4) (fC (.int 1)))) (fTB (fOp ixF (fVar 4) (fC (.int 2))))) (fC (.str "word")) (fC (.str "fine")))))
  (fSeq (fIfS (fTB (fOp (eqF true) (fLamG (fCallW F_is_of (fun vs ks => vs ++ ks) (faCons (fVar 9) (faCons (fVar 11) (faNil))) (faCons (fVar 8) (faNil))) cs32 wd_law_x_word) (fVar 7))) (fRet (fC (.bl false))) (fSNil))
  (fSeq (fIfS (fTB (fOp (eqF true) (fLamG (fCallW F_is_of (fun vs _ => vs ++ [U.non]) (faCons (fVar 9) (faCons (fVar 11) (faNil))) (faNil)) cs32 wd_law_x_word) (fIf (fTB (fOp ixF (fVar 4) (fC (.int 0)))) (fC (.str "rule")) (fIf (fTB (fOp ixF (fVar 4) (fC (.int 1)))) (fC (.str "word")) (fC (.str "fine")))))) (fRet (fC (.bl false))) (fSNil))
  (fSeq (fOwn 5 (fnLst (faCons (fC .non) (faCons (fC (.str "")) (faCons (fC (.str "abcd")) (faCons (fC (.str "ba")) (faCons (fC (.str "aa")) (faCons (fC (.str "A")) (faCons (fTup (faCons (fC (.str "a")) (faNil))) (faCons (fC (.int 7)) (faCons (fC (.str "a ")) (faCons (fC (.str "1")) (faCons (fC (.str "Ab")) (faCons (fC (.str "1a")) (faCons (fC (.str "-z")) (faCons (fC (.str "a{")) (faCons (fC (.str "ab~")) (faCons (fC (.str "A_a")) (faNil)))))))))))))))))))
  (fFrz 5 (fSeq (fSet 10 (fCall F_law_x_pick (faCons (fVar 0) (faCons (fVar 5) (faNil)))))
  (fRet (fOp (eqF false) (fLamG (fCallW F_free_rule (fun vs _ => vs) (faCons (fVar 10) (faNil)) (faNil)) cs32 wd_law_x_word) (fC (.str "letters")))))))))))))))))))))))
-- slots of _law_x_refused_right: 0=pen 1=rule 2=letters 3=other 4=wrong 5=some 6=bad 7=due 8=loop 9=one 10=what 11=word 12=letter 13=k

theorem wd_rule : wd_law_x_word "NoRule" = "rule" := by decide +kernel
theorem wd_word : wd_law_x_word "NoWord" = "word" := by decide +kernel
theorem wd_letters : wd_law_x_word "NoLetters" = "letters" := by decide +kernel
theorem in_rule : (("NoRule" : Str)) ∈ cs32 := by decide +kernel
theorem in_word : (("NoWord" : Str)) ∈ cs32 := by decide +kernel
theorem in_letters : (("NoLetters" : Str)) ∈ cs32 := by decide +kernel
theorem codes_ok {ws : List Nat} (h : ∀ c ∈ ws, c ≤ 122) (hl : ws.length ≤ 1000000) : okU (.str (tx ws)) = true := by
  rw [okU, Bool.and_eq_true, decide_eq_true_eq, tx_len]
  refine ⟨?_, hl⟩
  rw [Array.all_eq_true']
  intro c hc
  have := h c (by unfold tx at hc; simpa using hc)
  exact decide_eq_true (by omega)
theorem sideB_not {cs ws : List Nat} {c : Nat} (h : c ∈ ws) (h2 : c ∉ cs) : sideB cs (.str (tx ws)) = false := by
  rw [← Bool.not_eq_true]
  intro z
  have := (sideB_word z).2.2 c (by rw [wordOf, tx_cps]; exact h)
  exact h2 this
theorem sideB_long {cs ws : List Nat} (h : 1500 < ws.length) : sideB cs (.str (tx ws)) = false := by
  rw [sideB, tx_len, decide_eq_false (by omega)]; rfl
/-- is_of's word, as the law's lambda hears it -/
theorem is_of_word {r w g : U} {n : Nat} {R : Str → Prop} (hr : okU r = true) (hw : okU w = true) (hg : okU g = true)
    (q : (ruleB r = false ∧ R "rule") ∨ ∃ cs sts, r = ruleU cs sts ∧ OkR cs sts ∧ bcase (sideB cs w) (bcase (isNonU g) (R "fine") (bcase (ringB cs g) (R "fine") (R "word"))) (R "word")) :
    F_is_of [r, w, g] n (fun _ n' => n' = n ∧ R "fine") (fun x n' => n' = n ∧ x ∈ cs32 ∧ R (wd_law_x_word x)) := by
  refine ⟨r, w, g, rfl, hr, hw, hg, ?_⟩
  rcases q with ⟨h, q⟩ | ⟨cs, sts, h1, h2, q⟩
  · exact .inl ⟨h, rfl, in_rule, by rw [wd_rule]; exact q⟩
  · refine .inr ⟨cs, sts, h1, h2, bcase_mono q (fun q => bcase_mono q (fun q => ⟨rfl, q⟩) fun q => bcase_mono q (fun q => ⟨rfl, q⟩) fun q => ⟨rfl, in_word, by rw [wd_word]; exact q⟩) fun q => ⟨rfl, in_word, by rw [wd_word]; exact q⟩⟩
def L16 : List U := [.non, .str "", .str "abcd", .str "ba", .str "aa", .str "A", .tup [.str "a"], .int 7, .str "a ", .str "1", .str "Ab", .str "1a", .str "-z", .str "a{", .str "ab~", .str "A_a"]
theorem l16_ok : L16.all (fun x => strOkU x && !lettersB x) = true := by decide +kernel
def dueS (b0 b1 b2 : Bool) : Str := if b0 then "rule" else if b1 || b2 then "word" else "fine"
theorem fp_law_x_refused_right : ∀ us n Q X, us.length = 2 → F_law_x_refused_right us n Q X → f_law_x_refused_right.run X { nx := fun s => Q .non s.n, rt := Q } ⟨fStart 14 us, n⟩ := by
  rintro us n Q X hl ⟨cs, sts, rfl, ok, hn, q⟩
  rw [show fStart 14 [.pen, ruleU cs sts] = [some (.v .pen), some (.v (ruleU cs sts)), none, none, none, none, none, none, none, none, none, none, none, none] from rfl]
  have hL := ok.ltr.2.1
  have hL0 := ok.ltr.1
  have hc0 : 0 < cs.length := hL0
  have hcode : ∀ c ∈ cs, c ≤ 122 := fun c h => (ok.ltr.2.2.2 c h).2
  have hat0 : atI (tx cs).cps.toList (0 : Int) = some cs[0] := by rw [tx_cps]; exact atI_nat (k := 0) hc0
  have hs : ∀ k : Nat, k ≤ 2000 → k ≤ sizeLine := fun k h => by rw [sizeLine_eq]; omega
  unfold f_law_x_refused_right
  refine seqF (fun s => s = ⟨[some (.v .pen), some (.v (ruleU cs sts)), some (.v (.str (tx cs))), none, none, none, none, none, none, none, none, none, none, none], n⟩) ?_ ?_
  · unfold ruleU
    ((try dsimp only [fVar, fC, faNil, faCons, fTup, fnLst, fFz, fOp, fUn, fTB, fAndT, fOrT, fNotT, fAndV, fOrV, fNotV, fIf, fChain, fNoP, fPart, sliceF, fSlice, fCB, fName, fGNil, fGCons, fGTup, fSubL, fPass, fBreak, fCont, fNever, fSNil, fDrop, fRet, fRetN, fIfS, fAsg, fSet, fOwn, fOwnM, fSeq, fRaise, fFrz, fCall, fWhile, fFor, listW, seqW, pyW, addF, subF, ii, mulF, mulXF, fdivF, modF, powF, negF, ordF, ltF, leF, gtF, geF, eqF, isNonW, isNF, inF, inDF, ixF, tyW, fIsi, fIsiT, f1c, lenF, absF, intF, tupleF, boolsF, allF, anyF, reprF, fnListX, fItAny, fItR1, fItR2, fItEnum, fnLc, fnLcI, fnLcO, fMeth, appendF, popF, indexF, countBF, fMR, fJoin, fFind, fnSortSet, fIndexS, fnRep, fCallW, fCallN, fLamG, fParA, fEvalA, putFr, plains, Still, FSt.set_mk, FSt.pn, isi, List.any_cons, List.any_nil, List.getElem?_cons_zero, List.getElem?_cons_succ, List.set_cons_zero, List.set_cons_succ]); (try simp only [true_and, ex2, Option.some.injEq, exists_eq_left']))
    exact ⟨_, ruleU_0 cs sts, rfl⟩
  · rintro _ rfl
    refine seqF (fun s => ∃ (o : Nat) (w12 : Option W), o ∉ cs ∧ o ≤ 122 ∧ s = ⟨[some (.v .pen), some (.v (ruleU cs sts)), some (.v (.str (tx cs))), some (.v (.str (tx [o]))), none, none, none, none, none, none, none, none, w12, none], n + 1⟩) ?_ ?_
    · ((try dsimp only [fVar, fC, faNil, faCons, fTup, fnLst, fFz, fOp, fUn, fTB, fAndT, fOrT, fNotT, fAndV, fOrV, fNotV, fIf, fChain, fNoP, fPart, sliceF, fSlice, fCB, fName, fGNil, fGCons, fGTup, fSubL, fPass, fBreak, fCont, fNever, fSNil, fDrop, fRet, fRetN, fIfS, fAsg, fSet, fOwn, fOwnM, fSeq, fRaise, fFrz, fCall, fWhile, fFor, listW, seqW, pyW, addF, subF, ii, mulF, mulXF, fdivF, modF, powF, negF, ordF, ltF, leF, gtF, geF, eqF, isNonW, isNF, inF, inDF, ixF, tyW, fIsi, fIsiT, f1c, lenF, absF, intF, tupleF, boolsF, allF, anyF, reprF, fnListX, fItAny, fItR1, fItR2, fItEnum, fnLc, fnLcI, fnLcO, fMeth, appendF, popF, indexF, countBF, fMR, fJoin, fFind, fnSortSet, fIndexS, fnRep, fCallW, fCallN, fLamG, fParA, fEvalA, putFr, plains, Still, FSt.set_mk, FSt.pn, isi, List.any_cons, List.any_nil, List.getElem?_cons_zero, List.getElem?_cons_succ, List.set_cons_zero, List.set_cons_succ]); (try simp only [true_and, ex2, Option.some.injEq, exists_eq_left']))
      have ea : signsU (Str.ofString "abcdefghijklmnopqrstuvwxyz") = (List.range' 97 26).map fun c => U.str (tx [c]) := by rw [alpha_codes, signs_tx]
      rw [ea]
      refine lcFI_map (fun c : Nat => U.str (tx [c])) (fun c => decide (c ∉ cs)) (fun c => U.str (tx [c])) (fun s => ∃ w12, s = ⟨[some (.v .pen), some (.v (ruleU cs sts)), some (.v (.str (tx cs))), none, none, none, none, none, none, none, none, none, w12, none], n⟩) (fun c s => s = ⟨[some (.v .pen), some (.v (ruleU cs sts)), some (.v (.str (tx cs))), none, none, none, none, none, none, none, none, none, some (.v (.str (tx [c]))), none], n⟩) (List.range' 97 26) ?_ ?_ _ _ ⟨none, rfl⟩ (by rw [sizeLine_eq]; simp) ?_
      · rintro c hc s R ⟨w, rfl⟩ k
        ((try dsimp only [fVar, fC, faNil, faCons, fTup, fnLst, fFz, fOp, fUn, fTB, fAndT, fOrT, fNotT, fAndV, fOrV, fNotV, fIf, fChain, fNoP, fPart, sliceF, fSlice, fCB, fName, fGNil, fGCons, fGTup, fSubL, fPass, fBreak, fCont, fNever, fSNil, fDrop, fRet, fRetN, fIfS, fAsg, fSet, fOwn, fOwnM, fSeq, fRaise, fFrz, fCall, fWhile, fFor, listW, seqW, pyW, addF, subF, ii, mulF, mulXF, fdivF, modF, powF, negF, ordF, ltF, leF, gtF, geF, eqF, isNonW, isNF, inF, inDF, ixF, tyW, fIsi, fIsiT, f1c, lenF, absF, intF, tupleF, boolsF, allF, anyF, reprF, fnListX, fItAny, fItR1, fItR2, fItEnum, fnLc, fnLcI, fnLcO, fMeth, appendF, popF, indexF, countBF, fMR, fJoin, fFind, fnSortSet, fIndexS, fnRep, fCallW, fCallN, fLamG, fParA, fEvalA, putFr, plains, Still, FSt.set_mk, FSt.pn, isi, List.any_cons, List.any_nil, List.getElem?_cons_zero, List.getElem?_cons_succ, List.set_cons_zero, List.set_cons_succ]); (try simp only [true_and, ex2, Option.some.injEq, exists_eq_left']))
        rw [inS_one]
        have := k _ rfl ⟨_, rfl⟩
        have e : (decide (c ∈ cs) ^^ true) = decide (c ∉ cs) := by by_cases h : c ∈ cs <;> simp [h]
        rw [e]
        exact this
      · rintro c hc hp s R rfl k
        exact k _ ⟨_, rfl⟩
      · rintro s' ⟨w, rfl⟩
        rw [List.nil_append]
        refine go_pick ?_ ?_ (by show n < _; omega) fun u hu => ?_
        · intro z
          have z := List.map_eq_nil_iff.mp z
          have key : ∀ c, 97 ≤ c → c < 123 → c ∈ cs := fun c h1 h2 => by
            refine Classical.byContradiction fun h => ?_
            have : c ∈ (List.range' 97 26).filter (fun c => decide (c ∉ cs)) := List.mem_filter.mpr ⟨List.mem_range'_1.mpr ⟨h1, by omega⟩, by simpa using h⟩
            rw [z] at this
            cases this
          have k1 := key 97 (by omega) (by omega)
          have k2 := key 98 (by omega) (by omega)
          have k3 := key 99 (by omega) (by omega)
          have k4 := key 100 (by omega) (by omega)
          match cs, hL, k1, k2, k3, k4 with
          | [], _, k1, _, _, _ => cases k1
          | [a], _, k1, k2, _, _ => simp at k1 k2; omega
          | [a, b], _, k1, k2, k3, _ => simp at k1 k2 k3; omega
          | [a, b, c], _, k1, k2, k3, k4 => simp at k1 k2 k3 k4; omega
        · rw [List.length_map]
          have := List.length_filter_le (fun c => decide (c ∉ cs)) (List.range' 97 26)
          rw [List.length_range'] at this
          omega
        · obtain ⟨c, hc, rfl⟩ := List.mem_map.mp hu
          obtain ⟨h1, h2⟩ := List.mem_filter.mp hc
          have h1 := List.mem_range'_1.mp h1
          exact ⟨c, _, of_decide_eq_true h2, by omega, rfl⟩
    · rintro _ ⟨o, w12, ho, ho2, rfl⟩
      refine seqF (fun s => ∃ (b0 b1 b2 : Bool) (w13 : Option W), s = ⟨[some (.v .pen), some (.v (ruleU cs sts)), some (.v (.str (tx cs))), some (.v (.str (tx [o]))), some (.v (.lst [.bl b0, .bl b1, .bl b2])), none, none, none, none, none, none, none, w12, w13], n + 4⟩) ?_ ?_
      · ((try dsimp only [fVar, fC, faNil, faCons, fTup, fnLst, fFz, fOp, fUn, fTB, fAndT, fOrT, fNotT, fAndV, fOrV, fNotV, fIf, fChain, fNoP, fPart, sliceF, fSlice, fCB, fName, fGNil, fGCons, fGTup, fSubL, fPass, fBreak, fCont, fNever, fSNil, fDrop, fRet, fRetN, fIfS, fAsg, fSet, fOwn, fOwnM, fSeq, fRaise, fFrz, fCall, fWhile, fFor, listW, seqW, pyW, addF, subF, ii, mulF, mulXF, fdivF, modF, powF, negF, ordF, ltF, leF, gtF, geF, eqF, isNonW, isNF, inF, inDF, ixF, tyW, fIsi, fIsiT, f1c, lenF, absF, intF, tupleF, boolsF, allF, anyF, reprF, fnListX, fItAny, fItR1, fItR2, fItEnum, fnLc, fnLcI, fnLcO, fMeth, appendF, popF, indexF, countBF, fMR, fJoin, fFind, fnSortSet, fIndexS, fnRep, fCallW, fCallN, fLamG, fParA, fEvalA, putFr, plains, Still, FSt.set_mk, FSt.pn, isi, List.any_cons, List.any_nil, List.getElem?_cons_zero, List.getElem?_cons_succ, List.set_cons_zero, List.set_cons_succ]); (try simp only [true_and, ex2, Option.some.injEq, exists_eq_left']))
        refine ⟨⟨by omega, by omega⟩, ?_⟩
        refine lcF_inv (fun (i : Nat) => U.int (0 + (i : Int))) (fun rest acc s => ∃ (bs : List Bool) (w13 : Option W), acc = bs.map U.bl ∧ bs.length + rest.length = 3 ∧ s = ⟨[some (.v .pen), some (.v (ruleU cs sts)), some (.v (.str (tx cs))), some (.v (.str (tx [o]))), none, none, none, none, none, none, none, none, w12, w13], n + 1 + bs.length⟩) ?_ (List.range 3) ?_ _ _ ⟨[], none, rfl, by simp, rfl⟩ (by rw [sizeLine_eq]; simp)
        · rintro s acc ⟨bs, w, rfl, hb, rfl⟩
          match bs, hb with
          | [b0, b1, b2], _ => exact ⟨b0, b1, b2, _, rfl⟩
        · rintro x hx rest s acc R ⟨bs, w, rfl, hb, rfl⟩ k
          rw [List.length_cons] at hb
          ((try dsimp only [fVar, fC, faNil, faCons, fTup, fnLst, fFz, fOp, fUn, fTB, fAndT, fOrT, fNotT, fAndV, fOrV, fNotV, fIf, fChain, fNoP, fPart, sliceF, fSlice, fCB, fName, fGNil, fGCons, fGTup, fSubL, fPass, fBreak, fCont, fNever, fSNil, fDrop, fRet, fRetN, fIfS, fAsg, fSet, fOwn, fOwnM, fSeq, fRaise, fFrz, fCall, fWhile, fFor, listW, seqW, pyW, addF, subF, ii, mulF, mulXF, fdivF, modF, powF, negF, ordF, ltF, leF, gtF, geF, eqF, isNonW, isNF, inF, inDF, ixF, tyW, fIsi, fIsiT, f1c, lenF, absF, intF, tupleF, boolsF, allF, anyF, reprF, fnListX, fItAny, fItR1, fItR2, fItEnum, fnLc, fnLcI, fnLcO, fMeth, appendF, popF, indexF, countBF, fMR, fJoin, fFind, fnSortSet, fIndexS, fnRep, fCallW, fCallN, fLamG, fParA, fEvalA, putFr, plains, Still, FSt.set_mk, FSt.pn, isi, List.any_cons, List.any_nil, List.getElem?_cons_zero, List.getElem?_cons_succ, List.set_cons_zero, List.set_cons_succ]); (try simp only [true_and, ex2, Option.some.injEq, exists_eq_left']))
          refine go_take (by omega) (by omega) (by omega) fun r r0 r1 => ?_
          exact k _ _ ⟨bs ++ [decide (r = 0) ^^ false], some (.v (.int (0 + (x : Int)))), by simp, by simp; omega, by rw [List.length_append]; rfl⟩
      · rintro _ ⟨b0, b1, b2, w13, rfl⟩
        have ocs : okU (.str (tx cs)) = true := ltrs_ok ok.ltr
        have oo : okU (.str (tx [o])) = true := codes_ok (fun c h => by rw [List.mem_singleton.mp h]; exact ho2) (by simp)
        have lB := letters_ok ok.ltr
        have oco : okU (.str (tx (cs ++ [o]))) = true := codes_ok (fun c h => by
          rcases List.mem_append.mp h with h | h
          · exact hcode c h
          · rw [List.mem_singleton.mp h]; exact ho2) (by rw [List.length_append]; simp; omega)
        have h00 : cs[0] ≤ 122 := hcode _ (List.getElem_mem hc0)
        have ococ : okU (.str (tx [cs[0], o, cs[0]])) = true := codes_ok (fun c h => by
          simp only [List.mem_cons, List.not_mem_nil, or_false] at h
          rcases h with rfl | rfl | rfl <;> assumption) (by simp)
        have olong : okU (.str (tx (List.replicate 1501 [cs[0]]).flatten)) = true := codes_ok (fun c h => by
          have := mem_rep h
          rw [List.mem_singleton.mp this]; exact h00) (by rw [len_rep]; simp)
        refine seqF (fun s => s = ⟨[some (.v .pen), some (.v (ruleU cs sts)), some (.v (.str (tx cs))), some (.v (.str (tx [o]))), some (.v (.lst [.bl b0, .bl b1, .bl b2])), some (.ol 5 [.non, .str (tx cs), .tup [.str (tx cs)], .lst [.str (tx cs), .tup []], .tup [.str (tx cs), .tup []]]), none, none, none, none, none, none, w12, w13], n + 4⟩) ?_ ?_
        · ((try dsimp only [fVar, fC, faNil, faCons, fTup, fnLst, fFz, fOp, fUn, fTB, fAndT, fOrT, fNotT, fAndV, fOrV, fNotV, fIf, fChain, fNoP, fPart, sliceF, fSlice, fCB, fName, fGNil, fGCons, fGTup, fSubL, fPass, fBreak, fCont, fNever, fSNil, fDrop, fRet, fRetN, fIfS, fAsg, fSet, fOwn, fOwnM, fSeq, fRaise, fFrz, fCall, fWhile, fFor, listW, seqW, pyW, addF, subF, ii, mulF, mulXF, fdivF, modF, powF, negF, ordF, ltF, leF, gtF, geF, eqF, isNonW, isNF, inF, inDF, ixF, tyW, fIsi, fIsiT, f1c, lenF, absF, intF, tupleF, boolsF, allF, anyF, reprF, fnListX, fItAny, fItR1, fItR2, fItEnum, fnLc, fnLcI, fnLcO, fMeth, appendF, popF, indexF, countBF, fMR, fJoin, fFind, fnSortSet, fIndexS, fnRep, fCallW, fCallN, fLamG, fParA, fEvalA, putFr, plains, Still, FSt.set_mk, FSt.pn, isi, List.any_cons, List.any_nil, List.getElem?_cons_zero, List.getElem?_cons_succ, List.set_cons_zero, List.set_cons_succ]); (try simp only [true_and, ex2, Option.some.injEq, exists_eq_left']))
          exact ⟨hs _ (by simp), hs _ (by simp), hs _ (by simp), hs _ (by simp), hs _ (by simp), hs _ (by simp), trivial⟩
        · rintro _ rfl
          refine seqF (fun s => ∃ l : List U, (∀ x ∈ l, okU x = true ∧ ruleB x = false) ∧ l ≠ [] ∧ l.length ≤ 10 ∧ s = ⟨[some (.v .pen), some (.v (ruleU cs sts)), some (.v (.str (tx cs))), some (.v (.str (tx [o]))), some (.v (.lst [.bl b0, .bl b1, .bl b2])), some (.ol 5 l), none, none, none, none, none, none, w12, w13], n + 4⟩) ?_ ?_
          · ((try dsimp only [fVar, fC, faNil, faCons, fTup, fnLst, fFz, fOp, fUn, fTB, fAndT, fOrT, fNotT, fAndV, fOrV, fNotV, fIf, fChain, fNoP, fPart, sliceF, fSlice, fCB, fName, fGNil, fGCons, fGTup, fSubL, fPass, fBreak, fCont, fNever, fSNil, fDrop, fRet, fRetN, fIfS, fAsg, fSet, fOwn, fOwnM, fSeq, fRaise, fFrz, fCall, fWhile, fFor, listW, seqW, pyW, addF, subF, ii, mulF, mulXF, fdivF, modF, powF, negF, ordF, ltF, leF, gtF, geF, eqF, isNonW, isNF, inF, inDF, ixF, tyW, fIsi, fIsiT, f1c, lenF, absF, intF, tupleF, boolsF, allF, anyF, reprF, fnListX, fItAny, fItR1, fItR2, fItEnum, fnLc, fnLcI, fnLcO, fMeth, appendF, popF, indexF, countBF, fMR, fJoin, fFind, fnSortSet, fIndexS, fnRep, fCallW, fCallN, fLamG, fParA, fEvalA, putFr, plains, Still, FSt.set_mk, FSt.pn, isi, List.any_cons, List.any_nil, List.getElem?_cons_zero, List.getElem?_cons_succ, List.set_cons_zero, List.set_cons_succ]); (try simp only [true_and, ex2, Option.some.injEq, exists_eq_left']))
            refine ⟨hs _ (by simp), by rw [tx_len]; exact hs _ (by omega), by simp, by rw [tx_len]; omega, by rw [tx_len]; omega, by simp, hs _ (by simp), hs _ (by simp), by rw [sizeLine_eq]; simp, _, ?_, by simp, by simp, rfl⟩
            intro x hx
            simp only [List.mem_append, List.mem_cons, List.not_mem_nil, or_false] at hx
            rcases hx with (rfl | rfl | rfl | rfl | rfl) | rfl
            · exact ⟨rfl, rfl⟩
            · exact ⟨ocs, rfl⟩
            · exact ⟨by rw [okU, okUs, okUs, ocs]; rfl, rfl⟩
            · exact ⟨by rw [okU, okUs, okUs, okUs, ocs]; rfl, rfl⟩
            · exact ⟨by rw [okU, okUs, okUs, okUs, ocs]; rfl, by rw [ruleB]; simp⟩
            · rw [tx_len, Int.toNat_natCast]
              have hall : ∀ u ∈ (List.replicate cs.length [U.non]).flatten, u = .non := fun u hu => by
                obtain ⟨l, h1, h2⟩ := List.mem_flatten.mp hu
                rw [(List.mem_replicate.mp h1).2] at h2
                exact List.mem_singleton.mp h2
              have hlen : (List.replicate cs.length [U.non]).flatten.length = cs.length := by simp
              have h1 : okU (.tup (List.replicate cs.length [U.non]).flatten) = true := by
                rw [okU, hlen, decide_eq_true (by omega), Bool.and_true]
                exact okUs_of fun u hu => by rw [hall u hu]; rfl
              have h2 : (List.replicate cs.length [U.non]).flatten.all isNonU = true := by
                rw [List.all_eq_true]; exact fun u hu => by rw [hall u hu]; rfl
              refine ⟨?_, ?_⟩
              · rw [okU, okUs, okUs, okUs, ocs, okU, okUs, okUs, h1]; rfl
              · rw [ruleB, List.all_cons, stateB, h2]; simp
          · rintro _ ⟨l, hl1, hl2, hl3, rfl⟩
            dsimp only [fFrz, List.getElem?_cons_succ, List.getElem?_cons_zero, FSt.set_mk, List.set_cons_succ, List.set_cons_zero]
            refine seqF (fun s => ∃ bad : U, okU bad = true ∧ ruleB bad = false ∧ s = ⟨[some (.v .pen), some (.v (ruleU cs sts)), some (.v (.str (tx cs))), some (.v (.str (tx [o]))), some (.v (.lst [.bl b0, .bl b1, .bl b2])), some (.v (.lst l)), some (.v bad), none, none, none, none, none, w12, w13], n + 5⟩) ?_ ?_
            · ((try dsimp only [fVar, fC, faNil, faCons, fTup, fnLst, fFz, fOp, fUn, fTB, fAndT, fOrT, fNotT, fAndV, fOrV, fNotV, fIf, fChain, fNoP, fPart, sliceF, fSlice, fCB, fName, fGNil, fGCons, fGTup, fSubL, fPass, fBreak, fCont, fNever, fSNil, fDrop, fRet, fRetN, fIfS, fAsg, fSet, fOwn, fOwnM, fSeq, fRaise, fFrz, fCall, fWhile, fFor, listW, seqW, pyW, addF, subF, ii, mulF, mulXF, fdivF, modF, powF, negF, ordF, ltF, leF, gtF, geF, eqF, isNonW, isNF, inF, inDF, ixF, tyW, fIsi, fIsiT, f1c, lenF, absF, intF, tupleF, boolsF, allF, anyF, reprF, fnListX, fItAny, fItR1, fItR2, fItEnum, fnLc, fnLcI, fnLcO, fMeth, appendF, popF, indexF, countBF, fMR, fJoin, fFind, fnSortSet, fIndexS, fnRep, fCallW, fCallN, fLamG, fParA, fEvalA, putFr, plains, Still, FSt.set_mk, FSt.pn, isi, List.any_cons, List.any_nil, List.getElem?_cons_zero, List.getElem?_cons_succ, List.set_cons_zero, List.set_cons_succ]); (try simp only [true_and, ex2, Option.some.injEq, exists_eq_left']))
              refine go_pick hl2 (by omega) (by omega) fun u hu => ?_
              exact ⟨u, (hl1 u hu).1, (hl1 u hu).2, rfl⟩
            · rintro _ ⟨bad, hb1, hb2, rfl⟩
              refine seqF (fun s => ∃ one : U, okU one = true ∧ bcase b0 (ruleB one = false) (one = ruleU cs sts) ∧ s = ⟨[some (.v .pen), some (.v (ruleU cs sts)), some (.v (.str (tx cs))), some (.v (.str (tx [o]))), some (.v (.lst [.bl b0, .bl b1, .bl b2])), some (.v (.lst l)), some (.v bad), none, none, some (.v one), none, none, w12, w13], n + 5⟩) ?_ ?_
              · ((try dsimp only [fVar, fC, faNil, faCons, fTup, fnLst, fFz, fOp, fUn, fTB, fAndT, fOrT, fNotT, fAndV, fOrV, fNotV, fIf, fChain, fNoP, fPart, sliceF, fSlice, fCB, fName, fGNil, fGCons, fGTup, fSubL, fPass, fBreak, fCont, fNever, fSNil, fDrop, fRet, fRetN, fIfS, fAsg, fSet, fOwn, fOwnM, fSeq, fRaise, fFrz, fCall, fWhile, fFor, listW, seqW, pyW, addF, subF, ii, mulF, mulXF, fdivF, modF, powF, negF, ordF, ltF, leF, gtF, geF, eqF, isNonW, isNF, inF, inDF, ixF, tyW, fIsi, fIsiT, f1c, lenF, absF, intF, tupleF, boolsF, allF, anyF, reprF, fnListX, fItAny, fItR1, fItR2, fItEnum, fnLc, fnLcI, fnLcO, fMeth, appendF, popF, indexF, countBF, fMR, fJoin, fFind, fnSortSet, fIndexS, fnRep, fCallW, fCallN, fLamG, fParA, fEvalA, putFr, plains, Still, FSt.set_mk, FSt.pn, isi, List.any_cons, List.any_nil, List.getElem?_cons_zero, List.getElem?_cons_succ, List.set_cons_zero, List.set_cons_succ]); (try simp only [true_and, ex2, Option.some.injEq, exists_eq_left']))
                refine ⟨_, rfl, ?_⟩
                cases b0 with
                | true => exact ⟨bad, hb1, hb2, rfl⟩
                | false => exact ⟨ruleU cs sts, rule_okU ok, rfl, rfl⟩
              · rintro _ ⟨one, hone, hone2, rfl⟩
                refine seqF (fun s => ∃ l : List U, (∀ x ∈ l, okU x = true ∧ sideB cs x = false) ∧ l.length ≤ 10 ∧ s = ⟨[some (.v .pen), some (.v (ruleU cs sts)), some (.v (.str (tx cs))), some (.v (.str (tx [o]))), some (.v (.lst [.bl b0, .bl b1, .bl b2])), some (.ol 5 l), some (.v bad), none, none, some (.v one), none, none, w12, w13], n + 5⟩) ?_ ?_
                · ((try dsimp only [fVar, fC, faNil, faCons, fTup, fnLst, fFz, fOp, fUn, fTB, fAndT, fOrT, fNotT, fAndV, fOrV, fNotV, fIf, fChain, fNoP, fPart, sliceF, fSlice, fCB, fName, fGNil, fGCons, fGTup, fSubL, fPass, fBreak, fCont, fNever, fSNil, fDrop, fRet, fRetN, fIfS, fAsg, fSet, fOwn, fOwnM, fSeq, fRaise, fFrz, fCall, fWhile, fFor, listW, seqW, pyW, addF, subF, ii, mulF, mulXF, fdivF, modF, powF, negF, ordF, ltF, leF, gtF, geF, eqF, isNonW, isNF, inF, inDF, ixF, tyW, fIsi, fIsiT, f1c, lenF, absF, intF, tupleF, boolsF, allF, anyF, reprF, fnListX, fItAny, fItR1, fItR2, fItEnum, fnLc, fnLcI, fnLcO, fMeth, appendF, popF, indexF, countBF, fMR, fJoin, fFind, fnSortSet, fIndexS, fnRep, fCallW, fCallN, fLamG, fParA, fEvalA, putFr, plains, Still, FSt.set_mk, FSt.pn, isi, List.any_cons, List.any_nil, List.getElem?_cons_zero, List.getElem?_cons_succ, List.set_cons_zero, List.set_cons_succ]); (try simp only [true_and, ex2, Option.some.injEq, exists_eq_left']))
                  refine ⟨by rw [tx_len, tx_len]; exact hs _ (by simp; omega), hs _ (by simp), _, by rw [tx_len]; exact hs _ (by omega), hat0, hs _ (by show 1 + 1 ≤ _; omega), _, by rw [tx_len]; exact hs _ (by omega), hat0, hs _ (by show 2 + 1 ≤ _; omega), hs _ (by simp), _, ?_, by simp, rfl⟩
                  rw [tx_app]
                  rw [show ((⟨#[cs[0]]⟩ : Str) ++ tx [o]) ++ ⟨#[cs[0]]⟩ = tx [cs[0], o, cs[0]] from by rw [show (⟨#[cs[0]]⟩ : Str) = tx [cs[0]] from rfl, tx_app, tx_app]; rfl]
                  intro x hx
                  simp only [List.mem_cons, List.not_mem_nil, or_false] at hx
                  rcases hx with rfl | rfl | rfl | rfl | rfl | rfl
                  · exact ⟨rfl, rfl⟩
                  · exact ⟨oo, sideB_not (c := o) (by simp) ho⟩
                  · exact ⟨oco, sideB_not (c := o) (by simp) ho⟩
                  · exact ⟨by rw [okU, okUs, okUs, ocs]; rfl, rfl⟩
                  · exact ⟨rfl, rfl⟩
                  · exact ⟨ococ, sideB_not (c := o) (by simp) ho⟩
                · rintro _ ⟨l2, hl4, hl5, rfl⟩
                  refine seqF (fun s => ∃ bad2 : U, okU bad2 = true ∧ sideB cs bad2 = false ∧ s = ⟨[some (.v .pen), some (.v (ruleU cs sts)), some (.v (.str (tx cs))), some (.v (.str (tx [o]))), some (.v (.lst [.bl b0, .bl b1, .bl b2])), some (.ol 5 l2), some (.v bad2), none, none, some (.v one), none, none, w12, w13], n + 6⟩) ?_ ?_
                  · ((try dsimp only [fVar, fC, faNil, faCons, fTup, fnLst, fFz, fOp, fUn, fTB, fAndT, fOrT, fNotT, fAndV, fOrV, fNotV, fIf, fChain, fNoP, fPart, sliceF, fSlice, fCB, fName, fGNil, fGCons, fGTup, fSubL, fPass, fBreak, fCont, fNever, fSNil, fDrop, fRet, fRetN, fIfS, fAsg, fSet, fOwn, fOwnM, fSeq, fRaise, fFrz, fCall, fWhile, fFor, listW, seqW, pyW, addF, subF, ii, mulF, mulXF, fdivF, modF, powF, negF, ordF, ltF, leF, gtF, geF, eqF, isNonW, isNF, inF, inDF, ixF, tyW, fIsi, fIsiT, f1c, lenF, absF, intF, tupleF, boolsF, allF, anyF, reprF, fnListX, fItAny, fItR1, fItR2, fItEnum, fnLc, fnLcI, fnLcO, fMeth, appendF, popF, indexF, countBF, fMR, fJoin, fFind, fnSortSet, fIndexS, fnRep, fCallW, fCallN, fLamG, fParA, fEvalA, putFr, plains, Still, FSt.set_mk, FSt.pn, isi, List.any_cons, List.any_nil, List.getElem?_cons_zero, List.getElem?_cons_succ, List.set_cons_zero, List.set_cons_succ]); (try simp only [true_and, ex2, Option.some.injEq, exists_eq_left']))
                    refine ⟨_, by rw [tx_len]; exact hs _ (by omega), hat0, mulOk_tx [cs[0]] 1501 (by omega) (by simp), hs _ (by simp), by show l2.length + 1 ≤ _; exact hs _ (by omega), ?_⟩
                    rw [show Txt.mul (⟨#[cs[0]]⟩ : Str) 1501 = tx (List.replicate 1501 [cs[0]]).flatten from mul_tx [cs[0]] 1501]
                    refine go_pick (by simp) (by rw [List.length_append]; simp; omega) (by omega) fun u hu => ?_
                    rcases List.mem_append.mp hu with h | h
                    · exact ⟨u, (hl4 u h).1, (hl4 u h).2, rfl⟩
                    · rw [List.mem_singleton.mp h]
                      exact ⟨_, olong, sideB_long (by rw [len_rep]; simp), rfl⟩
                  · rintro _ ⟨bad2, hb3, hb4, rfl⟩
                    refine seqF (fun s => ∃ word : U, okU word = true ∧ bcase b1 (sideB cs word = false) (word = .str (tx cs)) ∧ s = ⟨[some (.v .pen), some (.v (ruleU cs sts)), some (.v (.str (tx cs))), some (.v (.str (tx [o]))), some (.v (.lst [.bl b0, .bl b1, .bl b2])), some (.ol 5 l2), some (.v bad2), none, none, some (.v one), none, some (.v word), w12, w13], n + 6⟩) ?_ ?_
                    · ((try dsimp only [fVar, fC, faNil, faCons, fTup, fnLst, fFz, fOp, fUn, fTB, fAndT, fOrT, fNotT, fAndV, fOrV, fNotV, fIf, fChain, fNoP, fPart, sliceF, fSlice, fCB, fName, fGNil, fGCons, fGTup, fSubL, fPass, fBreak, fCont, fNever, fSNil, fDrop, fRet, fRetN, fIfS, fAsg, fSet, fOwn, fOwnM, fSeq, fRaise, fFrz, fCall, fWhile, fFor, listW, seqW, pyW, addF, subF, ii, mulF, mulXF, fdivF, modF, powF, negF, ordF, ltF, leF, gtF, geF, eqF, isNonW, isNF, inF, inDF, ixF, tyW, fIsi, fIsiT, f1c, lenF, absF, intF, tupleF, boolsF, allF, anyF, reprF, fnListX, fItAny, fItR1, fItR2, fItEnum, fnLc, fnLcI, fnLcO, fMeth, appendF, popF, indexF, countBF, fMR, fJoin, fFind, fnSortSet, fIndexS, fnRep, fCallW, fCallN, fLamG, fParA, fEvalA, putFr, plains, Still, FSt.set_mk, FSt.pn, isi, List.any_cons, List.any_nil, List.getElem?_cons_zero, List.getElem?_cons_succ, List.set_cons_zero, List.set_cons_succ]); (try simp only [true_and, ex2, Option.some.injEq, exists_eq_left']))
                      refine ⟨_, rfl, ?_⟩
                      cases b1 with
                      | true => exact ⟨bad2, hb3, hb4, rfl⟩
                      | false => exact ⟨.str (tx cs), ocs, rfl, rfl⟩
                    · rintro _ ⟨word, hwo, hwo2, rfl⟩
                      refine seqF (fun s => ∃ l3 : List U, (∀ x ∈ l3, okU x = true ∧ isNonU x = false ∧ ringB cs x = false) ∧ l3.length ≤ 10 ∧ s = ⟨[some (.v .pen), some (.v (ruleU cs sts)), some (.v (.str (tx cs))), some (.v (.str (tx [o]))), some (.v (.lst [.bl b0, .bl b1, .bl b2])), some (.ol 5 l3), some (.v bad2), none, none, some (.v one), none, some (.v word), w12, w13], n + 6⟩) ?_ ?_
                      · ((try dsimp only [fVar, fC, faNil, faCons, fTup, fnLst, fFz, fOp, fUn, fTB, fAndT, fOrT, fNotT, fAndV, fOrV, fNotV, fIf, fChain, fNoP, fPart, sliceF, fSlice, fCB, fName, fGNil, fGCons, fGTup, fSubL, fPass, fBreak, fCont, fNever, fSNil, fDrop, fRet, fRetN, fIfS, fAsg, fSet, fOwn, fOwnM, fSeq, fRaise, fFrz, fCall, fWhile, fFor, listW, seqW, pyW, addF, subF, ii, mulF, mulXF, fdivF, modF, powF, negF, ordF, ltF, leF, gtF, geF, eqF, isNonW, isNF, inF, inDF, ixF, tyW, fIsi, fIsiT, f1c, lenF, absF, intF, tupleF, boolsF, allF, anyF, reprF, fnListX, fItAny, fItR1, fItR2, fItEnum, fnLc, fnLcI, fnLcO, fMeth, appendF, popF, indexF, countBF, fMR, fJoin, fFind, fnSortSet, fIndexS, fnRep, fCallW, fCallN, fLamG, fParA, fEvalA, putFr, plains, Still, FSt.set_mk, FSt.pn, isi, List.any_cons, List.any_nil, List.getElem?_cons_zero, List.getElem?_cons_succ, List.set_cons_zero, List.set_cons_succ]); (try simp only [true_and, ex2, Option.some.injEq, exists_eq_left']))
                        refine ⟨hs _ (by simp), _, by rw [tx_len]; exact hs _ (by omega), hat0, hs _ (by show 1 + 1 ≤ _; omega), _, by rw [tx_len]; exact hs _ (by omega), hat0, hs _ (by show 2 + 1 ≤ _; omega), hs _ (by simp), _, ?_, by simp, rfl⟩
                        rw [show ((⟨#[cs[0]]⟩ : Str) ++ tx [o]) ++ ⟨#[cs[0]]⟩ = tx [cs[0], o, cs[0]] from by rw [show (⟨#[cs[0]]⟩ : Str) = tx [cs[0]] from rfl, tx_app, tx_app]; rfl]
                        intro x hx
                        simp only [List.mem_cons, List.not_mem_nil, or_false] at hx
                        rcases hx with rfl | rfl | rfl | rfl | rfl | rfl
                        · exact ⟨(codes_ok (ws := []) (by simp) (by simp) : okU (.str (tx [])) = true), rfl, by rw [ringB]; exact Bool.and_false _⟩
                        · exact ⟨oo, rfl, by rw [ringB, sideB_not (c := o) (by simp) ho]; rfl⟩
                        · exact ⟨rfl, rfl, rfl⟩
                        · exact ⟨rfl, rfl, rfl⟩
                        · exact ⟨by rw [okU, okUs, okUs, ocs]; rfl, rfl, rfl⟩
                        · exact ⟨ococ, rfl, by rw [ringB, sideB_not (c := o) (by simp) ho]; rfl⟩
                      · rintro _ ⟨l3, hl6, hl7, rfl⟩
                        refine seqF (fun s => ∃ bad3 : U, okU bad3 = true ∧ isNonU bad3 = false ∧ ringB cs bad3 = false ∧ s = ⟨[some (.v .pen), some (.v (ruleU cs sts)), some (.v (.str (tx cs))), some (.v (.str (tx [o]))), some (.v (.lst [.bl b0, .bl b1, .bl b2])), some (.ol 5 l3), some (.v bad3), none, none, some (.v one), none, some (.v word), w12, w13], n + 7⟩) ?_ ?_
                        · ((try dsimp only [fVar, fC, faNil, faCons, fTup, fnLst, fFz, fOp, fUn, fTB, fAndT, fOrT, fNotT, fAndV, fOrV, fNotV, fIf, fChain, fNoP, fPart, sliceF, fSlice, fCB, fName, fGNil, fGCons, fGTup, fSubL, fPass, fBreak, fCont, fNever, fSNil, fDrop, fRet, fRetN, fIfS, fAsg, fSet, fOwn, fOwnM, fSeq, fRaise, fFrz, fCall, fWhile, fFor, listW, seqW, pyW, addF, subF, ii, mulF, mulXF, fdivF, modF, powF, negF, ordF, ltF, leF, gtF, geF, eqF, isNonW, isNF, inF, inDF, ixF, tyW, fIsi, fIsiT, f1c, lenF, absF, intF, tupleF, boolsF, allF, anyF, reprF, fnListX, fItAny, fItR1, fItR2, fItEnum, fnLc, fnLcI, fnLcO, fMeth, appendF, popF, indexF, countBF, fMR, fJoin, fFind, fnSortSet, fIndexS, fnRep, fCallW, fCallN, fLamG, fParA, fEvalA, putFr, plains, Still, FSt.set_mk, FSt.pn, isi, List.any_cons, List.any_nil, List.getElem?_cons_zero, List.getElem?_cons_succ, List.set_cons_zero, List.set_cons_succ]); (try simp only [true_and, ex2, Option.some.injEq, exists_eq_left']))
                          refine ⟨_, by rw [tx_len]; exact hs _ (by omega), hat0, mulOk_tx [cs[0]] 1501 (by omega) (by simp), hs _ (by simp), by show l3.length + 1 ≤ _; exact hs _ (by omega), ?_⟩
                          rw [show Txt.mul (⟨#[cs[0]]⟩ : Str) 1501 = tx (List.replicate 1501 [cs[0]]).flatten from mul_tx [cs[0]] 1501]
                          refine go_pick (by simp) (by rw [List.length_append]; simp; omega) (by omega) fun u hu => ?_
                          rcases List.mem_append.mp hu with h | h
                          · exact ⟨u, (hl6 u h).1, (hl6 u h).2.1, (hl6 u h).2.2, rfl⟩
                          · rw [List.mem_singleton.mp h]
                            exact ⟨_, olong, rfl, by rw [ringB, sideB_long (by rw [len_rep]; simp)]; rfl, rfl⟩
                        · rintro _ ⟨bad3, hb5, hb6, hb7, rfl⟩
                          refine seqF (fun s => ∃ loop : U, okU loop = true ∧ isNonU loop = false ∧ bcase b2 (ringB cs loop = false) (loop = .str (tx cs)) ∧ s = ⟨[some (.v .pen), some (.v (ruleU cs sts)), some (.v (.str (tx cs))), some (.v (.str (tx [o]))), some (.v (.lst [.bl b0, .bl b1, .bl b2])), some (.ol 5 l3), some (.v bad3), none, some (.v loop), some (.v one), none, some (.v word), w12, w13], n + 7⟩) ?_ ?_
                          · ((try dsimp only [fVar, fC, faNil, faCons, fTup, fnLst, fFz, fOp, fUn, fTB, fAndT, fOrT, fNotT, fAndV, fOrV, fNotV, fIf, fChain, fNoP, fPart, sliceF, fSlice, fCB, fName, fGNil, fGCons, fGTup, fSubL, fPass, fBreak, fCont, fNever, fSNil, fDrop, fRet, fRetN, fIfS, fAsg, fSet, fOwn, fOwnM, fSeq, fRaise, fFrz, fCall, fWhile, fFor, listW, seqW, pyW, addF, subF, ii, mulF, mulXF, fdivF, modF, powF, negF, ordF, ltF, leF, gtF, geF, eqF, isNonW, isNF, inF, inDF, ixF, tyW, fIsi, fIsiT, f1c, lenF, absF, intF, tupleF, boolsF, allF, anyF, reprF, fnListX, fItAny, fItR1, fItR2, fItEnum, fnLc, fnLcI, fnLcO, fMeth, appendF, popF, indexF, countBF, fMR, fJoin, fFind, fnSortSet, fIndexS, fnRep, fCallW, fCallN, fLamG, fParA, fEvalA, putFr, plains, Still, FSt.set_mk, FSt.pn, isi, List.any_cons, List.any_nil, List.getElem?_cons_zero, List.getElem?_cons_succ, List.set_cons_zero, List.set_cons_succ]); (try simp only [true_and, ex2, Option.some.injEq, exists_eq_left']))
                            refine ⟨_, rfl, ?_⟩
                            cases b2 with
                            | true => exact ⟨bad3, hb5, hb6, hb7, rfl⟩
                            | false => exact ⟨.str (tx cs), ocs, rfl, rfl, rfl⟩
                          · rintro _ ⟨loop, hlo, hlo2, hlo3, rfl⟩
                            refine seqF (fun s => s = ⟨[some (.v .pen), some (.v (ruleU cs sts)), some (.v (.str (tx cs))), some (.v (.str (tx [o]))), some (.v (.lst [.bl b0, .bl b1, .bl b2])), some (.ol 5 l3), some (.v bad3), some (.v (.str (dueS b0 b1 b2))), some (.v loop), some (.v one), none, some (.v word), w12, w13], n + 7⟩) ?_ ?_
                            · ((try dsimp only [fVar, fC, faNil, faCons, fTup, fnLst, fFz, fOp, fUn, fTB, fAndT, fOrT, fNotT, fAndV, fOrV, fNotV, fIf, fChain, fNoP, fPart, sliceF, fSlice, fCB, fName, fGNil, fGCons, fGTup, fSubL, fPass, fBreak, fCont, fNever, fSNil, fDrop, fRet, fRetN, fIfS, fAsg, fSet, fOwn, fOwnM, fSeq, fRaise, fFrz, fCall, fWhile, fFor, listW, seqW, pyW, addF, subF, ii, mulF, mulXF, fdivF, modF, powF, negF, ordF, ltF, leF, gtF, geF, eqF, isNonW, isNF, inF, inDF, ixF, tyW, fIsi, fIsiT, f1c, lenF, absF, intF, tupleF, boolsF, allF, anyF, reprF, fnListX, fItAny, fItR1, fItR2, fItEnum, fnLc, fnLcI, fnLcO, fMeth, appendF, popF, indexF, countBF, fMR, fJoin, fFind, fnSortSet, fIndexS, fnRep, fCallW, fCallN, fLamG, fParA, fEvalA, putFr, plains, Still, FSt.set_mk, FSt.pn, isi, List.any_cons, List.any_nil, List.getElem?_cons_zero, List.getElem?_cons_succ, List.set_cons_zero, List.set_cons_succ]); (try simp only [true_and, ex2, Option.some.injEq, exists_eq_left']))
                              cases b0 <;> cases b1 <;> cases b2 <;> first | exact ⟨_, rfl, rfl⟩ | exact ⟨_, rfl, _, rfl, rfl⟩ | exact ⟨_, rfl, _, rfl, _, rfl, rfl⟩
                            · rintro _ rfl
                              have sB : sideB cs (.str (tx cs)) = true := by
                                rw [sideB, tx_len, decide_eq_true (by omega), tx_cps, Bool.true_and, List.all_eq_true]
                                exact fun c h => decide_eq_true h
                              have rB : ringB cs (.str (tx cs)) = true := by
                                rw [ringB, sB, wordOf, tx_cps]
                                cases cs with
                                | nil => simp at hc0
                                | cons => rfl
                              refine seqF (fun s => s = ⟨[some (.v .pen), some (.v (ruleU cs sts)), some (.v (.str (tx cs))), some (.v (.str (tx [o]))), some (.v (.lst [.bl b0, .bl b1, .bl b2])), some (.ol 5 l3), some (.v bad3), some (.v (.str (dueS b0 b1 b2))), some (.v loop), some (.v one), none, some (.v word), w12, w13], n + 7⟩) ?_ ?_
                              · ((try dsimp only [fVar, fC, faNil, faCons, fTup, fnLst, fFz, fOp, fUn, fTB, fAndT, fOrT, fNotT, fAndV, fOrV, fNotV, fIf, fChain, fNoP, fPart, sliceF, fSlice, fCB, fName, fGNil, fGCons, fGTup, fSubL, fPass, fBreak, fCont, fNever, fSNil, fDrop, fRet, fRetN, fIfS, fAsg, fSet, fOwn, fOwnM, fSeq, fRaise, fFrz, fCall, fWhile, fFor, listW, seqW, pyW, addF, subF, ii, mulF, mulXF, fdivF, modF, powF, negF, ordF, ltF, leF, gtF, geF, eqF, isNonW, isNF, inF, inDF, ixF, tyW, fIsi, fIsiT, f1c, lenF, absF, intF, tupleF, boolsF, allF, anyF, reprF, fnListX, fItAny, fItR1, fItR2, fItEnum, fnLc, fnLcI, fnLcO, fMeth, appendF, popF, indexF, countBF, fMR, fJoin, fFind, fnSortSet, fIndexS, fnRep, fCallW, fCallN, fLamG, fParA, fEvalA, putFr, plains, Still, FSt.set_mk, FSt.pn, isi, List.any_cons, List.any_nil, List.getElem?_cons_zero, List.getElem?_cons_succ, List.set_cons_zero, List.set_cons_succ]); (try simp only [true_and, ex2, Option.some.injEq, exists_eq_left']))
                                refine ⟨fun _ n' => n' = n + 7 ∧ ("fine" : Str) = dueS b0 b1 b2, fun x n' => n' = n + 7 ∧ x ∈ cs32 ∧ wd_law_x_word x = dueS b0 b1 b2, ?_, ?_, is_of_word (R := fun w => w = dueS b0 b1 b2) hone hwo hlo ?_⟩
                                · rintro u n' ⟨rfl, h⟩
                                  exact bcase_f (by rw [decide_eq_true h]; rfl) rfl
                                · rintro x n' ⟨rfl, h1, h2⟩
                                  exact ⟨h1, bcase_f (by rw [decide_eq_true h2]; rfl) rfl⟩
                                · cases b0 with
                                  | true => exact .inl ⟨hone2, rfl⟩
                                  | false =>
                                    refine .inr ⟨cs, sts, hone2, ok, ?_⟩
                                    cases b1 with
                                    | true => exact bcase_f hwo2 rfl
                                    | false =>
                                      have hwo2 : word = .str (tx cs) := hwo2
                                      refine bcase_t (by rw [hwo2]; exact sB) (bcase_f hlo2 ?_)
                                      cases b2 with
                                      | true => exact bcase_f hlo3 rfl
                                      | false =>
                                        have hlo3 : loop = .str (tx cs) := hlo3
                                        exact bcase_t (by rw [hlo3]; exact rB) rfl
                              · rintro _ rfl
                                refine seqF (fun s => s = ⟨[some (.v .pen), some (.v (ruleU cs sts)), some (.v (.str (tx cs))), some (.v (.str (tx [o]))), some (.v (.lst [.bl b0, .bl b1, .bl b2])), some (.ol 5 l3), some (.v bad3), some (.v (.str (dueS b0 b1 b2))), some (.v loop), some (.v one), none, some (.v word), w12, w13], n + 7⟩) ?_ ?_
                                · ((try dsimp only [fVar, fC, faNil, faCons, fTup, fnLst, fFz, fOp, fUn, fTB, fAndT, fOrT, fNotT, fAndV, fOrV, fNotV, fIf, fChain, fNoP, fPart, sliceF, fSlice, fCB, fName, fGNil, fGCons, fGTup, fSubL, fPass, fBreak, fCont, fNever, fSNil, fDrop, fRet, fRetN, fIfS, fAsg, fSet, fOwn, fOwnM, fSeq, fRaise, fFrz, fCall, fWhile, fFor, listW, seqW, pyW, addF, subF, ii, mulF, mulXF, fdivF, modF, powF, negF, ordF, ltF, leF, gtF, geF, eqF, isNonW, isNF, inF, inDF, ixF, tyW, fIsi, fIsiT, f1c, lenF, absF, intF, tupleF, boolsF, allF, anyF, reprF, fnListX, fItAny, fItR1, fItR2, fItEnum, fnLc, fnLcI, fnLcO, fMeth, appendF, popF, indexF, countBF, fMR, fJoin, fFind, fnSortSet, fIndexS, fnRep, fCallW, fCallN, fLamG, fParA, fEvalA, putFr, plains, Still, FSt.set_mk, FSt.pn, isi, List.any_cons, List.any_nil, List.getElem?_cons_zero, List.getElem?_cons_succ, List.set_cons_zero, List.set_cons_succ]); (try simp only [true_and, ex2, Option.some.injEq, exists_eq_left']))
                                  refine ⟨fun _ n' => n' = n + 7 ∧ ("fine" : Str) = dueS b0 b1 false, fun x n' => n' = n + 7 ∧ x ∈ cs32 ∧ wd_law_x_word x = dueS b0 b1 false, ?_, ?_, is_of_word (R := fun w => w = dueS b0 b1 false) hone hwo rfl ?_⟩
                                  · rintro u n' ⟨rfl, h⟩
                                    refine ⟨_, rfl, ?_⟩
                                    cases b0 with
                                    | true =>
                                      have h : ("fine" : Str) = "rule" := h
                                      exact bcase_t rfl (bcase_f (by rw [decide_eq_true h]; rfl) rfl)
                                    | false =>
                                      refine bcase_f rfl ⟨_, rfl, ?_⟩
                                      cases b1 with
                                      | true =>
                                        have h : ("fine" : Str) = "word" := h
                                        exact bcase_t rfl (bcase_f (by rw [decide_eq_true h]; rfl) rfl)
                                      | false => exact bcase_f rfl (bcase_f (by simp) rfl)
                                  · rintro x n' ⟨rfl, h1, h⟩
                                    refine ⟨h1, _, rfl, ?_⟩
                                    cases b0 with
                                    | true =>
                                      have h : wd_law_x_word x = "rule" := h
                                      exact bcase_t rfl (bcase_f (by rw [decide_eq_true h]; rfl) rfl)
                                    | false =>
                                      refine bcase_f rfl ⟨_, rfl, ?_⟩
                                      cases b1 with
                                      | true =>
                                        have h : wd_law_x_word x = "word" := h
                                        exact bcase_t rfl (bcase_f (by rw [decide_eq_true h]; rfl) rfl)
                                      | false =>
                                        have h : wd_law_x_word x = "fine" := h
                                        exact bcase_f rfl (bcase_f (by rw [decide_eq_true h]; rfl) rfl)
                                  · cases b0 with
                                    | true => exact .inl ⟨hone2, rfl⟩
                                    | false =>
                                      refine .inr ⟨cs, sts, hone2, ok, ?_⟩
                                      cases b1 with
                                      | true => exact bcase_f hwo2 rfl
                                      | false =>
                                        have hwo2 : word = .str (tx cs) := hwo2
                                        exact bcase_t (by rw [hwo2]; exact sB) rfl
                                · rintro _ rfl
                                  refine seqF (fun s => s = ⟨[some (.v .pen), some (.v (ruleU cs sts)), some (.v (.str (tx cs))), some (.v (.str (tx [o]))), some (.v (.lst [.bl b0, .bl b1, .bl b2])), some (.ol 5 L16), some (.v bad3), some (.v (.str (dueS b0 b1 b2))), some (.v loop), some (.v one), none, some (.v word), w12, w13], n + 7⟩) ?_ ?_
                                  · ((try dsimp only [fVar, fC, faNil, faCons, fTup, fnLst, fFz, fOp, fUn, fTB, fAndT, fOrT, fNotT, fAndV, fOrV, fNotV, fIf, fChain, fNoP, fPart, sliceF, fSlice, fCB, fName, fGNil, fGCons, fGTup, fSubL, fPass, fBreak, fCont, fNever, fSNil, fDrop, fRet, fRetN, fIfS, fAsg, fSet, fOwn, fOwnM, fSeq, fRaise, fFrz, fCall, fWhile, fFor, listW, seqW, pyW, addF, subF, ii, mulF, mulXF, fdivF, modF, powF, negF, ordF, ltF, leF, gtF, geF, eqF, isNonW, isNF, inF, inDF, ixF, tyW, fIsi, fIsiT, f1c, lenF, absF, intF, tupleF, boolsF, allF, anyF, reprF, fnListX, fItAny, fItR1, fItR2, fItEnum, fnLc, fnLcI, fnLcO, fMeth, appendF, popF, indexF, countBF, fMR, fJoin, fFind, fnSortSet, fIndexS, fnRep, fCallW, fCallN, fLamG, fParA, fEvalA, putFr, plains, Still, FSt.set_mk, FSt.pn, isi, List.any_cons, List.any_nil, List.getElem?_cons_zero, List.getElem?_cons_succ, List.set_cons_zero, List.set_cons_succ]); (try simp only [true_and, ex2, Option.some.injEq, exists_eq_left']))
                                    exact ⟨hs _ (by simp), hs _ (by simp), rfl⟩
                                  · rintro _ rfl
                                    dsimp only [fFrz, List.getElem?_cons_succ, List.getElem?_cons_zero, FSt.set_mk, List.set_cons_succ, List.set_cons_zero]
                                    refine seqF (fun s => ∃ what : U, (strOkU what && !lettersB what) = true ∧ s = ⟨[some (.v .pen), some (.v (ruleU cs sts)), some (.v (.str (tx cs))), some (.v (.str (tx [o]))), some (.v (.lst [.bl b0, .bl b1, .bl b2])), some (.v (.lst L16)), some (.v bad3), some (.v (.str (dueS b0 b1 b2))), some (.v loop), some (.v one), some (.v what), some (.v word), w12, w13], n + 8⟩) ?_ ?_
                                    · ((try dsimp only [fVar, fC, faNil, faCons, fTup, fnLst, fFz, fOp, fUn, fTB, fAndT, fOrT, fNotT, fAndV, fOrV, fNotV, fIf, fChain, fNoP, fPart, sliceF, fSlice, fCB, fName, fGNil, fGCons, fGTup, fSubL, fPass, fBreak, fCont, fNever, fSNil, fDrop, fRet, fRetN, fIfS, fAsg, fSet, fOwn, fOwnM, fSeq, fRaise, fFrz, fCall, fWhile, fFor, listW, seqW, pyW, addF, subF, ii, mulF, mulXF, fdivF, modF, powF, negF, ordF, ltF, leF, gtF, geF, eqF, isNonW, isNF, inF, inDF, ixF, tyW, fIsi, fIsiT, f1c, lenF, absF, intF, tupleF, boolsF, allF, anyF, reprF, fnListX, fItAny, fItR1, fItR2, fItEnum, fnLc, fnLcI, fnLcO, fMeth, appendF, popF, indexF, countBF, fMR, fJoin, fFind, fnSortSet, fIndexS, fnRep, fCallW, fCallN, fLamG, fParA, fEvalA, putFr, plains, Still, FSt.set_mk, FSt.pn, isi, List.any_cons, List.any_nil, List.getElem?_cons_zero, List.getElem?_cons_succ, List.set_cons_zero, List.set_cons_succ]); (try simp only [true_and, ex2, Option.some.injEq, exists_eq_left']))
                                      refine go_pick (by simp [L16]) (by simp [L16]) (by omega) fun u hu => ?_
                                      exact ⟨u, List.all_eq_true.mp l16_ok u hu, rfl⟩
                                    · rintro _ ⟨what, hwh, rfl⟩
                                      rw [Bool.and_eq_true, Bool.not_eq_true'] at hwh
                                      ((try dsimp only [fVar, fC, faNil, faCons, fTup, fnLst, fFz, fOp, fUn, fTB, fAndT, fOrT, fNotT, fAndV, fOrV, fNotV, fIf, fChain, fNoP, fPart, sliceF, fSlice, fCB, fName, fGNil, fGCons, fGTup, fSubL, fPass, fBreak, fCont, fNever, fSNil, fDrop, fRet, fRetN, fIfS, fAsg, fSet, fOwn, fOwnM, fSeq, fRaise, fFrz, fCall, fWhile, fFor, listW, seqW, pyW, addF, subF, ii, mulF, mulXF, fdivF, modF, powF, negF, ordF, ltF, leF, gtF, geF, eqF, isNonW, isNF, inF, inDF, ixF, tyW, fIsi, fIsiT, f1c, lenF, absF, intF, tupleF, boolsF, allF, anyF, reprF, fnListX, fItAny, fItR1, fItR2, fItEnum, fnLc, fnLcI, fnLcO, fMeth, appendF, popF, indexF, countBF, fMR, fJoin, fFind, fnSortSet, fIndexS, fnRep, fCallW, fCallN, fLamG, fParA, fEvalA, putFr, plains, Still, FSt.set_mk, FSt.pn, isi, List.any_cons, List.any_nil, List.getElem?_cons_zero, List.getElem?_cons_succ, List.set_cons_zero, List.set_cons_succ]); (try simp only [true_and, ex2, Option.some.injEq, exists_eq_left']))
                                      refine ⟨fun _ _ => False, fun x n' => x = "NoLetters" ∧ n' = n + 8, fun _ _ h => h.elim, ?_, what, rfl, hwh.1, bcase_f hwh.2 ⟨rfl, rfl⟩⟩
                                      rintro x n' ⟨rfl, rfl⟩
                                      refine ⟨in_letters, ?_⟩
                                      rw [wd_letters, decide_eq_true rfl]
                                      exact q _ (by omega)
end LD

/-! LH35g: the law of words of rules -/
namespace LD
open PySem PySem.Spec PyProof.Rows L2

/-! ### turns of a ring: as many as there are states, or five -/
section
variable {cs : List Nat} {sts : List (List (Option Nat))} {gs : List Nat}
theorem ringsR_add : ∀ (m d : Nat) (k : Option Nat), ringsR cs sts gs (m + d) k = ringsR cs sts gs d (ringsR cs sts gs m k)
  | 0, d, k => by rw [Nat.zero_add]; rfl
  | m + 1, d, k => by rw [show m + 1 + d = (m + d) + 1 by omega, ringsR, ringsR_add m d]; rfl
theorem ringsR_mono {m n : Nat} {k : Option Nat} (h : ringsR cs sts gs m k = none) (hn : m ≤ n) : ringsR cs sts gs n k = none := by
  obtain ⟨d, rfl⟩ := Nat.exists_eq_add_of_le hn
  rw [ringsR_add, h, ringsR_none]
theorem ring_dies (ok : OkR cs sts) : ∀ (m : Nat) (k : Option Nat), (∀ j, k = some j → j < sts.length) → ringsR cs sts gs (m + 1) k = none → ringsR cs sts gs m k ≠ none →
    ∃ l : List Nat, l.length = m + 1 ∧ l.Nodup ∧ ∀ i ∈ l, i < sts.length ∧ ringsR cs sts gs (m + 1) (some i) = none
  | 0, k, hk, h1, h2 => by
    cases k with
    | none => exact (h2 rfl).elim
    | some a => exact ⟨[a], rfl, by simp, fun i hi => by rw [List.mem_singleton.mp hi]; exact ⟨hk a rfl, h1⟩⟩
  | m + 1, k, hk, h1, h2 => by
    cases k with
    | none => exact (h2 (ringsR_none _)).elim
    | some a =>
      obtain ⟨l, l1, l2, l3⟩ := ring_dies ok m (afterR cs sts (some a) gs) (afterR_lt ok hk) h1 h2
      refine ⟨a :: l, by rw [List.length_cons, l1], List.nodup_cons.mpr ⟨fun ha => h2 (l3 a ha).2, l2⟩, fun i hi => ?_⟩
      rcases List.mem_cons.mp hi with rfl | hi
      · exact ⟨hk i rfl, h1⟩
      · exact ⟨(l3 i hi).1, ringsR_mono (l3 i hi).2 (by omega)⟩
theorem ring_turns (ok : OkR cs sts) {k : Option Nat} (hk : ∀ j, k = some j → j < sts.length) : (ringsR cs sts gs sts.length k).isSome = (ringsR cs sts gs 5 k).isSome := by
  have h4 := ok.h4
  have key : ∀ m : Nat, ringsR cs sts gs m k = none → ringsR cs sts gs sts.length k = none := fun m => by
    induction m with
    | zero => exact fun h => ringsR_mono h (Nat.zero_le _)
    | succ m ih =>
      intro h
      by_cases h2 : ringsR cs sts gs m k = none
      · exact ih h2
      · obtain ⟨l, l1, l2, l3⟩ := ring_dies ok m k hk h h2
        have := nodup_le l2 fun i hi => (l3 i hi).1
        exact ringsR_mono h (by omega)
  cases h : ringsR cs sts gs 5 k with
  | none => rw [key 5 h]
  | some a =>
    cases h2 : ringsR cs sts gs sts.length k with
    | none => rw [ringsR_mono h2 (show sts.length ≤ 5 by omega)] at h; cases h
    | some b => rfl
end

/-! ### what is shown -/
theorem wtVs_le {B : Nat} : ∀ {us : List U}, (∀ u ∈ us, wtV u ≤ B) → wtVs us ≤ us.length * (B + 2)
  | [], _ => Nat.zero_le _
  | u :: us, h => by
    have h1 := h u List.mem_cons_self
    have h2 := wtVs_le fun v hv => h v (List.mem_cons_of_mem _ hv)
    rw [wtVs, List.length_cons, Nat.succ_mul]
    omega
theorem intsUs_all : ∀ {us : List U}, (∀ u ∈ us, intsU u = true) → intsUs us = true
  | [], _ => rfl
  | u :: us, h => by rw [intsUs, h u List.mem_cons_self, intsUs_all fun v hv => h v (List.mem_cons_of_mem _ hv)]; rfl
theorem optU_shown {o : Option Nat} (h : ∀ k, o = some k → k < 1000) (n : Nat) : layU n (optU o) = true ∧ intsU (optU o) = true ∧ wtV (optU o) ≤ 1901 := by
  cases o with
  | none => exact ⟨by cases n <;> rfl, rfl, by decide⟩
  | some k =>
    have := h k rfl
    refine ⟨by cases n <;> rfl, ?_, Nat.le_refl _⟩
    rw [optU, intsU]
    have : (2 : Nat) ^ 20 ≤ 2 ^ 1900 := Nat.pow_le_pow_right (by decide) (by decide)
    exact decide_eq_true (by omega)
theorem str_lay {cs ws : List Nat} (h : Ltrs cs) (hw : ∀ c ∈ ws, c ∈ cs) (n : Nat) : layU n (.str (tx ws)) = true := by
  refine lay_str ?_
  rw [Array.all_eq_true']
  intro c hc
  have := h.2.2.2 c (hw c (by unfold tx at hc; simpa using hc))
  exact decide_eq_true (by omega)
theorem rule_shown {cs : List Nat} {sts : List (List (Option Nat))} (ok : OkR cs sts) : layU 3 (ruleU cs sts) = true ∧ intsU (ruleU cs sts) = true ∧ wtV (ruleU cs sts) ≤ 100000 := by
  have h4 := ok.h4
  have hL := ok.ltr.2.1
  have hrow : ∀ u ∈ sts.map rowU, layU 1 u = true ∧ intsU u = true ∧ wtV u ≤ 10000 := fun u hu => by
    obtain ⟨r, hr, rfl⟩ := List.mem_map.mp hu
    obtain ⟨r1, r2, _⟩ := ok.row r hr
    have he : ∀ u ∈ r.map optU, layU 0 u = true ∧ intsU u = true ∧ wtV u ≤ 1901 := fun u hu => by
      obtain ⟨o, ho, rfl⟩ := List.mem_map.mp hu
      exact optU_shown (fun k hk => by have := r2 k (hk ▸ ho); omega) 0
    unfold rowU
    refine ⟨by rw [layU]; exact layUs_all fun u hu => (he u hu).1, by rw [intsU]; exact intsUs_all fun u hu => (he u hu).2.1, ?_⟩
    have := wtVs_le (B := 1901) fun u hu => (he u hu).2.2
    rw [List.length_map, r1] at this
    have h3 : cs.length * (1901 + 2) ≤ 3 * (1901 + 2) := Nat.mul_le_mul_right _ hL
    rw [wtV]
    omega
  unfold ruleU
  refine ⟨?_, ?_, ?_⟩
  · rw [layU, layUs, layUs, layUs, str_lay ok.ltr (fun c h => h), layU, layUs_all fun u hu => (hrow u hu).1]; rfl
  · rw [intsU, intsUs, intsUs, intsUs, intsU, intsUs_all fun u hu => (hrow u hu).2.1]; rfl
  · have := wtVs_le (B := 10000) fun u hu => (hrow u hu).2.2
    rw [List.length_map] at this
    have h3 : sts.length * (10000 + 2) ≤ 4 * (10000 + 2) := Nat.mul_le_mul_right _ h4
    rw [wtV, wtVs, wtVs, wtVs, wtV, wtV, tx_len]
    omega
theorem kept_ok {cs a b : List Nat} {sts : List (List (Option Nat))} (ok : OkR cs sts) (ha : ∀ c ∈ a, c ∈ cs) (hb : ∀ c ∈ b, c ∈ cs) (la : a.length ≤ 1500) (lb : b.length ≤ 1500) : reprOk (.tup [ruleU cs sts, .str (tx a), .str (tx b)]) := by
  obtain ⟨h1, h2, h3⟩ := rule_shown ok
  refine reprOk_of (n := 4) ?_ (by decide) ?_ ?_
  · rw [layU, layUs, layUs, layUs, layUs, h1, str_lay ok.ltr ha, str_lay ok.ltr hb]; rfl
  · rw [intsU, intsUs, intsUs, intsUs, intsUs, h2]; rfl
  · rw [wtV, wtVs, wtVs, wtVs, wtVs, wtV, wtV, tx_len, tx_len]
    omega
theorem side_ok {cs a : List Nat} (ha : ∀ c ∈ a, c ∈ cs) (la : a.length ≤ 1500) : sideB cs (.str (tx a)) = true := by
  rw [sideB, tx_len, decide_eq_true la, tx_cps, Bool.true_and, List.all_eq_true]
  exact fun c h => decide_eq_true (ha c h)
theorem is_of_plain {cs a : List Nat} {sts : List (List (Option Nat))} {n : Nat} {B : U → Nat → Prop} {C : XF} (ok : OkR cs sts) (ha : ∀ c ∈ a, c ∈ cs) (la : a.length ≤ 1500) (q : B (.bl (afterR cs sts (some 0) a).isSome) n) : F_is_of [ruleU cs sts, .str (tx a), .non] n B C :=
  ⟨_, _, _, rfl, rule_okU ok, word_ok ok.ltr ha (by omega), rfl, .inr ⟨cs, sts, rfl, ok, bcase_t (side_ok ha la) (bcase_t rfl (by rw [wordOf, tx_cps]; exact q))⟩⟩
theorem is_of_ring {cs a g : List Nat} {sts : List (List (Option Nat))} {n : Nat} {B : U → Nat → Prop} {C : XF} (ok : OkR cs sts) (ha : ∀ c ∈ a, c ∈ cs) (la : a.length ≤ 1500) (g0 : g ≠ []) (lg : g.length ≤ 1500) (hg : ∀ c ∈ g, c ∈ cs) (q : B (.bl (ringsR cs sts g sts.length (afterR cs sts (some 0) a)).isSome) n) : F_is_of [ruleU cs sts, .str (tx a), .str (tx g)] n B C := by
  refine ⟨_, _, _, rfl, rule_okU ok, word_ok ok.ltr ha (by omega), word_ok ok.ltr hg (by omega), .inr ⟨cs, sts, rfl, ok, bcase_t (side_ok ha la) (bcase_f rfl (bcase_t ?_ (by rw [wordOf, wordOf, tx_cps, tx_cps]; exact q)))⟩⟩
  rw [ringB, side_ok hg lg, wordOf, tx_cps]
  cases g with
  | nil => exact (g0 rfl).elim
  | cons => rfl
theorem bl_ok (b : Bool) : reprOk (.bl b) := reprOk_of (n := 1) rfl (by decide) rfl (by simp [wtV])
theorem bls_ok (a b : Bool) : reprOk (.lst [.bl a, .bl b]) := reprOk_of (n := 2) rfl (by decide) rfl (by simp [wtV, wtVs])

def TB35 : List Tb := [(("_law_x_refused_right", none), "_law_x_refused_right.<locals>.<lambda>")]
def f_law : FS :=
  fSeq (fFor (fItR1 (fC (.int 6))) (fName 2) (fSeq (fSet 3 (fCall F_law_x_letters (faCons (fVar 1) (faNil))))
  (fSeq (fSet 4 (fCall F_law_x_rule (faCons (fVar 1) (faCons (fVar 3) (faCons (fC (.int 4)) (faNil))))))
  (fSeq (fParA [5, 6] [.v (fCall F_law_x_text (faCons (fVar 1) (faCons (fVar 3) (faCons (fC (.int 6)) (faNil))))), .v (fCall F_law_x_text (faCons (fVar 1) (faCons (fVar 3) (faCons (fC (.int 4)) (faNil)))))])
  (fSeq (fIfS (fTB (fOp (eqF false) (fCall F_law_take (faCons (fVar 1) (faCons (fC (.int 2)) (faNil)))) (fC (.int 0)))) (fAsg (fCall F_law_x_row (faCons (fVar 1) (faCons (fVar 4) (faCons (fC (.int 0)) (faCons (fC (.int 6)) (faNil)))))) (fGTup (fGCons (fName 5) (fGCons (fName 6) (fGNil))))) (fSNil))
  (fSeq (fIfS (fTB (fOp (eqF false) (fCall F_law_take (faCons (fVar 1) (faCons (fC (.int 5)) (faNil)))) (fC (.int 0)))) (fAsg (fCall F_law_x_long (faCons (fVar 1) (faCons (fVar 4) (faNil)))) (fGTup (fGCons (fName 5) (fGCons (fName 6) (fGNil))))) (fSNil))
  (fSeq (fSet 7 (fCB reprF (faCons (fTup (faCons (fVar 4) (faCons (fVar 5) (faCons (fVar 6) (faNil))))) (faNil))))
  (fSeq (fSet 8 (fOp (isNF true) (fCall F_law_x_behind (faCons (fVar 4) (faCons (fC (.int 0)) (faCons (fVar 5) (faNil))))) (fC .non)))
  (fSeq (fIfS (fTB (fOp (eqF true) (fCB reprF (faCons (fFz (fnLst (faCons (fCallN (fCallW F_is_of (fun vs _ => vs ++ [U.non]) (faCons (fVar 4) (faCons (fVar 5) (faNil))) (faNil))) (faCons (fCallN (fCallW F_is_of (fun vs ks => vs ++ ks) (faCons (fVar 4) (faCons (fVar 5) (faNil))) (faCons (fC .non) (faNil)))) (faNil))))) (faNil))) (fCB reprF (faCons (fFz (fnLst (faCons (fVar 8) (faCons (fVar 8) (faNil))))) (faNil))))) (fRet (fC (.bl false))) (fSNil))
  (fSeq (fSet 9 (fIf (fTB (fOp (eqF false) (fVar 6) (fC (.str "")))) (fVar 3) (fVar 6)))
  (fSeq (fSet 10 (fCallN (fCallW F_is_of (fun vs ks => vs ++ ks) (faCons (fVar 4) (faCons (fVar 5) (faNil))) (faCons (fVar 9) (faNil)))))
  (fSeq (fIfS (fTB (fOp (eqF true) (fCB reprF (faCons (fVar 10) (faNil))) (fCB reprF (faCons (fCall F_law_x_is_of (faCons (fVar 4) (faCons (fTup (faCons (fVar 5) (faCons (fVar 9) (faNil)))) (faNil)))) (faNil))))) (fRet (fC (.bl false))) (fSNil))
  (fSeq (fIfS (fTB (fOp (eqF true) (fCB reprF (faCons (fCallN (fCallW F_is_of (fun vs ks => vs ++ ks) (faCons (fVar 4) (faCons (fVar 5) (faNil))) (faCons (fVar 3) (faNil)))) (faNil))) (fCB reprF (faCons (fCall F_law_x_is_of (faCons (fVar 4) (faCons (fTup (faCons (fVar 5) (faCons (fVar 3) (faNil)))) (faNil)))) (faNil))))) (fRet (fC (.bl false))) (fSNil))
  (fIfS (fOrT (fTB (fOp (eqF true) (fCB reprF (faCons (fTup (faCons (fVar 4) (faCons (fVar 5) (faCons (fVar 6) (faNil))))) (faNil))) (fVar 7))) (fNotT (fTB (fCall F_law_x_refused_right (faCons (fVar 1) (faCons (fVar 4) (faNil))))))) (fRet (fC (.bl false))) (fSNil)))))))))))))))
  (fRet (fC (.bl true)))
-- slots of law: 0=script 1=pen 2=turn 3=letters 4=rule 5=word 6=loop 7=kept 8=due 9=circle 10=found

theorem law35 : f_law.run xfNo { nx := fun _ => False, rt := fun u _ => u = .bl true } ⟨none :: some (.v .pen) :: List.replicate 9 none, 0⟩ := by
  rw [show none :: some (W.v .pen) :: List.replicate 9 none = [none, some (.v .pen), none, none, none, none, none, none, none, none, none] from rfl]
  unfold f_law
  refine seqF (fun _ => True) ?_ ?_
  · refine forS (fun us s => us = rngU 0 6 ∧ s = ⟨[none, some (.v .pen), none, none, none, none, none, none, none, none, none], 0⟩) ?_ ?_
    · ((try dsimp only [fVar, fC, faNil, faCons, fTup, fnLst, fFz, fOp, fUn, fTB, fAndT, fOrT, fNotT, fAndV, fOrV, fNotV, fIf, fChain, fNoP, fPart, sliceF, fSlice, fCB, fName, fGNil, fGCons, fGTup, fSubL, fPass, fBreak, fCont, fNever, fSNil, fDrop, fRet, fRetN, fIfS, fAsg, fSet, fOwn, fOwnM, fSeq, fRaise, fFrz, fCall, fWhile, fFor, listW, seqW, pyW, addF, subF, ii, mulF, mulXF, fdivF, modF, powF, negF, ordF, ltF, leF, gtF, geF, eqF, isNonW, isNF, inF, inDF, ixF, tyW, fIsi, fIsiT, f1c, lenF, absF, intF, tupleF, boolsF, allF, anyF, reprF, fnListX, fItAny, fItR1, fItR2, fItEnum, fnLc, fnLcI, fnLcO, fMeth, appendF, popF, indexF, countBF, fMR, fJoin, fFind, fnSortSet, fIndexS, fnRep, fCallW, fCallN, fLamG, fParA, fEvalA, putFr, plains, Still, FSt.set_mk, FSt.pn, isi, List.any_cons, List.any_nil, List.getElem?_cons_zero, List.getElem?_cons_succ, List.set_cons_zero, List.set_cons_succ]); (try simp only [true_and, ex2, Option.some.injEq, exists_eq_left']))
      exact ⟨⟨by omega, by omega⟩, rfl, trivial⟩
    · rintro us _ ⟨he, rfl⟩
      rw [he]
      refine forF_inv (fun (i : Nat) => U.int (0 + (i : Int))) (fun rest s => ∃ (n : Nat) (w2 w3 w4 w5 w6 w7 w8 w9 w10 : Option W), n + 400 * rest.length ≤ 2400 ∧ s = ⟨[none, some (.v .pen), w2, w3, w4, w5, w6, w7, w8, w9, w10], n⟩) (fun _ _ => trivial) (List.range 6) ?_ _ ⟨0, none, none, none, none, none, none, none, none, none, by simp, rfl⟩
      rintro x rest ⟨pre, hp⟩ s R ⟨n, w2, w3, w4, w5, w6, w7, w8, w9, w10, hn, rfl⟩ hR
      rw [List.length_cons] at hn
      dsimp only [fName, FSt.set_mk, List.set_cons_zero, List.set_cons_succ]
      refine seqF (fun s => ∃ cs, Ltrs cs ∧ s = ⟨[none, some (.v .pen), some (.v (.int (0 + (x : Int)))), some (.v (.str (tx cs))), w4, w5, w6, w7, w8, w9, w10], n + 4⟩) ?_ ?_
      · ((try dsimp only [fVar, fC, faNil, faCons, fTup, fnLst, fFz, fOp, fUn, fTB, fAndT, fOrT, fNotT, fAndV, fOrV, fNotV, fIf, fChain, fNoP, fPart, sliceF, fSlice, fCB, fName, fGNil, fGCons, fGTup, fSubL, fPass, fBreak, fCont, fNever, fSNil, fDrop, fRet, fRetN, fIfS, fAsg, fSet, fOwn, fOwnM, fSeq, fRaise, fFrz, fCall, fWhile, fFor, listW, seqW, pyW, addF, subF, ii, mulF, mulXF, fdivF, modF, powF, negF, ordF, ltF, leF, gtF, geF, eqF, isNonW, isNF, inF, inDF, ixF, tyW, fIsi, fIsiT, f1c, lenF, absF, intF, tupleF, boolsF, allF, anyF, reprF, fnListX, fItAny, fItR1, fItR2, fItEnum, fnLc, fnLcI, fnLcO, fMeth, appendF, popF, indexF, countBF, fMR, fJoin, fFind, fnSortSet, fIndexS, fnRep, fCallW, fCallN, fLamG, fParA, fEvalA, putFr, plains, Still, FSt.set_mk, FSt.pn, isi, List.any_cons, List.any_nil, List.getElem?_cons_zero, List.getElem?_cons_succ, List.set_cons_zero, List.set_cons_succ]); (try simp only [true_and, ex2, Option.some.injEq, exists_eq_left']))
        exact go2 ⟨rfl, by omega, fun cs h => ⟨cs, h, rfl⟩⟩
      · rintro _ ⟨cs, hc, rfl⟩
        refine seqF (fun s => ∃ sts n1, n1 ≤ n + 104 ∧ OkR cs sts ∧ s = ⟨[none, some (.v .pen), some (.v (.int (0 + (x : Int)))), some (.v (.str (tx cs))), some (.v (ruleU cs sts)), w5, w6, w7, w8, w9, w10], n1⟩) ?_ ?_
        · ((try dsimp only [fVar, fC, faNil, faCons, fTup, fnLst, fFz, fOp, fUn, fTB, fAndT, fOrT, fNotT, fAndV, fOrV, fNotV, fIf, fChain, fNoP, fPart, sliceF, fSlice, fCB, fName, fGNil, fGCons, fGTup, fSubL, fPass, fBreak, fCont, fNever, fSNil, fDrop, fRet, fRetN, fIfS, fAsg, fSet, fOwn, fOwnM, fSeq, fRaise, fFrz, fCall, fWhile, fFor, listW, seqW, pyW, addF, subF, ii, mulF, mulXF, fdivF, modF, powF, negF, ordF, ltF, leF, gtF, geF, eqF, isNonW, isNF, inF, inDF, ixF, tyW, fIsi, fIsiT, f1c, lenF, absF, intF, tupleF, boolsF, allF, anyF, reprF, fnListX, fItAny, fItR1, fItR2, fItEnum, fnLc, fnLcI, fnLcO, fMeth, appendF, popF, indexF, countBF, fMR, fJoin, fFind, fnSortSet, fIndexS, fnRep, fCallW, fCallN, fLamG, fParA, fEvalA, putFr, plains, Still, FSt.set_mk, FSt.pn, isi, List.any_cons, List.any_nil, List.getElem?_cons_zero, List.getElem?_cons_succ, List.set_cons_zero, List.set_cons_succ]); (try simp only [true_and, ex2, Option.some.injEq, exists_eq_left']))
          exact go2 ⟨cs, 4, rfl, hc, by omega, by omega, by omega, fun sts n' h1 h2 => ⟨sts, n', by omega, h2, rfl⟩⟩
        · rintro _ ⟨sts, n1, hn1, ok, rfl⟩
          have hL := ok.ltr.2.1
          have hs : ∀ k : Nat, k ≤ 2000 → k ≤ sizeLine := fun k h => by rw [sizeLine_eq]; omega
          refine seqF (fun s => ∃ a b n2, n2 ≤ n + 144 ∧ a.length ≤ 1500 ∧ b.length ≤ 1500 ∧ (∀ c ∈ a, c ∈ cs) ∧ (∀ c ∈ b, c ∈ cs) ∧ s = ⟨[none, some (.v .pen), some (.v (.int (0 + (x : Int)))), some (.v (.str (tx cs))), some (.v (ruleU cs sts)), some (.v (.str (tx a))), some (.v (.str (tx b))), w7, w8, w9, w10], n2⟩) ?_ ?_
          · ((try dsimp only [fVar, fC, faNil, faCons, fTup, fnLst, fFz, fOp, fUn, fTB, fAndT, fOrT, fNotT, fAndV, fOrV, fNotV, fIf, fChain, fNoP, fPart, sliceF, fSlice, fCB, fName, fGNil, fGCons, fGTup, fSubL, fPass, fBreak, fCont, fNever, fSNil, fDrop, fRet, fRetN, fIfS, fAsg, fSet, fOwn, fOwnM, fSeq, fRaise, fFrz, fCall, fWhile, fFor, listW, seqW, pyW, addF, subF, ii, mulF, mulXF, fdivF, modF, powF, negF, ordF, ltF, leF, gtF, geF, eqF, isNonW, isNF, inF, inDF, ixF, tyW, fIsi, fIsiT, f1c, lenF, absF, intF, tupleF, boolsF, allF, anyF, reprF, fnListX, fItAny, fItR1, fItR2, fItEnum, fnLc, fnLcI, fnLcO, fMeth, appendF, popF, indexF, countBF, fMR, fJoin, fFind, fnSortSet, fIndexS, fnRep, fCallW, fCallN, fLamG, fParA, fEvalA, putFr, plains, Still, FSt.set_mk, FSt.pn, isi, List.any_cons, List.any_nil, List.getElem?_cons_zero, List.getElem?_cons_succ, List.set_cons_zero, List.set_cons_succ]); (try simp only [true_and, ex2, Option.some.injEq, exists_eq_left']))
            refine go2 ⟨cs, 6, rfl, hc, by omega, by omega, by omega, fun a n' h1 h2 h3 => ?_⟩
            refine go2 ⟨cs, 4, rfl, hc, by omega, by omega, by omega, fun b n'' g1 g2 g3 => ?_⟩
            exact ⟨rfl, a, b, n'', by omega, by omega, by omega, h3, g3, rfl⟩
          · rintro _ ⟨a, b, n2, hn2, la, lb, ha, hb, rfl⟩
            refine seqF (fun s => ∃ a b n2, n2 ≤ n + 205 ∧ a.length ≤ 1500 ∧ b.length ≤ 1500 ∧ (∀ c ∈ a, c ∈ cs) ∧ (∀ c ∈ b, c ∈ cs) ∧ s = ⟨[none, some (.v .pen), some (.v (.int (0 + (x : Int)))), some (.v (.str (tx cs))), some (.v (ruleU cs sts)), some (.v (.str (tx a))), some (.v (.str (tx b))), w7, w8, w9, w10], n2⟩) ?_ ?_
            · ((try dsimp only [fVar, fC, faNil, faCons, fTup, fnLst, fFz, fOp, fUn, fTB, fAndT, fOrT, fNotT, fAndV, fOrV, fNotV, fIf, fChain, fNoP, fPart, sliceF, fSlice, fCB, fName, fGNil, fGCons, fGTup, fSubL, fPass, fBreak, fCont, fNever, fSNil, fDrop, fRet, fRetN, fIfS, fAsg, fSet, fOwn, fOwnM, fSeq, fRaise, fFrz, fCall, fWhile, fFor, listW, seqW, pyW, addF, subF, ii, mulF, mulXF, fdivF, modF, powF, negF, ordF, ltF, leF, gtF, geF, eqF, isNonW, isNF, inF, inDF, ixF, tyW, fIsi, fIsiT, f1c, lenF, absF, intF, tupleF, boolsF, allF, anyF, reprF, fnListX, fItAny, fItR1, fItR2, fItEnum, fnLc, fnLcI, fnLcO, fMeth, appendF, popF, indexF, countBF, fMR, fJoin, fFind, fnSortSet, fIndexS, fnRep, fCallW, fCallN, fLamG, fParA, fEvalA, putFr, plains, Still, FSt.set_mk, FSt.pn, isi, List.any_cons, List.any_nil, List.getElem?_cons_zero, List.getElem?_cons_succ, List.set_cons_zero, List.set_cons_succ]); (try simp only [true_and, ex2, Option.some.injEq, exists_eq_left']))
              refine go_take (by omega) (by omega) (by omega) fun r r0 r1 => ?_
              by_cases hr : r = 0
              · refine bcase_t (by rw [decide_eq_true hr]; rfl) ?_
                refine go2 ⟨cs, sts, 0, 6, rfl, ok, ok.h1, by omega, by omega, by omega, fun a b j n' h1 h2 h3 h4 _ _ h5 => ?_⟩
                exact ⟨a, b, n', by omega, by omega, by omega, h1, h2, rfl⟩
              · exact bcase_f (by rw [decide_eq_false hr]; rfl) ⟨a, b, n2 + 1, by omega, la, lb, ha, hb, rfl⟩
            · clear hn2 la lb ha hb
              rintro _ ⟨a, b, n2, hn2, la, lb, ha, hb, rfl⟩
              refine seqF (fun s => ∃ a b n2, n2 ≤ n + 306 ∧ a.length ≤ 1500 ∧ b.length ≤ 1500 ∧ (∀ c ∈ a, c ∈ cs) ∧ (∀ c ∈ b, c ∈ cs) ∧ s = ⟨[none, some (.v .pen), some (.v (.int (0 + (x : Int)))), some (.v (.str (tx cs))), some (.v (ruleU cs sts)), some (.v (.str (tx a))), some (.v (.str (tx b))), w7, w8, w9, w10], n2⟩) ?_ ?_
              · ((try dsimp only [fVar, fC, faNil, faCons, fTup, fnLst, fFz, fOp, fUn, fTB, fAndT, fOrT, fNotT, fAndV, fOrV, fNotV, fIf, fChain, fNoP, fPart, sliceF, fSlice, fCB, fName, fGNil, fGCons, fGTup, fSubL, fPass, fBreak, fCont, fNever, fSNil, fDrop, fRet, fRetN, fIfS, fAsg, fSet, fOwn, fOwnM, fSeq, fRaise, fFrz, fCall, fWhile, fFor, listW, seqW, pyW, addF, subF, ii, mulF, mulXF, fdivF, modF, powF, negF, ordF, ltF, leF, gtF, geF, eqF, isNonW, isNF, inF, inDF, ixF, tyW, fIsi, fIsiT, f1c, lenF, absF, intF, tupleF, boolsF, allF, anyF, reprF, fnListX, fItAny, fItR1, fItR2, fItEnum, fnLc, fnLcI, fnLcO, fMeth, appendF, popF, indexF, countBF, fMR, fJoin, fFind, fnSortSet, fIndexS, fnRep, fCallW, fCallN, fLamG, fParA, fEvalA, putFr, plains, Still, FSt.set_mk, FSt.pn, isi, List.any_cons, List.any_nil, List.getElem?_cons_zero, List.getElem?_cons_succ, List.set_cons_zero, List.set_cons_succ]); (try simp only [true_and, ex2, Option.some.injEq, exists_eq_left']))
                refine go_take (by omega) (by omega) (by omega) fun r r0 r1 => ?_
                by_cases hr : r = 0
                · refine bcase_t (by rw [decide_eq_true hr]; rfl) ?_
                  refine go2 ⟨cs, sts, rfl, ok, by omega, fun a b n' h1 h2 h3 h4 h5 => ?_⟩
                  exact ⟨a, b, n', by omega, h2, h3, h4, h5, rfl⟩
                · exact bcase_f (by rw [decide_eq_false hr]; rfl) ⟨a, b, n2 + 1, by omega, la, lb, ha, hb, rfl⟩
              · clear hn2 la lb ha hb
                rintro _ ⟨a, b, n2, hn2, la, lb, ha, hb, rfl⟩
                have hk := kept_ok ok ha hb la lb
                have h0 : ∀ j, some 0 = some j → j < sts.length := fun j e => by cases e; exact ok.h1
                have oa : okU (.str (tx a)) = true := word_ok ok.ltr ha (by omega)
                have sa : sideB cs (.str (tx a)) = true := by
                  rw [sideB, tx_len, decide_eq_true la, tx_cps, Bool.true_and, List.all_eq_true]
                  exact fun c h => decide_eq_true (ha c h)
                refine seqF (fun s => s = ⟨[none, some (.v .pen), some (.v (.int (0 + (x : Int)))), some (.v (.str (tx cs))), some (.v (ruleU cs sts)), some (.v (.str (tx a))), some (.v (.str (tx b))), some (.v (.str (toPy (.tup [ruleU cs sts, .str (tx a), .str (tx b)])).shown)), w8, w9, w10], n2⟩) ?_ ?_
                · ((try dsimp only [fVar, fC, faNil, faCons, fTup, fnLst, fFz, fOp, fUn, fTB, fAndT, fOrT, fNotT, fAndV, fOrV, fNotV, fIf, fChain, fNoP, fPart, sliceF, fSlice, fCB, fName, fGNil, fGCons, fGTup, fSubL, fPass, fBreak, fCont, fNever, fSNil, fDrop, fRet, fRetN, fIfS, fAsg, fSet, fOwn, fOwnM, fSeq, fRaise, fFrz, fCall, fWhile, fFor, listW, seqW, pyW, addF, subF, ii, mulF, mulXF, fdivF, modF, powF, negF, ordF, ltF, leF, gtF, geF, eqF, isNonW, isNF, inF, inDF, ixF, tyW, fIsi, fIsiT, f1c, lenF, absF, intF, tupleF, boolsF, allF, anyF, reprF, fnListX, fItAny, fItR1, fItR2, fItEnum, fnLc, fnLcI, fnLcO, fMeth, appendF, popF, indexF, countBF, fMR, fJoin, fFind, fnSortSet, fIndexS, fnRep, fCallW, fCallN, fLamG, fParA, fEvalA, putFr, plains, Still, FSt.set_mk, FSt.pn, isi, List.any_cons, List.any_nil, List.getElem?_cons_zero, List.getElem?_cons_succ, List.set_cons_zero, List.set_cons_succ]); (try simp only [true_and, ex2, Option.some.injEq, exists_eq_left']))
                  exact ⟨hs _ (by simp), hk, trivial⟩
                · rintro _ rfl
                  refine seqF (fun s => s = ⟨[none, some (.v .pen), some (.v (.int (0 + (x : Int)))), some (.v (.str (tx cs))), some (.v (ruleU cs sts)), some (.v (.str (tx a))), some (.v (.str (tx b))), some (.v (.str (toPy (.tup [ruleU cs sts, .str (tx a), .str (tx b)])).shown)), some (.v (.bl (afterR cs sts (some 0) a).isSome)), w9, w10], n2⟩) ?_ ?_
                  · ((try dsimp only [fVar, fC, faNil, faCons, fTup, fnLst, fFz, fOp, fUn, fTB, fAndT, fOrT, fNotT, fAndV, fOrV, fNotV, fIf, fChain, fNoP, fPart, sliceF, fSlice, fCB, fName, fGNil, fGCons, fGTup, fSubL, fPass, fBreak, fCont, fNever, fSNil, fDrop, fRet, fRetN, fIfS, fAsg, fSet, fOwn, fOwnM, fSeq, fRaise, fFrz, fCall, fWhile, fFor, listW, seqW, pyW, addF, subF, ii, mulF, mulXF, fdivF, modF, powF, negF, ordF, ltF, leF, gtF, geF, eqF, isNonW, isNF, inF, inDF, ixF, tyW, fIsi, fIsiT, f1c, lenF, absF, intF, tupleF, boolsF, allF, anyF, reprF, fnListX, fItAny, fItR1, fItR2, fItEnum, fnLc, fnLcI, fnLcO, fMeth, appendF, popF, indexF, countBF, fMR, fJoin, fFind, fnSortSet, fIndexS, fnRep, fCallW, fCallN, fLamG, fParA, fEvalA, putFr, plains, Still, FSt.set_mk, FSt.pn, isi, List.any_cons, List.any_nil, List.getElem?_cons_zero, List.getElem?_cons_succ, List.set_cons_zero, List.set_cons_succ]); (try simp only [true_and, ex2, Option.some.injEq, exists_eq_left']))
                    refine go2 ⟨cs, sts, some 0, a, rfl, ok, ha, h0, ?_⟩
                    cases afterR cs sts (some 0) a <;> rfl
                  · rintro _ rfl
                    refine seqF (fun s => s = ⟨[none, some (.v .pen), some (.v (.int (0 + (x : Int)))), some (.v (.str (tx cs))), some (.v (ruleU cs sts)), some (.v (.str (tx a))), some (.v (.str (tx b))), some (.v (.str (toPy (.tup [ruleU cs sts, .str (tx a), .str (tx b)])).shown)), some (.v (.bl (afterR cs sts (some 0) a).isSome)), w9, w10], n2⟩) ?_ ?_
                    · ((try dsimp only [fVar, fC, faNil, faCons, fTup, fnLst, fFz, fOp, fUn, fTB, fAndT, fOrT, fNotT, fAndV, fOrV, fNotV, fIf, fChain, fNoP, fPart, sliceF, fSlice, fCB, fName, fGNil, fGCons, fGTup, fSubL, fPass, fBreak, fCont, fNever, fSNil, fDrop, fRet, fRetN, fIfS, fAsg, fSet, fOwn, fOwnM, fSeq, fRaise, fFrz, fCall, fWhile, fFor, listW, seqW, pyW, addF, subF, ii, mulF, mulXF, fdivF, modF, powF, negF, ordF, ltF, leF, gtF, geF, eqF, isNonW, isNF, inF, inDF, ixF, tyW, fIsi, fIsiT, f1c, lenF, absF, intF, tupleF, boolsF, allF, anyF, reprF, fnListX, fItAny, fItR1, fItR2, fItEnum, fnLc, fnLcI, fnLcO, fMeth, appendF, popF, indexF, countBF, fMR, fJoin, fFind, fnSortSet, fIndexS, fnRep, fCallW, fCallN, fLamG, fParA, fEvalA, putFr, plains, Still, FSt.set_mk, FSt.pn, isi, List.any_cons, List.any_nil, List.getElem?_cons_zero, List.getElem?_cons_succ, List.set_cons_zero, List.set_cons_succ]); (try simp only [true_and, ex2, Option.some.injEq, exists_eq_left']))
                      refine go2 (is_of_plain ok ha la ?_)
                      refine go2 (is_of_plain ok ha la ?_)
                      exact ⟨hs _ (by simp), bls_ok _ _, hs _ (by simp), bls_ok _ _, bcase_f (by rw [decide_eq_true rfl]; rfl) rfl⟩
                    · rintro _ rfl
                      refine seqF (fun s => ∃ g : List Nat, g ≠ [] ∧ g.length ≤ 1500 ∧ (∀ c ∈ g, c ∈ cs) ∧ s = ⟨[none, some (.v .pen), some (.v (.int (0 + (x : Int)))), some (.v (.str (tx cs))), some (.v (ruleU cs sts)), some (.v (.str (tx a))), some (.v (.str (tx b))), some (.v (.str (toPy (.tup [ruleU cs sts, .str (tx a), .str (tx b)])).shown)), some (.v (.bl (afterR cs sts (some 0) a).isSome)), some (.v (.str (tx g))), w10], n2⟩) ?_ ?_
                      · ((try dsimp only [fVar, fC, faNil, faCons, fTup, fnLst, fFz, fOp, fUn, fTB, fAndT, fOrT, fNotT, fAndV, fOrV, fNotV, fIf, fChain, fNoP, fPart, sliceF, fSlice, fCB, fName, fGNil, fGCons, fGTup, fSubL, fPass, fBreak, fCont, fNever, fSNil, fDrop, fRet, fRetN, fIfS, fAsg, fSet, fOwn, fOwnM, fSeq, fRaise, fFrz, fCall, fWhile, fFor, listW, seqW, pyW, addF, subF, ii, mulF, mulXF, fdivF, modF, powF, negF, ordF, ltF, leF, gtF, geF, eqF, isNonW, isNF, inF, inDF, ixF, tyW, fIsi, fIsiT, f1c, lenF, absF, intF, tupleF, boolsF, allF, anyF, reprF, fnListX, fItAny, fItR1, fItR2, fItEnum, fnLc, fnLcI, fnLcO, fMeth, appendF, popF, indexF, countBF, fMR, fJoin, fFind, fnSortSet, fIndexS, fnRep, fCallW, fCallN, fLamG, fParA, fEvalA, putFr, plains, Still, FSt.set_mk, FSt.pn, isi, List.any_cons, List.any_nil, List.getElem?_cons_zero, List.getElem?_cons_succ, List.set_cons_zero, List.set_cons_succ]); (try simp only [true_and, ex2, Option.some.injEq, exists_eq_left']))
                        by_cases hb0 : tx b = ""
                        · refine bcase_t (by rw [decide_eq_true hb0]; rfl) ⟨cs, ?_, by omega, fun c h => h, rfl⟩
                          intro z
                          have := ok.ltr.1
                          rw [z] at this
                          simp at this
                        · refine bcase_f (by rw [decide_eq_false hb0]; rfl) ⟨b, fun z => hb0 (by rw [z]; rfl), lb, hb, rfl⟩
                      · rintro _ ⟨g, g0, lg, hg, rfl⟩
                        refine seqF (fun s => s = ⟨[none, some (.v .pen), some (.v (.int (0 + (x : Int)))), some (.v (.str (tx cs))), some (.v (ruleU cs sts)), some (.v (.str (tx a))), some (.v (.str (tx b))), some (.v (.str (toPy (.tup [ruleU cs sts, .str (tx a), .str (tx b)])).shown)), some (.v (.bl (afterR cs sts (some 0) a).isSome)), some (.v (.str (tx g))), some (.v (.bl (ringsR cs sts g sts.length (afterR cs sts (some 0) a)).isSome))], n2⟩) ?_ ?_
                        · ((try dsimp only [fVar, fC, faNil, faCons, fTup, fnLst, fFz, fOp, fUn, fTB, fAndT, fOrT, fNotT, fAndV, fOrV, fNotV, fIf, fChain, fNoP, fPart, sliceF, fSlice, fCB, fName, fGNil, fGCons, fGTup, fSubL, fPass, fBreak, fCont, fNever, fSNil, fDrop, fRet, fRetN, fIfS, fAsg, fSet, fOwn, fOwnM, fSeq, fRaise, fFrz, fCall, fWhile, fFor, listW, seqW, pyW, addF, subF, ii, mulF, mulXF, fdivF, modF, powF, negF, ordF, ltF, leF, gtF, geF, eqF, isNonW, isNF, inF, inDF, ixF, tyW, fIsi, fIsiT, f1c, lenF, absF, intF, tupleF, boolsF, allF, anyF, reprF, fnListX, fItAny, fItR1, fItR2, fItEnum, fnLc, fnLcI, fnLcO, fMeth, appendF, popF, indexF, countBF, fMR, fJoin, fFind, fnSortSet, fIndexS, fnRep, fCallW, fCallN, fLamG, fParA, fEvalA, putFr, plains, Still, FSt.set_mk, FSt.pn, isi, List.any_cons, List.any_nil, List.getElem?_cons_zero, List.getElem?_cons_succ, List.set_cons_zero, List.set_cons_succ]); (try simp only [true_and, ex2, Option.some.injEq, exists_eq_left']))
                          exact go2 (is_of_ring ok ha la g0 lg hg rfl)
                        · rintro _ rfl
                          refine seqF (fun s => s = ⟨[none, some (.v .pen), some (.v (.int (0 + (x : Int)))), some (.v (.str (tx cs))), some (.v (ruleU cs sts)), some (.v (.str (tx a))), some (.v (.str (tx b))), some (.v (.str (toPy (.tup [ruleU cs sts, .str (tx a), .str (tx b)])).shown)), some (.v (.bl (afterR cs sts (some 0) a).isSome)), some (.v (.str (tx g))), some (.v (.bl (ringsR cs sts g sts.length (afterR cs sts (some 0) a)).isSome))], n2⟩) ?_ ?_
                          · ((try dsimp only [fVar, fC, faNil, faCons, fTup, fnLst, fFz, fOp, fUn, fTB, fAndT, fOrT, fNotT, fAndV, fOrV, fNotV, fIf, fChain, fNoP, fPart, sliceF, fSlice, fCB, fName, fGNil, fGCons, fGTup, fSubL, fPass, fBreak, fCont, fNever, fSNil, fDrop, fRet, fRetN, fIfS, fAsg, fSet, fOwn, fOwnM, fSeq, fRaise, fFrz, fCall, fWhile, fFor, listW, seqW, pyW, addF, subF, ii, mulF, mulXF, fdivF, modF, powF, negF, ordF, ltF, leF, gtF, geF, eqF, isNonW, isNF, inF, inDF, ixF, tyW, fIsi, fIsiT, f1c, lenF, absF, intF, tupleF, boolsF, allF, anyF, reprF, fnListX, fItAny, fItR1, fItR2, fItEnum, fnLc, fnLcI, fnLcO, fMeth, appendF, popF, indexF, countBF, fMR, fJoin, fFind, fnSortSet, fIndexS, fnRep, fCallW, fCallN, fLamG, fParA, fEvalA, putFr, plains, Still, FSt.set_mk, FSt.pn, isi, List.any_cons, List.any_nil, List.getElem?_cons_zero, List.getElem?_cons_succ, List.set_cons_zero, List.set_cons_succ]); (try simp only [true_and, ex2, Option.some.injEq, exists_eq_left']))
                            refine ⟨bl_ok _, hs _ (by simp), ?_⟩
                            refine go2 ⟨cs, sts, a, g, rfl, ok, ha, hg, bl_ok _, bcase_f ?_ rfl⟩
                            rw [ring_turns ok (afterR_lt ok h0), decide_eq_true rfl]; rfl
                          · rintro _ rfl
                            refine seqF (fun s => s = ⟨[none, some (.v .pen), some (.v (.int (0 + (x : Int)))), some (.v (.str (tx cs))), some (.v (ruleU cs sts)), some (.v (.str (tx a))), some (.v (.str (tx b))), some (.v (.str (toPy (.tup [ruleU cs sts, .str (tx a), .str (tx b)])).shown)), some (.v (.bl (afterR cs sts (some 0) a).isSome)), some (.v (.str (tx g))), some (.v (.bl (ringsR cs sts g sts.length (afterR cs sts (some 0) a)).isSome))], n2⟩) ?_ ?_
                            · ((try dsimp only [fVar, fC, faNil, faCons, fTup, fnLst, fFz, fOp, fUn, fTB, fAndT, fOrT, fNotT, fAndV, fOrV, fNotV, fIf, fChain, fNoP, fPart, sliceF, fSlice, fCB, fName, fGNil, fGCons, fGTup, fSubL, fPass, fBreak, fCont, fNever, fSNil, fDrop, fRet, fRetN, fIfS, fAsg, fSet, fOwn, fOwnM, fSeq, fRaise, fFrz, fCall, fWhile, fFor, listW, seqW, pyW, addF, subF, ii, mulF, mulXF, fdivF, modF, powF, negF, ordF, ltF, leF, gtF, geF, eqF, isNonW, isNF, inF, inDF, ixF, tyW, fIsi, fIsiT, f1c, lenF, absF, intF, tupleF, boolsF, allF, anyF, reprF, fnListX, fItAny, fItR1, fItR2, fItEnum, fnLc, fnLcI, fnLcO, fMeth, appendF, popF, indexF, countBF, fMR, fJoin, fFind, fnSortSet, fIndexS, fnRep, fCallW, fCallN, fLamG, fParA, fEvalA, putFr, plains, Still, FSt.set_mk, FSt.pn, isi, List.any_cons, List.any_nil, List.getElem?_cons_zero, List.getElem?_cons_succ, List.set_cons_zero, List.set_cons_succ]); (try simp only [true_and, ex2, Option.some.injEq, exists_eq_left']))
                              have c0 : cs ≠ [] := fun z => by
                                have := ok.ltr.1
                                rw [z] at this
                                simp at this
                              refine go2 (is_of_ring ok ha la c0 (by omega) (fun c h => h) ?_)
                              refine ⟨bl_ok _, hs _ (by simp), ?_⟩
                              refine go2 ⟨cs, sts, a, cs, rfl, ok, ha, fun c h => h, bl_ok _, bcase_f ?_ rfl⟩
                              rw [ring_turns ok (afterR_lt ok h0), decide_eq_true rfl]; rfl
                            · rintro _ rfl
                              ((try dsimp only [fVar, fC, faNil, faCons, fTup, fnLst, fFz, fOp, fUn, fTB, fAndT, fOrT, fNotT, fAndV, fOrV, fNotV, fIf, fChain, fNoP, fPart, sliceF, fSlice, fCB, fName, fGNil, fGCons, fGTup, fSubL, fPass, fBreak, fCont, fNever, fSNil, fDrop, fRet, fRetN, fIfS, fAsg, fSet, fOwn, fOwnM, fSeq, fRaise, fFrz, fCall, fWhile, fFor, listW, seqW, pyW, addF, subF, ii, mulF, mulXF, fdivF, modF, powF, negF, ordF, ltF, leF, gtF, geF, eqF, isNonW, isNF, inF, inDF, ixF, tyW, fIsi, fIsiT, f1c, lenF, absF, intF, tupleF, boolsF, allF, anyF, reprF, fnListX, fItAny, fItR1, fItR2, fItEnum, fnLc, fnLcI, fnLcO, fMeth, appendF, popF, indexF, countBF, fMR, fJoin, fFind, fnSortSet, fIndexS, fnRep, fCallW, fCallN, fLamG, fParA, fEvalA, putFr, plains, Still, FSt.set_mk, FSt.pn, isi, List.any_cons, List.any_nil, List.getElem?_cons_zero, List.getElem?_cons_succ, List.set_cons_zero, List.set_cons_succ]); (try simp only [true_and, ex2, Option.some.injEq, exists_eq_left']))
                              refine ⟨hs _ (by simp), hk, bcase_f (by simp) ?_⟩
                              refine go2 ⟨cs, sts, rfl, ok, by omega, fun n' hn' => ?_⟩
                              exact bcase_f rfl (hR _ ⟨n', _, _, _, _, _, _, _, _, _, by omega, rfl⟩)
  · intro _ _
    ((try dsimp only [fVar, fC, faNil, faCons, fTup, fnLst, fFz, fOp, fUn, fTB, fAndT, fOrT, fNotT, fAndV, fOrV, fNotV, fIf, fChain, fNoP, fPart, sliceF, fSlice, fCB, fName, fGNil, fGCons, fGTup, fSubL, fPass, fBreak, fCont, fNever, fSNil, fDrop, fRet, fRetN, fIfS, fAsg, fSet, fOwn, fOwnM, fSeq, fRaise, fFrz, fCall, fWhile, fFor, listW, seqW, pyW, addF, subF, ii, mulF, mulXF, fdivF, modF, powF, negF, ordF, ltF, leF, gtF, geF, eqF, isNonW, isNF, inF, inDF, ixF, tyW, fIsi, fIsiT, f1c, lenF, absF, intF, tupleF, boolsF, allF, anyF, reprF, fnListX, fItAny, fItR1, fItR2, fItEnum, fnLc, fnLcI, fnLcO, fMeth, appendF, popF, indexF, countBF, fMR, fJoin, fFind, fnSortSet, fIndexS, fnRep, fCallW, fCallN, fLamG, fParA, fEvalA, putFr, plains, Still, FSt.set_mk, FSt.pn, isi, List.any_cons, List.any_nil, List.getElem?_cons_zero, List.getElem?_cons_succ, List.set_cons_zero, List.set_cons_succ]); (try simp only [true_and, ex2, Option.some.injEq, exists_eq_left']))
theorem fp_law : ∀ ds M Q X, ds.length = 1 → S_lawF TB35 ds M Q X → (lawB TB35 f_law (wkX X)).run (spEnds Q) (dStart 11 ds) M := law_pure (T := TB35) (N := 9) (t := f_law) law35
end LD

set_option maxHeartbeats 0
namespace R35
open PySem PySem.Spec PyProof.Rows L2 LD
def top (i : Nat) : Stmt := PySem.Challenge.pw_laterless_k35_words_of_rules.main.body.getD i (.Pass ⟨0, 0, 0, 0⟩)
abbrev FnP (K : PySem.W.Frag) (x : Str) (st : Stmt) (f : Addr) (fd : FuncData) : Prop := FunD K x x (defArgs st) (defBody st) (defScope st) [] [] f fd
section
variable {gb : Bool} {P : Program} {w : World} {K : PySem.W.Frag} {mg : Str → Option Value} {base : Heap} {f : Addr} {fd : FuncData}
theorem sc_is_integer : FnScope ["thing"] ["thing"] (defScope (top 15)) := ⟨rfl, rfl, rfl, by decide +kernel, rfl, by decide +kernel, by decide +kernel⟩
theorem okF_is_integer (F : FunD K "is_integer" "is_integer" (defArgs (top 15)) (defBody (top 15)) (defScope (top 15)) [] [] f fd) (h_isinstance : mg "isinstance" = none) (h_int : mg "int" = none) (h_bool : mg "bool" = none) : FnG gb P w K mg base 1 f fd ["thing"] (lSp K mg 1 (dsp [] F_is_integer)) := by
  refine fn_good (b := fun X => lFS ⟨X, []⟩ f_is_integer) F sc_is_integer (fpure (T := []) (sp := F_is_integer) (t := f_is_integer) (k := 1) (N := 1) fp_is_integer) fun cdv A outer s H E X hr lt => ?_
  have nd := sc_is_integer.nd
  exact fss_one (fs_ret (fe_and (fe_isi (qe_isi .int (fv 0) rfl h_isinstance rfl h_int bb_isinstance bb_int)) (fe_one (fe_not (fe_isi (qe_isi .bool (fv 0) rfl h_isinstance rfl h_bool bb_isinstance bb_bool))))))
theorem sc_is_within : FnScope ["thing", "least", "most"] ["thing", "least", "most"] (defScope (top 21)) := ⟨rfl, rfl, rfl, by decide +kernel, rfl, by decide +kernel, by decide +kernel⟩
theorem okF_is_within (F : FunD K "is_within" "is_within" (defArgs (top 21)) (defBody (top 21)) (defScope (top 21)) [] [] f fd) (G_is_integer : Good gb P w K mg base "is_integer" 1 ["thing"] (dsp [] F_is_integer)) : FnG gb P w K mg base 2 f fd ["thing", "least", "most"] (lSp K mg 3 (dsp [] F_is_within)) := by
  refine fn_good (b := fun X => lFS ⟨X, []⟩ f_is_within) F sc_is_within (fpure (T := []) (sp := F_is_within) (t := f_is_within) (k := 3) (N := 3) fp_is_within) fun cdv A outer s H E X hr lt => ?_
  have nd := sc_is_within.nd
  exact fss_one (fs_ret (fe_and (fe_fn (.inl rfl) (G_is_integer.mono (by decide)) hr lt rfl (fa_cons (fv 0) (fa_nil)) (fis_cons fis_nil)) (fe_one (fe_chain ok_le ok_le o_le o_le (fv 1) (fv 0) (fv 2)))))
theorem sc_are_letters : FnScope ["thing", "one"] ["thing"] (defScope (top 22)) := ⟨rfl, rfl, rfl, by decide +kernel, rfl, by decide +kernel, by decide +kernel⟩
theorem bk_are_letters_0 : BlkOk ["thing", "one"] (defScope (top 22)) { kind := .function, names := [(Str.ofString ".0", .local), (Str.ofString "one", .local), (Str.ofString "ALPHABET", .globalImplicit)], isGenerator := false, isCoroutine := false, more := [] } [("one", 1)] := ⟨rfl, by decide +kernel, by decide +kernel, by decide +kernel, by decide +kernel⟩
theorem okF_are_letters (F : FunD K "are_letters" "are_letters" (defArgs (top 22)) (defBody (top 22)) (defScope (top 22)) [] [] f fd) (c_ALPHABET : ∃ t, mg "ALPHABET" = some (.str "abcdefghijklmnopqrstuvwxyz" t)) (c_MOST_LETTERS : ∃ t, mg "MOST_LETTERS" = some (.int 3 t)) (h_list : mg "list" = none) (h_sorted : mg "sorted" = none) (h_set : mg "set" = none) (h_all : mg "all" = none) (h_isinstance : mg "isinstance" = none) (h_str : mg "str" = none) (h_len : mg "len" = none) : FnG gb P w K mg base 1 f fd ["thing"] (lSp K mg 1 (dsp [] F_are_letters)) := by
  refine fn_good (b := fun X => lFS ⟨X, []⟩ f_are_letters) F sc_are_letters (fpure (T := []) (sp := F_are_letters) (t := f_are_letters) (k := 1) (N := 2) fp_are_letters) fun cdv A outer s H E X hr lt => ?_
  have nd := sc_are_letters.nd
  exact fss_cons (fs_if (PW.pt (fw_or (ft_not (ft_val (fe_isi (qe_isi .str (fv 0) rfl h_isinstance rfl h_str bb_isinstance bb_str)))) (fw_or1 (ft_not (ft_chain ok_le ok_le o_le o_le (fe_int) (fe_callB ok_len c_len rfl h_len bb_len (fa_cons (fv 0) (fa_nil))) (fe_gint rfl c_MOST_LETTERS)))))) (fss_one (fs_ret (fe_bl))) (fss_nil))
    (fss_one (fs_ret (fe_and (fe_cmp ok_eq (o_eq hr.hu) (fe_fz (fn_listX (qe_callTy (c_listX rfl) rfl h_list bb_list (fa_cons (fv 0) (fa_nil))))) (fe_fz (fn_sortSet (qe_sortSet rfl rfl h_sorted rfl h_set (fv 0) bb_sorted bb_set))) (nomark _)) (fe_one (fe_callB ok_all (c_all rfl) rfl h_all bb_all (fa_cons (fe_fz (fn_lc (qe_lc rfl nd (fi_any (qi_any (fv 0))) bk_are_letters_0 (fun _ _ _ _ _ => pg_name nd rfl (.inl rfl) (.inr rfl)) (fun _ _ _ _ _ => fe_cmp ok_in o_inX (fv 1) (fe_gstr rfl c_ALPHABET) (by with_unfolding_all rfl))))) (fa_nil)))))))
theorem sc_need_letters : FnScope ["thing"] ["thing"] (defScope (top 23)) := ⟨rfl, rfl, rfl, by decide +kernel, rfl, by decide +kernel, by decide +kernel⟩
theorem okF_need_letters (F : FunD K "need_letters" "need_letters" (defArgs (top 23)) (defBody (top 23)) (defScope (top 23)) [] [] f fd) (ex_NoLetters : ErrC K mg "NoLetters") (G_are_letters : Good gb P w K mg base "are_letters" 1 ["thing"] (dsp [] F_are_letters)) : FnG gb P w K mg base 2 f fd ["thing"] (lSp K mg 1 (dsp [] F_need_letters)) := by
  refine fn_good (b := fun X => lFS ⟨X, []⟩ f_need_letters) F sc_need_letters (fpure (T := []) (sp := F_need_letters) (t := f_need_letters) (k := 1) (N := 1) fp_need_letters) fun cdv A outer s H E X hr lt => ?_
  have nd := sc_need_letters.nd
  exact fss_one (fs_if (ft_not (ft_val (fe_fn (.inl rfl) (G_are_letters.mono (by decide)) hr lt rfl (fa_cons (fv 0) (fa_nil)) (fis_cons fis_nil)))) (fss_one (fs_raise ex_NoLetters lt rfl rfl)) (fss_nil))
theorem sc_is_rule : FnScope ["thing", "state", "one"] ["thing"] (defScope (top 24)) := ⟨rfl, rfl, rfl, by decide +kernel, rfl, by decide +kernel, by decide +kernel⟩
theorem bk_is_rule_0 : BlkOk ["thing", "state", "one"] (defScope (top 24)) { kind := .function, names := [(Str.ofString ".0", .local), (Str.ofString "one", .local)], isGenerator := false, isCoroutine := false, more := [] } [("one", 2)] := ⟨rfl, by decide +kernel, by decide +kernel, by decide +kernel, by decide +kernel⟩
theorem bk_is_rule_1 : BlkOk ["thing", "state", "one"] (defScope (top 24)) { kind := .function, names := [(Str.ofString ".0", .local), (Str.ofString "one", .local), (Str.ofString "is_within", .globalImplicit), (Str.ofString "len", .globalImplicit), (Str.ofString "thing", .free)], isGenerator := false, isCoroutine := false, more := [] } [("one", 2)] := ⟨rfl, by decide +kernel, by decide +kernel, by decide +kernel, by decide +kernel⟩
theorem okF_is_rule (F : FunD K "is_rule" "is_rule" (defArgs (top 24)) (defBody (top 24)) (defScope (top 24)) [] [] f fd) (c_MOST_STATES : ∃ t, mg "MOST_STATES" = some (.int 4 t)) (h_all : mg "all" = none) (h_len : mg "len" = none) (h_isinstance : mg "isinstance" = none) (h_tuple : mg "tuple" = none) (G_is_within : Good gb P w K mg base "is_within" 2 ["thing", "least", "most"] (dsp [] F_is_within)) (G_are_letters : Good gb P w K mg base "are_letters" 1 ["thing"] (dsp [] F_are_letters)) : FnG gb P w K mg base 3 f fd ["thing"] (lSp K mg 1 (dsp [] F_is_rule)) := by
  refine fn_good (b := fun X => lFS ⟨X, []⟩ f_is_rule) F sc_is_rule (fpure (T := []) (sp := F_is_rule) (t := f_is_rule) (k := 1) (N := 3) fp_is_rule) fun cdv A outer s H E X hr lt => ?_
  have nd := sc_is_rule.nd
  exact fss_cons (fs_if (PW.pt (fw_or (ft_not (ft_val (fe_isi (qe_isi .tuple (fv 0) rfl h_isinstance rfl h_tuple bb_isinstance bb_tuple)))) (fw_or (ft_cmp ok_ne (o_ne hr.hu) (fe_callB ok_len c_len rfl h_len bb_len (fa_cons (fv 0) (fa_nil))) (fe_int) (nomark _)) (fw_or1 (ft_not (ft_val (fe_fn (.inl rfl) (G_are_letters.mono (by decide)) hr lt rfl (fa_cons (fe_ix ok_ix (fv 0) (fe_int) (fun _ _ => rfl)) (fa_nil)) (fis_cons fis_nil)))))))) (fss_one (fs_ret (fe_bl))) (fss_nil))
    (fss_cons (fs_if (PW.pt (fw_or (ft_not (ft_val (fe_isi (qe_isi .tuple (fe_ix ok_ix (fv 0) (fe_int) (fun _ _ => rfl)) rfl h_isinstance rfl h_tuple bb_isinstance bb_tuple)))) (fw_or1 (ft_not (ft_chain ok_le ok_le o_le o_le (fe_int) (fe_callB ok_len c_len rfl h_len bb_len (fa_cons (fe_ix ok_ix (fv 0) (fe_int) (fun _ _ => rfl)) (fa_nil))) (fe_gint rfl c_MOST_STATES)))))) (fss_one (fs_ret (fe_bl))) (fss_nil))
    (fss_cons (fs_for po_bx rfl (fi_any (qi_any (fe_ix ok_ix (fv 0) (fe_int) (fun _ _ => rfl)))) (fg_name nd rfl (.inl rfl)) (fss_cons (fs_if (PW.pt (fw_or (ft_not (ft_val (fe_isi (qe_isi .tuple (fv 1) rfl h_isinstance rfl h_tuple bb_isinstance bb_tuple)))) (fw_or1 (ft_cmp ok_ne (o_ne hr.hu) (fe_callB ok_len c_len rfl h_len bb_len (fa_cons (fv 1) (fa_nil))) (fe_callB ok_len c_len rfl h_len bb_len (fa_cons (fe_ix ok_ix (fv 0) (fe_int) (fun _ _ => rfl)) (fa_nil))) (nomark _))))) (fss_one (fs_ret (fe_bl))) (fss_nil))
    (fss_cons (fs_if (ft_not (ft_val (fe_callB ok_all (c_all rfl) rfl h_all bb_all (fa_cons (fe_fz (fn_lc (qe_lc rfl nd (fi_any (qi_any (fv 1))) bk_is_rule_1 (fun _ _ _ _ _ => pg_name nd rfl (.inl rfl) (.inr rfl)) (fun _ _ _ _ _ => fe_or (fe_cmp ok_isN o_is (fv 2) fe_non (nomark _)) (fe_one (fe_fn (.inl rfl) (G_is_within.mono (by decide)) hr lets_no rfl (fa_cons (fv 2) (fa_cons (fe_int) (fa_cons (fe_op ok_sub o_sub (fe_callB ok_len c_len rfl h_len bb_len (fa_cons (fe_ix ok_ix (fv 0) (fe_int) (fun _ _ => rfl)) (fa_nil))) (fe_int)) (fa_nil)))) (fis_cons (fis_cons (fis_cons fis_nil))))))))) (fa_nil))))) (fss_one (fs_ret (fe_bl))) (fss_nil))
    (fss_one (fs_if (ft_val (fe_callB ok_all (c_all rfl) rfl h_all bb_all (fa_cons (fe_fz (fn_lc (qe_lc rfl nd (fi_any (qi_any (fv 1))) bk_is_rule_0 (fun _ _ _ _ _ => pg_name nd rfl (.inl rfl) (.inr rfl)) (fun _ _ _ _ _ => fe_cmp ok_isN o_is (fv 2) fe_non (nomark _))))) (fa_nil)))) (fss_one (fs_ret (fe_bl))) (fss_nil))))))
    (fss_one (fs_ret (fe_bl)))))
theorem sc_free_rule : FnScope ["letters", "one"] ["letters"] (defScope (top 25)) := ⟨rfl, rfl, rfl, by decide +kernel, rfl, by decide +kernel, by decide +kernel⟩
theorem bk_free_rule_0 : BlkOk ["letters", "one"] (defScope (top 25)) { kind := .function, names := [(Str.ofString ".0", .local), (Str.ofString "one", .local)], isGenerator := false, isCoroutine := false, more := [] } [("one", 1)] := ⟨rfl, by decide +kernel, by decide +kernel, by decide +kernel, by decide +kernel⟩
theorem okF_free_rule (F : FunD K "free_rule" "free_rule" (defArgs (top 25)) (defBody (top 25)) (defScope (top 25)) [] [] f fd) (h_tuple : mg "tuple" = none) (G_need_letters : Good gb P w K mg base "need_letters" 2 ["thing"] (dsp [] F_need_letters)) : FnG gb P w K mg base 3 f fd ["letters"] (lSp K mg 1 (dsp [] F_free_rule)) := by
  refine fn_good (b := fun X => lFS ⟨X, []⟩ f_free_rule) F sc_free_rule (fpure (T := []) (sp := F_free_rule) (t := f_free_rule) (k := 1) (N := 2) fp_free_rule) fun cdv A outer s H E X hr lt => ?_
  have nd := sc_free_rule.nd
  exact fss_cons (fs_expr (fe_fn (.inl rfl) (G_need_letters.mono (by decide)) hr lt rfl (fa_cons (fv 0) (fa_nil)) (fis_cons fis_nil)))
    (fss_one (fs_ret (fe_tup (fa_cons (fv 0) (fa_cons (fe_tup (fa_cons (fe_callTy ok_tuple c_tuple rfl h_tuple bb_tuple (fa_cons (fe_fz (fn_lc (qe_lc rfl nd (fi_any (qi_any (fv 0))) bk_free_rule_0 (fun _ _ _ _ _ => pg_name nd rfl (.inl rfl) (.inr rfl)) (fun _ _ _ _ _ => fe_int)))) (fa_nil))) (fa_nil))) (fa_nil))))))
theorem sc_is_side : FnScope ["thing", "letters", "one"] ["thing", "letters"] (defScope (top 26)) := ⟨rfl, rfl, rfl, by decide +kernel, rfl, by decide +kernel, by decide +kernel⟩
theorem bk_is_side_0 : BlkOk ["thing", "letters", "one"] (defScope (top 26)) { kind := .function, names := [(Str.ofString ".0", .local), (Str.ofString "one", .local), (Str.ofString "letters", .free)], isGenerator := false, isCoroutine := false, more := [] } [("one", 2)] := ⟨rfl, by decide +kernel, by decide +kernel, by decide +kernel, by decide +kernel⟩
theorem okF_is_side (F : FunD K "is_side" "is_side" (defArgs (top 26)) (defBody (top 26)) (defScope (top 26)) [] [] f fd) (c_MOST_ROW : ∃ t, mg "MOST_ROW" = some (.int 1500 t)) (h_isinstance : mg "isinstance" = none) (h_str : mg "str" = none) (h_len : mg "len" = none) (h_all : mg "all" = none) : FnG gb P w K mg base 1 f fd ["thing", "letters"] (lSp K mg 2 (dsp [] F_is_side)) := by
  refine fn_good (b := fun X => lFS ⟨X, []⟩ f_is_side) F sc_is_side (fpure (T := []) (sp := F_is_side) (t := f_is_side) (k := 2) (N := 3) fp_is_side) fun cdv A outer s H E X hr lt => ?_
  have nd := sc_is_side.nd
  exact fss_one (fs_ret (fe_and (fe_isi (qe_isi .str (fv 0) rfl h_isinstance rfl h_str bb_isinstance bb_str)) (fe_and (fe_cmp ok_le o_le (fe_callB ok_len c_len rfl h_len bb_len (fa_cons (fv 0) (fa_nil))) (fe_gint rfl c_MOST_ROW) (nomark _)) (fe_one (fe_callB ok_all (c_all rfl) rfl h_all bb_all (fa_cons (fe_fz (fn_lc (qe_lc rfl nd (fi_any (qi_any (fv 0))) bk_is_side_0 (fun _ _ _ _ _ => pg_name nd rfl (.inl rfl) (.inr rfl)) (fun _ _ _ _ _ => fe_cmp ok_in o_inX (fv 2) (fv 1) (by with_unfolding_all rfl))))) (fa_nil)))))))
theorem sc_rule_after : FnScope ["rule", "state", "word", "letter"] ["rule", "state", "word"] (defScope (top 27)) := ⟨rfl, rfl, rfl, by decide +kernel, rfl, by decide +kernel, by decide +kernel⟩
theorem okF_rule_after (F : FunD K "rule_after" "rule_after" (defArgs (top 27)) (defBody (top 27)) (defScope (top 27)) [] [] f fd)  : FnG gb P w K mg base 1 f fd ["rule", "state", "word"] (lSp K mg 3 (dsp [] F_rule_after)) := by
  refine fn_good (b := fun X => lFS ⟨X, []⟩ f_rule_after) F sc_rule_after (fpure (T := []) (sp := F_rule_after) (t := f_rule_after) (k := 3) (N := 4) fp_rule_after) fun cdv A outer s H E X hr lt => ?_
  have nd := sc_rule_after.nd
  exact fss_cons (fs_for po_bx rfl (fi_any (qi_any (fv 2))) (fg_name nd rfl (.inl rfl)) (fss_cons (fs_if (ft_cmp ok_isN o_is (fv 1) fe_non (nomark _)) (fss_one (fs_ret (fe_non))) (fss_nil))
    (fss_one (fs_set nd rfl (.inl rfl) (fe_ix ok_ix (fe_ix ok_ix (fe_ix ok_ix (fv 0) (fe_int) (fun _ _ => rfl)) (fv 1) (fun _ _ => rfl)) (fe_indexS (qe_indexS (fe_ix ok_ix (fv 0) (fe_int) (fun _ _ => rfl)) (fv 3))) (fun _ _ => rfl))))))
    (fss_one (fs_ret (fv 1)))
theorem sc_is_of : FnScope ["rule", "word", "ring", "state", "turn"] ["rule", "word", "ring"] (defScope (top 28)) := ⟨rfl, rfl, rfl, by decide +kernel, rfl, by decide +kernel, by decide +kernel⟩
theorem okF_is_of (F : FunD K "is_of" "is_of" (defArgs (top 28)) (defBody (top 28)) (defScope (top 28)) [] [("ring", V.non)] f fd) (h_range : mg "range" = none) (h_len : mg "len" = none) (ex_NoWord : ErrC K mg "NoWord") (ex_NoRule : ErrC K mg "NoRule") (G_rule_after : Good gb P w K mg base "rule_after" 1 ["rule", "state", "word"] (dsp [] F_rule_after)) (G_is_side : Good gb P w K mg base "is_side" 1 ["thing", "letters"] (dsp [] F_is_side)) (G_is_rule : Good gb P w K mg base "is_rule" 3 ["thing"] (dsp [] F_is_rule)) : FnG gb P w K mg base 4 f fd ["rule", "word", "ring"] (lSp K mg 3 (dsp [] F_is_of)) := by
  refine fn_good (b := fun X => lFS ⟨X, []⟩ f_is_of) F sc_is_of (fpure (T := []) (sp := F_is_of) (t := f_is_of) (k := 3) (N := 5) fp_is_of) fun cdv A outer s H E X hr lt => ?_
  have nd := sc_is_of.nd
  exact fss_cons (fs_if (ft_not (ft_val (fe_fn (.inl rfl) (G_is_rule.mono (by decide)) hr lt rfl (fa_cons (fv 0) (fa_nil)) (fis_cons fis_nil)))) (fss_one (fs_raise ex_NoRule lt rfl rfl)) (fss_nil))
    (fss_cons (fs_if (ft_not (ft_val (fe_fn (.inl rfl) (G_is_side.mono (by decide)) hr lt rfl (fa_cons (fv 1) (fa_cons (fe_ix ok_ix (fv 0) (fe_int) (fun _ _ => rfl)) (fa_nil))) (fis_cons (fis_cons fis_nil))))) (fss_one (fs_raise ex_NoWord lt rfl rfl)) (fss_nil))
    (fss_cons (fs_set nd rfl (.inl rfl) (fe_fn (.inl rfl) (G_rule_after.mono (by decide)) hr lt rfl (fa_cons (fv 0) (fa_cons (fe_int) (fa_cons (fv 1) (fa_nil)))) (fis_cons (fis_cons (fis_cons fis_nil)))))
    (fss_cons (fs_if (ft_cmp ok_isN o_is (fv 2) fe_non (nomark _)) (fss_one (fs_ret (fe_cmp ok_isN o_isn (fv 3) fe_non (nomark _)))) (fss_nil))
    (fss_cons (fs_if (PW.pt (fw_or (ft_not (ft_val (fe_fn (.inl rfl) (G_is_side.mono (by decide)) hr lt rfl (fa_cons (fv 2) (fa_cons (fe_ix ok_ix (fv 0) (fe_int) (fun _ _ => rfl)) (fa_nil))) (fis_cons (fis_cons fis_nil))))) (fw_or1 (ft_cmp ok_eq (o_eq hr.hu) (fv 2) (fe_str) (nomark _))))) (fss_one (fs_raise ex_NoWord lt rfl rfl)) (fss_nil))
    (fss_cons (fs_for po_bx rfl (fi_r1 (qi_r1 rfl h_range (fe_callB ok_len c_len rfl h_len bb_len (fa_cons (fe_ix ok_ix (fv 0) (fe_int) (fun _ _ => rfl)) (fa_nil))))) (fg_name nd rfl (.inl rfl)) (fss_one (fs_set nd rfl (.inl rfl) (fe_fn (.inl rfl) (G_rule_after.mono (by decide)) hr lt rfl (fa_cons (fv 0) (fa_cons (fv 3) (fa_cons (fv 2) (fa_nil)))) (fis_cons (fis_cons (fis_cons fis_nil)))))))
    (fss_one (fs_ret (fe_cmp ok_isN o_isn (fv 3) fe_non (nomark _)))))))))
theorem sc_law_spread : FnScope ["cell", "at", "primes", "one", "two", "three"] ["cell", "at"] (defScope (top 30)) := ⟨rfl, rfl, rfl, by decide +kernel, rfl, by decide +kernel, by decide +kernel⟩
theorem ok_law_spread (F : FnP K "_law_spread" (top 30) f fd) (hm : mg "_law_spread" = some (.ref f)) (h_int : mg "int" = none) : Good gb P w K mg base "_law_spread" 1 ["cell", "at"] S_law_spread := by
  refine good_of (b := b_law_spread) F hm (F.bindsN fun _ _ _ _ _ _ us hl => match us, hl with | [_, _], _ => rfl) sc_law_spread p_law_spread fun cdv A outer s H E X hr lt => ?_
  have nd := sc_law_spread.nd
  exact qss_cons (qs_if (qt_cmp o_ge (qv 0) (qe_op o_pow (qe_int) (qe_int)) (nomark _)) (qss_one (qs_ret (qv 0))) (qss_nil))
    (qss_cons (qs_set nd rfl (.inl rfl) (qe_lst (qa_cons (qe_int) (qa_cons (qe_int) (qa_cons (qe_int) (qa_cons (qe_int) (qa_cons (qe_int) (qa_cons (qe_int) (qa_cons (qe_int) (qa_cons (qe_int) (qa_nil)))))))))))
    (qss_cons (qs_set nd rfl (.inl rfl) (qe_op o_add (qv 2) (qe_lst (qa_cons (qe_int) (qa_cons (qe_int) (qa_cons (qe_int) (qa_cons (qe_int) (qa_cons (qe_int) (qa_nil)))))))))
    (qss_cons (qs_set nd rfl (.inl rfl) (qe_op o_mul (qe_op o_mod (qe_callTy c_int rfl h_int bb_int (qa_cons (qv 0) (qa_nil))) (qe_int)) (qe_op o_add (qe_op o_mul (qe_int) (qv 1)) (qe_int))))
    (qss_cons (qs_set nd rfl (.inl rfl) (qe_op o_mod (qe_callTy c_int rfl h_int bb_int (qa_cons (qe_op o_pow (qe_op o_add (qe_op o_add (qv 3) (qe_op o_mul (qv 1) (qe_int))) (qe_int)) (qe_int)) (qa_nil))) (qe_ix (qv 2) (qe_op o_mod (qe_callTy c_int rfl h_int bb_int (qa_cons (qv 1) (qa_nil))) (qe_int)) (fun _ _ => rfl))))
    (qss_cons (qs_set nd rfl (.inl rfl) (qe_op o_mod (qe_callTy c_int rfl h_int bb_int (qa_cons (qe_op o_pow (qe_op o_add (qe_op o_add (qe_op o_mul (qv 3) (qe_op o_add (qv 1) (qe_int))) (qe_op o_mod (qe_callTy c_int rfl h_int bb_int (qa_cons (qv 0) (qa_nil))) (qe_int))) (qe_int)) (qe_int)) (qa_nil))) (qe_ix (qv 2) (qe_op o_mod (qe_callTy c_int rfl h_int bb_int (qa_cons (qe_op o_add (qv 1) (qe_int)) (qa_nil))) (qe_int)) (fun _ _ => rfl))))
    (qss_cons (qs_set nd rfl (.inl rfl) (qe_op o_mod (qe_callTy c_int rfl h_int bb_int (qa_cons (qe_op o_pow (qe_op o_add (qe_op o_add (qv 4) (qe_op o_mod (qe_callTy c_int rfl h_int bb_int (qa_cons (qv 3) (qa_nil))) (qe_int))) (qv 1)) (qe_int)) (qa_nil))) (qe_ix (qv 2) (qe_op o_mod (qe_callTy c_int rfl h_int bb_int (qa_cons (qe_op o_add (qv 1) (qe_int)) (qa_nil))) (qe_int)) (fun _ _ => rfl))))
    (qss_one (qs_ret (qe_op o_add (qe_op o_mul (qe_op o_add (qe_op o_mul (qv 3) (qe_int)) (qv 4)) (qe_int)) (qv 5))))))))))
theorem sc_law_open : FnScope ["script", "cells", "nth", "cell"] ["script"] (defScope (top 31)) := ⟨rfl, rfl, rfl, by decide +kernel, rfl, by decide +kernel, by decide +kernel⟩
theorem ok_law_open (F : FnP K "_law_open" (top 31) f fd) (hm : mg "_law_open" = some (.ref f)) (h_enumerate : mg "enumerate" = none) (h_int : mg "int" = none) (h_list : mg "list" = none) : Good gb P w K mg base "_law_open" 1 ["script"] S_law_open := by
  refine good_of (b := b_law_open) F hm (F.bindsN fun _ _ _ _ _ _ us hl => match us, hl with | [_], _ => rfl) sc_law_open p_law_open fun cdv A outer s H E X hr lt => ?_
  have nd := sc_law_open.nd
  exact qss_cons (qs_set nd rfl (.inl rfl) (qe_callTy c_list rfl h_list bb_list (qa_cons (qe_slice (qv 0) qo_none (qo_some (qe_int))) (qa_nil))))
    (qss_cons (qs_for po_bx rfl (qi_enum rfl h_enumerate (qe_slice (qv 0) (qo_some (qe_int)) (qo_some (qe_int)))) (qg_tup rfl (qgs_cons (qg_name nd rfl (.inl rfl)) (qgs_cons (qg_name nd rfl (.inl rfl)) (qgs_nil))) rfl rfl (dGs_len (dGs_len (dGs_len0) dName_go) dName_go)) (qss_one (qs_asg (qe_op o_add (qe_ix (qv 1) (qe_op o_mod (qe_callTy c_int rfl h_int bb_int (qa_cons (qv 2) (qa_nil))) (qe_int)) (fun _ _ => rfl)) (qv 3)) (qg_subL (qv 1) (qe_op o_mod (qe_callTy c_int rfl h_int bb_int (qa_cons (qv 2) (qa_nil))) (qe_int))))))
    (qss_one (qs_ret (qe_lst (qa_cons (qv 1) (qa_cons (qe_int) (qa_cons (qe_int) (qa_nil))))))))
theorem sc_law_take : FnScope ["pen", "many", "at", "cell", "found"] ["pen", "many"] (defScope (top 32)) := ⟨rfl, rfl, rfl, by decide +kernel, rfl, by decide +kernel, by decide +kernel⟩
theorem ok_law_take (F : FnP K "_law_take" (top 32) f fd) (hm : mg "_law_take" = some (.ref f)) (h_int : mg "int" = none) (h_len : mg "len" = none) (G_law_spread : Good gb P w K mg base "_law_spread" 1 ["cell", "at"] S_law_spread) : Good gb P w K mg base "_law_take" 2 ["pen", "many"] S_law_take := by
  refine good_of (b := b_law_take) F hm (F.bindsN fun _ _ _ _ _ _ us hl => match us, hl with | [_, _], _ => rfl) sc_law_take p_law_take fun cdv A outer s H E X hr lt => ?_
  have nd := sc_law_take.nd
  exact qss_cons (qs_if (qt_cmp o_lt (qe_ix (qv 0) (qe_int) (fun _ _ => rfl)) (qv 1) (nomark _)) (qss_cons (qs_set nd rfl (.inl rfl) (qe_ix (qv 0) (qe_int) (fun _ _ => rfl)))
    (qss_cons (qs_set nd rfl (.inl rfl) (qe_int))
    (qss_cons (qs_if (qt_cmp o_lt (qv 2) (qe_callB c_len rfl h_len bb_len (qa_cons (qe_ix (qv 0) (qe_int) (fun _ _ => rfl)) (qa_nil))) (nomark _)) (qss_one (qs_set nd rfl (.inl rfl) (qe_ix (qe_ix (qv 0) (qe_int) (fun _ _ => rfl)) (qv 2) (fun _ _ => rfl)))) (qss_one (qs_if (qt_cmp o_gt (qe_callB c_len rfl h_len bb_len (qa_cons (qe_ix (qv 0) (qe_int) (fun _ _ => rfl)) (qa_nil))) (qe_int) (nomark _)) (qss_one (qs_set nd rfl (.inl rfl) (qe_op o_mod (qe_callTy c_int rfl h_int bb_int (qa_cons (qe_ix (qe_ix (qv 0) (qe_int) (fun _ _ => rfl)) (qe_op o_mod (qe_callTy c_int rfl h_int bb_int (qa_cons (qe_op o_add (qe_op o_mul (qv 2) (qe_int)) (qe_int)) (qa_nil))) (qe_callB c_len rfl h_len bb_len (qa_cons (qe_ix (qv 0) (qe_int) (fun _ _ => rfl)) (qa_nil)))) (fun _ _ => rfl)) (qa_nil))) (qe_op o_add (qe_op o_pow (qe_int) (qe_int)) (qv 2))))) (qss_nil))))
    (qss_cons (qs_asg (qe_op o_add (qv 2) (qe_int)) (qg_subL (qv 0) (qe_int)))
    (qss_one (qs_asg (qe_fn (G_law_spread.mono (by decide)) hr lt rfl (qa_cons (qv 3) (qa_cons (qv 2) (qa_nil))) (is_cons (is_cons is_nil))) (qg_subL (qv 0) (qe_int)))))))) (qss_nil))
    (qss_cons (qs_set nd rfl (.inl rfl) (qe_op o_mod (qe_callTy c_int rfl h_int bb_int (qa_cons (qe_ix (qv 0) (qe_int) (fun _ _ => rfl)) (qa_nil))) (qv 1)))
    (qss_cons (qs_asg (qe_op o_fdiv (qe_ix (qv 0) (qe_int) (fun _ _ => rfl)) (qv 1)) (qg_subL (qv 0) (qe_int)))
    (qss_one (qs_ret (qv 4)))))
theorem sc_law_x_pick : FnScope ["pen", "some"] ["pen", "some"] (defScope (top 33)) := ⟨rfl, rfl, rfl, by decide +kernel, rfl, by decide +kernel, by decide +kernel⟩
theorem okF_law_x_pick (F : FunD K "_law_x_pick" "_law_x_pick" (defArgs (top 33)) (defBody (top 33)) (defScope (top 33)) [] [] f fd) (h_len : mg "len" = none) (G_law_take : Good gb P w K mg base "_law_take" 2 ["pen", "many"] (dsp [] F_law_take)) : FnG gb P w K mg base 3 f fd ["pen", "some"] (lSp K mg 2 (dsp [] F_law_x_pick)) := by
  refine fn_good (b := fun X => lFS ⟨X, []⟩ f_law_x_pick) F sc_law_x_pick (fpure (T := []) (sp := F_law_x_pick) (t := f_law_x_pick) (k := 2) (N := 2) fp_law_x_pick) fun cdv A outer s H E X hr lt => ?_
  have nd := sc_law_x_pick.nd
  exact fss_one (fs_ret (fe_ix ok_ix (fv 1) (fe_fn (.inl rfl) (G_law_take.mono (by decide)) hr lt rfl (fa_cons (fv 0) (fa_cons (fe_callB ok_len c_len rfl h_len bb_len (fa_cons (fv 1) (fa_nil))) (fa_nil))) (fis_cons (fis_cons fis_nil))) (fun _ _ => rfl)))
theorem sc_law_x_letters : FnScope ["pen", "i", "alphabet", "j", "k"] ["pen"] (defScope (top 34)) := ⟨rfl, rfl, rfl, by decide +kernel, rfl, by decide +kernel, by decide +kernel⟩
theorem okF_law_x_letters (F : FunD K "_law_x_letters" "_law_x_letters" (defArgs (top 34)) (defBody (top 34)) (defScope (top 34)) [] [] f fd) (G_law_x_pick : Good gb P w K mg base "_law_x_pick" 3 ["pen", "some"] (dsp [] F_law_x_pick)) (G_law_take : Good gb P w K mg base "_law_take" 2 ["pen", "many"] (dsp [] F_law_take)) : FnG gb P w K mg base 4 f fd ["pen"] (lSp K mg 1 (dsp [] F_law_x_letters)) := by
  refine fn_good (b := fun X => lFS ⟨X, []⟩ f_law_x_letters) F sc_law_x_letters (fpure (T := []) (sp := F_law_x_letters) (t := f_law_x_letters) (k := 1) (N := 5) fp_law_x_letters) fun cdv A outer s H E X hr lt => ?_
  have nd := sc_law_x_letters.nd
  exact fss_cons (fs_parA2 (as := [.v (fCall F_law_take (faCons (fVar 0) (faCons (fC (.int 24)) (faNil)))), .v (fC (.str "abcdefghijklmnopqrstuvwxyz"))]) (qs_par2 rfl nd rfl rfl (by decide) rfl rfl (qa_cons (fe_fn (.inl rfl) (G_law_take.mono (by decide)) hr lt rfl (fa_cons (fv 0) (fa_cons (fe_int) (fa_nil))) (fis_cons (fis_cons fis_nil))) (qa_cons (fe_str) (qa_argsNil))) rfl))
    (fss_cons (fs_set nd rfl (.inl rfl) (fe_op ok_add o_add (fe_op ok_add o_add (fv 1) (fe_int)) (fe_fn (.inl rfl) (G_law_take.mono (by decide)) hr lt rfl (fa_cons (fv 0) (fa_cons (fe_op ok_sub o_sub (fe_int) (fv 1)) (fa_nil))) (fis_cons (fis_cons fis_nil)))))
    (fss_cons (fs_set nd rfl (.inl rfl) (fe_op ok_add o_add (fe_op ok_add o_add (fv 3) (fe_int)) (fe_fn (.inl rfl) (G_law_take.mono (by decide)) hr lt rfl (fa_cons (fv 0) (fa_cons (fe_op ok_sub o_sub (fe_int) (fv 3)) (fa_nil))) (fis_cons (fis_cons fis_nil)))))
    (fss_one (fs_ret (fe_op ok_add o_add (fe_ix ok_ix (fv 2) (fv 1) (fun _ _ => rfl)) (fe_fn (.inl rfl) (G_law_x_pick.mono (by decide)) hr lt rfl (fa_cons (fv 0) (fa_cons (fe_fz (fn_lst (fa_cons (fe_str) (fa_cons (fe_ix ok_ix (fv 2) (fv 3) (fun _ _ => rfl)) (fa_cons (fe_ix ok_ix (fv 2) (fv 3) (fun _ _ => rfl)) (fa_cons (fe_ix ok_ix (fv 2) (fv 3) (fun _ _ => rfl)) (fa_cons (fe_op ok_add o_add (fe_ix ok_ix (fv 2) (fv 3) (fun _ _ => rfl)) (fe_ix ok_ix (fv 2) (fv 4) (fun _ _ => rfl))) (fa_nil)))))))) (fa_nil))) (fis_cons (fis_cons fis_nil))))))))
theorem sc_law_x_rule : FnScope ["pen", "letters", "most", "many", "states", "state", "row", "letter", "after"] ["pen", "letters", "most"] (defScope (top 35)) := ⟨rfl, rfl, rfl, by decide +kernel, rfl, by decide +kernel, by decide +kernel⟩
theorem bk_law_x_rule_0 : BlkOk ["pen", "letters", "most", "many", "states", "state", "row", "letter", "after"] (defScope (top 35)) { kind := .function, names := [(Str.ofString ".0", .local), (Str.ofString "after", .local)], isGenerator := false, isCoroutine := false, more := [] } [("after", 8)] := ⟨rfl, by decide +kernel, by decide +kernel, by decide +kernel, by decide +kernel⟩
theorem bk_law_x_rule_1 : BlkOk ["pen", "letters", "most", "many", "states", "state", "row", "letter", "after"] (defScope (top 35)) { kind := .function, names := [(Str.ofString ".0", .local), (Str.ofString "letter", .local), (Str.ofString "_law_x_pick", .globalImplicit), (Str.ofString "_law_take", .globalImplicit), (Str.ofString "many", .free), (Str.ofString "pen", .free)], isGenerator := false, isCoroutine := false, more := [] } [("letter", 7)] := ⟨rfl, by decide +kernel, by decide +kernel, by decide +kernel, by decide +kernel⟩
theorem okF_law_x_rule (F : FunD K "_law_x_rule" "_law_x_rule" (defArgs (top 35)) (defBody (top 35)) (defScope (top 35)) [] [] f fd) (h_tuple : mg "tuple" = none) (h_range : mg "range" = none) (h_len : mg "len" = none) (G_law_take : Good gb P w K mg base "_law_take" 2 ["pen", "many"] (dsp [] F_law_take)) (G_law_x_pick : Good gb P w K mg base "_law_x_pick" 3 ["pen", "some"] (dsp [] F_law_x_pick)) : FnG gb P w K mg base 4 f fd ["pen", "letters", "most"] (lSp K mg 3 (dsp [] F_law_x_rule)) := by
  refine fn_good (b := fun X => lFS ⟨X, []⟩ f_law_x_rule) F sc_law_x_rule (fpure (T := []) (sp := F_law_x_rule) (t := f_law_x_rule) (k := 3) (N := 9) fp_law_x_rule) fun cdv A outer s H E X hr lt => ?_
  have nd := sc_law_x_rule.nd
  exact fss_cons (fs_parT (is := [3, 4]) (as := [.v (fOp addF (fC (.int 1)) (fCall F_law_take (faCons (fVar 0) (faCons (fVar 2) (faNil))))), .n (fnLst (faNil))]) (by decide) (qs_asg (qe_tup (qa_cons (fe_op ok_add o_add (fe_int) (fe_fn (.inl rfl) (G_law_take.mono (by decide)) hr lt rfl (fa_cons (fv 0) (fa_cons (fv 2) (fa_nil))) (fis_cons (fis_cons fis_nil)))) (qa_cons (fn_lst (fa_nil)) (qa_argsNil)))) (qg_tup rfl (qgs_cons (qg_name nd rfl (.inr rfl)) (qgs_cons (qg_name nd rfl (.inl rfl)) (qgs_nil))) rfl rfl (dGs_len (dGs_len (dGs_len0) dName_go) dName_go))))
    (fss_cons (fs_for po_bx rfl (fi_r1 (qi_r1 rfl h_range (fv 3))) (fg_name nd rfl (.inl rfl)) (fss_cons (fs_ownLc (qs_setLc rfl nd rfl rfl (sw_true rfl rfl rfl (by decide)) (fi_any (qi_any (fv 1))) bk_law_x_rule_1 (fun _ _ _ _ _ => pg_name nd rfl (.inl rfl) (.inr rfl)) (fun _ _ _ _ _ => fe_fn (.inl rfl) (G_law_x_pick.mono (by decide)) hr lets_no rfl (fa_cons (fv 0) (fa_cons (fe_fz (fn_lst (fa_cons (fe_non) (fa_cons (fe_fn (.inl rfl) (G_law_take.mono (by decide)) hr lets_no rfl (fa_cons (fv 0) (fa_cons (fv 3) (fa_nil))) (fis_cons (fis_cons fis_nil))) (fa_cons (fe_fn (.inl rfl) (G_law_take.mono (by decide)) hr lets_no rfl (fa_cons (fv 0) (fa_cons (fv 3) (fa_nil))) (fis_cons (fis_cons fis_nil))) (fa_nil)))))) (fa_nil))) (fis_cons (fis_cons fis_nil)))))
    (fss_cons (fs_if (ft_cmp ok_in o_notinX (fe_bl) (fe_fz (fn_lcO (qe_lc rfl nd (qi_any (qv 6)) bk_law_x_rule_0 (fun _ _ _ _ _ => pg_name nd rfl (.inl rfl) (.inr rfl)) (fun _ _ _ _ _ => fe_cmp ok_isN o_is (fv 8) fe_non (nomark _))))) (by with_unfolding_all rfl)) (fss_one (fs_asg (fe_fn (.inl rfl) (G_law_take.mono (by decide)) hr lt rfl (fa_cons (fv 0) (fa_cons (fv 3) (fa_nil))) (fis_cons (fis_cons fis_nil))) (fg_subL (qv 6) (fe_fn (.inl rfl) (G_law_take.mono (by decide)) hr lt rfl (fa_cons (fv 0) (fa_cons (fe_callB ok_len c_len rfl h_len bb_len (fa_cons (fv 6) (fa_nil))) (fa_nil))) (fis_cons (fis_cons fis_nil)))))) (fss_nil))
    (fss_one (fs_expr (fe_meth ok_append (qe_methL PySem.F.slot_list_append PySem.F.type_list_append m_append (qv 4) (fa_cons (fe_callTy ok_tuple c_tuple rfl h_tuple bb_tuple (fa_cons (fv 6) (fa_nil))) (fa_nil)))))))))
    (fss_one (fs_ret (fe_tup (fa_cons (fv 1) (fa_cons (fe_callTy ok_tuple c_tuple rfl h_tuple bb_tuple (fa_cons (fv 4) (fa_nil))) (fa_nil)))))))
theorem sc_law_x_path : FnScope ["pen", "rule", "state", "many", "text", "turn", "at", "k"] ["pen", "rule", "state", "many"] (defScope (top 36)) := ⟨rfl, rfl, rfl, by decide +kernel, rfl, by decide +kernel, by decide +kernel⟩
theorem bk_law_x_path_0 : BlkOk ["pen", "rule", "state", "many", "text", "turn", "at", "k"] (defScope (top 36)) { kind := .function, names := [(Str.ofString ".0", .local), (Str.ofString "k", .local), (Str.ofString "rule", .free), (Str.ofString "state", .free)], isGenerator := false, isCoroutine := false, more := [] } [("k", 7)] := ⟨rfl, by decide +kernel, by decide +kernel, by decide +kernel, by decide +kernel⟩
theorem okF_law_x_path (F : FunD K "_law_x_path" "_law_x_path" (defArgs (top 36)) (defBody (top 36)) (defScope (top 36)) [] [] f fd) (h_range : mg "range" = none) (h_len : mg "len" = none) (G_law_x_pick : Good gb P w K mg base "_law_x_pick" 3 ["pen", "some"] (dsp [] F_law_x_pick)) : FnG gb P w K mg base 4 f fd ["pen", "rule", "state", "many"] (lSp K mg 4 (dsp [] F_law_x_path)) := by
  refine fn_good (b := fun X => lFS ⟨X, []⟩ f_law_x_path) F sc_law_x_path (fpure (T := []) (sp := F_law_x_path) (t := f_law_x_path) (k := 4) (N := 8) fp_law_x_path) fun cdv A outer s H E X hr lt => ?_
  have nd := sc_law_x_path.nd
  exact fss_cons (fs_set nd rfl (.inl rfl) (fe_str))
    (fss_cons (fs_for po_bx rfl (fi_r1 (qi_r1 rfl h_range (fv 3))) (fg_name nd rfl (.inl rfl)) (fss_cons (fs_set nd rfl (.inl rfl) (fe_fn (.inl rfl) (G_law_x_pick.mono (by decide)) hr lt rfl (fa_cons (fv 0) (fa_cons (fe_fz (fn_lcI (qe_lcI rfl nd (fi_r1 (qi_r1 rfl h_range (fe_callB ok_len c_len rfl h_len bb_len (fa_cons (fe_ix ok_ix (fv 1) (fe_int) (fun _ _ => rfl)) (fa_nil))))) bk_law_x_path_0 (fun _ _ _ _ _ => pg_name nd rfl (.inl rfl) (.inr rfl)) (fun _ _ _ _ _ => ft_cmp ok_isN o_isn (fe_ix ok_ix (fe_ix ok_ix (fe_ix ok_ix (fv 1) (fe_int) (fun _ _ => rfl)) (fv 2) (fun _ _ => rfl)) (fv 7) (fun _ _ => rfl)) fe_non (nomark _)) (fun _ _ _ _ _ => fv 7)))) (fa_nil))) (fis_cons (fis_cons fis_nil))))
    (fss_one (fs_parT (is := [4, 2]) (as := [.v (fOp addF (fVar 4) (fOp ixF (fOp ixF (fVar 1) (fC (.int 0))) (fVar 6))), .v (fOp ixF (fOp ixF (fOp ixF (fVar 1) (fC (.int 1))) (fVar 2)) (fVar 6))]) (by decide) (qs_asg (qe_tup (qa_cons (fe_op ok_add o_add (fv 4) (fe_ix ok_ix (fe_ix ok_ix (fv 1) (fe_int) (fun _ _ => rfl)) (fv 6) (fun _ _ => rfl))) (qa_cons (fe_ix ok_ix (fe_ix ok_ix (fe_ix ok_ix (fv 1) (fe_int) (fun _ _ => rfl)) (fv 2) (fun _ _ => rfl)) (fv 6) (fun _ _ => rfl)) (qa_argsNil)))) (qg_tup rfl (qgs_cons (qg_name nd rfl (.inl rfl)) (qgs_cons (qg_name nd rfl (.inr rfl)) (qgs_nil))) rfl rfl (dGs_len (dGs_len (dGs_len0) dName_go) dName_go)))))))
    (fss_one (fs_ret (fe_tup (fa_cons (fv 4) (fa_cons (fv 2) (fa_nil)))))))
theorem sc_law_x_row : FnScope ["pen", "rule", "state", "most", "text", "marks", "states", "more", "at"] ["pen", "rule", "state", "most"] (defScope (top 37)) := ⟨rfl, rfl, rfl, by decide +kernel, rfl, by decide +kernel, by decide +kernel⟩
theorem okF_law_x_row (F : FunD K "_law_x_row" "_law_x_row" (defArgs (top 37)) (defBody (top 37)) (defScope (top 37)) [] [] f fd) (h_len : mg "len" = none) (G_law_x_path : Good gb P w K mg base "_law_x_path" 4 ["pen", "rule", "state", "many"] (dsp [] F_law_x_path)) (G_law_take : Good gb P w K mg base "_law_take" 2 ["pen", "many"] (dsp [] F_law_take)) : FnG gb P w K mg base 5 f fd ["pen", "rule", "state", "most"] (lSp K mg 4 (dsp [] F_law_x_row)) := by
  refine fn_good (b := fun X => lFS ⟨X, []⟩ f_law_x_row) F sc_law_x_row (fpure (T := []) (sp := F_law_x_row) (t := f_law_x_row) (k := 4) (N := 9) fp_law_x_row) fun cdv A outer s H E X hr lt => ?_
  have nd := sc_law_x_row.nd
  exact fss_cons (fs_asg (fe_fn (.inl rfl) (G_law_x_path.mono (by decide)) hr lt rfl (fa_cons (fv 0) (fa_cons (fv 1) (fa_cons (fv 2) (fa_cons (fe_fn (.inl rfl) (G_law_take.mono (by decide)) hr lt rfl (fa_cons (fv 0) (fa_cons (fv 3) (fa_nil))) (fis_cons (fis_cons fis_nil))) (fa_nil))))) (fis_cons (fis_cons (fis_cons (fis_cons fis_nil))))) (fg_tup rfl (fgs_cons (fg_name nd rfl (.inl rfl)) (fgs_cons (fg_name nd rfl (.inl rfl)) (fgs_nil))) (fgi_cons (fgi_cons (fgi_nil) fgo_name) fgo_name)))
    (fss_cons (fs_parA2 (as := [.n (fnLst (faNil)), .n (fnLst (faNil))]) (qs_par2 rfl nd rfl rfl (by decide) rfl rfl (qa_cons (fn_lst (fa_nil)) (qa_cons (fn_lst (fa_nil)) (qa_argsNil))) rfl))
    (fss_cons (fs_while po_bx (ft_cmp ok_in o_notinX (fv 2) (fv 6) (by with_unfolding_all rfl)) (fss_cons (fs_expr (fe_meth ok_append (qe_methL PySem.F.slot_list_append PySem.F.type_list_append m_append (qv 5) (fa_cons (fe_callB ok_len c_len rfl h_len bb_len (fa_cons (fv 4) (fa_nil))) (fa_nil)))))
    (fss_cons (fs_expr (fe_meth ok_append (qe_methL PySem.F.slot_list_append PySem.F.type_list_append m_append (qv 6) (fa_cons (fv 2) (fa_nil)))))
    (fss_cons (fs_asg (fe_fn (.inl rfl) (G_law_x_path.mono (by decide)) hr lt rfl (fa_cons (fv 0) (fa_cons (fv 1) (fa_cons (fv 2) (fa_cons (fe_op ok_add o_add (fe_int) (fe_fn (.inl rfl) (G_law_take.mono (by decide)) hr lt rfl (fa_cons (fv 0) (fa_cons (fe_int) (fa_nil))) (fis_cons (fis_cons fis_nil)))) (fa_nil))))) (fis_cons (fis_cons (fis_cons (fis_cons fis_nil))))) (fg_tup rfl (fgs_cons (fg_name nd rfl (.inl rfl)) (fgs_cons (fg_name nd rfl (.inl rfl)) (fgs_nil))) (fgi_cons (fgi_cons (fgi_nil) fgo_name) fgo_name)))
    (fss_one (fs_set nd rfl (.inl rfl) (fe_op ok_add o_add (fv 4) (fv 7))))))))
    (fss_cons (fs_set nd rfl (.inl rfl) (fe_ix ok_ix (fv 5) (fe_mR ok_index (qe_methL PySem.F.slot_list_index PySem.F.type_list_index m_index (fv 6) (qa_cons (fv 2) qa_nil))) (fun _ _ => rfl)))
    (fss_one (fs_ret (fe_tup (fa_cons (fe_slice (fv 4) fo_none (fo_some (fv 8))) (fa_cons (fe_slice (fv 4) (fo_some (fv 8)) fo_none) (fa_nil)))))))))
theorem sc_law_x_behind : FnScope ["rule", "state", "word", "letter"] ["rule", "state", "word"] (defScope (top 38)) := ⟨rfl, rfl, rfl, by decide +kernel, rfl, by decide +kernel, by decide +kernel⟩
theorem okF_law_x_behind (F : FunD K "_law_x_behind" "_law_x_behind" (defArgs (top 38)) (defBody (top 38)) (defScope (top 38)) [] [] f fd)  : FnG gb P w K mg base 1 f fd ["rule", "state", "word"] (lSp K mg 3 (dsp [] F_law_x_behind)) := by
  refine fn_good (b := fun X => lFS ⟨X, []⟩ f_law_x_behind) F sc_law_x_behind (fpure (T := []) (sp := F_law_x_behind) (t := f_law_x_behind) (k := 3) (N := 4) fp_law_x_behind) fun cdv A outer s H E X hr lt => ?_
  have nd := sc_law_x_behind.nd
  exact fss_cons (fs_for po_bx rfl (fi_any (qi_any (fv 2))) (fg_name nd rfl (.inl rfl)) (fss_one (fs_if (ft_cmp ok_isN o_isn (fv 1) fe_non (nomark _)) (fss_one (fs_set nd rfl (.inl rfl) (fe_ix ok_ix (fe_ix ok_ix (fe_ix ok_ix (fv 0) (fe_int) (fun _ _ => rfl)) (fv 1) (fun _ _ => rfl)) (fe_indexS (qe_indexS (fe_ix ok_ix (fv 0) (fe_int) (fun _ _ => rfl)) (fv 3))) (fun _ _ => rfl)))) (fss_nil))))
    (fss_one (fs_ret (fv 1)))
theorem sc_law_x_is_of : FnScope ["rule", "row", "state", "turn"] ["rule", "row"] (defScope (top 39)) := ⟨rfl, rfl, rfl, by decide +kernel, rfl, by decide +kernel, by decide +kernel⟩
theorem okF_law_x_is_of (F : FunD K "_law_x_is_of" "_law_x_is_of" (defArgs (top 39)) (defBody (top 39)) (defScope (top 39)) [] [] f fd) (h_range : mg "range" = none) (G_law_x_behind : Good gb P w K mg base "_law_x_behind" 1 ["rule", "state", "word"] (dsp [] F_law_x_behind)) : FnG gb P w K mg base 2 f fd ["rule", "row"] (lSp K mg 2 (dsp [] F_law_x_is_of)) := by
  refine fn_good (b := fun X => lFS ⟨X, []⟩ f_law_x_is_of) F sc_law_x_is_of (fpure (T := []) (sp := F_law_x_is_of) (t := f_law_x_is_of) (k := 2) (N := 4) fp_law_x_is_of) fun cdv A outer s H E X hr lt => ?_
  have nd := sc_law_x_is_of.nd
  exact fss_cons (fs_set nd rfl (.inl rfl) (fe_fn (.inl rfl) (G_law_x_behind.mono (by decide)) hr lt rfl (fa_cons (fv 0) (fa_cons (fe_int) (fa_cons (fe_ix ok_ix (fv 1) (fe_int) (fun _ _ => rfl)) (fa_nil)))) (fis_cons (fis_cons (fis_cons fis_nil)))))
    (fss_cons (fs_for po_bx rfl (fi_r1 (qi_r1 rfl h_range (fe_int))) (fg_name nd rfl (.inl rfl)) (fss_one (fs_set nd rfl (.inl rfl) (fe_if (ft_cmp ok_isN o_is (fv 2) fe_non (nomark _)) (fe_non) (fe_fn (.inl rfl) (G_law_x_behind.mono (by decide)) hr lt rfl (fa_cons (fv 0) (fa_cons (fv 2) (fa_cons (fe_ix ok_ix (fv 1) (fe_int) (fun _ _ => rfl)) (fa_nil)))) (fis_cons (fis_cons (fis_cons fis_nil))))))))
    (fss_one (fs_ret (fe_cmp ok_isN o_isn (fv 2) fe_non (nomark _)))))
theorem sc_law_x_word : FnScope ["act", "caught", "e", "some", "words"] ["act"] (defScope (top 40)) := ⟨rfl, rfl, rfl, by decide +kernel, rfl, by decide +kernel, by decide +kernel⟩
theorem gv_law_x_word {X : Cx} {q : Str} {k : Nat} {g : Addr} {cdg : Value} (errs : Errs X.K cs32) (gy : ∀ y ∈ cs32, X.mg y = some (.ref (He.ga X.K y))) (h_isinstance : X.mg "isinstance" = none) (h_ValueError : X.mg "ValueError" = none) (hr : Rm gb (k + 1) X.A) : LamX.GivesTo X ["act", "caught", "e", "some", "words"] "_law_x_word" (defScope (top 40)) g cdg (defBody (top 40)) "act" q (TTw X.K cs32 wd_law_x_word) := by
  refine gives_word (tr := b_law_x_word xNo) errs (gy _ (by decide)) sc_law_x_word.nd rfl rfl rfl rfl rfl rfl (by decide) (by decide) (fun s H => ?_) (fun E δ M h1 h2 q => p_word_fine _ E δ M h1 h2 q) (fun E δ M b y h1 h2 h3 h4 q => p_word _ E δ M b y h1 h2 h3 h4 q)
  have nd := sc_law_x_word.nd
  have hr := hr.deeper (envOfC "_law_x_word" (defScope (top 40)) s.heap.objs.size g cdg)
  exact qss_cons (qs_if (qt_cmp o_is (qv 1) qe_non (nomark _)) (qss_one (qs_ret (qe_str))) (qss_nil))
    (qss_cons (qs_set nd rfl (.inl rfl) (qe_lst (qa_cons (qe_isX errs (by decide) (gy _ (by decide)) (qv 1) rfl h_isinstance rfl bb_isinstance) (qa_cons (qe_isX errs (by decide) (gy _ (by decide)) (qv 1) rfl h_isinstance rfl bb_isinstance) (qa_cons (qe_isX errs (by decide) (gy _ (by decide)) (qv 1) rfl h_isinstance rfl bb_isinstance) (qa_nil))))))
    (qss_cons (qs_set nd rfl (.inl rfl) (qe_op o_add (qv 3) (qe_lst (qa_cons (qe_isX errs (by decide) (gy _ (by decide)) (qv 1) rfl h_isinstance rfl bb_isinstance) (qa_cons (qe_isX errs (by decide) (gy _ (by decide)) (qv 1) rfl h_isinstance rfl bb_isinstance) (qa_cons (qe_isX errs (by decide) (gy _ (by decide)) (qv 1) rfl h_isinstance rfl bb_isinstance) (qa_nil)))))))
    (qss_cons (qs_set nd rfl (.inl rfl) (qe_op o_add (qv 3) (qe_lst (qa_cons (qe_isX errs (by decide) (gy _ (by decide)) (qv 1) rfl h_isinstance rfl bb_isinstance) (qa_cons (qe_isX errs (by decide) (gy _ (by decide)) (qv 1) rfl h_isinstance rfl bb_isinstance) (qa_cons (qe_isX errs (by decide) (gy _ (by decide)) (qv 1) rfl h_isinstance rfl bb_isinstance) (qa_nil)))))))
    (qss_cons (qs_set nd rfl (.inl rfl) (qe_op o_add (qv 3) (qe_lst (qa_cons (qe_isX errs (by decide) (gy _ (by decide)) (qv 1) rfl h_isinstance rfl bb_isinstance) (qa_cons (qe_isX errs (by decide) (gy _ (by decide)) (qv 1) rfl h_isinstance rfl bb_isinstance) (qa_cons (qe_isX errs (by decide) (gy _ (by decide)) (qv 1) rfl h_isinstance rfl bb_isinstance) (qa_nil)))))))
    (qss_cons (qs_set nd rfl (.inl rfl) (qe_lst (qa_cons (qe_str) (qa_cons (qe_str) (qa_cons (qe_str) (qa_cons (qe_str) (qa_cons (qe_str) (qa_cons (qe_str) (qa_cons (qe_str) (qa_cons (qe_str) (qa_cons (qe_str) (qa_cons (qe_str) (qa_cons (qe_str) (qa_nil))))))))))))))
    (qss_cons (qs_expr (qe_methL PySem.F.slot_list_append PySem.F.type_list_append m_append (qv 4) (qa_cons (qe_str) (qa_nil))))
    (qss_one (qs_ret (qe_if (PW.pt (qw_and (qt_cmp (o_eq hr.hu) (qe_methL PySem.F.slot_list_count PySem.F.type_list_count m_countB (qv 3) (qa_cons (qe_bl) (qa_nil))) (qe_int) (nomark _)) (qw_and1 (qt_val (qe_isXV errs (qv 1) rfl h_isinstance rfl h_ValueError bb_isinstance bb_ValueError))))) (qe_ix (qv 4) (qe_methL PySem.F.slot_list_index PySem.F.type_list_index m_index (qv 3) (qa_cons (qe_bl) (qa_nil))) (fun _ _ => rfl)) (qe_str))))))))))
theorem sc_law_x_text : FnScope ["pen", "letters", "most", "turn"] ["pen", "letters", "most"] (defScope (top 41)) := ⟨rfl, rfl, rfl, by decide +kernel, rfl, by decide +kernel, by decide +kernel⟩
theorem bk_law_x_text_0 : BlkOk ["pen", "letters", "most", "turn"] (defScope (top 41)) { kind := .function, names := [(Str.ofString ".0", .local), (Str.ofString "turn", .local), (Str.ofString "_law_x_pick", .globalImplicit), (Str.ofString "list", .globalImplicit), (Str.ofString "letters", .free), (Str.ofString "pen", .free)], isGenerator := false, isCoroutine := false, more := [] } [("turn", 3)] := ⟨rfl, by decide +kernel, by decide +kernel, by decide +kernel, by decide +kernel⟩
theorem okF_law_x_text (F : FunD K "_law_x_text" "_law_x_text" (defArgs (top 41)) (defBody (top 41)) (defScope (top 41)) [] [] f fd) (h_range : mg "range" = none) (h_list : mg "list" = none) (G_law_take : Good gb P w K mg base "_law_take" 2 ["pen", "many"] (dsp [] F_law_take)) (G_law_x_pick : Good gb P w K mg base "_law_x_pick" 3 ["pen", "some"] (dsp [] F_law_x_pick)) : FnG gb P w K mg base 4 f fd ["pen", "letters", "most"] (lSp K mg 3 (dsp [] F_law_x_text)) := by
  refine fn_good (b := fun X => lFS ⟨X, []⟩ f_law_x_text) F sc_law_x_text (fpure (T := []) (sp := F_law_x_text) (t := f_law_x_text) (k := 3) (N := 4) fp_law_x_text) fun cdv A outer s H E X hr lt => ?_
  have nd := sc_law_x_text.nd
  exact fss_one (fs_ret (fe_join (qe_join (fe_str) (fe_fz (fn_lc (qe_lc rfl nd (fi_r1 (qi_r1 rfl h_range (fe_fn (.inl rfl) (G_law_take.mono (by decide)) hr lt rfl (fa_cons (fv 0) (fa_cons (fv 2) (fa_nil))) (fis_cons (fis_cons fis_nil))))) bk_law_x_text_0 (fun _ _ _ _ _ => pg_name nd rfl (.inl rfl) (.inr rfl)) (fun _ _ _ _ _ => fe_fn (.inl rfl) (G_law_x_pick.mono (by decide)) hr lets_no rfl (fa_cons (fv 0) (fa_cons (fe_fz (fn_listX (qe_callTy (c_listX rfl) rfl h_list bb_list (fa_cons (fv 1) (fa_nil))))) (fa_nil))) (fis_cons (fis_cons fis_nil)))))))))
theorem sc_law_x_long : FnScope ["pen", "rule", "begin", "again", "most", "word", "loop"] ["pen", "rule"] (defScope (top 42)) := ⟨rfl, rfl, rfl, by decide +kernel, rfl, by decide +kernel, by decide +kernel⟩
theorem okF_law_x_long (F : FunD K "_law_x_long" "_law_x_long" (defArgs (top 42)) (defBody (top 42)) (defScope (top 42)) [] [] f fd) (h_list : mg "list" = none) (h_len : mg "len" = none) (G_law_take : Good gb P w K mg base "_law_take" 2 ["pen", "many"] (dsp [] F_law_take)) (G_law_x_pick : Good gb P w K mg base "_law_x_pick" 3 ["pen", "some"] (dsp [] F_law_x_pick)) (G_law_x_row : Good gb P w K mg base "_law_x_row" 5 ["pen", "rule", "state", "most"] (dsp [] F_law_x_row)) : FnG gb P w K mg base 6 f fd ["pen", "rule"] (lSp K mg 2 (dsp [] F_law_x_long)) := by
  refine fn_good (b := fun X => lFS ⟨X, []⟩ f_law_x_long) F sc_law_x_long (fpure (T := []) (sp := F_law_x_long) (t := f_law_x_long) (k := 2) (N := 7) fp_law_x_long) fun cdv A outer s H E X hr lt => ?_
  have nd := sc_law_x_long.nd
  exact fss_cons (fs_asg (fe_fn (.inl rfl) (G_law_x_row.mono (by decide)) hr lt rfl (fa_cons (fv 0) (fa_cons (fv 1) (fa_cons (fe_int) (fa_cons (fe_int) (fa_nil))))) (fis_cons (fis_cons (fis_cons (fis_cons fis_nil))))) (fg_tup rfl (fgs_cons (fg_name nd rfl (.inl rfl)) (fgs_cons (fg_name nd rfl (.inl rfl)) (fgs_nil))) (fgi_cons (fgi_cons (fgi_nil) fgo_name) fgo_name)))
    (fss_cons (fs_set nd rfl (.inl rfl) (fe_fn (.inl rfl) (G_law_x_pick.mono (by decide)) hr lt rfl (fa_cons (fv 0) (fa_cons (fe_fz (fn_lst (fa_cons (fe_int) (fa_cons (fe_int) (fa_cons (fe_int) (fa_cons (fe_int) (fa_nil))))))) (fa_nil))) (fis_cons (fis_cons fis_nil))))
    (fss_cons (fs_set nd rfl (.inl rfl) (fe_slice (fe_op ok_add o_add (fv 2) (fe_op ok_mulX o_mulX (fv 3) (fv 4))) fo_none (fo_some (fv 4))))
    (fss_cons (fs_set nd rfl (.inl rfl) (fe_op ok_mulX o_mulX (fv 3) (fe_op ok_fdiv o_fdiv (fv 4) (fe_callB ok_len c_len rfl h_len bb_len (fa_cons (fv 3) (fa_nil))))))
    (fss_cons (fs_if (ft_cmp ok_eq (o_eq hr.hu) (fe_fn (.inl rfl) (G_law_take.mono (by decide)) hr lt rfl (fa_cons (fv 0) (fa_cons (fe_int) (fa_nil))) (fis_cons (fis_cons fis_nil))) (fe_int) (nomark _)) (fss_one (fs_set nd rfl (.inl rfl) (fe_op ok_add o_add (fe_slice (fv 5) fo_none (fo_some (fe_un ok_neg o_neg (fe_int)))) (fe_fn (.inl rfl) (G_law_x_pick.mono (by decide)) hr lt rfl (fa_cons (fv 0) (fa_cons (fe_fz (fn_listX (qe_callTy (c_listX rfl) rfl h_list bb_list (fa_cons (fe_ix ok_ix (fv 1) (fe_int) (fun _ _ => rfl)) (fa_nil))))) (fa_nil))) (fis_cons (fis_cons fis_nil)))))) (fss_nil))
    (fss_cons (fs_if (ft_cmp ok_eq (o_eq hr.hu) (fe_fn (.inl rfl) (G_law_take.mono (by decide)) hr lt rfl (fa_cons (fv 0) (fa_cons (fe_int) (fa_nil))) (fis_cons (fis_cons fis_nil))) (fe_int) (nomark _)) (fss_one (fs_set nd rfl (.inl rfl) (fe_op ok_add o_add (fe_slice (fv 6) fo_none (fo_some (fe_un ok_neg o_neg (fe_int)))) (fe_fn (.inl rfl) (G_law_x_pick.mono (by decide)) hr lt rfl (fa_cons (fv 0) (fa_cons (fe_fz (fn_listX (qe_callTy (c_listX rfl) rfl h_list bb_list (fa_cons (fe_ix ok_ix (fv 1) (fe_int) (fun _ _ => rfl)) (fa_nil))))) (fa_nil))) (fis_cons (fis_cons fis_nil)))))) (fss_nil))
    (fss_one (fs_ret (fe_tup (fa_cons (fv 5) (fa_cons (fv 6) (fa_nil)))))))))))
theorem sc_law_x_refused_right : FnScope ["pen", "rule", "letters", "other", "wrong", "some", "bad", "due", "loop", "one", "what", "word", "letter", "k"] ["pen", "rule"] (defScope (top 43)) := ⟨rfl, rfl, rfl, by decide +kernel, rfl, by decide +kernel, by decide +kernel⟩
theorem bk_law_x_refused_right_0 : BlkOk ["pen", "rule", "letters", "other", "wrong", "some", "bad", "due", "loop", "one", "what", "word", "letter", "k"] (defScope (top 43)) { kind := .function, names := [(Str.ofString ".0", .local), (Str.ofString "k", .local), (Str.ofString "_law_take", .globalImplicit), (Str.ofString "pen", .free)], isGenerator := false, isCoroutine := false, more := [] } [("k", 13)] := ⟨rfl, by decide +kernel, by decide +kernel, by decide +kernel, by decide +kernel⟩
theorem bk_law_x_refused_right_1 : BlkOk ["pen", "rule", "letters", "other", "wrong", "some", "bad", "due", "loop", "one", "what", "word", "letter", "k"] (defScope (top 43)) { kind := .function, names := [(Str.ofString ".0", .local), (Str.ofString "letter", .local), (Str.ofString "letters", .free)], isGenerator := false, isCoroutine := false, more := [] } [("letter", 12)] := ⟨rfl, by decide +kernel, by decide +kernel, by decide +kernel, by decide +kernel⟩
theorem ls_law_x_refused_right_0 : LamX.LamS (defScope (top 43)) { kind := .function, names := [(Str.ofString "what", .free), (Str.ofString "free_rule", .globalImplicit)], isGenerator := false, isCoroutine := false, more := [] } := LamX.lamS_by (by decide +kernel)
theorem ls_law_x_refused_right_1 : LamX.LamS (defScope (top 43)) { kind := .function, names := [(Str.ofString "one", .free), (Str.ofString "word", .free), (Str.ofString "is_of", .globalImplicit)], isGenerator := false, isCoroutine := false, more := [] } := LamX.lamS_by (by decide +kernel)
theorem ls_law_x_refused_right_2 : LamX.LamS (defScope (top 43)) { kind := .function, names := [(Str.ofString "loop", .free), (Str.ofString "one", .free), (Str.ofString "word", .free), (Str.ofString "is_of", .globalImplicit)], isGenerator := false, isCoroutine := false, more := [] } := LamX.lamS_by (by decide +kernel)
theorem q_law_x_refused_right : (envOfC "_law_x_refused_right" (defScope (top 43)) 0 0 .none).qual ++ "<lambda>" = ("_law_x_refused_right.<locals>.<lambda>" : Str) := by decide +kernel
theorem okF_law_x_refused_right (F : FunD K "_law_x_refused_right" "_law_x_refused_right" (defArgs (top 43)) (defBody (top 43)) (defScope (top 43)) [] [] (He.fAd K ("_law_x_refused_right", none)) fd) (errs : Errs K cs32) (gy : ∀ y ∈ cs32, mg y = some (.ref (He.ga K y))) (h_isinstance : mg "isinstance" = none) (h_ValueError : mg "ValueError" = none) (h_len : mg "len" = none) (h_range : mg "range" = none) (G_law_x_pick : Good gb P w K mg base "_law_x_pick" 3 ["pen", "some"] (dsp [] F_law_x_pick)) (G_law_take : Good gb P w K mg base "_law_take" 2 ["pen", "many"] (dsp [] F_law_take)) (TB_law_x_refused_right : LamX.TabB base mg (He.cT K ("_law_x_refused_right", none)).1 (He.cT K ("_law_x_refused_right", none)).2) (hd_law_x_refused_right : ∀ t ∈ TB35, (He.cT K t.1).2 = (He.cT K ("_law_x_refused_right", none)).2 → t.2 = "_law_x_refused_right.<locals>.<lambda>") {gw_law_x_word : Addr} {fdw_law_x_word : FuncData} (U_law_x_word : FnP K "_law_x_word" (top 40) gw_law_x_word fdw_law_x_word) (g_law_x_word : mg "_law_x_word" = some (.ref gw_law_x_word)) (G_free_rule : Good false P w K mg base "free_rule" 3 ["letters"] (dsp [] F_free_rule)) (GN_is_of_2 : GoodN false P w K mg base "is_of" 4 ["rule", "word", "ring"] (dsp [] F_is_of) 2 [] (fun vs _ => vs ++ [V.non])) (GN_is_of_2_ring : GoodN false P w K mg base "is_of" 4 ["rule", "word", "ring"] (dsp [] F_is_of) 2 ["ring"] (fun vs ks => vs ++ ks)) : FnG gb P w K mg base 7 (He.fAd K ("_law_x_refused_right", none)) fd ["pen", "rule"] (lSp K mg 2 (dsp TB35 F_law_x_refused_right)) := by
  refine fn_goodC (b := fun X => lFS ⟨X, TB35⟩ f_law_x_refused_right) F sc_law_x_refused_right (fpure (T := TB35) (sp := F_law_x_refused_right) (t := f_law_x_refused_right) (k := 2) (N := 14) fp_law_x_refused_right) fun cdv A outer s H E X hcf hr lt => ?_
  have nd := sc_law_x_refused_right.nd
  exact fss_cons (fs_set nd rfl (.inr rfl) (fe_ix ok_ix (fv 1) (fe_int) (fun _ _ => rfl)))
    (fss_cons (fs_set nd rfl (.inl rfl) (fe_fn (.inl rfl) (G_law_x_pick.mono (by decide)) hr lt rfl (fa_cons (fv 0) (fa_cons (fe_fz (fn_lcI (qe_lcI rfl nd (fi_any (qi_any (fe_str))) bk_law_x_refused_right_1 (fun _ _ _ _ _ => pg_name nd rfl (.inl rfl) (.inr rfl)) (fun _ _ _ _ _ => ft_cmp ok_in o_notinX (fv 12) (fv 2) (by with_unfolding_all rfl)) (fun _ _ _ _ _ => fv 12)))) (fa_nil))) (fis_cons (fis_cons fis_nil))))
    (fss_cons (fs_frzLc (qs_setLc rfl nd rfl rfl (sw_true rfl rfl rfl (by decide)) (fi_r1 (qi_r1 rfl h_range (fe_int))) bk_law_x_refused_right_0 (fun _ _ _ _ _ => pg_name nd rfl (.inl rfl) (.inr rfl)) (fun _ _ _ _ _ => fe_cmp ok_eq (o_eq hr.hu) (fe_fn (.inl rfl) (G_law_take.mono (by decide)) hr lets_no rfl (fa_cons (fv 0) (fa_cons (fe_int) (fa_nil))) (fis_cons (fis_cons fis_nil))) (fe_int) (nomark _))))
    (fss_cons (fs_own nd rfl (.inl rfl) (fn_lst (fa_cons (fe_non) (fa_cons (fv 2) (fa_cons (fe_tup (fa_cons (fv 2) (fa_nil))) (fa_cons (fe_fz (fn_lst (fa_cons (fv 2) (fa_cons (fe_tup (fa_nil)) (fa_nil))))) (fa_cons (fe_tup (fa_cons (fv 2) (fa_cons (fe_tup (fa_nil)) (fa_nil)))) (fa_nil))))))))
    (fss_cons (fs_expr (fe_meth ok_append (qe_methL PySem.F.slot_list_append PySem.F.type_list_append m_append (qv 5) (fa_cons (fe_tup (fa_cons (fv 2) (fa_cons (fe_tup (fa_cons (fe_op ok_mulX o_mulX (fe_tup (fa_cons (fe_non) (fa_nil))) (fe_callB ok_len c_len rfl h_len bb_len (fa_cons (fv 2) (fa_nil)))) (fa_nil))) (fa_nil)))) (fa_nil)))))
    (fss_frz 5 (fss_cons (fs_set nd rfl (.inl rfl) (fe_fn (.inl rfl) (G_law_x_pick.mono (by decide)) hr lt rfl (fa_cons (fv 0) (fa_cons (fv 5) (fa_nil))) (fis_cons (fis_cons fis_nil))))
    (fss_cons (fs_set nd rfl (.inr rfl) (fe_if (ft_val (fe_ix ok_ix (fv 4) (fe_int) (fun _ _ => rfl))) (fv 6) (fv 1)))
    (fss_cons (fs_own nd rfl (.inl rfl) (fn_lst (fa_cons (fe_non) (fa_cons (fv 3) (fa_cons (fe_op ok_add o_add (fv 2) (fv 3)) (fa_cons (fe_tup (fa_cons (fv 2) (fa_nil))) (fa_cons (fe_int) (fa_cons (fe_op ok_add o_add (fe_op ok_add o_add (fe_ix ok_ix (fv 2) (fe_int) (fun _ _ => rfl)) (fv 3)) (fe_ix ok_ix (fv 2) (fe_int) (fun _ _ => rfl))) (fa_nil)))))))))
    (fss_cons (fs_set nd rfl (.inl rfl) (fe_fn (.inl rfl) (G_law_x_pick.mono (by decide)) hr lt rfl (fa_cons (fv 0) (fa_cons (fe_op ok_add o_add (fv 5) (fe_fz (fn_lst (fa_cons (fe_op ok_mulX o_mulX (fe_ix ok_ix (fv 2) (fe_int) (fun _ _ => rfl)) (fe_int)) (fa_nil))))) (fa_nil))) (fis_cons (fis_cons fis_nil))))
    (fss_cons (fs_set nd rfl (.inr rfl) (fe_if (ft_val (fe_ix ok_ix (fv 4) (fe_int) (fun _ _ => rfl))) (fv 6) (fv 2)))
    (fss_cons (fs_own nd rfl (.inl rfl) (fn_lst (fa_cons (fe_str) (fa_cons (fv 3) (fa_cons (fe_int) (fa_cons (fe_bl) (fa_cons (fe_tup (fa_cons (fv 2) (fa_nil))) (fa_cons (fe_op ok_add o_add (fe_op ok_add o_add (fe_ix ok_ix (fv 2) (fe_int) (fun _ _ => rfl)) (fv 3)) (fe_ix ok_ix (fv 2) (fe_int) (fun _ _ => rfl))) (fa_nil)))))))))
    (fss_cons (fs_set nd rfl (.inl rfl) (fe_fn (.inl rfl) (G_law_x_pick.mono (by decide)) hr lt rfl (fa_cons (fv 0) (fa_cons (fe_op ok_add o_add (fv 5) (fe_fz (fn_lst (fa_cons (fe_op ok_mulX o_mulX (fe_ix ok_ix (fv 2) (fe_int) (fun _ _ => rfl)) (fe_int)) (fa_nil))))) (fa_nil))) (fis_cons (fis_cons fis_nil))))
    (fss_cons (fs_set nd rfl (.inr rfl) (fe_if (ft_val (fe_ix ok_ix (fv 4) (fe_int) (fun _ _ => rfl))) (fv 6) (fv 2)))
    (fss_cons (fs_set nd rfl (.inl rfl) (fe_if (ft_val (fe_ix ok_ix (fv 4) (fe_int) (fun _ _ => rfl))) (fe_str) (fe_if (PW.pt (fw_or (ft_val (fe_ix ok_ix (fv 4) (fe_int) (fun _ _ => rfl))) (fw_or1 (ft_val (fe_ix ok_ix (fv 4) (fe_int) (fun _ _ => rfl)))))) (fe_str) (fe_str))))
    (fss_cons (fs_if (ft_cmp ok_ne (o_ne hr.hu) (fe_lamG (show TB35 ≠ [] by decide) (.inl rfl) putU_app (fis_cons (fis_cons fis_nil)) (fis_cons fis_nil) (qe_lamG (k := 4) (T := TB35) (by decide) (by exact hd_law_x_refused_right) U_law_x_word (by rfl) g_law_x_word (U_law_x_word.bindsN fun _ _ _ _ _ _ us hl => match us, hl with | [_], _ => rfl) sc_law_x_word rfl (.inl rfl) (fun cdg => gv_law_x_word errs gy h_isinstance h_ValueError hr) TB_law_x_refused_right (code_ref F hcf) q_law_x_refused_right (hr.mono (by decide)) ls_law_x_refused_right_2 gy GN_is_of_2_ring putD_app (fun _ _ _ _ _ _ _ => rfl) (fun _ _ _ _ _ _ _ => fa_cons (fv 9) (fa_cons (fv 11) (fa_nil))) (fun _ _ _ _ _ _ _ => fk_cons (fv 8) (fk_nil)))) (fv 7) (nomark _)) (fss_one (fs_ret (fe_bl))) (fss_nil))
    (fss_cons (fs_if (ft_cmp ok_ne (o_ne hr.hu) (fe_lamG (show TB35 ≠ [] by decide) (.inl rfl) (putU_dfl (gd := [D.non]) (fun _ => rfl)) (fis_cons (fis_cons fis_nil)) fis_nil (qe_lamG (k := 4) (T := TB35) (by decide) (by exact hd_law_x_refused_right) U_law_x_word (by rfl) g_law_x_word (U_law_x_word.bindsN fun _ _ _ _ _ _ us hl => match us, hl with | [_], _ => rfl) sc_law_x_word rfl (.inl rfl) (fun cdg => gv_law_x_word errs gy h_isinstance h_ValueError hr) TB_law_x_refused_right (code_ref F hcf) q_law_x_refused_right (hr.mono (by decide)) ls_law_x_refused_right_1 gy GN_is_of_2 (putD_dfl (gd := [D.non]) (fun _ _ => by first | exact dens_cons dnon dens_nil | exact dens_cons dint dens_nil | exact dens_cons dstr dens_nil)) (fun _ _ _ _ _ _ _ => rfl) (fun _ _ _ _ _ _ _ => fa_cons (fv 9) (fa_cons (fv 11) (fa_nil))) (fun _ _ _ _ _ _ _ => fk_nil))) (fe_if (ft_val (fe_ix ok_ix (fv 4) (fe_int) (fun _ _ => rfl))) (fe_str) (fe_if (ft_val (fe_ix ok_ix (fv 4) (fe_int) (fun _ _ => rfl))) (fe_str) (fe_str))) (nomark _)) (fss_one (fs_ret (fe_bl))) (fss_nil))
    (fss_cons (fs_own nd rfl (.inl rfl) (fn_lst (fa_cons (fe_non) (fa_cons (fe_str) (fa_cons (fe_str) (fa_cons (fe_str) (fa_cons (fe_str) (fa_cons (fe_str) (fa_cons (fe_tup (fa_cons (fe_str) (fa_nil))) (fa_cons (fe_int) (fa_cons (fe_str) (fa_cons (fe_str) (fa_cons (fe_str) (fa_cons (fe_str) (fa_cons (fe_str) (fa_cons (fe_str) (fa_cons (fe_str) (fa_cons (fe_str) (fa_nil)))))))))))))))))))
    (fss_frz 5 (fss_cons (fs_set nd rfl (.inr rfl) (fe_fn (.inl rfl) (G_law_x_pick.mono (by decide)) hr lt rfl (fa_cons (fv 0) (fa_cons (fv 5) (fa_nil))) (fis_cons (fis_cons fis_nil))))
    (fss_one (fs_ret (fe_cmp ok_eq (o_eq hr.hu) (fe_lamG (show TB35 ≠ [] by decide) (.inl rfl) putU_id (fis_cons fis_nil) fis_nil (qe_lamG (k := 3) (T := TB35) (by decide) (by exact hd_law_x_refused_right) U_law_x_word (by rfl) g_law_x_word (U_law_x_word.bindsN fun _ _ _ _ _ _ us hl => match us, hl with | [_], _ => rfl) sc_law_x_word rfl (.inl rfl) (fun cdg => gv_law_x_word errs gy h_isinstance h_ValueError hr) TB_law_x_refused_right (code_ref F hcf) q_law_x_refused_right (hr.mono (by decide)) ls_law_x_refused_right_0 gy (Good.n G_free_rule) (putD_id) (fun _ _ _ _ _ _ _ => rfl) (fun _ _ _ _ _ _ _ => fa_cons (fv 10) (fa_nil)) (fun _ _ _ _ _ _ _ => fk_nil))) (fe_str) (nomark _)))))))))))))))))))))))
theorem sc_law : FnScope ["script", "pen", "turn", "letters", "rule", "word", "loop", "kept", "due", "circle", "found"] ["script"] (defScope (top 44)) := ⟨rfl, rfl, rfl, by decide +kernel, rfl, by decide +kernel, by decide +kernel⟩
theorem okF_law (F : FunD K "law" "law" (defArgs (top 44)) (defBody (top 44)) (defScope (top 44)) [] [] f fd) (h_range : mg "range" = none) (h_repr : mg "repr" = none) (G_law_open : Good true P w K mg base "_law_open" 1 ["script"] S_law_open) (G_law_x_refused_right : Good true P w K mg base "_law_x_refused_right" 7 ["pen", "rule"] (dsp TB35 F_law_x_refused_right)) (G_law_x_is_of : Good true P w K mg base "_law_x_is_of" 2 ["rule", "row"] (dsp [] F_law_x_is_of)) (G_law_x_behind : Good true P w K mg base "_law_x_behind" 1 ["rule", "state", "word"] (dsp [] F_law_x_behind)) (G_law_take : Good true P w K mg base "_law_take" 2 ["pen", "many"] (dsp [] F_law_take)) (G_law_x_long : Good true P w K mg base "_law_x_long" 6 ["pen", "rule"] (dsp [] F_law_x_long)) (G_law_x_row : Good true P w K mg base "_law_x_row" 5 ["pen", "rule", "state", "most"] (dsp [] F_law_x_row)) (G_law_x_text : Good true P w K mg base "_law_x_text" 4 ["pen", "letters", "most"] (dsp [] F_law_x_text)) (G_law_x_rule : Good true P w K mg base "_law_x_rule" 4 ["pen", "letters", "most"] (dsp [] F_law_x_rule)) (G_law_x_letters : Good true P w K mg base "_law_x_letters" 4 ["pen"] (dsp [] F_law_x_letters)) (GN_is_of_2_ring : GoodN true P w K mg base "is_of" 4 ["rule", "word", "ring"] (dsp [] F_is_of) 2 ["ring"] (fun vs ks => vs ++ ks)) (GN_is_of_2 : GoodN true P w K mg base "is_of" 4 ["rule", "word", "ring"] (dsp [] F_is_of) 2 [] (fun vs _ => vs ++ [V.non])) : FnG true P w K mg base 8 f fd ["script"] (lSp K mg 1 (S_lawF TB35)) := by
  refine fn_good (b := lawB TB35 f_law) F sc_law fp_law fun cdv A outer s H E X hr lt => ?_
  have nd := sc_law.nd
  exact qss_cons (qs_set nd rfl (.inl rfl) (qe_fn (G_law_open.mono (by decide)) hr lt rfl (qa_cons (qv 0) qa_nil) (is_cons is_nil))) (fss_cons (fs_for po_bx rfl (fi_r1 (qi_r1 rfl h_range (fe_int))) (fg_name nd rfl (.inl rfl)) (fss_cons (fs_set nd rfl (.inl rfl) (fe_fn (.inl rfl) (G_law_x_letters.mono (by decide)) hr lt rfl (fa_cons (fv 1) (fa_nil)) (fis_cons fis_nil)))
    (fss_cons (fs_set nd rfl (.inl rfl) (fe_fn (.inl rfl) (G_law_x_rule.mono (by decide)) hr lt rfl (fa_cons (fv 1) (fa_cons (fv 3) (fa_cons (fe_int) (fa_nil)))) (fis_cons (fis_cons (fis_cons fis_nil)))))
    (fss_cons (fs_parA2 (as := [.v (fCall F_law_x_text (faCons (fVar 1) (faCons (fVar 3) (faCons (fC (.int 6)) (faNil))))), .v (fCall F_law_x_text (faCons (fVar 1) (faCons (fVar 3) (faCons (fC (.int 4)) (faNil)))))]) (qs_par2 rfl nd rfl rfl (by decide) rfl rfl (qa_cons (fe_fn (.inl rfl) (G_law_x_text.mono (by decide)) hr lt rfl (fa_cons (fv 1) (fa_cons (fv 3) (fa_cons (fe_int) (fa_nil)))) (fis_cons (fis_cons (fis_cons fis_nil)))) (qa_cons (fe_fn (.inl rfl) (G_law_x_text.mono (by decide)) hr lt rfl (fa_cons (fv 1) (fa_cons (fv 3) (fa_cons (fe_int) (fa_nil)))) (fis_cons (fis_cons (fis_cons fis_nil)))) (qa_argsNil))) rfl))
    (fss_cons (fs_if (ft_cmp ok_eq (o_eq hr.hu) (fe_fn (.inl rfl) (G_law_take.mono (by decide)) hr lt rfl (fa_cons (fv 1) (fa_cons (fe_int) (fa_nil))) (fis_cons (fis_cons fis_nil))) (fe_int) (nomark _)) (fss_one (fs_asg (fe_fn (.inl rfl) (G_law_x_row.mono (by decide)) hr lt rfl (fa_cons (fv 1) (fa_cons (fv 4) (fa_cons (fe_int) (fa_cons (fe_int) (fa_nil))))) (fis_cons (fis_cons (fis_cons (fis_cons fis_nil))))) (fg_tup rfl (fgs_cons (fg_name nd rfl (.inl rfl)) (fgs_cons (fg_name nd rfl (.inl rfl)) (fgs_nil))) (fgi_cons (fgi_cons (fgi_nil) fgo_name) fgo_name)))) (fss_nil))
    (fss_cons (fs_if (ft_cmp ok_eq (o_eq hr.hu) (fe_fn (.inl rfl) (G_law_take.mono (by decide)) hr lt rfl (fa_cons (fv 1) (fa_cons (fe_int) (fa_nil))) (fis_cons (fis_cons fis_nil))) (fe_int) (nomark _)) (fss_one (fs_asg (fe_fn (.inl rfl) (G_law_x_long.mono (by decide)) hr lt rfl (fa_cons (fv 1) (fa_cons (fv 4) (fa_nil))) (fis_cons (fis_cons fis_nil))) (fg_tup rfl (fgs_cons (fg_name nd rfl (.inl rfl)) (fgs_cons (fg_name nd rfl (.inl rfl)) (fgs_nil))) (fgi_cons (fgi_cons (fgi_nil) fgo_name) fgo_name)))) (fss_nil))
    (fss_cons (fs_set nd rfl (.inl rfl) (fe_callB ok_repr (c_repr hr) rfl h_repr bb_repr (fa_cons (fe_tup (fa_cons (fv 4) (fa_cons (fv 5) (fa_cons (fv 6) (fa_nil))))) (fa_nil))))
    (fss_cons (fs_set nd rfl (.inl rfl) (fe_cmp ok_isN o_isn (fe_fn (.inl rfl) (G_law_x_behind.mono (by decide)) hr lt rfl (fa_cons (fv 4) (fa_cons (fe_int) (fa_cons (fv 5) (fa_nil)))) (fis_cons (fis_cons (fis_cons fis_nil)))) fe_non (nomark _)))
    (fss_cons (fs_if (ft_cmp ok_ne (o_ne hr.hu) (fe_callB ok_repr (c_repr hr) rfl h_repr bb_repr (fa_cons (fe_fz (fn_lst (fa_cons (fe_callN (.inl rfl) (putU_dfl (gd := [D.non]) (fun _ => rfl)) (fis_cons (fis_cons fis_nil)) fis_nil (qe_callN (GN_is_of_2.mono (by decide)) (putD_dfl (gd := [D.non]) (fun _ _ => by first | exact dens_cons dnon dens_nil | exact dens_cons dint dens_nil | exact dens_cons dstr dens_nil)) hr lt (by rfl) (fa_cons (fv 4) (fa_cons (fv 5) (fa_nil))) (fk_nil))) (fa_cons (fe_callN (.inl rfl) putU_app (fis_cons (fis_cons fis_nil)) (fis_cons fis_nil) (qe_callN (GN_is_of_2_ring.mono (by decide)) putD_app hr lt (by rfl) (fa_cons (fv 4) (fa_cons (fv 5) (fa_nil))) (fk_cons (fe_non) (fk_nil)))) (fa_nil))))) (fa_nil))) (fe_callB ok_repr (c_repr hr) rfl h_repr bb_repr (fa_cons (fe_fz (fn_lst (fa_cons (fv 8) (fa_cons (fv 8) (fa_nil))))) (fa_nil))) (nomark _)) (fss_one (fs_ret (fe_bl))) (fss_nil))
    (fss_cons (fs_set nd rfl (.inl rfl) (fe_if (ft_cmp ok_eq (o_eq hr.hu) (fv 6) (fe_str) (nomark _)) (fv 3) (fv 6)))
    (fss_cons (fs_set nd rfl (.inl rfl) (fe_callN (.inl rfl) putU_app (fis_cons (fis_cons fis_nil)) (fis_cons fis_nil) (qe_callN (GN_is_of_2_ring.mono (by decide)) putD_app hr lt (by rfl) (fa_cons (fv 4) (fa_cons (fv 5) (fa_nil))) (fk_cons (fv 9) (fk_nil)))))
    (fss_cons (fs_if (ft_cmp ok_ne (o_ne hr.hu) (fe_callB ok_repr (c_repr hr) rfl h_repr bb_repr (fa_cons (fv 10) (fa_nil))) (fe_callB ok_repr (c_repr hr) rfl h_repr bb_repr (fa_cons (fe_fn (.inl rfl) (G_law_x_is_of.mono (by decide)) hr lt rfl (fa_cons (fv 4) (fa_cons (fe_tup (fa_cons (fv 5) (fa_cons (fv 9) (fa_nil)))) (fa_nil))) (fis_cons (fis_cons fis_nil))) (fa_nil))) (nomark _)) (fss_one (fs_ret (fe_bl))) (fss_nil))
    (fss_cons (fs_if (ft_cmp ok_ne (o_ne hr.hu) (fe_callB ok_repr (c_repr hr) rfl h_repr bb_repr (fa_cons (fe_callN (.inl rfl) putU_app (fis_cons (fis_cons fis_nil)) (fis_cons fis_nil) (qe_callN (GN_is_of_2_ring.mono (by decide)) putD_app hr lt (by rfl) (fa_cons (fv 4) (fa_cons (fv 5) (fa_nil))) (fk_cons (fv 3) (fk_nil)))) (fa_nil))) (fe_callB ok_repr (c_repr hr) rfl h_repr bb_repr (fa_cons (fe_fn (.inl rfl) (G_law_x_is_of.mono (by decide)) hr lt rfl (fa_cons (fv 4) (fa_cons (fe_tup (fa_cons (fv 5) (fa_cons (fv 3) (fa_nil)))) (fa_nil))) (fis_cons (fis_cons fis_nil))) (fa_nil))) (nomark _)) (fss_one (fs_ret (fe_bl))) (fss_nil))
    (fss_one (fs_if (PW.pt (fw_or (ft_cmp ok_ne (o_ne hr.hu) (fe_callB ok_repr (c_repr hr) rfl h_repr bb_repr (fa_cons (fe_tup (fa_cons (fv 4) (fa_cons (fv 5) (fa_cons (fv 6) (fa_nil))))) (fa_nil))) (fv 7) (nomark _)) (fw_or1 (ft_not (ft_val (fe_fn (.inr rfl) (G_law_x_refused_right.mono (by decide)) hr lt rfl (fa_cons (fv 1) (fa_cons (fv 4) (fa_nil))) (fis_cons (fis_cons fis_nil)))))))) (fss_one (fs_ret (fe_bl))) (fss_nil))))))))))))))))
    (fss_one (fs_ret (fe_bl))))
end
theorem kwchain_nil {α : Type} {D : Addr} {t : Sem α} {r : α} (h : t = pure r) : KwChain D [] t r := h
def dd (x : Str) (i : Nat) (kw : List (Str × He.Dv)) : He.DefD := ⟨(x, none), x, x, defArgs (top i), defBody (top i), defScope (top i), [], kw⟩
def fn : List He.DefD := [dd "is_integer" 15 [], dd "is_within" 21 [], dd "are_letters" 22 [], dd "need_letters" 23 [], dd "is_rule" 24 [], dd "free_rule" 25 [], dd "is_side" 26 [], dd "rule_after" 27 [], dd "is_of" 28 [("ring", He.Dv.non)], dd "_law_spread" 30 [], dd "_law_open" 31 [], dd "_law_take" 32 [], dd "_law_x_pick" 33 [], dd "_law_x_letters" 34 [], dd "_law_x_rule" 35 [], dd "_law_x_path" 36 [], dd "_law_x_row" 37 [], dd "_law_x_behind" 38 [], dd "_law_x_is_of" 39 [], dd "_law_x_word" 40 [], dd "_law_x_text" 41 [], dd "_law_x_long" 42 [], dd "_law_x_refused_right" 43 [], dd "law" 44 []]
def fa : List He.Fa := [.glo "is_integer", .glo "is_within", .glo "are_letters", .glo "need_letters", .glo "is_rule", .glo "free_rule", .glo "is_side", .glo "rule_after", .glo "is_of", .glo "_law_spread", .glo "_law_open", .glo "_law_take", .glo "_law_x_pick", .glo "_law_x_letters", .glo "_law_x_rule", .glo "_law_x_path", .glo "_law_x_row", .glo "_law_x_behind", .glo "_law_x_is_of", .glo "_law_x_word", .glo "_law_x_text", .glo "_law_x_long", .glo "_law_x_refused_right", .glo "law", .glo "LaterError", .glo "NoMachine", .glo "NoPlain", .glo "NoLetters", .glo "NoRule", .glo "NoRow", .glo "NoWord", .glo "NoNumber", .glo "NoDivisor", .glo "NoMatch", .glo "NoLimit", .glo "HasRow", .glo "TooGreat", .free "isinstance", .free "int", .free "bool", .free "list", .free "sorted", .free "set", .free "all", .free "str", .free "len", .free "tuple", .free "range", .free "enumerate", .free "ValueError", .free "repr", .exc "NoLetters", .exc "NoWord", .exc "NoRule", .str "ALPHABET" "abcdefghijklmnopqrstuvwxyz", .int "MOST_LETTERS" 3, .int "MOST_STATES" 4, .int "MOST_ROW" 1500]
abbrev R : PySem.W.OpenRow := PySem.W.OpenLaw.row PySem.Challenge.rw_laterless_k35_words_of_rules
abbrev hk : PySem.W.Hook := He.hookX 4 fa fn [] [("_law_x_refused_right", none)] (errsT cs32 TB35)
def ob (s : PySem.W.SharedT) : He.AlX := He.obsX 4 fa fn [] [("_law_x_refused_right", none)] (errsT cs32 TB35) (HandSHeadRun.getT s)
theorem ob_eq (s : PySem.W.SharedT) : ob s = hk.obs s.abs := He.obsX_eq (HandSHeadRun.getT_eq s)
theorem run (w : World) : HandSHeadRun.RunEq R (PySem.W.view R.prog [44]) hk ob 20000 ("LaterError" :: "NoMachine" :: "NoPlain" :: "NoLetters" :: "NoRule" :: "NoRow" :: "NoWord" :: "NoNumber" :: "NoDivisor" :: "NoMatch" :: "NoLimit" :: "HasRow" :: "TooGreat" :: "is_integer" :: "is_within" :: "are_letters" :: "need_letters" :: "is_rule" :: "free_rule" :: "is_side" :: "rule_after" :: "is_of" :: "_law_spread" :: "_law_open" :: "_law_take" :: "_law_x_pick" :: "_law_x_letters" :: "_law_x_rule" :: "_law_x_path" :: "_law_x_row" :: "_law_x_behind" :: "_law_x_is_of" :: "_law_x_word" :: "_law_x_text" :: "_law_x_long" :: "_law_x_refused_right" :: "ALPHABET" :: "MOST_LETTERS" :: "MOST_STATES" :: "MOST_ROW" :: ([] : List PySem.Str)) w := by
  intro os
  kernel_rfl
theorem facts {P : Program} {w : World} {K : PySem.W.Frag} {h : Heap} {mg : Str → Option Value} {f : Addr} (X : K.In h) (G : h.Ns mainGlobals mg) (hfa : mg ("law" : Str) = some (.ref f)) (c0 : He.SaysX fa fn [] [("_law_x_refused_right", none)] (errsT cs32 TB35) w h K) :
    ∃ fd : FuncData, (∀ (s : Shared) (v : Value), BindsTo s fd ⟨[v], []⟩ [("script", v)]) ∧ ∀ base : Heap, K.In base → base.Ns mainGlobals mg → (∀ t ∈ TB35, LamX.TabB base mg (He.cT K t.1).1 (He.cT K t.1).2) → FnG true P w K mg base 8 f fd ["script"] (lSp K mg 1 (S_lawF TB35)) := by
  have c := c0.t.d
  obtain ⟨errs, ndT⟩ := errsT_ok c0.more
  have g_is_integer := He.glo_ok X G (c.fact 0 (f := .glo "is_integer") rfl)
  have g_is_within := He.glo_ok X G (c.fact 1 (f := .glo "is_within") rfl)
  have g_are_letters := He.glo_ok X G (c.fact 2 (f := .glo "are_letters") rfl)
  have g_need_letters := He.glo_ok X G (c.fact 3 (f := .glo "need_letters") rfl)
  have g_is_rule := He.glo_ok X G (c.fact 4 (f := .glo "is_rule") rfl)
  have g_free_rule := He.glo_ok X G (c.fact 5 (f := .glo "free_rule") rfl)
  have g_is_side := He.glo_ok X G (c.fact 6 (f := .glo "is_side") rfl)
  have g_rule_after := He.glo_ok X G (c.fact 7 (f := .glo "rule_after") rfl)
  have g_is_of := He.glo_ok X G (c.fact 8 (f := .glo "is_of") rfl)
  have g_law_spread := He.glo_ok X G (c.fact 9 (f := .glo "_law_spread") rfl)
  have g_law_open := He.glo_ok X G (c.fact 10 (f := .glo "_law_open") rfl)
  have g_law_take := He.glo_ok X G (c.fact 11 (f := .glo "_law_take") rfl)
  have g_law_x_pick := He.glo_ok X G (c.fact 12 (f := .glo "_law_x_pick") rfl)
  have g_law_x_letters := He.glo_ok X G (c.fact 13 (f := .glo "_law_x_letters") rfl)
  have g_law_x_rule := He.glo_ok X G (c.fact 14 (f := .glo "_law_x_rule") rfl)
  have g_law_x_path := He.glo_ok X G (c.fact 15 (f := .glo "_law_x_path") rfl)
  have g_law_x_row := He.glo_ok X G (c.fact 16 (f := .glo "_law_x_row") rfl)
  have g_law_x_behind := He.glo_ok X G (c.fact 17 (f := .glo "_law_x_behind") rfl)
  have g_law_x_is_of := He.glo_ok X G (c.fact 18 (f := .glo "_law_x_is_of") rfl)
  have g_law_x_word := He.glo_ok X G (c.fact 19 (f := .glo "_law_x_word") rfl)
  have g_law_x_text := He.glo_ok X G (c.fact 20 (f := .glo "_law_x_text") rfl)
  have g_law_x_long := He.glo_ok X G (c.fact 21 (f := .glo "_law_x_long") rfl)
  have g_law_x_refused_right := He.glo_ok X G (c.fact 22 (f := .glo "_law_x_refused_right") rfl)
  have g_law := He.glo_ok X G (c.fact 23 (f := .glo "law") rfl)
  have g_LaterError := He.glo_ok X G (c.fact 24 (f := .glo "LaterError") rfl)
  have g_NoMachine := He.glo_ok X G (c.fact 25 (f := .glo "NoMachine") rfl)
  have g_NoPlain := He.glo_ok X G (c.fact 26 (f := .glo "NoPlain") rfl)
  have g_NoLetters := He.glo_ok X G (c.fact 27 (f := .glo "NoLetters") rfl)
  have g_NoRule := He.glo_ok X G (c.fact 28 (f := .glo "NoRule") rfl)
  have g_NoRow := He.glo_ok X G (c.fact 29 (f := .glo "NoRow") rfl)
  have g_NoWord := He.glo_ok X G (c.fact 30 (f := .glo "NoWord") rfl)
  have g_NoNumber := He.glo_ok X G (c.fact 31 (f := .glo "NoNumber") rfl)
  have g_NoDivisor := He.glo_ok X G (c.fact 32 (f := .glo "NoDivisor") rfl)
  have g_NoMatch := He.glo_ok X G (c.fact 33 (f := .glo "NoMatch") rfl)
  have g_NoLimit := He.glo_ok X G (c.fact 34 (f := .glo "NoLimit") rfl)
  have g_HasRow := He.glo_ok X G (c.fact 35 (f := .glo "HasRow") rfl)
  have g_TooGreat := He.glo_ok X G (c.fact 36 (f := .glo "TooGreat") rfl)
  have h_isinstance := He.free_ok X G (c.fact 37 (f := .free "isinstance") rfl)
  have h_int := He.free_ok X G (c.fact 38 (f := .free "int") rfl)
  have h_bool := He.free_ok X G (c.fact 39 (f := .free "bool") rfl)
  have h_list := He.free_ok X G (c.fact 40 (f := .free "list") rfl)
  have h_sorted := He.free_ok X G (c.fact 41 (f := .free "sorted") rfl)
  have h_set := He.free_ok X G (c.fact 42 (f := .free "set") rfl)
  have h_all := He.free_ok X G (c.fact 43 (f := .free "all") rfl)
  have h_str := He.free_ok X G (c.fact 44 (f := .free "str") rfl)
  have h_len := He.free_ok X G (c.fact 45 (f := .free "len") rfl)
  have h_tuple := He.free_ok X G (c.fact 46 (f := .free "tuple") rfl)
  have h_range := He.free_ok X G (c.fact 47 (f := .free "range") rfl)
  have h_enumerate := He.free_ok X G (c.fact 48 (f := .free "enumerate") rfl)
  have h_ValueError := He.free_ok X G (c.fact 49 (f := .free "ValueError") rfl)
  have h_repr := He.free_ok X G (c.fact 50 (f := .free "repr") rfl)
  have c_ALPHABET := He.str_ok X G (c.fact 54 (f := .str "ALPHABET" "abcdefghijklmnopqrstuvwxyz") rfl)
  have c_MOST_LETTERS := He.int_ok X G (c.fact 55 (f := .int "MOST_LETTERS" 3) rfl)
  have c_MOST_STATES := He.int_ok X G (c.fact 56 (f := .int "MOST_STATES" 4) rfl)
  have c_MOST_ROW := He.int_ok X G (c.fact 57 (f := .int "MOST_ROW" 1500) rfl)
  have eg_NoLetters : ErrG K mg "NoLetters" := ⟨g_NoLetters, He.exc_ok (c.fact 51 (f := .exc "NoLetters") rfl)⟩
  have ex_NoLetters : ErrC K mg "NoLetters" := eg_NoLetters.c
  have eg_NoWord : ErrG K mg "NoWord" := ⟨g_NoWord, He.exc_ok (c.fact 52 (f := .exc "NoWord") rfl)⟩
  have ex_NoWord : ErrC K mg "NoWord" := eg_NoWord.c
  have eg_NoRule : ErrG K mg "NoRule" := ⟨g_NoRule, He.exc_ok (c.fact 53 (f := .exc "NoRule") rfl)⟩
  have ex_NoRule : ErrC K mg "NoRule" := eg_NoRule.c
  have gy : ∀ y ∈ cs32, mg y = some (.ref (He.ga K y)) := by
    intro y hy
    simp only [cs32, List.mem_cons, List.not_mem_nil, or_false] at hy
    rcases hy with rfl | rfl | rfl | rfl | rfl | rfl | rfl | rfl | rfl | rfl | rfl | rfl | rfl <;> assumption
  obtain ⟨fd_is_integer, U_is_integer⟩ := c.def_ 0 (d := dd "is_integer" 15 []) rfl
  obtain ⟨fd_is_within, U_is_within⟩ := c.def_ 1 (d := dd "is_within" 21 []) rfl
  obtain ⟨fd_are_letters, U_are_letters⟩ := c.def_ 2 (d := dd "are_letters" 22 []) rfl
  obtain ⟨fd_need_letters, U_need_letters⟩ := c.def_ 3 (d := dd "need_letters" 23 []) rfl
  obtain ⟨fd_is_rule, U_is_rule⟩ := c.def_ 4 (d := dd "is_rule" 24 []) rfl
  obtain ⟨fd_free_rule, U_free_rule⟩ := c.def_ 5 (d := dd "free_rule" 25 []) rfl
  obtain ⟨fd_is_side, U_is_side⟩ := c.def_ 6 (d := dd "is_side" 26 []) rfl
  obtain ⟨fd_rule_after, U_rule_after⟩ := c.def_ 7 (d := dd "rule_after" 27 []) rfl
  obtain ⟨fd_is_of, U_is_of⟩ := c.def_ 8 (d := dd "is_of" 28 [("ring", He.Dv.non)]) rfl
  obtain ⟨fd_law_spread, U_law_spread⟩ := c.def_ 9 (d := dd "_law_spread" 30 []) rfl
  obtain ⟨fd_law_open, U_law_open⟩ := c.def_ 10 (d := dd "_law_open" 31 []) rfl
  obtain ⟨fd_law_take, U_law_take⟩ := c.def_ 11 (d := dd "_law_take" 32 []) rfl
  obtain ⟨fd_law_x_pick, U_law_x_pick⟩ := c.def_ 12 (d := dd "_law_x_pick" 33 []) rfl
  obtain ⟨fd_law_x_letters, U_law_x_letters⟩ := c.def_ 13 (d := dd "_law_x_letters" 34 []) rfl
  obtain ⟨fd_law_x_rule, U_law_x_rule⟩ := c.def_ 14 (d := dd "_law_x_rule" 35 []) rfl
  obtain ⟨fd_law_x_path, U_law_x_path⟩ := c.def_ 15 (d := dd "_law_x_path" 36 []) rfl
  obtain ⟨fd_law_x_row, U_law_x_row⟩ := c.def_ 16 (d := dd "_law_x_row" 37 []) rfl
  obtain ⟨fd_law_x_behind, U_law_x_behind⟩ := c.def_ 17 (d := dd "_law_x_behind" 38 []) rfl
  obtain ⟨fd_law_x_is_of, U_law_x_is_of⟩ := c.def_ 18 (d := dd "_law_x_is_of" 39 []) rfl
  obtain ⟨fd_law_x_word, U_law_x_word⟩ := c.def_ 19 (d := dd "_law_x_word" 40 []) rfl
  obtain ⟨fd_law_x_text, U_law_x_text⟩ := c.def_ 20 (d := dd "_law_x_text" 41 []) rfl
  obtain ⟨fd_law_x_long, U_law_x_long⟩ := c.def_ 21 (d := dd "_law_x_long" 42 []) rfl
  obtain ⟨fd_law_x_refused_right, U_law_x_refused_right⟩ := c.def_ 22 (d := dd "_law_x_refused_right" 43 []) rfl
  obtain ⟨fd_law, U_law⟩ := c.def_ 23 (d := dd "law" 44 []) rfl
  have e := hfa.symm.trans g_law
  cases e
  have b := FunD.bindsA (ps := ["script"]) U_law fun _ _ _ _ _ _ us hl => match us, hl with | [_], _ => rfl
  refine ⟨fd_law, fun s v => b s [v] rfl, fun base _ _ tabs => ?_⟩
  have TB_law_x_refused_right := tabs (("_law_x_refused_right", none), "_law_x_refused_right.<locals>.<lambda>") (by decide)
  have hd_law_x_refused_right := hdist_of ndT (d := ("_law_x_refused_right", none)) (q := "_law_x_refused_right.<locals>.<lambda>") (by decide)
  have G_law_open : ∀ gb, Good gb P w K mg base "_law_open" 1 ["script"] S_law_open := fun gb => ok_law_open U_law_open g_law_open h_enumerate h_int h_list
  have GD_law_spread : ∀ gb, Good gb P w K mg base "_law_spread" 1 ["cell", "at"] S_law_spread := fun gb => ok_law_spread U_law_spread g_law_spread h_int
  have GD_law_take : ∀ gb, Good gb P w K mg base "_law_take" 2 ["pen", "many"] S_law_take := fun gb => ok_law_take U_law_take g_law_take h_int h_len (GD_law_spread gb)
  have G_law_take : ∀ gb, Good gb P w K mg base "_law_take" 2 ["pen", "many"] (dsp [] F_law_take) := fun gb => (GD_law_take gb).imp c_law_take
  have H_law_x_pick : ∀ gb, FnG gb P w K mg base 3 _ fd_law_x_pick ["pen", "some"] (lSp K mg 2 (dsp [] F_law_x_pick)) := fun gb => okF_law_x_pick U_law_x_pick h_len (G_law_take gb)
  have G_law_x_pick : ∀ gb, Good gb P w K mg base "_law_x_pick" 3 ["pen", "some"] (dsp [] F_law_x_pick) := fun gb => ⟨_, _, g_law_x_pick, U_law_x_pick.kp, U_law_x_pick.bindsN fun _ _ _ _ _ _ us hl => match us, hl with | [_, _], _ => rfl, H_law_x_pick gb⟩
  have H_are_letters : ∀ gb, FnG gb P w K mg base 1 _ fd_are_letters ["thing"] (lSp K mg 1 (dsp [] F_are_letters)) := fun gb => okF_are_letters U_are_letters c_ALPHABET c_MOST_LETTERS h_list h_sorted h_set h_all h_isinstance h_str h_len
  have G_are_letters : ∀ gb, Good gb P w K mg base "are_letters" 1 ["thing"] (dsp [] F_are_letters) := fun gb => ⟨_, _, g_are_letters, U_are_letters.kp, U_are_letters.bindsN fun _ _ _ _ _ _ us hl => match us, hl with | [_], _ => rfl, H_are_letters gb⟩
  have H_need_letters : ∀ gb, FnG gb P w K mg base 2 _ fd_need_letters ["thing"] (lSp K mg 1 (dsp [] F_need_letters)) := fun gb => okF_need_letters U_need_letters ex_NoLetters (G_are_letters gb)
  have G_need_letters : ∀ gb, Good gb P w K mg base "need_letters" 2 ["thing"] (dsp [] F_need_letters) := fun gb => ⟨_, _, g_need_letters, U_need_letters.kp, U_need_letters.bindsN fun _ _ _ _ _ _ us hl => match us, hl with | [_], _ => rfl, H_need_letters gb⟩
  have H_free_rule : ∀ gb, FnG gb P w K mg base 3 _ fd_free_rule ["letters"] (lSp K mg 1 (dsp [] F_free_rule)) := fun gb => okF_free_rule U_free_rule h_tuple (G_need_letters gb)
  have G_free_rule : ∀ gb, Good gb P w K mg base "free_rule" 3 ["letters"] (dsp [] F_free_rule) := fun gb => ⟨_, _, g_free_rule, U_free_rule.kp, U_free_rule.bindsN fun _ _ _ _ _ _ us hl => match us, hl with | [_], _ => rfl, H_free_rule gb⟩
  have H_rule_after : ∀ gb, FnG gb P w K mg base 1 _ fd_rule_after ["rule", "state", "word"] (lSp K mg 3 (dsp [] F_rule_after)) := fun gb => okF_rule_after U_rule_after 
  have G_rule_after : ∀ gb, Good gb P w K mg base "rule_after" 1 ["rule", "state", "word"] (dsp [] F_rule_after) := fun gb => ⟨_, _, g_rule_after, U_rule_after.kp, U_rule_after.bindsN fun _ _ _ _ _ _ us hl => match us, hl with | [_, _, _], _ => rfl, H_rule_after gb⟩
  have H_is_side : ∀ gb, FnG gb P w K mg base 1 _ fd_is_side ["thing", "letters"] (lSp K mg 2 (dsp [] F_is_side)) := fun gb => okF_is_side U_is_side c_MOST_ROW h_isinstance h_str h_len h_all
  have G_is_side : ∀ gb, Good gb P w K mg base "is_side" 1 ["thing", "letters"] (dsp [] F_is_side) := fun gb => ⟨_, _, g_is_side, U_is_side.kp, U_is_side.bindsN fun _ _ _ _ _ _ us hl => match us, hl with | [_, _], _ => rfl, H_is_side gb⟩
  have H_is_integer : ∀ gb, FnG gb P w K mg base 1 _ fd_is_integer ["thing"] (lSp K mg 1 (dsp [] F_is_integer)) := fun gb => okF_is_integer U_is_integer h_isinstance h_int h_bool
  have G_is_integer : ∀ gb, Good gb P w K mg base "is_integer" 1 ["thing"] (dsp [] F_is_integer) := fun gb => ⟨_, _, g_is_integer, U_is_integer.kp, U_is_integer.bindsN fun _ _ _ _ _ _ us hl => match us, hl with | [_], _ => rfl, H_is_integer gb⟩
  have H_is_within : ∀ gb, FnG gb P w K mg base 2 _ fd_is_within ["thing", "least", "most"] (lSp K mg 3 (dsp [] F_is_within)) := fun gb => okF_is_within U_is_within (G_is_integer gb)
  have G_is_within : ∀ gb, Good gb P w K mg base "is_within" 2 ["thing", "least", "most"] (dsp [] F_is_within) := fun gb => ⟨_, _, g_is_within, U_is_within.kp, U_is_within.bindsN fun _ _ _ _ _ _ us hl => match us, hl with | [_, _, _], _ => rfl, H_is_within gb⟩
  have H_is_rule : ∀ gb, FnG gb P w K mg base 3 _ fd_is_rule ["thing"] (lSp K mg 1 (dsp [] F_is_rule)) := fun gb => okF_is_rule U_is_rule c_MOST_STATES h_all h_len h_isinstance h_tuple (G_is_within gb) (G_are_letters gb)
  have G_is_rule : ∀ gb, Good gb P w K mg base "is_rule" 3 ["thing"] (dsp [] F_is_rule) := fun gb => ⟨_, _, g_is_rule, U_is_rule.kp, U_is_rule.bindsN fun _ _ _ _ _ _ us hl => match us, hl with | [_], _ => rfl, H_is_rule gb⟩
  have H_is_of : ∀ gb, FnG gb P w K mg base 4 _ fd_is_of ["rule", "word", "ring"] (lSp K mg 3 (dsp [] F_is_of)) := fun gb => okF_is_of U_is_of h_range h_len ex_NoWord ex_NoRule (G_rule_after gb) (G_is_side gb) (G_is_rule gb)
  have GN_is_of_2 : ∀ gb, GoodN gb P w K mg base "is_of" 4 ["rule", "word", "ring"] (dsp [] F_is_of) 2 [] (fun vs _ => vs ++ [V.non]) := fun gb => let ⟨mv, hb⟩ := (FunD.kbinds0 U_is_of 2 [] [("ring", V.non)] (fun us mv _ => us ++ mv) (List.cons_ne_nil _ _) (fun _ h => h) (fun r1 r2 _ => r1.append r2) (fun _ _ _ _ _ _ us mv ws h1 h2 h3 => match us, mv, ws, h1, h2, h3 with | [_, _], [_], [], _, _, _ => ⟨_, _, _, _, _, _, rfl, rfl, kwchain_nil rfl⟩)); ⟨_, _, _, g_is_of, U_is_of.kp, hb, H_is_of gb⟩
  have GN_is_of_2_ring : ∀ gb, GoodN gb P w K mg base "is_of" 4 ["rule", "word", "ring"] (dsp [] F_is_of) 2 ["ring"] (fun vs ks => vs ++ ks) := fun gb => let ⟨mv, hb⟩ := (FunD.kbinds0 U_is_of 2 ["ring"] [] (fun us mv ws => us ++ (mv ++ ws)) (List.cons_ne_nil _ _) (fun _ h => nomatch h) (fun r1 r2 r3 => r1.append (r2.append r3)) (fun _ _ _ _ _ _ us mv ws h1 h2 h3 => match us, mv, ws, h1, h2, h3 with | [_, _], [], [_], _, _, _ => kwchain_nil rfl)); ⟨_, _, _, g_is_of, U_is_of.kp, hb, H_is_of gb⟩
  have H_law_x_refused_right : ∀ gb, FnG gb P w K mg base 7 _ fd_law_x_refused_right ["pen", "rule"] (lSp K mg 2 (dsp TB35 F_law_x_refused_right)) := fun gb => okF_law_x_refused_right U_law_x_refused_right errs gy h_isinstance h_ValueError h_len h_range (G_law_x_pick gb) (G_law_take gb) TB_law_x_refused_right hd_law_x_refused_right U_law_x_word g_law_x_word (G_free_rule false) (GN_is_of_2 false) (GN_is_of_2_ring false)
  have G_law_x_refused_right : ∀ gb, Good gb P w K mg base "_law_x_refused_right" 7 ["pen", "rule"] (dsp TB35 F_law_x_refused_right) := fun gb => ⟨_, _, g_law_x_refused_right, U_law_x_refused_right.kp, U_law_x_refused_right.bindsN fun _ _ _ _ _ _ us hl => match us, hl with | [_, _], _ => rfl, H_law_x_refused_right gb⟩
  have H_law_x_behind : ∀ gb, FnG gb P w K mg base 1 _ fd_law_x_behind ["rule", "state", "word"] (lSp K mg 3 (dsp [] F_law_x_behind)) := fun gb => okF_law_x_behind U_law_x_behind 
  have G_law_x_behind : ∀ gb, Good gb P w K mg base "_law_x_behind" 1 ["rule", "state", "word"] (dsp [] F_law_x_behind) := fun gb => ⟨_, _, g_law_x_behind, U_law_x_behind.kp, U_law_x_behind.bindsN fun _ _ _ _ _ _ us hl => match us, hl with | [_, _, _], _ => rfl, H_law_x_behind gb⟩
  have H_law_x_is_of : ∀ gb, FnG gb P w K mg base 2 _ fd_law_x_is_of ["rule", "row"] (lSp K mg 2 (dsp [] F_law_x_is_of)) := fun gb => okF_law_x_is_of U_law_x_is_of h_range (G_law_x_behind gb)
  have G_law_x_is_of : ∀ gb, Good gb P w K mg base "_law_x_is_of" 2 ["rule", "row"] (dsp [] F_law_x_is_of) := fun gb => ⟨_, _, g_law_x_is_of, U_law_x_is_of.kp, U_law_x_is_of.bindsN fun _ _ _ _ _ _ us hl => match us, hl with | [_, _], _ => rfl, H_law_x_is_of gb⟩
  have H_law_x_path : ∀ gb, FnG gb P w K mg base 4 _ fd_law_x_path ["pen", "rule", "state", "many"] (lSp K mg 4 (dsp [] F_law_x_path)) := fun gb => okF_law_x_path U_law_x_path h_range h_len (G_law_x_pick gb)
  have G_law_x_path : ∀ gb, Good gb P w K mg base "_law_x_path" 4 ["pen", "rule", "state", "many"] (dsp [] F_law_x_path) := fun gb => ⟨_, _, g_law_x_path, U_law_x_path.kp, U_law_x_path.bindsN fun _ _ _ _ _ _ us hl => match us, hl with | [_, _, _, _], _ => rfl, H_law_x_path gb⟩
  have H_law_x_row : ∀ gb, FnG gb P w K mg base 5 _ fd_law_x_row ["pen", "rule", "state", "most"] (lSp K mg 4 (dsp [] F_law_x_row)) := fun gb => okF_law_x_row U_law_x_row h_len (G_law_x_path gb) (G_law_take gb)
  have G_law_x_row : ∀ gb, Good gb P w K mg base "_law_x_row" 5 ["pen", "rule", "state", "most"] (dsp [] F_law_x_row) := fun gb => ⟨_, _, g_law_x_row, U_law_x_row.kp, U_law_x_row.bindsN fun _ _ _ _ _ _ us hl => match us, hl with | [_, _, _, _], _ => rfl, H_law_x_row gb⟩
  have H_law_x_long : ∀ gb, FnG gb P w K mg base 6 _ fd_law_x_long ["pen", "rule"] (lSp K mg 2 (dsp [] F_law_x_long)) := fun gb => okF_law_x_long U_law_x_long h_list h_len (G_law_take gb) (G_law_x_pick gb) (G_law_x_row gb)
  have G_law_x_long : ∀ gb, Good gb P w K mg base "_law_x_long" 6 ["pen", "rule"] (dsp [] F_law_x_long) := fun gb => ⟨_, _, g_law_x_long, U_law_x_long.kp, U_law_x_long.bindsN fun _ _ _ _ _ _ us hl => match us, hl with | [_, _], _ => rfl, H_law_x_long gb⟩
  have H_law_x_text : ∀ gb, FnG gb P w K mg base 4 _ fd_law_x_text ["pen", "letters", "most"] (lSp K mg 3 (dsp [] F_law_x_text)) := fun gb => okF_law_x_text U_law_x_text h_range h_list (G_law_take gb) (G_law_x_pick gb)
  have G_law_x_text : ∀ gb, Good gb P w K mg base "_law_x_text" 4 ["pen", "letters", "most"] (dsp [] F_law_x_text) := fun gb => ⟨_, _, g_law_x_text, U_law_x_text.kp, U_law_x_text.bindsN fun _ _ _ _ _ _ us hl => match us, hl with | [_, _, _], _ => rfl, H_law_x_text gb⟩
  have H_law_x_rule : ∀ gb, FnG gb P w K mg base 4 _ fd_law_x_rule ["pen", "letters", "most"] (lSp K mg 3 (dsp [] F_law_x_rule)) := fun gb => okF_law_x_rule U_law_x_rule h_tuple h_range h_len (G_law_take gb) (G_law_x_pick gb)
  have G_law_x_rule : ∀ gb, Good gb P w K mg base "_law_x_rule" 4 ["pen", "letters", "most"] (dsp [] F_law_x_rule) := fun gb => ⟨_, _, g_law_x_rule, U_law_x_rule.kp, U_law_x_rule.bindsN fun _ _ _ _ _ _ us hl => match us, hl with | [_, _, _], _ => rfl, H_law_x_rule gb⟩
  have H_law_x_letters : ∀ gb, FnG gb P w K mg base 4 _ fd_law_x_letters ["pen"] (lSp K mg 1 (dsp [] F_law_x_letters)) := fun gb => okF_law_x_letters U_law_x_letters (G_law_x_pick gb) (G_law_take gb)
  have G_law_x_letters : ∀ gb, Good gb P w K mg base "_law_x_letters" 4 ["pen"] (dsp [] F_law_x_letters) := fun gb => ⟨_, _, g_law_x_letters, U_law_x_letters.kp, U_law_x_letters.bindsN fun _ _ _ _ _ _ us hl => match us, hl with | [_], _ => rfl, H_law_x_letters gb⟩
  exact okF_law U_law h_range h_repr (G_law_open true) (G_law_x_refused_right true) (G_law_x_is_of true) (G_law_x_behind true) (G_law_take true) (G_law_x_long true) (G_law_x_row true) (G_law_x_text true) (G_law_x_rule true) (G_law_x_letters true) (GN_is_of_2_ring true) (GN_is_of_2 true)
end R35
open PySem PySem.W PySem.Calls PyProof.Rows
theorem PySem.Challenge.cw_laterless_k35_words_of_rules_holds : PySem.Challenge.rw_laterless_k35_words_of_rules.Holds := by
  w_on; o_law
  refine HandSHeadRun.head_any (r := OpenLaw.row PySem.Challenge.rw_laterless_k35_words_of_rules) (q := view (OpenLaw.row PySem.Challenge.rw_laterless_k35_words_of_rules).prog [44]) (H := R35.hk) (ob := R35.ob) (M := 20000) (loose := ("LaterError" :: "NoMachine" :: "NoPlain" :: "NoLetters" :: "NoRule" :: "NoRow" :: "NoWord" :: "NoNumber" :: "NoDivisor" :: "NoMatch" :: "NoLimit" :: "HasRow" :: "TooGreat" :: "is_integer" :: "is_within" :: "are_letters" :: "need_letters" :: "is_rule" :: "free_rule" :: "is_side" :: "rule_after" :: "is_of" :: "_law_spread" :: "_law_open" :: "_law_take" :: "_law_x_pick" :: "_law_x_letters" :: "_law_x_rule" :: "_law_x_path" :: "_law_x_row" :: "_law_x_behind" :: "_law_x_is_of" :: "_law_x_word" :: "_law_x_text" :: "_law_x_long" :: "_law_x_refused_right" :: "ALPHABET" :: "MOST_LETTERS" :: "MOST_STATES" :: "MOST_ROW" :: ([] : List PySem.Str))) (d := HandSHeadRun.topDef (OpenLaw.row PySem.Challenge.rw_laterless_k35_words_of_rules).prog 44) (kwd := []) R35.ob_eq
    (by kernel_rfl) (fun s => by kernel_rfl) R35.run (by kernel_rfl) (by kernel_rfl) (by kernel_rfl) (by rfl) (by first | assumption | decide +kernel) (by decide +kernel) ⟨rfl, rfl, rfl, rfl, rfl, by decide +kernel⟩ ?hw ?hc
  case hw => w_witness2
  case hc =>
    refine LD.law_endTs (gb := true) LD.TB35 (l := PySem.Challenge.rw_laterless_k35_words_of_rules) (n := 63) (k := 8) (x := "script") rfl (by decide) (by kernel_rfl) (LD.rm_caller (by decide) (by decide)) ?F
    intro w mg fa h Y G hmg0
    obtain ⟨K, KX, c⟩ := Y
    have hmg : mg ("law" : PySem.Str) = some (.ref fa) := by
      have e : (HandSHeadRun.topDef (OpenLaw.row PySem.Challenge.rw_laterless_k35_words_of_rules).prog 44).name = ("law" : PySem.Str) := by kernel_rfl
      rw [← e]
      exact hmg0
    obtain ⟨fd, hb, hF⟩ := R35.facts (P := (PySem.Challenge.rw_laterless_k35_words_of_rules).prog) (w := w) KX G hmg c
    refine ⟨K, fd, KX, hb, fun t ht => ?_, (LD.errsT_ok c.more).2, hF⟩
    have hm : t.1 ∈ ([("_law_x_refused_right", none)] : List (PySem.Str × Option PySem.Str)) := by
      simp only [LD.TB35, List.mem_cons, List.not_mem_nil, or_false] at ht
      rcases ht with rfl <;> decide
    exact ⟨c.empty _ hm, c.out _ hm, c.hd _ hm⟩

