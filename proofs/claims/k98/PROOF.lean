import PyProof.Rows.All
import Wide.All
import OpenK.AllK
import Wide.FinOn
import HandS.ForMost
import HandS.IsInst
import HandS.TupAny
import HandS.TupMul
import HandS.Deep
import HandS.Style
import HandS.Wide
import HandS.Star
import HandS.Zip
import HandS.Conv
import HandS.ForExc
import HandS.ExcField
import HandS.CallSlots
import HandS.MakeKwOnly
import KE.KExcSuper
import HandS.ExcSuper
import KE.KRevSl
import HandS.SortInts
import KE.KDictKeyed
import KE.KDictDisplayH
import KE.RegKSuper
import PySem.Challenge.RW_slipslater_k98_whole_fewest_steps_back
set_option Elab.async false
set_option linter.all false
set_option maxRecDepth 100000
namespace DL
open PySem PySem.Spec PyProof.Rows L2

abbrev St := L2.St
/-! ## data -/
inductive D where
  | non | bl (b : Bool) | int (i : Int) | str (x : Str) | tup (xs : List D) | lst (xs : List D) | own (xs : List D) | opq (v : V)

mutual
def Rep (K : PySem.W.Frag) (H : Hp) : D → V → Prop
  | .non, v => v = .non
  | .bl b, v => v = .bl b
  | .int i, v => v = .int i
  | .str x, v => v = .str x
  | .tup ds, v => ∃ a xs, v = .ref a ∧ SqT K H a xs ∧ RepL K H ds xs
  | .lst ds, v => ∃ a xs, v = .ref a ∧ H a = some (.lst xs) ∧ RepL K H ds xs
  | .own _, _ => False
  | .opq w, v => v = w
def RepL (K : PySem.W.Frag) (H : Hp) : List D → List V → Prop
  | [], xs => xs = []
  | d :: ds, xs => ∃ x r, xs = x :: r ∧ Rep K H d x ∧ RepL K H ds r
end

section
variable {K : PySem.W.Frag} {H H' : Hp}
theorem sqT_mono (e : Same H H') {a : Addr} {xs : List V} (h : SqT K H a xs) : SqT K H' a xs := by
  rcases h with (h | ⟨o, h⟩) | h
  · exact .inl (.inl (e _ _ h))
  · exact .inl (.inr ⟨o, e _ _ h⟩)
  · exact .inr h
mutual
theorem Rep.mono (e : Same H H') : ∀ (d : D) (v : V), Rep K H d v → Rep K H' d v
  | .non, _, h => by simpa only [Rep] using h
  | .bl _, _, h => by simpa only [Rep] using h
  | .int _, _, h => by simpa only [Rep] using h
  | .str _, _, h => by simpa only [Rep] using h
  | .opq _, _, h => by simpa only [Rep] using h
  | .own _, _, h => by simp only [Rep] at h
  | .tup ds, _, h => by
    simp only [Rep] at h ⊢
    obtain ⟨a, xs, h1, h2, h3⟩ := h
    exact ⟨a, xs, h1, sqT_mono e h2, RepL.mono e ds xs h3⟩
  | .lst ds, _, h => by
    simp only [Rep] at h ⊢
    obtain ⟨a, xs, h1, h2, h3⟩ := h
    exact ⟨a, xs, h1, e _ _ h2, RepL.mono e ds xs h3⟩
theorem RepL.mono (e : Same H H') : ∀ (ds : List D) (xs : List V), RepL K H ds xs → RepL K H' ds xs
  | [], _, h => by simpa only [RepL] using h
  | d :: ds, _, h => by
    simp only [RepL] at h ⊢
    obtain ⟨x, r, h1, h2, h3⟩ := h
    exact ⟨x, r, h1, Rep.mono e d x h2, RepL.mono e ds r h3⟩
end
theorem RepL.length : ∀ {ds : List D} {xs : List V}, RepL K H ds xs → xs.length = ds.length
  | [], _, h => by simp only [RepL] at h; subst h; rfl
  | d :: ds, _, h => by
    simp only [RepL] at h
    obtain ⟨x, r, rfl, _, h3⟩ := h
    simp only [List.length_cons, RepL.length h3]
theorem RepL.get : ∀ {ds : List D} {xs : List V} {i : Nat} {d : D}, RepL K H ds xs → ds[i]? = some d → ∃ x, xs[i]? = some x ∧ Rep K H d x
  | [], _, _, _, _, h => by simp at h
  | d :: ds, _, 0, _, h, e => by
    simp only [RepL] at h
    obtain ⟨x, r, rfl, h2, _⟩ := h
    simp at e; subst e
    exact ⟨x, rfl, h2⟩
  | d :: ds, _, i + 1, _, h, e => by
    simp only [RepL] at h
    obtain ⟨x, r, rfl, _, h3⟩ := h
    exact RepL.get (i := i) h3 (by simpa using e)
theorem RepL.append : ∀ {ds es : List D} {xs ys : List V}, RepL K H ds xs → RepL K H es ys → RepL K H (ds ++ es) (xs ++ ys)
  | [], _, _, _, h, g => by simp only [RepL] at h; subst h; exact g
  | d :: ds, _, _, _, h, g => by
    simp only [RepL] at h
    obtain ⟨x, r, rfl, h2, h3⟩ := h
    simp only [List.cons_append, RepL]
    exact ⟨x, _, rfl, h2, RepL.append h3 g⟩
theorem RepL.one {d : D} {x : V} (h : Rep K H d x) : RepL K H [d] [x] := by
  simp only [RepL]; exact ⟨x, [], rfl, h, rfl⟩
theorem RepL.nil : RepL K H [] [] := by simp only [RepL]
theorem RepL.cons {d : D} {x : V} {ds : List D} {xs : List V} (h : Rep K H d x) (g : RepL K H ds xs) : RepL K H (d :: ds) (x :: xs) := by
  simp only [RepL]; exact ⟨x, xs, rfl, h, g⟩
theorem RepL.take : ∀ {ds : List D} {xs : List V} (n : Nat), RepL K H ds xs → RepL K H (ds.take n) (xs.take n)
  | _, _, 0, _ => by simp only [List.take_zero]; exact RepL.nil
  | [], _, n + 1, h => by simp only [RepL] at h; subst h; simp only [List.take_nil]; exact RepL.nil
  | d :: ds, _, n + 1, h => by
    simp only [RepL] at h
    obtain ⟨x, r, rfl, h2, h3⟩ := h
    exact RepL.cons h2 (RepL.take n h3)
theorem RepL.drop : ∀ {ds : List D} {xs : List V} (n : Nat), RepL K H ds xs → RepL K H (ds.drop n) (xs.drop n)
  | _, _, 0, h => by simpa only [List.drop_zero] using h
  | [], _, n + 1, h => by simp only [RepL] at h; subst h; simp only [List.drop_nil]; exact RepL.nil
  | d :: ds, _, n + 1, h => by
    simp only [RepL] at h
    obtain ⟨x, r, rfl, h2, h3⟩ := h
    exact RepL.drop n h3
theorem RepL.set : ∀ {ds : List D} {xs : List V} {d : D} {x : V} (i : Nat), Rep K H d x → RepL K H ds xs → RepL K H (ds.set i d) (xs.set i x)
  | [], _, _, _, _, _, h => by simp only [RepL] at h; subst h; simp only [List.set_nil]; exact RepL.nil
  | d :: ds, _, _, _, 0, g, h => by
    simp only [RepL] at h
    obtain ⟨x, r, rfl, h2, h3⟩ := h
    exact RepL.cons g h3
  | d :: ds, _, _, _, i + 1, g, h => by
    simp only [RepL] at h
    obtain ⟨x, r, rfl, h2, h3⟩ := h
    exact RepL.cons h2 (RepL.set i g h3)
theorem RepL.eraseIdx : ∀ {ds : List D} {xs : List V} (i : Nat), RepL K H ds xs → RepL K H (ds.eraseIdx i) (xs.eraseIdx i)
  | [], _, _, h => by simp only [RepL] at h; subst h; simp only [List.eraseIdx_nil]; exact RepL.nil
  | d :: ds, _, 0, h => by
    simp only [RepL] at h
    obtain ⟨x, r, rfl, h2, h3⟩ := h
    simpa using h3
  | d :: ds, _, i + 1, h => by
    simp only [RepL] at h
    obtain ⟨x, r, rfl, h2, h3⟩ := h
    exact RepL.cons h2 (RepL.eraseIdx i h3)
theorem RepL.reverse : ∀ {ds : List D} {xs : List V}, RepL K H ds xs → RepL K H ds.reverse xs.reverse
  | [], _, h => by simp only [RepL] at h; subst h; exact RepL.nil
  | d :: ds, _, h => by
    simp only [RepL] at h
    obtain ⟨x, r, rfl, h2, h3⟩ := h
    rw [List.reverse_cons, List.reverse_cons]
    exact RepL.append (RepL.reverse h3) (RepL.one h2)
theorem RepL.rep {ds : List D} {xs : List V} (h : RepL K H ds xs) : ∀ n : Nat, RepL K H (List.replicate n ds).flatten (List.replicate n xs).flatten
  | 0 => by simp only [List.replicate_zero, List.flatten_nil]; exact RepL.nil
  | n + 1 => by
    rw [List.replicate_succ, List.replicate_succ, List.flatten_cons, List.flatten_cons]
    exact RepL.append h (RepL.rep h n)
theorem RepL.dropLast {ds : List D} {xs : List V} (h : RepL K H ds xs) : RepL K H ds.dropLast xs.dropLast := by
  rw [List.dropLast_eq_take, List.dropLast_eq_take, RepL.length h]
  exact RepL.take _ h
theorem RepL.ints : ∀ {ns : List Int} {xs : List V}, RepL K H (ns.map D.int) xs → xs = ns.map V.int
  | [], _, h => by simp only [List.map_nil, RepL] at h; subst h; rfl
  | n :: ns, _, h => by
    simp only [List.map_cons, RepL, Rep] at h
    obtain ⟨x, r, rfl, rfl, h3⟩ := h
    rw [List.map_cons, RepL.ints h3]
theorem RepL.of_ints : ∀ (ns : List Int), RepL K H (ns.map D.int) (ns.map V.int)
  | [] => RepL.nil
  | n :: ns => RepL.cons (by simp only [Rep]) (RepL.of_ints ns)
theorem RepL.bls : ∀ {ns : List Bool} {xs : List V}, RepL K H (ns.map D.bl) xs → xs = ns.map V.bl
  | [], _, h => by simp only [List.map_nil, RepL] at h; subst h; rfl
  | n :: ns, _, h => by
    simp only [List.map_cons, RepL, Rep] at h
    obtain ⟨x, r, rfl, rfl, h3⟩ := h
    rw [List.map_cons, RepL.bls h3]
end

/-! ## the region that others may change -/
structure Reg where
  dom : Addr → Prop
  inv : Hp → Prop
  loc : ∀ H H' : Hp, (∀ b, dom b → H' b = H b) → inv H → inv H'
  trk : ∀ H b, inv H → dom b → ∃ o, H b = some o

/-- F: what is frozen for good; H: all that is tracked -/
structure Ok (J : Reg) (F H : Hp) : Prop where
  fh : Same F H
  inv : J.inv H
  nf : ∀ b, J.dom b → F b = none

/-- from (F, H) to (F', H'): nothing that is tracked but the region changes; what becomes frozen is new -/
structure Ext (J : Reg) (F H F' H' : Hp) : Prop where
  ok : Ok J F' H'
  ff : Same F F'
  keep : ∀ b o, H b = some o → ¬ J.dom b → H' b = some o
  new : ∀ b o, H b = some o → F b = none → F' b = none

section
variable {J : Reg} {F H F' H' F2 H2 : Hp}
theorem Ext.refl (h : Ok J F H) : Ext J F H F H := ⟨h, Same.refl F, fun _ _ e _ => e, fun _ _ _ e => e⟩
theorem Ext.trans (x : Ok J F H) (a : Ext J F H F' H') (b : Ext J F' H' F2 H2) : Ext J F H F2 H2 where
  ok := b.ok
  ff := a.ff.trans b.ff
  keep := fun c o e n => b.keep c o (a.keep c o e n) n
  new := fun c o e n => by
    by_cases hd : J.dom c
    · exact b.ok.nf c hd
    · exact b.new c o (a.keep c o e hd) (a.new c o e n)
/-- a new object, frozen -/
theorem Ok.upd (x : Ok J F H) {p : Addr} {o : HO} (hp : H p = none) : Ok J (L2.upd F p o) (L2.upd H p o) where
  fh := fun b u e => by
    by_cases hb : b = p
    · subst hb; rw [upd_same] at e ⊢; exact e
    · rw [upd_ne hb] at e ⊢; exact x.fh b u e
  inv := J.loc H _ (fun b hb => upd_ne (fun z => by
    obtain ⟨o', e⟩ := J.trk H b x.inv hb
    rw [z, hp] at e; cases e)) x.inv
  nf := fun b hb => by
    have nb : b ≠ p := fun z => by
      obtain ⟨o', e⟩ := J.trk H b x.inv hb
      rw [z, hp] at e; cases e
    rw [upd_ne nb]; exact x.nf b hb
theorem fnone (x : Ok J F H) {p : Addr} (hp : H p = none) : F p = none := x.fh.free hp
theorem ext_new (x : Ok J F H) {p : Addr} {o : HO} (hp : H p = none) : Ext J F H (L2.upd F p o) (L2.upd H p o) where
  ok := x.upd hp
  ff := same_upd' (fnone x hp)
  keep := fun b u e _ => by rw [upd_ne (ne_of_none e hp)]; exact e
  new := fun b u e n => by rw [upd_ne (ne_of_none e hp)]; exact n
where
  same_upd' {F : Hp} {p : Addr} {o : HO} (h : F p = none) : Same F (L2.upd F p o) := fun b x e => by
    rw [upd_ne (ne_of_none e h)]; exact e
/-- a new object that isn't frozen -/
theorem ext_raw (x : Ok J F H) {p : Addr} {o : HO} (hp : H p = none) : Ext J F H F (L2.upd H p o) where
  ok := {
    fh := fun b u e => by rw [upd_ne (ne_of_none (x.fh b u e) hp)]; exact x.fh b u e
    inv := (x.upd (o := o) hp).inv
    nf := x.nf }
  ff := Same.refl F
  keep := fun b u e _ => by rw [upd_ne (ne_of_none e hp)]; exact e
  new := fun b u e n => n
end
theorem same_new {F : Hp} {p : Addr} {o : HO} (h : F p = none) : Same F (L2.upd F p o) := fun b x e => by
  rw [upd_ne (ne_of_none e h)]; exact e

/-! ## the slots -/
abbrev DS := List (Option D)
/-- what a slot holds. Hi: the abstract heap at the entry -/
def SlotOk (K : PySem.W.Frag) (J : Reg) (Hi F H : Hp) : D → V → Prop
  | .own ds, v => ∃ a xs, v = .ref a ∧ H a = some (.lst xs) ∧ F a = none ∧ ¬ J.dom a ∧ Hi a = none ∧ RepL K F ds xs
  | d, v => Rep K F d v
def isOwn : D → Bool
  | .own _ => true
  | _ => false
theorem slot_data {K : PySem.W.Frag} {J : Reg} {Hi F H : Hp} {d : D} {v : V} (h : isOwn d = false) : SlotOk K J Hi F H d v ↔ Rep K F d v := by
  cases d <;> first | exact Iff.rfl | cases h
theorem rep_data {K : PySem.W.Frag} {F : Hp} {d : D} {v : V} (h : Rep K F d v) : isOwn d = false := by
  cases d <;> first | rfl | (simp only [Rep] at h)

/-- the state: Hi, Fi at the entry -/
structure G (K : PySem.W.Frag) (J : Reg) (Hi Fi B F : Hp) (σ : St) (δ : DS) (H : Hp) : Prop where
  ext : Ext J Fi Hi F H
  bs : Same B F
  len : σ.length = δ.length
  var : ∀ (i : Nat) d, δ[i]? = some (some d) → ∃ v, σ[i]? = some (some v) ∧ SlotOk K J Hi F H d v
  dis : ∀ (i j : Nat) di dj a, i ≠ j → δ[i]? = some (some (.own di)) → δ[j]? = some (some (.own dj)) → σ[i]? = some (some (.ref a)) → σ[j]? ≠ some (some (.ref a))

section
variable {K : PySem.W.Frag} {J : Reg} {Hi Fi B F H F' H' F2 H2 : Hp} {σ : St} {δ : DS}
theorem G.ok (g : G K J Hi Fi B F σ δ H) : Ok J F H := g.ext.ok
theorem G.step (g : G K J Hi Fi B F σ δ H) (x0 : Ok J Fi Hi) (e : Ext J F H F' H') : G K J Hi Fi B F' σ δ H' where
  ext := g.ext.trans x0 e
  bs := g.bs.trans e.ff
  len := g.len
  var := fun i d h => by
    obtain ⟨v, h1, h2⟩ := g.var i d h
    refine ⟨v, h1, ?_⟩
    cases hd : isOwn d with
    | false => rw [slot_data hd] at h2 ⊢; exact Rep.mono e.ff d v h2
    | true =>
      cases d <;> first | (cases hd; done) | skip
      obtain ⟨a, xs, rfl, h3, h4, h5, h6, h7⟩ := h2
      exact ⟨a, xs, rfl, e.keep a _ h3 h5, e.new a _ h3 h4, h5, h6, RepL.mono e.ff _ _ h7⟩
  dis := g.dis
end

/-- a value that is read: data, or what an own slot holds -/
def Res (K : PySem.W.Frag) (F : Hp) (σ : St) (δ : DS) : D → V → Prop
  | .own ds, v => ∃ i : Nat, σ[i]? = some (some v) ∧ δ[i]? = some (some (.own ds))
  | d, v => Rep K F d v
theorem Res.mono {K : PySem.W.Frag} {F F' : Hp} {σ : St} {δ : DS} {d : D} {v : V} (e : Same F F') (h : Res K F σ δ d v) : Res K F' σ δ d v := by
  cases d <;> first | exact h | exact Rep.mono e _ _ h
theorem res_data {K : PySem.W.Frag} {F : Hp} {σ : St} {δ : DS} {d : D} {v : V} (h : isOwn d = false) : Res K F σ δ d v ↔ Rep K F d v := by
  cases d <;> first | exact Iff.rfl | cases h

/-! ## readings over data -/
abbrev DE := DS → (D → Prop) → Prop
abbrev DT := DS → (Bool → Prop) → Prop
abbrev DA := DS → (List D → Prop) → Prop
structure DEnds where
  nx : DS → Prop
  rt : D → Prop
  bk : DS → Prop := fun _ => False
  ct : DS → Prop := fun _ => False
abbrev DSt := DEnds → DS → Prop

/-- a point of a def's body: what is fixed -/
structure Pt where
  K : PySem.W.Frag
  J : Reg
  Hi : Hp
  Fi : Hp
  ok : Ok J Fi Hi
  B : Hp := Fi
abbrev Pt.G (p : Pt) (F : Hp) (σ : St) (δ : DS) (H : Hp) : Prop := DL.G p.K p.J p.Hi p.Fi p.B F σ δ H
theorem Pt.step (p : Pt) {F H F' H' : Hp} {σ : St} {δ : DS} (g : p.G F σ δ H) (e : Ext p.J F H F' H') : p.G F' σ δ H' := g.step p.ok e

def liftE (p : Pt) (t : DE) : TE := fun σ H Q => ∃ F δ QD, p.G F σ δ H ∧ t δ QD ∧ ∀ v H1 F1 d, Ext p.J F H F1 H1 → Res p.K F1 σ δ d v → QD d → Q v H1
/-- a new list -/
def liftL (p : Pt) (t : DA) : TE := fun σ H Q => ∃ F δ QD, p.G F σ δ H ∧ t δ QD ∧ ∀ a xs H1 F1 ds, Ext p.J F H F1 H1 → H a = none → F1 a = none → H1 a = some (.lst xs) → RepL p.K F1 ds xs → QD ds → Q (.ref a) H1
def liftT (p : Pt) (t : DT) : TT := fun σ H Q => ∃ F δ QD, p.G F σ δ H ∧ t δ QD ∧ ∀ b H1 F1, Ext p.J F H F1 H1 → QD b → Q b H1
/-- arguments: data all -/
def liftA (p : Pt) (t : DA) : TA := fun σ H Q => ∃ F δ QD, p.G F σ δ H ∧ t δ QD ∧ ∀ vs H1 F1 ds, Ext p.J F H F1 H1 → RepL p.K F1 ds vs → QD ds → Q vs H1
def liftS (p : Pt) (t : DSt) : TS := fun Dn σ H => ∃ F δ DD, p.G F σ δ H ∧ t DD δ ∧
  (∀ σ' H' F' δ', p.G F' σ' δ' H' → Same F F' → DD.nx δ' → Dn.nx σ' H') ∧ (∀ σ' H' F' δ', p.G F' σ' δ' H' → Same F F' → DD.bk δ' → Dn.bk σ' H') ∧
  (∀ σ' H' F' δ', p.G F' σ' δ' H' → Same F F' → DD.ct δ' → Dn.ct σ' H') ∧ (∀ v H' F' d, Ext p.J p.Fi p.Hi F' H' → Rep p.K F' d v → DD.rt d → Dn.rt v H')

structure PDE (X : Cx) (p : Pt) (e : Expr) (t : DE) : Prop where
  pe : PE X e (liftE p t)
structure PDL (X : Cx) (p : Pt) (e : Expr) (t : DA) : Prop where
  pe : PE X e (liftL p t)
structure PDT (X : Cx) (p : Pt) (e : Expr) (t : DT) : Prop where
  pt : PT X e (liftT p t)
structure PDA (X : Cx) (p : Pt) (es : List Expr) (t : DA) : Prop where
  pa : PA X es (liftA p t)
structure PDS (X : Cx) (p : Pt) (st : Stmt) (t : DSt) : Prop where
  ps : PS X st (liftS p t)
structure PDSs (X : Cx) (p : Pt) (st : List Stmt) (t : DSt) : Prop where
  pss : PSs X st (liftS p t)

theorem PE.imp {X : Cx} {e : Expr} {t t' : TE} (h : PE X e t) (i : ∀ σ H Q, t' σ H Q → t σ H Q) : PE X e t' := ⟨fun pins s σ H Q I q => h.run pins s σ H Q I (i σ H Q q)⟩
theorem PT.imp {X : Cx} {e : Expr} {t t' : TT} (h : PT X e t) (i : ∀ σ H Q, t' σ H Q → t σ H Q) : PT X e t' := ⟨fun pins s σ H Q I q => h.run pins s σ H Q I (i σ H Q q)⟩
theorem PA.imp {X : Cx} {e : List Expr} {t t' : TA} (h : PA X e t) (i : ∀ σ H Q, t' σ H Q → t σ H Q) : PA X e t' := ⟨fun pos pins s σ H Q I q => h.run pos pins s σ H Q I (i σ H Q q)⟩
theorem PS.imp {X : Cx} {e : Stmt} {t t' : TS} (h : PS X e t) (i : ∀ D σ H, t' D σ H → t D σ H) : PS X e t' := ⟨fun pins s σ H D I q => h.run pins s σ H D I (i D σ H q)⟩
theorem PSs.imp {X : Cx} {e : List Stmt} {t t' : TS} (h : PSs X e t) (i : ∀ D σ H, t' D σ H → t D σ H) : PSs X e t' := ⟨fun pins s σ H D I q => h.run pins s σ H D I (i D σ H q)⟩
end DL
set_option Elab.async false
set_option linter.all false
set_option maxRecDepth 100000
namespace DL
open PySem PySem.Spec PyProof.Rows L2

/-! ## data as the library knows it -/
mutual
def D.py : D → PyData
  | .non => .none | .bl b => .bool b | .int i => .int i | .str x => .str x
  | .tup xs => .tuple (D.pyL xs) | .lst xs => .list (D.pyL xs) | .own xs => .list (D.pyL xs) | .opq _ => .none
def D.pyL : List D → List PyData
  | [] => [] | d :: ds => D.py d :: D.pyL ds
end
mutual
/-- None, bools, ints, texts, lists, tuples, throughout -/
def D.pure : D → Bool
  | .non => true | .bl _ => true | .int _ => true | .str x => PyData.strOk x
  | .tup xs => D.pureL xs | .lst xs => D.pureL xs | .own xs => D.pureL xs | .opq _ => false
def D.pureL : List D → Bool
  | [] => true | d :: ds => D.pure d && D.pureL ds
end
mutual
def D.dep : D → Nat
  | .non => 0 | .bl _ => 0 | .int _ => 0 | .str _ => 0 | .opq _ => 0
  | .tup xs => D.depL xs + 1 | .lst xs => D.depL xs + 1 | .own xs => D.depL xs + 1
def D.depL : List D → Nat
  | [] => 0 | d :: ds => max (D.dep d) (D.depL ds)
end
mutual
theorem py_lay : ∀ d : D, D.pure d = true → (D.py d).canLay0 = true
  | .non, _ => by simp [D.py, PyData.canLay0]
  | .bl _, _ => by simp [D.py, PyData.canLay0]
  | .int _, _ => by simp [D.py, PyData.canLay0]
  | .str x, h => by simpa [D.py, PyData.canLay0, D.pure] using h
  | .tup xs, h => by simp only [D.py, PyData.canLay0]; exact pyL_lay xs (by simpa only [D.pure] using h)
  | .lst xs, h => by simp only [D.py, PyData.canLay0]; exact pyL_lay xs (by simpa only [D.pure] using h)
  | .own xs, h => by simp only [D.py, PyData.canLay0]; exact pyL_lay xs (by simpa only [D.pure] using h)
  | .opq _, h => by simp [D.pure] at h
theorem pyL_lay : ∀ ds : List D, D.pureL ds = true → PyData.canLayAll0 (D.pyL ds) = true
  | [], _ => by simp [D.pyL, PyData.canLayAll0]
  | d :: ds, h => by
    simp only [D.pureL, Bool.and_eq_true] at h
    simp only [D.pyL, PyData.canLayAll0, Bool.and_eq_true]
    exact ⟨py_lay d h.1, pyL_lay ds h.2⟩
end
mutual
theorem py_dep : ∀ d : D, (D.py d).depth = D.dep d
  | .non => rfl | .bl _ => rfl | .int _ => rfl | .str _ => rfl | .opq _ => rfl
  | .tup xs => by simp only [D.py, PyData.depth, D.dep, pyL_dep xs]
  | .lst xs => by simp only [D.py, PyData.depth, D.dep, pyL_dep xs]
  | .own xs => by simp only [D.py, PyData.depth, D.dep, pyL_dep xs]
theorem pyL_dep : ∀ ds : List D, PyData.depthAll (D.pyL ds) = D.depL ds
  | [] => rfl
  | d :: ds => by simp only [D.pyL, PyData.depthAll, D.depL, py_dep d, pyL_dep ds]
end
/-- what may be compared by == -/
def cmpable (d : D) : Prop := D.pure d = true ∧ D.dep d ≤ 60
theorem cmpable.shaped {d : D} (h : cmpable d) : SeqAt.shaped (D.py d) = true := by
  unfold SeqAt.shaped
  rw [Bool.and_eq_true]
  exact ⟨py_lay d h.1, decide_eq_true (by rw [py_dep]; have := h.2; omega)⟩
/-- Python's == -/
def D.eqv (d e : D) : Bool := PyData.eqv (D.py d) (D.py e)

section
variable {K : PySem.W.Frag} {F H : Hp}
mutual
theorem rep_dp (e : Same F H) : ∀ (d : D) (v : V), D.pure d = true → Rep K F d v → Dp K H v (D.py d)
  | .non, _, _, h => by simp only [Rep] at h; subst h; exact .non
  | .bl b, _, _, h => by simp only [Rep] at h; subst h; exact .bl b
  | .int i, _, _, h => by simp only [Rep] at h; subst h; exact .int i
  | .str x, _, _, h => by simp only [Rep] at h; subst h; exact .str x
  | .opq _, _, p, _ => by simp [D.pure] at p
  | .own _, _, _, h => by simp only [Rep] at h
  | .tup ds, _, p, h => by
    simp only [Rep] at h
    obtain ⟨a, xs, rfl, h2, h3⟩ := h
    exact .tup (sqT_mono e h2) (repL_dp e ds xs (by simpa only [D.pure] using p) h3)
  | .lst ds, _, p, h => by
    simp only [Rep] at h
    obtain ⟨a, xs, rfl, h2, h3⟩ := h
    exact .lst (SqL.of (e _ _ h2)) (repL_dp e ds xs (by simpa only [D.pure] using p) h3)
theorem repL_dp (e : Same F H) : ∀ (ds : List D) (xs : List V), D.pureL ds = true → RepL K F ds xs → DpAll K H xs (D.pyL ds)
  | [], _, _, h => by simp only [RepL] at h; subst h; exact .nil
  | d :: ds, _, p, h => by
    simp only [RepL] at h
    simp only [D.pureL, Bool.and_eq_true] at p
    obtain ⟨x, r, rfl, h2, h3⟩ := h
    exact .cons (rep_dp e d x p.1 h2) (repL_dp e ds r p.2 h3)
end
end

/-- the items of a list or tuple -/
def D.items : D → Option (List D)
  | .tup xs => some xs | .lst xs => some xs | .own xs => some xs | _ => none
section
variable {p : Pt} {F H : Hp} {σ : St} {δ : DS}
/-- a list that is read: where it stands -/
theorem res_lst (g : p.G F σ δ H) {d : D} {v : V} (r : Res p.K F σ δ d v) {ds : List D} (h : d = .lst ds ∨ d = .own ds) : ∃ a xs, v = .ref a ∧ H a = some (.lst xs) ∧ RepL p.K F ds xs := by
  rcases h with rfl | rfl
  · have r' : Rep p.K F (.lst ds) v := r
    simp only [Rep] at r'
    obtain ⟨a, xs, rfl, h2, h3⟩ := r'
    exact ⟨a, xs, rfl, g.ok.fh _ _ h2, h3⟩
  · obtain ⟨i, h1, h2⟩ := r
    obtain ⟨v', h3, h4⟩ := g.var i _ h2
    rw [h1] at h3
    have ev : v = v' := Option.some.inj (Option.some.inj h3)
    subst ev
    obtain ⟨a, xs, rfl, h5, _, _, _, h6⟩ := h4
    exact ⟨a, xs, rfl, h5, h6⟩
theorem res_tup (g : p.G F σ δ H) {v : V} {ds : List D} (r : Res p.K F σ δ (.tup ds) v) : ∃ a xs, v = .ref a ∧ SqT p.K H a xs ∧ RepL p.K F ds xs := by
  have r' : Rep p.K F (.tup ds) v := r
  simp only [Rep] at r'
  obtain ⟨a, xs, rfl, h2, h3⟩ := r'
  exact ⟨a, xs, rfl, sqT_mono g.ok.fh h2, h3⟩
theorem res_seq (g : p.G F σ δ H) {d : D} {v : V} (r : Res p.K F σ δ d v) {ds : List D} (h : D.items d = some ds) : ∃ a xs, v = .ref a ∧ (SqL p.K H a xs ∨ SqT p.K H a xs) ∧ RepL p.K F ds xs := by
  cases d <;> simp only [D.items, Option.some.injEq, reduceCtorEq] at h
  · subst h
    obtain ⟨a, xs, e, h1, h2⟩ := res_tup g r
    exact ⟨a, xs, e, .inr h1, h2⟩
  · subst h
    obtain ⟨a, xs, e, h1, h2⟩ := res_lst g r (.inl rfl)
    exact ⟨a, xs, e, .inl (SqL.of h1), h2⟩
  · subst h
    obtain ⟨a, xs, e, h1, h2⟩ := res_lst g r (.inr rfl)
    exact ⟨a, xs, e, .inl (SqL.of h1), h2⟩
theorem res_dp (g : p.G F σ δ H) {d : D} {v : V} (c : D.pure d = true) (r : Res p.K F σ δ d v) : Dp p.K H v (D.py d) := by
  cases hd : isOwn d with
  | false => exact rep_dp g.ok.fh d v c ((res_data hd).mp r)
  | true =>
    cases d <;> first | (cases hd; done) | skip
    obtain ⟨a, xs, rfl, h1, h2⟩ := res_lst g r (.inr rfl)
    exact .lst (SqL.of h1) (repL_dp g.ok.fh _ _ (by simpa only [D.pure] using c) h2)
end

/-! ## names, constants -/
section
variable {X : Cx} {p : Pt} {e a b c : Expr} {t ta tb tc : DE} {pos : Pos}
def dVar (i : Nat) : DE := fun δ Q => ∃ d, δ[i]? = some (some d) ∧ Q d
def dC (d : D) : DE := fun _ Q => Q d
theorem dv (i : Nat) {x : Str} (hN : X.N[i]? = some x := by rfl) (hv : Vis X.env.scope x := by first | exact Or.inl rfl | exact Or.inr (Or.inl rfl) | exact Or.inr (Or.inr rfl)) (hd : (x == ("__debug__" : Str)) = false := by decide)
    (hcd : (x == ("__classdict__" : Str)) = false := by decide) : PDE X p (.Name x pos) (dVar i) := by
  refine ⟨PE.imp (pe_var hN hv hd hcd) ?_⟩
  rintro σ H Q ⟨F, δ, QD, g, ⟨d, hd, q⟩, k⟩
  obtain ⟨v, h1, h2⟩ := g.var i d hd
  refine ⟨v, h1, k v H F d (Ext.refl g.ok) ?_ q⟩
  cases ho : isOwn d with
  | false => rw [res_data ho]; exact (slot_data ho).mp h2
  | true =>
    cases d <;> first | (cases ho; done) | skip
    exact ⟨i, h1, hd⟩
/-- a constant's rule -/
theorem de_const {d : D} {v : V} (h : PE X e (tC v)) (r : ∀ F σ δ, Res p.K F σ δ d v) : PDE X p e (dC d) := by
  refine ⟨PE.imp h ?_⟩
  rintro σ H Q ⟨F, δ, QD, g, q, k⟩
  exact k v H F d (Ext.refl g.ok) (r F σ δ) q
theorem de_int {i j} : PDE X p (.Constant (.int i) j pos) (dC (.int i)) := de_const pe_int fun _ _ _ => by show Rep _ _ _ _; simp only [Rep]
theorem de_bl {i j} : PDE X p (.Constant (.bool i) j pos) (dC (.bl i)) := de_const pe_bl fun _ _ _ => by show Rep _ _ _ _; simp only [Rep]
theorem de_str {i j} : PDE X p (.Constant (.str i) j pos) (dC (.str i)) := de_const pe_str fun _ _ _ => by show Rep _ _ _ _; simp only [Rep]
theorem de_non {j} : PDE X p (.Constant .none j pos) (dC .non) := de_const pe_non fun _ _ _ => by show Rep _ _ _ _; simp only [Rep]

/-! ## operators -/
abbrev DR2 := D → D → (D → Prop) → Prop
def dOp (r : DR2) (ta tb : DE) : DE := fun δ Q => ta δ fun x => tb δ fun y => r x y Q
/-- an operator's rule over data -/
def RD (p : Pt) (r : R2) (rD : DR2) : Prop := ∀ F H σ δ x y d e (QD : D → Prop) (Q : VK), p.G F σ δ H → Res p.K F σ δ d x → Res p.K F σ δ e y → rD d e QD →
  (∀ v H1 F1 d, Ext p.J F H F1 H1 → Res p.K F1 σ δ d v → QD d → Q v H1) → r x y H Q
theorem lift_op {r : R2} {rD : DR2} (h : RD p r rD) {ta tb : DE} : ∀ σ H Q, liftE p (dOp rD ta tb) σ H Q → tOp r (liftE p ta) (liftE p tb) σ H Q := by
  rintro σ H Q ⟨F, δ, QD, g, q, k⟩
  refine ⟨F, δ, _, g, q, fun x H1 F1 d e1 r1 q1 => ?_⟩
  have g1 := p.step g e1
  refine ⟨F1, δ, _, g1, q1, fun y H2 F2 e e2 r2 q2 => ?_⟩
  have g2 := p.step g1 e2
  exact h F2 H2 σ δ x y d e QD Q g2 (r1.mono e2.ff) r2 q2 fun v H3 F3 d' e3 r3 q3 => k v H3 F3 d' ((e1.trans g.ok e2).trans g.ok e3) r3 q3
theorem de_op {op : Operator} {r : R2} {rD : DR2} (ho : OpR X (binaryOp op) r) (h : RD p r rD) (ha : PDE X p a ta) (hb : PDE X p b tb) : PDE X p (.BinOp a op b pos) (dOp rD ta tb) :=
  ⟨PE.imp (pe_op ho ha.pe hb.pe) (lift_op h)⟩
theorem de_cmp {op : CmpOp} {r : R2} {rD : DR2} (ho : OpR X (compareOp op) r) (h : RD p r rD) (ha : PDE X p a ta) (hb : PDE X p b tb) (hm : behindInMarks op b = false := by rfl) : PDE X p (.Compare a [op] [b] pos) (dOp rD ta tb) :=
  ⟨PE.imp (pe_cmpR ho ha.pe hb.pe hm) (lift_op h)⟩
theorem de_ix {r : R2} {rD : DR2} (ho : IxR X r) (h : RD p r rD) (ha : PDE X p a ta) (hb : PDE X p b tb) (hs : PlainIx b := by intro _ _; rfl) : PDE X p (.Subscript a b pos) (dOp rD ta tb) :=
  ⟨PE.imp (pe_ix ho ha.pe hb.pe hs) (lift_op h)⟩
/-- a value that is a True or False as a test -/
def dTest (t : DE) : DT := fun δ Q => t δ fun x => ∃ k, x = .bl k ∧ Q k
theorem lift_B {t : DE} : ∀ σ H Q, liftT p (dTest t) σ H Q → tB (liftE p t) σ H Q := by
  rintro σ H Q ⟨F, δ, QD, g, q, k⟩
  refine ⟨F, δ, _, g, q, fun x H1 F1 d e1 r1 q1 => ?_⟩
  obtain ⟨b, rfl, q1⟩ := q1
  have r2 : Rep p.K F1 (.bl b) x := r1
  simp only [Rep] at r2
  subst r2
  exact ⟨b, rfl, k b H1 F1 e1 q1⟩
theorem dt_val (h : PDE X p e t) (he : ∀ whole, isTrue e X.env whole = (do let v ← whole; standAt e.pos; holding [v] (truthy v)) := by intro _; rfl) : PDT X p e (dTest t) :=
  ⟨PT.imp (pt_val h.pe he) lift_B⟩
theorem dt_cmp {op : CmpOp} {r : R2} {rD : DR2} (ho : OpR X (compareOp op) r) (h : RD p r rD) (ha : PDE X p a ta) (hb : PDE X p b tb) (hm : behindInMarks op b = false := by rfl) : PDT X p (.Compare a [op] [b] pos) (dTest (dOp rD ta tb)) := by
  refine ⟨PT.imp (pt_cmpR ho ha.pe hb.pe hm) ?_⟩
  intro σ H Q q
  obtain ⟨F, δ, QD, g, q, k⟩ := q
  refine lift_op h σ H _ ⟨F, δ, _, g, q, fun x H1 F1 d e1 r1 q1 => ?_⟩
  obtain ⟨b, rfl, q1⟩ := q1
  have r2 : Rep p.K F1 (.bl b) x := r1
  simp only [Rep] at r2
  subst r2
  exact ⟨b, rfl, k b H1 F1 e1 q1⟩

/-! ### which operators -/
def oI (f : Int → Int → D) : DR2 := fun x y Q => ∃ i j, x = .int i ∧ y = .int j ∧ Q (f i j)
def oIc (C : Int → Int → Prop) (f : Int → Int → D) : DR2 := fun x y Q => ∃ i j, x = .int i ∧ y = .int j ∧ C i j ∧ Q (f i j)
theorem rep_int {K : PySem.W.Frag} {F : Hp} {σ : St} {δ : DS} {i : Int} {v : V} (h : Res K F σ δ (.int i) v) : v = .int i := by
  have h' : Rep K F (.int i) v := h
  simpa only [Rep] using h'
theorem rep_bl {K : PySem.W.Frag} {F : Hp} {σ : St} {δ : DS} {i : Bool} {v : V} (h : Res K F σ δ (.bl i) v) : v = .bl i := by
  have h' : Rep K F (.bl i) v := h
  simpa only [Rep] using h'
theorem rep_str {K : PySem.W.Frag} {F : Hp} {σ : St} {δ : DS} {i : Str} {v : V} (h : Res K F σ δ (.str i) v) : v = .str i := by
  have h' : Rep K F (.str i) v := h
  simpa only [Rep] using h'
theorem rep_non {K : PySem.W.Frag} {F : Hp} {σ : St} {δ : DS} {v : V} (h : Res K F σ δ .non v) : v = .non := by
  have h' : Rep K F .non v := h
  simpa only [Rep] using h'
theorem res_int {K : PySem.W.Frag} {F : Hp} {σ : St} {δ : DS} (i : Int) : Res K F σ δ (.int i) (.int i) := by show Rep _ _ _ _; simp only [Rep]
theorem res_bl {K : PySem.W.Frag} {F : Hp} {σ : St} {δ : DS} (i : Bool) : Res K F σ δ (.bl i) (.bl i) := by show Rep _ _ _ _; simp only [Rep]
theorem rd_I0 {f : Int → Int → Int} : RD p (rI0 fun i j => .int (f i j)) (oI fun i j => .int (f i j)) := by
  rintro F H σ δ x y d e QD Q g r1 r2 ⟨i, j, rfl, rfl, q⟩ k
  exact ⟨i, j, rep_int r1, rep_int r2, k _ _ _ _ (Ext.refl g.ok) (res_int _) q⟩
theorem rd_B0 {f : Int → Int → Bool} : RD p (rI0 fun i j => .bl (f i j)) (oI fun i j => .bl (f i j)) := by
  rintro F H σ δ x y d e QD Q g r1 r2 ⟨i, j, rfl, rfl, q⟩ k
  exact ⟨i, j, rep_int r1, rep_int r2, k _ _ _ _ (Ext.refl g.ok) (res_bl _) q⟩
theorem rd_I {C : Int → Int → Prop} {f : Int → Int → Int} : RD p (rI C fun i j => .int (f i j)) (oIc C fun i j => .int (f i j)) := by
  rintro F H σ δ x y d e QD Q g r1 r2 ⟨i, j, rfl, rfl, c, q⟩ k
  exact ⟨i, j, rep_int r1, rep_int r2, c, k _ _ _ _ (Ext.refl g.ok) (res_int _) q⟩
/-- ==, != of data -/
def oEq : DR2 := fun x y Q => cmpable x ∧ cmpable y ∧ Q (.bl (D.eqv x y))
def oNe : DR2 := fun x y Q => cmpable x ∧ cmpable y ∧ Q (.bl (!D.eqv x y))
theorem rd_eq : RD p (rEqD p.K) oEq := by
  rintro F H σ δ x y d e QD Q g r1 r2 ⟨c1, c2, q⟩ k
  exact ⟨_, _, res_dp g c1.1 r1, res_dp g c2.1 r2, c1.shaped, c2.shaped, k _ _ _ _ (Ext.refl g.ok) (res_bl _) q⟩
theorem rd_ne : RD p (rNeD p.K) oNe := by
  rintro F H σ δ x y d e QD Q g r1 r2 ⟨c1, c2, q⟩ k
  exact ⟨_, _, res_dp g c1.1 r1, res_dp g c2.1 r2, c1.shaped, c2.shaped, k _ _ _ _ (Ext.refl g.ok) (res_bl _) q⟩
/-- xs[i] -/
def oIx : DR2 := fun x y Q => ∃ ds i z, D.items x = some ds ∧ y = .int i ∧ atI ds i = some z ∧ Q z
theorem atI_rep {K : PySem.W.Frag} {F : Hp} {ds : List D} {xs : List V} {i : Int} {z : D} (r : RepL K F ds xs) (h : atI ds i = some z) : ∃ v, atI xs i = some v ∧ Rep K F z v := by
  unfold atI at h ⊢
  rw [RepL.length r]
  cases e : ixN ds.length i with
  | none => rw [e] at h; cases h
  | some j =>
    rw [e] at h
    exact RepL.get r (by simpa using h)
theorem rd_ix : RD p (rIx p.K) oIx := by
  rintro F H σ δ x y d e QD Q g r1 r2 ⟨ds, i, z, hi, rfl, hz, q⟩ k
  obtain ⟨a, xs, rfl, hs, hr⟩ := res_seq g r1 hi
  obtain ⟨v, hv, rv⟩ := atI_rep hr hz
  have qq := k v H F z (Ext.refl g.ok) ((res_data (rep_data rv)).mpr rv) q
  rcases hs with hs | hs
  · exact .inl ⟨a, xs, i, v, rfl, rep_int r2, hs, hv, qq⟩
  · exact .inr (.inl ⟨a, xs, i, v, rfl, rep_int r2, hs, hv, qq⟩)
/-- x in xs, flat things -/
def flatD : D → Bool
  | .non => true | .bl _ => true | .int _ => true | .str _ => true | _ => false
def D.eqF : D → D → Bool
  | .non, .non => true
  | .bl a, .bl b => a == b
  | .bl a, .int b => (if a then 1 else 0) == b
  | .int a, .bl b => a == (if b then 1 else 0)
  | .int a, .int b => a == b
  | .str a, .str b => a == b
  | _, _ => false
def D.inF (x : D) (xs : List D) : Bool := xs.any fun y => D.eqF y x
theorem flat_rep {K : PySem.W.Frag} {F : Hp} {d : D} {v : V} (f : flatD d = true) (r : Rep K F d v) : flatV v = true := by
  cases d <;> first | (cases f; done) | (simp only [Rep] at r; subst r; rfl)
theorem eqF_rep {K : PySem.W.Frag} {F : Hp} {d e : D} {v u : V} (f : flatD d = true) (f' : flatD e = true) (r : Rep K F d v) (r' : Rep K F e u) : eqV v u = D.eqF d e := by
  cases d <;> first | (cases f; done) | (simp only [Rep] at r; subst r; cases e <;> first | (cases f'; done) | (simp only [Rep] at r'; subst r'; rfl))
theorem flats_rep {K : PySem.W.Frag} {F : Hp} : ∀ {ds : List D} {xs : List V}, ds.all flatD = true → RepL K F ds xs → xs.all flatV = true
  | [], _, _, h => by simp only [RepL] at h; subst h; rfl
  | d :: ds, _, f, h => by
    simp only [RepL] at h
    simp only [List.all_cons, Bool.and_eq_true] at f
    obtain ⟨x, r, rfl, h2, h3⟩ := h
    simp only [List.all_cons, Bool.and_eq_true]
    exact ⟨flat_rep f.1 h2, flats_rep f.2 h3⟩
theorem inF_rep {K : PySem.W.Frag} {F : Hp} {d : D} {v : V} (f : flatD d = true) (r : Rep K F d v) : ∀ {ds : List D} {xs : List V}, ds.all flatD = true → RepL K F ds xs → inV v xs = D.inF d ds
  | [], _, _, h => by simp only [RepL] at h; subst h; rfl
  | e :: ds, _, f', h => by
    simp only [RepL] at h
    simp only [List.all_cons, Bool.and_eq_true] at f'
    obtain ⟨x, rr, rfl, h2, h3⟩ := h
    have ih := inF_rep f r f'.2 h3
    unfold inV D.inF at ih ⊢
    rw [List.any_cons, List.any_cons, ih, eqF_rep f'.1 f h2 r]
def oIn (neg : Bool) : DR2 := fun x y Q => ∃ ds, D.items y = some ds ∧ flatD x = true ∧ ds.all flatD = true ∧ Q (.bl (if neg then !D.inF x ds else D.inF x ds))
theorem rd_in {neg : Bool} : RD p (rIn p.K neg) (oIn neg) := by
  rintro F H σ δ x y d e QD Q g r1 r2 ⟨ds, hi, f, fs, q⟩ k
  obtain ⟨a, xs, rfl, hs, hr⟩ := res_seq g r2 hi
  have rx : Rep p.K F d x := (res_data (by cases d <;> first | rfl | cases f)).mp r1
  refine ⟨a, xs, rfl, hs, flat_rep f rx, flats_rep fs hr, ?_⟩
  rw [inF_rep f rx fs hr]
  exact k _ _ _ _ (Ext.refl g.ok) (res_bl _) q
/-- is None, is not None -/
def isNon : D → Bool
  | .non => true | _ => false
theorem non_rep {K : PySem.W.Frag} {F : Hp} {σ : St} {δ : DS} {d : D} {v : V} (r : Res K F σ δ d v) (ho : ∀ w, d ≠ .opq w) (hw : isOwn d = false) : decide (v = V.non) = isNon d := by
  rw [res_data hw] at r
  cases d <;> simp only [Rep] at r <;> first
    | (subst r; rfl)
    | (obtain ⟨a, xs, rfl, _⟩ := r; rfl)
    | exact absurd rfl (ho _)
def oIsN : DR2 := fun x y Q => y = .non ∧ (∀ w, x ≠ .opq w) ∧ isOwn x = false ∧ Q (.bl (isNon x))
def oNotN : DR2 := fun x y Q => y = .non ∧ (∀ w, x ≠ .opq w) ∧ isOwn x = false ∧ Q (.bl (!isNon x))
theorem rd_isN : RD p (fun x y H Q => y = .non ∧ Q (.bl (decide (x = .non))) H) oIsN := by
  rintro F H σ δ x y d e QD Q g r1 r2 ⟨rfl, h1, h2, q⟩ k
  refine ⟨rep_non r2, ?_⟩
  rw [non_rep r1 h1 h2]
  exact k _ _ _ _ (Ext.refl g.ok) (res_bl _) q
theorem rd_notN : RD p (fun x y H Q => y = .non ∧ Q (.bl (!decide (x = .non))) H) oNotN := by
  rintro F H σ δ x y d e QD Q g r1 r2 ⟨rfl, h1, h2, q⟩ k
  refine ⟨rep_non r2, ?_⟩
  rw [non_rep r1 h1 h2]
  exact k _ _ _ _ (Ext.refl g.ok) (res_bl _) q
/-- t + u -/
def oCatT : DR2 := fun x y Q => ∃ xs ys, x = .tup xs ∧ y = .tup ys ∧ xs.length + ys.length ≤ sizeLine ∧ Q (.tup (xs ++ ys))
theorem rd_catT : RD p (rCatA p.K) oCatT := by
  rintro F H σ δ x y d e QD Q g r1 r2 ⟨ds, es, rfl, rfl, hl, q⟩ k
  obtain ⟨a, xs, rfl, h1, h2⟩ := res_tup g r1
  obtain ⟨b, ys, rfl, h3, h4⟩ := res_tup g r2
  have l1 := RepL.length h2
  have l2 := RepL.length h4
  refine ⟨a, b, xs, ys, rfl, rfl, h1, h3, by omega, fun e => ?_, fun _ e => ?_, fun _ _ q' hq => ?_⟩
  · subst e
    have : ds = [] := by cases ds with | nil => rfl | cons _ _ => simp at l1
    subst this
    exact k _ _ _ _ (Ext.refl g.ok) r2 q
  · subst e
    have : es = [] := by cases es with | nil => rfl | cons _ _ => simp at l2
    subst this
    rw [List.append_nil] at q
    exact k _ _ _ _ (Ext.refl g.ok) r1 q
  · have e1 := ext_new (o := .tup (xs ++ ys)) g.ok hq
    refine k _ _ _ _ e1 ?_ q
    show Rep _ _ _ _
    simp only [Rep]
    exact ⟨q', xs ++ ys, rfl, SqT.of upd_same, RepL.append (RepL.mono e1.ff _ _ h2) (RepL.mono e1.ff _ _ h4)⟩
end
end DL
set_option Elab.async false
set_option linter.all false
set_option maxRecDepth 100000
namespace DL
open PySem PySem.Spec PyProof.Rows L2

/-! ## arguments, displays -/
def dNil : DA := fun _ Q => Q []
def dCons (t : DE) (r : DA) : DA := fun δ Q => t δ fun d => isOwn d = false ∧ r δ fun ds => Q (d :: ds)
def dStar (t : DE) (r : DA) : DA := fun δ Q => t δ fun d => ∃ xs, D.items d = some xs ∧ r δ fun ds => Q (xs ++ ds)
def dTup (t : DA) : DE := fun δ Q => t δ fun ds => ds.length ≤ sizeLine ∧ Q (.tup ds)
def dLst (t : DA) : DA := fun δ Q => t δ fun ds => ds.length ≤ sizeLine ∧ Q ds
def dL (t : DA) : DE := fun δ Q => t δ fun ds => Q (.lst ds)
section
variable {X : Cx} {p : Pt} {e a b c : Expr} {es : List Expr} {t ta tb tc : DE} {r : DA} {pos : Pos}
theorem da_nil : PDA X p [] dNil := by
  refine ⟨PA.imp pa_nil ?_⟩
  rintro σ H Q ⟨F, δ, QD, g, q, k⟩
  exact k _ _ _ _ (Ext.refl g.ok) RepL.nil q
theorem da_cons (ha : PDE X p e t) (hr : PDA X p es r) (hs : starEach (e :: es) X.env = (false, eval e X.env) :: starEach es X.env := by rfl) : PDA X p (e :: es) (dCons t r) := by
  refine ⟨PA.imp (pa_cons ha.pe hr.pa hs) ?_⟩
  rintro σ H Q ⟨F, δ, QD, g, q, k⟩
  refine ⟨F, δ, _, g, q, fun x H1 F1 d e1 r1 ⟨ho, q1⟩ => ?_⟩
  have g1 := p.step g e1
  refine ⟨F1, δ, _, g1, q1, fun vs H2 F2 ds e2 r2 q2 => ?_⟩
  exact k (x :: vs) H2 F2 (d :: ds) (e1.trans g.ok e2) (RepL.cons (Rep.mono e2.ff _ _ ((res_data ho).mp r1)) r2) q2
theorem da_star {sp : Pos} (ha : PDE X p e t) (hr : PDA X p es r) (hk : p.K = X.K) (hs : starEach (.Starred e sp :: es) X.env = (true, eval e X.env) :: starEach es X.env := by rfl) : PDA X p (.Starred e sp :: es) (dStar t r) := by
  refine ⟨PA.imp (StX.pa_star ha.pe hr.pa hs) ?_⟩
  rintro σ H Q ⟨F, δ, QD, g, q, k⟩
  refine ⟨F, δ, _, g, q, fun x H1 F1 d e1 r1 ⟨ds0, hi, q1⟩ => ?_⟩
  have g1 := p.step g e1
  obtain ⟨a, xs, rfl, h1, h2⟩ := res_seq g1 r1 hi
  refine ⟨a, xs, rfl, ?_, F1, δ, _, g1, q1, fun vs H2 F2 ds e2 r2 q2 => ?_⟩
  · rw [← hk]; exact h1.symm
  · exact k (xs ++ vs) H2 F2 (ds0 ++ ds) (e1.trans g.ok e2) (RepL.append (RepL.mono e2.ff _ _ h2) r2) q2
theorem de_tup {j} (h : PDA X p es r) : PDE X p (.Tuple es j pos) (dTup r) := by
  refine ⟨PE.imp (pe_tup h.pa) ?_⟩
  rintro σ H Q ⟨F, δ, QD, g, q, k⟩
  refine ⟨F, δ, _, g, q, fun vs H1 F1 ds e1 r1 ⟨hl, q1⟩ => ⟨by rw [RepL.length r1]; exact hl, fun a ha => ?_⟩⟩
  have e2 := ext_new (o := .tup vs) e1.ok ha
  refine k _ _ _ _ (e1.trans g.ok e2) ?_ q1
  show Rep _ _ _ _
  simp only [Rep]
  exact ⟨a, vs, rfl, SqT.of upd_same, RepL.mono e2.ff _ _ r1⟩
theorem dl_lst (h : PDA X p es r) : PDL X p (.List es pos) (dLst r) := by
  refine ⟨PE.imp (pe_lst h.pa) ?_⟩
  rintro σ H Q ⟨F, δ, QD, g, q, k⟩
  refine ⟨F, δ, _, g, q, fun vs H1 F1 ds e1 r1 ⟨hl, q1⟩ => ⟨by rw [RepL.length r1]; exact hl, fun a ha => ?_⟩⟩
  have hH : H a = none := by
    by_cases hd : p.J.dom a
    · obtain ⟨o, e⟩ := p.J.trk _ a e1.ok.inv hd
      rw [ha] at e; cases e
    · cases q : H a with
      | none => rfl
      | some o => rw [e1.keep a o q hd] at ha; cases ha
  exact k a vs _ F1 ds (e1.trans g.ok (ext_raw e1.ok ha)) hH (fnone e1.ok ha) upd_same r1 q1
/-- an address that is new behind an extension was new ahead of it -/
theorem Ext.back {J : Reg} {F H F' H' : Hp} (e : Ext J F H F' H') {a : Addr} (ha : H' a = none) : H a = none := by
  by_cases hd : J.dom a
  · obtain ⟨o, q⟩ := J.trk _ a e.ok.inv hd
    rw [ha] at q; cases q
  · cases q : H a with
    | none => rfl
    | some o => rw [e.keep a o q hd] at ha; cases ha
/-- a new list becomes frozen -/
theorem ext_freeze {J : Reg} {F H F1 H1 : Hp} (e : Ext J F H F1 H1) {a : Addr} {o : HO} (h0 : H a = none) (h1 : F1 a = none) (h2 : H1 a = some o) (hj : ¬ J.dom a) : Ext J F H (L2.upd F1 a o) H1 where
  ok := {
    fh := fun b u q => by
      by_cases hb : b = a
      · subst hb; rw [upd_same] at q; rw [h2]; exact q
      · rw [upd_ne hb] at q; exact e.ok.fh b u q
    inv := e.ok.inv
    nf := fun b hb => by
      by_cases hb' : b = a
      · exact absurd (hb' ▸ hb) hj
      · rw [upd_ne hb']; exact e.ok.nf b hb }
  ff := e.ff.trans (same_new h1)
  keep := e.keep
  new := fun b u q n => by
    by_cases hb : b = a
    · rw [hb, h0] at q; cases q
    · rw [upd_ne hb]; exact e.new b u q n
theorem nodom {J : Reg} {F H : Hp} (x : Ok J F H) {a : Addr} (h : H a = none) : ¬ J.dom a := fun hd => by
  obtain ⟨o, q⟩ := J.trk _ a x.inv hd
  rw [h] at q; cases q
/-- a new list as a value: it is frozen -/
theorem de_of_dl (h : PDL X p e r) : PDE X p e (dL r) := by
  refine ⟨PE.imp h.pe ?_⟩
  rintro σ H Q ⟨F, δ, QD, g, q, k⟩
  refine ⟨F, δ, _, g, q, fun a xs H1 F1 ds e1 h0 h1 h2 r1 q1 => ?_⟩
  have e2 := ext_freeze (o := .lst xs) e1 h0 h1 h2 (nodom g.ok h0)
  refine k _ _ _ _ e2 ?_ q1
  show Rep _ _ _ _
  simp only [Rep]
  exact ⟨a, xs, rfl, upd_same, RepL.mono (same_new h1) _ _ r1⟩

/-! ## operators that make lists -/
def lstOf : D → Option (List D)
  | .lst xs => some xs | .own xs => some xs | _ => none
theorem res_lstOf {F H : Hp} {σ : St} {δ : DS} (g : p.G F σ δ H) {d : D} {v : V} (r : Res p.K F σ δ d v) {ds : List D} (h : lstOf d = some ds) : ∃ a xs, v = .ref a ∧ H a = some (.lst xs) ∧ RepL p.K F ds xs := by
  cases d <;> simp only [lstOf, Option.some.injEq, reduceCtorEq] at h
  · subst h; exact res_lst g r (.inl rfl)
  · subst h; exact res_lst g r (.inr rfl)
/-- an operator that makes a new list -/
abbrev DR2L := D → D → (List D → Prop) → Prop
def dOpL (r : DR2L) (ta tb : DE) : DA := fun δ Q => ta δ fun x => tb δ fun y => r x y Q
def RDL (p : Pt) (r : R2) (rD : DR2L) : Prop := ∀ F H σ δ x y d e (QD : List D → Prop) (Q : VK), p.G F σ δ H → Res p.K F σ δ d x → Res p.K F σ δ e y → rD d e QD →
  (∀ a xs ds, H a = none → RepL p.K F ds xs → QD ds → Q (.ref a) (L2.upd H a (.lst xs))) → r x y H Q
theorem dl_op {op : Operator} {r : R2} {rD : DR2L} (ho : OpR X (binaryOp op) r) (h : RDL p r rD) (ha : PDE X p a ta) (hb : PDE X p b tb) : PDL X p (.BinOp a op b pos) (dOpL rD ta tb) := by
  refine ⟨PE.imp (pe_op ho ha.pe hb.pe) ?_⟩
  rintro σ H Q ⟨F, δ, QD, g, q, k⟩
  refine ⟨F, δ, _, g, q, fun x H1 F1 d e1 r1 q1 => ?_⟩
  have g1 := p.step g e1
  refine ⟨F1, δ, _, g1, q1, fun y H2 F2 e e2 r2 q2 => ?_⟩
  have g2 := p.step g1 e2
  have e3 := e1.trans g.ok e2
  refine h F2 H2 σ δ x y d e QD Q g2 (r1.mono e2.ff) r2 q2 fun a xs ds hn hr hq => ?_
  exact k a xs _ F2 ds (e3.trans g.ok (ext_raw e3.ok hn)) (e3.back hn) (fnone e3.ok hn) upd_same hr hq
def oCatL : DR2L := fun x y Q => ∃ xs ys, lstOf x = some xs ∧ lstOf y = some ys ∧ xs.length + ys.length ≤ sizeLine ∧ Q (xs ++ ys)
theorem rd_catL : RDL p rCat oCatL := by
  rintro F H σ δ x y d e QD Q g r1 r2 ⟨ds, es, h1, h2, hl, q⟩ k
  obtain ⟨a, xs, rfl, h3, h4⟩ := res_lstOf g r1 h1
  obtain ⟨b, ys, rfl, h5, h6⟩ := res_lstOf g r2 h2
  have l1 := RepL.length h4
  have l2 := RepL.length h6
  exact ⟨a, b, xs, ys, rfl, rfl, h3, h5, by omega, fun p hp => k p _ _ hp (RepL.append h4 h6) q⟩
def oRepL : DR2L := fun x y Q => ∃ xs k, lstOf x = some xs ∧ y = .int k ∧ k ≤ 1000000 ∧ -1000000 ≤ k ∧ xs.length * k.toNat ≤ sizeLine ∧ Q (List.replicate k.toNat xs).flatten
theorem rd_repL : RDL p rRep oRepL := by
  rintro F H σ δ x y d e QD Q g r1 r2 ⟨ds, n, h1, rfl, b1, b2, hl, q⟩ k
  obtain ⟨a, xs, rfl, h3, h4⟩ := res_lstOf g r1 h1
  have l1 := RepL.length h4
  exact ⟨a, n, xs, rfl, rep_int r2, h3, by omega, by omega, by rw [l1]; exact hl, fun p hp => k p _ _ hp (RepL.rep h4 _) q⟩

/-! ## slices -/
abbrev DOp := DS → (Option Int → Prop) → Prop
def liftO (p : Pt) (t : DOp) : TO := fun σ H Q => ∃ F δ QD, p.G F σ δ H ∧ t δ QD ∧ ∀ o H1 F1, Ext p.J F H F1 H1 → QD o → Q o H1
structure PDO (X : Cx) (p : Pt) (e : Option Expr) (t : DOp) : Prop where
  po : PO X e (liftO p t)
def dNo : DOp := fun _ Q => Q none
def dPart (t : DE) : DOp := fun δ Q => t δ fun x => ∃ i, x = .int i ∧ Q (some i)
theorem PO.imp {X : Cx} {e : Option Expr} {t t' : TO} (h : PO X e t) (i : ∀ σ H Q, t' σ H Q → t σ H Q) : PO X e t' := ⟨fun pins s σ H Q I q => h.run pins s σ H Q I (i σ H Q q)⟩
theorem do_none : PDO X p none dNo := by
  refine ⟨PO.imp po_none ?_⟩
  rintro σ H Q ⟨F, δ, QD, g, q, k⟩
  exact k none H F (Ext.refl g.ok) q
theorem do_some (h : PDE X p e t) : PDO X p (some e) (dPart t) := by
  refine ⟨PO.imp (po_some h.pe) ?_⟩
  rintro σ H Q ⟨F, δ, QD, g, q, k⟩
  refine ⟨F, δ, _, g, q, fun x H1 F1 d e1 r1 ⟨i, ei, q1⟩ => ?_⟩
  subst ei
  exact ⟨i, rep_int r1, k (some i) H1 F1 e1 q1⟩
def cutD (xs : List D) (lo hi : Option Int) : List D := (xs.drop (HT.sIx xs.length 0 lo)).take (HT.sIx xs.length xs.length hi - HT.sIx xs.length 0 lo)
theorem cut_rep {K : PySem.W.Frag} {F : Hp} {ds : List D} {xs : List V} {lo hi : Option Int} (r : RepL K F ds xs) : RepL K F (cutD ds lo hi) (cutV xs lo hi) := by
  unfold cutD cutV
  rw [RepL.length r]
  exact RepL.take _ (RepL.drop _ r)
variable {lo hi : Option Expr} {tl th : DOp} {p2 : Pos}
/-- t[lo:hi] of a tuple -/
def dSlT (t : DE) (tl th : DOp) : DE := fun δ Q => t δ fun x => tl δ fun l => th δ fun u => ∃ xs, x = .tup xs ∧ Q (.tup (cutD xs l u))
theorem de_slT (hk : p.K = X.K) (he : PDE X p e t) (hl : PDO X p lo tl) (hu : PDO X p hi th) : PDE X p (.Subscript e (.Slice lo hi none p2) pos) (dSlT t tl th) := by
  refine ⟨PE.imp (pe_slice sl_tupA he.pe hl.po hu.po) ?_⟩
  rintro σ H Q ⟨F, δ, QD, g, q, k⟩
  refine ⟨F, δ, _, g, q, fun x H1 F1 d e1 r1 q1 => ?_⟩
  have g1 := p.step g e1
  refine ⟨F1, δ, _, g1, q1, fun l H2 F2 e2 q2 => ?_⟩
  have g2 := p.step g1 e2
  refine ⟨F2, δ, _, g2, q2, fun u H3 F3 e3 q3 => ?_⟩
  have g3 := p.step g2 e3
  obtain ⟨ds, rfl, q3⟩ := q3
  have r3 := (r1.mono e2.ff).mono e3.ff
  have e5 := (e1.trans g.ok e2).trans g.ok e3
  obtain ⟨a, xs, rfl, h1, h2⟩ := res_tup g3 r3
  refine ⟨a, xs, rfl, by rw [← hk]; exact h1, fun ⟨w1, w2⟩ => ?_, fun w a' ha => ?_⟩
  · have : cutD ds l u = ds := by
      unfold cutD
      rw [← RepL.length h2, w1, w2, List.drop_zero, Nat.sub_zero, RepL.length h2]
      exact List.take_length
    rw [this] at q3
    exact k _ _ _ _ e5 r3 q3
  · have e4 := ext_new (o := .tup (cutV xs l u)) e5.ok ha
    refine k _ _ _ _ (e5.trans g.ok e4) ?_ q3
    show Rep _ _ _ _
    simp only [Rep]
    exact ⟨a', _, rfl, SqT.of upd_same, RepL.mono e4.ff _ _ (cut_rep h2)⟩
/-- xs[lo:hi] of a list -/
def dSlL (t : DE) (tl th : DOp) : DA := fun δ Q => t δ fun x => tl δ fun l => th δ fun u => ∃ xs, lstOf x = some xs ∧ Q (cutD xs l u)
theorem dl_slL (he : PDE X p e t) (hl : PDO X p lo tl) (hu : PDO X p hi th) : PDL X p (.Subscript e (.Slice lo hi none p2) pos) (dSlL t tl th) := by
  refine ⟨PE.imp (pe_slice sl_list he.pe hl.po hu.po) ?_⟩
  rintro σ H Q ⟨F, δ, QD, g, q, k⟩
  refine ⟨F, δ, _, g, q, fun x H1 F1 d e1 r1 q1 => ?_⟩
  have g1 := p.step g e1
  refine ⟨F1, δ, _, g1, q1, fun l H2 F2 e2 q2 => ?_⟩
  have g2 := p.step g1 e2
  refine ⟨F2, δ, _, g2, q2, fun u H3 F3 e3 q3 => ?_⟩
  have g3 := p.step g2 e3
  obtain ⟨ds, hd, q3⟩ := q3
  have r3 := (r1.mono e2.ff).mono e3.ff
  have e5 := (e1.trans g.ok e2).trans g.ok e3
  obtain ⟨a, xs, rfl, h1, h2⟩ := res_lstOf g3 r3 hd
  exact ⟨a, xs, rfl, SqL.of h1, fun a' ha => k a' _ _ F3 _ (e5.trans g.ok (ext_raw e5.ok ha)) (e5.back ha) (fnone e5.ok ha) upd_same (cut_rep h2) q3⟩
end

/-! ## calls of what is built in -/
section
variable {X : Cx} {p : Pt} {e a b c : Expr} {es : List Expr} {t ta tb tc : DE} {r : DA} {pos p1 : Pos} {x : Str}
/-- one operand that is read -/
theorem lift_one {r : List V → Hp → VK → Prop} {rD : D → (D → Prop) → Prop} (h : ∀ F H σ δ x d (QD : D → Prop) (Q : VK), p.G F σ δ H → Res p.K F σ δ d x → rD d QD → (∀ v H1 F1 d, Ext p.J F H F1 H1 → Res p.K F1 σ δ d v → QD d → Q v H1) → r [x] H Q) {t : DE} :
    ∀ σ H Q, liftE p (fun δ Q => t δ fun x => rD x Q) σ H Q → tCB r (tCons (liftE p t) tNil) σ H Q := by
  rintro σ H Q ⟨F, δ, QD, g, q, k⟩
  refine ⟨F, δ, _, g, q, fun x H1 F1 d e1 r1 q1 => ?_⟩
  have g1 := p.step g e1
  exact h F1 H1 σ δ x d QD Q g1 r1 q1 fun v H2 F2 d' e2 r2 q2 => k v H2 F2 d' (e1.trans g.ok e2) r2 q2
theorem de_call1B {id : String} {r : List V → Hp → VK → Prop} {rD : D → (D → Prop) → Prop} (hc : CallR X (.builtin id) r) (h : ∀ F H σ δ x d (QD : D → Prop) (Q : VK), p.G F σ δ H → Res p.K F σ δ d x → rD d QD → (∀ v H1 F1 d, Ext p.J F H F1 H1 → Res p.K F1 σ δ d v → QD d → Q v H1) → r [x] H Q)
    (hg : Gl X x) (hm : X.mg x = none) (hv : bootBuiltins x = some (.builtin id)) (ha : PDE X p a t) (hn : x ≠ "__name__" := by decide) (hdb : (x == ("__debug__" : Str)) = false := by decide)
    (he : starEach (a :: []) X.env = (false, eval a X.env) :: starEach [] X.env := by rfl) (hpl : (backTo pos (starEach [] X.env)).any (·.1) = false := by rfl) :
    PDE X p (.Call (.Name x p1) [a] [] pos) (fun δ Q => t δ fun x => rD x Q) :=
  ⟨PE.imp (pe_callB hc hg hm hv (pa_cons ha.pe pa_nil he) hn hdb he hpl) (lift_one h)⟩
theorem de_call1T {T : String} {r : List V → Hp → VK → Prop} {rD : D → (D → Prop) → Prop} (hc : CallR X (.type T) r) (h : ∀ F H σ δ x d (QD : D → Prop) (Q : VK), p.G F σ δ H → Res p.K F σ δ d x → rD d QD → (∀ v H1 F1 d, Ext p.J F H F1 H1 → Res p.K F1 σ δ d v → QD d → Q v H1) → r [x] H Q)
    (hg : Gl X x) (hm : X.mg x = none) (hv : bootBuiltins x = some (.type T)) (ha : PDE X p a t) (hn : x ≠ "__name__" := by decide) (hdb : (x == ("__debug__" : Str)) = false := by decide)
    (he : starEach (a :: []) X.env = (false, eval a X.env) :: starEach [] X.env := by rfl) (hpl : (backTo pos (starEach [] X.env)).any (·.1) = false := by rfl) :
    PDE X p (.Call (.Name x p1) [a] [] pos) (fun δ Q => t δ fun x => rD x Q) :=
  ⟨PE.imp (pe_callTy hc hg hm hv (pa_cons ha.pe pa_nil he) hn hdb he hpl) (lift_one h)⟩
/-- len -/
def rLen (x : D) (Q : D → Prop) : Prop := ∃ xs, D.items x = some xs ∧ Q (.int xs.length)
def dLen (t : DE) : DE := fun δ Q => t δ fun x => rLen x Q
theorem de_len (hk : p.K = X.K) (hg : Gl X "len") (hm : X.mg "len" = none) (ha : PDE X p a t) 
    (he : starEach (a :: []) X.env = (false, eval a X.env) :: starEach [] X.env := by rfl) (hpl : (backTo pos (starEach [] X.env)).any (·.1) = false := by rfl) : PDE X p (.Call (.Name "len" p1) [a] [] pos) (dLen t) := by
  refine de_call1B (rD := rLen) call_len_seq ?_ hg hm PySem.boot_len ha (by decide) (by decide) he hpl
  rintro F H σ δ x d QD Q g r1 ⟨ds, hi, q⟩ k
  obtain ⟨a, xs, rfl, h1, h2⟩ := res_seq g r1 hi
  refine ⟨a, xs, rfl, by rw [← hk]; exact h1, ?_⟩
  rw [RepL.length h2]
  exact k _ _ _ _ (Ext.refl g.ok) (res_int _) q
/-- tuple(xs) -/
def rTup (x : D) (Q : D → Prop) : Prop := ∃ xs, D.items x = some xs ∧ Q (.tup xs)
def dTupOf (t : DE) : DE := fun δ Q => t δ fun x => rTup x Q
theorem de_tupOf (hk : p.K = X.K) (hg : Gl X "tuple") (hm : X.mg "tuple" = none) (ha : PDE X p a t) 
    (he : starEach (a :: []) X.env = (false, eval a X.env) :: starEach [] X.env := by rfl) (hpl : (backTo pos (starEach [] X.env)).any (·.1) = false := by rfl) : PDE X p (.Call (.Name "tuple" p1) [a] [] pos) (dTupOf t) := by
  refine de_call1T (rD := rTup) call_tuple_of ?_ hg hm (by decide +kernel) ha (by decide) (by decide) he hpl
  rintro F H σ δ x d QD Q g r1 ⟨ds, hi, q⟩ k
  cases d <;> simp only [D.items, Option.some.injEq, reduceCtorEq] at hi
  · subst hi
    obtain ⟨a, xs, rfl, h1, h2⟩ := res_tup g r1
    exact ⟨a, xs, rfl, .inr ⟨by rw [← hk]; exact h1, k _ _ _ _ (Ext.refl g.ok) r1 q⟩⟩
  all_goals
    subst hi
    obtain ⟨a, xs, rfl, h1, h2⟩ := res_lst g r1 (by first | exact .inl rfl | exact .inr rfl)
    refine ⟨a, xs, rfl, .inl ⟨SqL.of h1, fun l hl => ?_⟩⟩
    have e2 := ext_new (o := .tup xs) g.ok hl
    refine k _ _ _ _ e2 ?_ q
    show Rep _ _ _ _
    simp only [Rep]
    exact ⟨l, xs, rfl, SqT.of upd_same, RepL.mono e2.ff _ _ h2⟩
/-- list(xs) -/
def dListOf (t : DE) : DA := fun δ Q => t δ fun x => ∃ xs, D.items x = some xs ∧ Q xs
theorem dl_listOf (hk : p.K = X.K) (hg : Gl X "list") (hm : X.mg "list" = none) (ha : PDE X p a t) 
    (he : starEach (a :: []) X.env = (false, eval a X.env) :: starEach [] X.env := by rfl) (hpl : (backTo pos (starEach [] X.env)).any (·.1) = false := by rfl) : PDL X p (.Call (.Name "list" p1) [a] [] pos) (dListOf t) := by
  refine ⟨PE.imp (pe_callTy call_list_of hg hm (by decide +kernel) (pa_cons ha.pe pa_nil he) (by decide) (by decide) he hpl) ?_⟩
  rintro σ H Q ⟨F, δ, QD, g, q, k⟩
  refine ⟨F, δ, _, g, q, fun x H1 F1 d e1 r1 ⟨ds, hi, q1⟩ => ?_⟩
  have g1 := p.step g e1
  obtain ⟨a, xs, rfl, h1, h2⟩ := res_seq g1 r1 hi
  refine ⟨a, xs, rfl, by rw [← hk]; exact h1, fun l hl => ?_⟩
  exact k l xs _ F1 ds (e1.trans g.ok (ext_raw e1.ok hl)) (e1.back hl) (fnone e1.ok hl) upd_same h2 q1
/-- abs, int of an int -/
def rAbs (x : D) (Q : D → Prop) : Prop := ∃ i, x = .int i ∧ Q (.int (if i < 0 then -i else i))
def dAbs (t : DE) : DE := fun δ Q => t δ fun x => rAbs x Q
theorem de_abs (hg : Gl X "abs") (hm : X.mg "abs" = none) (ha : PDE X p a t) 
    (he : starEach (a :: []) X.env = (false, eval a X.env) :: starEach [] X.env := by rfl) (hpl : (backTo pos (starEach [] X.env)).any (·.1) = false := by rfl) : PDE X p (.Call (.Name "abs" p1) [a] [] pos) (dAbs t) := by
  refine de_call1B (rD := rAbs) call_abs ?_ hg hm (by decide +kernel) ha (by decide) (by decide) he hpl
  rintro F H σ δ x d QD Q g r1 ⟨i, rfl, q⟩ k
  rw [rep_int r1]
  exact ⟨i, rfl, k _ _ _ _ (Ext.refl g.ok) (res_int _) q⟩
def rIntOf (x : D) (Q : D → Prop) : Prop := ∃ i, x = .int i ∧ Q (.int i)
def dIntOf (t : DE) : DE := fun δ Q => t δ fun x => rIntOf x Q
theorem de_intOf (hg : Gl X "int") (hm : X.mg "int" = none) (ha : PDE X p a t) 
    (he : starEach (a :: []) X.env = (false, eval a X.env) :: starEach [] X.env := by rfl) (hpl : (backTo pos (starEach [] X.env)).any (·.1) = false := by rfl) : PDE X p (.Call (.Name "int" p1) [a] [] pos) (dIntOf t) := by
  refine de_call1T (rD := rIntOf) call_int1 ?_ hg hm (by decide +kernel) ha (by decide) (by decide) he hpl
  rintro F H σ δ x d QD Q g r1 ⟨i, rfl, q⟩ k
  rw [rep_int r1]
  exact .inl ⟨i, rfl, k _ _ _ _ (Ext.refl g.ok) (res_int _) q⟩
/-- all of a list of truth values -/
def rAllD (x : D) (Q : D → Prop) : Prop := ∃ bs : List Bool, lstOf x = some (bs.map D.bl) ∧ Q (.bl (bs.all id))
def rAnyD (x : D) (Q : D → Prop) : Prop := ∃ bs : List Bool, lstOf x = some (bs.map D.bl) ∧ Q (.bl (bs.any id))
def rSumD (x : D) (Q : D → Prop) : Prop := ∃ ns : List Int, lstOf x = some (ns.map D.int) ∧ Q (.int ns.sum)
def dAll (t : DE) : DE := fun δ Q => t δ fun x => rAllD x Q
def dAny (t : DE) : DE := fun δ Q => t δ fun x => rAnyD x Q
def dSum (t : DE) : DE := fun δ Q => t δ fun x => rSumD x Q
theorem de_all (hc : X.calm = true) (hg : Gl X "all") (hm : X.mg "all" = none) (ha : PDE X p a t) 
    (he : starEach (a :: []) X.env = (false, eval a X.env) :: starEach [] X.env := by rfl) (hpl : (backTo pos (starEach [] X.env)).any (·.1) = false := by rfl) : PDE X p (.Call (.Name "all" p1) [a] [] pos) (dAll t) := by
  refine de_call1B (rD := rAllD) (cr_all hc) ?_ hg hm (by decide +kernel) ha (by decide) (by decide) he hpl
  rintro F H σ δ x d QD Q g r1 ⟨bs, hi, q⟩ k
  obtain ⟨a, xs, rfl, h1, h2⟩ := res_lstOf g r1 hi
  rw [RepL.bls h2] at h1
  exact ⟨a, bs, rfl, SqL.of h1, k _ _ _ _ (Ext.refl g.ok) (res_bl _) q⟩
theorem de_any (hc : X.calm = true) (hg : Gl X "any") (hm : X.mg "any" = none) (ha : PDE X p a t) 
    (he : starEach (a :: []) X.env = (false, eval a X.env) :: starEach [] X.env := by rfl) (hpl : (backTo pos (starEach [] X.env)).any (·.1) = false := by rfl) : PDE X p (.Call (.Name "any" p1) [a] [] pos) (dAny t) := by
  refine de_call1B (rD := rAnyD) (cr_any hc) ?_ hg hm (by decide +kernel) ha (by decide) (by decide) he hpl
  rintro F H σ δ x d QD Q g r1 ⟨bs, hi, q⟩ k
  obtain ⟨a, xs, rfl, h1, h2⟩ := res_lstOf g r1 hi
  rw [RepL.bls h2] at h1
  exact ⟨a, bs, rfl, SqL.of h1, k _ _ _ _ (Ext.refl g.ok) (res_bl _) q⟩
theorem de_sum (hc : X.calm = true) (hg : Gl X "sum") (hm : X.mg "sum" = none) (ha : PDE X p a t) 
    (he : starEach (a :: []) X.env = (false, eval a X.env) :: starEach [] X.env := by rfl) (hpl : (backTo pos (starEach [] X.env)).any (·.1) = false := by rfl) : PDE X p (.Call (.Name "sum" p1) [a] [] pos) (dSum t) := by
  refine de_call1B (rD := rSumD) (cr_sum hc) ?_ hg hm (by decide +kernel) ha (by decide) (by decide) he hpl
  rintro F H σ δ x d QD Q g r1 ⟨bs, hi, q⟩ k
  obtain ⟨a, xs, rfl, h1, h2⟩ := res_lstOf g r1 hi
  rw [RepL.ints h2] at h1
  exact ⟨a, bs, rfl, SqL.of h1, k _ _ _ _ (Ext.refl g.ok) (res_int _) q⟩
/-- min, max of two ints -/
theorem lift_two {r : List V → Hp → VK → Prop} {rD : DR2} (h : RD p (fun x y => r [x, y]) rD) {ta tb : DE} : ∀ σ H Q, liftE p (dOp rD ta tb) σ H Q → tCB r (tCons (liftE p ta) (tCons (liftE p tb) tNil)) σ H Q := lift_op h
theorem de_call2B {id : String} {r : List V → Hp → VK → Prop} {rD : DR2} (hc : CallR X (.builtin id) r) (h : RD p (fun x y => r [x, y]) rD)
    (hg : Gl X x) (hm : X.mg x = none) (hv : bootBuiltins x = some (.builtin id)) (ha : PDE X p a ta) (hb : PDE X p b tb) (hn : x ≠ "__name__" := by decide) (hdb : (x == ("__debug__" : Str)) = false := by decide)
    (he : starEach (a :: [b]) X.env = (false, eval a X.env) :: starEach [b] X.env := by rfl) (he2 : starEach (b :: []) X.env = (false, eval b X.env) :: starEach [] X.env := by rfl) (hpl : (backTo pos (starEach [b] X.env)).any (·.1) = false := by rfl) :
    PDE X p (.Call (.Name x p1) [a, b] [] pos) (dOp rD ta tb) :=
  ⟨PE.imp (pe_callB hc hg hm hv (pa_cons ha.pe (pa_cons hb.pe pa_nil he2) he) hn hdb he hpl) (lift_two h)⟩
abbrev oMax : DR2 := oI fun i j => .int (if j > i then j else i)
abbrev oMin : DR2 := oI fun i j => .int (if j < i then j else i)
theorem rd_max : RD p (fun x y => (fun xs H Q => ∃ i j, xs = [V.int i, V.int j] ∧ Q (.int (if j > i then j else i)) H : List V → Hp → VK → Prop) [x, y]) oMax := by
  rintro F H σ δ x y d e QD Q g r1 r2 ⟨i, j, rfl, rfl, q⟩ k
  rw [rep_int r1, rep_int r2]
  exact ⟨i, j, rfl, k _ _ _ _ (Ext.refl g.ok) (res_int _) q⟩
theorem rd_min : RD p (fun x y => (fun xs H Q => ∃ i j, xs = [V.int i, V.int j] ∧ Q (.int (if j < i then j else i)) H : List V → Hp → VK → Prop) [x, y]) oMin := by
  rintro F H σ δ x y d e QD Q g r1 r2 ⟨i, j, rfl, rfl, q⟩ k
  rw [rep_int r1, rep_int r2]
  exact ⟨i, j, rfl, k _ _ _ _ (Ext.refl g.ok) (res_int _) q⟩

/-! ## isinstance of data -/
def D.tyN : D → String
  | .non => "NoneType" | .bl _ => "bool" | .int _ => "int" | .str _ => "str" | .tup _ => "tuple" | .lst _ => "list" | .own _ => "list" | .opq _ => ""
def D.inst (d : D) (T : String) : Bool := match d with
  | .non => T == "NoneType" | .bl _ => T == "bool" || T == "int" | .int _ => T == "int" | .str _ => T == "str" | .tup _ => T == "tuple" | .lst _ => T == "list" | .own _ => T == "list" | .opq _ => false
/-- the built-in types that are asked -/
def askedTy (T : String) : Bool := T == "int" || T == "bool" || T == "str" || T == "tuple" || T == "list"
theorem kit_inst {d : D} {T : String} (ho : ∀ w, d ≠ .opq w) (h : askedTy T = true) : kitB (D.tyN d) T = some (D.inst d T) := by
  unfold askedTy at h
  simp only [Bool.or_eq_true, beq_iff_eq] at h
  rcases h with (((h | h) | h) | h) | h <;> subst h <;> cases d <;> first | exact absurd rfl (ho _) | (show kitB _ _ = _; simp only [D.tyN, D.inst]; decide +kernel)
theorem ty_of {F H : Hp} {σ : St} {δ : DS} (g : p.G F σ δ H) {d : D} {v : V} (ho : ∀ w, d ≠ .opq w) (r : Res p.K F σ δ d v) : TyX p.K H v (.type (D.tyN d)) := by
  cases d with
  | non => rw [rep_non r]; exact .base .non
  | bl b => rw [rep_bl r]; exact .base (.bl b)
  | int i => rw [rep_int r]; exact .base (.int i)
  | str x => rw [rep_str r]; exact .base (.str x)
  | opq w => exact absurd rfl (ho w)
  | tup xs =>
    obtain ⟨a, ys, rfl, h1, _⟩ := res_tup g r
    rcases h1 with (h1 | ⟨o, h1⟩) | ⟨o, its, n, h1, h2, _⟩
    · exact .base (.tup h1)
    · exact .fTuple h1
    · exact .kTuple h1 h2
  | lst xs =>
    obtain ⟨a, ys, rfl, h1, _⟩ := res_lst g r (.inl rfl)
    exact .base (.lst h1)
  | own xs =>
    obtain ⟨a, ys, rfl, h1, _⟩ := res_lst g r (.inr rfl)
    exact .base (.lst h1)
def dInst (T : String) (t : DE) : DE := fun δ Q => t δ fun x => (∀ w, x ≠ .opq w) ∧ Q (.bl (D.inst x T))
theorem de_inst {T : String} {y : Str} {p2 : Pos} (hk : p.K = X.K) (hT : askedTy T = true) (hg : Gl X "isinstance") (hm : X.mg "isinstance" = none) (hy : Gl X y) (hmy : X.mg y = none) (hvy : bootBuiltins y = some (.type T)) (ha : PDE X p a t) (hny : y ≠ "__name__" := by decide) (hdy : (y == ("__debug__" : Str)) = false := by decide)
    (he : starEach (a :: [.Name y p2]) X.env = (false, eval a X.env) :: starEach [.Name y p2] X.env := by rfl) (he2 : starEach (.Name y p2 :: []) X.env = (false, eval (.Name y p2) X.env) :: starEach [] X.env := by rfl) (hpl : (backTo pos (starEach [.Name y p2] X.env)).any (·.1) = false := by rfl) :
    PDE X p (.Call (.Name "isinstance" p1) [a, .Name y p2] [] pos) (dInst T t) := by
  refine ⟨PE.imp (pe_callB call_isi hg hm (by decide +kernel) (pa_cons ha.pe (pa_cons (pe_bltn (v := .ty T) hy hmy hvy rfl hny hdy) pa_nil he2) he) (by decide) (by decide) he hpl) ?_⟩
  rintro σ H Q ⟨F, δ, QD, g, q, k⟩
  refine ⟨F, δ, _, g, q, fun x H1 F1 d e1 r1 ⟨ho, q1⟩ => ?_⟩
  have g1 := p.step g e1
  refine ⟨x, .ty T, .type (D.tyN d), .type T, D.inst d T, rfl, .ty T, ?_, kit_ty (kit_inst ho hT), k _ _ _ _ e1 (res_bl _) q1⟩
  rw [← hk]
  exact ty_of g1 ho r1

/-! ## and, or, not, if -/
structure PDW (X : Cx) (p : Pt) (e : Expr) (t : DT) : Prop where
  pw : PW X e (liftT p t)
theorem PW.imp {X : Cx} {e : Expr} {t t' : TT} (h : PW X e t) (i : ∀ σ H Q, t' σ H Q → t σ H Q) : PW X e t' := ⟨fun w pins s σ H Q I q => h.run w pins s σ H Q I (i σ H Q q)⟩
variable {u u' : DT} {rest : List Expr}
def dAnd (t u : DT) : DT := fun δ Q => t δ fun c => if c = true then u δ Q else Q false
def dOr (t u : DT) : DT := fun δ Q => t δ fun c => if c = true then Q true else u δ Q
def dNot (t : DT) : DT := fun δ Q => t δ fun c => Q (!c)
theorem dw_and1 (h : PDT X p a u) : PDW X p (.BoolOp .And [a] pos) u := ⟨pw_and1 h.pt⟩
theorem dw_or1 (h : PDT X p a u) : PDW X p (.BoolOp .Or [a] pos) u := ⟨pw_or1 h.pt⟩
theorem dw_and (ha : PDT X p a u) (hb : PDW X p (.BoolOp .And (b :: rest) pos) u') : PDW X p (.BoolOp .And (a :: b :: rest) pos) (dAnd u u') := by
  refine ⟨PW.imp (pw_and ha.pt hb.pw) ?_⟩
  rintro σ H Q ⟨F, δ, QD, g, q, k⟩
  refine ⟨F, δ, _, g, q, fun c H1 F1 e1 q1 => ?_⟩
  have g1 := p.step g e1
  cases c with
  | true =>
    try dsimp only at q1 ⊢
    rw [if_pos rfl] at q1 ⊢
    exact ⟨F1, δ, QD, g1, q1, fun b H2 F2 e2 q2 => k b H2 F2 (e1.trans g.ok e2) q2⟩
  | false =>
    try dsimp only at q1 ⊢
    rw [if_neg Bool.false_ne_true] at q1 ⊢
    exact k false H1 F1 e1 q1
theorem dw_or (ha : PDT X p a u) (hb : PDW X p (.BoolOp .Or (b :: rest) pos) u') : PDW X p (.BoolOp .Or (a :: b :: rest) pos) (dOr u u') := by
  refine ⟨PW.imp (pw_or ha.pt hb.pw) ?_⟩
  rintro σ H Q ⟨F, δ, QD, g, q, k⟩
  refine ⟨F, δ, _, g, q, fun c H1 F1 e1 q1 => ?_⟩
  have g1 := p.step g e1
  cases c with
  | false =>
    try dsimp only at q1 ⊢
    rw [if_neg Bool.false_ne_true] at q1 ⊢
    exact ⟨F1, δ, QD, g1, q1, fun b H2 F2 e2 q2 => k b H2 F2 (e1.trans g.ok e2) q2⟩
  | true =>
    try dsimp only at q1 ⊢
    rw [if_pos rfl] at q1 ⊢
    exact k true H1 F1 e1 q1
theorem PDW.dt (h : PDW X p e u) : PDT X p e u := ⟨h.pw.pt⟩
theorem dt_not (h : PDT X p a u) : PDT X p (.UnaryOp .Not a pos) (dNot u) := by
  refine ⟨PT.imp (pt_not h.pt) ?_⟩
  rintro σ H Q ⟨F, δ, QD, g, q, k⟩
  exact ⟨F, δ, _, g, q, fun c H1 F1 e1 q1 => k _ H1 F1 e1 q1⟩
/-- as values: all but the last a True or False -/
def dAndV (ta tb : DE) : DE := fun δ Q => ta δ fun x => ∃ c, x = .bl c ∧ if c = true then tb δ Q else Q (.bl false)
def dOrV (ta tb : DE) : DE := fun δ Q => ta δ fun x => ∃ c, x = .bl c ∧ if c = true then Q (.bl true) else tb δ Q
def dNotV (ta : DE) : DE := fun δ Q => ta δ fun x => ∃ c, x = .bl c ∧ Q (.bl (!c))
theorem de_one {op} (h : PDE X p a t) : PDE X p (.BoolOp op [a] pos) t := ⟨pe_one h.pe⟩
theorem de_and (ha : PDE X p a ta) (hb : PDE X p (.BoolOp .And (b :: rest) pos) tb) : PDE X p (.BoolOp .And (a :: b :: rest) pos) (dAndV ta tb) := by
  refine ⟨PE.imp (pe_and ha.pe hb.pe) ?_⟩
  rintro σ H Q ⟨F, δ, QD, g, q, k⟩
  refine ⟨F, δ, _, g, q, fun x H1 F1 d e1 r1 ⟨c, ed, q1⟩ => ?_⟩
  have g1 := p.step g e1
  subst ed
  refine ⟨c, rep_bl r1, ?_⟩
  cases c with
  | true =>
    try dsimp only at q1 ⊢
    rw [if_pos rfl] at q1 ⊢
    exact ⟨F1, δ, QD, g1, q1, fun v H2 F2 d e2 r2 q2 => k v H2 F2 d (e1.trans g.ok e2) r2 q2⟩
  | false =>
    try dsimp only at q1 ⊢
    rw [if_neg Bool.false_ne_true] at q1 ⊢
    exact k _ H1 F1 _ e1 (res_bl _) q1
theorem de_or (ha : PDE X p a ta) (hb : PDE X p (.BoolOp .Or (b :: rest) pos) tb) : PDE X p (.BoolOp .Or (a :: b :: rest) pos) (dOrV ta tb) := by
  refine ⟨PE.imp (pe_or ha.pe hb.pe) ?_⟩
  rintro σ H Q ⟨F, δ, QD, g, q, k⟩
  refine ⟨F, δ, _, g, q, fun x H1 F1 d e1 r1 ⟨c, ed, q1⟩ => ?_⟩
  have g1 := p.step g e1
  subst ed
  refine ⟨c, rep_bl r1, ?_⟩
  cases c with
  | false =>
    try dsimp only at q1 ⊢
    rw [if_neg Bool.false_ne_true] at q1 ⊢
    exact ⟨F1, δ, QD, g1, q1, fun v H2 F2 d e2 r2 q2 => k v H2 F2 d (e1.trans g.ok e2) r2 q2⟩
  | true =>
    try dsimp only at q1 ⊢
    rw [if_pos rfl] at q1 ⊢
    exact k _ H1 F1 _ e1 (res_bl _) q1
theorem de_not (ha : PDE X p a ta) : PDE X p (.UnaryOp .Not a pos) (dNotV ta) := by
  refine ⟨PE.imp (pe_not ha.pe) ?_⟩
  rintro σ H Q ⟨F, δ, QD, g, q, k⟩
  refine ⟨F, δ, _, g, q, fun x H1 F1 d e1 r1 ⟨c, ed, q1⟩ => ?_⟩
  subst ed
  exact ⟨c, rep_bl r1, k _ H1 F1 _ e1 (res_bl _) q1⟩
def dIf (u : DT) (ta tb : DE) : DE := fun δ Q => u δ fun c => if c = true then ta δ Q else tb δ Q
theorem de_if (hc : PDT X p c u) (ha : PDE X p a ta) (hb : PDE X p b tb) : PDE X p (.IfExp c a b pos) (dIf u ta tb) := by
  refine ⟨PE.imp (pe_ifExp hc.pt ha.pe hb.pe) ?_⟩
  rintro σ H Q ⟨F, δ, QD, g, q, k⟩
  refine ⟨F, δ, _, g, q, fun c H1 F1 e1 q1 => ?_⟩
  have g1 := p.step g e1
  cases c with
  | true =>
    try dsimp only at q1 ⊢
    rw [if_pos rfl] at q1 ⊢
    exact ⟨F1, δ, QD, g1, q1, fun v H2 F2 d e2 r2 q2 => k v H2 F2 d (e1.trans g.ok e2) r2 q2⟩
  | false =>
    try dsimp only at q1 ⊢
    rw [if_neg Bool.false_ne_true] at q1 ⊢
    exact ⟨F1, δ, QD, g1, q1, fun v H2 F2 d e2 r2 q2 => k v H2 F2 d (e1.trans g.ok e2) r2 q2⟩
end
end DL
set_option Elab.async false
set_option linter.all false
set_option maxRecDepth 100000
namespace DL
open PySem PySem.Spec PyProof.Rows L2

/-! ## storing into slots -/
section
variable {K : PySem.W.Frag} {J : Reg} {Hi Fi B F H : Hp} {σ : St} {δ : DS}
theorem getElem?_set' {α : Type} (l : List α) (i j : Nat) (x y : α) (h : (l.set i x)[j]? = some y) : (i = j ∧ y = x) ∨ (i ≠ j ∧ l[j]? = some y) := by
  by_cases e : i = j
  · subst e
    rw [List.getElem?_set] at h
    simp only [if_true] at h
    split at h
    · exact .inl ⟨rfl, (Option.some.inj h).symm⟩
    · cases h
  · rw [List.getElem?_set_ne e] at h
    exact .inr ⟨e, h⟩
/-- a slot is stored -/
theorem G.set (g : G K J Hi Fi B F σ δ H) {i : Nat} {d : D} {v : V} (h : SlotOk K J Hi F H d v)
    (hd : ∀ ds, d = .own ds → ∀ (j : Nat) dj, i ≠ j → δ[j]? = some (some (.own dj)) → σ[j]? ≠ some (some v)) : G K J Hi Fi B F (σ.set i (some v)) (δ.set i (some d)) H where
  ext := g.ext
  bs := g.bs
  len := by rw [List.length_set, List.length_set]; exact g.len
  var := fun j d' e => by
    rcases getElem?_set' _ _ _ _ _ e with ⟨rfl, e'⟩ | ⟨ne, e'⟩
    · cases e'
      refine ⟨v, ?_, h⟩
      have hl : i < δ.length := by
        have := (List.getElem?_eq_some_iff.mp e).1
        rwa [List.length_set] at this
      rw [List.getElem?_set_self (by rw [g.len]; exact hl)]
    · obtain ⟨v', h1, h2⟩ := g.var j d' e'
      exact ⟨v', by rw [List.getElem?_set_ne ne]; exact h1, h2⟩
  dis := fun j k dj dk a ne h1 h2 h3 h4 => by
    rcases getElem?_set' _ _ _ _ _ h1 with ⟨rfl, e1⟩ | ⟨n1, e1⟩
    · rcases getElem?_set' _ _ _ _ _ h2 with ⟨rfl, _⟩ | ⟨n2, e2⟩
      · exact ne rfl
      · have ed : D.own dj = d := Option.some.inj e1
        rw [List.getElem?_set_ne n2] at h4
        have hv : v = .ref a := by
          rcases getElem?_set' _ _ _ _ _ h3 with ⟨_, e3⟩ | ⟨n3, _⟩
          · exact (Option.some.inj e3).symm
          · exact absurd rfl n3
        exact hd dj ed.symm k dk n2 e2 (by rw [hv]; exact h4)
    · rcases getElem?_set' _ _ _ _ _ h2 with ⟨rfl, e2⟩ | ⟨n2, e2⟩
      · have ed : D.own dk = d := Option.some.inj e2
        rw [List.getElem?_set_ne n1] at h3
        have hv : v = .ref a := by
          rcases getElem?_set' _ _ _ _ _ h4 with ⟨_, e3⟩ | ⟨n3, _⟩
          · exact (Option.some.inj e3).symm
          · exact absurd rfl n3
        exact hd dk ed.symm j dj n1 e1 (by rw [hv]; exact h3)
      · rw [List.getElem?_set_ne n1] at h3
        rw [List.getElem?_set_ne n2] at h4
        exact g.dis j k dj dk a ne e1 e2 h3 h4
theorem G.setD (g : G K J Hi Fi B F σ δ H) {i : Nat} {d : D} {v : V} (h : Rep K F d v) : G K J Hi Fi B F (σ.set i (some v)) (δ.set i (some d)) H :=
  g.set ((slot_data (rep_data h)).mpr h) fun ds e => by subst e; simp only [Rep] at h
/-- a slot is forgotten -/
theorem G.drop (g : G K J Hi Fi B F σ δ H) (i : Nat) : G K J Hi Fi B F (σ.set i none) (δ.set i none) H where
  ext := g.ext
  bs := g.bs
  len := by rw [List.length_set, List.length_set]; exact g.len
  var := fun j d' e => by
    rcases getElem?_set' _ _ _ _ _ e with ⟨_, e'⟩ | ⟨ne, e'⟩
    · cases e'
    · obtain ⟨v', h1, h2⟩ := g.var j d' e'
      exact ⟨v', by rw [List.getElem?_set_ne ne]; exact h1, h2⟩
  dis := fun j k dj dk a ne h1 h2 h3 h4 => by
    rcases getElem?_set' _ _ _ _ _ h1 with ⟨_, e'⟩ | ⟨n1, e1⟩
    · cases e'
    · rcases getElem?_set' _ _ _ _ _ h2 with ⟨_, e'⟩ | ⟨n2, e2⟩
      · cases e'
      · rw [List.getElem?_set_ne n1] at h3
        rw [List.getElem?_set_ne n2] at h4
        exact g.dis j k dj dk a ne e1 e2 h3 h4
end
def wipeD (δ : DS) : List Nat → DS
  | [] => δ
  | v :: vs => (wipeD δ vs).set v none
theorem G.wipe {K : PySem.W.Frag} {J : Reg} {Hi Fi B F H : Hp} {σ : St} {δ : DS} (g : G K J Hi Fi B F σ δ H) : ∀ vs : List Nat, G K J Hi Fi B F (L2.wipe σ vs) (wipeD δ vs) H
  | [] => g
  | v :: vs => (G.wipe g vs).drop v

/-! ## targets -/
inductive Pat where
  | nm (i : Nat) | tp (ps : List Pat)
mutual
def gP (K : PySem.W.Frag) : Pat → TG
  | .nm i => gName i
  | .tp ps => gTup K (ps.length) (gPs K ps)
def gPs (K : PySem.W.Frag) : List Pat → TGs
  | [] => gNil
  | q :: qs => gCons (gP K q) (gPs K qs)
end
mutual
/-- what a target does with data -/
def bP : Pat → D → DS → (DS → Prop) → Prop
  | .nm i, d, δ, Q => isOwn d = false ∧ Q (δ.set i (some d))
  | .tp ps, d, δ, Q => ∃ ds, d = .tup ds ∧ ds.length = ps.length ∧ bPs ps ds δ Q
def bPs : List Pat → List D → DS → (DS → Prop) → Prop
  | [], ds, δ, Q => ds = [] ∧ Q δ
  | q :: qs, ds, δ, Q => ∃ d r, ds = d :: r ∧ bP q d δ fun δ' => bPs qs r δ' Q
end
mutual
/-- its slots -/
def Pat.sl : Pat → List Nat
  | .nm i => [i]
  | .tp ps => Pat.sls ps
def Pat.sls : List Pat → List Nat
  | [] => []
  | q :: qs => Pat.sl q ++ Pat.sls qs
end
theorem wipe_set {σ : St} {i : Nat} {v : Option V} : ∀ {vs : List Nat}, i ∈ vs → L2.wipe (σ.set i v) vs = L2.wipe σ vs
  | [], h => by simp at h
  | w :: ws, h => by
    unfold L2.wipe
    by_cases e : i ∈ ws
    · rw [wipe_set e]
    · have hw : i = w := by
        rcases List.mem_cons.mp h with h | h
        · exact h
        · exact absurd h e
      subst hw
      have : ∀ (vs : List Nat), i ∉ vs → (L2.wipe (σ.set i v) vs).set i none = (L2.wipe σ vs).set i none := by
        intro vs
        induction vs with
        | nil => intro _; show ((σ.set i v).set i none) = σ.set i none; rw [List.set_set]
        | cons u us ih =>
          intro hu
          have hne : i ≠ u := fun z => hu (by rw [z]; exact List.mem_cons_self ..)
          show ((L2.wipe (σ.set i v) us).set u none).set i none = ((L2.wipe σ us).set u none).set i none
          rw [List.set_comm _ _ (Ne.symm hne), ih (fun z => hu (List.mem_cons_of_mem _ z)), List.set_comm _ _ hne]
      exact this ws e
section
variable {p : Pt} {F H : Hp}
mutual
theorem bP_ok : ∀ (q : Pat) (d : D) (v : V) (σ : St) (δ : DS) (QD : DS → Prop) (Q : St → Hp → Prop), p.G F σ δ H → Rep p.K F d v → bP q d δ QD →
    (∀ σ' δ', p.G F σ' δ' H → (∀ vs, (∀ i ∈ q.sl, i ∈ vs) → L2.wipe σ' vs = L2.wipe σ vs) → QD δ' → Q σ' H) → gP p.K q v σ H Q
  | .nm i, d, v, σ, δ, QD, Q, g, r, b, k => by
    simp only [bP] at b
    simp only [gP, gName]
    exact k _ _ (g.setD r) (fun vs h => wipe_set (h i (by simp [Pat.sl]))) b.2
  | .tp ps, d, v, σ, δ, QD, Q, g, r, b, k => by
    simp only [bP] at b
    obtain ⟨ds, rfl, hl, b⟩ := b
    simp only [Rep] at r
    obtain ⟨a, xs, rfl, h1, h2⟩ := r
    simp only [gP, gTup]
    refine ⟨a, xs, rfl, sqT_mono g.ok.fh h1, by rw [RepL.length h2, hl], ?_⟩
    exact bPs_ok ps ds xs σ δ QD Q g h2 b fun σ' δ' g' w q => k σ' δ' g' (fun vs h => w vs (fun i hi => h i (by simpa only [Pat.sl] using hi))) q
theorem bPs_ok : ∀ (q : List Pat) (ds : List D) (xs : List V) (σ : St) (δ : DS) (QD : DS → Prop) (Q : St → Hp → Prop), p.G F σ δ H → RepL p.K F ds xs → bPs q ds δ QD →
    (∀ σ' δ', p.G F σ' δ' H → (∀ vs, (∀ i ∈ Pat.sls q, i ∈ vs) → L2.wipe σ' vs = L2.wipe σ vs) → QD δ' → Q σ' H) → gPs p.K q xs σ H Q
  | [], ds, xs, σ, δ, QD, Q, g, r, b, k => by
    simp only [bPs] at b
    obtain ⟨rfl, b⟩ := b
    simp only [RepL] at r
    subst r
    simp only [gPs, gNil]
    exact ⟨trivial, k σ δ g (fun _ _ => rfl) b⟩
  | q :: qs, ds, xs, σ, δ, QD, Q, g, r, b, k => by
    simp only [bPs] at b
    obtain ⟨d, ds', rfl, b⟩ := b
    simp only [RepL] at r
    obtain ⟨x, xs', rfl, r1, r2⟩ := r
    simp only [gPs, gCons]
    refine ⟨x, xs', rfl, ?_⟩
    refine bP_ok q d x σ δ _ _ g r1 b fun σ' δ' g' w q1 => ?_
    refine bPs_ok qs ds' xs' σ' δ' QD Q g' r2 q1 fun σ2 δ2 g2 w2 q2 => ?_
    refine k σ2 δ2 g2 (fun vs h => ?_) q2
    rw [w2 vs fun i hi => h i (by simp only [Pat.sls, List.mem_append]; exact .inr hi), w vs fun i hi => h i (by simp only [Pat.sls, List.mem_append]; exact .inl hi)]
end
end
structure PDG (X : Cx) (p : Pt) (tg : Expr) (q : Pat) : Prop where
  pg : PG X tg (gP p.K q)
structure PDGs (X : Cx) (p : Pt) (tg : List Expr) (q : List Pat) : Prop where
  pgs : PGs X tg (gPs p.K q)
section
variable {X : Cx} {p : Pt} {e : Expr} {es : List Expr} {pos : Pos}
theorem dg_nm {i : Nat} {x : Str} (hN : X.N.Nodup) (hi : X.N[i]? = some x) (hx : Loc X.env.scope x) (hf : X.fn x = true ∨ X.env.scope.names.lookup x = some .local := by first | exact .inl rfl | exact .inr rfl | assumption) : PDG X p (.Name x pos) (.nm i) := by
  refine ⟨?_⟩
  simp only [gP]
  exact pg_name hN hi hx hf
theorem dgs_nil : PDGs X p [] [] := by
  refine ⟨?_⟩
  simp only [gPs]
  exact pgs_nil
theorem dgs_cons {q : Pat} {qs : List Pat} (h1 : PDG X p e q) (h2 : PDGs X p es qs) (hs : (assignEach (e :: es) X.env).map (·.2) = assign e X.env :: (assignEach es X.env).map (·.2) := by rfl) : PDGs X p (e :: es) (q :: qs) := by
  refine ⟨?_⟩
  simp only [gPs]
  exact pgs_cons h1.pg h2.pgs hs
theorem dg_tp {k : Nat} {qs : List Pat} (hk : p.K = X.K) (hc : X.calm = true) (h : PDGs X p es qs) (hn : (assignEach es X.env).length = qs.length := by rfl) (hst : (assignEach es X.env).findIdx? (·.1) = none := by rfl) : PDG X p (.Tuple es k pos) (.tp qs) := by
  refine ⟨?_⟩
  have e := h.pgs
  simp only [gP]
  rw [hk] at e ⊢
  exact pg_tup hc e hn hst
end

/-! ## what a loop walks -/
abbrev DI := DS → (List D → Prop) → Prop
/-- at turn i the item i comes, as long as what is frozen stands -/
def Walks (p : Pt) (F1 : Hp) (W : It) (items : List D) : Prop := ∀ F2 H2, Same F1 F2 → Ok p.J F2 H2 → ∀ i : Nat,
  (i < items.length → W.go i H2 ∧ ∀ x H', W.yld i H2 x H' → ∃ F3 d, items[i]? = some d ∧ Ext p.J F2 H2 F3 H' ∧ Rep p.K F3 d x) ∧ (items.length ≤ i → W.stop i H2)
def liftI (p : Pt) (t : DI) : TI := fun σ H R => ∃ F δ QD, p.G F σ δ H ∧ t δ QD ∧ ∀ W H1 F1 items, Ext p.J F H F1 H1 → Walks p F1 W items → QD items → R W H1
structure PDI (X : Cx) (p : Pt) (tg e : Expr) (t : DI) : Prop where
  pi : PI X tg e (liftI p t)
theorem PI.imp {X : Cx} {tg e : Expr} {t t' : TI} (h : PI X tg e t) (i : ∀ σ H Q, t' σ H Q → t σ H Q) : PI X tg e t' := ⟨fun pins s σ H Q I q => h.run pins s σ H Q I (i σ H Q q)⟩
section
variable {X : Cx} {p : Pt} {tg e a b : Expr} {t ta tb : DE} {pos p1 : Pos}
/-- a list or a tuple -/
def iSeq (K : PySem.W.Frag) (tl : TE) : TI := fun σ H R => tl σ H fun x H1 => ∃ a, x = .ref a ∧ (((∃ xs, SqL K H1 a xs) ∧ R (Itl K a) H1) ∨ ((∃ xs, SqT K H1 a xs) ∧ R (Itt K a) H1))
theorem pi_seq {l : Expr} {tl : TE} (hl : PE X l tl) : PI X tg l (iSeq X.K tl) := by
  refine ⟨fun pins s σ H R I h => ?_⟩
  refine thn (hl.run pins s σ H _ I h) fun v s1 ⟨x, H1, I1, r1, q1⟩ => ?_
  obtain ⟨a, e, ⟨⟨xs, hq⟩, q⟩ | ⟨⟨xs, hq⟩, q⟩⟩ := q1
  · subst e
    cases r1
    obtain ⟨its, rv, p, hz⟩ := I1.list hq
    refine wpAny_pyIter_list p.isList ?_
    refine ⟨s1.heap.objs.size, [s1.heap.objs.size], _, _, H1, rfl, I1.kept (t' := s1.toks) fun b o e => Heap.get?_push_of_some _ e, turn_list a _, ⟨_, Heap.get?_push_size _ rfl, rfl, rfl⟩, fun b hb => ?_, q⟩
    have e : b = s1.heap.objs.size := by simpa using hb
    subst e
    exact I1.fpOk (Nat.le_refl _) (I1.hok.fresh (Nat.le_refl _))
  · subst e
    cases r1
    obtain ⟨its, rv, p, hz⟩ := I1.tuple hq
    refine wpAny_pyIter_tuple (show s1.heap.IsTuple a its.toArray from p) ?_
    refine ⟨s1.heap.objs.size, [s1.heap.objs.size], _, _, H1, rfl, I1.kept (t' := s1.toks) fun b o e => Heap.get?_push_of_some _ e, turn_tuple a _, ⟨_, Heap.get?_push_size _ rfl, rfl, rfl⟩, fun b hb => ?_, q⟩
    have e : b = s1.heap.objs.size := by simpa using hb
    subst e
    exact I1.fpOk (Nat.le_refl _) (I1.hok.fresh (Nat.le_refl _))
theorem sqL_one {K : PySem.W.Frag} {H : Hp} {a : Addr} {xs ys : List V} (h : H a = some (.lst xs)) (hK : K.lookup a = none) (h' : SqL K H a ys) : ys = xs := by
  rcases h' with (h' | ⟨o, h'⟩) | ⟨o, _, _, h', _⟩
  · rw [h] at h'; cases h'; rfl
  · rw [h] at h'; cases h'
  · rw [hK] at h'; cases h'
/-- .. as data: it must be frozen -/
def diSeq (t : DE) : DI := fun δ Q => t δ fun d => isOwn d = false ∧ ∃ xs, D.items d = some xs ∧ Q xs
theorem walks_l (hk : p.K = X.K) {F1 : Hp} {a : Addr} {xs : List V} {ds : List D} (h : F1 a = some (.lst xs)) (r : RepL p.K F1 ds xs) : Walks p F1 (Itl X.K a) ds := by
  intro F2 H2 s2 o2 i
  have hH : H2 a = some (.lst xs) := o2.fh _ _ (s2 _ _ h)
  have r2 := RepL.mono s2 _ _ r
  have hl := RepL.length r
  refine ⟨fun hi => ⟨⟨xs, xs[i]'(by omega), SqL.of hH, List.getElem?_eq_getElem (by omega)⟩, fun x H' hy => ?_⟩, fun hi => ⟨xs, SqL.of hH, by omega⟩⟩
  obtain ⟨rfl, hx⟩ := hy
  have e1 := hx xs (SqL.of hH)
  obtain ⟨x', e2, r3⟩ := RepL.get r2 (List.getElem?_eq_getElem hi)
  rw [e1] at e2
  cases e2
  exact ⟨F2, ds[i], List.getElem?_eq_getElem hi, Ext.refl o2, r3⟩
theorem walks_t (hk : p.K = X.K) {F1 : Hp} {a : Addr} {xs : List V} {ds : List D} (h : SqT X.K F1 a xs) (r : RepL p.K F1 ds xs) : Walks p F1 (Itt X.K a) ds := by
  intro F2 H2 s2 o2 i
  have hH : SqT X.K H2 a xs := sqT_mono o2.fh (sqT_mono s2 h)
  have r2 := RepL.mono s2 _ _ r
  have hl := RepL.length r
  refine ⟨fun hi => ⟨⟨xs, xs[i]'(by omega), hH, List.getElem?_eq_getElem (by omega)⟩, fun x H' hy => ?_⟩, fun hi => ⟨xs, hH, by omega⟩⟩
  obtain ⟨rfl, hx⟩ := hy
  have e1 := hx xs hH
  obtain ⟨x', e2, r3⟩ := RepL.get r2 (List.getElem?_eq_getElem hi)
  rw [e1] at e2
  cases e2
  exact ⟨F2, ds[i], List.getElem?_eq_getElem hi, Ext.refl o2, r3⟩
theorem di_seq (hk : p.K = X.K) (h : PDE X p e t) : PDI X p tg e (diSeq t) := by
  refine ⟨PI.imp (pi_seq h.pe) ?_⟩
  rintro σ H R ⟨F, δ, QD, g, q, k⟩
  refine ⟨F, δ, _, g, q, fun x H1 F1 d e1 r1 ⟨ho, ds, hi, q1⟩ => ?_⟩
  rw [res_data ho] at r1
  cases d <;> simp only [D.items, Option.some.injEq, reduceCtorEq] at hi
  · subst hi
    simp only [Rep] at r1
    obtain ⟨a, xs, rfl, h1, h2⟩ := r1
    rw [hk] at h1
    exact ⟨a, rfl, .inr ⟨⟨xs, sqT_mono e1.ok.fh h1⟩, k _ H1 F1 _ e1 (walks_t hk h1 h2) q1⟩⟩
  · subst hi
    simp only [Rep] at r1
    obtain ⟨a, xs, rfl, h1, h2⟩ := r1
    exact ⟨a, rfl, .inl ⟨⟨xs, SqL.of (e1.ok.fh _ _ h1)⟩, k _ H1 F1 _ e1 (walks_l hk h1 h2) q1⟩⟩
  · cases ho
/-- range(b), range(a, b) -/
def rngD (lo : Int) (n : Nat) : List D := (List.range n).map fun i => D.int (lo + (i : Nat))
theorem walks_r {F1 : Hp} {lo : Int} {n : Nat} : Walks p F1 (Itr lo n) (rngD lo n) := by
  intro F2 H2 s2 o2 i
  have hl : (rngD lo n).length = n := by simp [rngD]
  refine ⟨fun hi => ⟨by rw [hl] at hi; exact hi, fun x H' hy => ?_⟩, fun hi => by rw [hl] at hi; exact hi⟩
  obtain ⟨rfl, rfl⟩ := hy
  refine ⟨F2, .int (lo + (i : Nat)), ?_, Ext.refl o2, by simp only [Rep]⟩
  rw [hl] at hi
  simp [rngD, hi]
def diRng1 (t : DE) : DI := fun δ Q => t δ fun d => ∃ j, d = .int j ∧ -(2 ^ 62) ≤ j ∧ j < 2 ^ 62 ∧ Q (rngD 0 j.toNat)
def diRng2 (ta tb : DE) : DI := fun δ Q => ta δ fun d => tb δ fun d' => ∃ i j, d = .int i ∧ d' = .int j ∧ (-(2 ^ 62) ≤ i ∧ i < 2 ^ 62 ∧ -(2 ^ 62) ≤ j ∧ j < 2 ^ 62) ∧ Q (rngD i (j - i).toNat)
theorem di_rng1 (hg : Gl X "range") (hm : X.mg "range" = none) (ha : PDE X p a t) (hs : starEach [a] X.env = [(false, eval a X.env)] := by rfl) : PDI X p tg (.Call (.Name "range" p1) [a] [] pos) (diRng1 t) := by
  refine ⟨PI.imp (pi_range1 hg hm (pa_cons ha.pe pa_nil hs) hs) ?_⟩
  rintro σ H R ⟨F, δ, QD, g, q, k⟩
  refine ⟨F, δ, _, g, q, fun x H1 F1 d e1 r1 ⟨j, ed, b1, b2, q1⟩ => ?_⟩
  subst ed
  exact ⟨j, by rw [rep_int r1], b1, b2, k _ H1 F1 _ e1 walks_r q1⟩
theorem di_rng2 (hg : Gl X "range") (hm : X.mg "range" = none) (ha : PDE X p a ta) (hb : PDE X p b tb) (hs : starEach [a, b] X.env = [(false, eval a X.env), (false, eval b X.env)] := by rfl) (hs2 : starEach [b] X.env = [(false, eval b X.env)] := by rfl) : PDI X p tg (.Call (.Name "range" p1) [a, b] [] pos) (diRng2 ta tb) := by
  refine ⟨PI.imp (pi_range2 hg hm (pa_cons ha.pe (pa_cons hb.pe pa_nil hs2) (by rw [hs, hs2])) hs hs2) ?_⟩
  rintro σ H R ⟨F, δ, QD, g, q, k⟩
  refine ⟨F, δ, _, g, q, fun x H1 F1 d e1 r1 q1 => ?_⟩
  have g1 := p.step g e1
  refine ⟨F1, δ, _, g1, q1, fun y H2 F2 d' e2 r2 ⟨i, j, ed, ed', b1, q2⟩ => ?_⟩
  subst ed ed'
  exact ⟨i, j, by rw [rep_int r1, rep_int r2], b1, k _ H2 F2 _ (e1.trans g.ok e2) walks_r q2⟩
/-- zip(xs, ys): two lists, or two tuples -/
def zipD : List D → List D → List D
  | x :: xs, y :: ys => .tup [x, y] :: zipD xs ys
  | _, _ => []
theorem zipD_get : ∀ (xs ys : List D) (i : Nat) (x y : D), xs[i]? = some x → ys[i]? = some y → (zipD xs ys)[i]? = some (.tup [x, y])
  | [], _, _, _, _, h, _ => by simp at h
  | _ :: _, [], _, _, _, _, h => by simp at h
  | a :: xs, b :: ys, 0, x, y, h, h' => by simp at h h'; subst h h'; rfl
  | a :: xs, b :: ys, i + 1, x, y, h, h' => zipD_get xs ys i x y (by simpa using h) (by simpa using h')
theorem zipD_len : ∀ xs ys : List D, (zipD xs ys).length = min xs.length ys.length
  | [], _ => by simp [zipD]
  | _ :: _, [] => by simp [zipD]
  | a :: xs, b :: ys => by simp only [zipD, List.length_cons, zipD_len xs ys]; omega
def diZip (ta tb : DE) : DI := fun δ Q => ta δ fun d => tb δ fun d' => ∃ xs ys, ((d = .lst xs ∧ d' = .lst ys) ∨ (d = .tup xs ∧ d' = .tup ys)) ∧ Q (zipD xs ys)
theorem di_zip (hk : p.K = X.K) {elts : List Expr} {kk : Nat} {tpos : Pos} (hg : Gl X "zip") (hm : X.mg "zip" = none) (ha : PDE X p a ta) (hb : PDE X p b tb)
    (hs : starEach [a, b] X.env = (false, eval a X.env) :: starEach [b] X.env := by rfl) (hs2 : starEach [b] X.env = (false, eval b X.env) :: starEach [] X.env := by rfl) (hpl : (backTo pos (starEach [b] X.env)).any (·.1) = false := by rfl) :
    PDI X p (.Tuple elts kk tpos) (.Call (.Name "zip" p1) [a, b] [] pos) (diZip ta tb) := by
  refine ⟨PI.imp (RZ.pi_zipA hg hm (pa_cons ha.pe (pa_cons hb.pe pa_nil hs2) hs) hs hpl) ?_⟩
  rintro σ H R ⟨F, δ, QD, g, q, k⟩
  refine ⟨F, δ, _, g, q, fun x H1 F1 d e1 r1 q1 => ?_⟩
  have g1 := p.step g e1
  refine ⟨F1, δ, _, g1, q1, fun y H2 F2 d' e2 r2 ⟨ds, es, hd, q2⟩ => ?_⟩
  have r1' := r1.mono e2.ff
  have e3 := e1.trans g.ok e2
  rcases hd with ⟨rfl, rfl⟩ | ⟨rfl, rfl⟩
  · have r3 : Rep p.K F2 (.lst ds) x := r1'
    have r4 : Rep p.K F2 (.lst es) y := r2
    simp only [Rep] at r3 r4
    obtain ⟨u, xs, rfl, h1, h2⟩ := r3
    obtain ⟨v, ys, rfl, h3, h4⟩ := r4
    have l1 := RepL.length h2
    have l2 := RepL.length h4
    refine ⟨u, v, xs, ys, rfl, .inl ⟨SqL.of (e3.ok.fh _ _ h1), SqL.of (e3.ok.fh _ _ h3), k _ H2 F2 _ e3 ?_ q2⟩⟩
    intro F4 H4 s4 o4 i
    have hx := o4.fh _ _ (s4 _ _ h1)
    have hy := o4.fh _ _ (s4 _ _ h3)
    have rx := RepL.mono s4 _ _ h2
    have ry := RepL.mono s4 _ _ h4
    refine ⟨fun hi => ?_, fun hi => ⟨xs, ys, SqL.of hx, SqL.of hy, by rw [zipD_len] at hi; omega⟩⟩
    rw [zipD_len] at hi
    have i1 : i < ds.length := by omega
    have i2 : i < es.length := by omega
    refine ⟨⟨xs, ys, xs[i]'(by omega), ys[i]'(by omega), SqL.of hx, SqL.of hy, List.getElem?_eq_getElem (by omega), List.getElem?_eq_getElem (by omega)⟩, fun w H' hw => ?_⟩
    obtain ⟨T, x1, x2, rfl, nT, rfl, f1, f2⟩ := hw
    have a1 := f1 xs (SqL.of hx)
    have a2 := f2 ys (SqL.of hy)
    obtain ⟨x', b1, c1⟩ := RepL.get rx (List.getElem?_eq_getElem i1)
    obtain ⟨y', b2, c2⟩ := RepL.get ry (List.getElem?_eq_getElem i2)
    rw [a1] at b1; cases b1
    rw [a2] at b2; cases b2
    have e5 := ext_new (o := .tup [x1, x2]) o4 nT
    refine ⟨_, .tup [ds[i], es[i]], zipD_get _ _ _ _ _ (List.getElem?_eq_getElem i1) (List.getElem?_eq_getElem i2), e5, ?_⟩
    simp only [Rep]
    exact ⟨T, _, rfl, SqT.of upd_same, RepL.cons (Rep.mono e5.ff _ _ c1) (RepL.one (Rep.mono e5.ff _ _ c2))⟩
  · have r3 : Rep p.K F2 (.tup ds) x := r1'
    have r4 : Rep p.K F2 (.tup es) y := r2
    simp only [Rep] at r3 r4
    obtain ⟨u, xs, rfl, h1, h2⟩ := r3
    obtain ⟨v, ys, rfl, h3, h4⟩ := r4
    rw [hk] at h1 h3
    have l1 := RepL.length h2
    have l2 := RepL.length h4
    refine ⟨u, v, xs, ys, rfl, .inr ⟨sqT_mono e3.ok.fh h1, sqT_mono e3.ok.fh h3, k _ H2 F2 _ e3 ?_ q2⟩⟩
    intro F4 H4 s4 o4 i
    have hx := sqT_mono o4.fh (sqT_mono s4 h1)
    have hy := sqT_mono o4.fh (sqT_mono s4 h3)
    have rx := RepL.mono s4 _ _ h2
    have ry := RepL.mono s4 _ _ h4
    refine ⟨fun hi => ?_, fun hi => ⟨xs, ys, hx, hy, by rw [zipD_len] at hi; omega⟩⟩
    rw [zipD_len] at hi
    have i1 : i < ds.length := by omega
    have i2 : i < es.length := by omega
    refine ⟨⟨xs, ys, xs[i]'(by omega), ys[i]'(by omega), hx, hy, List.getElem?_eq_getElem (by omega), List.getElem?_eq_getElem (by omega)⟩, fun w H' hw => ?_⟩
    obtain ⟨T, x1, x2, rfl, nT, rfl, f1, f2⟩ := hw
    have a1 := f1 xs hx
    have a2 := f2 ys hy
    obtain ⟨x', b1, c1⟩ := RepL.get rx (List.getElem?_eq_getElem i1)
    obtain ⟨y', b2, c2⟩ := RepL.get ry (List.getElem?_eq_getElem i2)
    rw [a1] at b1; cases b1
    rw [a2] at b2; cases b2
    have e5 := ext_new (o := .tup [x1, x2]) o4 nT
    refine ⟨_, .tup [ds[i], es[i]], zipD_get _ _ _ _ _ (List.getElem?_eq_getElem i1) (List.getElem?_eq_getElem i2), e5, ?_⟩
    simp only [Rep]
    exact ⟨T, _, rfl, SqT.of upd_same, RepL.cons (Rep.mono e5.ff _ _ c1) (RepL.one (Rep.mono e5.ff _ _ c2))⟩
end

/-! ## comprehensions -/
/-- a new object, not frozen, is changed -/
theorem ext_mut {J : Reg} {F H F1 H1 : Hp} (e : Ext J F H F1 H1) {a : Addr} {o : HO} (h0 : H a = none) (h1 : F1 a = none) (hj : ¬ J.dom a) : Ext J F H F1 (L2.upd H1 a o) where
  ok := {
    fh := fun b u q => by
      have : b ≠ a := ne_of_none q h1
      rw [upd_ne this]; exact e.ok.fh b u q
    inv := J.loc H1 _ (fun b hb => upd_ne fun z => hj (z ▸ hb)) e.ok.inv
    nf := e.ok.nf }
  ff := e.ff
  keep := fun b u q n => by rw [upd_ne (ne_of_none q h0)]; exact e.keep b u q n
  new := e.new
/-- the tests of a comprehension -/
structure PDTs (X : Cx) (p : Pt) (ifs : List Expr) (t : DT) : Prop where
  pts : PTs X ifs (liftT p t)
def dYes : DT := fun _ Q => Q true
section
variable {X : Cx} {p : Pt}
theorem dts_nil : PDTs X p [] dYes := by
  refine ⟨⟨fun pins s σ H Q I h => ?_⟩⟩
  obtain ⟨F, δ, QD, g, q, k⟩ := h
  exact (pts_nil (X := X)).run pins s σ H Q I (k true H F (Ext.refl g.ok) q)
theorem dts_one {c : Expr} {t : DT} (h : PDT X p c t) : PDTs X p [c] t := ⟨pts_one h.pt⟩
/-- the invariant: what stands in the new list behind each turn -/
def dLc (it : DI) (q : Pat) (tt : DT) (te : DE) (vs : List Nat) : DA := fun δ Q => it δ fun items => ∃ P : Nat → List D → Prop, P 0 [] ∧
  (∀ i d acc, items[i]? = some d → P i acc → bP q d (wipeD δ vs) fun δ1 => tt δ1 fun b => if b = true then te δ1 fun y => isOwn y = false ∧ acc.length < sizeLine ∧ P (i + 1) (acc ++ [y]) else P (i + 1) acc) ∧
  ∀ acc, P items.length acc → Q acc
theorem lift_lc {it : DI} {q : Pat} {tt : DT} {te : DE} {vs : List Nat} (hv : ∀ i ∈ q.sl, i ∈ vs) : ∀ σ H Q, liftL p (dLc it q tt te vs) σ H Q → tLc (liftI p it) (gP p.K q) (liftT p tt) (liftE p te) vs σ H Q := by
  rintro σ H Q ⟨F, δ, QD, g, qq, k⟩
  refine ⟨F, δ, _, g, qq, fun W H1 F1 items e1 hw ⟨P, P0, Ps, Pd⟩ => ?_⟩
  have g1 := p.step g e1
  intro a ha
  have nd := nodom g1.ok ha
  have ra := ext_raw (o := .lst []) g1.ok ha
  refine ⟨fun i m H2 => i + m = items.length ∧ ∃ F2 acc xs, Ext p.J F1 H1 F2 H2 ∧ F2 a = none ∧ H2 a = some (.lst xs) ∧ RepL p.K F2 acc xs ∧ P i acc,
    ⟨items.length, by omega, F1, [], [], ra, fnone g1.ok ha, upd_same, RepL.nil, P0⟩, ?_⟩
  rintro i m H2 ⟨em, F2, acc, xs, e2, fa, hx, rx, pi⟩
  have g2 := p.step g1 e2
  obtain ⟨wg, wst⟩ := hw F2 H2 e2.ff e2.ok i
  by_cases hi : i < items.length
  · obtain ⟨w1, w2⟩ := wg hi
    refine .inr ⟨w1, fun H3 => ∃ F3 acc xs, Ext p.J F1 H1 F3 H3 ∧ F3 a = none ∧ H3 a = some (.lst xs) ∧ RepL p.K F3 acc xs ∧ P (i + 1) acc, fun H3 ⟨F3, ac, ys, c1, c2, c3, c4, c5⟩ => ⟨m - 1, by omega, by omega, F3, ac, ys, c1, c2, c3, c4, c5⟩, fun x H3 hy => ?_⟩
    obtain ⟨F3, d, hd, e3, r3⟩ := w2 x H3 hy
    have g3 := (p.step g2 e3).wipe vs
    have e13 := e2.trans e1.ok e3
    have st := Ps i d acc hd pi
    refine bP_ok q d x _ _ _ _ g3 r3 st fun σ4 δ4 g4 wp q4 => ⟨?_, ?_⟩
    · have ww : L2.wipe (L2.wipe σ vs) vs = L2.wipe σ vs := by
        have key : ∀ (us ws : List Nat) (τ : St), (∀ u ∈ us, u ∈ ws) → L2.wipe (L2.wipe τ us) ws = L2.wipe τ ws := by
          intro us
          induction us with
          | nil => intro ws τ _; rfl
          | cons u us ih =>
            intro ws τ h
            show L2.wipe ((L2.wipe τ us).set u none) ws = _
            rw [wipe_set (h u (List.mem_cons_self ..)), ih ws τ fun z hz => h z (List.mem_cons_of_mem _ hz)]
        exact key vs vs σ fun _ h => h
      rw [wp vs hv]; exact ww
    · refine ⟨F3, δ4, _, g4, q4, fun b H5 F5 e5 q5 => ?_⟩
      have g5 := p.step g4 e5
      have e15 := e13.trans e1.ok e5
      have ha5 : H5 a = some (.lst xs) := e5.keep a _ (e3.keep a _ hx nd) nd
      have fa5 : F5 a = none := e5.new a _ (e3.keep a _ hx nd) (e3.new a _ hx fa)
      cases b with
      | true =>
        dsimp only at q5 ⊢
        rw [if_pos rfl] at q5 ⊢
        refine ⟨F5, δ4, _, g5, q5, fun y H6 F6 dy e6 r6 ⟨oy, hl, p6⟩ => ?_⟩
        have ha6 : H6 a = some (.lst xs) := e6.keep a _ ha5 nd
        have fa6 : F6 a = none := e6.new a _ ha5 fa5
        have e16 := e15.trans e1.ok e6
        refine ⟨xs, ha6, by rw [RepL.length rx]; exact hl, F6, acc ++ [dy], xs ++ [y], ext_mut e16 ha fa6 nd, fa6, upd_same, ?_, p6⟩
        exact RepL.append (RepL.mono e6.ff _ _ (RepL.mono e5.ff _ _ (RepL.mono e3.ff _ _ rx))) (RepL.one ((res_data oy).mp r6))
      | false =>
        dsimp only at q5 ⊢
        rw [if_neg Bool.false_ne_true] at q5 ⊢
        exact ⟨F5, acc, xs, e15, fa5, ha5, RepL.mono e5.ff _ _ (RepL.mono e3.ff _ _ rx), q5⟩
  · have ei : i = items.length := by omega
    subst ei
    refine .inl ⟨wst (Nat.le_refl _), ?_⟩
    have hb : H a = none := e1.back ha
    exact k a xs H2 F2 acc (e1.trans g.ok e2) hb fa hx rx (Pd acc pi)
theorem dl_lc {elt tg iter : Expr} {ifs : List Expr} {scope : Scope} {pos : Pos} {it : DI} {q : Pat} {tt : DT} {te : DE} (own : List (Str × Nat)) (hc : X.calm = true) (hN : X.N.Nodup) (hi : PDI X p tg iter it) (ok : BlkOk X.N X.env.scope scope own)
    (hg : ∀ (s : Shared) (H : Hp) (C : Addr) (cl : List (Str × Addr)) (fp : List Addr), PDG (X.blk s H scope (compEnvC scope cl C X.env) fp) p tg q) (ht : ∀ (s : Shared) (H : Hp) (C : Addr) (cl : List (Str × Addr)) (fp : List Addr), PDTs (X.blk s H scope (compEnvC scope cl C X.env) fp) p ifs tt)
    (he : ∀ (s : Shared) (H : Hp) (C : Addr) (cl : List (Str × Addr)) (fp : List Addr), PDE (X.blk s H scope (compEnvC scope cl C X.env) fp) p elt te) (hv : ∀ i ∈ q.sl, i ∈ own.map (·.2) := by decide) (hs : ∀ x, foldedSetIterable iter X.env x = pure x := by intro _; rfl) :
    PDL X p (.ListComp elt [⟨tg, iter, ifs, 0⟩] scope pos) (dLc it q tt te (own.map (·.2))) :=
  ⟨PE.imp (pe_lc hc hN hi.pi ok (fun s H C cl fp => (hg s H C cl fp).pg) (fun s H C cl fp => (ht s H C cl fp).pts) (fun s H C cl fp => (he s H C cl fp).pe) hs) (lift_lc hv)⟩
end
end DL
set_option Elab.async false
set_option linter.all false
set_option maxRecDepth 100000
namespace DL
open PySem PySem.Spec PyProof.Rows L2

/-! ## statements -/
def D.frz : D → D
  | .own xs => .lst xs | d => d
def dNext : DSt := fun DD δ => DD.nx δ
def dSeq (t u : DSt) : DSt := fun DD δ => t { DD with nx := u DD } δ
def dBrk : DSt := fun DD δ => DD.bk δ
def dCnt : DSt := fun DD δ => DD.ct δ
def dRet (t : DE) : DSt := fun DD δ => t δ fun d => DD.rt d.frz
def dRetN : DSt := fun DD _ => DD.rt .non
def dDrop (t : DE) : DSt := fun DD δ => t δ fun _ => DD.nx δ
def dSet (i : Nat) (t : DE) : DSt := fun DD δ => t δ fun d => isOwn d = false ∧ DD.nx (δ.set i (some d))
def dSetO (i : Nat) (t : DA) : DSt := fun DD δ => t δ fun ds => DD.nx (δ.set i (some (.own ds)))
def dIfS (c : DT) (t u : DSt) : DSt := fun DD δ => c δ fun b => if b = true then t DD δ else u DD δ
def dFor (it : DI) (q : Pat) (tb : DSt) : DSt := fun DD δ => it δ fun items => ∃ I : Nat → DS → Prop, I 0 δ ∧
  (∀ i d δ', items[i]? = some d → I i δ' → bP q d δ' fun δ1 => tb { nx := I (i + 1), ct := I (i + 1), bk := DD.nx, rt := DD.rt } δ1) ∧ (∀ δ', I items.length δ' → DD.nx δ')
def dWhile (c : DT) (tb : DSt) : DSt := fun DD δ => ∃ I : Nat → DS → Prop, (∃ m, I m δ) ∧ ∀ m δ', I m δ' → c δ' fun b => if b = true then
  tb { nx := fun δ2 => ∃ m', m' < m ∧ I m' δ2, ct := fun δ2 => ∃ m', m' < m ∧ I m' δ2, bk := DD.nx, rt := DD.rt } δ' else DD.nx δ'
section
variable {X : Cx} {p : Pt} {st : Stmt} {rest : List Stmt} {t u : DSt} {e c : Expr} {te : DE} {pos : Pos}
theorem ends_triv {p : Pt} {F : Hp} {nx : DS → Prop} {Q : St → Hp → Prop} (h : ∀ σ' H' F' δ', p.G F' σ' δ' H' → Same F F' → nx δ' → Q σ' H') {F1 : Hp} (s : Same F F1) : ∀ σ' H' F' δ', p.G F' σ' δ' H' → Same F1 F' → nx δ' → Q σ' H' :=
  fun σ' H' F' δ' g s' q => h σ' H' F' δ' g (s.trans s') q
theorem dss_nil : PDSs X p [] dNext := by
  refine ⟨PSs.imp pss_nil ?_⟩
  rintro Dn σ H ⟨F, δ, DD, g, q, kn, kb, kc, kr⟩
  exact kn σ H F δ g (Same.refl F) q
theorem dss_cons (h1 : PDS X p st t) (h2 : PDSs X p rest u) : PDSs X p (st :: rest) (dSeq t u) := by
  refine ⟨PSs.imp (pss_cons h1.ps h2.pss) ?_⟩
  rintro Dn σ H ⟨F, δ, DD, g, q, kn, kb, kc, kr⟩
  refine ⟨F, δ, { DD with nx := u DD }, g, q, fun σ' H' F' δ' g' s' q' => ?_, kb, kc, kr⟩
  exact ⟨F', δ', DD, g', q', ends_triv kn s', ends_triv kb s', ends_triv kc s', kr⟩
theorem dss_one (h1 : PDS X p st t) : PDSs X p [st] t := ⟨pss_one h1.ps⟩
theorem ds_pass : PDS X p (.Pass pos) dNext := by
  refine ⟨PS.imp ps_pass ?_⟩
  rintro Dn σ H ⟨F, δ, DD, g, q, kn, kb, kc, kr⟩
  exact kn σ H F δ g (Same.refl F) q
theorem ds_break : PDS X p (.Break pos) dBrk := by
  refine ⟨PS.imp ps_break ?_⟩
  rintro Dn σ H ⟨F, δ, DD, g, q, kn, kb, kc, kr⟩
  exact kb σ H F δ g (Same.refl F) q
theorem ds_continue : PDS X p (.Continue pos) dCnt := by
  refine ⟨PS.imp ps_continue ?_⟩
  rintro Dn σ H ⟨F, δ, DD, g, q, kn, kb, kc, kr⟩
  exact kc σ H F δ g (Same.refl F) q
/-- what a def gives back: an own list is frozen -/
theorem ret_ok {F H F1 H1 : Hp} {σ : St} {δ : DS} {d : D} {v : V} (g : p.G F1 σ δ H1) (r : Res p.K F1 σ δ d v) : ∃ F2, Ext p.J p.Fi p.Hi F2 H1 ∧ Rep p.K F2 d.frz v := by
  cases hd : isOwn d with
  | false =>
    have e : d.frz = d := by cases d <;> first | rfl | cases hd
    rw [e]
    exact ⟨F1, g.ext, (res_data hd).mp r⟩
  | true =>
    cases d <;> first | (cases hd; done) | skip
    obtain ⟨i, h1, h2⟩ := r
    obtain ⟨v', h3, h4⟩ := g.var i _ h2
    rw [h1] at h3
    have ev : v = v' := Option.some.inj (Option.some.inj h3)
    subst ev
    obtain ⟨a, xs, rfl, h5, h6, h7, h8, h9⟩ := h4
    refine ⟨_, ext_freeze (o := .lst xs) g.ext h8 h6 h5 h7, ?_⟩
    simp only [D.frz, Rep]
    exact ⟨a, xs, rfl, upd_same, RepL.mono (same_new h6) _ _ h9⟩
theorem ds_ret (h : PDE X p e te) : PDS X p (.Return (some e) pos) (dRet te) := by
  refine ⟨PS.imp (ps_ret h.pe) ?_⟩
  rintro Dn σ H ⟨F, δ, DD, g, q, kn, kb, kc, kr⟩
  refine ⟨F, δ, _, g, q, fun v H1 F1 d e1 r1 q1 => ?_⟩
  obtain ⟨F2, e2, r2⟩ := ret_ok (F := F) (H := H) (p.step g e1) r1
  exact kr v H1 F2 _ e2 r2 q1
theorem ds_retN : PDS X p (.Return none pos) dRetN := by
  refine ⟨PS.imp ps_retN ?_⟩
  rintro Dn σ H ⟨F, δ, DD, g, q, kn, kb, kc, kr⟩
  exact kr .non H F .non g.ext (by simp only [Rep]) q
theorem ds_expr (h : PDE X p e te) (hs : swapsWith e none pos.line X.env = pure false := by rfl) : PDS X p (.Expr e pos) (dDrop te) := by
  refine ⟨PS.imp (ps_expr h.pe hs) ?_⟩
  rintro Dn σ H ⟨F, δ, DD, g, q, kn, kb, kc, kr⟩
  exact ⟨F, δ, _, g, q, fun v H1 F1 d e1 r1 q1 => kn σ H1 F1 δ (p.step g e1) e1.ff q1⟩
theorem ds_set {i : Nat} {x : Str} {pos' : Pos} (hN : X.N.Nodup) (hi : X.N[i]? = some x) (hx : Loc X.env.scope x) (h : PDE X p e te) (hs : swapsWith e (some (.Name x pos')) pos.line X.env = pure false := by rfl) (hf : X.fn x = true ∨ X.env.scope.names.lookup x = some .local := by first | exact .inl rfl | exact .inr rfl | assumption) :
    PDS X p (.Assign [.Name x pos'] e pos) (dSet i te) := by
  refine ⟨PS.imp (ps_set hN hi hx h.pe hs hf) ?_⟩
  rintro Dn σ H ⟨F, δ, DD, g, q, kn, kb, kc, kr⟩
  refine ⟨F, δ, _, g, q, fun v H1 F1 d e1 r1 ⟨ho, q1⟩ => ?_⟩
  exact kn _ H1 F1 _ ((p.step g e1).setD ((res_data ho).mp r1)) e1.ff q1
/-- a fresh list goes to a slot of its own -/
theorem own_new {F H F1 H1 : Hp} {σ : St} {δ : DS} {a : Addr} {xs : List V} {ds : List D} {i : Nat} (g : p.G F σ δ H) (e1 : Ext p.J F H F1 H1) (h0 : H a = none) (h1 : F1 a = none) (h2 : H1 a = some (.lst xs)) (r : RepL p.K F1 ds xs) :
    p.G F1 (σ.set i (some (.ref a))) (δ.set i (some (.own ds))) H1 := by
  have g1 := p.step g e1
  refine g1.set ⟨a, xs, rfl, h2, h1, nodom g.ok h0, g.ext.back h0, r⟩ fun ds' _ j dj ne hj hs => ?_
  obtain ⟨v', h3, h4⟩ := g.var j _ hj
  rw [hs] at h3
  have ev : V.ref a = v' := Option.some.inj (Option.some.inj h3)
  obtain ⟨b, ys, eb, h5, _⟩ := h4
  rw [← ev] at eb
  injection eb with eb
  rw [← eb, h0] at h5
  cases h5
theorem ds_setO {i : Nat} {x : Str} {pos' : Pos} {tl : DA} (hN : X.N.Nodup) (hi : X.N[i]? = some x) (hx : Loc X.env.scope x) (h : PDL X p e tl) (hs : swapsWith e (some (.Name x pos')) pos.line X.env = pure false := by rfl) (hf : X.fn x = true ∨ X.env.scope.names.lookup x = some .local := by first | exact .inl rfl | exact .inr rfl | assumption) :
    PDS X p (.Assign [.Name x pos'] e pos) (dSetO i tl) := by
  refine ⟨PS.imp (ps_set hN hi hx h.pe hs hf) ?_⟩
  rintro Dn σ H ⟨F, δ, DD, g, q, kn, kb, kc, kr⟩
  refine ⟨F, δ, _, g, q, fun a xs H1 F1 ds e1 h0 h1 h2 r1 q1 => ?_⟩
  exact kn _ H1 F1 _ (own_new g e1 h0 h1 h2 r1) e1.ff q1
/-- name = [.. for ..] in one row, the name a local: stored within the comprehension's frame -/
theorem ds_setLcO {i : Nat} {y : Str} {py : Pos} {elt tg iter : Expr} {ifs : List Expr} {scope : Scope} {pos spos : Pos} {it : DI} {q : Pat} {tt : DT} {te : DE} (own : List (Str × Nat)) (hc : X.calm = true) (hN : X.N.Nodup) (hy : X.N[i]? = some y) (hyl : X.env.scope.names.lookup y = some .local)
    (hsw : swapsWith (.ListComp elt [⟨tg, iter, ifs, 0⟩] scope pos) (some (.Name y py)) spos.line X.env = pure true) (hi : PDI X p tg iter it) (ok : BlkOk X.N X.env.scope scope own)
    (hg : ∀ (s : Shared) (H : Hp) (C : Addr) (cl : List (Str × Addr)) (fp : List Addr), PDG (X.blk s H scope (compEnvC scope cl C X.env) fp) p tg q) (ht : ∀ (s : Shared) (H : Hp) (C : Addr) (cl : List (Str × Addr)) (fp : List Addr), PDTs (X.blk s H scope (compEnvC scope cl C X.env) fp) p ifs tt)
    (he : ∀ (s : Shared) (H : Hp) (C : Addr) (cl : List (Str × Addr)) (fp : List Addr), PDE (X.blk s H scope (compEnvC scope cl C X.env) fp) p elt te) (hv : ∀ i ∈ q.sl, i ∈ own.map (·.2) := by decide) (hs : ∀ x, foldedSetIterable iter X.env x = pure x := by intro _; rfl) :
    PDS X p (.Assign [.Name y py] (.ListComp elt [⟨tg, iter, ifs, 0⟩] scope pos) spos) (dSetO i (dLc it q tt te (own.map (·.2)))) := by
  refine ⟨PS.imp (ps_setLc hc hN hy hyl hsw hi.pi ok (fun s H C cl fp => (hg s H C cl fp).pg) (fun s H C cl fp => (ht s H C cl fp).pts) (fun s H C cl fp => (he s H C cl fp).pe) hs) ?_⟩
  rintro Dn σ H ⟨F, δ, DD, g, q, kn, kb, kc, kr⟩
  refine lift_lc hv σ H _ ⟨F, δ, _, g, q, fun a xs H1 F1 ds e1 h0 h1 h2 r1 q1 => ?_⟩
  exact kn _ H1 F1 _ (own_new g e1 h0 h1 h2 r1) e1.ff q1
theorem ds_setLc {i : Nat} {y : Str} {py : Pos} {elt tg iter : Expr} {ifs : List Expr} {scope : Scope} {pos spos : Pos} {it : DI} {q : Pat} {tt : DT} {te : DE} (own : List (Str × Nat)) (hc : X.calm = true) (hN : X.N.Nodup) (hy : X.N[i]? = some y) (hyl : X.env.scope.names.lookup y = some .local)
    (hsw : swapsWith (.ListComp elt [⟨tg, iter, ifs, 0⟩] scope pos) (some (.Name y py)) spos.line X.env = pure true) (hi : PDI X p tg iter it) (ok : BlkOk X.N X.env.scope scope own)
    (hg : ∀ (s : Shared) (H : Hp) (C : Addr) (cl : List (Str × Addr)) (fp : List Addr), PDG (X.blk s H scope (compEnvC scope cl C X.env) fp) p tg q) (ht : ∀ (s : Shared) (H : Hp) (C : Addr) (cl : List (Str × Addr)) (fp : List Addr), PDTs (X.blk s H scope (compEnvC scope cl C X.env) fp) p ifs tt)
    (he : ∀ (s : Shared) (H : Hp) (C : Addr) (cl : List (Str × Addr)) (fp : List Addr), PDE (X.blk s H scope (compEnvC scope cl C X.env) fp) p elt te) (hv : ∀ i ∈ q.sl, i ∈ own.map (·.2) := by decide) (hs : ∀ x, foldedSetIterable iter X.env x = pure x := by intro _; rfl) :
    PDS X p (.Assign [.Name y py] (.ListComp elt [⟨tg, iter, ifs, 0⟩] scope pos) spos) (dSet i (dL (dLc it q tt te (own.map (·.2))))) := by
  refine ⟨PS.imp (ps_setLc hc hN hy hyl hsw hi.pi ok (fun s H C cl fp => (hg s H C cl fp).pg) (fun s H C cl fp => (ht s H C cl fp).pts) (fun s H C cl fp => (he s H C cl fp).pe) hs) ?_⟩
  rintro Dn σ H ⟨F, δ, DD, g, q, kn, kb, kc, kr⟩
  refine lift_lc hv σ H _ ⟨F, δ, _, g, q, fun a xs H1 F1 ds e1 h0 h1 h2 r1 q1 => ?_⟩
  have e2 := ext_freeze (o := .lst xs) e1 h0 h1 h2 (nodom g.ok h0)
  refine kn _ H1 _ _ ((p.step g e2).setD (d := .lst ds) ?_) e2.ff q1.2
  simp only [Rep]
  exact ⟨a, xs, rfl, upd_same, RepL.mono (same_new h1) _ _ r1⟩
theorem ds_if {c : Expr} {a b : List Stmt} {tc : DT} (hc : PDT X p c tc) (ha : PDSs X p a t) (hb : PDSs X p b u) : PDS X p (.If c a b pos) (dIfS tc t u) := by
  refine ⟨PS.imp (ps_if hc.pt ha.pss hb.pss) ?_⟩
  rintro Dn σ H ⟨F, δ, DD, g, q, kn, kb, kc, kr⟩
  refine ⟨F, δ, _, g, q, fun b H1 F1 e1 q1 => ?_⟩
  have g1 := p.step g e1
  cases b with
  | true =>
    dsimp only at q1 ⊢
    rw [if_pos rfl] at q1 ⊢
    exact ⟨F1, δ, DD, g1, q1, ends_triv kn e1.ff, ends_triv kb e1.ff, ends_triv kc e1.ff, kr⟩
  | false =>
    dsimp only at q1 ⊢
    rw [if_neg Bool.false_ne_true] at q1 ⊢
    exact ⟨F1, δ, DD, g1, q1, ends_triv kn e1.ff, ends_triv kb e1.ff, ends_triv kc e1.ff, kr⟩
/-- code that is never come to -/
def dNever : DSt := fun _ _ => False
theorem ds_never : PDS X p st dNever := ⟨PS.imp ps_never fun _ _ _ ⟨_, _, _, _, q, _⟩ => q⟩
theorem dss_never {sts : List Stmt} : PDSs X p sts dNever := ⟨PSs.imp pss_never fun _ _ _ ⟨_, _, _, _, q, _⟩ => q⟩
theorem ds_while {body : List Stmt} {tc : DT} {tb : DSt} (hp : PassesOwn (model X.prog X.w) X.A X.env X.xe) (hc : PDT X p c tc) (hb : PDSs X p body tb) : PDS X p (.While c body [] pos) (dWhile tc tb) := by
  refine ⟨PS.imp (ps_while hp hc.pt hb.pss) ?_⟩
  rintro Dn σ H ⟨F, δ, DD, g, ⟨I, ⟨m0, i0⟩, turn⟩, kn, kb, kc, kr⟩
  refine ⟨fun m σ' H' => ∃ F' δ', p.G F' σ' δ' H' ∧ Same F F' ∧ I m δ', ⟨m0, F, δ, g, Same.refl F, i0⟩, ?_⟩
  rintro m σ1 H1 ⟨F1, δ1, g1, s1, i1⟩
  refine ⟨F1, δ1, _, g1, turn m δ1 i1, fun b H2 F2 e2 q2 => ?_⟩
  have g2 := p.step g1 e2
  cases b with
  | true =>
    dsimp only at q2 ⊢
    rw [if_pos rfl] at q2 ⊢
    refine ⟨fun σ' H' => ∃ F' δ', p.G F' σ' δ' H' ∧ Same F F' ∧ ∃ m', m' < m ∧ I m' δ', fun σ' H' ⟨F', δ', g', s', m', hm, im⟩ => ⟨m', hm, F', δ', g', s', im⟩, ?_⟩
    refine ⟨F2, δ1, _, g2, q2, fun σ' H' F' δ' g' s' q' => ?_, fun σ' H' F' δ' g' s' q' => ?_, fun σ' H' F' δ' g' s' q' => ?_, kr⟩
    · obtain ⟨m', hm, im⟩ := q'
      exact ⟨F', δ', g', (s1.trans e2.ff).trans s', m', hm, im⟩
    · exact kn σ' H' F' δ' g' ((s1.trans e2.ff).trans s') q'
    · obtain ⟨m', hm, im⟩ := q'
      exact ⟨F', δ', g', (s1.trans e2.ff).trans s', m', hm, im⟩
  | false =>
    dsimp only at q2 ⊢
    rw [if_neg Bool.false_ne_true] at q2 ⊢
    exact kn σ1 H2 F2 δ1 g2 (s1.trans e2.ff) q2
theorem ds_for {tg iter : Expr} {body : List Stmt} {it : DI} {q : Pat} {tb : DSt} (hp : PassesOwn (model X.prog X.w) X.A X.env X.xe) (hc : X.calm = true) (hi : PDI X p tg iter it) (hg : PDG X p tg q) (hb : PDSs X p body tb) (hs : ∀ x, foldedSetIterable iter X.env x = pure x := by intro _; rfl) :
    PDS X p (.For tg iter body [] pos) (dFor it q tb) := by
  refine ⟨PS.imp (ps_for hp hc hi.pi hg.pg hb.pss hs) ?_⟩
  rintro Dn σ H ⟨F, δ, DD, g, qq, kn, kb, kc, kr⟩
  refine ⟨F, δ, _, g, qq, fun W H1 F1 items e1 hw ⟨I, i0, step, fin⟩ => ?_⟩
  have g1 := p.step g e1
  refine ⟨fun i m σ' H' => i + m = items.length ∧ ∃ F' δ', p.G F' σ' δ' H' ∧ Same F1 F' ∧ I i δ', ⟨items.length, by omega, F1, δ, g1, Same.refl F1, i0⟩, ?_⟩
  rintro i m σ2 H2 ⟨em, F2, δ2, g2, s2, i2⟩
  obtain ⟨wg, wst⟩ := hw F2 H2 s2 g2.ok i
  by_cases hlt : i < items.length
  · obtain ⟨w1, w2⟩ := wg hlt
    refine .inr ⟨w1, fun σ' H' => ∃ F' δ', p.G F' σ' δ' H' ∧ Same F1 F' ∧ I (i + 1) δ', fun σ' H' ⟨F', δ', g', s', i'⟩ => ⟨m - 1, by omega, by omega, F', δ', g', s', i'⟩, fun x H3 hy => ?_⟩
    obtain ⟨F3, d, hd, e3, r3⟩ := w2 x H3 hy
    have g3 := p.step g2 e3
    refine bP_ok q d x _ _ _ _ g3 r3 (step i d δ2 hd i2) fun σ4 δ4 g4 _ q4 => ?_
    have s3 := s2.trans e3.ff
    refine ⟨F3, δ4, _, g4, q4, fun σ' H' F' δ' g' s' q' => ⟨F', δ', g', s3.trans s', q'⟩, fun σ' H' F' δ' g' s' q' => kn σ' H' F' δ' g' ((e1.ff.trans s3).trans s') q', fun σ' H' F' δ' g' s' q' => ⟨F', δ', g', s3.trans s', q'⟩, kr⟩
  · have ei : i = items.length := by omega
    subst ei
    exact .inl ⟨wst (Nat.le_refl _), kn σ2 H2 F2 δ2 g2 (e1.ff.trans s2) (fin δ2 i2)⟩
end

/-! ## several names at once: a, b, .. = x, y, .. -/
/-- results that may be new lists; U: the new ones so far -/
def RawL (K : PySem.W.Frag) (H F1 H1 : Hp) : List Addr → List D → List V → Prop
  | _, [], vs => vs = []
  | U, .own xs :: ds, vs => ∃ a ys r, vs = .ref a :: r ∧ H a = none ∧ a ∉ U ∧ F1 a = none ∧ H1 a = some (.lst ys) ∧ RepL K F1 xs ys ∧ RawL K H F1 H1 (a :: U) ds r
  | U, d :: ds, vs => ∃ v r, vs = v :: r ∧ Rep K F1 d v ∧ RawL K H F1 H1 U ds r
def liftR (p : Pt) (t : DA) : TA := fun σ H Q => ∃ F δ QD, p.G F σ δ H ∧ t δ QD ∧ ∀ vs H1 F1 ds, Ext p.J F H F1 H1 → RawL p.K H F1 H1 [] ds vs → QD ds → Q vs H1
structure PDR (X : Cx) (p : Pt) (es : List Expr) (t : DA) : Prop where
  pa : PA X es (liftR p t)
def dConsO (t : DA) (r : DA) : DA := fun δ Q => t δ fun xs => r δ fun ds => Q (.own xs :: ds)
theorem raw_data {K : PySem.W.Frag} {H F1 H1 : Hp} {U : List Addr} {d : D} {ds : List D} {vs : List V} (ho : isOwn d = false) : RawL K H F1 H1 U (d :: ds) vs ↔ ∃ v r, vs = v :: r ∧ Rep K F1 d v ∧ RawL K H F1 H1 U ds r := by
  cases d <;> first | exact Iff.rfl | cases ho
section
variable {X : Cx} {p : Pt} {e : Expr} {es : List Expr} {t : DE} {tl r : DA} {pos : Pos}
theorem RawL.back {K : PySem.W.Frag} {J : Reg} {F H F1 H1 F2 H2 : Hp} (e1 : Ext J F H F1 H1) {U' : List Addr} (hU : ∀ u ∈ U', H1 u ≠ none) : ∀ {ds : List D} {vs : List V} {U : List Addr}, RawL K H1 F2 H2 U ds vs → RawL K H F2 H2 (U ++ U') ds vs
  | [], vs, _, h => h
  | d :: ds, vs, U, h => by
    cases ho : isOwn d with
    | false =>
      rw [raw_data ho] at h ⊢
      obtain ⟨v, r, rfl, h1, h2⟩ := h
      exact ⟨v, r, rfl, h1, RawL.back e1 hU h2⟩
    | true =>
      cases d <;> first | (cases ho; done) | skip
      obtain ⟨a, ys, r, rfl, c1, c2, c3, c4, c5, c6⟩ := h
      refine ⟨a, ys, r, rfl, e1.back c1, ?_, c3, c4, c5, RawL.back (U := a :: U) e1 hU c6⟩
      rw [List.mem_append]
      rintro (z | z)
      · exact c2 z
      · exact hU a z c1
theorem dr_nil : PDR X p [] dNil := by
  refine ⟨PA.imp pa_nil ?_⟩
  rintro σ H Q ⟨F, δ, QD, g, q, k⟩
  exact k [] H F [] (Ext.refl g.ok) (by simp only [RawL]) q
theorem dr_cons (ha : PDE X p e t) (hr : PDR X p es r) (hs : starEach (e :: es) X.env = (false, eval e X.env) :: starEach es X.env := by rfl) : PDR X p (e :: es) (dCons t r) := by
  refine ⟨PA.imp (pa_cons ha.pe hr.pa hs) ?_⟩
  rintro σ H Q ⟨F, δ, QD, g, q, k⟩
  refine ⟨F, δ, _, g, q, fun x H1 F1 d e1 r1 ⟨ho, q1⟩ => ?_⟩
  have g1 := p.step g e1
  refine ⟨F1, δ, _, g1, q1, fun vs H2 F2 ds e2 r2 q2 => ?_⟩
  refine k (x :: vs) H2 F2 (d :: ds) (e1.trans g.ok e2) ?_ q2
  rw [raw_data ho]
  exact ⟨x, vs, rfl, Rep.mono e2.ff _ _ ((res_data ho).mp r1), by simpa using RawL.back (U' := []) e1 (by simp) r2⟩
theorem dr_consO (ha : PDL X p e tl) (hr : PDR X p es r) (hs : starEach (e :: es) X.env = (false, eval e X.env) :: starEach es X.env := by rfl) : PDR X p (e :: es) (dConsO tl r) := by
  refine ⟨PA.imp (pa_cons ha.pe hr.pa hs) ?_⟩
  rintro σ H Q ⟨F, δ, QD, g, q, k⟩
  refine ⟨F, δ, _, g, q, fun a xs H1 F1 ds e1 h0 h1 h2 r1 q1 => ?_⟩
  have g1 := p.step g e1
  refine ⟨F1, δ, _, g1, q1, fun vs H2 F2 ds' e2 r2 q2 => ?_⟩
  refine k (.ref a :: vs) H2 F2 (.own ds :: ds') (e1.trans g.ok e2) ?_ q2
  have nd := nodom g.ok h0
  have hU : ∀ u ∈ [a], H1 u ≠ none := fun u hu => by
    have e : u = a := by simpa using hu
    rw [e, h2]
    simp
  have r3 : RawL p.K H F2 H2 [a] ds' vs := RawL.back (U' := [a]) (U := []) e1 hU r2
  exact ⟨a, xs, vs, rfl, h0, by simp, e2.new a _ h2 h1, e2.keep a _ h2 nd, RepL.mono e2.ff _ _ r1, r3⟩
/-- the stores, from the left -/
def setsV : St → List Nat → List V → St
  | σ, i :: is, v :: vs => setsV (σ.set i (some v)) is vs
  | σ, _, _ => σ
def setsD : DS → List Nat → List D → DS
  | δ, i :: is, d :: ds => setsD (δ.set i (some d)) is ds
  | δ, _, _ => δ
/-- U: what stands in own slots and is new -/
theorem raw_set {H F1 H1 : Hp} : ∀ (is : List Nat) (ds : List D) (vs : List V) (U : List Addr) (σ : St) (δ : DS), p.G F1 σ δ H1 → (∀ a, H a = none → ¬ p.J.dom a ∧ p.Hi a = none) →
    (∀ (j : Nat) dj a, δ[j]? = some (some (.own dj)) → σ[j]? = some (some (.ref a)) → H a ≠ none ∨ a ∈ U) → RawL p.K H F1 H1 U ds vs → p.G F1 (setsV σ is vs) (setsD δ is ds) H1
  | [], _, _, _, _, _, g, _, _, _ => by simp only [setsV, setsD]; exact g
  | i :: is, [], vs, U, σ, δ, g, _, _, h => by
    simp only [RawL] at h
    subst h
    simp only [setsV, setsD]; exact g
  | i :: is, d :: ds, vs, U, σ, δ, g, hn, hu, h => by
    cases ho : isOwn d with
    | false =>
      rw [raw_data ho] at h
      obtain ⟨v, r, rfl, h1, h2⟩ := h
      simp only [setsV, setsD]
      refine raw_set is ds r U _ _ (g.setD h1) hn (fun j dj a e1 e2 => ?_) h2
      rcases getElem?_set' _ _ _ _ _ e1 with ⟨rfl, e3⟩ | ⟨ne, e3⟩
      · cases Option.some.inj e3
        cases ho
      · rw [List.getElem?_set_ne ne] at e2
        exact hu j dj a e3 e2
    | true =>
      cases d <;> first | (cases ho; done) | skip
      obtain ⟨a, ys, r, rfl, c1, c2, c3, c4, c5, c6⟩ := h
      simp only [setsV, setsD]
      obtain ⟨n1, n2⟩ := hn a c1
      refine raw_set is ds r (a :: U) _ _ (g.set ⟨a, ys, rfl, c4, c3, n1, n2, c5⟩ fun _ _ j dj ne hj hs => ?_) hn (fun j dj b e1 e2 => ?_) c6
      · rcases hu j dj a hj hs with z | z
        · exact z c1
        · exact c2 z
      · rcases getElem?_set' _ _ _ _ _ e1 with ⟨rfl, e3⟩ | ⟨ne, e3⟩
        · rcases getElem?_set' _ _ _ _ _ e2 with ⟨_, e4⟩ | ⟨ne, _⟩
          · injection e4 with e4
            injection e4 with e4
            exact .inr (by rw [e4]; exact List.mem_cons_self ..)
          · exact absurd rfl ne
        · rw [List.getElem?_set_ne ne] at e2
          rcases hu j dj b e3 e2 with z | z
          · exact .inl z
          · exact .inr (List.mem_cons_of_mem _ z)
theorem own_old {F H : Hp} {σ : St} {δ : DS} (g : p.G F σ δ H) (j : Nat) (dj : List D) (a : Addr) (e1 : δ[j]? = some (some (.own dj))) (e2 : σ[j]? = some (some (.ref a))) : H a ≠ none := by
  obtain ⟨v', h3, h4⟩ := g.var j _ e1
  rw [e2] at h3
  have ev : V.ref a = v' := Option.some.inj (Option.some.inj h3)
  obtain ⟨b, ys, eb, h5, _⟩ := h4
  rw [← ev] at eb
  injection eb with eb
  rw [eb, h5]; simp
theorem raw_all {F H F1 H1 : Hp} {σ : St} {δ : DS} {is : List Nat} {ds : List D} {vs : List V} (g : p.G F σ δ H) (e1 : Ext p.J F H F1 H1) (h : RawL p.K H F1 H1 [] ds vs) : p.G F1 (setsV σ is vs) (setsD δ is ds) H1 :=
  raw_set is ds vs [] σ δ (p.step g e1) (fun a ha => ⟨nodom g.ok ha, g.ext.back ha⟩) (fun j dj a c1 c2 => .inl (own_old g j dj a c1 c2)) h
def dPar (is : List Nat) (ta : DA) : DSt := fun DD δ => ta δ fun ds => ds.length = is.length ∧ DD.nx (setsD δ is ds)
theorem RawL.length {K : PySem.W.Frag} {H F1 H1 : Hp} : ∀ {ds : List D} {vs : List V} {U : List Addr}, RawL K H F1 H1 U ds vs → vs.length = ds.length
  | [], vs, _, h => by simp only [RawL] at h; subst h; rfl
  | d :: ds, vs, U, h => by
    cases ho : isOwn d with
    | false =>
      rw [raw_data ho] at h
      obtain ⟨v, r, rfl, h1, h2⟩ := h
      simp only [List.length_cons, RawL.length h2]
    | true =>
      cases d <;> first | (cases ho; done) | skip
      obtain ⟨a, ys, r, rfl, c1, c2, c3, c4, c5, c6⟩ := h
      simp only [List.length_cons, RawL.length c6]
theorem ds_par2 {i j : Nat} {x y : Str} {a b : Expr} {px py pt : Pos} {kt k2 pt2} (hc : X.calm = true) (hN : X.N.Nodup) (hi : X.N[i]? = some x) (hj : X.N[j]? = some y) (hij : i ≠ j)
    (hx : X.env.scope.names.lookup x = some .local) (hy : X.env.scope.names.lookup y = some .local) (ha : PDR X p [a, b] r)
    (hw : swappedStores [.Tuple [.Name x px, .Name y py] kt pt] (.Tuple [a, b] k2 pt2) X.env = pure (some [x, y]))
    (hs : swapsWithSole [.Tuple [.Name x px, .Name y py] kt pt] (.Tuple [a, b] k2 pt2) pos.line X.env = pure false := by rfl) :
    PDS X p (.Assign [.Tuple [.Name x px, .Name y py] kt pt] (.Tuple [a, b] k2 pt2) pos) (dPar [i, j] r) := by
  refine ⟨PS.imp (ps_par hc hN hi hj hij hx hy ha.pa hw hs) ?_⟩
  rintro Dn σ H ⟨F, δ, DD, g, q, kn, kb, kc, kr⟩
  refine ⟨F, δ, _, g, q, fun vs H1 F1 ds e1 r1 ⟨hl, q1⟩ => ?_⟩
  have g1 := raw_all (is := [i, j]) g e1 r1
  have hv := RawL.length r1
  rw [hl] at hv
  match vs, hv with
  | [v, w], _ =>
    refine ⟨v, w, rfl, ?_⟩
    exact kn _ H1 F1 _ g1 e1.ff q1
theorem ds_par3 {i j l : Nat} {x y z : Str} {a b c : Expr} {px py pz pt : Pos} {kt k2 pt2} (hc : X.calm = true) (hN : X.N.Nodup) (hi : X.N[i]? = some x) (hj : X.N[j]? = some y) (hl : X.N[l]? = some z) (hij : i ≠ j) (hil : i ≠ l) (hjl : j ≠ l)
    (hx : X.env.scope.names.lookup x = some .local) (hy : X.env.scope.names.lookup y = some .local) (hz : X.env.scope.names.lookup z = some .local) (ha : PDR X p [a, b, c] r)
    (hw : swappedStores [.Tuple [.Name x px, .Name y py, .Name z pz] kt pt] (.Tuple [a, b, c] k2 pt2) X.env = pure (some [x, y, z]))
    (hs : swapsWithSole [.Tuple [.Name x px, .Name y py, .Name z pz] kt pt] (.Tuple [a, b, c] k2 pt2) pos.line X.env = pure false := by rfl) :
    PDS X p (.Assign [.Tuple [.Name x px, .Name y py, .Name z pz] kt pt] (.Tuple [a, b, c] k2 pt2) pos) (dPar [i, j, l] r) := by
  refine ⟨PS.imp (ps_par3 hc hN hi hj hl hij hil hjl hx hy hz ha.pa hw hs) ?_⟩
  rintro Dn σ H ⟨F, δ, DD, g, q, kn, kb, kc, kr⟩
  refine ⟨F, δ, _, g, q, fun vs H1 F1 ds e1 r1 ⟨hl, q1⟩ => ?_⟩
  have g1 := raw_all (is := [i, j, l]) g e1 r1
  have hv := RawL.length r1
  rw [hl] at hv
  match vs, hv with
  | [v, w, u], _ =>
    refine ⟨v, w, u, rfl, ?_⟩
    exact kn _ H1 F1 _ g1 e1.ff q1
/-- names all, by the tuple itself -/
structure NmsG (X : Cx) (es : List Expr) (is : List Nat) (g : TGs) : Prop where
  pgs : PGs X es g
  run : ∀ (vs : List V) (σ : St) (H : Hp) (Q : St → Hp → Prop), vs.length = is.length → Q (setsV σ is vs) H → g vs σ H Q
theorem nms_nil : NmsG X [] [] gNil := ⟨pgs_nil, fun vs σ H Q hl q => by
  have : vs = [] := List.eq_nil_of_length_eq_zero hl
  subst this
  exact ⟨rfl, q⟩⟩
theorem nms_cons {i : Nat} {x : Str} {is : List Nat} {g : TGs} {es : List Expr} (hN : X.N.Nodup) (hi : X.N[i]? = some x) (hx : Loc X.env.scope x) (h : NmsG X es is g) (hf : X.fn x = true ∨ X.env.scope.names.lookup x = some .local := by first | exact .inl rfl | exact .inr rfl | assumption)
    (hs : (assignEach (.Name x pos :: es) X.env).map (·.2) = assign (.Name x pos) X.env :: (assignEach es X.env).map (·.2) := by rfl) : NmsG X (.Name x pos :: es) (i :: is) (gCons (gName i) g) :=
  ⟨pgs_cons (pg_name hN hi hx hf) h.pgs hs, fun vs σ H Q hl q => by
    match vs, hl with
    | v :: vs, hl =>
      refine ⟨v, vs, rfl, ?_⟩
      exact h.run vs _ H Q (by simpa using hl) q⟩
theorem ds_parN {es ts : List Expr} {is : List Nat} {g : TGs} {kt k2 : Nat} {pt pt2 : Pos} (hc : X.calm = true) (hg : NmsG X ts is g) (ha : PDR X p es r) (hz : is.length ≤ 100 := by decide) (hln : (assignEach ts X.env).length = is.length := by rfl) (hst : (assignEach ts X.env).findIdx? (·.1) = none := by rfl)
    (hs : swapsWithSole [.Tuple ts kt pt] (.Tuple es k2 pt2) pos.line X.env = pure false := by rfl) (hw : swappedStores [.Tuple ts kt pt] (.Tuple es k2 pt2) X.env = pure none := by rfl)
    (h1 : (assignEach [.Tuple ts kt pt] X.env).map (·.2) = [assign (.Tuple ts kt pt) X.env] := by rfl) :
    PDS X p (.Assign [.Tuple ts kt pt] (.Tuple es k2 pt2) pos) (dPar is r) := by
  refine ⟨PS.imp (ps_asg (pe_tup ha.pa) (pg_tup hc hg.pgs hln hst) hs hw h1) ?_⟩
  rintro Dn σ H ⟨F, δ, DD, g, q, kn, kb, kc, kr⟩
  refine ⟨F, δ, _, g, q, fun vs H1 F1 ds e1 r1 ⟨hl, q1⟩ => ?_⟩
  have hv := RawL.length r1
  rw [hl] at hv
  have hzz : vs.length ≤ sizeLine := by rw [hv, sizeLine_eq]; omega
  refine ⟨hzz, fun T hT => ⟨T, vs, rfl, SqT.of upd_same, hv, ?_⟩⟩
  refine hg.run vs σ _ _ hv ?_
  have g1 := raw_all (is := is) g e1 r1
  exact kn _ _ F1 _ (p.step g1 (ext_raw g1.ok hT)) e1.ff q1
end
end DL
set_option Elab.async false
set_option linter.all false
set_option maxRecDepth 100000
namespace DL
open PySem PySem.Spec PyProof.Rows L2

/-! ## own lists are changed -/
section
variable {X : Cx} {p : Pt} {e c : Expr} {te ti : DE} {tl : DA} {pos p1 p2 p3 : Pos} {F H : Hp} {σ : St} {δ : DS}
theorem G.write (g : p.G F σ δ H) {i : Nat} {a : Addr} {xs ys : List V} {ds es : List D} (h1 : δ[i]? = some (some (.own ds))) (h2 : σ[i]? = some (some (.ref a))) (h3 : H a = some (.lst xs)) (r : RepL p.K F es ys) :
    p.G F σ (δ.set i (some (.own es))) (L2.upd H a (.lst ys)) := by
  obtain ⟨v, c1, c2⟩ := g.var i _ h1
  rw [h2] at c1
  have ev : V.ref a = v := Option.some.inj (Option.some.inj c1)
  obtain ⟨b, zs, eb, c3, c4, c5, c6, c7⟩ := c2
  rw [← ev] at eb
  injection eb with eb
  subst eb
  refine ⟨ext_mut g.ext c6 c4 c5, g.bs, by rw [List.length_set]; exact g.len, fun j d e => ?_, fun j k dj dk b ne e1 e2 e3 e4 => ?_⟩
  · rcases getElem?_set' _ _ _ _ _ e with ⟨rfl, e'⟩ | ⟨ne, e'⟩
    · cases e'
      exact ⟨.ref a, h2, a, ys, rfl, upd_same, c4, c5, c6, r⟩
    · obtain ⟨w, f1, f2⟩ := g.var j d e'
      refine ⟨w, f1, ?_⟩
      cases hd : isOwn d with
      | false => rw [slot_data hd] at f2 ⊢; exact f2
      | true =>
        cases d <;> first | (cases hd; done) | skip
        obtain ⟨b, ws, rfl, f3, f4, f5, f6, f7⟩ := f2
        have nb : b ≠ a := fun z => by
          subst z
          exact g.dis i j ds _ b ne h1 e' h2 f1
        exact ⟨b, ws, rfl, by rw [upd_ne nb]; exact f3, f4, f5, f6, f7⟩
  · rcases getElem?_set' _ _ _ _ _ e1 with ⟨rfl, e5⟩ | ⟨n1, e5⟩
    · rcases getElem?_set' _ _ _ _ _ e2 with ⟨rfl, e6⟩ | ⟨n2, e6⟩
      · exact ne rfl
      · exact g.dis i k ds dk b ne h1 e6 e3 e4
    · rcases getElem?_set' _ _ _ _ _ e2 with ⟨rfl, e6⟩ | ⟨n2, e6⟩
      · exact g.dis j i dj ds b ne e5 h1 e3 e4
      · exact g.dis j k dj dk b ne e5 e6 e3 e4
/-- an own slot: where its list stands -/
theorem own_at (g : p.G F σ δ H) {i : Nat} {ds : List D} (h : δ[i]? = some (some (.own ds))) : ∃ a xs, σ[i]? = some (some (.ref a)) ∧ H a = some (.lst xs) ∧ RepL p.K F ds xs := by
  obtain ⟨v, c1, c2⟩ := g.var i _ h
  obtain ⟨a, xs, rfl, c3, _, _, _, c4⟩ := c2
  exact ⟨a, xs, c1, c3, c4⟩
theorem own_again {F1 H1 : Hp} {a : Addr} {xs : List V} (g1 : p.G F1 σ δ H1) {i : Nat} {ds : List D} (h : δ[i]? = some (some (.own ds))) (h2 : σ[i]? = some (some (.ref a))) : ∃ ys, H1 a = some (.lst ys) ∧ RepL p.K F1 ds ys := by
  obtain ⟨b, ys, c1, c2, c3⟩ := own_at g1 h
  rw [h2] at c1
  have ev : V.ref a = .ref b := Option.some.inj (Option.some.inj c1)
  injection ev with ev
  subst ev
  exact ⟨ys, c2, c3⟩
/-- xs.append(e) -/
def dAppend (i : Nat) (te : DE) : DSt := fun DD δ => ∃ ds, δ[i]? = some (some (.own ds)) ∧ te δ fun d => isOwn d = false ∧ ds.length < sizeLine ∧ DD.nx (δ.set i (some (.own (ds ++ [d]))))
theorem ds_append (i : Nat) {x : Str} (h : PDE X p e te) (hN : X.N[i]? = some x := by rfl) (hv : Vis X.env.scope x := by first | exact Or.inl rfl | exact Or.inr (Or.inl rfl) | exact Or.inr (Or.inr rfl)) (hd : (x == ("__debug__" : Str)) = false := by decide) (hcd : (x == ("__classdict__" : Str)) = false := by decide)
    (hbase : attributeBase (.Name x p1) "append" X.env (eval (.Name x p1) X.env) = eval (.Name x p1) X.env := by rfl)
    (hfew : ((backTo p3 (starEach (e :: []) X.env)).all (fun x => !x.1) && (backToKw p3 (keywordEach [] X.env)).all (fun x => x.1.isSome) && decide ((e :: ([] : List Expr)).length + ([] : List Keyword).length + (if ([] : List Keyword).isEmpty then 0 else 1) < 30)) = true := by rfl)
    (hline : (p2.endLine == p3.line) = true := by rfl) (hs : starEach (e :: []) X.env = (false, eval e X.env) :: starEach [] X.env := by rfl) (hplain : (backTo p3 (starEach [] X.env)).any (·.1) = false := by rfl)
    (hsw : swapsWith (.Call (.Attribute (.Name x p1) "append" p2) [e] [] p3) none pos.line X.env = pure false := by rfl) :
    PDS X p (.Expr (.Call (.Attribute (.Name x p1) "append" p2) [e] [] p3) pos) (dAppend i te) := by
  refine ⟨PS.imp (ps_expr (pe_bm PySem.F.plainAttrs_list PySem.F.slot_list_append PySem.F.type_list_append mt_append (pe_var hN hv hd hcd) (pa_cons h.pe pa_nil hs) hbase hfew hline hs hplain) hsw) ?_⟩
  rintro Dn σ H ⟨F, δ, DD, g, ⟨ds, hi, q⟩, kn, kb, kc, kr⟩
  obtain ⟨a, xs, c1, c2, c3⟩ := own_at g hi
  refine ⟨.ref a, c1, .inl ⟨rfl, xs, SqL.of c2⟩, F, δ, _, g, q, fun y H1 F1 d e1 r1 ⟨ho, hl, q1⟩ => ?_⟩
  have g1 := p.step g e1
  obtain ⟨ys, c4, c5⟩ := own_again (xs := xs) g1 hi c1
  refine ⟨a, ys, y, rfl, rfl, c4, by rw [RepL.length c5]; exact hl, ?_⟩
  exact kn σ _ F1 _ (G.write g1 hi c1 c4 (RepL.append c5 (RepL.one ((res_data ho).mp r1)))) e1.ff q1
/-- target = xs.pop() -/
def dPop (i : Nat) (q : Pat) : DSt := fun DD δ => ∃ ds d, δ[i]? = some (some (.own (ds ++ [d]))) ∧ bP q d (δ.set i (some (.own ds))) DD.nx
theorem ds_pop (i : Nat) {x : Str} {tg : Expr} {q : Pat} (hg : PDG X p tg q) (hN : X.N[i]? = some x := by rfl) (hv : Vis X.env.scope x := by first | exact Or.inl rfl | exact Or.inr (Or.inl rfl) | exact Or.inr (Or.inr rfl)) (hd : (x == ("__debug__" : Str)) = false := by decide) (hcd : (x == ("__classdict__" : Str)) = false := by decide)
    (hbase : attributeBase (.Name x p1) "pop" X.env (eval (.Name x p1) X.env) = eval (.Name x p1) X.env := by rfl) (hline : (p2.endLine == p3.line) = true := by rfl)
    (hs : swapsWithSole [tg] (.Call (.Attribute (.Name x p1) "pop" p2) [] [] p3) pos.line X.env = pure false := by rfl) (hw : swappedStores [tg] (.Call (.Attribute (.Name x p1) "pop" p2) [] [] p3) X.env = pure none := by rfl)
    (h1 : (assignEach [tg] X.env).map (·.2) = [assign tg X.env] := by rfl) :
    PDS X p (.Assign [tg] (.Call (.Attribute (.Name x p1) "pop" p2) [] [] p3) pos) (dPop i q) := by
  refine ⟨PS.imp (ps_asg (pe_bm0 PySem.F.plainAttrs_list PySem.F.slot_list_pop PySem.F.type_list_pop mt_pop (pe_var hN hv hd hcd) hbase hline) hg.pg hs hw h1) ?_⟩
  rintro Dn σ H ⟨F, δ, DD, g, ⟨ds, d, hi, q⟩, kn, kb, kc, kr⟩
  obtain ⟨a, xs, c1, c2, c3⟩ := own_at g hi
  have hl := RepL.length c3
  rw [List.length_append, List.length_singleton] at hl
  have e0 : (ds ++ [d])[xs.length - 1]? = some d := by
    rw [hl]
    simp
  obtain ⟨y, c4, c5⟩ := RepL.get c3 e0
  refine ⟨.ref a, c1, .inl ⟨rfl, xs, SqL.of c2⟩, a, xs, y, rfl, rfl, c2, c4, ?_⟩
  have r2 : RepL p.K F ds xs.dropLast := by
    have := RepL.dropLast c3
    simpa using this
  have g2 := G.write g hi c1 c2 r2
  exact bP_ok _ d y _ _ _ _ g2 c5 q fun σ' δ' g' _ q' => kn σ' _ F δ' g' (Same.refl F) q'
/-- xs[k] = e -/
def dSetIx (i : Nat) (ti te : DE) : DSt := fun DD δ => te δ fun d => isOwn d = false ∧ ∃ ds, δ[i]? = some (some (.own ds)) ∧ ti δ fun di => ∃ k j, di = .int k ∧ ixN ds.length k = some j ∧ DD.nx (δ.set i (some (.own (ds.set j d))))
theorem ds_setIx (i : Nat) {x : Str} {ix : Expr} (hix : PDE X p ix ti) (h : PDE X p e te) (hN : X.N[i]? = some x := by rfl) (hv : Vis X.env.scope x := by first | exact Or.inl rfl | exact Or.inr (Or.inl rfl) | exact Or.inr (Or.inr rfl)) (hd : (x == ("__debug__" : Str)) = false := by decide) (hcd : (x == ("__classdict__" : Str)) = false := by decide)
    (ha : ∀ v, assign (.Subscript (.Name x p1) ix p2) X.env v = (do
      let ov ← holding [v] (eval (.Name x p1) X.env)
      let iv ← holding [v, ov] (eval ix X.env)
      standAt p2
      holding [v, ov, iv] (setItem ov iv v)
      release [v, ov, iv] []) := by intro _; rfl)
    (hs : swapsWithSole [.Subscript (.Name x p1) ix p2] e pos.line X.env = pure false := by rfl) (hw : swappedStores [.Subscript (.Name x p1) ix p2] e X.env = pure none := by rfl)
    (h1 : (assignEach [.Subscript (.Name x p1) ix p2] X.env).map (·.2) = [assign (.Subscript (.Name x p1) ix p2) X.env] := by rfl) :
    PDS X p (.Assign [.Subscript (.Name x p1) ix p2] e pos) (dSetIx i ti te) := by
  refine ⟨PS.imp (ps_asg h.pe (pg_sub (pe_var hN hv hd hcd) hix.pe set_list ha) hs hw h1) ?_⟩
  rintro Dn σ H ⟨F, δ, DD, g, q, kn, kb, kc, kr⟩
  refine ⟨F, δ, _, g, q, fun y H1 F1 d e1 r1 ⟨ho, ds, hi, q1⟩ => ?_⟩
  have g1 := p.step g e1
  obtain ⟨a, xs, c1, c2, c3⟩ := own_at g1 hi
  refine ⟨.ref a, c1, F1, δ, _, g1, q1, fun z H2 F2 di e2 r2 ⟨k, j, ed, hj, q2⟩ => ?_⟩
  subst ed
  have g2 := p.step g1 e2
  obtain ⟨ys, c4, c5⟩ := own_again (xs := xs) g2 hi c1
  refine ⟨a, ys, k, j, rfl, rep_int r2, c4, by rw [RepL.length c5]; exact hj, ?_⟩
  exact kn σ _ F2 _ (G.write g2 hi c1 c4 (RepL.set j (Rep.mono e2.ff _ _ ((res_data ho).mp r1)) c5)) (e1.ff.trans e2.ff) q2
/-- xs[i], a list, by values -/
def rGetL (K : PySem.W.Frag) : V → V → Hp → VK → Prop := fun o i H Q => ∃ p xs k v, o = .ref p ∧ i = .int k ∧ SqL K H p xs ∧ atI xs k = some v ∧ Q v H
theorem get_list : PGet X (rGetL X.K) := by
  intro pins s σ H o i ov iv Q I ro ri h
  obtain ⟨p, xs, k, z, rfl, rfl, hq, he, q⟩ := h
  cases ro
  obtain ⟨t, rfl⟩ := ri
  obtain ⟨its, r, pl, hz⟩ := I.list hq
  obtain ⟨j, h1, h2, h3, h4, h5⟩ := atI_get he
  obtain ⟨w, ew, rw'⟩ := r.get h2
  have hl := r.length
  have hn := line63
  have fin : EP X pins σ Q w s := ⟨z, H, I, rw', q⟩
  by_cases h0 : 0 ≤ k
  · have hj : k.toNat = j := by
      rw [seqIndex_of h0 h5] at h1
      exact Option.some.inj h1
    exact wpAny_getItem_list pl.isList h0 (by omega) (by rw [hj]; simpa using ew) fin
  · have hj : (k + (its.toArray.size : Int)).toNat = j := by
      rw [seqIndex_neg (by omega) h4] at h1
      rw [List.size_toArray, ← hl]
      exact Option.some.inj h1
    exact wpAny_getItem_list_neg pl.isList (by omega) (by rw [List.size_toArray] <;> omega) (by omega) (by rw [hj]; simpa using ew) fin
/-- xs[k] op= e, ints -/
def dAugIx (i : Nat) (f : Int → Int → Int) (ti te : DE) : DSt := fun DD δ => ∃ ds, δ[i]? = some (some (.own ds)) ∧ ti δ fun di => ∃ k j n, di = .int k ∧ ixN ds.length k = some j ∧ ds[j]? = some (.int n) ∧ te δ fun d => ∃ m, d = .int m ∧
  DD.nx (δ.set i (some (.own (ds.set j (.int (f n m))))))
theorem ds_augIx (i : Nat) {x : Str} {ix : Expr} {op : Operator} {f : Int → Int → Int} (hop : PIp X op (ipI f)) (hix : PDE X p ix ti) (h : PDE X p e te) (hN : X.N[i]? = some x := by rfl) (hv : Vis X.env.scope x := by first | exact Or.inl rfl | exact Or.inr (Or.inl rfl) | exact Or.inr (Or.inr rfl)) (hd : (x == ("__debug__" : Str)) = false := by decide) (hcd : (x == ("__classdict__" : Str)) = false := by decide)
    (ha : ∀ ov iv new, augStore ix ov iv new = (do holding [new, ov, iv] (setItem ov iv new); release [new, ov, iv] []; pure .next) := by intros; rfl) :
    PDS X p (.AugAssign (.Subscript (.Name x p1) ix p2) op e pos) (dAugIx i f ti te) := by
  refine ⟨PS.imp (ps_augS (pe_var hN hv hd hcd) hix.pe get_list h.pe hop set_list ha) ?_⟩
  rintro Dn σ H ⟨F, δ, DD, g, ⟨ds, hi, q⟩, kn, kb, kc, kr⟩
  obtain ⟨a, xs, c1, c2, c3⟩ := own_at g hi
  refine ⟨.ref a, c1, F, δ, _, g, q, fun y H1 F1 di e1 r1 ⟨k, j, n, ed, hj, hn, q1⟩ => ?_⟩
  subst ed
  have g1 := p.step g e1
  obtain ⟨ys, c4, c5⟩ := own_again (xs := xs) g1 hi c1
  have hk := rep_int r1
  obtain ⟨v, d1, d2⟩ := RepL.get c5 hn
  simp only [Rep] at d2
  subst d2
  have hat : atI ys k = some (.int n) := by
    unfold atI
    rw [RepL.length c5, hj]
    exact d1
  refine ⟨a, ys, k, .int n, rfl, hk, SqL.of c4, hat, F1, δ, _, g1, q1, fun z H2 F2 d e2 r2 ⟨m, ed, q2⟩ => ?_⟩
  subst ed
  have g2 := p.step g1 e2
  obtain ⟨zs, c6, c7⟩ := own_again (xs := xs) g2 hi c1
  refine ⟨n, m, rfl, rep_int r2, a, zs, k, j, rfl, hk, c6, by rw [RepL.length c7]; exact hj, ?_⟩
  exact kn σ _ F2 _ (G.write g2 hi c1 c6 (RepL.set j (by simp only [Rep]) c7)) (e1.ff.trans e2.ff) q2
/-- name op= e, ints -/
def dAug (i : Nat) (f : Int → Int → Int) (te : DE) : DSt := fun DD δ => ∃ n, δ[i]? = some (some (.int n)) ∧ te δ fun d => ∃ m, d = .int m ∧ DD.nx (δ.set i (some (.int (f n m))))
theorem ds_aug {i : Nat} {x : Str} {op : Operator} {f : Int → Int → Int} (hop : PIp X op (ipI f)) (hN : X.N.Nodup) (hi : X.N[i]? = some x) (hx : Loc X.env.scope x) (h : PDE X p e te) (hf : X.fn x = true ∨ X.env.scope.names.lookup x = some .local := by first | exact .inl rfl | exact .inr rfl | assumption) :
    PDS X p (.AugAssign (.Name x p1) op e pos) (dAug i f te) := by
  refine ⟨PS.imp (ps_aug hN hi hx h.pe hop hf) ?_⟩
  rintro Dn σ H ⟨F, δ, DD, g, ⟨n, hi, q⟩, kn, kb, kc, kr⟩
  obtain ⟨v, c1, c2⟩ := g.var i _ hi
  have c3 : Rep p.K F (.int n) v := c2
  simp only [Rep] at c3
  subst c3
  refine ⟨.int n, c1, F, δ, _, g, q, fun y H1 F1 d e1 r1 ⟨m, ed, q1⟩ => ?_⟩
  subst ed
  refine ⟨n, m, rfl, rep_int r1, ?_⟩
  exact kn _ H1 F1 _ ((p.step g e1).setD (d := .int (f n m)) (by simp only [Rep])) e1.ff q1
/-- target = e -/
def dAsg (q : Pat) (te : DE) : DSt := fun DD δ => te δ fun d => bP q d δ DD.nx
theorem ds_asg {tg : Expr} {q : Pat} (hg : PDG X p tg q) (h : PDE X p e te) (hs : swapsWithSole [tg] e pos.line X.env = pure false := by rfl) (hw : swappedStores [tg] e X.env = pure none := by rfl)
    (h1 : (assignEach [tg] X.env).map (·.2) = [assign tg X.env] := by rfl) : PDS X p (.Assign [tg] e pos) (dAsg q te) := by
  refine ⟨PS.imp (ps_asg h.pe hg.pg hs hw h1) ?_⟩
  rintro Dn σ H ⟨F, δ, DD, g, q, kn, kb, kc, kr⟩
  refine ⟨F, δ, _, g, q, fun y H1 F1 d e1 r1 q1 => ?_⟩
  have g1 := p.step g e1
  have ho : isOwn d = false := by
    cases d with
    | own xs =>
      rename_i qq
      cases qq with
      | nm i => simp only [bP] at q1; exact q1.1
      | tp ps => simp only [bP] at q1; obtain ⟨_, z, _⟩ := q1; cases z
    | _ => rfl
  exact bP_ok _ d y _ _ _ _ g1 ((res_data ho).mp r1) q1 fun σ' δ' g' _ q' => kn σ' _ F1 δ' g' e1.ff q'
/-- xs[k], name = e: a pair -/
def dIxNm (i j : Nat) (ti te : DE) : DSt := fun DD δ => te δ fun d => ∃ d1 d2, d = .tup [d1, d2] ∧ isOwn d1 = false ∧ isOwn d2 = false ∧ ∃ ds, δ[i]? = some (some (.own ds)) ∧ ti δ fun di => ∃ k m, di = .int k ∧ ixN ds.length k = some m ∧
  DD.nx ((δ.set i (some (.own (ds.set m d1)))).set j (some d2))
theorem ds_ixNm (i : Nat) {j : Nat} {x y : Str} {ix : Expr} {k2 : Nat} {p4 p5 : Pos} (hk : p.K = X.K) (hc : X.calm = true) (hix : PDE X p ix ti) (h : PDE X p e te) (hNd : X.N.Nodup) (hj : X.N[j]? = some y) (hy : Loc X.env.scope y) (hN : X.N[i]? = some x := by rfl) (hv : Vis X.env.scope x := by first | exact Or.inl rfl | exact Or.inr (Or.inl rfl) | exact Or.inr (Or.inr rfl)) (hd : (x == ("__debug__" : Str)) = false := by decide) (hcd : (x == ("__classdict__" : Str)) = false := by decide)
    (hf : X.fn y = true ∨ X.env.scope.names.lookup y = some .local := by first | exact .inl rfl | exact .inr rfl | assumption)
    (ha : ∀ v, assign (.Subscript (.Name x p1) ix p2) X.env v = (do
      let ov ← holding [v] (eval (.Name x p1) X.env)
      let iv ← holding [v, ov] (eval ix X.env)
      standAt p2
      holding [v, ov, iv] (setItem ov iv v)
      release [v, ov, iv] []) := by intro _; rfl)
    (he1 : (assignEach (.Subscript (.Name x p1) ix p2 :: [.Name y p3]) X.env).map (·.2) = assign (.Subscript (.Name x p1) ix p2) X.env :: (assignEach [.Name y p3] X.env).map (·.2) := by rfl)
    (he2 : (assignEach (.Name y p3 :: []) X.env).map (·.2) = assign (.Name y p3) X.env :: (assignEach [] X.env).map (·.2) := by rfl)
    (hn : (assignEach [.Subscript (.Name x p1) ix p2, .Name y p3] X.env).length = 2 := by rfl) (hst : (assignEach [.Subscript (.Name x p1) ix p2, .Name y p3] X.env).findIdx? (·.1) = none := by rfl)
    (hs : swapsWithSole [.Tuple [.Subscript (.Name x p1) ix p2, .Name y p3] k2 p4] e pos.line X.env = pure false := by rfl) (hw : swappedStores [.Tuple [.Subscript (.Name x p1) ix p2, .Name y p3] k2 p4] e X.env = pure none := by rfl)
    (h1 : (assignEach [.Tuple [.Subscript (.Name x p1) ix p2, .Name y p3] k2 p4] X.env).map (·.2) = [assign (.Tuple [.Subscript (.Name x p1) ix p2, .Name y p3] k2 p4) X.env] := by rfl) :
    PDS X p (.Assign [.Tuple [.Subscript (.Name x p1) ix p2, .Name y p3] k2 p4] e pos) (dIxNm i j ti te) := by
  refine ⟨PS.imp (ps_asg h.pe (pg_tup hc (pgs_cons (pg_sub (pe_var hN hv hd hcd) hix.pe set_list ha) (pgs_cons (pg_name hNd hj hy hf) pgs_nil he2) he1) hn hst) hs hw h1) ?_⟩
  rintro Dn σ H ⟨F, δ, DD, g, q, kn, kb, kc, kr⟩
  refine ⟨F, δ, _, g, q, fun y H1 F1 d e1 r1 ⟨d1, d2, ed, o1, o2, ds, hi, q1⟩ => ?_⟩
  subst ed
  have g1 := p.step g e1
  have r1' : Rep p.K F1 (.tup [d1, d2]) y := r1
  simp only [Rep, RepL] at r1'
  obtain ⟨T, vs, rfl, hT, v1, r, rfl, rv1, v2, r', rfl, rv2, rfl⟩ := r1'
  obtain ⟨a, xs, c1, c2, c3⟩ := own_at g1 hi
  refine ⟨T, [v1, v2], rfl, by rw [← hk]; exact sqT_mono g1.ok.fh hT, rfl, v1, [v2], rfl, .ref a, c1, F1, δ, _, g1, q1, fun z H2 F2 di e2 r2 ⟨k, m, ed, hj', q2⟩ => ?_⟩
  subst ed
  have g2 := p.step g1 e2
  obtain ⟨ys, c4, c5⟩ := own_again (xs := xs) g2 hi c1
  refine ⟨a, ys, k, m, rfl, rep_int r2, c4, by rw [RepL.length c5]; exact hj', v2, [], rfl, rfl, ?_⟩
  have g3 := G.write g2 hi c1 c4 (RepL.set m (Rep.mono e2.ff _ _ rv1) c5)
  exact kn _ _ F2 _ (g3.setD (Rep.mono e2.ff _ _ rv2)) (e1.ff.trans e2.ff) q2
end
/-! ### extend by a list or a tuple -/
theorem list_extend_tupG (l : Addr) (items : Array Value) (n : Nat) (b : Addr) (items2 : Array Value) (n2 : Nat) (dd : Option Addr) (sl : Array (Option Value)) (hs0 : ¬(!items.isEmpty && Builtin.List.listTooLong (items.size + items2.size)) = true) (hs1 : items.size ≤ sizeLine) (hs2 : items.size + items2.size ≤ sizeLine + 1) :
    Meets (Builtin.«list.extend» ⟨[.ref l, .ref b], []⟩) (fun _ R s => s.heap.get? l = some { cls := .type "list", dict := none, data := .seq items n, slots := #[] } ∧ s.heap.get? b = some { cls := .type "tuple", dict := dd, data := .seq items2 n2, slots := sl } ∧ R (.ok (.ret Value.none)) { s with heap := s.heap.update l (Obj.mapSeq fun x => x ++ items2), toks := s.toks }) :=
  .of_wp fun prog w A R s h => by
    obtain ⟨hp, g, d, tk, os⟩ := s; obtain ⟨hl, hb, h⟩ := h; have f1 := AutoSeq1.idx_int; have f2 := AutoSeq1.sub_tuple_tuple; have f3 := AutoSeq1.sub_list_list; have f4 := AutoSeq1.sub_tuple_list; have f5 := AutoSeq1.sub_list_tuple;
    have hz' : (items ++ items2).size ≤ sizeLine + 1 := by rw [Array.size_append]; exact hs2
    wp_walk using (wpAny_updateSeq hl rfl (hz := hs1) (_hz' := hz')), AutoSeq1.wpAny_loadPart' hl, AutoSeq1.wpAny_loadPart' hb; exact ⟨_, rfl, h⟩
def rExtendA (K : PySem.W.Frag) : V → List V → Hp → VK → Prop := fun x vs H Q => ∃ l b xs zs, x = .ref l ∧ vs = [.ref b] ∧ H l = some (.lst xs) ∧ (H b = some (.lst zs) ∨ SqT K H b zs) ∧ xs.length + zs.length ≤ sizeLine ∧ Q .non (upd H l (.lst (xs ++ zs)))
theorem mt_extendA {X : Cx} : MtR X "list.extend" (rExtendA X.K) := by
  intro pins s σ H x vs v us Q I rx rv h
  obtain ⟨l, b, xs, zs, rfl, rfl, hH, hB, hz, q⟩ := h
  rcases hB with hB | hB
  · exact mt_extend pins s σ H _ _ v us Q I rx rv ⟨l, b, xs, zs, rfl, rfl, hH, hB, hz, q⟩
  · cases rx
    obtain ⟨u, rfl, ru⟩ := rv.one
    cases ru
    obtain ⟨z, its, n, r, hl, e⟩ := I.lstM hH
    obtain ⟨its2, r2, ⟨o, e2, hcls, n2, hdat⟩, hl2⟩ := I.tuple hB
    obtain ⟨oc, od, dt, sl⟩ := o
    simp only at hcls hdat
    subst hcls hdat
    have hz2 := r2.length
    have hsz : its.toArray.size + its2.toArray.size ≤ sizeLine := by rw [List.size_toArray, List.size_toArray]; omega
    have hlong : ¬ (!its.toArray.isEmpty && Builtin.List.listTooLong (its.toArray.size + its2.toArray.size)) = true := by
      rw [notLongL hsz, Bool.and_false]
      exact Bool.false_ne_true
    refine call_meets PySem.F.slot_list_extend ⟨_, e, rfl⟩ PySem.F.entry_list_extend (PySem.F.args_list_extend_2 _ _)
      (list_extend_tupG l its.toArray n b its2.toArray n2 od sl hlong (by rw [List.size_toArray]; omega) (by omega)) ⟨e, e2, ?_⟩
    refine ⟨.non, _, I.lset (its' := its ++ its2) hH e (by simp) (r.append r2) ?_, rfl, q⟩
    rw [List.length_append]
    omega
section
variable {X : Cx} {p : Pt} {e c : Expr} {te ti : DE} {pos p1 p2 p3 : Pos}
def dExtend (i : Nat) (te : DE) : DSt := fun DD δ => ∃ ds, δ[i]? = some (some (.own ds)) ∧ te δ fun d => isOwn d = false ∧ ∃ es, D.items d = some es ∧ ds.length + es.length ≤ sizeLine ∧ DD.nx (δ.set i (some (.own (ds ++ es))))
theorem ds_extend (i : Nat) {x : Str} (hk : p.K = X.K) (h : PDE X p e te) (hN : X.N[i]? = some x := by rfl) (hv : Vis X.env.scope x := by first | exact Or.inl rfl | exact Or.inr (Or.inl rfl) | exact Or.inr (Or.inr rfl)) (hd : (x == ("__debug__" : Str)) = false := by decide) (hcd : (x == ("__classdict__" : Str)) = false := by decide)
    (hbase : attributeBase (.Name x p1) "extend" X.env (eval (.Name x p1) X.env) = eval (.Name x p1) X.env := by rfl)
    (hfew : ((backTo p3 (starEach (e :: []) X.env)).all (fun x => !x.1) && (backToKw p3 (keywordEach [] X.env)).all (fun x => x.1.isSome) && decide ((e :: ([] : List Expr)).length + ([] : List Keyword).length + (if ([] : List Keyword).isEmpty then 0 else 1) < 30)) = true := by rfl)
    (hline : (p2.endLine == p3.line) = true := by rfl) (hs : starEach (e :: []) X.env = (false, eval e X.env) :: starEach [] X.env := by rfl) (hplain : (backTo p3 (starEach [] X.env)).any (·.1) = false := by rfl)
    (hsw : swapsWith (.Call (.Attribute (.Name x p1) "extend" p2) [e] [] p3) none pos.line X.env = pure false := by rfl) :
    PDS X p (.Expr (.Call (.Attribute (.Name x p1) "extend" p2) [e] [] p3) pos) (dExtend i te) := by
  refine ⟨PS.imp (ps_expr (pe_bm PySem.F.plainAttrs_list PySem.F.slot_list_extend PySem.F.type_list_extend mt_extendA (pe_var hN hv hd hcd) (pa_cons h.pe pa_nil hs) hbase hfew hline hs hplain) hsw) ?_⟩
  rintro Dn σ H ⟨F, δ, DD, g, ⟨ds, hi, q⟩, kn, kb, kc, kr⟩
  obtain ⟨a, xs, c1, c2, c3⟩ := own_at g hi
  refine ⟨.ref a, c1, .inl ⟨rfl, xs, SqL.of c2⟩, F, δ, _, g, q, fun y H1 F1 d e1 r1 ⟨ho, es, hes, hl, q1⟩ => ?_⟩
  have g1 := p.step g e1
  obtain ⟨ys, c4, c5⟩ := own_again (xs := xs) g1 hi c1
  have r2 := (res_data ho).mp r1
  cases d <;> simp only [D.items, Option.some.injEq, reduceCtorEq] at hes
  · subst hes
    simp only [Rep] at r2
    obtain ⟨b, zs, rfl, f1, f2⟩ := r2
    refine ⟨a, b, ys, zs, rfl, rfl, c4, .inr (by rw [← hk]; exact sqT_mono e1.ok.fh f1), by rw [RepL.length c5, RepL.length f2]; exact hl, ?_⟩
    exact kn σ _ F1 _ (G.write g1 hi c1 c4 (RepL.append c5 f2)) e1.ff q1
  · subst hes
    simp only [Rep] at r2
    obtain ⟨b, zs, rfl, f1, f2⟩ := r2
    refine ⟨a, b, ys, zs, rfl, rfl, c4, .inl (e1.ok.fh _ _ f1), by rw [RepL.length c5, RepL.length f2]; exact hl, ?_⟩
    exact kn σ _ F1 _ (G.write g1 hi c1 c4 (RepL.append c5 f2)) e1.ff q1
  · cases ho
end
end DL
set_option Elab.async false
set_option linter.all false
set_option maxRecDepth 100000
namespace DL
open PySem PySem.Spec PyProof.Rows L2

/-! ## what a def promises, over data -/
/-- the region, the arguments, what is wanted of the value, of an own error (its class, its field at) -/
abbrev DSp := Reg → List D → (D → Prop) → (Addr → D → Prop) → Prop
def XdOk (K : PySem.W.Frag) (J : Reg) (F H F' H' : Hp) (dx : Addr) (a : D) : Prop := ∃ fs v, Ext J F H F' H' ∧ F' dx = some (.xd fs) ∧ fs.lookup ("at" : Str) = some v ∧ Rep K F' a v
def liftSp (K : PySem.W.Frag) (d : DSp) : Sp := fun vs H Q E => ∃ J F ds QD ED, Ok J F H ∧ RepL K F ds vs ∧ d J ds QD ED ∧ (∀ v H' F' r, Ext J F H F' H' → Rep K F' r v → QD r → Q v H') ∧
  (∀ C dx a F' H', XdOk K J F H F' H' dx a → ED C a → E (.ref C) (some dx) H')
section
variable {X : Cx} {p : Pt} {k : Nat} {f : Addr} {fd : FuncData} {ps ks : List Str} {sp : DSp} {x : Str} {p1 pos : Pos} {e : Expr} {es : List Expr} {t tk : DA} {kws : List Keyword}
def dCall (s : List D → (D → Prop) → (Addr → D → Prop) → Prop) (t : DA) : DE := fun δ Q => t δ fun ds => s ds Q (fun _ _ => False)
theorem lift_call (hk : p.K = X.K) {F H : Hp} {σ : St} {δ : DS} {vs : List V} {ds : List D} {QD : D → Prop} {Q : VK} {E : XK} (g : p.G F σ δ H) (r : RepL p.K F ds vs) (q : sp p.J ds QD fun _ _ => False)
    (k : ∀ v H1 F1 d, Ext p.J F H F1 H1 → Res p.K F1 σ δ d v → QD d → Q v H1) : liftSp X.K sp vs H Q E := by
  rw [hk] at r
  refine ⟨p.J, F, ds, QD, _, g.ok, r, q, fun v H' F' d e rr qq => ?_, fun _ _ _ _ _ _ z => z.elim⟩
  rw [← hk] at rr
  exact k v H' F' d e ((res_data (rep_data rr)).mpr rr) qq
theorem de_call (hk : p.K = X.K) (G : FnOk X.prog X.w X.K X.mg X.base (L2.CX X.prog X.w) k f fd ps (liftSp X.K sp)) (hr : Room k X.A) (hg : Gl X x) (hm : X.mg x = some (.ref f)) (hkp : PySem.W.keepIn X.K (.ref f) = true) (hb : Binds X.K fd ps [])
    (ha : PDA X p (e :: es) t) (hdb : (x == ("__debug__" : Str)) = false := by decide) (he : starEach (e :: es) X.env = (false, eval e X.env) :: starEach es X.env := by rfl) (hpl : (backTo pos (starEach es X.env)).any (·.1) = false := by rfl) :
    PDE X p (.Call (.Name x p1) (e :: es) [] pos) (dCall (sp p.J) t) := by
  refine ⟨PE.imp (pe_call G hr hg hm hkp hb .nil (passL (X := X)) ha.pa hdb he hpl) ?_⟩
  rintro σ H Q ⟨F, δ, QD, g, q, k⟩
  refine ⟨F, δ, _, g, q, fun vs H1 F1 ds e1 r1 q1 => ?_⟩
  have g1 := p.step g e1
  show liftSp X.K sp (vs ++ []) H1 Q _
  rw [List.append_nil]
  exact lift_call hk g1 r1 q1 fun v H2 F2 d e2 r2 q2 => k v H2 F2 d (e1.trans g.ok e2) r2 q2
theorem de_call0 (hk : p.K = X.K) (G : FnOk X.prog X.w X.K X.mg X.base (L2.CX X.prog X.w) k f fd ps (liftSp X.K sp)) (hr : Room k X.A) (hg : Gl X x) (hm : X.mg x = some (.ref f)) (hkp : PySem.W.keepIn X.K (.ref f) = true) (hb : Binds X.K fd ps [])
    (hdb : (x == ("__debug__" : Str)) = false := by decide) : PDE X p (.Call (.Name x p1) [] [] pos) (dCall (sp p.J) dNil) := by
  refine ⟨PE.imp (pe_call0 G hr hg hm hkp hb .nil (passL (X := X)) hdb) ?_⟩
  rintro σ H Q ⟨F, δ, QD, g, q, k⟩
  show liftSp X.K sp ([] ++ []) H Q _
  exact lift_call hk g RepL.nil q k
/-! ### keywords -/
structure PDK (X : Cx) (p : Pt) (kws : List Keyword) (t : DA) : Prop where
  pk : PK X kws (liftA p t)
theorem PK.imp {X : Cx} {e : List Keyword} {t t' : TA} (h : PK X e t) (i : ∀ σ H Q, t' σ H Q → t σ H Q) : PK X e t' := ⟨fun pos pins s σ H Q I q => h.run pos pins s σ H Q I (i σ H Q q)⟩
theorem dk_nil : PDK X p [] dNil := by
  refine ⟨PK.imp pk_nil ?_⟩
  rintro σ H Q ⟨F, δ, QD, g, q, k⟩
  exact k _ _ _ _ (Ext.refl g.ok) RepL.nil q
theorem dk_cons {te : DE} {nm : Option Str} {kpos : Pos} (ha : PDE X p e te) (hr : PDK X p kws t) : PDK X p (⟨nm, e, kpos⟩ :: kws) (dCons te t) := by
  refine ⟨PK.imp (pk_cons ha.pe hr.pk) ?_⟩
  rintro σ H Q ⟨F, δ, QD, g, q, k⟩
  refine ⟨F, δ, _, g, q, fun x H1 F1 d e1 r1 ⟨ho, q1⟩ => ?_⟩
  have g1 := p.step g e1
  refine ⟨F1, δ, _, g1, q1, fun vs H2 F2 ds e2 r2 q2 => ?_⟩
  exact k (x :: vs) H2 F2 (d :: ds) (e1.trans g.ok e2) (RepL.cons (Rep.mono e2.ff _ _ ((res_data ho).mp r1)) r2) q2
/-- the keywords' values in the parameters' order, and behind them what defaults fill up -/
structure KB (K : PySem.W.Frag) (fd : FuncData) (ps ks : List Str) (n : Nat) (dvs : List V) (ds : List Value) : Prop where
  to : ∀ (s : Shared) (us ws : List Value), K.In s.heap → us.length = n → ws.length = ks.length → BindsTo s fd ⟨us, ks.zip ws⟩ (ps.zip (us ++ ws ++ ds))
  rel : Vals dvs ds
  len : n + ks.length + ds.length = ps.length
def dCallK (s : List D → (D → Prop) → (Addr → D → Prop) → Prop) (n m : Nat) (dd : List D) (t tk : DA) : DE := fun δ Q => t δ fun us => us.length = n ∧ tk δ fun zs => zs.length = m ∧ s (us ++ zs ++ dd) Q (fun _ _ => False)
theorem run_fnKB {n : Nat} {dvs : List V} {ds : List Value} {spH : Sp} {E : XK} {pins : List (Addr × Obj)} {σ : St} {H : Hp} {s : Shared} {Q : VK} {us ws : List Value} {vs zs : List V} (G : FnOk X.prog X.w X.K X.mg X.base (L2.CX X.prog X.w) k f fd ps spH) (hr : Room k X.A) (hb : KB X.K fd ps ks n dvs ds) (hx : Passes (L2.CX X.prog X.w) X E)
    (I : Inv X pins σ H s) (r : Vals vs us) (rz : Vals zs ws) (hn : vs.length = n) (hz : zs.length = ks.length) (h : spH (vs ++ zs ++ dvs) H Q E) : wpAny (model X.prog X.w) X.A (call (.ref f) us (ks.zip ws)) (EP X pins σ Q) X.xe s := by
  have r2 : Vals (vs ++ zs ++ dvs) (us ++ ws ++ ds) := (r.append rz).append hb.rel
  refine wpAny_call (codeAny_mono (G.run X.A X.stack s H ⟨us, ks.zip ws⟩ (us ++ ws ++ ds) (vs ++ zs ++ dvs) Q E hr I.env0 (hb.to s us ws I.kIn (r.length ▸ hn) (rz.length ▸ hz)) r2 h) fun r s' hq => ?_)
  cases r with
  | error e => exact hx pins σ H s e s' I hq
  | ok fl =>
    cases fl with
    | ret u => exact I.after hq
    | next => exact False.elim hq
    | brk => exact False.elim hq
    | cont => exact False.elim hq
theorem de_callK0 {dvs : List V} {ds : List Value} {dd : List D} (hdd : ∀ F, RepL X.K F dd dvs) (hk : p.K = X.K) (G : FnOk X.prog X.w X.K X.mg X.base (L2.CX X.prog X.w) k f fd ps (liftSp X.K sp)) (hr : Room k X.A) (hg : Gl X x) (hm : X.mg x = some (.ref f)) (hkp : PySem.W.keepIn X.K (.ref f) = true) (hb : KB X.K fd ps ks 0 dvs ds)
    (hkw : PDK X p kws tk) (hall : (backToKw pos (keywordEach kws X.env)).all (·.1.isSome) = true := by rfl) (hks : (backToKw pos (keywordEach kws X.env)).filterMap (·.1) = ks := by rfl)
    (hdb : (x == ("__debug__" : Str)) = false := by decide) (hpl : ((backTo pos (starEach [] X.env)).any (·.1) || (backToKw pos (keywordEach kws X.env)).any (·.1.isNone)) = false := by rfl) :
    PDE X p (.Call (.Name x p1) [] kws pos) (dCallK (sp p.J) 0 ks.length dd dNil tk) := by
  refine ⟨⟨fun pins s σ H Q I h => ?_⟩⟩
  obtain ⟨F, δ, QD, g, ⟨_, q⟩, k⟩ := h
  refine wpAny_Call_Name_kw (ld_glob I hg hm ?_ hdb)
  refine PySem.W.callWith_KW0 (h₀ := X.base) I.ok.mod.kin hkp hall ?_ hpl
  refine thn (hkw.pk.run pos pins s σ H (fun zs H2 => zs.length = ks.length ∧ liftSp X.K sp ([] ++ zs ++ dvs) H2 Q (fun _ _ _ => False)) I ⟨F, δ, _, g, q, fun zs H1 F1 zd e1 r1 ⟨hl, q1⟩ => ⟨by rw [RepL.length r1]; exact hl, ?_⟩⟩) fun ws s2 ⟨zs, H2, I2, rz, hl, q2⟩ => ⟨I2.kIn, ?_⟩
  · have g1 := p.step g e1
    refine lift_call hk g1 (ds := [] ++ zd ++ dd) ?_ q1 fun v H2 F2 d e2 r2 q2 => k v H2 F2 d (e1.trans g.ok e2) r2 q2
    exact RepL.append r1 (by rw [hk]; exact hdd F1)
  · rw [hks]
    exact run_fnKB (us := []) (vs := []) G hr hb (passL (X := X)) I2 .nil rz rfl hl q2
theorem de_callK {n : Nat} {dvs : List V} {ds : List Value} {dd : List D} (hdd : ∀ F, RepL X.K F dd dvs) (hk : p.K = X.K) (G : FnOk X.prog X.w X.K X.mg X.base (L2.CX X.prog X.w) k f fd ps (liftSp X.K sp)) (hr : Room k X.A) (hg : Gl X x) (hm : X.mg x = some (.ref f)) (hkp : PySem.W.keepIn X.K (.ref f) = true) (hb : KB X.K fd ps ks n dvs ds)
    (ha : PDA X p (e :: es) t) (hkw : PDK X p kws tk) (hall : (backToKw pos (keywordEach kws X.env)).all (·.1.isSome) = true := by rfl) (hks : (backToKw pos (keywordEach kws X.env)).filterMap (·.1) = ks := by rfl)
    (hdb : (x == ("__debug__" : Str)) = false := by decide) (he : starEach (e :: es) X.env = (false, eval e X.env) :: starEach es X.env := by rfl)
    (hpl : ((backTo pos (starEach (e :: es) X.env)).any (·.1) || (backToKw pos (keywordEach kws X.env)).any (·.1.isNone)) = false := by rfl) :
    PDE X p (.Call (.Name x p1) (e :: es) kws pos) (dCallK (sp p.J) n ks.length dd t tk) := by
  refine ⟨⟨fun pins s σ H Q I h => ?_⟩⟩
  obtain ⟨F, δ, QD, g, q, k⟩ := h
  refine wpAny_Call_Name_kw (ld_glob I hg hm ?_ hdb)
  refine PySem.W.callWith_KW (h₀ := X.base) I.ok.mod.kin hkp hall (thn (ha.pa.run pos pins s σ H (fun us H1 => us.length = n ∧ liftA p tk σ H1 fun zs H2 => zs.length = ks.length ∧ liftSp X.K sp (us ++ zs ++ dvs) H2 Q (fun _ _ _ => False)) I ⟨F, δ, _, g, q, fun us H1 F1 ud e1 r1 ⟨hn, q1⟩ => ⟨by rw [RepL.length r1]; exact hn, ?_⟩⟩) fun us s1 ⟨vs, H1, I1, r, hn, q⟩ => ?_) hpl he
  · have g1 := p.step g e1
    refine ⟨F1, δ, _, g1, q1, fun zs H2 F2 zd e2 r2 ⟨hl, q2⟩ => ⟨by rw [RepL.length r2]; exact hl, ?_⟩⟩
    have g2 := p.step g1 e2
    refine lift_call hk g2 (ds := ud ++ zd ++ dd) ?_ q2 fun v H3 F3 d e3 r3 q3 => k v H3 F3 d ((e1.trans g.ok e2).trans g.ok e3) r3 q3
    exact RepL.append (RepL.append (RepL.mono e2.ff _ _ r1) r2) (by rw [hk]; exact hdd F2)
  · refine thn (hkw.pk.run pos pins s1 σ H1 _ I1 q) fun ws s2 ⟨zs, H2, I2, rz, hl, q2⟩ => ⟨I2.kIn, ?_⟩
    rw [hks]
    exact run_fnKB G hr hb (passL (X := X)) I2 r rz hn hl q2

/-! ### what is wished of own errors -/
/-- an error of the class at C with this at may leave, at these slots -/
structure Wish (X : Cx) (p : Pt) (W : WX) (ED : Addr → D → DS → Prop) : Prop where
  tk : Takes X W
  to : ∀ σ δ F H C dx fs v a, p.G F σ δ H → F dx = some (.xd fs) → fs.lookup ("at" : Str) = some v → Rep p.K F a v → ED C a δ → W (.ref C) (some dx) σ H
def dCallX (s : List D → (D → Prop) → (Addr → D → Prop) → Prop) (ED : Addr → D → DS → Prop) (t : DA) : DE := fun δ Q => t δ fun ds => s ds Q (fun C a => ED C a δ)
theorem lift_callX {W : WX} {ED : Addr → D → DS → Prop} (wi : Wish X p W ED) (hk : p.K = X.K) {F H : Hp} {σ : St} {δ : DS} {vs : List V} {ds : List D} {QD : D → Prop} {Q : VK} (g : p.G F σ δ H) (r : RepL p.K F ds vs) (q : sp p.J ds QD fun C a => ED C a δ)
    (k : ∀ v H1 F1 d, Ext p.J F H F1 H1 → Res p.K F1 σ δ d v → QD d → Q v H1) : liftSp X.K sp vs H Q (WE W σ) := by
  rw [hk] at r
  refine ⟨p.J, F, ds, QD, _, g.ok, r, q, fun v H' F' d e rr qq => ?_, fun C dx a F' H' ⟨fs, v, e, h1, h2, h3⟩ z => ?_⟩
  · rw [← hk] at rr
    exact k v H' F' d e ((res_data (rep_data rr)).mpr rr) qq
  · rw [← hk] at h3
    exact wi.to σ δ F' H' C dx fs v a (p.step g e) h1 h2 h3 z
theorem de_callX {W : WX} {ED : Addr → D → DS → Prop} (wi : Wish X p W ED) (hk : p.K = X.K) (G : FnOk X.prog X.w X.K X.mg X.base (L2.CX X.prog X.w) k f fd ps (liftSp X.K sp)) (hr : Room k X.A) (hg : Gl X x) (hm : X.mg x = some (.ref f)) (hkp : PySem.W.keepIn X.K (.ref f) = true) (hb : Binds X.K fd ps [])
    (ha : PDA X p (e :: es) t) (hdb : (x == ("__debug__" : Str)) = false := by decide) (he : starEach (e :: es) X.env = (false, eval e X.env) :: starEach es X.env := by rfl) (hpl : (backTo pos (starEach es X.env)).any (·.1) = false := by rfl) :
    PDE X p (.Call (.Name x p1) (e :: es) [] pos) (dCallX (sp p.J) ED t) := by
  refine ⟨PE.imp (pe_callS G hr hg hm hkp hb (fun σ => passAt wi.tk σ) ha.pa hdb he hpl) ?_⟩
  rintro σ H Q ⟨F, δ, QD, g, q, k⟩
  refine ⟨F, δ, _, g, q, fun vs H1 F1 ds e1 r1 q1 => ?_⟩
  have g1 := p.step g e1
  exact lift_callX wi hk g1 r1 q1 fun v H2 F2 d e2 r2 q2 => k v H2 F2 d (e1.trans g.ok e2) r2 q2
def dCallKX (s : List D → (D → Prop) → (Addr → D → Prop) → Prop) (ED : Addr → D → DS → Prop) (n m : Nat) (dd : List D) (t tk : DA) : DE := fun δ Q => t δ fun us => us.length = n ∧ tk δ fun zs => zs.length = m ∧ s (us ++ zs ++ dd) Q (fun C a => ED C a δ)
theorem run_fnKBX {n : Nat} {dvs : List V} {ds : List Value} {spH : Sp} {E : XK} {pins : List (Addr × Obj)} {σ : St} {H : Hp} {s : Shared} {Q : VK} {us ws : List Value} {vs zs : List V} (G : FnOk X.prog X.w X.K X.mg X.base (L2.CX X.prog X.w) k f fd ps spH) (hr : Room k X.A) (hb : KB X.K fd ps ks n dvs ds) (hx : PassesAt (L2.CX X.prog X.w) X σ E)
    (I : Inv X pins σ H s) (r : Vals vs us) (rz : Vals zs ws) (hn : vs.length = n) (hz : zs.length = ks.length) (h : spH (vs ++ zs ++ dvs) H Q E) : wpAny (model X.prog X.w) X.A (call (.ref f) us (ks.zip ws)) (EP X pins σ Q) X.xe s := by
  have r2 : Vals (vs ++ zs ++ dvs) (us ++ ws ++ ds) := (r.append rz).append hb.rel
  refine wpAny_call (codeAny_mono (G.run X.A X.stack s H ⟨us, ks.zip ws⟩ (us ++ ws ++ ds) (vs ++ zs ++ dvs) Q E hr I.env0 (hb.to s us ws I.kIn (r.length ▸ hn) (rz.length ▸ hz)) r2 h) fun r s' hq => ?_)
  cases r with
  | error e => exact hx pins H s e s' I hq
  | ok fl =>
    cases fl with
    | ret u => exact I.after hq
    | next => exact False.elim hq
    | brk => exact False.elim hq
    | cont => exact False.elim hq
theorem de_callK0X {W : WX} {ED : Addr → D → DS → Prop} (wi : Wish X p W ED) {dvs : List V} {ds : List Value} {dd : List D} (hdd : ∀ F, RepL X.K F dd dvs) (hk : p.K = X.K) (G : FnOk X.prog X.w X.K X.mg X.base (L2.CX X.prog X.w) k f fd ps (liftSp X.K sp)) (hr : Room k X.A) (hg : Gl X x) (hm : X.mg x = some (.ref f)) (hkp : PySem.W.keepIn X.K (.ref f) = true) (hb : KB X.K fd ps ks 0 dvs ds)
    (hkw : PDK X p kws tk) (hall : (backToKw pos (keywordEach kws X.env)).all (·.1.isSome) = true := by rfl) (hks : (backToKw pos (keywordEach kws X.env)).filterMap (·.1) = ks := by rfl)
    (hdb : (x == ("__debug__" : Str)) = false := by decide) (hpl : ((backTo pos (starEach [] X.env)).any (·.1) || (backToKw pos (keywordEach kws X.env)).any (·.1.isNone)) = false := by rfl) :
    PDE X p (.Call (.Name x p1) [] kws pos) (dCallKX (sp p.J) ED 0 ks.length dd dNil tk) := by
  refine ⟨⟨fun pins s σ H Q I h => ?_⟩⟩
  obtain ⟨F, δ, QD, g, ⟨_, q⟩, k⟩ := h
  refine wpAny_Call_Name_kw (ld_glob I hg hm ?_ hdb)
  refine PySem.W.callWith_KW0 (h₀ := X.base) I.ok.mod.kin hkp hall ?_ hpl
  refine thn (hkw.pk.run pos pins s σ H (fun zs H2 => zs.length = ks.length ∧ liftSp X.K sp ([] ++ zs ++ dvs) H2 Q (WE W σ)) I ⟨F, δ, _, g, q, fun zs H1 F1 zd e1 r1 ⟨hl, q1⟩ => ⟨by rw [RepL.length r1]; exact hl, ?_⟩⟩) fun ws s2 ⟨zs, H2, I2, rz, hl, q2⟩ => ⟨I2.kIn, ?_⟩
  · have g1 := p.step g e1
    refine lift_callX wi hk g1 (ds := [] ++ zd ++ dd) ?_ q1 fun v H2 F2 d e2 r2 q2 => k v H2 F2 d (e1.trans g.ok e2) r2 q2
    exact RepL.append r1 (by rw [hk]; exact hdd F1)
  · rw [hks]
    exact run_fnKBX (us := []) (vs := []) G hr hb (passAt wi.tk σ) I2 .nil rz rfl hl q2
end

/-! ## a def's body keeps its promise -/
def startD (N : List Str) (ds : List D) : DS := ds.map some ++ List.replicate (N.length - ds.length) none
theorem start_G {K : PySem.W.Frag} {J : Reg} {F H : Hp} {N : List Str} {ds : List D} {vs : List V} (h : Ok J F H) (r : RepL K F ds vs) : (Pt.mk K J H F h F).G F (L2.start N vs) (startD N ds) H where
  ext := Ext.refl h
  bs := Same.refl F
  len := by simp only [L2.start, startD, List.length_append, List.length_map, List.length_replicate, RepL.length r]
  var := fun i d e => by
    unfold startD at e
    by_cases hi : i < ds.length
    · rw [List.getElem?_append_left (by simpa using hi), List.getElem?_map] at e
      cases e2 : ds[i]? with
      | none => rw [e2] at e; cases e
      | some d' =>
        rw [e2] at e
        cases e
        obtain ⟨v, h1, h2⟩ := RepL.get r e2
        refine ⟨v, ?_, (slot_data (rep_data h2)).mpr h2⟩
        unfold L2.start
        rw [List.getElem?_append_left (by rw [List.length_map, RepL.length r]; exact hi), List.getElem?_map, h1]
        rfl
    · rw [List.getElem?_append_right (by simpa using hi)] at e
      obtain ⟨_, e⟩ := List.getElem?_eq_some_iff.mp e
      simp at e
  dis := fun i j di dj a ne h1 h2 h3 h4 => by
    unfold startD at h1
    by_cases hi : i < ds.length
    · rw [List.getElem?_append_left (by simpa using hi), List.getElem?_map] at h1
      cases e2 : ds[i]? with
      | none => rw [e2] at h1; cases h1
      | some d' =>
        rw [e2] at h1
        obtain ⟨v, c1, c2⟩ := RepL.get r e2
        have e3 : d' = .own di := Option.some.inj (Option.some.inj h1)
        rw [e3] at c2
        simp only [Rep] at c2
    · rw [List.getElem?_append_right (by simpa using hi)] at h1
      obtain ⟨_, e⟩ := List.getElem?_eq_some_iff.mp h1
      simp at e
/-- THE RULE for a def -/
theorem dfn {P : Program} {w : World} {K : PySem.W.Frag} {mg : Str → Option Value} {base : Heap} {x qual : Str} {st : Stmt} {f : Addr} {fd : FuncData} {N ps : List Str} {k : Nat} {sp : DSp} (F : Fun K x qual st f fd) (S : FnScope N ps (defScope st)) (len : ∀ J ds Q E, sp J ds Q E → ds.length = ps.length)
    (hbody : ∀ (p : Pt) (X : Cx) (ds : List D) (Q : D → Prop) (E : Addr → D → Prop) (cdv : Value) (A : Around) (outer : List Env) (s : Shared) (H : Hp) (EX : XK), X = cxOf (L2.CX P w) P w K mg base N qual (defScope st) f cdv A outer s H EX → p.K = K → Room k X.A → (∀ C dx a F' H', XdOk K p.J p.Fi p.Hi F' H' dx a → E C a → EX (.ref C) (some dx) H') → sp p.J ds Q E →
      ∃ t, PDSs (cxOf (L2.CX P w) P w K mg base N qual (defScope st) f cdv A outer s H EX) p (defBody st) t ∧ t { nx := fun _ => Q .non, rt := Q } (startD N ds)) : FnOk P w K mg base (L2.CX P w) (k + 1) f fd ps (liftSp K sp) := by
  refine F.okX S (fun vs H Q E ⟨J, Fr, ds, QD, ED, h1, h2, h3, _⟩ => by rw [RepL.length h2]; exact len _ _ _ _ h3) (fun cdv A outer s H vs Q E hr h => ?_)
  obtain ⟨J, Fr, ds, QD, ED, h1, h2, h3, h4, h5⟩ := h
  obtain ⟨t, d, q⟩ := hbody ⟨K, J, H, Fr, h1, Fr⟩ _ ds QD ED cdv A outer s H E rfl rfl hr h5 h3
  refine ⟨_, d.pss, Fr, startD N ds, _, start_G h1 h2, q, fun σ' H' F' δ' g' _ q' => ?_, fun _ _ _ _ _ _ z => z.elim, fun _ _ _ _ _ _ z => z.elim, fun v H' F' r e rr qq => h4 v H' F' r e rr qq⟩
  exact h4 .non H' F' .non g'.ext (by simp only [Rep]) q'
/-- what may leave a def's frame -/
theorem wish_def {CX : XK} {X : Cx} {p : Pt} {E : Addr → D → Prop} {EX : XK} (tk : Takes X (fun cls d _ H => EX cls d H)) (h : ∀ C dx a F' H', XdOk p.K p.J p.Fi p.Hi F' H' dx a → E C a → EX (.ref C) (some dx) H') : Wish X p (fun cls d _ H => EX cls d H) (fun C a _ => E C a) :=
  ⟨tk, fun σ δ F H C dx fs v a g h1 h2 h3 z => h C dx a F H ⟨fs, v, g.ext, h1, h2, h3⟩ z⟩
end DL
set_option Elab.async false
set_option linter.all false
set_option maxRecDepth 100000
set_option maxHeartbeats 1000000
/-! own errors: class X(SomeError): def __init__(self, at): super().__init__('..'); self.at = at -/
namespace DErr
open PySem PySem.W PySem.Calls PyProof.Rows PySem.HandSPX L2
def eA (p1 p2 : Pos) : Arguments := { posonlyargs := [], args := [{ arg := "self", annotation := none, pos := p1 }, { arg := "at", annotation := none, pos := p2 }], vararg := none, kwonlyargs := [], kw_defaults := [], kwarg := none, defaults := [] }
def eB (msg : Str) (k : Nat) (a1 a2 a3 a4 a5 a6 b1 b2 b3 b4 : Pos) : List Stmt :=
  [.Expr (.Call (.Attribute (.Call (.Name "super" a1) [] [] a2) "__init__" a3) [.Constant (.str msg) k a4] [] a5) a6, .Assign [.Attribute (.Name "self" b1) "at" b2] (.Name "at" b3) b4]
def eS : Scope := { kind := .function, names := [(PySem.Str.ofString "self", .local), (PySem.Str.ofString "at", .local), (PySem.Str.ofString "__class__", .free), (PySem.Str.ofString "super", .globalImplicit)], isGenerator := false, isCoroutine := false, more := [] }
theorem eval_mcall {o : Expr} {name : Str} {apos pos : Pos} {args : List Expr} {env : Env} (hf : methodCallForm (args.length + ([] : List Keyword).length) (backTo pos (starEach args env)) (backToKw pos (keywordEach [] env)) = true) (hl : (apos.endLine == pos.line) = true) :
    eval (.Call (.Attribute o name apos) args [] pos) env = (do
      let ov ← attributeBase o name env (eval o env)
      standAt apos.atName
      let (f, first) ← holding [ov] (getMethod ov name (do return (← importBound o env).getD true))
      callWith pos f first (backTo pos (starEach args env)) []) := by
  rw [arm_eval_Call]
  unfold methodCall calleeOf methodCallPos
  simp only [hf, hl, Bool.not_true, Bool.false_or, if_true]
  rfl
/-- what the written part says of the class at C and its __init__ at fI -/
structure ErrTxt (prog : Program) (K : Frag) (mg : Str → Option Value) (x : Str) (C fI : Addr) : Prop where
  gC : mg x = some (.ref C)
  cls : ∃ nm q N bs bm sn sub ab col dd k0 k1 k2 k3 k5, K.lookup C = some (excClassObj nm q C N bs bm true sn sub ab col dd k0 k1 k2 k3 k5 "ValueError.__new__") ∧ refsVE bm = true
  sup : ks_superIn K C C "__init__" = some (some (.builtin "ValueError.__init__"))
  subV : subIn K (.ref C) (.type "ValueError") = some true
  self : mroIn K C (.ref C) = some true
  opq : nsIn K cStatics "thirdparty.any" = some none
  noS : mg "super" = none
  top : (prog.main.scope.names.lookup ("super" : Str)).isSome = false
  sa : findIn K (.ref C) "__setattr__" = some (some (.builtin "object.__setattr__"))
  noN : findIn K (.ref C) "at" = some none
  iC : findIn K (.ref C) "__init__" = some (some (.ref fI))
  tC : typeIn K (.ref fI) = some (.type "function")
  kC : keepIn K (.ref C) = true
  exC : subIn K (.ref C) (.type "BaseException") = some true
  tyC : typeIn K (.ref C) = some (.type "type")
  fn : ∃ (qual msg : Str) (kk : Nat) (oc : Value) (od : Option Addr) (doc pm : Value) (an : Option Addr) (cda cc : Addr) (ct : Value) (osl : Array (Option Value)) (p1 p2 a1 a2 a3 a4 a5 a6 b1 b2 b3 b4 : Pos)
      (ccl : Value) (cdd : Option Addr) (vs : Array Value) (ccs : Array (Option Value)) (file : Str) (tf : Tok) (cl : Value) (cld : Option Addr) (csl : Array (Option Value)),
    K.lookup fI = some ⟨oc, od, .func (ksFn "__init__" qual (eA p1 p2) (eB msg kk a1 a2 a3 a4 a5 a6 b1 b2 b3 b4) eS .none .none doc pm an (.ref cda) ct cc), osl⟩ ∧ codeIn K (.ref cda) qual = true ∧
    K.lookup cda = some ⟨ccl, cdd, .fields vs, ccs⟩ ∧ vs[2]? = some (.str file tf) ∧ ((prog.main.file : Str) == file) = true ∧ K.lookup cc = some ⟨cl, cld, .cell (some (.ref C)), csl⟩ ∧ (a3.endLine == a5.line) = true
/-- what __init__ leaves of a fresh error at x -/
structure Left (h h' : Heap) (x C dx t1 : Addr) (v : Value) : Prop where
  keep : ∀ b o, b ≠ x → h.get? b = some o → h'.get? b = some o
  obj : h'.get? x = some { cls := .ref C, dict := some dx, data := .fields #[.ref t1, .none, .none, .none, .bool false, .none] }
  dbig : h.objs.size ≤ dx
  dne : dx ≠ x
  ns : h'.Ns1 dx (fun y => if y = "at" then some v else none)
section
variable {prog : Program} {w : World} {A : Around} {E : Value → Shared → Prop} {R : Result → Shared → Prop} {s : Shared} {K : Frag} {mg mb : Str → Option Value} {C fI : Addr} {nme : Str}
theorem init_ok (T : ErrTxt prog K mg nme C fI) {x t0 : Addr} {v : Value} (X : K.In s.heap) (hlim : s.heap.NoLimit) (hg : s.heap.Ns mainGlobals mg) (hb : s.heap.Ns builtinsNs mb) (hbl : ∀ x : Str, x ≠ "__name__" → mb x = bootBuiltins x)
    (hx : s.heap.get? x = some (excO C t0)) (hnx : K.lookup x = none) (hroom : A.depth < recursionLimit)
    (hq : ∀ h' tk dx t1, Left s.heap h' x C dx t1 v → R (.ok (.ret .none)) { s with heap := h', toks := tk }) :
    codeAny (model prog w) A (.call (.ref fI) ⟨[.ref x, v], []⟩) R s := by
  obtain ⟨qual, msg, kk, oc, od, doc, pm, an, cda, cc, ct, osl, p1, p2, a1, a2, a3, a4, a5, a6, b1, b2, b3, b4, ccl, cdd, vs, ccs, file, tf, cl, cld, csl, ho, hcd, hcda, hvs, hfile, hcc, hline⟩ := T.fn
  obtain ⟨nm, q, N, bs, bm, sn, sub, ab, col, dd, k0, k1, k2, k3, k5, hC, hbm⟩ := T.cls
  have hcl : clsIn K C = some { name := nm, bases := bs, mro := .ref C :: bm, ns := N, qualname := q, hasDict := true, slotNames := sn, subclasses := sub, abstract := ab, collection := col, hasDel := false } := by
    unfold clsIn
    rw [hC]
    all_goals rfl
  have hsz : x < s.heap.objs.size := Heap.lt_size hx
  refine ks_codeAny_call_defAt (binds := [("self", .ref x), ("at", v)]) hroom (X _ _ ho) rfl hlim (codeRec_of X hcd) rfl (BindsTo.of_eq (by first | rfl | with_unfolding_all rfl)) (show ∀ y ∈ eS.names, y.2 ≠ .cell by decide) (by
    intro y hy
    simp only [List.mem_cons, List.not_mem_nil, or_false] at hy
    rcases hy with rfl | rfl <;> rfl) (fun h₁ hns hk₁ => ?_)
  have X₁ : K.In h₁ := X.keeps hk₁
  have hx₁ := hk₁ _ _ hx
  have I₁ : InstAt h₁ x (excO C t0) C none := ⟨hx₁, rfl, rfl, trivial⟩
  have hxC : x ≠ C := ks_ne X₁ I₁ hcl
  have hsub : Looks (model prog w) h₁ (isSubtype (.ref C) (.ref C)) true := looks_mroIn X₁ T.self
  obtain ⟨oC, hC1, hC2⟩ : ∃ oC, h₁.get? C = some oC ∧ oC.data = .cls { name := nm, bases := bs, mro := .ref C :: bm, ns := N, qualname := q, hasDict := true, slotNames := sn, subclasses := sub, abstract := ab, collection := col, hasDel := false } := ⟨_, X₁ _ _ hC, rfl⟩
  obtain ⟨hp, g, dr, tk, os⟩ := s
  -- super().__init__('..')
  refine ks_wpAt_execs_cons (ks_wpAt_Expr_any (ks_wpAt_MethodCall (he := eval_mcall rfl hline) ?_))
  refine ks_wpAt_super_base (cc := cda) rfl rfl rfl rfl (X₁ _ _ ho) rfl rfl rfl (X₁ _ _ hcda) rfl hvs hfile T.top ?_
  have hg₁ : h₁.Ns mainGlobals mg := hg.keeps hk₁
  have hb₁ : h₁.Ns builtinsNs mb := hb.keeps hk₁
  refine ks_loadName_global rfl rfl (loadGlobal_builtin (env := ksEnv qual eS hp.objs.size fI (.ref cda) cc) hg₁ T.noS hb₁ ((hbl _ (by decide +kernel)).trans (show bootBuiltins "super" = some (.type "super") by decide +kernel)) ⟨rfl, ?_⟩)
  refine wpAny_loadName_free rfl rfl rfl ⟨_, X₁ _ _ hcc, rfl⟩ ?_
  refine wpAny_loadName_local (v := .ref x) rfl rfl hns rfl ?_
  refine ks_wpAny_isType_cls hC1 hC2 ⟨rfl, ?_⟩
  refine ks_wpAny_call_super hC1 hC2 hx₁ rfl (fun c e => by cases e) hsub (fun h₂ e2 k2 => ?_)
  have X₂ : K.In h₂ := X₁.keeps k2
  have hx₂ := k2 _ _ hx₁
  have I₂ : InstAt h₂ x (excO C t0) C none := ⟨hx₂, rfl, rfl, trivial⟩
  have hI : Looks (model prog w) h₂ (isInstance (.ref x) (.type "ValueError")) true := I₂.type.andThen (looks_subIn X₂ T.subV)
  have hmro : Looks (model prog w) h₂ (mroOf (.ref C)) (.ref C :: bm) := (looks_clsIn X₂ hcl).andThen .now
  have hal : alongIn K "__init__" (((.ref C :: bm : List Value).dropWhile (· != .ref C)).drop 1) = some (some (.builtin "ValueError.__init__")) := by
    have e := T.sup
    unfold ks_superIn at e
    rw [hcl] at e
    exact e
  refine kxs_getMethod kxs_ValueError e2 (looks_opaque X₂ T.opq) hmro rfl X₂ hal hI hxC (by decide +kernel) ?_
  -- the wrapper's call
  refine kxs_callWith (i := "ValueError.__init__") (x := x) rfl (evalArgs_plain ?_)
  refine Calls.spliced_cons (Calls.Constant_str (k := kk) (pos := a4) (Calls.spliced_nil ⟨?_, ?_⟩))
  · exact Heap.get?_push_at rfl rfl
  have h3 : (h₂.push (kxs_mw "ValueError.__init__" x)).get? h₂.objs.size = some (kxs_mw "ValueError.__init__" x) := Heap.get?_push_at rfl rfl
  have hx₃ : (h₂.push (kxs_mw "ValueError.__init__" x)).get? x = some (excObj C t0 none .none) := Heap.get?_push_of_some _ hx₂
  have X₃ : K.In (h₂.push (kxs_mw "ValueError.__init__" x)) := X₂.keeps fun b o e => Heap.get?_push_of_some _ e
  refine wpAny_call (codeAny_of_tree ?_)
  show wpAny _ _ (callAny (.ref h₂.objs.size) _) _ _ _
  simp only [callAny]
  refine wpAny_bind (wpAny_load h3 ?_)
  simp only [kxs_mw, show (Value.type "method-wrapper" == Value.type "method" || Value.type "method-wrapper" == Value.type "builtin_function_or_method" || Value.type "method-wrapper" == Value.type "method-wrapper") = true by decide, if_true]
  refine KFB.if_so (by decide) ?_
  refine wpAny_bind (check_bound_init F.excBase_ValueError.toExcCallFacts (X₃ _ _ hC) hx₃ rfl ?_)
  refine wpAny_bind (wpAny_pure (wpAny_pure ?_))
  refine ⟨plainId_quiet F.excBase_ValueError.init.plain _, codeAny_builtin F.excBase_ValueError.initEntry ?_⟩
  refine exc_init_tree (cls := .ref C) (t0 := t0) (dv := none) (c2 := .none) (c3 := .none) (b4 := .bool false) hx₃ (by show 1 ≤ sizeLine; rw [sizeLine_eq]; decide) fun h₄ k₄ hx₄ ht₄ => ?_
  -- self.at = at
  have old : ∀ b o, b ≠ x → hp.get? b = some o → h₄.get? b = some o := fun b o hb e => k₄ b o hb (Heap.get?_push_of_some _ (k2 _ _ (hk₁ _ _ e)))
  have X₄ : K.In h₄ := fun b o e => k₄ b o (fun z => by rw [z, hnx] at e; cases e) (X₃ b o e)
  have hxL : hp.objs.size ≠ x := Nat.ne_of_gt hsz
  have hn₄ : h₄.Ns hp.objs.size (fun y => List.lookup y [(("self" : Str), Value.ref x), ("at", v)].reverse) := by
    obtain ⟨oL, es, ep, hL, r⟩ := hns
    exact ⟨oL, es, ep, k₄ _ _ hxL (Heap.get?_push_of_some _ (k2 _ _ hL)), r⟩
  refine wpAt_of_wpAny ?_
  refine wpAny_execs_cons (plainObj_wpAny_Assign_Attribute ?_)
  refine PySem.ESX.ldL (v := v) hn₄ rfl (PySem.ESX.ldL (v := .ref x) hn₄ rfl ?_)
  refine set_plain X₄ (ox := excO C (h₂.push (kxs_mw "ValueError.__init__" x)).objs.size) (od := none) ⟨hx₄, rfl, rfl, trivial⟩ T.sa ?_
  refine exc_osa X₄ hx₄ hcl (show refsVE (.ref C :: bm) = true from hbm) rfl T.noN (fun h₅ tk₅ dx k₅ dn dne hx₅ hn₅ => ?_)
  have z4 : hp.objs.size ≤ h₄.objs.size := by
    obtain ⟨oL, es, ep, hL, r⟩ := hn₄
    exact Nat.le_of_lt (Heap.lt_size hL)
  exact wpAny_execs_nil (hq h₅ tk₅ dx _ ⟨fun b o hb e => k₅ b o hb (old b o hb e), hx₅, Nat.le_trans z4 dn, dne, hn₅⟩)
end
end DErr
set_option Elab.async false
set_option linter.all false
set_option maxRecDepth 100000
set_option maxHeartbeats 1000000
/-! own errors over data: raise, try -/
namespace DErr
open PySem PySem.W PySem.Calls PyProof.Rows PySem.HandSPX
structure Made (h h' : Heap) (e C d : Addr) (v : Value) : Prop where
  keep : ∀ b o, h.get? b = some o → h'.get? b = some o
  new : h.objs.size ≤ e
  obj : ∃ oe vs, h'.get? e = some oe ∧ oe.cls = .ref C ∧ oe.dict = some d ∧ oe.data = .fields vs ∧ vs[1]? = some .none
  dbig : h.objs.size ≤ d
  dne : d ≠ e
  ns : h'.Ns1 d (fun y => if y = "at" then some v else none)
theorem one_size (v : Value) : [v].length ≤ sizeLine := by
  rw [sizeLine_eq]
  exact (by decide : 1 ≤ 16777216)
section
variable {prog : Program} {w : World} {A : Around} {E : Value → Shared → Prop} {R : Result → Shared → Prop} {s : Shared} {K : Frag} {mg mb : Str → Option Value} {C fI : Addr} {nme : Str}
theorem made (T : ErrTxt prog K mg nme C fI) {v : Value} (X : K.In s.heap) (hlim : s.heap.NoLimit) (hg : s.heap.Ns mainGlobals mg) (hb : s.heap.Ns builtinsNs mb) (hbl : ∀ x : Str, x ≠ "__name__" → mb x = bootBuiltins x) (hroom : A.depth + 1 < recursionLimit)
    (hq : ∀ h' tk e d, Made s.heap h' e C d v → R (.ok (.ret (.ref e))) { s with heap := h', toks := tk }) :
    codeAny (model prog w) A (.call (.ref C) ⟨[v], []⟩) R s := by
  obtain ⟨nm, q, N, bs, bm, sn, sub, ab, col, dd, k0, k1, k2, k3, k5, hC, hbm⟩ := T.cls
  obtain ⟨hp, g, dr, tk, os⟩ := s
  have k : ∀ b o, hp.get? b = some o → ((hp.push (kdv_tup [v])).push (excO C hp.objs.size)).get? b = some o := fun b o e => Heap.get?_push_of_some _ (Heap.get?_push_of_some _ e)
  have hget : ((hp.push (kdv_tup [v])).push (excO C hp.objs.size)).get? (hp.objs.size + 1) = some (excO C hp.objs.size) := by heap_get
  have hnx : K.lookup (hp.objs.size + 1) = none := by
    cases e : K.lookup (hp.objs.size + 1) with
    | none => rfl
    | some o =>
      have z : hp.get? (hp.objs.size + 1) = some o := X _ _ e
      exact absurd (Nat.lt_of_succ_lt (Heap.lt_size z)) (Nat.lt_irrefl _)
  refine call_own F.excBase_ValueError (fun X => refsVE_contains X bm hbm) (X _ _ hC) (looks_findIn X T.iC) (fun self => bind_fn X self T.tC) (one_size v) ?_
  refine init_ok (s := ⟨(hp.push (kdv_tup [v])).push (excO C hp.objs.size), g, dr, tk, os⟩) T (X.keeps k) (hlim.keeps k) (hg.keeps k) (hb.keeps k) hbl hget hnx ?_ fun h' tk' dx t1 ⟨k', hx, dn, dne, hns⟩ => ?_
  · show A.depth + 1 < recursionLimit
    exact hroom
  · have old : ∀ b o, hp.get? b = some o → h'.get? b = some o := fun b o e => k' b o (Nat.ne_of_lt (Nat.lt_succ_of_lt (Heap.lt_size e))) (k b o e)
    have z : hp.objs.size + 1 + 1 ≤ dx := by
      first
        | (simpa only [Heap.size_push] using dn)
        | exact dn
        | (have q := dn; rw [Heap.size_push, Heap.size_push] at q; exact q)
    exact ⟨rfl, hq h' tk' (hp.objs.size + 1) dx ⟨old, Nat.le_succ _, ⟨_, _, hx, rfl, rfl, rfl, rfl⟩, Nat.le_trans (Nat.le_trans (Nat.le_succ _) (Nat.le_succ _)) z, dne, hns⟩⟩
end
end DErr
namespace DL
open PySem PySem.Spec PyProof.Rows L2
theorem relO_at {v : V} {v' : Value} (r : RelV v v') (f : Str) : RelO (List.lookup f [(("at" : Str), v)]) (if f = "at" then some v' else none) := by
  by_cases hw : f = "at"
  · subst hw
    rw [if_pos rfl]
    have q : List.lookup ("at" : Str) [(("at" : Str), v)] = some v := by simp [List.lookup]
    rw [q]
    exact r
  · rw [if_neg hw]
    have qw : (f == ("at" : Str)) = false := by simpa using hw
    have q2 : List.lookup f [(("at" : Str), v)] = none := by simp [List.lookup, qw]
    rw [q2]
    trivial
section
variable {X : Cx} {p : Pt} {C fI : Addr} {nme : Str}
def tMkAt (C : Addr) (ta : TA) : L2.St → Hp → XK → Prop := fun σ H Q => ta σ H fun vs H1 => ∃ v, vs = [v] ∧ ∀ d, H1 d = none → Q (.ref C) (some d) (upd H1 d (.xd [(("at" : Str), v)]))
theorem pmk_err {a : Expr} {ta : TA} {p pos : Pos} {k : Nat} (T : DErr.ErrTxt X.prog X.K X.mg nme C fI) (hr : Room (k + 1) X.A) (ha : PA X [a] ta) (hg : Gl X nme) (hdb : (nme == ("__debug__" : Str)) = false := by decide)
    (he : starEach (a :: []) X.env = (false, eval a X.env) :: starEach [] X.env := by rfl) (hpl : (backTo pos (starEach [] X.env)).any (·.1) = false := by rfl) :
    PMk X (.Call (.Name nme p) [a] [] pos) (tMkAt C ta) := by
  intro pins s σ H Q I h
  refine wpAny_Call_Name_kw (ld_glob I hg T.gC ?_ hdb)
  refine PySem.W.callWith_K (h₀ := X.base) I.ok.mod.kin T.kC (thn (ha.run pos pins s σ H _ I h) fun us s1 hh => ?_) he hpl
  obtain ⟨vs, H1, I1, r1, v, ev, q1⟩ := hh
  subst ev
  refine ⟨I1.kIn, ?_⟩
  cases r1 with
  | cons rv rn =>
    rename_i v' us'
    cases rn
    show wpAny _ _ (call (.ref C) [v']) _ _ _
    have hlim := I1.nolimit
    have hgl := I1.mod.glob.keeps I1.bk
    obtain ⟨mb, hb1, hb2⟩ := I1.mod.blt
    have hb := hb1.keeps I1.bk
    have kin := I1.kIn
    obtain ⟨hp, g, dr, tk, os⟩ := s1
    refine wpAny_call (DErr.made T kin hlim hgl hb hb2 (by have := hr.dp; omega) fun h' tk' e d M => ?_)
    show MkP X pins σ Q (.ref e) ⟨h', g, dr, tk', os⟩
    obtain ⟨oe, fv, hoe, hc, hd, hdat, h1⟩ := M.obj
    have hns := M.ns
    obtain ⟨G', g1, g2⟩ := restrict h' fun b => decide (b ≠ e)
    have gk : ∀ b, b ≠ e → G'.get? b = h'.get? b := fun b hb => g1 b (decide_eq_true hb)
    have ge : G'.get? e = none := g2 e (by simp)
    have old : ∀ b o, hp.get? b = some o → G'.get? b = some o := fun b o q => (gk b (Nat.ne_of_lt (Nat.lt_of_lt_of_le (Heap.lt_size q) M.new))).trans (M.keep b o q)
    have ob : ObjOk X.prog X.w (upd H1 d (.xd [(("at" : Str), v)])) G' d (.xd [(("at" : Str), v)]) :=
      ⟨_, hns.at (fun o q => (gk d M.dne).trans q), fun f => relO_at rv f⟩
    have J : Inv X pins σ (upd H1 d (.xd [(("at" : Str), v)])) ⟨G', g, dr, tk', os⟩ := I1.laid (t' := tk') old M.dbig ob
    refine ⟨e, oe, fv, ⟨G', g, dr, tk', os⟩, _, .ref C, some d, rfl, J, fun b o q => ?_, ge, hoe, ⟨hc, hd⟩, hdat, h1, ?_, rfl, I1.bare, raises_own T.exC T.tyC, q1 d (I1.hok.fresh M.dbig)⟩
    · by_cases hb : b = e
      · have q' : G'.get? b = some o := q
        rw [hb, ge] at q'; cases q'
      · exact (gk b hb).symm.trans q
    · rw [upd_ne (Ne.symm M.dne)]
      exact I1.hok.fresh M.new
/-- raise x(e) -/
def dRaise (C : Addr) (ED : Addr → D → DS → Prop) (t : DA) : DSt := fun _ δ => t δ fun ds => ∃ v, ds = [v] ∧ ED C v δ
theorem ds_raise {W : WX} {ED : Addr → D → DS → Prop} {a : Expr} {t : DA} {p1 pos pos2 : Pos} {k : Nat} (wi : Wish X p W ED) (hc : X.calm = true) (T : DErr.ErrTxt X.prog X.K X.mg nme C fI) (hr : Room (k + 1) X.A) (ha : PDA X p [a] t) (hg : Gl X nme) (hdb : (nme == ("__debug__" : Str)) = false := by decide)
    (he : starEach (a :: []) X.env = (false, eval a X.env) :: starEach [] X.env := by rfl) (hpl : (backTo pos (starEach [] X.env)).any (·.1) = false := by rfl) :
    PDS X p (.Raise (some (.Call (.Name nme p1) [a] [] pos)) none pos2) (dRaise C ED t) := by
  refine ⟨PS.imp (ps_raise hc wi.tk (pmk_err T hr ha.pa hg hdb he hpl)) ?_⟩
  rintro Dn σ H ⟨F, δ, DD, g, q, _⟩
  refine ⟨F, δ, _, g, q, fun vs H1 F1 ds e1 r1 ⟨v, ev, q1⟩ => ?_⟩
  subst ev
  simp only [RepL] at r1
  obtain ⟨x, r, rfl, rx, rfl⟩ := r1
  refine ⟨x, rfl, fun d hd => ?_⟩
  have g1 := p.step g e1
  have e2 := ext_new g1.ok (o := .xd [(("at" : Str), x)]) hd
  have g2 := p.step g1 e2
  exact wi.to σ δ _ _ C d _ x v g2 upd_same (by simp [List.lookup]) (Rep.mono e2.ff _ _ rx) q1
/-! ### try -/
/-- what the suite of a try knows of the error it holds -/
structure Held (pS p : Pt) (C dx : Addr) (d : D) : Prop where
  K : pS.K = p.K
  J : pS.J = p.J
  at_ : ∃ fs v, pS.B dx = some (.xd fs) ∧ fs.lookup ("at" : Str) = some v ∧ Rep pS.K pS.B d v
/-- the ends of an except suite: slot i is emptied -/
def dEmptied (DD : DEnds) (i : Nat) : DEnds := { nx := fun δ => DD.nx (δ.set i none), rt := DD.rt, bk := fun δ => DD.bk (δ.set i none), ct := fun δ => DD.ct (δ.set i none) }
def dTry (K : PySem.W.Frag) (c : Value) (i : Nat) (EO : Addr → D → DS → Prop) (tb : Hp → (Addr → D → DS → Prop) → DSt) (ts : Hp → Addr → Addr → D → DSt) : DSt := fun DD δ =>
  ∀ B, tb B (fun C d δ1 => ∃ b, PySem.W.exmOne K (.ref C) c = some b ∧ (b = true → ∀ B a, ts B a C d (dEmptied DD i) (δ1.set i (some (.opq (.ref a))))) ∧ (b = false → EO C d δ1)) DD δ
theorem G.base {K : PySem.W.Frag} {J : Reg} {Hi Fi B B' F H : Hp} {σ : St} {δ : DS} (g : DL.G K J Hi Fi B F σ δ H) (h : Same B' F) : DL.G K J Hi Fi B' F σ δ H := ⟨g.ext, h, g.len, g.var, g.dis⟩
abbrev Pt.at (p : Pt) (B : Hp) : Pt := ⟨p.K, p.J, p.Hi, p.Fi, p.ok, B⟩
theorem ds_try {W : WX} {x n : Str} {c : Value} {i : Nat} {body suite : List Stmt} {b₀ : Stmt} {np pos pos' : Pos} {EO : Addr → D → DS → Prop} {tb : Hp → (Addr → D → DS → Prop) → DSt} {ts : Hp → Addr → Addr → D → DSt} (wi : Wish X p W EO)
    (hs : X.stack = X.env :: X.outer) (hf : X.env.frame = some X.env.locals) (hN : X.N.Nodup) (hi : X.N[i]? = some n) (hln : X.env.kindOf n = some .local) (hc : Names X x c)
    (hb : ∀ (W' : WX) (ED : Addr → D → DS → Prop) (pn : List (Addr × Obj)) (xe : Value → Shared → Prop) (B : Hp), Wish (X.tr pn xe) (p.at B) W' ED → PassesOwn (model X.prog X.w) X.A X.env xe → PDSs (X.tr pn xe) (p.at B) body (tb B ED))
    (hsu : ∀ (B : Hp) (a : Addr) (oe : Obj) (C dx : Addr) (d : D) (pn : List (Addr × Obj)), Held (p.at B) p C dx d → Zc (.ref C) (some dx) oe → (∃ vs, oe.data = .fields vs) → PDSs (X.suite a ((a, oe) :: pn)) (p.at B) (b₀ :: suite) (ts B a C d)) :
    PDS X p (.Try body [.ExceptHandler (some (.Name x np)) (some n) (b₀ :: suite) pos'] [] [] pos) (dTry X.K c i EO tb ts) := by
  let tsT : Addr → Value → Option Addr → TS := fun a cls d Dn σ H => ∃ (C dx : Addr) (F : Hp) (δ : DS) (DD : DEnds) (fs : List (Str × V)) (v : V) (at_ : D), cls = .ref C ∧ d = some dx ∧ p.G F σ δ H ∧ F dx = some (.xd fs) ∧ fs.lookup ("at" : Str) = some v ∧ Rep p.K F at_ v ∧ (∀ B, ts B a C at_ DD δ) ∧
    (∀ σ' H' F' δ', p.G F' σ' δ' H' → Same F F' → DD.nx δ' → Dn.nx σ' H') ∧ (∀ σ' H' F' δ', p.G F' σ' δ' H' → Same F F' → DD.bk δ' → Dn.bk σ' H') ∧
    (∀ σ' H' F' δ', p.G F' σ' δ' H' → Same F F' → DD.ct δ' → Dn.ct σ' H') ∧ (∀ v H' F' d, Ext p.J p.Fi p.Hi F' H' → Rep p.K F' d v → DD.rt d → Dn.rt v H')
  let tbT : WX → TS := fun W' Dn σ H => ∃ (B : Hp) (ED : Addr → D → DS → Prop), (∀ σ δ F H C dx fs v a, (p.at B).G F σ δ H → F dx = some (.xd fs) → fs.lookup ("at" : Str) = some v → Rep p.K F a v → ED C a δ → W' (.ref C) (some dx) σ H) ∧ liftS (p.at B) (tb B ED) Dn σ H
  refine ⟨PS.imp (ps_try_as (tb := tbT) (ts := tsT) hs hf hN hi hln hc wi.tk (fun W' pn xe tk pa => ⟨fun pins s σ H Dn I ⟨B, ED, hto, h⟩ => (hb W' ED pn xe B ⟨tk, hto⟩ pa).pss.run pins s σ H Dn I h⟩)
    (fun a oe cls d pn hz hfd => ⟨fun pins s σ H Dn I h => ?_⟩)) ?_⟩
  · obtain ⟨C, dx, F, δ, DD, fs, v, at_, rfl, rfl, g, h1, h2, h3, q, kn, kb, kc, kr⟩ := h
    refine (hsu F a oe C dx at_ pn ⟨rfl, rfl, fs, v, h1, h2, h3⟩ hz hfd).pss.run pins s σ H Dn I ?_
    refine ⟨F, δ, DD, G.base g (Same.refl F), q F, fun σ' H' F' δ' g' s' q' => ?_, fun σ' H' F' δ' g' s' q' => ?_, fun σ' H' F' δ' g' s' q' => ?_, kr⟩
    · exact kn σ' H' F' δ' (G.base g' (g.bs.trans s')) s' q'
    · exact kb σ' H' F' δ' (G.base g' (g.bs.trans s')) s' q'
    · exact kc σ' H' F' δ' (G.base g' (g.bs.trans s')) s' q'
  · rintro Dn σ H ⟨F, δ, DD, g, q, kn, kb, kc, kr⟩
    have b0 : ∀ {F' σ' δ' H'}, (p.at F).G F' σ' δ' H' → p.G F' σ' δ' H' := fun g' => G.base g' (g.bs.trans g'.bs)
    refine ⟨F, _, ?_, F, δ, DD, G.base g (Same.refl F), q F, fun σ' H' F' δ' g' s' q' => kn σ' H' F' δ' (b0 g') s' q', fun σ' H' F' δ' g' s' q' => kb σ' H' F' δ' (b0 g') s' q', fun σ' H' F' δ' g' s' q' => kc σ' H' F' δ' (b0 g') s' q', kr⟩
    rintro σ1 δ1 F1 H1 C dx fs v a_ g1 h1 h2 h3 ⟨b, hb1, hy, hn⟩
    have g0 := b0 g1
    have sF := g1.bs
    refine ⟨b, hb1, fun hbt a ha => ?_, fun hbf => wi.to σ1 δ1 F1 H1 C dx fs v a_ g0 h1 h2 h3 (hn hbf)⟩
    refine ⟨C, dx, F1, _, dEmptied DD i, fs, v, a_, rfl, rfl, g0.setD (d := .opq (.ref a)) (by simp only [Rep]), h1, h2, h3, fun B => hy hbt B a, fun σ' H' F' δ' g' s' q' => ?_, fun σ' H' F' δ' g' s' q' => ?_, fun σ' H' F' δ' g' s' q' => ?_, kr⟩
    · exact kn _ H' F' _ (g'.drop i) (sF.trans s') q'
    · exact kb _ H' F' _ (g'.drop i) (sF.trans s') q'
    · exact kc _ H' F' _ (g'.drop i) (sF.trans s') q'
/-- wrong.at -/
def dXat (a C C' : Addr) (d : D) (te : DE) : DE := fun δ Q => te δ fun x => x = .opq (.ref a) ∧ C' = C ∧ isOwn d = false ∧ Q d
theorem de_xat {a C C' dx : Addr} {oe : Obj} {d : D} {pS : Pt} {pn : List (Addr × Obj)} {e : Expr} {te : DE} {pos : Pos} (T : XfC X.K C) (hno : PySem.W.findIn X.K (.ref C) "at" = some none) (hH : Held pS p C' dx d)
    (hz : Zc (.ref C') (some dx) oe) (hf : ∃ vs, oe.data = .fields vs) (he : PDE (X.suite a ((a, oe) :: pn)) pS e te) (hb : attributeBase e "at" X.env (eval e X.env) = eval e X.env := by rfl) :
    PDE (X.suite a ((a, oe) :: pn)) pS (.Attribute e "at" pos) (dXat a C C' d te) := by
  refine ⟨PE.imp (pe_xf T hno hz hf he.pe hb) ?_⟩
  rintro σ H Q ⟨F, δ, QD, g, q, k⟩
  refine ⟨F, δ, _, g, q, fun v H1 F1 x e1 r1 ⟨hx, hc, ho, q1⟩ => ?_⟩
  subst hx
  have ev : v = .ref a := by
    have := (res_data (d := .opq (.ref a)) rfl).mp r1
    simpa only [Rep] using this
  obtain ⟨fs, u, b1, b2, b3⟩ := hH.at_
  have g1 := pS.step g e1
  refine ⟨ev, by rw [hc], dx, fs, u, rfl, g1.ok.fh _ _ (g1.bs _ _ b1), b2, k u H1 F1 d e1 ?_ q1⟩
  exact (res_data ho).mpr (Rep.mono g1.bs _ _ b3)
end
end DL
set_option Elab.async false
set_option linter.all false
set_option maxRecDepth 100000
set_option maxHeartbeats 1000000
/-! rules that the hand layer lacks: is True/False of any value, t * 0, t * 1, t[::-1] of a tuple -/
namespace L2
open PySem PySem.Spec PyProof.Rows
section
variable {X : Cx}
theorem op_isB1 : OpR X (compareOp .Is) (fun x y H Q => ∃ b, y = .bl b ∧ Q (.bl (decide (x = .bl b))) H) := by
  intro pins s σ H x y v u Q I rx ry h
  obtain ⟨b, rfl, q⟩ := h
  cases (show u = Value.bool b from ry)
  have hp : plainIs v (.bool b) = true := by
    cases x <;> first
      | (cases rx; rfl)
      | (obtain ⟨t, rfl⟩ := rx; rfl)
  refine wpAny_is_plain hp ⟨_, H, I, ?_, q⟩
  show _ = _
  cases x <;> first
    | (cases rx; rfl)
    | (obtain ⟨t, rfl⟩ := rx; rfl)
    | skip
  rename_i c
  cases (show v = Value.bool c from rx)
  cases b <;> cases c <;> rfl
end
theorem tuple_mul1 (l : Addr) (items : Array Value) (n : Nat) (dd : Option Addr) (sl : Array (Option Value)) (u : Tok) :
    Meets (Builtin.«tuple.__mul__» ⟨[.ref l, .int 1 u], []⟩) (fun _ R s => s.heap.get? l = some { cls := .type "tuple", dict := dd, data := .seq items n, slots := sl } ∧ R (.ok (.ret (Value.ref l))) s) :=
  .of_wp fun prog w A R s h => by
    obtain ⟨hp, g, d, tk, os⟩ := s
    obtain ⟨hl, h⟩ := h
    have f1 := AutoSeq1.idx_int
    have c0 : (decide ((1 : Int) < -(2 ^ 63)) || decide ((1 : Int) ≥ 2 ^ 63)) = false := by decide
    have c1 : (items.isEmpty || (1 : Int) == 1) = true := by simp
    wp_walk using wpAny_loadPart' hl
    repeat (first
      | (refine wpAny_ite_false (decide_eq_false (by rw [c0]; exact Bool.false_ne_true)) ?_; wp_walk using wpAny_loadPart' hl)
      | (refine wpAny_ite_true (decide_eq_true c1) ?_; wp_walk using wpAny_loadPart' hl)
      | (rw [if_pos c1]; wp_walk using wpAny_loadPart' hl))
    exact ⟨_, rfl, h⟩
theorem tuple_mul0 (l : Addr) (items : Array Value) (n : Nat) (dd : Option Addr) (sl : Array (Option Value)) (u : Tok) (hne : items.isEmpty = false) :
    Meets (Builtin.«tuple.__mul__» ⟨[.ref l, .int 0 u], []⟩) (fun _ R s => s.heap.get? l = some { cls := .type "tuple", dict := dd, data := .seq items n, slots := sl } ∧
      R (.ok (.ret (Value.ref s.heap.objs.size))) { s with heap := s.heap.push { cls := Value.type "tuple", data := Data.seq #[] }, toks := s.toks }) :=
  .of_wp fun prog w A R s h => by
    obtain ⟨hp, g, d, tk, os⟩ := s
    obtain ⟨hl, h⟩ := h
    have f1 := AutoSeq1.idx_int
    have c0 : (decide ((0 : Int) < -(2 ^ 63)) || decide ((0 : Int) ≥ 2 ^ 63)) = false := by decide
    have c1 : (items.isEmpty || (0 : Int) == 1) = false := by rw [hne]; rfl
    have c2 : (decide ((0 : Int) ≤ 0) || items.isEmpty) = true := by simp
    wp_walk using wpAny_loadPart' hl
    repeat (first
      | (refine wpAny_ite_false (decide_eq_false (by rw [c0]; exact Bool.false_ne_true)) ?_; wp_walk using wpAny_loadPart' hl)
      | (refine wpAny_ite_false (decide_eq_false (by rw [c1]; exact Bool.false_ne_true)) ?_; wp_walk using wpAny_loadPart' hl)
      | (refine wpAny_ite_true (decide_eq_true c2) ?_; wp_walk using wpAny_loadPart' hl))
    exact ⟨_, rfl, h⟩

def rRep01 (K : PySem.W.Frag) : R2 := fun x y H Q => ∃ l k xs, x = .ref l ∧ y = .int k ∧ SqT K H l xs ∧ xs ≠ [] ∧ ((k = 1 ∧ Q (.ref l) H) ∨ (k = 0 ∧ ∀ p, H p = none → Q (.ref p) (upd H p (.tup []))))
section
variable {X : Cx}
theorem op_rep01 : OpR X (binaryOp .Mult) (rRep01 X.K) := by
  intro pins s σ H x y v u Q I rx ry h
  obtain ⟨l, k, xs, rfl, rfl, hT, hne, q⟩ := h
  cases rx
  obtain ⟨t, rfl⟩ := ry
  obtain ⟨its, r, ⟨⟨cls, dd, data, sl⟩, ho, hc, n, hd⟩, hs⟩ := I.tuple hT
  simp only at hc hd
  subst hc hd
  have hle : its.length = xs.length := r.length.symm
  have hn : its ≠ [] := fun e => hne (by
    rw [e] at hle
    exact List.eq_nil_of_length_eq_zero hle.symm)
  have hi : its.toArray.isEmpty = false := by
    cases its with
    | nil => exact absurd rfl hn
    | cons a b => rfl
  rcases q with ⟨rfl, q⟩ | ⟨rfl, q⟩
  · exact wpAny_binaryOp_repeat_ref (T := "tuple") (U := "int") (by decide) ⟨_, ho, rfl⟩ (fun s' => typeIs_int s' 1 t) noFill_tuple_mul F.fills_int_mul F.slot_int_rmul repeat_tuple F.slot_int_index.lookup
      (call_meets F.slot_int_rmul (typeIs_int s 1 t) F.entry_int_rmul (F.args_int_rmul_2 _ _) (int_rmul_tuple 1 t l its.toArray n dd sl)
        ⟨ho, rfl, ⟨_, ho, rfl⟩, call_meets F.slot_tuple_mul ⟨_, ho, rfl⟩ F.entry_tuple_mul (F.args_tuple_mul_2 _ _) (tuple_mul1 l its.toArray n dd sl t) ⟨ho, .ref l, H, I, rfl, q⟩⟩)
  · refine wpAny_binaryOp_repeat_ref (T := "tuple") (U := "int") (by decide) ⟨_, ho, rfl⟩ (fun s' => typeIs_int s' 0 t) noFill_tuple_mul F.fills_int_mul F.slot_int_rmul repeat_tuple F.slot_int_index.lookup
      (call_meets F.slot_int_rmul (typeIs_int s 0 t) F.entry_int_rmul (F.args_int_rmul_2 _ _) (int_rmul_tuple 0 t l its.toArray n dd sl)
        ⟨ho, rfl, ⟨_, ho, rfl⟩, call_meets F.slot_tuple_mul ⟨_, ho, rfl⟩ F.entry_tuple_mul (F.args_tuple_mul_2 _ _) (tuple_mul0 l its.toArray n dd sl t hi) ⟨ho, ?_⟩⟩)
    refine ⟨.ref s.heap.objs.size, _, I.laid (t' := s.toks) (o := .tup []) (fun b ob q => Heap.get?_push_of_some _ q) (Nat.le_refl _) ?_, rfl, q _ (I.hok.fresh (Nat.le_refl _))⟩
    exact ⟨by simp [sizeLine_eq], _, .nil, IsTup.new _ _⟩
end
end L2
/-! t[::-1] -/
namespace HT
open PySem PySem.Spec PyProof.Rows L2
section
variable {prog : Program} {w : World} {A : Around} {E : Value → Shared → Prop} {s : Shared}
theorem sliceApplied_rev {sl : Addr} {vl vu vs : Value} {n : Nat} {Q : Int × Int × Nat → Shared → Prop} (hs : s.heap.IsSliceOf sl vl vu vs) (pl : IsPart vl none) (pu : IsPart vu none) (ps : IsPart vs (some (-1)))
    (h : Q ((n : Int) - 1, -1, n) s) : wpAny (model prog w) A (Builtin.Slice.sliceApplied (.ref sl) (pure (n : Int))) Q E s := by
  obtain ⟨os, hos, hcs, hds⟩ := id hs
  unfold Builtin.Slice.sliceApplied Builtin.Slice.sliceFields
  refine wpAny_bind (wpAny_bind (wpAny_field hos hds (x := vl) rfl (wpAny_bind (wpAny_field hos hds (x := vu) rfl (wpAny_bind (wpAny_field hos hds (x := vs) rfl (wpAny_pure ?_)))))))
  refine wpAny_bind (slicePart_ ps ?_)
  show wpAny _ _ (if ((-1 : Int) == 0) = true then _ else _) _ _ s
  rw [if_neg (by decide)]
  refine wpAny_bind (slicePart_ pl (wpAny_bind (slicePart_ pu (wpAny_bind (wpAny_pure ?_)))))
  show wpAny _ _ (pure ((n : Int) - 1, (-1 : Int), Builtin.Slice.slicePlaces ((n : Int) - 1) (-1) (-1))) _ _ s
  have e : Builtin.Slice.slicePlaces ((n : Int) - 1) (-1) (-1) = n := by
    unfold Builtin.Slice.slicePlaces
    have h1 : ¬ ((-1 : Int) > 0) := by decide
    simp only [h1, if_false]
    by_cases hn : (n : Int) - 1 > -1
    · rw [if_pos hn, show (- -1 : Int) = 1 by decide, Int.ediv_one]
      omega
    · rw [if_neg hn]
      omega
  rw [e]
  exact wpAny_pure h
theorem pick_rev (xs : Array Value) : ((List.range xs.size).filterMap fun (m : Nat) => xs[(((xs.size : Int) - 1) + (m : Int) * (-1)).toNat]?).toArray = xs.toList.reverse.toArray := by
  have e : ((List.range xs.size).filterMap fun (m : Nat) => xs[(((xs.size : Int) - 1) + (m : Int) * (-1)).toNat]?) = ((List.range xs.size).map fun k => xs.size - 1 - k).filterMap (xs[·]?) := by
    rw [List.filterMap_map]
    have key : ∀ (l : List Nat) (f g : Nat → Option Value), (∀ m ∈ l, f m = g m) → l.filterMap f = l.filterMap g := by
      intro l f g h
      induction l with
      | nil => rfl
      | cons m l ih =>
        rw [List.filterMap_cons, List.filterMap_cons, h m (List.mem_cons_self ..), ih fun k hk => h k (List.mem_cons_of_mem _ hk)]
    refine key _ _ _ fun m hm => ?_
    have := List.mem_range.mp hm
    show xs[_]? = xs[_]?
    have e2 : (((xs.size : Int) - 1) + (m : Int) * (-1)).toNat = xs.size - 1 - m := by omega
    rw [e2]
  rw [e, PySem.W.krv_range, List.filterMap_reverse, PySem.W.krv_all]
theorem getItem_tuple_rev {t sl : Addr} {items : Array Value} {vl vu vs : Value} {Q : Value → Shared → Prop} (ht : IsTup s.heap t items) (hs : s.heap.IsSliceOf sl vl vu vs) (pl : IsPart vl none) (pu : IsPart vu none) (ps : IsPart vs (some (-1)))
    (h : Q (.ref s.heap.objs.size) { s with heap := s.heap.push { cls := .type "tuple", data := .seq items.toList.reverse.toArray } })
    (hsz : items.size ≤ sizeLine) : wpAny (model prog w) A (getItem (.ref t) (.ref sl)) Q E s := by
  have htake : sizeOk (.seq items.toList.reverse.toArray) := by
    show items.toList.reverse.toArray.size ≤ sizeLine
    rw [List.size_toArray, List.length_reverse, Array.length_toList]
    exact hsz
  obtain ⟨os, hos, hcs, hds⟩ := id hs
  have hTs : s.TypeIs (.ref sl) "slice" := ⟨os, hos, hcs⟩
  unfold getItem
  try with_reducible refine wpAny_holding ?_
  first | refine wpAny_bind (wpAny_pure ?_) | skip
  refine wpAny_bind (wpAny_sequenceKey ht.typeIs (by decide) ?_)
  refine wpAny_bind (wpAny_callSpecial?_slot (name := Str.ofString "__getitem__") ht.typeIs PyProof.Rows.slot_tuple_getitem
    (wpAny_call_entry PyProof.Rows.slot_tuple_getitem ht.typeIs entry_tuple_getitem ?_ (args_tuple_getitem _ _)))
  show wpAny _ _ (Builtin.Tuple.tupleItemsOf (.ref t) >>= _) _ _ s
  refine wpAny_bind (tupleItemsOf_ ht ?_)
  refine wpAny_bind (wpAny_typeOf hTs ?_)
  rw [if_pos (by decide)]
  refine wpAny_bind (sliceApplied_rev hs pl pu ps ?_)
  have hno : ¬ ((((items.size : Int) - 1) == 0 && (-1 : Int) == 1 && items.size == items.size) = true) := by
    intro q
    rw [Bool.and_eq_true, Bool.and_eq_true] at q
    exact absurd (eq_of_beq q.1.2) (by decide)
  show wpAny _ _ (if (((items.size : Int) - 1) == 0 && (-1 : Int) == 1 && items.size == items.size) = true then _ else _) _ _ s
  rw [if_neg hno, pick_rev]
  first
    | exact wpAny_bind (m := Builtin.Tuple.tupleExact _) (wpAny_newObj_type (wpAny_pure ⟨_, rfl, wpAny_pure h⟩) htake)
    | exact wpAny_bind (m := Builtin.Tuple.tupleExact _) (wpAny_newObj_type (wpAny_bind (wpAny_pure (wpAny_pure ⟨_, rfl, wpAny_pure h⟩))) htake)
    | exact wpAny_bind (wpAny_bind (m := Builtin.Tuple.tupleExact _) (wpAny_newObj_type (wpAny_pure (wpAny_pure ⟨_, rfl, wpAny_pure h⟩)) htake))
    | exact wpAny_bind (wpAny_bind (m := Builtin.Tuple.tupleExact _) (wpAny_newObj_type (wpAny_pure ⟨_, rfl, wpAny_pure h⟩) htake))
end
end HT
namespace L2
open PySem PySem.Spec PyProof.Rows
section
variable {X : Cx}
def tRevT (K : PySem.W.Frag) (te : TE) : TE := fun σ H Q => te σ H fun x H1 => ∃ a xs, x = .ref a ∧ SqT K H1 a xs ∧ ∀ p, H1 p = none → Q (.ref p) (upd H1 p (.tup xs.reverse))
theorem pe_revT {e : Expr} {te : TE} {k : Nat} {p1 p2 p3 pos : Pos} (he : PE X e te) : PE X (.Subscript e (.Slice none none (some (.UnaryOp .USub (.Constant (.int 1) k p1) p2)) p3) pos) (tRevT X.K te) := by
  refine ⟨fun pins s σ H Q I h => ?_⟩
  refine Subscript_ (thn (he.run pins s σ H _ I h) fun v s1 ⟨x, H1, I1, r1, q1⟩ => ?_)
  obtain ⟨a, xs, ex, hx, q⟩ := q1
  subst ex
  cases r1
  have hst : PO X (some (.UnaryOp .USub (.Constant (.int 1) k p1) p2)) (tPart (tUn (rU fun i => .int (-i)) (tC (.int 1)))) := po_some (pe_un un_neg pe_int)
  refine wpAny_Slice (thn (po_none.run pins s1 σ H1 (fun o H2 => o = none ∧ H2 = H1) I1 ⟨rfl, rfl⟩) fun vl s2 ⟨l, H2, I2, pl, el, e2⟩ => ?_)
  subst el e2
  refine thn (po_none.run pins s2 σ H2 (fun o H3 => o = none ∧ H3 = H2) I2 ⟨rfl, rfl⟩) fun vu s3 ⟨u, H3, I3, pu, eu, e3⟩ => ?_
  subst eu e3
  refine thn (hst.run pins s3 σ H3 (fun o H4 => o = some (-1) ∧ H4 = H3) I3 ⟨1, rfl, -1, rfl, rfl, rfl⟩) fun vs s4 ⟨o, H4, I4, ps, eo, e4⟩ => ?_
  subst eo e4
  have I5 : Inv X pins σ H4 { s4 with heap := s4.heap.push { cls := .type "slice", data := .fields #[vl, vu, vs] } } := I4.kept (t' := s4.toks) fun b ob q => Heap.get?_push_of_some _ q
  obtain ⟨its, r, ht, hz⟩ := I5.tuple hx
  have hlen := r.length
  show wpAny (model X.prog X.w) X.A (subscriptTail e (.Slice none none (some (.UnaryOp .USub (.Constant (.int 1) k p1) p2)) p3) (.ref a) (.ref s4.heap.objs.size)) (EP X pins σ Q) X.xe { s4 with heap := s4.heap.push { cls := .type "slice", data := .fields #[vl, vu, vs] } }
  refine tail_any (ops := [.ref a, .ref s4.heap.objs.size]) ht.typeIs (PyProof.Rows.slot_tuple_getitem.lookup) ?_ (by with_unfolding_all rfl)
  refine HT.getItem_tuple_rev ht (Heap.IsSliceOf.new _ vl vu vs) pl pu ps ?_ (by rw [List.size_toArray]; omega)
  refine ⟨.ref _, _, I5.laid (t' := s4.toks) (o := .tup xs.reverse) (fun b ob q => Heap.get?_push_of_some _ q) (Nat.le_refl _) ?_, rfl, q _ (I5.hok.fresh (Nat.le_refl _))⟩
  exact ⟨by rw [List.length_reverse]; omega, _, r.reverse, IsTup.new _ _⟩
end
end L2
namespace DL
open PySem PySem.Spec PyProof.Rows L2
section
variable {X : Cx} {p : Pt} {e : Expr} {t : DE}
/-- x is True, x is False -/
def isBlD (b : Bool) : D → Bool
  | .bl c => c == b | _ => false
def oIsB : DR2 := fun x y Q => ∃ b, y = .bl b ∧ (∀ w, x ≠ .opq w) ∧ isOwn x = false ∧ Q (.bl (isBlD b x))
theorem rd_isB : RD p (fun x y H Q => ∃ b, y = .bl b ∧ Q (.bl (decide (x = .bl b))) H) oIsB := by
  rintro F H σ δ x y d e QD Q g r1 r2 ⟨b, rfl, h1, h2, q⟩ k
  refine ⟨b, rep_bl r2, ?_⟩
  have eq : decide (x = V.bl b) = isBlD b d := by
    rw [res_data h2] at r1
    cases d <;> simp only [Rep] at r1 <;> first
      | (subst r1; rfl)
      | (obtain ⟨a, xs, rfl, _⟩ := r1; rfl)
      | exact absurd rfl (h1 _)
      | (subst r1; rename_i c; cases b <;> cases c <;> rfl)
  rw [eq]
  exact k _ _ _ _ (Ext.refl g.ok) (res_bl _) q
/-- t * 0, t * 1 -/
def oRep01 : DR2 := fun x y Q => ∃ xs k, x = .tup xs ∧ y = .int k ∧ xs ≠ [] ∧ (k = 1 ∨ k = 0) ∧ Q (.tup (List.replicate k.toNat xs).flatten)
theorem rd_rep01 : RD p (rRep01 p.K) oRep01 := by
  rintro F H σ δ x y d e QD Q g r1 r2 ⟨ds, n, rfl, rfl, hne, hk, q⟩ k
  obtain ⟨a, xs, rfl, h3, h4⟩ := res_tup g r1
  have l1 := RepL.length h4
  refine ⟨a, n, xs, rfl, rep_int r2, h3, fun z => ?_, ?_⟩
  · rw [z] at l1
    exact hne (List.eq_nil_of_length_eq_zero l1.symm)
  · rcases hk with rfl | rfl
    · refine .inl ⟨rfl, ?_⟩
      have e1 : (List.replicate (1 : Int).toNat ds).flatten = ds := by show ds ++ [] = ds; rw [List.append_nil]
      rw [e1] at q
      exact k _ _ _ _ (Ext.refl g.ok) r1 q
    · refine .inr ⟨rfl, fun b hb => ?_⟩
      have e4 := ext_new (o := .tup []) g.ok hb
      refine k _ _ _ _ e4 ?_ q
      show Rep _ _ _ _
      simp only [Rep]
      exact ⟨b, _, rfl, SqT.of upd_same, RepL.nil⟩
/-- t[::-1] -/
def dRevT (t : DE) : DE := fun δ Q => t δ fun x => ∃ xs, x = .tup xs ∧ Q (.tup xs.reverse)
theorem de_revT {k : Nat} {p1 p2 p3 pos : Pos} (hk : p.K = X.K) (he : PDE X p e t) : PDE X p (.Subscript e (.Slice none none (some (.UnaryOp .USub (.Constant (.int 1) k p1) p2)) p3) pos) (dRevT t) := by
  refine ⟨PE.imp (pe_revT he.pe) ?_⟩
  rintro σ H Q ⟨F, δ, QD, g, q, k⟩
  refine ⟨F, δ, _, g, q, fun x H1 F1 d e1 r1 ⟨ds, hd, q1⟩ => ?_⟩
  subst hd
  have g1 := p.step g e1
  obtain ⟨a, xs, rfl, h1, h2⟩ := res_tup g1 r1
  refine ⟨a, xs, rfl, by rw [← hk]; exact h1, fun a' ha => ?_⟩
  have e4 := ext_new (o := .tup xs.reverse) e1.ok ha
  refine k _ _ _ _ (e1.trans g.ok e4) ?_ q1
  show Rep _ _ _ _
  simp only [Rep]
  exact ⟨a', _, rfl, SqT.of upd_same, RepL.mono e4.ff _ _ (RepL.reverse h2)⟩
/-- xs[::-1] -/
def dRevL (t : DE) : DA := fun δ Q => t δ fun x => ∃ xs, lstOf x = some xs ∧ Q xs.reverse
theorem dl_revL {k : Nat} {p1 p2 p3 pos : Pos} (he : PDE X p e t) : PDL X p (.Subscript e (.Slice none none (some (.UnaryOp .USub (.Constant (.int 1) k p1) p2)) p3) pos) (dRevL t) := by
  refine ⟨PE.imp (pe_revL he.pe) ?_⟩
  rintro σ H Q ⟨F, δ, QD, g, q, k⟩
  refine ⟨F, δ, _, g, q, fun x H1 F1 d e1 r1 ⟨ds, hd, q1⟩ => ?_⟩
  have g1 := p.step g e1
  obtain ⟨a, xs, rfl, h1, h2⟩ := res_lstOf g1 r1 hd
  exact ⟨a, xs, rfl, SqL.of h1, fun a' ha => k a' _ _ F1 _ (e1.trans g.ok (ext_raw e1.ok ha)) (e1.back ha) (fnone e1.ok ha) upd_same (RepL.reverse h2) q1⟩
end
end DL
set_option Elab.async false
set_option linter.all false
set_option maxRecDepth 100000
set_option maxHeartbeats 1000000
namespace DL
open PySem PySem.Spec PyProof.Rows L2
section
variable {X : Cx} {p : Pt} {a b c e : Expr} {t ta tb tc : DE} {pos : Pos}
/-! ## comparisons of ints, of texts -/
theorem rd_eqI : RD p rEq (oI fun i j => .bl (decide (i = j))) := by
  rintro F H σ δ x y d e QD Q g r1 r2 ⟨i, j, rfl, rfl, q⟩ k
  rw [rep_int r1, rep_int r2]
  refine ⟨rfl, ?_⟩
  have e : decide (V.int i = V.int j) = decide (i = j) := by simp
  rw [e]
  exact k _ _ _ _ (Ext.refl g.ok) (res_bl _) q
theorem rd_neI : RD p rNe (oI fun i j => .bl (!decide (i = j))) := by
  rintro F H σ δ x y d e QD Q g r1 r2 ⟨i, j, rfl, rfl, q⟩ k
  rw [rep_int r1, rep_int r2]
  refine ⟨rfl, ?_⟩
  have e : (!decide (V.int i = V.int j)) = !decide (i = j) := by simp
  rw [e]
  exact k _ _ _ _ (Ext.refl g.ok) (res_bl _) q
def oS (f : Str → Str → D) : DR2 := fun x y Q => ∃ i j, x = .str i ∧ y = .str j ∧ Q (f i j)
theorem rd_eqS : RD p rEq (oS fun i j => .bl (decide (i = j))) := by
  rintro F H σ δ x y d e QD Q g r1 r2 ⟨i, j, rfl, rfl, q⟩ k
  rw [rep_str r1, rep_str r2]
  refine ⟨rfl, ?_⟩
  have e : decide (V.str i = V.str j) = decide (i = j) := by simp
  rw [e]
  exact k _ _ _ _ (Ext.refl g.ok) (res_bl _) q
theorem rd_neS : RD p rNe (oS fun i j => .bl (!decide (i = j))) := by
  rintro F H σ δ x y d e QD Q g r1 r2 ⟨i, j, rfl, rfl, q⟩ k
  rw [rep_str r1, rep_str r2]
  refine ⟨rfl, ?_⟩
  have e : (!decide (V.str i = V.str j)) = !decide (i = j) := by simp
  rw [e]
  exact k _ _ _ _ (Ext.refl g.ok) (res_bl _) q
/-- -e -/
def dNeg (t : DE) : DE := fun δ Q => t δ fun x => ∃ i, x = .int i ∧ Q (.int (-i))
theorem de_neg (h : PDE X p e t) : PDE X p (.UnaryOp .USub e pos) (dNeg t) := by
  refine ⟨PE.imp (pe_un un_neg h.pe) ?_⟩
  rintro σ H Q ⟨F, δ, QD, g, q, k⟩
  refine ⟨F, δ, _, g, q, fun x H1 F1 d e1 r1 ⟨i, hi, q1⟩ => ?_⟩
  subst hi
  exact ⟨i, rep_int r1, k _ _ _ _ e1 (res_int _) q1⟩
/-- a < b < c -/
def dChain (r r' : DR2) (ta tb tc : DE) : DE := fun δ Q => ta δ fun x => tb δ fun y => r x y fun z => ∃ k, z = .bl k ∧ (if k = true then tc δ fun w => r' y w Q else Q (.bl false))
theorem lift_chain {r r' : R2} {rD rD' : DR2} (h : RD p r rD) (h' : RD p r' rD') {ta tb tc : DE} : ∀ σ H Q, liftE p (dChain rD rD' ta tb tc) σ H Q → tChain r r' (liftE p ta) (liftE p tb) (liftE p tc) σ H Q := by
  rintro σ H Q ⟨F, δ, QD, g, q, k⟩
  refine ⟨F, δ, _, g, q, fun x H1 F1 d e1 r1 q1 => ?_⟩
  have g1 := p.step g e1
  refine ⟨F1, δ, _, g1, q1, fun y H2 F2 e e2 r2 q2 => ?_⟩
  have g2 := p.step g1 e2
  refine h F2 H2 σ δ x y d e _ _ g2 (r1.mono e2.ff) r2 q2 fun v H3 F3 d' e3 r3 ⟨c, hc, q3⟩ => ?_
  have g3 := p.step g2 e3
  have e13 := (e1.trans g.ok e2).trans g.ok e3
  subst hc
  refine ⟨c, rep_bl r3, ?_⟩
  cases c with
  | true =>
    rw [if_pos rfl] at q3 ⊢
    refine ⟨F3, δ, _, g3, q3, fun u H4 F4 d4 e4 r4 q4 => ?_⟩
    have g4 := p.step g3 e4
    exact h' F4 H4 σ δ y u e d4 QD Q g4 ((r2.mono e3.ff).mono e4.ff) r4 q4 fun v H5 F5 d5 e5 r5 q5 => k v H5 F5 d5 ((e13.trans g.ok e4).trans g.ok e5) r5 q5
  | false =>
    rw [if_neg Bool.false_ne_true] at q3 ⊢
    exact k _ _ _ _ e13 (res_bl _) q3
theorem de_chain {op op' : CmpOp} {r r' : R2} {rD rD' : DR2} (ho : OpR X (compareOp op) r) (ho' : OpR X (compareOp op') r') (h : RD p r rD) (h' : RD p r' rD') (ha : PDE X p a ta) (hb : PDE X p b tb) (hc : PDE X p c tc)
    (hm : lastMarks [op, op'] [b, c] = false := by with_unfolding_all rfl) : PDE X p (.Compare a [op, op'] [b, c] pos) (dChain rD rD' ta tb tc) :=
  ⟨PE.imp (pe_chain ho ho' ha.pe hb.pe hc.pe hm) (lift_chain h h')⟩
theorem dt_chain {op op' : CmpOp} {r r' : R2} {rD rD' : DR2} (ho : OpR X (compareOp op) r) (ho' : OpR X (compareOp op') r') (h : RD p r rD) (h' : RD p r' rD') (ha : PDE X p a ta) (hb : PDE X p b tb) (hc : PDE X p c tc)
    (hm : lastMarks [op, op'] [b, c] = false := by with_unfolding_all rfl) : PDT X p (.Compare a [op, op'] [b, c] pos) (dTest (dChain rD rD' ta tb tc)) := by
  refine ⟨PT.imp (pt_chain ho ho' ha.pe hb.pe hc.pe hm) ?_⟩
  intro σ H Q q
  obtain ⟨F, δ, QD, g, q, k⟩ := q
  refine lift_chain h h' σ H _ ⟨F, δ, _, g, q, fun x H1 F1 d e1 r1 q1 => ?_⟩
  obtain ⟨b, rfl, q1⟩ := q1
  have r2 : Rep p.K F1 (.bl b) x := r1
  simp only [Rep] at r2
  subst r2
  exact ⟨b, rfl, k b H1 F1 e1 q1⟩
/-- a global of the module that is data: the constant stands in the written part -/
def constD (K : PySem.W.Frag) (d : D) (u : Value) : Prop := ∃ v, RelV v u ∧ ∀ F, Rep K F d v
theorem de_glob {x : Str} {u : Value} {d : D} (hk : p.K = X.K) (hg : Gl X x) (hm : X.mg x = some u) (r : constD X.K d u) (hd : (x == ("__debug__" : Str)) = false := by decide) : PDE X p (.Name x pos) (dC d) := by
  obtain ⟨v, rv, h⟩ := r
  exact de_const (pe_glob hg hm rv hd) fun F σ δ => by
    have := h F
    rw [← hk] at this
    exact (res_data (rep_data this)).mpr this
end
theorem if_true_of {c : Bool} {A B : Prop} (hc : c = true) (h : A) : if c = true then A else B := by
  rw [if_pos hc]
  exact h
theorem if_false_of {c : Bool} {A B : Prop} (hc : c = false) (h : B) : if c = true then A else B := by
  rw [hc, if_neg Bool.false_ne_true]
  exact h
theorem atI_last (es : List Int) (n : Int) : atI ((es ++ [n]).map V.int) (-1) = some (.int n) := by
  unfold atI ixN
  simp
  rw [if_pos (by omega), show (-1 + ((es.length : Int) + 1)).toNat = es.length by omega]
  simp
/-! ## the deal -/
def InDeal (a c : Addr) (cs : List Int) (bl : Int) (H : Hp) : Prop := a ≠ c ∧ H a = some (.lst [.ref c, .int bl]) ∧ H c = some (.lst (cs.map V.int)) ∧ (∀ n ∈ cs, 0 ≤ n) ∧ 0 ≤ bl ∧ bl < 2147483647 ∧ cs.length ≤ 48
def dealReg (a c : Addr) : Reg where
  dom := fun b => b = a ∨ b = c
  inv := fun H => ∃ cs bl, InDeal a c cs bl H
  loc := fun H H' h ⟨cs, bl, h0, h1, h2, h3⟩ => ⟨cs, bl, h0, (h a (.inl rfl)).trans h1, (h c (.inr rfl)).trans h2, h3⟩
  trk := fun H b ⟨cs, bl, h0, h1, h2, h3⟩ h => by
    rcases h with rfl | rfl
    · exact ⟨_, h1⟩
    · exact ⟨_, h2⟩
def sp_any : DSp := fun J ds Q _ => ∃ a c k, ds = [.opq (.ref a), .int k] ∧ J = dealReg a c ∧ 0 < k ∧ k < 1073741824 ∧ ∀ r, 0 ≤ r → r < k → Q (.int r)
/-- what the walk keeps beside the region -/
def Kept (a c : Addr) (H0 H : Hp) : Prop := ∀ b o, H0 b = some o → b ≠ a → b ≠ c → H b = some o
theorem Kept.upd {a c x : Addr} {o : HO} {H0 H : Hp} (h : Kept a c H0 H) (hx : x = a ∨ x = c ∨ H x = none) : Kept a c H0 (upd H x o) := fun b o' e n1 n2 => by
  have : b ≠ x := by
    rcases hx with z | z | z
    · rw [z]; exact n1
    · rw [z]; exact n2
    · exact ne_of_none (h b o' e n1 n2) z
  rw [upd_ne this]; exact h b o' e n1 n2
theorem seq_while {c : TT} {tb rest : TS} {Dn : Ends} {σ : L2.St} {H : Hp} (W : Nat → L2.St → Hp → Prop) (Pv : L2.St → Hp → Prop) (h0 : ∃ m, W m σ H)
    (step : ∀ m σ H (nx : L2.St → Hp → Prop), (∀ σ H, Pv σ H → nx σ H) → W m σ H → c σ H fun b H1 => if b = true then ∃ N : L2.St → Hp → Prop, (∀ σ' H', N σ' H' → ∃ m', m' < m ∧ W m' σ' H') ∧ tb { Dn with nx := N, ct := N, bk := nx } σ H1 else nx σ H1)
    (exit : ∀ σ H, Pv σ H → rest Dn σ H) : tSeq (tWhile c tb) rest Dn σ H := ⟨W, h0, fun m σ H hw => step m σ H (rest Dn) exit hw⟩
section
variable {K : PySem.W.Frag}
section
variable {a c : Addr} {cs : List Int} {bl : Int} {H H0 : Hp} {σ : L2.St}
theorem InDeal.upd (h : InDeal a c cs bl H) {x : Addr} {o : HO} (hx : H x = none) : InDeal a c cs bl (upd H x o) := by
  obtain ⟨h0, h1, h2, h3⟩ := h
  refine ⟨h0, ?_, ?_, h3⟩
  · rw [upd_ne (ne_of_none h1 hx)]; exact h1
  · rw [upd_ne (ne_of_none h2 hx)]; exact h2
theorem InDeal.cells (h : InDeal a c cs bl H) {es : List Int} (he : ∀ n ∈ es, 0 ≤ n) (hl : es.length ≤ 48) : InDeal a c es bl (L2.upd H c (.lst (es.map V.int))) := by
  obtain ⟨h0, h1, h2, h3, h4, h5, h6⟩ := h
  exact ⟨h0, by rw [upd_ne h0]; exact h1, upd_same, he, h4, h5, hl⟩
theorem InDeal.blend (h : InDeal a c cs bl H) {m : Int} (h1 : 0 ≤ m) (h2 : m < 2147483647) : InDeal a c cs m (L2.upd H a (.lst [.ref c, .int m])) := by
  obtain ⟨q0, q1, q2, q3, q4, q5, q6⟩ := h
  exact ⟨q0, upd_same, by rw [upd_ne (Ne.symm q0)]; exact q2, q3, h1, h2, q6⟩
theorem deal0_ {Q : VK} (hs : σ[0]? = some (some (.ref a))) (h : InDeal a c cs bl H) (q : Q (.ref c) H) : tOp (rIx K) (tVar 0) (tC (V.int 0)) σ H Q :=
  ⟨_, hs, .inl ⟨a, _, 0, .ref c, rfl, rfl, SqL.of h.2.1, rfl, q⟩⟩
theorem deal1_ {Q : VK} (hs : σ[0]? = some (some (.ref a))) (h : InDeal a c cs bl H) (q : Q (.int bl) H) : tOp (rIx K) (tVar 0) (tC (V.int 1)) σ H Q :=
  ⟨_, hs, .inl ⟨a, _, 1, .int bl, rfl, rfl, SqL.of h.2.1, rfl, q⟩⟩
theorem dpAll_ints {H : Hp} : ∀ (cs : List Int), DpAll K H (cs.map V.int) (cs.map PyData.int)
  | [] => .nil
  | n :: r => .cons (.int n) (dpAll_ints r)
theorem shaped_ints (cs : List Int) : SeqAt.shaped (.list (cs.map PyData.int)) = true := by
  have h : cmpable (.lst (cs.map D.int)) := by
    have p1 : ∀ cs : List Int, D.pureL (cs.map D.int) = true := fun cs => by
      induction cs with
      | nil => rfl
      | cons n r ih => rw [List.map_cons, D.pureL, D.pure, ih]; rfl
    have p2 : ∀ cs : List Int, D.depL (cs.map D.int) ≤ 1 := fun cs => by
      induction cs with
      | nil => simp [D.depL]
      | cons n r ih => rw [List.map_cons, D.depL, D.dep]; omega
    exact ⟨by rw [D.pure]; exact p1 cs, by rw [D.dep]; have := p2 cs; omega⟩
  have p3 : ∀ cs : List Int, D.pyL (cs.map D.int) = cs.map PyData.int := fun cs => by
    induction cs with
    | nil => rfl
    | cons n r ih => rw [List.map_cons, D.pyL, ih, D.py]; rfl
  have := h.shaped
  rw [D.py, p3] at this
  exact this
theorem full_ {Q : Bool → Hp → Prop} (hs : σ[0]? = some (some (.ref a))) (h : InDeal a c cs bl H) (q : ∀ p, H p = none → Q (!cs.isEmpty) (L2.upd H p (.lst []))) : tTest (tOp (rNeD K) (tOp (rIx K) (tVar 0) (tC (V.int 0))) (tLst tNil)) σ H Q := by
  refine deal0_ hs h ⟨by rw [sizeLine_eq]; exact Nat.zero_le _, fun p hp => ?_⟩
  have hc : (L2.upd H p (.lst [])) c = some (.lst (cs.map V.int)) := (h.upd hp).2.2.1
  refine ⟨.list (cs.map PyData.int), .list [], .lst (SqL.of hc) (dpAll_ints cs), .lst (SqL.of upd_same) .nil, shaped_ints cs, shaped_ints [], _, rfl, ?_⟩
  have e : PyData.eqv (.list (cs.map PyData.int)) (.list []) = cs.isEmpty := by
    cases cs <;> rfl
  rw [e]
  exact q p hp
end
end

/-! ## how the deal is made -/
def emptyReg : Reg where
  dom := fun _ => False
  inv := fun _ => True
  loc := fun _ _ _ _ => trivial
  trk := fun _ _ _ h => h.elim
abbrev noHp : Hp := fun _ => none
theorem ok_empty (H : Hp) : Ok emptyReg noHp H := ⟨(fun _ _ e => absurd e (by simp)), trivial, (fun _ h => False.elim h)⟩
/-- the first of what was given: a slice of a list that is told of at the entry -/
def dSlHi (p : Pt) (t : DE) (tl th : DOp) : DA := fun δ Q => t δ fun x => tl δ fun l => th δ fun u => ∃ (s : Addr) (ns : List Int), x = .opq (.ref s) ∧ ¬ p.J.dom s ∧ SqL p.K p.Hi s (ns.map V.int) ∧ Q (cutD (ns.map D.int) l u)
def cutI (xs : List Int) (lo hi : Option Int) : List Int := (xs.drop (HT.sIx xs.length 0 lo)).take (HT.sIx xs.length xs.length hi - HT.sIx xs.length 0 lo)
theorem cut_ints (ns : List Int) (l u : Option Int) : cutV (ns.map V.int) l u = (cutI ns l u).map V.int ∧ cutD (ns.map D.int) l u = (cutI ns l u).map D.int := by
  unfold cutV cutD cutI
  simp [List.map_take, List.map_drop]
theorem dl_slHi {X : Cx} {p : Pt} {e : Expr} {t : DE} {lo hi : Option Expr} {tl th : DOp} {p2 pos : Pos} (hk : p.K = X.K) (he : PDE X p e t) (hl : PDO X p lo tl) (hu : PDO X p hi th) : PDL X p (.Subscript e (.Slice lo hi none p2) pos) (dSlHi p t tl th) := by
  refine ⟨PE.imp (pe_slice sl_list he.pe hl.po hu.po) ?_⟩
  rintro σ H Q ⟨F, δ, QD, g, q, k⟩
  refine ⟨F, δ, _, g, q, fun x H1 F1 d e1 r1 q1 => ?_⟩
  have g1 := p.step g e1
  refine ⟨F1, δ, _, g1, q1, fun l H2 F2 e2 q2 => ?_⟩
  have g2 := p.step g1 e2
  refine ⟨F2, δ, _, g2, q2, fun u H3 F3 e3 q3 => ?_⟩
  have g3 := p.step g2 e3
  obtain ⟨s, ns, hd, hn, hs, q3⟩ := q3
  subst hd
  have ev : x = .ref s := by
    have := (res_data (d := .opq (.ref s)) rfl).mp r1
    simpa only [Rep] using this
  have e5 := (e1.trans g.ok e2).trans g.ok e3
  have h3 : SqL X.K H3 s (ns.map V.int) := by
    rw [← hk]
    rcases hs with (h | ⟨o, h⟩) | h
    · exact .inl (.inl (g3.ext.keep _ _ h hn))
    · exact .inl (.inr ⟨o, g3.ext.keep _ _ h hn⟩)
    · exact .inr h
  have hc := cut_ints ns l u
  refine ⟨s, _, ev, h3, fun a' ha => k a' _ _ F3 _ (e5.trans g.ok (ext_raw e5.ok ha)) (e5.back ha) (fnone e5.ok ha) upd_same ?_ q3⟩
  rw [hc.1, hc.2]
  exact RepL.of_ints _
/-- what _law_draw gives -/
def spDraw (K : PySem.W.Frag) : Sp := fun vs H Q _ => ∃ (s : Addr) (ns : List Int) (salt : Int), vs = [.ref s, .int salt] ∧ SqL K H s (ns.map V.int) ∧ 0 ≤ salt ∧ salt ≤ 1000 ∧
  ∀ H' a c, Same H H' → H a = none → H c = none → (∃ cs bl, InDeal a c cs bl H') → Q (.ref a) H'
end DL
set_option Elab.async false
set_option linter.all false
set_option maxRecDepth 100000
set_option maxHeartbeats 1000000
namespace DL
open PySem PySem.Spec PyProof.Rows L2
/-! ## a def that is called by its name -/
def Callee (P : Program) (w : World) (K : PySem.W.Frag) (mg : Str → Option Value) (base : Heap) (k : Nat) (x : Str) (ps : List Str) (sp : DSp) : Prop :=
  ∃ f fd, FnOk P w K mg base (L2.CX P w) k f fd ps (liftSp K sp) ∧ mg x = some (.ref f) ∧ PySem.W.keepIn K (.ref f) = true ∧ Binds K fd ps []
/-- .. with the keywords ks behind n arguments -/
def CalleeK (P : Program) (w : World) (K : PySem.W.Frag) (mg : Str → Option Value) (base : Heap) (k : Nat) (x : Str) (ps ks : List Str) (n : Nat) (sp : DSp) : Prop :=
  ∃ f fd, FnOk P w K mg base (L2.CX P w) k f fd ps (liftSp K sp) ∧ mg x = some (.ref f) ∧ PySem.W.keepIn K (.ref f) = true ∧ KB K fd ps ks n [] []
section
variable {X : Cx} {p : Pt} {k k' : Nat} {ps ks : List Str} {sp : DSp} {x : Str} {p1 pos : Pos} {e : Expr} {es : List Expr} {t tk : DA} {kws : List Keyword}
theorem de_callC (hk : p.K = X.K) (C : Callee X.prog X.w X.K X.mg X.base k x ps sp) (hr : Room k' X.A) (ha : PDA X p (e :: es) t) (hle : k ≤ k' := by decide) (hg : Gl X x := by rfl)
    (hdb : (x == ("__debug__" : Str)) = false := by decide) (he : starEach (e :: es) X.env = (false, eval e X.env) :: starEach es X.env := by rfl) (hpl : (backTo pos (starEach es X.env)).any (·.1) = false := by rfl) :
    PDE X p (.Call (.Name x p1) (e :: es) [] pos) (dCall (sp p.J) t) := by
  obtain ⟨f, fd, G, hm, hkp, hb⟩ := C
  exact de_call hk G (hr.mono hle) hg hm hkp hb ha hdb he hpl
theorem de_callC0 (hk : p.K = X.K) (C : Callee X.prog X.w X.K X.mg X.base k x ps sp) (hr : Room k' X.A) (hle : k ≤ k' := by decide) (hg : Gl X x := by rfl)
    (hdb : (x == ("__debug__" : Str)) = false := by decide) : PDE X p (.Call (.Name x p1) [] [] pos) (dCall (sp p.J) dNil) := by
  obtain ⟨f, fd, G, hm, hkp, hb⟩ := C
  exact de_call0 hk G (hr.mono hle) hg hm hkp hb hdb
theorem de_callCX {W : WX} {ED : Addr → D → DS → Prop} (wi : Wish X p W ED) (hk : p.K = X.K) (C : Callee X.prog X.w X.K X.mg X.base k x ps sp) (hr : Room k' X.A) (ha : PDA X p (e :: es) t) (hle : k ≤ k' := by decide) (hg : Gl X x := by rfl)
    (hdb : (x == ("__debug__" : Str)) = false := by decide) (he : starEach (e :: es) X.env = (false, eval e X.env) :: starEach es X.env := by rfl) (hpl : (backTo pos (starEach es X.env)).any (·.1) = false := by rfl) :
    PDE X p (.Call (.Name x p1) (e :: es) [] pos) (dCallX (sp p.J) ED t) := by
  obtain ⟨f, fd, G, hm, hkp, hb⟩ := C
  exact de_callX wi hk G (hr.mono hle) hg hm hkp hb ha hdb he hpl
theorem de_callCK0 (hk : p.K = X.K) (C : CalleeK X.prog X.w X.K X.mg X.base k x ps ks 0 sp) (hr : Room k' X.A) (hkw : PDK X p kws tk) (hle : k ≤ k' := by decide) (hg : Gl X x := by rfl)
    (hall : (backToKw pos (keywordEach kws X.env)).all (·.1.isSome) = true := by rfl) (hks : (backToKw pos (keywordEach kws X.env)).filterMap (·.1) = ks := by rfl)
    (hdb : (x == ("__debug__" : Str)) = false := by decide) (hpl : ((backTo pos (starEach [] X.env)).any (·.1) || (backToKw pos (keywordEach kws X.env)).any (·.1.isNone)) = false := by rfl) :
    PDE X p (.Call (.Name x p1) [] kws pos) (dCallK (sp p.J) 0 ks.length [] dNil tk) := by
  obtain ⟨f, fd, G, hm, hkp, hb⟩ := C
  exact de_callK0 (fun _ => RepL.nil) hk G (hr.mono hle) hg hm hkp hb hkw hall hks hdb hpl
theorem de_callCK {n : Nat} (hk : p.K = X.K) (C : CalleeK X.prog X.w X.K X.mg X.base k x ps ks n sp) (hr : Room k' X.A) (ha : PDA X p (e :: es) t) (hkw : PDK X p kws tk) (hle : k ≤ k' := by decide) (hg : Gl X x := by rfl)
    (hall : (backToKw pos (keywordEach kws X.env)).all (·.1.isSome) = true := by rfl) (hks : (backToKw pos (keywordEach kws X.env)).filterMap (·.1) = ks := by rfl)
    (hdb : (x == ("__debug__" : Str)) = false := by decide) (he : starEach (e :: es) X.env = (false, eval e X.env) :: starEach es X.env := by rfl)
    (hpl : ((backTo pos (starEach (e :: es) X.env)).any (·.1) || (backToKw pos (keywordEach kws X.env)).any (·.1.isNone)) = false := by rfl) :
    PDE X p (.Call (.Name x p1) (e :: es) kws pos) (dCallK (sp p.J) n ks.length [] t tk) := by
  obtain ⟨f, fd, G, hm, hkp, hb⟩ := C
  exact de_callK (fun _ => RepL.nil) hk G (hr.mono hle) hg hm hkp hb ha hkw hall hks hdb he hpl
theorem de_callCK0X {W : WX} {ED : Addr → D → DS → Prop} (wi : Wish X p W ED) (hk : p.K = X.K) (C : CalleeK X.prog X.w X.K X.mg X.base k x ps ks 0 sp) (hr : Room k' X.A) (hkw : PDK X p kws tk) (hle : k ≤ k' := by decide) (hg : Gl X x := by rfl)
    (hall : (backToKw pos (keywordEach kws X.env)).all (·.1.isSome) = true := by rfl) (hks : (backToKw pos (keywordEach kws X.env)).filterMap (·.1) = ks := by rfl)
    (hdb : (x == ("__debug__" : Str)) = false := by decide) (hpl : ((backTo pos (starEach [] X.env)).any (·.1) || (backToKw pos (keywordEach kws X.env)).any (·.1.isNone)) = false := by rfl) :
    PDE X p (.Call (.Name x p1) [] kws pos) (dCallKX (sp p.J) ED 0 ks.length [] dNil tk) := by
  obtain ⟨f, fd, G, hm, hkp, hb⟩ := C
  exact de_callK0X wi (fun _ => RepL.nil) hk G (hr.mono hle) hg hm hkp hb hkw hall hks hdb hpl
end
end DL
namespace DL
open PySem PySem.Spec PyProof.Rows L2
/-- a def that is called by its name, with a promise of any kind -/
def CalleeS (P : Program) (w : World) (K : PySem.W.Frag) (mg : Str → Option Value) (base : Heap) (k : Nat) (x : Str) (ps : List Str) (sp : Sp) : Prop :=
  ∃ f fd, FnOk P w K mg base (L2.CX P w) k f fd ps sp ∧ mg x = some (.ref f) ∧ PySem.W.keepIn K (.ref f) = true ∧ Binds K fd ps []
theorem pe_callCS {X : Cx} {k k' : Nat} {ps : List Str} {sp : Sp} {x : Str} {p1 pos : Pos} {e : Expr} {es : List Expr} {t : TA} (C : CalleeS X.prog X.w X.K X.mg X.base k x ps sp) (hr : Room k' X.A) (ha : PA X (e :: es) t) (hle : k ≤ k' := by decide) (hg : Gl X x := by rfl)
    (hdb : (x == ("__debug__" : Str)) = false := by decide) (he : starEach (e :: es) X.env = (false, eval e X.env) :: starEach es X.env := by rfl) (hpl : (backTo pos (starEach es X.env)).any (·.1) = false := by rfl) :
    PE X (.Call (.Name x p1) (e :: es) [] pos) (tCall sp [] (fun _ _ _ => False) t) := by
  obtain ⟨f, fd, G, hm, hkp, hb⟩ := C
  exact pe_call G (hr.mono hle) hg hm hkp hb .nil (passL (X := X)) ha hdb he hpl
theorem pss_any {X : Cx} {sts : List Stmt} {K : PySem.W.Frag} {t : Pt → DSt} (h : ∀ p : Pt, p.K = K → PDSs X p sts (t p)) : PSs X sts (fun Dn σ H => ∃ p : Pt, p.K = K ∧ liftS p (t p) Dn σ H) :=
  ⟨fun pins s σ H D I ⟨p, hk, q⟩ => (h p hk).pss.run pins s σ H D I q⟩
end DL
set_option Elab.async false
set_option linter.all false
set_option maxRecDepth 100000
namespace DL
open PySem PySem.Spec PyProof.Rows L2
mutual
/-- data throughout -/
def okV : D → Bool
  | .non => true | .bl _ => true | .int _ => true | .str x => PyData.strOk x | .tup xs => okVL xs | .lst xs => okVL xs | .own _ => false | .opq _ => false
def okVL : List D → Bool
  | [] => true | d :: ds => okV d && okVL ds
end
mutual
theorem okV_pure : ∀ d : D, okV d = true → D.pure d = true
  | .non, _ => rfl | .bl _, _ => rfl | .int _, _ => rfl
  | .str x, h => by simpa only [okV, D.pure] using h
  | .tup xs, h => by simp only [okV] at h; simp only [D.pure]; exact okVL_pure xs h
  | .lst xs, h => by simp only [okV] at h; simp only [D.pure]; exact okVL_pure xs h
  | .own xs, h => by simp [okV] at h
  | .opq _, h => by simp [okV] at h
theorem okVL_pure : ∀ ds : List D, okVL ds = true → D.pureL ds = true
  | [], _ => rfl
  | d :: ds, h => by
    simp only [okVL, Bool.and_eq_true] at h
    simp only [D.pureL, Bool.and_eq_true]
    exact ⟨okV_pure d h.1, okVL_pure ds h.2⟩
end
theorem okV_own {d : D} (h : okV d = true) : isOwn d = false := by cases d <;> first | rfl | simp [okV] at h
theorem okV_opq {d : D} (h : okV d = true) : ∀ w, d ≠ .opq w := fun w e => by subst e; simp [okV] at h
theorem okVL_all : ∀ {ds : List D}, okVL ds = true ↔ ∀ d ∈ ds, okV d = true
  | [] => by simp [okVL]
  | d :: ds => by simp only [okVL, Bool.and_eq_true, okVL_all (ds := ds), List.mem_cons, forall_eq_or_imp]
theorem okVL_get {ds : List D} (h : okVL ds = true) {i : Nat} {d : D} (e : ds[i]? = some d) : okV d = true := okVL_all.mp h d (List.mem_of_getElem? e)
theorem okVL_append {ds es : List D} (h : okVL ds = true) (h' : okVL es = true) : okVL (ds ++ es) = true := by
  rw [okVL_all] at h h' ⊢
  intro d hd
  rcases List.mem_append.mp hd with z | z
  · exact h d z
  · exact h' d z
theorem atI_mem {α : Type} {xs : List α} {i : Int} {z : α} (h : atI xs i = some z) : z ∈ xs := by
  unfold atI at h
  cases e : ixN xs.length i with
  | none => rw [e] at h; cases h
  | some j => rw [e] at h; exact List.mem_of_getElem? (by simpa using h)
theorem atI_nat {α : Type} {xs : List α} {i : Nat} (h : i < xs.length) : atI xs (i : Int) = xs[i]? := by
  unfold atI ixN
  rw [if_pos (by omega), if_pos (by omega)]
  simp
theorem atI_int {α : Type} {xs : List α} {i : Int} (h0 : 0 ≤ i) (h : i < xs.length) : atI xs i = xs[i.toNat]? := by
  unfold atI ixN
  rw [if_pos h0, if_pos h]
  rfl
theorem rngD_get {lo : Int} {n i : Nat} {d : D} (h : (rngD lo n)[i]? = some d) : i < n ∧ d = .int (lo + (i : Nat)) := by
  unfold rngD at h
  rw [List.getElem?_map] at h
  cases e : (List.range n)[i]? with
  | none => rw [e] at h; cases h
  | some j =>
    rw [e] at h
    obtain ⟨h1, h2⟩ := List.getElem?_eq_some_iff.mp e
    simp at h1 h2
    subst h2
    exact ⟨h1, (Option.some.inj h).symm⟩
theorem rngD_len {lo : Int} {n : Nat} : (rngD lo n).length = n := by simp [rngD]
section
variable {p : Pt} {K' : PySem.W.Frag}
theorem rd_ixK (hk : p.K = K') : RD p (rIx K') oIx := hk ▸ rd_ix
theorem rd_inK {neg : Bool} (hk : p.K = K') : RD p (rIn K' neg) (oIn neg) := hk ▸ rd_in
theorem rd_eqK (hk : p.K = K') : RD p (rEqD K') oEq := hk ▸ rd_eq
theorem rd_neK (hk : p.K = K') : RD p (rNeD K') oNe := hk ▸ rd_ne
theorem rd_catTK (hk : p.K = K') : RD p (rCatA K') oCatT := hk ▸ rd_catT
theorem rd_rep01K (hk : p.K = K') : RD p (rRep01 K') oRep01 := hk ▸ rd_rep01
end
theorem items_tup (xs : List D) : D.items (.tup xs) = some xs := rfl
theorem items_lst (xs : List D) : D.items (.lst xs) = some xs := rfl
theorem items_own (xs : List D) : D.items (.own xs) = some xs := rfl
theorem lstOf_lst (xs : List D) : lstOf (.lst xs) = some xs := rfl
theorem lstOf_own (xs : List D) : lstOf (.own xs) = some xs := rfl
theorem isOwn_non  : isOwn (.non) = false := rfl
theorem frz_non  : D.frz (.non) = .non := rfl
theorem isOwn_bl (b : Bool) : isOwn (.bl b) = false := rfl
theorem frz_bl (b : Bool) : D.frz (.bl b) = .bl b := rfl
theorem isOwn_int (i : Int) : isOwn (.int i) = false := rfl
theorem frz_int (i : Int) : D.frz (.int i) = .int i := rfl
theorem isOwn_str (x : Str) : isOwn (.str x) = false := rfl
theorem frz_str (x : Str) : D.frz (.str x) = .str x := rfl
theorem isOwn_tup (xs : List D) : isOwn (.tup xs) = false := rfl
theorem frz_tup (xs : List D) : D.frz (.tup xs) = .tup xs := rfl
theorem isOwn_lst (xs : List D) : isOwn (.lst xs) = false := rfl
theorem frz_lst (xs : List D) : D.frz (.lst xs) = .lst xs := rfl
theorem isOwn_opq (v : V) : isOwn (.opq v) = false := rfl
theorem frz_opq (v : V) : D.frz (.opq v) = .opq v := rfl
theorem isOwn_own (xs : List D) : isOwn (.own xs) = true := rfl
theorem frz_own (xs : List D) : D.frz (.own xs) = .lst xs := rfl
theorem isOwn_frz (d : D) : isOwn d.frz = false := by cases d <;> rfl
theorem frz_ok {d : D} (h : isOwn d = false) : d.frz = d := by cases d <;> first | rfl | cases h
/-! lists of ints, of texts -/
def nlst (l : List Int) : List D := l.map D.int
def slst (l : List Str) : List D := l.map D.str
theorem eqF_int (m n : Int) : D.eqF (.int m) (.int n) = decide (n = m) := by
  show (m == n) = _
  by_cases h : n = m
  · subst h; simp
  · rw [decide_eq_false h]; exact beq_eq_false_iff_ne.mpr (Ne.symm h)
theorem eqF_str (m n : Str) : D.eqF (.str m) (.str n) = decide (n = m) := by
  show (m == n) = _
  by_cases h : n = m
  · subst h; simp
  · rw [decide_eq_false h]; exact beq_eq_false_iff_ne.mpr (Ne.symm h)
theorem inF_nlst (n : Int) (l : List Int) : D.inF (.int n) (nlst l) = decide (n ∈ l) := by
  induction l with
  | nil => rfl
  | cons m l ih =>
    unfold nlst D.inF at ih ⊢
    rw [List.map_cons, List.any_cons, ih, eqF_int, Bool.eq_iff_iff]
    simp
theorem inF_slst (n : Str) (l : List Str) : D.inF (.str n) (slst l) = decide (n ∈ l) := by
  induction l with
  | nil => rfl
  | cons m l ih =>
    unfold slst D.inF at ih ⊢
    rw [List.map_cons, List.any_cons, ih, eqF_str, Bool.eq_iff_iff]
    simp
theorem flat_nlst (l : List Int) : (nlst l).all flatD = true := by
  induction l with
  | nil => rfl
  | cons m l ih => unfold nlst at ih ⊢; rw [List.map_cons, List.all_cons, ih]; rfl
theorem flat_slst (l : List Str) : (slst l).all flatD = true := by
  induction l with
  | nil => rfl
  | cons m l ih => unfold slst at ih ⊢; rw [List.map_cons, List.all_cons, ih]; rfl
theorem nlst_len (l : List Int) : (nlst l).length = l.length := by simp [nlst]
theorem slst_len (l : List Str) : (slst l).length = l.length := by simp [slst]
theorem nlst_get {l : List Int} {i : Nat} {d : D} (h : (nlst l)[i]? = some d) : ∃ n, l[i]? = some n ∧ d = .int n := by
  unfold nlst at h
  rw [List.getElem?_map] at h
  cases e : l[i]? with
  | none => rw [e] at h; cases h
  | some n => rw [e] at h; exact ⟨n, rfl, (Option.some.inj h).symm⟩
theorem take_more {α : Type} {l : List α} {i : Nat} {x : α} (h : l[i]? = some x) : l.take (i + 1) = l.take i ++ [x] := by
  rw [List.take_succ, h]
  rfl
theorem take_len {α : Type} (l : List α) (i : Nat) : (l.take i).length ≤ l.length := by rw [List.length_take]; exact Nat.min_le_right _ _
theorem okVL_nlst (l : List Int) : okVL (nlst l) = true := by
  induction l with
  | nil => rfl
  | cons m l ih => unfold nlst at ih ⊢; rw [List.map_cons, okVL, ih]; rfl
end DL
set_option Elab.async false
set_option linter.all false
set_option maxRecDepth 100000
set_option maxHeartbeats 1000000
/-! sum, max, sorted of tuples of ints; t * k; a name that takes over an own list -/
namespace PyProof.Rows
open PySem
section
variable {prog : Program} {w : World} {A : Around} {E : Value → Shared → Prop} {s : Shared} {l : Addr} {xs : Array (Int × Tok)}
theorem iter_intTup {Q : Value → Shared → Prop} (hl : s.heap.IsTuple l (intItems xs))
    (h : ∀ s₂ : Shared, s₂ = { s with heap := s.heap.push { cls := .type "tuple_iterator", data := .fields #[.ref l, .int 0 0] } } →
      (s₂.heap.IsTupleIter s.heap.objs.size l 0 ∧ s₂.heap.IsTuple l (intItems xs)) → (∀ b ∈ [s.heap.objs.size, l], b < s₂.heap.objs.size) → l ≠ s.heap.objs.size → Q (.ref s.heap.objs.size) s₂) :
    wpAny (model prog w) A (pyIter (.ref l)) Q E s := by
  have hlt : l < s.heap.objs.size := by obtain ⟨_, e, _⟩ := hl; exact Heap.lt_size e
  refine wpAny_pyIter_tuple hl (h _ rfl ⟨⟨_, Heap.get?_push_size _ rfl, rfl, rfl⟩, hl.push _⟩ (fun b hb => ?_) (Nat.ne_of_lt hlt))
  show b < (s.heap.push _).objs.size
  rw [Heap.size_push]
  rcases List.mem_cons.mp hb with rfl | hb
  · exact Nat.lt_succ_self _
  · rcases List.mem_cons.mp hb with rfl | hb
    · exact Nat.lt_succ_of_lt hlt
    · cases hb
theorem old_keptT {h' : Heap} (hk : ∀ b o, b ∉ [s.heap.objs.size] → (s.heap.push { cls := .type "tuple_iterator", data := .fields #[.ref l, .int 0 0] }).get? b = some o → h'.get? b = some o) :
    ∀ b o, s.heap.get? b = some o → h'.get? b = some o := fun b o e => by
  refine hk b o (fun hm => ?_) (Heap.get?_push_of_some _ e)
  rcases List.mem_cons.mp hm with e1 | hm
  · exact absurd (e1 ▸ Heap.lt_size e) (Nat.lt_irrefl _)
  · cases hm
theorem max_intTup {Q : Value → Shared → Prop} (hh : A.handled = none) (hl : s.heap.IsTuple l (intItems xs)) (hne : 0 < xs.size)
    (h : ∀ v h' tk, (intItems xs)[argBest (fun i j => decide (numAt xs i > numAt xs j)) (xs.size - 1)]? = some v → (∀ b o, s.heap.get? b = some o → h'.get? b = some o) → Q v { s with heap := h', toks := tk }) :
    wpAny (model prog w) A (call (.builtin "max") [.ref l]) Q E s := by
  refine call_max_walk (iter_intTup hl fun s₂ e st hfp hlI => ?_)
  subst e
  refine ⟨_, _, _, _, _, _, _, rfl, Walks.tuple (A := A.in1) hh _ l hlI (intItems xs), st, hfp, by simpa [intItems] using hne, CmpOf.ints_gt (numAt xs) (fun _ _ => intItems_at), fun v h' tk hP hk => ?_⟩
  exact h v h' tk (by simpa [intItems] using hP) (old_keptT hk)
theorem sum_intTup {Q : Value → Shared → Prop} (hh : A.handled = none) (hl : s.heap.IsTuple l (intItems xs))
    (h : ∀ h' tk t', (∀ b o, s.heap.get? b = some o → h'.get? b = some o) → Q (.int (preSum (numAt xs) xs.size) t') { s with heap := h', toks := tk }) :
    wpAny (model prog w) A (call (.builtin "sum") [.ref l]) Q E s := by
  refine call_sum_walkG (iter_intTup hl fun s₂ e st hfp hlI => ?_)
  subst e
  refine ⟨_, _, _, _, _, _, numAt xs, rfl, Walks.tuple (A := A.in1) hh _ l hlI (intItems xs), st, hfp, (fun _ _ => intItems_at), fun h' tk t' hk => ?_⟩
  have := h h' tk t' (old_keptT hk)
  simpa [intItems] using this
theorem collect_tup {l : Addr} {vs : List Value} {Q : List Value → Shared → Prop} (hl : IsTup s.heap l vs.toArray)
    (h : Q vs { s with heap := (s.heap.push (seqObj "list" #[] 0)).update s.heap.objs.size (Obj.mapSeq (· ++ vs.toArray)) }) (hsz : vs.length ≤ sizeLine := by size_fits) :
    wpAny (model prog w) A (collect (.ref l)) Q E s := by
  obtain ⟨o, ho, hc, n, hd⟩ := id hl
  unfold collect
  refine wpAny_bind (wpAny_runValue (codeAny_builtin entry_proto_collect' ?_))
  show wpAny _ _ (do again (.builtin "list.__iadd__" ⟨[← newList [], .ref l], []⟩)) _ _ s
  refine wpAny_bind (wpAny_newList (wpAny_pure ⟨Code.quiet_builtin _ (by decide +kernel), codeAny_builtin entry_list_iadd' ?_⟩))
  show wpAny _ _ (Builtin.List.listExtendWith (.ref s.heap.objs.size) (.ref l) (.ref s.heap.objs.size)) _ _ { s with heap := s.heap.push (seqObj "list" #[] 0) }
  unfold Builtin.List.listExtendWith
  have ho' : (s.heap.push (seqObj "list" #[] 0)).get? l = some o := Heap.get?_push_of_some _ ho
  refine wpAny_bind (wpAny_typeOf (T := "tuple") ⟨o, ho', hc⟩ ?_)
  have ht : (Value.type "tuple" == Value.type "tuple") = true := by rfl
  rw [if_pos (by rw [ht]; simp)]
  refine wpAny_bind (listItems_at ho' hd ?_)
  refine wpAny_bind (listItems_at (xs := #[]) (n := 0) (Heap.get?_push_size _ rfl) rfl ?_)
  rw [if_neg (by simp)]
  refine wpAny_bind (listUpdate_at (xs := #[]) (n := 0) (Heap.get?_push_size _ rfl) rfl ?_ (Nat.zero_le _) (by show (#[] ++ vs.toArray).size ≤ sizeLine + 1; simp only [Array.size_append, List.size_toArray, List.length_nil]; omega))
  refine wpAny_pure ?_
  show wpAny (model prog w) A (do
      let o ← load s.heap.objs.size
      match o.data with
      | .seq xs _ => pure xs.toList
      | _ => unsupported "internal:collect") Q E { s with heap := (s.heap.push (seqObj "list" #[] 0)).update s.heap.objs.size (Obj.mapSeq (· ++ vs.toArray)) }
  refine wpAny_bind (wpAny_load (get?_update_seq (Heap.get?_push_size _ rfl) _) ?_)
  show wpAny _ _ (pure ((#[] : Array Value) ++ vs.toArray).toList) Q E _
  rw [show ((#[] : Array Value) ++ vs.toArray).toList = vs by simp]
  exact wpAny_pure h
end
end PyProof.Rows
namespace SrtO
open PySem PySem.Calls PyProof.Rows
section
variable {prog : Program} {w : World} {A : Around} {E : Value → Shared → Prop} {s : Shared}
theorem sorted_ordT {l : Addr} {vs : List Value} {ltv : Value → Value → Bool} {Q : Value → Shared → Prop} (O : Swo ltv) (hl : IsTup s.heap l vs.toArray) (hz : vs.length ≤ sizeLine)
    (hS : 2 ≤ vs.length → ∀ (h₁ : Heap) (a : Addr), h₁.get? a = some (seqObj "list" vs.toArray 0) → (∀ b o, s.heap.get? b = some o → b ≠ a ∧ h₁.get? b = some o) → SortableO prog w A.in1.in1 { s with heap := h₁ } a vs ltv)
    (h : ∀ out : List Value, Srtd ltv out → Stb ltv out vs → Q (.ref (s.heap.objs.size + 1)) { s with heap := sortedAll s.heap vs out.toArray }) :
    wpAny (model prog w) A (call (.builtin "sorted") [.ref l]) Q E s := by
  refine Calls.call_function_entry kind_sorted plain_sorted entry_sorted (args_sorted1 _) ?_
  unfold Builtin.«sorted»
  refine wpAny_bind (m := checkCount "sorted" 1 1 _) (wpAny_pure ?_)
  refine wpAny_bind (collect_tup hl ?_ hz)
  refine wpAny_bind (wpAny_newList ?_ hz)
  have hsz : ((s.heap.push (seqObj "list" #[] 0)).update s.heap.objs.size (Obj.mapSeq (· ++ vs.toArray))).objs.size = s.heap.objs.size + 1 := by
    rw [Heap.size_update, size_push']
  have hoL : (((s.heap.push (seqObj "list" #[] 0)).update s.heap.objs.size (Obj.mapSeq (· ++ vs.toArray))).push (seqObj "list" vs.toArray 0)).get? (s.heap.objs.size + 1) = some (seqObj "list" vs.toArray 0) := by
    rw [← hsz]; exact Heap.get?_push_size _ rfl
  have keep : ∀ b o, s.heap.get? b = some o → b ≠ s.heap.objs.size + 1 ∧ (((s.heap.push (seqObj "list" #[] 0)).update s.heap.objs.size (Obj.mapSeq (· ++ vs.toArray))).push (seqObj "list" vs.toArray 0)).get? b = some o := fun b o q => by
    have hlt : b < s.heap.objs.size := Heap.lt_size q
    refine ⟨Nat.ne_of_lt (Nat.lt_succ_of_lt hlt), Heap.get?_push_of_some _ ?_⟩
    rw [Heap.get?_update_ne _ _ _ _ (Nat.ne_of_lt hlt)]
    exact Heap.get?_push_of_some _ q
  show wpAny _ _ _ _ _ { s with heap := ((s.heap.push (seqObj "list" #[] 0)).update s.heap.objs.size (Obj.mapSeq (· ++ vs.toArray))).push (seqObj "list" vs.toArray 0) }
  rw [hsz]
  refine wpAny_bind (wpAny_holding (wpAny_call_entry slot_list_sort ⟨_, hoL, rfl⟩ entry_list_sort (list_sort_ord O hoL hz (fun h2 => hS h2 _ _ hoL keep) fun out hs hb => ⟨_, rfl, ?_⟩) (args_list_sort _)))
  exact wpAny_pure ⟨_, rfl, h out hs hb⟩
end
end SrtO
namespace L2
open PySem PySem.Spec PyProof.Rows
section
variable {prog : Program} {w : World} {A : Around} {E : Value → Shared → Prop} {s : Shared} {l : Addr} {its : List Value} {ns : List Int} {Q : Value → Shared → Prop}
theorem sum_rawT (hh : A.handled = none) (hl : IsTup s.heap l its.toArray) (hi : IntsAre its ns)
    (h : ∀ h' tk t', (∀ b o, s.heap.get? b = some o → h'.get? b = some o) → Q (.int ns.sum t') { s with heap := h', toks := tk }) : wpAny (model prog w) A (call (.builtin "sum") [.ref l]) Q E s := by
  obtain ⟨xs, e⟩ := hi.allInts.items
  have hn : numsOf (intItems xs).toList = ns := by rw [← e]; exact hi.numsOf
  rw [nums_intItems] at hn
  rw [e] at hl
  refine sum_intTup hh hl fun h' tk t' hk => ?_
  have := h h' tk t' hk
  rw [preSum_eq, List.take_of_length_le (by simp), hn]; exact this
theorem max_rawT (hh : A.handled = none) (hl : IsTup s.heap l its.toArray) (hi : IntsAre its ns) (hne : 0 < ns.length)
    (h : ∀ h' tk M t', (∀ b o, s.heap.get? b = some o → h'.get? b = some o) → M ∈ ns → (∀ a, a ∈ ns → a ≤ M) → Q (.int M t') { s with heap := h', toks := tk }) : wpAny (model prog w) A (call (.builtin "max") [.ref l]) Q E s := by
  obtain ⟨xs, e⟩ := hi.allInts.items
  have hn : numsOf (intItems xs).toList = ns := by rw [← e]; exact hi.numsOf
  rw [nums_intItems] at hn
  subst hn
  rw [e] at hl
  have hsz : 0 < xs.size := by simpa using hne
  refine max_intTup hh hl hsz fun v h' tk hv hk => ?_
  obtain ⟨t, rfl⟩ := intItems_at hv
  obtain ⟨h1, h2⟩ := argBest_gt (numAt xs) (xs.size - 1)
  refine h h' tk _ t hk ?_ fun a ha => ?_
  · rw [numAt_eq]; exact PySem.getD_mem (by rw [List.length_map, Array.length_toList]; omega)
  · obtain ⟨j, hj, rfl⟩ := mem_getD ha
    rw [List.length_map, Array.length_toList] at hj
    rw [← numAt_eq]; exact h2 j (by omega)
end
section
variable {X : Cx}
def rSumT (K : PySem.W.Frag) : List V → Hp → VK → Prop := fun vs H Q => ∃ (a : Addr) (ns : List Int), vs = [V.ref a] ∧ SqT K H a (ns.map V.int) ∧ Q (.int ns.sum) H
def rMaxT (K : PySem.W.Frag) : List V → Hp → VK → Prop := fun vs H Q => ∃ (a : Addr) (ns : List Int), vs = [V.ref a] ∧ SqT K H a (ns.map V.int) ∧ 0 < ns.length ∧ ∀ m, m ∈ ns → (∀ y, y ∈ ns → y ≤ m) → Q (.int m) H
def rSortedTI (K : PySem.W.Frag) : List V → Hp → VK → Prop := fun vs H Q => ∃ (a : Addr) (ns : List Int), vs = [V.ref a] ∧ SqT K H a (ns.map V.int) ∧
  ∀ (ns' : List Int) (p : Addr), ns'.Perm ns → ns'.Pairwise (· ≤ ·) → H p = none → Q (.ref p) (upd H p (.lst (ns'.map V.int)))
theorem cr_sumT (hc : X.calm = true) : CallR X (.builtin "sum") (rSumT X.K) := by
  intro pins s σ H vs us Q I r h
  obtain ⟨a, ns, rfl, hs, q⟩ := h
  obtain ⟨its, rv, hl, _⟩ := I.tuple hs
  rw [Vals.ref1 r]
  exact sum_rawT (I.ok.hd hc) hl rv.ints fun h' tk t' hk => ⟨.int _, H, I.kept hk, ⟨_, rfl⟩, q⟩
theorem cr_maxT (hc : X.calm = true) : CallR X (.builtin "max") (rMaxT X.K) := by
  intro pins s σ H vs us Q I r h
  obtain ⟨a, ns, rfl, hs, hne, q⟩ := h
  obtain ⟨its, rv, hl, _⟩ := I.tuple hs
  rw [Vals.ref1 r]
  exact max_rawT (I.ok.hd hc) hl rv.ints hne fun h' tk m t' hk h1 h2 => ⟨.int _, H, I.kept hk, ⟨_, rfl⟩, q m h1 h2⟩
theorem cr_sortedTI : CallR X (.builtin "sorted") (rSortedTI X.K) := by
  intro pins s σ H vs us Q I r h
  obtain ⟨a, ns, rfl, hs, q⟩ := h
  obtain ⟨its, rv, hl, hz⟩ := I.tuple hs
  rw [Vals.ref1 r]
  have hi := rv.ints
  refine SrtO.sorted_ordT SrtO.swo_int hl (by rw [← rv.length]; exact hz) (fun h2 h₁ a' _ _ => SrtO.ints_sortable hi h2) fun out h1 h2 => ?_
  obtain ⟨k1, k2, k3⟩ := SrtO.ints_out hi h1 h2
  obtain ⟨ep, he'⟩ := PyProof.Rows.sortedAll_at s.heap its out.toArray
  have hlen : ((out.map SrtO.iv).map V.int).length ≤ sizeLine := by
    rw [List.length_map, k2.length_eq]
    rw [List.length_map] at hz
    exact hz
  exact ⟨.ref _, upd H (s.heap.objs.size + 1) (.lst ((out.map SrtO.iv).map V.int)), I.laid (t' := s.toks) (fun _ _ => PyProof.Rows.sortedAll_old) (Nat.le_succ _) ⟨hlen, out, ep, vals_of_ints k1, he'⟩, rfl, q _ _ k2 k3 (I.hok.fresh (Nat.le_succ _))⟩
end
end L2
namespace DL
open PySem PySem.Spec PyProof.Rows L2
section
variable {X : Cx} {p : Pt} {a e : Expr} {st : Stmt} {t : DE} {p1 pos : Pos}
def rSumTD (x : D) (Q : D → Prop) : Prop := ∃ ns : List Int, x = .tup (ns.map D.int) ∧ Q (.int ns.sum)
def dSumT (t : DE) : DE := fun δ Q => t δ fun x => rSumTD x Q
def rMaxTD (x : D) (Q : D → Prop) : Prop := ∃ ns : List Int, x = .tup (ns.map D.int) ∧ 0 < ns.length ∧ ∀ m, m ∈ ns → (∀ y, y ∈ ns → y ≤ m) → Q (.int m)
def dMaxT (t : DE) : DE := fun δ Q => t δ fun x => rMaxTD x Q
theorem de_sumT (hk : p.K = X.K) (hc : X.calm = true) (hg : Gl X "sum") (hm : X.mg "sum" = none) (ha : PDE X p a t)
    (he : starEach (a :: []) X.env = (false, eval a X.env) :: starEach [] X.env := by rfl) (hpl : (backTo pos (starEach [] X.env)).any (·.1) = false := by rfl) : PDE X p (.Call (.Name "sum" p1) [a] [] pos) (dSumT t) := by
  refine de_call1B (rD := rSumTD) (cr_sumT hc) ?_ hg hm (by decide +kernel) ha (by decide) (by decide) he hpl
  rintro F H σ δ x d QD Q g r1 ⟨ns, rfl, q⟩ k
  obtain ⟨a, xs, rfl, h1, h2⟩ := res_tup g r1
  rw [RepL.ints h2, hk] at h1
  exact ⟨a, ns, rfl, h1, k _ _ _ _ (Ext.refl g.ok) (res_int _) q⟩
theorem de_maxT (hk : p.K = X.K) (hc : X.calm = true) (hg : Gl X "max") (hm : X.mg "max" = none) (ha : PDE X p a t)
    (he : starEach (a :: []) X.env = (false, eval a X.env) :: starEach [] X.env := by rfl) (hpl : (backTo pos (starEach [] X.env)).any (·.1) = false := by rfl) : PDE X p (.Call (.Name "max" p1) [a] [] pos) (dMaxT t) := by
  refine de_call1B (rD := rMaxTD) (cr_maxT hc) ?_ hg hm (by decide +kernel) ha (by decide) (by decide) he hpl
  rintro F H σ δ x d QD Q g r1 ⟨ns, rfl, hne, q⟩ k
  obtain ⟨a, xs, rfl, h1, h2⟩ := res_tup g r1
  rw [RepL.ints h2, hk] at h1
  exact ⟨a, ns, rfl, h1, hne, fun m m1 m2 => k _ _ _ _ (Ext.refl g.ok) (res_int _) (q m m1 m2)⟩
/-- sorted(t), ints: a new list -/
def dSortT (t : DE) : DA := fun δ Q => t δ fun x => ∃ ns : List Int, x = .tup (ns.map D.int) ∧ ∀ ns' : List Int, ns'.Perm ns → ns'.Pairwise (· ≤ ·) → Q (ns'.map D.int)
theorem dl_sortT (hk : p.K = X.K) (hg : Gl X "sorted") (hm : X.mg "sorted" = none) (ha : PDE X p a t)
    (he : starEach (a :: []) X.env = (false, eval a X.env) :: starEach [] X.env := by rfl) (hpl : (backTo pos (starEach [] X.env)).any (·.1) = false := by rfl) : PDL X p (.Call (.Name "sorted" p1) [a] [] pos) (dSortT t) := by
  refine ⟨PE.imp (pe_callB cr_sortedTI hg hm (by decide +kernel) (pa_cons ha.pe pa_nil he) (by decide) (by decide) he hpl) ?_⟩
  rintro σ H Q ⟨F, δ, QD, g, q, k⟩
  refine ⟨F, δ, _, g, q, fun x H1 F1 d e1 r1 ⟨ns, ed, q1⟩ => ?_⟩
  subst ed
  have g1 := p.step g e1
  obtain ⟨a, xs, rfl, h1, h2⟩ := res_tup g1 r1
  rw [RepL.ints h2, hk] at h1
  refine ⟨a, ns, rfl, h1, fun ns' b m1 m2 hb => ?_⟩
  exact k b _ _ F1 _ (e1.trans g.ok (ext_raw e1.ok hb)) (e1.back hb) (fnone e1.ok hb) upd_same (RepL.of_ints _) (q1 ns' m1 m2)
/-- t * k, k from 2 on -/
def oRepT : DR2 := fun x y Q => ∃ xs k, x = .tup xs ∧ y = .int k ∧ xs ≠ [] ∧ 2 ≤ k ∧ k ≤ 1000 ∧ xs.length ≤ 1000 ∧ Q (.tup (List.replicate k.toNat xs).flatten)
theorem rd_repT : RD p (rRepT p.K) oRepT := by
  rintro F H σ δ x y d e QD Q g r1 r2 ⟨ds, n, rfl, rfl, hne, k2, k3, hz, q⟩ k
  obtain ⟨a, xs, rfl, h3, h4⟩ := res_tup g r1
  have l1 := RepL.length h4
  refine ⟨a, n, xs, rfl, rep_int r2, h3, fun z => ?_, k2, k3, by omega, fun b hb => ?_⟩
  · rw [z] at l1
    exact hne (List.eq_nil_of_length_eq_zero l1.symm)
  · have e4 := ext_new (o := .tup (List.replicate n.toNat xs).flatten) g.ok hb
    refine k _ _ _ _ e4 ?_ q
    show Rep _ _ _ _
    simp only [Rep]
    exact ⟨b, _, rfl, SqT.of upd_same, RepL.rep (RepL.mono e4.ff _ _ h4) _⟩
theorem rd_repTK {K' : PySem.W.Frag} (hk : p.K = K') : RD p (rRepT K') oRepT := hk ▸ rd_repT
/-- ahead of a statement an own list becomes data -/
def dFrz (j : Nat) (t : DSt) : DSt := fun DD δ => ∃ xs, δ[j]? = some (some (.own xs)) ∧ t DD (δ.set j (some (.lst xs)))
theorem G.freeze {F H : Hp} {σ : St} {δ : DS} {j : Nat} {xs : List D} (g : p.G F σ δ H) (hj : δ[j]? = some (some (.own xs))) : ∃ F', Same F F' ∧ p.G F' σ (δ.set j (some (.lst xs))) H := by
  obtain ⟨v, hv, a, ys, ev, h1, h2, h3, h4, h5⟩ := g.var j _ hj
  subst ev
  have sm : Same F (L2.upd F a (.lst ys)) := same_new h2
  refine ⟨L2.upd F a (.lst ys), sm, ⟨⟨?_, ?_, ?_, ?_⟩, g.bs.trans sm, by rw [List.length_set]; exact g.len, fun i d hd => ?_, fun i k di dk b ne hi hk hs => ?_⟩⟩
  · refine ⟨fun b u q => ?_, g.ok.inv, fun b hb => ?_⟩
    · by_cases hb : b = a
      · subst hb; rw [upd_same] at q; rw [h1]; exact q
      · rw [upd_ne hb] at q; exact g.ok.fh b u q
    · have : b ≠ a := fun z => h3 (z ▸ hb)
      rw [upd_ne this]; exact g.ok.nf b hb
  · exact g.ext.ff.trans sm
  · exact g.ext.keep
  · intro b u q n
    have : b ≠ a := fun z => by rw [z, h4] at q; cases q
    rw [upd_ne this]; exact g.ext.new b u q n
  · rcases getElem?_set' _ _ _ _ _ hd with ⟨rfl, e3⟩ | ⟨ne, e3⟩
    · cases Option.some.inj e3
      refine ⟨_, hv, ?_⟩
      show Rep _ _ _ _
      simp only [Rep]
      exact ⟨a, ys, rfl, upd_same, RepL.mono sm _ _ h5⟩
    · obtain ⟨v', c1, c2⟩ := g.var i d e3
      refine ⟨v', c1, ?_⟩
      cases ho : isOwn d with
      | false => rw [slot_data ho] at c2 ⊢; exact Rep.mono sm d v' c2
      | true =>
        cases d <;> first | (cases ho; done) | skip
        obtain ⟨b, zs, rfl, d1, d2, d3, d4, d5⟩ := c2
        refine ⟨b, zs, rfl, d1, ?_, d3, d4, RepL.mono sm _ _ d5⟩
        have : b ≠ a := fun z => by
          subst z
          exact g.dis i j _ _ b (Ne.symm ne) e3 hj c1 hv
        rw [upd_ne this]; exact d2
  · rcases getElem?_set' _ _ _ _ _ hi with ⟨rfl, e3⟩ | ⟨_, e3⟩
    · cases Option.some.inj e3
    · rcases getElem?_set' _ _ _ _ _ hk with ⟨rfl, e4⟩ | ⟨_, e4⟩
      · cases Option.some.inj e4
      · exact g.dis i k di dk b ne e3 e4 hs
theorem ds_frz (j : Nat) {t : DSt} (h : PDS X p st t) : PDS X p st (dFrz j t) := by
  refine ⟨PS.imp h.ps ?_⟩
  rintro Dn σ H ⟨F, δ, DD, g, ⟨xs, hj, q⟩, kn, kb, kc, kr⟩
  obtain ⟨F', sm, g'⟩ := g.freeze hj
  exact ⟨F', _, DD, g', q, ends_triv kn sm, ends_triv kb sm, ends_triv kc sm, kr⟩
end
end DL
set_option Elab.async false
set_option linter.all false
set_option maxRecDepth 100000
set_option maxHeartbeats 1000000
/-! a dict of one's own whose keys are nested tuples, its values True all -/
namespace DL
open PySem PySem.Spec PyProof.Rows L2
mutual
def keyOf : D → NestedKey
  | .non => .none | .bl b => .num (if b = true then 1 else 0) | .int i => .num i | .str x => .text x | .tup xs => .tup (keyOfL xs) | .lst _ => .none | .own _ => .none | .opq _ => .none
def keyOfL : List D → List NestedKey
  | [] => [] | d :: ds => keyOf d :: keyOfL ds
end
mutual
def isKey : D → Bool
  | .non => true | .bl _ => true | .int _ => true | .str _ => true | .tup xs => isKeyL xs | .lst _ => false | .own _ => false | .opq _ => false
def isKeyL : List D → Bool
  | [] => true | d :: ds => isKey d && isKeyL ds
end
section
variable {X : Cx} {pins : List (Addr × Obj)} {σ : St} {H : Hp} {s : Shared}
mutual
theorem rep_key (I : Inv X pins σ H s) : ∀ (d : D) (v : V) (u : Value), isKey d = true → Rep X.K H d v → RelV v u → NestedIs s.heap (keyOf d) u
  | .non, v, u, _, r, rv => by
    simp only [Rep] at r; subst r
    cases rv
    exact .none
  | .bl b, v, u, _, r, rv => by
    simp only [Rep] at r; subst r
    cases (show u = Value.bool b from rv)
    exact .bool rfl
  | .int i, v, u, _, r, rv => by
    simp only [Rep] at r; subst r
    obtain ⟨t, rfl⟩ := rv
    exact .int i t
  | .str x, v, u, _, r, rv => by
    simp only [Rep] at r; subst r
    obtain ⟨t, rfl⟩ := rv
    exact .text x t
  | .tup ds, v, u, k, r, rv => by
    simp only [Rep] at r
    obtain ⟨a, xs, rfl, h1, h2⟩ := r
    cases (show u = Value.ref a from rv)
    obtain ⟨its, rr, ⟨o, ho, hc, n, hd⟩, _⟩ := I.tuple h1
    simp only [keyOf]
    exact .tup ho hc hd (rep_keys I ds xs its (by simpa only [isKey] using k) h2 rr)
  | .lst _, _, _, k, _, _ => by simp [isKey] at k
  | .own _, _, _, k, _, _ => by simp [isKey] at k
  | .opq _, _, _, k, _, _ => by simp [isKey] at k
theorem rep_keys (I : Inv X pins σ H s) : ∀ (ds : List D) (xs : List V) (us : List Value), isKeyL ds = true → RepL X.K H ds xs → Vals xs us → NestedAll s.heap (keyOfL ds) us
  | [], xs, us, _, r, rv => by
    simp only [RepL] at r; subst r
    cases rv
    exact .nil
  | d :: ds, xs, us, k, r, rv => by
    simp only [RepL] at r
    obtain ⟨x, r', rfl, h1, h2⟩ := r
    simp only [isKeyL, Bool.and_eq_true] at k
    cases rv with
    | cons a b =>
      simp only [keyOfL]
      exact .cons (rep_key I d x _ k.1 h1 a) (rep_keys I ds r' _ k.2 h2 b)
end
end
/-- keys and where they stand -/
abbrev KX := List (NestedKey × Addr)
def kvX (xs : KX) : List (NestedKey × Addr × Value) := xs.map fun x => (x.1, x.2, Value.bool true)
def dctO (P : Program) (w : World) (d : Addr) (xs : KX) : HO := .ext fun h => (d == sysModules) = false ∧ xs.length ≤ sizeLine ∧
  ∃ o es ep, h.get? d = some o ∧ o.ExactDict ∧ o.data = .dict es ep ∧ es.toList = (kvX xs).map (entryOfKey (nestedKind P w)) ∧ ((kvX xs).map (·.1)).Nodup
/-- v is the key k over H -/
def KeyAt (K : PySem.W.Frag) (H : Hp) (k : NestedKey) (v : V) : Prop := ∃ d, isKey d = true ∧ keyOf d = k ∧ k.depth ≤ 8 ∧ Rep K H d v
def keysOk (K : PySem.W.Frag) (H : Hp) (xs : KX) : Prop := ∀ z ∈ xs, KeyAt K H z.1 (.ref z.2)
theorem KeyAt.mono {K : PySem.W.Frag} {H H' : Hp} (e : Same H H') {k : NestedKey} {v : V} (h : KeyAt K H k v) : KeyAt K H' k v := by
  obtain ⟨d, h1, h2, h3, h4⟩ := h
  exact ⟨d, h1, h2, h3, Rep.mono e _ _ h4⟩
theorem keysOk.mono {K : PySem.W.Frag} {H H' : Hp} (e : Same H H') {xs : KX} (h : keysOk K H xs) : keysOk K H' xs := fun z hz => (h z hz).mono e
section
variable {X : Cx} {pins : List (Addr × Obj)} {σ : St} {H : Hp} {s : Shared} {d a : Addr} {xs : KX} {k : NestedKey}
theorem key_is (I : Inv X pins σ H s) (h : KeyAt X.K H k (.ref a)) : (nestedKind X.prog X.w).is s.heap k a := by
  obtain ⟨e, h1, rfl, h3, h4⟩ := h
  exact ⟨rep_key I e _ _ h1 h4 rfl, h3⟩
theorem dct_at (I : Inv X pins σ H s) (h : H d = some (dctO X.prog X.w d xs)) (hk : keysOk X.K H xs) : (d == sysModules) = false ∧ xs.length ≤ sizeLine ∧ s.heap.DictOfH (nestedKind X.prog X.w) d (kvX xs) := by
  obtain ⟨⟨h1, h0, o, es, ep, h2, h3, h4, h5, h6⟩, _, _⟩ := (show ObjOk X.prog X.w H s.heap d (dctO X.prog X.w d xs) from I.hok d _ h)
  refine ⟨h1, h0, o, es, ep, h2, h3, h4, h5, fun y hy => ?_, h6⟩
  obtain ⟨z, hz, rfl⟩ := List.mem_map.mp hy
  exact key_is I (hk z hz)
theorem atKey_any (xs : KX) (k : NestedKey) : (atKey (kvX xs) k).isSome = xs.any fun z => decide (z.1 = k) := by
  induction xs with
  | nil => rfl
  | cons x xs ih =>
    by_cases h : x.1 = k
    · simp [kvX, atKey, h]
    · simpa [kvX, atKey, h] using ih
theorem dct_ok {P : Program} {w : World} {H' : Hp} {h' : Heap} (h1 : (d == sysModules) = false) (h2 : xs.length ≤ sizeLine) (h : h'.DictOfH (nestedKind P w) d (kvX xs)) : ObjOk P w H' h' d (dctO P w d xs) := by
  obtain ⟨o, es, ep, a1, a2, a3, a4, _, a6⟩ := h
  refine ⟨⟨h1, h2, o, es, ep, a1, a2, a3, a4, a6⟩, ⟨o, a1⟩, fun g1 g2 ⟨b1, b0, o, es, ep, b2, b3, b4, b5, b6⟩ st => ⟨b1, b0, o, es, ep, st o b2, b3, b4, b5, b6⟩⟩
theorem stored_new (h : (xs.any fun z => decide (z.1 = k)) = false) : storedH (kvX xs) k a (.bool true) = kvX (xs ++ [(k, a)]) := by
  unfold storedH
  rw [atKey_any, h, if_neg Bool.false_ne_true]
  simp [kvX]
end
/-! ### k not in d -/
def rNotInX (P : Program) (w : World) (K : PySem.W.Frag) : R2 := fun x y H Q => ∃ d xs k a, y = .ref d ∧ x = .ref a ∧ H d = some (dctO P w d xs) ∧ keysOk K H xs ∧ KeyAt K H k x ∧ Q (.bl (!(xs.any fun z => decide (z.1 = k)))) H
/-- {} -/
def tDNewX (P : Program) (w : World) : TE := fun _ H Q => ∀ p, H p = none → Q (.ref p) (L2.upd H p (dctO P w p []))
/-- d[k] = True, a new key -/
def sXPut (P : Program) (w : World) (K : PySem.W.Frag) (td ty tv : TE) : TS := fun D σ H => tv σ H fun v H1 => td σ H1 fun x H2 => ty σ H2 fun y H3 => v = .bl true ∧ ∃ d xs k a, x = .ref d ∧ y = .ref a ∧ H3 d = some (dctO P w d xs) ∧ keysOk K H3 xs ∧ KeyAt K H3 k y ∧
  (xs.any fun z => decide (z.1 = k)) = false ∧ xs.length < sizeLine ∧ D.nx σ (L2.upd H3 d (dctO P w d (xs ++ [(k, a)])))
section
variable {X : Cx} {pos pos' : Pos} {o i value : Expr} {td ty tv : TE}
theorem op_notInX (hu : X.A.units + 64 < cLine) : OpR X (compareOp .NotIn) (rNotInX X.prog X.w X.K) := by
  intro pins s σ H x y v u Q I rx ry h
  obtain ⟨d, xs, k, a, rfl, rfl, hd, hk, ha, q⟩ := h
  cases (show v = Value.ref a from rx)
  cases (show u = Value.ref d from ry)
  obtain ⟨h1, h2, h3⟩ := dct_at I hd hk
  refine wpAny_notIn_heap (show X.A.units + 1 + 8 < cLine by omega) (key_is I ha) h1 h3 ?_
  rw [atKey_any]
  exact ⟨.bl _, H, I.tok _, rfl, q⟩
theorem pe_dnewX : PE X (.Dict [] [] pos) (tDNewX X.prog X.w) := ⟨fun pins s σ H Q I h =>
  wpAny_Dict_empty ⟨.ref s.heap.objs.size, _, I.laid (a := s.heap.objs.size) (o := dctO X.prog X.w s.heap.objs.size []) (t' := s.toks) (fun _ _ q => Heap.get?_push_of_some _ q) (Nat.le_refl _)
    (dct_ok (beq_eq_false_iff_ne.mpr (Ne.symm (Nat.ne_of_lt I.big))) (Nat.zero_le _) (Heap.DictOfH.new s.heap)), rfl, h _ (I.hok.fresh (Nat.le_refl _))⟩⟩
theorem ps_xput (hu : X.A.units + 64 < cLine) (ho : PE X o td) (hi : PE X i ty) (hv : PE X value tv) (hs : swapsWith value (some (.Subscript o i pos')) pos.line X.env = pure false) :
    PS X (.Assign [.Subscript o i pos'] value pos) (sXPut X.prog X.w X.K td ty tv) := by
  refine ⟨fun pins s σ H D I h => ?_⟩
  refine wpAny_Assign_Subscript (thn (hv.run pins s σ H _ I h) fun r s1 ⟨v, H1, I1, rv, q1⟩ => thn (ho.run pins s1 σ H1 _ I1 q1) fun u s2 ⟨x, H2, I2, rx, q2⟩ => thn (hi.run pins s2 σ H2 _ I2 q2) fun iv s3 ⟨y, H3, I3, ry, ev, d, xs, k, a, ex, ey, hd, hk, ha, hn, hl, q3⟩ => ?_) hs
  subst ev ex ey
  cases (show r = Value.bool true from rv)
  cases (show u = Value.ref d from rx)
  cases (show iv = Value.ref a from ry)
  obtain ⟨h1, h2, h3⟩ := dct_at I3 hd hk
  refine wpAny_setItem_heap (hsz := by simp only [kvX, List.length_map]; omega) (show X.A.units + 1 + 8 < cLine by omega) (key_is I3 ha) h3 fun h' dd' hs' => ?_
  rw [stored_new hn] at dd'
  refine ⟨σ, _, d_write I3 (by rw [hd]; exact True.intro) hs' ?_ (dct_ok h1 (by rw [List.length_append]; exact hl) dd'), q3⟩
  obtain ⟨q, _, _, hq, _⟩ := dd'
  exact ⟨q, hq⟩
end
end DL
set_option Elab.async false
set_option linter.all false
set_option maxRecDepth 100000
set_option maxHeartbeats 1000000
/-! readings beside a dict of one's own that changes -/
namespace DL
open PySem PySem.Spec PyProof.Rows L2
def dctReg (J0 : Reg) (P : Program) (w : World) (d : Addr) (xs : KX) : Reg where
  dom b := J0.dom b ∨ b = d
  inv H := J0.inv H ∧ H d = some (dctO P w d xs)
  loc H H' h i := ⟨J0.loc H H' (fun b hb => h b (.inl hb)) i.1, (h d (.inr rfl)).trans i.2⟩
  trk H b i hb := hb.elim (J0.trk H b i.1) fun e => ⟨_, e ▸ i.2⟩
section
variable {P : Program} {w : World} {p0 : Pt} {d : Addr} {xs xs' : KX} {B F H F' H' : Hp} {σ : St} {δ : DS}
theorem ok_dct (hd : p0.Hi d = none) (xs : KX) : Ok (dctReg p0.J P w d xs) p0.Fi (L2.upd p0.Hi d (dctO P w d xs)) where
  fh b o e := by rw [upd_ne (ne_of_none (p0.ok.fh b o e) hd)]; exact p0.ok.fh b o e
  inv := ⟨p0.J.loc p0.Hi _ (fun b hb => upd_ne fun z => nodom p0.ok hd (z ▸ hb)) p0.ok.inv, upd_same⟩
  nf b hb := hb.elim (p0.ok.nf b) fun e => e ▸ fnone p0.ok hd
/-- beside a dict at d with the keys xs -/
abbrev pD (P : Program) (w : World) (p0 : Pt) (d : Addr) (hd : p0.Hi d = none) (xs : KX) (B : Hp) : Pt := ⟨p0.K, dctReg p0.J P w d xs, L2.upd p0.Hi d (dctO P w d xs), p0.Fi, ok_dct hd xs, B⟩
theorem ext_back {hd : p0.Hi d = none} (e : Ext (dctReg p0.J P w d xs) p0.Fi (L2.upd p0.Hi d (dctO P w d xs)) F' H') : Ext p0.J p0.Fi p0.Hi F' H' where
  ok := ⟨e.ok.fh, e.ok.inv.1, fun b hb => e.ok.nf b (.inl hb)⟩
  ff := e.ff
  keep b o q n := by
    have nb : b ≠ d := ne_of_none q hd
    refine e.keep b o (by rw [upd_ne nb]; exact q) ?_
    rintro (z | z)
    · exact n z
    · exact nb z
  new b o q n := e.new b o (by rw [upd_ne (ne_of_none q hd)]; exact q) n
theorem g_back {hd : p0.Hi d = none} (g : (pD P w p0 d hd xs B).G F σ δ H) (hb : Same p0.B B) : p0.G F σ δ H where
  ext := ext_back (hd := hd) g.ext
  bs := hb.trans g.bs
  len := g.len
  var i x hx := by
    obtain ⟨v, h1, h2⟩ := g.var i x hx
    refine ⟨v, h1, ?_⟩
    cases ho : isOwn x with
    | false => rw [slot_data ho] at h2 ⊢; exact h2
    | true =>
      cases x <;> first | (cases ho; done) | skip
      obtain ⟨a, ys, rfl, c1, c2, c3, c4, c5⟩ := h2
      have na : a ≠ d := fun z => c3 (.inr z)
      refine ⟨a, ys, rfl, c1, c2, fun z => c3 (.inl z), ?_, c5⟩
      have : L2.upd p0.Hi d (dctO P w d xs) a = none := c4
      rwa [upd_ne na] at this
  dis := g.dis
theorem g_in (g : p0.G F σ δ H) (hd : p0.Hi d = none) (hH : H d = some (dctO P w d xs)) (hF : F d = none) (hB : Same B F) : (pD P w p0 d hd xs B).G F σ δ H where
  ext := {
    ok := ⟨g.ok.fh, ⟨g.ok.inv, hH⟩, fun b hb => hb.elim (g.ok.nf b) fun e => e ▸ hF⟩
    ff := g.ext.ff
    keep := fun b o q n => by
      have nb : b ≠ d := fun z => n (.inr z)
      have q' : L2.upd p0.Hi d (dctO P w d xs) b = some o := q
      rw [upd_ne nb] at q'
      exact g.ext.keep b o q' fun z => n (.inl z)
    new := fun b o q n => by
      by_cases nb : b = d
      · rw [nb]; exact hF
      · have q' : L2.upd p0.Hi d (dctO P w d xs) b = some o := q
        rw [upd_ne nb] at q'
        exact g.ext.new b o q' n }
  bs := hB
  len := g.len
  var i x hx := by
    obtain ⟨v, h1, h2⟩ := g.var i x hx
    refine ⟨v, h1, ?_⟩
    cases ho : isOwn x with
    | false => rw [slot_data ho] at h2 ⊢; exact h2
    | true =>
      cases x <;> first | (cases ho; done) | skip
      obtain ⟨a, ys, rfl, c1, c2, c3, c4, c5⟩ := h2
      have na : a ≠ d := fun z => by rw [z, hH] at c1; cases c1
      refine ⟨a, ys, rfl, c1, c2, ?_, ?_, c5⟩
      · rintro (z | z)
        · exact c3 z
        · exact na z
      · show L2.upd p0.Hi d (dctO P w d xs) a = none
        rw [upd_ne na]; exact c4
  dis := g.dis
theorem g_put (g : p0.G F σ δ H) (hd : p0.Hi d = none) (hH : H d = some (dctO P w d xs)) (hF : F d = none) : p0.G F σ δ (L2.upd H d (dctO P w d xs')) where
  ext := {
    ok := ⟨fun b o q => by rw [upd_ne (ne_of_none q hF)]; exact g.ok.fh b o q, p0.J.loc H _ (fun b hb => upd_ne fun z => nodom p0.ok hd (z ▸ hb)) g.ok.inv, g.ok.nf⟩
    ff := g.ext.ff
    keep := fun b o q n => by rw [upd_ne (ne_of_none q hd)]; exact g.ext.keep b o q n
    new := g.ext.new }
  bs := g.bs
  len := g.len
  var i x hx := by
    obtain ⟨v, h1, h2⟩ := g.var i x hx
    refine ⟨v, h1, ?_⟩
    cases ho : isOwn x with
    | false => rw [slot_data ho] at h2 ⊢; exact h2
    | true =>
      cases x <;> first | (cases ho; done) | skip
      obtain ⟨a, ys, rfl, c1, c2, c3, c4, c5⟩ := h2
      have na : a ≠ d := fun z => by rw [z, hH] at c1; cases c1
      exact ⟨a, ys, rfl, by rw [upd_ne na]; exact c1, c2, c3, c4, c5⟩
  dis := g.dis
theorem g_at {hd : p0.Hi d = none} (g : (pD P w p0 d hd xs B).G F σ δ H) : H d = some (dctO P w d xs) ∧ F d = none := ⟨g.ok.inv.2, g.ok.nf d (.inr rfl)⟩
end
/-! ## readings -/
structure GEnds where
  nx : KX → DS → Prop
  rt : D → Prop
  bk : KX → DS → Prop
  ct : KX → DS → Prop
abbrev DG := Addr → GEnds → KX → DS → Prop
def endG (P : Program) (w : World) (p0 : Pt) (d : Addr) (hd : p0.Hi d = none) (F : Hp) (nx : KX → DS → Prop) (Q : St → Hp → Prop) : Prop :=
  ∀ xs B σ' H' F' δ', (pD P w p0 d hd xs B).G F' σ' δ' H' → keysOk p0.K B xs → Same p0.B B → Same F F' → nx xs δ' → Q σ' H'
theorem endG.mono {P : Program} {w : World} {p0 : Pt} {d : Addr} {hd : p0.Hi d = none} {F F' : Hp} {nx : KX → DS → Prop} {Q : St → Hp → Prop} (h : endG P w p0 d hd F nx Q) (s : Same F F') : endG P w p0 d hd F' nx Q :=
  fun xs B σ' H' F2 δ' g k b s' q => h xs B σ' H' F2 δ' g k b (s.trans s') q
def liftG (P : Program) (w : World) (p0 : Pt) (t : DG) : TS := fun Dn σ H => ∃ (d : Addr) (hd : p0.Hi d = none) (xs : KX) (B F : Hp) (δ : DS) (GG : GEnds), (pD P w p0 d hd xs B).G F σ δ H ∧ keysOk p0.K B xs ∧ Same p0.B B ∧ t d GG xs δ ∧
  endG P w p0 d hd F GG.nx Dn.nx ∧ endG P w p0 d hd F GG.bk Dn.bk ∧ endG P w p0 d hd F GG.ct Dn.ct ∧
  (∀ v H' F' d', Ext p0.J p0.Fi p0.Hi F' H' → Rep p0.K F' d' v → GG.rt d' → Dn.rt v H')
structure PGS (X : Cx) (p0 : Pt) (st : Stmt) (t : DG) : Prop where
  ps : PS X st (liftG X.prog X.w p0 t)
structure PGSs (X : Cx) (p0 : Pt) (st : List Stmt) (t : DG) : Prop where
  pss : PSs X st (liftG X.prog X.w p0 t)
theorem PT.any {ι : Sort _} {X : Cx} {c : Expr} {t : ι → TT} (h : ∀ i, PT X c (t i)) : PT X c (fun σ H Q => ∃ i, t i σ H Q) := ⟨fun pins s σ H Q I ⟨i, q⟩ => (h i).run pins s σ H Q I q⟩
theorem PE.any {ι : Sort _} {X : Cx} {c : Expr} {t : ι → TE} (h : ∀ i, PE X c (t i)) : PE X c (fun σ H Q => ∃ i, t i σ H Q) := ⟨fun pins s σ H Q I ⟨i, q⟩ => (h i).run pins s σ H Q I q⟩
section
variable {X : Cx} {p0 : Pt} {st : Stmt} {rest a b : List Stmt} {t u : DG} {pos : Pos} {c e : Expr}
def gOf (t : Addr → KX → DSt) : DG := fun d GG xs δ => t d xs ⟨GG.nx xs, GG.rt, GG.bk xs, GG.ct xs⟩ δ
theorem g_of {t : Addr → KX → DSt} (h : ∀ d (hd : p0.Hi d = none) xs B, keysOk p0.K B xs → PDS X (pD X.prog X.w p0 d hd xs B) st (t d xs)) : PGS X p0 st (gOf t) := by
  refine ⟨⟨fun pins s σ H D I h0 => ?_⟩⟩
  obtain ⟨d, hd, xs, B, F, δ, GG, g, hk, hB, q, kn, kb, kc, kr⟩ := h0
  exact (h d hd xs B hk).ps.run pins s σ H D I ⟨F, δ, _, g, q, fun σ' H' F' δ' g' s' q' => kn xs B σ' H' F' δ' g' hk hB s' q', fun σ' H' F' δ' g' s' q' => kb xs B σ' H' F' δ' g' hk hB s' q',
    fun σ' H' F' δ' g' s' q' => kc xs B σ' H' F' δ' g' hk hB s' q', fun v H' F' d' e r q' => kr v H' F' d' (ext_back (hd := hd) e) r q'⟩
def gNext : DG := fun _ GG xs δ => GG.nx xs δ
def gSeq (t u : DG) : DG := fun d GG xs δ => t d { GG with nx := u d GG } xs δ
theorem gs_nil : PGSs X p0 [] gNext := by
  refine ⟨PSs.imp pss_nil ?_⟩
  rintro Dn σ H ⟨d, hd, xs, B, F, δ, GG, g, hk, hB, q, kn, kb, kc, kr⟩
  exact kn xs B σ H F δ g hk hB (Same.refl F) q
theorem gs_cons (h1 : PGS X p0 st t) (h2 : PGSs X p0 rest u) : PGSs X p0 (st :: rest) (gSeq t u) := by
  refine ⟨PSs.imp (pss_cons h1.ps h2.pss) ?_⟩
  rintro Dn σ H ⟨d, hd, xs, B, F, δ, GG, g, hk, hB, q, kn, kb, kc, kr⟩
  refine ⟨d, hd, xs, B, F, δ, { GG with nx := u d GG }, g, hk, hB, q, fun xs' B' σ' H' F' δ' g' hk' hB' s' q' => ?_, kb, kc, kr⟩
  exact ⟨d, hd, xs', B', F', δ', GG, g', hk', hB', q', kn.mono s', kb.mono s', kc.mono s', kr⟩
theorem gs_one (h1 : PGS X p0 st t) : PGSs X p0 [st] t := ⟨pss_one h1.ps⟩
abbrev Gi (p0 : Pt) := (d : Addr) ×' (_ : p0.Hi d = none) ×' (xs : KX) ×' (B : Hp) ×' (keysOk p0.K B xs)
def gIf (tc : Addr → KX → DT) (t u : DG) : DG := fun d GG xs δ => tc d xs δ fun b => if b = true then t d GG xs δ else u d GG xs δ
theorem g_if {tc : Addr → KX → DT} (hc : ∀ d (hd : p0.Hi d = none) xs B, keysOk p0.K B xs → PDT X (pD X.prog X.w p0 d hd xs B) c (tc d xs)) (ha : PGSs X p0 a t) (hb : PGSs X p0 b u) : PGS X p0 (.If c a b pos) (gIf tc t u) := by
  refine ⟨PS.imp (ps_if (PT.any (ι := Gi p0) fun i => (hc i.1 i.2.1 i.2.2.1 i.2.2.2.1 i.2.2.2.2).pt) ha.pss hb.pss) ?_⟩
  rintro Dn σ H ⟨d, hd, xs, B, F, δ, GG, g, hk, hB, q, kn, kb, kc, kr⟩
  refine ⟨⟨d, hd, xs, B, hk⟩, F, δ, _, g, q, fun b H1 F1 e1 q1 => ?_⟩
  have g1 := (pD X.prog X.w p0 d hd xs B).step g e1
  cases b with
  | true =>
    dsimp only at q1 ⊢
    rw [if_pos rfl] at q1 ⊢
    exact ⟨d, hd, xs, B, F1, δ, GG, g1, hk, hB, q1, kn.mono e1.ff, kb.mono e1.ff, kc.mono e1.ff, kr⟩
  | false =>
    dsimp only at q1 ⊢
    rw [if_neg Bool.false_ne_true] at q1 ⊢
    exact ⟨d, hd, xs, B, F1, δ, GG, g1, hk, hB, q1, kn.mono e1.ff, kb.mono e1.ff, kc.mono e1.ff, kr⟩
def gWhile (tc : Addr → KX → DT) (tb : DG) : DG := fun d GG xs δ => ∃ I : Nat → KX → DS → Prop, (∃ m, I m xs δ) ∧ ∀ m xs' δ', I m xs' δ' → tc d xs' δ' fun b => if b = true then
  tb d { nx := fun x2 δ2 => ∃ m', m' < m ∧ I m' x2 δ2, ct := fun x2 δ2 => ∃ m', m' < m ∧ I m' x2 δ2, bk := GG.nx, rt := GG.rt } xs' δ' else GG.nx xs' δ'
theorem g_while {body : List Stmt} {tc : Addr → KX → DT} (hp : PassesOwn (model X.prog X.w) X.A X.env X.xe) (hc : ∀ d (hd : p0.Hi d = none) xs B, keysOk p0.K B xs → PDT X (pD X.prog X.w p0 d hd xs B) c (tc d xs)) (hb : PGSs X p0 body t) : PGS X p0 (.While c body [] pos) (gWhile tc t) := by
  refine ⟨PS.imp (ps_while hp (PT.any (ι := Gi p0) fun i => (hc i.1 i.2.1 i.2.2.1 i.2.2.2.1 i.2.2.2.2).pt) hb.pss) ?_⟩
  rintro Dn σ H ⟨d, hd, xs, B, F, δ, GG, g, hk, hB, ⟨I, ⟨m0, i0⟩, turn⟩, kn, kb, kc, kr⟩
  refine ⟨fun m σ' H' => ∃ xs' B' F' δ', (pD X.prog X.w p0 d hd xs' B').G F' σ' δ' H' ∧ keysOk p0.K B' xs' ∧ Same p0.B B' ∧ Same F F' ∧ I m xs' δ', ⟨m0, xs, B, F, δ, g, hk, hB, Same.refl F, i0⟩, ?_⟩
  rintro m σ1 H1 ⟨xs1, B1, F1, δ1, g1, hk1, hB1, s1, i1⟩
  refine ⟨⟨d, hd, xs1, B1, hk1⟩, F1, δ1, _, g1, turn m xs1 δ1 i1, fun b H2 F2 e2 q2 => ?_⟩
  have g2 := (pD X.prog X.w p0 d hd xs1 B1).step g1 e2
  have s2 := s1.trans e2.ff
  cases b with
  | true =>
    dsimp only at q2 ⊢
    rw [if_pos rfl] at q2 ⊢
    refine ⟨fun σ' H' => ∃ xs' B' F' δ', (pD X.prog X.w p0 d hd xs' B').G F' σ' δ' H' ∧ keysOk p0.K B' xs' ∧ Same p0.B B' ∧ Same F F' ∧ ∃ m', m' < m ∧ I m' xs' δ', fun σ' H' ⟨xs', B', F', δ', g', k', b', s', m', hm, im⟩ => ⟨m', hm, xs', B', F', δ', g', k', b', s', im⟩, ?_⟩
    exact ⟨d, hd, xs1, B1, F2, δ1, _, g2, hk1, hB1, q2, fun xs' B' σ' H' F' δ' g' k' b' s' q' => ⟨xs', B', F', δ', g', k', b', s2.trans s', q'⟩, kn.mono s2, fun xs' B' σ' H' F' δ' g' k' b' s' q' => ⟨xs', B', F', δ', g', k', b', s2.trans s', q'⟩, kr⟩
  | false =>
    dsimp only at q2 ⊢
    rw [if_neg Bool.false_ne_true] at q2 ⊢
    exact kn xs1 B1 σ1 H2 F2 δ1 g2 hk1 hB1 s2 q2
def gFor (te : Addr → KX → DE) (q : Pat) (tb : DG) : DG := fun d GG xs δ => te d xs δ fun x => isOwn x = false ∧ ∃ items, D.items x = some items ∧ ∃ I : Nat → KX → DS → Prop, I 0 xs δ ∧
  (∀ i y xs' δ', items[i]? = some y → I i xs' δ' → bP q y δ' fun δ1 => tb d { nx := I (i + 1), ct := I (i + 1), bk := GG.nx, rt := GG.rt } xs' δ1) ∧ ∀ xs' δ', I items.length xs' δ' → GG.nx xs' δ'
theorem g_for {tg iter : Expr} {body : List Stmt} {te : Addr → KX → DE} {q : Pat} (hpk : p0.K = X.K) (hp : PassesOwn (model X.prog X.w) X.A X.env X.xe) (hc : X.calm = true) (hi : ∀ d (hd : p0.Hi d = none) xs B, keysOk p0.K B xs → PDE X (pD X.prog X.w p0 d hd xs B) iter (te d xs))
    (hg : PDG X p0 tg q) (hb : PGSs X p0 body t) (hs : ∀ x, foldedSetIterable iter X.env x = pure x := by intro _; rfl) : PGS X p0 (.For tg iter body [] pos) (gFor te q t) := by
  refine ⟨PS.imp (ps_for hp hc (pi_seq (PE.any (ι := Gi p0) fun i => (hi i.1 i.2.1 i.2.2.1 i.2.2.2.1 i.2.2.2.2).pe)) hg.pg hb.pss hs) ?_⟩
  rintro Dn σ H ⟨d, hd, xs, B, F, δ, GG, g, hk, hB, qq, kn, kb, kc, kr⟩
  refine ⟨⟨d, hd, xs, B, hk⟩, F, δ, _, g, qq, fun x H1 F1 dx e1 r1 ⟨ho, items, hit, I, i0, step, fin⟩ => ?_⟩
  have g1 := (pD X.prog X.w p0 d hd xs B).step g e1
  rw [res_data ho] at r1
  have key : ∀ (Wt : It), (∀ xs' B', Walks (pD X.prog X.w p0 d hd xs' B') F1 Wt items) → ∃ W : Nat → Nat → St → Hp → Prop, (∃ m, W 0 m σ H1) ∧ ∀ i m σ2 H2, W i m σ2 H2 →
      (Wt.stop i H2 ∧ Dn.nx σ2 H2) ∨ (Wt.go i H2 ∧ ∃ N : St → Hp → Prop, (∀ σ' H', N σ' H' → ∃ m', m' < m ∧ W (i + 1) m' σ' H') ∧ ∀ x H', Wt.yld i H2 x H' → gP p0.K q x σ2 H' fun σ3 H3 => liftG X.prog X.w p0 t { Dn with nx := N, ct := N, bk := Dn.nx } σ3 H3) := by
    intro Wt hw
    refine ⟨fun i m σ' H' => i + m = items.length ∧ ∃ xs' B' F' δ', (pD X.prog X.w p0 d hd xs' B').G F' σ' δ' H' ∧ keysOk p0.K B' xs' ∧ Same p0.B B' ∧ Same F1 F' ∧ I i xs' δ', ⟨items.length, by omega, xs, B, F1, δ, g1, hk, hB, Same.refl F1, i0⟩, ?_⟩
    rintro i m σ2 H2 ⟨em, xs2, B2, F2, δ2, g2, hk2, hB2, s2, i2⟩
    obtain ⟨wg, wst⟩ := hw xs2 B2 F2 H2 s2 g2.ok i
    by_cases hlt : i < items.length
    · obtain ⟨w1, w2⟩ := wg hlt
      refine .inr ⟨w1, fun σ' H' => ∃ xs' B' F' δ', (pD X.prog X.w p0 d hd xs' B').G F' σ' δ' H' ∧ keysOk p0.K B' xs' ∧ Same p0.B B' ∧ Same F1 F' ∧ I (i + 1) xs' δ', fun σ' H' ⟨xs', B', F', δ', g', k', b', s', i'⟩ => ⟨m - 1, by omega, by omega, xs', B', F', δ', g', k', b', s', i'⟩, fun x H3 hy => ?_⟩
      obtain ⟨F3, y, hyy, e3, r3⟩ := w2 x H3 hy
      have g3 := (pD X.prog X.w p0 d hd xs2 B2).step g2 e3
      refine bP_ok (p := pD X.prog X.w p0 d hd xs2 B2) q y x _ _ _ _ g3 r3 (step i y xs2 δ2 hyy i2) fun σ4 δ4 g4 _ q4 => ?_
      have s3 := s2.trans e3.ff
      exact ⟨d, hd, xs2, B2, F3, δ4, _, g4, hk2, hB2, q4, fun xs' B' σ' H' F' δ' g' k' b' s' q' => ⟨xs', B', F', δ', g', k', b', s3.trans s', q'⟩, kn.mono (e1.ff.trans s3), fun xs' B' σ' H' F' δ' g' k' b' s' q' => ⟨xs', B', F', δ', g', k', b', s3.trans s', q'⟩, kr⟩
    · have ei : i = items.length := by omega
      subst ei
      exact .inl ⟨wst (Nat.le_refl _), kn xs2 B2 σ2 H2 F2 δ2 g2 hk2 hB2 (e1.ff.trans s2) (fin xs2 δ2 i2)⟩
  cases dx <;> simp only [D.items, Option.some.injEq, reduceCtorEq] at hit
  · subst hit
    simp only [Rep] at r1
    obtain ⟨a, ys, rfl, h1, h2⟩ := r1
    have h1' : SqT X.K F1 a ys := by rw [← hpk]; exact h1
    exact ⟨a, rfl, .inr ⟨⟨ys, sqT_mono e1.ok.fh h1'⟩, key _ fun xs' B' => walks_t (p := pD X.prog X.w p0 d hd xs' B') hpk h1' h2⟩⟩
  · subst hit
    simp only [Rep] at r1
    obtain ⟨a, ys, rfl, h1, h2⟩ := r1
    exact ⟨a, rfl, .inl ⟨⟨ys, SqL.of (e1.ok.fh _ _ h1)⟩, key _ fun xs' B' => walks_l (p := pD X.prog X.w p0 d hd xs' B') hpk h1 h2⟩⟩
  · cases ho
end
end DL
set_option Elab.async false
set_option linter.all false
set_option maxRecDepth 100000
set_option maxHeartbeats 1000000
namespace DL
open PySem PySem.Spec PyProof.Rows L2
def inX (k : NestedKey) (xs : KX) : Bool := xs.any fun z => decide (z.1 = k)
def isTupD : D → Bool
  | .tup _ => true | _ => false
def keyD (x : D) : Prop := isKey x = true ∧ isTupD x = true ∧ (keyOf x).depth ≤ 8
theorem isTup_of {x : D} (h : isTupD x = true) : ∃ ds, x = .tup ds := by cases x <;> first | exact ⟨_, rfl⟩ | cases h
theorem isKey_own {x : D} (h : isKey x = true) : isOwn x = false := by cases x <;> first | rfl | simp [isKey] at h
section
variable {X : Cx} {p0 : Pt} {rest : List Stmt} {u : DG} {pos pos' : Pos} {c e : Expr}
/-- e not in known -/
def dNotInX (i : Nat) (d : Addr) (xs : KX) (te : DE) : DE := fun δ Q => te δ fun x => keyD x ∧ δ[i]? = some (some (.opq (.ref d))) ∧ Q (.bl (!inX (keyOf x) xs))
theorem de_notInX {x : Str} {pn : Pos} {te : DE} {d : Addr} {hd : p0.Hi d = none} {xs : KX} {B : Hp} (i : Nat) (hk : p0.K = X.K) (hu : X.A.units + 64 < cLine) (hx : keysOk p0.K B xs) (he : PDE X (pD X.prog X.w p0 d hd xs B) e te)
    (hN : X.N[i]? = some x := by rfl) (hv : Vis X.env.scope x := by first | exact Or.inl rfl | exact Or.inr (Or.inl rfl) | exact Or.inr (Or.inr rfl)) (hdb : (x == ("__debug__" : Str)) = false := by decide) (hcd : (x == ("__classdict__" : Str)) = false := by decide)
    (hm : behindInMarks .NotIn (.Name x pn) = false := by rfl) : PDE X (pD X.prog X.w p0 d hd xs B) (.Compare e [.NotIn] [.Name x pn] pos) (dNotInX i d xs te) := by
  refine ⟨PE.imp (pe_cmpR (op_notInX hu) he.pe (dv (p := pD X.prog X.w p0 d hd xs B) i hN hv hdb hcd).pe hm) ?_⟩
  rintro σ H Q ⟨F, δ, QD, g, q, k⟩
  refine ⟨F, δ, _, g, q, fun v H1 F1 dx e1 r1 ⟨⟨k1, k2, k3⟩, hs, q1⟩ => ?_⟩
  have g1 := (pD X.prog X.w p0 d hd xs B).step g e1
  refine ⟨F1, δ, fun y => y = .opq (.ref d), g1, ⟨_, hs, rfl⟩, fun v2 H2 F2 d2 e2 r2 q2 => ?_⟩
  subst q2
  have g2 := (pD X.prog X.w p0 d hd xs B).step g1 e2
  have ev : v2 = .ref d := by
    have := (res_data (d := .opq (.ref d)) rfl).mp r2
    simpa only [Rep] using this
  have r1' : Rep p0.K F1 dx v := (res_data (isKey_own k1)).mp r1
  have r3 := Rep.mono e2.ff _ _ r1'
  have r4 := Rep.mono g2.ok.fh _ _ r3
  obtain ⟨ds, rfl⟩ := isTup_of k2
  obtain ⟨a, ys, rfl, _⟩ := (show ∃ a ys, v = .ref a ∧ SqT p0.K F1 a ys ∧ RepL p0.K F1 ds ys by simpa only [Rep] using r1')
  refine ⟨d, xs, keyOf (.tup ds), a, ev, rfl, (g_at g2).1, ?_, ⟨.tup ds, k1, rfl, k3, by rw [← hk]; exact r4⟩, ?_⟩
  · rw [← hk]; exact (hx.mono g2.bs).mono g2.ok.fh
  · exact k (.bl (!inX (keyOf (.tup ds)) xs)) H2 F2 _ (e1.trans g.ok e2) (res_bl _) q1
theorem dt_notInX {x : Str} {pn : Pos} {te : DE} {d : Addr} {hd : p0.Hi d = none} {xs : KX} {B : Hp} (i : Nat) (hk : p0.K = X.K) (hu : X.A.units + 64 < cLine) (hx : keysOk p0.K B xs) (he : PDE X (pD X.prog X.w p0 d hd xs B) e te)
    (hN : X.N[i]? = some x := by rfl) (hv : Vis X.env.scope x := by first | exact Or.inl rfl | exact Or.inr (Or.inl rfl) | exact Or.inr (Or.inr rfl)) (hdb : (x == ("__debug__" : Str)) = false := by decide) (hcd : (x == ("__classdict__" : Str)) = false := by decide)
    (hm : behindInMarks .NotIn (.Name x pn) = false := by rfl) : PDT X (pD X.prog X.w p0 d hd xs B) (.Compare e [.NotIn] [.Name x pn] pos) (dTest (dNotInX i d xs te)) := by
  refine ⟨PT.imp (pt_cmpR (op_notInX hu) he.pe (dv (p := pD X.prog X.w p0 d hd xs B) i hN hv hdb hcd).pe hm) ?_⟩
  rintro σ H Q ⟨F, δ, QD, g, q, k⟩
  refine ⟨F, δ, _, g, q, fun v H1 F1 dx e1 r1 ⟨⟨k1, k2, k3⟩, hs, b, eb, q1⟩ => ?_⟩
  injection eb with eb
  subst eb
  have g1 := (pD X.prog X.w p0 d hd xs B).step g e1
  refine ⟨F1, δ, fun y => y = .opq (.ref d), g1, ⟨_, hs, rfl⟩, fun v2 H2 F2 d2 e2 r2 q2 => ?_⟩
  subst q2
  have g2 := (pD X.prog X.w p0 d hd xs B).step g1 e2
  have ev : v2 = .ref d := by
    have := (res_data (d := .opq (.ref d)) rfl).mp r2
    simpa only [Rep] using this
  have r1' : Rep p0.K F1 dx v := (res_data (isKey_own k1)).mp r1
  have r3 := Rep.mono e2.ff _ _ r1'
  have r4 := Rep.mono g2.ok.fh _ _ r3
  obtain ⟨ds, rfl⟩ := isTup_of k2
  obtain ⟨a, ys, rfl, _⟩ := (show ∃ a ys, v = .ref a ∧ SqT p0.K F1 a ys ∧ RepL p0.K F1 ds ys by simpa only [Rep] using r1')
  refine ⟨d, xs, keyOf (.tup ds), a, ev, rfl, (g_at g2).1, ?_, ⟨.tup ds, k1, rfl, k3, by rw [← hk]; exact r4⟩, ?_⟩
  · rw [← hk]; exact (hx.mono g2.bs).mono g2.ok.fh
  · exact ⟨_, rfl, k _ H2 F2 (e1.trans g.ok e2) q1⟩
/-- known[e] = True -/
def gPut (i : Nat) (te : Addr → KX → DE) : DG := fun d GG xs δ => δ[i]? = some (some (.opq (.ref d))) ∧ te d xs δ fun x => keyD x ∧ inX (keyOf x) xs = false ∧ xs.length < sizeLine ∧ ∀ a, GG.nx (xs ++ [(keyOf x, a)]) δ
theorem g_put_ {x : Str} {pn pb : Pos} {jb : Nat} {te : Addr → KX → DE} (i : Nat) (hk : p0.K = X.K) (hu : X.A.units + 64 < cLine) (he : ∀ d (hd : p0.Hi d = none) xs B, keysOk p0.K B xs → PDE X (pD X.prog X.w p0 d hd xs B) e (te d xs))
    (hN : X.N[i]? = some x := by rfl) (hv : Vis X.env.scope x := by first | exact Or.inl rfl | exact Or.inr (Or.inl rfl) | exact Or.inr (Or.inr rfl)) (hdb : (x == ("__debug__" : Str)) = false := by decide) (hcd : (x == ("__classdict__" : Str)) = false := by decide)
    (hs : swapsWith (.Constant (.bool true) jb pb) (some (.Subscript (.Name x pn) e pos')) pos.line X.env = pure false := by rfl) :
    PGS X p0 (.Assign [.Subscript (.Name x pn) e pos'] (.Constant (.bool true) jb pb) pos) (gPut i te) := by
  refine ⟨PS.imp (ps_xput hu (pe_var hN hv hdb hcd) (PE.any (ι := Gi p0) fun z => (he z.1 z.2.1 z.2.2.1 z.2.2.2.1 z.2.2.2.2).pe) pe_bl hs) ?_⟩
  rintro Dn σ H ⟨d, hd, xs, B, F, δ, GG, g, hx, hB, ⟨hsl, q⟩, kn, kb, kc, kr⟩
  · obtain ⟨v, h1, h2⟩ := g.var i _ hsl
    have ev : v = .ref d := by
      have h2' : Rep p0.K F (.opq (.ref d)) v := h2
      simpa only [Rep] using h2'
    subst ev
    refine ⟨.ref d, h1, ⟨d, hd, xs, B, hx⟩, F, δ, _, g, q, fun v H1 F1 dx e1 r1 ⟨⟨k1, k2, k3⟩, hn, hl, q1⟩ => ?_⟩
    have g1 := (pD X.prog X.w p0 d hd xs B).step g e1
    have r1' : Rep p0.K F1 dx v := (res_data (isKey_own k1)).mp r1
    have r4 := Rep.mono g1.ok.fh _ _ r1'
    obtain ⟨ds, rfl⟩ := isTup_of k2
    obtain ⟨a, ys, rfl, _⟩ := (show ∃ a ys, v = .ref a ∧ SqT p0.K F1 a ys ∧ RepL p0.K F1 ds ys by simpa only [Rep] using r1')
    have hxB := hx.mono g1.bs
    obtain ⟨c1, c2⟩ := g_at g1
    refine ⟨rfl, d, xs, keyOf (.tup ds), a, rfl, rfl, c1, ?_, ⟨.tup ds, k1, rfl, k3, by rw [← hk]; exact r4⟩, hn, hl, ?_⟩
    · rw [← hk]; exact hxB.mono g1.ok.fh
    · have g2 := g_put (xs' := xs ++ [(keyOf (.tup ds), a)]) (g_back (hd := hd) g1 hB) hd c1 c2
      have g3 := g_in g2 hd upd_same c2 (Same.refl F1)
      refine kn (xs ++ [(keyOf (.tup ds), a)]) F1 σ _ F1 δ g3 ?_ (hB.trans g1.bs) e1.ff (q1 a)
      intro z hz
      rcases List.mem_append.mp hz with y | y
      · exact hxB z y
      · have : z = (keyOf (.tup ds), a) := by simpa using y
        subst this
        exact ⟨.tup ds, k1, rfl, k3, r1'⟩
/-! ### the beginnings -/
/-- {k: True} -/
def tDispX (P : Program) (w : World) (K : PySem.W.Frag) (ty : TE) : TE := fun σ H Q => ∀ p, H p = none → ty σ (L2.upd H p (dctO P w p [])) fun y H2 => H2 p = some (dctO P w p []) ∧ ∃ a kk, y = .ref a ∧ KeyAt K H2 kk y ∧ Q (.ref p) (L2.upd H2 p (dctO P w p [(kk, a)]))
theorem pe_dispX {k : Expr} {ty : TE} {jb : Nat} {pb : Pos} (hu : X.A.units + 64 < cLine) (hk : PE X k ty) : PE X (.Dict [some k] [.Constant (.bool true) jb pb] pos) (tDispX X.prog X.w X.K ty) := by
  refine ⟨fun pins s σ H Q I q => ?_⟩
  have hn := I.hok.fresh (Nat.le_refl s.heap.objs.size)
  have hsy : (s.heap.objs.size == sysModules) = false := beq_eq_false_iff_ne.mpr (Ne.symm (Nat.ne_of_lt I.big))
  have I1 := I.laid (a := s.heap.objs.size) (o := dctO X.prog X.w s.heap.objs.size []) (h' := s.heap.push { cls := .type "dict", data := .dict #[] }) (t' := s.toks) (fun _ _ q => Heap.get?_push_of_some _ q) (Nat.le_refl _)
    (dct_ok hsy (Nat.zero_le _) (Heap.DictOfH.new s.heap))
  have h0 : pairTrees [some k] [.Constant (.bool true) jb pb] X.env pos ≠ [] := by simp [pairTrees]
  rw [arm_eval_Dict, zip_pairTrees [some k] [.Constant (.bool true) jb pb] X.env pos rfl rfl, dictDisplay_pairs _ h0 (by simp [pairTrees])]
  refine wpAny_bind (wpAny_standAt (wpAny_bind (wpAny_subDictH (knd := nestedKind X.prog X.w) (Q := fun d s' => wpAny (model X.prog X.w) X.A (pure (Value.ref d)) (EP X pins σ Q) X.xe s') (show X.A.units + 8 < cLine by omega) (by simp [pairTrees]) ?_)))
  refine pairTrees_cons_walk (thn (hk.run pins _ σ _ _ I1 (q _ hn)) fun u s2 ⟨y, H2, I2, ry, e, a, kk, ey, ka, q2⟩ => ?_)
  refine thn ((pe_bl (X := X)).run pins s2 σ H2 (fun v H3 => v = .bl true ∧ H3 = H2) I2 ⟨rfl, rfl⟩) fun vv s3 ⟨v3, H3, I3, rv, ev, eH⟩ => ?_
  subst ev eH ey
  cases (show u = Value.ref a from ry)
  cases (show vv = Value.bool true from rv)
  refine pairTrees_nil_walk ?_
  obtain ⟨_, _, dd⟩ := dct_at I3 e (fun z hz => nomatch hz)
  refine ⟨[(kk, a, .bool true)], ⟨rfl, rfl, key_is I3 ka, trivial⟩, dd, fun h' tk hd' hs' => wpAny_pure ⟨.ref s.heap.objs.size, _, ?_, rfl, q2⟩⟩
  have hd2 : h'.DictOfH (nestedKind X.prog X.w) s.heap.objs.size (kvX [(kk, a)]) := hd'
  refine d_write (t' := tk) I3 (by rw [e]; exact True.intro) hs' ?_ (dct_ok hsy (by rw [sizeLine_eq]; show 1 ≤ 16777216; decide) hd2)
  obtain ⟨q, _, _, hq, _⟩ := hd2
  exact ⟨q, hq⟩
/-- x, known, y = e, {}, e2 -/
def dStart3 (i j l : Nat) (ta tc : DE) (u : DG) : DSt := fun DD δ => ta δ fun x => isOwn x = false ∧ tc δ fun z => isOwn z = false ∧ ∀ d, u d ⟨fun _ δ' => DD.nx δ', DD.rt, fun _ δ' => DD.bk δ', fun _ δ' => DD.ct δ'⟩ [] (((δ.set i (some x)).set j (some (.opq (.ref d)))).set l (some z))
theorem dss_par3X {i j l : Nat} {x y z : Str} {a c : Expr} {px py pz pt pp pd : Pos} {kt k2 pt2} {ta tc : DE} (hc : X.calm = true) (hN : X.N.Nodup) (hi : X.N[i]? = some x) (hj : X.N[j]? = some y) (hl : X.N[l]? = some z) (hij : i ≠ j) (hil : i ≠ l) (hjl : j ≠ l)
    (hx : X.env.scope.names.lookup x = some .local) (hy : X.env.scope.names.lookup y = some .local) (hz : X.env.scope.names.lookup z = some .local) (ha : PDE X p0 a ta) (hcc : PDE X p0 c tc) (hr : PGSs X p0 rest u)
    (hw : swappedStores [.Tuple [.Name x px, .Name y py, .Name z pz] kt pt] (.Tuple [a, .Dict [] [] pd, c] k2 pt2) X.env = pure (some [x, y, z]))
    (hs : swapsWithSole [.Tuple [.Name x px, .Name y py, .Name z pz] kt pt] (.Tuple [a, .Dict [] [] pd, c] k2 pt2) pp.line X.env = pure false := by rfl)
    (h1 : starEach (a :: [.Dict [] [] pd, c]) X.env = (false, eval a X.env) :: starEach [.Dict [] [] pd, c] X.env := by rfl) (h2 : starEach (.Dict [] [] pd :: [c]) X.env = (false, eval (.Dict [] [] pd) X.env) :: starEach [c] X.env := by rfl)
    (h3 : starEach (c :: []) X.env = (false, eval c X.env) :: starEach [] X.env := by rfl) :
    PDSs X p0 (.Assign [.Tuple [.Name x px, .Name y py, .Name z pz] kt pt] (.Tuple [a, .Dict [] [] pd, c] k2 pt2) pp :: rest) (dStart3 i j l ta tc u) := by
  refine ⟨PSs.imp (pss_cons (ps_par3 hc hN hi hj hl hij hil hjl hx hy hz (pa_cons ha.pe (pa_cons pe_dnewX (pa_cons hcc.pe pa_nil h3) h2) h1) hw hs) hr.pss) ?_⟩
  rintro Dn σ H ⟨F, δ, DD, g, q, kn, kb, kc, kr⟩
  refine ⟨F, δ, _, g, q, fun v H1 F1 dx e1 r1 ⟨ho, q1⟩ => ?_⟩
  have g1 := p0.step g e1
  intro d hd1
  have e2 := ext_raw (o := dctO X.prog X.w d []) g1.ok hd1
  have g2 := p0.step g1 e2
  refine ⟨F1, δ, _, g2, q1, fun v3 H3 F3 d3 e3 r3 ⟨ho3, q3⟩ => ?_⟩
  have g3 := p0.step g2 e3
  have nd := nodom g1.ok hd1
  have hH : H3 d = some (dctO X.prog X.w d []) := e3.keep d _ upd_same nd
  have hF : F3 d = none := e3.new d _ upd_same (fnone g1.ok hd1)
  have hHi : p0.Hi d = none := g1.ext.back hd1
  refine ⟨v, .ref d, v3, rfl, ?_⟩
  have r1' : Rep p0.K F3 dx v := Rep.mono e3.ff _ _ ((res_data ho).mp r1)
  have r3' : Rep p0.K F3 d3 v3 := (res_data ho3).mp r3
  have g4 := ((g3.setD (i := i) r1').setD (i := j) (d := .opq (.ref d)) (v := .ref d) (by simp only [Rep])).setD (i := l) r3'
  refine ⟨d, hHi, [], F3, F3, _, _, g_in g4 hHi hH hF (Same.refl F3), (fun z hz => nomatch hz), g4.bs, q3 d, ?_, ?_, ?_, fun v' H' F' d' e r q' => kr v' H' F' d' e r q'⟩
  · intro xs B σ' H' F' δ' g' _ hB s' q'
    exact kn σ' H' F' δ' (g_back (hd := hHi) g' hB) ((e1.ff.trans e3.ff).trans s') q'
  · intro xs B σ' H' F' δ' g' _ hB s' q'
    exact kb σ' H' F' δ' (g_back (hd := hHi) g' hB) ((e1.ff.trans e3.ff).trans s') q'
  · intro xs B σ' H' F' δ' g' _ hB s' q'
    exact kc σ' H' F' δ' (g_back (hd := hHi) g' hB) ((e1.ff.trans e3.ff).trans s') q'
/-- known, x = {e: True}, [..] -/
def dStart2 (i j : Nat) (tk : DE) (ta : DA) (u : DG) : DSt := fun DD δ => tk δ fun x => keyD x ∧ ta δ fun ds => ∀ d a, u d ⟨fun _ δ' => DD.nx δ', DD.rt, fun _ δ' => DD.bk δ', fun _ δ' => DD.ct δ'⟩ [(keyOf x, a)] ((δ.set i (some (.opq (.ref d)))).set j (some (.own ds)))
theorem dss_par2X {i j : Nat} {x y : Str} {k c : Expr} {px py pt pp pd pb : Pos} {kt k2 pt2 jb} {tk : DE} {ta : DA} (hk : p0.K = X.K) (hu : X.A.units + 64 < cLine) (hc : X.calm = true) (hN : X.N.Nodup) (hi : X.N[i]? = some x) (hj : X.N[j]? = some y) (hij : i ≠ j)
    (hx : X.env.scope.names.lookup x = some .local) (hy : X.env.scope.names.lookup y = some .local) (hke : PDE X p0 k tk) (hcc : PDL X p0 c ta) (hr : PGSs X p0 rest u)
    (hw : swappedStores [.Tuple [.Name x px, .Name y py] kt pt] (.Tuple [.Dict [some k] [.Constant (.bool true) jb pb] pd, c] k2 pt2) X.env = pure (some [x, y]))
    (hs : swapsWithSole [.Tuple [.Name x px, .Name y py] kt pt] (.Tuple [.Dict [some k] [.Constant (.bool true) jb pb] pd, c] k2 pt2) pp.line X.env = pure false := by rfl)
    (h1 : starEach (.Dict [some k] [.Constant (.bool true) jb pb] pd :: [c]) X.env = (false, eval (.Dict [some k] [.Constant (.bool true) jb pb] pd) X.env) :: starEach [c] X.env := by rfl)
    (h3 : starEach (c :: []) X.env = (false, eval c X.env) :: starEach [] X.env := by rfl) :
    PDSs X p0 (.Assign [.Tuple [.Name x px, .Name y py] kt pt] (.Tuple [.Dict [some k] [.Constant (.bool true) jb pb] pd, c] k2 pt2) pp :: rest) (dStart2 i j tk ta u) := by
  refine ⟨PSs.imp (pss_cons (ps_par hc hN hi hj hij hx hy (pa_cons (pe_dispX hu hke.pe) (pa_cons hcc.pe pa_nil h3) h1) hw hs) hr.pss) ?_⟩
  rintro Dn σ H ⟨F, δ, DD, g, q, kn, kb, kc, kr⟩
  intro d hd0
  have e0 := ext_raw (o := dctO X.prog X.w d []) g.ok hd0
  have g0 := p0.step g e0
  refine ⟨F, δ, _, g0, q, fun v H1 F1 dx e1 r1 ⟨⟨k1, k2, k3⟩, q1⟩ => ?_⟩
  have g1 := p0.step g0 e1
  have nd := nodom g.ok hd0
  have hH : H1 d = some (dctO X.prog X.w d []) := e1.keep d _ upd_same nd
  have hF : F1 d = none := e1.new d _ upd_same (fnone g.ok hd0)
  have hHi : p0.Hi d = none := g.ext.back hd0
  have r1' : Rep p0.K F1 dx v := (res_data (isKey_own k1)).mp r1
  obtain ⟨ds, rfl⟩ := isTup_of k2
  obtain ⟨a, ys, rfl, _⟩ := (show ∃ a ys, v = .ref a ∧ SqT p0.K F1 a ys ∧ RepL p0.K F1 ds ys by simpa only [Rep] using r1')
  refine ⟨hH, a, keyOf (.tup ds), rfl, ⟨.tup ds, k1, rfl, k3, by rw [← hk]; exact Rep.mono g1.ok.fh _ _ r1'⟩, ?_⟩
  have g2 := g_put (xs' := [(keyOf (.tup ds), a)]) g1 hHi hH hF
  refine ⟨F1, δ, _, g2, q1, fun b zs H3 F3 es e3 n1 n2 n3 r3 q3 => ?_⟩
  refine ⟨.ref d, .ref b, rfl, ?_⟩
  have nb : b ≠ d := fun z => by rw [z, upd_same] at n1; cases n1
  have hH3 : H3 d = some (dctO X.prog X.w d [(keyOf (.tup ds), a)]) := e3.keep d _ upd_same nd
  have hF3 : F3 d = none := e3.new d _ upd_same hF
  have g5 := own_new (i := j) (g2.setD (i := i) (d := .opq (.ref d)) (v := .ref d) (by simp only [Rep])) e3 n1 n2 n3 r3
  refine ⟨d, hHi, [(keyOf (.tup ds), a)], F3, F3, _, _, g_in g5 hHi hH3 hF3 (Same.refl F3), ?_, g5.bs, q3 d a, ?_, ?_, ?_, fun v' H' F' d' e r q' => kr v' H' F' d' e r q'⟩
  · intro z hz
    have : z = (keyOf (.tup ds), a) := by simpa using hz
    subst this
    exact ⟨.tup ds, k1, rfl, k3, Rep.mono e3.ff _ _ r1'⟩
  · intro xs B σ' H' F' δ' g' _ hB s' q'
    exact kn σ' H' F' δ' (g_back (hd := hHi) g' hB) ((e1.ff.trans e3.ff).trans s') q'
  · intro xs B σ' H' F' δ' g' _ hB s' q'
    exact kb σ' H' F' δ' (g_back (hd := hHi) g' hB) ((e1.ff.trans e3.ff).trans s') q'
  · intro xs B σ' H' F' δ' g' _ hB s' q'
    exact kc σ' H' F' δ' (g_back (hd := hHi) g' hB) ((e1.ff.trans e3.ff).trans s') q'
theorem de_callCJ {p : Pt} {J : Reg} {k k' : Nat} {ps : List Str} {sp : DSp} {x : Str} {p1 : Pos} {es : List Expr} {t : DA} (hk : p.K = X.K) (hJ : p.J = J) (C : Callee X.prog X.w X.K X.mg X.base k x ps sp) (hr : Room k' X.A) (ha : PDA X p (e :: es) t) (hle : k ≤ k' := by decide) (hg : Gl X x := by rfl)
    (hdb : (x == ("__debug__" : Str)) = false := by decide) (he : starEach (e :: es) X.env = (false, eval e X.env) :: starEach es X.env := by rfl) (hpl : (backTo pos (starEach es X.env)).any (·.1) = false := by rfl) :
    PDE X p (.Call (.Name x p1) (e :: es) [] pos) (dCall (sp J) t) := by
  subst hJ
  exact de_callC hk C hr ha hle hg hdb he hpl
end
end DL
set_option Elab.async false
set_option linter.all false
set_option maxRecDepth 10000
namespace K97
open PySem DL
/-! ## 1. how far one gets: the numbers of spans -/
def bin : Nat → Nat → Nat
  | 0, _ => 1
  | _ + 1, 0 => 1
  | q + 1, t + 1 => bin q (t + 1) + bin (q + 1) t
theorem bin_z (q : Nat) : bin q 0 = 1 := by cases q <;> simp [bin]
theorem bin_ids : ∀ q : Nat, (∀ t, (t + 1) * bin q (t + 1) = (q + t + 1) * bin q t) ∧ (∀ t, (q + 1) * bin (q + 1) t = (q + t + 1) * bin q t) := by
  have two : ∀ q : Nat, (∀ t, (t + 1) * bin q (t + 1) = (q + t + 1) * bin q t) → (∀ t, (q + 1) * bin (q + 1) t = (q + t + 1) * bin q t) := by
    intro q h1 t
    induction t with
    | zero => rw [bin_z, bin_z] <;> rfl
    | succ t ih =>
      have e : bin (q + 1) (t + 1) = bin q (t + 1) + bin (q + 1) t := by rw [bin]
      rw [e, Nat.mul_add, ih, ← h1 t, ← Nat.add_mul]
      congr 1 <;> omega
  intro q
  induction q with
  | zero =>
    have h1 : ∀ t, (t + 1) * bin 0 (t + 1) = (0 + t + 1) * bin 0 t := fun t => by simp [bin]
    exact ⟨h1, two 0 h1⟩
  | succ q ih =>
    have h1 : ∀ t, (t + 1) * bin (q + 1) (t + 1) = (q + 1 + t + 1) * bin (q + 1) t := fun t => by
      have e : bin (q + 1) (t + 1) = bin q (t + 1) + bin (q + 1) t := by rw [bin]
      rw [e, Nat.mul_add, ih.1 t, ← ih.2 t, ← Nat.add_mul]
      congr 1 <;> omega
    exact ⟨h1, two (q + 1) h1⟩
theorem bin_step (q t : Nat) : bin q t * (q + t + 1) / (t + 1) = bin q (t + 1) := by
  have h := (bin_ids q).1 t
  rw [Nat.mul_comm, ← h, Nat.mul_comm, Nat.mul_div_cancel _ (Nat.succ_pos t)]
theorem bin_pos (q t : Nat) : 1 ≤ bin q t := by
  induction q generalizing t with
  | zero => simp [bin]
  | succ q ih =>
    cases t with
    | zero => simp [bin]
    | succ t => rw [bin]; have := ih (t + 1); omega
theorem bin_mono (q t : Nat) : bin q t ≤ bin (q + 1) t := by
  cases t with
  | zero => rw [bin_z, bin_z]; exact Nat.le_refl _
  | succ t => rw [bin]; omega
theorem bin_up (q t : Nat) : t + 1 ≤ bin (q + 1) t := by
  induction t with
  | zero => rw [bin_z]; exact Nat.le_refl _
  | succ t ih =>
    rw [bin]
    have := bin_pos q (t + 1)
    omega
theorem bin_one (t : Nat) : bin 1 t = t + 1 := by
  induction t with
  | zero => rw [bin_z]
  | succ t ih => rw [bin, ih]; simp [bin]; omega
/-- the numbers of places, ints -/
def spn (p t : Int) : Int := bin (p + 1).toNat t.toNat
/-! ## 2. the machine -/
structure S where
  here : Int
  kept : List Int
  due : Int
  counts : List Int
def MOVES : List Str := ["step", "keep", "back", "drop", "tell"]
/-- kept: without the 0 that the law's list bears ahead -/
def stp (length places : Int) (s : S) (w : Str) (n : Int) : Option S :=
  if w = "step" then (if n = s.here ∧ n < length then some { s with here := s.here + 1, counts := s.counts.set n.toNat (s.counts.getD n.toNat 0 + 1) } else none)
  else if w = "tell" then (if n = s.here ∧ n = s.due then some { s with due := s.due - 1 } else none)
  else if w = "keep" then (if n = s.here ∧ n ≠ 0 ∧ n ∉ s.kept ∧ (s.kept.length : Int) < places then some { s with kept := s.kept ++ [n] } else none)
  else if w = "back" then (if n = 0 ∨ n ∈ s.kept then some { s with here := n } else none)
  else if w = "drop" then (if n ∈ s.kept then some { s with kept := s.kept.filter fun x => decide (x ≠ n) } else none)
  else none
/-- a move -/
def mv : D → Option (Str × Int)
  | .tup [.str w, .int n] => if w ∈ MOVES ∧ 0 ≤ n then some (w, n) else none
  | _ => none
def runM (length places : Int) : List (Str × Int) → S → Option S
  | [], s => some s
  | (w, n) :: r, s => (stp length places s w n).bind (runM length places r)
def init (length : Int) : S := ⟨0, [], length, List.replicate length.toNat 0⟩
/-- all moves, or none -/
def mvs : List D → Option (List (Str × Int))
  | [] => some []
  | d :: r => (mv d).bind fun m => (mvs r).map (m :: ·)
/-- what is carried out -/
def carry (length places : Int) : D → Option (List Int)
  | .tup ms => (mvs ms).bind fun l => (runM length places l (init length)).bind fun s => if s.due = -1 then some s.counts else none
  | _ => none
theorem runM_append {length places : Int} : ∀ (a b : List (Str × Int)) (s : S), runM length places (a ++ b) s = (runM length places a s).bind (runM length places b)
  | [], _, _ => rfl
  | (w, n) :: a, b, s => by
    show (stp length places s w n).bind (runM length places (a ++ b)) = ((stp length places s w n).bind (runM length places a)).bind (runM length places b)
    cases stp length places s w n with
    | none => rfl
    | some s' => exact runM_append a b s'
/-- the law's run: a move at a time -/
def lawRun (length places : Int) : List D → S → Option S
  | [], s => some s
  | d :: r, s => (mv d).bind fun m => (stp length places s m.1 m.2).bind (lawRun length places r)
theorem lawRun_eq {length places : Int} : ∀ (ms : List D) (s : S), lawRun length places ms s = (mvs ms).bind fun l => runM length places l s
  | [], _ => rfl
  | d :: r, s => by
    show (mv d).bind (fun m => (stp length places s m.1 m.2).bind (lawRun length places r)) = ((mv d).bind fun m => (mvs r).map (m :: ·)).bind fun l => runM length places l s
    cases mv d with
    | none => rfl
    | some m =>
      show (stp length places s m.1 m.2).bind (lawRun length places r) = ((mvs r).map (m :: ·)).bind fun l => runM length places l s
      cases h : stp length places s m.1 m.2 with
      | none =>
        cases mvs r with
        | none => rfl
        | some l => show none = (stp length places s m.1 m.2).bind _; rw [h]; rfl
      | some s' =>
        show lawRun length places r s' = _
        rw [lawRun_eq r s']
        cases mvs r with
        | none => rfl
        | some l => show runM length places l s' = (stp length places s m.1 m.2).bind _; rw [h]; rfl
/-! ## 3. a stack of what waits -/
structure Item where
  at_ : Int
  many : Int
  free : Int
  before : List (Str × Int)
/-- what waits can be carried out from s, the last of the list first; every state of this kind is alike but for the counts -/
def Ready (length places : Int) : List Item → S → Prop
  | [], s => s.due = -1
  | i :: r, s => ∃ s', runM length places i.before s = some s' ∧ s'.here = i.at_ ∧ 0 ≤ i.at_ ∧ (∀ x ∈ s'.kept, x ≤ i.at_) ∧ s'.due = i.at_ + i.many - 1 ∧ 1 ≤ i.many ∧ i.at_ + i.many - 1 ≤ length ∧
      (1 < i.many → (i.at_ = 0 ∨ i.at_ ∈ s'.kept) ∧ (s'.kept.length : Int) = places - i.free ∧ 0 ≤ i.free) ∧ ∀ s'' : S, s''.kept = s'.kept → s''.due = i.at_ - 1 → Ready length places r s''
abbrev mvT (w : Str) (n : Int) : Str × Int := (w, n)
def steps (a : Int) (k : Nat) : List (Str × Int) := (List.range k).map fun i => mvT "step" (a + (i : Nat))
theorem steps_succ (a : Int) (k : Nat) : steps a (k + 1) = steps a k ++ [mvT "step" (a + k)] := by
  unfold steps
  rw [List.range_succ, List.map_append]
  rfl
theorem run_steps {length places : Int} (a : Int) : ∀ (k : Nat) (s : S), s.here = a → a + k ≤ length → ∃ c, runM length places (steps a k) s = some { s with here := a + k, counts := c }
  | 0, s, h, _ => ⟨s.counts, by
    show some s = _
    cases s
    simp only at h
    subst h
    simp⟩
  | k + 1, s, h, hl => by
    obtain ⟨c, e⟩ := run_steps (length := length) (places := places) a k s h (by omega)
    rw [steps_succ, runM_append, e]
    refine ⟨c.set (a + k).toNat (c.getD (a + k).toNat 0 + 1), ?_⟩
    show (stp length places _ "step" (a + k)).bind (runM length places []) = _
    unfold stp
    rw [if_pos rfl, if_pos ⟨rfl, by omega⟩]
    show some _ = some _
    congr 2
    push_cast
    omega
theorem Ready.one {length places : Int} {at_ free : Int} {bef : List (Str × Int)} {r : List Item} {s : S} (h : Ready length places (⟨at_, 1, free, bef⟩ :: r) s) :
    ∃ s2, runM length places (bef ++ [mvT "tell" (at_)]) s = some s2 ∧ Ready length places r s2 := by
  obtain ⟨s', h1, h2, h3, h4, h5, h6, h7, h8, h9⟩ := h
  refine ⟨{ s' with due := s'.due - 1 }, ?_, h9 _ rfl ?_⟩
  · rw [runM_append, h1]
    show (stp length places s' "tell" at_).bind (runM length places []) = _
    unfold stp
    rw [if_neg (by decide), if_pos rfl, if_pos ⟨h2.symm, by simp only at h5; omega⟩]
    rfl
  · simp only at h5 ⊢; omega
theorem Ready.keep {length places : Int} {at_ many free : Int} {bef : List (Str × Int)} {r : List Item} {s : S} (k : Nat) (hk : 1 ≤ k) (hm : (k : Int) < many) (hf : 1 ≤ free) (h : Ready length places (⟨at_, many, free, bef⟩ :: r) s) :
    ∃ s2, runM length places (bef ++ steps at_ k ++ [mvT "keep" (at_ + k)]) s = some s2 ∧ Ready length places (⟨at_ + k, many - k, free - 1, []⟩ :: ⟨at_, k, free, [mvT "drop" (at_ + k), mvT "back" (at_)]⟩ :: r) s2 := by
  obtain ⟨s', h1, h2, h3, h4, h5, h6, h7, h8, h9⟩ := h
  simp only at h2 h3 h4 h5 h6 h7 h8 h9
  obtain ⟨k1, k2, k3⟩ := h8 (by omega)
  obtain ⟨c, e⟩ := run_steps (length := length) (places := places) at_ k s' h2 (by omega)
  have nk : at_ + (k : Int) ∉ s'.kept := fun z => by have := h4 _ z; omega
  refine ⟨⟨at_ + k, s'.kept ++ [at_ + k], s'.due, c⟩, ?_, ?_⟩
  · rw [runM_append, runM_append, h1]
    show ((runM length places (steps at_ k) s').bind _) = _
    rw [e]
    show (stp length places _ "keep" (at_ + k)).bind (runM length places []) = _
    unfold stp
    rw [if_neg (by decide), if_neg (by decide), if_pos rfl, if_pos ⟨rfl, by omega, nk, by simp only; omega⟩]
    rfl
  · refine ⟨_, rfl, rfl, by simp only; omega, ?_, by simp only; omega, by simp only; omega, by simp only; omega, fun _ => ⟨.inr (by simp), by simp; omega, by simp only; omega⟩, ?_⟩
    · intro x hx
      simp only [List.mem_append, List.mem_singleton] at hx
      rcases hx with hx | hx
      · have := h4 _ hx; simp only; omega
      · simp only; omega
    · intro s'' e1 e2
      simp only at e1 e2
      have ef : (s'.kept ++ [at_ + (k : Int)]).filter (fun x => decide (x ≠ at_ + k)) = s'.kept := by
        rw [List.filter_append, List.filter_eq_self.mpr]
        · simp
        · intro x hx
          exact decide_eq_true fun z => nk (z ▸ hx)
      refine ⟨⟨at_, s'.kept, s''.due, s''.counts⟩, ?_, rfl, h3, h4, by simp only; omega, by simp only; omega, by simp only; omega, fun _ => ⟨k1, k2, k3⟩, fun s3 g1 g2 => h9 s3 g1 g2⟩
      show (stp length places s'' "drop" (at_ + k)).bind (runM length places [mvT "back" (at_)]) = _
      unfold stp
      rw [if_neg (by decide), if_neg (by decide), if_neg (by decide), if_neg (by decide), if_pos rfl, if_pos (by rw [e1]; simp)]
      show (stp length places _ "back" at_).bind (runM length places []) = _
      unfold stp
      rw [if_neg (by decide), if_neg (by decide), if_neg (by decide), if_pos rfl, if_pos (by simp only; rw [e1, ef]; exact k1)]
      show some _ = some _
      simp only [e1, ef]
theorem Ready.last {length places : Int} {at_ many free : Int} {bef : List (Str × Int)} {r : List Item} {s : S} (k : Nat) (hk : 1 ≤ k) (hm : (k : Int) = many - 1) (h : Ready length places (⟨at_, many, free, bef⟩ :: r) s) (f2 : Int) :
    ∃ s2, runM length places (bef ++ steps at_ k) s = some s2 ∧ Ready length places (⟨at_ + k, 1, f2, []⟩ :: ⟨at_, k, free, [mvT "back" (at_)]⟩ :: r) s2 := by
  obtain ⟨s', h1, h2, h3, h4, h5, h6, h7, h8, h9⟩ := h
  simp only at h2 h3 h4 h5 h6 h7 h8 h9
  obtain ⟨k1, k2, k3⟩ := h8 (by omega)
  obtain ⟨c, e⟩ := run_steps (length := length) (places := places) at_ k s' h2 (by omega)
  refine ⟨⟨at_ + k, s'.kept, s'.due, c⟩, ?_, ?_⟩
  · rw [runM_append, h1]
    show ((runM length places (steps at_ k) s')) = _
    rw [e]
  · refine ⟨_, rfl, rfl, by simp only; omega, ?_, by simp only; omega, by simp only; omega, by simp only; omega, fun z => absurd z (by simp), ?_⟩
    · intro x hx
      have := h4 _ hx; simp only; omega
    · intro s'' e1 e2
      simp only at e1 e2
      refine ⟨⟨at_, s'.kept, s''.due, s''.counts⟩, ?_, rfl, h3, h4, by simp only; omega, by simp only; omega, by simp only; omega, fun _ => ⟨k1, k2, k3⟩, fun s3 g1 g2 => h9 s3 g1 g2⟩
      show (stp length places s'' "back" at_).bind (runM length places []) = _
      unfold stp
      rw [if_neg (by decide), if_neg (by decide), if_neg (by decide), if_pos rfl, if_pos (by rw [e1]; exact k1)]
      show some _ = some _
      simp only [e1]
theorem Ready.flat {length places : Int} {at_ many free : Int} {bef : List (Str × Int)} {r : List Item} {s : S} (k : Nat) (hk : 1 ≤ k) (hm : (k : Int) = many - 1) (h : Ready length places (⟨at_, many, free, bef⟩ :: r) s) :
    ∃ s2, runM length places (bef ++ steps at_ k ++ [mvT "tell" (at_ + k), mvT "back" (at_)]) s = some s2 ∧ Ready length places (⟨at_, k, free, []⟩ :: r) s2 := by
  obtain ⟨s', h1, h2, h3, h4, h5, h6, h7, h8, h9⟩ := h
  simp only at h2 h3 h4 h5 h6 h7 h8 h9
  obtain ⟨k1, k2, k3⟩ := h8 (by omega)
  obtain ⟨c, e⟩ := run_steps (length := length) (places := places) at_ k s' h2 (by omega)
  refine ⟨⟨at_, s'.kept, s'.due - 1, c⟩, ?_, ?_⟩
  · rw [runM_append, runM_append, h1]
    show ((runM length places (steps at_ k) s').bind _) = _
    rw [e]
    show (stp length places _ "tell" (at_ + k)).bind (runM length places [mvT "back" (at_)]) = _
    unfold stp
    rw [if_neg (by decide), if_pos rfl, if_pos ⟨rfl, by simp only; omega⟩]
    show (stp length places _ "back" at_).bind (runM length places []) = _
    unfold stp
    rw [if_neg (by decide), if_neg (by decide), if_neg (by decide), if_pos rfl, if_pos (by simp only; exact k1)]
    rfl
  · exact ⟨_, rfl, rfl, h3, h4, by simp only; omega, by simp only; omega, by simp only; omega, fun _ => ⟨k1, k2, k3⟩, fun s3 g1 g2 => h9 s3 g1 g2⟩
/-! ## 4. plans as data -/
def planD (l : List (Str × Int)) : List D := l.map fun m => .tup [.str m.1, .int m.2]
theorem planD_len (l : List (Str × Int)) : (planD l).length = l.length := by simp [planD]
theorem planD_append (a b : List (Str × Int)) : planD (a ++ b) = planD a ++ planD b := by simp [planD]
theorem planD_get {l : List (Str × Int)} {i : Nat} {d : D} (h : (planD l)[i]? = some d) : ∃ w n, l[i]? = some (w, n) ∧ d = .tup [.str w, .int n] := by
  unfold planD at h
  rw [List.getElem?_map] at h
  cases e : l[i]? with
  | none => rw [e] at h; cases h
  | some m => rw [e] at h; exact ⟨m.1, m.2, rfl, (Option.some.inj h).symm⟩
theorem mv_some {d : D} {m : Str × Int} (h : mv d = some m) : d = .tup [.str m.1, .int m.2] ∧ m.1 ∈ MOVES ∧ 0 ≤ m.2 := by
  unfold mv at h
  split at h
  · split at h
    · rename_i w n hc
      cases h
      exact ⟨rfl, hc⟩
    · cases h
  · cases h
theorem mvs_some : ∀ {ms : List D} {l : List (Str × Int)}, mvs ms = some l → ms = planD l ∧ ∀ m ∈ l, m.1 ∈ MOVES ∧ 0 ≤ m.2
  | [], l, h => by cases h; exact ⟨rfl, by simp⟩
  | d :: r, l, h => by
    unfold mvs at h
    cases e : mv d with
    | none => rw [e] at h; cases h
    | some m =>
      rw [e] at h
      cases e2 : mvs r with
      | none => rw [e2] at h; cases h
      | some l2 =>
        rw [e2] at h
        cases h
        obtain ⟨h1, h2⟩ := mvs_some e2
        obtain ⟨h3, h4⟩ := mv_some e
        refine ⟨by rw [h3, h1]; rfl, fun x hx => ?_⟩
        rcases List.mem_cons.mp hx with z | z
        · rw [z]; exact h4
        · exact h2 x z
theorem mvs_planD : ∀ {l : List (Str × Int)}, (∀ m ∈ l, m.1 ∈ MOVES ∧ 0 ≤ m.2) → mvs (planD l) = some l
  | [], _ => rfl
  | m :: l, h => by
    have e : mv (.tup [.str m.1, .int m.2]) = some m := by
      show (if m.1 ∈ MOVES ∧ 0 ≤ m.2 then some (m.1, m.2) else none) = _
      rw [if_pos (h m (List.mem_cons_self ..))]
    show (mv (.tup [.str m.1, .int m.2])).bind (fun m => (mvs (planD l)).map (m :: ·)) = _
    rw [e, mvs_planD fun x hx => h x (List.mem_cons_of_mem _ hx)]
    rfl
theorem all_moves : ∀ ms : List D, (ms.map fun d => (mv d).isSome).all id = (mvs ms).isSome
  | [] => rfl
  | d :: r => by
    rw [List.map_cons, List.all_cons, all_moves r, mvs]
    cases mv d with
    | none => rfl
    | some m => cases mvs r <;> rfl
theorem runM_more {length places : Int} {l : List (Str × Int)} {i : Nat} {w : Str} {n : Int} {s0 s : S} (h : l[i]? = some (w, n)) (e : runM length places (l.take i) s0 = some s) : runM length places (l.take (i + 1)) s0 = stp length places s w n := by
  rw [take_more h, runM_append, e]
  show (stp length places s w n).bind (runM length places []) = _
  cases stp length places s w n <;> rfl
theorem runM_stop {length places : Int} {l : List (Str × Int)} {i : Nat} {s0 : S} (e : runM length places (l.take i) s0 = none) : runM length places l s0 = none := by
  have : l = l.take i ++ l.drop i := (List.take_append_drop i l).symm
  rw [this, runM_append, e]
  rfl
def carO (o : Option (List Int)) : D := match o with
  | some c => .tup (nlst c)
  | none => .non
def carD (l pl : Int) (v : D) : D := carO (carry l pl v)
def fin (o : Option S) : Option (List Int) := o.bind fun s => if s.due = -1 then some s.counts else none
theorem carry_tup {l pl : Int} {ms : List D} : carry l pl (.tup ms) = (mvs ms).bind fun lm => fin (runM l pl lm (init l)) := rfl
theorem mvs_none {l pl : Int} {ms : List D} (h : mvs ms = none) : carD l pl (.tup ms) = .non := by
  unfold carD; rw [carry_tup, h]; rfl
theorem mvs_car {l pl : Int} {ms : List D} {lm : List (Str × Int)} (h : mvs ms = some lm) : carD l pl (.tup ms) = carO (fin (runM l pl lm (init l))) := by
  unfold carD; rw [carry_tup, h]; rfl
/-- keep, back, drop: may it be -/
def mayB (w : Str) (n here : Int) (kept : List Int) (places : Int) : Bool :=
  if w = "keep" then decide (n = here ∧ n ≠ 0 ∧ n ∉ kept ∧ (kept.length : Int) < places) else if w = "back" then decide (n = 0 ∨ n ∈ kept) else decide (n ∈ kept)
/-- behind a step (the next place), a keep, a back, a drop or a tell -/
def aftS (w : Str) (n here : Int) (kept : List Int) : Int × List Int :=
  if w = "step" then (here + 1, kept) else if w = "keep" then (here, kept ++ [n]) else if w = "back" then (n, kept) else (here, if w = "drop" then kept.filter fun x => decide (x ≠ n) else kept)
theorem stp_else {l pl : Int} {s : S} {w : Str} {n : Int} (h1 : w ≠ "step") (h2 : w ≠ "tell") (hw : w ∈ MOVES) : stp l pl s w n = if mayB w n s.here s.kept pl = true then some { s with here := (aftS w n s.here s.kept).1, kept := (aftS w n s.here s.kept).2 } else none := by
  unfold stp mayB aftS
  rw [if_neg h1, if_neg h2, if_neg h1]
  by_cases c1 : w = "keep"
  · simp only [if_pos c1, decide_eq_true_eq]
  · simp only [if_neg c1]
    by_cases c2 : w = "back"
    · simp only [if_pos c2, decide_eq_true_eq]
    · simp only [if_neg c2]
      have c3 : w = "drop" := by
        simp only [MOVES, List.mem_cons, List.not_mem_nil, or_false] at hw
        rcases hw with z | z | z | z | z
        · exact absurd z h1
        · exact absurd z c1
        · exact absurd z c2
        · exact z
        · exact absurd z h2
      simp only [if_pos c3, decide_eq_true_eq]
theorem aft_len {w : Str} {n here : Int} {kept : List Int} {pl : Int} (hk : (kept.length : Int) ≤ pl) (h : mayB w n here kept pl = true) : ((aftS w n here kept).2.length : Int) ≤ pl := by
  unfold aftS
  split
  · exact hk
  · split
    · rename_i c
      unfold mayB at h
      rw [if_pos c] at h
      have := of_decide_eq_true h
      simp
      omega
    · split
      · exact hk
      · show ((if w = "drop" then kept.filter fun x => decide (x ≠ n) else kept).length : Int) ≤ pl
        split
        · have := List.length_filter_le (fun x => decide (x ≠ n)) kept
          omega
        · exact hk
def okM (x : Str × Int) : Prop := x.1 ∈ MOVES ∧ 0 ≤ x.2 ∧ x.2 ≤ 1000
def itemD (i : Item) : D := .tup [.int i.at_, .int i.many, .int i.free, .tup (planD i.before)]
def mea (st : List Item) : Nat := (st.map fun i => (2 * i.many - 1).toNat).sum
theorem okM_steps {a : Int} {k : Nat} (h0 : 0 ≤ a) (h : a + k ≤ 1001) : ∀ x ∈ steps a k, okM x := by
  intro x hx
  unfold steps at hx
  obtain ⟨i, hi, rfl⟩ := List.mem_map.mp hx
  have := List.mem_range.mp hi
  refine ⟨by show ("step" : Str) ∈ MOVES; decide, ?_, ?_⟩ <;> simp only <;> omega
theorem steps_len (a : Int) (k : Nat) : (steps a k).length = k := by simp [steps]
theorem mea_cons (i : Item) (st : List Item) : mea (i :: st) = (2 * i.many - 1).toNat + mea st := rfl
theorem mea_len : ∀ {st : List Item}, (∀ i ∈ st, 1 ≤ i.many) → st.length ≤ mea st
  | [], _ => Nat.le_refl _
  | i :: st, h => by
    have := mea_len (st := st) fun j hj => h j (List.mem_cons_of_mem _ hj)
    have := h i (List.mem_cons_self ..)
    rw [mea_cons, List.length_cons]
    omega
def okI (i : Item) : Prop := 1 ≤ i.many ∧ (∀ x ∈ i.before, okM x) ∧ i.before.length ≤ 2
theorem okI.all {i : Item} {st : List Item} (h : okI i) (hs : ∀ j ∈ st, okI j) : ∀ j ∈ i :: st, okI j := fun j hj => by
  rcases List.mem_cons.mp hj with z | z
  · rw [z]; exact h
  · exact hs j z
theorem okM_of {w : Str} {n : Int} (hw : w ∈ MOVES) (h0 : 0 ≤ n) (h1 : n ≤ 1000) : okM (mvT w n) := ⟨hw, h0, h1⟩
theorem okM_append {a b : List (Str × Int)} (h : ∀ x ∈ a, okM x) (h' : ∀ x ∈ b, okM x) : ∀ x ∈ a ++ b, okM x := fun x hx => by
  rcases List.mem_append.mp hx with z | z
  · exact h x z
  · exact h' x z
theorem lawRun_append {length places : Int} : ∀ (a b : List D) (s : S), lawRun length places (a ++ b) s = (lawRun length places a s).bind (lawRun length places b)
  | [], _, _ => rfl
  | d :: a, b, s => by
    show (mv d).bind (fun m => (stp length places s m.1 m.2).bind (lawRun length places (a ++ b))) = ((mv d).bind fun m => (stp length places s m.1 m.2).bind (lawRun length places a)).bind (lawRun length places b)
    cases mv d with
    | none => rfl
    | some m =>
      show (stp length places s m.1 m.2).bind (lawRun length places (a ++ b)) = ((stp length places s m.1 m.2).bind (lawRun length places a)).bind (lawRun length places b)
      cases stp length places s m.1 m.2 with
      | none => rfl
      | some s' => exact lawRun_append a b s'
theorem lawRun_more {length places : Int} {l : List D} {i : Nat} {d : D} {s0 s : S} (h : l[i]? = some d) (e : lawRun length places (l.take i) s0 = some s) : lawRun length places (l.take (i + 1)) s0 = (mv d).bind fun m => stp length places s m.1 m.2 := by
  rw [take_more h, lawRun_append, e]
  show (mv d).bind (fun m => (stp length places s m.1 m.2).bind (lawRun length places [])) = _
  cases mv d with
  | none => rfl
  | some m =>
    show (stp length places s m.1 m.2).bind (lawRun length places []) = stp length places s m.1 m.2
    cases stp length places s m.1 m.2 <;> rfl
theorem lawRun_stop {length places : Int} {l : List D} {i : Nat} {s0 : S} (e : lawRun length places (l.take i) s0 = none) : lawRun length places l s0 = none := by
  have : l = l.take i ++ l.drop i := (List.take_append_drop i l).symm
  rw [this, lawRun_append, e]
  rfl
theorem mv_mk {w : Str} {n : Int} (hw : w ∈ MOVES) (h0 : 0 ≤ n) : mv (.tup [.str w, .int n]) = some (w, n) := by
  show (if w ∈ MOVES ∧ 0 ≤ n then some (w, n) else none) = _
  rw [if_pos ⟨hw, h0⟩]
theorem mv_bad {w : Str} {n : Int} (hw : ¬ (w ∈ MOVES ∧ 0 ≤ n)) : mv (.tup [.str w, .int n]) = none := by
  show (if w ∈ MOVES ∧ 0 ≤ n then some (w, n) else none) = _
  rw [if_neg hw]
end K97
set_option Elab.async false
set_option linter.all false
set_option maxRecDepth 10000
namespace K97
open PySem DL
/-! # the fewest steps -/
/-! ## 1. what the choice of the first stop costs -/
/-- t: the fewest times for m places (0 .. m - 1), p kept at most beside the first -/
def fits (m p t : Int) : Prop := 0 ≤ t ∧ m ≤ spn p t ∧ (t = 0 ∨ spn p (t - 1) ≤ m)
/-- t is just the fewest -/
def least (m p t : Int) : Prop := 0 ≤ t ∧ m ≤ spn p t ∧ (t = 0 ∨ spn p (t - 1) < m)
theorem least.fits {m p t : Int} (h : least m p t) : fits m p t := ⟨h.1, h.2.1, h.2.2.imp id fun h => by omega⟩
theorem spn_z (p : Int) : spn p 0 = 1 := by unfold spn; rw [show (0 : Int).toNat = 0 from rfl, bin_z]; rfl
theorem spn_pos (p t : Int) : 1 ≤ spn p t := by
  unfold spn
  have := bin_pos (p + 1).toNat t.toNat
  omega
/-- spans grow by one place less and by one time less -/
theorem spn_add {p t : Int} (hp : 0 ≤ p) (ht : 1 ≤ t) : spn p t = spn (p - 1) t + spn p (t - 1) := by
  unfold spn
  obtain ⟨q, hq⟩ : ∃ q : Nat, p = q := ⟨p.toNat, by omega⟩
  obtain ⟨u, hu⟩ : ∃ u : Nat, t = u + 1 := ⟨(t - 1).toNat, by omega⟩
  subst hq hu
  have e1 : ((q : Int) + 1).toNat = q + 1 := by omega
  have e2 : ((q : Int) - 1 + 1).toNat = q := by omega
  have e3 : ((u : Int) + 1).toNat = u + 1 := by omega
  have e4 : ((u : Int) + 1 - 1).toNat = u := by omega
  rw [e1, e2, e3, e4]
  have : bin (q + 1) (u + 1) = bin q (u + 1) + bin (q + 1) u := by rw [bin]
  omega
theorem spn_none (t : Int) : spn (-1) t = 1 := by
  unfold spn
  show ((bin 0 t.toNat : Nat) : Int) = 1
  simp [bin]
/-- sums of spans: one place more -/
def cov (p t : Int) : Int := if t ≤ 0 then 0 else spn (p + 1) (t - 1)
theorem cov_step {p t : Int} (hp : -1 ≤ p) (ht : 0 ≤ t) : cov p (t + 1) = cov p t + spn p t := by
  unfold cov
  rw [if_neg (by omega)]
  by_cases h : t ≤ 0
  · have : t = 0 := by omega
    subst this
    rw [if_pos (by omega), spn_z, show (0 + 1 - 1 : Int) = 0 by omega, spn_z]; rfl
  · rw [if_neg h, show t + 1 - 1 = t by omega, spn_add (p := p + 1) (t := t) (by omega) (by omega), show p + 1 - 1 = p by omega]
    omega
inductive Cost : Int → Int → (Int → Int) → Prop
  | one (p : Int) : Cost 1 p (fun _ => 0)
  | cut {m p t s : Int} {c1 c2 : Int → Int} : 2 ≤ m → 0 ≤ p → least m p t → s = (if m - spn (p - 1) (t - 1) < spn p (t - 1) then m - spn (p - 1) (t - 1) else spn p (t - 1)) →
      Cost s p c1 → Cost (m - s) (p - 1) c2 → Cost m p (fun i => if i < s then 1 + c1 i else c2 (i - s))
/-- the sum of the first n of c -/
def sumTo (c : Int → Int) : Nat → Int
  | 0 => 0
  | n + 1 => sumTo c n + c n
theorem sumTo_congr {c d : Int → Int} : ∀ n : Nat, (∀ i : Nat, i < n → c i = d i) → sumTo c n = sumTo d n
  | 0, _ => rfl
  | n + 1, h => by rw [sumTo, sumTo, sumTo_congr n (fun i hi => h i (by omega)), h n (by omega)]
theorem sumTo_add (c : Int → Int) (a : Nat) : ∀ b : Nat, sumTo c (a + b) = sumTo c a + sumTo (fun i => c (i + a)) b
  | 0 => by simp [sumTo]
  | b + 1 => by
    rw [show a + (b + 1) = (a + b) + 1 by omega, sumTo, sumTo_add c a b, sumTo]
    have e : ((a + b : Nat) : Int) = (b : Int) + a := by omega
    rw [e]
    omega
theorem sumTo_one (c : Int → Int) : ∀ n : Nat, sumTo (fun i => 1 + c i) n = n + sumTo c n
  | 0 => rfl
  | n + 1 => by rw [sumTo, sumTo, sumTo_one c n]; push_cast; omega
/-- the least time of the first part and of the second -/
theorem cut_fits {m p t s : Int} (hm : 2 ≤ m) (hp : 0 ≤ p) (hl : least m p t) (hs : s = (if m - spn (p - 1) (t - 1) < spn p (t - 1) then m - spn (p - 1) (t - 1) else spn p (t - 1))) :
    1 ≤ t ∧ 1 ≤ s ∧ s ≤ m - 1 ∧ least s p (t - 1) ∧ fits (m - s) (p - 1) t := by
  obtain ⟨h0, h1, h2⟩ := hl
  have ht : 1 ≤ t := by
    by_cases e : t = 0
    · rw [e, spn_z] at h1; omega
    · omega
  have h2' : spn p (t - 1) < m := by rcases h2 with e | e <;> omega
  have a1 := spn_pos p (t - 1)
  have a2 := spn_pos (p - 1) (t - 1)
  have a3 : spn p t = spn (p - 1) t + spn p (t - 1) := spn_add hp ht
  have a4 : spn (p - 1) (t - 1) ≤ spn (p - 1) t := by
    by_cases hp0 : p = 0
    · subst hp0
      rw [show (0 - 1 : Int) = -1 by omega, spn_none, spn_none]; omega
    · have := spn_add (p := p - 1) (t := t) (by omega) ht
      have := spn_pos (p - 1 - 1) t
      omega
  have a5 : t = 1 ∨ (2 ≤ t ∧ spn p (t - 1) = spn (p - 1) (t - 1) + spn p (t - 1 - 1)) := by
    by_cases e : t = 1
    · exact .inl e
    · exact .inr ⟨by omega, spn_add hp (by omega)⟩
  have a6 : spn (p - 1) (t - 1) ≤ spn p (t - 1) := by
    rcases a5 with e | ⟨_, e⟩
    · subst e
      rw [show (1 - 1 : Int) = 0 by omega, spn_z, spn_z]; omega
    · have := spn_pos p (t - 1 - 1)
      omega
  refine ⟨ht, ?_, ?_, ⟨by omega, ?_, ?_⟩, ⟨h0, ?_, ?_⟩⟩
  · rw [hs]; split <;> omega
  · rw [hs]; split <;> omega
  · rw [hs]; split <;> omega
  · rcases a5 with e | ⟨e1, e2⟩
    · exact .inl (by omega)
    · right
      rw [hs]
      split <;> omega
  · rw [hs]; split <;> omega
  · right
    rw [hs]; split <;> omega
theorem fits_one {p t : Int} (h : fits 1 p t) (hp : -1 ≤ p) : t * 1 - cov p t = 0 := by
  obtain ⟨h0, h1, h2⟩ := h
  unfold cov
  by_cases e : t ≤ 0
  · rw [if_pos e]; omega
  · rw [if_neg e]
    rcases h2 with h2 | h2
    · omega
    · -- spans of one only: no place, or no time
      by_cases hp1 : p = -1
      · subst hp1
        unfold spn
        show t * 1 - ((bin 1 (t - 1).toNat : Nat) : Int) = 0
        rw [bin_one]
        omega
      · have hb := bin_up p.toNat (t - 1).toNat
        have e1 : (p + 1).toNat = p.toNat + 1 := by omega
        have h3 : spn p (t - 1) = ((bin (p.toNat + 1) (t - 1).toNat : Nat) : Int) := by unfold spn; rw [e1]
        have ht : t = 1 := by omega
        subst ht
        rw [show (1 - 1 : Int) = 0 by omega, spn_z]
        rfl
/-- how many steps, and how often one at most -/
theorem Cost.is {m p : Int} {c : Int → Int} (h : Cost m p c) : ∀ t, -1 ≤ p → fits m p t → sumTo c (m - 1).toNat = t * m - cov p t ∧ (∀ i, 0 ≤ c i ∧ c i ≤ t) ∧ 1 ≤ m ∧ (∀ i, m - 1 ≤ i → c i = 0) ∧ (2 ≤ m → least m p t → ∃ i : Nat, (i : Int) < m - 1 ∧ c i = t) := by
  induction h with
  | one p =>
    intro t hp hf
    refine ⟨?_, fun i => ⟨Int.le_refl 0, hf.1⟩, by omega, fun _ _ => rfl, fun h => by omega⟩
    have := fits_one hf hp
    show (0 : Int) = _
    omega
  | @cut m p t s c1 c2 hm hp hl hs h1 h2 ih1 ih2 =>
    intro t' hp' hf
    have hc := cut_fits hm hp hl hs
    obtain ⟨ht, s1, s2, l1, f2⟩ := hc
    obtain ⟨e1, b1, m1, z1, x1⟩ := ih1 (t - 1) hp' l1.fits
    obtain ⟨e2, b2, m2, z2, _⟩ := ih2 t (by omega) f2
    -- the sum at the least t
    have sum : sumTo (fun i => if i < s then 1 + c1 i else c2 (i - s)) (m - 1).toNat = t * m - cov p t := by
      have en : (m - 1).toNat = s.toNat + (m - s - 1).toNat := by omega
      rw [en, sumTo_add]
      have p1 : sumTo (fun i => if i < s then 1 + c1 i else c2 (i - s)) s.toNat = s + sumTo c1 (s - 1).toNat := by
        rw [sumTo_congr (d := fun i => 1 + c1 i) _ (fun i hi => if_pos (by omega)), sumTo_one]
        have : s.toNat = (s - 1).toNat + 1 := by omega
        rw [this, sumTo]
        have hz : c1 (((s - 1).toNat : Nat) : Int) = 0 := z1 _ (by omega)
        rw [hz]
        omega
      have p2 : sumTo (fun i => (fun i => if i < s then 1 + c1 i else c2 (i - s)) (i + (s.toNat : Nat))) (m - s - 1).toNat = sumTo c2 (m - s - 1).toNat := by
        refine sumTo_congr _ fun i hi => ?_
        show (if (i : Int) + (s.toNat : Nat) < s then 1 + c1 ((i : Int) + (s.toNat : Nat)) else c2 ((i : Int) + (s.toNat : Nat) - s)) = c2 i
        rw [if_neg (by omega), show (i : Int) + (s.toNat : Nat) - s = i by omega]
      rw [p1, p2, e1, e2]
      have k1 : cov p t = cov p (t - 1) + spn p (t - 1) := by
        have := cov_step (p := p) (t := t - 1) hp' (by omega)
        rwa [show t - 1 + 1 = t by omega] at this
      have k2 : cov (p - 1) t = spn p (t - 1) := by
        unfold cov
        rw [if_neg (by omega), show p - 1 + 1 = p by omega]
      rw [k1, k2, Int.sub_mul, Int.mul_sub]
      omega
    -- another t that fits is the least, or one more
    have same : t' * m - cov p t' = t * m - cov p t ∧ t ≤ t' := by
      obtain ⟨f0, f1, f2'⟩ := hf
      obtain ⟨g0, g1, g2⟩ := hl
      have mono : ∀ a b : Int, 0 ≤ a → a ≤ b → spn p a ≤ spn p b := by
        intro a b ha hab
        obtain ⟨k, hk⟩ : ∃ k : Nat, b = a + k := ⟨(b - a).toNat, by omega⟩
        subst hk
        induction k with
        | zero => simp
        | succ k ih =>
          have h3 := ih (by omega)
          have h4 := spn_add (p := p) (t := a + ((k + 1 : Nat) : Int)) hp (by omega)
          have h5 := spn_pos (p - 1) (a + ((k + 1 : Nat) : Int))
          rw [show a + ((k + 1 : Nat) : Int) - 1 = a + k by omega] at h4
          omega
      have g2' : spn p (t - 1) < m := by rcases g2 with e | e <;> omega
      have le : t ≤ t' := by
        by_cases q : t' < t
        · have := mono t' (t - 1) f0 (by omega)
          omega
        · omega
      refine ⟨?_, le⟩
      by_cases q : t' = t
      · rw [q]
      · -- spn p (t' - 1) = m, so t' = t + 1
        have f2'' : spn p (t' - 1) ≤ m := by rcases f2' with e | e <;> omega
        have q2 : t' = t + 1 := by
          by_cases q3 : t + 1 < t'
          · have h3 := mono (t + 1) (t' - 1) (by omega) (by omega)
            have h4 := spn_add (p := p) (t := t + 1) hp (by omega)
            have h5 := spn_pos (p - 1) (t + 1)
            rw [show t + 1 - 1 = t by omega] at h4
            omega
          · omega
        subst q2
        rw [show t + 1 - 1 = t by omega] at f2''
        have em : spn p t = m := by omega
        rw [cov_step hp' g0, em, Int.add_mul]
        omega
    refine ⟨by rw [sum, same.1], fun i => ?_, by omega, fun i hi => ?_, fun _ hl' => ?_⟩
    · show 0 ≤ (if i < s then 1 + c1 i else c2 (i - s)) ∧ (if i < s then 1 + c1 i else c2 (i - s)) ≤ t'
      have := b1 i
      have := b2 (i - s)
      have := same.2
      split <;> omega
    · show (if i < s then 1 + c1 i else c2 (i - s)) = 0
      rw [if_neg (by omega)]
      exact z2 _ (by omega)
    · have et : t' = t := by
        obtain ⟨q0, q1, q2⟩ := hl'
        have := same.2
        by_cases q : t' = t
        · exact q
        · have f2'' : spn p (t' - 1) < m := by rcases q2 with e | e <;> omega
          have h1 := hl.2.1
          by_cases q3 : t' = t + 1
          · subst q3
            rw [show t + 1 - 1 = t by omega] at f2''
            omega
          · have h4 := spn_add (p := p) (t := t + 1) hp (by omega)
            have h5 := spn_pos (p - 1) (t + 1)
            rw [show t + 1 - 1 = t by omega] at h4
            have mono : ∀ k : Nat, spn p t ≤ spn p (t + k) := by
              intro k
              induction k with
              | zero => simp
              | succ k ih =>
                have h6 := spn_add (p := p) (t := t + ((k + 1 : Nat) : Int)) hp (by omega)
                have h7 := spn_pos (p - 1) (t + ((k + 1 : Nat) : Int))
                rw [show t + ((k + 1 : Nat) : Int) - 1 = t + k by omega] at h6
                omega
            have := mono (t' - 1 - t).toNat
            rw [show t + (((t' - 1 - t).toNat : Nat) : Int) = t' - 1 by omega] at this
            omega
      rw [et]
      by_cases hs2 : 2 ≤ s
      · obtain ⟨i, hi, hx⟩ := x1 hs2 l1
        refine ⟨i, by omega, ?_⟩
        show (if (i : Int) < s then 1 + c1 i else c2 (i - s)) = t
        rw [if_pos (by omega), hx]
        omega
      · have es : s = 1 := by omega
        refine ⟨0, by omega, ?_⟩
        show (if ((0 : Nat) : Int) < s then 1 + c1 ((0 : Nat) : Int) else c2 (((0 : Nat) : Int) - s)) = t
        rw [if_pos (by omega), z1 _ (by omega)]
        -- s = 1: the least time of it is 0
        obtain ⟨q0, q1, q2⟩ := l1
        rcases q2 with q2 | q2
        · omega
        · have := spn_pos p (t - 1 - 1)
          omega
/-! ## 2. a stack of what waits, with the counts -/
def gd (l : List Int) (j : Int) : Int := l.getD j.toNat 0
theorem gd_set {l : List Int} {n : Nat} {x : Int} {j : Int} (hn : n < l.length) (hj : 0 ≤ j) : gd (l.set n x) j = if j = n then x else gd l j := by
  unfold gd
  rw [List.getD_eq_getElem?_getD, List.getElem?_set]
  by_cases h : j = n
  · rw [if_pos h, if_pos (by omega), if_pos hn]; rfl
  · rw [if_neg h, if_neg (by omega)]
    rw [List.getD_eq_getElem?_getD]
/-- what one item adds to the counts -/
def adds (at_ many : Int) (c : Int → Int) (j : Int) : Int := if at_ ≤ j ∧ j < at_ + many - 1 then c (j - at_) else 0
/-- W: the counts at the end -/
def ReadyC (length places : Int) (W : Int → Int) : List Item → S → Prop
  | [], s => s.due = -1 ∧ ∀ j, 0 ≤ j → gd s.counts j = W j
  | i :: r, s => ∃ s' c, runM length places i.before s = some s' ∧ s'.here = i.at_ ∧ 0 ≤ i.at_ ∧ (∀ x ∈ s'.kept, x ≤ i.at_) ∧ s'.due = i.at_ + i.many - 1 ∧ 1 ≤ i.many ∧ i.at_ + i.many - 1 ≤ length ∧ s'.counts.length = length.toNat ∧ -1 ≤ i.free ∧ Cost i.many i.free c ∧
      (1 < i.many → (i.at_ = 0 ∨ i.at_ ∈ s'.kept) ∧ (s'.kept.length : Int) = places - i.free ∧ 0 ≤ i.free) ∧ ∀ s'' : S, s''.kept = s'.kept → s''.due = i.at_ - 1 → s''.counts.length = length.toNat → (∀ j, 0 ≤ j → gd s''.counts j = gd s'.counts j + adds i.at_ i.many c j) → ReadyC length places W r s''
theorem run_stepsC {length places : Int} (a : Int) (ha : 0 ≤ a) : ∀ (k : Nat) (s : S), s.here = a → a + k ≤ length → s.counts.length = length.toNat →
    ∃ c, runM length places (steps a k) s = some { s with here := a + k, counts := c } ∧ c.length = length.toNat ∧ ∀ j, 0 ≤ j → gd c j = gd s.counts j + (if a ≤ j ∧ j < a + k then 1 else 0)
  | 0, s, h, _, hc => ⟨s.counts, by
    show some s = _
    cases s
    simp only at h
    subst h
    simp, hc, fun j hj => by rw [if_neg (by omega)]; omega⟩
  | k + 1, s, h, hl, hc => by
    obtain ⟨c, e, hcl, hg⟩ := run_stepsC (length := length) (places := places) a ha k s h (by omega) hc
    rw [steps_succ, runM_append, e]
    have hlt : (a + (k : Int)).toNat < c.length := by rw [hcl]; omega
    refine ⟨c.set (a + k).toNat (c.getD (a + k).toNat 0 + 1), ?_, by rw [List.length_set, hcl], fun j hj => ?_⟩
    · show (stp length places _ "step" (a + k)).bind (runM length places []) = _
      unfold stp
      rw [if_pos rfl, if_pos ⟨rfl, by omega⟩]
      show some _ = some _
      congr 2
      push_cast
      omega
    · rw [gd_set hlt hj]
      have e2 : c.getD (a + (k : Int)).toNat 0 = gd c (a + k) := rfl
      by_cases q : j = (((a + (k : Int)).toNat : Nat) : Int)
      · rw [if_pos q, e2]
        have ej : j = a + k := by omega
        rw [ej, hg _ (by omega), if_neg (by omega), if_pos (by omega)]
        omega
      · rw [if_neg q, hg j hj]
        by_cases q2 : a ≤ j ∧ j < a + k
        · rw [if_pos q2, if_pos (by omega)]
        · rw [if_neg q2, if_neg (by omega)]
theorem ReadyC.one {length places : Int} {W : Int → Int} {at_ free : Int} {bef : List (Str × Int)} {r : List Item} {s : S} (h : ReadyC length places W (⟨at_, 1, free, bef⟩ :: r) s) :
    ∃ s2, runM length places (bef ++ [mvT "tell" at_]) s = some s2 ∧ ReadyC length places W r s2 := by
  obtain ⟨s', c, h1, h2, h3, h4, h5, h6, h7, hcl, hf, hC, h8, h9⟩ := h
  refine ⟨{ s' with due := s'.due - 1 }, ?_, h9 _ rfl ?_ hcl fun j hj => ?_⟩
  · rw [runM_append, h1]
    show (stp length places s' "tell" at_).bind (runM length places []) = _
    unfold stp
    rw [if_neg (by decide), if_pos rfl, if_pos ⟨h2.symm, by simp only at h5; omega⟩]
    rfl
  · simp only at h5 ⊢; omega
  · unfold adds
    rw [if_neg (by simp only; omega)]
    simp
/-- what the two parts of an item add -/
theorem adds_cut {at_ many s : Int} {c1 c2 : Int → Int} {j : Int} (h1 : 1 ≤ s) (h2 : s ≤ many - 1) (hz : c1 (s - 1) = 0) :
    adds at_ many (fun i => if i < s then 1 + c1 i else c2 (i - s)) j = (if at_ ≤ j ∧ j < at_ + s then 1 else 0) + adds (at_ + s) (many - s) c2 j + adds at_ s c1 j := by
  have hz' : j = at_ + s - 1 → c1 (j - at_) = 0 := fun e => by rw [e, show at_ + s - 1 - at_ = s - 1 by omega]; exact hz
  unfold adds
  dsimp only
  rw [show j - at_ - s = j - (at_ + s) by omega]
  generalize c1 (j - at_) = u at hz' ⊢
  generalize c2 (j - (at_ + s)) = v
  clear hz
  (repeat' split) <;> omega
theorem ReadyC.keep {length places : Int} {W : Int → Int} {at_ many free t : Int} {bef : List (Str × Int)} {r : List Item} {s : S} (k : Nat) (hl : least many free t) (hk : (k : Int) = (if many - spn (free - 1) (t - 1) < spn free (t - 1) then many - spn (free - 1) (t - 1) else spn free (t - 1)))
    (hm2 : 2 ≤ many) (hf : 1 ≤ free) (huniq : ∀ t', least many free t' → t' = t) (h : ReadyC length places W (⟨at_, many, free, bef⟩ :: r) s) :
    ∃ s2, runM length places (bef ++ steps at_ k ++ [mvT "keep" (at_ + k)]) s = some s2 ∧ ReadyC length places W (⟨at_ + k, many - k, free - 1, []⟩ :: ⟨at_, k, free, [mvT "drop" (at_ + k), mvT "back" at_]⟩ :: r) s2 := by
  obtain ⟨s', c, h1, h2, h3, h4, h5, h6, h7, hcl, hfr, hC, h8, h9⟩ := h
  simp only at h2 h3 h4 h5 h6 h7 h8 h9 hfr hC
  have hcf := cut_fits hm2 (by omega) hl hk
  obtain ⟨ht1, hk1, hk2, _, _⟩ := hcf
  cases hC with
  | one => omega
  | @cut _ _ t0 s0 c1 c2 hm0 hp0 hl0 hs0 hC1 hC2 =>
  have et := huniq _ hl0
  subst et
  rw [← hk] at hs0
  subst hs0
  obtain ⟨k1, k2, k3⟩ := h8 (by omega)
  have z1 := (hC1.is (t0 - 1) (by omega) (cut_fits hm2 (by omega) hl hk).2.2.2.1.fits).2.2.2.1 (k - 1) (Int.le_refl _)
  obtain ⟨cc, e, hccl, hcg⟩ := run_stepsC (length := length) (places := places) at_ h3 k s' h2 (by omega) hcl
  have nk : at_ + (k : Int) ∉ s'.kept := fun z => by have := h4 _ z; omega
  refine ⟨⟨at_ + k, s'.kept ++ [at_ + k], s'.due, cc⟩, ?_, ?_⟩
  · rw [runM_append, runM_append, h1]
    show ((runM length places (steps at_ k) s').bind _) = _
    rw [e]
    show (stp length places _ "keep" (at_ + k)).bind (runM length places []) = _
    unfold stp
    rw [if_neg (by decide), if_neg (by decide), if_pos rfl, if_pos ⟨rfl, by omega, nk, by simp only; omega⟩]
    rfl
  · refine ⟨_, c2, rfl, rfl, by simp only; omega, ?_, by simp only; omega, by simp only; omega, by simp only; omega, hccl, by simp only; omega, hC2, fun _ => ⟨.inr (by simp), by simp; omega, by simp only; omega⟩, ?_⟩
    · intro x hx
      simp only [List.mem_append, List.mem_singleton] at hx
      rcases hx with hx | hx
      · have := h4 _ hx; simp only; omega
      · simp only; omega
    · intro s'' e1 e2 e3 e4
      simp only at e1 e2 e4
      have ef : (s'.kept ++ [at_ + (k : Int)]).filter (fun x => decide (x ≠ at_ + k)) = s'.kept := by
        rw [List.filter_append, List.filter_eq_self.mpr]
        · simp
        · intro x hx
          exact decide_eq_true fun z => nk (z ▸ hx)
      refine ⟨⟨at_, s'.kept, s''.due, s''.counts⟩, c1, ?_, rfl, h3, h4, by simp only; omega, by simp only; omega, by simp only; omega, e3, hfr, hC1, fun _ => ⟨k1, k2, k3⟩, fun s3 g1 g2 g3 g4 => h9 s3 g1 g2 g3 fun j hj => ?_⟩
      · show (stp length places s'' "drop" (at_ + k)).bind (runM length places [mvT "back" at_]) = _
        unfold stp
        rw [if_neg (by decide), if_neg (by decide), if_neg (by decide), if_neg (by decide), if_pos rfl, if_pos (by rw [e1]; simp)]
        show (stp length places _ "back" at_).bind (runM length places []) = _
        unfold stp
        rw [if_neg (by decide), if_neg (by decide), if_neg (by decide), if_pos rfl, if_pos (by simp only; rw [e1, ef]; exact k1)]
        show some _ = some _
        simp only [e1, ef]
      · have q1 := g4 j hj
        simp only at q1
        rw [q1, e4 j hj, hcg j hj, adds_cut hk1 hk2 z1]
        omega
theorem ReadyC.last {length places : Int} {W : Int → Int} {at_ many free t : Int} {bef : List (Str × Int)} {r : List Item} {s : S} (k : Nat) (hl : least many free t) (hk : (k : Int) = (if many - spn (free - 1) (t - 1) < spn free (t - 1) then many - spn (free - 1) (t - 1) else spn free (t - 1)))
    (hm2 : 2 ≤ many) (hm : (k : Int) = many - 1) (huniq : ∀ t', least many free t' → t' = t) (h : ReadyC length places W (⟨at_, many, free, bef⟩ :: r) s) :
    ∃ s2, runM length places (bef ++ steps at_ k) s = some s2 ∧ ReadyC length places W (⟨at_ + k, 1, free - 1, []⟩ :: ⟨at_, k, free, [mvT "back" at_]⟩ :: r) s2 := by
  obtain ⟨s', c, h1, h2, h3, h4, h5, h6, h7, hcl, hfr, hC, h8, h9⟩ := h
  simp only at h2 h3 h4 h5 h6 h7 h8 h9 hfr hC
  obtain ⟨k1, k2, k3⟩ := h8 (by omega)
  have hcf := cut_fits hm2 (by omega) hl hk
  obtain ⟨ht1, hk1, hk2, _, _⟩ := hcf
  cases hC with
  | one => omega
  | @cut _ _ t0 s0 c1 c2 hm0 hp0 hl0 hs0 hC1 hC2 =>
  have et := huniq _ hl0
  subst et
  rw [← hk] at hs0
  subst hs0
  have z1 := (hC1.is (t0 - 1) (by omega) (cut_fits hm2 (by omega) hl hk).2.2.2.1.fits).2.2.2.1 (k - 1) (Int.le_refl _)
  obtain ⟨cc, e, hccl, hcg⟩ := run_stepsC (length := length) (places := places) at_ h3 k s' h2 (by omega) hcl
  have em : many - k = 1 := by omega
  rw [em] at hC2
  refine ⟨⟨at_ + k, s'.kept, s'.due, cc⟩, ?_, ?_⟩
  · rw [runM_append, h1]
    show ((runM length places (steps at_ k) s')) = _
    rw [e]
  · refine ⟨_, c2, rfl, rfl, by simp only; omega, ?_, by simp only; omega, by simp only; omega, by simp only; omega, hccl, by simp only; omega, hC2, fun z => absurd z (by simp), ?_⟩
    · intro x hx
      have := h4 _ hx; simp only; omega
    · intro s'' e1 e2 e3 e4
      simp only at e1 e2 e4
      refine ⟨⟨at_, s'.kept, s''.due, s''.counts⟩, c1, ?_, rfl, h3, h4, by simp only; omega, by simp only; omega, by simp only; omega, e3, hfr, hC1, fun _ => ⟨k1, k2, k3⟩, fun s3 g1 g2 g3 g4 => h9 s3 g1 g2 g3 fun j hj => ?_⟩
      · show (stp length places s'' "back" at_).bind (runM length places []) = _
        unfold stp
        rw [if_neg (by decide), if_neg (by decide), if_neg (by decide), if_pos rfl, if_pos (by rw [e1]; exact k1)]
        show some _ = some _
        simp only [e1]
      · have q1 := g4 j hj
        simp only at q1
        have q2 := adds_cut (at_ := at_) (c2 := c2) (j := j) hk1 hk2 z1
        rw [em] at q2
        rw [q1, e4 j hj, hcg j hj, q2]
        omega
/-! ## 3. there is a least time, and a cost -/
theorem spn_mono {p : Int} (hp : 0 ≤ p) {a b : Int} (ha : 0 ≤ a) (hab : a ≤ b) : spn p a ≤ spn p b := by
  obtain ⟨k, hk⟩ : ∃ k : Nat, b = a + k := ⟨(b - a).toNat, by omega⟩
  subst hk
  induction k with
  | zero => simp
  | succ k ih =>
    have h3 := ih (by omega)
    have h4 := spn_add (p := p) (t := a + ((k + 1 : Nat) : Int)) hp (by omega)
    have h5 := spn_pos (p - 1) (a + ((k + 1 : Nat) : Int))
    rw [show a + ((k + 1 : Nat) : Int) - 1 = a + k by omega] at h4
    omega
theorem least_uniq {m p t t' : Int} (hp : 0 ≤ p) (h : least m p t) (h' : least m p t') : t' = t := by
  obtain ⟨a0, a1, a2⟩ := h
  obtain ⟨b0, b1, b2⟩ := h'
  by_cases q : t' < t
  · have := spn_mono hp (a := t') (b := t - 1) b0 (by omega)
    omega
  · by_cases q2 : t < t'
    · have := spn_mono hp (a := t) (b := t' - 1) a0 (by omega)
      omega
    · omega
theorem spn_upM (p t : Int) (hp : 0 ≤ p) (ht : 0 ≤ t) : t + 1 ≤ spn p t := by
  unfold spn
  have := bin_up p.toNat t.toNat
  have e : (p + 1).toNat = p.toNat + 1 := by omega
  rw [e]
  omega
theorem least_ex {m p : Int} (hp : 0 ≤ p) : ∃ t, least m p t ∧ (1 ≤ m → t ≤ m - 1) := by
  have key : ∀ n : Nat, m ≤ spn p n → ∃ t, least m p t ∧ t ≤ n := by
    intro n
    induction n with
    | zero => intro h; exact ⟨0, ⟨by omega, h, .inl rfl⟩, by omega⟩
    | succ n ih =>
      intro h
      by_cases q : m ≤ spn p n
      · obtain ⟨t, h1, h2⟩ := ih q
        exact ⟨t, h1, by omega⟩
      · exact ⟨((n + 1 : Nat) : Int), ⟨by omega, h, .inr (by rw [show ((n + 1 : Nat) : Int) - 1 = n by omega]; omega)⟩, by omega⟩
  by_cases hm : 1 ≤ m
  · obtain ⟨t, h1, h2⟩ := key (m - 1).toNat (by have := spn_upM p ((m - 1).toNat : Nat) hp (by omega); omega)
    exact ⟨t, h1, fun _ => by omega⟩
  · obtain ⟨t, h1, h2⟩ := key 0 (by have := spn_pos p ((0 : Nat) : Int); omega)
    exact ⟨t, h1, fun h => absurd h hm⟩
theorem cost_ex : ∀ (n : Nat) (m p : Int), m = n → 1 ≤ m → (1 < m → 0 ≤ p) → ∃ c, Cost m p c := by
  intro n
  induction n using Nat.strongRecOn with
  | _ n ih =>
    intro m p hn h1 hp
    by_cases q : m = 1
    · subst q
      exact ⟨_, .one p⟩
    · have hp0 := hp (by omega)
      obtain ⟨t, hl, _⟩ := least_ex (m := m) hp0
      have hc := cut_fits (s := _) (by omega) hp0 hl rfl
      obtain ⟨ht, s1, s2, _, _⟩ := hc
      generalize hs : (if m - spn (p - 1) (t - 1) < spn p (t - 1) then m - spn (p - 1) (t - 1) else spn p (t - 1)) = s at s1 s2
      have hz : p = 0 → s = m - 1 := fun e => by
        subst e
        have e1 : spn (0 - 1) (t - 1) = 1 := spn_none _
        have e2 : spn 0 (t - 1) = t := by
          unfold spn
          show ((bin 1 (t - 1).toNat : Nat) : Int) = t
          rw [bin_one]; omega
        have e3 : spn 0 t = t + 1 := by
          unfold spn
          show ((bin 1 t.toNat : Nat) : Int) = t + 1
          rw [bin_one]; omega
        obtain ⟨l0, l1, l2⟩ := hl
        rw [e3] at l1
        have l3 : spn 0 (t - 1) < m := by rcases l2 with z | z <;> omega
        rw [e2] at l3
        rw [e1, e2] at hs
        rw [← hs]
        split <;> omega
      obtain ⟨c1, h1'⟩ := ih s.toNat (by omega) s p (by omega) s1 (fun _ => hp0)
      obtain ⟨c2, h2'⟩ := ih (m - s).toNat (by omega) (m - s) (p - 1) (by omega) (by omega) (fun h => by
        by_cases e : p = 0
        · have := hz e; omega
        · omega)
      exact ⟨_, .cut (by omega) hp0 hl hs.symm h1' h2'⟩
/-- how many steps there are, how often at most -/
theorem cost_all {l p t : Int} (hl0 : 0 ≤ l) (hp : 0 ≤ p) (hl : least (l + 1) p t) : ∃ c, Cost (l + 1) p c ∧ sumTo c l.toNat = t * (l + 1) - cov p t ∧ (∀ i, 0 ≤ c i ∧ c i ≤ t) ∧ (1 ≤ l → ∃ i : Nat, (i : Int) < l ∧ c i = t) := by
  obtain ⟨c, hc⟩ := cost_ex (l + 1).toNat (l + 1) p (by omega) (by omega) (fun _ => hp)
  obtain ⟨h1, h2, _, _, h5⟩ := hc.is t (by omega) hl.fits
  refine ⟨c, hc, by rwa [show l + 1 - 1 = l by omega] at h1, h2, fun h => ?_⟩
  obtain ⟨i, hi, hx⟩ := h5 (by omega) hl
  exact ⟨i, by omega, hx⟩
theorem bin_two (t : Nat) : 2 * bin 2 t = (t + 1) * (t + 2) := by
  have h := (bin_ids 1).2 t
  rw [bin_one] at h
  rw [show (1 + 1) = 2 from rfl] at h
  rw [h, Nat.mul_comm]
  congr 1
  omega
theorem steps_zero {l : Int} (hl : 0 ≤ l) : least (l + 1) 0 l ∧ l * (l + 1) - cov 0 l = l * (l + 1) / 2 := by
  have e : ∀ t : Int, 0 ≤ t → spn 0 t = t + 1 := fun t ht => by
    unfold spn
    show ((bin 1 t.toNat : Nat) : Int) = t + 1
    rw [bin_one]; omega
  refine ⟨⟨hl, by rw [e l hl]; omega, ?_⟩, ?_⟩
  · by_cases q : l = 0
    · exact .inl q
    · exact .inr (by rw [e _ (by omega)]; omega)
  · unfold cov
    by_cases q : l ≤ 0
    · have : l = 0 := by omega
      subst this
      rfl
    · rw [if_neg q]
      have h2 := bin_two (l - 1).toNat
      have e1 : spn (0 + 1) (l - 1) = ((bin 2 (l - 1).toNat : Nat) : Int) := rfl
      rw [e1]
      obtain ⟨n, hn⟩ : ∃ n : Nat, l = n + 1 := ⟨(l - 1).toNat, by omega⟩
      subst hn
      rw [show ((n : Int) + 1 - 1).toNat = n by omega] at h2 ⊢
      have h3 : 2 * ((bin 2 n : Nat) : Int) = ((n : Int) + 1) * ((n : Int) + 1 + 1) := by
        have := congrArg (fun x : Nat => (x : Int)) h2
        simp only [Int.natCast_mul, Int.natCast_add] at this
        simpa [Int.add_assoc] using this
      omega
/-- choose: the ways to pick -/
theorem pick_step (n k : Nat) (h : k < n) : bin (n - k) k * (n - k) / (k + 1) = bin (n - k - 1) (k + 1) := by
  obtain ⟨q, hq⟩ : ∃ q, n - k = q + 1 := ⟨n - k - 1, by omega⟩
  have h1 := (bin_ids q).1 k
  have h2 := (bin_ids q).2 k
  rw [hq, show q + 1 - 1 = q by omega]
  have : bin (q + 1) k * (q + 1) = bin q (k + 1) * (k + 1) := by
    rw [Nat.mul_comm, h2, ← h1, Nat.mul_comm]
  rw [this, Nat.mul_div_cancel _ (Nat.succ_pos k)]
theorem stp_len {l p : Int} {s s' : S} {w : Str} {n : Int} (h : stp l p s w n = some s') : s'.counts.length = s.counts.length := by
  unfold stp at h
  repeat' split at h
  all_goals first | (cases h; done) | (cases h; simp)
theorem runM_len {l p : Int} : ∀ {lm : List (Str × Int)} {s s' : S}, runM l p lm s = some s' → s'.counts.length = s.counts.length
  | [], s, s', h => by cases h; rfl
  | (w, n) :: r, s, s', h => by
    unfold runM at h
    cases e : stp l p s w n with
    | none => rw [e] at h; cases h
    | some s1 =>
      rw [e] at h
      rw [runM_len h, stp_len e]
theorem first_none {many free t : Int} (h : least many free t) (e : free = 0) (hm : 2 ≤ many := by omega) : (if many - spn (free - 1) (t - 1) < spn free (t - 1) then many - spn (free - 1) (t - 1) else spn free (t - 1)) = many - 1 := by
  subst e
  obtain ⟨l0, l1, l2⟩ := h
  have e1 : spn (0 - 1) (t - 1) = 1 := spn_none _
  have e3 : spn 0 t = t + 1 := by
    unfold spn
    show ((bin 1 t.toNat : Nat) : Int) = t + 1
    rw [bin_one]; omega
  rw [e3] at l1
  have e2 : spn 0 (t - 1) = t := by
    unfold spn
    show ((bin 1 (t - 1).toNat : Nat) : Int) = t
    rw [bin_one]; omega
  rw [e1, e2]
  rw [e2] at l2
  split <;> omega
end K97
set_option Elab.async false
set_option linter.all false
set_option maxRecDepth 100000
set_option maxHeartbeats 1000000
namespace K97
open PySem PySem.Spec PyProof.Rows L2 DL
def topS (i : Nat) : Stmt := PySem.Challenge.pw_slipslater_k98_whole_fewest_steps_back.main.body.getD i (.Pass ⟨0, 0, 0, 0⟩)
section
variable {P : Program} {w : World} {K : PySem.W.Frag} {mg : Str → Option Value} {base : Heap} {f : Addr} {fd : FuncData}
/-! ### spans -/
abbrev s_spans : Stmt := topS 1
theorem c_spans : FnScope ["places", "times", "ways", "turn"] ["places", "times"] (defScope s_spans) := ⟨rfl, rfl, rfl, by decide +kernel, rfl, by decide +kernel, by decide +kernel⟩
def sp_spans : DSp := fun _ ds Q _ => ∃ (p t : Int), ds = [.int p, .int t] ∧ -1 ≤ p ∧ p ≤ 1000000 ∧ -1000000 ≤ t ∧ t ≤ 1000000 ∧ Q (.int (spn p t))
theorem ok_spans (F : Fun K "spans" "spans" s_spans f fd) (m_range : mg "range" = none) : FnOk P w K mg base (L2.CX P w) 1 f fd ["places", "times"] (liftSp K sp_spans) := by
  have lens : ∀ J ds Q E, sp_spans J ds Q E → ds.length = 2 := fun J ds Q E ⟨_, _, e, _⟩ => by rw [e]; rfl
  refine dfn F c_spans lens (fun p X ds Q E cdv A outer s H EX hX hK hr hE h => ?_)
  subst hX
  refine ⟨_, (dss_cons (ds_set (i := 2) c_spans.nd rfl (.inl rfl) de_int)
    (dss_cons (ds_for (passes_of rfl) rfl (di_rng1 rfl m_range (dv 1)) (dg_nm (i := 3) c_spans.nd rfl (.inl rfl))
    (dss_one (ds_set (i := 2) c_spans.nd rfl (.inl rfl) (de_op op_fdiv rd_I (de_op op_mul rd_I (dv 2) (de_op op_add rd_I0 (de_op op_add rd_I0 (dv 0) de_int) (dv 3))) (de_op op_add rd_I0 (dv 3) de_int)))))
    (dss_one (ds_ret (dv 2))))), ?_⟩
  obtain ⟨pl, t, rfl, h1, h2, h3, h4, q⟩ := h
  simp only [DL.dTry, DL.Pt.at, forall_const, DL.dXat, DL.dEmptied, DL.dSeq, DL.dSet, DL.dSetO, DL.dC, DL.dVar, DL.dFor, DL.dWhile, DL.dIfS, DL.dRet, DL.dRetN, DL.dDrop, DL.dNext, DL.dBrk, DL.dCnt, DL.dAppend, DL.dExtend, DL.dPop, DL.dAsg, DL.dPar, DL.dIxNm, DL.dAugIx, DL.dAug, DL.dSetIx, DL.dRaise, DL.dOp, DL.dOpL, DL.dTest, DL.dNot, DL.dAnd, DL.dOr, DL.dAndV, DL.dOrV, DL.dNotV, DL.dIf, DL.dLen, DL.rLen, DL.dTupOf, DL.rTup, DL.dListOf, DL.dIntOf, DL.rIntOf, DL.dAbs, DL.rAbs, DL.dAll, DL.rAllD, DL.dAny, DL.rAnyD, DL.dSum, DL.rSumD, DL.dInst, DL.dCall, DL.dCallK, DL.dCallX, DL.dCallKX, DL.dCons, DL.dConsO, DL.dNil, DL.dStar, DL.dTup, DL.dLst, DL.dL, DL.dSlT, DL.dSlL, DL.dNo, DL.dPart, DL.dLc, DL.dYes, DL.diSeq, DL.diRng1, DL.diRng2, DL.diZip, DL.bP, DL.bPs, DL.oI, DL.oIc, DL.oS, DL.oIx, DL.oIn, DL.oIsN, DL.oNotN, DL.oIsB, DL.oCatT, DL.oCatL, DL.oRepL, DL.oRep01, DL.oRepT, DL.dSumT, DL.rSumTD, DL.dMaxT, DL.rMaxTD, DL.dSortT, DL.dFrz, DL.gOf, DL.gNext, DL.gSeq, DL.gIf, DL.gWhile, DL.gFor, DL.gPut, DL.dNotInX, DL.dStart3, DL.dStart2, DL.dRevT, DL.dRevL, DL.dNeg, DL.dChain, DL.startD, DL.setsD, DL.wipeD, List.map_cons, List.map_nil, List.length_cons, List.length_nil, Nat.reduceAdd, Nat.reduceSub, List.replicate_succ, List.replicate_zero, List.cons_append, List.nil_append, List.append_nil, List.set_cons_succ, List.set_cons_zero, List.getElem?_cons_succ, List.getElem?_cons_zero, Option.some.injEq, D.int.injEq, D.bl.injEq, D.str.injEq, D.tup.injEq, D.lst.injEq, D.own.injEq, exists_eq_left', exists_eq_left, true_and, and_true, reduceCtorEq, false_and, and_false, exists_const, List.cons.injEq, exists_eq_right, exists_eq_right', and_assoc, exists_and_left, D.opq.injEq, V.ref.injEq, DL.items_tup, DL.items_lst, DL.items_own, DL.lstOf_lst, DL.lstOf_own, DL.isOwn_non, DL.frz_non, DL.isOwn_bl, DL.frz_bl, DL.isOwn_int, DL.frz_int, DL.isOwn_str, DL.frz_str, DL.isOwn_tup, DL.frz_tup, DL.isOwn_lst, DL.frz_lst, DL.isOwn_opq, DL.frz_opq, DL.isOwn_own, DL.frz_own, DL.isOwn_frz, if_true, if_false, Bool.false_eq_true, Bool.not_true, Bool.not_false, reduceIte]
  refine ⟨by omega, by omega, fun i δ => ∃ v, δ = [some (.int pl), some (.int t), some (.int (bin (pl + 1).toNat i)), v], ⟨_, by rw [bin_z]; rfl⟩, ?_, ?_⟩
  · rintro i d _ hd ⟨v, rfl⟩
    obtain ⟨hi, rfl⟩ := rngD_get hd
    simp only [DL.dTry, DL.Pt.at, forall_const, DL.dXat, DL.dEmptied, DL.dSeq, DL.dSet, DL.dSetO, DL.dC, DL.dVar, DL.dFor, DL.dWhile, DL.dIfS, DL.dRet, DL.dRetN, DL.dDrop, DL.dNext, DL.dBrk, DL.dCnt, DL.dAppend, DL.dExtend, DL.dPop, DL.dAsg, DL.dPar, DL.dIxNm, DL.dAugIx, DL.dAug, DL.dSetIx, DL.dRaise, DL.dOp, DL.dOpL, DL.dTest, DL.dNot, DL.dAnd, DL.dOr, DL.dAndV, DL.dOrV, DL.dNotV, DL.dIf, DL.dLen, DL.rLen, DL.dTupOf, DL.rTup, DL.dListOf, DL.dIntOf, DL.rIntOf, DL.dAbs, DL.rAbs, DL.dAll, DL.rAllD, DL.dAny, DL.rAnyD, DL.dSum, DL.rSumD, DL.dInst, DL.dCall, DL.dCallK, DL.dCallX, DL.dCallKX, DL.dCons, DL.dConsO, DL.dNil, DL.dStar, DL.dTup, DL.dLst, DL.dL, DL.dSlT, DL.dSlL, DL.dNo, DL.dPart, DL.dLc, DL.dYes, DL.diSeq, DL.diRng1, DL.diRng2, DL.diZip, DL.bP, DL.bPs, DL.oI, DL.oIc, DL.oS, DL.oIx, DL.oIn, DL.oIsN, DL.oNotN, DL.oIsB, DL.oCatT, DL.oCatL, DL.oRepL, DL.oRep01, DL.oRepT, DL.dSumT, DL.rSumTD, DL.dMaxT, DL.rMaxTD, DL.dSortT, DL.dFrz, DL.gOf, DL.gNext, DL.gSeq, DL.gIf, DL.gWhile, DL.gFor, DL.gPut, DL.dNotInX, DL.dStart3, DL.dStart2, DL.dRevT, DL.dRevL, DL.dNeg, DL.dChain, DL.startD, DL.setsD, DL.wipeD, List.map_cons, List.map_nil, List.length_cons, List.length_nil, Nat.reduceAdd, Nat.reduceSub, List.replicate_succ, List.replicate_zero, List.cons_append, List.nil_append, List.append_nil, List.set_cons_succ, List.set_cons_zero, List.getElem?_cons_succ, List.getElem?_cons_zero, Option.some.injEq, D.int.injEq, D.bl.injEq, D.str.injEq, D.tup.injEq, D.lst.injEq, D.own.injEq, exists_eq_left', exists_eq_left, true_and, and_true, reduceCtorEq, false_and, and_false, exists_const, List.cons.injEq, exists_eq_right, exists_eq_right', and_assoc, exists_and_left, D.opq.injEq, V.ref.injEq, DL.items_tup, DL.items_lst, DL.items_own, DL.lstOf_lst, DL.lstOf_own, DL.isOwn_non, DL.frz_non, DL.isOwn_bl, DL.frz_bl, DL.isOwn_int, DL.frz_int, DL.isOwn_str, DL.frz_str, DL.isOwn_tup, DL.frz_tup, DL.isOwn_lst, DL.frz_lst, DL.isOwn_opq, DL.frz_opq, DL.isOwn_own, DL.frz_own, DL.isOwn_frz, if_true, if_false, Bool.false_eq_true, Bool.not_true, Bool.not_false, reduceIte]
    have e : pl + 2 + (0 + (i : Int)) = (((pl + 1).toNat + i + 1 : Nat) : Int) := by omega
    have e2 : (0 + (i : Int)) + 1 = ((i + 1 : Nat) : Int) := by omega
    refine ⟨.inr ⟨by omega, by omega⟩, ⟨by omega, by omega⟩, ?_⟩
    rw [e, e2, ← Int.natCast_mul, ← Int.natCast_ediv, bin_step]
  · rintro _ ⟨v, rfl⟩
    rw [rngD_len]
    simp only [DL.dTry, DL.Pt.at, forall_const, DL.dXat, DL.dEmptied, DL.dSeq, DL.dSet, DL.dSetO, DL.dC, DL.dVar, DL.dFor, DL.dWhile, DL.dIfS, DL.dRet, DL.dRetN, DL.dDrop, DL.dNext, DL.dBrk, DL.dCnt, DL.dAppend, DL.dExtend, DL.dPop, DL.dAsg, DL.dPar, DL.dIxNm, DL.dAugIx, DL.dAug, DL.dSetIx, DL.dRaise, DL.dOp, DL.dOpL, DL.dTest, DL.dNot, DL.dAnd, DL.dOr, DL.dAndV, DL.dOrV, DL.dNotV, DL.dIf, DL.dLen, DL.rLen, DL.dTupOf, DL.rTup, DL.dListOf, DL.dIntOf, DL.rIntOf, DL.dAbs, DL.rAbs, DL.dAll, DL.rAllD, DL.dAny, DL.rAnyD, DL.dSum, DL.rSumD, DL.dInst, DL.dCall, DL.dCallK, DL.dCallX, DL.dCallKX, DL.dCons, DL.dConsO, DL.dNil, DL.dStar, DL.dTup, DL.dLst, DL.dL, DL.dSlT, DL.dSlL, DL.dNo, DL.dPart, DL.dLc, DL.dYes, DL.diSeq, DL.diRng1, DL.diRng2, DL.diZip, DL.bP, DL.bPs, DL.oI, DL.oIc, DL.oS, DL.oIx, DL.oIn, DL.oIsN, DL.oNotN, DL.oIsB, DL.oCatT, DL.oCatL, DL.oRepL, DL.oRep01, DL.oRepT, DL.dSumT, DL.rSumTD, DL.dMaxT, DL.rMaxTD, DL.dSortT, DL.dFrz, DL.gOf, DL.gNext, DL.gSeq, DL.gIf, DL.gWhile, DL.gFor, DL.gPut, DL.dNotInX, DL.dStart3, DL.dStart2, DL.dRevT, DL.dRevL, DL.dNeg, DL.dChain, DL.startD, DL.setsD, DL.wipeD, List.map_cons, List.map_nil, List.length_cons, List.length_nil, Nat.reduceAdd, Nat.reduceSub, List.replicate_succ, List.replicate_zero, List.cons_append, List.nil_append, List.append_nil, List.set_cons_succ, List.set_cons_zero, List.getElem?_cons_succ, List.getElem?_cons_zero, Option.some.injEq, D.int.injEq, D.bl.injEq, D.str.injEq, D.tup.injEq, D.lst.injEq, D.own.injEq, exists_eq_left', exists_eq_left, true_and, and_true, reduceCtorEq, false_and, and_false, exists_const, List.cons.injEq, exists_eq_right, exists_eq_right', and_assoc, exists_and_left, D.opq.injEq, V.ref.injEq, DL.items_tup, DL.items_lst, DL.items_own, DL.lstOf_lst, DL.lstOf_own, DL.isOwn_non, DL.frz_non, DL.isOwn_bl, DL.frz_bl, DL.isOwn_int, DL.frz_int, DL.isOwn_str, DL.frz_str, DL.isOwn_tup, DL.frz_tup, DL.isOwn_lst, DL.frz_lst, DL.isOwn_opq, DL.frz_opq, DL.isOwn_own, DL.frz_own, DL.isOwn_frz, if_true, if_false, Bool.false_eq_true, Bool.not_true, Bool.not_false, reduceIte]
    exact q
/-! ### longest_row -/
abbrev s_longest_row : Stmt := topS 2
theorem c_longest_row : FnScope ["places", "times"] ["places", "times"] (defScope s_longest_row) := ⟨rfl, rfl, rfl, by decide +kernel, rfl, by decide +kernel, by decide +kernel⟩
def sp_longest_row : DSp := fun _ ds Q _ => ∃ (p t : Int), ds = [.int p, .int t] ∧ -1 ≤ p ∧ p ≤ 1000000 ∧ -1000000 ≤ t ∧ t ≤ 1000000 ∧ Q (.int (spn p t - 1))
theorem ok_longest_row (F : Fun K "longest_row" "longest_row" s_longest_row f fd) (C_spans : Callee P w K mg base 1 "spans" ["places", "times"] sp_spans) : FnOk P w K mg base (L2.CX P w) 2 f fd ["places", "times"] (liftSp K sp_longest_row) := by
  have lens : ∀ J ds Q E, sp_longest_row J ds Q E → ds.length = 2 := fun J ds Q E ⟨_, _, e, _⟩ => by rw [e]; rfl
  refine dfn F c_longest_row lens (fun p X ds Q E cdv A outer s H EX hX hK hr hE h => ?_)
  subst hX
  refine ⟨_, (dss_one (ds_ret (de_op op_sub rd_I0 (de_callC hK C_spans hr (da_cons (dv 0) (da_cons (dv 1) da_nil))) de_int))), ?_⟩
  obtain ⟨pl, t, rfl, h1, h2, h3, h4, q⟩ := h
  simp only [DL.dTry, DL.Pt.at, forall_const, DL.dXat, DL.dEmptied, DL.dSeq, DL.dSet, DL.dSetO, DL.dC, DL.dVar, DL.dFor, DL.dWhile, DL.dIfS, DL.dRet, DL.dRetN, DL.dDrop, DL.dNext, DL.dBrk, DL.dCnt, DL.dAppend, DL.dExtend, DL.dPop, DL.dAsg, DL.dPar, DL.dIxNm, DL.dAugIx, DL.dAug, DL.dSetIx, DL.dRaise, DL.dOp, DL.dOpL, DL.dTest, DL.dNot, DL.dAnd, DL.dOr, DL.dAndV, DL.dOrV, DL.dNotV, DL.dIf, DL.dLen, DL.rLen, DL.dTupOf, DL.rTup, DL.dListOf, DL.dIntOf, DL.rIntOf, DL.dAbs, DL.rAbs, DL.dAll, DL.rAllD, DL.dAny, DL.rAnyD, DL.dSum, DL.rSumD, DL.dInst, DL.dCall, DL.dCallK, DL.dCallX, DL.dCallKX, DL.dCons, DL.dConsO, DL.dNil, DL.dStar, DL.dTup, DL.dLst, DL.dL, DL.dSlT, DL.dSlL, DL.dNo, DL.dPart, DL.dLc, DL.dYes, DL.diSeq, DL.diRng1, DL.diRng2, DL.diZip, DL.bP, DL.bPs, DL.oI, DL.oIc, DL.oS, DL.oIx, DL.oIn, DL.oIsN, DL.oNotN, DL.oIsB, DL.oCatT, DL.oCatL, DL.oRepL, DL.oRep01, DL.oRepT, DL.dSumT, DL.rSumTD, DL.dMaxT, DL.rMaxTD, DL.dSortT, DL.dFrz, DL.gOf, DL.gNext, DL.gSeq, DL.gIf, DL.gWhile, DL.gFor, DL.gPut, DL.dNotInX, DL.dStart3, DL.dStart2, DL.dRevT, DL.dRevL, DL.dNeg, DL.dChain, DL.startD, DL.setsD, DL.wipeD, List.map_cons, List.map_nil, List.length_cons, List.length_nil, Nat.reduceAdd, Nat.reduceSub, List.replicate_succ, List.replicate_zero, List.cons_append, List.nil_append, List.append_nil, List.set_cons_succ, List.set_cons_zero, List.getElem?_cons_succ, List.getElem?_cons_zero, Option.some.injEq, D.int.injEq, D.bl.injEq, D.str.injEq, D.tup.injEq, D.lst.injEq, D.own.injEq, exists_eq_left', exists_eq_left, true_and, and_true, reduceCtorEq, false_and, and_false, exists_const, List.cons.injEq, exists_eq_right, exists_eq_right', and_assoc, exists_and_left, D.opq.injEq, V.ref.injEq, DL.items_tup, DL.items_lst, DL.items_own, DL.lstOf_lst, DL.lstOf_own, DL.isOwn_non, DL.frz_non, DL.isOwn_bl, DL.frz_bl, DL.isOwn_int, DL.frz_int, DL.isOwn_str, DL.frz_str, DL.isOwn_tup, DL.frz_tup, DL.isOwn_lst, DL.frz_lst, DL.isOwn_opq, DL.frz_opq, DL.isOwn_own, DL.frz_own, DL.isOwn_frz, if_true, if_false, Bool.false_eq_true, Bool.not_true, Bool.not_false, reduceIte, sp_spans]
  exact ⟨h1, h2, h3, h4, q⟩
/-! ### fewest_times -/
abbrev s_fewest_times : Stmt := topS 3
theorem c_fewest_times : FnScope ["length", "places", "times"] ["length", "places"] (defScope s_fewest_times) := ⟨rfl, rfl, rfl, by decide +kernel, rfl, by decide +kernel, by decide +kernel⟩
def sp_fewest_times : DSp := fun _ ds Q _ => ∃ (l p : Int), ds = [.int l, .int p] ∧ 0 ≤ p ∧ p ≤ 1000000 ∧ l ≤ 100000 ∧ ∀ t, least (l + 1) p t → t ≤ 100000 → Q (.int t)
theorem spn_up (p t : Int) (hp : 0 ≤ p) (ht : 0 ≤ t) : t + 1 ≤ spn p t := by
  unfold spn
  have := bin_up p.toNat t.toNat
  have e : (p + 1).toNat = p.toNat + 1 := by omega
  rw [e]
  omega
theorem ok_fewest_times (F : Fun K "fewest_times" "fewest_times" s_fewest_times f fd) (C_longest_row : Callee P w K mg base 2 "longest_row" ["places", "times"] sp_longest_row) : FnOk P w K mg base (L2.CX P w) 3 f fd ["length", "places"] (liftSp K sp_fewest_times) := by
  have lens : ∀ J ds Q E, sp_fewest_times J ds Q E → ds.length = 2 := fun J ds Q E ⟨_, _, e, _⟩ => by rw [e]; rfl
  refine dfn F c_fewest_times lens (fun p X ds Q E cdv A outer s H EX hX hK hr hE h => ?_)
  subst hX
  refine ⟨_, (dss_cons (ds_set (i := 2) c_fewest_times.nd rfl (.inl rfl) de_int)
    (dss_cons (ds_while (passes_of rfl) (dt_cmp op_lt rd_B0 (de_callC hK C_longest_row hr (da_cons (dv 1) (da_cons (dv 2) da_nil))) (dv 0))
    (dss_one (ds_aug (i := 2) ip_add c_fewest_times.nd rfl (.inl rfl) de_int)))
    (dss_one (ds_ret (dv 2))))), ?_⟩
  obtain ⟨l, pl, rfl, h1, h2, h3, q⟩ := h
  simp only [DL.dTry, DL.Pt.at, forall_const, DL.dXat, DL.dEmptied, DL.dSeq, DL.dSet, DL.dSetO, DL.dC, DL.dVar, DL.dFor, DL.dWhile, DL.dIfS, DL.dRet, DL.dRetN, DL.dDrop, DL.dNext, DL.dBrk, DL.dCnt, DL.dAppend, DL.dExtend, DL.dPop, DL.dAsg, DL.dPar, DL.dIxNm, DL.dAugIx, DL.dAug, DL.dSetIx, DL.dRaise, DL.dOp, DL.dOpL, DL.dTest, DL.dNot, DL.dAnd, DL.dOr, DL.dAndV, DL.dOrV, DL.dNotV, DL.dIf, DL.dLen, DL.rLen, DL.dTupOf, DL.rTup, DL.dListOf, DL.dIntOf, DL.rIntOf, DL.dAbs, DL.rAbs, DL.dAll, DL.rAllD, DL.dAny, DL.rAnyD, DL.dSum, DL.rSumD, DL.dInst, DL.dCall, DL.dCallK, DL.dCallX, DL.dCallKX, DL.dCons, DL.dConsO, DL.dNil, DL.dStar, DL.dTup, DL.dLst, DL.dL, DL.dSlT, DL.dSlL, DL.dNo, DL.dPart, DL.dLc, DL.dYes, DL.diSeq, DL.diRng1, DL.diRng2, DL.diZip, DL.bP, DL.bPs, DL.oI, DL.oIc, DL.oS, DL.oIx, DL.oIn, DL.oIsN, DL.oNotN, DL.oIsB, DL.oCatT, DL.oCatL, DL.oRepL, DL.oRep01, DL.oRepT, DL.dSumT, DL.rSumTD, DL.dMaxT, DL.rMaxTD, DL.dSortT, DL.dFrz, DL.gOf, DL.gNext, DL.gSeq, DL.gIf, DL.gWhile, DL.gFor, DL.gPut, DL.dNotInX, DL.dStart3, DL.dStart2, DL.dRevT, DL.dRevL, DL.dNeg, DL.dChain, DL.startD, DL.setsD, DL.wipeD, List.map_cons, List.map_nil, List.length_cons, List.length_nil, Nat.reduceAdd, Nat.reduceSub, List.replicate_succ, List.replicate_zero, List.cons_append, List.nil_append, List.append_nil, List.set_cons_succ, List.set_cons_zero, List.getElem?_cons_succ, List.getElem?_cons_zero, Option.some.injEq, D.int.injEq, D.bl.injEq, D.str.injEq, D.tup.injEq, D.lst.injEq, D.own.injEq, exists_eq_left', exists_eq_left, true_and, and_true, reduceCtorEq, false_and, and_false, exists_const, List.cons.injEq, exists_eq_right, exists_eq_right', and_assoc, exists_and_left, D.opq.injEq, V.ref.injEq, DL.items_tup, DL.items_lst, DL.items_own, DL.lstOf_lst, DL.lstOf_own, DL.isOwn_non, DL.frz_non, DL.isOwn_bl, DL.frz_bl, DL.isOwn_int, DL.frz_int, DL.isOwn_str, DL.frz_str, DL.isOwn_tup, DL.frz_tup, DL.isOwn_lst, DL.frz_lst, DL.isOwn_opq, DL.frz_opq, DL.isOwn_own, DL.frz_own, DL.isOwn_frz, if_true, if_false, Bool.false_eq_true, Bool.not_true, Bool.not_false, reduceIte, sp_longest_row]
  refine ⟨fun m δ => ∃ t : Int, 0 ≤ t ∧ (m : Int) = 200000 - t ∧ t ≤ 100000 ∧ (t = 0 ∨ spn pl (t - 1) - 1 < l) ∧ δ = [some (.int l), some (.int pl), some (.int t)], ⟨200000, 0, by omega, by omega, by omega, .inl rfl, rfl⟩, ?_⟩
  rintro m _ ⟨t, h0, hm, ht, hlast, rfl⟩
  simp only [DL.dTry, DL.Pt.at, forall_const, DL.dXat, DL.dEmptied, DL.dSeq, DL.dSet, DL.dSetO, DL.dC, DL.dVar, DL.dFor, DL.dWhile, DL.dIfS, DL.dRet, DL.dRetN, DL.dDrop, DL.dNext, DL.dBrk, DL.dCnt, DL.dAppend, DL.dExtend, DL.dPop, DL.dAsg, DL.dPar, DL.dIxNm, DL.dAugIx, DL.dAug, DL.dSetIx, DL.dRaise, DL.dOp, DL.dOpL, DL.dTest, DL.dNot, DL.dAnd, DL.dOr, DL.dAndV, DL.dOrV, DL.dNotV, DL.dIf, DL.dLen, DL.rLen, DL.dTupOf, DL.rTup, DL.dListOf, DL.dIntOf, DL.rIntOf, DL.dAbs, DL.rAbs, DL.dAll, DL.rAllD, DL.dAny, DL.rAnyD, DL.dSum, DL.rSumD, DL.dInst, DL.dCall, DL.dCallK, DL.dCallX, DL.dCallKX, DL.dCons, DL.dConsO, DL.dNil, DL.dStar, DL.dTup, DL.dLst, DL.dL, DL.dSlT, DL.dSlL, DL.dNo, DL.dPart, DL.dLc, DL.dYes, DL.diSeq, DL.diRng1, DL.diRng2, DL.diZip, DL.bP, DL.bPs, DL.oI, DL.oIc, DL.oS, DL.oIx, DL.oIn, DL.oIsN, DL.oNotN, DL.oIsB, DL.oCatT, DL.oCatL, DL.oRepL, DL.oRep01, DL.oRepT, DL.dSumT, DL.rSumTD, DL.dMaxT, DL.rMaxTD, DL.dSortT, DL.dFrz, DL.gOf, DL.gNext, DL.gSeq, DL.gIf, DL.gWhile, DL.gFor, DL.gPut, DL.dNotInX, DL.dStart3, DL.dStart2, DL.dRevT, DL.dRevL, DL.dNeg, DL.dChain, DL.startD, DL.setsD, DL.wipeD, List.map_cons, List.map_nil, List.length_cons, List.length_nil, Nat.reduceAdd, Nat.reduceSub, List.replicate_succ, List.replicate_zero, List.cons_append, List.nil_append, List.append_nil, List.set_cons_succ, List.set_cons_zero, List.getElem?_cons_succ, List.getElem?_cons_zero, Option.some.injEq, D.int.injEq, D.bl.injEq, D.str.injEq, D.tup.injEq, D.lst.injEq, D.own.injEq, exists_eq_left', exists_eq_left, true_and, and_true, reduceCtorEq, false_and, and_false, exists_const, List.cons.injEq, exists_eq_right, exists_eq_right', and_assoc, exists_and_left, D.opq.injEq, V.ref.injEq, DL.items_tup, DL.items_lst, DL.items_own, DL.lstOf_lst, DL.lstOf_own, DL.isOwn_non, DL.frz_non, DL.isOwn_bl, DL.frz_bl, DL.isOwn_int, DL.frz_int, DL.isOwn_str, DL.frz_str, DL.isOwn_tup, DL.frz_tup, DL.isOwn_lst, DL.frz_lst, DL.isOwn_opq, DL.frz_opq, DL.isOwn_own, DL.frz_own, DL.isOwn_frz, if_true, if_false, Bool.false_eq_true, Bool.not_true, Bool.not_false, reduceIte]
  refine ⟨by omega, by omega, by omega, by omega, ?_⟩
  by_cases c : spn pl t - 1 < l
  · refine if_true_of (decide_eq_true c) ?_
    have := spn_up pl t h1 h0
    exact ⟨m - 1, by omega, t + 1, by omega, by omega, by omega, .inr (by rw [show t + 1 - 1 = t by omega]; exact c), rfl⟩
  · refine if_false_of (decide_eq_false c) ?_
    exact q t ⟨h0, by omega, by rcases hlast with e | e <;> omega⟩ ht

/-! ### is_integer, is_number, is_move -/
def isIntD : D → Bool
  | .int _ => true | _ => false
def isNumD : D → Bool
  | .int n => decide (0 ≤ n) | _ => false
abbrev s_is_integer : Stmt := topS 10
theorem c_is_integer : FnScope ["value"] ["value"] (defScope s_is_integer) := ⟨rfl, rfl, rfl, by decide +kernel, rfl, by decide +kernel, by decide +kernel⟩
def sp_is_integer : DSp := fun _ ds Q _ => ∃ v, ds = [v] ∧ okV v = true ∧ Q (.bl (isIntD v))
theorem ok_is_integer (F : Fun K "is_integer" "is_integer" s_is_integer f fd) (m_isinstance : mg "isinstance" = none) (m_int : mg "int" = none) (m_bool : mg "bool" = none) : FnOk P w K mg base (L2.CX P w) 1 f fd ["value"] (liftSp K sp_is_integer) := by
  have lens : ∀ J ds Q E, sp_is_integer J ds Q E → ds.length = 1 := fun J ds Q E ⟨_, e, _⟩ => by rw [e]; rfl
  refine dfn F c_is_integer lens (fun p X ds Q E cdv A outer s H EX hX hK hr hE h => ?_)
  subst hX
  refine ⟨_, (dss_one (ds_ret (de_and (de_inst hK (T := "int") (by decide) rfl m_isinstance rfl m_int (by decide +kernel) (dv 0)) (de_one (de_not (de_inst hK (T := "bool") (by decide) rfl m_isinstance rfl m_bool (by decide +kernel) (dv 0))))))), ?_⟩
  obtain ⟨v, rfl, h1, q⟩ := h
  simp only [DL.dTry, DL.Pt.at, forall_const, DL.dXat, DL.dEmptied, DL.dSeq, DL.dSet, DL.dSetO, DL.dC, DL.dVar, DL.dFor, DL.dWhile, DL.dIfS, DL.dRet, DL.dRetN, DL.dDrop, DL.dNext, DL.dBrk, DL.dCnt, DL.dAppend, DL.dExtend, DL.dPop, DL.dAsg, DL.dPar, DL.dIxNm, DL.dAugIx, DL.dAug, DL.dSetIx, DL.dRaise, DL.dOp, DL.dOpL, DL.dTest, DL.dNot, DL.dAnd, DL.dOr, DL.dAndV, DL.dOrV, DL.dNotV, DL.dIf, DL.dLen, DL.rLen, DL.dTupOf, DL.rTup, DL.dListOf, DL.dIntOf, DL.rIntOf, DL.dAbs, DL.rAbs, DL.dAll, DL.rAllD, DL.dAny, DL.rAnyD, DL.dSum, DL.rSumD, DL.dInst, DL.dCall, DL.dCallK, DL.dCallX, DL.dCallKX, DL.dCons, DL.dConsO, DL.dNil, DL.dStar, DL.dTup, DL.dLst, DL.dL, DL.dSlT, DL.dSlL, DL.dNo, DL.dPart, DL.dLc, DL.dYes, DL.diSeq, DL.diRng1, DL.diRng2, DL.diZip, DL.bP, DL.bPs, DL.oI, DL.oIc, DL.oS, DL.oIx, DL.oIn, DL.oIsN, DL.oNotN, DL.oIsB, DL.oCatT, DL.oCatL, DL.oRepL, DL.oRep01, DL.oRepT, DL.dSumT, DL.rSumTD, DL.dMaxT, DL.rMaxTD, DL.dSortT, DL.dFrz, DL.gOf, DL.gNext, DL.gSeq, DL.gIf, DL.gWhile, DL.gFor, DL.gPut, DL.dNotInX, DL.dStart3, DL.dStart2, DL.dRevT, DL.dRevL, DL.dNeg, DL.dChain, DL.startD, DL.setsD, DL.wipeD, List.map_cons, List.map_nil, List.length_cons, List.length_nil, Nat.reduceAdd, Nat.reduceSub, List.replicate_succ, List.replicate_zero, List.cons_append, List.nil_append, List.append_nil, List.set_cons_succ, List.set_cons_zero, List.getElem?_cons_succ, List.getElem?_cons_zero, Option.some.injEq, D.int.injEq, D.bl.injEq, D.str.injEq, D.tup.injEq, D.lst.injEq, D.own.injEq, exists_eq_left', exists_eq_left, true_and, and_true, reduceCtorEq, false_and, and_false, exists_const, List.cons.injEq, exists_eq_right, exists_eq_right', and_assoc, exists_and_left, D.opq.injEq, V.ref.injEq, DL.items_tup, DL.items_lst, DL.items_own, DL.lstOf_lst, DL.lstOf_own, DL.isOwn_non, DL.frz_non, DL.isOwn_bl, DL.frz_bl, DL.isOwn_int, DL.frz_int, DL.isOwn_str, DL.frz_str, DL.isOwn_tup, DL.frz_tup, DL.isOwn_lst, DL.frz_lst, DL.isOwn_opq, DL.frz_opq, DL.isOwn_own, DL.frz_own, DL.isOwn_frz, if_true, if_false, Bool.false_eq_true, Bool.not_true, Bool.not_false, reduceIte]
  refine ⟨okV_opq h1, ?_⟩
  cases v <;> simp only [okV, Bool.false_eq_true] at h1 <;> simpa [D.inst, isIntD, D.frz] using q
abbrev s_is_number : Stmt := topS 11
theorem c_is_number : FnScope ["value"] ["value"] (defScope s_is_number) := ⟨rfl, rfl, rfl, by decide +kernel, rfl, by decide +kernel, by decide +kernel⟩
def sp_is_number : DSp := fun _ ds Q _ => ∃ v, ds = [v] ∧ okV v = true ∧ Q (.bl (isNumD v))
theorem ok_is_number (F : Fun K "is_number" "is_number" s_is_number f fd) (C_is_integer : Callee P w K mg base 1 "is_integer" ["value"] sp_is_integer) : FnOk P w K mg base (L2.CX P w) 2 f fd ["value"] (liftSp K sp_is_number) := by
  have lens : ∀ J ds Q E, sp_is_number J ds Q E → ds.length = 1 := fun J ds Q E ⟨_, e, _⟩ => by rw [e]; rfl
  refine dfn F c_is_number lens (fun p X ds Q E cdv A outer s H EX hX hK hr hE h => ?_)
  subst hX
  refine ⟨_, (dss_one (ds_ret (de_and (de_callC hK C_is_integer hr (da_cons (dv 0) da_nil)) (de_one (de_cmp op_ge rd_B0 (dv 0) de_int))))), ?_⟩
  obtain ⟨v, rfl, h1, q⟩ := h
  simp only [DL.dTry, DL.Pt.at, forall_const, DL.dXat, DL.dEmptied, DL.dSeq, DL.dSet, DL.dSetO, DL.dC, DL.dVar, DL.dFor, DL.dWhile, DL.dIfS, DL.dRet, DL.dRetN, DL.dDrop, DL.dNext, DL.dBrk, DL.dCnt, DL.dAppend, DL.dExtend, DL.dPop, DL.dAsg, DL.dPar, DL.dIxNm, DL.dAugIx, DL.dAug, DL.dSetIx, DL.dRaise, DL.dOp, DL.dOpL, DL.dTest, DL.dNot, DL.dAnd, DL.dOr, DL.dAndV, DL.dOrV, DL.dNotV, DL.dIf, DL.dLen, DL.rLen, DL.dTupOf, DL.rTup, DL.dListOf, DL.dIntOf, DL.rIntOf, DL.dAbs, DL.rAbs, DL.dAll, DL.rAllD, DL.dAny, DL.rAnyD, DL.dSum, DL.rSumD, DL.dInst, DL.dCall, DL.dCallK, DL.dCallX, DL.dCallKX, DL.dCons, DL.dConsO, DL.dNil, DL.dStar, DL.dTup, DL.dLst, DL.dL, DL.dSlT, DL.dSlL, DL.dNo, DL.dPart, DL.dLc, DL.dYes, DL.diSeq, DL.diRng1, DL.diRng2, DL.diZip, DL.bP, DL.bPs, DL.oI, DL.oIc, DL.oS, DL.oIx, DL.oIn, DL.oIsN, DL.oNotN, DL.oIsB, DL.oCatT, DL.oCatL, DL.oRepL, DL.oRep01, DL.oRepT, DL.dSumT, DL.rSumTD, DL.dMaxT, DL.rMaxTD, DL.dSortT, DL.dFrz, DL.gOf, DL.gNext, DL.gSeq, DL.gIf, DL.gWhile, DL.gFor, DL.gPut, DL.dNotInX, DL.dStart3, DL.dStart2, DL.dRevT, DL.dRevL, DL.dNeg, DL.dChain, DL.startD, DL.setsD, DL.wipeD, List.map_cons, List.map_nil, List.length_cons, List.length_nil, Nat.reduceAdd, Nat.reduceSub, List.replicate_succ, List.replicate_zero, List.cons_append, List.nil_append, List.append_nil, List.set_cons_succ, List.set_cons_zero, List.getElem?_cons_succ, List.getElem?_cons_zero, Option.some.injEq, D.int.injEq, D.bl.injEq, D.str.injEq, D.tup.injEq, D.lst.injEq, D.own.injEq, exists_eq_left', exists_eq_left, true_and, and_true, reduceCtorEq, false_and, and_false, exists_const, List.cons.injEq, exists_eq_right, exists_eq_right', and_assoc, exists_and_left, D.opq.injEq, V.ref.injEq, DL.items_tup, DL.items_lst, DL.items_own, DL.lstOf_lst, DL.lstOf_own, DL.isOwn_non, DL.frz_non, DL.isOwn_bl, DL.frz_bl, DL.isOwn_int, DL.frz_int, DL.isOwn_str, DL.frz_str, DL.isOwn_tup, DL.frz_tup, DL.isOwn_lst, DL.frz_lst, DL.isOwn_opq, DL.frz_opq, DL.isOwn_own, DL.frz_own, DL.isOwn_frz, if_true, if_false, Bool.false_eq_true, Bool.not_true, Bool.not_false, reduceIte, sp_is_integer]
  refine ⟨okV_own h1, h1, ?_⟩
  cases v <;> simp only [okV, Bool.false_eq_true] at h1 <;> simpa [isIntD, isNumD, D.frz] using q
abbrev isMoveD (d : D) : Bool := (mv d).isSome
def movesD : D := .tup (slst MOVES)
abbrev s_is_move : Stmt := topS 14
theorem c_is_move : FnScope ["value"] ["value"] (defScope s_is_move) := ⟨rfl, rfl, rfl, by decide +kernel, rfl, by decide +kernel, by decide +kernel⟩
def sp_is_move : DSp := fun _ ds Q _ => ∃ v, ds = [v] ∧ okV v = true ∧ Q (.bl (isMoveD v))
theorem ok_is_move (F : Fun K "is_move" "is_move" s_is_move f fd) (C_is_number : Callee P w K mg base 2 "is_number" ["value"] sp_is_number) (m_isinstance : mg "isinstance" = none) (m_tuple : mg "tuple" = none) (m_str : mg "str" = none) (m_len : mg "len" = none)
    {um : Value} (hm_MOVES : mg "MOVES" = some um) (hc_MOVES : constD K movesD um) : FnOk P w K mg base (L2.CX P w) 3 f fd ["value"] (liftSp K sp_is_move) := by
  have lens : ∀ J ds Q E, sp_is_move J ds Q E → ds.length = 1 := fun J ds Q E ⟨_, e, _⟩ => by rw [e]; rfl
  refine dfn F c_is_move lens (fun p X ds Q E cdv A outer s H EX hX hK hr hE h => ?_)
  subst hX
  refine ⟨_, (dss_cons (ds_if (PDW.dt (dw_or (dt_not (dt_val (de_inst hK (T := "tuple") (by decide) rfl m_isinstance rfl m_tuple (by decide +kernel) (dv 0)))) (dw_or (dt_cmp op_ne rd_neI (de_len hK rfl m_len (dv 0)) de_int) (dw_or1 (dt_not (dt_val (de_inst hK (T := "str") (by decide) rfl m_isinstance rfl m_str (by decide +kernel) (de_ix ix_seq (rd_ixK hK) (dv 0) de_int (by intro _ _; rfl)))))))))
    (dss_one (ds_ret de_bl))
    dss_nil)
    (dss_one (ds_ret (de_and (de_cmp op_in_seq (rd_inK hK) (de_ix ix_seq (rd_ixK hK) (dv 0) de_int (by intro _ _; rfl)) (de_glob hK rfl hm_MOVES hc_MOVES)) (de_one (de_callC hK C_is_number hr (da_cons (de_ix ix_seq (rd_ixK hK) (dv 0) de_int (by intro _ _; rfl)) da_nil))))))), ?_⟩
  obtain ⟨v, rfl, h1, q⟩ := h
  simp only [DL.dTry, DL.Pt.at, forall_const, DL.dXat, DL.dEmptied, DL.dSeq, DL.dSet, DL.dSetO, DL.dC, DL.dVar, DL.dFor, DL.dWhile, DL.dIfS, DL.dRet, DL.dRetN, DL.dDrop, DL.dNext, DL.dBrk, DL.dCnt, DL.dAppend, DL.dExtend, DL.dPop, DL.dAsg, DL.dPar, DL.dIxNm, DL.dAugIx, DL.dAug, DL.dSetIx, DL.dRaise, DL.dOp, DL.dOpL, DL.dTest, DL.dNot, DL.dAnd, DL.dOr, DL.dAndV, DL.dOrV, DL.dNotV, DL.dIf, DL.dLen, DL.rLen, DL.dTupOf, DL.rTup, DL.dListOf, DL.dIntOf, DL.rIntOf, DL.dAbs, DL.rAbs, DL.dAll, DL.rAllD, DL.dAny, DL.rAnyD, DL.dSum, DL.rSumD, DL.dInst, DL.dCall, DL.dCallK, DL.dCallX, DL.dCallKX, DL.dCons, DL.dConsO, DL.dNil, DL.dStar, DL.dTup, DL.dLst, DL.dL, DL.dSlT, DL.dSlL, DL.dNo, DL.dPart, DL.dLc, DL.dYes, DL.diSeq, DL.diRng1, DL.diRng2, DL.diZip, DL.bP, DL.bPs, DL.oI, DL.oIc, DL.oS, DL.oIx, DL.oIn, DL.oIsN, DL.oNotN, DL.oIsB, DL.oCatT, DL.oCatL, DL.oRepL, DL.oRep01, DL.oRepT, DL.dSumT, DL.rSumTD, DL.dMaxT, DL.rMaxTD, DL.dSortT, DL.dFrz, DL.gOf, DL.gNext, DL.gSeq, DL.gIf, DL.gWhile, DL.gFor, DL.gPut, DL.dNotInX, DL.dStart3, DL.dStart2, DL.dRevT, DL.dRevL, DL.dNeg, DL.dChain, DL.startD, DL.setsD, DL.wipeD, List.map_cons, List.map_nil, List.length_cons, List.length_nil, Nat.reduceAdd, Nat.reduceSub, List.replicate_succ, List.replicate_zero, List.cons_append, List.nil_append, List.append_nil, List.set_cons_succ, List.set_cons_zero, List.getElem?_cons_succ, List.getElem?_cons_zero, Option.some.injEq, D.int.injEq, D.bl.injEq, D.str.injEq, D.tup.injEq, D.lst.injEq, D.own.injEq, exists_eq_left', exists_eq_left, true_and, and_true, reduceCtorEq, false_and, and_false, exists_const, List.cons.injEq, exists_eq_right, exists_eq_right', and_assoc, exists_and_left, D.opq.injEq, V.ref.injEq, DL.items_tup, DL.items_lst, DL.items_own, DL.lstOf_lst, DL.lstOf_own, DL.isOwn_non, DL.frz_non, DL.isOwn_bl, DL.frz_bl, DL.isOwn_int, DL.frz_int, DL.isOwn_str, DL.frz_str, DL.isOwn_tup, DL.frz_tup, DL.isOwn_lst, DL.frz_lst, DL.isOwn_opq, DL.frz_opq, DL.isOwn_own, DL.frz_own, DL.isOwn_frz, if_true, if_false, Bool.false_eq_true, Bool.not_true, Bool.not_false, reduceIte, sp_is_number]
  refine ⟨okV_opq h1, ?_⟩
  cases v with
  | tup xs =>
    simp only [DL.dTry, DL.Pt.at, forall_const, DL.dXat, DL.dEmptied, DL.dSeq, DL.dSet, DL.dSetO, DL.dC, DL.dVar, DL.dFor, DL.dWhile, DL.dIfS, DL.dRet, DL.dRetN, DL.dDrop, DL.dNext, DL.dBrk, DL.dCnt, DL.dAppend, DL.dExtend, DL.dPop, DL.dAsg, DL.dPar, DL.dIxNm, DL.dAugIx, DL.dAug, DL.dSetIx, DL.dRaise, DL.dOp, DL.dOpL, DL.dTest, DL.dNot, DL.dAnd, DL.dOr, DL.dAndV, DL.dOrV, DL.dNotV, DL.dIf, DL.dLen, DL.rLen, DL.dTupOf, DL.rTup, DL.dListOf, DL.dIntOf, DL.rIntOf, DL.dAbs, DL.rAbs, DL.dAll, DL.rAllD, DL.dAny, DL.rAnyD, DL.dSum, DL.rSumD, DL.dInst, DL.dCall, DL.dCallK, DL.dCallX, DL.dCallKX, DL.dCons, DL.dConsO, DL.dNil, DL.dStar, DL.dTup, DL.dLst, DL.dL, DL.dSlT, DL.dSlL, DL.dNo, DL.dPart, DL.dLc, DL.dYes, DL.diSeq, DL.diRng1, DL.diRng2, DL.diZip, DL.bP, DL.bPs, DL.oI, DL.oIc, DL.oS, DL.oIx, DL.oIn, DL.oIsN, DL.oNotN, DL.oIsB, DL.oCatT, DL.oCatL, DL.oRepL, DL.oRep01, DL.oRepT, DL.dSumT, DL.rSumTD, DL.dMaxT, DL.rMaxTD, DL.dSortT, DL.dFrz, DL.gOf, DL.gNext, DL.gSeq, DL.gIf, DL.gWhile, DL.gFor, DL.gPut, DL.dNotInX, DL.dStart3, DL.dStart2, DL.dRevT, DL.dRevL, DL.dNeg, DL.dChain, DL.startD, DL.setsD, DL.wipeD, List.map_cons, List.map_nil, List.length_cons, List.length_nil, Nat.reduceAdd, Nat.reduceSub, List.replicate_succ, List.replicate_zero, List.cons_append, List.nil_append, List.append_nil, List.set_cons_succ, List.set_cons_zero, List.getElem?_cons_succ, List.getElem?_cons_zero, Option.some.injEq, D.int.injEq, D.bl.injEq, D.str.injEq, D.tup.injEq, D.lst.injEq, D.own.injEq, exists_eq_left', exists_eq_left, true_and, and_true, reduceCtorEq, false_and, and_false, exists_const, List.cons.injEq, exists_eq_right, exists_eq_right', and_assoc, exists_and_left, D.opq.injEq, V.ref.injEq, DL.items_tup, DL.items_lst, DL.items_own, DL.lstOf_lst, DL.lstOf_own, DL.isOwn_non, DL.frz_non, DL.isOwn_bl, DL.frz_bl, DL.isOwn_int, DL.frz_int, DL.isOwn_str, DL.frz_str, DL.isOwn_tup, DL.frz_tup, DL.isOwn_lst, DL.frz_lst, DL.isOwn_opq, DL.frz_opq, DL.isOwn_own, DL.frz_own, DL.isOwn_frz, if_true, if_false, Bool.false_eq_true, Bool.not_true, Bool.not_false, reduceIte, D.inst, beq_self_eq_true]
    match xs, h1, q with
    | [], _, q => simpa [isMoveD, mv] using q
    | [x], _, q => simpa [isMoveD, mv] using q
    | x :: y :: z :: r, _, q =>
      have e : ¬ ((((x :: y :: z :: r).length : Nat) : Int) = 2) := by simp only [List.length_cons]; omega
      rw [if_pos (by simpa using e)]
      simpa [isMoveD, mv] using q
    | [x, y], h1, q =>
      simp only [okV, okVL, Bool.and_eq_true] at h1
      obtain ⟨hx, hy, _⟩ := h1
      have a0 : atI [x, y] 0 = some x := rfl
      have a1 : atI [x, y] 1 = some y := rfl
      rw [a0, a1]
      simp only [DL.dTry, DL.Pt.at, forall_const, DL.dXat, DL.dEmptied, DL.dSeq, DL.dSet, DL.dSetO, DL.dC, DL.dVar, DL.dFor, DL.dWhile, DL.dIfS, DL.dRet, DL.dRetN, DL.dDrop, DL.dNext, DL.dBrk, DL.dCnt, DL.dAppend, DL.dExtend, DL.dPop, DL.dAsg, DL.dPar, DL.dIxNm, DL.dAugIx, DL.dAug, DL.dSetIx, DL.dRaise, DL.dOp, DL.dOpL, DL.dTest, DL.dNot, DL.dAnd, DL.dOr, DL.dAndV, DL.dOrV, DL.dNotV, DL.dIf, DL.dLen, DL.rLen, DL.dTupOf, DL.rTup, DL.dListOf, DL.dIntOf, DL.rIntOf, DL.dAbs, DL.rAbs, DL.dAll, DL.rAllD, DL.dAny, DL.rAnyD, DL.dSum, DL.rSumD, DL.dInst, DL.dCall, DL.dCallK, DL.dCallX, DL.dCallKX, DL.dCons, DL.dConsO, DL.dNil, DL.dStar, DL.dTup, DL.dLst, DL.dL, DL.dSlT, DL.dSlL, DL.dNo, DL.dPart, DL.dLc, DL.dYes, DL.diSeq, DL.diRng1, DL.diRng2, DL.diZip, DL.bP, DL.bPs, DL.oI, DL.oIc, DL.oS, DL.oIx, DL.oIn, DL.oIsN, DL.oNotN, DL.oIsB, DL.oCatT, DL.oCatL, DL.oRepL, DL.oRep01, DL.oRepT, DL.dSumT, DL.rSumTD, DL.dMaxT, DL.rMaxTD, DL.dSortT, DL.dFrz, DL.gOf, DL.gNext, DL.gSeq, DL.gIf, DL.gWhile, DL.gFor, DL.gPut, DL.dNotInX, DL.dStart3, DL.dStart2, DL.dRevT, DL.dRevL, DL.dNeg, DL.dChain, DL.startD, DL.setsD, DL.wipeD, List.map_cons, List.map_nil, List.length_cons, List.length_nil, Nat.reduceAdd, Nat.reduceSub, List.replicate_succ, List.replicate_zero, List.cons_append, List.nil_append, List.append_nil, List.set_cons_succ, List.set_cons_zero, List.getElem?_cons_succ, List.getElem?_cons_zero, Option.some.injEq, D.int.injEq, D.bl.injEq, D.str.injEq, D.tup.injEq, D.lst.injEq, D.own.injEq, exists_eq_left', exists_eq_left, true_and, and_true, reduceCtorEq, false_and, and_false, exists_const, List.cons.injEq, exists_eq_right, exists_eq_right', and_assoc, exists_and_left, D.opq.injEq, V.ref.injEq, DL.items_tup, DL.items_lst, DL.items_own, DL.lstOf_lst, DL.lstOf_own, DL.isOwn_non, DL.frz_non, DL.isOwn_bl, DL.frz_bl, DL.isOwn_int, DL.frz_int, DL.isOwn_str, DL.frz_str, DL.isOwn_tup, DL.frz_tup, DL.isOwn_lst, DL.frz_lst, DL.isOwn_opq, DL.frz_opq, DL.isOwn_own, DL.frz_own, DL.isOwn_frz, if_true, if_false, Bool.false_eq_true, Bool.not_true, Bool.not_false, reduceIte]
      rw [if_neg (by simp)]
      refine ⟨okV_opq hx, ?_⟩
      cases x with
      | str u =>
        simp only [DL.dTry, DL.Pt.at, forall_const, DL.dXat, DL.dEmptied, DL.dSeq, DL.dSet, DL.dSetO, DL.dC, DL.dVar, DL.dFor, DL.dWhile, DL.dIfS, DL.dRet, DL.dRetN, DL.dDrop, DL.dNext, DL.dBrk, DL.dCnt, DL.dAppend, DL.dExtend, DL.dPop, DL.dAsg, DL.dPar, DL.dIxNm, DL.dAugIx, DL.dAug, DL.dSetIx, DL.dRaise, DL.dOp, DL.dOpL, DL.dTest, DL.dNot, DL.dAnd, DL.dOr, DL.dAndV, DL.dOrV, DL.dNotV, DL.dIf, DL.dLen, DL.rLen, DL.dTupOf, DL.rTup, DL.dListOf, DL.dIntOf, DL.rIntOf, DL.dAbs, DL.rAbs, DL.dAll, DL.rAllD, DL.dAny, DL.rAnyD, DL.dSum, DL.rSumD, DL.dInst, DL.dCall, DL.dCallK, DL.dCallX, DL.dCallKX, DL.dCons, DL.dConsO, DL.dNil, DL.dStar, DL.dTup, DL.dLst, DL.dL, DL.dSlT, DL.dSlL, DL.dNo, DL.dPart, DL.dLc, DL.dYes, DL.diSeq, DL.diRng1, DL.diRng2, DL.diZip, DL.bP, DL.bPs, DL.oI, DL.oIc, DL.oS, DL.oIx, DL.oIn, DL.oIsN, DL.oNotN, DL.oIsB, DL.oCatT, DL.oCatL, DL.oRepL, DL.oRep01, DL.oRepT, DL.dSumT, DL.rSumTD, DL.dMaxT, DL.rMaxTD, DL.dSortT, DL.dFrz, DL.gOf, DL.gNext, DL.gSeq, DL.gIf, DL.gWhile, DL.gFor, DL.gPut, DL.dNotInX, DL.dStart3, DL.dStart2, DL.dRevT, DL.dRevL, DL.dNeg, DL.dChain, DL.startD, DL.setsD, DL.wipeD, List.map_cons, List.map_nil, List.length_cons, List.length_nil, Nat.reduceAdd, Nat.reduceSub, List.replicate_succ, List.replicate_zero, List.cons_append, List.nil_append, List.append_nil, List.set_cons_succ, List.set_cons_zero, List.getElem?_cons_succ, List.getElem?_cons_zero, Option.some.injEq, D.int.injEq, D.bl.injEq, D.str.injEq, D.tup.injEq, D.lst.injEq, D.own.injEq, exists_eq_left', exists_eq_left, true_and, and_true, reduceCtorEq, false_and, and_false, exists_const, List.cons.injEq, exists_eq_right, exists_eq_right', and_assoc, exists_and_left, D.opq.injEq, V.ref.injEq, DL.items_tup, DL.items_lst, DL.items_own, DL.lstOf_lst, DL.lstOf_own, DL.isOwn_non, DL.frz_non, DL.isOwn_bl, DL.frz_bl, DL.isOwn_int, DL.frz_int, DL.isOwn_str, DL.frz_str, DL.isOwn_tup, DL.frz_tup, DL.isOwn_lst, DL.frz_lst, DL.isOwn_opq, DL.frz_opq, DL.isOwn_own, DL.frz_own, DL.isOwn_frz, if_true, if_false, Bool.false_eq_true, Bool.not_true, Bool.not_false, reduceIte, D.inst, beq_self_eq_true, movesD, flatD]
        rw [inF_slst]
        refine ⟨flat_slst _, ?_⟩
        by_cases hu : u ∈ MOVES
        · rw [if_pos (decide_eq_true hu)]
          refine ⟨okV_own hy, hy, ?_⟩
          cases y with
          | int m =>
            have e3 : isMoveD (.tup [.str u, .int m]) = decide (0 ≤ m) := by
              unfold isMoveD mv
              by_cases hm : 0 ≤ m <;> simp [hu, hm]
            rw [e3] at q
            exact q
          | _ => simpa [isMoveD, mv, hu, isNumD] using q
        · rw [if_neg (by simpa using hu)]
          cases y <;> simpa [isMoveD, mv, hu] using q
      | _ => simpa [isMoveD, mv, D.inst] using q
  | _ => first | (simp [okV] at h1; done) | simpa [isMoveD, mv, D.inst] using q
/-! ### may_be, after -/
abbrev s_may_be : Stmt := topS 15
theorem c_may_be : FnScope ["word", "place", "here", "kept", "places"] ["word", "place", "here", "kept", "places"] (defScope s_may_be) := ⟨rfl, rfl, rfl, by decide +kernel, rfl, by decide +kernel, by decide +kernel⟩
def sp_may_be : DSp := fun _ ds Q _ => ∃ w n h kept pl, ds = [.str w, .int n, .int h, .tup (nlst kept), .int pl] ∧ Q (.bl (mayB w n h kept pl))
theorem ok_may_be (F : Fun K "may_be" "may_be" s_may_be f fd) (m_len : mg "len" = none) : FnOk P w K mg base (L2.CX P w) 1 f fd ["word", "place", "here", "kept", "places"] (liftSp K sp_may_be) := by
  have lens : ∀ J ds Q E, sp_may_be J ds Q E → ds.length = 5 := fun J ds Q E ⟨_, _, _, _, _, e, _⟩ => by rw [e]; rfl
  refine dfn F c_may_be lens (fun p X ds Q E cdv A outer s H EX hX hK hr hE h => ?_)
  subst hX
  refine ⟨_, (dss_cons (ds_if (dt_cmp op_eq rd_eqS (dv 0) de_str)
    (dss_one (ds_ret (de_and (de_cmp op_eq rd_eqI (dv 1) (dv 2)) (de_and (de_cmp op_ne rd_neI (dv 1) de_int) (de_and (de_cmp op_notIn_seq (rd_inK hK) (dv 1) (dv 3)) (de_one (de_cmp op_lt rd_B0 (de_len hK rfl m_len (dv 3)) (dv 4))))))))
    dss_nil)
    (dss_cons (ds_if (dt_cmp op_eq rd_eqS (dv 0) de_str)
    (dss_one (ds_ret (de_or (de_cmp op_eq rd_eqI (dv 1) de_int) (de_one (de_cmp op_in_seq (rd_inK hK) (dv 1) (dv 3))))))
    dss_nil)
    (dss_one (ds_ret (de_cmp op_in_seq (rd_inK hK) (dv 1) (dv 3)))))), ?_⟩
  obtain ⟨w, n, h, kept, pl, rfl, q⟩ := h
  simp only [DL.dTry, DL.Pt.at, forall_const, DL.dXat, DL.dEmptied, DL.dSeq, DL.dSet, DL.dSetO, DL.dC, DL.dVar, DL.dFor, DL.dWhile, DL.dIfS, DL.dRet, DL.dRetN, DL.dDrop, DL.dNext, DL.dBrk, DL.dCnt, DL.dAppend, DL.dExtend, DL.dPop, DL.dAsg, DL.dPar, DL.dIxNm, DL.dAugIx, DL.dAug, DL.dSetIx, DL.dRaise, DL.dOp, DL.dOpL, DL.dTest, DL.dNot, DL.dAnd, DL.dOr, DL.dAndV, DL.dOrV, DL.dNotV, DL.dIf, DL.dLen, DL.rLen, DL.dTupOf, DL.rTup, DL.dListOf, DL.dIntOf, DL.rIntOf, DL.dAbs, DL.rAbs, DL.dAll, DL.rAllD, DL.dAny, DL.rAnyD, DL.dSum, DL.rSumD, DL.dInst, DL.dCall, DL.dCallK, DL.dCallX, DL.dCallKX, DL.dCons, DL.dConsO, DL.dNil, DL.dStar, DL.dTup, DL.dLst, DL.dL, DL.dSlT, DL.dSlL, DL.dNo, DL.dPart, DL.dLc, DL.dYes, DL.diSeq, DL.diRng1, DL.diRng2, DL.diZip, DL.bP, DL.bPs, DL.oI, DL.oIc, DL.oS, DL.oIx, DL.oIn, DL.oIsN, DL.oNotN, DL.oIsB, DL.oCatT, DL.oCatL, DL.oRepL, DL.oRep01, DL.oRepT, DL.dSumT, DL.rSumTD, DL.dMaxT, DL.rMaxTD, DL.dSortT, DL.dFrz, DL.gOf, DL.gNext, DL.gSeq, DL.gIf, DL.gWhile, DL.gFor, DL.gPut, DL.dNotInX, DL.dStart3, DL.dStart2, DL.dRevT, DL.dRevL, DL.dNeg, DL.dChain, DL.startD, DL.setsD, DL.wipeD, List.map_cons, List.map_nil, List.length_cons, List.length_nil, Nat.reduceAdd, Nat.reduceSub, List.replicate_succ, List.replicate_zero, List.cons_append, List.nil_append, List.append_nil, List.set_cons_succ, List.set_cons_zero, List.getElem?_cons_succ, List.getElem?_cons_zero, Option.some.injEq, D.int.injEq, D.bl.injEq, D.str.injEq, D.tup.injEq, D.lst.injEq, D.own.injEq, exists_eq_left', exists_eq_left, true_and, and_true, reduceCtorEq, false_and, and_false, exists_const, List.cons.injEq, exists_eq_right, exists_eq_right', and_assoc, exists_and_left, D.opq.injEq, V.ref.injEq, DL.items_tup, DL.items_lst, DL.items_own, DL.lstOf_lst, DL.lstOf_own, DL.isOwn_non, DL.frz_non, DL.isOwn_bl, DL.frz_bl, DL.isOwn_int, DL.frz_int, DL.isOwn_str, DL.frz_str, DL.isOwn_tup, DL.frz_tup, DL.isOwn_lst, DL.frz_lst, DL.isOwn_opq, DL.frz_opq, DL.isOwn_own, DL.frz_own, DL.isOwn_frz, if_true, if_false, Bool.false_eq_true, Bool.not_true, Bool.not_false, reduceIte, flatD, inF_nlst, flat_nlst, nlst_len]
  by_cases c1 : w = "keep"
  · rw [if_pos (decide_eq_true c1)]
    have e : mayB w n h kept pl = decide (n = h ∧ n ≠ 0 ∧ n ∉ kept ∧ (kept.length : Int) < pl) := by unfold mayB; rw [if_pos c1]
    rw [e] at q
    by_cases k1 : n = h <;> by_cases k2 : n = 0 <;> by_cases k3 : n ∈ kept <;> simp [k1, k2, k3] at q ⊢ <;> (try subst k1) <;> simp_all
  · rw [if_neg (by simpa using c1)]
    by_cases c2 : w = "back"
    · rw [if_pos (decide_eq_true c2)]
      have e : mayB w n h kept pl = decide (n = 0 ∨ n ∈ kept) := by unfold mayB; rw [if_neg c1, if_pos c2]
      rw [e] at q
      by_cases k2 : n = 0 <;> by_cases k3 : n ∈ kept <;> simp_all
    · rw [if_neg (by simpa using c2)]
      have e : mayB w n h kept pl = decide (n ∈ kept) := by unfold mayB; rw [if_neg c1, if_neg c2]
      rw [e] at q
      exact q
abbrev s_after : Stmt := topS 16
theorem c_after : FnScope ["word", "place", "here", "kept", "one"] ["word", "place", "here", "kept"] (defScope s_after) := ⟨rfl, rfl, rfl, by decide +kernel, rfl, by decide +kernel, by decide +kernel⟩
def sp_after : DSp := fun _ ds Q _ => ∃ w n h kept, ds = [.str w, .int n, .int h, .tup (nlst kept)] ∧ kept.length ≤ 1000 ∧ Q (.tup [.int (aftS w n h kept).1, .tup (nlst (aftS w n h kept).2)])
theorem ok_after (F : Fun K "after" "after" s_after f fd) (m_tuple : mg "tuple" = none) : FnOk P w K mg base (L2.CX P w) 1 f fd ["word", "place", "here", "kept"] (liftSp K sp_after) := by
  have lens : ∀ J ds Q E, sp_after J ds Q E → ds.length = 4 := fun J ds Q E ⟨_, _, _, _, e, _⟩ => by rw [e]; rfl
  refine dfn F c_after lens (fun p X ds Q E cdv A outer s H EX hX hK hr hE h => ?_)
  subst hX
  refine ⟨_, (dss_cons (ds_if (dt_cmp op_eq rd_eqS (dv 0) de_str)
    (dss_one (ds_ret (de_tup (da_cons (de_op op_add rd_I0 (dv 2) de_int) (da_cons (dv 3) da_nil)))))
    dss_nil)
    (dss_cons (ds_if (dt_cmp op_eq rd_eqS (dv 0) de_str)
    (dss_one (ds_ret (de_tup (da_cons (dv 2) (da_cons (de_tup (da_star (dv 3) (da_cons (dv 1) da_nil) hK)) da_nil)))))
    dss_nil)
    (dss_cons (ds_if (dt_cmp op_eq rd_eqS (dv 0) de_str)
    (dss_one (ds_ret (de_tup (da_cons (dv 1) (da_cons (dv 3) da_nil)))))
    dss_nil)
    (dss_one (ds_ret (de_tup (da_cons (dv 2) (da_cons (de_if (dt_cmp op_eq rd_eqS (dv 0) de_str) (de_tupOf hK rfl m_tuple (de_of_dl (dl_lc [("one", 4)] rfl c_after.nd (di_seq hK (dv 3)) (by show BlkOk ["word", "place", "here", "kept", "one"] (defScope s_after) _ _; exact ⟨rfl, by decide +kernel, by decide +kernel, by decide +kernel, by decide +kernel⟩) (fun _ _ _ _ _ => (dg_nm (i := 4) c_after.nd rfl (.inl rfl))) (fun _ _ _ _ _ => (dts_one (dt_cmp op_ne rd_neI (dv 4) (dv 1)))) (fun _ _ _ _ _ => (dv 4))))) (dv 3)) da_nil)))))))), ?_⟩
  obtain ⟨w, n, h, kept, rfl, hl, q⟩ := h
  simp only [DL.dTry, DL.Pt.at, forall_const, DL.dXat, DL.dEmptied, DL.dSeq, DL.dSet, DL.dSetO, DL.dC, DL.dVar, DL.dFor, DL.dWhile, DL.dIfS, DL.dRet, DL.dRetN, DL.dDrop, DL.dNext, DL.dBrk, DL.dCnt, DL.dAppend, DL.dExtend, DL.dPop, DL.dAsg, DL.dPar, DL.dIxNm, DL.dAugIx, DL.dAug, DL.dSetIx, DL.dRaise, DL.dOp, DL.dOpL, DL.dTest, DL.dNot, DL.dAnd, DL.dOr, DL.dAndV, DL.dOrV, DL.dNotV, DL.dIf, DL.dLen, DL.rLen, DL.dTupOf, DL.rTup, DL.dListOf, DL.dIntOf, DL.rIntOf, DL.dAbs, DL.rAbs, DL.dAll, DL.rAllD, DL.dAny, DL.rAnyD, DL.dSum, DL.rSumD, DL.dInst, DL.dCall, DL.dCallK, DL.dCallX, DL.dCallKX, DL.dCons, DL.dConsO, DL.dNil, DL.dStar, DL.dTup, DL.dLst, DL.dL, DL.dSlT, DL.dSlL, DL.dNo, DL.dPart, DL.dLc, DL.dYes, DL.diSeq, DL.diRng1, DL.diRng2, DL.diZip, DL.bP, DL.bPs, DL.oI, DL.oIc, DL.oS, DL.oIx, DL.oIn, DL.oIsN, DL.oNotN, DL.oIsB, DL.oCatT, DL.oCatL, DL.oRepL, DL.oRep01, DL.oRepT, DL.dSumT, DL.rSumTD, DL.dMaxT, DL.rMaxTD, DL.dSortT, DL.dFrz, DL.gOf, DL.gNext, DL.gSeq, DL.gIf, DL.gWhile, DL.gFor, DL.gPut, DL.dNotInX, DL.dStart3, DL.dStart2, DL.dRevT, DL.dRevL, DL.dNeg, DL.dChain, DL.startD, DL.setsD, DL.wipeD, List.map_cons, List.map_nil, List.length_cons, List.length_nil, Nat.reduceAdd, Nat.reduceSub, List.replicate_succ, List.replicate_zero, List.cons_append, List.nil_append, List.append_nil, List.set_cons_succ, List.set_cons_zero, List.getElem?_cons_succ, List.getElem?_cons_zero, Option.some.injEq, D.int.injEq, D.bl.injEq, D.str.injEq, D.tup.injEq, D.lst.injEq, D.own.injEq, exists_eq_left', exists_eq_left, true_and, and_true, reduceCtorEq, false_and, and_false, exists_const, List.cons.injEq, exists_eq_right, exists_eq_right', and_assoc, exists_and_left, D.opq.injEq, V.ref.injEq, DL.items_tup, DL.items_lst, DL.items_own, DL.lstOf_lst, DL.lstOf_own, DL.isOwn_non, DL.frz_non, DL.isOwn_bl, DL.frz_bl, DL.isOwn_int, DL.frz_int, DL.isOwn_str, DL.frz_str, DL.isOwn_tup, DL.frz_tup, DL.isOwn_lst, DL.frz_lst, DL.isOwn_opq, DL.frz_opq, DL.isOwn_own, DL.frz_own, DL.isOwn_frz, if_true, if_false, Bool.false_eq_true, Bool.not_true, Bool.not_false, reduceIte]
  have two : 2 ≤ sizeLine := by rw [sizeLine_eq]; decide
  by_cases c1 : w = "step"
  · rw [if_pos (decide_eq_true c1)]
    simp only [aftS, if_pos c1] at q
    exact ⟨two, q⟩
  rw [if_neg (by simpa using c1)]
  by_cases c2 : w = "keep"
  · rw [if_pos (decide_eq_true c2)]
    simp only [aftS, if_neg c1, if_pos c2, nlst, List.map_append, List.map_cons, List.map_nil] at q
    exact ⟨by rw [List.length_append, nlst_len, sizeLine_eq]; simp; omega, two, q⟩
  rw [if_neg (by simpa using c2)]
  by_cases c3 : w = "back"
  · rw [if_pos (decide_eq_true c3)]
    simp only [aftS, if_neg c1, if_neg c2, if_pos c3] at q
    exact ⟨two, q⟩
  rw [if_neg (by simpa using c3)]
  by_cases c4 : w = "drop"
  · rw [if_pos (decide_eq_true c4)]
    simp only [aftS, if_neg c1, if_neg c2, if_neg c3, if_pos c4] at q
    refine ⟨fun i acc => acc = nlst ((kept.take i).filter fun x => decide (x ≠ n)), rfl, fun i d acc hd hp => ?_, fun acc hp => ⟨two, ?_⟩⟩
    · obtain ⟨m, hm, rfl⟩ := nlst_get hd
      subst hp
      refine ⟨rfl, m, rfl, ?_⟩
      dsimp only
      rw [take_more hm, List.filter_append]
      by_cases k : m = n
      · rw [if_neg (by simp [k])]
        simp [k]
      · rw [if_pos (by simp [k])]
        refine ⟨rfl, ?_, by simp [k, nlst]⟩
        rw [nlst_len, sizeLine_eq]
        have := List.length_filter_le (fun x => decide (x ≠ n)) (kept.take i)
        have := take_len kept i
        omega
    · subst hp
      rw [nlst_len, List.take_length]
      exact q
  · rw [if_neg (by simpa using c4)]
    simp only [aftS, if_neg c1, if_neg c2, if_neg c3, if_neg c4] at q
    exact ⟨two, q⟩
/-! ### carried_out -/
abbrev s_carried_out : Stmt := topS 17
theorem c_carried_out : FnScope ["length", "places", "value", "here", "kept", "due", "counts", "word", "place", "move"] ["length", "places", "value"] (defScope s_carried_out) := ⟨rfl, rfl, rfl, by decide +kernel, rfl, by decide +kernel, by decide +kernel⟩
/-- what the program's run and the law's run are asked of: data; a tuple isn't too long -/
def askable (v : D) : Prop := okV v = true ∧ ∀ ms, v = .tup ms → ms.length ≤ 2000000
def sp_carried_out : DSp := fun _ ds Q _ => ∃ l pl v, ds = [.int l, .int pl, v] ∧ 0 ≤ l ∧ l ≤ 1000 ∧ 0 ≤ pl ∧ pl ≤ 500 ∧ askable v ∧ Q (carD l pl v)
theorem ok_carried_out (F : Fun K "carried_out" "carried_out" s_carried_out f fd) (C_is_move : Callee P w K mg base 3 "is_move" ["value"] sp_is_move) (C_may_be : Callee P w K mg base 1 "may_be" ["word", "place", "here", "kept", "places"] sp_may_be) (C_after : Callee P w K mg base 1 "after" ["word", "place", "here", "kept"] sp_after)
    (m_isinstance : mg "isinstance" = none) (m_tuple : mg "tuple" = none) (m_all : mg "all" = none) : FnOk P w K mg base (L2.CX P w) 4 f fd ["length", "places", "value"] (liftSp K sp_carried_out) := by
  have lens : ∀ J ds Q E, sp_carried_out J ds Q E → ds.length = 3 := fun J ds Q E ⟨_, _, _, e, _⟩ => by rw [e]; rfl
  refine dfn F c_carried_out lens (fun p X ds Q E cdv A outer s H EX hX hK hr hE h => ?_)
  subst hX
  refine ⟨_, (dss_cons (ds_if (PDW.dt (dw_or (dt_not (dt_val (de_inst hK (T := "tuple") (by decide) rfl m_isinstance rfl m_tuple (by decide +kernel) (dv 2)))) (dw_or1 (dt_not (dt_val (de_all rfl rfl m_all (de_of_dl (dl_lc [("move", 9)] rfl c_carried_out.nd (di_seq hK (dv 2)) (by show BlkOk ["length", "places", "value", "here", "kept", "due", "counts", "word", "place", "move"] (defScope s_carried_out) _ _; exact ⟨rfl, by decide +kernel, by decide +kernel, by decide +kernel, by decide +kernel⟩) (fun _ _ _ _ _ => (dg_nm (i := 9) c_carried_out.nd rfl (.inl rfl))) (fun _ _ _ _ _ => dts_nil) (fun _ _ _ _ _ => (de_callC hK C_is_move hr (da_cons (dv 9) da_nil)))))))))))
    (dss_one (ds_ret de_non))
    dss_nil)
    (dss_cons (ds_parN rfl (nms_cons (i := 3) c_carried_out.nd rfl (.inl rfl) (nms_cons (i := 4) c_carried_out.nd rfl (.inl rfl) (nms_cons (i := 5) c_carried_out.nd rfl (.inl rfl) (nms_cons (i := 6) c_carried_out.nd rfl (.inl rfl) nms_nil)))) (dr_cons de_int (dr_cons (de_tup da_nil) (dr_cons (dv 0) (dr_consO (dl_op op_rep rd_repL (de_of_dl (dl_lst (da_cons de_int da_nil))) (dv 0)) dr_nil)))))
    (dss_cons (ds_for (passes_of rfl) rfl (di_seq hK (dv 2)) (dg_tp hK rfl (dgs_cons (dg_nm (i := 7) c_carried_out.nd rfl (.inl rfl)) (dgs_cons (dg_nm (i := 8) c_carried_out.nd rfl (.inl rfl)) dgs_nil)))
    (dss_cons (ds_if (dt_cmp op_eq rd_eqS (dv 7) de_str)
    (dss_cons (ds_if (PDW.dt (dw_or (dt_cmp op_ne rd_neI (dv 8) (dv 3)) (dw_or1 (dt_cmp op_ge rd_B0 (dv 8) (dv 0)))))
    (dss_one (ds_ret de_non))
    dss_nil)
    (dss_one (ds_augIx 6 ip_add (dv 8) de_int)))
    (dss_one (ds_if (dt_cmp op_eq rd_eqS (dv 7) de_str)
    (dss_cons (ds_if (PDW.dt (dw_or (dt_cmp op_ne rd_neI (dv 8) (dv 3)) (dw_or1 (dt_cmp op_ne rd_neI (dv 8) (dv 5)))))
    (dss_one (ds_ret de_non))
    dss_nil)
    (dss_one (ds_aug (i := 5) ip_sub c_carried_out.nd rfl (.inl rfl) de_int)))
    (dss_one (ds_if (dt_not (dt_val (de_callC hK C_may_be hr (da_cons (dv 7) (da_cons (dv 8) (da_cons (dv 3) (da_cons (dv 4) (da_cons (dv 1) da_nil))))))))
    (dss_one (ds_ret de_non))
    dss_nil)))))
    (dss_one (ds_asg (dg_tp hK rfl (dgs_cons (dg_nm (i := 3) c_carried_out.nd rfl (.inl rfl)) (dgs_cons (dg_nm (i := 4) c_carried_out.nd rfl (.inl rfl)) dgs_nil))) (de_callC hK C_after hr (da_cons (dv 7) (da_cons (dv 8) (da_cons (dv 3) (da_cons (dv 4) da_nil)))))))))
    (dss_one (ds_ret (de_if (dt_cmp op_eq rd_eqI (dv 5) (de_neg de_int)) (de_tupOf hK rfl m_tuple (dv 6)) de_non)))))), ?_⟩
  obtain ⟨l, pl, v, rfl, h1, h2, h3, h4, ⟨h5, h6⟩, q⟩ := h
  simp only [DL.dTry, DL.Pt.at, forall_const, DL.dXat, DL.dEmptied, DL.dSeq, DL.dSet, DL.dSetO, DL.dC, DL.dVar, DL.dFor, DL.dWhile, DL.dIfS, DL.dRet, DL.dRetN, DL.dDrop, DL.dNext, DL.dBrk, DL.dCnt, DL.dAppend, DL.dExtend, DL.dPop, DL.dAsg, DL.dPar, DL.dIxNm, DL.dAugIx, DL.dAug, DL.dSetIx, DL.dRaise, DL.dOp, DL.dOpL, DL.dTest, DL.dNot, DL.dAnd, DL.dOr, DL.dAndV, DL.dOrV, DL.dNotV, DL.dIf, DL.dLen, DL.rLen, DL.dTupOf, DL.rTup, DL.dListOf, DL.dIntOf, DL.rIntOf, DL.dAbs, DL.rAbs, DL.dAll, DL.rAllD, DL.dAny, DL.rAnyD, DL.dSum, DL.rSumD, DL.dInst, DL.dCall, DL.dCallK, DL.dCallX, DL.dCallKX, DL.dCons, DL.dConsO, DL.dNil, DL.dStar, DL.dTup, DL.dLst, DL.dL, DL.dSlT, DL.dSlL, DL.dNo, DL.dPart, DL.dLc, DL.dYes, DL.diSeq, DL.diRng1, DL.diRng2, DL.diZip, DL.bP, DL.bPs, DL.oI, DL.oIc, DL.oS, DL.oIx, DL.oIn, DL.oIsN, DL.oNotN, DL.oIsB, DL.oCatT, DL.oCatL, DL.oRepL, DL.oRep01, DL.oRepT, DL.dSumT, DL.rSumTD, DL.dMaxT, DL.rMaxTD, DL.dSortT, DL.dFrz, DL.gOf, DL.gNext, DL.gSeq, DL.gIf, DL.gWhile, DL.gFor, DL.gPut, DL.dNotInX, DL.dStart3, DL.dStart2, DL.dRevT, DL.dRevL, DL.dNeg, DL.dChain, DL.startD, DL.setsD, DL.wipeD, List.map_cons, List.map_nil, List.length_cons, List.length_nil, Nat.reduceAdd, Nat.reduceSub, List.replicate_succ, List.replicate_zero, List.cons_append, List.nil_append, List.append_nil, List.set_cons_succ, List.set_cons_zero, List.getElem?_cons_succ, List.getElem?_cons_zero, Option.some.injEq, D.int.injEq, D.bl.injEq, D.str.injEq, D.tup.injEq, D.lst.injEq, D.own.injEq, exists_eq_left', exists_eq_left, true_and, and_true, reduceCtorEq, false_and, and_false, exists_const, List.cons.injEq, exists_eq_right, exists_eq_right', and_assoc, exists_and_left, D.opq.injEq, V.ref.injEq, DL.items_tup, DL.items_lst, DL.items_own, DL.lstOf_lst, DL.lstOf_own, DL.isOwn_non, DL.frz_non, DL.isOwn_bl, DL.frz_bl, DL.isOwn_int, DL.frz_int, DL.isOwn_str, DL.frz_str, DL.isOwn_tup, DL.frz_tup, DL.isOwn_lst, DL.frz_lst, DL.isOwn_opq, DL.frz_opq, DL.isOwn_own, DL.frz_own, DL.isOwn_frz, if_true, if_false, Bool.false_eq_true, Bool.not_true, Bool.not_false, reduceIte, sp_is_move, sp_may_be, sp_after]
  refine ⟨okV_opq h5, ?_⟩
  cases v with
  | tup ms =>
    rw [if_neg (by simp [D.inst])]
    refine ⟨rfl, ms, rfl, fun i acc => acc = (ms.take i).map fun d => .bl (isMoveD d), rfl, fun i d acc hd hp => ?_, fun acc hp => ?_⟩
    · have hok := okVL_get (by simpa only [okV] using h5) hd
      subst hp
      refine ⟨okV_own hok, okV_own hok, hok, ?_, by dsimp only; rw [take_more hd, List.map_append]; rfl⟩
      have := h6 ms rfl
      rw [List.length_map, sizeLine_eq]
      have := take_len ms i
      omega
    · dsimp only at hp
      rw [List.take_length] at hp
      refine ⟨ms.map isMoveD, by rw [hp, List.map_map]; rfl, ?_⟩
      cases hm : mvs ms with
      | none =>
        rw [if_pos (by rw [all_moves, hm]; rfl)]
        rwa [mvs_none hm] at q
      | some lm =>
        rw [if_neg (by rw [all_moves, hm]; simp)]
        obtain ⟨rfl, hv⟩ := mvs_some hm
        rw [mvs_car hm] at q
        have s4 : (1000000 : Nat) ≤ sizeLine := by rw [sizeLine_eq]; decide
        refine ⟨by omega, by omega, by omega, by omega, by omega, rfl, _, rfl, fun i δ => ∃ s, runM l pl (lm.take i) (init l) = some s ∧ s.counts.length = l.toNat ∧ (s.kept.length : Int) ≤ pl ∧
          ∃ a b c, δ = [some (.int l), some (.int pl), some (.tup (planD lm)), some (.int s.here), some (.tup (nlst s.kept)), some (.int s.due), some (.own (nlst s.counts)), a, b, c], ?_, ?_, ?_⟩
        · refine ⟨init l, rfl, by simp [init], by simp [init]; omega, none, none, none, ?_⟩
          have : (List.replicate l.toNat [D.int 0]).flatten = nlst (List.replicate l.toNat 0) := by
            simp [nlst, List.flatten_replicate_singleton]
          rw [this]
          rfl
        · rintro i d _ hd ⟨s, hr, hc, hkp, a, b, c, rfl⟩
          obtain ⟨w, n, hw, rfl⟩ := planD_get hd
          simp only [DL.dTry, DL.Pt.at, forall_const, DL.dXat, DL.dEmptied, DL.dSeq, DL.dSet, DL.dSetO, DL.dC, DL.dVar, DL.dFor, DL.dWhile, DL.dIfS, DL.dRet, DL.dRetN, DL.dDrop, DL.dNext, DL.dBrk, DL.dCnt, DL.dAppend, DL.dExtend, DL.dPop, DL.dAsg, DL.dPar, DL.dIxNm, DL.dAugIx, DL.dAug, DL.dSetIx, DL.dRaise, DL.dOp, DL.dOpL, DL.dTest, DL.dNot, DL.dAnd, DL.dOr, DL.dAndV, DL.dOrV, DL.dNotV, DL.dIf, DL.dLen, DL.rLen, DL.dTupOf, DL.rTup, DL.dListOf, DL.dIntOf, DL.rIntOf, DL.dAbs, DL.rAbs, DL.dAll, DL.rAllD, DL.dAny, DL.rAnyD, DL.dSum, DL.rSumD, DL.dInst, DL.dCall, DL.dCallK, DL.dCallX, DL.dCallKX, DL.dCons, DL.dConsO, DL.dNil, DL.dStar, DL.dTup, DL.dLst, DL.dL, DL.dSlT, DL.dSlL, DL.dNo, DL.dPart, DL.dLc, DL.dYes, DL.diSeq, DL.diRng1, DL.diRng2, DL.diZip, DL.bP, DL.bPs, DL.oI, DL.oIc, DL.oS, DL.oIx, DL.oIn, DL.oIsN, DL.oNotN, DL.oIsB, DL.oCatT, DL.oCatL, DL.oRepL, DL.oRep01, DL.oRepT, DL.dSumT, DL.rSumTD, DL.dMaxT, DL.rMaxTD, DL.dSortT, DL.dFrz, DL.gOf, DL.gNext, DL.gSeq, DL.gIf, DL.gWhile, DL.gFor, DL.gPut, DL.dNotInX, DL.dStart3, DL.dStart2, DL.dRevT, DL.dRevL, DL.dNeg, DL.dChain, DL.startD, DL.setsD, DL.wipeD, List.map_cons, List.map_nil, List.length_cons, List.length_nil, Nat.reduceAdd, Nat.reduceSub, List.replicate_succ, List.replicate_zero, List.cons_append, List.nil_append, List.append_nil, List.set_cons_succ, List.set_cons_zero, List.getElem?_cons_succ, List.getElem?_cons_zero, Option.some.injEq, D.int.injEq, D.bl.injEq, D.str.injEq, D.tup.injEq, D.lst.injEq, D.own.injEq, exists_eq_left', exists_eq_left, true_and, and_true, reduceCtorEq, false_and, and_false, exists_const, List.cons.injEq, exists_eq_right, exists_eq_right', and_assoc, exists_and_left, D.opq.injEq, V.ref.injEq, DL.items_tup, DL.items_lst, DL.items_own, DL.lstOf_lst, DL.lstOf_own, DL.isOwn_non, DL.frz_non, DL.isOwn_bl, DL.frz_bl, DL.isOwn_int, DL.frz_int, DL.isOwn_str, DL.frz_str, DL.isOwn_tup, DL.frz_tup, DL.isOwn_lst, DL.frz_lst, DL.isOwn_opq, DL.frz_opq, DL.isOwn_own, DL.frz_own, DL.isOwn_frz, if_true, if_false, Bool.false_eq_true, Bool.not_true, Bool.not_false, reduceIte]
          have hwm := (hv _ (List.mem_of_getElem? hw)).1
          have hn0 : 0 ≤ n := (hv _ (List.mem_of_getElem? hw)).2
          have more := runM_more hw hr
          have stop : stp l pl s w n = none → Q D.non := fun z => by
            rw [runM_stop (more.trans z)] at q
            exact q
          by_cases c1 : w = "step"
          · rw [if_pos (decide_eq_true c1)]
            have e : stp l pl s w n = if n = s.here ∧ n < l then some { s with here := s.here + 1, counts := s.counts.set n.toNat (s.counts.getD n.toNat 0 + 1) } else none := by unfold stp; rw [if_pos c1]
            by_cases k1 : n = s.here
            · rw [if_neg (by simp [k1])]
              by_cases k2 : l ≤ n
              · rw [if_pos (decide_eq_true k2)]
                exact stop (by rw [e, if_neg (by omega)])
              · rw [if_neg (by simpa using k2)]
                have hlt : n.toNat < s.counts.length := by rw [hc]; omega
                refine ⟨n.toNat, ?_, s.counts.getD n.toNat 0, ?_, s.kept, rfl, by omega, { s with here := s.here + 1, counts := s.counts.set n.toNat (s.counts.getD n.toNat 0 + 1) }, more.trans (by rw [e, if_pos ⟨k1, by omega⟩]), by simp [hc], hkp, ?_, ?_, rfl, ?_⟩
                · unfold ixN
                  rw [if_pos hn0, if_pos (by rw [nlst_len]; omega)]
                · simp [nlst, List.getElem?_eq_getElem hlt]
                · simp [aftS, c1]
                · simp [aftS, c1]
                · simp [nlst, List.map_set]
            · rw [if_pos (by simp [k1])]
              exact stop (by rw [e, if_neg (by simp [k1])])
          · rw [if_neg (by simpa using c1)]
            by_cases c2 : w = "tell"
            · rw [if_pos (decide_eq_true c2)]
              have e : stp l pl s w n = if n = s.here ∧ n = s.due then some { s with due := s.due - 1 } else none := by unfold stp; rw [if_neg c1, if_pos c2]
              have c3 : w ≠ "keep" := by rw [c2]; decide
              have c4 : w ≠ "back" := by rw [c2]; decide
              have c5 : w ≠ "drop" := by rw [c2]; decide
              by_cases k1 : n = s.here
              · rw [if_neg (by simp [k1])]
                by_cases k2 : n = s.due
                · rw [if_neg (by simp [k2])]
                  refine ⟨s.kept, rfl, by omega, { s with due := s.due - 1 }, more.trans (by rw [e, if_pos ⟨k1, k2⟩]), hc, hkp, ?_, ?_, ?_, rfl⟩
                  · simp [aftS, c1, c3, c4]
                  · simp [aftS, c1, c3, c4, c5]
                  · rfl
                · rw [if_pos (by simp [k2])]
                  exact stop (by rw [e, if_neg (by simp [k2])])
              · rw [if_pos (by simp [k1])]
                exact stop (by rw [e, if_neg (by simp [k1])])
            · rw [if_neg (by simpa using c2)]
              have e := stp_else (l := l) (pl := pl) (s := s) (n := n) c1 c2 hwm
              refine ⟨s.kept, rfl, ?_⟩
              by_cases k : mayB w n s.here s.kept pl = true
              · rw [if_neg (by simp [k])]
                have al := aft_len hkp k
                exact ⟨s.kept, rfl, by omega, { s with here := (aftS w n s.here s.kept).1, kept := (aftS w n s.here s.kept).2 }, more.trans (by rw [e, if_pos k]), hc, al, rfl, rfl, rfl, rfl⟩
              · rw [if_pos (by simpa using k)]
                exact stop (by rw [e, if_neg k])
        · rintro _ ⟨s, hr, hc, hkp, a, b, c, rfl⟩
          rw [planD_len, List.take_length] at hr
          rw [hr] at q
          simp only [DL.dTry, DL.Pt.at, forall_const, DL.dXat, DL.dEmptied, DL.dSeq, DL.dSet, DL.dSetO, DL.dC, DL.dVar, DL.dFor, DL.dWhile, DL.dIfS, DL.dRet, DL.dRetN, DL.dDrop, DL.dNext, DL.dBrk, DL.dCnt, DL.dAppend, DL.dExtend, DL.dPop, DL.dAsg, DL.dPar, DL.dIxNm, DL.dAugIx, DL.dAug, DL.dSetIx, DL.dRaise, DL.dOp, DL.dOpL, DL.dTest, DL.dNot, DL.dAnd, DL.dOr, DL.dAndV, DL.dOrV, DL.dNotV, DL.dIf, DL.dLen, DL.rLen, DL.dTupOf, DL.rTup, DL.dListOf, DL.dIntOf, DL.rIntOf, DL.dAbs, DL.rAbs, DL.dAll, DL.rAllD, DL.dAny, DL.rAnyD, DL.dSum, DL.rSumD, DL.dInst, DL.dCall, DL.dCallK, DL.dCallX, DL.dCallKX, DL.dCons, DL.dConsO, DL.dNil, DL.dStar, DL.dTup, DL.dLst, DL.dL, DL.dSlT, DL.dSlL, DL.dNo, DL.dPart, DL.dLc, DL.dYes, DL.diSeq, DL.diRng1, DL.diRng2, DL.diZip, DL.bP, DL.bPs, DL.oI, DL.oIc, DL.oS, DL.oIx, DL.oIn, DL.oIsN, DL.oNotN, DL.oIsB, DL.oCatT, DL.oCatL, DL.oRepL, DL.oRep01, DL.oRepT, DL.dSumT, DL.rSumTD, DL.dMaxT, DL.rMaxTD, DL.dSortT, DL.dFrz, DL.gOf, DL.gNext, DL.gSeq, DL.gIf, DL.gWhile, DL.gFor, DL.gPut, DL.dNotInX, DL.dStart3, DL.dStart2, DL.dRevT, DL.dRevL, DL.dNeg, DL.dChain, DL.startD, DL.setsD, DL.wipeD, List.map_cons, List.map_nil, List.length_cons, List.length_nil, Nat.reduceAdd, Nat.reduceSub, List.replicate_succ, List.replicate_zero, List.cons_append, List.nil_append, List.append_nil, List.set_cons_succ, List.set_cons_zero, List.getElem?_cons_succ, List.getElem?_cons_zero, Option.some.injEq, D.int.injEq, D.bl.injEq, D.str.injEq, D.tup.injEq, D.lst.injEq, D.own.injEq, exists_eq_left', exists_eq_left, true_and, and_true, reduceCtorEq, false_and, and_false, exists_const, List.cons.injEq, exists_eq_right, exists_eq_right', and_assoc, exists_and_left, D.opq.injEq, V.ref.injEq, DL.items_tup, DL.items_lst, DL.items_own, DL.lstOf_lst, DL.lstOf_own, DL.isOwn_non, DL.frz_non, DL.isOwn_bl, DL.frz_bl, DL.isOwn_int, DL.frz_int, DL.isOwn_str, DL.frz_str, DL.isOwn_tup, DL.frz_tup, DL.isOwn_lst, DL.frz_lst, DL.isOwn_opq, DL.frz_opq, DL.isOwn_own, DL.frz_own, DL.isOwn_frz, if_true, if_false, Bool.false_eq_true, Bool.not_true, Bool.not_false, reduceIte]
          by_cases hd : s.due = -1
          · rw [if_pos (decide_eq_true hd)]
            simpa [fin, hd, carO] using q
          · rw [if_neg (by simpa using hd)]
            simpa [fin, hd, carO] using q
  | _ => first | (simp [okV] at h5; done) | simpa [carD, carry, carO, D.inst] using q
/-! ### is_plan, step_counts -/
theorem carO_non (o : Option (List Int)) : isNon (carO o) = !o.isSome := by cases o <;> rfl
theorem carO_opq (o : Option (List Int)) (w : V) : carO o ≠ .opq w := by cases o <;> simp [carO]
theorem carO_own (o : Option (List Int)) : isOwn (carO o) = false := by cases o <;> rfl
abbrev s_step_counts : Stmt := topS 18
theorem c_step_counts : FnScope ["length", "places", "plan", "counts"] ["length", "places", "plan"] (defScope s_step_counts) := ⟨rfl, rfl, rfl, by decide +kernel, rfl, by decide +kernel, by decide +kernel⟩
def sp_step_counts (C : Addr) : DSp := fun _ ds Q E => ∃ l pl v, ds = [.int l, .int pl, v] ∧ 0 ≤ l ∧ l ≤ 1000 ∧ 0 ≤ pl ∧ pl ≤ 500 ∧ askable v ∧ (∀ c, carry l pl v = some c → Q (.tup (nlst c))) ∧ (carry l pl v = none → E C (.int 0))
theorem ok_step_counts {C fI : Addr} (F : Fun K "step_counts" "step_counts" s_step_counts f fd) (C_carried_out : Callee P w K mg base 4 "carried_out" ["length", "places", "value"] sp_carried_out) (T_Refused : DErr.ErrTxt P K mg "Refused" C fI) : FnOk P w K mg base (L2.CX P w) 5 f fd ["length", "places", "plan"] (liftSp K (sp_step_counts C)) := by
  have lens : ∀ J ds Q E, sp_step_counts C J ds Q E → ds.length = 3 := fun J ds Q E ⟨_, _, _, e, _⟩ => by rw [e]; rfl
  refine dfn F c_step_counts lens (fun p X ds Q E cdv A outer s H EX hX hK hr hE h => ?_)
  have wi : Wish X p (fun cls d _ H => EX cls d H) (fun C a _ => E C a) := by subst hX; exact wish_def (CX := EX) (takes_of rfl rfl rfl rfl) (by rw [hK]; exact hE)
  subst hX
  refine ⟨_, (dss_cons (ds_set (i := 3) c_step_counts.nd rfl (.inl rfl) (de_callC hK C_carried_out hr (da_cons (dv 0) (da_cons (dv 1) (da_cons (dv 2) da_nil)))))
    (dss_cons (ds_if (dt_cmp op_isN rd_isN (dv 3) de_non)
    (dss_one (ds_raise wi rfl T_Refused hr (da_cons de_int da_nil) rfl))
    dss_nil)
    (dss_one (ds_ret (dv 3))))), ?_⟩
  obtain ⟨l, pl, v, rfl, h1, h2, h3, h4, h5, q1, q2⟩ := h
  simp only [DL.dTry, DL.Pt.at, forall_const, DL.dXat, DL.dEmptied, DL.dSeq, DL.dSet, DL.dSetO, DL.dC, DL.dVar, DL.dFor, DL.dWhile, DL.dIfS, DL.dRet, DL.dRetN, DL.dDrop, DL.dNext, DL.dBrk, DL.dCnt, DL.dAppend, DL.dExtend, DL.dPop, DL.dAsg, DL.dPar, DL.dIxNm, DL.dAugIx, DL.dAug, DL.dSetIx, DL.dRaise, DL.dOp, DL.dOpL, DL.dTest, DL.dNot, DL.dAnd, DL.dOr, DL.dAndV, DL.dOrV, DL.dNotV, DL.dIf, DL.dLen, DL.rLen, DL.dTupOf, DL.rTup, DL.dListOf, DL.dIntOf, DL.rIntOf, DL.dAbs, DL.rAbs, DL.dAll, DL.rAllD, DL.dAny, DL.rAnyD, DL.dSum, DL.rSumD, DL.dInst, DL.dCall, DL.dCallK, DL.dCallX, DL.dCallKX, DL.dCons, DL.dConsO, DL.dNil, DL.dStar, DL.dTup, DL.dLst, DL.dL, DL.dSlT, DL.dSlL, DL.dNo, DL.dPart, DL.dLc, DL.dYes, DL.diSeq, DL.diRng1, DL.diRng2, DL.diZip, DL.bP, DL.bPs, DL.oI, DL.oIc, DL.oS, DL.oIx, DL.oIn, DL.oIsN, DL.oNotN, DL.oIsB, DL.oCatT, DL.oCatL, DL.oRepL, DL.oRep01, DL.oRepT, DL.dSumT, DL.rSumTD, DL.dMaxT, DL.rMaxTD, DL.dSortT, DL.dFrz, DL.gOf, DL.gNext, DL.gSeq, DL.gIf, DL.gWhile, DL.gFor, DL.gPut, DL.dNotInX, DL.dStart3, DL.dStart2, DL.dRevT, DL.dRevL, DL.dNeg, DL.dChain, DL.startD, DL.setsD, DL.wipeD, List.map_cons, List.map_nil, List.length_cons, List.length_nil, Nat.reduceAdd, Nat.reduceSub, List.replicate_succ, List.replicate_zero, List.cons_append, List.nil_append, List.append_nil, List.set_cons_succ, List.set_cons_zero, List.getElem?_cons_succ, List.getElem?_cons_zero, Option.some.injEq, D.int.injEq, D.bl.injEq, D.str.injEq, D.tup.injEq, D.lst.injEq, D.own.injEq, exists_eq_left', exists_eq_left, true_and, and_true, reduceCtorEq, false_and, and_false, exists_const, List.cons.injEq, exists_eq_right, exists_eq_right', and_assoc, exists_and_left, D.opq.injEq, V.ref.injEq, DL.items_tup, DL.items_lst, DL.items_own, DL.lstOf_lst, DL.lstOf_own, DL.isOwn_non, DL.frz_non, DL.isOwn_bl, DL.frz_bl, DL.isOwn_int, DL.frz_int, DL.isOwn_str, DL.frz_str, DL.isOwn_tup, DL.frz_tup, DL.isOwn_lst, DL.frz_lst, DL.isOwn_opq, DL.frz_opq, DL.isOwn_own, DL.frz_own, DL.isOwn_frz, if_true, if_false, Bool.false_eq_true, Bool.not_true, Bool.not_false, reduceIte, sp_carried_out]
  refine ⟨okV_own h5.1, h1, h2, h3, h4, h5, carO_own _, fun w => carO_opq _ w, carO_own _, ?_⟩
  unfold carD
  cases hc : carry l pl v with
  | none => exact q2 hc
  | some c => exact q1 c hc
/-! ### first_stop -/
abbrev s_first_stop : Stmt := topS 19
theorem c_first_stop : FnScope ["many", "places", "times"] ["many", "places"] (defScope s_first_stop) := ⟨rfl, rfl, rfl, by decide +kernel, rfl, by decide +kernel, by decide +kernel⟩
def sp_first_stop : DSp := fun _ ds Q _ => ∃ m pl, ds = [.int m, .int pl] ∧ 2 ≤ m ∧ m ≤ 10000 ∧ 0 ≤ pl ∧ pl ≤ 1000 ∧ ∀ t, least m pl t → Q (.int (if m - spn (pl - 1) (t - 1) < spn pl (t - 1) then m - spn (pl - 1) (t - 1) else spn pl (t - 1)))
theorem ok_first_stop (F : Fun K "first_stop" "first_stop" s_first_stop f fd) (C_spans : Callee P w K mg base 1 "spans" ["places", "times"] sp_spans) (C_fewest_times : Callee P w K mg base 3 "fewest_times" ["length", "places"] sp_fewest_times) (m_min : mg "min" = none) :
    FnOk P w K mg base (L2.CX P w) 4 f fd ["many", "places"] (liftSp K sp_first_stop) := by
  have lens : ∀ J ds Q E, sp_first_stop J ds Q E → ds.length = 2 := fun J ds Q E ⟨_, _, e, _⟩ => by rw [e]; rfl
  refine dfn F c_first_stop lens (fun p X ds Q E cdv A outer s H EX hX hK hr hE h => ?_)
  subst hX
  refine ⟨_, (dss_cons (ds_set (i := 2) c_first_stop.nd rfl (.inl rfl) (de_callC hK C_fewest_times hr (da_cons (de_op op_sub rd_I0 (dv 0) de_int) (da_cons (dv 1) da_nil))))
    (dss_one (ds_ret (de_call2B (call_min2 rfl) rd_min rfl m_min (by decide +kernel) (de_callC hK C_spans hr (da_cons (dv 1) (da_cons (de_op op_sub rd_I0 (dv 2) de_int) da_nil))) (de_op op_sub rd_I0 (dv 0) (de_callC hK C_spans hr (da_cons (de_op op_sub rd_I0 (dv 1) de_int) (da_cons (de_op op_sub rd_I0 (dv 2) de_int) da_nil)))))))), ?_⟩
  obtain ⟨m, pl, rfl, h1, h2, h3, h4, q⟩ := h
  simp only [DL.dTry, DL.Pt.at, forall_const, DL.dXat, DL.dEmptied, DL.dSeq, DL.dSet, DL.dSetO, DL.dC, DL.dVar, DL.dFor, DL.dWhile, DL.dIfS, DL.dRet, DL.dRetN, DL.dDrop, DL.dNext, DL.dBrk, DL.dCnt, DL.dAppend, DL.dExtend, DL.dPop, DL.dAsg, DL.dPar, DL.dIxNm, DL.dAugIx, DL.dAug, DL.dSetIx, DL.dRaise, DL.dOp, DL.dOpL, DL.dTest, DL.dNot, DL.dAnd, DL.dOr, DL.dAndV, DL.dOrV, DL.dNotV, DL.dIf, DL.dLen, DL.rLen, DL.dTupOf, DL.rTup, DL.dListOf, DL.dIntOf, DL.rIntOf, DL.dAbs, DL.rAbs, DL.dAll, DL.rAllD, DL.dAny, DL.rAnyD, DL.dSum, DL.rSumD, DL.dInst, DL.dCall, DL.dCallK, DL.dCallX, DL.dCallKX, DL.dCons, DL.dConsO, DL.dNil, DL.dStar, DL.dTup, DL.dLst, DL.dL, DL.dSlT, DL.dSlL, DL.dNo, DL.dPart, DL.dLc, DL.dYes, DL.diSeq, DL.diRng1, DL.diRng2, DL.diZip, DL.bP, DL.bPs, DL.oI, DL.oIc, DL.oS, DL.oIx, DL.oIn, DL.oIsN, DL.oNotN, DL.oIsB, DL.oCatT, DL.oCatL, DL.oRepL, DL.oRep01, DL.oRepT, DL.dSumT, DL.rSumTD, DL.dMaxT, DL.rMaxTD, DL.dSortT, DL.dFrz, DL.gOf, DL.gNext, DL.gSeq, DL.gIf, DL.gWhile, DL.gFor, DL.gPut, DL.dNotInX, DL.dStart3, DL.dStart2, DL.dRevT, DL.dRevL, DL.dNeg, DL.dChain, DL.startD, DL.setsD, DL.wipeD, List.map_cons, List.map_nil, List.length_cons, List.length_nil, Nat.reduceAdd, Nat.reduceSub, List.replicate_succ, List.replicate_zero, List.cons_append, List.nil_append, List.append_nil, List.set_cons_succ, List.set_cons_zero, List.getElem?_cons_succ, List.getElem?_cons_zero, Option.some.injEq, D.int.injEq, D.bl.injEq, D.str.injEq, D.tup.injEq, D.lst.injEq, D.own.injEq, exists_eq_left', exists_eq_left, true_and, and_true, reduceCtorEq, false_and, and_false, exists_const, List.cons.injEq, exists_eq_right, exists_eq_right', and_assoc, exists_and_left, D.opq.injEq, V.ref.injEq, DL.items_tup, DL.items_lst, DL.items_own, DL.lstOf_lst, DL.lstOf_own, DL.isOwn_non, DL.frz_non, DL.isOwn_bl, DL.frz_bl, DL.isOwn_int, DL.frz_int, DL.isOwn_str, DL.frz_str, DL.isOwn_tup, DL.frz_tup, DL.isOwn_lst, DL.frz_lst, DL.isOwn_opq, DL.frz_opq, DL.isOwn_own, DL.frz_own, DL.isOwn_frz, if_true, if_false, Bool.false_eq_true, Bool.not_true, Bool.not_false, reduceIte, sp_fewest_times, sp_spans]
  refine ⟨h3, by omega, by omega, fun t ht t3 => ?_⟩
  rw [show m - 1 + 1 = m by omega] at ht
  have t0 := ht.1
  exact ⟨by omega, by omega, by omega, by omega, by omega, by omega, by omega, by omega, q t ht⟩
/-! ### back_plan -/
abbrev s_back_plan : Stmt := topS 20
theorem c_back_plan : FnScope ["length", "places", "plan", "waiting", "at", "many", "free", "before", "stop", "turn"] ["length", "places"] (defScope s_back_plan) := ⟨rfl, rfl, rfl, by decide +kernel, rfl, by decide +kernel, by decide +kernel⟩
/-- a plan that can be carried out, with the fewest steps -/
def okPlanC (l pl : Int) (v : D) : Prop := ∃ lm cs c, v = .tup (planD lm) ∧ (∀ x ∈ lm, okM x) ∧ lm.length ≤ 400000 ∧ carry l pl v = some cs ∧ cs.length = l.toNat ∧ Cost (l + 1) pl c ∧ ∀ j, 0 ≤ j → gd cs j = adds 0 (l + 1) c j
def sp_back_plan : DSp := fun _ ds Q _ => ∃ l pl, ds = [.int l, .int pl] ∧ 0 ≤ l ∧ l ≤ 300 ∧ 0 ≤ pl ∧ pl ≤ 500 ∧ ∀ v, okPlanC l pl v → Q v
theorem ok_back_plan (F : Fun K "back_plan" "back_plan" s_back_plan f fd) (C_first_stop : Callee P w K mg base 4 "first_stop" ["many", "places"] sp_first_stop) (m_len : mg "len" = none) (m_range : mg "range" = none) (m_tuple : mg "tuple" = none) :
    FnOk P w K mg base (L2.CX P w) 5 f fd ["length", "places"] (liftSp K sp_back_plan) := by
  have lens : ∀ J ds Q E, sp_back_plan J ds Q E → ds.length = 2 := fun J ds Q E ⟨_, _, e, _⟩ => by rw [e]; rfl
  refine dfn F c_back_plan lens (fun p X ds Q E cdv A outer s H EX hX hK hr hE h => ?_)
  subst hX
  refine ⟨_, (dss_cons (ds_par2 (i := 2) (j := 3) rfl c_back_plan.nd rfl rfl (by decide) rfl rfl (dr_consO (dl_lst da_nil) (dr_consO (dl_lst (da_cons (de_tup (da_cons de_int (da_cons (de_op op_add rd_I0 (dv 0) de_int) (da_cons (dv 1) (da_cons (de_tup da_nil) da_nil))))) da_nil)) dr_nil)) rfl)
    (dss_cons (ds_while (passes_of rfl) (dt_cmp op_gt rd_B0 (de_len hK rfl m_len (dv 3)) de_int)
    (dss_cons (ds_pop 3 (dg_tp hK rfl (dgs_cons (dg_nm (i := 4) c_back_plan.nd rfl (.inr rfl)) (dgs_cons (dg_nm (i := 5) c_back_plan.nd rfl (.inl rfl)) (dgs_cons (dg_nm (i := 6) c_back_plan.nd rfl (.inl rfl)) (dgs_cons (dg_nm (i := 7) c_back_plan.nd rfl (.inl rfl)) dgs_nil))))))
    (dss_cons (ds_extend 2 hK (dv 7))
    (dss_cons (ds_if (dt_cmp op_eq rd_eqI (dv 5) de_int)
    (dss_cons (ds_append 2 (de_tup (da_cons de_str (da_cons (dv 4) da_nil))))
    (dss_one ds_continue))
    dss_nil)
    (dss_cons (ds_set (i := 8) c_back_plan.nd rfl (.inl rfl) (de_callC hK C_first_stop hr (da_cons (dv 5) (da_cons (dv 6) da_nil))))
    (dss_cons (ds_extend 2 hK (de_of_dl (dl_lc [("turn", 9)] rfl c_back_plan.nd (di_rng1 rfl m_range (dv 8)) (by show BlkOk ["length", "places", "plan", "waiting", "at", "many", "free", "before", "stop", "turn"] (defScope s_back_plan) _ _; exact ⟨rfl, by decide +kernel, by decide +kernel, by decide +kernel, by decide +kernel⟩) (fun _ _ _ _ _ => (dg_nm (i := 9) c_back_plan.nd rfl (.inl rfl))) (fun _ _ _ _ _ => dts_nil) (fun _ _ _ _ _ => (de_tup (da_cons de_str (da_cons (de_op op_add rd_I0 (dv 4) (dv 9)) da_nil)))))))
    (dss_cons (ds_if (dt_cmp op_gt rd_B0 (de_op op_sub rd_I0 (dv 5) (dv 8)) de_int)
    (dss_cons (ds_append 2 (de_tup (da_cons de_str (da_cons (de_op op_add rd_I0 (dv 4) (dv 8)) da_nil))))
    (dss_one (ds_append 3 (de_tup (da_cons (dv 4) (da_cons (dv 8) (da_cons (dv 6) (da_cons (de_tup (da_cons (de_tup (da_cons de_str (da_cons (de_op op_add rd_I0 (dv 4) (dv 8)) da_nil))) (da_cons (de_tup (da_cons de_str (da_cons (dv 4) da_nil))) da_nil))) da_nil))))))))
    (dss_one (ds_append 3 (de_tup (da_cons (dv 4) (da_cons (dv 8) (da_cons (dv 6) (da_cons (de_tup (da_cons (de_tup (da_cons de_str (da_cons (dv 4) da_nil))) da_nil)) da_nil))))))))
    (dss_one (ds_append 3 (de_tup (da_cons (de_op op_add rd_I0 (dv 4) (dv 8)) (da_cons (de_op op_sub rd_I0 (dv 5) (dv 8)) (da_cons (de_op op_sub rd_I0 (dv 6) de_int) (da_cons (de_tup da_nil) da_nil))))))))))))))
    (dss_one (ds_ret (de_tupOf hK rfl m_tuple (dv 2)))))), ?_⟩
  obtain ⟨l, pl, rfl, h1, h2, h3, h4, q⟩ := h
  simp only [DL.dTry, DL.Pt.at, forall_const, DL.dXat, DL.dEmptied, DL.dSeq, DL.dSet, DL.dSetO, DL.dC, DL.dVar, DL.dFor, DL.dWhile, DL.dIfS, DL.dRet, DL.dRetN, DL.dDrop, DL.dNext, DL.dBrk, DL.dCnt, DL.dAppend, DL.dExtend, DL.dPop, DL.dAsg, DL.dPar, DL.dIxNm, DL.dAugIx, DL.dAug, DL.dSetIx, DL.dRaise, DL.dOp, DL.dOpL, DL.dTest, DL.dNot, DL.dAnd, DL.dOr, DL.dAndV, DL.dOrV, DL.dNotV, DL.dIf, DL.dLen, DL.rLen, DL.dTupOf, DL.rTup, DL.dListOf, DL.dIntOf, DL.rIntOf, DL.dAbs, DL.rAbs, DL.dAll, DL.rAllD, DL.dAny, DL.rAnyD, DL.dSum, DL.rSumD, DL.dInst, DL.dCall, DL.dCallK, DL.dCallX, DL.dCallKX, DL.dCons, DL.dConsO, DL.dNil, DL.dStar, DL.dTup, DL.dLst, DL.dL, DL.dSlT, DL.dSlL, DL.dNo, DL.dPart, DL.dLc, DL.dYes, DL.diSeq, DL.diRng1, DL.diRng2, DL.diZip, DL.bP, DL.bPs, DL.oI, DL.oIc, DL.oS, DL.oIx, DL.oIn, DL.oIsN, DL.oNotN, DL.oIsB, DL.oCatT, DL.oCatL, DL.oRepL, DL.oRep01, DL.oRepT, DL.dSumT, DL.rSumTD, DL.dMaxT, DL.rMaxTD, DL.dSortT, DL.dFrz, DL.gOf, DL.gNext, DL.gSeq, DL.gIf, DL.gWhile, DL.gFor, DL.gPut, DL.dNotInX, DL.dStart3, DL.dStart2, DL.dRevT, DL.dRevL, DL.dNeg, DL.dChain, DL.startD, DL.setsD, DL.wipeD, List.map_cons, List.map_nil, List.length_cons, List.length_nil, Nat.reduceAdd, Nat.reduceSub, List.replicate_succ, List.replicate_zero, List.cons_append, List.nil_append, List.append_nil, List.set_cons_succ, List.set_cons_zero, List.getElem?_cons_succ, List.getElem?_cons_zero, Option.some.injEq, D.int.injEq, D.bl.injEq, D.str.injEq, D.tup.injEq, D.lst.injEq, D.own.injEq, exists_eq_left', exists_eq_left, true_and, and_true, reduceCtorEq, false_and, and_false, exists_const, List.cons.injEq, exists_eq_right, exists_eq_right', and_assoc, exists_and_left, D.opq.injEq, V.ref.injEq, DL.items_tup, DL.items_lst, DL.items_own, DL.lstOf_lst, DL.lstOf_own, DL.isOwn_non, DL.frz_non, DL.isOwn_bl, DL.frz_bl, DL.isOwn_int, DL.frz_int, DL.isOwn_str, DL.frz_str, DL.isOwn_tup, DL.frz_tup, DL.isOwn_lst, DL.frz_lst, DL.isOwn_opq, DL.frz_opq, DL.isOwn_own, DL.frz_own, DL.isOwn_frz, if_true, if_false, Bool.false_eq_true, Bool.not_true, Bool.not_false, reduceIte, sp_first_stop]
  have s4 : (16777216 : Nat) ≤ sizeLine := by rw [sizeLine_eq]; decide
  obtain ⟨c0, hc0⟩ := cost_ex (l + 1).toNat (l + 1) pl (by omega) (by omega) (fun _ => h3)
  obtain ⟨W, hW⟩ : ∃ W : Int → Int, W = fun j => adds 0 (l + 1) c0 j := ⟨_, rfl⟩
  refine ⟨by omega, by omega, by omega, by omega, fun m δ => ∃ lm stack s a b c d e g, (∀ x ∈ lm, okM x) ∧ runM l pl lm (init l) = some s ∧ ReadyC l pl W stack s ∧ (∀ i ∈ stack, okI i) ∧
    m = mea stack ∧ lm.length + 500 * m ≤ 500 * (2 * l.toNat + 1) ∧ δ = [some (.int l), some (.int pl), some (.own (planD lm)), some (.own (stack.reverse.map itemD)), a, b, c, d, e, g], ⟨(2 * l.toNat + 1), [], [⟨0, l + 1, pl, []⟩], init l, none, none, none, none, none, none, by simp, rfl, ?_, okI.all ⟨by simp only; omega, by simp, by simp⟩ (by simp), ?_, by simp, rfl⟩, ?_⟩
  · refine ⟨init l, c0, rfl, rfl, by simp only; omega, by simp [init], by simp [init], by simp only; omega, by simp only; omega, by simp [init], by simp only; omega, hc0, fun _ => ⟨.inl rfl, by simp [init], h3⟩, fun s'' _ e _ e4 => ⟨by rw [e]; rfl, fun j hj => ?_⟩⟩
    rw [e4 j hj, hW]
    have : gd (init l).counts j = 0 := by
      unfold gd init
      rw [List.getD_eq_getElem?_getD, List.getElem?_replicate]
      split <;> rfl
    rw [this]
    simp
  · simp only [mea, List.map_cons, List.map_nil, List.sum_cons, List.sum_nil]
    omega
  · rintro m _ ⟨lm, stack, s, a, b, c, d, e, g, hlm, hrun, hrd, hbef, hm, hlen, rfl⟩
    simp only [DL.dTry, DL.Pt.at, forall_const, DL.dXat, DL.dEmptied, DL.dSeq, DL.dSet, DL.dSetO, DL.dC, DL.dVar, DL.dFor, DL.dWhile, DL.dIfS, DL.dRet, DL.dRetN, DL.dDrop, DL.dNext, DL.dBrk, DL.dCnt, DL.dAppend, DL.dExtend, DL.dPop, DL.dAsg, DL.dPar, DL.dIxNm, DL.dAugIx, DL.dAug, DL.dSetIx, DL.dRaise, DL.dOp, DL.dOpL, DL.dTest, DL.dNot, DL.dAnd, DL.dOr, DL.dAndV, DL.dOrV, DL.dNotV, DL.dIf, DL.dLen, DL.rLen, DL.dTupOf, DL.rTup, DL.dListOf, DL.dIntOf, DL.rIntOf, DL.dAbs, DL.rAbs, DL.dAll, DL.rAllD, DL.dAny, DL.rAnyD, DL.dSum, DL.rSumD, DL.dInst, DL.dCall, DL.dCallK, DL.dCallX, DL.dCallKX, DL.dCons, DL.dConsO, DL.dNil, DL.dStar, DL.dTup, DL.dLst, DL.dL, DL.dSlT, DL.dSlL, DL.dNo, DL.dPart, DL.dLc, DL.dYes, DL.diSeq, DL.diRng1, DL.diRng2, DL.diZip, DL.bP, DL.bPs, DL.oI, DL.oIc, DL.oS, DL.oIx, DL.oIn, DL.oIsN, DL.oNotN, DL.oIsB, DL.oCatT, DL.oCatL, DL.oRepL, DL.oRep01, DL.oRepT, DL.dSumT, DL.rSumTD, DL.dMaxT, DL.rMaxTD, DL.dSortT, DL.dFrz, DL.gOf, DL.gNext, DL.gSeq, DL.gIf, DL.gWhile, DL.gFor, DL.gPut, DL.dNotInX, DL.dStart3, DL.dStart2, DL.dRevT, DL.dRevL, DL.dNeg, DL.dChain, DL.startD, DL.setsD, DL.wipeD, List.map_cons, List.map_nil, List.length_cons, List.length_nil, Nat.reduceAdd, Nat.reduceSub, List.replicate_succ, List.replicate_zero, List.cons_append, List.nil_append, List.append_nil, List.set_cons_succ, List.set_cons_zero, List.getElem?_cons_succ, List.getElem?_cons_zero, Option.some.injEq, D.int.injEq, D.bl.injEq, D.str.injEq, D.tup.injEq, D.lst.injEq, D.own.injEq, exists_eq_left', exists_eq_left, true_and, and_true, reduceCtorEq, false_and, and_false, exists_const, List.cons.injEq, exists_eq_right, exists_eq_right', and_assoc, exists_and_left, D.opq.injEq, V.ref.injEq, DL.items_tup, DL.items_lst, DL.items_own, DL.lstOf_lst, DL.lstOf_own, DL.isOwn_non, DL.frz_non, DL.isOwn_bl, DL.frz_bl, DL.isOwn_int, DL.frz_int, DL.isOwn_str, DL.frz_str, DL.isOwn_tup, DL.frz_tup, DL.isOwn_lst, DL.frz_lst, DL.isOwn_opq, DL.frz_opq, DL.isOwn_own, DL.frz_own, DL.isOwn_frz, if_true, if_false, Bool.false_eq_true, Bool.not_true, Bool.not_false, reduceIte]
    cases stack with
    | nil =>
      rw [if_neg (by simp)]
      obtain ⟨hd1, hd2⟩ := hrd
      have hcar : carry l pl (.tup (planD lm)) = some s.counts := by
        rw [carry_tup, mvs_planD fun m hm => ⟨(hlm m hm).1, (hlm m hm).2.1⟩]
        show fin (runM l pl lm (init l)) = _
        rw [hrun]
        show (if s.due = -1 then some s.counts else none) = _
        rw [if_pos hd1]
      refine q _ ⟨lm, s.counts, c0, rfl, hlm, by omega, hcar, by rw [runM_len hrun]; simp [init], hc0, fun j hj => by rw [hd2 j hj, hW]⟩
    | cons it rest =>
      rw [if_pos (by simp)]
      refine ⟨rest.reverse.map itemD, itemD it, by simp, _, rfl, rfl, ?_⟩
      obtain ⟨at_, many, free, bef⟩ := it
      simp only [DL.dTry, DL.Pt.at, forall_const, DL.dXat, DL.dEmptied, DL.dSeq, DL.dSet, DL.dSetO, DL.dC, DL.dVar, DL.dFor, DL.dWhile, DL.dIfS, DL.dRet, DL.dRetN, DL.dDrop, DL.dNext, DL.dBrk, DL.dCnt, DL.dAppend, DL.dExtend, DL.dPop, DL.dAsg, DL.dPar, DL.dIxNm, DL.dAugIx, DL.dAug, DL.dSetIx, DL.dRaise, DL.dOp, DL.dOpL, DL.dTest, DL.dNot, DL.dAnd, DL.dOr, DL.dAndV, DL.dOrV, DL.dNotV, DL.dIf, DL.dLen, DL.rLen, DL.dTupOf, DL.rTup, DL.dListOf, DL.dIntOf, DL.rIntOf, DL.dAbs, DL.rAbs, DL.dAll, DL.rAllD, DL.dAny, DL.rAnyD, DL.dSum, DL.rSumD, DL.dInst, DL.dCall, DL.dCallK, DL.dCallX, DL.dCallKX, DL.dCons, DL.dConsO, DL.dNil, DL.dStar, DL.dTup, DL.dLst, DL.dL, DL.dSlT, DL.dSlL, DL.dNo, DL.dPart, DL.dLc, DL.dYes, DL.diSeq, DL.diRng1, DL.diRng2, DL.diZip, DL.bP, DL.bPs, DL.oI, DL.oIc, DL.oS, DL.oIx, DL.oIn, DL.oIsN, DL.oNotN, DL.oIsB, DL.oCatT, DL.oCatL, DL.oRepL, DL.oRep01, DL.oRepT, DL.dSumT, DL.rSumTD, DL.dMaxT, DL.rMaxTD, DL.dSortT, DL.dFrz, DL.gOf, DL.gNext, DL.gSeq, DL.gIf, DL.gWhile, DL.gFor, DL.gPut, DL.dNotInX, DL.dStart3, DL.dStart2, DL.dRevT, DL.dRevL, DL.dNeg, DL.dChain, DL.startD, DL.setsD, DL.wipeD, List.map_cons, List.map_nil, List.length_cons, List.length_nil, Nat.reduceAdd, Nat.reduceSub, List.replicate_succ, List.replicate_zero, List.cons_append, List.nil_append, List.append_nil, List.set_cons_succ, List.set_cons_zero, List.getElem?_cons_succ, List.getElem?_cons_zero, Option.some.injEq, D.int.injEq, D.bl.injEq, D.str.injEq, D.tup.injEq, D.lst.injEq, D.own.injEq, exists_eq_left', exists_eq_left, true_and, and_true, reduceCtorEq, false_and, and_false, exists_const, List.cons.injEq, exists_eq_right, exists_eq_right', and_assoc, exists_and_left, D.opq.injEq, V.ref.injEq, DL.items_tup, DL.items_lst, DL.items_own, DL.lstOf_lst, DL.lstOf_own, DL.isOwn_non, DL.frz_non, DL.isOwn_bl, DL.frz_bl, DL.isOwn_int, DL.frz_int, DL.isOwn_str, DL.frz_str, DL.isOwn_tup, DL.frz_tup, DL.isOwn_lst, DL.frz_lst, DL.isOwn_opq, DL.frz_opq, DL.isOwn_own, DL.frz_own, DL.isOwn_frz, if_true, if_false, Bool.false_eq_true, Bool.not_true, Bool.not_false, reduceIte]
      have ⟨hi1, hi2, hi3⟩ := hbef _ (List.mem_cons_self ..)
      have hr' : ∀ i ∈ rest, okI i := fun i hi => hbef i (List.mem_cons_of_mem _ hi)
      have hml := mea_len fun i hi => (hr' i hi).1
      simp only at hi1 hi2 hi3
      rw [mea_cons] at hm
      simp only at hm
      have ⟨s', cc, g1, g2, g3, g4, g5, g6, g7, gl, gf, gC, g8, g9⟩ := hrd
      simp only at g1 g2 g3 g4 g5 g6 g7 g8
      rw [planD_len, planD_len]
      refine ⟨by omega, ?_⟩
      by_cases c1 : many = 1
      · rw [if_pos (decide_eq_true c1)]
        subst c1
        obtain ⟨s2, e1, e2⟩ := hrd.one
        refine ⟨by omega, by rw [List.length_append, planD_len, planD_len]; omega, mea rest, by omega, lm ++ (bef ++ [mvT "tell" at_]), ?_, rest, s2, ?_, e2, hr', rfl, ?_, ?_, rfl⟩
        · exact okM_append hlm (okM_append hi2 (by simp only [List.mem_singleton, forall_eq]; exact okM_of (by decide) g3 (by omega)))
        · rw [runM_append, hrun]; exact e1
        · simp only [List.length_append, List.length_singleton]; omega
        · simp [planD]
      · rw [if_neg (by simpa using c1)]
        obtain ⟨k1, k2, k3⟩ := g8 (by omega)
        refine ⟨by omega, by omega, k3, by omega, fun tt htt => ?_⟩
        have ⟨ht1, t1, t2, _, _⟩ := cut_fits (by omega) k3 htt rfl
        have t3 : free = 0 → (if many - spn (free - 1) (tt - 1) < spn free (tt - 1) then many - spn (free - 1) (tt - 1) else spn free (tt - 1)) = many - 1 := first_none htt
        generalize hts : (if many - spn (free - 1) (tt - 1) < spn free (tt - 1) then many - spn (free - 1) (tt - 1) else spn free (tt - 1)) = t at t1 t2 t3 ⊢
        refine ⟨by omega, by omega, fun i acc => acc = planD (steps at_ i), by simp [planD, steps], fun i d acc hd hp => ?_, fun acc hp => ?_⟩
        · obtain ⟨hi, rfl⟩ := rngD_get hd
          subst hp
          refine ⟨rfl, _, rfl, by omega, by rw [planD_len, steps_len]; omega, ?_⟩
          dsimp only
          rw [steps_succ, planD_append]
          simp [planD]
        · dsimp only at hp
          subst hp
          rw [rngD_len, planD_len, steps_len, ← planD_append]
          have ht : ((t.toNat : Nat) : Int) = t := by omega
          have hst : ∀ x ∈ steps at_ t.toNat, okM x := okM_steps g3 (by omega)
          have hlen2 : (List.map itemD rest.reverse).length ≤ mea rest := by simpa using hml
          refine ⟨by rw [planD_len, List.length_append]; omega, ?_⟩
          by_cases c2 : 1 < many - t
          · rw [if_pos (decide_eq_true c2)]
            obtain ⟨s2, e1, e2⟩ := hrd.keep t.toNat htt (by rw [ht]; exact hts.symm) (by omega) (by
              by_cases z : free = 0
              · have := t3 z; omega
              · omega) (fun _ h => least_uniq k3 htt h)
            rw [ht] at e1 e2
            refine ⟨by omega, by rw [List.length_append, planD_len, planD_len, List.length_append, steps_len]; omega, by omega, by omega, by omega, by omega, by omega, by omega, by omega, by rw [List.length_append, List.length_singleton]; omega,
              (2 * t - 1).toNat + ((2 * (many - t) - 1).toNat + mea rest), by omega, lm ++ (bef ++ steps at_ t.toNat ++ [mvT "keep" (at_ + t)]), ?_,
              ⟨at_ + t, many - t, free - 1, []⟩ :: ⟨at_, t, free, [mvT "drop" (at_ + t), mvT "back" at_]⟩ :: rest, s2, ?_, e2, ?_, ?_, ?_, ?_, ?_⟩
            · exact okM_append hlm (okM_append (okM_append hi2 hst) (by simp only [List.mem_singleton, forall_eq]; exact okM_of (by decide) (by omega) (by omega)))
            · rw [runM_append, hrun]; exact e1
            · refine okI.all ⟨by simp only; omega, by simp, by simp⟩ (okI.all ⟨by simp only; omega, ?_, by simp⟩ hr')
              intro x hx
              simp only [List.mem_cons, List.not_mem_nil, or_false] at hx
              rcases hx with rfl | rfl
              · exact okM_of (by decide) (by omega) (by omega)
              · exact okM_of (by decide) (by omega) (by omega)
            · rw [mea_cons, mea_cons]; simp only; omega
            · simp only [List.length_append, List.length_singleton, steps_len]; omega
            · simp [planD]
            · simp [itemD, planD]
          · rw [if_neg (by simpa using c2)]
            obtain ⟨s2, e1, e2⟩ := hrd.last t.toNat htt (by rw [ht]; exact hts.symm) (by omega) (by omega) (fun _ h => least_uniq k3 htt h)
            rw [ht] at e2
            have e3 : many - t = 1 := by omega
            refine ⟨by omega, by omega, by omega, by omega, by omega, by omega, by rw [List.length_append, List.length_singleton]; omega,
              (2 * t - 1).toNat + ((2 * (many - t) - 1).toNat + mea rest), by omega, lm ++ (bef ++ steps at_ t.toNat), ?_,
              ⟨at_ + t, 1, free - 1, []⟩ :: ⟨at_, t, free, [mvT "back" at_]⟩ :: rest, s2, ?_, e2, ?_, ?_, ?_, ?_, ?_⟩
            · exact okM_append hlm (okM_append hi2 hst)
            · rw [runM_append, hrun]; exact e1
            · refine okI.all ⟨by simp only; omega, by simp, by simp⟩ (okI.all ⟨by simp only; omega, ?_, by simp⟩ hr')
              intro x hx
              simp only [List.mem_cons, List.not_mem_nil, or_false] at hx
              rcases hx with rfl
              exact okM_of (by decide) (by omega) (by omega)
            · rw [mea_cons, mea_cons]; simp only; omega
            · simp only [List.length_append, steps_len]; omega
            · simp [planD]
            · rw [e3]; simp [itemD, planD]
/-! ### picks, fewest_steps -/
abbrev s_picks : Stmt := topS 4
theorem c_picks : FnScope ["things", "many", "ways", "turn"] ["things", "many"] (defScope s_picks) := ⟨rfl, rfl, rfl, by decide +kernel, rfl, by decide +kernel, by decide +kernel⟩
def sp_picks : DSp := fun _ ds Q _ => ∃ n k, ds = [.int n, .int k] ∧ 0 ≤ k ∧ k ≤ n ∧ n ≤ 1000 ∧ Q (.int (bin (n - k).toNat k.toNat))
theorem ok_picks (F : Fun K "picks" "picks" s_picks f fd) (m_range : mg "range" = none) : FnOk P w K mg base (L2.CX P w) 1 f fd ["things", "many"] (liftSp K sp_picks) := by
  have lens : ∀ J ds Q E, sp_picks J ds Q E → ds.length = 2 := fun J ds Q E ⟨_, _, e, _⟩ => by rw [e]; rfl
  refine dfn F c_picks lens (fun p X ds Q E cdv A outer s H EX hX hK hr hE h => ?_)
  subst hX
  refine ⟨_, (dss_cons (ds_set (i := 2) c_picks.nd rfl (.inl rfl) de_int)
    (dss_cons (ds_for (passes_of rfl) rfl (di_rng1 rfl m_range (dv 1)) (dg_nm (i := 3) c_picks.nd rfl (.inl rfl))
    (dss_one (ds_set (i := 2) c_picks.nd rfl (.inl rfl) (de_op op_fdiv rd_I (de_op op_mul rd_I (dv 2) (de_op op_sub rd_I0 (dv 0) (dv 3))) (de_op op_add rd_I0 (dv 3) de_int)))))
    (dss_one (ds_ret (dv 2))))), ?_⟩
  obtain ⟨n, k, rfl, h1, h2, h3, q⟩ := h
  simp only [DL.dTry, DL.Pt.at, forall_const, DL.dXat, DL.dEmptied, DL.dSeq, DL.dSet, DL.dSetO, DL.dC, DL.dVar, DL.dFor, DL.dWhile, DL.dIfS, DL.dRet, DL.dRetN, DL.dDrop, DL.dNext, DL.dBrk, DL.dCnt, DL.dAppend, DL.dExtend, DL.dPop, DL.dAsg, DL.dPar, DL.dIxNm, DL.dAugIx, DL.dAug, DL.dSetIx, DL.dRaise, DL.dOp, DL.dOpL, DL.dTest, DL.dNot, DL.dAnd, DL.dOr, DL.dAndV, DL.dOrV, DL.dNotV, DL.dIf, DL.dLen, DL.rLen, DL.dTupOf, DL.rTup, DL.dListOf, DL.dIntOf, DL.rIntOf, DL.dAbs, DL.rAbs, DL.dAll, DL.rAllD, DL.dAny, DL.rAnyD, DL.dSum, DL.rSumD, DL.dInst, DL.dCall, DL.dCallK, DL.dCallX, DL.dCallKX, DL.dCons, DL.dConsO, DL.dNil, DL.dStar, DL.dTup, DL.dLst, DL.dL, DL.dSlT, DL.dSlL, DL.dNo, DL.dPart, DL.dLc, DL.dYes, DL.diSeq, DL.diRng1, DL.diRng2, DL.diZip, DL.bP, DL.bPs, DL.oI, DL.oIc, DL.oS, DL.oIx, DL.oIn, DL.oIsN, DL.oNotN, DL.oIsB, DL.oCatT, DL.oCatL, DL.oRepL, DL.oRep01, DL.oRepT, DL.dSumT, DL.rSumTD, DL.dMaxT, DL.rMaxTD, DL.dSortT, DL.dFrz, DL.gOf, DL.gNext, DL.gSeq, DL.gIf, DL.gWhile, DL.gFor, DL.gPut, DL.dNotInX, DL.dStart3, DL.dStart2, DL.dRevT, DL.dRevL, DL.dNeg, DL.dChain, DL.startD, DL.setsD, DL.wipeD, List.map_cons, List.map_nil, List.length_cons, List.length_nil, Nat.reduceAdd, Nat.reduceSub, List.replicate_succ, List.replicate_zero, List.cons_append, List.nil_append, List.append_nil, List.set_cons_succ, List.set_cons_zero, List.getElem?_cons_succ, List.getElem?_cons_zero, Option.some.injEq, D.int.injEq, D.bl.injEq, D.str.injEq, D.tup.injEq, D.lst.injEq, D.own.injEq, exists_eq_left', exists_eq_left, true_and, and_true, reduceCtorEq, false_and, and_false, exists_const, List.cons.injEq, exists_eq_right, exists_eq_right', and_assoc, exists_and_left, D.opq.injEq, V.ref.injEq, DL.items_tup, DL.items_lst, DL.items_own, DL.lstOf_lst, DL.lstOf_own, DL.isOwn_non, DL.frz_non, DL.isOwn_bl, DL.frz_bl, DL.isOwn_int, DL.frz_int, DL.isOwn_str, DL.frz_str, DL.isOwn_tup, DL.frz_tup, DL.isOwn_lst, DL.frz_lst, DL.isOwn_opq, DL.frz_opq, DL.isOwn_own, DL.frz_own, DL.isOwn_frz, if_true, if_false, Bool.false_eq_true, Bool.not_true, Bool.not_false, reduceIte]
  obtain ⟨n, rfl⟩ : ∃ m : Nat, n = m := ⟨n.toNat, by omega⟩
  obtain ⟨k, rfl⟩ : ∃ m : Nat, k = m := ⟨k.toNat, by omega⟩
  refine ⟨by omega, by omega, fun i δ => i ≤ k → ∃ v, δ = [some (.int n), some (.int k), some (.int (bin (n - i) i)), v], fun _ => ⟨_, by rw [bin_z]; rfl⟩, ?_, ?_⟩
  · rintro i d δ' hd hI
    obtain ⟨hi, rfl⟩ := rngD_get hd
    obtain ⟨v, rfl⟩ := hI (by omega)
    simp only [DL.dTry, DL.Pt.at, forall_const, DL.dXat, DL.dEmptied, DL.dSeq, DL.dSet, DL.dSetO, DL.dC, DL.dVar, DL.dFor, DL.dWhile, DL.dIfS, DL.dRet, DL.dRetN, DL.dDrop, DL.dNext, DL.dBrk, DL.dCnt, DL.dAppend, DL.dExtend, DL.dPop, DL.dAsg, DL.dPar, DL.dIxNm, DL.dAugIx, DL.dAug, DL.dSetIx, DL.dRaise, DL.dOp, DL.dOpL, DL.dTest, DL.dNot, DL.dAnd, DL.dOr, DL.dAndV, DL.dOrV, DL.dNotV, DL.dIf, DL.dLen, DL.rLen, DL.dTupOf, DL.rTup, DL.dListOf, DL.dIntOf, DL.rIntOf, DL.dAbs, DL.rAbs, DL.dAll, DL.rAllD, DL.dAny, DL.rAnyD, DL.dSum, DL.rSumD, DL.dInst, DL.dCall, DL.dCallK, DL.dCallX, DL.dCallKX, DL.dCons, DL.dConsO, DL.dNil, DL.dStar, DL.dTup, DL.dLst, DL.dL, DL.dSlT, DL.dSlL, DL.dNo, DL.dPart, DL.dLc, DL.dYes, DL.diSeq, DL.diRng1, DL.diRng2, DL.diZip, DL.bP, DL.bPs, DL.oI, DL.oIc, DL.oS, DL.oIx, DL.oIn, DL.oIsN, DL.oNotN, DL.oIsB, DL.oCatT, DL.oCatL, DL.oRepL, DL.oRep01, DL.oRepT, DL.dSumT, DL.rSumTD, DL.dMaxT, DL.rMaxTD, DL.dSortT, DL.dFrz, DL.gOf, DL.gNext, DL.gSeq, DL.gIf, DL.gWhile, DL.gFor, DL.gPut, DL.dNotInX, DL.dStart3, DL.dStart2, DL.dRevT, DL.dRevL, DL.dNeg, DL.dChain, DL.startD, DL.setsD, DL.wipeD, List.map_cons, List.map_nil, List.length_cons, List.length_nil, Nat.reduceAdd, Nat.reduceSub, List.replicate_succ, List.replicate_zero, List.cons_append, List.nil_append, List.append_nil, List.set_cons_succ, List.set_cons_zero, List.getElem?_cons_succ, List.getElem?_cons_zero, Option.some.injEq, D.int.injEq, D.bl.injEq, D.str.injEq, D.tup.injEq, D.lst.injEq, D.own.injEq, exists_eq_left', exists_eq_left, true_and, and_true, reduceCtorEq, false_and, and_false, exists_const, List.cons.injEq, exists_eq_right, exists_eq_right', and_assoc, exists_and_left, D.opq.injEq, V.ref.injEq, DL.items_tup, DL.items_lst, DL.items_own, DL.lstOf_lst, DL.lstOf_own, DL.isOwn_non, DL.frz_non, DL.isOwn_bl, DL.frz_bl, DL.isOwn_int, DL.frz_int, DL.isOwn_str, DL.frz_str, DL.isOwn_tup, DL.frz_tup, DL.isOwn_lst, DL.frz_lst, DL.isOwn_opq, DL.frz_opq, DL.isOwn_own, DL.frz_own, DL.isOwn_frz, if_true, if_false, Bool.false_eq_true, Bool.not_true, Bool.not_false, reduceIte]
    have e : (n : Int) - (0 + (i : Int)) = ((n - i : Nat) : Int) := by omega
    have e2 : (0 + (i : Int)) + 1 = ((i + 1 : Nat) : Int) := by omega
    refine ⟨.inr ⟨by omega, by omega⟩, ⟨by omega, by omega⟩, fun _ => ?_⟩
    rw [e, e2, ← Int.natCast_mul, ← Int.natCast_ediv, pick_step n i (by omega), show n - i - 1 = n - (i + 1) by omega]
  · intro δ' hI
    rw [rngD_len] at hI
    obtain ⟨v, rfl⟩ := hI (by omega)
    simp only [DL.dTry, DL.Pt.at, forall_const, DL.dXat, DL.dEmptied, DL.dSeq, DL.dSet, DL.dSetO, DL.dC, DL.dVar, DL.dFor, DL.dWhile, DL.dIfS, DL.dRet, DL.dRetN, DL.dDrop, DL.dNext, DL.dBrk, DL.dCnt, DL.dAppend, DL.dExtend, DL.dPop, DL.dAsg, DL.dPar, DL.dIxNm, DL.dAugIx, DL.dAug, DL.dSetIx, DL.dRaise, DL.dOp, DL.dOpL, DL.dTest, DL.dNot, DL.dAnd, DL.dOr, DL.dAndV, DL.dOrV, DL.dNotV, DL.dIf, DL.dLen, DL.rLen, DL.dTupOf, DL.rTup, DL.dListOf, DL.dIntOf, DL.rIntOf, DL.dAbs, DL.rAbs, DL.dAll, DL.rAllD, DL.dAny, DL.rAnyD, DL.dSum, DL.rSumD, DL.dInst, DL.dCall, DL.dCallK, DL.dCallX, DL.dCallKX, DL.dCons, DL.dConsO, DL.dNil, DL.dStar, DL.dTup, DL.dLst, DL.dL, DL.dSlT, DL.dSlL, DL.dNo, DL.dPart, DL.dLc, DL.dYes, DL.diSeq, DL.diRng1, DL.diRng2, DL.diZip, DL.bP, DL.bPs, DL.oI, DL.oIc, DL.oS, DL.oIx, DL.oIn, DL.oIsN, DL.oNotN, DL.oIsB, DL.oCatT, DL.oCatL, DL.oRepL, DL.oRep01, DL.oRepT, DL.dSumT, DL.rSumTD, DL.dMaxT, DL.rMaxTD, DL.dSortT, DL.dFrz, DL.gOf, DL.gNext, DL.gSeq, DL.gIf, DL.gWhile, DL.gFor, DL.gPut, DL.dNotInX, DL.dStart3, DL.dStart2, DL.dRevT, DL.dRevL, DL.dNeg, DL.dChain, DL.startD, DL.setsD, DL.wipeD, List.map_cons, List.map_nil, List.length_cons, List.length_nil, Nat.reduceAdd, Nat.reduceSub, List.replicate_succ, List.replicate_zero, List.cons_append, List.nil_append, List.append_nil, List.set_cons_succ, List.set_cons_zero, List.getElem?_cons_succ, List.getElem?_cons_zero, Option.some.injEq, D.int.injEq, D.bl.injEq, D.str.injEq, D.tup.injEq, D.lst.injEq, D.own.injEq, exists_eq_left', exists_eq_left, true_and, and_true, reduceCtorEq, false_and, and_false, exists_const, List.cons.injEq, exists_eq_right, exists_eq_right', and_assoc, exists_and_left, D.opq.injEq, V.ref.injEq, DL.items_tup, DL.items_lst, DL.items_own, DL.lstOf_lst, DL.lstOf_own, DL.isOwn_non, DL.frz_non, DL.isOwn_bl, DL.frz_bl, DL.isOwn_int, DL.frz_int, DL.isOwn_str, DL.frz_str, DL.isOwn_tup, DL.frz_tup, DL.isOwn_lst, DL.frz_lst, DL.isOwn_opq, DL.frz_opq, DL.isOwn_own, DL.frz_own, DL.isOwn_frz, if_true, if_false, Bool.false_eq_true, Bool.not_true, Bool.not_false, reduceIte]
    have e3 : ((n : Int) - (k : Int)).toNat = n - k := by omega
    rw [e3] at q
    simpa using q
abbrev s_fewest_steps : Stmt := topS 5
theorem c_fewest_steps : FnScope ["length", "places", "times"] ["length", "places"] (defScope s_fewest_steps) := ⟨rfl, rfl, rfl, by decide +kernel, rfl, by decide +kernel, by decide +kernel⟩
def sp_fewest_steps : DSp := fun _ ds Q _ => ∃ l p, ds = [.int l, .int p] ∧ 0 ≤ l ∧ l ≤ 300 ∧ 0 ≤ p ∧ p ≤ 100 ∧ ∀ t, least (l + 1) p t → Q (.int (t * (l + 1) - cov p t))
theorem ok_fewest_steps (F : Fun K "fewest_steps" "fewest_steps" s_fewest_steps f fd) (C_fewest_times : Callee P w K mg base 3 "fewest_times" ["length", "places"] sp_fewest_times) (C_picks : Callee P w K mg base 1 "picks" ["things", "many"] sp_picks) : FnOk P w K mg base (L2.CX P w) 4 f fd ["length", "places"] (liftSp K sp_fewest_steps) := by
  have lens : ∀ J ds Q E, sp_fewest_steps J ds Q E → ds.length = 2 := fun J ds Q E ⟨_, _, e, _⟩ => by rw [e]; rfl
  refine dfn F c_fewest_steps lens (fun p X ds Q E cdv A outer s H EX hX hK hr hE h => ?_)
  subst hX
  refine ⟨_, (dss_cons (ds_set (i := 2) c_fewest_steps.nd rfl (.inl rfl) (de_callC hK C_fewest_times hr (da_cons (dv 0) (da_cons (dv 1) da_nil))))
    (dss_cons (ds_if (dt_cmp op_eq rd_eqI (dv 2) de_int)
    (dss_one (ds_ret de_int))
    dss_nil)
    (dss_one (ds_ret (de_op op_sub rd_I0 (de_op op_mul rd_I (dv 2) (de_op op_add rd_I0 (dv 0) de_int)) (de_callC hK C_picks hr (da_cons (de_op op_add rd_I0 (de_op op_add rd_I0 (dv 1) (dv 2)) de_int) (da_cons (de_op op_sub rd_I0 (dv 2) de_int) da_nil)))))))), ?_⟩
  obtain ⟨l, pl, rfl, h1, h2, h3, h4, q⟩ := h
  simp only [DL.dTry, DL.Pt.at, forall_const, DL.dXat, DL.dEmptied, DL.dSeq, DL.dSet, DL.dSetO, DL.dC, DL.dVar, DL.dFor, DL.dWhile, DL.dIfS, DL.dRet, DL.dRetN, DL.dDrop, DL.dNext, DL.dBrk, DL.dCnt, DL.dAppend, DL.dExtend, DL.dPop, DL.dAsg, DL.dPar, DL.dIxNm, DL.dAugIx, DL.dAug, DL.dSetIx, DL.dRaise, DL.dOp, DL.dOpL, DL.dTest, DL.dNot, DL.dAnd, DL.dOr, DL.dAndV, DL.dOrV, DL.dNotV, DL.dIf, DL.dLen, DL.rLen, DL.dTupOf, DL.rTup, DL.dListOf, DL.dIntOf, DL.rIntOf, DL.dAbs, DL.rAbs, DL.dAll, DL.rAllD, DL.dAny, DL.rAnyD, DL.dSum, DL.rSumD, DL.dInst, DL.dCall, DL.dCallK, DL.dCallX, DL.dCallKX, DL.dCons, DL.dConsO, DL.dNil, DL.dStar, DL.dTup, DL.dLst, DL.dL, DL.dSlT, DL.dSlL, DL.dNo, DL.dPart, DL.dLc, DL.dYes, DL.diSeq, DL.diRng1, DL.diRng2, DL.diZip, DL.bP, DL.bPs, DL.oI, DL.oIc, DL.oS, DL.oIx, DL.oIn, DL.oIsN, DL.oNotN, DL.oIsB, DL.oCatT, DL.oCatL, DL.oRepL, DL.oRep01, DL.oRepT, DL.dSumT, DL.rSumTD, DL.dMaxT, DL.rMaxTD, DL.dSortT, DL.dFrz, DL.gOf, DL.gNext, DL.gSeq, DL.gIf, DL.gWhile, DL.gFor, DL.gPut, DL.dNotInX, DL.dStart3, DL.dStart2, DL.dRevT, DL.dRevL, DL.dNeg, DL.dChain, DL.startD, DL.setsD, DL.wipeD, List.map_cons, List.map_nil, List.length_cons, List.length_nil, Nat.reduceAdd, Nat.reduceSub, List.replicate_succ, List.replicate_zero, List.cons_append, List.nil_append, List.append_nil, List.set_cons_succ, List.set_cons_zero, List.getElem?_cons_succ, List.getElem?_cons_zero, Option.some.injEq, D.int.injEq, D.bl.injEq, D.str.injEq, D.tup.injEq, D.lst.injEq, D.own.injEq, exists_eq_left', exists_eq_left, true_and, and_true, reduceCtorEq, false_and, and_false, exists_const, List.cons.injEq, exists_eq_right, exists_eq_right', and_assoc, exists_and_left, D.opq.injEq, V.ref.injEq, DL.items_tup, DL.items_lst, DL.items_own, DL.lstOf_lst, DL.lstOf_own, DL.isOwn_non, DL.frz_non, DL.isOwn_bl, DL.frz_bl, DL.isOwn_int, DL.frz_int, DL.isOwn_str, DL.frz_str, DL.isOwn_tup, DL.frz_tup, DL.isOwn_lst, DL.frz_lst, DL.isOwn_opq, DL.frz_opq, DL.isOwn_own, DL.frz_own, DL.isOwn_frz, if_true, if_false, Bool.false_eq_true, Bool.not_true, Bool.not_false, reduceIte, sp_fewest_times, sp_picks]
  refine ⟨h3, by omega, by omega, fun t ht _ => ?_⟩
  have hq := q t ht
  have htl : t ≤ l := by
    obtain ⟨t2, a1, a2⟩ := least_ex (m := l + 1) h3
    have := least_uniq h3 ht a1
    have := a2 (by omega)
    omega
  by_cases c : t = 0
  · rw [if_pos (decide_eq_true c)]
    subst c
    simpa [cov] using hq
  · rw [if_neg (by simpa using c)]
    have t0 := ht.1
    refine ⟨.inl ⟨by omega, by omega⟩, by omega, by omega, by omega, ?_⟩
    have e : cov pl t = ((bin (pl + t + 1 - (t - 1)).toNat (t - 1).toNat : Nat) : Int) := by
      unfold cov spn
      rw [if_neg (by omega), show (pl + t + 1 - (t - 1)).toNat = (pl + 1 + 1).toNat by omega]
    rw [e] at hq
    exact hq
end
end K97
set_option Elab.async false
set_option linter.all false
set_option maxRecDepth 100000
set_option maxHeartbeats 1000000
namespace K97
open PySem PySem.Spec PyProof.Rows L2 DL
section
variable {P : Program} {w : World} {K : PySem.W.Frag} {mg : Str → Option Value} {base : Heap} {f : Addr} {fd : FuncData}
/-! ### _law_any -/
abbrev s__law_any : Stmt := topS 23
theorem c__law_any : FnScope ["deal", "bound", "rest"] ["deal", "bound"] (defScope s__law_any) := ⟨rfl, rfl, rfl, by decide +kernel, rfl, by decide +kernel, by decide +kernel⟩
theorem ok__law_any {f : Addr} {fd : FuncData} (F : Fun K "_law_any" "_law_any" s__law_any f fd) (m_int : mg "int" = none) : FnOk P w K mg base (L2.CX P w) 1 f fd ["deal", "bound"] (liftSp K sp_any) := by
  refine F.okX c__law_any (fun vs H Q E ⟨J, Fr, ds, QD, ED, h1, h2, ⟨a, c, k, h3, _⟩, _⟩ => by rw [RepL.length h2, h3]; rfl) (fun cdv A outer s H vs Q E hr h => ?_)
  have hu := hr.units
  refine ⟨_, pss_cons (ps_while (passes_of rfl)
      (PW.pt (pw_and (pt_cmpR (op_neD (by exact hu)) (pe_ix ix_seq (pv 0) pe_int (by intro _ _; rfl)) (pe_lst pa_nil) (nomark _)) (pw_and1 (pt_cmpR op_eq (pe_ix ix_seq (pe_ix ix_seq (pv 0) pe_int (by intro _ _; rfl)) (pe_un un_neg pe_int) (by intro _ _; rfl)) pe_int (nomark _)))))
      (pss_one (ps_expr (pe_bm0 PySem.F.plainAttrs_list PySem.F.slot_list_pop PySem.F.type_list_pop mt_pop (pe_ix ix_seq (pv 0) pe_int (by intro _ _; rfl))))))
    (pss_cons (ps_if (pt_cmpR (op_neD (by exact hu)) (pe_ix ix_seq (pv 0) pe_int (by intro _ _; rfl)) (pe_lst pa_nil) (nomark _))
      (pss_cons (ps_set (i := 2) c__law_any.nd rfl (.inl rfl) (pe_callTy call_int1 rfl m_int (by decide +kernel) (pa_cons (pe_bm0 PySem.F.plainAttrs_list PySem.F.slot_list_pop PySem.F.type_list_pop mt_pop (pe_ix ix_seq (pv 0) pe_int (by intro _ _; rfl))) pa_nil)))
      (pss_cons (ps_expr (pe_bm PySem.F.plainAttrs_list PySem.F.slot_list_append PySem.F.type_list_append mt_append (pe_ix ix_seq (pv 0) pe_int (by intro _ _; rfl)) (pa_cons (pe_op op_fdiv (pv 2) (pv 1)) pa_nil)))
      (pss_one (ps_ret (pe_op op_mod (pv 2) (pv 1)))))) pss_nil)
    (pss_cons (ps_asg (pe_op op_mod (pe_callTy call_int1 rfl m_int (by decide +kernel) (pa_cons (pe_op op_add (pe_op op_mul (pe_ix ix_seq (pv 0) pe_int (by intro _ _; rfl)) pe_int) pe_int) pa_nil)) pe_int) (pg_sub (pv 0) pe_int set_list))
    (pss_one (ps_ret (pe_op op_mod (pe_callTy call_int1 rfl m_int (by decide +kernel) (pa_cons (pe_op op_fdiv (pe_ix ix_seq (pv 0) pe_int (by intro _ _; rfl)) pe_int) pa_nil)) (pv 1)))))), ?_⟩
  obtain ⟨J, Fr, ds, QD, ED, h1, h2, ⟨a, c, k, rfl, rfl, hk0, hk1, hq⟩, h4, _⟩ := h
  simp only [RepL, Rep] at h2
  obtain ⟨_, _, rfl, rfl, _, _, rfl, rfl, rfl⟩ := h2
  have fin : ∀ H' r, 0 ≤ r → r < k → (∃ cs bl, InDeal a c cs bl H') → Kept a c H H' → Q (.int r) H' := fun H' r hr0 hr1 hin hk => by
    refine h4 _ H' Fr (.int r) ⟨⟨fun b o e => ?_, hin, h1.nf⟩, Same.refl _, fun b o e n => hk b o e (fun z => n (.inl z)) (fun z => n (.inr z)), fun _ _ _ e => e⟩ (by simp only [Rep]) (hq r hr0 hr1)
    refine hk b o (h1.fh b o e) (fun z => ?_) (fun z => ?_)
    · have := h1.nf b (.inl z); rw [e] at this; cases this
    · have := h1.nf b (.inr z); rw [e] at this; cases this
  obtain ⟨cs0, bl0, in0⟩ := h1.inv
  refine seq_while (fun m σ' H' => σ' = [some (.ref a), some (.int k), none] ∧ ∃ cs bl, cs.length = m ∧ InDeal a c cs bl H' ∧ Kept a c H H')
    (fun σ' H' => σ' = [some (.ref a), some (.int k), none] ∧ ∃ cs bl, InDeal a c cs bl H' ∧ Kept a c H H') ⟨_, rfl, cs0, bl0, rfl, in0, fun b o e _ _ => e⟩ ?_ ?_
  · rintro m _ H1 nx hnx ⟨rfl, cs, bl, hm, hin, hkp⟩
    refine full_ rfl hin fun p hp => ?_
    have hin1 := hin.upd (o := .lst []) hp
    have hkp1 : Kept a c H (L2.upd H1 p (.lst [])) := hkp.upd (.inr (.inr hp))
    rcases List.eq_nil_or_concat cs with rfl | ⟨es, n, rfl⟩
    · exact if_false_of (by rfl) (if_false_of rfl (hnx _ _ ⟨rfl, _, _, hin1, hkp1⟩))
    · have he : (!(es ++ [n]).isEmpty) = true := by simp
      rw [List.concat_eq_append] at hin hin1 hm ⊢
      refine if_true_of he ?_
      refine deal0_ rfl hin1 ⟨1, rfl, .inl ⟨c, _, -1, .int n, rfl, rfl, SqL.of hin1.2.2.1, atI_last es n, rfl, _, rfl, ?_⟩⟩
      by_cases hz : n = 0
      · refine if_true_of (decide_eq_true (by rw [hz])) ⟨_, fun _ _ h => h, deal0_ rfl hin1 ⟨.inl ⟨rfl, _, SqL.of hin1.2.2.1⟩, c, _, .int n, rfl, rfl, hin1.2.2.1, by simp, ?_⟩⟩
        have hle : es.length ≤ 48 := by have := hin1.2.2.2.2.2.2; simp at this; omega
        have hin2 := InDeal.cells hin1 (es := es) (fun n hn => hin1.2.2.2.1 n (by simp [hn])) hle
        have e : ((es ++ [n]).map V.int).dropLast = es.map V.int := by simp
        rw [e]
        exact ⟨es.length, by rw [← hm]; simp, rfl, es, bl, rfl, hin2, hkp1.upd (.inr (.inl rfl))⟩
      · exact if_false_of (decide_eq_false fun z => hz (by injection z)) (hnx _ _ ⟨rfl, _, _, hin1, hkp1⟩)
  · rintro _ H2 ⟨rfl, cs, bl, hin, hkp⟩
    refine full_ rfl hin fun p hp => ?_
    have hin1 := hin.upd (o := .lst []) hp
    have hkp1 : Kept a c H (L2.upd H2 p (.lst [])) := hkp.upd (.inr (.inr hp))
    rcases List.eq_nil_or_concat cs with rfl | ⟨es, n, rfl⟩
    · refine if_false_of (by rfl) ?_
      refine deal1_ rfl hin1 ?_
      have ⟨q0, q1, q2, q3, q4, q5, q6⟩ := hin1
      refine ⟨bl, 40693, rfl, rfl, .inl ⟨by omega, by omega⟩, _, _, rfl, rfl, .inl ⟨_, rfl, _, _, rfl, rfl, (by show (0 : Int) < 2147483647; decide), ?_⟩⟩
      have b1 : 0 ≤ (bl * 40693 + 71) % 2147483647 := Int.emod_nonneg _ (by decide)
      have b2 : (bl * 40693 + 71) % 2147483647 < 2147483647 := Int.emod_lt_of_pos _ (by decide)
      have hin2 := InDeal.blend hin1 b1 b2
      refine ⟨_, rfl, a, _, 1, 1, rfl, rfl, q1, rfl, ?_⟩
      refine deal1_ rfl hin2 ⟨_, _, rfl, rfl, ⟨by decide, by decide⟩, .inl ⟨_, rfl, _, rfl, _, _, rfl, rfl, hk0, ?_⟩⟩
      exact fin _ _ (Int.emod_nonneg _ (by omega)) (Int.emod_lt_of_pos _ hk0) ⟨_, _, hin2⟩ (hkp1.upd (.inl rfl))
    · rw [List.concat_eq_append] at hin hin1 ⊢
      refine if_true_of (by simp) ?_
      have hn0 : 0 ≤ n := hin1.2.2.2.1 n (by simp)
      refine deal0_ rfl hin1 ⟨.inl ⟨rfl, _, SqL.of hin1.2.2.1⟩, c, _, .int n, rfl, rfl, hin1.2.2.1, by simp, .inl ⟨_, rfl, ?_⟩⟩
      have hle : es.length ≤ 48 := by have := hin1.2.2.2.2.2.2; simp at this; omega
      have e : ((es ++ [n]).map V.int).dropLast = es.map V.int := by simp
      rw [e]
      have hin2 := InDeal.cells hin1 (es := es) (fun n hn => hin1.2.2.2.1 n (by simp [hn])) hle
      refine deal0_ rfl hin2 ⟨.inl ⟨rfl, _, SqL.of hin2.2.2.1⟩, _, rfl, _, rfl, _, _, rfl, rfl, ⟨hk0, hk1⟩, c, _, _, rfl, rfl, hin2.2.2.1, ?_, ?_⟩
      · rw [List.length_map, sizeLine_eq]; omega
      have e2 : es.map V.int ++ [V.int (n / k)] = (es ++ [n / k]).map V.int := by simp
      rw [e2]
      have hin3 := InDeal.cells hin2 (es := es ++ [n / k]) (fun m hm => by
        rcases List.mem_append.mp hm with h | h
        · exact hin1.2.2.2.1 m (by simp [h])
        · have : m = n / k := by simpa using h
          rw [this]; exact Int.ediv_nonneg hn0 (by omega)) (by have := hin1.2.2.2.2.2.2; simp at this ⊢; omega)
      refine ⟨_, rfl, _, rfl, _, _, rfl, rfl, hk0, ?_⟩
      exact fin _ _ (Int.emod_nonneg _ (by omega)) (Int.emod_lt_of_pos _ hk0) ⟨_, _, hin3⟩ ((hkp1.upd (.inr (.inl rfl))).upd (.inr (.inl rfl)))

/-! ### _law_of -/
abbrev s__law_of : Stmt := topS 24
theorem c__law_of : FnScope ["deal", "some"] ["deal", "some"] (defScope s__law_of) := ⟨rfl, rfl, rfl, by decide +kernel, rfl, by decide +kernel, by decide +kernel⟩
def sp__law_of : DSp := fun J ds Q _ => ∃ a c xs, ds = [.opq (.ref a), .lst xs] ∧ J = dealReg a c ∧ xs ≠ [] ∧ xs.length < 1000 ∧ ∀ z ∈ xs, Q z.frz
theorem ok__law_of (F : Fun K "_law_of" "_law_of" s__law_of f fd) (C__law_any : Callee P w K mg base 1 "_law_any" ["deal", "bound"] sp_any) (m_len : mg "len" = none) : FnOk P w K mg base (L2.CX P w) 2 f fd ["deal", "some"] (liftSp K sp__law_of) := by
  have lens : ∀ J ds Q E, sp__law_of J ds Q E → ds.length = 2 := fun J ds Q E ⟨_, _, _, e, _⟩ => by rw [e]; rfl
  refine dfn F c__law_of lens (fun p X ds Q E cdv A outer s H EX hX hK hr hE h => ?_)
  subst hX
  refine ⟨_, (dss_one (ds_ret (de_ix ix_seq (rd_ixK hK) (dv 1) (de_callC hK C__law_any hr (da_cons (dv 0) (da_cons (de_len hK rfl m_len (dv 1)) da_nil))) (by intro _ _; rfl)))), ?_⟩
  obtain ⟨a, c, xs, rfl, hJ, h1, h2, q⟩ := h
  simp only [DL.dTry, DL.Pt.at, forall_const, DL.dXat, DL.dEmptied, DL.dSeq, DL.dSet, DL.dSetO, DL.dC, DL.dVar, DL.dFor, DL.dWhile, DL.dIfS, DL.dRet, DL.dRetN, DL.dDrop, DL.dNext, DL.dBrk, DL.dCnt, DL.dAppend, DL.dExtend, DL.dPop, DL.dAsg, DL.dPar, DL.dIxNm, DL.dAugIx, DL.dAug, DL.dSetIx, DL.dRaise, DL.dOp, DL.dOpL, DL.dTest, DL.dNot, DL.dAnd, DL.dOr, DL.dAndV, DL.dOrV, DL.dNotV, DL.dIf, DL.dLen, DL.rLen, DL.dTupOf, DL.rTup, DL.dListOf, DL.dIntOf, DL.rIntOf, DL.dAbs, DL.rAbs, DL.dAll, DL.rAllD, DL.dAny, DL.rAnyD, DL.dSum, DL.rSumD, DL.dInst, DL.dCall, DL.dCallK, DL.dCallX, DL.dCallKX, DL.dCons, DL.dConsO, DL.dNil, DL.dStar, DL.dTup, DL.dLst, DL.dL, DL.dSlT, DL.dSlL, DL.dNo, DL.dPart, DL.dLc, DL.dYes, DL.diSeq, DL.diRng1, DL.diRng2, DL.diZip, DL.bP, DL.bPs, DL.oI, DL.oIc, DL.oS, DL.oIx, DL.oIn, DL.oIsN, DL.oNotN, DL.oIsB, DL.oCatT, DL.oCatL, DL.oRepL, DL.oRep01, DL.oRepT, DL.dSumT, DL.rSumTD, DL.dMaxT, DL.rMaxTD, DL.dSortT, DL.dFrz, DL.gOf, DL.gNext, DL.gSeq, DL.gIf, DL.gWhile, DL.gFor, DL.gPut, DL.dNotInX, DL.dStart3, DL.dStart2, DL.dRevT, DL.dRevL, DL.dNeg, DL.dChain, DL.startD, DL.setsD, DL.wipeD, List.map_cons, List.map_nil, List.length_cons, List.length_nil, Nat.reduceAdd, Nat.reduceSub, List.replicate_succ, List.replicate_zero, List.cons_append, List.nil_append, List.append_nil, List.set_cons_succ, List.set_cons_zero, List.getElem?_cons_succ, List.getElem?_cons_zero, Option.some.injEq, D.int.injEq, D.bl.injEq, D.str.injEq, D.tup.injEq, D.lst.injEq, D.own.injEq, exists_eq_left', exists_eq_left, true_and, and_true, reduceCtorEq, false_and, and_false, exists_const, List.cons.injEq, exists_eq_right, exists_eq_right', and_assoc, exists_and_left, D.opq.injEq, V.ref.injEq, DL.items_tup, DL.items_lst, DL.items_own, DL.lstOf_lst, DL.lstOf_own, DL.isOwn_non, DL.frz_non, DL.isOwn_bl, DL.frz_bl, DL.isOwn_int, DL.frz_int, DL.isOwn_str, DL.frz_str, DL.isOwn_tup, DL.frz_tup, DL.isOwn_lst, DL.frz_lst, DL.isOwn_opq, DL.frz_opq, DL.isOwn_own, DL.frz_own, DL.isOwn_frz, if_true, if_false, Bool.false_eq_true, Bool.not_true, Bool.not_false, reduceIte, sp_any]
  have hl : 0 < xs.length := List.length_pos_iff.mpr h1
  refine ⟨c, hJ, by omega, by omega, fun r r0 r1 => ?_⟩
  have e := atI_int r0 r1
  have hlt : r.toNat < xs.length := by omega
  rw [List.getElem?_eq_getElem hlt] at e
  have hz := q _ (List.getElem_mem hlt)
  exact ⟨_, e, hz⟩
/-! ### _law_draw -/
abbrev s__law_draw : Stmt := topS 22
theorem c__law_draw : FnScope ["script", "salt", "cells", "blend", "cell"] ["script", "salt"] (defScope s__law_draw) := ⟨rfl, rfl, rfl, by decide +kernel, rfl, by decide +kernel, by decide +kernel⟩
theorem ok__law_draw (F : Fun K "_law_draw" "_law_draw" s__law_draw f fd) (m_int : mg "int" = none) (m_abs : mg "abs" = none) : FnOk P w K mg base (L2.CX P w) 1 f fd ["script", "salt"] (spDraw K) := by
  refine F.okX c__law_draw (fun vs H Q E ⟨_, _, _, e, _⟩ => by rw [e]; rfl) (fun cdv A outer s H vs Q E hr h => ?_)
  obtain ⟨sa, ns, salt, rfl, h1, h2, h3, q⟩ := h
  have hK : (Pt.mk K emptyReg H noHp (ok_empty H) noHp).K = K := rfl
  refine ⟨_, PDSs.pss (X := cxOf (L2.CX P w) P w K mg base ["script", "salt", "cells", "blend", "cell"] "_law_draw" (defScope s__law_draw) f cdv A outer s H E) (p := Pt.mk K emptyReg H noHp (ok_empty H) noHp) (dss_cons (ds_setLc (i := 2) [("cell", 4)] rfl c__law_draw.nd rfl rfl rfl (di_seq hK (de_of_dl (dl_slHi hK (dv 0) do_none (do_some de_int)))) (by show BlkOk ["script", "salt", "cells", "blend", "cell"] (defScope s__law_draw) _ _; exact ⟨rfl, by decide +kernel, by decide +kernel, by decide +kernel, by decide +kernel⟩) (fun _ _ _ _ _ => (dg_nm (i := 4) c__law_draw.nd rfl (.inl rfl))) (fun _ _ _ _ _ => dts_nil) (fun _ _ _ _ _ => (de_abs rfl m_abs (de_intOf rfl m_int (dv 4)))))
    (dss_cons (ds_set (i := 3) c__law_draw.nd rfl (.inl rfl) (de_op op_add rd_I0 de_int (de_op op_mul rd_I de_int (dv 1))))
    (dss_cons (ds_for (passes_of rfl) rfl (di_seq hK (dv 2)) (dg_nm (i := 4) c__law_draw.nd rfl (.inl rfl))
    (dss_one (ds_set (i := 3) c__law_draw.nd rfl (.inl rfl) (de_op op_mod rd_I (de_intOf rfl m_int (de_op op_add rd_I0 (de_op op_add rd_I0 (de_op op_mul rd_I (dv 3) de_int) (de_op op_mod rd_I (dv 4) de_int)) de_int)) de_int))))
    (dss_one (ds_ret (de_of_dl (dl_lst (da_cons (de_of_dl (dl_revL (de_of_dl (dl_lc [("cell", 4)] rfl c__law_draw.nd (di_seq hK (dv 2)) (by show BlkOk ["script", "salt", "cells", "blend", "cell"] (defScope s__law_draw) _ _; exact ⟨rfl, by decide +kernel, by decide +kernel, by decide +kernel, by decide +kernel⟩) (fun _ _ _ _ _ => (dg_nm (i := 4) c__law_draw.nd rfl (.inl rfl))) (fun _ _ _ _ _ => (dts_one (dt_cmp op_ge rd_B0 (dv 4) (de_op op_pow rd_I de_int de_int)))) (fun _ _ _ _ _ => (dv 4)))))) (da_cons (dv 3) da_nil))))))))), ?_⟩
  refine ⟨noHp, startD ["script", "salt", "cells", "blend", "cell"] [.opq (.ref sa), .int salt], { nx := fun _ => False, rt := fun d => ∃ cs bl, d = .lst [.lst (nlst cs), .int bl] ∧ (∀ n ∈ cs, 0 ≤ n) ∧ 0 ≤ bl ∧ bl < 2147483647 ∧ cs.length ≤ 48 }, start_G (ok_empty H) (.cons (by simp only [Rep]) (.cons (by simp only [Rep]) .nil)), ?_, (fun _ _ _ _ _ _ z => z.elim), (fun _ _ _ _ _ _ z => z.elim), (fun _ _ _ _ _ _ z => z.elim), ?_⟩
  · simp only [DL.dTry, DL.Pt.at, forall_const, DL.dXat, DL.dEmptied, DL.dSeq, DL.dSet, DL.dSetO, DL.dC, DL.dVar, DL.dFor, DL.dWhile, DL.dIfS, DL.dRet, DL.dRetN, DL.dDrop, DL.dNext, DL.dBrk, DL.dCnt, DL.dAppend, DL.dExtend, DL.dPop, DL.dAsg, DL.dPar, DL.dIxNm, DL.dAugIx, DL.dAug, DL.dSetIx, DL.dRaise, DL.dOp, DL.dOpL, DL.dTest, DL.dNot, DL.dAnd, DL.dOr, DL.dAndV, DL.dOrV, DL.dNotV, DL.dIf, DL.dLen, DL.rLen, DL.dTupOf, DL.rTup, DL.dListOf, DL.dIntOf, DL.rIntOf, DL.dAbs, DL.rAbs, DL.dAll, DL.rAllD, DL.dAny, DL.rAnyD, DL.dSum, DL.rSumD, DL.dInst, DL.dCall, DL.dCallK, DL.dCallX, DL.dCallKX, DL.dCons, DL.dConsO, DL.dNil, DL.dStar, DL.dTup, DL.dLst, DL.dL, DL.dSlT, DL.dSlL, DL.dNo, DL.dPart, DL.dLc, DL.dYes, DL.diSeq, DL.diRng1, DL.diRng2, DL.diZip, DL.bP, DL.bPs, DL.oI, DL.oIc, DL.oS, DL.oIx, DL.oIn, DL.oIsN, DL.oNotN, DL.oIsB, DL.oCatT, DL.oCatL, DL.oRepL, DL.oRep01, DL.oRepT, DL.dSumT, DL.rSumTD, DL.dMaxT, DL.rMaxTD, DL.dSortT, DL.dFrz, DL.gOf, DL.gNext, DL.gSeq, DL.gIf, DL.gWhile, DL.gFor, DL.gPut, DL.dNotInX, DL.dStart3, DL.dStart2, DL.dRevT, DL.dRevL, DL.dNeg, DL.dChain, DL.startD, DL.setsD, DL.wipeD, List.map_cons, List.map_nil, List.length_cons, List.length_nil, Nat.reduceAdd, Nat.reduceSub, List.replicate_succ, List.replicate_zero, List.cons_append, List.nil_append, List.append_nil, List.set_cons_succ, List.set_cons_zero, List.getElem?_cons_succ, List.getElem?_cons_zero, Option.some.injEq, D.int.injEq, D.bl.injEq, D.str.injEq, D.tup.injEq, D.lst.injEq, D.own.injEq, exists_eq_left', exists_eq_left, true_and, and_true, reduceCtorEq, false_and, and_false, exists_const, List.cons.injEq, exists_eq_right, exists_eq_right', and_assoc, exists_and_left, D.opq.injEq, V.ref.injEq, DL.items_tup, DL.items_lst, DL.items_own, DL.lstOf_lst, DL.lstOf_own, DL.isOwn_non, DL.frz_non, DL.isOwn_bl, DL.frz_bl, DL.isOwn_int, DL.frz_int, DL.isOwn_str, DL.frz_str, DL.isOwn_tup, DL.frz_tup, DL.isOwn_lst, DL.frz_lst, DL.isOwn_opq, DL.frz_opq, DL.isOwn_own, DL.frz_own, DL.isOwn_frz, if_true, if_false, Bool.false_eq_true, Bool.not_true, Bool.not_false, reduceIte, dSlHi]
    have s4 : (16777216 : Nat) ≤ sizeLine := by rw [sizeLine_eq]; decide
    have hz : (cutI ns none (some 48)).length ≤ 48 := by
      unfold cutI
      rw [List.length_take]
      have : HT.sIx ns.length ns.length (some 48) ≤ 48 := by
        show (if (48 : Int) < 0 then ((48 : Int) + (ns.length : Int)).toNat else min (48 : Int).toNat ns.length) ≤ 48
        rw [if_neg (by decide)]
        exact Nat.min_le_left _ _
      omega
    obtain ⟨zs, ez⟩ : ∃ zs, zs = cutI ns none (some 48) := ⟨_, rfl⟩
    rw [← ez] at hz
    refine ⟨fun z => z, ns, h1, fun i acc => acc = nlst ((zs.take i).map fun n => if n < 0 then -n else n), rfl, fun i d acc hd hp => ?_, fun acc hp => ?_⟩
    · rw [(cut_ints ns none (some 48)).2, ← ez] at hd
      obtain ⟨n, hn, rfl⟩ := nlst_get hd
      subst hp
      have := take_len zs i
      refine ⟨rfl, n, rfl, by rw [nlst_len, List.length_map]; omega, ?_⟩
      dsimp only
      rw [take_more hn]
      simp [nlst]
    · rw [(cut_ints ns none (some 48)).2, ← ez] at hp
      have e1 : (List.map D.int zs).length = zs.length := by simp
      rw [e1, List.take_length] at hp
      obtain ⟨ws, ew⟩ : ∃ ws : List Int, ws = zs.map fun n => if n < 0 then -n else n := ⟨_, rfl⟩
      have hw0 : ∀ n ∈ ws, 0 ≤ n := fun n hn => by
        rw [ew] at hn
        obtain ⟨m, _, rfl⟩ := List.mem_map.mp hn
        split <;> omega
      have hwl : ws.length ≤ 48 := by rw [ew, List.length_map]; exact hz
      rw [← ew] at hp
      subst hp
      refine ⟨.inl ⟨by omega, by omega⟩, fun i δ => ∃ bl v, 0 ≤ bl ∧ bl < 2147483647 ∧ δ = [some (.opq (.ref sa)), some (.int salt), some (.lst (nlst ws)), some (.int bl), v], ⟨_, _, by omega, by omega, rfl⟩, ?_, ?_⟩
      · rintro i d _ hd ⟨bl, v, b0, b1, rfl⟩
        obtain ⟨n, hn, rfl⟩ := nlst_get hd
        simp only [DL.dTry, DL.Pt.at, forall_const, DL.dXat, DL.dEmptied, DL.dSeq, DL.dSet, DL.dSetO, DL.dC, DL.dVar, DL.dFor, DL.dWhile, DL.dIfS, DL.dRet, DL.dRetN, DL.dDrop, DL.dNext, DL.dBrk, DL.dCnt, DL.dAppend, DL.dExtend, DL.dPop, DL.dAsg, DL.dPar, DL.dIxNm, DL.dAugIx, DL.dAug, DL.dSetIx, DL.dRaise, DL.dOp, DL.dOpL, DL.dTest, DL.dNot, DL.dAnd, DL.dOr, DL.dAndV, DL.dOrV, DL.dNotV, DL.dIf, DL.dLen, DL.rLen, DL.dTupOf, DL.rTup, DL.dListOf, DL.dIntOf, DL.rIntOf, DL.dAbs, DL.rAbs, DL.dAll, DL.rAllD, DL.dAny, DL.rAnyD, DL.dSum, DL.rSumD, DL.dInst, DL.dCall, DL.dCallK, DL.dCallX, DL.dCallKX, DL.dCons, DL.dConsO, DL.dNil, DL.dStar, DL.dTup, DL.dLst, DL.dL, DL.dSlT, DL.dSlL, DL.dNo, DL.dPart, DL.dLc, DL.dYes, DL.diSeq, DL.diRng1, DL.diRng2, DL.diZip, DL.bP, DL.bPs, DL.oI, DL.oIc, DL.oS, DL.oIx, DL.oIn, DL.oIsN, DL.oNotN, DL.oIsB, DL.oCatT, DL.oCatL, DL.oRepL, DL.oRep01, DL.oRepT, DL.dSumT, DL.rSumTD, DL.dMaxT, DL.rMaxTD, DL.dSortT, DL.dFrz, DL.gOf, DL.gNext, DL.gSeq, DL.gIf, DL.gWhile, DL.gFor, DL.gPut, DL.dNotInX, DL.dStart3, DL.dStart2, DL.dRevT, DL.dRevL, DL.dNeg, DL.dChain, DL.startD, DL.setsD, DL.wipeD, List.map_cons, List.map_nil, List.length_cons, List.length_nil, Nat.reduceAdd, Nat.reduceSub, List.replicate_succ, List.replicate_zero, List.cons_append, List.nil_append, List.append_nil, List.set_cons_succ, List.set_cons_zero, List.getElem?_cons_succ, List.getElem?_cons_zero, Option.some.injEq, D.int.injEq, D.bl.injEq, D.str.injEq, D.tup.injEq, D.lst.injEq, D.own.injEq, exists_eq_left', exists_eq_left, true_and, and_true, reduceCtorEq, false_and, and_false, exists_const, List.cons.injEq, exists_eq_right, exists_eq_right', and_assoc, exists_and_left, D.opq.injEq, V.ref.injEq, DL.items_tup, DL.items_lst, DL.items_own, DL.lstOf_lst, DL.lstOf_own, DL.isOwn_non, DL.frz_non, DL.isOwn_bl, DL.frz_bl, DL.isOwn_int, DL.frz_int, DL.isOwn_str, DL.frz_str, DL.isOwn_tup, DL.frz_tup, DL.isOwn_lst, DL.frz_lst, DL.isOwn_opq, DL.frz_opq, DL.isOwn_own, DL.frz_own, DL.isOwn_frz, if_true, if_false, Bool.false_eq_true, Bool.not_true, Bool.not_false, reduceIte]
        refine ⟨.inr ⟨by omega, by omega⟩, by omega, by omega, ?_⟩
        exact ⟨_, Int.emod_nonneg _ (by decide), Int.emod_lt_of_pos _ (by decide), rfl⟩
      · rintro _ ⟨bl, v, b0, b1, rfl⟩
        simp only [DL.dTry, DL.Pt.at, forall_const, DL.dXat, DL.dEmptied, DL.dSeq, DL.dSet, DL.dSetO, DL.dC, DL.dVar, DL.dFor, DL.dWhile, DL.dIfS, DL.dRet, DL.dRetN, DL.dDrop, DL.dNext, DL.dBrk, DL.dCnt, DL.dAppend, DL.dExtend, DL.dPop, DL.dAsg, DL.dPar, DL.dIxNm, DL.dAugIx, DL.dAug, DL.dSetIx, DL.dRaise, DL.dOp, DL.dOpL, DL.dTest, DL.dNot, DL.dAnd, DL.dOr, DL.dAndV, DL.dOrV, DL.dNotV, DL.dIf, DL.dLen, DL.rLen, DL.dTupOf, DL.rTup, DL.dListOf, DL.dIntOf, DL.rIntOf, DL.dAbs, DL.rAbs, DL.dAll, DL.rAllD, DL.dAny, DL.rAnyD, DL.dSum, DL.rSumD, DL.dInst, DL.dCall, DL.dCallK, DL.dCallX, DL.dCallKX, DL.dCons, DL.dConsO, DL.dNil, DL.dStar, DL.dTup, DL.dLst, DL.dL, DL.dSlT, DL.dSlL, DL.dNo, DL.dPart, DL.dLc, DL.dYes, DL.diSeq, DL.diRng1, DL.diRng2, DL.diZip, DL.bP, DL.bPs, DL.oI, DL.oIc, DL.oS, DL.oIx, DL.oIn, DL.oIsN, DL.oNotN, DL.oIsB, DL.oCatT, DL.oCatL, DL.oRepL, DL.oRep01, DL.oRepT, DL.dSumT, DL.rSumTD, DL.dMaxT, DL.rMaxTD, DL.dSortT, DL.dFrz, DL.gOf, DL.gNext, DL.gSeq, DL.gIf, DL.gWhile, DL.gFor, DL.gPut, DL.dNotInX, DL.dStart3, DL.dStart2, DL.dRevT, DL.dRevL, DL.dNeg, DL.dChain, DL.startD, DL.setsD, DL.wipeD, List.map_cons, List.map_nil, List.length_cons, List.length_nil, Nat.reduceAdd, Nat.reduceSub, List.replicate_succ, List.replicate_zero, List.cons_append, List.nil_append, List.append_nil, List.set_cons_succ, List.set_cons_zero, List.getElem?_cons_succ, List.getElem?_cons_zero, Option.some.injEq, D.int.injEq, D.bl.injEq, D.str.injEq, D.tup.injEq, D.lst.injEq, D.own.injEq, exists_eq_left', exists_eq_left, true_and, and_true, reduceCtorEq, false_and, and_false, exists_const, List.cons.injEq, exists_eq_right, exists_eq_right', and_assoc, exists_and_left, D.opq.injEq, V.ref.injEq, DL.items_tup, DL.items_lst, DL.items_own, DL.lstOf_lst, DL.lstOf_own, DL.isOwn_non, DL.frz_non, DL.isOwn_bl, DL.frz_bl, DL.isOwn_int, DL.frz_int, DL.isOwn_str, DL.frz_str, DL.isOwn_tup, DL.frz_tup, DL.isOwn_lst, DL.frz_lst, DL.isOwn_opq, DL.frz_opq, DL.isOwn_own, DL.frz_own, DL.isOwn_frz, if_true, if_false, Bool.false_eq_true, Bool.not_true, Bool.not_false, reduceIte]
        refine ⟨fun i acc => ∃ cs, acc = nlst cs ∧ (∀ n ∈ cs, 0 ≤ n) ∧ cs.length ≤ i, ⟨[], rfl, by simp, by simp⟩, ?_, ?_⟩
        · rintro i d _ hd ⟨cs, rfl, p1, p2⟩
          obtain ⟨n, hn, rfl⟩ := nlst_get hd
          have hi : i < ws.length := (List.getElem?_eq_some_iff.mp hn).1
          simp only [DL.dTry, DL.Pt.at, forall_const, DL.dXat, DL.dEmptied, DL.dSeq, DL.dSet, DL.dSetO, DL.dC, DL.dVar, DL.dFor, DL.dWhile, DL.dIfS, DL.dRet, DL.dRetN, DL.dDrop, DL.dNext, DL.dBrk, DL.dCnt, DL.dAppend, DL.dExtend, DL.dPop, DL.dAsg, DL.dPar, DL.dIxNm, DL.dAugIx, DL.dAug, DL.dSetIx, DL.dRaise, DL.dOp, DL.dOpL, DL.dTest, DL.dNot, DL.dAnd, DL.dOr, DL.dAndV, DL.dOrV, DL.dNotV, DL.dIf, DL.dLen, DL.rLen, DL.dTupOf, DL.rTup, DL.dListOf, DL.dIntOf, DL.rIntOf, DL.dAbs, DL.rAbs, DL.dAll, DL.rAllD, DL.dAny, DL.rAnyD, DL.dSum, DL.rSumD, DL.dInst, DL.dCall, DL.dCallK, DL.dCallX, DL.dCallKX, DL.dCons, DL.dConsO, DL.dNil, DL.dStar, DL.dTup, DL.dLst, DL.dL, DL.dSlT, DL.dSlL, DL.dNo, DL.dPart, DL.dLc, DL.dYes, DL.diSeq, DL.diRng1, DL.diRng2, DL.diZip, DL.bP, DL.bPs, DL.oI, DL.oIc, DL.oS, DL.oIx, DL.oIn, DL.oIsN, DL.oNotN, DL.oIsB, DL.oCatT, DL.oCatL, DL.oRepL, DL.oRep01, DL.oRepT, DL.dSumT, DL.rSumTD, DL.dMaxT, DL.rMaxTD, DL.dSortT, DL.dFrz, DL.gOf, DL.gNext, DL.gSeq, DL.gIf, DL.gWhile, DL.gFor, DL.gPut, DL.dNotInX, DL.dStart3, DL.dStart2, DL.dRevT, DL.dRevL, DL.dNeg, DL.dChain, DL.startD, DL.setsD, DL.wipeD, List.map_cons, List.map_nil, List.length_cons, List.length_nil, Nat.reduceAdd, Nat.reduceSub, List.replicate_succ, List.replicate_zero, List.cons_append, List.nil_append, List.append_nil, List.set_cons_succ, List.set_cons_zero, List.getElem?_cons_succ, List.getElem?_cons_zero, Option.some.injEq, D.int.injEq, D.bl.injEq, D.str.injEq, D.tup.injEq, D.lst.injEq, D.own.injEq, exists_eq_left', exists_eq_left, true_and, and_true, reduceCtorEq, false_and, and_false, exists_const, List.cons.injEq, exists_eq_right, exists_eq_right', and_assoc, exists_and_left, D.opq.injEq, V.ref.injEq, DL.items_tup, DL.items_lst, DL.items_own, DL.lstOf_lst, DL.lstOf_own, DL.isOwn_non, DL.frz_non, DL.isOwn_bl, DL.frz_bl, DL.isOwn_int, DL.frz_int, DL.isOwn_str, DL.frz_str, DL.isOwn_tup, DL.frz_tup, DL.isOwn_lst, DL.frz_lst, DL.isOwn_opq, DL.frz_opq, DL.isOwn_own, DL.frz_own, DL.isOwn_frz, if_true, if_false, Bool.false_eq_true, Bool.not_true, Bool.not_false, reduceIte]
          refine ⟨⟨by decide, by decide, by decide⟩, ?_⟩
          by_cases c1 : (10 : Int) ^ Int.toNat 18 ≤ n
          · rw [if_pos (decide_eq_true c1)]
            refine ⟨by rw [nlst_len]; omega, cs ++ [n], by simp [nlst], ?_, by simp; omega⟩
            intro m hm
            rcases List.mem_append.mp hm with z | z
            · exact p1 m z
            · have : m = n := by simpa using z
              rw [this]; exact hw0 n (List.mem_of_getElem? hn)
          · rw [if_neg (by simpa using c1)]
            exact ⟨cs, rfl, p1, by omega⟩
        · rintro _ ⟨cs, rfl, p1, p2⟩
          rw [nlst_len] at p2
          refine ⟨by omega, cs.reverse, by simp [nlst], by simpa using p1, b0, b1, by simp; omega⟩
  · rintro v H' F' d he hr ⟨cs, bl, rfl, p1, b0, b1, pl⟩
    simp only [Rep, RepL] at hr
    obtain ⟨a, xs, rfl, ha, _, _, rfl, ⟨c, ys, rfl, hc, hys⟩, _, _, rfl, rfl, rfl⟩ := hr
    have eys := RepL.ints hys
    subst eys
    have sm : Same H H' := fun b o e => he.keep b o e (fun z => z)
    have old : ∀ b o, F' b = some o → H b = none := fun b o e => by
      cases hb : H b with
      | none => rfl
      | some o' => have := he.new b o' hb rfl; rw [this] at e; cases e
    refine q H' a c sm (old _ _ ha) (old _ _ hc) ⟨cs, bl, fun z => ?_, he.ok.fh _ _ ha, he.ok.fh _ _ hc, p1, b0, b1, pl⟩
    subst z
    rw [ha] at hc
    cases cs <;> simp at hc
/-! ### _law_same: of equal things -/
mutual
def okT : D → Bool
  | .non => true | .bl _ => true | .int _ => true | .str x => PyData.strOk x | .tup xs => okTL xs | _ => false
def okTL : List D → Bool
  | [] => true | d :: ds => okT d && okTL ds
end
theorem okTL_all : ∀ {ds : List D}, okTL ds = true → ∀ d ∈ ds, okT d = true
  | [], _ => by simp
  | d :: ds, h => fun x hx => by
    simp only [okTL, Bool.and_eq_true] at h
    rcases List.mem_cons.mp hx with z | z
    · rw [z]; exact h.1
    · exact okTL_all h.2 x z
theorem dep_mem : ∀ {ds : List D} {d : D}, d ∈ ds → D.dep d ≤ D.depL ds
  | e :: ds, d, h => by
    simp only [D.depL]
    rcases List.mem_cons.mp h with z | z
    · rw [z]; exact Nat.le_max_left _ _
    · exact Nat.le_trans (dep_mem z) (Nat.le_max_right _ _)
def sp__law_same (n : Nat) : DSp := fun _ ds Q _ => ∃ v, ds = [v, v] ∧ okT v = true ∧ D.dep v < n ∧ n ≤ 50 ∧ Q (.bl true)
abbrev s__law_same : Stmt := topS 25
theorem c__law_same : FnScope ["value", "due", "one", "other"] ["value", "due"] (defScope s__law_same) := ⟨rfl, rfl, rfl, by decide +kernel, rfl, by decide +kernel, by decide +kernel⟩
theorem okT_pure {v : D} (h : okT v = true) (h2 : ∀ xs, v ≠ .tup xs) : isOwn v = false ∧ (∀ w, v ≠ .opq w) := by
  cases v <;> simp_all [okT, isOwn]
theorem zip_same (xs : List D) {i : Nat} {d : D} (h : (DL.zipD xs xs)[i]? = some d) : ∃ x, x ∈ xs ∧ d = .tup [x, x] := by
  have hl := zipD_len xs xs
  have hi := (List.getElem?_eq_some_iff.mp h).1
  have hi2 : i < xs.length := by rw [hl] at hi; omega
  have e := List.getElem?_eq_getElem hi2
  have := zipD_get xs xs i _ _ e e
  rw [h] at this
  exact ⟨_, List.getElem_mem hi2, Option.some.inj this⟩
theorem ok__law_same_step (F : Fun K "_law_same" "_law_same" s__law_same f fd) (n : Nat) (C__law_same : Callee P w K mg base n "_law_same" ["value", "due"] (sp__law_same n))
    (m_isinstance : mg "isinstance" = none) (m_tuple : mg "tuple" = none) (m_int : mg "int" = none) (m_bool : mg "bool" = none) (m_str : mg "str" = none) (m_len : mg "len" = none) (m_zip : mg "zip" = none) :
    FnOk P w K mg base (L2.CX P w) (n + 1) f fd ["value", "due"] (liftSp K (sp__law_same (n + 1))) := by
  have lens : ∀ J ds Q E, sp__law_same (n + 1) J ds Q E → ds.length = 2 := fun J ds Q E ⟨_, e, _⟩ => by rw [e]; rfl
  refine dfn F c__law_same lens (fun p X ds Q E cdv A outer s H EX hX hK hr hE h => ?_)
  subst hX
  refine ⟨_, (dss_cons (ds_if (dt_val (de_inst hK (T := "tuple") (by decide) rfl m_isinstance rfl m_tuple (by decide +kernel) (dv 1)))
    (dss_cons (ds_if (PDW.dt (dw_or (dt_not (dt_val (de_inst hK (T := "tuple") (by decide) rfl m_isinstance rfl m_tuple (by decide +kernel) (dv 0)))) (dw_or1 (dt_cmp op_ne rd_neI (de_len hK rfl m_len (dv 0)) (de_len hK rfl m_len (dv 1))))))
    (dss_one (ds_ret de_bl))
    dss_nil)
    (dss_one (ds_ret (de_cmp (op_eqD hr.units) (rd_eqK hK) (de_of_dl (dl_lc [("one", 2), ("other", 3)] rfl c__law_same.nd (di_zip hK rfl m_zip (dv 0) (dv 1)) (by show BlkOk ["value", "due", "one", "other"] (defScope s__law_same) _ _; exact ⟨rfl, by decide +kernel, by decide +kernel, by decide +kernel, by decide +kernel⟩) (fun _ _ _ _ _ => (dg_tp hK rfl (dgs_cons (dg_nm (i := 2) c__law_same.nd rfl (.inl rfl)) (dgs_cons (dg_nm (i := 3) c__law_same.nd rfl (.inl rfl)) dgs_nil)))) (fun _ _ _ _ _ => (dts_one (dt_not (dt_val (de_callC hK C__law_same hr (da_cons (dv 2) (da_cons (dv 3) da_nil)) (hle := Nat.le_refl _)))))) (fun _ _ _ _ _ => de_int))) (de_of_dl (dl_lst da_nil))))))
    dss_nil)
    (dss_cons (ds_if (dt_cmp op_isN rd_isN (dv 1) de_non)
    (dss_one (ds_ret (de_cmp op_isN rd_isN (dv 0) de_non)))
    dss_nil)
    (dss_cons (ds_if (dt_cmp op_isB1 rd_isB (dv 1) de_bl)
    (dss_one (ds_ret (de_cmp op_isB1 rd_isB (dv 0) de_bl)))
    dss_nil)
    (dss_cons (ds_if (dt_cmp op_isB1 rd_isB (dv 1) de_bl)
    (dss_one (ds_ret (de_cmp op_isB1 rd_isB (dv 0) de_bl)))
    dss_nil)
    (dss_cons (ds_if (dt_val (de_inst hK (T := "int") (by decide) rfl m_isinstance rfl m_int (by decide +kernel) (dv 1)))
    (dss_one (ds_ret (de_and (de_inst hK (T := "int") (by decide) rfl m_isinstance rfl m_int (by decide +kernel) (dv 0)) (de_and (de_not (de_inst hK (T := "bool") (by decide) rfl m_isinstance rfl m_bool (by decide +kernel) (dv 0))) (de_one (de_cmp (op_eqD hr.units) (rd_eqK hK) (dv 0) (dv 1)))))))
    dss_nil)
    (dss_one (ds_ret (de_and (de_inst hK (T := "str") (by decide) rfl m_isinstance rfl m_str (by decide +kernel) (dv 0)) (de_one (de_cmp (op_eqD hr.units) (rd_eqK hK) (dv 0) (dv 1))))))))))), ?_⟩
  obtain ⟨v, rfl, h1, h2, h3, q⟩ := h
  simp only [DL.dTry, DL.Pt.at, forall_const, DL.dXat, DL.dEmptied, DL.dSeq, DL.dSet, DL.dSetO, DL.dC, DL.dVar, DL.dFor, DL.dWhile, DL.dIfS, DL.dRet, DL.dRetN, DL.dDrop, DL.dNext, DL.dBrk, DL.dCnt, DL.dAppend, DL.dExtend, DL.dPop, DL.dAsg, DL.dPar, DL.dIxNm, DL.dAugIx, DL.dAug, DL.dSetIx, DL.dRaise, DL.dOp, DL.dOpL, DL.dTest, DL.dNot, DL.dAnd, DL.dOr, DL.dAndV, DL.dOrV, DL.dNotV, DL.dIf, DL.dLen, DL.rLen, DL.dTupOf, DL.rTup, DL.dListOf, DL.dIntOf, DL.rIntOf, DL.dAbs, DL.rAbs, DL.dAll, DL.rAllD, DL.dAny, DL.rAnyD, DL.dSum, DL.rSumD, DL.dInst, DL.dCall, DL.dCallK, DL.dCallX, DL.dCallKX, DL.dCons, DL.dConsO, DL.dNil, DL.dStar, DL.dTup, DL.dLst, DL.dL, DL.dSlT, DL.dSlL, DL.dNo, DL.dPart, DL.dLc, DL.dYes, DL.diSeq, DL.diRng1, DL.diRng2, DL.diZip, DL.bP, DL.bPs, DL.oI, DL.oIc, DL.oS, DL.oIx, DL.oIn, DL.oIsN, DL.oNotN, DL.oIsB, DL.oCatT, DL.oCatL, DL.oRepL, DL.oRep01, DL.oRepT, DL.dSumT, DL.rSumTD, DL.dMaxT, DL.rMaxTD, DL.dSortT, DL.dFrz, DL.gOf, DL.gNext, DL.gSeq, DL.gIf, DL.gWhile, DL.gFor, DL.gPut, DL.dNotInX, DL.dStart3, DL.dStart2, DL.dRevT, DL.dRevL, DL.dNeg, DL.dChain, DL.startD, DL.setsD, DL.wipeD, List.map_cons, List.map_nil, List.length_cons, List.length_nil, Nat.reduceAdd, Nat.reduceSub, List.replicate_succ, List.replicate_zero, List.cons_append, List.nil_append, List.append_nil, List.set_cons_succ, List.set_cons_zero, List.getElem?_cons_succ, List.getElem?_cons_zero, Option.some.injEq, D.int.injEq, D.bl.injEq, D.str.injEq, D.tup.injEq, D.lst.injEq, D.own.injEq, exists_eq_left', exists_eq_left, true_and, and_true, reduceCtorEq, false_and, and_false, exists_const, List.cons.injEq, exists_eq_right, exists_eq_right', and_assoc, exists_and_left, D.opq.injEq, V.ref.injEq, DL.items_tup, DL.items_lst, DL.items_own, DL.lstOf_lst, DL.lstOf_own, DL.isOwn_non, DL.frz_non, DL.isOwn_bl, DL.frz_bl, DL.isOwn_int, DL.frz_int, DL.isOwn_str, DL.frz_str, DL.isOwn_tup, DL.frz_tup, DL.isOwn_lst, DL.frz_lst, DL.isOwn_opq, DL.frz_opq, DL.isOwn_own, DL.frz_own, DL.isOwn_frz, if_true, if_false, Bool.false_eq_true, Bool.not_true, Bool.not_false, reduceIte]
  cases v with
  | tup xs =>
    refine ⟨by simp, ?_⟩
    rw [if_pos (by rfl)]
    refine ⟨by simp, ?_⟩
    rw [if_neg (by simp [D.inst, DL.isNon, isBlD])]
    refine ⟨xs, rfl, xs, rfl, ?_⟩
    rw [if_neg (by simp)]
    refine ⟨xs, xs, .inr ⟨rfl, rfl⟩, fun i acc => acc = [], rfl, ?_, ?_⟩
    · rintro i d _ hd rfl
      obtain ⟨x, hx, rfl⟩ := zip_same xs hd
      have ht := okTL_all (by simpa only [okT] using h1) x hx
      have hd := dep_mem hx
      simp only [D.dep] at h2
      have ho : isOwn x = false := by cases x <;> first | rfl | simp [okT] at ht
      refine ⟨_, rfl, rfl, x, _, rfl, ho, x, _, rfl, ho, rfl, ho, ho, x, rfl, ht, by omega, by omega, true, rfl, ?_⟩
      rw [if_neg (by simp [D.inst, DL.isNon, isBlD])]
    · rintro _ rfl
      exact ⟨Nat.zero_le _, ⟨rfl, by simp [D.dep, D.depL]⟩, ⟨rfl, by simp [D.dep, D.depL]⟩, q⟩
  | non => simpa [D.inst, DL.isNon, isOwn, isBlD, D.frz] using q
  | bl b => cases b <;> simpa [D.inst, DL.isNon, isOwn, isBlD, D.frz] using q
  | int m =>
    have e : D.eqv (.int m) (.int m) = true := by simp [D.eqv, D.py, PyData.eqv]
    refine ⟨by simp, ?_⟩
    rw [if_neg (by simp [D.inst, DL.isNon, isBlD])]
    refine ⟨by simp, rfl, ?_⟩
    rw [if_neg (by simp [D.inst, DL.isNon, isBlD])]
    refine ⟨by simp, rfl, ?_⟩
    rw [if_neg (by simp [D.inst, DL.isNon, isBlD])]
    refine ⟨by simp, rfl, ?_⟩
    rw [if_neg (by simp [D.inst, DL.isNon, isBlD])]
    refine ⟨by simp, ?_⟩
    rw [if_pos (by rfl)]
    refine ⟨by simp, ?_⟩
    rw [if_pos (by rfl)]
    refine ⟨by simp, ?_⟩
    rw [if_pos (by rfl)]
    refine ⟨⟨rfl, by simp [D.dep]⟩, ⟨rfl, by simp [D.dep]⟩, ?_⟩
    rw [e]
    exact q
  | str u =>
    have e : D.eqv (.str u) (.str u) = true := by simp [D.eqv, D.py, PyData.eqv]
    have hp : D.pure (.str u) = true := by simpa only [okT, D.pure] using h1
    refine ⟨by simp, ?_⟩
    rw [if_neg (by simp [D.inst, DL.isNon, isBlD])]
    refine ⟨by simp, rfl, ?_⟩
    rw [if_neg (by simp [D.inst, DL.isNon, isBlD])]
    refine ⟨by simp, rfl, ?_⟩
    rw [if_neg (by simp [D.inst, DL.isNon, isBlD])]
    refine ⟨by simp, rfl, ?_⟩
    rw [if_neg (by simp [D.inst, DL.isNon, isBlD])]
    refine ⟨by simp, ?_⟩
    rw [if_neg (by simp [D.inst, DL.isNon, isBlD])]
    refine ⟨by simp, ?_⟩
    rw [if_pos (by rfl)]
    refine ⟨⟨hp, by simp [D.dep]⟩, ⟨hp, by simp [D.dep]⟩, ?_⟩
    rw [e]
    exact q
  | _ => simp [okT] at h1
theorem ok__law_same (F : Fun K "_law_same" "_law_same" s__law_same f fd) (hm : mg "_law_same" = some (.ref f)) (kp : PySem.W.keepIn K (.ref f) = true) (hb : Binds K fd ["value", "due"] [])
    (m_isinstance : mg "isinstance" = none) (m_tuple : mg "tuple" = none) (m_int : mg "int" = none) (m_bool : mg "bool" = none) (m_str : mg "str" = none) (m_len : mg "len" = none) (m_zip : mg "zip" = none) :
    ∀ n, FnOk P w K mg base (L2.CX P w) n f fd ["value", "due"] (liftSp K (sp__law_same n))
  | 0 => by
    have no : ∀ vs H Q E, ¬ liftSp K (sp__law_same 0) vs H Q E := fun vs H Q E ⟨_, _, _, _, _, _, _, ⟨_, _, _, h, _⟩, _⟩ => absurd h (Nat.not_lt_zero _)
    exact ⟨fun vs H Q E h => absurd h (no vs H Q E), fun A outer s H as us vs Q E _ _ _ _ h => absurd h (no vs H Q E)⟩
  | n + 1 => ok__law_same_step F n ⟨f, fd, ok__law_same F hm kp hb m_isinstance m_tuple m_int m_bool m_str m_len m_zip n, hm, kp, hb⟩ m_isinstance m_tuple m_int m_bool m_str m_len m_zip
/-! ### _law_spans -/
abbrev s__law_spans : Stmt := topS 26
theorem c__law_spans : FnScope ["places", "times", "rows", "often", "later", "one"] ["places", "times"] (defScope s__law_spans) := ⟨rfl, rfl, rfl, by decide +kernel, rfl, by decide +kernel, by decide +kernel⟩
def rowD (i n : Nat) : List Int := (List.range n).map fun j => ((bin i j : Nat) : Int)
theorem rowD_len (i n : Nat) : (rowD i n).length = n := by simp [rowD]
theorem rowD_get {i n j : Nat} {x : Int} (h : (rowD i n)[j]? = some x) : j < n ∧ x = ((bin i j : Nat) : Int) := by
  unfold rowD at h
  rw [List.getElem?_map] at h
  cases e : (List.range n)[j]? with
  | none => rw [e] at h; cases h
  | some k =>
    rw [e] at h
    obtain ⟨h1, h2⟩ := List.getElem?_eq_some_iff.mp e
    simp at h1 h2
    subst h2
    exact ⟨h1, (Option.some.inj h).symm⟩
theorem rowD_more (i n : Nat) : rowD i (n + 1) = rowD i n ++ [((bin i n : Nat) : Int)] := by
  unfold rowD
  rw [List.range_succ, List.map_append]
  rfl
theorem cutD_tl (xs : List D) (h : 1 ≤ xs.length) : DL.cutD xs (some 1) none = xs.drop 1 := by
  unfold DL.cutD
  have e1 : HT.sIx xs.length 0 (some 1) = 1 := by
    show (if (1 : Int) < 0 then ((1 : Int) + (xs.length : Int)).toNat else min (1 : Int).toNat xs.length) = 1
    rw [if_neg (by decide)]
    show min 1 xs.length = 1
    omega
  have e2 : HT.sIx xs.length xs.length none = xs.length := rfl
  rw [e1, e2]
  exact List.take_of_length_le (by rw [List.length_drop]; omega)
def sp__law_spans : DSp := fun _ ds Q _ => ∃ p t, ds = [.int p, .int t] ∧ 0 ≤ p ∧ p ≤ 20 ∧ 0 ≤ t ∧ t ≤ 1000 ∧ Q (.int (spn p t))
theorem ok__law_spans (F : Fun K "_law_spans" "_law_spans" s__law_spans f fd) (m_range : mg "range" = none) : FnOk P w K mg base (L2.CX P w) 1 f fd ["places", "times"] (liftSp K sp__law_spans) := by
  have lens : ∀ J ds Q E, sp__law_spans J ds Q E → ds.length = 2 := fun J ds Q E ⟨_, _, e, _⟩ => by rw [e]; rfl
  refine dfn F c__law_spans lens (fun p X ds Q E cdv A outer s H EX hX hK hr hE h => ?_)
  subst hX
  refine ⟨_, (dss_cons (ds_set (i := 2) c__law_spans.nd rfl (.inl rfl) (de_of_dl (dl_op op_rep rd_repL (de_of_dl (dl_lst (da_cons de_int da_nil))) (de_op op_add rd_I0 (dv 1) de_int))))
    (dss_cons (ds_for (passes_of rfl) rfl (di_rng1 rfl m_range (de_op op_add rd_I0 (dv 0) de_int)) (dg_nm (i := 3) c__law_spans.nd rfl (.inl rfl))
    (dss_cons (ds_setO (i := 4) c__law_spans.nd rfl (.inl rfl) (dl_lst (da_cons de_int da_nil)))
    (dss_cons (ds_for (passes_of rfl) rfl (di_seq hK (de_of_dl (dl_slL (dv 2) (do_some de_int) do_none))) (dg_nm (i := 5) c__law_spans.nd rfl (.inl rfl))
    (dss_one (ds_append 4 (de_op op_add rd_I0 (de_ix ix_seq (rd_ixK hK) (dv 4) (de_neg de_int) (by intro _ _; rfl)) (dv 5)))))
    (dss_one (ds_frz 4 (ds_set (i := 2) c__law_spans.nd rfl (.inl rfl) (dv 4)))))))
    (dss_one (ds_ret (de_ix ix_seq (rd_ixK hK) (dv 2) (dv 1) (by intro _ _; rfl)))))), ?_⟩
  obtain ⟨pl, t, rfl, h1, h2, h3, h4, q⟩ := h
  simp only [DL.dTry, DL.Pt.at, forall_const, DL.dXat, DL.dEmptied, DL.dSeq, DL.dSet, DL.dSetO, DL.dC, DL.dVar, DL.dFor, DL.dWhile, DL.dIfS, DL.dRet, DL.dRetN, DL.dDrop, DL.dNext, DL.dBrk, DL.dCnt, DL.dAppend, DL.dExtend, DL.dPop, DL.dAsg, DL.dPar, DL.dIxNm, DL.dAugIx, DL.dAug, DL.dSetIx, DL.dRaise, DL.dOp, DL.dOpL, DL.dTest, DL.dNot, DL.dAnd, DL.dOr, DL.dAndV, DL.dOrV, DL.dNotV, DL.dIf, DL.dLen, DL.rLen, DL.dTupOf, DL.rTup, DL.dListOf, DL.dIntOf, DL.rIntOf, DL.dAbs, DL.rAbs, DL.dAll, DL.rAllD, DL.dAny, DL.rAnyD, DL.dSum, DL.rSumD, DL.dInst, DL.dCall, DL.dCallK, DL.dCallX, DL.dCallKX, DL.dCons, DL.dConsO, DL.dNil, DL.dStar, DL.dTup, DL.dLst, DL.dL, DL.dSlT, DL.dSlL, DL.dNo, DL.dPart, DL.dLc, DL.dYes, DL.diSeq, DL.diRng1, DL.diRng2, DL.diZip, DL.bP, DL.bPs, DL.oI, DL.oIc, DL.oS, DL.oIx, DL.oIn, DL.oIsN, DL.oNotN, DL.oIsB, DL.oCatT, DL.oCatL, DL.oRepL, DL.oRep01, DL.oRepT, DL.dSumT, DL.rSumTD, DL.dMaxT, DL.rMaxTD, DL.dSortT, DL.dFrz, DL.gOf, DL.gNext, DL.gSeq, DL.gIf, DL.gWhile, DL.gFor, DL.gPut, DL.dNotInX, DL.dStart3, DL.dStart2, DL.dRevT, DL.dRevL, DL.dNeg, DL.dChain, DL.startD, DL.setsD, DL.wipeD, List.map_cons, List.map_nil, List.length_cons, List.length_nil, Nat.reduceAdd, Nat.reduceSub, List.replicate_succ, List.replicate_zero, List.cons_append, List.nil_append, List.append_nil, List.set_cons_succ, List.set_cons_zero, List.getElem?_cons_succ, List.getElem?_cons_zero, Option.some.injEq, D.int.injEq, D.bl.injEq, D.str.injEq, D.tup.injEq, D.lst.injEq, D.own.injEq, exists_eq_left', exists_eq_left, true_and, and_true, reduceCtorEq, false_and, and_false, exists_const, List.cons.injEq, exists_eq_right, exists_eq_right', and_assoc, exists_and_left, D.opq.injEq, V.ref.injEq, DL.items_tup, DL.items_lst, DL.items_own, DL.lstOf_lst, DL.lstOf_own, DL.isOwn_non, DL.frz_non, DL.isOwn_bl, DL.frz_bl, DL.isOwn_int, DL.frz_int, DL.isOwn_str, DL.frz_str, DL.isOwn_tup, DL.frz_tup, DL.isOwn_lst, DL.frz_lst, DL.isOwn_opq, DL.frz_opq, DL.isOwn_own, DL.frz_own, DL.isOwn_frz, if_true, if_false, Bool.false_eq_true, Bool.not_true, Bool.not_false, reduceIte]
  have s4 : (16777216 : Nat) ≤ sizeLine := by rw [sizeLine_eq]; decide
  have e0 : (List.replicate (t + 1).toNat [D.int 1]).flatten = nlst (rowD 0 (t.toNat + 1)) := by
    rw [show (t + 1).toNat = t.toNat + 1 by omega, List.flatten_replicate_singleton]
    unfold nlst rowD
    rw [List.map_map]
    refine (List.eq_replicate_iff.mpr ⟨by simp, fun b hb => ?_⟩).symm
    obtain ⟨j, _, rfl⟩ := List.mem_map.mp hb
    simp [bin]
  rw [e0]
  refine ⟨by omega, by omega, by omega, by omega, by omega, by omega, fun i δ => ∃ a b c, δ = [some (.int pl), some (.int t), some (.lst (nlst (rowD i (t.toNat + 1)))), a, b, c], ⟨none, none, none, rfl⟩, ?_, ?_⟩
  · rintro i d _ hd ⟨a, b, c, rfl⟩
    obtain ⟨hi, rfl⟩ := rngD_get hd
    simp only [DL.dTry, DL.Pt.at, forall_const, DL.dXat, DL.dEmptied, DL.dSeq, DL.dSet, DL.dSetO, DL.dC, DL.dVar, DL.dFor, DL.dWhile, DL.dIfS, DL.dRet, DL.dRetN, DL.dDrop, DL.dNext, DL.dBrk, DL.dCnt, DL.dAppend, DL.dExtend, DL.dPop, DL.dAsg, DL.dPar, DL.dIxNm, DL.dAugIx, DL.dAug, DL.dSetIx, DL.dRaise, DL.dOp, DL.dOpL, DL.dTest, DL.dNot, DL.dAnd, DL.dOr, DL.dAndV, DL.dOrV, DL.dNotV, DL.dIf, DL.dLen, DL.rLen, DL.dTupOf, DL.rTup, DL.dListOf, DL.dIntOf, DL.rIntOf, DL.dAbs, DL.rAbs, DL.dAll, DL.rAllD, DL.dAny, DL.rAnyD, DL.dSum, DL.rSumD, DL.dInst, DL.dCall, DL.dCallK, DL.dCallX, DL.dCallKX, DL.dCons, DL.dConsO, DL.dNil, DL.dStar, DL.dTup, DL.dLst, DL.dL, DL.dSlT, DL.dSlL, DL.dNo, DL.dPart, DL.dLc, DL.dYes, DL.diSeq, DL.diRng1, DL.diRng2, DL.diZip, DL.bP, DL.bPs, DL.oI, DL.oIc, DL.oS, DL.oIx, DL.oIn, DL.oIsN, DL.oNotN, DL.oIsB, DL.oCatT, DL.oCatL, DL.oRepL, DL.oRep01, DL.oRepT, DL.dSumT, DL.rSumTD, DL.dMaxT, DL.rMaxTD, DL.dSortT, DL.dFrz, DL.gOf, DL.gNext, DL.gSeq, DL.gIf, DL.gWhile, DL.gFor, DL.gPut, DL.dNotInX, DL.dStart3, DL.dStart2, DL.dRevT, DL.dRevL, DL.dNeg, DL.dChain, DL.startD, DL.setsD, DL.wipeD, List.map_cons, List.map_nil, List.length_cons, List.length_nil, Nat.reduceAdd, Nat.reduceSub, List.replicate_succ, List.replicate_zero, List.cons_append, List.nil_append, List.append_nil, List.set_cons_succ, List.set_cons_zero, List.getElem?_cons_succ, List.getElem?_cons_zero, Option.some.injEq, D.int.injEq, D.bl.injEq, D.str.injEq, D.tup.injEq, D.lst.injEq, D.own.injEq, exists_eq_left', exists_eq_left, true_and, and_true, reduceCtorEq, false_and, and_false, exists_const, List.cons.injEq, exists_eq_right, exists_eq_right', and_assoc, exists_and_left, D.opq.injEq, V.ref.injEq, DL.items_tup, DL.items_lst, DL.items_own, DL.lstOf_lst, DL.lstOf_own, DL.isOwn_non, DL.frz_non, DL.isOwn_bl, DL.frz_bl, DL.isOwn_int, DL.frz_int, DL.isOwn_str, DL.frz_str, DL.isOwn_tup, DL.frz_tup, DL.isOwn_lst, DL.frz_lst, DL.isOwn_opq, DL.frz_opq, DL.isOwn_own, DL.frz_own, DL.isOwn_frz, if_true, if_false, Bool.false_eq_true, Bool.not_true, Bool.not_false, reduceIte]
    have e1 : [D.int 1] = nlst (rowD (i + 1) (0 + 1)) := by simp [nlst, rowD, bin_z]
    rw [e1]
    refine ⟨by omega, fun k δ => ∃ c, δ = [some (.int pl), some (.int t), some (.lst (nlst (rowD i (t.toNat + 1)))), some (.int (0 + (i : Nat))), some (.own (nlst (rowD (i + 1) (k + 1)))), c], ⟨_, rfl⟩, ?_, ?_⟩
    · rintro k d _ hk ⟨c, rfl⟩
      rw [cutD_tl _ (by rw [nlst_len, rowD_len]; omega)] at hk
      rw [List.getElem?_drop] at hk
      obtain ⟨n, hn, rfl⟩ := nlst_get hk
      obtain ⟨hl, hn⟩ := rowD_get hn
      simp only [DL.dTry, DL.Pt.at, forall_const, DL.dXat, DL.dEmptied, DL.dSeq, DL.dSet, DL.dSetO, DL.dC, DL.dVar, DL.dFor, DL.dWhile, DL.dIfS, DL.dRet, DL.dRetN, DL.dDrop, DL.dNext, DL.dBrk, DL.dCnt, DL.dAppend, DL.dExtend, DL.dPop, DL.dAsg, DL.dPar, DL.dIxNm, DL.dAugIx, DL.dAug, DL.dSetIx, DL.dRaise, DL.dOp, DL.dOpL, DL.dTest, DL.dNot, DL.dAnd, DL.dOr, DL.dAndV, DL.dOrV, DL.dNotV, DL.dIf, DL.dLen, DL.rLen, DL.dTupOf, DL.rTup, DL.dListOf, DL.dIntOf, DL.rIntOf, DL.dAbs, DL.rAbs, DL.dAll, DL.rAllD, DL.dAny, DL.rAnyD, DL.dSum, DL.rSumD, DL.dInst, DL.dCall, DL.dCallK, DL.dCallX, DL.dCallKX, DL.dCons, DL.dConsO, DL.dNil, DL.dStar, DL.dTup, DL.dLst, DL.dL, DL.dSlT, DL.dSlL, DL.dNo, DL.dPart, DL.dLc, DL.dYes, DL.diSeq, DL.diRng1, DL.diRng2, DL.diZip, DL.bP, DL.bPs, DL.oI, DL.oIc, DL.oS, DL.oIx, DL.oIn, DL.oIsN, DL.oNotN, DL.oIsB, DL.oCatT, DL.oCatL, DL.oRepL, DL.oRep01, DL.oRepT, DL.dSumT, DL.rSumTD, DL.dMaxT, DL.rMaxTD, DL.dSortT, DL.dFrz, DL.gOf, DL.gNext, DL.gSeq, DL.gIf, DL.gWhile, DL.gFor, DL.gPut, DL.dNotInX, DL.dStart3, DL.dStart2, DL.dRevT, DL.dRevL, DL.dNeg, DL.dChain, DL.startD, DL.setsD, DL.wipeD, List.map_cons, List.map_nil, List.length_cons, List.length_nil, Nat.reduceAdd, Nat.reduceSub, List.replicate_succ, List.replicate_zero, List.cons_append, List.nil_append, List.append_nil, List.set_cons_succ, List.set_cons_zero, List.getElem?_cons_succ, List.getElem?_cons_zero, Option.some.injEq, D.int.injEq, D.bl.injEq, D.str.injEq, D.tup.injEq, D.lst.injEq, D.own.injEq, exists_eq_left', exists_eq_left, true_and, and_true, reduceCtorEq, false_and, and_false, exists_const, List.cons.injEq, exists_eq_right, exists_eq_right', and_assoc, exists_and_left, D.opq.injEq, V.ref.injEq, DL.items_tup, DL.items_lst, DL.items_own, DL.lstOf_lst, DL.lstOf_own, DL.isOwn_non, DL.frz_non, DL.isOwn_bl, DL.frz_bl, DL.isOwn_int, DL.frz_int, DL.isOwn_str, DL.frz_str, DL.isOwn_tup, DL.frz_tup, DL.isOwn_lst, DL.frz_lst, DL.isOwn_opq, DL.frz_opq, DL.isOwn_own, DL.frz_own, DL.isOwn_frz, if_true, if_false, Bool.false_eq_true, Bool.not_true, Bool.not_false, reduceIte]
      refine ⟨.int ((bin (i + 1) k : Nat) : Int), ?_, _, rfl, ?_, ?_⟩
      · unfold atI ixN
        rw [nlst_len, rowD_len, if_neg (by decide), if_pos (by omega)]
        rw [show ((-1 : Int) + ((k + 1 : Nat) : Int)).toNat = k by omega]
        unfold nlst rowD
        simp
      · rw [nlst_len, rowD_len]; omega
      · rw [rowD_more (i + 1) (k + 1), hn]
        have : bin (i + 1) (k + 1) = bin i (1 + k) + bin (i + 1) k := by rw [bin, Nat.add_comm 1 k]
        rw [this]
        simp [nlst, Int.add_comm]
    · rintro _ ⟨c, rfl⟩
      simp only [DL.dTry, DL.Pt.at, forall_const, DL.dXat, DL.dEmptied, DL.dSeq, DL.dSet, DL.dSetO, DL.dC, DL.dVar, DL.dFor, DL.dWhile, DL.dIfS, DL.dRet, DL.dRetN, DL.dDrop, DL.dNext, DL.dBrk, DL.dCnt, DL.dAppend, DL.dExtend, DL.dPop, DL.dAsg, DL.dPar, DL.dIxNm, DL.dAugIx, DL.dAug, DL.dSetIx, DL.dRaise, DL.dOp, DL.dOpL, DL.dTest, DL.dNot, DL.dAnd, DL.dOr, DL.dAndV, DL.dOrV, DL.dNotV, DL.dIf, DL.dLen, DL.rLen, DL.dTupOf, DL.rTup, DL.dListOf, DL.dIntOf, DL.rIntOf, DL.dAbs, DL.rAbs, DL.dAll, DL.rAllD, DL.dAny, DL.rAnyD, DL.dSum, DL.rSumD, DL.dInst, DL.dCall, DL.dCallK, DL.dCallX, DL.dCallKX, DL.dCons, DL.dConsO, DL.dNil, DL.dStar, DL.dTup, DL.dLst, DL.dL, DL.dSlT, DL.dSlL, DL.dNo, DL.dPart, DL.dLc, DL.dYes, DL.diSeq, DL.diRng1, DL.diRng2, DL.diZip, DL.bP, DL.bPs, DL.oI, DL.oIc, DL.oS, DL.oIx, DL.oIn, DL.oIsN, DL.oNotN, DL.oIsB, DL.oCatT, DL.oCatL, DL.oRepL, DL.oRep01, DL.oRepT, DL.dSumT, DL.rSumTD, DL.dMaxT, DL.rMaxTD, DL.dSortT, DL.dFrz, DL.gOf, DL.gNext, DL.gSeq, DL.gIf, DL.gWhile, DL.gFor, DL.gPut, DL.dNotInX, DL.dStart3, DL.dStart2, DL.dRevT, DL.dRevL, DL.dNeg, DL.dChain, DL.startD, DL.setsD, DL.wipeD, List.map_cons, List.map_nil, List.length_cons, List.length_nil, Nat.reduceAdd, Nat.reduceSub, List.replicate_succ, List.replicate_zero, List.cons_append, List.nil_append, List.append_nil, List.set_cons_succ, List.set_cons_zero, List.getElem?_cons_succ, List.getElem?_cons_zero, Option.some.injEq, D.int.injEq, D.bl.injEq, D.str.injEq, D.tup.injEq, D.lst.injEq, D.own.injEq, exists_eq_left', exists_eq_left, true_and, and_true, reduceCtorEq, false_and, and_false, exists_const, List.cons.injEq, exists_eq_right, exists_eq_right', and_assoc, exists_and_left, D.opq.injEq, V.ref.injEq, DL.items_tup, DL.items_lst, DL.items_own, DL.lstOf_lst, DL.lstOf_own, DL.isOwn_non, DL.frz_non, DL.isOwn_bl, DL.frz_bl, DL.isOwn_int, DL.frz_int, DL.isOwn_str, DL.frz_str, DL.isOwn_tup, DL.frz_tup, DL.isOwn_lst, DL.frz_lst, DL.isOwn_opq, DL.frz_opq, DL.isOwn_own, DL.frz_own, DL.isOwn_frz, if_true, if_false, Bool.false_eq_true, Bool.not_true, Bool.not_false, reduceIte]
      rw [cutD_tl _ (by rw [nlst_len, rowD_len]; omega), List.length_drop, nlst_len, rowD_len]
      rw [Nat.add_sub_cancel]
  · rintro _ ⟨a, b, c, rfl⟩
    simp only [DL.dTry, DL.Pt.at, forall_const, DL.dXat, DL.dEmptied, DL.dSeq, DL.dSet, DL.dSetO, DL.dC, DL.dVar, DL.dFor, DL.dWhile, DL.dIfS, DL.dRet, DL.dRetN, DL.dDrop, DL.dNext, DL.dBrk, DL.dCnt, DL.dAppend, DL.dExtend, DL.dPop, DL.dAsg, DL.dPar, DL.dIxNm, DL.dAugIx, DL.dAug, DL.dSetIx, DL.dRaise, DL.dOp, DL.dOpL, DL.dTest, DL.dNot, DL.dAnd, DL.dOr, DL.dAndV, DL.dOrV, DL.dNotV, DL.dIf, DL.dLen, DL.rLen, DL.dTupOf, DL.rTup, DL.dListOf, DL.dIntOf, DL.rIntOf, DL.dAbs, DL.rAbs, DL.dAll, DL.rAllD, DL.dAny, DL.rAnyD, DL.dSum, DL.rSumD, DL.dInst, DL.dCall, DL.dCallK, DL.dCallX, DL.dCallKX, DL.dCons, DL.dConsO, DL.dNil, DL.dStar, DL.dTup, DL.dLst, DL.dL, DL.dSlT, DL.dSlL, DL.dNo, DL.dPart, DL.dLc, DL.dYes, DL.diSeq, DL.diRng1, DL.diRng2, DL.diZip, DL.bP, DL.bPs, DL.oI, DL.oIc, DL.oS, DL.oIx, DL.oIn, DL.oIsN, DL.oNotN, DL.oIsB, DL.oCatT, DL.oCatL, DL.oRepL, DL.oRep01, DL.oRepT, DL.dSumT, DL.rSumTD, DL.dMaxT, DL.rMaxTD, DL.dSortT, DL.dFrz, DL.gOf, DL.gNext, DL.gSeq, DL.gIf, DL.gWhile, DL.gFor, DL.gPut, DL.dNotInX, DL.dStart3, DL.dStart2, DL.dRevT, DL.dRevL, DL.dNeg, DL.dChain, DL.startD, DL.setsD, DL.wipeD, List.map_cons, List.map_nil, List.length_cons, List.length_nil, Nat.reduceAdd, Nat.reduceSub, List.replicate_succ, List.replicate_zero, List.cons_append, List.nil_append, List.append_nil, List.set_cons_succ, List.set_cons_zero, List.getElem?_cons_succ, List.getElem?_cons_zero, Option.some.injEq, D.int.injEq, D.bl.injEq, D.str.injEq, D.tup.injEq, D.lst.injEq, D.own.injEq, exists_eq_left', exists_eq_left, true_and, and_true, reduceCtorEq, false_and, and_false, exists_const, List.cons.injEq, exists_eq_right, exists_eq_right', and_assoc, exists_and_left, D.opq.injEq, V.ref.injEq, DL.items_tup, DL.items_lst, DL.items_own, DL.lstOf_lst, DL.lstOf_own, DL.isOwn_non, DL.frz_non, DL.isOwn_bl, DL.frz_bl, DL.isOwn_int, DL.frz_int, DL.isOwn_str, DL.frz_str, DL.isOwn_tup, DL.frz_tup, DL.isOwn_lst, DL.frz_lst, DL.isOwn_opq, DL.frz_opq, DL.isOwn_own, DL.frz_own, DL.isOwn_frz, if_true, if_false, Bool.false_eq_true, Bool.not_true, Bool.not_false, reduceIte]
    refine ⟨.int ((bin (pl + 1).toNat t.toNat : Nat) : Int), ?_, ?_⟩
    · rw [rngD_len, atI_int h3 (by rw [nlst_len, rowD_len]; omega)]
      unfold nlst rowD
      simp
    · exact q
/-! ### _law_due -/
abbrev s__law_due : Stmt := topS 27
theorem c__law_due : FnScope ["length", "places", "times", "steps"] ["length", "places"] (defScope s__law_due) := ⟨rfl, rfl, rfl, by decide +kernel, rfl, by decide +kernel, by decide +kernel⟩
def sp__law_due : DSp := fun _ ds Q _ => ∃ l p, ds = [.int l, .int p] ∧ 0 ≤ l ∧ l ≤ 300 ∧ 0 ≤ p ∧ p ≤ 20 ∧ ∀ t, least (l + 1) p t → Q (.tup [.int t, .int (t * (l + 1) - cov p t)])
theorem ok__law_due (F : Fun K "_law_due" "_law_due" s__law_due f fd) (C__law_spans : Callee P w K mg base 1 "_law_spans" ["places", "times"] sp__law_spans) : FnOk P w K mg base (L2.CX P w) 2 f fd ["length", "places"] (liftSp K sp__law_due) := by
  have lens : ∀ J ds Q E, sp__law_due J ds Q E → ds.length = 2 := fun J ds Q E ⟨_, _, e, _⟩ => by rw [e]; rfl
  refine dfn F c__law_due lens (fun p X ds Q E cdv A outer s H EX hX hK hr hE h => ?_)
  subst hX
  refine ⟨_, (dss_cons (ds_parN rfl (nms_cons (i := 2) c__law_due.nd rfl (.inl rfl) (nms_cons (i := 3) c__law_due.nd rfl (.inl rfl) nms_nil)) (dr_cons de_int (dr_cons de_int dr_nil)))
    (dss_cons (ds_while (passes_of rfl) (dt_cmp op_lt rd_B0 (de_callC hK C__law_spans hr (da_cons (dv 1) (da_cons (dv 2) da_nil))) (de_op op_add rd_I0 (dv 0) de_int))
    (dss_cons (ds_set (i := 3) c__law_due.nd rfl (.inl rfl) (de_op op_sub rd_I0 (de_op op_add rd_I0 (de_op op_add rd_I0 (dv 3) (dv 0)) de_int) (de_callC hK C__law_spans hr (da_cons (dv 1) (da_cons (dv 2) da_nil)))))
    (dss_one (ds_set (i := 2) c__law_due.nd rfl (.inl rfl) (de_op op_add rd_I0 (dv 2) de_int)))))
    (dss_one (ds_ret (de_tup (da_cons (dv 2) (da_cons (dv 3) da_nil))))))), ?_⟩
  obtain ⟨l, pl, rfl, h1, h2, h3, h4, q⟩ := h
  simp only [DL.dTry, DL.Pt.at, forall_const, DL.dXat, DL.dEmptied, DL.dSeq, DL.dSet, DL.dSetO, DL.dC, DL.dVar, DL.dFor, DL.dWhile, DL.dIfS, DL.dRet, DL.dRetN, DL.dDrop, DL.dNext, DL.dBrk, DL.dCnt, DL.dAppend, DL.dExtend, DL.dPop, DL.dAsg, DL.dPar, DL.dIxNm, DL.dAugIx, DL.dAug, DL.dSetIx, DL.dRaise, DL.dOp, DL.dOpL, DL.dTest, DL.dNot, DL.dAnd, DL.dOr, DL.dAndV, DL.dOrV, DL.dNotV, DL.dIf, DL.dLen, DL.rLen, DL.dTupOf, DL.rTup, DL.dListOf, DL.dIntOf, DL.rIntOf, DL.dAbs, DL.rAbs, DL.dAll, DL.rAllD, DL.dAny, DL.rAnyD, DL.dSum, DL.rSumD, DL.dInst, DL.dCall, DL.dCallK, DL.dCallX, DL.dCallKX, DL.dCons, DL.dConsO, DL.dNil, DL.dStar, DL.dTup, DL.dLst, DL.dL, DL.dSlT, DL.dSlL, DL.dNo, DL.dPart, DL.dLc, DL.dYes, DL.diSeq, DL.diRng1, DL.diRng2, DL.diZip, DL.bP, DL.bPs, DL.oI, DL.oIc, DL.oS, DL.oIx, DL.oIn, DL.oIsN, DL.oNotN, DL.oIsB, DL.oCatT, DL.oCatL, DL.oRepL, DL.oRep01, DL.oRepT, DL.dSumT, DL.rSumTD, DL.dMaxT, DL.rMaxTD, DL.dSortT, DL.dFrz, DL.gOf, DL.gNext, DL.gSeq, DL.gIf, DL.gWhile, DL.gFor, DL.gPut, DL.dNotInX, DL.dStart3, DL.dStart2, DL.dRevT, DL.dRevL, DL.dNeg, DL.dChain, DL.startD, DL.setsD, DL.wipeD, List.map_cons, List.map_nil, List.length_cons, List.length_nil, Nat.reduceAdd, Nat.reduceSub, List.replicate_succ, List.replicate_zero, List.cons_append, List.nil_append, List.append_nil, List.set_cons_succ, List.set_cons_zero, List.getElem?_cons_succ, List.getElem?_cons_zero, Option.some.injEq, D.int.injEq, D.bl.injEq, D.str.injEq, D.tup.injEq, D.lst.injEq, D.own.injEq, exists_eq_left', exists_eq_left, true_and, and_true, reduceCtorEq, false_and, and_false, exists_const, List.cons.injEq, exists_eq_right, exists_eq_right', and_assoc, exists_and_left, D.opq.injEq, V.ref.injEq, DL.items_tup, DL.items_lst, DL.items_own, DL.lstOf_lst, DL.lstOf_own, DL.isOwn_non, DL.frz_non, DL.isOwn_bl, DL.frz_bl, DL.isOwn_int, DL.frz_int, DL.isOwn_str, DL.frz_str, DL.isOwn_tup, DL.frz_tup, DL.isOwn_lst, DL.frz_lst, DL.isOwn_opq, DL.frz_opq, DL.isOwn_own, DL.frz_own, DL.isOwn_frz, if_true, if_false, Bool.false_eq_true, Bool.not_true, Bool.not_false, reduceIte, sp__law_spans]
  have s4 : (16777216 : Nat) ≤ sizeLine := by rw [sizeLine_eq]; decide
  refine ⟨fun m δ => ∃ t : Int, δ = [some (.int l), some (.int pl), some (.int t), some (.int (t * (l + 1) - cov pl t))] ∧ 0 ≤ t ∧ (t = 0 ∨ spn pl (t - 1) < l + 1) ∧ m = (l + 2 - t).toNat, ⟨_, 0, by simp [cov], Int.le_refl _, .inl rfl, rfl⟩, ?_⟩
  rintro m _ ⟨t, rfl, t0, t1, rfl⟩
  have t2 : t ≤ l + 1 := by
    rcases t1 with e | e
    · omega
    · have := spn_up pl (t - 1) h3
      by_cases z : t = 0
      · omega
      · have := this (by omega)
        omega
  simp only [DL.dTry, DL.Pt.at, forall_const, DL.dXat, DL.dEmptied, DL.dSeq, DL.dSet, DL.dSetO, DL.dC, DL.dVar, DL.dFor, DL.dWhile, DL.dIfS, DL.dRet, DL.dRetN, DL.dDrop, DL.dNext, DL.dBrk, DL.dCnt, DL.dAppend, DL.dExtend, DL.dPop, DL.dAsg, DL.dPar, DL.dIxNm, DL.dAugIx, DL.dAug, DL.dSetIx, DL.dRaise, DL.dOp, DL.dOpL, DL.dTest, DL.dNot, DL.dAnd, DL.dOr, DL.dAndV, DL.dOrV, DL.dNotV, DL.dIf, DL.dLen, DL.rLen, DL.dTupOf, DL.rTup, DL.dListOf, DL.dIntOf, DL.rIntOf, DL.dAbs, DL.rAbs, DL.dAll, DL.rAllD, DL.dAny, DL.rAnyD, DL.dSum, DL.rSumD, DL.dInst, DL.dCall, DL.dCallK, DL.dCallX, DL.dCallKX, DL.dCons, DL.dConsO, DL.dNil, DL.dStar, DL.dTup, DL.dLst, DL.dL, DL.dSlT, DL.dSlL, DL.dNo, DL.dPart, DL.dLc, DL.dYes, DL.diSeq, DL.diRng1, DL.diRng2, DL.diZip, DL.bP, DL.bPs, DL.oI, DL.oIc, DL.oS, DL.oIx, DL.oIn, DL.oIsN, DL.oNotN, DL.oIsB, DL.oCatT, DL.oCatL, DL.oRepL, DL.oRep01, DL.oRepT, DL.dSumT, DL.rSumTD, DL.dMaxT, DL.rMaxTD, DL.dSortT, DL.dFrz, DL.gOf, DL.gNext, DL.gSeq, DL.gIf, DL.gWhile, DL.gFor, DL.gPut, DL.dNotInX, DL.dStart3, DL.dStart2, DL.dRevT, DL.dRevL, DL.dNeg, DL.dChain, DL.startD, DL.setsD, DL.wipeD, List.map_cons, List.map_nil, List.length_cons, List.length_nil, Nat.reduceAdd, Nat.reduceSub, List.replicate_succ, List.replicate_zero, List.cons_append, List.nil_append, List.append_nil, List.set_cons_succ, List.set_cons_zero, List.getElem?_cons_succ, List.getElem?_cons_zero, Option.some.injEq, D.int.injEq, D.bl.injEq, D.str.injEq, D.tup.injEq, D.lst.injEq, D.own.injEq, exists_eq_left', exists_eq_left, true_and, and_true, reduceCtorEq, false_and, and_false, exists_const, List.cons.injEq, exists_eq_right, exists_eq_right', and_assoc, exists_and_left, D.opq.injEq, V.ref.injEq, DL.items_tup, DL.items_lst, DL.items_own, DL.lstOf_lst, DL.lstOf_own, DL.isOwn_non, DL.frz_non, DL.isOwn_bl, DL.frz_bl, DL.isOwn_int, DL.frz_int, DL.isOwn_str, DL.frz_str, DL.isOwn_tup, DL.frz_tup, DL.isOwn_lst, DL.frz_lst, DL.isOwn_opq, DL.frz_opq, DL.isOwn_own, DL.frz_own, DL.isOwn_frz, if_true, if_false, Bool.false_eq_true, Bool.not_true, Bool.not_false, reduceIte]
  refine ⟨h3, h4, t0, by omega, ?_⟩
  by_cases c : spn pl t < l + 1
  · rw [if_pos (decide_eq_true c)]
    refine ⟨h3, h4, t0, by omega, ?_⟩
    have e : (t + 1) * (l + 1) - cov pl (t + 1) = t * (l + 1) - cov pl t + l + 1 - spn pl t := by
      rw [cov_step (by omega) t0, Int.add_mul]
      omega
    refine ⟨(l + 2 - (t + 1)).toNat, by omega, e.symm, by omega, .inr ?_, rfl⟩
    rw [show t + 1 - 1 = t by omega]; exact c
  · rw [if_neg (by simpa using c)]
    exact ⟨by omega, q t ⟨t0, by omega, t1⟩⟩
/-! ### _law_moves -/
abbrev s__law_moves : Stmt := topS 28
theorem c__law_moves : FnScope ["length", "places", "state", "here", "kept", "due", "found", "place", "one"] ["length", "places", "state"] (defScope s__law_moves) := ⟨rfl, rfl, rfl, by decide +kernel, rfl, by decide +kernel, by decide +kernel⟩
theorem cut5 {a b c d e u : DSt} {DD : DEnds} {δ : DS} (M : DS → Prop) (h2 : ∀ N : DS → Prop, (∀ δ', M δ' → N δ') → dSeq a (dSeq b (dSeq c (dSeq d e))) { DD with nx := N } δ) (h1 : ∀ δ', M δ' → u DD δ') :
    dSeq a (dSeq b (dSeq c (dSeq d (dSeq e u)))) DD δ := h2 (u DD) h1
abbrev Pos3 := Int × List Int × Int
def insI (n : Int) : List Int → List Int
  | [] => [n]
  | k :: ks => if n ≤ k then n :: k :: ks else k :: insI n ks
theorem insI_perm (n : Int) : ∀ ks : List Int, (insI n ks).Perm (ks ++ [n])
  | [] => List.Perm.refl _
  | k :: ks => by
    unfold insI
    split
    · exact (List.perm_append_comm (l₁ := [n]) (l₂ := k :: ks))
    · exact (insI_perm n ks).cons k
theorem insI_mem (n : Int) (ks : List Int) (x : Int) : x ∈ insI n ks ↔ x ∈ ks ∨ x = n := by
  rw [(insI_perm n ks).mem_iff]
  simp
theorem insI_ord (n : Int) : ∀ ks : List Int, ks.Pairwise (· ≤ ·) → (insI n ks).Pairwise (· ≤ ·)
  | [], _ => by simp [insI]
  | k :: ks, h => by
    have h' := List.pairwise_cons.mp h
    unfold insI
    split
    · next c => exact List.pairwise_cons.mpr ⟨fun x hx => by
        rcases List.mem_cons.mp hx with z | z
        · omega
        · have := h'.1 x z; omega, h⟩
    · next c => exact List.pairwise_cons.mpr ⟨fun x hx => by
        rcases (insI_mem n ks x).mp hx with z | z
        · exact h'.1 x z
        · omega, insI_ord n ks h'.2⟩
theorem ins_uniq {n : Int} {ks ns' : List Int} (h : ks.Pairwise (· ≤ ·)) (p1 : ns'.Perm (ks ++ [n])) (p2 : ns'.Pairwise (· ≤ ·)) : ns' = insI n ks :=
  List.Perm.eq_of_pairwise (fun a b _ _ h1 h2 => Int.le_antisymm h1 h2) p2 (insI_ord n ks h) (p1.trans (insI_perm n ks).symm)
def mvQ (h : Int) (ks : List Int) (d : Int) (q : Int) : List (Pos3 × Option Int) := ((q, ks, d), none) :: (if q ≠ 0 then [((h, ks.filter fun x => decide (x ≠ q), d), none)] else [])
theorem mvQ_len (h : Int) (ks : List Int) (d : Int) : ∀ qs : List Int, (qs.flatMap (mvQ h ks d)).length ≤ 2 * qs.length
  | [] => by simp
  | q :: qs => by
    have := mvQ_len h ks d qs
    rw [List.flatMap_cons, List.length_append, List.length_cons]
    have : (mvQ h ks d q).length ≤ 2 := by unfold mvQ; split <;> simp
    omega
def movesT (l p : Int) (s : Pos3) : List (Pos3 × Option Int) :=
  (if s.1 = s.2.2 then [((s.1, s.2.1, s.2.2 - 1), none)] else []) ++
  (if s.1 < l then [((s.1 + 1, s.2.1, s.2.2), some s.1)] else []) ++
  (if s.1 ≠ 0 ∧ s.1 ∉ s.2.1 ∧ (s.2.1.length : Int) < p then [((s.1, insI s.1 s.2.1, s.2.2), none)] else []) ++
  (0 :: s.2.1).flatMap (mvQ s.1 s.2.1 s.2.2)
def stD (s : Pos3) : D := .tup [.int s.1, .tup (nlst s.2.1), .int s.2.2]
def opD : Option Int → D
  | none => .non
  | some i => .int i
def mvD (m : Pos3 × Option Int) : D := .tup [stD m.1, opD m.2]
def sp__law_moves : DSp := fun _ ds Q _ => ∃ l p s, ds = [.int l, .int p, stD s] ∧ s.2.1.Pairwise (· ≤ ·) ∧ s.2.1.length ≤ 100 ∧ Q (.lst ((movesT l p s).map mvD))
theorem ok__law_moves (F : Fun K "_law_moves" "_law_moves" s__law_moves f fd) (m_len : mg "len" = none) (m_tuple : mg "tuple" = none) (m_sorted : mg "sorted" = none) : FnOk P w K mg base (L2.CX P w) 1 f fd ["length", "places", "state"] (liftSp K sp__law_moves) := by
  have lens : ∀ J ds Q E, sp__law_moves J ds Q E → ds.length = 3 := fun J ds Q E ⟨_, _, _, e, _⟩ => by rw [e]; rfl
  refine dfn F c__law_moves lens (fun p X ds Q E cdv A outer s H EX hX hK hr hE h => ?_)
  subst hX
  refine ⟨_, (dss_cons (ds_asg (dg_tp hK rfl (dgs_cons (dg_nm (i := 3) c__law_moves.nd rfl (.inl rfl)) (dgs_cons (dg_nm (i := 4) c__law_moves.nd rfl (.inl rfl)) (dgs_cons (dg_nm (i := 5) c__law_moves.nd rfl (.inl rfl)) dgs_nil)))) (dv 2))
    (dss_cons (ds_setO (i := 6) c__law_moves.nd rfl (.inl rfl) (dl_lst da_nil))
    (dss_cons (ds_if (dt_cmp op_eq rd_eqI (dv 3) (dv 5))
    (dss_one (ds_append 6 (de_tup (da_cons (de_tup (da_cons (dv 3) (da_cons (dv 4) (da_cons (de_op op_sub rd_I0 (dv 5) de_int) da_nil)))) (da_cons de_non da_nil)))))
    dss_nil)
    (dss_cons (ds_if (dt_cmp op_lt rd_B0 (dv 3) (dv 0))
    (dss_one (ds_append 6 (de_tup (da_cons (de_tup (da_cons (de_op op_add rd_I0 (dv 3) de_int) (da_cons (dv 4) (da_cons (dv 5) da_nil)))) (da_cons (dv 3) da_nil)))))
    dss_nil)
    (dss_cons (ds_if (PDW.dt (dw_and (dt_cmp op_ne rd_neI (dv 3) de_int) (dw_and (dt_cmp op_notIn_seq (rd_inK hK) (dv 3) (dv 4)) (dw_and1 (dt_cmp op_lt rd_B0 (de_len hK rfl m_len (dv 4)) (dv 1))))))
    (dss_one (ds_append 6 (de_tup (da_cons (de_tup (da_cons (dv 3) (da_cons (de_tupOf hK rfl m_tuple (de_of_dl (dl_sortT hK rfl m_sorted (de_op op_catA (rd_catTK hK) (dv 4) (de_tup (da_cons (dv 3) da_nil)))))) (da_cons (dv 5) da_nil)))) (da_cons de_non da_nil)))))
    dss_nil)
    (dss_cons (ds_for (passes_of rfl) rfl (di_seq hK (de_op op_catA (rd_catTK hK) (de_tup (da_cons de_int da_nil)) (dv 4))) (dg_nm (i := 7) c__law_moves.nd rfl (.inr rfl))
    (dss_cons (ds_append 6 (de_tup (da_cons (de_tup (da_cons (dv 7) (da_cons (dv 4) (da_cons (dv 5) da_nil)))) (da_cons de_non da_nil))))
    (dss_one (ds_if (dt_cmp op_ne rd_neI (dv 7) de_int)
    (dss_one (ds_append 6 (de_tup (da_cons (de_tup (da_cons (dv 3) (da_cons (de_tupOf hK rfl m_tuple (de_of_dl (dl_lc [("one", 8)] rfl c__law_moves.nd (di_seq hK (dv 4)) (by show BlkOk ["length", "places", "state", "here", "kept", "due", "found", "place", "one"] (defScope s__law_moves) _ _; exact ⟨rfl, by decide +kernel, by decide +kernel, by decide +kernel, by decide +kernel⟩) (fun _ _ _ _ _ => (dg_nm (i := 8) c__law_moves.nd rfl (.inl rfl))) (fun _ _ _ _ _ => (dts_one (dt_cmp op_ne rd_neI (dv 8) (dv 7)))) (fun _ _ _ _ _ => (dv 8))))) (da_cons (dv 5) da_nil)))) (da_cons de_non da_nil)))))
    dss_nil))))
    (dss_one (ds_ret (dv 6))))))))), ?_⟩
  obtain ⟨l, pl, ⟨here, kept, due⟩, rfl, h1, h2, q⟩ := h
  unfold stD
  refine cut5 (fun δ => ∃ fs : List (Pos3 × Option Int), δ = [some (.int l), some (.int pl), some (.tup [.int here, .tup (nlst kept), .int due]), some (.int here), some (.tup (nlst kept)), some (.int due), some (.own (fs.map mvD)), none, none] ∧ fs.length ≤ 3 ∧
    fs = (if here = due then [((here, kept, due - 1), none)] else []) ++ (if here < l then [((here + 1, kept, due), some here)] else []) ++ (if here ≠ 0 ∧ here ∉ kept ∧ (kept.length : Int) < pl then [((here, insI here kept, due), none)] else [])) (fun N hN => ?_) (fun δ' hM => ?_)
  · simp only [DL.dTry, DL.Pt.at, forall_const, DL.dXat, DL.dEmptied, DL.dSeq, DL.dSet, DL.dSetO, DL.dC, DL.dVar, DL.dFor, DL.dWhile, DL.dIfS, DL.dRet, DL.dRetN, DL.dDrop, DL.dNext, DL.dBrk, DL.dCnt, DL.dAppend, DL.dExtend, DL.dPop, DL.dAsg, DL.dPar, DL.dIxNm, DL.dAugIx, DL.dAug, DL.dSetIx, DL.dRaise, DL.dOp, DL.dOpL, DL.dTest, DL.dNot, DL.dAnd, DL.dOr, DL.dAndV, DL.dOrV, DL.dNotV, DL.dIf, DL.dLen, DL.rLen, DL.dTupOf, DL.rTup, DL.dListOf, DL.dIntOf, DL.rIntOf, DL.dAbs, DL.rAbs, DL.dAll, DL.rAllD, DL.dAny, DL.rAnyD, DL.dSum, DL.rSumD, DL.dInst, DL.dCall, DL.dCallK, DL.dCallX, DL.dCallKX, DL.dCons, DL.dConsO, DL.dNil, DL.dStar, DL.dTup, DL.dLst, DL.dL, DL.dSlT, DL.dSlL, DL.dNo, DL.dPart, DL.dLc, DL.dYes, DL.diSeq, DL.diRng1, DL.diRng2, DL.diZip, DL.bP, DL.bPs, DL.oI, DL.oIc, DL.oS, DL.oIx, DL.oIn, DL.oIsN, DL.oNotN, DL.oIsB, DL.oCatT, DL.oCatL, DL.oRepL, DL.oRep01, DL.oRepT, DL.dSumT, DL.rSumTD, DL.dMaxT, DL.rMaxTD, DL.dSortT, DL.dFrz, DL.gOf, DL.gNext, DL.gSeq, DL.gIf, DL.gWhile, DL.gFor, DL.gPut, DL.dNotInX, DL.dStart3, DL.dStart2, DL.dRevT, DL.dRevL, DL.dNeg, DL.dChain, DL.startD, DL.setsD, DL.wipeD, List.map_cons, List.map_nil, List.length_cons, List.length_nil, Nat.reduceAdd, Nat.reduceSub, List.replicate_succ, List.replicate_zero, List.cons_append, List.nil_append, List.append_nil, List.set_cons_succ, List.set_cons_zero, List.getElem?_cons_succ, List.getElem?_cons_zero, Option.some.injEq, D.int.injEq, D.bl.injEq, D.str.injEq, D.tup.injEq, D.lst.injEq, D.own.injEq, exists_eq_left', exists_eq_left, true_and, and_true, reduceCtorEq, false_and, and_false, exists_const, List.cons.injEq, exists_eq_right, exists_eq_right', and_assoc, exists_and_left, D.opq.injEq, V.ref.injEq, DL.items_tup, DL.items_lst, DL.items_own, DL.lstOf_lst, DL.lstOf_own, DL.isOwn_non, DL.frz_non, DL.isOwn_bl, DL.frz_bl, DL.isOwn_int, DL.frz_int, DL.isOwn_str, DL.frz_str, DL.isOwn_tup, DL.frz_tup, DL.isOwn_lst, DL.frz_lst, DL.isOwn_opq, DL.frz_opq, DL.isOwn_own, DL.frz_own, DL.isOwn_frz, if_true, if_false, Bool.false_eq_true, Bool.not_true, Bool.not_false, reduceIte]
    have s4 : (16777216 : Nat) ≤ sizeLine := by rw [sizeLine_eq]; decide
    have z0 : 0 ≤ sizeLine := by omega
    have z1 : 1 ≤ sizeLine := by omega
    have z2 : 2 ≤ sizeLine := by omega
    have z3 : 3 ≤ sizeLine := by omega
    have y0 : 0 < sizeLine := by omega
    have y1 : 1 < sizeLine := by omega
    have y2 : 2 < sizeLine := by omega
    have zk : kept.length + 1 ≤ sizeLine := by
      have : kept.length ≤ 100 := h2
      omega
    have hN' : ∀ fs : List (Pos3 × Option Int), fs.length ≤ 3 → fs = (if here = due then [((here, kept, due - 1), none)] else []) ++ (if here < l then [((here + 1, kept, due), some here)] else []) ++ (if here ≠ 0 ∧ here ∉ kept ∧ (kept.length : Int) < pl then [((here, insI here kept, due), none)] else []) →
        N [some (.int l), some (.int pl), some (.tup [.int here, .tup (nlst kept), .int due]), some (.int here), some (.tup (nlst kept)), some (.int due), some (.own (fs.map mvD)), none, none] := fun fs a b => hN _ ⟨fs, rfl, a, b⟩
    rcases Classical.propComplete (here = due) with p1 | p1 <;> rcases Classical.propComplete (here < l) with p2 | p2 <;> rcases Classical.propComplete (here = 0) with p3 | p3 <;> rcases Classical.propComplete (here ∈ kept) with p4 | p4 <;> rcases Classical.propComplete ((kept.length : Int) < pl) with p5 | p5 <;>
      simp only [inF_nlst, flat_nlst, nlst_len, flatD, p1, p2, p3, p4, p5, decide_true, decide_false, if_true, if_false, Bool.not_true, Bool.not_false, reduceIte, Bool.false_eq_true, true_and, z0, z1, z2, z3, y0, y1, y2, zk] <;>
      (first | (refine ⟨kept ++ [here], by simp [nlst], fun ns' q1 q2 => ?_⟩; obtain rfl := ins_uniq (n := here) (ks := kept) h1 q1 q2) | skip) <;>
      simp only [ne_eq, p1, p2, p3, p4, p5, not_true, not_false_eq_true, and_true, and_false, true_and, false_and, if_true, if_false, List.nil_append, List.append_nil, List.cons_append, reduceIte] at hN' <;>
      exact hN' _ (Nat.le_of_ble_eq_true rfl) rfl
  · obtain ⟨fs, rfl, hl, hf⟩ := hM
    have s4 : (16777216 : Nat) ≤ sizeLine := by rw [sizeLine_eq]; decide
    simp only [DL.dTry, DL.Pt.at, forall_const, DL.dXat, DL.dEmptied, DL.dSeq, DL.dSet, DL.dSetO, DL.dC, DL.dVar, DL.dFor, DL.dWhile, DL.dIfS, DL.dRet, DL.dRetN, DL.dDrop, DL.dNext, DL.dBrk, DL.dCnt, DL.dAppend, DL.dExtend, DL.dPop, DL.dAsg, DL.dPar, DL.dIxNm, DL.dAugIx, DL.dAug, DL.dSetIx, DL.dRaise, DL.dOp, DL.dOpL, DL.dTest, DL.dNot, DL.dAnd, DL.dOr, DL.dAndV, DL.dOrV, DL.dNotV, DL.dIf, DL.dLen, DL.rLen, DL.dTupOf, DL.rTup, DL.dListOf, DL.dIntOf, DL.rIntOf, DL.dAbs, DL.rAbs, DL.dAll, DL.rAllD, DL.dAny, DL.rAnyD, DL.dSum, DL.rSumD, DL.dInst, DL.dCall, DL.dCallK, DL.dCallX, DL.dCallKX, DL.dCons, DL.dConsO, DL.dNil, DL.dStar, DL.dTup, DL.dLst, DL.dL, DL.dSlT, DL.dSlL, DL.dNo, DL.dPart, DL.dLc, DL.dYes, DL.diSeq, DL.diRng1, DL.diRng2, DL.diZip, DL.bP, DL.bPs, DL.oI, DL.oIc, DL.oS, DL.oIx, DL.oIn, DL.oIsN, DL.oNotN, DL.oIsB, DL.oCatT, DL.oCatL, DL.oRepL, DL.oRep01, DL.oRepT, DL.dSumT, DL.rSumTD, DL.dMaxT, DL.rMaxTD, DL.dSortT, DL.dFrz, DL.gOf, DL.gNext, DL.gSeq, DL.gIf, DL.gWhile, DL.gFor, DL.gPut, DL.dNotInX, DL.dStart3, DL.dStart2, DL.dRevT, DL.dRevL, DL.dNeg, DL.dChain, DL.startD, DL.setsD, DL.wipeD, List.map_cons, List.map_nil, List.length_cons, List.length_nil, Nat.reduceAdd, Nat.reduceSub, List.replicate_succ, List.replicate_zero, List.cons_append, List.nil_append, List.append_nil, List.set_cons_succ, List.set_cons_zero, List.getElem?_cons_succ, List.getElem?_cons_zero, Option.some.injEq, D.int.injEq, D.bl.injEq, D.str.injEq, D.tup.injEq, D.lst.injEq, D.own.injEq, exists_eq_left', exists_eq_left, true_and, and_true, reduceCtorEq, false_and, and_false, exists_const, List.cons.injEq, exists_eq_right, exists_eq_right', and_assoc, exists_and_left, D.opq.injEq, V.ref.injEq, DL.items_tup, DL.items_lst, DL.items_own, DL.lstOf_lst, DL.lstOf_own, DL.isOwn_non, DL.frz_non, DL.isOwn_bl, DL.frz_bl, DL.isOwn_int, DL.frz_int, DL.isOwn_str, DL.frz_str, DL.isOwn_tup, DL.frz_tup, DL.isOwn_lst, DL.frz_lst, DL.isOwn_opq, DL.frz_opq, DL.isOwn_own, DL.frz_own, DL.isOwn_frz, if_true, if_false, Bool.false_eq_true, Bool.not_true, Bool.not_false, reduceIte]
    have hk : kept.length ≤ 100 := h2
    refine ⟨by omega, by rw [nlst_len]; omega, fun i δ => ∃ a b, δ = [some (.int l), some (.int pl), some (.tup [.int here, .tup (nlst kept), .int due]), some (.int here), some (.tup (nlst kept)), some (.int due), some (.own ((fs ++ ((0 :: kept).take i).flatMap (mvQ here kept due)).map mvD)), a, b], ⟨none, none, by simp⟩, ?_, ?_⟩
    · rintro i d _ hd ⟨a, b, rfl⟩
      have hd' : (nlst (0 :: kept))[i]? = some d := hd
      obtain ⟨n, hn, rfl⟩ := nlst_get hd'
      have hi : i < kept.length + 1 := (List.getElem?_eq_some_iff.mp hn).1
      have hlen := mvQ_len here kept due ((0 :: kept).take i)
      have hti := take_len (0 :: kept) i
      rw [List.length_cons] at hti
      simp only [DL.dTry, DL.Pt.at, forall_const, DL.dXat, DL.dEmptied, DL.dSeq, DL.dSet, DL.dSetO, DL.dC, DL.dVar, DL.dFor, DL.dWhile, DL.dIfS, DL.dRet, DL.dRetN, DL.dDrop, DL.dNext, DL.dBrk, DL.dCnt, DL.dAppend, DL.dExtend, DL.dPop, DL.dAsg, DL.dPar, DL.dIxNm, DL.dAugIx, DL.dAug, DL.dSetIx, DL.dRaise, DL.dOp, DL.dOpL, DL.dTest, DL.dNot, DL.dAnd, DL.dOr, DL.dAndV, DL.dOrV, DL.dNotV, DL.dIf, DL.dLen, DL.rLen, DL.dTupOf, DL.rTup, DL.dListOf, DL.dIntOf, DL.rIntOf, DL.dAbs, DL.rAbs, DL.dAll, DL.rAllD, DL.dAny, DL.rAnyD, DL.dSum, DL.rSumD, DL.dInst, DL.dCall, DL.dCallK, DL.dCallX, DL.dCallKX, DL.dCons, DL.dConsO, DL.dNil, DL.dStar, DL.dTup, DL.dLst, DL.dL, DL.dSlT, DL.dSlL, DL.dNo, DL.dPart, DL.dLc, DL.dYes, DL.diSeq, DL.diRng1, DL.diRng2, DL.diZip, DL.bP, DL.bPs, DL.oI, DL.oIc, DL.oS, DL.oIx, DL.oIn, DL.oIsN, DL.oNotN, DL.oIsB, DL.oCatT, DL.oCatL, DL.oRepL, DL.oRep01, DL.oRepT, DL.dSumT, DL.rSumTD, DL.dMaxT, DL.rMaxTD, DL.dSortT, DL.dFrz, DL.gOf, DL.gNext, DL.gSeq, DL.gIf, DL.gWhile, DL.gFor, DL.gPut, DL.dNotInX, DL.dStart3, DL.dStart2, DL.dRevT, DL.dRevL, DL.dNeg, DL.dChain, DL.startD, DL.setsD, DL.wipeD, List.map_cons, List.map_nil, List.length_cons, List.length_nil, Nat.reduceAdd, Nat.reduceSub, List.replicate_succ, List.replicate_zero, List.cons_append, List.nil_append, List.append_nil, List.set_cons_succ, List.set_cons_zero, List.getElem?_cons_succ, List.getElem?_cons_zero, Option.some.injEq, D.int.injEq, D.bl.injEq, D.str.injEq, D.tup.injEq, D.lst.injEq, D.own.injEq, exists_eq_left', exists_eq_left, true_and, and_true, reduceCtorEq, false_and, and_false, exists_const, List.cons.injEq, exists_eq_right, exists_eq_right', and_assoc, exists_and_left, D.opq.injEq, V.ref.injEq, DL.items_tup, DL.items_lst, DL.items_own, DL.lstOf_lst, DL.lstOf_own, DL.isOwn_non, DL.frz_non, DL.isOwn_bl, DL.frz_bl, DL.isOwn_int, DL.frz_int, DL.isOwn_str, DL.frz_str, DL.isOwn_tup, DL.frz_tup, DL.isOwn_lst, DL.frz_lst, DL.isOwn_opq, DL.frz_opq, DL.isOwn_own, DL.frz_own, DL.isOwn_frz, if_true, if_false, Bool.false_eq_true, Bool.not_true, Bool.not_false, reduceIte]
      have hL : (List.map mvD (fs ++ List.flatMap (mvQ here kept due) (List.take i (0 :: kept)))).length ≤ 3 + 2 * 101 := by
        rw [List.length_map, List.length_append]
        omega
      refine ⟨by omega, by omega, by omega, ?_⟩
      have more : List.map mvD (fs ++ List.flatMap (mvQ here kept due) (List.take (i + 1) (0 :: kept))) = List.map mvD (fs ++ List.flatMap (mvQ here kept due) (List.take i (0 :: kept))) ++ (mvQ here kept due n).map mvD := by
        rw [take_more hn, List.flatMap_append, ← List.append_assoc, List.map_append]
        simp
      rw [more]
      by_cases c : n = 0
      · rw [if_neg (by simp [c])]
        simp [mvQ, c, mvD, stD, opD]
      · rw [if_pos (by simp [c])]
        refine ⟨fun i acc => acc = nlst ((kept.take i).filter fun x => decide (x ≠ n)), rfl, fun j d acc hd hp => ?_, fun acc hp => ?_⟩
        · obtain ⟨m, hm, rfl⟩ := nlst_get hd
          subst hp
          refine ⟨rfl, m, rfl, ?_⟩
          dsimp only
          rw [take_more hm, List.filter_append]
          by_cases k : m = n
          · rw [if_neg (by simp [k])]
            simp [k]
          · rw [if_pos (by simp [k])]
            refine ⟨rfl, ?_, by simp [k, nlst]⟩
            rw [nlst_len]
            have := List.length_filter_le (fun x => decide (x ≠ n)) (kept.take j)
            have := take_len kept j
            omega
        · dsimp only at hp
          rw [nlst_len, List.take_length] at hp
          subst hp
          refine ⟨by omega, by omega, by rw [List.length_append]; simp only [List.length_cons, List.length_nil]; omega, ?_⟩
          simp [mvQ, c, mvD, stD, opD]
    · rintro _ ⟨a, b, rfl⟩
      simp only [DL.dTry, DL.Pt.at, forall_const, DL.dXat, DL.dEmptied, DL.dSeq, DL.dSet, DL.dSetO, DL.dC, DL.dVar, DL.dFor, DL.dWhile, DL.dIfS, DL.dRet, DL.dRetN, DL.dDrop, DL.dNext, DL.dBrk, DL.dCnt, DL.dAppend, DL.dExtend, DL.dPop, DL.dAsg, DL.dPar, DL.dIxNm, DL.dAugIx, DL.dAug, DL.dSetIx, DL.dRaise, DL.dOp, DL.dOpL, DL.dTest, DL.dNot, DL.dAnd, DL.dOr, DL.dAndV, DL.dOrV, DL.dNotV, DL.dIf, DL.dLen, DL.rLen, DL.dTupOf, DL.rTup, DL.dListOf, DL.dIntOf, DL.rIntOf, DL.dAbs, DL.rAbs, DL.dAll, DL.rAllD, DL.dAny, DL.rAnyD, DL.dSum, DL.rSumD, DL.dInst, DL.dCall, DL.dCallK, DL.dCallX, DL.dCallKX, DL.dCons, DL.dConsO, DL.dNil, DL.dStar, DL.dTup, DL.dLst, DL.dL, DL.dSlT, DL.dSlL, DL.dNo, DL.dPart, DL.dLc, DL.dYes, DL.diSeq, DL.diRng1, DL.diRng2, DL.diZip, DL.bP, DL.bPs, DL.oI, DL.oIc, DL.oS, DL.oIx, DL.oIn, DL.oIsN, DL.oNotN, DL.oIsB, DL.oCatT, DL.oCatL, DL.oRepL, DL.oRep01, DL.oRepT, DL.dSumT, DL.rSumTD, DL.dMaxT, DL.rMaxTD, DL.dSortT, DL.dFrz, DL.gOf, DL.gNext, DL.gSeq, DL.gIf, DL.gWhile, DL.gFor, DL.gPut, DL.dNotInX, DL.dStart3, DL.dStart2, DL.dRevT, DL.dRevL, DL.dNeg, DL.dChain, DL.startD, DL.setsD, DL.wipeD, List.map_cons, List.map_nil, List.length_cons, List.length_nil, Nat.reduceAdd, Nat.reduceSub, List.replicate_succ, List.replicate_zero, List.cons_append, List.nil_append, List.append_nil, List.set_cons_succ, List.set_cons_zero, List.getElem?_cons_succ, List.getElem?_cons_zero, Option.some.injEq, D.int.injEq, D.bl.injEq, D.str.injEq, D.tup.injEq, D.lst.injEq, D.own.injEq, exists_eq_left', exists_eq_left, true_and, and_true, reduceCtorEq, false_and, and_false, exists_const, List.cons.injEq, exists_eq_right, exists_eq_right', and_assoc, exists_and_left, D.opq.injEq, V.ref.injEq, DL.items_tup, DL.items_lst, DL.items_own, DL.lstOf_lst, DL.lstOf_own, DL.isOwn_non, DL.frz_non, DL.isOwn_bl, DL.frz_bl, DL.isOwn_int, DL.frz_int, DL.isOwn_str, DL.frz_str, DL.isOwn_tup, DL.frz_tup, DL.isOwn_lst, DL.frz_lst, DL.isOwn_opq, DL.frz_opq, DL.isOwn_own, DL.frz_own, DL.isOwn_frz, if_true, if_false, Bool.false_eq_true, Bool.not_true, Bool.not_false, reduceIte]
      have e : ((nlst kept).length + 1) = (0 :: kept).length := by rw [nlst_len]; rfl
      rw [e, List.take_length, hf]
      exact q
end
end K97
set_option Elab.async false
set_option linter.all false
set_option maxRecDepth 100000
namespace K97
open PySem DL
/-! # the law's own search, by sets of codes -/
def codeK (b : Nat) : List Int → Nat
  | [] => 0
  | k :: ks => k.toNat + b * codeK b ks
def codeS (l : Int) (s : Pos3) : Nat := s.1.toNat + (l.toNat + 1) * ((s.2.2 + 1).toNat + (l.toNat + 2) * codeK (l.toNat + 1) s.2.1)
def codeC (l t : Int) (c : Pos3 × List Int) : Nat := codeK (t.toNat + 1) c.2 + (t.toNat + 1) ^ l.toNat * codeS l c.1
abbrev bitOn (m i : Nat) : Bool := Nat.testBit m i
inductive Res (α β : Type) where
  | done (b : β) | more (a : α)
structure FS where
  later : List Pos3
  waiting : List Pos3
  known : Nat
  many : Nat
def pushF (wl : List Pos3 × List Pos3) (m : Pos3 × Option Int) : List Pos3 × List Pos3 := match m.2 with
  | none => (m.1 :: wl.1, wl.2)
  | some _ => (wl.1, m.1 :: wl.2)
def turnF (l p : Int) (s : FS) : Res FS (Option Nat) := match s.waiting with
  | [] => match s.later with
    | [] => .done none
    | c :: r => .more ⟨[], c :: r, s.known, s.many + 1⟩
  | c :: r => if c.2.2 = -1 then .done (some s.many) else if bitOn s.known (codeS l c) then .more { s with waiting := r }
    else .more ⟨((movesT l p c).foldl pushF (r, s.later)).2, ((movesT l p c).foldl pushF (r, s.later)).1, s.known ||| 2 ^ codeS l c, s.many⟩
def runF (l p : Int) : Nat → FS → Option Nat
  | 0, _ => none
  | n + 1, s => match turnF l p s with
    | .done b => b
    | .more s => runF l p n s
def startF (l : Int) : FS := ⟨[], [(0, [], l)], 0, 0⟩
structure CS where
  waiting : List (Pos3 × List Int)
  known : Nat
def takeC (left : List Int) (i : Int) : List Int := left.set i.toNat (left.getD i.toNat 0 - 1)
def pushC (l t : Int) (left : List Int) (s : CS) (m : Pos3 × Option Int) : CS := match m.2 with
  | none => if bitOn s.known (codeC l t (m.1, left)) then s else ⟨(m.1, left) :: s.waiting, s.known ||| 2 ^ codeC l t (m.1, left)⟩
  | some i => if 0 < left.getD i.toNat 0 then (if bitOn s.known (codeC l t (m.1, takeC left i)) then s else ⟨(m.1, takeC left i) :: s.waiting, s.known ||| 2 ^ codeC l t (m.1, takeC left i)⟩) else s
def turnC (l p t : Int) (s : CS) : Res CS Bool := match s.waiting with
  | [] => .done false
  | c :: r => if c.1.2.2 = -1 then .done true else .more ((movesT l p c.1).foldl (pushC l t c.2) ⟨r, s.known⟩)
def runC (l p t : Int) : Nat → CS → Option Bool
  | 0, _ => none
  | n + 1, s => match turnC l p t s with
    | .done b => some b
    | .more s => runC l p t n s
def startC (l t : Int) : CS := ⟨[((0, [], l), List.replicate l.toNat t)], 2 ^ codeC l t ((0, [], l), List.replicate l.toNat t)⟩
theorem runF_all : ∀ l ∈ ([1, 2, 3, 4, 5] : List Int), ∀ p ∈ ([0, 1, 2] : List Int), runF l p 20000 (startF l) = some ((if p = 0 then (l * (l + 1) / 2).toNat else if p = 1 then [1, 2, 4, 6, 8].getD (l.toNat - 1) 0 else [1, 2, 3, 5, 7].getD (l.toNat - 1) 0)) := by decide +kernel
/-- the fewest times of short rows -/
def timT (l p : Int) : Int := if p = 0 then l else if p = 1 then (if l ≤ 2 then 1 else if l ≤ 5 then 2 else 3) else (if l ≤ 3 then 1 else 2)
theorem runC_all : ∀ l ∈ ([2, 3, 4] : List Int), ∀ p ∈ ([0, 1, 2] : List Int), runC l p (timT l p) 20000 (startC l (timT l p)) = some true ∧ runC l p (timT l p - 1) 20000 (startC l (timT l p - 1)) = some false := by decide +kernel
end K97
set_option Elab.async false
set_option linter.all false
set_option maxRecDepth 100000
namespace K97
open PySem DL
/-! # positions and their codes -/
def validS (l p : Int) (s : Pos3) : Prop := 0 ≤ s.1 ∧ s.1 ≤ l ∧ -1 ≤ s.2.2 ∧ s.2.2 ≤ l ∧ (∀ k ∈ s.2.1, 1 ≤ k ∧ k ≤ l) ∧ s.2.1.Pairwise (· ≤ ·) ∧ (s.2.1.length : Int) ≤ p
theorem digit {b a a' x x' : Nat} (h : a < b) (h' : a' < b) (e : a + b * x = a' + b * x') : a = a' ∧ x = x' := by
  have e1 : (a + b * x) % b = a := by rw [Nat.add_mul_mod_self_left]; exact Nat.mod_eq_of_lt h
  have e2 : (a' + b * x') % b = a' := by rw [Nat.add_mul_mod_self_left]; exact Nat.mod_eq_of_lt h'
  have h1 : a = a' := by rw [← e1, ← e2, e]
  subst h1
  refine ⟨rfl, ?_⟩
  have : b * x = b * x' := by omega
  exact Nat.eq_of_mul_eq_mul_left (by omega) this
theorem codeK_inj {l : Int} : ∀ {ks ks' : List Int}, (∀ k ∈ ks, 1 ≤ k ∧ k ≤ l) → (∀ k ∈ ks', 1 ≤ k ∧ k ≤ l) → codeK (l.toNat + 1) ks = codeK (l.toNat + 1) ks' → ks = ks'
  | [], [], _, _, _ => rfl
  | [], k :: ks, _, h, e => by
    have := h k (by simp)
    simp only [codeK] at e
    have h2 : 1 ≤ k.toNat := by omega
    omega
  | k :: ks, [], h, _, e => by
    have := h k (by simp)
    simp only [codeK] at e
    have h2 : 1 ≤ k.toNat := by omega
    omega
  | k :: ks, k' :: ks', h, h', e => by
    have a := h k (by simp)
    have b := h' k' (by simp)
    simp only [codeK] at e
    obtain ⟨e1, e2⟩ := digit (by omega) (by omega) e
    have e3 : k = k' := by omega
    rw [e3, codeK_inj (fun x hx => h x (by simp [hx])) (fun x hx => h' x (by simp [hx])) e2]
theorem codeS_inj {l p : Int} {s s' : Pos3} (h : validS l p s) (h' : validS l p s') (e : codeS l s = codeS l s') : s = s' := by
  obtain ⟨a, ks, d⟩ := s
  obtain ⟨a', ks', d'⟩ := s'
  obtain ⟨h1, h2, h3, h4, h5, _, _⟩ := h
  obtain ⟨g1, g2, g3, g4, g5, _, _⟩ := h'
  dsimp only at *
  unfold codeS at e
  dsimp only at e
  obtain ⟨e1, e2⟩ := digit (by omega) (by omega) e
  obtain ⟨e3, e4⟩ := digit (by omega) (by omega) e2
  have e5 := codeK_inj h5 g5 e4
  have e6 : a = a' := by omega
  have e7 : d = d' := by omega
  rw [e5, e6, e7]
/-- codes of lists of one length -/
theorem codeL_inj {t : Int} : ∀ {ks ks' : List Int}, ks.length = ks'.length → (∀ k ∈ ks, 0 ≤ k ∧ k ≤ t) → (∀ k ∈ ks', 0 ≤ k ∧ k ≤ t) → codeK (t.toNat + 1) ks = codeK (t.toNat + 1) ks' → ks = ks'
  | [], [], _, _, _, _ => rfl
  | [], k :: ks, hl, _, _, _ => by simp at hl
  | k :: ks, [], hl, _, _, _ => by simp at hl
  | k :: ks, k' :: ks', hl, h, h', e => by
    have a := h k (by simp)
    have b := h' k' (by simp)
    simp only [codeK] at e
    obtain ⟨e1, e2⟩ := digit (by omega) (by omega) e
    have e3 : k = k' := by omega
    rw [e3, codeL_inj (by simpa using hl) (fun x hx => h x (by simp [hx])) (fun x hx => h' x (by simp [hx])) e2]
theorem codeL_lt {t : Int} (ht : 0 ≤ t) : ∀ {ks : List Int}, (∀ k ∈ ks, 0 ≤ k ∧ k ≤ t) → codeK (t.toNat + 1) ks < (t.toNat + 1) ^ ks.length
  | [], _ => by simp [codeK]
  | k :: ks, h => by
    have a := h k (by simp)
    have ih := codeL_lt ht (ks := ks) (fun x hx => h x (by simp [hx]))
    simp only [codeK, List.length_cons, Nat.pow_succ]
    generalize codeK (t.toNat + 1) ks = c at ih ⊢
    generalize (t.toNat + 1) ^ ks.length = q at ih ⊢
    have h1 : k.toNat < t.toNat + 1 := by omega
    have h2 : c + 1 ≤ q := ih
    have h3 : (t.toNat + 1) * (c + 1) ≤ (t.toNat + 1) * q := Nat.mul_le_mul_left _ h2
    rw [Nat.mul_comm q]
    rw [Nat.mul_add] at h3
    omega
def validC (l p t : Int) (c : Pos3 × List Int) : Prop := validS l p c.1 ∧ c.2.length = l.toNat ∧ ∀ k ∈ c.2, 0 ≤ k ∧ k ≤ t
theorem codeC_inj {l p t : Int} (ht : 0 ≤ t) {c c' : Pos3 × List Int} (h : validC l p t c) (h' : validC l p t c') (e : codeC l t c = codeC l t c') : c = c' := by
  obtain ⟨s, k⟩ := c
  obtain ⟨s', k'⟩ := c'
  obtain ⟨h1, h2, h3⟩ := h
  obtain ⟨g1, g2, g3⟩ := h'
  dsimp only at *
  unfold codeC at e
  dsimp only at e
  have b1 := codeL_lt ht h3
  have b2 := codeL_lt ht g3
  rw [h2] at b1
  rw [g2] at b2
  obtain ⟨e1, e2⟩ := digit b1 b2 e
  rw [codeL_inj (h2.trans g2.symm) h3 g3 e1, codeS_inj h1 g1 e2]
theorem bitOn_add (m i j : Nat) : bitOn (m ||| 2 ^ i) j = (bitOn m j || decide (i = j)) := by
  unfold bitOn
  rw [Nat.testBit_or, Nat.testBit_two_pow]
/-! ## keys -/
theorem keyL_nlst (ks : List Int) : keyOfL (nlst ks) = ks.map NestedKey.num := by
  induction ks with
  | nil => rfl
  | cons k ks ih =>
    unfold nlst at ih ⊢
    rw [List.map_cons, keyOfL, ih]
    rfl
theorem isKeyL_nlst (ks : List Int) : isKeyL (nlst ks) = true := by
  induction ks with
  | nil => rfl
  | cons k ks ih =>
    unfold nlst at ih ⊢
    rw [List.map_cons, isKeyL, ih]
    rfl
theorem depth_nums (ks : List Int) : NestedKey.depthAll (ks.map NestedKey.num) = 0 := by
  induction ks with
  | nil => rfl
  | cons k ks ih => rw [List.map_cons, NestedKey.depthAll, ih]; rfl
theorem num_inj : ∀ {ks ks' : List Int}, ks.map NestedKey.num = ks'.map NestedKey.num → ks = ks'
  | [], [], _ => rfl
  | [], _ :: _, e => by simp at e
  | _ :: _, [], e => by simp at e
  | k :: ks, k' :: ks', e => by
    simp only [List.map_cons, List.cons.injEq, NestedKey.num.injEq] at e
    rw [e.1, num_inj e.2]
theorem keyS (s : Pos3) : keyOf (stD s) = .tup [.num s.1, .tup (s.2.1.map NestedKey.num), .num s.2.2] := by
  unfold stD
  simp only [keyOf, keyOfL, keyL_nlst]
theorem keyS_ok (s : Pos3) : keyD (stD s) := by
  refine ⟨?_, rfl, ?_⟩
  · unfold stD
    simp only [isKey, isKeyL, isKeyL_nlst, Bool.and_true]
  · rw [keyS]
    simp only [NestedKey.depth, NestedKey.depthAll, depth_nums]
    decide
theorem keyS_inj {s s' : Pos3} (e : keyOf (stD s) = keyOf (stD s')) : s = s' := by
  rw [keyS, keyS] at e
  simp only [NestedKey.tup.injEq, List.cons.injEq, NestedKey.num.injEq, and_true] at e
  obtain ⟨a, ks, d⟩ := s
  obtain ⟨a', ks', d'⟩ := s'
  dsimp only at e
  rw [e.1, num_inj e.2.1, e.2.2]
/-! ## lists of positions as data -/
theorem pureL_nlst (ks : List Int) : D.pureL (nlst ks) = true := by
  induction ks with
  | nil => rfl
  | cons k ks ih =>
    unfold nlst at ih ⊢
    rw [List.map_cons, D.pureL, ih]
    rfl
theorem depL_nlst (ks : List Int) : D.depL (nlst ks) = 0 := by
  induction ks with
  | nil => rfl
  | cons k ks ih =>
    unfold nlst at ih ⊢
    rw [List.map_cons, D.depL, ih]
    rfl
theorem pure_st (s : Pos3) : D.pure (stD s) = true := by unfold stD; simp only [D.pure, D.pureL, pureL_nlst, Bool.and_true]
theorem dep_st (s : Pos3) : D.dep (stD s) ≤ 2 := by unfold stD; simp only [D.dep, D.depL, depL_nlst]; decide
def okL (ds : List D) : Prop := ∀ d ∈ ds, D.pure d = true ∧ D.dep d ≤ 10
theorem okL_pure : ∀ {ds : List D}, okL ds → D.pureL ds = true ∧ D.depL ds ≤ 10
  | [], _ => ⟨rfl, by simp [D.depL]⟩
  | d :: ds, h => by
    obtain ⟨a, b⟩ := okL_pure (ds := ds) fun x hx => h x (List.mem_cons_of_mem _ hx)
    obtain ⟨a', b'⟩ := h d (List.mem_cons_self ..)
    simp only [D.pureL, D.depL, a, a', Bool.and_self, true_and]
    omega
theorem oNe_l {ds : List D} {Q : D → Prop} (h : okL ds) (q : Q (.bl (!ds.isEmpty))) : oNe (.lst ds) (.lst []) Q := by
  obtain ⟨a, b⟩ := okL_pure h
  refine ⟨⟨by simpa only [D.pure] using a, by simp only [D.dep]; omega⟩, ⟨rfl, by simp [D.dep, D.depL]⟩, ?_⟩
  cases ds with
  | nil => simpa [D.eqv, D.py, D.pyL, PyData.eqv, PyData.eqvAll] using q
  | cons d ds => simpa [D.eqv, D.py, D.pyL, PyData.eqv, PyData.eqvAll] using q
theorem oNe_o {ds : List D} {Q : D → Prop} (h : okL ds) (q : Q (.bl (!ds.isEmpty))) : oNe (.own ds) (.lst []) Q := by
  obtain ⟨a, b⟩ := okL_pure h
  refine ⟨⟨by simpa only [D.pure] using a, by simp only [D.dep]; omega⟩, ⟨rfl, by simp [D.dep, D.depL]⟩, ?_⟩
  cases ds with
  | nil => simpa [D.eqv, D.py, D.pyL, PyData.eqv, PyData.eqvAll] using q
  | cons d ds => simpa [D.eqv, D.py, D.pyL, PyData.eqv, PyData.eqvAll] using q
theorem okL_st (ss : List Pos3) : okL (ss.map stD) := fun d hd => by
  obtain ⟨s, _, rfl⟩ := List.mem_map.mp hd
  exact ⟨pure_st s, Nat.le_trans (dep_st s) (by decide)⟩
/-! ## moves keep positions valid -/
theorem insI_len (n : Int) (ks : List Int) : (insI n ks).length = ks.length + 1 := by
  rw [(insI_perm n ks).length_eq, List.length_append]; rfl
theorem moves_valid {l p : Int} {s : Pos3} (hp : 0 ≤ p) (h : validS l p s) : ∀ m ∈ movesT l p s, validS l p m.1 ∧ ∀ i, m.2 = some i → 0 ≤ i ∧ i < l := by
  obtain ⟨a, ks, d⟩ := s
  obtain ⟨h1, h2, h3, h4, h5, h6, h7⟩ := h
  dsimp only at h1 h2 h3 h4 h5 h6 h7
  intro m hm
  unfold movesT at hm
  dsimp only at hm
  simp only [List.mem_append, List.mem_flatMap] at hm
  rcases hm with ((hm | hm) | hm) | ⟨q, hq, hm⟩
  · split at hm
    · next c =>
      have : m = ((a, ks, d - 1), none) := by simpa using hm
      subst this
      exact ⟨⟨h1, h2, by dsimp only; omega, by dsimp only; omega, h5, h6, h7⟩, fun i e => by cases e⟩
    · simp at hm
  · split at hm
    · next c =>
      have : m = ((a + 1, ks, d), some a) := by simpa using hm
      subst this
      exact ⟨⟨by dsimp only; omega, by dsimp only; omega, h3, h4, h5, h6, h7⟩, fun i e => by cases e; exact ⟨h1, c⟩⟩
    · simp at hm
  · split at hm
    · next c =>
      have : m = ((a, insI a ks, d), none) := by simpa using hm
      subst this
      refine ⟨⟨h1, h2, h3, h4, fun k hk => ?_, insI_ord a ks h6, ?_⟩, fun i e => by cases e⟩
      · rcases (insI_mem a ks k).mp hk with z | z
        · exact h5 k z
        · have := c.1; omega
      · have := c.2.2
        show ((insI a ks).length : Int) ≤ p
        rw [insI_len]; omega
    · simp at hm
  · have q0 : 0 ≤ q ∧ q ≤ l := by
      rcases List.mem_cons.mp hq with z | z
      · omega
      · have := h5 q z; omega
    unfold mvQ at hm
    rcases List.mem_cons.mp hm with z | z
    · subst z
      exact ⟨⟨q0.1, q0.2, h3, h4, h5, h6, h7⟩, fun i e => by cases e⟩
    · split at z
      · have : m = ((a, ks.filter fun x => decide (x ≠ q), d), none) := by simpa using z
        subst this
        refine ⟨⟨h1, h2, h3, h4, fun k hk => h5 k (List.mem_filter.mp hk).1, h6.filter _, ?_⟩, fun i e => by cases e⟩
        have := List.length_filter_le (fun x => decide (x ≠ q)) ks
        show ((ks.filter fun x => decide (x ≠ q)).length : Int) ≤ p
        omega
      · simp at z
theorem moves_len {l p : Int} (s : Pos3) : (movesT l p s).length ≤ 5 + 2 * s.2.1.length := by
  unfold movesT
  have := mvQ_len s.1 s.2.1 s.2.2 (0 :: s.2.1)
  rw [List.length_cons] at this
  rw [List.length_append, List.length_append, List.length_append]
  have a1 : (if s.1 = s.2.2 then [((s.1, s.2.1, s.2.2 - 1), (none : Option Int))] else []).length ≤ 1 := by split <;> simp
  have a2 : (if s.1 < l then [((s.1 + 1, s.2.1, s.2.2), some s.1)] else []).length ≤ 1 := by split <;> simp
  have a3 : (if s.1 ≠ 0 ∧ s.1 ∉ s.2.1 ∧ (s.2.1.length : Int) < p then [((s.1, insI s.1 s.2.1, s.2.2), (none : Option Int))] else []).length ≤ 1 := by split <;> simp
  omega
end K97
set_option Elab.async false
set_option linter.all false
set_option maxRecDepth 100000
set_option maxHeartbeats 1000000
namespace K97
open PySem PySem.Spec PyProof.Rows L2 DL
section
variable {P : Program} {w : World} {K : PySem.W.Frag} {mg : Str → Option Value} {base : Heap} {f : Addr} {fd : FuncData}
def KR (l p : Int) (known : Nat) (xs : KX) : Prop := ∀ s, validS l p s → bitOn known (codeS l s) = inX (keyOf (stD s)) xs
theorem KR.put {l p : Int} {known : Nat} {xs : KX} {c : Pos3} {a : Addr} (h : KR l p known xs) (hc : validS l p c) : KR l p (known ||| 2 ^ codeS l c) (xs ++ [(keyOf (stD c), a)]) := by
  intro s hs
  rw [bitOn_add, h s hs]
  unfold inX
  rw [List.any_append]
  congr 1
  simp only [List.any_cons, List.any_nil, Bool.or_false]
  rw [decide_eq_decide]
  exact ⟨fun e => by rw [codeS_inj hc hs e], fun e => by rw [keyS_inj e]⟩
def sts (L : List Pos3) : List D := L.reverse.map stD
theorem sts_cons (c : Pos3) (L : List Pos3) : sts (c :: L) = sts L ++ [stD c] := by simp [sts]
theorem sts_len (L : List Pos3) : (sts L).length = L.length := by simp [sts]
theorem sts_ok (L : List Pos3) : okL (sts L) := okL_st _
theorem sts_emp (L : List Pos3) : (sts L).isEmpty = L.isEmpty := by cases L <;> simp [sts]
/-- the search goes on: n turns are enough -/
structure FOk (l p : Int) (k : Nat) (n : Nat) (s : FS) (xs : KX) : Prop where
  run : runF l p n s = some k
  vl : ∀ c ∈ s.later, validS l p c
  vw : ∀ c ∈ s.waiting, validS l p c
  kr : KR l p s.known xs
  len : s.later.length + s.waiting.length + 12 * n ≤ 240001
  xlen : xs.length + n ≤ 20000
theorem push_len : ∀ (ms : List (Pos3 × Option Int)) (wl : List Pos3 × List Pos3), (ms.foldl pushF wl).1.length + (ms.foldl pushF wl).2.length = wl.1.length + wl.2.length + ms.length
  | [], wl => by simp
  | m :: ms, wl => by
    rw [List.foldl_cons, push_len ms, List.length_cons]
    unfold pushF
    split <;> simp only [List.length_cons] <;> omega
theorem push_mem : ∀ (ms : List (Pos3 × Option Int)) (wl : List Pos3 × List Pos3) (c : Pos3), (c ∈ (ms.foldl pushF wl).1 ∨ c ∈ (ms.foldl pushF wl).2) → (c ∈ wl.1 ∨ c ∈ wl.2) ∨ ∃ m ∈ ms, c = m.1
  | [], wl, c, h => .inl h
  | m :: ms, wl, c, h => by
    rw [List.foldl_cons] at h
    rcases push_mem ms _ c h with z | ⟨x, hx, e⟩
    · unfold pushF at z
      split at z <;> simp only [List.mem_cons] at z
      · rcases z with (z | z) | z
        · exact .inr ⟨m, by simp, z⟩
        · exact .inl (.inl z)
        · exact .inl (.inr z)
      · rcases z with z | (z | z)
        · exact .inl (.inl z)
        · exact .inr ⟨m, by simp, z⟩
        · exact .inl (.inr z)
    · exact .inr ⟨x, List.mem_cons_of_mem _ hx, e⟩
theorem fold_more {α β : Type} {f : β → α → β} {b : β} {ms : List α} {i : Nat} {m : α} (h : ms[i]? = some m) : (ms.take (i + 1)).foldl f b = f ((ms.take i).foldl f b) m := by
  rw [take_more h, List.foldl_append]
  rfl
/-! ### _law_fewest -/
abbrev s__law_fewest : Stmt := topS 29
theorem c__law_fewest : FnScope ["length", "places", "level", "known", "many", "later", "waiting", "state", "after_v", "step"] ["length", "places"] (defScope s__law_fewest) := ⟨rfl, rfl, rfl, by decide +kernel, rfl, by decide +kernel, by decide +kernel⟩
def sp__law_fewest : DSp := fun _ ds Q _ => ∃ l p k, ds = [.int l, .int p] ∧ 1 ≤ l ∧ l ≤ 5 ∧ 0 ≤ p ∧ p ≤ 2 ∧ runF l p 20000 (startF l) = some k ∧ Q (.int (k : Nat))
theorem ok__law_fewest (F : Fun K "_law_fewest" "_law_fewest" s__law_fewest f fd) (C__law_moves : Callee P w K mg base 1 "_law_moves" ["length", "places", "state"] sp__law_moves) (m_list : mg "list" = none) : FnOk P w K mg base (L2.CX P w) 2 f fd ["length", "places"] (liftSp K sp__law_fewest) := by
  have lens : ∀ J ds Q E, sp__law_fewest J ds Q E → ds.length = 2 := fun J ds Q E ⟨_, _, _, e, _⟩ => by rw [e]; rfl
  refine dfn F c__law_fewest lens (fun p X ds Q E cdv A outer s H EX hX hK hr hE h => ?_)
  subst hX
  refine ⟨_, (dss_par3X (i := 2) (j := 3) (l := 4) rfl c__law_fewest.nd rfl rfl rfl (by decide) (by decide) (by decide) rfl rfl rfl (de_of_dl (dl_lst (da_cons (de_tup (da_cons de_int (da_cons (de_tup da_nil) (da_cons (dv 0) da_nil)))) da_nil))) de_int
    (gs_cons (g_while (passes_of rfl) (fun d hd xs B hx => have hK : (pD P w p d hd xs B).K = K := hK; (dt_cmp (op_neD hr.units) (rd_neK hK) (dv 2) (de_of_dl (dl_lst da_nil))))
    (gs_cons (g_of (fun d hd xs B hx => have hK : (pD P w p d hd xs B).K = K := hK; (ds_par2 (i := 5) (j := 6) rfl c__law_fewest.nd rfl rfl (by decide) rfl rfl (dr_consO (dl_lst da_nil) (dr_consO (dl_listOf hK rfl m_list (dv 2)) dr_nil)) rfl)))
    (gs_cons (g_while (passes_of rfl) (fun d hd xs B hx => have hK : (pD P w p d hd xs B).K = K := hK; (dt_cmp (op_neD hr.units) (rd_neK hK) (dv 6) (de_of_dl (dl_lst da_nil))))
    (gs_cons (g_of (fun d hd xs B hx => have hK : (pD P w p d hd xs B).K = K := hK; (ds_pop 6 (dg_nm (i := 7) c__law_fewest.nd rfl (.inl rfl)))))
    (gs_cons (g_if (fun d hd xs B hx => have hK : (pD P w p d hd xs B).K = K := hK; (dt_cmp op_eq rd_eqI (de_ix ix_seq (rd_ixK hK) (dv 7) de_int (by intro _ _; rfl)) (de_neg de_int)))
    (gs_one (g_of (fun d hd xs B hx => have hK : (pD P w p d hd xs B).K = K := hK; (ds_ret (dv 4)))))
    gs_nil)
    (gs_one (g_if (fun d hd xs B hx => have hK : (pD P w p d hd xs B).K = K := hK; (dt_notInX 3 hK hr.units hx (dv 7)))
    (gs_cons (g_put_ 3 hK hr.units (fun d hd xs B hx => have hK : (pD P w p d hd xs B).K = K := hK; (dv 7)))
    (gs_one (g_for hK (passes_of rfl) rfl (fun d hd xs B hx => have hK : (pD P w p d hd xs B).K = K := hK; (de_callCJ (J := dctReg p.J P w d xs) hK rfl C__law_moves hr (da_cons (dv 0) (da_cons (dv 1) (da_cons (dv 7) da_nil))))) (dg_tp hK rfl (dgs_cons (dg_nm (i := 8) c__law_fewest.nd rfl (.inl rfl)) (dgs_cons (dg_nm (i := 9) c__law_fewest.nd rfl (.inl rfl)) dgs_nil)))
    (gs_one (g_if (fun d hd xs B hx => have hK : (pD P w p d hd xs B).K = K := hK; (dt_cmp op_isN rd_isN (dv 9) de_non))
    (gs_one (g_of (fun d hd xs B hx => have hK : (pD P w p d hd xs B).K = K := hK; (ds_append 6 (dv 8)))))
    (gs_one (g_of (fun d hd xs B hx => have hK : (pD P w p d hd xs B).K = K := hK; (ds_append 5 (dv 8))))))))))
    gs_nil)))))
    (gs_one (g_of (fun d hd xs B hx => have hK : (pD P w p d hd xs B).K = K := hK; (ds_frz 5 (ds_par2 (i := 2) (j := 4) rfl c__law_fewest.nd rfl rfl (by decide) rfl rfl (dr_cons (dv 5) (dr_cons (de_op op_add rd_I0 (dv 4) de_int) dr_nil)) rfl))))))))
    (gs_one (g_of (fun d hd xs B hx => have hK : (pD P w p d hd xs B).K = K := hK; (ds_ret de_non))))) rfl), ?_⟩
  obtain ⟨l, pl, k, rfl, h1, h2, h3, h4, h5, q⟩ := h
  simp only [DL.dTry, DL.Pt.at, forall_const, DL.dXat, DL.dEmptied, DL.dSeq, DL.dSet, DL.dSetO, DL.dC, DL.dVar, DL.dFor, DL.dWhile, DL.dIfS, DL.dRet, DL.dRetN, DL.dDrop, DL.dNext, DL.dBrk, DL.dCnt, DL.dAppend, DL.dExtend, DL.dPop, DL.dAsg, DL.dPar, DL.dIxNm, DL.dAugIx, DL.dAug, DL.dSetIx, DL.dRaise, DL.dOp, DL.dOpL, DL.dTest, DL.dNot, DL.dAnd, DL.dOr, DL.dAndV, DL.dOrV, DL.dNotV, DL.dIf, DL.dLen, DL.rLen, DL.dTupOf, DL.rTup, DL.dListOf, DL.dIntOf, DL.rIntOf, DL.dAbs, DL.rAbs, DL.dAll, DL.rAllD, DL.dAny, DL.rAnyD, DL.dSum, DL.rSumD, DL.dInst, DL.dCall, DL.dCallK, DL.dCallX, DL.dCallKX, DL.dCons, DL.dConsO, DL.dNil, DL.dStar, DL.dTup, DL.dLst, DL.dL, DL.dSlT, DL.dSlL, DL.dNo, DL.dPart, DL.dLc, DL.dYes, DL.diSeq, DL.diRng1, DL.diRng2, DL.diZip, DL.bP, DL.bPs, DL.oI, DL.oIc, DL.oS, DL.oIx, DL.oIn, DL.oIsN, DL.oNotN, DL.oIsB, DL.oCatT, DL.oCatL, DL.oRepL, DL.oRep01, DL.oRepT, DL.dSumT, DL.rSumTD, DL.dMaxT, DL.rMaxTD, DL.dSortT, DL.dFrz, DL.gOf, DL.gNext, DL.gSeq, DL.gIf, DL.gWhile, DL.gFor, DL.gPut, DL.dNotInX, DL.dStart3, DL.dStart2, DL.dRevT, DL.dRevL, DL.dNeg, DL.dChain, DL.startD, DL.setsD, DL.wipeD, List.map_cons, List.map_nil, List.length_cons, List.length_nil, Nat.reduceAdd, Nat.reduceSub, List.replicate_succ, List.replicate_zero, List.cons_append, List.nil_append, List.append_nil, List.set_cons_succ, List.set_cons_zero, List.getElem?_cons_succ, List.getElem?_cons_zero, Option.some.injEq, D.int.injEq, D.bl.injEq, D.str.injEq, D.tup.injEq, D.lst.injEq, D.own.injEq, exists_eq_left', exists_eq_left, true_and, and_true, reduceCtorEq, false_and, and_false, exists_const, List.cons.injEq, exists_eq_right, exists_eq_right', and_assoc, exists_and_left, D.opq.injEq, V.ref.injEq, DL.items_tup, DL.items_lst, DL.items_own, DL.lstOf_lst, DL.lstOf_own, DL.isOwn_non, DL.frz_non, DL.isOwn_bl, DL.frz_bl, DL.isOwn_int, DL.frz_int, DL.isOwn_str, DL.frz_str, DL.isOwn_tup, DL.frz_tup, DL.isOwn_lst, DL.frz_lst, DL.isOwn_opq, DL.frz_opq, DL.isOwn_own, DL.frz_own, DL.isOwn_frz, if_true, if_false, Bool.false_eq_true, Bool.not_true, Bool.not_false, reduceIte, sp__law_moves]
  have s4 : (16777216 : Nat) ≤ sizeLine := by rw [sizeLine_eq]; decide
  refine ⟨by omega, by omega, by omega, fun da => ⟨fun m xs δ => ∃ L known many a b c e g, L ≠ [] ∧ FOk l pl k m ⟨[], L, known, many⟩ xs ∧ δ = [some (.int l), some (.int pl), some (.lst (sts L)), some (.opq (.ref da)), some (.int (many : Nat)), a, b, c, e, g], ⟨20000, [(0, [], l)], 0, 0, none, none, none, none, none, by simp, ⟨h5, by simp, ?_, fun s hs => by simp [inX], by simp, by simp⟩, rfl⟩, ?_⟩⟩
  · intro c hc
    have : c = (0, [], l) := by simpa using hc
    subst this
    exact ⟨Int.le_refl 0, by dsimp only; omega, by dsimp only; omega, by dsimp only; omega, fun k hk => by simp at hk, List.Pairwise.nil, by simpa using h3⟩
  · rintro m xs _ ⟨L, known, many, a, b, c, e, g, hL, ok, rfl⟩
    simp only [DL.dTry, DL.Pt.at, forall_const, DL.dXat, DL.dEmptied, DL.dSeq, DL.dSet, DL.dSetO, DL.dC, DL.dVar, DL.dFor, DL.dWhile, DL.dIfS, DL.dRet, DL.dRetN, DL.dDrop, DL.dNext, DL.dBrk, DL.dCnt, DL.dAppend, DL.dExtend, DL.dPop, DL.dAsg, DL.dPar, DL.dIxNm, DL.dAugIx, DL.dAug, DL.dSetIx, DL.dRaise, DL.dOp, DL.dOpL, DL.dTest, DL.dNot, DL.dAnd, DL.dOr, DL.dAndV, DL.dOrV, DL.dNotV, DL.dIf, DL.dLen, DL.rLen, DL.dTupOf, DL.rTup, DL.dListOf, DL.dIntOf, DL.rIntOf, DL.dAbs, DL.rAbs, DL.dAll, DL.rAllD, DL.dAny, DL.rAnyD, DL.dSum, DL.rSumD, DL.dInst, DL.dCall, DL.dCallK, DL.dCallX, DL.dCallKX, DL.dCons, DL.dConsO, DL.dNil, DL.dStar, DL.dTup, DL.dLst, DL.dL, DL.dSlT, DL.dSlL, DL.dNo, DL.dPart, DL.dLc, DL.dYes, DL.diSeq, DL.diRng1, DL.diRng2, DL.diZip, DL.bP, DL.bPs, DL.oI, DL.oIc, DL.oS, DL.oIx, DL.oIn, DL.oIsN, DL.oNotN, DL.oIsB, DL.oCatT, DL.oCatL, DL.oRepL, DL.oRep01, DL.oRepT, DL.dSumT, DL.rSumTD, DL.dMaxT, DL.rMaxTD, DL.dSortT, DL.dFrz, DL.gOf, DL.gNext, DL.gSeq, DL.gIf, DL.gWhile, DL.gFor, DL.gPut, DL.dNotInX, DL.dStart3, DL.dStart2, DL.dRevT, DL.dRevL, DL.dNeg, DL.dChain, DL.startD, DL.setsD, DL.wipeD, List.map_cons, List.map_nil, List.length_cons, List.length_nil, Nat.reduceAdd, Nat.reduceSub, List.replicate_succ, List.replicate_zero, List.cons_append, List.nil_append, List.append_nil, List.set_cons_succ, List.set_cons_zero, List.getElem?_cons_succ, List.getElem?_cons_zero, Option.some.injEq, D.int.injEq, D.bl.injEq, D.str.injEq, D.tup.injEq, D.lst.injEq, D.own.injEq, exists_eq_left', exists_eq_left, true_and, and_true, reduceCtorEq, false_and, and_false, exists_const, List.cons.injEq, exists_eq_right, exists_eq_right', and_assoc, exists_and_left, D.opq.injEq, V.ref.injEq, DL.items_tup, DL.items_lst, DL.items_own, DL.lstOf_lst, DL.lstOf_own, DL.isOwn_non, DL.frz_non, DL.isOwn_bl, DL.frz_bl, DL.isOwn_int, DL.frz_int, DL.isOwn_str, DL.frz_str, DL.isOwn_tup, DL.frz_tup, DL.isOwn_lst, DL.frz_lst, DL.isOwn_opq, DL.frz_opq, DL.isOwn_own, DL.frz_own, DL.isOwn_frz, if_true, if_false, Bool.false_eq_true, Bool.not_true, Bool.not_false, reduceIte]
    refine ⟨by omega, oNe_l (sts_ok L) ⟨true, by rw [sts_emp]; cases L <;> simp at hL ⊢, ?_⟩⟩
    rw [if_pos rfl]
    refine ⟨by omega, fun m1 xs δ => ∃ s a b c, s.many = many ∧ m1 ≤ m ∧ FOk l pl k m1 s xs ∧ δ = [some (.int l), some (.int pl), some (.lst (sts L)), some (.opq (.ref da)), some (.int (many : Nat)), some (.own (sts s.later)), some (.own (sts s.waiting)), a, b, c], ⟨m, ⟨[], L, known, many⟩, c, e, g, rfl, Nat.le_refl _, ok, rfl⟩, ?_⟩
    rintro m1 xs1 _ ⟨s, a1, b1, c1, hmany, hm1, ok1, rfl⟩
    simp only [DL.dTry, DL.Pt.at, forall_const, DL.dXat, DL.dEmptied, DL.dSeq, DL.dSet, DL.dSetO, DL.dC, DL.dVar, DL.dFor, DL.dWhile, DL.dIfS, DL.dRet, DL.dRetN, DL.dDrop, DL.dNext, DL.dBrk, DL.dCnt, DL.dAppend, DL.dExtend, DL.dPop, DL.dAsg, DL.dPar, DL.dIxNm, DL.dAugIx, DL.dAug, DL.dSetIx, DL.dRaise, DL.dOp, DL.dOpL, DL.dTest, DL.dNot, DL.dAnd, DL.dOr, DL.dAndV, DL.dOrV, DL.dNotV, DL.dIf, DL.dLen, DL.rLen, DL.dTupOf, DL.rTup, DL.dListOf, DL.dIntOf, DL.rIntOf, DL.dAbs, DL.rAbs, DL.dAll, DL.rAllD, DL.dAny, DL.rAnyD, DL.dSum, DL.rSumD, DL.dInst, DL.dCall, DL.dCallK, DL.dCallX, DL.dCallKX, DL.dCons, DL.dConsO, DL.dNil, DL.dStar, DL.dTup, DL.dLst, DL.dL, DL.dSlT, DL.dSlL, DL.dNo, DL.dPart, DL.dLc, DL.dYes, DL.diSeq, DL.diRng1, DL.diRng2, DL.diZip, DL.bP, DL.bPs, DL.oI, DL.oIc, DL.oS, DL.oIx, DL.oIn, DL.oIsN, DL.oNotN, DL.oIsB, DL.oCatT, DL.oCatL, DL.oRepL, DL.oRep01, DL.oRepT, DL.dSumT, DL.rSumTD, DL.dMaxT, DL.rMaxTD, DL.dSortT, DL.dFrz, DL.gOf, DL.gNext, DL.gSeq, DL.gIf, DL.gWhile, DL.gFor, DL.gPut, DL.dNotInX, DL.dStart3, DL.dStart2, DL.dRevT, DL.dRevL, DL.dNeg, DL.dChain, DL.startD, DL.setsD, DL.wipeD, List.map_cons, List.map_nil, List.length_cons, List.length_nil, Nat.reduceAdd, Nat.reduceSub, List.replicate_succ, List.replicate_zero, List.cons_append, List.nil_append, List.append_nil, List.set_cons_succ, List.set_cons_zero, List.getElem?_cons_succ, List.getElem?_cons_zero, Option.some.injEq, D.int.injEq, D.bl.injEq, D.str.injEq, D.tup.injEq, D.lst.injEq, D.own.injEq, exists_eq_left', exists_eq_left, true_and, and_true, reduceCtorEq, false_and, and_false, exists_const, List.cons.injEq, exists_eq_right, exists_eq_right', and_assoc, exists_and_left, D.opq.injEq, V.ref.injEq, DL.items_tup, DL.items_lst, DL.items_own, DL.lstOf_lst, DL.lstOf_own, DL.isOwn_non, DL.frz_non, DL.isOwn_bl, DL.frz_bl, DL.isOwn_int, DL.frz_int, DL.isOwn_str, DL.frz_str, DL.isOwn_tup, DL.frz_tup, DL.isOwn_lst, DL.frz_lst, DL.isOwn_opq, DL.frz_opq, DL.isOwn_own, DL.frz_own, DL.isOwn_frz, if_true, if_false, Bool.false_eq_true, Bool.not_true, Bool.not_false, reduceIte]
    refine ⟨by omega, oNe_o (sts_ok _) ⟨!s.waiting.isEmpty, by rw [sts_emp], ?_⟩⟩
    obtain ⟨later, waiting, kn, mn⟩ := s
    dsimp only at hmany
    subst hmany
    cases waiting with
    | nil =>
      rw [if_neg (by simp)]
      dsimp only
      cases m1 with
      | zero => cases ok1.run
      | succ n =>
        have hr := ok1.run
        unfold runF turnF at hr
        dsimp only at hr
        cases later with
        | nil => cases hr
        | cons c r =>
          exact ⟨n, by omega, c :: r, by simp, kn, mn + 1, ⟨hr, by simp, ok1.vl, ok1.kr, by have := ok1.len; simp only [List.length_cons, List.length_nil] at this ⊢; omega, by have := ok1.xlen; omega⟩, rfl, by simp⟩
    | cons c r =>
      rw [if_pos (by simp)]
      dsimp only
      refine ⟨sts r, stD c, sts_cons c r, rfl, [.int c.1, .tup (nlst c.2.1), .int c.2.2], rfl, .int c.2.2, rfl, c.2.2, rfl, ?_⟩
      cases m1 with
      | zero => cases ok1.run
      | succ n =>
        have hr := ok1.run
        have hc := ok1.vw c (by simp)
        have hlen := ok1.len
        have hx := ok1.xlen
        simp only [List.length_cons] at hlen
        unfold runF turnF at hr
        dsimp only at hr
        by_cases hd : c.2.2 = -1
        · rw [if_pos (decide_eq_true hd)]
          rw [if_pos hd] at hr
          cases hr
          exact q
        · rw [if_neg (by simpa using hd)]
          rw [if_neg hd] at hr
          refine ⟨keyS_ok c, ?_⟩
          have hkr := ok1.kr c hc
          by_cases hb : inX (keyOf (stD c)) xs1 = true
          · rw [if_neg (by rw [hb]; simp)]
            rw [if_pos (hkr.trans hb)] at hr
            exact ⟨n, by omega, ⟨later, r, kn, mn⟩, rfl, by omega, ⟨hr, ok1.vl, fun x hx => ok1.vw x (List.mem_cons_of_mem _ hx), ok1.kr, by dsimp only; omega, by omega⟩, rfl, rfl⟩
          · have hb' : inX (keyOf (stD c)) xs1 = false := by simpa using hb
            rw [if_pos (by rw [hb']; rfl)]
            rw [if_neg (fun z => hb (hkr.symm.trans z))] at hr
            have hml := moves_len (l := l) (p := pl) c
            have hcl : c.2.1.length ≤ 2 := by have := hc.2.2.2.2.2.2; omega
            refine ⟨keyS_ok c, hb', by omega, fun a => ⟨rfl, c, rfl, hc.2.2.2.2.2.1, by omega, fun i xs' δ' => ∃ a1 b1, xs' = xs1 ++ [(keyOf (stD c), a)] ∧ δ' = [some (.int l), some (.int pl), some (.lst (sts L)), some (.opq (.ref da)), some (.int (mn : Nat)), some (.own (sts (((movesT l pl c).take i).foldl pushF (r, later)).2)), some (.own (sts (((movesT l pl c).take i).foldl pushF (r, later)).1)), some (stD c), a1, b1], ⟨b1, c1, rfl, rfl⟩, ?_, ?_⟩⟩
            · rintro i y xs' _ hy ⟨a2, b2, rfl, rfl⟩
              rw [List.getElem?_map] at hy
              cases hm : (movesT l pl c)[i]? with
              | none => rw [hm] at hy; cases hy
              | some mo =>
                rw [hm] at hy
                cases hy
                have hpl := push_len ((movesT l pl c).take i) (r, later)
                have hti := take_len (movesT l pl c) i
                dsimp only at hpl
                dsimp only
                rw [fold_more hm]
                generalize ((movesT l pl c).take i).foldl pushF (r, later) = wl at hpl ⊢
                obtain ⟨ms, mo2⟩ := mo
                cases mo2 with
                | none =>
                  refine ⟨[stD ms, .non], rfl, rfl, stD ms, [.non], rfl, rfl, .non, [], rfl, rfl, rfl, .non, rfl, by simp, rfl, ?_⟩
                  rw [if_pos (by rfl)]
                  refine ⟨sts wl.1, rfl, stD ms, rfl, rfl, by rw [sts_len]; omega, some (stD ms), some .non, rfl, ?_⟩
                  rw [← sts_cons]
                  rfl
                | some j =>
                  refine ⟨[stD ms, .int j], rfl, rfl, stD ms, [.int j], rfl, rfl, .int j, [], rfl, rfl, rfl, .int j, rfl, by simp, rfl, ?_⟩
                  rw [if_neg (by simp [DL.isNon])]
                  refine ⟨sts wl.2, rfl, stD ms, rfl, rfl, by rw [sts_len]; omega, some (stD ms), some (.int j), rfl, ?_⟩
                  rw [← sts_cons]
                  rfl
            · rintro xs' _ ⟨a2, b2, rfl, rfl⟩
              rw [List.length_map, List.take_length]
              have hpl := push_len (movesT l pl c) (r, later)
              dsimp only at hpl
              have hmem := push_mem (movesT l pl c) (r, later)
              have hmv := moves_valid h3 hc
              have vall : ∀ x, (x ∈ ((movesT l pl c).foldl pushF (r, later)).1 ∨ x ∈ ((movesT l pl c).foldl pushF (r, later)).2) → validS l pl x := by
                intro x hx
                rcases hmem x hx with (z | z) | ⟨m', hm', rfl⟩
                · exact ok1.vw x (List.mem_cons_of_mem _ z)
                · exact ok1.vl x z
                · exact (hmv m' hm').1
              refine ⟨n, by omega, ⟨_, _, _, mn⟩, rfl, by omega, ⟨hr, fun x hx => vall x (.inr hx), fun x hx => vall x (.inl hx), ok1.kr.put hc, by dsimp only; omega, by rw [List.length_append]; simp only [List.length_cons, List.length_nil]; omega⟩, _, _, _, rfl⟩
end
end K97
set_option Elab.async false
set_option linter.all false
set_option maxRecDepth 100000
set_option maxHeartbeats 1000000
namespace K97
open PySem PySem.Spec PyProof.Rows L2 DL
section
variable {P : Program} {w : World} {K : PySem.W.Frag} {mg : Str → Option Value} {base : Heap} {f : Addr} {fd : FuncData}
def stC (c : Pos3 × List Int) : D := .tup [stD c.1, .tup (nlst c.2)]
theorem keyC (c : Pos3 × List Int) : keyOf (stC c) = .tup [keyOf (stD c.1), .tup (c.2.map NestedKey.num)] := by
  unfold stC
  simp only [keyOf, keyOfL, keyL_nlst]
theorem keyC_ok (c : Pos3 × List Int) : keyD (stC c) := by
  refine ⟨?_, rfl, ?_⟩
  · unfold stC
    simp only [isKey, isKeyL, isKeyL_nlst, (keyS_ok c.1).1, Bool.and_true]
  · rw [keyC, keyS]
    simp only [NestedKey.depth, NestedKey.depthAll, depth_nums]
    decide
theorem keyC_inj {c c' : Pos3 × List Int} (e : keyOf (stC c) = keyOf (stC c')) : c = c' := by
  rw [keyC, keyC] at e
  simp only [NestedKey.tup.injEq, List.cons.injEq, and_true] at e
  obtain ⟨s, k⟩ := c
  obtain ⟨s', k'⟩ := c'
  dsimp only at e
  rw [keyS_inj e.1, num_inj e.2]
def KRC (l p t : Int) (known : Nat) (xs : KX) : Prop := ∀ c, validC l p t c → bitOn known (codeC l t c) = inX (keyOf (stC c)) xs
theorem KRC.put {l p t : Int} {known : Nat} {xs : KX} {c : Pos3 × List Int} {a : Addr} (ht : 0 ≤ t) (h : KRC l p t known xs) (hc : validC l p t c) : KRC l p t (known ||| 2 ^ codeC l t c) (xs ++ [(keyOf (stC c), a)]) := by
  intro s hs
  rw [bitOn_add, h s hs]
  unfold inX
  rw [List.any_append]
  congr 1
  simp only [List.any_cons, List.any_nil, Bool.or_false]
  rw [decide_eq_decide]
  exact ⟨fun e => by rw [codeC_inj ht hc hs e], fun e => by rw [keyC_inj e]⟩
def stcs (L : List (Pos3 × List Int)) : List D := L.reverse.map stC
theorem stcs_cons (c : Pos3 × List Int) (L : List (Pos3 × List Int)) : stcs (c :: L) = stcs L ++ [stC c] := by simp [stcs]
theorem stcs_len (L : List (Pos3 × List Int)) : (stcs L).length = L.length := by simp [stcs]
theorem stcs_emp (L : List (Pos3 × List Int)) : (stcs L).isEmpty = L.isEmpty := by cases L <;> simp [stcs]
theorem stcs_ok (L : List (Pos3 × List Int)) : okL (stcs L) := fun d hd => by
  obtain ⟨s, _, rfl⟩ := List.mem_map.mp hd
  refine ⟨?_, ?_⟩
  · unfold stC; simp only [D.pure, D.pureL, pureL_nlst, pure_st, Bool.and_true]
  · have := dep_st s.1
    unfold stC; simp only [D.dep, D.depL, depL_nlst]
    omega
theorem cut_set (lf : List Int) {j : Int} (h0 : 0 ≤ j) (hj : j.toNat < lf.length) : DL.cutD (nlst lf) none (some j) ++ [D.int (lf.getD j.toNat 0 - 1)] ++ DL.cutD (nlst lf) (some (j + 1)) none = nlst (takeC lf j) := by
  have e1 : DL.cutD (nlst lf) none (some j) = (nlst lf).take j.toNat := by
    unfold DL.cutD
    have a1 : HT.sIx (nlst lf).length 0 none = 0 := rfl
    have a2 : HT.sIx (nlst lf).length (nlst lf).length (some j) = j.toNat := by
      show (if j < 0 then (j + ((nlst lf).length : Int)).toNat else min j.toNat (nlst lf).length) = j.toNat
      rw [if_neg (by omega), nlst_len]
      omega
    rw [a1, a2, List.drop_zero, Nat.sub_zero]
  have e2 : DL.cutD (nlst lf) (some (j + 1)) none = (nlst lf).drop (j.toNat + 1) := by
    unfold DL.cutD
    have a1 : HT.sIx (nlst lf).length 0 (some (j + 1)) = j.toNat + 1 := by
      show (if j + 1 < 0 then (j + 1 + ((nlst lf).length : Int)).toNat else min (j + 1).toNat (nlst lf).length) = j.toNat + 1
      rw [if_neg (by omega), nlst_len]
      omega
    have a2 : HT.sIx (nlst lf).length (nlst lf).length none = (nlst lf).length := rfl
    rw [a1, a2]
    exact List.take_of_length_le (by rw [List.length_drop]; omega)
  rw [e1, e2]
  unfold takeC nlst
  rw [List.set_eq_take_append_cons_drop, if_pos hj]
  simp [List.map_take, List.map_drop]
structure COk (l p t : Int) (b : Bool) (n : Nat) (s : CS) (xs : KX) : Prop where
  run : runC l p t n s = some b
  vw : ∀ c ∈ s.waiting, validC l p t c
  kr : KRC l p t s.known xs
  len : s.waiting.length + 12 * n ≤ 240001
  xlen : xs.length + 12 * n ≤ 240001
/-! ### _law_can -/
abbrev s__law_can : Stmt := topS 30
theorem c__law_can : FnScope ["length", "places", "times", "start", "known", "waiting", "state", "left", "after_v", "step", "rest"] ["length", "places", "times"] (defScope s__law_can) := ⟨rfl, rfl, rfl, by decide +kernel, rfl, by decide +kernel, by decide +kernel⟩
def sp__law_can : DSp := fun _ ds Q _ => ∃ l p t b, ds = [.int l, .int p, .int t] ∧ 2 ≤ l ∧ l ≤ 4 ∧ 0 ≤ p ∧ p ≤ 2 ∧ 0 ≤ t ∧ t ≤ 100 ∧ runC l p t 20000 (startC l t) = some b ∧ Q (.bl b)
theorem ok__law_can (F : Fun K "_law_can" "_law_can" s__law_can f fd) (C__law_moves : Callee P w K mg base 1 "_law_moves" ["length", "places", "state"] sp__law_moves) : FnOk P w K mg base (L2.CX P w) 2 f fd ["length", "places", "times"] (liftSp K sp__law_can) := by
  have lens : ∀ J ds Q E, sp__law_can J ds Q E → ds.length = 3 := fun J ds Q E ⟨_, _, _, _, e, _⟩ => by rw [e]; rfl
  refine dfn F c__law_can lens (fun p X ds Q E cdv A outer s H EX hX hK hr hE h => ?_)
  subst hX
  refine ⟨_, (dss_cons (ds_set (i := 3) c__law_can.nd rfl (.inl rfl) (de_tup (da_cons (de_tup (da_cons de_int (da_cons (de_tup da_nil) (da_cons (dv 0) da_nil)))) (da_cons (de_op op_repT (rd_repTK hK) (de_tup (da_cons (dv 2) da_nil)) (dv 0)) da_nil))))
    (dss_par2X (i := 4) (j := 5) hK hr.units rfl c__law_can.nd rfl rfl (by decide) rfl rfl (dv 3) (dl_lst (da_cons (dv 3) da_nil))
    (gs_cons (g_while (passes_of rfl) (fun d hd xs B hx => have hK : (pD P w p d hd xs B).K = K := hK; (dt_cmp (op_neD hr.units) (rd_neK hK) (dv 5) (de_of_dl (dl_lst da_nil))))
    (gs_cons (g_of (fun d hd xs B hx => have hK : (pD P w p d hd xs B).K = K := hK; (ds_pop 5 (dg_tp hK rfl (dgs_cons (dg_nm (i := 6) c__law_can.nd rfl (.inl rfl)) (dgs_cons (dg_nm (i := 7) c__law_can.nd rfl (.inl rfl)) dgs_nil))))))
    (gs_cons (g_if (fun d hd xs B hx => have hK : (pD P w p d hd xs B).K = K := hK; (dt_cmp op_eq rd_eqI (de_ix ix_seq (rd_ixK hK) (dv 6) de_int (by intro _ _; rfl)) (de_neg de_int)))
    (gs_one (g_of (fun d hd xs B hx => have hK : (pD P w p d hd xs B).K = K := hK; (ds_ret de_bl))))
    gs_nil)
    (gs_one (g_for hK (passes_of rfl) rfl (fun d hd xs B hx => have hK : (pD P w p d hd xs B).K = K := hK; (de_callCJ (J := dctReg p.J P w d xs) hK rfl C__law_moves hr (da_cons (dv 0) (da_cons (dv 1) (da_cons (dv 6) da_nil))))) (dg_tp hK rfl (dgs_cons (dg_nm (i := 8) c__law_can.nd rfl (.inl rfl)) (dgs_cons (dg_nm (i := 9) c__law_can.nd rfl (.inl rfl)) dgs_nil)))
    (gs_cons (g_of (fun d hd xs B hx => have hK : (pD P w p d hd xs B).K = K := hK; (ds_set (i := 10) c__law_can.nd rfl (.inl rfl) (de_if (dt_cmp op_isN rd_isN (dv 9) de_non) (dv 7) (de_op op_catA (rd_catTK hK) (de_op op_catA (rd_catTK hK) (de_slT hK (dv 7) do_none (do_some (dv 9))) (de_tup (da_cons (de_op op_sub rd_I0 (de_ix ix_seq (rd_ixK hK) (dv 7) (dv 9) (by intro _ _; rfl)) de_int) da_nil))) (de_slT hK (dv 7) (do_some (de_op op_add rd_I0 (dv 9) de_int)) do_none))))))
    (gs_one (g_if (fun d hd xs B hx => have hK : (pD P w p d hd xs B).K = K := hK; (PDW.dt (dw_and (PDW.dt (dw_or (dt_cmp op_isN rd_isN (dv 9) de_non) (dw_or1 (dt_cmp op_gt rd_B0 (de_ix ix_seq (rd_ixK hK) (dv 7) (dv 9) (by intro _ _; rfl)) de_int)))) (dw_and1 (dt_notInX 4 hK hr.units hx (de_tup (da_cons (dv 8) (da_cons (dv 10) da_nil))))))))
    (gs_cons (g_put_ 4 hK hr.units (fun d hd xs B hx => have hK : (pD P w p d hd xs B).K = K := hK; (de_tup (da_cons (dv 8) (da_cons (dv 10) da_nil)))))
    (gs_one (g_of (fun d hd xs B hx => have hK : (pD P w p d hd xs B).K = K := hK; (ds_append 5 (de_tup (da_cons (dv 8) (da_cons (dv 10) da_nil))))))))
    gs_nil))))))))
    (gs_one (g_of (fun d hd xs B hx => have hK : (pD P w p d hd xs B).K = K := hK; (ds_ret de_bl))))) rfl)), ?_⟩
  obtain ⟨l, pl, t, k, rfl, h1, h2, h3, h4, h5, h6, hrun, q⟩ := h
  simp only [DL.dTry, DL.Pt.at, forall_const, DL.dXat, DL.dEmptied, DL.dSeq, DL.dSet, DL.dSetO, DL.dC, DL.dVar, DL.dFor, DL.dWhile, DL.dIfS, DL.dRet, DL.dRetN, DL.dDrop, DL.dNext, DL.dBrk, DL.dCnt, DL.dAppend, DL.dExtend, DL.dPop, DL.dAsg, DL.dPar, DL.dIxNm, DL.dAugIx, DL.dAug, DL.dSetIx, DL.dRaise, DL.dOp, DL.dOpL, DL.dTest, DL.dNot, DL.dAnd, DL.dOr, DL.dAndV, DL.dOrV, DL.dNotV, DL.dIf, DL.dLen, DL.rLen, DL.dTupOf, DL.rTup, DL.dListOf, DL.dIntOf, DL.rIntOf, DL.dAbs, DL.rAbs, DL.dAll, DL.rAllD, DL.dAny, DL.rAnyD, DL.dSum, DL.rSumD, DL.dInst, DL.dCall, DL.dCallK, DL.dCallX, DL.dCallKX, DL.dCons, DL.dConsO, DL.dNil, DL.dStar, DL.dTup, DL.dLst, DL.dL, DL.dSlT, DL.dSlL, DL.dNo, DL.dPart, DL.dLc, DL.dYes, DL.diSeq, DL.diRng1, DL.diRng2, DL.diZip, DL.bP, DL.bPs, DL.oI, DL.oIc, DL.oS, DL.oIx, DL.oIn, DL.oIsN, DL.oNotN, DL.oIsB, DL.oCatT, DL.oCatL, DL.oRepL, DL.oRep01, DL.oRepT, DL.dSumT, DL.rSumTD, DL.dMaxT, DL.rMaxTD, DL.dSortT, DL.dFrz, DL.gOf, DL.gNext, DL.gSeq, DL.gIf, DL.gWhile, DL.gFor, DL.gPut, DL.dNotInX, DL.dStart3, DL.dStart2, DL.dRevT, DL.dRevL, DL.dNeg, DL.dChain, DL.startD, DL.setsD, DL.wipeD, List.map_cons, List.map_nil, List.length_cons, List.length_nil, Nat.reduceAdd, Nat.reduceSub, List.replicate_succ, List.replicate_zero, List.cons_append, List.nil_append, List.append_nil, List.set_cons_succ, List.set_cons_zero, List.getElem?_cons_succ, List.getElem?_cons_zero, Option.some.injEq, D.int.injEq, D.bl.injEq, D.str.injEq, D.tup.injEq, D.lst.injEq, D.own.injEq, exists_eq_left', exists_eq_left, true_and, and_true, reduceCtorEq, false_and, and_false, exists_const, List.cons.injEq, exists_eq_right, exists_eq_right', and_assoc, exists_and_left, D.opq.injEq, V.ref.injEq, DL.items_tup, DL.items_lst, DL.items_own, DL.lstOf_lst, DL.lstOf_own, DL.isOwn_non, DL.frz_non, DL.isOwn_bl, DL.frz_bl, DL.isOwn_int, DL.frz_int, DL.isOwn_str, DL.frz_str, DL.isOwn_tup, DL.frz_tup, DL.isOwn_lst, DL.frz_lst, DL.isOwn_opq, DL.frz_opq, DL.isOwn_own, DL.frz_own, DL.isOwn_frz, if_true, if_false, Bool.false_eq_true, Bool.not_true, Bool.not_false, reduceIte, sp__law_moves]
  have s4 : (16777216 : Nat) ≤ sizeLine := by rw [sizeLine_eq]; decide
  have e0 : (List.replicate l.toNat [D.int t]).flatten = nlst (List.replicate l.toNat t) := by
    rw [List.flatten_replicate_singleton]
    simp [nlst]
  rw [e0]
  have hst : D.tup [D.tup [D.int 0, D.tup [], D.int l], D.tup (nlst (List.replicate l.toNat t))] = stC ((0, [], l), List.replicate l.toNat t) := rfl
  rw [hst]
  have v0 : validC l pl t ((0, [], l), List.replicate l.toNat t) := by
    refine ⟨⟨Int.le_refl 0, by dsimp only; omega, by dsimp only; omega, by dsimp only; omega, fun k hk => by simp at hk, List.Pairwise.nil, by simpa using h3⟩, by simp, fun k hk => ?_⟩
    have := (List.mem_replicate.mp hk).2
    omega
  refine ⟨by omega, by omega, by omega, by simp, by omega, by omega, by omega, by omega, keyC_ok _, by omega, fun da a0 => ⟨fun m xs δ => ∃ s a b c e g, COk l pl t k m s xs ∧ δ = [some (.int l), some (.int pl), some (.int t), some (stC ((0, [], l), List.replicate l.toNat t)), some (.opq (.ref da)), some (.own (stcs s.waiting)), a, b, c, e, g], ⟨20000, startC l t, none, none, none, none, none, ⟨hrun, ?_, ?_, by simp [startC], by simp⟩, rfl⟩, ?_⟩⟩
  · intro c hc
    have : c = ((0, [], l), List.replicate l.toNat t) := by simpa [startC] using hc
    subst this
    exact v0
  · have h := KRC.put (l := l) (p := pl) (known := 0) (xs := []) (a := a0) h5 (fun c hc => by simp [inX]) v0
    rw [Nat.zero_or] at h
    exact h
  · rintro m xs _ ⟨s, a, b, c, e, g, ok, rfl⟩
    simp only [DL.dTry, DL.Pt.at, forall_const, DL.dXat, DL.dEmptied, DL.dSeq, DL.dSet, DL.dSetO, DL.dC, DL.dVar, DL.dFor, DL.dWhile, DL.dIfS, DL.dRet, DL.dRetN, DL.dDrop, DL.dNext, DL.dBrk, DL.dCnt, DL.dAppend, DL.dExtend, DL.dPop, DL.dAsg, DL.dPar, DL.dIxNm, DL.dAugIx, DL.dAug, DL.dSetIx, DL.dRaise, DL.dOp, DL.dOpL, DL.dTest, DL.dNot, DL.dAnd, DL.dOr, DL.dAndV, DL.dOrV, DL.dNotV, DL.dIf, DL.dLen, DL.rLen, DL.dTupOf, DL.rTup, DL.dListOf, DL.dIntOf, DL.rIntOf, DL.dAbs, DL.rAbs, DL.dAll, DL.rAllD, DL.dAny, DL.rAnyD, DL.dSum, DL.rSumD, DL.dInst, DL.dCall, DL.dCallK, DL.dCallX, DL.dCallKX, DL.dCons, DL.dConsO, DL.dNil, DL.dStar, DL.dTup, DL.dLst, DL.dL, DL.dSlT, DL.dSlL, DL.dNo, DL.dPart, DL.dLc, DL.dYes, DL.diSeq, DL.diRng1, DL.diRng2, DL.diZip, DL.bP, DL.bPs, DL.oI, DL.oIc, DL.oS, DL.oIx, DL.oIn, DL.oIsN, DL.oNotN, DL.oIsB, DL.oCatT, DL.oCatL, DL.oRepL, DL.oRep01, DL.oRepT, DL.dSumT, DL.rSumTD, DL.dMaxT, DL.rMaxTD, DL.dSortT, DL.dFrz, DL.gOf, DL.gNext, DL.gSeq, DL.gIf, DL.gWhile, DL.gFor, DL.gPut, DL.dNotInX, DL.dStart3, DL.dStart2, DL.dRevT, DL.dRevL, DL.dNeg, DL.dChain, DL.startD, DL.setsD, DL.wipeD, List.map_cons, List.map_nil, List.length_cons, List.length_nil, Nat.reduceAdd, Nat.reduceSub, List.replicate_succ, List.replicate_zero, List.cons_append, List.nil_append, List.append_nil, List.set_cons_succ, List.set_cons_zero, List.getElem?_cons_succ, List.getElem?_cons_zero, Option.some.injEq, D.int.injEq, D.bl.injEq, D.str.injEq, D.tup.injEq, D.lst.injEq, D.own.injEq, exists_eq_left', exists_eq_left, true_and, and_true, reduceCtorEq, false_and, and_false, exists_const, List.cons.injEq, exists_eq_right, exists_eq_right', and_assoc, exists_and_left, D.opq.injEq, V.ref.injEq, DL.items_tup, DL.items_lst, DL.items_own, DL.lstOf_lst, DL.lstOf_own, DL.isOwn_non, DL.frz_non, DL.isOwn_bl, DL.frz_bl, DL.isOwn_int, DL.frz_int, DL.isOwn_str, DL.frz_str, DL.isOwn_tup, DL.frz_tup, DL.isOwn_lst, DL.frz_lst, DL.isOwn_opq, DL.frz_opq, DL.isOwn_own, DL.frz_own, DL.isOwn_frz, if_true, if_false, Bool.false_eq_true, Bool.not_true, Bool.not_false, reduceIte]
    refine ⟨by omega, oNe_o (stcs_ok _) ⟨!s.waiting.isEmpty, by rw [stcs_emp], ?_⟩⟩
    obtain ⟨waiting, kn⟩ := s
    cases m with
    | zero => cases ok.run
    | succ n =>
      have hr := ok.run
      unfold runC turnC at hr
      dsimp only at hr
      cases waiting with
      | nil =>
        rw [if_neg (by simp)]
        cases hr
        exact q
      | cons c0 r =>
        rw [if_pos (by simp)]
        have hc := ok.vw c0 (by simp)
        have hlen := ok.len
        have hx := ok.xlen
        simp only [List.length_cons] at hlen
        obtain ⟨c1, lf⟩ := c0
        dsimp only at hr
        refine ⟨stcs r, stC (c1, lf), stcs_cons _ r, [stD c1, .tup (nlst lf)], rfl, rfl, stD c1, [.tup (nlst lf)], rfl, rfl, .tup (nlst lf), [], rfl, rfl, rfl, ?_⟩
        refine ⟨[.int c1.1, .tup (nlst c1.2.1), .int c1.2.2], rfl, .int c1.2.2, rfl, c1.2.2, rfl, ?_⟩
        by_cases hd : c1.2.2 = -1
        · rw [if_pos (decide_eq_true hd)]
          rw [if_pos hd] at hr
          cases hr
          exact q
        · rw [if_neg (by simpa using hd)]
          rw [if_neg hd] at hr
          dsimp only at hr
          have hml := moves_len (l := l) (p := pl) c1
          have hcl : c1.2.1.length ≤ 2 := by have := hc.1.2.2.2.2.2.2; dsimp only at this; omega
          have hmv := moves_valid h3 hc.1
          refine ⟨rfl, c1, rfl, hc.1.2.2.2.2.2.1, by omega, fun i xs' δ' => ∃ a b e, KRC l pl t (((movesT l pl c1).take i).foldl (pushC l t lf) ⟨r, kn⟩).known xs' ∧ (∀ x ∈ (((movesT l pl c1).take i).foldl (pushC l t lf) ⟨r, kn⟩).waiting, validC l pl t x) ∧
            (((movesT l pl c1).take i).foldl (pushC l t lf) ⟨r, kn⟩).waiting.length ≤ r.length + i ∧ xs'.length ≤ xs.length + i ∧
            δ' = [some (.int l), some (.int pl), some (.int t), some (stC ((0, [], l), List.replicate l.toNat t)), some (.opq (.ref da)), some (.own (stcs (((movesT l pl c1).take i).foldl (pushC l t lf) ⟨r, kn⟩).waiting)), some (stD c1), some (.tup (nlst lf)), a, b, e],
            ⟨c, e, g, ok.kr, fun x hx => ok.vw x (List.mem_cons_of_mem _ hx), Nat.le_refl _, Nat.le_refl _, rfl⟩, ?_, ?_⟩
          · rintro i y xs' _ hy ⟨a2, b2, e2, kr2, v2, l2, x2, rfl⟩
            rw [List.getElem?_map] at hy
            cases hm : (movesT l pl c1)[i]? with
            | none => rw [hm] at hy; cases hy
            | some mo =>
              rw [hm] at hy
              cases hy
              have hti : i < (movesT l pl c1).length := (List.getElem?_eq_some_iff.mp hm).1
              have hmo := hmv mo (List.mem_of_getElem? hm)
              dsimp only
              rw [fold_more hm]
              generalize ((movesT l pl c1).take i).foldl (pushC l t lf) ⟨r, kn⟩ = cs at kr2 v2 l2 ⊢
              obtain ⟨ms, mo2⟩ := mo
              cases mo2 with
              | none =>
                refine ⟨[stD ms, .non], rfl, rfl, stD ms, [.non], rfl, rfl, .non, [], rfl, rfl, rfl, .non, rfl, by simp, rfl, ?_⟩
                rw [if_pos (by rfl)]
                have vnew : validC l pl t (ms, lf) := ⟨hmo.1, hc.2.1, hc.2.2⟩
                have hkr := kr2 (ms, lf) vnew
                refine ⟨.tup (nlst lf), rfl, rfl, .non, rfl, by simp, rfl, ?_⟩
                rw [if_pos (by rfl)]
                refine ⟨stD ms, rfl, rfl, .tup (nlst lf), rfl, rfl, by omega, keyC_ok (ms, lf), rfl, ?_⟩
                by_cases hb : inX (keyOf (stC (ms, lf))) xs' = true
                · rw [if_neg (by show ¬ (!inX (keyOf (stC (ms, lf))) xs') = true; rw [hb]; simp)]
                  have e : pushC l t lf cs (ms, none) = cs := by unfold pushC; dsimp only; rw [if_pos (hkr.trans hb)]
                  rw [e]
                  exact ⟨some (stD ms), some .non, some (.tup (nlst lf)), kr2, v2, by omega, by omega, rfl⟩
                · have hb' : inX (keyOf (stC (ms, lf))) xs' = false := by simpa using hb
                  rw [if_pos (by show (!inX (keyOf (stC (ms, lf))) xs') = true; rw [hb']; rfl)]
                  have e : pushC l t lf cs (ms, none) = ⟨(ms, lf) :: cs.waiting, cs.known ||| 2 ^ codeC l t (ms, lf)⟩ := by unfold pushC; dsimp only; rw [if_neg (fun z => hb (hkr.symm.trans z))]
                  rw [e]
                  refine ⟨rfl, stD ms, rfl, rfl, .tup (nlst lf), rfl, rfl, by omega, keyC_ok (ms, lf), hb', by omega, fun a => ⟨stcs cs.waiting, rfl, stD ms, rfl, rfl, .tup (nlst lf), rfl, rfl, by omega, by rw [stcs_len]; omega, some (stD ms), some .non, some (.tup (nlst lf)), kr2.put h5 vnew, fun x hx => ?_, by simp only [List.length_cons]; omega, by rw [List.length_append]; simp only [List.length_cons, List.length_nil]; omega, ?_⟩⟩
                  · rcases List.mem_cons.mp hx with z | z
                    · rw [z]; exact vnew
                    · exact v2 x z
                  · dsimp only
                    rw [stcs_cons]
                    rfl
              | some j =>
                refine ⟨[stD ms, .int j], rfl, rfl, stD ms, [.int j], rfl, rfl, .int j, [], rfl, rfl, rfl, .int j, rfl, by simp, rfl, ?_⟩
                rw [if_neg (by simp [DL.isNon])]
                have hj : 0 ≤ j ∧ j < l := hmo.2 j rfl
                have hlf : lf.length = l.toNat := hc.2.1
                have hjl : j.toNat < lf.length := by omega
                have hat : atI (nlst lf) j = some (.int (lf.getD j.toNat 0)) := by
                  rw [atI_int hj.1 (by rw [nlst_len]; omega)]
                  simp [nlst, List.getElem?_eq_getElem hjl]
                have hrest : DL.cutD (nlst lf) none (some j) ++ [D.int (lf.getD j.toNat 0 - 1)] ++ DL.cutD (nlst lf) (some (j + 1)) none = nlst (takeC lf j) := cut_set lf hj.1 hjl
                have hl1 : (DL.cutD (nlst lf) none (some j)).length ≤ 4 := by
                  unfold DL.cutD
                  rw [List.length_take, List.length_drop, nlst_len]
                  omega
                have hl2 : (DL.cutD (nlst lf) (some (j + 1)) none).length ≤ 4 := by
                  unfold DL.cutD
                  rw [List.length_take, List.length_drop, nlst_len]
                  omega
                refine ⟨.tup (nlst lf), rfl, .int j, rfl, j, rfl, nlst lf, rfl, .tup (nlst lf), rfl, .int j, rfl, nlst lf, rfl, j, rfl, .int (lf.getD j.toNat 0), hat, lf.getD j.toNat 0, rfl, by omega, by omega, .tup (nlst lf), rfl, .int j, rfl, j, rfl, nlst lf, rfl, by rw [List.length_append]; simp only [List.length_cons, List.length_nil]; omega, .int j, rfl, by simp, rfl, ?_⟩
                rw [hrest, if_neg (by simp [DL.isNon])]
                refine ⟨.tup (nlst lf), rfl, .int j, rfl, nlst lf, rfl, j, rfl, .int (lf.getD j.toNat 0), hat, lf.getD j.toNat 0, rfl, ?_⟩
                by_cases h0 : 0 < lf.getD j.toNat 0
                · rw [if_pos (decide_eq_true h0)]
                  have vnew : validC l pl t (ms, takeC lf j) := by
                    refine ⟨hmo.1, by unfold takeC; rw [List.length_set]; exact hlf, fun x hx => ?_⟩
                    unfold takeC at hx
                    rcases List.mem_or_eq_of_mem_set hx with z | z
                    · exact hc.2.2 x z
                    · have : lf.getD j.toNat 0 ∈ lf := by
                        rw [List.getD_eq_getElem?_getD, List.getElem?_eq_getElem hjl]
                        exact List.getElem_mem hjl
                      have := hc.2.2 _ this
                      omega
                  have hkr := kr2 (ms, takeC lf j) vnew
                  refine ⟨stD ms, rfl, rfl, .tup (nlst (takeC lf j)), rfl, rfl, by omega, keyC_ok (ms, takeC lf j), rfl, ?_⟩
                  by_cases hb : inX (keyOf (stC (ms, takeC lf j))) xs' = true
                  · rw [if_neg (by show ¬ (!inX (keyOf (stC (ms, takeC lf j))) xs') = true; rw [hb]; simp)]
                    have e : pushC l t lf cs (ms, some j) = cs := by unfold pushC; dsimp only; rw [if_pos h0, if_pos (hkr.trans hb)]
                    rw [e]
                    exact ⟨some (stD ms), some (.int j), some (.tup (nlst (takeC lf j))), kr2, v2, by omega, by omega, rfl⟩
                  · have hb' : inX (keyOf (stC (ms, takeC lf j))) xs' = false := by simpa using hb
                    rw [if_pos (by show (!inX (keyOf (stC (ms, takeC lf j))) xs') = true; rw [hb']; rfl)]
                    have e : pushC l t lf cs (ms, some j) = ⟨(ms, takeC lf j) :: cs.waiting, cs.known ||| 2 ^ codeC l t (ms, takeC lf j)⟩ := by unfold pushC; dsimp only; rw [if_pos h0, if_neg (fun z => hb (hkr.symm.trans z))]
                    rw [e]
                    refine ⟨rfl, stD ms, rfl, rfl, .tup (nlst (takeC lf j)), rfl, rfl, by omega, keyC_ok (ms, takeC lf j), hb', by omega, fun a => ⟨stcs cs.waiting, rfl, stD ms, rfl, rfl, .tup (nlst (takeC lf j)), rfl, rfl, by omega, by rw [stcs_len]; omega, some (stD ms), some (.int j), some (.tup (nlst (takeC lf j))), kr2.put h5 vnew, fun x hx => ?_, by simp only [List.length_cons]; omega, by rw [List.length_append]; simp only [List.length_cons, List.length_nil]; omega, ?_⟩⟩
                    · rcases List.mem_cons.mp hx with z | z
                      · rw [z]; exact vnew
                      · exact v2 x z
                    · dsimp only
                      rw [stcs_cons]
                      rfl
                · rw [if_neg (by simpa using h0)]
                  have e : pushC l t lf cs (ms, some j) = cs := by unfold pushC; dsimp only; rw [if_neg h0]
                  rw [e]
                  exact ⟨some (stD ms), some (.int j), some (.tup (nlst (takeC lf j))), kr2, v2, by omega, by omega, rfl⟩
          · rintro xs' _ ⟨a2, b2, e2, kr2, v2, l2, x2, rfl⟩
            rw [List.length_map, List.take_length] at *
            exact ⟨n, by omega, _, ⟨hr, v2, kr2, by omega, by omega⟩, _, _, _, _, _, rfl⟩
end
end K97
set_option Elab.async false
set_option linter.all false
namespace K97
theorem sumTo_shift (f : Int → Int) : ∀ n : Nat, sumTo f (n + 1) = f 0 + sumTo (fun i => f (i + 1)) n
  | 0 => by simp [sumTo]
  | n + 1 => by
    rw [sumTo, sumTo_shift f n, sumTo]
    have e : (((n + 1 : Nat)) : Int) = (n : Int) + 1 := by omega
    rw [e]
    omega
theorem sum_gd : ∀ cs : List Int, cs.sum = sumTo (fun j => gd cs j) cs.length
  | [] => rfl
  | c :: cs => by
    rw [List.sum_cons, List.length_cons, sumTo_shift, sum_gd cs]
    have e0 : gd (c :: cs) 0 = c := by simp [gd]
    rw [e0]
    congr 1
    refine sumTo_congr _ fun i _ => ?_
    unfold gd
    have : ((i : Int) + 1).toNat = i + 1 := by omega
    rw [this]
    simp
theorem counts_facts {l p t : Int} {cs : List Int} {cc : Int → Int} (hl0 : 0 ≤ l) (hp : 0 ≤ p) (hl : least (l + 1) p t) (h1 : cs.length = l.toNat) (h2 : Cost (l + 1) p cc) (h3 : ∀ j, 0 ≤ j → gd cs j = adds 0 (l + 1) cc j) :
    cs.sum = t * (l + 1) - cov p t ∧ ∀ m, m ∈ cs ++ [0] → (∀ y, y ∈ cs ++ [0] → y ≤ m) → m = t := by
  obtain ⟨s1, s2, _, _, s5⟩ := h2.is t (by omega) hl.fits
  have at_ : ∀ i : Nat, i < cs.length → gd cs i = cc i := fun i hi => by
    rw [h3 i (by omega)]
    unfold adds
    rw [if_pos (by omega)]
    rw [show (i : Int) - 0 = i by omega]
  refine ⟨?_, fun m hm hmax => ?_⟩
  · rw [sum_gd, sumTo_congr (d := cc) _ fun i hi => at_ i hi, h1]
    rwa [show l + 1 - 1 = l by omega] at s1
  · have t0 := hl.1
    have up : m ≤ t := by
      rcases List.mem_append.mp hm with z | z
      · obtain ⟨i, hi, e⟩ := List.getElem_of_mem z
        have e2 := at_ i hi
        have e3 : gd cs i = cs[i] := by
          unfold gd
          rw [List.getD_eq_getElem?_getD, Int.toNat_natCast, List.getElem?_eq_getElem hi]
          rfl
        have := (s2 i).2
        omega
      · have : m = 0 := by simpa using z
        omega
    have dn : t ≤ m := by
      by_cases hz : 1 ≤ l
      · obtain ⟨i, hi, e⟩ := s5 (by omega) hl
        have hi' : i < cs.length := by omega
        have e2 := at_ i hi'
        have e3 : gd cs i = cs[i] := by
          unfold gd
          rw [List.getD_eq_getElem?_getD, Int.toNat_natCast, List.getElem?_eq_getElem hi']
          rfl
        have := hmax cs[i] (List.mem_append.mpr (.inl (List.getElem_mem hi')))
        omega
      · have hl' : l = 0 := by omega
        subst hl'
        have h0 := hmax 0 (by simp)
        have : t = 0 := least_uniq hp (m := 0 + 1) ⟨Int.le_refl 0, by have := spn_pos p 0; omega, .inl rfl⟩ hl
        omega
    omega
end K97
set_option Elab.async false
set_option linter.all false
set_option maxRecDepth 100000
set_option maxHeartbeats 2000000
namespace K97
open PySem PySem.Spec PyProof.Rows L2 DL
section
variable {P : Program} {w : World} {K : PySem.W.Frag} {mg : Str → Option Value} {base : Heap} {f : Addr} {fd : FuncData}
abbrev s_law : Stmt := topS 31
theorem c_law : FnScope ["script", "deal", "places", "times", "length", "due", "counts", "short", "few"] ["script"] (defScope s_law) := ⟨rfl, rfl, rfl, by decide +kernel, rfl, by decide +kernel, by decide +kernel⟩
theorem planD_okV : ∀ {l : List (Str × Int)}, (∀ x ∈ l, x.1 ∈ MOVES) → okVL (planD l) = true
  | [], _ => rfl
  | m :: l, h => by
    have ih := planD_okV (l := l) fun x hx => h x (List.mem_cons_of_mem _ hx)
    have hm := h m (List.mem_cons_self ..)
    have e : PyData.strOk m.1 = true := by
      simp only [MOVES, List.mem_cons, List.not_mem_nil, or_false] at hm
      rcases hm with z | z | z | z | z <;> rw [z] <;> decide +kernel
    show okVL (.tup [.str m.1, .int m.2] :: planD l) = true
    simp only [okVL, okV, e, ih, Bool.and_self]
theorem zero_times {l t : Int} (hl : 0 ≤ l) (h : least (l + 1) 0 t) : t = l ∧ t * (l + 1) - cov 0 t = l * (l + 1) / 2 := by
  obtain ⟨h1, h2⟩ := steps_zero hl
  have e := least_uniq (by omega) h1 h
  subst e
  exact ⟨rfl, h2⟩
theorem few_val : ∀ l ∈ ([1, 2, 3, 4, 5] : List Int), ∀ p ∈ ([0, 1, 2] : List Int), ∃ k : Nat, runF l p 20000 (startF l) = some k ∧ ∀ t, least (l + 1) p t → t * (l + 1) - cov p t = (k : Int) := by
  intro l hl p hp
  refine ⟨_, runF_all l hl p hp, fun t ht => ?_⟩
  have key : ∀ l ∈ ([1, 2, 3, 4, 5] : List Int), ∀ p ∈ ([0, 1, 2] : List Int), (0 ≤ timT l p ∧ l + 1 ≤ spn p (timT l p) ∧ (timT l p = 0 ∨ spn p (timT l p - 1) < l + 1)) ∧ timT l p * (l + 1) - cov p (timT l p) = (((if p = 0 then (l * (l + 1) / 2).toNat else if p = 1 then [1, 2, 4, 6, 8].getD (l.toNat - 1) 0 else [1, 2, 3, 5, 7].getD (l.toNat - 1) 0) : Nat) : Int) := by
    intro l hl p hp
    simp only [List.mem_cons, List.not_mem_nil, or_false] at hl hp
    rcases hl with rfl | rfl | rfl | rfl | rfl <;> rcases hp with rfl | rfl | rfl <;> simp [timT, cov, spn, bin]
  obtain ⟨k1, k2⟩ := key l hl p hp
  have hp0 : 0 ≤ p := by simp only [List.mem_cons, List.not_mem_nil, or_false] at hp; omega
  have e := least_uniq hp0 (show least (l + 1) p (timT l p) from k1) ht
  rw [e]
  exact k2
theorem tim_val : ∀ l ∈ ([2, 3, 4] : List Int), ∀ p ∈ ([0, 1, 2] : List Int), ∀ t, least (l + 1) p t → t = timT l p ∧ 1 ≤ t ∧ t ≤ 4 := by
  intro l hl p hp t ht
  have key : ∀ l ∈ ([2, 3, 4] : List Int), ∀ p ∈ ([0, 1, 2] : List Int), (0 ≤ timT l p ∧ l + 1 ≤ spn p (timT l p) ∧ (timT l p = 0 ∨ spn p (timT l p - 1) < l + 1)) ∧ 1 ≤ timT l p ∧ timT l p ≤ 4 := by
    intro l hl p hp
    simp only [List.mem_cons, List.not_mem_nil, or_false] at hl hp
    rcases hl with rfl | rfl | rfl <;> rcases hp with rfl | rfl | rfl <;> simp [timT, spn, bin]
  obtain ⟨k1, k2, k3⟩ := key l hl p hp
  have hp0 : 0 ≤ p := by simp only [List.mem_cons, List.not_mem_nil, or_false] at hp; omega
  have e := least_uniq hp0 (show least (l + 1) p (timT l p) from k1) ht
  rw [e]
  exact ⟨rfl, k2, k3⟩
def spLaw (K : PySem.W.Frag) : Sp := fun vs H Q _ => ∃ (s : Addr) (ns : List Int), vs = [.ref s] ∧ SqL K H s (ns.map V.int) ∧ ∀ H', Q (.bl true) H'
theorem ok_law {CR fI : Addr} (F : Fun K "law" "law" s_law f fd) (C__law_draw : CalleeS P w K mg base 1 "_law_draw" ["script", "salt"] (spDraw K)) (C__law_any : Callee P w K mg base 1 "_law_any" ["deal", "bound"] sp_any) (C__law_of : Callee P w K mg base 2 "_law_of" ["deal", "some"] sp__law_of)
    (C__law_same : Callee P w K mg base 3 "_law_same" ["value", "due"] (sp__law_same 3)) (C__law_spans : Callee P w K mg base 1 "_law_spans" ["places", "times"] sp__law_spans) (C__law_due : Callee P w K mg base 2 "_law_due" ["length", "places"] sp__law_due)
    (C__law_fewest : Callee P w K mg base 2 "_law_fewest" ["length", "places"] sp__law_fewest) (C__law_can : Callee P w K mg base 2 "_law_can" ["length", "places", "times"] sp__law_can)
    (Ck_longest_row : CalleeK P w K mg base 2 "longest_row" ["places", "times"] ["places", "times"] 0 sp_longest_row) (Ck_fewest_times : CalleeK P w K mg base 3 "fewest_times" ["length", "places"] ["length", "places"] 0 sp_fewest_times) (C_fewest_times : Callee P w K mg base 3 "fewest_times" ["length", "places"] sp_fewest_times)
    (Ck_fewest_steps : CalleeK P w K mg base 4 "fewest_steps" ["length", "places"] ["length", "places"] 0 sp_fewest_steps) (C_fewest_steps : Callee P w K mg base 4 "fewest_steps" ["length", "places"] sp_fewest_steps)
    (Ck_back_plan : CalleeK P w K mg base 5 "back_plan" ["length", "places"] ["length", "places"] 0 sp_back_plan) (C_step_counts : Callee P w K mg base 5 "step_counts" ["length", "places", "plan"] (sp_step_counts CR)) (m_max : mg "max" = none) (m_sum : mg "sum" = none) (m_len : mg "len" = none) :
    FnOk P w K mg base (L2.CX P w) 7 f fd ["script"] (spLaw K) := by
  refine F.okX c_law (fun vs H Q E ⟨_, _, e, _⟩ => by rw [e]; rfl) (fun cdv A outer s H vs Q E hr h => ?_)
  obtain ⟨sa, ns, rfl, h1, q⟩ := h
  refine ⟨_, pss_cons (ps_set (i := 1) c_law.nd rfl (.inl rfl) (pe_callCS C__law_draw hr (pa_cons (pv 0) (pa_cons pe_int pa_nil)))) (pss_any (K := K) (fun p hK => have wi : Wish (cxOf (L2.CX P w) P w K mg base ["script", "deal", "places", "times", "length", "due", "counts", "short", "few"] "law" (defScope s_law) f cdv A outer s H E) p (fun cls d _ H => E cls d H) (fun _ _ _ => False) := wish_def (CX := E) (E := fun _ _ => False) (takes_of rfl rfl rfl rfl) (fun _ _ _ _ _ _ z => z.elim); (dss_cons (ds_par2 (i := 2) (j := 3) rfl c_law.nd rfl rfl (by decide) rfl rfl (dr_cons (de_callC hK C__law_of hr (da_cons (dv 1) (da_cons (de_of_dl (dl_lst (da_cons de_int (da_cons de_int (da_cons de_int (da_cons de_int (da_cons (de_callC hK C__law_any hr (da_cons (dv 1) (da_cons de_int da_nil))) da_nil))))))) da_nil))) (dr_cons (de_callC hK C__law_of hr (da_cons (dv 1) (da_cons (de_of_dl (dl_lst (da_cons de_int (da_cons de_int (da_cons de_int (da_cons de_int (da_cons (de_callC hK C__law_any hr (da_cons (dv 1) (da_cons de_int da_nil))) (da_cons de_int da_nil)))))))) da_nil))) dr_nil)) rfl)
    (dss_cons (ds_if (dt_not (dt_val (de_callC hK C__law_same hr (da_cons (de_callCK0 hK Ck_longest_row hr (dk_cons (dv 2) (dk_cons (dv 3) dk_nil))) (da_cons (de_op op_sub rd_I0 (de_callC hK C__law_spans hr (da_cons (dv 2) (da_cons (dv 3) da_nil))) de_int) da_nil)))))
    (dss_one (ds_ret de_bl))
    dss_nil)
    (dss_cons (ds_for (passes_of rfl) rfl (di_seq hK (de_of_dl (dl_lst (da_cons (de_callC hK C__law_any hr (da_cons (dv 1) (da_cons de_int da_nil))) (da_cons (de_callC hK C__law_any hr (da_cons (dv 1) (da_cons de_int da_nil))) (da_cons (de_callC hK C__law_of hr (da_cons (dv 1) (da_cons (de_of_dl (dl_lst (da_cons de_int (da_cons de_int (da_cons de_int da_nil))))) da_nil))) da_nil)))))) (dg_nm (i := 4) c_law.nd rfl (.inl rfl))
    (dss_cons (ds_set (i := 2) c_law.nd rfl (.inl rfl) (de_callC hK C__law_of hr (da_cons (dv 1) (da_cons (de_of_dl (dl_lst (da_cons de_int (da_cons de_int (da_cons de_int (da_cons (de_callC hK C__law_any hr (da_cons (dv 1) (da_cons de_int da_nil))) (da_cons de_int da_nil))))))) da_nil))))
    (dss_cons (ds_set (i := 5) c_law.nd rfl (.inl rfl) (de_callC hK C__law_due hr (da_cons (dv 4) (da_cons (dv 2) da_nil))))
    (dss_cons (ds_if (PDW.dt (dw_or (dt_not (dt_val (de_callC hK C__law_same hr (da_cons (de_callCK0 hK Ck_fewest_times hr (dk_cons (dv 4) (dk_cons (dv 2) dk_nil))) (da_cons (de_ix ix_seq (rd_ixK hK) (dv 5) de_int (by intro _ _; rfl)) da_nil))))) (dw_or1 (dt_not (dt_val (de_callC hK C__law_same hr (da_cons (de_callCK0 hK Ck_fewest_steps hr (dk_cons (dv 4) (dk_cons (dv 2) dk_nil))) (da_cons (de_ix ix_seq (rd_ixK hK) (dv 5) de_int (by intro _ _; rfl)) da_nil))))))))
    (dss_one (ds_ret de_bl))
    dss_nil)
    (dss_cons (ds_set (i := 6) c_law.nd rfl (.inl rfl) (de_callCX wi hK C_step_counts hr (da_cons (dv 4) (da_cons (dv 2) (da_cons (de_callCK0 hK Ck_back_plan hr (dk_cons (dv 4) (dk_cons (dv 2) dk_nil))) da_nil)))))
    (dss_one (ds_if (PDW.dt (dw_or (dt_cmp op_ne rd_neI (de_len hK rfl m_len (dv 6)) (dv 4)) (dw_or (dt_cmp op_ne rd_neI (de_sumT hK rfl rfl m_sum (dv 6)) (de_ix ix_seq (rd_ixK hK) (dv 5) de_int (by intro _ _; rfl))) (dw_or1 (dt_cmp op_ne rd_neI (de_maxT hK rfl rfl m_max (de_op op_catA (rd_catTK hK) (dv 6) (de_tup (da_cons de_int da_nil)))) (de_ix ix_seq (rd_ixK hK) (dv 5) de_int (by intro _ _; rfl)))))))
    (dss_one (ds_ret de_bl))
    dss_nil)))))))
    (dss_cons (ds_set (i := 4) c_law.nd rfl (.inl rfl) (de_callC hK C__law_of hr (da_cons (dv 1) (da_cons (de_of_dl (dl_lst (da_cons de_int (da_cons de_int (da_cons (de_callC hK C__law_any hr (da_cons (dv 1) (da_cons de_int da_nil))) da_nil))))) da_nil))))
    (dss_cons (ds_if (dt_not (dt_val (de_callC hK C__law_same hr (da_cons (de_tup (da_cons (de_callC hK C_fewest_times hr (da_cons (dv 4) (da_cons de_int da_nil))) (da_cons (de_callC hK C_fewest_steps hr (da_cons (dv 4) (da_cons de_int da_nil))) da_nil))) (da_cons (de_tup (da_cons (dv 4) (da_cons (de_op op_fdiv rd_I (de_op op_mul rd_I (dv 4) (de_op op_add rd_I0 (dv 4) de_int)) de_int) da_nil))) da_nil)))))
    (dss_one (ds_ret de_bl))
    dss_nil)
    (dss_cons (ds_par2 (i := 7) (j := 8) rfl c_law.nd rfl rfl (by decide) rfl rfl (dr_cons (de_callC hK C__law_of hr (da_cons (dv 1) (da_cons (de_of_dl (dl_lst (da_cons de_int (da_cons de_int (da_cons de_int (da_cons de_int (da_cons de_int da_nil))))))) da_nil))) (dr_cons (de_callC hK C__law_any hr (da_cons (dv 1) (da_cons de_int da_nil))) dr_nil)) rfl)
    (dss_cons (ds_if (dt_cmp op_ne rd_neI (de_callC hK C__law_fewest hr (da_cons (dv 7) (da_cons (dv 8) da_nil))) (de_callC hK C_fewest_steps hr (da_cons (dv 7) (da_cons (dv 8) da_nil))))
    (dss_one (ds_ret de_bl))
    dss_nil)
    (dss_cons (ds_par2 (i := 7) (j := 8) rfl c_law.nd rfl rfl (by decide) rfl rfl (dr_cons (de_callC hK C__law_of hr (da_cons (dv 1) (da_cons (de_of_dl (dl_lst (da_cons de_int (da_cons de_int (da_cons de_int da_nil))))) da_nil))) (dr_cons (de_callC hK C__law_any hr (da_cons (dv 1) (da_cons de_int da_nil))) dr_nil)) rfl)
    (dss_cons (ds_set (i := 5) c_law.nd rfl (.inl rfl) (de_callC hK C_fewest_times hr (da_cons (dv 7) (da_cons (dv 8) da_nil))))
    (dss_one (ds_ret (de_and (de_or (de_cmp op_eq rd_eqI (dv 5) de_int) (de_one (de_not (de_callC hK C__law_can hr (da_cons (dv 7) (da_cons (dv 8) (da_cons (de_op op_sub rd_I0 (dv 5) de_int) da_nil))))))) (de_one (de_callC hK C__law_can hr (da_cons (dv 7) (da_cons (dv 8) (da_cons (dv 5) da_nil))))))))))))))))))), ?_⟩
  refine ⟨_, rfl, sa, ns, 98, rfl, h1, by omega, by omega, fun H' a c hs ha hc ⟨cs, bl, hin⟩ => ?_⟩
  have ok' : Ok (dealReg a c) noHp H' := ⟨(fun _ _ e => absurd e (by simp)), ⟨cs, bl, hin⟩, (fun _ _ => rfl)⟩
  refine ⟨⟨K, dealReg a c, H', noHp, ok', noHp⟩, rfl, noHp, (startD ["script", "deal", "places", "times", "length", "due", "counts", "short", "few"] [.opq (.ref sa)]).set 1 (some (.opq (.ref a))), { nx := fun _ => False, rt := fun d => d = .bl true }, ?_, ?_, (fun _ _ _ _ _ _ z => z.elim), (fun _ _ _ _ _ _ z => z.elim), (fun _ _ _ _ _ _ z => z.elim), ?_⟩
  · exact G.setD (start_G ok' (.cons (by simp only [Rep]) .nil)) (by simp only [Rep])
  · simp only [DL.dTry, DL.Pt.at, forall_const, DL.dXat, DL.dEmptied, DL.dSeq, DL.dSet, DL.dSetO, DL.dC, DL.dVar, DL.dFor, DL.dWhile, DL.dIfS, DL.dRet, DL.dRetN, DL.dDrop, DL.dNext, DL.dBrk, DL.dCnt, DL.dAppend, DL.dExtend, DL.dPop, DL.dAsg, DL.dPar, DL.dIxNm, DL.dAugIx, DL.dAug, DL.dSetIx, DL.dRaise, DL.dOp, DL.dOpL, DL.dTest, DL.dNot, DL.dAnd, DL.dOr, DL.dAndV, DL.dOrV, DL.dNotV, DL.dIf, DL.dLen, DL.rLen, DL.dTupOf, DL.rTup, DL.dListOf, DL.dIntOf, DL.rIntOf, DL.dAbs, DL.rAbs, DL.dAll, DL.rAllD, DL.dAny, DL.rAnyD, DL.dSum, DL.rSumD, DL.dInst, DL.dCall, DL.dCallK, DL.dCallX, DL.dCallKX, DL.dCons, DL.dConsO, DL.dNil, DL.dStar, DL.dTup, DL.dLst, DL.dL, DL.dSlT, DL.dSlL, DL.dNo, DL.dPart, DL.dLc, DL.dYes, DL.diSeq, DL.diRng1, DL.diRng2, DL.diZip, DL.bP, DL.bPs, DL.oI, DL.oIc, DL.oS, DL.oIx, DL.oIn, DL.oIsN, DL.oNotN, DL.oIsB, DL.oCatT, DL.oCatL, DL.oRepL, DL.oRep01, DL.oRepT, DL.dSumT, DL.rSumTD, DL.dMaxT, DL.rMaxTD, DL.dSortT, DL.dFrz, DL.gOf, DL.gNext, DL.gSeq, DL.gIf, DL.gWhile, DL.gFor, DL.gPut, DL.dNotInX, DL.dStart3, DL.dStart2, DL.dRevT, DL.dRevL, DL.dNeg, DL.dChain, DL.startD, DL.setsD, DL.wipeD, List.map_cons, List.map_nil, List.length_cons, List.length_nil, Nat.reduceAdd, Nat.reduceSub, List.replicate_succ, List.replicate_zero, List.cons_append, List.nil_append, List.append_nil, List.set_cons_succ, List.set_cons_zero, List.getElem?_cons_succ, List.getElem?_cons_zero, Option.some.injEq, D.int.injEq, D.bl.injEq, D.str.injEq, D.tup.injEq, D.lst.injEq, D.own.injEq, exists_eq_left', exists_eq_left, true_and, and_true, reduceCtorEq, false_and, and_false, exists_const, List.cons.injEq, exists_eq_right, exists_eq_right', and_assoc, exists_and_left, D.opq.injEq, V.ref.injEq, DL.items_tup, DL.items_lst, DL.items_own, DL.lstOf_lst, DL.lstOf_own, DL.isOwn_non, DL.frz_non, DL.isOwn_bl, DL.frz_bl, DL.isOwn_int, DL.frz_int, DL.isOwn_str, DL.frz_str, DL.isOwn_tup, DL.frz_tup, DL.isOwn_lst, DL.frz_lst, DL.isOwn_opq, DL.frz_opq, DL.isOwn_own, DL.frz_own, DL.isOwn_frz, if_true, if_false, Bool.false_eq_true, Bool.not_true, Bool.not_false, reduceIte, sp_any, sp__law_of, sp__law_same, sp__law_spans, sp__law_due, sp__law_fewest, sp__law_can, sp_longest_row, sp_fewest_times, sp_fewest_steps, sp_back_plan, sp_step_counts]
    have s4 : (16777216 : Nat) ≤ sizeLine := by rw [sizeLine_eq]; decide
    refine ⟨c, rfl, by omega, by omega, fun r r0 r1 => ⟨by omega, c, rfl, by simp, by omega, fun z hz => ⟨c, rfl, by omega, by omega, fun r2 r20 r21 => ⟨by omega, c, rfl, by simp, by omega, fun z2 hz2 => ?_⟩⟩⟩⟩
    obtain ⟨pl, hpl, p0, p1⟩ : ∃ l : Int, z.frz = .int l ∧ 0 ≤ l ∧ l ≤ 20 := by
      simp only [List.mem_cons, List.not_mem_nil, or_false] at hz
      rcases hz with rfl | rfl | rfl | rfl | rfl <;> exact ⟨_, rfl, by omega, by omega⟩
    obtain ⟨ti, hti, t0, t1⟩ : ∃ l : Int, z2.frz = .int l ∧ 0 ≤ l ∧ l ≤ 300 := by
      simp only [List.mem_cons, List.not_mem_nil, or_false] at hz2
      rcases hz2 with rfl | rfl | rfl | rfl | rfl | rfl <;> exact ⟨_, rfl, by omega, by omega⟩
    rw [hpl, hti]
    refine ⟨pl, rfl, ti, rfl, by omega, by omega, by omega, by omega, pl, rfl, ti, rfl, p0, p1, t0, by omega, rfl, by simp [okT], by simp [D.dep], by omega, ?_⟩
    refine ⟨c, rfl, by omega, by omega, fun ra ra0 ra1 => ⟨c, rfl, by omega, by omega, fun rb rb0 rb1 => ⟨by omega, c, rfl, by simp, by omega, fun z3 hz3 => ⟨by omega, fun i δ => ∃ v2 v4 v5 v6, δ = [some (.opq (.ref sa)), some (.opq (.ref a)), v2, some (.int ti), v4, v5, v6, none, none], ⟨_, _, _, _, rfl⟩, ?_, ?_⟩⟩⟩⟩
    · rintro i d _ hd ⟨v2, v4, v5, v6, rfl⟩
      obtain ⟨l, rfl, l0, l1⟩ : ∃ l : Int, d = .int l ∧ 0 ≤ l ∧ l ≤ 300 := by
        have hm := List.mem_of_getElem? hd
        simp only [List.mem_cons, List.not_mem_nil, or_false] at hm hz3
        rcases hm with rfl | rfl | rfl
        · exact ⟨_, rfl, by omega, by omega⟩
        · exact ⟨_, rfl, by omega, by omega⟩
        · rcases hz3 with rfl | rfl | rfl <;> exact ⟨_, rfl, by omega, by omega⟩
      simp only [DL.dTry, DL.Pt.at, forall_const, DL.dXat, DL.dEmptied, DL.dSeq, DL.dSet, DL.dSetO, DL.dC, DL.dVar, DL.dFor, DL.dWhile, DL.dIfS, DL.dRet, DL.dRetN, DL.dDrop, DL.dNext, DL.dBrk, DL.dCnt, DL.dAppend, DL.dExtend, DL.dPop, DL.dAsg, DL.dPar, DL.dIxNm, DL.dAugIx, DL.dAug, DL.dSetIx, DL.dRaise, DL.dOp, DL.dOpL, DL.dTest, DL.dNot, DL.dAnd, DL.dOr, DL.dAndV, DL.dOrV, DL.dNotV, DL.dIf, DL.dLen, DL.rLen, DL.dTupOf, DL.rTup, DL.dListOf, DL.dIntOf, DL.rIntOf, DL.dAbs, DL.rAbs, DL.dAll, DL.rAllD, DL.dAny, DL.rAnyD, DL.dSum, DL.rSumD, DL.dInst, DL.dCall, DL.dCallK, DL.dCallX, DL.dCallKX, DL.dCons, DL.dConsO, DL.dNil, DL.dStar, DL.dTup, DL.dLst, DL.dL, DL.dSlT, DL.dSlL, DL.dNo, DL.dPart, DL.dLc, DL.dYes, DL.diSeq, DL.diRng1, DL.diRng2, DL.diZip, DL.bP, DL.bPs, DL.oI, DL.oIc, DL.oS, DL.oIx, DL.oIn, DL.oIsN, DL.oNotN, DL.oIsB, DL.oCatT, DL.oCatL, DL.oRepL, DL.oRep01, DL.oRepT, DL.dSumT, DL.rSumTD, DL.dMaxT, DL.rMaxTD, DL.dSortT, DL.dFrz, DL.gOf, DL.gNext, DL.gSeq, DL.gIf, DL.gWhile, DL.gFor, DL.gPut, DL.dNotInX, DL.dStart3, DL.dStart2, DL.dRevT, DL.dRevL, DL.dNeg, DL.dChain, DL.startD, DL.setsD, DL.wipeD, List.map_cons, List.map_nil, List.length_cons, List.length_nil, Nat.reduceAdd, Nat.reduceSub, List.replicate_succ, List.replicate_zero, List.cons_append, List.nil_append, List.append_nil, List.set_cons_succ, List.set_cons_zero, List.getElem?_cons_succ, List.getElem?_cons_zero, Option.some.injEq, D.int.injEq, D.bl.injEq, D.str.injEq, D.tup.injEq, D.lst.injEq, D.own.injEq, exists_eq_left', exists_eq_left, true_and, and_true, reduceCtorEq, false_and, and_false, exists_const, List.cons.injEq, exists_eq_right, exists_eq_right', and_assoc, exists_and_left, D.opq.injEq, V.ref.injEq, DL.items_tup, DL.items_lst, DL.items_own, DL.lstOf_lst, DL.lstOf_own, DL.isOwn_non, DL.frz_non, DL.isOwn_bl, DL.frz_bl, DL.isOwn_int, DL.frz_int, DL.isOwn_str, DL.frz_str, DL.isOwn_tup, DL.frz_tup, DL.isOwn_lst, DL.frz_lst, DL.isOwn_opq, DL.frz_opq, DL.isOwn_own, DL.frz_own, DL.isOwn_frz, if_true, if_false, Bool.false_eq_true, Bool.not_true, Bool.not_false, reduceIte]
      refine ⟨c, rfl, by omega, by omega, fun rc rc0 rc1 => ⟨by omega, c, rfl, by simp, by omega, fun z4 hz4 => ?_⟩⟩
      obtain ⟨p2, hp2, p20, p21⟩ : ∃ l : Int, z4.frz = .int l ∧ 0 ≤ l ∧ l ≤ 20 := by
        simp only [List.mem_cons, List.not_mem_nil, or_false] at hz4
        rcases hz4 with rfl | rfl | rfl | rfl | rfl <;> exact ⟨_, rfl, by omega, by omega⟩
      rw [hp2]
      refine ⟨p2, rfl, l0, l1, p20, p21, fun t ht => ⟨p2, rfl, p20, by omega, by omega, fun t1' ht1 _ => ?_⟩⟩
      have e1 := least_uniq p20 ht ht1
      subst e1
      refine ⟨.int t1', rfl, rfl, rfl, rfl, by simp [D.dep], by omega, p2, rfl, l0, l1, p20, by omega, fun t2' ht2 => ?_⟩
      have e2 := least_uniq p20 ht ht2
      subst e2
      refine ⟨.int (t2' * (l + 1) - cov p2 t2'), rfl, rfl, rfl, rfl, by simp [D.dep], by omega, p2, rfl, l0, l1, p20, by omega, fun v hv => ?_⟩
      obtain ⟨lm, cs', cc, rfl, hM, hlen, hcar, hcl, hco, hgd⟩ := hv
      have hgood : askable (.tup (planD lm)) := ⟨by simp only [okV]; exact planD_okV fun m hm => (hM m hm).1, fun ms e => by cases e; rw [planD_len]; omega⟩
      obtain ⟨f1, f2⟩ := counts_facts l0 p20 ht hcl hco hgd
      refine ⟨rfl, p2, rfl, l0, by omega, p20, by omega, hgood, fun c' hc' => ?_, fun hn => by rw [hcar] at hn; cases hn⟩
      rw [hcar] at hc'
      cases hc'
      rw [if_neg (by rw [nlst_len, hcl]; simp; omega)]
      refine ⟨cs', rfl, _, rfl, _, rfl, ?_⟩
      rw [if_neg (by rw [f1]; simp)]
      refine ⟨by omega, by rw [nlst_len, hcl]; omega, cs' ++ [0], by simp [nlst], by simp, fun m m1 m2 => ⟨_, rfl, _, rfl, ?_⟩⟩
      rw [f2 m m1 m2, if_neg (by simp)]
      exact ⟨_, rfl⟩
    · rintro _ ⟨v2, v4, v5, v6, rfl⟩
      simp only [DL.dTry, DL.Pt.at, forall_const, DL.dXat, DL.dEmptied, DL.dSeq, DL.dSet, DL.dSetO, DL.dC, DL.dVar, DL.dFor, DL.dWhile, DL.dIfS, DL.dRet, DL.dRetN, DL.dDrop, DL.dNext, DL.dBrk, DL.dCnt, DL.dAppend, DL.dExtend, DL.dPop, DL.dAsg, DL.dPar, DL.dIxNm, DL.dAugIx, DL.dAug, DL.dSetIx, DL.dRaise, DL.dOp, DL.dOpL, DL.dTest, DL.dNot, DL.dAnd, DL.dOr, DL.dAndV, DL.dOrV, DL.dNotV, DL.dIf, DL.dLen, DL.rLen, DL.dTupOf, DL.rTup, DL.dListOf, DL.dIntOf, DL.rIntOf, DL.dAbs, DL.rAbs, DL.dAll, DL.rAllD, DL.dAny, DL.rAnyD, DL.dSum, DL.rSumD, DL.dInst, DL.dCall, DL.dCallK, DL.dCallX, DL.dCallKX, DL.dCons, DL.dConsO, DL.dNil, DL.dStar, DL.dTup, DL.dLst, DL.dL, DL.dSlT, DL.dSlL, DL.dNo, DL.dPart, DL.dLc, DL.dYes, DL.diSeq, DL.diRng1, DL.diRng2, DL.diZip, DL.bP, DL.bPs, DL.oI, DL.oIc, DL.oS, DL.oIx, DL.oIn, DL.oIsN, DL.oNotN, DL.oIsB, DL.oCatT, DL.oCatL, DL.oRepL, DL.oRep01, DL.oRepT, DL.dSumT, DL.rSumTD, DL.dMaxT, DL.rMaxTD, DL.dSortT, DL.dFrz, DL.gOf, DL.gNext, DL.gSeq, DL.gIf, DL.gWhile, DL.gFor, DL.gPut, DL.dNotInX, DL.dStart3, DL.dStart2, DL.dRevT, DL.dRevL, DL.dNeg, DL.dChain, DL.startD, DL.setsD, DL.wipeD, List.map_cons, List.map_nil, List.length_cons, List.length_nil, Nat.reduceAdd, Nat.reduceSub, List.replicate_succ, List.replicate_zero, List.cons_append, List.nil_append, List.append_nil, List.set_cons_succ, List.set_cons_zero, List.getElem?_cons_succ, List.getElem?_cons_zero, Option.some.injEq, D.int.injEq, D.bl.injEq, D.str.injEq, D.tup.injEq, D.lst.injEq, D.own.injEq, exists_eq_left', exists_eq_left, true_and, and_true, reduceCtorEq, false_and, and_false, exists_const, List.cons.injEq, exists_eq_right, exists_eq_right', and_assoc, exists_and_left, D.opq.injEq, V.ref.injEq, DL.items_tup, DL.items_lst, DL.items_own, DL.lstOf_lst, DL.lstOf_own, DL.isOwn_non, DL.frz_non, DL.isOwn_bl, DL.frz_bl, DL.isOwn_int, DL.frz_int, DL.isOwn_str, DL.frz_str, DL.isOwn_tup, DL.frz_tup, DL.isOwn_lst, DL.frz_lst, DL.isOwn_opq, DL.frz_opq, DL.isOwn_own, DL.frz_own, DL.isOwn_frz, if_true, if_false, Bool.false_eq_true, Bool.not_true, Bool.not_false, reduceIte]
      refine ⟨c, rfl, by omega, by omega, fun rd rd0 rd1 => ⟨by omega, c, rfl, by simp, by omega, fun z5 hz5 => ?_⟩⟩
      obtain ⟨l, hl, l0, l1⟩ : ∃ l : Int, z5.frz = .int l ∧ 0 ≤ l ∧ l ≤ 300 := by
        simp only [List.mem_cons, List.not_mem_nil, or_false] at hz5
        rcases hz5 with rfl | rfl | rfl <;> exact ⟨_, rfl, by omega, by omega⟩
      rw [hl]
      refine ⟨l, rfl, by omega, by omega, by omega, fun t ht _ => ⟨l, rfl, l0, l1, by omega, by omega, fun t1 ht1 => ?_⟩⟩
      obtain ⟨e1, _⟩ := zero_times l0 ht
      obtain ⟨_, e2⟩ := zero_times l0 ht1
      rw [e2]
      subst e1
      refine ⟨by omega, t, rfl, t, rfl, ?_, ?_, by omega, rfl, rfl, by simp [okT, okTL], by simp [D.dep, D.depL], by omega, ?_⟩
      · exact .inl ⟨by omega, by omega⟩
      · exact ⟨by omega, by omega⟩
      refine ⟨by omega, c, rfl, by simp, by omega, fun z6 hz6 => ⟨c, rfl, by omega, by omega, fun re re0 re1 => ?_⟩⟩
      have hre : re ∈ ([0, 1, 2] : List Int) := by
        simp only [List.mem_cons, List.not_mem_nil, or_false]
        omega
      obtain ⟨m, hm, hmm⟩ : ∃ m : Int, z6.frz = .int m ∧ m ∈ ([1, 2, 3, 4, 5] : List Int) := by
        simp only [List.mem_cons, List.not_mem_nil, or_false] at hz6
        rcases hz6 with rfl | rfl | rfl | rfl | rfl <;> exact ⟨_, rfl, by simp⟩
      rw [hm]
      obtain ⟨k, hk1, hk2⟩ := few_val m hmm re hre
      have hmb : 1 ≤ m ∧ m ≤ 5 := by
        simp only [List.mem_cons, List.not_mem_nil, or_false] at hmm
        omega
      refine ⟨m, rfl, hmb.1, hmb.2, re0, by omega, k, hk1, m, rfl, by omega, by omega, re0, by omega, fun t2 ht2 => ?_⟩
      rw [hk2 t2 ht2, if_neg (by simp)]
      refine ⟨by omega, c, rfl, by simp, by omega, fun z7 hz7 => ⟨c, rfl, by omega, by omega, fun rf rf0 rf1 => ?_⟩⟩
      have hrf : rf ∈ ([0, 1, 2] : List Int) := by
        simp only [List.mem_cons, List.not_mem_nil, or_false]
        omega
      obtain ⟨n, hn, hnn⟩ : ∃ m : Int, z7.frz = .int m ∧ m ∈ ([2, 3, 4] : List Int) := by
        simp only [List.mem_cons, List.not_mem_nil, or_false] at hz7
        rcases hz7 with rfl | rfl | rfl <;> exact ⟨_, rfl, by simp⟩
      rw [hn]
      have hnb : 2 ≤ n ∧ n ≤ 4 := by
        simp only [List.mem_cons, List.not_mem_nil, or_false] at hnn
        omega
      refine ⟨n, rfl, rf0, by omega, by omega, fun t3 ht3 _ => ?_⟩
      obtain ⟨e3, b3, b4⟩ := tim_val n hnn rf hrf t3 ht3
      obtain ⟨c1, c2⟩ := runC_all n hnn rf hrf
      rw [← e3] at c1 c2
      rw [if_neg (by simp; omega)]
      exact ⟨n, rfl, hnb.1, hnb.2, rf0, by omega, by omega, by omega, false, c2, n, rfl, hnb.1, hnb.2, rf0, by omega, by omega, by omega, c1⟩
  · rintro v H2 F2 d _ hr rfl
    simp only [Rep] at hr
    subst hr
    exact q H2
end
end K97
set_option Elab.async false
set_option linter.all false
set_option maxRecDepth 100000
set_option maxHeartbeats 2000000
namespace K97
open PySem PySem.Spec PyProof.Rows L2 DL
/-- an error of the class at S is what «except S» names -/
theorem exm_self {K : PySem.W.Frag} {S : Addr} (h1 : PySem.W.subIn K (.ref S) (.type "BaseException") = some true) (h2 : PySem.W.isClsIn K S = true) (h3 : PySem.W.typeIn K (.ref S) = some (.type "type")) (h4 : PySem.W.subIn K (.ref S) (.ref S) = some true) :
    PySem.W.exmOne K (.ref S) (.ref S) = some true := by
  have e1 : (PySem.W.subIn K (.ref S) (.type "BaseException") == some true) = true := by rw [h1] <;> rfl
  have e2 : ((PySem.W.clsIn K S).isSome && PySem.W.typeIn K (.ref S) == some (.type "type")) = true := by
    have h2' : (PySem.W.clsIn K S).isSome = true := h2
    rw [h2', h3] <;> rfl
  show (if (PySem.W.subIn K (.ref S) (.type "BaseException") == some true) = true then (if ((PySem.W.clsIn K S).isSome && PySem.W.typeIn K (.ref S) == some (.type "type")) = true then PySem.W.subIn K (.ref S) (.ref S) else none) else none) = some true
  rw [if_pos e1, if_pos e2]
  exact h4
theorem kb_all {K : PySem.W.Frag} {x qual : Str} {st : Stmt} {f : Addr} {fd : FuncData} {ps : List Str} (F : Fun K x qual st f fd)
    (h : ∀ (kV doc pm : Value) (an : Option Addr) (cdv ct : Value) (ws : List Value), ws.length = ps.length → bindArgs (PySem.W.fnOf x qual (defArgs st) (defBody st) (defScope st) .none kV doc pm an cdv ct) ⟨[], ps.zip ws⟩ = pure (ps.zip ws)) : KB K fd ps ps 0 [] [] := by
  obtain ⟨oc, od, kV, doc, pm, an, cdv, ct, osl, rfl, lk, hcd⟩ := F.ex
  refine ⟨fun s us ws _ hu hw => ?_, .nil, by simp⟩
  have e : us = [] := List.eq_nil_of_length_eq_zero hu
  subst e
  rw [List.nil_append, List.append_nil]
  exact .of_eq (h kV doc pm an cdv ct ws hw)
theorem all_mk {P : Program} {w : World} {K : PySem.W.Frag} {h : Heap} {mg : Str → Option Value} {fa : Addr} (X : K.In h) (G : h.Ns mainGlobals mg) (hfa : mg "law" = some (.ref fa))
    (hfile : ∀ t : Str, t = "/claim/cut.py" → ((P.main.file : Str) == t) = true) (htop : (P.main.scope.names.lookup ("super" : Str)).isSome = false)
    {f0 : Addr} {od0 an0 : Option Addr} {sl0 : Array (Option Value)} {oc0 kV0 dc0 pm0 cd0 ct0 : Value} {f1 : Addr} {od1 an1 : Option Addr} {sl1 : Array (Option Value)} {oc1 kV1 dc1 pm1 cd1 ct1 : Value} {f2 : Addr} {od2 an2 : Option Addr} {sl2 : Array (Option Value)} {oc2 kV2 dc2 pm2 cd2 ct2 : Value} {f3 : Addr} {od3 an3 : Option Addr} {sl3 : Array (Option Value)} {oc3 kV3 dc3 pm3 cd3 ct3 : Value} {f4 : Addr} {od4 an4 : Option Addr} {sl4 : Array (Option Value)} {oc4 kV4 dc4 pm4 cd4 ct4 : Value} {f5 : Addr} {od5 an5 : Option Addr} {sl5 : Array (Option Value)} {oc5 kV5 dc5 pm5 cd5 ct5 : Value} {f6 : Addr} {od6 an6 : Option Addr} {sl6 : Array (Option Value)} {oc6 kV6 dc6 pm6 cd6 ct6 : Value} {f7 : Addr} {od7 an7 : Option Addr} {sl7 : Array (Option Value)} {oc7 kV7 dc7 pm7 cd7 ct7 : Value} {f8 : Addr} {od8 an8 : Option Addr} {sl8 : Array (Option Value)} {oc8 kV8 dc8 pm8 cd8 ct8 : Value} {f9 : Addr} {od9 an9 : Option Addr} {sl9 : Array (Option Value)} {oc9 kV9 dc9 pm9 cd9 ct9 : Value} {f10 : Addr} {od10 an10 : Option Addr} {sl10 : Array (Option Value)} {oc10 kV10 dc10 pm10 cd10 ct10 : Value} {f11 : Addr} {od11 an11 : Option Addr} {sl11 : Array (Option Value)} {oc11 kV11 dc11 pm11 cd11 ct11 : Value} {f12 : Addr} {od12 an12 : Option Addr} {sl12 : Array (Option Value)} {oc12 kV12 dc12 pm12 cd12 ct12 : Value} {f13 : Addr} {od13 an13 : Option Addr} {sl13 : Array (Option Value)} {oc13 kV13 dc13 pm13 cd13 ct13 : Value} {f14 : Addr} {od14 an14 : Option Addr} {sl14 : Array (Option Value)} {oc14 kV14 dc14 pm14 cd14 ct14 : Value} {f15 : Addr} {od15 an15 : Option Addr} {sl15 : Array (Option Value)} {oc15 kV15 dc15 pm15 cd15 ct15 : Value} {f16 : Addr} {od16 an16 : Option Addr} {sl16 : Array (Option Value)} {oc16 kV16 dc16 pm16 cd16 ct16 : Value} {f17 : Addr} {od17 an17 : Option Addr} {sl17 : Array (Option Value)} {oc17 kV17 dc17 pm17 cd17 ct17 : Value} {f18 : Addr} {od18 an18 : Option Addr} {sl18 : Array (Option Value)} {oc18 kV18 dc18 pm18 cd18 ct18 : Value} {f19 : Addr} {od19 an19 : Option Addr} {sl19 : Array (Option Value)} {oc19 kV19 dc19 pm19 cd19 ct19 : Value} {f20 : Addr} {od20 an20 : Option Addr} {sl20 : Array (Option Value)} {oc20 kV20 dc20 pm20 cd20 ct20 : Value} {f21 : Addr} {od21 an21 : Option Addr} {sl21 : Array (Option Value)} {oc21 kV21 dc21 pm21 cd21 ct21 : Value} {f22 : Addr} {od22 an22 : Option Addr} {sl22 : Array (Option Value)} {oc22 kV22 dc22 pm22 cd22 ct22 : Value} {f23 : Addr} {od23 an23 : Option Addr} {sl23 : Array (Option Value)} {oc23 kV23 dc23 pm23 cd23 ct23 : Value}
    {C CS fI cda cc aM N : Addr} {nm q : Str} {bs : List Value} {sn : List Str} {sub : List Value} {ab : Bool} {col : Option Bool} {dd : Option Addr} {m0 m1 m2 m3 m5 : Option Value} {xoc : Value} {odi ani : Option Addr} {doci pmi cti : Value} {osli : Array (Option Value)}
    {ccl : Value} {cdd : Option Addr} {vsc : Array Value} {ccs : Array (Option Value)} {tf : Tok} {cl : Value} {cld : Option Addr} {csl : Array (Option Value)} {oM : Option Addr} {nM : Nat} {sM : Array (Option Value)} {t1 t2 t3 t4 t5 : Tok}
    (a0 : PySem.W.nsIn K mainGlobals "spans" = some (some (.ref f0))) (l0 : K.lookup f0 = some ⟨oc0, od0, .func (PySem.W.fnOf "spans" "spans" (defArgs s_spans) (defBody s_spans) (defScope s_spans) .none kV0 dc0 pm0 an0 cd0 ct0), sl0⟩) (c0 : PySem.W.codeIn K cd0 "spans" = true) (k0 : PySem.W.keepIn K (.ref f0) = true)
    (a1 : PySem.W.nsIn K mainGlobals "longest_row" = some (some (.ref f1))) (l1 : K.lookup f1 = some ⟨oc1, od1, .func (PySem.W.fnOf "longest_row" "longest_row" (defArgs s_longest_row) (defBody s_longest_row) (defScope s_longest_row) .none kV1 dc1 pm1 an1 cd1 ct1), sl1⟩) (c1 : PySem.W.codeIn K cd1 "longest_row" = true) (k1 : PySem.W.keepIn K (.ref f1) = true)
    (a2 : PySem.W.nsIn K mainGlobals "fewest_times" = some (some (.ref f2))) (l2 : K.lookup f2 = some ⟨oc2, od2, .func (PySem.W.fnOf "fewest_times" "fewest_times" (defArgs s_fewest_times) (defBody s_fewest_times) (defScope s_fewest_times) .none kV2 dc2 pm2 an2 cd2 ct2), sl2⟩) (c2 : PySem.W.codeIn K cd2 "fewest_times" = true) (k2 : PySem.W.keepIn K (.ref f2) = true)
    (a3 : PySem.W.nsIn K mainGlobals "picks" = some (some (.ref f3))) (l3 : K.lookup f3 = some ⟨oc3, od3, .func (PySem.W.fnOf "picks" "picks" (defArgs s_picks) (defBody s_picks) (defScope s_picks) .none kV3 dc3 pm3 an3 cd3 ct3), sl3⟩) (c3 : PySem.W.codeIn K cd3 "picks" = true) (k3 : PySem.W.keepIn K (.ref f3) = true)
    (a4 : PySem.W.nsIn K mainGlobals "fewest_steps" = some (some (.ref f4))) (l4 : K.lookup f4 = some ⟨oc4, od4, .func (PySem.W.fnOf "fewest_steps" "fewest_steps" (defArgs s_fewest_steps) (defBody s_fewest_steps) (defScope s_fewest_steps) .none kV4 dc4 pm4 an4 cd4 ct4), sl4⟩) (c4 : PySem.W.codeIn K cd4 "fewest_steps" = true) (k4 : PySem.W.keepIn K (.ref f4) = true)
    (a5 : PySem.W.nsIn K mainGlobals "is_integer" = some (some (.ref f5))) (l5 : K.lookup f5 = some ⟨oc5, od5, .func (PySem.W.fnOf "is_integer" "is_integer" (defArgs s_is_integer) (defBody s_is_integer) (defScope s_is_integer) .none kV5 dc5 pm5 an5 cd5 ct5), sl5⟩) (c5 : PySem.W.codeIn K cd5 "is_integer" = true) (k5 : PySem.W.keepIn K (.ref f5) = true)
    (a6 : PySem.W.nsIn K mainGlobals "is_number" = some (some (.ref f6))) (l6 : K.lookup f6 = some ⟨oc6, od6, .func (PySem.W.fnOf "is_number" "is_number" (defArgs s_is_number) (defBody s_is_number) (defScope s_is_number) .none kV6 dc6 pm6 an6 cd6 ct6), sl6⟩) (c6 : PySem.W.codeIn K cd6 "is_number" = true) (k6 : PySem.W.keepIn K (.ref f6) = true)
    (a7 : PySem.W.nsIn K mainGlobals "is_move" = some (some (.ref f7))) (l7 : K.lookup f7 = some ⟨oc7, od7, .func (PySem.W.fnOf "is_move" "is_move" (defArgs s_is_move) (defBody s_is_move) (defScope s_is_move) .none kV7 dc7 pm7 an7 cd7 ct7), sl7⟩) (c7 : PySem.W.codeIn K cd7 "is_move" = true) (k7 : PySem.W.keepIn K (.ref f7) = true)
    (a8 : PySem.W.nsIn K mainGlobals "may_be" = some (some (.ref f8))) (l8 : K.lookup f8 = some ⟨oc8, od8, .func (PySem.W.fnOf "may_be" "may_be" (defArgs s_may_be) (defBody s_may_be) (defScope s_may_be) .none kV8 dc8 pm8 an8 cd8 ct8), sl8⟩) (c8 : PySem.W.codeIn K cd8 "may_be" = true) (k8 : PySem.W.keepIn K (.ref f8) = true)
    (a9 : PySem.W.nsIn K mainGlobals "after" = some (some (.ref f9))) (l9 : K.lookup f9 = some ⟨oc9, od9, .func (PySem.W.fnOf "after" "after" (defArgs s_after) (defBody s_after) (defScope s_after) .none kV9 dc9 pm9 an9 cd9 ct9), sl9⟩) (c9 : PySem.W.codeIn K cd9 "after" = true) (k9 : PySem.W.keepIn K (.ref f9) = true)
    (a10 : PySem.W.nsIn K mainGlobals "carried_out" = some (some (.ref f10))) (l10 : K.lookup f10 = some ⟨oc10, od10, .func (PySem.W.fnOf "carried_out" "carried_out" (defArgs s_carried_out) (defBody s_carried_out) (defScope s_carried_out) .none kV10 dc10 pm10 an10 cd10 ct10), sl10⟩) (c10 : PySem.W.codeIn K cd10 "carried_out" = true) (k10 : PySem.W.keepIn K (.ref f10) = true)
    (a11 : PySem.W.nsIn K mainGlobals "step_counts" = some (some (.ref f11))) (l11 : K.lookup f11 = some ⟨oc11, od11, .func (PySem.W.fnOf "step_counts" "step_counts" (defArgs s_step_counts) (defBody s_step_counts) (defScope s_step_counts) .none kV11 dc11 pm11 an11 cd11 ct11), sl11⟩) (c11 : PySem.W.codeIn K cd11 "step_counts" = true) (k11 : PySem.W.keepIn K (.ref f11) = true)
    (a12 : PySem.W.nsIn K mainGlobals "first_stop" = some (some (.ref f12))) (l12 : K.lookup f12 = some ⟨oc12, od12, .func (PySem.W.fnOf "first_stop" "first_stop" (defArgs s_first_stop) (defBody s_first_stop) (defScope s_first_stop) .none kV12 dc12 pm12 an12 cd12 ct12), sl12⟩) (c12 : PySem.W.codeIn K cd12 "first_stop" = true) (k12 : PySem.W.keepIn K (.ref f12) = true)
    (a13 : PySem.W.nsIn K mainGlobals "back_plan" = some (some (.ref f13))) (l13 : K.lookup f13 = some ⟨oc13, od13, .func (PySem.W.fnOf "back_plan" "back_plan" (defArgs s_back_plan) (defBody s_back_plan) (defScope s_back_plan) .none kV13 dc13 pm13 an13 cd13 ct13), sl13⟩) (c13 : PySem.W.codeIn K cd13 "back_plan" = true) (k13 : PySem.W.keepIn K (.ref f13) = true)
    (a14 : PySem.W.nsIn K mainGlobals "_law_draw" = some (some (.ref f14))) (l14 : K.lookup f14 = some ⟨oc14, od14, .func (PySem.W.fnOf "_law_draw" "_law_draw" (defArgs s__law_draw) (defBody s__law_draw) (defScope s__law_draw) .none kV14 dc14 pm14 an14 cd14 ct14), sl14⟩) (c14 : PySem.W.codeIn K cd14 "_law_draw" = true) (k14 : PySem.W.keepIn K (.ref f14) = true)
    (a15 : PySem.W.nsIn K mainGlobals "_law_any" = some (some (.ref f15))) (l15 : K.lookup f15 = some ⟨oc15, od15, .func (PySem.W.fnOf "_law_any" "_law_any" (defArgs s__law_any) (defBody s__law_any) (defScope s__law_any) .none kV15 dc15 pm15 an15 cd15 ct15), sl15⟩) (c15 : PySem.W.codeIn K cd15 "_law_any" = true) (k15 : PySem.W.keepIn K (.ref f15) = true)
    (a16 : PySem.W.nsIn K mainGlobals "_law_of" = some (some (.ref f16))) (l16 : K.lookup f16 = some ⟨oc16, od16, .func (PySem.W.fnOf "_law_of" "_law_of" (defArgs s__law_of) (defBody s__law_of) (defScope s__law_of) .none kV16 dc16 pm16 an16 cd16 ct16), sl16⟩) (c16 : PySem.W.codeIn K cd16 "_law_of" = true) (k16 : PySem.W.keepIn K (.ref f16) = true)
    (a17 : PySem.W.nsIn K mainGlobals "_law_same" = some (some (.ref f17))) (l17 : K.lookup f17 = some ⟨oc17, od17, .func (PySem.W.fnOf "_law_same" "_law_same" (defArgs s__law_same) (defBody s__law_same) (defScope s__law_same) .none kV17 dc17 pm17 an17 cd17 ct17), sl17⟩) (c17 : PySem.W.codeIn K cd17 "_law_same" = true) (k17 : PySem.W.keepIn K (.ref f17) = true)
    (a18 : PySem.W.nsIn K mainGlobals "_law_spans" = some (some (.ref f18))) (l18 : K.lookup f18 = some ⟨oc18, od18, .func (PySem.W.fnOf "_law_spans" "_law_spans" (defArgs s__law_spans) (defBody s__law_spans) (defScope s__law_spans) .none kV18 dc18 pm18 an18 cd18 ct18), sl18⟩) (c18 : PySem.W.codeIn K cd18 "_law_spans" = true) (k18 : PySem.W.keepIn K (.ref f18) = true)
    (a19 : PySem.W.nsIn K mainGlobals "_law_due" = some (some (.ref f19))) (l19 : K.lookup f19 = some ⟨oc19, od19, .func (PySem.W.fnOf "_law_due" "_law_due" (defArgs s__law_due) (defBody s__law_due) (defScope s__law_due) .none kV19 dc19 pm19 an19 cd19 ct19), sl19⟩) (c19 : PySem.W.codeIn K cd19 "_law_due" = true) (k19 : PySem.W.keepIn K (.ref f19) = true)
    (a20 : PySem.W.nsIn K mainGlobals "_law_moves" = some (some (.ref f20))) (l20 : K.lookup f20 = some ⟨oc20, od20, .func (PySem.W.fnOf "_law_moves" "_law_moves" (defArgs s__law_moves) (defBody s__law_moves) (defScope s__law_moves) .none kV20 dc20 pm20 an20 cd20 ct20), sl20⟩) (c20 : PySem.W.codeIn K cd20 "_law_moves" = true) (k20 : PySem.W.keepIn K (.ref f20) = true)
    (a21 : PySem.W.nsIn K mainGlobals "_law_fewest" = some (some (.ref f21))) (l21 : K.lookup f21 = some ⟨oc21, od21, .func (PySem.W.fnOf "_law_fewest" "_law_fewest" (defArgs s__law_fewest) (defBody s__law_fewest) (defScope s__law_fewest) .none kV21 dc21 pm21 an21 cd21 ct21), sl21⟩) (c21 : PySem.W.codeIn K cd21 "_law_fewest" = true) (k21 : PySem.W.keepIn K (.ref f21) = true)
    (a22 : PySem.W.nsIn K mainGlobals "_law_can" = some (some (.ref f22))) (l22 : K.lookup f22 = some ⟨oc22, od22, .func (PySem.W.fnOf "_law_can" "_law_can" (defArgs s__law_can) (defBody s__law_can) (defScope s__law_can) .none kV22 dc22 pm22 an22 cd22 ct22), sl22⟩) (c22 : PySem.W.codeIn K cd22 "_law_can" = true) (k22 : PySem.W.keepIn K (.ref f22) = true)
    (a23 : PySem.W.nsIn K mainGlobals "law" = some (some (.ref f23))) (l23 : K.lookup f23 = some ⟨oc23, od23, .func (PySem.W.fnOf "law" "law" (defArgs s_law) (defBody s_law) (defScope s_law) .none kV23 dc23 pm23 an23 cd23 ct23), sl23⟩) (c23 : PySem.W.codeIn K cd23 "law" = true) (k23 : PySem.W.keepIn K (.ref f23) = true)
    (z_range : PySem.W.nsIn K mainGlobals "range" = some none)
    (z_isinstance : PySem.W.nsIn K mainGlobals "isinstance" = some none)
    (z_int : PySem.W.nsIn K mainGlobals "int" = some none)
    (z_bool : PySem.W.nsIn K mainGlobals "bool" = some none)
    (z_tuple : PySem.W.nsIn K mainGlobals "tuple" = some none)
    (z_str : PySem.W.nsIn K mainGlobals "str" = some none)
    (z_len : PySem.W.nsIn K mainGlobals "len" = some none)
    (z_all : PySem.W.nsIn K mainGlobals "all" = some none)
    (z_min : PySem.W.nsIn K mainGlobals "min" = some none)
    (z_max : PySem.W.nsIn K mainGlobals "max" = some none)
    (z_abs : PySem.W.nsIn K mainGlobals "abs" = some none)
    (z_list : PySem.W.nsIn K mainGlobals "list" = some none)
    (z_zip : PySem.W.nsIn K mainGlobals "zip" = some none)
    (z_super : PySem.W.nsIn K mainGlobals "super" = some none)
    (z_sum : PySem.W.nsIn K mainGlobals "sum" = some none)
    (z_sorted : PySem.W.nsIn K mainGlobals "sorted" = some none)
    (xC : PySem.W.nsIn K mainGlobals "Refused" = some (some (.ref C)))
    (xL : K.lookup C = some (excClassObj nm q C N bs [.ref CS, .type "ValueError", .type "Exception", .type "BaseException", .type "object"] true sn sub ab col dd m0 m1 m2 m3 m5 "ValueError.__new__"))
    (xsup : PySem.W.ks_superIn K C C "__init__" = some (some (.builtin "ValueError.__init__"))) (xsubV : PySem.W.subIn K (.ref C) (.type "ValueError") = some true) (xself : PySem.W.mroIn K C (.ref C) = some true)
    (xopq : PySem.W.nsIn K cStatics "thirdparty.any" = some none) (xsa : PySem.W.findIn K (.ref C) "__setattr__" = some (some (.builtin "object.__setattr__"))) (xnoN : PySem.W.findIn K (.ref C) "at" = some none)
    (xiC : PySem.W.findIn K (.ref C) "__init__" = some (some (.ref fI))) (xtC : PySem.W.typeIn K (.ref fI) = some (.type "function")) (xkC : PySem.W.keepIn K (.ref C) = true) (xexC : PySem.W.subIn K (.ref C) (.type "BaseException") = some true) (xtyC : PySem.W.typeIn K (.ref C) = some (.type "type"))
    (xga : PySem.W.findIn K (.ref C) "__getattribute__" = some (some (.builtin "BaseException.__getattribute__"))) (xgg : PySem.W.findIn K (.ref C) "__getattr__" = some none) (xhd : PySem.W.hasDictIn K C = true) (xis : PySem.W.isClsIn K C = true) (xsc : PySem.W.subIn K (.ref C) (.ref C) = some true)
    (xfn : K.lookup fI = some ⟨xoc, odi, .func (PySem.W.ksFn "__init__" "Refused.__init__" (DErr.eA ⟨29, 17, 29, 21⟩ ⟨29, 23, 29, 25⟩) (DErr.eB "refused" 0 ⟨30, 8, 30, 13⟩ ⟨30, 8, 30, 15⟩ ⟨30, 8, 30, 24⟩ ⟨30, 25, 30, 34⟩ ⟨30, 8, 30, 35⟩ ⟨30, 8, 30, 35⟩ ⟨31, 8, 31, 12⟩ ⟨31, 8, 31, 15⟩ ⟨31, 18, 31, 20⟩ ⟨31, 8, 31, 20⟩) DErr.eS .none .none doci pmi ani (.ref cda) cti cc), osli⟩)
    (xcd : PySem.W.codeIn K (.ref cda) "Refused.__init__" = true) (xcda : K.lookup cda = some ⟨ccl, cdd, .fields vsc, ccs⟩) (xfile : vsc[2]? = some (.str "/claim/cut.py" tf)) (xcc : K.lookup cc = some ⟨cl, cld, .cell (some (.ref C)), csl⟩)
    (xM : PySem.W.nsIn K mainGlobals "MOVES" = some (some (.ref aM))) (xMl : K.lookup aM = some ⟨.type "tuple", oM, .seq #[.str "step" t1, .str "keep" t2, .str "back" t3, .str "drop" t4, .str "tell" t5] nM, sM⟩) :
    ∃ fd : FuncData, (∀ (s : Shared) (u : Value), BindsTo s fd ⟨[u], []⟩ [("script", u)]) ∧ ∀ base : Heap, K.In base → base.Ns mainGlobals mg → FnOk P w K mg base (L2.CX P w) 7 fa fd ["script"] (spLaw K) := by
  have e := hfa.symm.trans (PySem.W.mg_of X G a23)
  cases e
  have F_spans := fun_mk (st := s_spans) l0 c0 k0
  have g_spans := PySem.W.mg_of X G a0
  have b_spans := F_spans.binds (ps := ["places", "times"]) fun _ _ _ _ _ _ us hl => match us, hl with | [_, _], _ => rfl
  have F_longest_row := fun_mk (st := s_longest_row) l1 c1 k1
  have g_longest_row := PySem.W.mg_of X G a1
  have b_longest_row := F_longest_row.binds (ps := ["places", "times"]) fun _ _ _ _ _ _ us hl => match us, hl with | [_, _], _ => rfl
  have F_fewest_times := fun_mk (st := s_fewest_times) l2 c2 k2
  have g_fewest_times := PySem.W.mg_of X G a2
  have b_fewest_times := F_fewest_times.binds (ps := ["length", "places"]) fun _ _ _ _ _ _ us hl => match us, hl with | [_, _], _ => rfl
  have F_picks := fun_mk (st := s_picks) l3 c3 k3
  have g_picks := PySem.W.mg_of X G a3
  have b_picks := F_picks.binds (ps := ["things", "many"]) fun _ _ _ _ _ _ us hl => match us, hl with | [_, _], _ => rfl
  have F_fewest_steps := fun_mk (st := s_fewest_steps) l4 c4 k4
  have g_fewest_steps := PySem.W.mg_of X G a4
  have b_fewest_steps := F_fewest_steps.binds (ps := ["length", "places"]) fun _ _ _ _ _ _ us hl => match us, hl with | [_, _], _ => rfl
  have F_is_integer := fun_mk (st := s_is_integer) l5 c5 k5
  have g_is_integer := PySem.W.mg_of X G a5
  have b_is_integer := F_is_integer.binds (ps := ["value"]) fun _ _ _ _ _ _ us hl => match us, hl with | [_], _ => rfl
  have F_is_number := fun_mk (st := s_is_number) l6 c6 k6
  have g_is_number := PySem.W.mg_of X G a6
  have b_is_number := F_is_number.binds (ps := ["value"]) fun _ _ _ _ _ _ us hl => match us, hl with | [_], _ => rfl
  have F_is_move := fun_mk (st := s_is_move) l7 c7 k7
  have g_is_move := PySem.W.mg_of X G a7
  have b_is_move := F_is_move.binds (ps := ["value"]) fun _ _ _ _ _ _ us hl => match us, hl with | [_], _ => rfl
  have F_may_be := fun_mk (st := s_may_be) l8 c8 k8
  have g_may_be := PySem.W.mg_of X G a8
  have b_may_be := F_may_be.binds (ps := ["word", "place", "here", "kept", "places"]) fun _ _ _ _ _ _ us hl => match us, hl with | [_, _, _, _, _], _ => rfl
  have F_after := fun_mk (st := s_after) l9 c9 k9
  have g_after := PySem.W.mg_of X G a9
  have b_after := F_after.binds (ps := ["word", "place", "here", "kept"]) fun _ _ _ _ _ _ us hl => match us, hl with | [_, _, _, _], _ => rfl
  have F_carried_out := fun_mk (st := s_carried_out) l10 c10 k10
  have g_carried_out := PySem.W.mg_of X G a10
  have b_carried_out := F_carried_out.binds (ps := ["length", "places", "value"]) fun _ _ _ _ _ _ us hl => match us, hl with | [_, _, _], _ => rfl
  have F_step_counts := fun_mk (st := s_step_counts) l11 c11 k11
  have g_step_counts := PySem.W.mg_of X G a11
  have b_step_counts := F_step_counts.binds (ps := ["length", "places", "plan"]) fun _ _ _ _ _ _ us hl => match us, hl with | [_, _, _], _ => rfl
  have F_first_stop := fun_mk (st := s_first_stop) l12 c12 k12
  have g_first_stop := PySem.W.mg_of X G a12
  have b_first_stop := F_first_stop.binds (ps := ["many", "places"]) fun _ _ _ _ _ _ us hl => match us, hl with | [_, _], _ => rfl
  have F_back_plan := fun_mk (st := s_back_plan) l13 c13 k13
  have g_back_plan := PySem.W.mg_of X G a13
  have b_back_plan := F_back_plan.binds (ps := ["length", "places"]) fun _ _ _ _ _ _ us hl => match us, hl with | [_, _], _ => rfl
  have F__law_draw := fun_mk (st := s__law_draw) l14 c14 k14
  have g__law_draw := PySem.W.mg_of X G a14
  have b__law_draw := F__law_draw.binds (ps := ["script", "salt"]) fun _ _ _ _ _ _ us hl => match us, hl with | [_, _], _ => rfl
  have F__law_any := fun_mk (st := s__law_any) l15 c15 k15
  have g__law_any := PySem.W.mg_of X G a15
  have b__law_any := F__law_any.binds (ps := ["deal", "bound"]) fun _ _ _ _ _ _ us hl => match us, hl with | [_, _], _ => rfl
  have F__law_of := fun_mk (st := s__law_of) l16 c16 k16
  have g__law_of := PySem.W.mg_of X G a16
  have b__law_of := F__law_of.binds (ps := ["deal", "some"]) fun _ _ _ _ _ _ us hl => match us, hl with | [_, _], _ => rfl
  have F__law_same := fun_mk (st := s__law_same) l17 c17 k17
  have g__law_same := PySem.W.mg_of X G a17
  have b__law_same := F__law_same.binds (ps := ["value", "due"]) fun _ _ _ _ _ _ us hl => match us, hl with | [_, _], _ => rfl
  have F__law_spans := fun_mk (st := s__law_spans) l18 c18 k18
  have g__law_spans := PySem.W.mg_of X G a18
  have b__law_spans := F__law_spans.binds (ps := ["places", "times"]) fun _ _ _ _ _ _ us hl => match us, hl with | [_, _], _ => rfl
  have F__law_due := fun_mk (st := s__law_due) l19 c19 k19
  have g__law_due := PySem.W.mg_of X G a19
  have b__law_due := F__law_due.binds (ps := ["length", "places"]) fun _ _ _ _ _ _ us hl => match us, hl with | [_, _], _ => rfl
  have F__law_moves := fun_mk (st := s__law_moves) l20 c20 k20
  have g__law_moves := PySem.W.mg_of X G a20
  have b__law_moves := F__law_moves.binds (ps := ["length", "places", "state"]) fun _ _ _ _ _ _ us hl => match us, hl with | [_, _, _], _ => rfl
  have F__law_fewest := fun_mk (st := s__law_fewest) l21 c21 k21
  have g__law_fewest := PySem.W.mg_of X G a21
  have b__law_fewest := F__law_fewest.binds (ps := ["length", "places"]) fun _ _ _ _ _ _ us hl => match us, hl with | [_, _], _ => rfl
  have F__law_can := fun_mk (st := s__law_can) l22 c22 k22
  have g__law_can := PySem.W.mg_of X G a22
  have b__law_can := F__law_can.binds (ps := ["length", "places", "times"]) fun _ _ _ _ _ _ us hl => match us, hl with | [_, _, _], _ => rfl
  have F_law := fun_mk (st := s_law) l23 c23 k23
  have g_law := PySem.W.mg_of X G a23
  have b_law := F_law.binds (ps := ["script"]) fun _ _ _ _ _ _ us hl => match us, hl with | [_], _ => rfl
  have m_range := PySem.W.mg_none_of X G z_range
  have m_isinstance := PySem.W.mg_none_of X G z_isinstance
  have m_int := PySem.W.mg_none_of X G z_int
  have m_bool := PySem.W.mg_none_of X G z_bool
  have m_tuple := PySem.W.mg_none_of X G z_tuple
  have m_str := PySem.W.mg_none_of X G z_str
  have m_len := PySem.W.mg_none_of X G z_len
  have m_all := PySem.W.mg_none_of X G z_all
  have m_min := PySem.W.mg_none_of X G z_min
  have m_max := PySem.W.mg_none_of X G z_max
  have m_abs := PySem.W.mg_none_of X G z_abs
  have m_list := PySem.W.mg_none_of X G z_list
  have m_zip := PySem.W.mg_none_of X G z_zip
  have m_super := PySem.W.mg_none_of X G z_super
  have m_sum := PySem.W.mg_none_of X G z_sum
  have m_sorted := PySem.W.mg_none_of X G z_sorted
  have T_Refused : DErr.ErrTxt P K mg "Refused" C fI :=
    { gC := PySem.W.mg_of X G xC, cls := ⟨nm, q, N, bs, _, sn, sub, ab, col, dd, m0, m1, m2, m3, m5, xL, rfl⟩, sup := xsup, subV := xsubV, self := xself, opq := xopq, noS := m_super, top := htop, sa := xsa, noN := xnoN, iC := xiC, tC := xtC, kC := xkC, exC := xexC, tyC := xtyC,
      fn := ⟨_, _, _, _, _, _, _, _, _, _, _, _, _, _, _, _, _, _, _, _, _, _, _, _, _, _, _, _, _, _, _, _, _, xfn, xcd, xcda, xfile, hfile _ rfl, xcc, rfl⟩ }
  have hm_MOVES := PySem.W.mg_of X G xM
  have hc_MOVES : constD K movesD (.ref aM) := by
    refine ⟨.ref aM, rfl, fun F => ?_⟩
    simp only [movesD, Rep]
    refine ⟨aM, slst MOVES |>.map (fun d => match d with | .str x => V.str x | _ => .non), rfl, .inr ⟨_, _, nM, xMl, rfl, rfl, ?_, ?_⟩, ?_⟩
    · show 5 ≤ sizeLine
      rw [sizeLine_eq]; decide
    · exact .cons ⟨t1, rfl⟩ (.cons ⟨t2, rfl⟩ (.cons ⟨t3, rfl⟩ (.cons ⟨t4, rfl⟩ (.cons ⟨t5, rfl⟩ .nil))))
    · simp [slst, MOVES, RepL, Rep]
  refine ⟨PySem.W.fnOf "law" "law" (defArgs s_law) (defBody s_law) (defScope s_law) .none kV23 dc23 pm23 an23 cd23 ct23, (fun s u => .of_eq rfl), fun base _ _ => ?_⟩
  have C_spans : Callee P w K mg base 1 "spans" _ sp_spans := ⟨_, _, ok_spans F_spans m_range, g_spans, k0, b_spans⟩
  have C_longest_row : Callee P w K mg base 2 "longest_row" _ sp_longest_row := ⟨_, _, ok_longest_row F_longest_row C_spans, g_longest_row, k1, b_longest_row⟩
  have Ck_longest_row : CalleeK P w K mg base 2 "longest_row" _ ["places", "times"] 0 sp_longest_row := ⟨_, _, ok_longest_row F_longest_row C_spans, g_longest_row, k1, kb_all F_longest_row fun _ _ _ _ _ _ us hl => match us, hl with | [_, _], _ => rfl⟩
  have C_fewest_times : Callee P w K mg base 3 "fewest_times" _ sp_fewest_times := ⟨_, _, ok_fewest_times F_fewest_times C_longest_row, g_fewest_times, k2, b_fewest_times⟩
  have Ck_fewest_times : CalleeK P w K mg base 3 "fewest_times" _ ["length", "places"] 0 sp_fewest_times := ⟨_, _, ok_fewest_times F_fewest_times C_longest_row, g_fewest_times, k2, kb_all F_fewest_times fun _ _ _ _ _ _ us hl => match us, hl with | [_, _], _ => rfl⟩
  have C_picks : Callee P w K mg base 1 "picks" _ sp_picks := ⟨_, _, ok_picks F_picks m_range, g_picks, k3, b_picks⟩
  have C_fewest_steps : Callee P w K mg base 4 "fewest_steps" _ sp_fewest_steps := ⟨_, _, ok_fewest_steps F_fewest_steps C_fewest_times C_picks, g_fewest_steps, k4, b_fewest_steps⟩
  have Ck_fewest_steps : CalleeK P w K mg base 4 "fewest_steps" _ ["length", "places"] 0 sp_fewest_steps := ⟨_, _, ok_fewest_steps F_fewest_steps C_fewest_times C_picks, g_fewest_steps, k4, kb_all F_fewest_steps fun _ _ _ _ _ _ us hl => match us, hl with | [_, _], _ => rfl⟩
  have C_is_integer : Callee P w K mg base 1 "is_integer" _ sp_is_integer := ⟨_, _, ok_is_integer F_is_integer m_isinstance m_int m_bool, g_is_integer, k5, b_is_integer⟩
  have C_is_number : Callee P w K mg base 2 "is_number" _ sp_is_number := ⟨_, _, ok_is_number F_is_number C_is_integer, g_is_number, k6, b_is_number⟩
  have C_is_move : Callee P w K mg base 3 "is_move" _ sp_is_move := ⟨_, _, ok_is_move F_is_move C_is_number m_isinstance m_tuple m_str m_len hm_MOVES hc_MOVES, g_is_move, k7, b_is_move⟩
  have C_may_be : Callee P w K mg base 1 "may_be" _ sp_may_be := ⟨_, _, ok_may_be F_may_be m_len, g_may_be, k8, b_may_be⟩
  have C_after : Callee P w K mg base 1 "after" _ sp_after := ⟨_, _, ok_after F_after m_tuple, g_after, k9, b_after⟩
  have C_carried_out : Callee P w K mg base 4 "carried_out" _ sp_carried_out := ⟨_, _, ok_carried_out F_carried_out C_is_move C_may_be C_after m_isinstance m_tuple m_all, g_carried_out, k10, b_carried_out⟩
  have C_step_counts : Callee P w K mg base 5 "step_counts" _ (sp_step_counts C) := ⟨_, _, ok_step_counts F_step_counts C_carried_out T_Refused, g_step_counts, k11, b_step_counts⟩
  have C_first_stop : Callee P w K mg base 4 "first_stop" _ sp_first_stop := ⟨_, _, ok_first_stop F_first_stop C_spans C_fewest_times m_min, g_first_stop, k12, b_first_stop⟩
  have Ck_back_plan : CalleeK P w K mg base 5 "back_plan" _ ["length", "places"] 0 sp_back_plan := ⟨_, _, ok_back_plan F_back_plan C_first_stop m_len m_range m_tuple, g_back_plan, k13, kb_all F_back_plan fun _ _ _ _ _ _ us hl => match us, hl with | [_, _], _ => rfl⟩
  have C__law_draw : CalleeS P w K mg base 1 "_law_draw" _ (spDraw K) := ⟨_, _, ok__law_draw F__law_draw m_int m_abs, g__law_draw, k14, b__law_draw⟩
  have C__law_any : Callee P w K mg base 1 "_law_any" _ sp_any := ⟨_, _, ok__law_any F__law_any m_int, g__law_any, k15, b__law_any⟩
  have C__law_of : Callee P w K mg base 2 "_law_of" _ sp__law_of := ⟨_, _, ok__law_of F__law_of C__law_any m_len, g__law_of, k16, b__law_of⟩
  have C__law_same : Callee P w K mg base 3 "_law_same" _ (sp__law_same 3) := ⟨_, _, ok__law_same F__law_same g__law_same k17 b__law_same m_isinstance m_tuple m_int m_bool m_str m_len m_zip 3, g__law_same, k17, b__law_same⟩
  have C__law_spans : Callee P w K mg base 1 "_law_spans" _ sp__law_spans := ⟨_, _, ok__law_spans F__law_spans m_range, g__law_spans, k18, b__law_spans⟩
  have C__law_due : Callee P w K mg base 2 "_law_due" _ sp__law_due := ⟨_, _, ok__law_due F__law_due C__law_spans, g__law_due, k19, b__law_due⟩
  have C__law_moves : Callee P w K mg base 1 "_law_moves" _ sp__law_moves := ⟨_, _, ok__law_moves F__law_moves m_len m_tuple m_sorted, g__law_moves, k20, b__law_moves⟩
  have C__law_fewest : Callee P w K mg base 2 "_law_fewest" _ sp__law_fewest := ⟨_, _, ok__law_fewest F__law_fewest C__law_moves m_list, g__law_fewest, k21, b__law_fewest⟩
  have C__law_can : Callee P w K mg base 2 "_law_can" _ sp__law_can := ⟨_, _, ok__law_can F__law_can C__law_moves, g__law_can, k22, b__law_can⟩
  exact ok_law (CR := C) (fI := fI) F_law C__law_draw C__law_any C__law_of C__law_same C__law_spans C__law_due C__law_fewest C__law_can Ck_longest_row Ck_fewest_times C_fewest_times Ck_fewest_steps C_fewest_steps Ck_back_plan C_step_counts m_max m_sum m_len
end K97
set_option Elab.async false
set_option linter.all false
set_option maxRecDepth 100000
open PySem PySem.W PyProof.Rows
theorem K97.walk {l : PySem.W.OpenLaw} {q : Program} {loose : List Str} {XP : (Str → Option Value) → Heap → Prop} {YP : World → Heap → Prop} {d : DefRec} {K : Params → PySem.W.Frag} (hn : l.most = some 63) (hdf : d.params.defaults = [])
    (hY : ∀ (w : World) (h : Heap), YP w h → (K w.params).In h)
    (F : ∀ (w : World) (mg : Str → Option Value) (fa : Addr) (h : Heap), (K w.params).In h → h.Ns mainGlobals mg → mg d.name = some (.ref fa) →
      ∃ fd : FuncData, (∀ (s : Shared) (u : Value), BindsTo s fd ⟨[u], []⟩ [("script", u)]) ∧ ∀ base : Heap, (K w.params).In base → base.Ns mainGlobals mg → L2.FnOk l.prog w (K w.params) mg base (L2.CX l.prog w) 7 fa fd ["script"] (K97.spLaw (K w.params))) :
    PySem.W.WalkO q loose XP YP l.row.toRowW d [] (fun f vs => PySem.call f vs) :=
  L2.walk_of (n := 63) (k := 7) (x := "script") (CX := fun w => L2.CX l.prog w) (sp := fun w => K97.spLaw (K w.params)) hn (by decide) hdf ⟨rfl, by decide, by decide⟩ hY F (fun _ _ a ns hl _ hS => ⟨a, ns, rfl, hS, fun _ => rfl⟩) fun _ _ _ _ _ ⟨_, _, _, _, _, _, _, _, _, _, _, _, z⟩ => z
set_option maxRecDepth 100000 in
set_option maxHeartbeats 0 in
theorem PySem.Challenge.cw_slipslater_k98_whole_fewest_steps_back_holds : PySem.Challenge.rw_slipslater_k98_whole_fewest_steps_back.Holds := by
  w_on; o_law; k_head; (case hw => w_witness2)
  k_fill
  refine K97.walk (l := PySem.Challenge.rw_slipslater_k98_whole_fewest_steps_back) rfl rfl (fun w h Y => PySem.W.kIn_of Y) ?F
  case F =>
    intro w mg fa h KX G hmg
    refine' K97.all_mk KX G hmg ?hfile ?htop ?a0 ?l0 ?c0 ?k0 ?a1 ?l1 ?c1 ?k1 ?a2 ?l2 ?c2 ?k2 ?a3 ?l3 ?c3 ?k3 ?a4 ?l4 ?c4 ?k4 ?a5 ?l5 ?c5 ?k5 ?a6 ?l6 ?c6 ?k6 ?a7 ?l7 ?c7 ?k7 ?a8 ?l8 ?c8 ?k8 ?a9 ?l9 ?c9 ?k9 ?a10 ?l10 ?c10 ?k10 ?a11 ?l11 ?c11 ?k11 ?a12 ?l12 ?c12 ?k12 ?a13 ?l13 ?c13 ?k13 ?a14 ?l14 ?c14 ?k14 ?a15 ?l15 ?c15 ?k15 ?a16 ?l16 ?c16 ?k16 ?a17 ?l17 ?c17 ?k17 ?a18 ?l18 ?c18 ?k18 ?a19 ?l19 ?c19 ?k19 ?a20 ?l20 ?c20 ?k20 ?a21 ?l21 ?c21 ?k21 ?a22 ?l22 ?c22 ?k22 ?a23 ?l23 ?c23 ?k23 ?z_range ?z_isinstance ?z_int ?z_bool ?z_tuple ?z_str ?z_len ?z_all ?z_min ?z_max ?z_abs ?z_list ?z_zip ?z_super ?z_sum ?z_sorted ?xC ?xL ?xsup ?xsubV ?xself ?xopq ?xsa ?xnoN ?xiC ?xtC ?xkC ?xexC ?xtyC ?xga ?xgg ?xhd ?xis ?xsc ?xfn ?xcd ?xcda ?xfile ?xcc ?xM ?xMl
    (case hfile => intro t ht; subst ht; decide +kernel); (case htop => decide +kernel)
    (case a0 => k_is); (case l0 => k_is); (case c0 => k_is); (case k0 => k_is)
    (case a1 => k_is); (case l1 => k_is); (case c1 => k_is); (case k1 => k_is)
    (case a2 => k_is); (case l2 => k_is); (case c2 => k_is); (case k2 => k_is)
    (case a3 => k_is); (case l3 => k_is); (case c3 => k_is); (case k3 => k_is)
    (case a4 => k_is); (case l4 => k_is); (case c4 => k_is); (case k4 => k_is)
    (case a5 => k_is); (case l5 => k_is); (case c5 => k_is); (case k5 => k_is)
    (case a6 => k_is); (case l6 => k_is); (case c6 => k_is); (case k6 => k_is)
    (case a7 => k_is); (case l7 => k_is); (case c7 => k_is); (case k7 => k_is)
    (case a8 => k_is); (case l8 => k_is); (case c8 => k_is); (case k8 => k_is)
    (case a9 => k_is); (case l9 => k_is); (case c9 => k_is); (case k9 => k_is)
    (case a10 => k_is); (case l10 => k_is); (case c10 => k_is); (case k10 => k_is)
    (case a11 => k_is); (case l11 => k_is); (case c11 => k_is); (case k11 => k_is)
    (case a12 => k_is); (case l12 => k_is); (case c12 => k_is); (case k12 => k_is)
    (case a13 => k_is); (case l13 => k_is); (case c13 => k_is); (case k13 => k_is)
    (case a14 => k_is); (case l14 => k_is); (case c14 => k_is); (case k14 => k_is)
    (case a15 => k_is); (case l15 => k_is); (case c15 => k_is); (case k15 => k_is)
    (case a16 => k_is); (case l16 => k_is); (case c16 => k_is); (case k16 => k_is)
    (case a17 => k_is); (case l17 => k_is); (case c17 => k_is); (case k17 => k_is)
    (case a18 => k_is); (case l18 => k_is); (case c18 => k_is); (case k18 => k_is)
    (case a19 => k_is); (case l19 => k_is); (case c19 => k_is); (case k19 => k_is)
    (case a20 => k_is); (case l20 => k_is); (case c20 => k_is); (case k20 => k_is)
    (case a21 => k_is); (case l21 => k_is); (case c21 => k_is); (case k21 => k_is)
    (case a22 => k_is); (case l22 => k_is); (case c22 => k_is); (case k22 => k_is)
    (case a23 => k_is); (case l23 => k_is); (case c23 => k_is); (case k23 => k_is)
    (case z_range => k_is)
    (case z_isinstance => k_is)
    (case z_int => k_is)
    (case z_bool => k_is)
    (case z_tuple => k_is)
    (case z_str => k_is)
    (case z_len => k_is)
    (case z_all => k_is)
    (case z_min => k_is)
    (case z_max => k_is)
    (case z_abs => k_is)
    (case z_list => k_is)
    (case z_zip => k_is)
    (case z_super => k_is)
    (case z_sum => k_is)
    (case z_sorted => k_is)
    (case xC => k_is); (case xL => k_is); (case xsup => ks_is); (case xsubV => k_is); (case xself => k_is); (case xopq => k_is); (case xsa => k_is); (case xnoN => k_is)
    (case xiC => k_is); (case xtC => k_is); (case xkC => k_is); (case xexC => k_is); (case xtyC => k_is); (case xga => k_is); (case xgg => k_is); (case xhd => k_is); (case xis => k_is); (case xsc => first | rfl | k_is)
    (case xfn => k_is); (case xcd => k_is); (case xcda => k_is); (case xfile => first | rfl | k_is); (case xcc => k_is); (case xM => k_is); (case xMl => k_is)
