import PyProof.Rows.All
import Wide.All
import OpenK.AllK
import Wide.FinOn
import HandS.ForMost
import HandS.Exc
import HandS.ExcOwn
import HandS.CallSlots
import HandS.AnyAll
import HandS.WordsExc
import HandS.Flow
import HandS.Style
import HandS.Wide
import HandS.TupAny
import HandS.TupMul
import HandS.IsInst
import HandS.Codes
import HandS.Zip
import HandS.Iter
import HandS.Comp
import HandS.Defaults
import HandS.GenList
import PyProof.SumAny
import PyProof.ConsumeS
import PyProof.ReprRoads
import PyProof.Rows.RegStrFacts
import HandS.EndTab
import HandS.HeadWalk
import HandS.HeadHook4
import HandS.Head2
import PySem.Challenge.RW_roundladder_k48_errors_there_and_back
set_option Elab.async false
set_option linter.all false
set_option maxRecDepth 100000
set_option maxHeartbeats 4000000
/-! TyA: a typed layer over the hand layer: typed values with footprints, typed states, contracts. -/
namespace TY
open PySem L2

/-! ### footprints -/
abbrev Fp := Addr → Prop
def fe : Fp := fun _ => False
def fo (F G : Fp) : Fp := fun b => F b ∨ G b
def f1 (a : Addr) : Fp := fun b => b = a
def Dj (F G : Fp) : Prop := ∀ b, F b → G b → False
theorem fo_fe (F : Fp) : fo F fe = F := by funext b; simp [fo, fe]
theorem fe_fo (F : Fp) : fo fe F = F := by funext b; simp [fo, fe]
theorem fo_assoc (F G J : Fp) : fo (fo F G) J = fo F (fo G J) := by funext b; simp [fo, or_assoc]
theorem fo_comm (F G : Fp) : fo F G = fo G F := by funext b; simp [fo, or_comm]
theorem Dj.symm {F G : Fp} (h : Dj F G) : Dj G F := fun b x y => h b y x
theorem dj_fe (F : Fp) : Dj F fe := fun _ _ h => h
theorem fe_dj (F : Fp) : Dj fe F := fun _ h _ => h
theorem Dj.sub {F G F' G' : Fp} (h : Dj F G) (a : ∀ b, F' b → F b) (c : ∀ b, G' b → G b) : Dj F' G' := fun b x y => h b (a b x) (c b y)
theorem dj_fo {F G J : Fp} (h : Dj F J) (k : Dj G J) : Dj (fo F G) J := fun b x y => x.elim (fun z => h b z y) fun z => k b z y
theorem Dj.fo_l {F G J : Fp} (h : Dj (fo F G) J) : Dj F J := fun b x y => h b (.inl x) y
theorem Dj.fo_r {F G J : Fp} (h : Dj (fo F G) J) : Dj G J := fun b x y => h b (.inr x) y

/-- as it was, or a code object's table that has grown -/
def Kp (o o' : HO) : Prop := o' = o ∨ ∃ ps ps' : Array Value, o = .tbl ps ∧ o' = .tbl ps' ∧ (TriplesOk ps.toList → TriplesOk ps'.toList)
theorem Kp.trans {o o1 o2 : HO} (a : Kp o o1) (c : Kp o1 o2) : Kp o o2 := by
  rcases a with rfl | ⟨ps, ps', rfl, rfl, t⟩
  · exact c
  · rcases c with rfl | ⟨qs, qs', e, rfl, u⟩
    · exact .inr ⟨ps, ps', rfl, rfl, t⟩
    · cases e
      exact .inr ⟨ps, qs', rfl, rfl, fun z => u (t z)⟩
/-- nothing that never changes has changed -/
def Stay (H H' : Hp) : Prop := ∀ b o, H b = some o → ¬ Mut (some o) → ∃ o', H' b = some o' ∧ Kp o o'
theorem Stay.refl (H : Hp) : Stay H H := fun _ o h _ => ⟨o, h, .inl rfl⟩
theorem Stay.at_ {H H' : Hp} (s : Stay H H') {b : Addr} {o : HO} (h : H b = some o) (m : ¬ Mut (some o)) (t : ∀ ps, o ≠ .tbl ps) : H' b = some o := by
  obtain ⟨o', h', k⟩ := s b o h m
  rcases k with rfl | ⟨ps, _, e, _⟩
  · exact h'
  · exact absurd e (t ps)
theorem Stay.trans {H H1 H2 : Hp} (a : Stay H H1) (c : Stay H1 H2) : Stay H H2 := fun b o h m => by
  obtain ⟨o1, h1, k1⟩ := a b o h m
  have m1 : ¬ Mut (some o1) := by
    rcases k1 with rfl | ⟨_, _, _, rfl, _⟩
    · exact m
    · exact fun z => z
  obtain ⟨o2, h2, k2⟩ := c b o1 h1 m1
  exact ⟨o2, h2, k1.trans k2⟩
theorem Stay.tab {H H' : Hp} (s : Stay H H') {P : Addr} (h : GxR.TabG H P) : GxR.TabG H' P := by
  obtain ⟨ps, e, t⟩ := h
  obtain ⟨o', e', k⟩ := s P _ e (fun z => z)
  rcases k with rfl | ⟨qs, qs', z, rfl, u⟩
  · exact ⟨ps, e', t⟩
  · cases z
    exact ⟨qs', e', u t⟩
theorem Stay.seqT {K : PySem.W.Frag} {H H' : Hp} (e : Stay H H') {a : Addr} {xs : List V} (h : SqT K H a xs) : SqT K H' a xs := by
  rcases h with (h | ⟨o, h⟩) | h
  · exact .inl (.inl (e.at_ h (fun z => z) fun _ z => nomatch z))
  · exact .inl (.inr ⟨o, e.at_ h (fun z => z) fun _ z => nomatch z⟩)
  · exact .inr h

/-- how a heap may change where F is owned; F': what is owned behind -/
structure Chg (H : Hp) (F : Fp) (H' : Hp) (F' : Fp) : Prop where
  keep : ∀ b o, H b = some o → ¬ F b → ∃ o', H' b = some o' ∧ Kp o o'
  new : ∀ b, F' b → F b ∨ H b = none
section
variable {H H1 H2 : Hp} {F F1 F2 G : Fp}
theorem Chg.refl : Chg H F H F := ⟨fun _ o h _ => ⟨o, h, .inl rfl⟩, fun _ h => .inl h⟩
theorem Chg.sub (c : Chg H F H1 F1) (h : ∀ b, F2 b → F1 b) : Chg H F H1 F2 := ⟨c.keep, fun b x => c.new b (h b x)⟩
theorem Chg.sup (c : Chg H F H1 F1) (h : ∀ b, F b → G b) : Chg H G H1 F1 := ⟨fun b o e n => c.keep b o e fun z => n (h b z), fun b x => (c.new b x).imp (h b) id⟩
theorem Chg.trans (a : Chg H F H1 F1) (c : Chg H1 F1 H2 F2) : Chg H F H2 F2 where
  keep := fun b o h n => by
    obtain ⟨o1, h1, k1⟩ := a.keep b o h n
    have n1 : ¬ F1 b := fun z => by
      rcases a.new b z with y | y
      · exact n y
      · rw [h] at y; cases y
    obtain ⟨o2, h2, k2⟩ := c.keep b o1 h1 n1
    exact ⟨o2, h2, k1.trans k2⟩
  new := fun b h => by
    rcases c.new b h with y | y
    · exact a.new b y
    · by_cases hf : F b
      · exact .inl hf
      · right
        cases e : H b with
        | none => rfl
        | some o =>
          obtain ⟨o1, h1, _⟩ := a.keep b o e hf
          rw [h1] at y; cases y
theorem Chg.stay (c : Chg H F H1 F1) (own : ∀ b, F b → Mut (H b)) : Stay H H1 := fun b o h m => c.keep b o h fun z => m (by have := own b z; rwa [h] at this)
/-- what stands apart from F stays apart -/
theorem Chg.apart (c : Chg H F H1 F1) (own : ∀ b, G b → Mut (H b)) (d : Dj G F) : Dj G F1 := fun b x y => by
  rcases c.new b y with z | z
  · exact d b x z
  · have := own b x
    rw [z] at this; exact this
/-- a frame around -/
theorem Chg.frame (c : Chg H F H1 F1) : Chg H (fo G F) H1 (fo G F1) := ⟨fun b o h n => c.keep b o h fun z => n (.inr z), fun b h => by
  rcases h with h | h
  · exact .inl (.inl h)
  · exact (c.new b h).imp .inr id⟩
theorem Chg.kept (c : Chg H F H1 F1) (own : ∀ b, G b → Mut (H b)) (d : Dj G F) : ∀ b o, G b → H b = some o → H1 b = some o := fun b o g h => by
  obtain ⟨o', h', k⟩ := c.keep b o h fun z => d b g z
  rcases k with rfl | ⟨ps, _, rfl, _⟩
  · exact h'
  · have := own b g
    rw [h] at this; exact this.elim
theorem Chg.alloc {p : Addr} {o : HO} (hp : H p = none) : Chg H F (upd H p o) (fo (f1 p) F) := ⟨fun b u h _ => ⟨u, by rw [upd_ne (ne_of_none h hp)]; exact h, .inl rfl⟩, fun b h => by
  rcases h with h | h
  · exact .inr (by rw [h]; exact hp)
  · exact .inl h⟩
theorem Chg.write {p : Addr} {o : HO} (hp : F p) : Chg H F (upd H p o) F := ⟨fun b u h n => ⟨u, by rw [upd_ne (fun z => n (by rw [z]; exact hp))]; exact h, .inl rfl⟩, fun b h => .inl h⟩
end

/-! ### types -/
structure Ty where
  α : Type
  at_ : PySem.W.Frag → Hp → Fp → V → α → Prop
  own : ∀ {K H F v a}, at_ K H F v a → ∀ b, F b → Mut (H b)
  keep : ∀ {K H H' F v a}, at_ K H F v a → Stay H H' → (∀ b o, F b → H b = some o → H' b = some o) → at_ K H' F v a
/-- values that own nothing -/
class Imm (t : Ty) : Prop where
  imm : ∀ {K H F v a}, t.at_ K H F v a → F = fe
theorem Ty.kept {t : Ty} {K : PySem.W.Frag} {H H' : Hp} {F G G' : Fp} {v : V} {a : t.α} (h : t.at_ K H F v a) (c : Chg H G H' G') (own : ∀ b, G b → Mut (H b)) (d : Dj F G) : t.at_ K H' F v a :=
  t.keep h (c.stay own) (c.kept (t.own h) d)
theorem Ty.stays {t : Ty} [i : Imm t] {K : PySem.W.Frag} {H H' : Hp} {F : Fp} {v : V} {a : t.α} (h : t.at_ K H F v a) (s : Stay H H') : t.at_ K H' fe v a := by
  have e := i.imm h
  subst e
  exact t.keep h s fun b o z _ => z.elim

/-- a value that the heap has no part in -/
@[reducible] def tFlat (α : Type) (f : α → V) : Ty where
  α := α
  at_ := fun _ _ F v a => F = fe ∧ v = f a
  own := fun h b z => by rw [h.1] at z; exact z.elim
  keep := fun h _ _ => h
instance {α : Type} {f : α → V} : Imm (tFlat α f) := ⟨fun h => h.1⟩
@[reducible] def tInt : Ty := tFlat Int V.int
@[reducible] def tBool : Ty := tFlat Bool V.bl
@[reducible] def tStr : Ty := tFlat Str V.str
@[reducible] def tNone : Ty := tFlat Unit fun _ => V.non

/-! ### states: the slots, each with a type or none -/
@[reducible] def Sl (o : Option Ty) : Type := match o with
  | none => Unit
  | some t => t.α
abbrev Cy := List (Option Ty)
@[reducible] def HL : Cy → Type
  | [] => Unit
  | o :: Γ => Sl o × HL Γ
def SlAt (K : PySem.W.Frag) (H : Hp) : (o : Option Ty) → Fp → Option V → Sl o → Prop
  | none, F, _, _ => F = fe
  | some t, F, w, a => ∃ v, w = some v ∧ t.at_ K H F v a
def SR (K : PySem.W.Frag) (H : Hp) : (Γ : Cy) → Fp → St → HL Γ → Prop
  | [], F, σ, _ => F = fe ∧ σ = []
  | o :: Γ, F, σ, s => ∃ w r F1 F2, σ = w :: r ∧ F = fo F1 F2 ∧ Dj F1 F2 ∧ SlAt K H o F1 w s.1 ∧ SR K H Γ F2 r s.2
section
variable {K : PySem.W.Frag} {H H' : Hp}
theorem SlAt.own : ∀ {o : Option Ty} {F : Fp} {w : Option V} {a : Sl o}, SlAt K H o F w a → ∀ b, F b → Mut (H b)
  | none, _, _, _, h, b, z => by
    have h' : _ = fe := h
    rw [h'] at z; exact z.elim
  | some t, _, _, _, ⟨_, _, h⟩, b, z => t.own h b z
theorem SlAt.keep : ∀ {o : Option Ty} {F : Fp} {w : Option V} {a : Sl o}, SlAt K H o F w a → Stay H H' → (∀ b o, F b → H b = some o → H' b = some o) → SlAt K H' o F w a
  | none, _, _, _, h, _, _ => h
  | some t, _, _, _, ⟨v, e, h⟩, s, k => ⟨v, e, t.keep h s k⟩
theorem SR.own : ∀ {Γ : Cy} {F : Fp} {σ : St} {s : HL Γ}, SR K H Γ F σ s → ∀ b, F b → Mut (H b)
  | [], _, _, _, h, b, z => by rw [h.1] at z; exact z.elim
  | o :: Γ, _, _, _, ⟨w, r, F1, F2, _, e, _, h1, h2⟩, b, z => by
    rw [e] at z
    exact z.elim (h1.own b) (SR.own h2 b)
theorem SR.keep : ∀ {Γ : Cy} {F : Fp} {σ : St} {s : HL Γ}, SR K H Γ F σ s → Stay H H' → (∀ b o, F b → H b = some o → H' b = some o) → SR K H' Γ F σ s
  | [], _, _, _, h, _, _ => h
  | o :: Γ, _, _, _, ⟨w, r, F1, F2, e1, e, d, h1, h2⟩, s, k =>
    ⟨w, r, F1, F2, e1, e, d, h1.keep s (fun b o z => k b o (by rw [e]; exact .inl z)), SR.keep h2 s (fun b o z => k b o (by rw [e]; exact .inr z))⟩
theorem SR.kept {Γ : Cy} {F G G' : Fp} {σ : St} {s : HL Γ} (h : SR K H Γ F σ s) (c : Chg H G H' G') (own : ∀ b, G b → Mut (H b)) (d : Dj F G) : SR K H' Γ F σ s :=
  h.keep (c.stay own) (c.kept h.own d)

/-! slots by their places -/
@[reducible] def Cy.at_ : Cy → Nat → Option Ty
  | [], _ => none
  | o :: _, 0 => o
  | _ :: Γ, i + 1 => Cy.at_ Γ i
def Cy.lt : Cy → Nat → Bool
  | [], _ => false
  | _ :: _, 0 => true
  | _ :: Γ, i + 1 => Cy.lt Γ i
theorem Cy.lt_len : ∀ {Γ : Cy} {i : Nat}, Cy.lt Γ i = true → i < Γ.length
  | _ :: _, 0, _ => by simp
  | _ :: Γ, i + 1, h => by
    rw [List.length_cons]
    exact Nat.succ_lt_succ (Cy.lt_len (Γ := Γ) h)
@[reducible] def Cy.set_ : Cy → Nat → Option Ty → Cy
  | [], _, _ => []
  | _ :: Γ, 0, t => t :: Γ
  | o :: Γ, i + 1, t => o :: Cy.set_ Γ i t
@[reducible] def get : (Γ : Cy) → (i : Nat) → HL Γ → Sl (Cy.at_ Γ i)
  | [], _, _ => ()
  | _ :: _, 0, s => s.1
  | _ :: Γ, i + 1, s => get Γ i s.2
@[reducible] def put : (Γ : Cy) → (i : Nat) → (t : Option Ty) → Sl t → HL Γ → HL (Cy.set_ Γ i t)
  | [], _, _, _, s => s
  | _ :: _, 0, _, a, s => (a, s.2)
  | _ :: Γ, i + 1, t, a, s => (s.1, put Γ i t a s.2)
@[reducible] def cst {o : Option Ty} {t : Ty} (e : o = some t) (a : Sl o) : t.α := match o, e, a with
  | _, rfl, a => a
/-- a slot is read -/
theorem SR.get_ : ∀ {Γ : Cy} {i : Nat} {F : Fp} {σ : St} {s : HL Γ} {t : Ty} (e : Cy.at_ Γ i = some t), SR K H Γ F σ s →
    ∃ v F1, σ[i]? = some (some v) ∧ t.at_ K H F1 v (cst e (get Γ i s)) ∧ ∀ b, F1 b → F b
  | [], _, _, _, _, _, e, _ => by cases e
  | o :: Γ, 0, _, _, _, t, e, ⟨w, r, F1, F2, e1, e2, d, h1, h2⟩ => by
    have e' : o = some t := e
    subst e'
    obtain ⟨v, rfl, h⟩ := h1
    exact ⟨v, F1, by rw [e1]; rfl, h, fun b z => by rw [e2]; exact .inl z⟩
  | o :: Γ, i + 1, _, _, _, t, e, ⟨w, r, F1, F2, e1, e2, d, h1, h2⟩ => by
    obtain ⟨v, G, a1, a2, a3⟩ := SR.get_ (Γ := Γ) (i := i) (t := t) e h2
    exact ⟨v, G, by rw [e1]; exact a1, a2, fun b z => by rw [e2]; exact .inr (a3 b z)⟩
/-- a slot is taken out -/
theorem SR.take_ : ∀ {Γ : Cy} {i : Nat} {F : Fp} {σ : St} {s : HL Γ} {t : Ty} (e : Cy.at_ Γ i = some t), SR K H Γ F σ s →
    ∃ v F1 F2, σ[i]? = some (some v) ∧ t.at_ K H F1 v (cst e (get Γ i s)) ∧ SR K H (Cy.set_ Γ i none) F2 σ (put Γ i none () s) ∧ F = fo F1 F2 ∧ Dj F1 F2
  | [], _, _, _, _, _, e, _ => by cases e
  | o :: Γ, 0, _, _, _, t, e, ⟨w, r, F1, F2, e1, e2, d, h1, h2⟩ => by
    have e' : o = some t := e
    subst e'
    obtain ⟨v, rfl, h⟩ := h1
    exact ⟨v, F1, F2, by rw [e1]; rfl, h, ⟨some v, r, fe, F2, e1, (fe_fo F2).symm, fe_dj _, rfl, h2⟩, e2, d⟩
  | o :: Γ, i + 1, _, _, _, t, e, ⟨w, r, F1, F2, e1, e2, d, h1, h2⟩ => by
    obtain ⟨v, G1, G2, a1, a2, a3, a4, a5⟩ := SR.take_ (Γ := Γ) (i := i) (t := t) e h2
    subst a4
    refine ⟨v, G1, fo F1 G2, by rw [e1]; exact a1, a2, ⟨w, r, F1, G2, e1, rfl, d.sub (fun _ z => z) fun _ z => .inr z, h1, a3⟩, ?_, ?_⟩
    · rw [e2]; funext b; simp only [fo, eq_iff_iff]; constructor <;> (intro z; rcases z with z | z | z <;> simp [z])
    · intro b x y
      rcases y with y | y
      · exact d b y (.inl x)
      · exact a5 b x y
/-- a slot is stored -/
theorem SR.put_ : ∀ {Γ : Cy} {i : Nat} {F G : Fp} {σ : St} {s : HL Γ} {t : Option Ty} {w : Option V} {a : Sl t}, i < Γ.length → SR K H Γ F σ s → SlAt K H t G w a → Dj G F →
    ∃ F', SR K H (Cy.set_ Γ i t) F' (σ.set i w) (put Γ i t a s) ∧ ∀ b, F' b → G b ∨ F b
  | [], _, _, _, _, _, _, _, _, hi, _, _, _ => by simp at hi
  | o :: Γ, 0, _, G, _, _, t, w, a, _, ⟨w0, r, F1, F2, e1, e2, d, h1, h2⟩, ha, dj => by
    refine ⟨fo G F2, ⟨w, r, G, F2, by rw [e1]; rfl, rfl, fun b x y => dj b x (by rw [e2]; exact .inr y), ha, h2⟩, fun b z => z.elim .inl fun z => .inr (by rw [e2]; exact .inr z)⟩
  | o :: Γ, i + 1, _, G, _, _, t, w, a, hi, ⟨w0, r, F1, F2, e1, e2, d, h1, h2⟩, ha, dj => by
    obtain ⟨F', a1, a2⟩ := SR.put_ (Γ := Γ) (i := i) (by simpa using hi) h2 ha (fun b x y => dj b x (by rw [e2]; exact .inr y))
    refine ⟨fo F1 F', ⟨w0, r.set i w, F1, F', by rw [e1]; rfl, rfl, fun b x y => ?_, h1, a1⟩, fun b z => ?_⟩
    · rcases a2 b y with z | z
      · exact dj b z (by rw [e2]; exact .inl x)
      · exact d b x z
    · rcases z with z | z
      · exact .inr (by rw [e2]; exact .inl z)
      · exact (a2 b z).imp id fun z => by rw [e2]; exact .inr z
/-- .. the very value that the slot holds -/
theorem set_same {σ : St} {i : Nat} {w : Option V} (h : σ[i]? = some w) : σ.set i w = σ := by
  apply List.ext_getElem?
  intro j
  by_cases e : j = i
  · subst e
    obtain ⟨hl, _⟩ := List.getElem?_eq_some_iff.mp h
    rw [List.getElem?_set_self hl, h]
  · rw [List.getElem?_set_ne (Ne.symm e)]
theorem SR.length : ∀ {Γ : Cy} {F : Fp} {σ : St} {s : HL Γ}, SR K H Γ F σ s → σ.length = Γ.length
  | [], _, _, _, h => by rw [h.2]; rfl
  | o :: Γ, _, _, _, ⟨w, r, F1, F2, e1, _, _, _, h2⟩ => by rw [e1, List.length_cons, List.length_cons, SR.length h2]
end
end TY

set_option Elab.async false
set_option linter.all false
set_option maxRecDepth 100000
set_option maxHeartbeats 4000000
/-! TyB: the typed judgements: expressions, arguments, contracts, tests, statements. -/
namespace TY
open PySem L2

/-! ### exceptions, parameters, contracts -/
structure Xn where
  cls : Value
  fld : Option (Str × V)
def XnAt (x : Xn) (cls : Value) (d : Option Addr) (H : Hp) : Prop := x.cls = cls ∧ match x.fld with
  | none => True
  | some p => ∃ a, d = some a ∧ H a = some (.xd [p])
def Tab (TB : Addr → Prop) (H : Hp) : Prop := ∀ P, TB P → GxR.TabG H P
theorem Tab.stay {TB : Addr → Prop} {H H' : Hp} (t : Tab TB H) (s : Stay H H') : Tab TB H' := fun P h => s.tab (t P h)

inductive Pm where
  | im (t : Ty)
  | mu (t : Ty)
@[reducible] def Pm.ty : Pm → Ty
  | .im t => t
  | .mu t => t
@[reducible] def HT : List Pm → Type
  | [] => Unit
  | p :: ps => p.ty.α × HT ps
@[reducible] def Hou : List Pm → Type
  | [] => Unit
  | .im _ :: ps => Unit × Hou ps
  | .mu t :: ps => t.α × Hou ps
def AR (K : PySem.W.Frag) (H : Hp) : (ts : List Pm) → Fp → List V → HT ts → Prop
  | [], F, vs, _ => F = fe ∧ vs = []
  | t :: ts, F, vs, a => ∃ v r F1 F2, vs = v :: r ∧ F = fo F1 F2 ∧ Dj F1 F2 ∧ t.ty.at_ K H F1 v a.1 ∧ AR K H ts F2 r a.2
def AO (K : PySem.W.Frag) (H : Hp) : (ts : List Pm) → Fp → List V → Hou ts → Prop
  | [], F, vs, _ => F = fe ∧ vs = []
  | .im _ :: ts, F, vs, a => ∃ v r, vs = v :: r ∧ AO K H ts F r a.2
  | .mu t :: ts, F, vs, a => ∃ v r F1 F2, vs = v :: r ∧ F = fo F1 F2 ∧ Dj F1 F2 ∧ t.at_ K H F1 v a.1 ∧ AO K H ts F2 r a.2
section
variable {K : PySem.W.Frag} {H H' : Hp}
theorem AR.own : ∀ {ts : List Pm} {F : Fp} {vs : List V} {a : HT ts}, AR K H ts F vs a → ∀ b, F b → Mut (H b)
  | [], _, _, _, h, b, z => by rw [h.1] at z; exact z.elim
  | t :: ts, _, _, _, ⟨v, r, F1, F2, _, e, _, h1, h2⟩, b, z => by
    rw [e] at z
    exact z.elim (t.ty.own h1 b) (AR.own h2 b)
theorem AR.length : ∀ {ts : List Pm} {F : Fp} {vs : List V} {a : HT ts}, AR K H ts F vs a → vs.length = ts.length
  | [], _, _, _, h => by rw [h.2]; rfl
  | t :: ts, _, _, _, ⟨v, r, F1, F2, e1, e, d, h1, h2⟩ => by rw [e1, List.length_cons, List.length_cons, AR.length h2]
end

/-- what a def (or a primitive) promises, by typed values -/
structure Ctr where
  ps : List Pm
  r : Ty
  w : HT ps → (r.α → Hou ps → Prop) → (Xn → Prop) → Prop
def Ctr.sp (C : Ctr) (K : PySem.W.Frag) (TB : Addr → Prop) : Sp := fun vs H Q E => ∃ (as : HT C.ps) (F : Fp) (Qt : C.r.α → Hou C.ps → Prop) (Et : Xn → Prop),
  AR K H C.ps F vs as ∧ Tab TB H ∧ C.w as Qt Et ∧
  (∀ r as' v H' F1 F2, Qt r as' → C.r.at_ K H' F1 v r → AO K H' C.ps F2 vs as' → Dj F1 F2 → Chg H F H' (fo F1 F2) → Q v H') ∧
  (∀ x, Et x → ∀ cls d H', XnAt x cls d H' → Chg H F H' fe → E cls d H')
theorem Ctr.len {C : Ctr} {K : PySem.W.Frag} {TB : Addr → Prop} {vs : List V} {H : Hp} {Q : VK} {E : XK} (h : C.sp K TB vs H Q E) : vs.length = C.ps.length := by
  obtain ⟨as, F, Qt, Et, a, _⟩ := h
  exact a.length

/-! ### kinds of arguments: a value, or a slot that is lent -/
inductive Ki where
  | val (t : Ty)
  | bor (i : Nat)
@[reducible] def Ki.α : Ki → Type
  | .val t => t.α
  | .bor _ => Unit
def Ki.at_ (K : PySem.W.Frag) (H : Hp) (σ : St) : (k : Ki) → Fp → V → k.α → Prop
  | .val t, F, v, a => t.at_ K H F v a
  | .bor i, F, v, _ => F = fe ∧ σ[i]? = some (some v)
@[reducible] def HA : List Ki → Type
  | [] => Unit
  | k :: ks => k.α × HA ks
def AK (K : PySem.W.Frag) (H : Hp) (σ : St) : (ks : List Ki) → Fp → List V → HA ks → Prop
  | [], F, vs, _ => F = fe ∧ vs = []
  | k :: ks, F, vs, a => ∃ v r F1 F2, vs = v :: r ∧ F = fo F1 F2 ∧ Dj F1 F2 ∧ k.at_ K H σ F1 v a.1 ∧ AK K H σ ks F2 r a.2
section
variable {K : PySem.W.Frag} {H H' : Hp} {σ : St}
theorem Ki.own : ∀ {k : Ki} {F : Fp} {v : V} {a : k.α}, k.at_ K H σ F v a → ∀ b, F b → Mut (H b)
  | .val t, _, _, _, h => t.own h
  | .bor i, _, _, _, h => fun b z => by rw [h.1] at z; exact z.elim
theorem Ki.kept : ∀ {k : Ki} {F G G' : Fp} {v : V} {a : k.α}, k.at_ K H σ F v a → Chg H G H' G' → (∀ b, G b → Mut (H b)) → Dj F G → k.at_ K H' σ F v a
  | .val t, _, _, _, _, _, h, c, o, d => Ty.kept (t := t) h c o d
  | .bor i, _, _, _, _, _, h, _, _, _ => h
theorem AK.own : ∀ {ks : List Ki} {F : Fp} {vs : List V} {a : HA ks}, AK K H σ ks F vs a → ∀ b, F b → Mut (H b)
  | [], _, _, _, h, b, z => by rw [h.1] at z; exact z.elim
  | k :: ks, _, _, _, ⟨v, r, F1, F2, _, e, _, h1, h2⟩, b, z => by
    rw [e] at z
    exact z.elim (Ki.own h1 b) (AK.own h2 b)
end

/-! ### readings by typed states -/
@[reducible] def WT (Γ Γ' : Cy) (α : Type) : Type := HL Γ → (α → HL Γ' → Prop) → (Xn → Prop) → Prop
def LX (TB : Addr → Prop) (K : PySem.W.Frag) (Ξ : WX) (Γ Γ' : Cy) (k : Ki) (w : WT Γ Γ' k.α) : TE := fun σ H QH => ∃ (s : HL Γ) (F : Fp) (Q : k.α → HL Γ' → Prop) (E : Xn → Prop),
  SR K H Γ F σ s ∧ Tab TB H ∧ w s Q E ∧
  (∀ a s' v H' F1 F', Q a s' → k.at_ K H' σ F1 v a → SR K H' Γ' F' σ s' → Dj F1 F' → Chg H F H' (fo F1 F') → QH v H') ∧
  (∀ x, E x → ∀ cls d H', XnAt x cls d H' → Chg H F H' fe → Ξ cls d σ H')
def LA (TB : Addr → Prop) (K : PySem.W.Frag) (Ξ : WX) (Γ Γ' : Cy) (ks : List Ki) (w : WT Γ Γ' (HA ks)) : TA := fun σ H QH => ∃ (s : HL Γ) (F : Fp) (Q : HA ks → HL Γ' → Prop) (E : Xn → Prop),
  SR K H Γ F σ s ∧ Tab TB H ∧ w s Q E ∧
  (∀ a s' vs H' F1 F', Q a s' → AK K H' σ ks F1 vs a → SR K H' Γ' F' σ s' → Dj F1 F' → Chg H F H' (fo F1 F') → QH vs H') ∧
  (∀ x, E x → ∀ cls d H', XnAt x cls d H' → Chg H F H' fe → Ξ cls d σ H')
def LT (TB : Addr → Prop) (K : PySem.W.Frag) (Ξ : WX) (Γ Γ' : Cy) (w : WT Γ Γ' Bool) : TT := fun σ H QH => ∃ (s : HL Γ) (F : Fp) (Q : Bool → HL Γ' → Prop) (E : Xn → Prop),
  SR K H Γ F σ s ∧ Tab TB H ∧ w s Q E ∧
  (∀ a s' H' F', Q a s' → SR K H' Γ' F' σ s' → Chg H F H' F' → QH a H') ∧
  (∀ x, E x → ∀ cls d H', XnAt x cls d H' → Chg H F H' fe → Ξ cls d σ H')
structure Ex (X : Cx) (TB : Addr → Prop) (Ξ : WX) (Γ : Cy) (e : Expr) (Γ' : Cy) (k : Ki) (w : WT Γ Γ' k.α) : Prop where
  pe : PE X e (LX TB X.K Ξ Γ Γ' k w)
structure Pa (X : Cx) (TB : Addr → Prop) (Ξ : WX) (Γ : Cy) (es : List Expr) (Γ' : Cy) (ks : List Ki) (w : WT Γ Γ' (HA ks)) : Prop where
  pa : PA X es (LA TB X.K Ξ Γ Γ' ks w)
structure Tx (X : Cx) (TB : Addr → Prop) (Ξ : WX) (Γ : Cy) (e : Expr) (Γ' : Cy) (w : WT Γ Γ' Bool) : Prop where
  pt : PT X e (LT TB X.K Ξ Γ Γ' w)

theorem pe_weak {X : Cx} {e : Expr} {t t' : TE} (h : PE X e t) (i : ∀ σ H Q, t' σ H Q → t σ H Q) : PE X e t' := ⟨fun pins s σ H Q I q => h.run pins s σ H Q I (i σ H Q q)⟩
theorem pa_weak {X : Cx} {e : List Expr} {t t' : TA} (h : PA X e t) (i : ∀ σ H Q, t' σ H Q → t σ H Q) : PA X e t' := ⟨fun po pins s σ H Q I q => h.run po pins s σ H Q I (i σ H Q q)⟩
theorem pt_weak {X : Cx} {e : Expr} {t t' : TT} (h : PT X e t) (i : ∀ σ H Q, t' σ H Q → t σ H Q) : PT X e t' := ⟨fun pins s σ H Q I q => h.run pins s σ H Q I (i σ H Q q)⟩
theorem pw_weak {X : Cx} {e : Expr} {t t' : TT} (h : PW X e t) (i : ∀ σ H Q, t' σ H Q → t σ H Q) : PW X e t' := ⟨fun wh pins s σ H Q I q => h.run wh pins s σ H Q I (i σ H Q q)⟩
theorem ps_weak {X : Cx} {e : Stmt} {t t' : TS} (h : PS X e t) (i : ∀ D σ H, t' D σ H → t D σ H) : PS X e t' := ⟨fun pins s σ H D I q => h.run pins s σ H D I (i D σ H q)⟩
theorem pss_weak {X : Cx} {e : List Stmt} {t t' : TS} (h : PSs X e t) (i : ∀ D σ H, t' D σ H → t D σ H) : PSs X e t' := ⟨fun pins s σ H D I q => h.run pins s σ H D I (i D σ H q)⟩

section
variable {X : Cx} {TB : Addr → Prop} {Ξ : WX} {Γ Γ1 Γ2 : Cy} {e : Expr} {es : List Expr} {K : PySem.W.Frag}

/-! ### arguments -/
@[reducible] def wNil {Γ : Cy} : WT Γ Γ (HA []) := fun s Q _ => Q () s
@[reducible] def wCons {k : Ki} {ks : List Ki} (wa : WT Γ Γ1 k.α) (wb : WT Γ1 Γ2 (HA ks)) : WT Γ Γ2 (HA (k :: ks)) := fun s Q E => wa s (fun a s1 => wb s1 (fun r s2 => Q (a, r) s2) E) E
theorem la_nil {σ : St} {H : Hp} {QH : List V → Hp → Prop} (h : LA TB K Ξ Γ Γ [] wNil σ H QH) : QH [] H := by
  obtain ⟨s, F, Q, E, sr, tb, hw, hq, _⟩ := h
  exact hq () s [] H fe F hw ⟨rfl, rfl⟩ sr (fe_dj _) (by rw [fe_fo]; exact Chg.refl)
theorem la_cons {k : Ki} {ks : List Ki} {wa : WT Γ Γ1 k.α} {wb : WT Γ1 Γ2 (HA ks)} {σ : St} {H : Hp} {QH : List V → Hp → Prop} (h : LA TB K Ξ Γ Γ2 (k :: ks) (wCons wa wb) σ H QH) :
    LX TB K Ξ Γ Γ1 k wa σ H fun x H1 => LA TB K Ξ Γ1 Γ2 ks wb σ H1 fun vs H2 => QH (x :: vs) H2 := by
  obtain ⟨s, F, Q, E, sr, tb, hw, hq, he⟩ := h
  refine ⟨s, F, _, E, sr, tb, hw, fun a s1 v H1 F1 G1 q1 at1 sr1 d1 c1 => ?_, he⟩
  refine ⟨s1, G1, _, E, sr1, tb.stay (c1.stay sr.own), q1, fun r s2 vs H2 F2 G2 q2 ak2 sr2 d2 c2 => ?_, fun x ex cls d H2 xa c => ?_⟩
  · have d3 := c2.apart (Ki.own at1) d1
    have e1 : fo F1 (fo F2 G2) = fo (fo F1 F2) G2 := (fo_assoc _ _ _).symm
    refine hq (a, r) s2 (v :: vs) H2 (fo F1 F2) G2 q2 ⟨v, vs, F1, F2, rfl, rfl, d3.sub (fun _ z => z) (fun _ z => .inl z), Ki.kept at1 c2 sr1.own d1, ak2⟩ sr2 (dj_fo (d3.sub (fun _ z => z) fun _ z => .inr z) d2) ?_
    rw [← e1]
    exact c1.trans c2.frame
  · exact he x ex cls d H2 xa ((c1.trans (c.sup fun b z => Or.inr z)))
theorem pa_nil : Pa X TB Ξ Γ [] Γ [] wNil := ⟨pa_weak L2.pa_nil fun σ H Q h => la_nil h⟩
theorem pa_cons {k : Ki} {ks : List Ki} {wa : WT Γ Γ1 k.α} {wb : WT Γ1 Γ2 (HA ks)} (ha : Ex X TB Ξ Γ e Γ1 k wa) (hb : Pa X TB Ξ Γ1 es Γ2 ks wb)
    (hs : starEach (e :: es) X.env = (false, eval e X.env) :: starEach es X.env := by rfl) : Pa X TB Ξ Γ (e :: es) Γ2 (k :: ks) (wCons wa wb) :=
  ⟨pa_weak (L2.pa_cons ha.pe hb.pa hs) fun σ H Q h => la_cons h⟩
theorem la_one {k : Ki} {wa : WT Γ Γ1 k.α} {σ : St} {H : Hp} {QH : List V → Hp → Prop} (h : LA TB K Ξ Γ Γ1 [k] (wCons wa wNil) σ H QH) : LX TB K Ξ Γ Γ1 k wa σ H fun x H1 => QH [x] H1 := by
  obtain ⟨s, F, Q, E, sr, tb, hw, hq, he⟩ := la_cons h
  exact ⟨s, F, Q, E, sr, tb, hw, fun a s1 v H1 F1 G1 q1 at1 sr1 d1 c1 => la_nil (hq a s1 v H1 F1 G1 q1 at1 sr1 d1 c1), he⟩
theorem la_two {k k2 : Ki} {wa : WT Γ Γ1 k.α} {wb : WT Γ1 Γ2 k2.α} {σ : St} {H : Hp} {QH : List V → Hp → Prop} (h : LA TB K Ξ Γ Γ2 [k, k2] (wCons wa (wCons wb wNil)) σ H QH) :
    LX TB K Ξ Γ Γ1 k wa σ H fun x H1 => LX TB K Ξ Γ1 Γ2 k2 wb σ H1 fun y H2 => QH [x, y] H2 := by
  obtain ⟨s, F, Q, E, sr, tb, hw, hq, he⟩ := la_cons h
  exact ⟨s, F, Q, E, sr, tb, hw, fun a s1 v H1 F1 G1 q1 at1 sr1 d1 c1 => la_one (hq a s1 v H1 F1 G1 q1 at1 sr1 d1 c1), he⟩

/-! ### how arguments meet parameters -/
/-- back into a slot -/
@[reducible] def cstr {o : Option Ty} {t : Ty} (e : o = some t) (a : t.α) : Sl o := match o, e with
  | _, rfl => a
@[reducible] def pbk : (Γ : Cy) → (i : Nat) → (t : Ty) → (e : Cy.at_ Γ i = some t) → t.α → HL (Cy.set_ Γ i none) → HL Γ
  | [], _, _, e, _, _ => nomatch e
  | _ :: _, 0, _, e, a, s => (cstr e a, s.2)
  | _ :: Γ, i + 1, t, e, a, s => (s.1, pbk Γ i t e a s.2)
theorem SR.pbk_ {H : Hp} : ∀ {Γ : Cy} {i : Nat} {F G : Fp} {σ : St} {s : HL (Cy.set_ Γ i none)} {t : Ty} {v : V} {a : t.α} (e : Cy.at_ Γ i = some t), SR K H (Cy.set_ Γ i none) F σ s → σ[i]? = some (some v) → t.at_ K H G v a → Dj G F →
    ∃ F', SR K H Γ F' σ (pbk Γ i t e a s) ∧ ∀ b, F' b → G b ∨ F b
  | [], _, _, _, _, _, _, _, _, e, _, _, _, _ => nomatch e
  | o :: Γ, 0, _, G, _, s, t, v, a, e, ⟨w0, r, F1, F2, e1, e2, d, h1, h2⟩, hv, ha, dj => by
    have e' : o = some t := e
    subst e'
    subst e1
    have ew : w0 = some v := by simpa using hv
    subst ew
    refine ⟨fo G F2, ⟨some v, r, G, F2, rfl, rfl, fun b x y => dj b x (by rw [e2]; exact .inr y), ⟨v, rfl, ha⟩, h2⟩, fun b z => z.elim .inl fun z => .inr (by rw [e2]; exact .inr z)⟩
  | o :: Γ, i + 1, _, G, _, s, t, v, a, e, ⟨w0, r, F1, F2, e1, e2, d, h1, h2⟩, hv, ha, dj => by
    subst e1
    obtain ⟨F', a1, a2⟩ := SR.pbk_ (Γ := Γ) (i := i) (t := t) e h2 (by simpa using hv) ha (fun b x y => dj b x (by rw [e2]; exact .inr y))
    refine ⟨fo F1 F', ⟨w0, r, F1, F', rfl, rfl, fun b x y => ?_, h1, a1⟩, fun b z => ?_⟩
    · rcases a2 b y with z | z
      · exact dj b z (by rw [e2]; exact .inl x)
      · exact d b x z
    · rcases z with z | z
      · exact .inr (by rw [e2]; exact .inl z)
      · exact (a2 b z).imp id fun z => by rw [e2]; exact .inr z

structure Cj (ks : List Ki) (ps : List Pm) (Γ : Cy) where
  as : HA ks → HL Γ → HT ps
  pb : Hou ps → HL Γ → HL Γ
  ok : ∀ {K : PySem.W.Frag} {H : Hp} {F1 F2 : Fp} {vs : List V} {a : HA ks} {σ : St} {s : HL Γ}, AK K H σ ks F1 vs a → SR K H Γ F2 σ s → Dj F1 F2 → ∃ FA FR, AR K H ps FA vs (as a s) ∧ Dj FA FR ∧ fo FA FR = fo F1 F2 ∧
    ∀ {H' : Hp} {FA' : Fp} {o : Hou ps}, AO K H' ps FA' vs o → Stay H H' → (∀ b u, FR b → H b = some u → H' b = some u) → Dj FA' FR → ∃ F', SR K H' Γ F' σ (pb o s) ∧ ∀ b, F' b → FA' b ∨ FR b
@[reducible] def cj_nil {Γ : Cy} : Cj [] [] Γ where
  as := fun _ _ => ()
  pb := fun _ s => s
  ok := fun {K H F1 F2 vs a σ s} h sr d => by
    obtain ⟨rfl, rfl⟩ := h
    exact ⟨fe, F2, ⟨rfl, rfl⟩, fe_dj _, rfl, fun {H' FA' o} _ st k _ => ⟨F2, sr.keep st k, fun b z => .inr z⟩⟩
@[reducible] def cj_val {t : Ty} {ks : List Ki} {ps : List Pm} {Γ : Cy} (c : Cj ks ps Γ) : Cj (.val t :: ks) (.im t :: ps) Γ where
  as := fun a s => (a.1, c.as a.2 s)
  pb := fun o s => c.pb o.2 s
  ok := fun {K H F1 F2 vs a σ s} h sr d => by
    obtain ⟨v, r, G1, G2, rfl, rfl, dg, h1, h2⟩ := h
    obtain ⟨FA, FR, a1, a2, a3, a4⟩ := c.ok h2 sr d.fo_r
    have dGA : Dj G1 (fo FA FR) := by
      rw [a3]
      exact fun b x y => y.elim (fun y => dg b x y) fun y => d b (.inl x) y
    refine ⟨fo G1 FA, FR, ⟨v, r, G1, FA, rfl, rfl, dGA.sub (fun _ z => z) (fun _ z => .inl z), h1, a1⟩, dj_fo (dGA.sub (fun _ z => z) fun _ z => .inr z) a2, ?_, fun {H' FA' o} ao st k dd => ?_⟩
    · rw [fo_assoc, a3, fo_assoc]
    · obtain ⟨v', r', e, ao⟩ := ao
      cases e
      exact a4 ao st k dd
/-- a temporary handed to a parameter that may change it -/
@[reducible] def cj_tmp {t : Ty} {ks : List Ki} {ps : List Pm} {Γ : Cy} (c : Cj ks ps Γ) : Cj (.val t :: ks) (.mu t :: ps) Γ where
  as := fun a s => (a.1, c.as a.2 s)
  pb := fun o s => c.pb o.2 s
  ok := fun {K H F1 F2 vs a σ s} h sr d => by
    obtain ⟨v, r, G1, G2, rfl, rfl, dg, h1, h2⟩ := h
    obtain ⟨FA, FR, a1, a2, a3, a4⟩ := c.ok h2 sr d.fo_r
    have dGA : Dj G1 (fo FA FR) := by
      rw [a3]
      exact fun b x y => y.elim (fun y => dg b x y) fun y => d b (.inl x) y
    refine ⟨fo G1 FA, FR, ⟨v, r, G1, FA, rfl, rfl, dGA.sub (fun _ z => z) (fun _ z => .inl z), h1, a1⟩, dj_fo (dGA.sub (fun _ z => z) fun _ z => .inr z) a2, ?_, fun {H' FA' o} ao st k dd => ?_⟩
    · rw [fo_assoc, a3, fo_assoc]
    · obtain ⟨v', r', J1, J2, e, e2, _, _, ao⟩ := ao
      cases e
      subst e2
      obtain ⟨F', b1, b2⟩ := a4 ao st k dd.fo_r
      exact ⟨F', b1, fun b z => (b2 b z).imp .inr id⟩
@[reducible] def cj_bor {t : Ty} {ks : List Ki} {ps : List Pm} {Γ : Cy} (i : Nat) (e : Cy.at_ Γ i = some t) (c : Cj ks ps (Cy.set_ Γ i none)) : Cj (.bor i :: ks) (.mu t :: ps) Γ where
  as := fun a s => (cst e (get Γ i s), c.as a.2 (put Γ i none () s))
  pb := fun o s => pbk Γ i t e o.1 (c.pb o.2 (put Γ i none () s))
  ok := fun {K H F1 F2 vs a σ s} h sr d => by
    obtain ⟨v, r, G1, G2, rfl, rfl, dg, ⟨rfl, hv⟩, h2⟩ := h
    obtain ⟨v', J1, J2, b1, b2, b3, rfl, b5⟩ := sr.take_ e
    rw [hv] at b1
    cases b1
    have dG2 : Dj G2 J2 := fun b x y => d b (.inr x) (.inr y)
    obtain ⟨FA, FR, a1, a2, a3, a4⟩ := c.ok h2 b3 dG2
    have dJA : Dj J1 (fo FA FR) := by
      rw [a3]
      exact fun b x y => y.elim (fun y => d b (.inr y) (.inl x)) fun y => b5 b x y
    refine ⟨fo J1 FA, FR, ⟨v, r, J1, FA, rfl, rfl, dJA.sub (fun _ z => z) (fun _ z => .inl z), b2, a1⟩, dj_fo (dJA.sub (fun _ z => z) fun _ z => .inr z) a2, ?_, fun {H' FA' o} ao st k dd => ?_⟩
    · rw [fo_assoc, a3, fe_fo, ← fo_assoc, ← fo_assoc, fo_comm J1 G2]
    · obtain ⟨v', r', K1, K2, e', e2, dk, at1, ao⟩ := ao
      cases e'
      subst e2
      obtain ⟨F', c1, c2⟩ := a4 ao st k dd.fo_r
      obtain ⟨F'', c3, c4⟩ := SR.pbk_ e c1 hv at1 (fun b x y => (c2 b y).elim (fun y => dk b x y) fun y => dd b (.inl x) y)
      exact ⟨F'', c3, fun b z => (c4 b z).elim (fun z => .inl (.inl z)) fun z => (c2 b z).imp .inr id⟩

/-! ### application -/
@[reducible] def wApp {ks : List Ki} {C : Ctr} (wa : WT Γ Γ1 (HA ks)) (cj : Cj ks C.ps Γ1) : WT Γ Γ1 C.r.α := fun s Q E => wa s (fun a s1 => C.w (cj.as a s1) (fun r o => Q r (cj.pb o s1)) E) E
theorem app_imp {ks : List Ki} {C : Ctr} {wa : WT Γ Γ1 (HA ks)} {cj : Cj ks C.ps Γ1} {σ : St} {H : Hp} {QH : VK} (h : LX TB K Ξ Γ Γ1 (.val C.r) (wApp wa cj) σ H QH) :
    LA TB K Ξ Γ Γ1 ks wa σ H fun vs H1 => C.sp K TB vs H1 QH fun cls d H2 => Ξ cls d σ H2 := by
  obtain ⟨s, F, Q, E, sr, tb, hw, hq, he⟩ := h
  refine ⟨s, F, _, E, sr, tb, hw, fun a s1 vs H1 F1 F' q ak sr1 dj c1 => ?_, he⟩
  obtain ⟨FA, FR, ar, dAR, e1, back⟩ := cj.ok ak sr1 dj
  have ownAll : ∀ b, fo FA FR b → Mut (H1 b) := by
    rw [e1]
    exact fun b z => z.elim (ak.own b) (sr1.own b)
  have ownR : ∀ b, FR b → Mut (H1 b) := fun b z => ownAll b (.inr z)
  have c1' : Chg H F H1 (fo FA FR) := by rw [e1]; exact c1
  refine ⟨cj.as a s1, FA, _, E, ar, tb.stay (c1.stay sr.own), q, fun r o v H2 G1 G2 q2 at2 ao2 d2 c2 => ?_, fun x ex cls d H2 xa c2 => ?_⟩
  · have dR := c2.apart ownR dAR.symm
    obtain ⟨F2, sr2, sub⟩ := back ao2 (c2.stay fun b z => ownAll b (.inl z)) (c2.kept ownR dAR.symm) (fun b x y => dR b y (.inr x))
    refine hq r _ v H2 G1 F2 q2 at2 sr2 (fun b x y => (sub b y).elim (fun y => d2 b x y) fun y => dR b y (.inl x)) ?_
    have c3 := c2.frame (G := FR)
    rw [fo_comm FR FA] at c3
    refine (c1'.trans c3).sub fun b z => ?_
    rcases z with z | z
    · exact .inr (.inl z)
    · exact (sub b z).elim (fun z => .inr (.inr z)) .inl
  · exact he x ex cls d H2 xa (c1'.trans (c2.sup fun b z => .inl z))
/-- the rule behind all applications: r is what the hand layer asks of the values -/
theorem ex_app {ks : List Ki} {C : Ctr} {wa : WT Γ Γ1 (HA ks)} {r : List V → Hp → VK → Prop} (h : PE X e fun σ H Q => LA TB X.K Ξ Γ Γ1 ks wa σ H fun vs H1 => r vs H1 Q) (cj : Cj ks C.ps Γ1)
    (hr : ∀ vs H Q E, C.sp X.K TB vs H Q E → r vs H Q) : Ex X TB Ξ Γ e Γ1 (.val C.r) (wApp wa cj) := ⟨pe_weak h fun σ H Q z => by
  obtain ⟨s, F, Q', E, sr, tb, hw, hq, he⟩ := app_imp z
  exact ⟨s, F, Q', E, sr, tb, hw, fun a s1 vs H1 F1 F' q ak sr1 dj c1 => hr _ _ _ _ (hq a s1 vs H1 F1 F' q ak sr1 dj c1), he⟩⟩
end
end TY

set_option Elab.async false
set_option linter.all false
set_option maxRecDepth 100000
set_option maxHeartbeats 4000000
/-! TyC: statements, loops, defs. -/
namespace TY
open PySem L2

/-! ### types that name a value -/
/-- the very value v0, owned as t -/
@[reducible] def tAt (v0 : V) (t : Ty) : Ty where
  α := t.α
  at_ := fun K H F v a => v = v0 ∧ t.at_ K H F v a
  own := fun h => t.own h.2
  keep := fun h s k => ⟨h.1, t.keep h.2 s k⟩
/-- the very value v0, nothing owned -/
@[reducible] def tIs (v0 : V) : Ty where
  α := Unit
  at_ := fun K H F v a => v = v0 ∧ F = fe
  own := fun h b z => by rw [h.2] at z; exact z.elim
  keep := fun h s k => h
instance {v : V} : Imm (tIs v) := ⟨fun h => h.2⟩

/-! ### statements -/
structure En (Γn Γb Γc : Cy) (ρ : Type) where
  nx : HL Γn → Prop
  rt : ρ → Prop
  bk : HL Γb → Prop
  ct : HL Γc → Prop
  ex : Xn → Prop
@[reducible] def Ctr.ρ (C : Ctr) : Type := C.r.α × Hou C.ps
@[reducible] def WS (Γ Γn Γb Γc : Cy) (ρ : Type) : Type := HL Γ → En Γn Γb Γc ρ → Prop
def LS (TB : Addr → Prop) (K : PySem.W.Frag) (Ξ : WX) (C : Ctr) (vs : List V) (Γ Γn Γb Γc : Cy) (w : WS Γ Γn Γb Γc C.ρ) : TS := fun D σ H => ∃ (s : HL Γ) (F : Fp) (Q : En Γn Γb Γc C.ρ),
  SR K H Γ F σ s ∧ Tab TB H ∧ w s Q ∧
  (∀ s' σ' H' F', Q.nx s' → SR K H' Γn F' σ' s' → Chg H F H' F' → D.nx σ' H') ∧
  (∀ r o v H' F1 F2, Q.rt (r, o) → C.r.at_ K H' F1 v r → AO K H' C.ps F2 vs o → Dj F1 F2 → Chg H F H' (fo F1 F2) → D.rt v H') ∧
  (∀ s' σ' H' F', Q.bk s' → SR K H' Γb F' σ' s' → Chg H F H' F' → D.bk σ' H') ∧
  (∀ s' σ' H' F', Q.ct s' → SR K H' Γc F' σ' s' → Chg H F H' F' → D.ct σ' H') ∧
  (∀ x, Q.ex x → ∀ cls d σ' H', XnAt x cls d H' → Chg H F H' fe → Ξ cls d σ' H')
structure Sx (X : Cx) (TB : Addr → Prop) (Ξ : WX) (C : Ctr) (vs : List V) (Γ : Cy) (st : Stmt) (Γn Γb Γc : Cy) (w : WS Γ Γn Γb Γc C.ρ) : Prop where
  ps : PS X st (LS TB X.K Ξ C vs Γ Γn Γb Γc w)
structure Ss (X : Cx) (TB : Addr → Prop) (Ξ : WX) (C : Ctr) (vs : List V) (Γ : Cy) (st : List Stmt) (Γn Γb Γc : Cy) (w : WS Γ Γn Γb Γc C.ρ) : Prop where
  ps : PSs X st (LS TB X.K Ξ C vs Γ Γn Γb Γc w)

section
variable {X : Cx} {TB : Addr → Prop} {Ξ : WX} {C : Ctr} {vs : List V} {Γ Γ1 Γ2 Γb Γc : Cy} {e : Expr} {st : Stmt} {rest sa sb : List Stmt} {K : PySem.W.Frag} {pos : Pos} {ρ : Type}
@[reducible] def wSkip {Γ Γb Γc : Cy} {ρ : Type} : WS Γ Γ Γb Γc ρ := fun s Q => Q.nx s
theorem ss_nil : Ss X TB Ξ C vs Γ [] Γ Γb Γc wSkip := ⟨pss_weak L2.pss_nil fun D σ H h => by
  obtain ⟨s, F, Q, sr, tb, hw, hn, _⟩ := h
  exact hn s σ H F hw sr Chg.refl⟩
@[reducible] def wSeq (w1 : WS Γ Γ1 Γb Γc ρ) (w2 : WS Γ1 Γ2 Γb Γc ρ) : WS Γ Γ2 Γb Γc ρ := fun s Q => w1 s { Q with nx := fun s1 => w2 s1 Q }
theorem ss_cons {w1 : WS Γ Γ1 Γb Γc C.ρ} {w2 : WS Γ1 Γ2 Γb Γc C.ρ} (h1 : Sx X TB Ξ C vs Γ st Γ1 Γb Γc w1) (h2 : Ss X TB Ξ C vs Γ1 rest Γ2 Γb Γc w2) : Ss X TB Ξ C vs Γ (st :: rest) Γ2 Γb Γc (wSeq w1 w2) :=
  ⟨pss_weak (L2.pss_cons h1.ps h2.ps) fun D σ H h => by
    obtain ⟨s, F, Q, sr, tb, hw, hn, hr, hb, hc, hx⟩ := h
    refine ⟨s, F, _, sr, tb, hw, fun s1 σ1 H1 F1 q1 sr1 c1 => ?_, hr, hb, hc, hx⟩
    exact ⟨s1, F1, Q, sr1, tb.stay (c1.stay sr.own), q1, fun s2 σ2 H2 F2 q2 sr2 c2 => hn s2 σ2 H2 F2 q2 sr2 (c1.trans c2), fun r o v H2 G1 G2 q2 a2 o2 d2 c2 => hr r o v H2 G1 G2 q2 a2 o2 d2 (c1.trans c2),
      fun s2 σ2 H2 F2 q2 sr2 c2 => hb s2 σ2 H2 F2 q2 sr2 (c1.trans c2), fun s2 σ2 H2 F2 q2 sr2 c2 => hc s2 σ2 H2 F2 q2 sr2 (c1.trans c2), fun x ex cls d σ2 H2 xa c2 => hx x ex cls d σ2 H2 xa (c1.trans c2)⟩⟩
theorem ss_one {w1 : WS Γ Γ1 Γb Γc C.ρ} (h1 : Sx X TB Ξ C vs Γ st Γ1 Γb Γc w1) : Ss X TB Ξ C vs Γ [st] Γ1 Γb Γc w1 := ⟨L2.pss_one h1.ps⟩
/-- a slot forgotten -/
theorem SR.forget {H : Hp} {F : Fp} {σ : St} {s : HL Γ} (i : Nat) (h : SR K H Γ F σ s) : ∃ F', SR K H (Cy.set_ Γ i none) F' σ (put Γ i none () s) ∧ ∀ b, F' b → F b := by
  by_cases hi : i < Γ.length
  · obtain ⟨w, hw⟩ : ∃ w, σ[i]? = some w := ⟨σ[i]'(by rw [h.length]; exact hi), by simp [h.length, hi]⟩
    obtain ⟨F', a1, a2⟩ := SR.put_ (i := i) (t := none) (w := w) (a := ()) (G := fe) hi h rfl (fe_dj _)
    rw [set_same hw] at a1
    exact ⟨F', a1, fun b z => (a2 b z).elim (fun z => z.elim) id⟩
  · have e : ∀ (Γ : Cy) (i : Nat), ¬ i < Γ.length → ∀ (F : Fp) (σ : St) (s : HL Γ), SR K H Γ F σ s → SR K H (Cy.set_ Γ i none) F σ (put Γ i none () s) := by
      intro Γ
      induction Γ with
      | nil => intro i _ F σ s h; exact h
      | cons o Γ ih =>
        intro i hi F σ s h
        cases i with
        | zero => simp at hi
        | succ i =>
          obtain ⟨w, r, F1, F2, e1, e2, d, h1, h2⟩ := h
          exact ⟨w, r, F1, F2, e1, e2, d, h1, ih i (by simpa using hi) F2 r s.2 h2⟩
    exact ⟨F, e Γ i hi F σ s h, fun b z => z⟩
@[reducible] def wClr (i : Nat) (w : WS Γ Γ1 Γb Γc ρ) : WS Γ (Cy.set_ Γ1 i none) Γb Γc ρ := fun s Q => w s { nx := fun s1 => Q.nx (put Γ1 i none () s1), rt := Q.rt, bk := Q.bk, ct := Q.ct, ex := Q.ex }
/-- behind a block a slot is forgotten -/
theorem ss_clr {w : WS Γ Γ1 Γb Γc C.ρ} (i : Nat) (h : Ss X TB Ξ C vs Γ rest Γ1 Γb Γc w) : Ss X TB Ξ C vs Γ rest (Cy.set_ Γ1 i none) Γb Γc (wClr i w) := ⟨pss_weak h.ps fun D σ H h => by
  obtain ⟨s, F, Q, sr, tb, hw, hn, hr, hb, hc, hx⟩ := h
  refine ⟨s, F, _, sr, tb, hw, fun s1 σ1 H1 F1 q1 sr1 c1 => ?_, hr, hb, hc, hx⟩
  obtain ⟨F2, sr2, sub⟩ := sr1.forget i
  exact hn _ σ1 H1 F2 q1 sr2 (c1.sub sub)⟩
theorem sx_clr {w : WS Γ Γ1 Γb Γc C.ρ} (i : Nat) (h : Sx X TB Ξ C vs Γ st Γ1 Γb Γc w) : Sx X TB Ξ C vs Γ st (Cy.set_ Γ1 i none) Γb Γc (wClr i w) := ⟨ps_weak h.ps fun D σ H h => by
  obtain ⟨s, F, Q, sr, tb, hw, hn, hr, hb, hc, hx⟩ := h
  refine ⟨s, F, _, sr, tb, hw, fun s1 σ1 H1 F1 q1 sr1 c1 => ?_, hr, hb, hc, hx⟩
  obtain ⟨F2, sr2, sub⟩ := sr1.forget i
  exact hn _ σ1 H1 F2 q1 sr2 (c1.sub sub)⟩
/-- ahead of a block a slot is forgotten -/
@[reducible] def wPre (i : Nat) (w : WS (Cy.set_ Γ i none) Γ1 Γb Γc ρ) : WS Γ Γ1 Γb Γc ρ := fun s Q => w (put Γ i none () s) Q
theorem ss_pre (i : Nat) {w : WS (Cy.set_ Γ i none) Γ1 Γb Γc C.ρ} (h : Ss X TB Ξ C vs (Cy.set_ Γ i none) rest Γ1 Γb Γc w) : Ss X TB Ξ C vs Γ rest Γ1 Γb Γc (wPre i w) := ⟨pss_weak h.ps fun D σ H h => by
  obtain ⟨s, F, Q, sr, tb, hw, hn, hr, hb, hc, hx⟩ := h
  obtain ⟨F2, sr2, sub⟩ := sr.forget i
  exact ⟨_, F2, Q, sr2, tb, hw, fun s1 σ1 H1 F1 q1 sr1 c1 => hn s1 σ1 H1 F1 q1 sr1 (c1.sup sub), fun r o v H1 G1 G2 q a o2 d c => hr r o v H1 G1 G2 q a o2 d (c.sup sub),
    fun s1 σ1 H1 F1 q1 sr1 c1 => hb s1 σ1 H1 F1 q1 sr1 (c1.sup sub), fun s1 σ1 H1 F1 q1 sr1 c1 => hc s1 σ1 H1 F1 q1 sr1 (c1.sup sub), fun x ex cls d σ1 H1 xa c1 => hx x ex cls d σ1 H1 xa (c1.sup sub)⟩⟩

/-- return: how the parameters stand -/
structure Out (ps : List Pm) (vs : List V) (Γ : Cy) where
  g : HL Γ → Hou ps
  ok : ∀ {K : PySem.W.Frag} {H : Hp} {F : Fp} {σ : St} {s : HL Γ}, SR K H Γ F σ s → ∃ F2, AO K H ps F2 vs (g s) ∧ ∀ b, F2 b → F b
@[reducible] def out_nil {Γ : Cy} : Out [] [] Γ where
  g := fun _ => ()
  ok := fun {K H F σ s} _ => ⟨fe, ⟨rfl, rfl⟩, fun b z => z.elim⟩
@[reducible] def out_im {t : Ty} {ps : List Pm} {v : V} {vs : List V} {τ : Option Ty} {Γ : Cy} (o : Out ps vs Γ) : Out (.im t :: ps) (v :: vs) (τ :: Γ) where
  g := fun s => ((), o.g s.2)
  ok := fun {K H F σ s} ⟨w, r, F1, F2, e1, e2, d, h1, h2⟩ => by
    obtain ⟨G, a, sub⟩ := o.ok h2
    exact ⟨G, ⟨v, vs, rfl, a⟩, fun b z => by rw [e2]; exact .inr (sub b z)⟩
@[reducible] def out_mu {t : Ty} {ps : List Pm} {v : V} {vs : List V} {Γ : Cy} (o : Out ps vs Γ) : Out (.mu t :: ps) (v :: vs) (some (tAt v t) :: Γ) where
  g := fun s => (s.1, o.g s.2)
  ok := fun {K H F σ s} ⟨w, r, F1, F2, e1, e2, d, h1, h2⟩ => by
    obtain ⟨v', _, ev, h⟩ := h1
    subst ev
    obtain ⟨G, a, sub⟩ := o.ok h2
    exact ⟨fo F1 G, ⟨_, vs, F1, G, rfl, rfl, d.sub (fun _ z => z) sub, h, a⟩, fun b z => by rw [e2]; exact z.imp id (sub b)⟩
@[reducible] def wRet {α : Type} {ps : List Pm} (w : WT Γ Γ1 α) (g : HL Γ1 → Hou ps) : WS Γ Γ2 Γb Γc (α × Hou ps) := fun s Q => w s (fun a s1 => Q.rt (a, g s1)) Q.ex
theorem sx_ret {w : WT Γ Γ1 C.r.α} (o : Out C.ps vs Γ1) (h : Ex X TB Ξ Γ e Γ1 (.val C.r) w) : Sx X TB Ξ C vs Γ (.Return (some e) pos) Γ2 Γb Γc (wRet w o.g) := ⟨ps_weak (L2.ps_ret h.pe) fun D σ H h => by
  obtain ⟨s, F, Q, sr, tb, hw, hn, hr, hb, hc, hx⟩ := h
  refine ⟨s, F, _, _, sr, tb, hw, fun a s1 v H1 F1 F2 q1 at1 sr1 d1 c1 => ?_, fun x ex cls d H1 xa c => hx x ex cls d σ H1 xa c⟩
  obtain ⟨G, ao, sub⟩ := o.ok sr1
  exact hr a _ v H1 F1 G q1 at1 ao (d1.sub (fun _ z => z) sub) (c1.sub fun b z => z.imp id (sub b))⟩
@[reducible] def wRetN {ps : List Pm} (g : HL Γ → Hou ps) : WS Γ Γ2 Γb Γc (Unit × Hou ps) := fun s Q => Q.rt ((), g s)
/-- an expression whose value is dropped -/
@[reducible] def wDrop {α : Type} (w : WT Γ Γ1 α) : WS Γ Γ1 Γb Γc ρ := fun s Q => w s (fun _ s1 => Q.nx s1) Q.ex
theorem sx_expr {k : Ki} {w : WT Γ Γ1 k.α} (h : Ex X TB Ξ Γ e Γ1 k w) (hs : swapsWith e none pos.line X.env = pure false := by rfl) : Sx X TB Ξ C vs Γ (.Expr e pos) Γ1 Γb Γc (wDrop w) := ⟨ps_weak (L2.ps_expr h.pe hs) fun D σ H h => by
  obtain ⟨s, F, Q, sr, tb, hw, hn, hr, hb, hc, hx⟩ := h
  exact ⟨s, F, _, _, sr, tb, hw, fun a s1 v H1 F1 F2 q1 at1 sr1 d1 c1 => hn s1 σ H1 F2 q1 sr1 (c1.sub fun b z => .inr z), fun x ex cls d H1 xa c => hx x ex cls d σ H1 xa c⟩⟩
theorem sx_pass : Sx X TB Ξ C vs Γ (.Pass pos) Γ Γb Γc wSkip := ⟨ps_weak L2.ps_pass fun D σ H h => by
  obtain ⟨s, F, Q, sr, tb, hw, hn, _⟩ := h
  exact hn s σ H F hw sr Chg.refl⟩
@[reducible] def wBrk : WS Γ Γ1 Γ Γc ρ := fun s Q => Q.bk s
theorem sx_break : Sx X TB Ξ C vs Γ (.Break pos) Γ1 Γ Γc wBrk := ⟨ps_weak L2.ps_break fun D σ H h => by
  obtain ⟨s, F, Q, sr, tb, hw, hn, hr, hb, hc, hx⟩ := h
  exact hb s σ H F hw sr Chg.refl⟩
@[reducible] def wCnt : WS Γ Γ1 Γb Γ ρ := fun s Q => Q.ct s
theorem sx_continue : Sx X TB Ξ C vs Γ (.Continue pos) Γ1 Γb Γ wCnt := ⟨ps_weak L2.ps_continue fun D σ H h => by
  obtain ⟨s, F, Q, sr, tb, hw, hn, hr, hb, hc, hx⟩ := h
  exact hc s σ H F hw sr Chg.refl⟩
/-- a statement that is never reached -/
@[reducible] def wNever {Γ Γ1 Γb Γc : Cy} {ρ : Type} : WS Γ Γ1 Γb Γc ρ := fun _ _ => False
theorem sx_never : Sx X TB Ξ C vs Γ st Γ1 Γb Γc wNever := ⟨ps_weak L2.ps_never fun D σ H h => by
  obtain ⟨s, F, Q, sr, tb, hw, _⟩ := h
  exact hw.elim⟩
theorem ss_never : Ss X TB Ξ C vs Γ rest Γ1 Γb Γc wNever := ⟨pss_weak L2.pss_never fun D σ H h => by
  obtain ⟨s, F, Q, sr, tb, hw, _⟩ := h
  exact hw.elim⟩
/-- if -/
@[reducible] def wIf (wc : WT Γ Γ1 Bool) (wa wb : WS Γ1 Γ2 Γb Γc ρ) : WS Γ Γ2 Γb Γc ρ := fun s Q => wc s (fun b s1 => (b = true → wa s1 Q) ∧ (b = false → wb s1 Q)) Q.ex
theorem sx_if {wc : WT Γ Γ1 Bool} {wa wb : WS Γ1 Γ2 Γb Γc C.ρ} (hc : Tx X TB Ξ Γ e Γ1 wc) (ha : Ss X TB Ξ C vs Γ1 sa Γ2 Γb Γc wa) (hb : Ss X TB Ξ C vs Γ1 sb Γ2 Γb Γc wb) : Sx X TB Ξ C vs Γ (.If e sa sb pos) Γ2 Γb Γc (wIf wc wa wb) :=
  ⟨ps_weak (L2.ps_if hc.pt ha.ps hb.ps) fun D σ H h => by
    obtain ⟨s, F, Q, sr, tb, hw, hn, hr, hbk, hct, hx⟩ := h
    refine ⟨s, F, _, _, sr, tb, hw, fun b s1 H1 F1 q1 sr1 c1 => ?_, fun x ex cls d H1 xa c => hx x ex cls d σ H1 xa c⟩
    have go : ∀ (w : WS Γ1 Γ2 Γb Γc C.ρ), w s1 Q → LS TB X.K Ξ C vs Γ1 Γ2 Γb Γc w D σ H1 := fun w q =>
      ⟨s1, F1, Q, sr1, tb.stay (c1.stay sr.own), q, fun s2 σ2 H2 F2 q2 sr2 c2 => hn s2 σ2 H2 F2 q2 sr2 (c1.trans c2), fun r o v H2 G1 G2 q2 a2 o2 d2 c2 => hr r o v H2 G1 G2 q2 a2 o2 d2 (c1.trans c2),
      fun s2 σ2 H2 F2 q2 sr2 c2 => hbk s2 σ2 H2 F2 q2 sr2 (c1.trans c2), fun s2 σ2 H2 F2 q2 sr2 c2 => hct s2 σ2 H2 F2 q2 sr2 (c1.trans c2), fun x ex cls d σ2 H2 xa c2 => hx x ex cls d σ2 H2 xa (c1.trans c2)⟩
    cases b with
    | true => exact iteT (go _ (q1.1 rfl))
    | false => exact iteF (go _ (q1.2 rfl))⟩

/-! ### targets -/
def LG (TB : Addr → Prop) (K : PySem.W.Frag) (Ξ : WX) (Γ Γ' : Cy) (t : Ty) (js : List Nat) (w : t.α → HL Γ → (HL Γ' → Prop) → (Xn → Prop) → Prop) : TG := fun v σ H QH => ∃ (s : HL Γ) (F F1 : Fp) (a : t.α) (Q : HL Γ' → Prop) (E : Xn → Prop),
  SR K H Γ F σ s ∧ Tab TB H ∧ t.at_ K H F1 v a ∧ Dj F1 F ∧ w a s Q E ∧
  (∀ s' σ' H' F', Q s' → SR K H' Γ' F' σ' s' → Chg H (fo F1 F) H' F' → (∀ i : Nat, i ∉ js → σ'[i]? = σ[i]?) → QH σ' H') ∧
  (∀ x, E x → ∀ cls d σ' H', XnAt x cls d H' → Chg H (fo F1 F) H' fe → Ξ cls d σ' H')
structure Gx (X : Cx) (TB : Addr → Prop) (Ξ : WX) (Γ : Cy) (tg : Expr) (t : Ty) (js : List Nat) (Γ' : Cy) (w : t.α → HL Γ → (HL Γ' → Prop) → (Xn → Prop) → Prop) : Prop where
  pg : PG X tg (LG TB X.K Ξ Γ Γ' t js w)
theorem pg_weak {tg : Expr} {t t' : TG} (h : PG X tg t) (i : ∀ v σ H Q, t' v σ H Q → t v σ H Q) : PG X tg t' := ⟨fun pins s σ H v u Q I r q => h.run pins s σ H v u Q I r (i v σ H Q q)⟩
theorem ilt {N : List Str} {i : Nat} {x : Str} (h : N[i]? = some x) : i < N.length := (List.getElem?_eq_some_iff.mp h).1
@[reducible] def wName (i : Nat) (t : Ty) : t.α → HL Γ → (HL (Cy.set_ Γ i (some t)) → Prop) → (Xn → Prop) → Prop := fun a s Q _ => Q (put Γ i (some t) a s)
theorem gx_name {t : Ty} {x : Str} (i : Nat) (hN : X.N.Nodup) (hl : Cy.lt Γ i = true := by rfl) (hi : X.N[i]? = some x := by rfl) (hx : Loc X.env.scope x := by first | exact Or.inl rfl | exact Or.inr rfl)
    (hf : X.fn x = true ∨ X.env.scope.names.lookup x = some .local := by first | exact .inl rfl | exact .inr rfl | assumption) : Gx X TB Ξ Γ (.Name x pos) t [i] (Cy.set_ Γ i (some t)) (wName i t) := ⟨pg_weak (L2.pg_name hN hi hx hf) fun v σ H Q h => by
  obtain ⟨s, F, F1, a, Qt, E, sr, tb, at1, d, hw, hq, _⟩ := h
  obtain ⟨F', a1, a2⟩ := SR.put_ (i := i) (t := some t) (w := some v) (a := a) (G := F1) (Cy.lt_len hl) sr ⟨v, rfl, at1⟩ d
  exact hq _ _ H F' hw a1 (Chg.refl.sub fun b z => a2 b z) fun j hj => List.getElem?_set_ne fun z => hj (by simp [z])⟩
@[reducible] def wAsg {t : Ty} (w : WT Γ Γ1 t.α) (wg : t.α → HL Γ1 → (HL Γ2 → Prop) → (Xn → Prop) → Prop) : WS Γ Γ2 Γb Γc ρ := fun s Q => w s (fun a s1 => wg a s1 Q.nx Q.ex) Q.ex
theorem sx_asg {tg : Expr} {t : Ty} {js : List Nat} {w : WT Γ Γ1 t.α} {wg : t.α → HL Γ1 → (HL Γ2 → Prop) → (Xn → Prop) → Prop} (h : Ex X TB Ξ Γ e Γ1 (.val t) w) (hg : Gx X TB Ξ Γ1 tg t js Γ2 wg)
    (hs : swapsWithSole [tg] e pos.line X.env = pure false := by rfl) (hw : swappedStores [tg] e X.env = pure none := by rfl)
    (h1 : (assignEach [tg] X.env).map (·.2) = [assign tg X.env] := by rfl) : Sx X TB Ξ C vs Γ (.Assign [tg] e pos) Γ2 Γb Γc (wAsg w wg) := ⟨ps_weak (L2.ps_asg h.pe hg.pg hs hw h1) fun D σ H h => by
  obtain ⟨s, F, Q, sr, tb, hw, hn, hr, hbk, hct, hx⟩ := h
  refine ⟨s, F, _, _, sr, tb, hw, fun a s1 v H1 F1 F2 q1 at1 sr1 d1 c1 => ?_, fun x ex cls d H1 xa c => hx x ex cls d σ H1 xa c⟩
  exact ⟨s1, F2, F1, a, _, _, sr1, tb.stay (c1.stay sr.own), at1, d1, q1, fun s2 σ2 H2 F2 q2 sr2 c2 _ => hn s2 σ2 H2 F2 q2 sr2 (c1.trans c2), fun x ex cls d σ2 H2 xa c2 => hx x ex cls d σ2 H2 xa (c1.trans c2)⟩⟩
@[reducible] def wSet {t : Ty} (i : Nat) (w : WT Γ Γ1 t.α) : WS Γ (Cy.set_ Γ1 i (some t)) Γb Γc ρ := fun s Q => w s (fun a s1 => Q.nx (put Γ1 i (some t) a s1)) Q.ex
theorem sx_set {t : Ty} {x : Str} {pos' : Pos} {w : WT Γ Γ1 t.α} (i : Nat) (hN : X.N.Nodup) (h : Ex X TB Ξ Γ e Γ1 (.val t) w) (hl : Cy.lt Γ1 i = true := by rfl) (hi : X.N[i]? = some x := by rfl) (hx : Loc X.env.scope x := by first | exact Or.inl rfl | exact Or.inr rfl)
    (hs : swapsWith e (some (.Name x pos')) pos.line X.env = pure false := by rfl) (hf : X.fn x = true ∨ X.env.scope.names.lookup x = some .local := by first | exact .inl rfl | exact .inr rfl | assumption) :
    Sx X TB Ξ C vs Γ (.Assign [.Name x pos'] e pos) (Cy.set_ Γ1 i (some t)) Γb Γc (wSet i w) := ⟨ps_weak (L2.ps_set hN hi hx h.pe hs hf) fun D σ H h => by
  obtain ⟨s, F, Q, sr, tb, hw, hn, hr, hbk, hct, hx⟩ := h
  refine ⟨s, F, _, _, sr, tb, hw, fun a s1 v H1 F1 F2 q1 at1 sr1 d1 c1 => ?_, fun x ex cls d H1 xa c => hx x ex cls d σ H1 xa c⟩
  obtain ⟨F', a1, a2⟩ := SR.put_ (i := i) (t := some t) (w := some v) (a := a) (G := F1) (Cy.lt_len hl) sr1 ⟨v, rfl, at1⟩ d1
  exact hn _ _ H1 F' q1 a1 (c1.sub fun b z => a2 b z)⟩

/-! ### what is walked -/
/-- J yields xs while what it leans on (F1) is kept -/
def Runs (K : PySem.W.Frag) (J : It) (te : Ty) (F1 : Fp) (H : Hp) (xs : List te.α) : Prop := (∀ b, F1 b → Mut (H b)) ∧ ∀ H', Stay H H' → (∀ b o, F1 b → H b = some o → H' b = some o) →
  (J.stop xs.length H') ∧ ∀ i (h : i < xs.length), J.go i H' ∧ ∀ x H'', J.yld i H' x H'' → te.at_ K H'' fe x xs[i] ∧ Chg H' fe H'' fe
def LI (TB : Addr → Prop) (K : PySem.W.Frag) (Ξ : WX) (Γ Γ' : Cy) (te : Ty) (w : WT Γ Γ' (List te.α)) : TI := fun σ H R => ∃ (s : HL Γ) (F : Fp) (Q : List te.α → HL Γ' → Prop) (E : Xn → Prop),
  SR K H Γ F σ s ∧ Tab TB H ∧ w s Q E ∧
  (∀ xs s' J H' F1 F', Q xs s' → SR K H' Γ' F' σ s' → Dj F1 F' → Chg H F H' (fo F1 F') → Runs K J te F1 H' xs → R J H') ∧
  (∀ x, E x → ∀ cls d H', XnAt x cls d H' → Chg H F H' fe → Ξ cls d σ H')
structure Ix (X : Cx) (TB : Addr → Prop) (Ξ : WX) (Γ : Cy) (tg iter : Expr) (Γ' : Cy) (te : Ty) (w : WT Γ Γ' (List te.α)) : Prop where
  pi : PI X tg iter (LI TB X.K Ξ Γ Γ' te w)
theorem pi_weak {tg iter : Expr} {t t' : TI} (h : PI X tg iter t) (i : ∀ σ H R, t' σ H R → t σ H R) : PI X tg iter t' := ⟨fun pins s σ H R I q => h.run pins s σ H R I (i σ H R q)⟩

/-! ### for, while -/
@[reducible] def wFor {te : Ty} (w : WT Γ Γ1 (List te.α)) (wg : te.α → HL Γ1 → (HL Γ2 → Prop) → (Xn → Prop) → Prop) (wb : WS Γ2 Γ1 Γ1 Γ1 ρ) : WS Γ Γ1 Γb Γc ρ := fun s Q => w s (fun xs s1 => ∃ I : Nat → HL Γ1 → Prop, I 0 s1 ∧
  (∀ i x s2, xs[i]? = some x → I i s2 → wg x s2 (fun s3 => wb s3 { nx := I (i + 1), rt := Q.rt, bk := Q.nx, ct := I (i + 1), ex := Q.ex }) Q.ex) ∧ (∀ s2, I xs.length s2 → Q.nx s2)) Q.ex
theorem sx_for {tg iter : Expr} {body : List Stmt} {te : Ty} {js : List Nat} {w : WT Γ Γ1 (List te.α)} {wg : te.α → HL Γ1 → (HL Γ2 → Prop) → (Xn → Prop) → Prop} {wb : WS Γ2 Γ1 Γ1 Γ1 C.ρ} (hp : PassesOwn (model X.prog X.w) X.A X.env X.xe) (hc : X.calm = true)
    (hi : Ix X TB Ξ Γ tg iter Γ1 te w) (hg : Gx X TB Ξ Γ1 tg te js Γ2 wg) (hb : Ss X TB Ξ C vs Γ2 body Γ1 Γ1 Γ1 wb)
    (hs : ∀ x, foldedSetIterable iter X.env x = pure x := by intro _; rfl) : Sx X TB Ξ C vs Γ (.For tg iter body [] pos) Γ1 Γb Γc (wFor w wg wb) := ⟨ps_weak (L2.ps_for hp hc hi.pi hg.pg hb.ps hs) fun D σ H h => by
  obtain ⟨s, F, Q, sr, tb, hw, hn, hr, hbk, hct, hx⟩ := h
  refine ⟨s, F, _, _, sr, tb, hw, fun xs s1 J H1 F1 F' q1 sr1 d1 c1 runs => ?_, fun x ex cls d H1 xa c => hx x ex cls d σ H1 xa c⟩
  obtain ⟨I, i0, step, done⟩ := q1
  obtain ⟨own1, runs⟩ := runs
  refine ⟨fun i m σ2 H2 => m = xs.length - i ∧ i ≤ xs.length ∧ ∃ s2 F2, I i s2 ∧ SR X.K H2 Γ1 F2 σ2 s2 ∧ Chg H1 F' H2 F2, ⟨_, rfl, Nat.zero_le _, s1, F', i0, sr1, Chg.refl⟩, ?_⟩
  rintro i m σ2 H2 ⟨rfl, hi, s2, F2, ii, sr2, c2⟩
  have st2 := c2.stay sr1.own
  have k2 := c2.kept own1 d1
  have d2 := c2.apart own1 d1
  have c12 : Chg H F H2 F2 := (c1.trans c2.frame).sub fun b z => .inr z
  obtain ⟨r1, r2⟩ := runs H2 st2 k2
  by_cases hlt : i < xs.length
  · obtain ⟨g1, g2⟩ := r2 i hlt
    refine .inr ⟨g1, fun σ3 H3 => ∃ s3 F3, I (i + 1) s3 ∧ SR X.K H3 Γ1 F3 σ3 s3 ∧ Chg H1 F' H3 F3, fun σ3 H3 ⟨s3, F3, a, b, c⟩ => ⟨_, by omega, rfl, hlt, s3, F3, a, b, c⟩, fun x H3 y => ?_⟩
    obtain ⟨at3, c3⟩ := g2 x H3 y
    have c3' : Chg H2 F2 H3 F2 := ⟨fun b o h n => c3.keep b o h fun z => z, fun b z => .inl z⟩
    have sr3 := sr2.kept c3 (fun _ z => z.elim) (dj_fe _)
    have tb3 : Tab TB H3 := (tb.stay (c12.stay sr.own)).stay (c3'.stay sr2.own)
    refine ⟨s2, F2, fe, xs[i], _, _, sr3, tb3, at3, fe_dj _, step i xs[i] s2 (by simp [hlt]) ii, fun s4 σ4 H4 F4 q4 sr4 c4 _ => ?_, fun y ex cls d σ4 H4 xa c4 => hx y ex cls d σ4 H4 xa (by rw [fe_fo] at c4; exact (c12.trans c3').trans c4)⟩
    rw [fe_fo] at c4
    have c14 : Chg H1 F' H4 F4 := (c2.trans c3').trans c4
    have c04 : Chg H F H4 F4 := (c12.trans c3').trans c4
    refine ⟨s4, F4, _, sr4, tb3.stay (c4.stay sr3.own), q4, fun s5 σ5 H5 F5 q5 sr5 c5 => ⟨s5, F5, q5, sr5, c14.trans c5⟩, fun r o v H5 G1 G2 q5 a5 o5 d5 c5 => hr r o v H5 G1 G2 q5 a5 o5 d5 (c04.trans c5),
      fun s5 σ5 H5 F5 q5 sr5 c5 => hn s5 σ5 H5 F5 q5 sr5 (c04.trans c5), fun s5 σ5 H5 F5 q5 sr5 c5 => ⟨s5, F5, q5, sr5, c14.trans c5⟩, fun y ex cls d σ5 H5 xa c5 => hx y ex cls d σ5 H5 xa (c04.trans c5)⟩
  · have e : i = xs.length := by omega
    subst e
    exact .inl ⟨r1, hn s2 σ2 H2 F2 (done s2 ii) sr2 c12⟩⟩
@[reducible] def wWhile (wc : WT Γ Γ Bool) (wb : WS Γ Γ Γ Γ ρ) : WS Γ Γ Γb Γc ρ := fun s Q => ∃ I : Nat → HL Γ → Prop, (∃ m, I m s) ∧ ∀ m s2, I m s2 →
  wc s2 (fun b s3 => (b = true → wb s3 { nx := fun s4 => ∃ m', m' < m ∧ I m' s4, rt := Q.rt, bk := Q.nx, ct := fun s4 => ∃ m', m' < m ∧ I m' s4, ex := Q.ex }) ∧ (b = false → Q.nx s3)) Q.ex
theorem sx_while {body : List Stmt} {wc : WT Γ Γ Bool} {wb : WS Γ Γ Γ Γ C.ρ} (hp : PassesOwn (model X.prog X.w) X.A X.env X.xe) (hc : Tx X TB Ξ Γ e Γ wc) (hb : Ss X TB Ξ C vs Γ body Γ Γ Γ wb) :
    Sx X TB Ξ C vs Γ (.While e body [] pos) Γ Γb Γc (wWhile wc wb) := ⟨ps_weak (L2.ps_while hp hc.pt hb.ps) fun D σ H h => by
  obtain ⟨s, F, Q, sr, tb, hw, hn, hr, hbk, hct, hx⟩ := h
  obtain ⟨I, ⟨m0, i0⟩, step⟩ := hw
  refine ⟨fun m σ2 H2 => ∃ s2 F2, I m s2 ∧ SR X.K H2 Γ F2 σ2 s2 ∧ Chg H F H2 F2, ⟨m0, s, F, i0, sr, Chg.refl⟩, ?_⟩
  rintro m σ2 H2 ⟨s2, F2, i2, sr2, c2⟩
  have tb2 := tb.stay (c2.stay sr.own)
  refine ⟨s2, F2, _, _, sr2, tb2, step m s2 i2, fun b s3 H3 F3 q3 sr3 c3 => ?_, fun x ex cls d H3 xa c3 => hx x ex cls d σ2 H3 xa (c2.trans c3)⟩
  have c23 := c2.trans c3
  cases b with
  | true =>
    refine iteT ⟨fun σ4 H4 => ∃ m', m' < m ∧ ∃ s4 F4, I m' s4 ∧ SR X.K H4 Γ F4 σ4 s4 ∧ Chg H F H4 F4, fun σ4 H4 ⟨m', l, z⟩ => ⟨m', l, z⟩, ?_⟩
    exact ⟨s3, F3, _, sr3, tb2.stay (c3.stay sr2.own), q3.1 rfl, fun s4 σ4 H4 F4 ⟨m', l, q⟩ sr4 c4 => ⟨m', l, s4, F4, q, sr4, c23.trans c4⟩, fun r o v H4 G1 G2 q a o2 d c => hr r o v H4 G1 G2 q a o2 d (c23.trans c),
      fun s4 σ4 H4 F4 q sr4 c4 => hn s4 σ4 H4 F4 q sr4 (c23.trans c4), fun s4 σ4 H4 F4 ⟨m', l, q⟩ sr4 c4 => ⟨m', l, s4, F4, q, sr4, c23.trans c4⟩, fun x ex cls d σ4 H4 xa c4 => hx x ex cls d σ4 H4 xa (c23.trans c4)⟩
  | false => exact iteF (hn s3 σ2 H3 F3 (q3.2 rfl) sr3 c23)⟩
end

/-! ### defs -/
@[reducible] def none_s : Nat → Cy
  | 0 => []
  | n + 1 => none :: none_s n
@[reducible] def none_v : (n : Nat) → HL (none_s n)
  | 0 => ()
  | n + 1 => ((), none_v n)
/-- the slots at a def's entry: its parameters, n other names -/
@[reducible] def ini : List Pm → List V → Nat → Cy
  | .im t :: ps, _ :: vs, n => some t :: ini ps vs n
  | .mu t :: ps, v :: vs, n => some (tAt v t) :: ini ps vs n
  | [], _, n => none_s n
  | .im _ :: _, [], n => none_s n
  | .mu _ :: _, [], n => none_s n
@[reducible] def iniv : (ps : List Pm) → (vs : List V) → (n : Nat) → HT ps → HL (ini ps vs n)
  | .im _ :: ps, _ :: vs, n, a => (a.1, iniv ps vs n a.2)
  | .mu _ :: ps, _ :: vs, n, a => (a.1, iniv ps vs n a.2)
  | [], _, n, _ => none_v n
  | .im _ :: _, [], n, _ => none_v n
  | .mu _ :: _, [], n, _ => none_v n
theorem sr_none {K : PySem.W.Frag} {H : Hp} : ∀ n, SR K H (none_s n) fe (List.replicate n none) (none_v n)
  | 0 => ⟨rfl, rfl⟩
  | n + 1 => ⟨none, List.replicate n none, fe, fe, rfl, (fo_fe fe).symm, fe_dj _, rfl, sr_none n⟩
theorem sr_ini {K : PySem.W.Frag} {H : Hp} : ∀ {ps : List Pm} {vs : List V} {F : Fp} {as : HT ps} (n : Nat), AR K H ps F vs as → SR K H (ini ps vs n) F (vs.map some ++ List.replicate n none) (iniv ps vs n as)
  | [], [], F, _, n, h => by
    rw [h.1]
    exact sr_none n
  | [], _ :: _, F, _, n, h => by
    obtain ⟨_, e⟩ := h
    cases e
  | .im t :: ps, _, F, as, n, ⟨v, r, F1, F2, e, e2, d, h1, h2⟩ => by
    subst e
    exact ⟨some v, _, F1, F2, rfl, e2, d, ⟨v, rfl, h1⟩, sr_ini n h2⟩
  | .mu t :: ps, _, F, as, n, ⟨v, r, F1, F2, e, e2, d, h1, h2⟩ => by
    subst e
    exact ⟨some v, _, F1, F2, rfl, e2, d, ⟨v, rfl, rfl, h1⟩, sr_ini n h2⟩
section
variable {P : Program} {w : World} {K : PySem.W.Frag} {mg : Str → Option Value} {base : Heap}
@[reducible] def enR {C : Ctr} {Γ : Cy} (Q : C.r.α → Hou C.ps → Prop) (E : Xn → Prop) : En Γ [] [] C.ρ := { nx := fun _ => False, rt := fun p => Q p.1 p.2, bk := fun _ => False, ct := fun _ => False, ex := E }
@[reducible] def enN {ps : List Pm} {Γ : Cy} (g : HL Γ → Hou ps) (Q : Unit → Hou ps → Prop) (E : Xn → Prop) : En Γ [] [] (Unit × Hou ps) := { nx := fun s => Q () (g s), rt := fun p => Q p.1 p.2, bk := fun _ => False, ct := fun _ => False, ex := E }
/-- the rule for a def: every way out is a return -/
theorem fn_ty {x qual : Str} {st : Stmt} {f : Addr} {fd : FuncData} {N pn : List Str} {k : Nat} {C : Ctr} {TB : Addr → Prop} (n : Nat) (F : Fun K x qual st f fd) (S : FnScope N pn (defScope st)) (hl : C.ps.length = pn.length) (hn : N.length = pn.length + n)
    (hbody : ∀ (cdv : Value) (A : Around) (outer : List Env) (s : Shared) (H : Hp) (vs : List V) (E : XK), Room k (A.deeper (PyProof.Rows.envOfC qual (defScope st) s.heap.objs.size f cdv)) → vs.length = C.ps.length →
      ∃ Γn w', Ss (cxOf (L2.CX P w) P w K mg base N qual (defScope st) f cdv A outer s H E) TB (fun cls d _ H' => E cls d H') C vs (ini C.ps vs n) (defBody st) Γn [] [] w' ∧ ∀ as Q E', C.w as Q E' → w' (iniv C.ps vs n as) (enR Q E')) :
    FnOk P w K mg base (L2.CX P w) (k + 1) f fd pn (C.sp K TB) := by
  refine F.okX S (fun vs H Q E h => (Ctr.len h).trans hl) fun cdv A outer s H vs Q E hr h => ?_
  have hv : vs.length = C.ps.length := Ctr.len h
  obtain ⟨as, F0, Qt, Et, ar, tb, hw, hq, he⟩ := h
  obtain ⟨Γn, w', d, q⟩ := hbody cdv A outer s H vs E hr hv
  refine ⟨_, d.ps, iniv C.ps vs n as, F0, enR Qt Et, ?_, tb, q as Qt Et hw, fun _ _ _ _ z => z.elim, fun r o v H' F1 F2 q a ao dj c => hq r o v H' F1 F2 q a ao dj c, fun _ _ _ _ z => z.elim, fun _ _ _ _ z => z.elim, fun x ex cls d σ' H' xa c => he x ex cls d H' xa c⟩
  have e : start N vs = vs.map some ++ List.replicate n none := by
    show vs.map some ++ List.replicate (N.length - vs.length) none = _
    rw [show N.length - vs.length = n by omega]
  rw [e]
  exact sr_ini n ar
/-- .. one that may come to its end and gives None -/
theorem fn_tyN {x qual : Str} {st : Stmt} {f : Addr} {fd : FuncData} {N pn : List Str} {k : Nat} {ps : List Pm} {cw : HT ps → (Unit → Hou ps → Prop) → (Xn → Prop) → Prop} {TB : Addr → Prop} (n : Nat) (F : Fun K x qual st f fd) (S : FnScope N pn (defScope st)) (hl : ps.length = pn.length) (hn : N.length = pn.length + n)
    (hbody : ∀ (cdv : Value) (A : Around) (outer : List Env) (s : Shared) (H : Hp) (vs : List V) (E : XK), Room k (A.deeper (PyProof.Rows.envOfC qual (defScope st) s.heap.objs.size f cdv)) → vs.length = ps.length →
      ∃ Γn w', ∃ o : Out ps vs Γn, Ss (cxOf (L2.CX P w) P w K mg base N qual (defScope st) f cdv A outer s H E) TB (fun cls d _ H' => E cls d H') ⟨ps, tNone, cw⟩ vs (ini ps vs n) (defBody st) Γn [] [] w' ∧ ∀ as Q E', cw as Q E' → w' (iniv ps vs n as) (enN o.g Q E')) :
    FnOk P w K mg base (L2.CX P w) (k + 1) f fd pn (Ctr.sp ⟨ps, tNone, cw⟩ K TB) := by
  refine F.okX S (fun vs H Q E h => (Ctr.len h).trans hl) fun cdv A outer s H vs Q E hr h => ?_
  have hv : vs.length = ps.length := Ctr.len h
  obtain ⟨as, F0, Qt, Et, ar, tb, hw, hq, he⟩ := h
  obtain ⟨Γn, w', o, d, q⟩ := hbody cdv A outer s H vs E hr hv
  refine ⟨_, d.ps, iniv ps vs n as, F0, enN o.g Qt Et, ?_, tb, q as Qt Et hw, fun s' σ' H' F' q sr c => ?_, fun r o v H' F1 F2 q a ao dj c => hq r o v H' F1 F2 q a ao dj c, fun _ _ _ _ z => z.elim, fun _ _ _ _ z => z.elim, fun x ex cls d σ' H' xa c => he x ex cls d H' xa c⟩
  · have e : start N vs = vs.map some ++ List.replicate n none := by
      show vs.map some ++ List.replicate (N.length - vs.length) none = _
      rw [show N.length - vs.length = n by omega]
    rw [e]
    exact sr_ini n ar
  · obtain ⟨G, ao, sub⟩ := o.ok sr
    exact hq () _ .non H' fe G q ⟨rfl, rfl⟩ ao (fe_dj _) (c.sub fun b z => z.elim (fun z => z.elim) (sub b))
end
end TY

set_option Elab.async false
set_option linter.all false
set_option maxRecDepth 100000
set_option maxHeartbeats 4000000
/-! TyD: types of sequences; names, constants, operators, comparisons, tests. -/
namespace TY
open PySem L2

/-! ### texts as lists of codes -/
abbrev Tx_ := List Nat
def S (l : List Nat) : V := .str ⟨l.toArray⟩
@[reducible] def tS : Ty := tFlat (List Nat) S
theorem S_inj {l m : List Nat} (h : S l = S m) : l = m := by
  unfold S at h
  injection h with h
  injection h with h
  simpa using congrArg Array.toList h
theorem S_dec (l m : List Nat) : decide (S l = S m) = decide (l = m) := by
  by_cases e : l = m
  · subst e; simp
  · rw [decide_eq_false e, decide_eq_false fun z => e (S_inj z)]
theorem str_len (l : List Nat) : Str.length ⟨l.toArray⟩ = l.length := by simp [Str.length]
theorem str_app (l m : List Nat) : ((⟨l.toArray⟩ : Str) ++ (⟨m.toArray⟩ : Str)) = ⟨(l ++ m).toArray⟩ := by
  show (⟨l.toArray ++ m.toArray⟩ : Str) = _
  simp

/-! ### sequences of values that own nothing -/
def Al (t : Ty) (K : PySem.W.Frag) (H : Hp) : List V → List t.α → Prop := Paired fun v a => t.at_ K H fe v a
section
variable {t : Ty} {K : PySem.W.Frag} {H H' : Hp}
theorem Al.length : ∀ {vs : List V} {xs : List t.α}, Al t K H vs xs → vs.length = xs.length
  | _, _, .nil => rfl
  | _, _, .cons _ r => by rw [List.length_cons, List.length_cons, Al.length r]
theorem Al.keep (s : Stay H H') : ∀ {vs : List V} {xs : List t.α}, Al t K H vs xs → Al t K H' vs xs
  | _, _, .nil => .nil
  | _, _, .cons h r => .cons (t.keep h s fun b o z _ => z.elim) (Al.keep s r)
theorem Al.get : ∀ {vs : List V} {xs : List t.α} {i : Nat} {x : t.α}, Al t K H vs xs → xs[i]? = some x → ∃ v, vs[i]? = some v ∧ t.at_ K H fe v x
  | _, _, _, _, .nil, e => by simp at e
  | _, _, 0, _, .cons h _, e => by simp at e; subst e; exact ⟨_, rfl, h⟩
  | _, _, i + 1, x, .cons _ r, e => by
    obtain ⟨v, h1, h2⟩ := Al.get (i := i) r (by simpa using e)
    exact ⟨v, by simpa using h1, h2⟩
theorem Al.getV : ∀ {vs : List V} {xs : List t.α} {i : Nat} {v : V}, Al t K H vs xs → vs[i]? = some v → ∃ x, xs[i]? = some x ∧ t.at_ K H fe v x
  | _, _, _, _, .nil, e => by simp at e
  | _, _, 0, _, .cons h _, e => by simp at e; subst e; exact ⟨_, rfl, h⟩
  | _, _, i + 1, v, .cons _ r, e => by
    obtain ⟨x, h1, h2⟩ := Al.getV (i := i) r (by simpa using e)
    exact ⟨x, by simpa using h1, h2⟩
theorem Al.append : ∀ {vs ws : List V} {xs ys : List t.α}, Al t K H vs xs → Al t K H ws ys → Al t K H (vs ++ ws) (xs ++ ys)
  | _, _, _, _, .nil, s => s
  | _, _, _, _, .cons h r, s => .cons h (Al.append r s)
theorem Al.set {v : V} {x : t.α} (h : t.at_ K H fe v x) : ∀ {vs : List V} {xs : List t.α} (i : Nat), Al t K H vs xs → Al t K H (vs.set i v) (xs.set i x)
  | _, _, _, .nil => .nil
  | _, _, 0, .cons _ r => .cons h r
  | _, _, i + 1, .cons q r => .cons q (Al.set h i r)
theorem Al.take : ∀ {vs : List V} {xs : List t.α} (n : Nat), Al t K H vs xs → Al t K H (vs.take n) (xs.take n)
  | _, _, 0, _ => .nil
  | _, _, _ + 1, .nil => .nil
  | _, _, n + 1, .cons h r => .cons h (Al.take n r)
theorem Al.drop : ∀ {vs : List V} {xs : List t.α} (n : Nat), Al t K H vs xs → Al t K H (vs.drop n) (xs.drop n)
  | _, _, 0, h => h
  | _, _, _ + 1, .nil => .nil
  | _, _, n + 1, .cons _ r => Al.drop n r
theorem Al.reverse {vs : List V} {xs : List t.α} (h : Al t K H vs xs) : Al t K H vs.reverse xs.reverse := by
  induction h with
  | nil => exact .nil
  | cons h r ih =>
    rw [List.reverse_cons, List.reverse_cons]
    exact Al.append ih (.cons h .nil)
theorem Al.dropLast {vs : List V} {xs : List t.α} (h : Al t K H vs xs) : Al t K H vs.dropLast xs.dropLast := by
  rw [List.dropLast_eq_take, List.dropLast_eq_take, h.length]
  exact h.take _
theorem Al.erase : ∀ {vs : List V} {xs : List t.α} (n : Nat), Al t K H vs xs → Al t K H (vs.eraseIdx n) (xs.eraseIdx n)
  | _, _, _, .nil => .nil
  | _, _, 0, .cons _ r => r
  | _, _, n + 1, .cons h r => .cons h (Al.erase n r)
theorem Al.rep {vs : List V} {xs : List t.α} (h : Al t K H vs xs) : ∀ n, Al t K H (List.replicate n vs).flatten (List.replicate n xs).flatten
  | 0 => .nil
  | n + 1 => by
    rw [List.replicate_succ, List.replicate_succ, List.flatten_cons, List.flatten_cons]
    exact h.append (Al.rep h n)
theorem al_flat {α : Type} {f : α → V} : ∀ {vs : List V} {xs : List α}, Al (tFlat α f) K H vs xs → vs = xs.map f
  | _, _, .nil => rfl
  | _, _, .cons h r => by rw [List.map_cons, h.2, al_flat r]
theorem al_of_flat {α : Type} {f : α → V} : ∀ (xs : List α), Al (tFlat α f) K H (xs.map f) xs
  | [] => .nil
  | x :: xs => .cons ⟨rfl, rfl⟩ (al_of_flat xs)
end

/-- a list of one's own, of such values -/
@[reducible] def tList (t : Ty) : Ty where
  α := List t.α
  at_ := fun K H F v xs => ∃ l vs, v = .ref l ∧ F = f1 l ∧ H l = some (.lst vs) ∧ Al t K H vs xs
  own := fun ⟨l, vs, _, e, h, _⟩ b z => by
    rw [e] at z
    have z' : b = l := z
    rw [z', h]; trivial
  keep := fun ⟨l, vs, ev, e, h, a⟩ s k => ⟨l, vs, ev, e, k l _ (by rw [e]; exact rfl) h, a.keep s⟩
/-- a tuple of such values, of any length -/
@[reducible] def tTup (t : Ty) : Ty where
  α := List t.α
  at_ := fun K H F v xs => F = fe ∧ ∃ a vs, v = .ref a ∧ SqT K H a vs ∧ Al t K H vs xs
  own := fun ⟨e, _⟩ b z => by rw [e] at z; exact z.elim
  keep := fun ⟨e, a, vs, ev, h, al⟩ s k => ⟨e, a, vs, ev, s.seqT h, al.keep s⟩
instance {t : Ty} : Imm (tTup t) := ⟨fun h => h.1⟩
/-- a list that nobody changes (the script) -/
@[reducible] def tRo (t : Ty) : Ty where
  α := List t.α
  at_ := fun K H F v xs => F = fe ∧ ∃ a vs, v = .ref a ∧ ((∃ o, H a = some (.frz o (.lst vs))) ∨ ((∀ H', SqL K H' a vs))) ∧ Al t K H vs xs
  own := fun ⟨e, _⟩ b z => by rw [e] at z; exact z.elim
  keep := fun ⟨e, a, vs, ev, h, al⟩ s k => ⟨e, a, vs, ev, h.imp (fun ⟨o, h⟩ => ⟨o, s.at_ h (fun z => z) fun _ z => nomatch z⟩) id, al.keep s⟩
instance {t : Ty} : Imm (tRo t) := ⟨fun h => h.1⟩
theorem ro_sq {t : Ty} {K : PySem.W.Frag} {H : Hp} {F : Fp} {v : V} {xs : List t.α} (h : (tRo t).at_ K H F v xs) : ∃ a vs, v = .ref a ∧ SqL K H a vs ∧ Al t K H vs xs := by
  obtain ⟨e, a, vs, ev, h, al⟩ := h
  refine ⟨a, vs, ev, ?_, al⟩
  rcases h with ⟨o, h⟩ | h
  · exact .inl (.inr ⟨o, h⟩)
  · exact h H
/-- a tuple of values of their own types -/
@[reducible] def HT2 : List Ty → Type
  | [] => Unit
  | t :: ts => t.α × HT2 ts
def AT (K : PySem.W.Frag) (H : Hp) : (ts : List Ty) → Fp → List V → HT2 ts → Prop
  | [], F, vs, _ => F = fe ∧ vs = []
  | t :: ts, F, vs, a => ∃ v r F1 F2, vs = v :: r ∧ F = fo F1 F2 ∧ Dj F1 F2 ∧ t.at_ K H F1 v a.1 ∧ AT K H ts F2 r a.2
theorem AT.own {K : PySem.W.Frag} {H : Hp} : ∀ {ts : List Ty} {F : Fp} {vs : List V} {a : HT2 ts}, AT K H ts F vs a → ∀ b, F b → Mut (H b)
  | [], _, _, _, h, b, z => by rw [h.1] at z; exact z.elim
  | t :: ts, _, _, _, ⟨v, r, F1, F2, _, e, _, h1, h2⟩, b, z => by
    rw [e] at z
    exact z.elim (t.own h1 b) (AT.own h2 b)
theorem AT.keep {K : PySem.W.Frag} {H H' : Hp} : ∀ {ts : List Ty} {F : Fp} {vs : List V} {a : HT2 ts}, AT K H ts F vs a → Stay H H' → (∀ b o, F b → H b = some o → H' b = some o) → AT K H' ts F vs a
  | [], _, _, _, h, _, _ => h
  | t :: ts, _, _, _, ⟨v, r, F1, F2, e1, e, d, h1, h2⟩, s, k =>
    ⟨v, r, F1, F2, e1, e, d, t.keep h1 s (fun b o z => k b o (by rw [e]; exact .inl z)), AT.keep h2 s (fun b o z => k b o (by rw [e]; exact .inr z))⟩
theorem AT.length {K : PySem.W.Frag} {H : Hp} : ∀ {ts : List Ty} {F : Fp} {vs : List V} {a : HT2 ts}, AT K H ts F vs a → vs.length = ts.length
  | [], _, _, _, h => by rw [h.2]; rfl
  | t :: ts, _, _, _, ⟨v, r, F1, F2, e1, e, d, h1, h2⟩ => by rw [e1, List.length_cons, List.length_cons, AT.length h2]
@[reducible] def tTpl (ts : List Ty) : Ty where
  α := HT2 ts
  at_ := fun K H F v as => ∃ a vs, v = .ref a ∧ SqT K H a vs ∧ AT K H ts F vs as
  own := fun ⟨a, vs, ev, h, at_⟩ => at_.own
  keep := fun ⟨a, vs, ev, h, at_⟩ s k => ⟨a, vs, ev, s.seqT h, at_.keep s k⟩
class Imms (ts : List Ty) : Prop where
  imm : ∀ {K H F vs a}, AT K H ts F vs a → F = fe
instance : Imms [] := ⟨fun h => h.1⟩
instance {t : Ty} {ts : List Ty} [i : Imm t] [j : Imms ts] : Imms (t :: ts) := ⟨fun ⟨v, r, F1, F2, _, e, _, h1, h2⟩ => by rw [e, i.imm h1, j.imm h2, fe_fo]⟩
instance {ts : List Ty} [i : Imms ts] : Imm (tTpl ts) := ⟨fun ⟨a, vs, ev, h, at_⟩ => i.imm at_⟩
/-- None or a value -/
@[reducible] def tOpt (t : Ty) : Ty where
  α := Option t.α
  at_ := fun K H F v a => match a with
    | none => F = fe ∧ v = .non
    | some x => t.at_ K H F v x ∧ v ≠ .non
  own := fun {K H F v a} h b z => by
    cases a with
    | none => rw [h.1] at z; exact z.elim
    | some x => exact t.own h.1 b z
  keep := fun {K H H' F v a} h s k => by
    cases a with
    | none => exact h
    | some x => exact ⟨t.keep h.1 s k, h.2⟩
instance {t : Ty} [i : Imm t] : Imm (tOpt t) := ⟨fun {K H F v a} h => by
  cases a with
  | none => exact h.1
  | some x => exact i.imm h.1⟩
/-- data of any form, but lists -/
inductive D where
  | non
  | bl (b : Bool)
  | int (i : Int)
  | str (x : List Nat)
  | tup (xs : List D)
mutual
inductive DP (K : PySem.W.Frag) (H : Hp) : V → D → Prop
  | non : DP K H .non .non
  | bl (b : Bool) : DP K H (.bl b) (.bl b)
  | int (i : Int) : DP K H (.int i) (.int i)
  | str (x : List Nat) : DP K H (S x) (.str x)
  | tup {a : Addr} {vs : List V} {ds : List D} : SqT K H a vs → DPs K H vs ds → DP K H (.ref a) (.tup ds)
inductive DPs (K : PySem.W.Frag) (H : Hp) : List V → List D → Prop
  | nil : DPs K H [] []
  | cons {v : V} {vs : List V} {d : D} {ds : List D} : DP K H v d → DPs K H vs ds → DPs K H (v :: vs) (d :: ds)
end
section
variable {K : PySem.W.Frag} {H H' : Hp}
mutual
theorem DP.keep (s : Stay H H') : ∀ (d : D) (v : V), DP K H v d → DP K H' v d
  | .non, _, h => by cases h; exact .non
  | .bl b, _, h => by cases h; exact .bl b
  | .int i, _, h => by cases h; exact .int i
  | .str x, _, h => by cases h; exact .str x
  | .tup ds, _, h => by
    cases h with
    | tup h1 h2 => exact .tup (s.seqT h1) (DPs.keep s ds _ h2)
theorem DPs.keep (s : Stay H H') : ∀ (ds : List D) (vs : List V), DPs K H vs ds → DPs K H' vs ds
  | [], _, h => by cases h; exact .nil
  | d :: ds, _, h => by
    cases h with
    | cons h1 h2 => exact .cons (DP.keep s d _ h1) (DPs.keep s ds _ h2)
end
end
@[reducible] def tD : Ty where
  α := D
  at_ := fun K H F v d => F = fe ∧ DP K H v d
  own := fun ⟨e, _⟩ b z => by rw [e] at z; exact z.elim
  keep := fun ⟨e, h⟩ s k => ⟨e, DP.keep s _ _ h⟩
instance : Imm tD := ⟨fun h => h.1⟩

/-! ### a value taken for one of another type -/
structure Cv (t u : Ty) where
  f : t.α → u.α
  ok : ∀ {K H F v a}, t.at_ K H F v a → u.at_ K H F v (f a)
@[reducible] def cv_id {t : Ty} : Cv t t := ⟨id, fun h => h⟩
@[reducible] def cv_non {t : Ty} : Cv tNone (tOpt t) := ⟨fun _ => none, fun h => h⟩
@[reducible] def cv_someI : Cv tInt (tOpt tInt) := ⟨some, fun h => ⟨h, by rw [h.2]; intro z; cases z⟩⟩
@[reducible] def cv_someS : Cv tS (tOpt tS) := ⟨some, fun h => ⟨h, by rw [h.2]; intro z; cases z⟩⟩
@[reducible] def cv_someT {ts : List Ty} : Cv (tTpl ts) (tOpt (tTpl ts)) := ⟨some, fun h => ⟨h, by obtain ⟨a, vs, e, _⟩ := h; rw [e]; intro z; cases z⟩⟩
@[reducible] def cv_dN : Cv tNone tD := ⟨fun _ => .non, fun h => ⟨h.1, by rw [h.2]; exact .non⟩⟩
@[reducible] def cv_dB : Cv tBool tD := ⟨.bl, fun h => ⟨h.1, by rw [h.2]; exact .bl _⟩⟩
@[reducible] def cv_dI : Cv tInt tD := ⟨.int, fun h => ⟨h.1, by rw [h.2]; exact .int _⟩⟩
@[reducible] def cv_dS : Cv tS tD := ⟨.str, fun h => ⟨h.1, by rw [h.2]; exact .str _⟩⟩
theorem dps_of {t : Ty} {K : PySem.W.Frag} {H : Hp} (c : Cv t tD) : ∀ {vs : List V} {xs : List t.α}, Al t K H vs xs → DPs K H vs (xs.map c.f)
  | _, _, .nil => .nil
  | _, _, .cons h r => .cons (c.ok h).2 (dps_of c r)
@[reducible] def cv_dT {t : Ty} (c : Cv t tD) : Cv (tTup t) tD := ⟨fun xs => .tup (xs.map c.f), fun ⟨e, a, vs, ev, h, al⟩ => ⟨e, by rw [ev]; exact .tup h (dps_of c al)⟩⟩
/-- the items of a tuple, each as data -/
structure Cvs (ts : List Ty) where
  f : HT2 ts → List D
  ok : ∀ {K H F vs a}, AT K H ts F vs a → F = fe ∧ DPs K H vs (f a)
@[reducible] def cvs_nil : Cvs [] := ⟨fun _ => [], fun h => ⟨h.1, by rw [h.2]; exact .nil⟩⟩
@[reducible] def cvs_cons {t : Ty} {ts : List Ty} (c : Cv t tD) (r : Cvs ts) : Cvs (t :: ts) := ⟨fun a => c.f a.1 :: r.f a.2, fun ⟨v, w, F1, F2, e1, e2, d, h1, h2⟩ => by
  obtain ⟨z1, q1⟩ := c.ok h1
  obtain ⟨z2, q2⟩ := r.ok h2
  exact ⟨by rw [e2, z1, z2, fe_fo], by rw [e1]; exact .cons q1 q2⟩⟩
@[reducible] def cv_dP {ts : List Ty} (c : Cvs ts) : Cv (tTpl ts) tD := ⟨fun a => .tup (c.f a), fun ⟨a, vs, ev, h, at_⟩ => by
  obtain ⟨z, q⟩ := c.ok at_
  exact ⟨z, by rw [ev]; exact .tup h q⟩⟩
/-- a pair of alike things as a tuple -/
theorem at_al {t : Ty} [i : Imm t] {K : PySem.W.Frag} {H : Hp} : ∀ {n : Nat} {F : Fp} {vs : List V} {a : HT2 (List.replicate n t)}, AT K H (List.replicate n t) F vs a → F = fe ∧ ∃ xs, Al t K H vs xs ∧ xs.length = n
  | 0, _, _, _, h => ⟨h.1, [], by rw [h.2]; exact .nil, rfl⟩
  | n + 1, _, _, _, ⟨v, r, F1, F2, e1, e2, d, h1, h2⟩ => by
    obtain ⟨z, xs, q, l⟩ := at_al (n := n) h2
    have z1 := i.imm h1
    exact ⟨by rw [e2, z, z1, fe_fo], _ :: xs, by rw [e1]; exact .cons (z1 ▸ h1) q, by simp [l]⟩

section
variable {X : Cx} {TB : Addr → Prop} {Ξ : WX} {Γ Γ1 Γ2 Γ3 : Cy} {e a b c : Expr} {es : List Expr} {K : PySem.W.Frag} {pos : Pos}

/-! ### names and constants -/
@[reducible] def wPure {α : Type} (f : HL Γ → α) : WT Γ Γ α := fun s Q _ => Q (f s) s
theorem ex_var {t : Ty} [im : Imm t] {x : Str} (i : Nat) (e : Cy.at_ Γ i = some t := by rfl) (hN : X.N[i]? = some x := by rfl) (hv : Vis X.env.scope x := by first | exact Or.inl rfl | exact Or.inr (Or.inl rfl) | exact Or.inr (Or.inr rfl)) (hd : (x == ("__debug__" : Str)) = false := by decide)
    (hcd : (x == ("__classdict__" : Str)) = false := by decide) : Ex X TB Ξ Γ (.Name x pos) Γ (.val t) (wPure fun s => cst e (get Γ i s)) := ⟨pe_weak (L2.pv i hN hv hd hcd) fun σ H Q h => by
  obtain ⟨s, F, Qt, E, sr, tb, hw, hq, _⟩ := h
  obtain ⟨v, F1, h1, h2, _⟩ := sr.get_ e
  have z := im.imm h2
  subst z
  exact ⟨v, h1, hq _ s v H fe F hw h2 sr (fe_dj _) (by rw [fe_fo]; exact Chg.refl)⟩⟩
@[reducible] def wMv (i : Nat) {α : Type} (f : HL Γ → α) : WT Γ (Cy.set_ Γ i none) α := fun s Q _ => Q (f s) (put Γ i none () s)
theorem ex_mv {t : Ty} {x : Str} (i : Nat) (e : Cy.at_ Γ i = some t := by rfl) (hN : X.N[i]? = some x := by rfl) (hv : Vis X.env.scope x := by first | exact Or.inl rfl | exact Or.inr (Or.inl rfl) | exact Or.inr (Or.inr rfl)) (hd : (x == ("__debug__" : Str)) = false := by decide)
    (hcd : (x == ("__classdict__" : Str)) = false := by decide) : Ex X TB Ξ Γ (.Name x pos) (Cy.set_ Γ i none) (.val t) (wMv i fun s => cst e (get Γ i s)) := ⟨pe_weak (L2.pv i hN hv hd hcd) fun σ H Q h => by
  obtain ⟨s, F, Qt, E, sr, tb, hw, hq, _⟩ := h
  obtain ⟨v, F1, F2, h1, h2, h3, h4, h5⟩ := sr.take_ e
  exact ⟨v, h1, hq _ _ v H F1 F2 hw h2 h3 h5 (by rw [← h4]; exact Chg.refl)⟩⟩
theorem ex_bor {x : Str} {t : Ty} (i : Nat) (e : Cy.at_ Γ i = some t := by rfl) (hN : X.N[i]? = some x := by rfl) (hv : Vis X.env.scope x := by first | exact Or.inl rfl | exact Or.inr (Or.inl rfl) | exact Or.inr (Or.inr rfl)) (hd : (x == ("__debug__" : Str)) = false := by decide)
    (hcd : (x == ("__classdict__" : Str)) = false := by decide) : Ex X TB Ξ Γ (.Name x pos) Γ (.bor i) (wPure fun _ => ()) := ⟨pe_weak (L2.pv i hN hv hd hcd) fun σ H Q h => by
  obtain ⟨s, F, Qt, E, sr, tb, hw, hq, _⟩ := h
  obtain ⟨v, F1, h1, _, _⟩ := sr.get_ e
  exact ⟨v, h1, hq _ s v H fe F hw ⟨rfl, h1⟩ sr (fe_dj _) (by rw [fe_fo]; exact Chg.refl)⟩⟩
theorem ex_const {t : Ty} {v : V} {x : t.α} (h : PE X e (tC v)) (ha : ∀ K H, t.at_ K H fe v x) : Ex X TB Ξ Γ e Γ (.val t) (wPure fun _ => x) := ⟨pe_weak h fun σ H Q h => by
  obtain ⟨s, F, Qt, E, sr, tb, hw, hq, _⟩ := h
  exact hq _ s v H fe F hw (ha _ _) sr (fe_dj _) (by rw [fe_fo]; exact Chg.refl)⟩
theorem ex_int {i : Int} {j} : Ex X TB Ξ Γ (.Constant (.int i) j pos) Γ (.val tInt) (wPure fun _ => i) := ex_const pe_int fun _ _ => ⟨rfl, rfl⟩
theorem ex_bl {i : Bool} {j} : Ex X TB Ξ Γ (.Constant (.bool i) j pos) Γ (.val tBool) (wPure fun _ => i) := ex_const pe_bl fun _ _ => ⟨rfl, rfl⟩
theorem ex_non {j} : Ex X TB Ξ Γ (.Constant .none j pos) Γ (.val tNone) (wPure fun _ => ()) := ex_const pe_non fun _ _ => ⟨rfl, rfl⟩
theorem ex_str {x : Str} {j} (l : List Nat) (hx : x.cps.toList = l := by decide +kernel) : Ex X TB Ξ Γ (.Constant (.str x) j pos) Γ (.val tS) (wPure fun _ => l) := ex_const pe_str fun _ _ => ⟨rfl, by rw [← hx]; rfl⟩
@[reducible] def wCv {t u : Ty} (c : Cv t u) (w : WT Γ Γ1 t.α) : WT Γ Γ1 u.α := fun s Q E => w s (fun a s1 => Q (c.f a) s1) E
theorem ex_cv {t u : Ty} {w : WT Γ Γ1 t.α} (c : Cv t u) (h : Ex X TB Ξ Γ e Γ1 (.val t) w) : Ex X TB Ξ Γ e Γ1 (.val u) (wCv c w) := ⟨pe_weak h.pe fun σ H Q h => by
  obtain ⟨s, F, Qt, E, sr, tb, hw, hq, he⟩ := h
  exact ⟨s, F, _, E, sr, tb, hw, fun a s1 v H1 F1 F2 q at1 sr1 d1 c1 => hq _ s1 v H1 F1 F2 q (c.ok at1) sr1 d1 c1, he⟩⟩

/-! ### operators by values -/
def Op2 (X : Cx) (TB : Addr → Prop) (f : Value → Value → Sem Value) (C : Ctr) : Prop := ∃ r : R2, OpR X f r ∧ ∀ vs H Q E, C.sp X.K TB vs H Q E → ∃ x y, vs = [x, y] ∧ r x y H Q
theorem ex_bin {op : Operator} {ps : List Pm} {r : Ty} {cw : HT ps → (r.α → Hou ps → Prop) → (Xn → Prop) → Prop} {k1 k2 : Ki} {wa : WT Γ Γ1 k1.α} {wb : WT Γ1 Γ2 k2.α} (o : Op2 X TB (binaryOp op) ⟨ps, r, cw⟩) (ha : Ex X TB Ξ Γ a Γ1 k1 wa) (hb : Ex X TB Ξ Γ1 b Γ2 k2 wb) (cj : Cj [k1, k2] ps Γ2) :
    Ex X TB Ξ Γ (.BinOp a op b pos) Γ2 (.val r) (wApp (C := ⟨ps, r, cw⟩) (wCons wa (wCons wb wNil)) cj) := by
  obtain ⟨rr, ho, hr⟩ := o
  refine ex_app (C := ⟨ps, r, cw⟩) (r := fun vs H Q => ∃ x y, vs = [x, y] ∧ rr x y H Q) (pe_weak (pe_op ho ha.pe hb.pe) fun σ H Q h => ?_) cj hr
  obtain ⟨s, F, Qt, E, sr, tb, hw, hq, he⟩ := la_two h
  refine ⟨s, F, Qt, E, sr, tb, hw, fun x s1 v H1 F1 F2 q at1 sr1 d1 c1 => ?_, he⟩
  obtain ⟨s2, F', Qt', E', sr', tb', hw', hq', he'⟩ := hq x s1 v H1 F1 F2 q at1 sr1 d1 c1
  refine ⟨s2, F', Qt', E', sr', tb', hw', fun y s3 v3 H3 F3 F4 q3 at3 sr3 d3 c3 => ?_, he'⟩
  obtain ⟨x, y, e, z⟩ := hq' y s3 v3 H3 F3 F4 q3 at3 sr3 d3 c3
  cases e
  exact z
theorem ex_cmp {op : CmpOp} {ps : List Pm} {r : Ty} {cw : HT ps → (r.α → Hou ps → Prop) → (Xn → Prop) → Prop} {k1 k2 : Ki} {wa : WT Γ Γ1 k1.α} {wb : WT Γ1 Γ2 k2.α} (o : Op2 X TB (compareOp op) ⟨ps, r, cw⟩) (ha : Ex X TB Ξ Γ a Γ1 k1 wa) (hb : Ex X TB Ξ Γ1 b Γ2 k2 wb) (cj : Cj [k1, k2] ps Γ2)
    (hm : behindInMarks op b = false := by first | exact nobehind _ (by decide) (by decide) | rfl) :
    Ex X TB Ξ Γ (.Compare a [op] [b] pos) Γ2 (.val r) (wApp (C := ⟨ps, r, cw⟩) (wCons wa (wCons wb wNil)) cj) := by
  obtain ⟨rr, ho, hr⟩ := o
  refine ex_app (C := ⟨ps, r, cw⟩) (r := fun vs H Q => ∃ x y, vs = [x, y] ∧ rr x y H Q) (pe_weak (pe_cmpR ho ha.pe hb.pe hm) fun σ H Q h => ?_) cj hr
  obtain ⟨s, F, Qt, E, sr, tb, hw, hq, he⟩ := la_two h
  refine ⟨s, F, Qt, E, sr, tb, hw, fun x s1 v H1 F1 F2 q at1 sr1 d1 c1 => ?_, he⟩
  obtain ⟨s2, F', Qt', E', sr', tb', hw', hq', he'⟩ := hq x s1 v H1 F1 F2 q at1 sr1 d1 c1
  refine ⟨s2, F', Qt', E', sr', tb', hw', fun y s3 v3 H3 F3 F4 q3 at3 sr3 d3 c3 => ?_, he'⟩
  obtain ⟨x, y, e, z⟩ := hq' y s3 v3 H3 F3 F4 q3 at3 sr3 d3 c3
  cases e
  exact z
/-- a comparison as a test -/
@[reducible] def wB (w : WT Γ Γ1 Bool) : WT Γ Γ1 Bool := w
theorem tx_of {w : WT Γ Γ1 Bool} (h : PT X e fun σ H Q => LX TB X.K Ξ Γ Γ1 (.val tBool) w σ H fun x H' => ∃ k, x = .bl k ∧ Q k H') : Tx X TB Ξ Γ e Γ1 w := ⟨pt_weak h fun σ H Q h => by
  obtain ⟨s, F, Qt, E, sr, tb, hw, hq, he⟩ := h
  exact ⟨s, F, Qt, E, sr, tb, hw, fun a s1 v H1 F1 F2 q at1 sr1 d1 c1 => ⟨a, at1.2, hq a s1 H1 F2 q sr1 (c1.sub fun b z => .inr z)⟩, he⟩⟩
theorem tx_cmp {op : CmpOp} {ps : List Pm} {cw : HT ps → (Bool → Hou ps → Prop) → (Xn → Prop) → Prop} {k1 k2 : Ki} {wa : WT Γ Γ1 k1.α} {wb : WT Γ1 Γ2 k2.α} (o : Op2 X TB (compareOp op) ⟨ps, tBool, cw⟩) (ha : Ex X TB Ξ Γ a Γ1 k1 wa) (hb : Ex X TB Ξ Γ1 b Γ2 k2 wb)
    (cj : Cj [k1, k2] ps Γ2) (hm : behindInMarks op b = false := by first | exact nobehind _ (by decide) (by decide) | rfl) :
    Tx X TB Ξ Γ (.Compare a [op] [b] pos) Γ2 (wApp (C := ⟨ps, tBool, cw⟩) (wCons wa (wCons wb wNil)) cj) := by
  obtain ⟨r, ho, hr⟩ := o
  refine tx_of (pt_weak (pt_cmpR ho ha.pe hb.pe hm) fun σ H Q h => ?_)
  obtain ⟨s, F, Qt, E, sr, tb, hw, hq, he⟩ := la_two (app_imp (C := ⟨ps, tBool, cw⟩) h)
  refine ⟨s, F, Qt, E, sr, tb, hw, fun x s1 v H1 F1 F2 q at1 sr1 d1 c1 => ?_, he⟩
  obtain ⟨s2, F', Qt', E', sr', tb', hw', hq', he'⟩ := hq x s1 v H1 F1 F2 q at1 sr1 d1 c1
  refine ⟨s2, F', Qt', E', sr', tb', hw', fun y s3 v3 H3 F3 F4 q3 at3 sr3 d3 c3 => ?_, he'⟩
  obtain ⟨x, y, e, z⟩ := hr _ _ _ _ (hq' y s3 v3 H3 F3 F4 q3 at3 sr3 d3 c3)
  cases e
  exact z
/-- an expression that gives a bool, as a test -/
theorem tx_val {w : WT Γ Γ1 Bool} (h : Ex X TB Ξ Γ e Γ1 (.val tBool) w) (he : ∀ whole, isTrue e X.env whole = (do let v ← whole; standAt e.pos; holding [v] (truthy v)) := by intro _; rfl) : Tx X TB Ξ Γ e Γ1 w := tx_of (pt_weak (pt_val h.pe he) fun σ H Q h => h)
/-- an expression as a test, by its truth -/
class Tru (t : Ty) where
  tr : t.α → Bool
  g : t.α → Prop
  ok : ∀ {K H F v a}, t.at_ K H F v a → g a → TruV K v H (tr a)
@[reducible] def wTru {t : Ty} [T : Tru t] (w : WT Γ Γ1 t.α) : WT Γ Γ1 Bool := fun s Q E => w s (fun a s1 => T.g a ∧ Q (T.tr a) s1) E
theorem tx_tru {t : Ty} [T : Tru t] {w : WT Γ Γ1 t.α} (h : Ex X TB Ξ Γ e Γ1 (.val t) w) (he : ∀ whole, isTrue e X.env whole = (do let v ← whole; standAt e.pos; holding [v] (truthy v)) := by intro _; rfl) : Tx X TB Ξ Γ e Γ1 (wTru w) := ⟨pt_weak (pt_truth h.pe he) fun σ H Q h => by
  obtain ⟨s, F, Qt, E, sr, tb, hw, hq, hx⟩ := h
  exact ⟨s, F, _, E, sr, tb, hw, fun x s1 v H1 F1 F2 q at1 sr1 d1 c1 => ⟨_, T.ok at1 q.1, hq _ s1 H1 F2 q.2 sr1 (c1.sub fun b z => .inr z)⟩, hx⟩⟩
instance : Tru tInt := ⟨fun i => i != 0, fun _ => True, fun h _ => by rw [h.2]; rfl⟩
instance : Tru tS := ⟨fun l => !l.isEmpty, fun l => l.length ≤ sizeLine, fun {K H F v a} h g => by
  rw [h.2]
  refine ⟨by rw [str_len]; exact g, ?_⟩
  rw [str_len]
  cases a with
  | nil => rfl
  | cons x r =>
    show true = ((((x :: r).length : Nat) : Int) != 0)
    symm
    rw [bne_iff_ne, List.length_cons]
    omega⟩
instance {t : Ty} : Tru (tTup t) := ⟨fun l => !l.isEmpty, fun _ => True, fun {K H F v a} h _ => by
  obtain ⟨_, p, vs, rfl, hs, al⟩ := h
  refine .inr (.inl ⟨vs, hs, ?_⟩)
  cases al <;> rfl⟩
instance {t : Ty} : Tru (tList t) := ⟨fun l => !l.isEmpty, fun _ => True, fun {K H F v a} h _ => by
  obtain ⟨p, vs, rfl, _, hs, al⟩ := h
  refine .inl ⟨vs, SqL.of hs, ?_⟩
  cases al <;> rfl⟩
/-- a lent slot as a test, by its truth -/
theorem tx_truB {t : Ty} [T : Tru t] {x : Str} (i : Nat) (e : Cy.at_ Γ i = some t := by rfl) (hN : X.N[i]? = some x := by rfl) (hv : Vis X.env.scope x := by first | exact Or.inl rfl | exact Or.inr (Or.inl rfl) | exact Or.inr (Or.inr rfl)) (hd : (x == ("__debug__" : Str)) = false := by decide)
    (hcd : (x == ("__classdict__" : Str)) = false := by decide) (he : ∀ whole, isTrue (.Name x pos) X.env whole = (do let v ← whole; standAt (Expr.Name x pos).pos; holding [v] (truthy v)) := by intro _; rfl) :
    Tx X TB Ξ Γ (.Name x pos) Γ (fun s Q _ => T.g (cst e (get Γ i s)) ∧ Q (T.tr (cst e (get Γ i s))) s) := ⟨pt_weak (pt_truth (L2.pv i hN hv hd hcd) he) fun σ H Q h => by
  obtain ⟨s, F, Qt, E, sr, tb, hw, hq, _⟩ := h
  obtain ⟨v, F1, h1, h2, _⟩ := sr.get_ e
  exact ⟨v, h1, _, T.ok h2 hw.1, hq _ s H F hw.2 sr Chg.refl⟩⟩

/-! ### and, or, not, conditional expressions -/
structure Tw (X : Cx) (TB : Addr → Prop) (Ξ : WX) (Γ : Cy) (e : Expr) (Γ' : Cy) (w : WT Γ Γ' Bool) : Prop where
  pw : PW X e (LT TB X.K Ξ Γ Γ' w)
theorem Tw.tx {w : WT Γ Γ1 Bool} (h : Tw X TB Ξ Γ e Γ1 w) : Tx X TB Ξ Γ e Γ1 w := ⟨h.pw.pt⟩
theorem lt_then {w : WT Γ Γ1 Bool} {σ : St} {H : Hp} {QH : Bool → Hp → Prop} {f : Bool → WT Γ1 Γ2 Bool} (h : LT TB K Ξ Γ Γ2 (fun s Q E => w s (fun b s1 => f b s1 Q E) E) σ H QH) :
    LT TB K Ξ Γ Γ1 w σ H fun b H1 => LT TB K Ξ Γ1 Γ2 (f b) σ H1 QH := by
  obtain ⟨s, F, Qt, E, sr, tb, hw, hq, hx⟩ := h
  exact ⟨s, F, _, E, sr, tb, hw, fun b s1 H1 F1 q sr1 c1 => ⟨s1, F1, Qt, E, sr1, tb.stay (c1.stay sr.own), q, fun b2 s2 H2 F2 q2 sr2 c2 => hq b2 s2 H2 F2 q2 sr2 (c1.trans c2), fun x ex cls d H2 xa c2 => hx x ex cls d H2 xa (c1.trans c2)⟩, hx⟩
theorem lt_pure {b : Bool} {σ : St} {H : Hp} {QH : Bool → Hp → Prop} (h : LT TB K Ξ Γ Γ (fun s Q _ => Q b s) σ H QH) : QH b H := by
  obtain ⟨s, F, Qt, E, sr, tb, hw, hq, hx⟩ := h
  exact hq b s H F hw sr Chg.refl
variable {rest : List Expr}
@[reducible] def wAnd (wa : WT Γ Γ Bool) (wb : WT Γ Γ Bool) : WT Γ Γ Bool := fun s Q E => wa s (fun b s1 => (b = true → wb s1 Q E) ∧ (b = false → Q false s1)) E
@[reducible] def wOr (wa : WT Γ Γ Bool) (wb : WT Γ Γ Bool) : WT Γ Γ Bool := fun s Q E => wa s (fun b s1 => (b = false → wb s1 Q E) ∧ (b = true → Q true s1)) E
theorem tw_and1 {w : WT Γ Γ1 Bool} (h : Tx X TB Ξ Γ a Γ1 w) : Tw X TB Ξ Γ (.BoolOp .And [a] pos) Γ1 w := ⟨pw_and1 h.pt⟩
theorem tw_or1 {w : WT Γ Γ1 Bool} (h : Tx X TB Ξ Γ a Γ1 w) : Tw X TB Ξ Γ (.BoolOp .Or [a] pos) Γ1 w := ⟨pw_or1 h.pt⟩
theorem tw_and {wa wb : WT Γ Γ Bool} (ha : Tx X TB Ξ Γ a Γ wa) (hb : Tw X TB Ξ Γ (.BoolOp .And (b :: rest) pos) Γ wb) : Tw X TB Ξ Γ (.BoolOp .And (a :: b :: rest) pos) Γ (wAnd wa wb) := ⟨pw_weak (pw_and ha.pt hb.pw) fun σ H Q h => by
  obtain ⟨s, F, Qt, E, sr, tb, hw, hq, hx⟩ := lt_then (f := fun b s Q E => (b = true → wb s Q E) ∧ (b = false → Q false s)) h
  refine ⟨s, F, Qt, E, sr, tb, hw, fun b s1 H1 F1 q sr1 c1 => ?_, hx⟩
  obtain ⟨s2, F2, Qt2, E2, sr2, tb2, hw2, hq2, hx2⟩ := hq b s1 H1 F1 q sr1 c1
  cases b with
  | true => exact iteT ⟨s2, F2, Qt2, E2, sr2, tb2, hw2.1 rfl, hq2, hx2⟩
  | false => exact iteF (hq2 false s2 H1 F2 (hw2.2 rfl) sr2 Chg.refl)⟩
theorem tw_or {wa wb : WT Γ Γ Bool} (ha : Tx X TB Ξ Γ a Γ wa) (hb : Tw X TB Ξ Γ (.BoolOp .Or (b :: rest) pos) Γ wb) : Tw X TB Ξ Γ (.BoolOp .Or (a :: b :: rest) pos) Γ (wOr wa wb) := ⟨pw_weak (pw_or ha.pt hb.pw) fun σ H Q h => by
  obtain ⟨s, F, Qt, E, sr, tb, hw, hq, hx⟩ := lt_then (f := fun b s Q E => (b = false → wb s Q E) ∧ (b = true → Q true s)) h
  refine ⟨s, F, Qt, E, sr, tb, hw, fun b s1 H1 F1 q sr1 c1 => ?_, hx⟩
  obtain ⟨s2, F2, Qt2, E2, sr2, tb2, hw2, hq2, hx2⟩ := hq b s1 H1 F1 q sr1 c1
  cases b with
  | false => exact iteF ⟨s2, F2, Qt2, E2, sr2, tb2, hw2.1 rfl, hq2, hx2⟩
  | true => exact iteT (hq2 true s2 H1 F2 (hw2.2 rfl) sr2 Chg.refl)⟩
@[reducible] def wNot (w : WT Γ Γ1 Bool) : WT Γ Γ1 Bool := fun s Q E => w s (fun b s1 => Q (!b) s1) E
theorem tx_not {w : WT Γ Γ1 Bool} (h : Tx X TB Ξ Γ a Γ1 w) : Tx X TB Ξ Γ (.UnaryOp .Not a pos) Γ1 (wNot w) := ⟨pt_weak (pt_not h.pt) fun σ H Q h => by
  obtain ⟨s, F, Qt, E, sr, tb, hw, hq, hx⟩ := h
  exact ⟨s, F, _, E, sr, tb, hw, fun b s1 H1 F1 q sr1 c1 => hq _ s1 H1 F1 q sr1 c1, hx⟩⟩
@[reducible] def wIfE {α : Type} (wc : WT Γ Γ1 Bool) (wa wb : WT Γ1 Γ2 α) : WT Γ Γ2 α := fun s Q E => wc s (fun b s1 => (b = true → wa s1 Q E) ∧ (b = false → wb s1 Q E)) E
theorem ex_if {k : Ki} {wc : WT Γ Γ1 Bool} {wa wb : WT Γ1 Γ2 k.α} (hc : Tx X TB Ξ Γ c Γ1 wc) (ha : Ex X TB Ξ Γ1 a Γ2 k wa) (hb : Ex X TB Ξ Γ1 b Γ2 k wb) : Ex X TB Ξ Γ (.IfExp c a b pos) Γ2 k (wIfE wc wa wb) := ⟨pe_weak (pe_ifExp hc.pt ha.pe hb.pe) fun σ H Q h => by
  obtain ⟨s, F, Qt, E, sr, tb, hw, hq, hx⟩ := h
  refine ⟨s, F, _, E, sr, tb, hw, fun b s1 H1 F1 q sr1 c1 => ?_, hx⟩
  have go : ∀ w : WT Γ1 Γ2 k.α, w s1 Qt E → LX TB X.K Ξ Γ1 Γ2 k w σ H1 Q := fun w q => ⟨s1, F1, Qt, E, sr1, tb.stay (c1.stay sr.own), q, fun x s2 v H2 F2 F3 q2 at2 sr2 d2 c2 => hq x s2 v H2 F2 F3 q2 at2 sr2 d2 (c1.trans c2), fun x ex cls d H2 xa c2 => hx x ex cls d H2 xa (c1.trans c2)⟩
  cases b with
  | true => exact iteT (go _ (q.1 rfl))
  | false => exact iteF (go _ (q.2 rfl))⟩
/-- and, or, not as values (bools) -/
theorem ex_one {op} {k : Ki} {w : WT Γ Γ1 k.α} (h : Ex X TB Ξ Γ a Γ1 k w) : Ex X TB Ξ Γ (.BoolOp op [a] pos) Γ1 k w := ⟨pe_one h.pe⟩
theorem ex_and {wa wb : WT Γ Γ Bool} (ha : Ex X TB Ξ Γ a Γ (.val tBool) wa) (hb : Ex X TB Ξ Γ (.BoolOp .And (b :: rest) pos) Γ (.val tBool) wb) : Ex X TB Ξ Γ (.BoolOp .And (a :: b :: rest) pos) Γ (.val tBool) (wAnd wa wb) := ⟨pe_weak (pe_and ha.pe hb.pe) fun σ H Q h => by
  obtain ⟨s, F, Qt, E, sr, tb, hw, hq, hx⟩ := h
  refine ⟨s, F, _, E, sr, tb, hw, fun b s1 v H1 F1 F2 q at1 sr1 d1 c1 => ⟨b, at1.2, ?_⟩, hx⟩
  have c1' : Chg H F H1 F2 := c1.sub fun b z => .inr z
  cases b with
  | true => exact iteT ⟨s1, F2, Qt, E, sr1, tb.stay (c1.stay sr.own), q.1 rfl, fun x s2 v H2 F2 F3 q2 at2 sr2 d2 c2 => hq x s2 v H2 F2 F3 q2 at2 sr2 d2 (c1'.trans c2), fun x ex cls d H2 xa c2 => hx x ex cls d H2 xa (c1'.trans c2)⟩
  | false => exact iteF (hq false s1 _ H1 fe F2 (q.2 rfl) ⟨rfl, rfl⟩ sr1 (fe_dj _) (by rw [fe_fo]; exact c1'))⟩
theorem ex_or {wa wb : WT Γ Γ Bool} (ha : Ex X TB Ξ Γ a Γ (.val tBool) wa) (hb : Ex X TB Ξ Γ (.BoolOp .Or (b :: rest) pos) Γ (.val tBool) wb) : Ex X TB Ξ Γ (.BoolOp .Or (a :: b :: rest) pos) Γ (.val tBool) (wOr wa wb) := ⟨pe_weak (pe_or ha.pe hb.pe) fun σ H Q h => by
  obtain ⟨s, F, Qt, E, sr, tb, hw, hq, hx⟩ := h
  refine ⟨s, F, _, E, sr, tb, hw, fun b s1 v H1 F1 F2 q at1 sr1 d1 c1 => ⟨b, at1.2, ?_⟩, hx⟩
  have c1' : Chg H F H1 F2 := c1.sub fun b z => .inr z
  cases b with
  | false => exact iteF ⟨s1, F2, Qt, E, sr1, tb.stay (c1.stay sr.own), q.1 rfl, fun x s2 v H2 F2 F3 q2 at2 sr2 d2 c2 => hq x s2 v H2 F2 F3 q2 at2 sr2 d2 (c1'.trans c2), fun x ex cls d H2 xa c2 => hx x ex cls d H2 xa (c1'.trans c2)⟩
  | true => exact iteT (hq true s1 _ H1 fe F2 (q.2 rfl) ⟨rfl, rfl⟩ sr1 (fe_dj _) (by rw [fe_fo]; exact c1'))⟩
theorem ex_not {w : WT Γ Γ1 Bool} (h : Ex X TB Ξ Γ a Γ1 (.val tBool) w) : Ex X TB Ξ Γ (.UnaryOp .Not a pos) Γ1 (.val tBool) (wNot w) := ⟨pe_weak (pe_not h.pe) fun σ H Q h => by
  obtain ⟨s, F, Qt, E, sr, tb, hw, hq, hx⟩ := h
  exact ⟨s, F, _, E, sr, tb, hw, fun b s1 v H1 F1 F2 q at1 sr1 d1 c1 => ⟨b, at1.2, hq _ s1 _ H1 fe F2 q ⟨rfl, rfl⟩ sr1 (fe_dj _) (by rw [fe_fo]; exact c1.sub fun b z => .inr z)⟩, hx⟩⟩
end
end TY

set_option Elab.async false
set_option linter.all false
set_option maxRecDepth 100000
set_option maxHeartbeats 4000000
/-! TyE: primitives as contracts. -/
namespace TY
open PySem L2

@[reducible] def pc1 (t r : Ty) (g : t.α → (r.α → Prop) → Prop) : Ctr := ⟨[.im t], r, fun a Q _ => g a.1 fun c => Q c ((), ())⟩
@[reducible] def pc2 (t u r : Ty) (g : t.α → u.α → (r.α → Prop) → Prop) : Ctr := ⟨[.im t, .im u], r, fun a Q _ => g a.1 a.2.1 fun c => Q c ((), (), ())⟩
@[reducible] def pm1 (t r : Ty) (g : t.α → (r.α → t.α → Prop) → Prop) : Ctr := ⟨[.mu t], r, fun a Q _ => g a.1 fun c b => Q c (b, ())⟩
@[reducible] def pm2 (t u r : Ty) (g : t.α → u.α → (r.α → t.α → Prop) → Prop) : Ctr := ⟨[.mu t, .im u], r, fun a Q _ => g a.1 a.2.1 fun c b => Q c (b, (), ())⟩
@[reducible] def pmm (t u r : Ty) (g : t.α → u.α → (r.α → t.α → u.α → Prop) → Prop) : Ctr := ⟨[.mu t, .mu u], r, fun a Q _ => g a.1 a.2.1 fun c b b' => Q c (b, b', ())⟩
section
variable {K : PySem.W.Frag} {TB : Addr → Prop} {t u r : Ty} {vs : List V} {H : Hp} {Q : VK} {E : XK}
theorem sp1 {g : t.α → (r.α → Prop) → Prop} (h : (pc1 t r g).sp K TB vs H Q E) : ∃ v F a P, vs = [v] ∧ t.at_ K H F v a ∧ g a P ∧ ∀ c v' H' F', P c → r.at_ K H' F' v' c → Chg H F H' F' → Q v' H' := by
  obtain ⟨as, F, Qt, Et, ar, tb, hw, hq, he⟩ := h
  obtain ⟨v, r', F1, F2, rfl, rfl, d, at1, rfl, rfl⟩ := ar
  exact ⟨v, F1, _, _, rfl, at1, hw, fun c v' H' F' p at2 ch => hq c _ v' H' F' fe p at2 ⟨v, [], rfl, rfl, rfl⟩ (dj_fe _) (by rw [fo_fe, fo_fe]; exact ch)⟩
theorem sp2 {g : t.α → u.α → (r.α → Prop) → Prop} (h : (pc2 t u r g).sp K TB vs H Q E) : ∃ v v2 F F2 a b P, vs = [v, v2] ∧ t.at_ K H F v a ∧ u.at_ K H F2 v2 b ∧ Dj F F2 ∧ g a b P ∧ ∀ c v' H' F', P c → r.at_ K H' F' v' c → Chg H (fo F F2) H' F' → Q v' H' := by
  obtain ⟨as, F, Qt, Et, ar, tb, hw, hq, he⟩ := h
  obtain ⟨v, r', F1, F2, rfl, rfl, d, at1, v2, r2, F3, F4, rfl, rfl, d2, at2, rfl, rfl⟩ := ar
  exact ⟨v, v2, F1, F3, _, _, _, rfl, at1, at2, by rw [fo_fe] at d; exact d, hw, fun c v' H' F' p at2 ch => hq c _ v' H' F' fe p at2 ⟨v, [v2], rfl, v2, [], rfl, rfl, rfl⟩ (dj_fe _) (by rw [fo_fe, fo_fe]; exact ch)⟩
theorem spm1 {g : t.α → (r.α → t.α → Prop) → Prop} (h : (pm1 t r g).sp K TB vs H Q E) : ∃ v F a P, vs = [v] ∧ t.at_ K H F v a ∧ g a P ∧ ∀ c b v' H' F1 F2, P c b → r.at_ K H' F1 v' c → t.at_ K H' F2 v b → Dj F1 F2 → Chg H F H' (fo F1 F2) → Q v' H' := by
  obtain ⟨as, F, Qt, Et, ar, tb, hw, hq, he⟩ := h
  obtain ⟨v, r', F1, F2, rfl, rfl, d, at1, rfl, rfl⟩ := ar
  exact ⟨v, F1, _, _, rfl, at1, hw, fun c b v' H' G1 G2 p at2 at3 dd ch => hq c _ v' H' G1 G2 p at2 ⟨v, [], G2, fe, rfl, (fo_fe G2).symm, dj_fe _, at3, rfl, rfl⟩ dd (by rw [fo_fe]; exact ch)⟩
theorem spm2 {g : t.α → u.α → (r.α → t.α → Prop) → Prop} (h : (pm2 t u r g).sp K TB vs H Q E) : ∃ v v2 F F2 a b P, vs = [v, v2] ∧ t.at_ K H F v a ∧ u.at_ K H F2 v2 b ∧ Dj F F2 ∧ g a b P ∧
    ∀ c b v' H' G1 G2, P c b → r.at_ K H' G1 v' c → t.at_ K H' G2 v b → Dj G1 G2 → Chg H (fo F F2) H' (fo G1 G2) → Q v' H' := by
  obtain ⟨as, F, Qt, Et, ar, tb, hw, hq, he⟩ := h
  obtain ⟨v, r', F1, F2, rfl, rfl, d, at1, v2, r2, F3, F4, rfl, rfl, d2, at2, rfl, rfl⟩ := ar
  exact ⟨v, v2, F1, F3, _, _, _, rfl, at1, at2, by rw [fo_fe] at d; exact d, hw, fun c b v' H' G1 G2 p at2 at3 dd ch => hq c _ v' H' G1 G2 p at2 ⟨v, [v2], G2, fe, rfl, (fo_fe G2).symm, dj_fe _, at3, v2, [], rfl, rfl, rfl⟩ dd (by rw [fo_fe]; exact ch)⟩
theorem spmm {g : t.α → u.α → (r.α → t.α → u.α → Prop) → Prop} (h : (pmm t u r g).sp K TB vs H Q E) : ∃ v v2 F F2 a b P, vs = [v, v2] ∧ t.at_ K H F v a ∧ u.at_ K H F2 v2 b ∧ Dj F F2 ∧ g a b P ∧
    ∀ c b b' v' H' G1 G2 G3, P c b b' → r.at_ K H' G1 v' c → t.at_ K H' G2 v b → u.at_ K H' G3 v2 b' → Dj G2 G3 → Dj G1 (fo G2 G3) → Chg H (fo F F2) H' (fo G1 (fo G2 G3)) → Q v' H' := by
  obtain ⟨as, F, Qt, Et, ar, tb, hw, hq, he⟩ := h
  obtain ⟨v, r', F1, F2, rfl, rfl, d, at1, v2, r2, F3, F4, rfl, rfl, d2, at2, rfl, rfl⟩ := ar
  exact ⟨v, v2, F1, F3, _, _, _, rfl, at1, at2, by rw [fo_fe] at d; exact d, hw, fun c b b' v' H' G1 G2 G3 p at2 at3 at4 d23 dd ch =>
    hq c _ v' H' G1 (fo G2 G3) p at2 ⟨v, [v2], G2, G3, rfl, rfl, d23, at3, v2, [], G3, fe, rfl, (fo_fe G3).symm, dj_fe _, at4, rfl, rfl⟩ dd (by rw [fo_fe]; exact ch)⟩
end
theorem chg0 {H : Hp} {F : Fp} : Chg H F H fe := Chg.refl.sub fun b z => z.elim

section
variable {X : Cx} {TB : Addr → Prop} {t u r : Ty}
/-! ### ints -/
@[reducible] def cI (f : Int → Int → Int) : Ctr := pc2 tInt tInt tInt fun a b P => P (f a b)
@[reducible] def cIg (g : Int → Int → Prop) (f : Int → Int → Int) : Ctr := pc2 tInt tInt tInt fun (a b : Int) P => g a b ∧ P (f a b)
@[reducible] def cIb (f : Int → Int → Bool) : Ctr := pc2 tInt tInt tBool fun a b P => P (f a b)
theorem op2_I {f : Value → Value → Sem Value} {g : Int → Int → Int} (h : OpR X f (rI0 fun i j => .int (g i j))) : Op2 X TB f (cI g) := ⟨_, h, fun vs H Q E z => by
  obtain ⟨v, v2, F, F2, a, b, P, rfl, ⟨rfl, rfl⟩, ⟨rfl, rfl⟩, d, p, k⟩ := sp2 z
  exact ⟨_, _, rfl, a, b, rfl, rfl, k _ _ H fe p ⟨rfl, rfl⟩ chg0⟩⟩
theorem op2_Ig {f : Value → Value → Sem Value} {c : Int → Int → Prop} {g : Int → Int → Int} (h : OpR X f (rI c fun i j => .int (g i j))) : Op2 X TB f (cIg c g) := ⟨_, h, fun vs H Q E z => by
  obtain ⟨v, v2, F, F2, a, b, P, rfl, ⟨rfl, rfl⟩, ⟨rfl, rfl⟩, d, ⟨q, p⟩, k⟩ := sp2 z
  exact ⟨_, _, rfl, a, b, rfl, rfl, q, k _ _ H fe p ⟨rfl, rfl⟩ chg0⟩⟩
theorem op2_Ib {f : Value → Value → Sem Value} {g : Int → Int → Bool} (h : OpR X f (rI0 fun i j => .bl (g i j))) : Op2 X TB f (cIb g) := ⟨_, h, fun vs H Q E z => by
  obtain ⟨v, v2, F, F2, a, b, P, rfl, ⟨rfl, rfl⟩, ⟨rfl, rfl⟩, d, p, k⟩ := sp2 z
  exact ⟨_, _, rfl, a, b, rfl, rfl, k _ _ H fe p ⟨rfl, rfl⟩ chg0⟩⟩
theorem o_addI : Op2 X TB (binaryOp .Add) (cI fun i j => i + j) := op2_I op_add
theorem o_subI : Op2 X TB (binaryOp .Sub) (cI fun i j => i - j) := op2_I op_sub
theorem o_mulI : Op2 X TB (binaryOp .Mult) (cIg CMul fun i j => i * j) := op2_Ig op_mul
theorem o_mulW : Op2 X TB (binaryOp .Mult) (cIg CMulW fun i j => i * j) := op2_Ig op_mulW
theorem o_fdivI : Op2 X TB (binaryOp .FloorDiv) (cIg CDivN fun i j => i.fdiv j) := op2_Ig op_fdivN
theorem o_fdivW : Op2 X TB (binaryOp .FloorDiv) (cIg CDivW fun i j => i / j) := op2_Ig op_fdivW
theorem o_modI : Op2 X TB (binaryOp .Mod) (cIg (fun _ j => j ≠ 0) fun i j => i.fmod j) := op2_Ig op_modN
theorem o_powI : Op2 X TB (binaryOp .Pow) (cIg CPow fun i j => i ^ j.toNat) := op2_Ig op_pow
theorem o_shrI : Op2 X TB (binaryOp .RShift) (cIg (fun _ j => 0 ≤ j) fun i j => i / 2 ^ j.toNat) := op2_Ig op_shr
theorem o_shlI : Op2 X TB (binaryOp .LShift) (cIg CPow fun i j => i * 2 ^ j.toNat) := op2_Ig op_shl
theorem o_xorI : Op2 X TB (binaryOp .BitXor) (cI fun i j => Builtin.bitXor i j) := op2_I op_xor
theorem o_ltI : Op2 X TB (compareOp .Lt) (cIb fun i j => decide (i < j)) := op2_Ib op_lt
theorem o_leI : Op2 X TB (compareOp .LtE) (cIb fun i j => decide (i ≤ j)) := op2_Ib op_le
theorem o_gtI : Op2 X TB (compareOp .Gt) (cIb fun i j => decide (j < i)) := op2_Ib op_gt
theorem o_geI : Op2 X TB (compareOp .GtE) (cIb fun i j => decide (j ≤ i)) := op2_Ib op_ge
theorem int_dec (a b : Int) : decide (V.int a = V.int b) = decide (a = b) := by
  by_cases e : a = b
  · subst e; simp
  · rw [decide_eq_false e, decide_eq_false fun z => e (by injection z)]
theorem bl_dec (a b : Bool) : decide (V.bl a = V.bl b) = decide (a = b) := by cases a <;> cases b <;> rfl
theorem o_eqI : Op2 X TB (compareOp .Eq) (cIb fun i j => decide (i = j)) := ⟨_, op_eq, fun vs H Q E z => by
  obtain ⟨v, v2, F, F2, a, b, P, rfl, ⟨rfl, rfl⟩, ⟨rfl, rfl⟩, d, p, k⟩ := sp2 z
  exact ⟨_, _, rfl, rfl, by rw [int_dec]; exact k _ _ H fe p ⟨rfl, rfl⟩ chg0⟩⟩
theorem o_neI : Op2 X TB (compareOp .NotEq) (cIb fun i j => !decide (i = j)) := ⟨_, op_ne, fun vs H Q E z => by
  obtain ⟨v, v2, F, F2, a, b, P, rfl, ⟨rfl, rfl⟩, ⟨rfl, rfl⟩, d, p, k⟩ := sp2 z
  exact ⟨_, _, rfl, rfl, by rw [int_dec]; exact k _ _ H fe p ⟨rfl, rfl⟩ chg0⟩⟩
@[reducible] def cSb (f : List Nat → List Nat → Bool) : Ctr := pc2 tS tS tBool fun a b P => P (f a b)
theorem o_eqS : Op2 X TB (compareOp .Eq) (cSb fun i j => decide (i = j)) := ⟨_, op_eq, fun vs H Q E z => by
  obtain ⟨v, v2, F, F2, a, b, P, rfl, ⟨rfl, rfl⟩, ⟨rfl, rfl⟩, d, p, k⟩ := sp2 z
  exact ⟨_, _, rfl, rfl, by rw [S_dec]; exact k _ _ H fe p ⟨rfl, rfl⟩ chg0⟩⟩
theorem o_neS : Op2 X TB (compareOp .NotEq) (cSb fun i j => !decide (i = j)) := ⟨_, op_ne, fun vs H Q E z => by
  obtain ⟨v, v2, F, F2, a, b, P, rfl, ⟨rfl, rfl⟩, ⟨rfl, rfl⟩, d, p, k⟩ := sp2 z
  exact ⟨_, _, rfl, rfl, by rw [S_dec]; exact k _ _ H fe p ⟨rfl, rfl⟩ chg0⟩⟩
theorem o_eqB : Op2 X TB (compareOp .Eq) (pc2 tBool tBool tBool fun a b P => P (decide (a = b))) := ⟨_, op_eq, fun vs H Q E z => by
  obtain ⟨v, v2, F, F2, a, b, P, rfl, ⟨rfl, rfl⟩, ⟨rfl, rfl⟩, d, p, k⟩ := sp2 z
  exact ⟨_, _, rfl, rfl, by rw [bl_dec]; exact k _ _ H fe p ⟨rfl, rfl⟩ chg0⟩⟩
theorem o_isN : Op2 X TB (compareOp .Is) (pc2 (tOpt t) tNone tBool fun a _ P => P a.isNone) := ⟨_, op_isN, fun vs H Q E z => by
  obtain ⟨v, v2, F, F2, a, b, P, rfl, h1, ⟨rfl, rfl⟩, d, p, k⟩ := sp2 z
  refine ⟨_, _, rfl, rfl, ?_⟩
  cases a with
  | none =>
    obtain ⟨rfl, rfl⟩ := h1
    exact k _ _ H fe p ⟨rfl, rfl⟩ chg0
  | some x =>
    rw [decide_eq_false h1.2]
    exact k _ _ H fe p ⟨rfl, rfl⟩ chg0⟩
theorem o_notN : Op2 X TB (compareOp .IsNot) (pc2 (tOpt t) tNone tBool fun a _ P => P a.isSome) := ⟨_, op_notN, fun vs H Q E z => by
  obtain ⟨v, v2, F, F2, a, b, P, rfl, h1, ⟨rfl, rfl⟩, d, p, k⟩ := sp2 z
  refine ⟨_, _, rfl, rfl, ?_⟩
  cases a with
  | none =>
    obtain ⟨rfl, rfl⟩ := h1
    exact k _ _ H fe p ⟨rfl, rfl⟩ chg0
  | some x =>
    rw [decide_eq_false h1.2]
    exact k _ _ H fe p ⟨rfl, rfl⟩ chg0⟩

/-! ### texts -/
theorem o_addS : Op2 X TB (binaryOp .Add) (pc2 tS tS tS fun a b P => a.length + b.length ≤ sizeLine ∧ P (a ++ b)) := ⟨_, op_add_str, fun vs H Q E z => by
  obtain ⟨v, v2, F, F2, a, b, P, rfl, ⟨rfl, rfl⟩, ⟨rfl, rfl⟩, d, ⟨q, p⟩, k⟩ := sp2 z
  exact ⟨_, _, rfl, _, _, rfl, rfl, by rw [str_len, str_len]; exact q, k _ _ H fe p ⟨rfl, by rw [str_app]; rfl⟩ chg0⟩⟩
theorem rep_foldl (l : List Nat) : ∀ (n : Nat) (acc : Array Nat), (List.replicate n l.toArray).foldl (· ++ ·) acc = acc ++ (List.replicate n l).flatten.toArray
  | 0, acc => by simp
  | n + 1, acc => by
    rw [List.replicate_succ, List.replicate_succ, List.foldl_cons, rep_foldl l n, List.flatten_cons]
    simp
theorem mul_S (l : List Nat) (n : Int) : Txt.mul ⟨l.toArray⟩ n = ⟨(List.replicate n.toNat l).flatten.toArray⟩ := by
  unfold Txt.mul
  by_cases h : n < 1
  · rw [if_pos h, show n.toNat = 0 by omega]
    rfl
  · rw [if_neg h]
    by_cases h2 : (n == 1 || Str.length ⟨l.toArray⟩ == 0) = true
    · rw [if_pos h2]
      rw [Bool.or_eq_true] at h2
      rcases h2 with h2 | h2
      · have e : n = 1 := by simpa using h2
        subst e
        simp
      · rw [str_len] at h2
        have e : l = [] := by simpa using h2
        subst e
        have : ∀ m : Nat, (List.replicate m ([] : List Nat)).flatten = [] := fun m => by induction m with
          | zero => rfl
          | succ m ih => rw [List.replicate_succ, List.flatten_cons, ih]; rfl
        rw [this]
    · rw [if_neg h2]
      show (⟨(List.replicate n.toNat l.toArray).foldl (· ++ ·) #[]⟩ : Str) = _
      rw [rep_foldl]
      simp
def rMulS : R2 := fun x y H Q => ∃ (l : List Nat) (n : Int), x = S l ∧ y = .int n ∧ n < 2 ^ 40 ∧ -(2 ^ 40) < n ∧ l.length * n.toNat ≤ sizeLine ∧ Q (S (List.replicate n.toNat l).flatten) H
theorem op_mulS : OpR X (binaryOp .Mult) rMulS := by
  intro pins s σ H x y v u Q I rx ry h
  obtain ⟨l, n, rfl, rfl, h1, h2, h3, q⟩ := h
  obtain ⟨tk, rfl⟩ := rx
  obtain ⟨tk2, rfl⟩ := ry
  refine PySem.SB.mul ⟨?_, fun hn hc => ?_, fun hn hc => ?_⟩ fun t' k => ⟨S (List.replicate n.toNat l).flatten, H, I.tok _, ⟨t', by rw [mul_S]⟩, q⟩
  · rw [Bool.or_eq_false_iff, decide_eq_false_iff_not, decide_eq_false_iff_not]
    omega
  · rw [str_len]
    have hs : sizeLine = 16777216 := rfl
    have h4 : (l.length : Int) * n ≤ 16777216 := by
      have e : n = (n.toNat : Int) := by omega
      have h5 : ((l.length * n.toNat : Nat) : Int) ≤ ((16777216 : Nat) : Int) := Int.ofNat_le.mpr (by rw [← hs]; exact h3)
      rw [Int.natCast_mul, ← e] at h5
      exact h5
    intro z
    have h6 : (2 ^ 63 - 1 : Int) / n * n ≤ 2 ^ 63 - 1 := Int.ediv_mul_le _ (by omega)
    have h7 : ((2 ^ 63 - 1 : Int) / n + 1) * n ≤ l.length * n := Int.mul_le_mul_of_nonneg_right (by omega) (by omega)
    have h8 : (2 ^ 63 - 1 : Int) < ((2 ^ 63 - 1 : Int) / n + 1) * n := Int.lt_ediv_add_one_mul_self _ (by omega)
    omega
  · rw [str_len]
    unfold Builtin.Str.tooLong
    exact decide_eq_false (by omega)
theorem o_mulS : Op2 X TB (binaryOp .Mult) (pc2 tS tInt tS fun a (b : Int) P => (-(2 ^ 40) < b ∧ b < 2 ^ 40 ∧ a.length * b.toNat ≤ sizeLine) ∧ P (List.replicate b.toNat a).flatten) := ⟨_, op_mulS, fun vs H Q E z => by
  obtain ⟨v, v2, F, F2, a, b, P, rfl, ⟨rfl, rfl⟩, ⟨rfl, rfl⟩, d, ⟨⟨q1, q2, q3⟩, p⟩, k⟩ := sp2 z
  exact ⟨_, _, rfl, _, _, rfl, rfl, q2, q1, q3, k _ _ H fe p ⟨rfl, rfl⟩ chg0⟩⟩
/-- one sign in a text -/
theorem o_inS1 : Op2 X TB (compareOp .In) (pc2 tS tS tBool fun a b P => ∃ c, a = [c] ∧ P (decide (c ∈ b))) := ⟨_, op_in_sign, fun vs H Q E z => by
  obtain ⟨v, v2, F, F2, a, b, P, rfl, ⟨rfl, rfl⟩, ⟨rfl, rfl⟩, d, ⟨c, rfl, p⟩, k⟩ := sp2 z
  exact ⟨_, _, rfl, c, _, rfl, rfl, k _ _ H fe p ⟨rfl, rfl⟩ chg0⟩⟩
theorem o_ninS1 : Op2 X TB (compareOp .NotIn) (pc2 tS tS tBool fun a b P => ∃ c, a = [c] ∧ P (!decide (c ∈ b))) := ⟨_, op_notIn_sign, fun vs H Q E z => by
  obtain ⟨v, v2, F, F2, a, b, P, rfl, ⟨rfl, rfl⟩, ⟨rfl, rfl⟩, d, ⟨c, rfl, p⟩, k⟩ := sp2 z
  exact ⟨_, _, rfl, c, _, rfl, rfl, k _ _ H fe p ⟨rfl, rfl⟩ chg0⟩⟩

theorem b63 {b : Int} (h1 : -(2 ^ 40) < b) (h2 : b < 2 ^ 40) : -(2 ^ 63) ≤ b ∧ b < 2 ^ 63 := ⟨by omega, by omega⟩
/-! ### lists, tuples with + and * -/
theorem o_catL : Op2 X TB (binaryOp .Add) (pmm (tList t) (tList t) (tList t) fun a b P => a.length + b.length ≤ sizeLine ∧ P (a ++ b) a b) := ⟨_, op_cat, fun vs H Q E z => by
  obtain ⟨v, v2, F, F2, a, b, P, rfl, ⟨l, xs, rfl, rfl, h1, al1⟩, ⟨m, ys, rfl, rfl, h2, al2⟩, d, ⟨q, p⟩, k⟩ := spmm z
  refine ⟨_, _, rfl, l, m, xs, ys, rfl, rfl, h1, h2, by rw [al1.length, al2.length]; exact q, fun p' hp => ?_⟩
  have st : Stay H (upd H p' (.lst (xs ++ ys))) := fun b o h _ => ⟨o, by rw [upd_ne (ne_of_none h hp)]; exact h, .inl rfl⟩
  have n1 : l ≠ p' := ne_of_none h1 hp
  have n2 : m ≠ p' := ne_of_none h2 hp
  refine k _ _ _ _ _ (f1 p') (f1 l) (f1 m) p ⟨p', _, rfl, rfl, upd_same, (al1.append al2).keep st⟩ ⟨l, xs, rfl, rfl, by rw [upd_ne n1]; exact h1, al1.keep st⟩ ⟨m, ys, rfl, rfl, by rw [upd_ne n2]; exact h2, al2.keep st⟩ d
    (fun b x y => by
      have x' : b = p' := x
      subst x'
      rcases y with y | y
      · exact n1 (Eq.symm y)
      · exact n2 (Eq.symm y)) (Chg.alloc hp)⟩
theorem o_repL : Op2 X TB (binaryOp .Mult) (pm2 (tList t) tInt (tList t) fun a (b : Int) P => (-(2 ^ 40) < b ∧ b < 2 ^ 40 ∧ a.length * b.toNat ≤ sizeLine) ∧ P (List.replicate b.toNat a).flatten a) := ⟨_, op_rep, fun vs H Q E z => by
  obtain ⟨v, v2, F, F2, a, b, P, rfl, ⟨l, xs, rfl, rfl, h1, al1⟩, ⟨rfl, rfl⟩, d, ⟨⟨q1, q2, q3⟩, p⟩, k⟩ := spm2 z
  refine ⟨_, _, rfl, l, b, xs, rfl, rfl, h1, (b63 q1 q2).1, (b63 q1 q2).2, by rw [al1.length]; exact q3, fun p' hp => ?_⟩
  have st : Stay H (upd H p' (.lst (List.replicate b.toNat xs).flatten)) := fun b o h _ => ⟨o, by rw [upd_ne (ne_of_none h hp)]; exact h, .inl rfl⟩
  have n1 : l ≠ p' := ne_of_none h1 hp
  rw [fo_fe] at k
  exact k _ _ _ _ (f1 p') (f1 l) p ⟨p', _, rfl, rfl, upd_same, (al1.rep _).keep st⟩ ⟨l, xs, rfl, rfl, by rw [upd_ne n1]; exact h1, al1.keep st⟩ (fun b x y => n1 (by rw [← (show b = l from y), ← (show b = p' from x)])) (Chg.alloc hp)⟩
theorem o_catT : Op2 X TB (binaryOp .Add) (pc2 (tTup t) (tTup t) (tTup t) fun a b P => a.length + b.length ≤ sizeLine ∧ P (a ++ b)) := ⟨_, op_catA, fun vs H Q E z => by
  obtain ⟨v, v2, F, F2, a, b, P, rfl, ⟨rfl, l, xs, rfl, h1, al1⟩, ⟨rfl, m, ys, rfl, h2, al2⟩, d, ⟨q, p⟩, k⟩ := sp2 z
  refine ⟨_, _, rfl, l, m, xs, ys, rfl, rfl, h1, h2, by rw [al1.length, al2.length]; exact q, fun e => ?_, fun _ e => ?_, fun _ _ p' hp => ?_⟩
  · subst e
    cases al1
    exact k _ _ H fe p ⟨rfl, m, ys, rfl, h2, al2⟩ chg0
  · subst e
    cases al2
    rw [List.append_nil] at p
    exact k _ _ H fe p ⟨rfl, l, xs, rfl, h1, al1⟩ chg0
  · have st : Stay H (upd H p' (.tup (xs ++ ys))) := fun b o h _ => ⟨o, by rw [upd_ne (ne_of_none h hp)]; exact h, .inl rfl⟩
    exact k _ _ _ fe p ⟨rfl, p', _, rfl, SqT.of upd_same, (al1.append al2).keep st⟩ ((Chg.alloc hp).sub fun b z => z.elim)⟩
end
end TY

set_option Elab.async false
set_option linter.all false
set_option maxRecDepth 100000
set_option maxHeartbeats 4000000
/-! TyF: calls, methods, subscripts, slices, displays. -/
namespace TY
open PySem L2

/-! ### calls of defs -/
/-- the def x of the module keeps the contract C -/
structure Df (P : Program) (w : World) (K : PySem.W.Frag) (mg : Str → Option Value) (base : Heap) (TB : Addr → Prop) (x : Str) (k : Nat) (pn : List Str) (C : Ctr) : Prop where
  ex : ∃ f fd, FnOk P w K mg base (L2.CX P w) k f fd pn (C.sp K TB) ∧ mg x = some (.ref f) ∧ PySem.W.keepIn K (.ref f) = true ∧ Binds K fd pn []
theorem stay_alloc {H : Hp} {p : Addr} {o : HO} (hp : H p = none) : Stay H (upd H p o) := fun b u h _ => ⟨u, by rw [upd_ne (ne_of_none h hp)]; exact h, .inl rfl⟩
section
variable {X : Cx} {TB : Addr → Prop} {Ξ : WX} {Γ Γ1 Γ2 Γ3 : Cy} {e a b o : Expr} {es : List Expr} {pos p apos : Pos} {x : Str} {k : Nat} {pn : List Str} {C : Ctr} {ks : List Ki} {t u r : Ty}
theorem ex_call {ps : List Pm} {cw : HT ps → (r.α → Hou ps → Prop) → (Xn → Prop) → Prop} {wa : WT Γ Γ1 (HA ks)} (D : Df X.prog X.w X.K X.mg X.base TB x k pn ⟨ps, r, cw⟩) (hr : Room k X.A) (tk : Takes X Ξ) (ha : Pa X TB Ξ Γ (e :: es) Γ1 ks wa) (cj : Cj ks ps Γ1) (hg : Gl X x := by rfl)
    (hdb : (x == ("__debug__" : Str)) = false := by decide) (he : starEach (e :: es) X.env = (false, eval e X.env) :: starEach es X.env := by rfl) (hpl : (backTo pos (starEach es X.env)).any (·.1) = false := by rfl) :
    Ex X TB Ξ Γ (.Call (.Name x p) (e :: es) [] pos) Γ1 (.val r) (wApp (C := ⟨ps, r, cw⟩) wa cj) := by
  obtain ⟨f, fd, F, hm, hk, hb⟩ := D.ex
  refine ⟨pe_weak (pe_callSD (E := fun σ => WE Ξ σ) F hr hg hm hk hb .nil (fun σ => passAt tk σ) ha.pa hdb he hpl) fun σ H Q h => ?_⟩
  obtain ⟨s, F', Qt, E, sr, tb, hw, hq, hx⟩ := app_imp (C := ⟨ps, r, cw⟩) h
  exact ⟨s, F', Qt, E, sr, tb, hw, fun a s1 vs H1 F1 F2 q ak sr1 d c => by
    show Ctr.sp ⟨ps, r, cw⟩ X.K TB (vs ++ []) H1 Q fun cls d H2 => Ξ cls d σ H2
    rw [List.append_nil]
    exact hq a s1 vs H1 F1 F2 q ak sr1 d c, hx⟩
/-! ### calls of built-ins -/
def CallO (X : Cx) (TB : Addr → Prop) (f : Value) (C : Ctr) : Prop := ∃ r, CallR X f r ∧ ∀ vs H Q E, C.sp X.K TB vs H Q E → r vs H Q
theorem ex_callB {ps : List Pm} {r : Ty} {cw : HT ps → (r.α → Hou ps → Prop) → (Xn → Prop) → Prop} {id : String} {wa : WT Γ Γ1 (HA ks)} (c : CallO X TB (.builtin id) ⟨ps, r, cw⟩) (hm : X.mg x = none) (hv : bootBuiltins x = some (.builtin id)) (ha : Pa X TB Ξ Γ (e :: es) Γ1 ks wa) (cj : Cj ks ps Γ1) (hg : Gl X x := by rfl)
    (hn : x ≠ "__name__" := by decide) (hdb : (x == ("__debug__" : Str)) = false := by decide) (he : starEach (e :: es) X.env = (false, eval e X.env) :: starEach es X.env := by rfl) (hpl : (backTo pos (starEach es X.env)).any (·.1) = false := by rfl) :
    Ex X TB Ξ Γ (.Call (.Name x p) (e :: es) [] pos) Γ1 (.val r) (wApp (C := ⟨ps, r, cw⟩) wa cj) := by
  obtain ⟨rr, hc, hr⟩ := c
  exact ex_app (C := ⟨ps, r, cw⟩) (pe_callB hc hg hm hv ha.pa hn hdb he hpl) cj hr
theorem ex_callTy {ps : List Pm} {r : Ty} {cw : HT ps → (r.α → Hou ps → Prop) → (Xn → Prop) → Prop} {T : String} {wa : WT Γ Γ1 (HA ks)} (c : CallO X TB (.type T) ⟨ps, r, cw⟩) (hm : X.mg x = none) (hv : bootBuiltins x = some (.type T)) (ha : Pa X TB Ξ Γ (e :: es) Γ1 ks wa) (cj : Cj ks ps Γ1) (hg : Gl X x := by rfl)
    (hn : x ≠ "__name__" := by decide) (hdb : (x == ("__debug__" : Str)) = false := by decide) (he : starEach (e :: es) X.env = (false, eval e X.env) :: starEach es X.env := by rfl) (hpl : (backTo pos (starEach es X.env)).any (·.1) = false := by rfl) :
    Ex X TB Ξ Γ (.Call (.Name x p) (e :: es) [] pos) Γ1 (.val r) (wApp (C := ⟨ps, r, cw⟩) wa cj) := by
  obtain ⟨rr, hc, hr⟩ := c
  exact ex_app (C := ⟨ps, r, cw⟩) (pe_callTy hc hg hm hv ha.pa hn hdb he hpl) cj hr
theorem c_lenL : CallO X TB (.builtin "len") (pm1 (tList t) tInt fun a P => P ((a.length : Nat) : Int) a) := ⟨_, call_len_seq, fun vs H Q E z => by
  obtain ⟨v, F, a, P, rfl, ⟨l, xs, rfl, rfl, h, al⟩, p, k⟩ := spm1 z
  refine ⟨l, xs, rfl, .inl (SqL.of h), ?_⟩
  rw [al.length]
  exact k _ _ _ H fe (f1 l) p ⟨rfl, rfl⟩ ⟨l, xs, rfl, rfl, h, al⟩ (fe_dj _) (by rw [fe_fo]; exact Chg.refl)⟩
theorem c_lenT : CallO X TB (.builtin "len") (pc1 (tTup t) tInt fun a P => P ((a.length : Nat) : Int)) := ⟨_, call_len_seq, fun vs H Q E z => by
  obtain ⟨v, F, a, P, rfl, ⟨rfl, l, xs, rfl, h, al⟩, p, k⟩ := sp1 z
  refine ⟨l, xs, rfl, .inr h, ?_⟩
  rw [al.length]
  exact k _ _ H fe p ⟨rfl, rfl⟩ Chg.refl⟩
theorem c_lenR : CallO X TB (.builtin "len") (pc1 (tRo t) tInt fun a P => P ((a.length : Nat) : Int)) := ⟨_, call_len_seq, fun vs H Q E z => by
  obtain ⟨v, F, a, P, rfl, at1, p, k⟩ := sp1 z
  have e := at1.1
  subst e
  obtain ⟨l, xs, rfl, h, al⟩ := ro_sq at1
  refine ⟨l, xs, rfl, .inl h, ?_⟩
  rw [al.length]
  exact k _ _ H fe p ⟨rfl, rfl⟩ Chg.refl⟩
theorem c_lenS : CallO X TB (.builtin "len") (pc1 tS tInt fun a P => a.length ≤ sizeLine ∧ P ((a.length : Nat) : Int)) := ⟨_, call_len_str, fun vs H Q E z => by
  obtain ⟨v, F, a, P, rfl, ⟨rfl, rfl⟩, ⟨q, p⟩, k⟩ := sp1 z
  exact ⟨_, rfl, by rw [str_len]; exact q, by rw [str_len]; exact k _ _ H fe p ⟨rfl, rfl⟩ Chg.refl⟩⟩
theorem c_abs : CallO X TB (.builtin "abs") (pc1 tInt tInt fun (a : Int) P => P (if a < 0 then -a else a)) := ⟨_, call_abs, fun vs H Q E z => by
  obtain ⟨v, F, a, P, rfl, ⟨rfl, rfl⟩, p, k⟩ := sp1 z
  exact ⟨a, rfl, k _ _ H fe p ⟨rfl, rfl⟩ Chg.refl⟩⟩
theorem c_intI : CallO X TB (.type "int") (pc1 tInt tInt fun a P => P a) := ⟨_, call_int1, fun vs H Q E z => by
  obtain ⟨v, F, a, P, rfl, ⟨rfl, rfl⟩, p, k⟩ := sp1 z
  exact .inl ⟨a, rfl, k _ _ H fe p ⟨rfl, rfl⟩ Chg.refl⟩⟩
theorem c_intB : CallO X TB (.type "int") (pc1 tBool tInt fun (a : Bool) P => P (if a = true then (1 : Int) else 0)) := ⟨_, call_int1, fun vs H Q E z => by
  obtain ⟨v, F, a, P, rfl, ⟨rfl, rfl⟩, p, k⟩ := sp1 z
  exact .inr ⟨a, rfl, k _ _ H fe p ⟨rfl, rfl⟩ Chg.refl⟩⟩
theorem c_max2 (hc : X.calm = true) : CallO X TB (.builtin "max") (pc2 tInt tInt tInt fun (a b : Int) P => P (if b > a then b else a)) := ⟨_, call_max2 hc, fun vs H Q E z => by
  obtain ⟨v, v2, F, F2, a, b, P, rfl, ⟨rfl, rfl⟩, ⟨rfl, rfl⟩, d, p, k⟩ := sp2 z
  exact ⟨a, b, rfl, k _ _ H fe p ⟨rfl, rfl⟩ chg0⟩⟩
theorem c_min2 (hc : X.calm = true) : CallO X TB (.builtin "min") (pc2 tInt tInt tInt fun (a b : Int) P => P (if b < a then b else a)) := ⟨_, call_min2 hc, fun vs H Q E z => by
  obtain ⟨v, v2, F, F2, a, b, P, rfl, ⟨rfl, rfl⟩, ⟨rfl, rfl⟩, d, p, k⟩ := sp2 z
  exact ⟨a, b, rfl, k _ _ H fe p ⟨rfl, rfl⟩ chg0⟩⟩
theorem c_listT : CallO X TB (.type "list") (pc1 (tTup t) (tList t) fun a P => P a) := ⟨_, call_list_of, fun vs H Q E z => by
  obtain ⟨v, F, a, P, rfl, ⟨rfl, l, xs, rfl, h, al⟩, p, k⟩ := sp1 z
  exact ⟨l, xs, rfl, .inr h, fun m hm => k _ _ _ _ p ⟨m, xs, rfl, rfl, upd_same, al.keep (stay_alloc hm)⟩ (by have := Chg.alloc (F := fe) (o := .lst xs) hm; rw [fo_fe] at this; exact this)⟩⟩
theorem c_listR : CallO X TB (.type "list") (pc1 (tRo t) (tList t) fun a P => P a) := ⟨_, call_list_of, fun vs H Q E z => by
  obtain ⟨v, F, a, P, rfl, at1, p, k⟩ := sp1 z
  have e := at1.1
  subst e
  obtain ⟨l, xs, rfl, h, al⟩ := ro_sq at1
  exact ⟨l, xs, rfl, .inl h, fun m hm => k _ _ _ _ p ⟨m, xs, rfl, rfl, upd_same, al.keep (stay_alloc hm)⟩ (by have := Chg.alloc (F := fe) (o := .lst xs) hm; rw [fo_fe] at this; exact this)⟩⟩
theorem c_listL : CallO X TB (.type "list") (pm1 (tList t) (tList t) fun a P => P a a) := ⟨_, call_list_of, fun vs H Q E z => by
  obtain ⟨v, F, a, P, rfl, ⟨l, xs, rfl, rfl, h, al⟩, p, k⟩ := spm1 z
  refine ⟨l, xs, rfl, .inl (SqL.of h), fun m hm => ?_⟩
  have n1 : l ≠ m := ne_of_none h hm
  exact k _ _ _ _ (f1 m) (f1 l) p ⟨m, xs, rfl, rfl, upd_same, al.keep (stay_alloc hm)⟩ ⟨l, xs, rfl, rfl, by rw [upd_ne n1]; exact h, al.keep (stay_alloc hm)⟩ (fun b x y => n1 (by rw [← (show b = l from y), ← (show b = m from x)])) (Chg.alloc hm)⟩
theorem c_tupT : CallO X TB (.type "tuple") (pc1 (tTup t) (tTup t) fun a P => P a) := ⟨_, call_tupleT, fun vs H Q E z => by
  obtain ⟨v, F, a, P, rfl, ⟨rfl, l, xs, rfl, h, al⟩, p, k⟩ := sp1 z
  exact ⟨l, xs, rfl, h, k _ _ H fe p ⟨rfl, l, xs, rfl, h, al⟩ Chg.refl⟩⟩
theorem c_tupL : CallO X TB (.type "tuple") (pm1 (tList t) (tTup t) fun a P => P a a) := ⟨_, call_tuple_of, fun vs H Q E z => by
  obtain ⟨v, F, a, P, rfl, ⟨l, xs, rfl, rfl, h, al⟩, p, k⟩ := spm1 z
  refine ⟨l, xs, rfl, .inl ⟨SqL.of h, fun m hm => ?_⟩⟩
  have n1 : l ≠ m := ne_of_none h hm
  exact k _ _ _ _ fe (f1 l) p ⟨rfl, m, xs, rfl, SqT.of upd_same, al.keep (stay_alloc hm)⟩ ⟨l, xs, rfl, rfl, by rw [upd_ne n1]; exact h, al.keep (stay_alloc hm)⟩ (fe_dj _) (by rw [fe_fo]; exact (Chg.alloc hm).sub fun b z => .inr z)⟩

/-! ### built-in types' methods -/
/-- x.m(..), x a lent slot or a value: the receiver first among the arguments -/
def MethO (X : Cx) (TB : Addr → Prop) (T id : String) (C : Ctr) : Prop := ∃ r : V → List V → Hp → VK → Prop, MtR X id r ∧ ∀ vs H Q E, C.sp X.K TB vs H Q E → ∃ x ws, vs = x :: ws ∧ r x ws H Q
/-- what the receiver's kind shows of its value, at once -/
theorem la_tyV {T : String} {K : PySem.W.Frag} {k0 : Ki} {w0 : WT Γ Γ1 k0.α} {wb : WT Γ1 Γ2 (HA ks)} {σ : L2.St} {H : Hp} {QH : List V → Hp → Prop}
    (ty : ∀ {H F F' v a s}, k0.at_ K H σ F v a → SR K H Γ1 F' σ s → tyV K T v H) (h : LA TB K Ξ Γ Γ2 (k0 :: ks) (wCons w0 wb) σ H QH) :
    LX TB K Ξ Γ Γ1 k0 w0 σ H fun x H1 => tyV K T x H1 ∧ LA TB K Ξ Γ1 Γ2 ks wb σ H1 fun vs H2 => QH (x :: vs) H2 := by
  obtain ⟨s, F, Q, E, sr, tb, hw, hq, he⟩ := la_cons h
  exact ⟨s, F, Q, E, sr, tb, hw, fun a s1 v H1 F1 G1 q1 at1 sr1 d1 c1 => ⟨ty at1 sr1, hq a s1 v H1 F1 G1 q1 at1 sr1 d1 c1⟩, he⟩
theorem ex_meth {ps : List Pm} {r : Ty} {cw : HT ps → (r.α → Hou ps → Prop) → (Xn → Prop) → Prop} {T id : String} {name : Str} {cpos : Pos} {k0 : Ki} {w0 : WT Γ Γ1 k0.α} {wa : WT Γ1 Γ2 (HA ks)} (m : MethO X TB T id ⟨ps, r, cw⟩) (pa : PlainAttrs T) (slot : Slot T name id) (hty : typeOf (.builtin id) = pure (.type "method_descriptor"))
    (ho : Ex X TB Ξ Γ o Γ1 k0 w0) (ha : Pa X TB Ξ Γ1 (e :: es) Γ2 ks wa) (cj : Cj (k0 :: ks) ps Γ2) (ty : ∀ {σ H F F' v a s}, k0.at_ X.K H σ F v a → SR X.K H Γ1 F' σ s → tyV X.K T v H)
    (hbase : attributeBase o name X.env (eval o X.env) = eval o X.env := by rfl)
    (hfew : ((backTo cpos (starEach (e :: es) X.env)).all (fun x => !x.1) && (backToKw cpos (keywordEach [] X.env)).all (fun x => x.1.isSome)
      && decide ((e :: es).length + ([] : List Keyword).length + (if ([] : List Keyword).isEmpty then 0 else 1) < 30)) = true := by rfl)
    (hline : (apos.endLine == cpos.line) = true := by rfl) (hs : starEach (e :: es) X.env = (false, eval e X.env) :: starEach es X.env := by rfl) (hplain : (backTo cpos (starEach es X.env)).any (·.1) = false := by rfl) :
    Ex X TB Ξ Γ (.Call (.Attribute o name apos) (e :: es) [] cpos) Γ2 (.val r) (wApp (C := ⟨ps, r, cw⟩) (wCons w0 wa) cj) := by
  obtain ⟨rr, hm, hr⟩ := m
  refine ⟨pe_weak (pe_bm pa slot hty hm ho.pe ha.pa hbase hfew hline hs hplain) fun σ H Q h => ?_⟩
  obtain ⟨s, F, Qt, E, sr, tb, hw, hq, hx⟩ := la_tyV (T := T) (ty := fun a b => ty a b) (app_imp (C := ⟨ps, r, cw⟩) h)
  refine ⟨s, F, Qt, E, sr, tb, hw, fun a s1 v H1 F1 F2 q at1 sr1 d1 c1 => ?_, hx⟩
  obtain ⟨hy, s2, F', Qt2, E2, sr2, tb2, hw2, hq2, hx2⟩ := hq a s1 v H1 F1 F2 q at1 sr1 d1 c1
  refine ⟨hy, s2, F', Qt2, E2, sr2, tb2, hw2, fun a2 s3 vs H3 F3 F4 q3 at3 sr3 d3 c3 => ?_, hx2⟩
  obtain ⟨x, ws, e1, z⟩ := hr _ _ _ _ (hq2 a2 s3 vs H3 F3 F4 q3 at3 sr3 d3 c3)
  cases e1
  exact z
theorem ex_meth0 {ps : List Pm} {r : Ty} {cw : HT ps → (r.α → Hou ps → Prop) → (Xn → Prop) → Prop} {T id : String} {name : Str} {cpos : Pos} {k0 : Ki} {w0 : WT Γ Γ1 k0.α} (m : MethO X TB T id ⟨ps, r, cw⟩) (pa : PlainAttrs T) (slot : Slot T name id) (hty : typeOf (.builtin id) = pure (.type "method_descriptor"))
    (ho : Ex X TB Ξ Γ o Γ1 k0 w0) (cj : Cj [k0] ps Γ1) (ty : ∀ {σ H F F' v a s}, k0.at_ X.K H σ F v a → SR X.K H Γ1 F' σ s → tyV X.K T v H)
    (hbase : attributeBase o name X.env (eval o X.env) = eval o X.env := by rfl) (hline : (apos.endLine == cpos.line) = true := by rfl) :
    Ex X TB Ξ Γ (.Call (.Attribute o name apos) [] [] cpos) Γ1 (.val r) (wApp (C := ⟨ps, r, cw⟩) (wCons w0 wNil) cj) := by
  obtain ⟨rr, hm, hr⟩ := m
  refine ⟨pe_weak (pe_bm0 pa slot hty hm ho.pe hbase hline) fun σ H Q h => ?_⟩
  obtain ⟨s, F, Qt, E, sr, tb, hw, hq, hx⟩ := la_tyV (T := T) (ty := fun a b => ty a b) (app_imp (C := ⟨ps, r, cw⟩) h)
  refine ⟨s, F, Qt, E, sr, tb, hw, fun a s1 v H1 F1 F2 q at1 sr1 d1 c1 => ?_, hx⟩
  obtain ⟨hy, h2⟩ := hq a s1 v H1 F1 F2 q at1 sr1 d1 c1
  obtain ⟨x, ws, e1, z⟩ := hr _ _ _ _ (la_nil h2)
  cases e1
  exact ⟨hy, z⟩
theorem ty_lst {K : PySem.W.Frag} {σ : L2.St} {H : Hp} {F F' : Fp} {v : V} {a : Unit} {Γ : Cy} {s : HL Γ} {i : Nat} (e : Cy.at_ Γ i = some (tList t)) (h : (Ki.bor i).at_ K H σ F v a) (sr : SR K H Γ F' σ s) : tyV K "list" v H := by
  obtain ⟨_, hv⟩ := h
  obtain ⟨v', F1, h1, ⟨l, vs, rfl, _, h2, _⟩, _⟩ := sr.get_ e
  rw [hv] at h1
  cases h1
  exact .inl ⟨rfl, vs, SqL.of h2⟩
theorem ty_lstAt {K : PySem.W.Frag} {σ : L2.St} {H : Hp} {F F' : Fp} {v v0 : V} {a : Unit} {Γ : Cy} {s : HL Γ} {i : Nat} (e : Cy.at_ Γ i = some (tAt v0 (tList t))) (h : (Ki.bor i).at_ K H σ F v a) (sr : SR K H Γ F' σ s) : tyV K "list" v H := by
  obtain ⟨_, hv⟩ := h
  obtain ⟨v', F1, h1, ⟨_, l, vs, rfl, _, h2, _⟩, _⟩ := sr.get_ e
  rw [hv] at h1
  cases h1
  exact .inl ⟨rfl, vs, SqL.of h2⟩
theorem ty_str {K : PySem.W.Frag} {σ : L2.St} {H : Hp} {F F' : Fp} {v : V} {a : List Nat} {Γ : Cy} {s : HL Γ} (h : (Ki.val tS).at_ K H σ F v a) (sr : SR K H Γ F' σ s) : tyV K "str" v H := by
  have e : v = S a := h.2
  rw [e]
  exact rfl
theorem chg_w {H : Hp} {p : Addr} {o : HO} : Chg H (f1 p) (upd H p o) (f1 p) := Chg.write rfl
theorem stay_w {H : Hp} {p : Addr} {o u : HO} (h : H p = some u) (m : Mut (some u)) : Stay H (upd H p o) := fun b w hb n => ⟨w, by rw [upd_ne (fun z => by rw [z, h] at hb; cases hb; exact n m)]; exact hb, .inl rfl⟩
theorem m_append [i : Imm t] : MethO X TB "list" "list.append" (pm2 (tList t) t tNone fun a b P => a.length < sizeLine ∧ P () (a ++ [b])) := ⟨_, mt_append, fun vs H Q E z => by
  obtain ⟨v, v2, F, F2, a, b, P, rfl, ⟨l, xs, rfl, rfl, h1, al1⟩, h2, d, ⟨q, p⟩, k⟩ := spm2 z
  have st : Stay H (upd H l (.lst (xs ++ [v2]))) := stay_w h1 trivial
  have e := i.imm h2
  subst e
  rw [fo_fe] at k
  refine ⟨_, _, rfl, l, xs, v2, rfl, rfl, h1, by rw [al1.length]; exact q, ?_⟩
  exact k _ _ _ _ fe (f1 l) p ⟨rfl, rfl⟩ ⟨l, _, rfl, rfl, upd_same, (al1.append (.cons h2 .nil)).keep st⟩ (fe_dj _) (by rw [fe_fo]; exact chg_w)⟩
theorem m_pop [i : Imm t] : MethO X TB "list" "list.pop" (pm1 (tList t) t fun a P => ∃ y, a[a.length - 1]? = some y ∧ P y a.dropLast) := ⟨_, mt_pop, fun vs H Q E z => by
  obtain ⟨v, F, a, P, rfl, ⟨l, xs, rfl, rfl, h1, al1⟩, ⟨y, q, p⟩, k⟩ := spm1 z
  have st : Stay H (upd H l (.lst xs.dropLast)) := stay_w h1 trivial
  obtain ⟨w, e1, e2⟩ := al1.get q
  refine ⟨_, _, rfl, l, xs, w, rfl, rfl, h1, by rw [al1.length]; exact e1, ?_⟩
  exact k _ _ _ _ fe (f1 l) p (t.keep e2 st fun _ _ z _ => z.elim) ⟨l, _, rfl, rfl, upd_same, al1.dropLast.keep st⟩ (fe_dj _) (by rw [fe_fo]; exact chg_w)⟩
theorem m_popAt [i : Imm t] : MethO X TB "list" "list.pop" (pm2 (tList t) tInt t fun a (b : Int) P => ∃ k y, (-(2 ^ 63) ≤ b ∧ b < 2 ^ 63) ∧ seqIndex? b a.length = some k ∧ a[k]? = some y ∧ P y (a.eraseIdx k)) := ⟨_, mt_popAt, fun vs H Q E z => by
  obtain ⟨v, v2, F, F2, a, b, P, rfl, ⟨l, xs, rfl, rfl, h1, al1⟩, ⟨rfl, rfl⟩, d, ⟨j, y, ⟨b1, b2⟩, q1, q, p⟩, k⟩ := spm2 z
  have st : Stay H (upd H l (.lst (xs.eraseIdx j))) := stay_w h1 trivial
  obtain ⟨w, e1, e2⟩ := al1.get q
  rw [fo_fe] at k
  refine ⟨_, _, rfl, l, xs, b, j, w, rfl, rfl, h1, b1, b2, by rw [al1.length]; exact q1, e1, ?_⟩
  exact k _ _ _ _ fe (f1 l) p (t.keep e2 st fun _ _ z _ => z.elim) ⟨l, _, rfl, rfl, upd_same, (al1.erase j).keep st⟩ (fe_dj _) (by rw [fe_fo]; exact chg_w)⟩
theorem m_reverse : MethO X TB "list" "list.reverse" (pm1 (tList t) tNone fun a P => P () a.reverse) := ⟨_, mt_reverse, fun vs H Q E z => by
  obtain ⟨v, F, a, P, rfl, ⟨l, xs, rfl, rfl, h1, al1⟩, p, k⟩ := spm1 z
  have st : Stay H (upd H l (.lst xs.reverse)) := stay_w h1 trivial
  exact ⟨_, _, rfl, l, xs, rfl, rfl, h1, k _ _ _ _ fe (f1 l) p ⟨rfl, rfl⟩ ⟨l, _, rfl, rfl, upd_same, al1.reverse.keep st⟩ (fe_dj _) (by rw [fe_fo]; exact chg_w)⟩⟩
theorem m_extend : MethO X TB "list" "list.extend" (pmm (tList t) (tList t) tNone fun a b P => a.length + b.length ≤ sizeLine ∧ P () (a ++ b) b) := ⟨_, mt_extend, fun vs H Q E z => by
  obtain ⟨v, v2, F, F2, a, b, P, rfl, ⟨l, xs, rfl, rfl, h1, al1⟩, ⟨m, ys, rfl, rfl, h2, al2⟩, d, ⟨q, p⟩, k⟩ := spmm z
  have st : Stay H (upd H l (.lst (xs ++ ys))) := stay_w h1 trivial
  have n : m ≠ l := fun z => d l rfl (by rw [z]; rfl)
  refine ⟨_, _, rfl, l, m, xs, ys, rfl, rfl, h1, h2, by rw [al1.length, al2.length]; exact q, ?_⟩
  exact k _ _ _ _ _ fe (f1 l) (f1 m) p ⟨rfl, rfl⟩ ⟨l, _, rfl, rfl, upd_same, (al1.append al2).keep st⟩ ⟨m, ys, rfl, rfl, by rw [upd_ne n]; exact h2, al2.keep st⟩ d (fe_dj _) (by rw [fe_fo]; exact Chg.write (.inl rfl))⟩
/-! texts' methods -/
def jn (sep : List Nat) : List (List Nat) → List Nat
  | [] => []
  | x :: r => x ++ (r.map fun y => sep ++ y).flatten
theorem jn_nil : ∀ xs : List (List Nat), jn [] xs = xs.flatten
  | [] => rfl
  | x :: r => by
    show x ++ (r.map fun y => [] ++ y).flatten = x ++ r.flatten
    simp
theorem glued_codes (sep : List Nat) (xs : List (List Nat)) : Txt.join ⟨sep.toArray⟩ (xs.map fun l => (⟨l.toArray⟩ : Str)) = ⟨(jn sep xs).toArray⟩ := by
  have go : ∀ (r : List (List Nat)) (acc : List Nat), (r.map fun l => (⟨l.toArray⟩ : Str)).foldl (fun acc p => acc ++ (⟨sep.toArray⟩ : Str).cps ++ p.cps) acc.toArray = (acc ++ (r.map fun y => sep ++ y).flatten).toArray := by
    intro r
    induction r with
    | nil => intro acc; simp
    | cons y r ih =>
      intro acc
      rw [List.map_cons, List.foldl_cons]
      have e : acc.toArray ++ (⟨sep.toArray⟩ : Str).cps ++ (⟨y.toArray⟩ : Str).cps = (acc ++ (sep ++ y)).toArray := by simp
      rw [e, ih, List.map_cons, List.flatten_cons, List.append_assoc]
  cases xs with
  | nil => rfl
  | cons x r =>
    show (⟨(((x :: r).map fun l => (⟨l.toArray⟩ : Str)).drop 1).foldl (fun acc p => acc ++ (⟨sep.toArray⟩ : Str).cps ++ p.cps) x.toArray⟩ : Str) = _
    rw [List.map_cons, List.drop_one, List.tail_cons, go]
    rfl
def lens (xs : List (List Nat)) : Nat := (xs.map List.length).sum
theorem m_joinL : MethO X TB "str" "str.join" (⟨[.im tS, .mu (tList tS)], tS, fun a Q _ => lens a.2.1 + a.2.1.length * a.1.length ≤ 16777216 ∧ Q (jn a.1 a.2.1) ((), a.2.1, ())⟩) := ⟨_, mt_join, fun vs H Q E z => by
  obtain ⟨as, F, Qt, Et, ar, tb, ⟨hl, hw⟩, hq, he⟩ := z
  obtain ⟨v, r', F1, F2, rfl, rfl, d, ⟨rfl, rfl⟩, v2, r2, F3, F4, rfl, rfl, d2, ⟨l, xs, rfl, rfl, h1, al⟩, rfl, rfl⟩ := ar
  have ex := al_flat al
  have e2 : xs = List.map V.str (as.2.1.map fun l => (⟨l.toArray⟩ : Str)) := by rw [ex, List.map_map]; rfl
  refine ⟨_, _, rfl, _, l, _, rfl, rfl, .inl (SqL.of (by rw [← e2]; exact h1)), ?_, ?_⟩
  · rw [List.map_map, List.length_map, str_len]
    have e3 : ((fun x : Str => x.length) ∘ fun l : List Nat => (⟨l.toArray⟩ : Str)) = List.length := by funext l; exact str_len l
    rw [e3]
    exact hl
  · rw [glued_codes]
    exact hq _ _ _ H fe (f1 l) hw ⟨rfl, rfl⟩ ⟨_, _, rfl, .ref l, [], f1 l, fe, rfl, (fo_fe _).symm, dj_fe _, ⟨l, xs, rfl, rfl, h1, al⟩, rfl, rfl⟩ (fe_dj _) (Chg.refl.sub fun b z => z.elim (fun z => z.elim) fun z => .inr (.inl z))⟩
theorem m_joinT : MethO X TB "str" "str.join" (⟨[.im tS, .im (tTup tS)], tS, fun a Q _ => lens a.2.1 + a.2.1.length * a.1.length ≤ 16777216 ∧ Q (jn a.1 a.2.1) ((), (), ())⟩) := ⟨_, mt_join, fun vs H Q E z => by
  obtain ⟨as, F, Qt, Et, ar, tb, ⟨hl, hw⟩, hq, he⟩ := z
  obtain ⟨v, r', F1, F2, rfl, rfl, d, ⟨rfl, rfl⟩, v2, r2, F3, F4, rfl, rfl, d2, ⟨rfl, l, xs, rfl, h1, al⟩, rfl, rfl⟩ := ar
  have ex := al_flat al
  have e2 : xs = List.map V.str (as.2.1.map fun l => (⟨l.toArray⟩ : Str)) := by rw [ex, List.map_map]; rfl
  refine ⟨_, _, rfl, _, l, _, rfl, rfl, .inr (by rw [← e2]; exact h1), ?_, ?_⟩
  · rw [List.map_map, List.length_map, str_len]
    have e3 : ((fun x : Str => x.length) ∘ fun l : List Nat => (⟨l.toArray⟩ : Str)) = List.length := by funext l; exact str_len l
    rw [e3]
    exact hl
  · rw [glued_codes]
    exact hq _ _ _ H fe fe hw ⟨rfl, rfl⟩ ⟨_, _, rfl, _, _, rfl, rfl, rfl⟩ (fe_dj _) (Chg.refl.sub fun b z => z.elim (fun z => z.elim) fun z => z.elim)⟩
/-! ### subscripts -/
def IxO (X : Cx) (TB : Addr → Prop) (C : Ctr) : Prop := ∃ r : R2, IxR X r ∧ ∀ vs H Q E, C.sp X.K TB vs H Q E → ∃ x y, vs = [x, y] ∧ r x y H Q
theorem ex_ix {ps : List Pm} {r : Ty} {cw : HT ps → (r.α → Hou ps → Prop) → (Xn → Prop) → Prop} {k1 k2 : Ki} {wa : WT Γ Γ1 k1.α} {wb : WT Γ1 Γ2 k2.α} (c : IxO X TB ⟨ps, r, cw⟩) (ha : Ex X TB Ξ Γ a Γ1 k1 wa) (hb : Ex X TB Ξ Γ1 b Γ2 k2 wb) (cj : Cj [k1, k2] ps Γ2) (hs : PlainIx b := by exact fun _ _ => rfl) :
    Ex X TB Ξ Γ (.Subscript a b pos) Γ2 (.val r) (wApp (C := ⟨ps, r, cw⟩) (wCons wa (wCons wb wNil)) cj) := by
  obtain ⟨rr, ho, hr⟩ := c
  refine ex_app (C := ⟨ps, r, cw⟩) (r := fun vs H Q => ∃ x y, vs = [x, y] ∧ rr x y H Q) (pe_weak (pe_ix ho ha.pe hb.pe hs) fun σ H Q h => ?_) cj hr
  obtain ⟨s, F, Qt, E, sr, tb, hw, hq, he⟩ := la_two h
  refine ⟨s, F, Qt, E, sr, tb, hw, fun x s1 v H1 F1 F2 q at1 sr1 d1 c1 => ?_, he⟩
  obtain ⟨s2, F', Qt', E', sr', tb', hw', hq', he'⟩ := hq x s1 v H1 F1 F2 q at1 sr1 d1 c1
  refine ⟨s2, F', Qt', E', sr', tb', hw', fun y s3 v3 H3 F3 F4 q3 at3 sr3 d3 c3 => ?_, he'⟩
  obtain ⟨x, y, e, z⟩ := hq' y s3 v3 H3 F3 F4 q3 at3 sr3 d3 c3
  cases e
  exact z
theorem Al.atI {K : PySem.W.Frag} {H : Hp} {vs : List V} {xs : List t.α} {i : Int} {x : t.α} (al : Al t K H vs xs) (h : L2.atI xs i = some x) : ∃ v, L2.atI vs i = some v ∧ t.at_ K H fe v x := by
  unfold L2.atI at h ⊢
  rw [al.length]
  cases e : ixN xs.length i with
  | none => rw [e] at h; cases h
  | some j =>
    rw [e] at h
    exact al.get h
theorem x_lst [i : Imm t] : IxO X TB (pm2 (tList t) tInt t fun a b P => ∃ y, atI a b = some y ∧ P y a) := ⟨_, ix_list, fun vs H Q E z => by
  obtain ⟨v, v2, F, F2, a, b, P, rfl, ⟨l, xs, rfl, rfl, h1, al1⟩, ⟨rfl, rfl⟩, d, ⟨y, q, p⟩, k⟩ := spm2 z
  obtain ⟨w, e1, e2⟩ := al1.atI q
  rw [fo_fe] at k
  exact ⟨_, _, rfl, l, xs, b, w, rfl, rfl, SqL.of h1, e1, k _ _ _ H fe (f1 l) p e2 ⟨l, xs, rfl, rfl, h1, al1⟩ (fe_dj _) (by rw [fe_fo]; exact Chg.refl)⟩⟩
theorem x_tup [i : Imm t] : IxO X TB (pc2 (tTup t) tInt t fun a b P => ∃ y, atI a b = some y ∧ P y) := ⟨_, ix_tup, fun vs H Q E z => by
  obtain ⟨v, v2, F, F2, a, b, P, rfl, ⟨rfl, l, xs, rfl, h1, al1⟩, ⟨rfl, rfl⟩, d, ⟨y, q, p⟩, k⟩ := sp2 z
  obtain ⟨w, e1, e2⟩ := al1.atI q
  exact ⟨_, _, rfl, l, xs, b, w, rfl, rfl, h1, e1, k _ _ H fe p e2 chg0⟩⟩
theorem x_ro [i : Imm t] : IxO X TB (pc2 (tRo t) tInt t fun a b P => ∃ y, atI a b = some y ∧ P y) := ⟨_, ix_list, fun vs H Q E z => by
  obtain ⟨v, v2, F, F2, a, b, P, rfl, at1, ⟨rfl, rfl⟩, d, ⟨y, q, p⟩, k⟩ := sp2 z
  obtain ⟨l, xs, rfl, h1, al1⟩ := ro_sq at1
  obtain ⟨w, e1, e2⟩ := al1.atI q
  exact ⟨_, _, rfl, l, xs, b, w, rfl, rfl, h1, e1, k _ _ H fe p e2 chg0⟩⟩
theorem x_str : IxO X TB (pc2 tS tInt tS fun a b P => a.length ≤ sizeLine ∧ ∃ c, atI a b = some c ∧ P [c]) := ⟨_, ix_str, fun vs H Q E z => by
  obtain ⟨v, v2, F, F2, a, b, P, rfl, ⟨rfl, rfl⟩, ⟨rfl, rfl⟩, d, ⟨q1, y, q, p⟩, k⟩ := sp2 z
  exact ⟨_, _, rfl, _, b, y, rfl, rfl, by rw [str_len]; exact q1, q, k _ _ H fe p ⟨rfl, rfl⟩ chg0⟩⟩
/-! an item of a tuple of items of their own types, at a written place -/
@[reducible] def tyOf : List Ty → Nat → Ty
  | [], _ => tNone
  | t :: _, 0 => t
  | _ :: ts, i + 1 => tyOf ts i
@[reducible] def prj : (ts : List Ty) → (i : Nat) → HT2 ts → (tyOf ts i).α
  | [], _, _ => ()
  | _ :: _, 0, a => a.1
  | _ :: ts, i + 1, a => prj ts i a.2
theorem AT.prj_ {K : PySem.W.Frag} {H : Hp} : ∀ {ts : List Ty} {i : Nat} {F : Fp} {vs : List V} {a : HT2 ts}, i < ts.length → AT K H ts F vs a → ∃ v F1, vs[i]? = some v ∧ (tyOf ts i).at_ K H F1 v (prj ts i a) ∧ ∀ b, F1 b → F b
  | [], _, _, _, _, hi, _ => by simp at hi
  | t :: ts, 0, _, _, _, _, ⟨v, r, F1, F2, e1, e2, d, h1, h2⟩ => ⟨v, F1, by rw [e1]; rfl, h1, fun b z => by rw [e2]; exact .inl z⟩
  | t :: ts, i + 1, _, _, _, hi, ⟨v, r, F1, F2, e1, e2, d, h1, h2⟩ => by
    obtain ⟨w, G, a1, a2, a3⟩ := AT.prj_ (ts := ts) (i := i) (by simpa using hi) h2
    exact ⟨w, G, by rw [e1]; exact a1, a2, fun b z => by rw [e2]; exact .inr (a3 b z)⟩
theorem x_tpl {ts : List Ty} (i : Nat) (hi : i < ts.length) : IxO X TB (pc2 (tTpl ts) tInt (tyOf ts i) fun a (b : Int) P => b = (i : Int) ∧ P (prj ts i a)) := ⟨_, ix_tup, fun vs H Q E z => by
  obtain ⟨v, v2, F, F2, a, b, P, rfl, ⟨l, xs, rfl, h1, at1⟩, ⟨rfl, rfl⟩, d, ⟨rfl, p⟩, k⟩ := sp2 z
  obtain ⟨w, G, e1, e2, e3⟩ := at1.prj_ hi
  exact ⟨_, _, rfl, l, xs, _, w, rfl, rfl, h1, atI_nat e1, k _ _ H G p e2 (Chg.refl.sub fun b z => .inl (e3 b z))⟩⟩

/-! ### displays -/
@[reducible] def kv : List Ty → List Ki
  | [] => []
  | t :: ts => .val t :: kv ts
@[reducible] def hv : (ts : List Ty) → HA (kv ts) → HT2 ts
  | [], _ => ()
  | _ :: ts, a => (a.1, hv ts a.2)
theorem ak_at {K : PySem.W.Frag} {H : Hp} {σ : L2.St} : ∀ {ts : List Ty} {F : Fp} {vs : List V} {a : HA (kv ts)}, AK K H σ (kv ts) F vs a → AT K H ts F vs (hv ts a)
  | [], _, _, _, h => h
  | t :: ts, _, _, _, ⟨v, r, F1, F2, e1, e2, d, h1, h2⟩ => ⟨v, r, F1, F2, e1, e2, d, h1, ak_at (ts := ts) h2⟩
@[reducible] def wMap {α β : Type} (f : α → β) (w : WT Γ Γ1 α) : WT Γ Γ1 β := fun s Q E => w s (fun a s1 => Q (f a) s1) E
theorem ex_tup (ts : List Ty) {x1} {w : WT Γ Γ1 (HA (kv ts))} (h : Pa X TB Ξ Γ es Γ1 (kv ts) w) (hl : ts.length ≤ 1000 := by decide) : Ex X TB Ξ Γ (.Tuple es x1 pos) Γ1 (.val (tTpl ts)) (wMap (hv ts) w) := ⟨pe_weak (L2.pe_tup h.pa) fun σ H Q h => by
  obtain ⟨s, F, Qt, E, sr, tb, hw, hq, he⟩ := h
  refine ⟨s, F, _, E, sr, tb, hw, fun a s1 vs H1 F1 F2 q ak sr1 d c => ?_, he⟩
  have at1 := ak_at ak
  refine ⟨by rw [at1.length]; exact Nat.le_trans hl (by decide), fun p' hp => ?_⟩
  have st := stay_alloc (o := .tup vs) hp
  have kp : ∀ (G : Fp), (∀ b, G b → Mut (H1 b)) → ∀ b o, G b → H1 b = some o → upd H1 p' (.tup vs) b = some o := fun G _ b o _ h => by rw [upd_ne (ne_of_none h hp)]; exact h
  refine hq _ s1 _ _ F1 F2 q ⟨p', vs, rfl, SqT.of upd_same, at1.keep st (kp _ at1.own)⟩ (sr1.keep st (kp _ sr1.own)) d (c.trans ((Chg.alloc hp).sub fun b z => .inr z))⟩
@[reducible] def kr (t : Ty) : Nat → List Ki
  | 0 => []
  | n + 1 => .val t :: kr t n
@[reducible] def hl_ (t : Ty) : (n : Nat) → HA (kr t n) → List t.α
  | 0, _ => []
  | n + 1, a => a.1 :: hl_ t n a.2
theorem ak_al {K : PySem.W.Frag} {H : Hp} {σ : L2.St} [i : Imm t] : ∀ {n : Nat} {F : Fp} {vs : List V} {a : HA (kr t n)}, AK K H σ (kr t n) F vs a → Al t K H vs (hl_ t n a) ∧ vs.length = n ∧ F = fe
  | 0, _, _, _, h => by rw [h.2]; exact ⟨.nil, rfl, h.1⟩
  | n + 1, _, _, _, ⟨v, r, F1, F2, e1, e2, d, h1, h2⟩ => by
    obtain ⟨a1, a2, a3⟩ := ak_al (n := n) h2
    have z := i.imm h1
    subst z
    rw [e1]
    exact ⟨.cons h1 a1, by rw [List.length_cons, a2], by rw [e2, a3, fe_fo]⟩
theorem ex_list (t : Ty) [i : Imm t] (n : Nat) {w : WT Γ Γ1 (HA (kr t n))} (h : Pa X TB Ξ Γ es Γ1 (kr t n) w) (hn : n ≤ 1000 := by decide) : Ex X TB Ξ Γ (.List es pos) Γ1 (.val (tList t)) (wMap (hl_ t n) w) := ⟨pe_weak (L2.pe_lst h.pa) fun σ H Q h => by
  obtain ⟨s, F, Qt, E, sr, tb, hw, hq, he⟩ := h
  refine ⟨s, F, _, E, sr, tb, hw, fun a s1 vs H1 F1 F2 q ak sr1 d c => ?_, he⟩
  obtain ⟨al, ln, rfl⟩ := ak_al ak
  refine ⟨by rw [ln]; exact Nat.le_trans hn (by decide), fun p' hp => ?_⟩
  have st := stay_alloc (o := .lst vs) hp
  rw [fe_fo] at c
  refine hq _ s1 _ _ (f1 p') F2 q ⟨p', vs, rfl, rfl, upd_same, al.keep st⟩ (sr1.keep st fun b o _ h => by rw [upd_ne (ne_of_none h hp)]; exact h) (fun b x y => ?_) (c.trans (Chg.alloc hp))
  have e : b = p' := x
  have m := sr1.own b y
  rw [e, hp] at m
  exact m⟩
/-- a written tuple of like values -/
theorem ex_tupU (t : Ty) [i : Imm t] (n : Nat) {x1} {w : WT Γ Γ1 (HA (kr t n))} (h : Pa X TB Ξ Γ es Γ1 (kr t n) w) (hn : n ≤ 1000 := by decide) : Ex X TB Ξ Γ (.Tuple es x1 pos) Γ1 (.val (tTup t)) (wMap (hl_ t n) w) := ⟨pe_weak (L2.pe_tup h.pa) fun σ H Q h => by
  obtain ⟨s, F, Qt, E, sr, tb, hw, hq, he⟩ := h
  refine ⟨s, F, _, E, sr, tb, hw, fun a s1 vs H1 F1 F2 q ak sr1 d c => ?_, he⟩
  obtain ⟨al, ln, rfl⟩ := ak_al ak
  refine ⟨by rw [ln]; exact Nat.le_trans hn (by decide), fun p' hp => ?_⟩
  have st := stay_alloc (o := .tup vs) hp
  rw [fe_fo] at c
  exact hq _ s1 _ _ fe F2 q ⟨rfl, p', vs, rfl, SqT.of upd_same, al.keep st⟩ (sr1.keep st fun b o _ h => by rw [upd_ne (ne_of_none h hp)]; exact h) (fe_dj _) (by rw [fe_fo]; exact c.trans ((Chg.alloc hp).sub fun b z => .inr z))⟩
end
end TY

set_option Elab.async false
set_option linter.all false
set_option maxRecDepth 100000
set_option maxHeartbeats 4000000
/-! TyG: slices, what is walked, comprehensions, targets, stores, op=. -/
namespace TY
open PySem L2

section
variable {X : Cx} {TB : Addr → Prop} {Ξ : WX} {C : Ctr} {vs : List V} {Γ Γ1 Γ2 Γ3 Γ4 Γb Γc : Cy} {tg e a b o : Expr} {es : List Expr} {pos p p2 apos : Pos} {x : Str} {ks : List Ki} {t u r te : Ty} {K : PySem.W.Frag}

/-! ### slices -/
def ofO : V → Option Int
  | .int i => some i
  | _ => none
structure Ox (X : Cx) (TB : Addr → Prop) (Ξ : WX) (Γ : Cy) (e : Option Expr) (Γ' : Cy) (w : WT Γ Γ' (Option Int)) : Prop where
  po : PO X e fun σ H QH => LX TB X.K Ξ Γ Γ' (.val (tOpt tInt)) w σ H fun v H' => QH (ofO v) H'
theorem po_weak {e : Option Expr} {t t' : TO} (h : PO X e t) (i : ∀ σ H Q, t' σ H Q → t σ H Q) : PO X e t' := ⟨fun pins s σ H Q I q => h.run pins s σ H Q I (i σ H Q q)⟩
theorem ox_none : Ox X TB Ξ Γ none Γ (wPure fun _ => none) := ⟨po_weak po_none fun σ H Q h => by
  obtain ⟨s, F, Qt, E, sr, tb, hw, hq, _⟩ := h
  exact hq none s .non H fe F hw ⟨rfl, rfl⟩ sr (fe_dj _) (by rw [fe_fo]; exact Chg.refl)⟩
@[reducible] def wSome (w : WT Γ Γ1 Int) : WT Γ Γ1 (Option Int) := fun s Q E => w s (fun i s1 => Q (some i) s1) E
theorem ox_some {w : WT Γ Γ1 Int} (h : Ex X TB Ξ Γ e Γ1 (.val tInt) w) : Ox X TB Ξ Γ (some e) Γ1 (wSome w) := ⟨po_weak (po_some h.pe) fun σ H Q h => by
  obtain ⟨s, F, Qt, E, sr, tb, hw, hq, he⟩ := h
  refine ⟨s, F, _, E, sr, tb, hw, fun i s1 v H1 F1 F2 q at1 sr1 d1 c1 => ?_, he⟩
  have z := hq (some i) s1 v H1 F1 F2 q ⟨at1, by rw [at1.2]; intro z; cases z⟩ sr1 d1 c1
  rw [at1.2] at z
  exact ⟨i, at1.2, z⟩⟩
@[reducible] def cS3 (k : Pm) (r : Ty) (w : k.ty.α → Option Int → Option Int → (r.α → Hou [k] → Prop) → Prop) : Ctr := match k with
  | .im t => ⟨[.im t, .im (tOpt tInt), .im (tOpt tInt)], r, fun a Q _ => w a.1 a.2.1 a.2.2.1 fun c o => Q c (o.1, (), (), ())⟩
  | .mu t => ⟨[.mu t, .im (tOpt tInt), .im (tOpt tInt)], r, fun a Q _ => w a.1 a.2.1 a.2.2.1 fun c o => Q c (o.1, (), (), ())⟩
def SlO (X : Cx) (TB : Addr → Prop) (C : Ctr) : Prop := ∃ r, SlR X r ∧ ∀ vs H Q E, C.sp X.K TB vs H Q E → ∃ x l h, vs = [x, l, h] ∧ r x (ofO l) (ofO h) H Q
theorem ex_slice {ps : List Pm} {r : Ty} {cw : HT ps → (r.α → Hou ps → Prop) → (Xn → Prop) → Prop} {k0 : Ki} {lo hi : Option Expr} {w0 : WT Γ Γ1 k0.α} {wl : WT Γ1 Γ2 (Option Int)} {wh : WT Γ2 Γ3 (Option Int)} (c : SlO X TB ⟨ps, r, cw⟩) (ho : Ex X TB Ξ Γ o Γ1 k0 w0) (hl : Ox X TB Ξ Γ1 lo Γ2 wl) (hh : Ox X TB Ξ Γ2 hi Γ3 wh)
    (cj : Cj [k0, .val (tOpt tInt), .val (tOpt tInt)] ps Γ3) : Ex X TB Ξ Γ (.Subscript o (.Slice lo hi none p2) pos) Γ3 (.val r) (wApp (C := ⟨ps, r, cw⟩) (wCons w0 (wCons (k := .val (tOpt tInt)) wl (wCons (k := .val (tOpt tInt)) wh wNil))) cj) := by
  obtain ⟨rr, hr, hc⟩ := c
  refine ⟨pe_weak (pe_slice hr ho.pe hl.po hh.po) fun σ H Q h => ?_⟩
  obtain ⟨s, F, Qt, E, sr, tb, hw, hq, he⟩ := la_cons (app_imp (C := ⟨ps, r, cw⟩) h)
  refine ⟨s, F, Qt, E, sr, tb, hw, fun x s1 v H1 F1 F2 q at1 sr1 d1 c1 => ?_, he⟩
  obtain ⟨s2, F', Qt', E', sr', tb', hw', hq', he'⟩ := la_two (hq x s1 v H1 F1 F2 q at1 sr1 d1 c1)
  refine ⟨s2, F', Qt', E', sr', tb', hw', fun y s3 v3 H3 F3 F4 q3 at3 sr3 d3 c3 => ?_, he'⟩
  obtain ⟨s4, F5, Qt5, E5, sr5, tb5, hw5, hq5, he5⟩ := hq' y s3 v3 H3 F3 F4 q3 at3 sr3 d3 c3
  refine ⟨s4, F5, Qt5, E5, sr5, tb5, hw5, fun z s6 v6 H6 F6 F7 q6 at6 sr6 d6 c6 => ?_, he5⟩
  obtain ⟨x, l, h, e, z⟩ := hc _ _ _ _ (hq5 z s6 v6 H6 F6 F7 q6 at6 sr6 d6 c6)
  cases e
  exact z
/-- the part of a list from lo to hi -/
def cut {α : Type} (xs : List α) (lo hi : Option Int) : List α := (xs.drop (HT.sIx xs.length 0 lo)).take (HT.sIx xs.length xs.length hi - HT.sIx xs.length 0 lo)
theorem ofO_at {K : PySem.W.Frag} {H : Hp} {F : Fp} {v : V} {a : Option Int} (h : (tOpt tInt).at_ K H F v a) : ofO v = a ∧ F = fe := by
  cases a with
  | none =>
    obtain ⟨e, rfl⟩ := h
    exact ⟨rfl, e⟩
  | some i =>
    obtain ⟨⟨e, rfl⟩, _⟩ := h
    exact ⟨rfl, e⟩
theorem s_str : SlO X TB (cS3 (.im tS) tS fun a lo hi Q => a.length ≤ sizeLine ∧ Q (cut a lo hi) ((), ())) := ⟨_, sl_str, fun vs H Q E z => by
  obtain ⟨as, F, Qt, Et, ar, tb, ⟨hl, hw⟩, hq, he⟩ := z
  obtain ⟨v, r', F1, F2, rfl, rfl, d, ⟨rfl, rfl⟩, v2, r2, F3, F4, rfl, rfl, d2, at2, v3, r3, F5, F6, rfl, rfl, d3, at3, rfl, rfl⟩ := ar
  obtain ⟨e2, rfl⟩ := ofO_at at2
  obtain ⟨e3, rfl⟩ := ofO_at at3
  refine ⟨_, _, _, rfl, _, rfl, by rw [str_len]; exact hl, ?_⟩
  rw [e2, e3]
  refine hq _ _ _ H fe fe hw ⟨rfl, ?_⟩ ⟨_, _, rfl, _, _, rfl, _, _, rfl, rfl, rfl⟩ (fe_dj _) (Chg.refl.sub fun b z => z.elim (fun z => z.elim) fun z => z.elim)
  unfold cutS S cut
  rw [str_len]⟩
theorem cut_al {K : PySem.W.Frag} {H : Hp} {vs : List V} {xs : List t.α} (lo hi : Option Int) (h : Al t K H vs xs) : Al t K H (cutV vs lo hi) (cut xs lo hi) := by
  unfold cutV cut
  rw [h.length]
  exact (h.drop _).take _
theorem cut_all {α : Type} {xs : List α} {lo hi : Option Int} (h : HT.sIx xs.length 0 lo = 0 ∧ HT.sIx xs.length xs.length hi = xs.length) : cut xs lo hi = xs := by
  unfold cut
  rw [h.1, h.2]
  simp
theorem s_tup : SlO X TB (cS3 (.im (tTup t)) (tTup t) fun a lo hi Q => Q (cut a lo hi) ((), ())) := ⟨_, sl_tupA, fun vs H Q E z => by
  obtain ⟨as, F, Qt, Et, ar, tb, hw, hq, he⟩ := z
  obtain ⟨v, r', F1, F2, rfl, rfl, d, ⟨rfl, l, xs, rfl, h1, al⟩, v2, r2, F3, F4, rfl, rfl, d2, at2, v3, r3, F5, F6, rfl, rfl, d3, at3, rfl, rfl⟩ := ar
  obtain ⟨e2, rfl⟩ := ofO_at at2
  obtain ⟨e3, rfl⟩ := ofO_at at3
  refine ⟨_, _, _, rfl, l, xs, rfl, h1, fun hc => ?_, fun hc p' hp => ?_⟩
  · rw [e2, e3, al.length] at hc
    refine hq _ _ _ H fe fe hw ⟨rfl, l, xs, rfl, h1, ?_⟩ ⟨_, _, rfl, _, _, rfl, _, _, rfl, rfl, rfl⟩ (fe_dj _) (Chg.refl.sub fun b z => z.elim (fun z => z.elim) fun z => z.elim)
    rw [cut_all hc]
    exact al
  · rw [e2, e3]
    exact hq _ _ _ _ fe fe hw ⟨rfl, p', _, rfl, SqT.of upd_same, (cut_al _ _ al).keep (stay_alloc hp)⟩ ⟨_, _, rfl, _, _, rfl, _, _, rfl, rfl, rfl⟩ (fe_dj _) ((Chg.alloc hp).sub fun b z => z.elim (fun z => z.elim) fun z => z.elim)⟩
theorem s_lst : SlO X TB (cS3 (.mu (tList t)) (tList t) fun a lo hi Q => Q (cut a lo hi) (a, ())) := ⟨_, sl_list, fun vs H Q E z => by
  obtain ⟨as, F, Qt, Et, ar, tb, hw, hq, he⟩ := z
  obtain ⟨v, r', F1, F2, rfl, rfl, d, ⟨l, xs, rfl, rfl, h1, al⟩, v2, r2, F3, F4, rfl, rfl, d2, at2, v3, r3, F5, F6, rfl, rfl, d3, at3, rfl, rfl⟩ := ar
  obtain ⟨e2, rfl⟩ := ofO_at at2
  obtain ⟨e3, rfl⟩ := ofO_at at3
  refine ⟨_, _, _, rfl, l, xs, rfl, SqL.of h1, fun p' hp => ?_⟩
  have n1 : l ≠ p' := ne_of_none h1 hp
  rw [e2, e3]
  refine hq _ _ _ _ (f1 p') (f1 l) hw ⟨p', _, rfl, rfl, upd_same, (cut_al _ _ al).keep (stay_alloc hp)⟩ ⟨_, _, f1 l, fe, rfl, (fo_fe _).symm, dj_fe _, ⟨l, xs, rfl, rfl, by rw [upd_ne n1]; exact h1, al.keep (stay_alloc hp)⟩, _, _, rfl, _, _, rfl, rfl, rfl⟩
    (fun b x y => n1 (by rw [← (show b = l from y), ← (show b = p' from x)])) ((Chg.alloc hp).sub fun b z => z.imp id fun z => .inl z)⟩
/-- xs[::-1] of a list -/
theorem ex_revL {kk : Nat} {q1 q2 q3 : Pos} {w : WT Γ Γ1 (tList t).α} (h : Ex X TB Ξ Γ e Γ1 (.val (tList t)) w) : Ex X TB Ξ Γ (.Subscript e (.Slice none none (some (.UnaryOp .USub (.Constant (.int 1) kk q1) q2)) q3) pos) Γ1 (.val (tList t)) (wMap List.reverse w) :=
  ⟨pe_weak (pe_revL h.pe) fun σ H Q h => by
    obtain ⟨s, F, Qt, E, sr, tb, hw, hq, he⟩ := h
    refine ⟨s, F, _, E, sr, tb, hw, fun xs s1 v H1 F1 F2 q at1 sr1 d1 c1 => ?_, he⟩
    obtain ⟨l, ws, rfl, rfl, h1, al⟩ := at1
    refine ⟨l, ws, rfl, SqL.of h1, fun p' hp => ?_⟩
    refine hq _ s1 _ _ (f1 p') F2 q ⟨p', _, rfl, rfl, upd_same, al.reverse.keep (stay_alloc hp)⟩ (sr1.keep (stay_alloc hp) fun b o _ h => by rw [upd_ne (ne_of_none h hp)]; exact h) (fun b x y => ?_) (c1.trans ((Chg.alloc hp).sub fun b z => z.imp id .inr))
    have e : b = p' := x
    have m := sr1.own b y
    rw [e, hp] at m
    exact m⟩
/-- .. of a lent slot -/
theorem ex_revB {kk : Nat} {q1 q2 q3 : Pos} (i : Nat) (hi : Cy.at_ Γ i = some (tList t)) (h : Ex X TB Ξ Γ e Γ (.bor i) (wPure fun _ => ())) : Ex X TB Ξ Γ (.Subscript e (.Slice none none (some (.UnaryOp .USub (.Constant (.int 1) kk q1) q2)) q3) pos) Γ (.val (tList t)) (wPure fun s => (cst hi (get Γ i s)).reverse) :=
  ⟨pe_weak (pe_revL h.pe) fun σ H Q h => by
    obtain ⟨s, F, Qt, E, sr, tb, hw, hq, he⟩ := h
    refine ⟨s, F, (fun _ s1 => s1 = s), (fun _ => False), sr, tb, rfl, fun xs s1 v H1 F1 F2 q at1 sr1 d1 c1 => ?_, fun _ z => z.elim⟩
    subst q
    obtain ⟨_, hv⟩ := at1
    obtain ⟨v', G1, g1, ⟨l, ws, rfl, rfl, h1, al⟩, g3⟩ := sr1.get_ hi
    rw [hv] at g1
    cases g1
    refine ⟨l, ws, rfl, SqL.of h1, fun p' hp => ?_⟩
    refine hq _ s1 _ _ (f1 p') F2 hw ⟨p', _, rfl, rfl, upd_same, al.reverse.keep (stay_alloc hp)⟩ (sr1.keep (stay_alloc hp) fun b o _ h => by rw [upd_ne (ne_of_none h hp)]; exact h) (fun b x y => ?_) (c1.trans ((Chg.alloc hp).sub fun b z => z.imp id .inr))
    have e : b = p' := x
    have m := sr1.own b y
    rw [e, hp] at m
    exact m⟩

/-! ### what is walked -/
theorem ix_tup_ [i : Imm t] {w : WT Γ Γ1 (tTup t).α} (h : Ex X TB Ξ Γ e Γ1 (.val (tTup t)) w) : Ix X TB Ξ Γ tg e Γ1 t w := ⟨pi_weak (pi_tup h.pe) fun σ H R h => by
  obtain ⟨s, F, Qt, E, sr, tb, hw, hq, he⟩ := h
  refine ⟨s, F, _, E, sr, tb, hw, fun xs s1 v H1 F1 F2 q at1 sr1 d1 c1 => ?_, he⟩
  obtain ⟨rfl, l, ws, rfl, h1, al⟩ := at1
  refine ⟨l, rfl, ⟨ws, h1⟩, hq xs s1 _ H1 fe F2 q sr1 (fe_dj _) c1 ⟨fun _ z => z.elim, fun H' st _ => ?_⟩⟩
  have h' := st.seqT h1
  have al' := al.keep st
  refine ⟨⟨ws, h', by rw [al.length]; exact Nat.le_refl _⟩, fun j hj => ?_⟩
  obtain ⟨v, e1, e2⟩ := al'.get (i := j) (x := xs[j]) (by simp [hj])
  exact ⟨⟨ws, v, h', e1⟩, fun x H'' ⟨e, k⟩ => by
    subst e
    have := k ws h'
    rw [e1] at this
    cases this
    exact ⟨e2, Chg.refl⟩⟩⟩
theorem ix_ro [i : Imm t] {w : WT Γ Γ1 (tRo t).α} (h : Ex X TB Ξ Γ e Γ1 (.val (tRo t)) w) : Ix X TB Ξ Γ tg e Γ1 t w := ⟨pi_weak (pi_list h.pe) fun σ H R h => by
  obtain ⟨s, F, Qt, E, sr, tb, hw, hq, he⟩ := h
  refine ⟨s, F, _, E, sr, tb, hw, fun xs s1 v H1 F1 F2 q at1 sr1 d1 c1 => ?_, he⟩
  obtain ⟨ef, l, ws, rfl, h1, al⟩ := at1
  subst ef
  have sq : ∀ H', Stay H1 H' → SqL X.K H' l ws := fun H' st => by
    rcases h1 with ⟨o, h1⟩ | h1
    · exact .inl (.inr ⟨o, st.at_ h1 (fun z => z) fun _ z => nomatch z⟩)
    · exact h1 H'
  refine ⟨l, rfl, ⟨ws, sq H1 (Stay.refl _)⟩, hq xs s1 _ H1 fe F2 q sr1 (fe_dj _) c1 ⟨fun _ z => z.elim, fun H' st _ => ?_⟩⟩
  have al' := al.keep st
  have h' := sq H' st
  refine ⟨⟨ws, h', by rw [al.length]; exact Nat.le_refl _⟩, fun j hj => ?_⟩
  obtain ⟨v, e1, e2⟩ := al'.get (i := j) (x := xs[j]) (by simp [hj])
  exact ⟨⟨ws, v, h', e1⟩, fun x H'' ⟨e, k⟩ => by
    subst e
    have := k ws h'
    rw [e1] at this
    cases this
    exact ⟨e2, Chg.refl⟩⟩⟩
end
end TY

set_option Elab.async false
set_option linter.all false
set_option maxRecDepth 100000
set_option maxHeartbeats 4000000
/-! TyH: what is walked, list comprehensions, targets of several names, items set, op=. -/
namespace TY
open PySem L2

section
variable {X : Cx} {TB : Addr → Prop} {Ξ : WX} {C : Ctr} {vs : List V} {Γ Γ1 Γ2 Γ3 Γ4 Γb Γc : Cy} {tg e a b o : Expr} {es : List Expr} {pos p p2 apos : Pos} {x : Str} {ks : List Ki} {t u r te : Ty} {K : PySem.W.Frag}

/-! ### what is walked -/
theorem ix_lst [i : Imm t] {w : WT Γ Γ1 (tList t).α} (h : Ex X TB Ξ Γ e Γ1 (.val (tList t)) w) : Ix X TB Ξ Γ tg e Γ1 t w := ⟨pi_weak (pi_list h.pe) fun σ H R h => by
  obtain ⟨s, F, Qt, E, sr, tb, hw, hq, he⟩ := h
  refine ⟨s, F, _, E, sr, tb, hw, fun xs s1 v H1 F1 F2 q at1 sr1 d1 c1 => ?_, he⟩
  obtain ⟨l, ws, rfl, rfl, h1, al⟩ := at1
  refine ⟨l, rfl, ⟨ws, SqL.of h1⟩, hq xs s1 _ H1 (f1 l) F2 q sr1 d1 c1 ⟨fun b z => ?_, fun H' st kp => ?_⟩⟩
  · rw [show b = l from z, h1]; trivial
  have h' : SqL X.K H' l ws := SqL.of (kp l _ rfl h1)
  have al' := al.keep st
  refine ⟨⟨ws, h', by rw [al.length]; exact Nat.le_refl _⟩, fun j hj => ?_⟩
  obtain ⟨v, e1, e2⟩ := al'.get (i := j) (x := xs[j]) (by simp [hj])
  exact ⟨⟨ws, v, h', e1⟩, fun x H'' ⟨e, k⟩ => by
    subst e
    have := k ws h'
    rw [e1] at this
    cases this
    exact ⟨e2, Chg.refl⟩⟩⟩
/-- what a range yields -/
def rng (lo : Int) (n : Nat) : List Int := (List.range n).map fun i => lo + (i : Nat)
theorem rng_get {lo : Int} {n i : Nat} {x : Int} (h : (rng lo n)[i]? = some x) : i < n ∧ x = lo + (i : Nat) := by
  unfold rng at h
  rw [List.getElem?_map] at h
  cases e : (List.range n)[i]? with
  | none => rw [e] at h; cases h
  | some j =>
    rw [e] at h
    obtain ⟨hj, ej⟩ := List.getElem?_eq_some_iff.mp e
    rw [List.getElem_range] at ej
    subst ej
    cases h
    exact ⟨by simpa using hj, rfl⟩
theorem rng_len (lo : Int) (n : Nat) : (rng lo n).length = n := by simp [rng]
theorem runs_rng {K : PySem.W.Frag} {H : Hp} (lo : Int) (n : Nat) : Runs K (Itr lo n) tInt fe H (rng lo n) := ⟨fun _ z => z.elim, fun H' _ _ => ⟨by rw [rng_len]; exact Nat.le_refl _, fun i hi => ⟨by rw [rng_len] at hi; exact hi, fun x H'' ⟨e, ex⟩ => by
  subst e
  subst ex
  refine ⟨⟨rfl, ?_⟩, Chg.refl⟩
  rw [(rng_get (List.getElem?_eq_getElem hi)).2]⟩⟩⟩
theorem int_ak {K : PySem.W.Frag} {H : Hp} {σ : L2.St} {ks : List Ki} {F : Fp} {vs : List V} {a : HA (.val tInt :: ks)} (h : AK K H σ (.val tInt :: ks) F vs a) : ∃ r, vs = .int a.1 :: r ∧ AK K H σ ks F r a.2 := by
  obtain ⟨v, r, F1, F2, e, e2, d, ⟨f1, ev⟩, h2⟩ := h
  subst f1
  rw [fe_fo] at e2
  subst e2
  rw [ev] at e
  exact ⟨r, e, h2⟩
@[reducible] def wRng1 (w : WT Γ Γ1 (HA [.val tInt])) : WT Γ Γ1 (List Int) := fun s Q E => w s (fun a s1 => (fun (j : Int) => (-(2 ^ 62) ≤ j ∧ j < 2 ^ 62) ∧ Q (rng 0 j.toNat) s1) a.1) E
theorem ix_rng1 {w : WT Γ Γ1 (HA [.val tInt])} (hm : X.mg "range" = none) (ha : Pa X TB Ξ Γ [a] Γ1 [.val tInt] w) (hg : Gl X "range" := by rfl) (hs : starEach [a] X.env = [(false, eval a X.env)] := by rfl) :
    Ix X TB Ξ Γ tg (.Call (.Name "range" p) [a] [] pos) Γ1 tInt (wRng1 w) := ⟨pi_weak (L2.pi_range1 hg hm ha.pa hs) fun σ H R h => by
  obtain ⟨s, F, Qt, E, sr, tb, hw, hq, he⟩ := h
  refine ⟨s, F, _, E, sr, tb, hw, fun xs s1 vs H1 F1 F2 q ak sr1 d1 c1 => ?_, he⟩
  obtain ⟨r, e1, ak⟩ := int_ak ak
  obtain ⟨rfl, rfl⟩ := ak
  exact ⟨_, e1, q.1.1, q.1.2, hq _ s1 _ H1 fe F2 q.2 sr1 d1 c1 (runs_rng 0 _)⟩⟩
@[reducible] def wRng2 (w : WT Γ Γ1 (HA [.val tInt, .val tInt])) : WT Γ Γ1 (List Int) := fun s Q E => w s (fun a s1 => (fun (i j : Int) => (-(2 ^ 62) ≤ i ∧ i < 2 ^ 62 ∧ -(2 ^ 62) ≤ j ∧ j < 2 ^ 62) ∧ Q (rng i (j - i).toNat) s1) a.1 a.2.1) E
theorem ix_rng2 {w : WT Γ Γ1 (HA [.val tInt, .val tInt])} (hm : X.mg "range" = none) (ha : Pa X TB Ξ Γ [a, b] Γ1 [.val tInt, .val tInt] w) (hg : Gl X "range" := by rfl) (hs : starEach [a, b] X.env = [(false, eval a X.env), (false, eval b X.env)] := by rfl) (hs2 : starEach [b] X.env = [(false, eval b X.env)] := by rfl) :
    Ix X TB Ξ Γ tg (.Call (.Name "range" p) [a, b] [] pos) Γ1 tInt (wRng2 w) := ⟨pi_weak (L2.pi_range2 hg hm ha.pa hs hs2) fun σ H R h => by
  obtain ⟨s, F, Qt, E, sr, tb, hw, hq, he⟩ := h
  refine ⟨s, F, _, E, sr, tb, hw, fun xs s1 vs H1 F1 F2 q ak sr1 d1 c1 => ?_, he⟩
  obtain ⟨r, e1, ak⟩ := int_ak ak
  obtain ⟨r2, e2, ak⟩ := int_ak ak
  obtain ⟨rfl, rfl⟩ := ak
  subst e2
  exact ⟨_, _, e1, q.1, hq _ s1 _ H1 fe F2 q.2 sr1 d1 c1 (runs_rng _ _)⟩⟩
/-- the signs of a text -/
@[reducible] def wSgn (w : WT Γ Γ1 (List Nat)) : WT Γ Γ1 (List (List Nat)) := fun s Q E => w s (fun a s1 => Q (a.map fun c => [c]) s1) E
theorem ix_str {w : WT Γ Γ1 (List Nat)} (h : Ex X TB Ξ Γ e Γ1 (.val tS) w) : Ix X TB Ξ Γ tg e Γ1 tS (wSgn w) := ⟨pi_weak (L2.pi_str h.pe) fun σ H R h => by
  obtain ⟨s, F, Qt, E, sr, tb, hw, hq, he⟩ := h
  refine ⟨s, F, _, E, sr, tb, hw, fun xs s1 v H1 F1 F2 q at1 sr1 d1 c1 => ?_, he⟩
  obtain ⟨rfl, rfl⟩ := at1
  refine ⟨_, rfl, hq _ s1 _ H1 fe F2 q sr1 d1 c1 ⟨fun _ z => z.elim, fun H' st kp => ⟨?_, fun i hi => ⟨?_, fun y H'' ⟨e, c, hc, ec⟩ => ?_⟩⟩⟩⟩
  · show xs.toArray.size ≤ _
    simp
  · show i < xs.toArray.size
    simpa using hi
  · subst e
    subst ec
    refine ⟨⟨rfl, ?_⟩, Chg.refl⟩
    have h9 : xs[i]? = some c := by simpa using hc
    rw [List.getElem_map]
    obtain ⟨_, h10⟩ := List.getElem?_eq_some_iff.mp h9
    rw [h10]
    rfl⟩
/-- enumerate of a list -/
def enm {α : Type} (xs : List α) : List (Int × α × Unit) := (List.range xs.length).zipWith (fun (i : Nat) x => ((i : Int), x, ())) xs
theorem enm_len {α : Type} (xs : List α) : (enm xs).length = xs.length := by simp [enm]
theorem enm_get {α : Type} {xs : List α} {i : Nat} {y : Int × α × Unit} (h : (enm xs)[i]? = some y) : y.1 = (i : Int) ∧ xs[i]? = some y.2.1 := by
  unfold enm at h
  rw [List.getElem?_zipWith] at h
  cases e : (List.range xs.length)[i]? with
  | none => rw [e] at h; cases h
  | some j =>
    rw [e] at h
    obtain ⟨hj, ej⟩ := List.getElem?_eq_some_iff.mp e
    rw [List.getElem_range] at ej
    subst ej
    cases e2 : xs[i]? with
    | none => rw [e2] at h; cases h
    | some z =>
      rw [e2] at h
      cases h
      exact ⟨rfl, rfl⟩
theorem runs_enm [im : Imm t] {K : PySem.W.Frag} {H : Hp} {l : Addr} {ws : List V} {xs : List t.α} (h1 : H l = some (.lst ws)) (al : Al t K H ws xs) : Runs K (Ite K l) (tTpl [tInt, t]) (f1 l) H (enm xs) := by
  refine ⟨fun b z => ?_, fun H' st kp => ?_⟩
  · rw [show b = l from z, h1]; trivial
  have h' : SqL K H' l ws := SqL.of (kp l _ rfl h1)
  have al' := al.keep st
  refine ⟨⟨ws, h', by rw [enm_len, al.length]; exact Nat.le_refl _⟩, fun j hj => ?_⟩
  have hj' : j < xs.length := by rw [enm_len] at hj; exact hj
  obtain ⟨v, e1, e2⟩ := al'.get (i := j) (x := xs[j]) (by simp [hj'])
  refine ⟨⟨ws, v, h', e1⟩, fun x H'' ⟨T, y, ex, hT, eH, k⟩ => ?_⟩
  have := k ws h'
  rw [e1] at this
  cases this
  subst eH
  have st2 := stay_alloc (o := .tup [.int (j : Nat), v]) hT
  obtain ⟨g1, g2⟩ := enm_get (List.getElem?_eq_getElem hj)
  have e3 : xs[j] = (enm xs)[j].2.1 := by
    rw [List.getElem?_eq_getElem hj'] at g2
    exact Option.some.inj g2
  refine ⟨⟨T, _, ex, SqT.of upd_same, .int (j : Nat), [v], fe, fe, rfl, (fo_fe fe).symm, fe_dj _, ⟨rfl, by rw [g1]⟩, v, [], fe, fe, rfl, (fo_fe fe).symm, fe_dj _, ?_, rfl, rfl⟩, (Chg.alloc hT).sub fun b z => z.elim⟩
  rw [← e3]
  exact t.keep e2 st2 fun b o z _ => z.elim

/-! ### back from a walk: a lent list is put back -/
def LY (TB : Addr → Prop) (K : PySem.W.Frag) (Ξ : WX) (Γ Γ1 : Cy) (te : Ty) (w : WT Γ Γ1 (List te.α)) (Γe : Cy) (α : Type) (wx : HL Γ → α) (bk : α → HL Γ1 → HL Γe) : TI := fun σ H R => ∃ (s : HL Γ) (F : Fp) (Q : List te.α → HL Γ1 → Prop) (E : Xn → Prop),
  SR K H Γ F σ s ∧ Tab TB H ∧ w s Q E ∧
  (∀ xs s' J H' F1 F', Q xs s' → SR K H' Γ1 F' σ s' → Dj F1 F' → Chg H F H' (fo F1 F') → Runs K J te F1 H' xs →
    (∀ s2 H2 F2, SR K H2 Γ1 F2 σ s2 → Stay H' H2 → (∀ b o, F1 b → H' b = some o → H2 b = some o) → Dj F1 F2 → ∃ F3, SR K H2 Γe F3 σ (bk (wx s) s2) ∧ ∀ b, F3 b → F1 b ∨ F2 b) → R J H') ∧
  (∀ x, E x → ∀ cls d H', XnAt x cls d H' → Chg H F H' fe → Ξ cls d σ H')
structure Iy (X : Cx) (TB : Addr → Prop) (Ξ : WX) (Γ : Cy) (tg iter : Expr) (Γ1 : Cy) (te : Ty) (w : WT Γ Γ1 (List te.α)) (Γe : Cy) (α : Type) (wx : HL Γ → α) (bk : α → HL Γ1 → HL Γe) : Prop where
  pi : PI X tg iter (LY TB X.K Ξ Γ Γ1 te w Γe α wx bk)
theorem iy_of {iter : Expr} {w : WT Γ Γ1 (List te.α)} (h : Ix X TB Ξ Γ tg iter Γ1 te w) : Iy X TB Ξ Γ tg iter Γ1 te w Γ1 Unit (fun _ => ()) (fun _ s => s) := ⟨pi_weak h.pi fun σ H R h => by
  obtain ⟨s, F, Q, E, sr, tb, hw, hq, he⟩ := h
  exact ⟨s, F, Q, E, sr, tb, hw, fun xs s' J H' F1 F' q sr1 d c runs => hq xs s' J H' F1 F' q sr1 d c runs fun s2 H2 F2 sr2 _ _ _ => ⟨F2, sr2, fun b z => .inr z⟩, he⟩⟩
theorem iy_B [im : Imm t] {iter : Expr} {te : Ty} {f : List t.α → List te.α} {g : TI} (J : Addr → It) (i : Nat) (e : Cy.at_ Γ i = some (tList t)) (hp : PI X tg iter g)
    (hg : ∀ (σ : L2.St) (H : Hp) (R : It → Hp → Prop) l ws, σ[i]? = some (some (.ref l)) → H l = some (.lst ws) → R (J l) H → g σ H R)
    (hJ : ∀ H l ws xs, H l = some (.lst ws) → Al t X.K H ws xs → Runs X.K (J l) te (f1 l) H (f xs)) :
    Iy X TB Ξ Γ tg iter (Cy.set_ Γ i none) te (fun s Q _ => Q (f (cst e (get Γ i s))) (put Γ i none () s)) Γ (List t.α) (fun s => cst e (get Γ i s)) (fun a s => pbk Γ i (tList t) e a s) := ⟨pi_weak hp fun σ H R h => by
  obtain ⟨s, F, Q, E, sr, tb, hw, hq, he⟩ := h
  obtain ⟨v, F1, F2, h1, at1, sr2, rfl, d⟩ := sr.take_ e
  obtain ⟨l, ws, rfl, rfl, h2, al⟩ := at1
  refine hg σ H R l ws h1 h2 (hq _ _ (J l) H (f1 l) F2 hw sr2 d Chg.refl (hJ _ _ _ _ h2 al) fun s2 H2 F2' sr3 st kp d3 => ?_)
  obtain ⟨F', a1, a2⟩ := SR.pbk_ (v := .ref l) e sr3 h1 (a := cst e (get Γ i s)) (G := f1 l) ⟨l, ws, rfl, rfl, kp l _ rfl h2, al.keep st⟩ d3
  exact ⟨F', a1, a2⟩⟩
theorem runs_lst [im : Imm t] {K : PySem.W.Frag} {H : Hp} {l : Addr} {ws : List V} {xs : List t.α} (h1 : H l = some (.lst ws)) (al : Al t K H ws xs) : Runs K (Itl K l) t (f1 l) H xs := by
  refine ⟨fun b z => ?_, fun H' st kp => ?_⟩
  · rw [show b = l from z, h1]; trivial
  have h' : SqL K H' l ws := SqL.of (kp l _ rfl h1)
  have al' := al.keep st
  refine ⟨⟨ws, h', by rw [al.length]; exact Nat.le_refl _⟩, fun j hj => ?_⟩
  obtain ⟨v, e1, e2⟩ := al'.get (i := j) (x := xs[j]) (by simp [hj])
  exact ⟨⟨ws, v, h', e1⟩, fun x H'' ⟨e, k⟩ => by
    subst e
    have := k ws h'
    rw [e1] at this
    cases this
    exact ⟨e2, Chg.refl⟩⟩
@[reducible] def wOut {t te : Ty} (f : List t.α → List te.α) (i : Nat) (e : Cy.at_ Γ i = some (tList t)) : WT Γ (Cy.set_ Γ i none) (List te.α) := fun s Q _ => Q (f (cst e (get Γ i s))) (put Γ i none () s)
/-- a lent list in slot i, walked in an expression -/
theorem iy_lstB [im : Imm t] {x : Str} (i : Nat) (e : Cy.at_ Γ i = some (tList t) := by rfl) (hN : X.N[i]? = some x := by rfl) (hv : Vis X.env.scope x := by first | exact Or.inl rfl | exact Or.inr (Or.inl rfl) | exact Or.inr (Or.inr rfl)) (hd : (x == ("__debug__" : Str)) = false := by decide)
    (hcd : (x == ("__classdict__" : Str)) = false := by decide) : Iy X TB Ξ Γ tg (.Name x pos) (Cy.set_ Γ i none) t (wOut (te := t) (fun xs => xs) i e) Γ (List t.α) (fun s => cst e (get Γ i s)) (fun a s => pbk Γ i (tList t) e a s) :=
  iy_B (f := fun xs => xs) (Itl X.K) i e (pi_list (L2.pv i hN hv hd hcd)) (fun σ H R l ws h1 h2 r => ⟨_, h1, l, rfl, ⟨ws, SqL.of h2⟩, r⟩) fun H l ws xs h al => runs_lst h al
theorem iy_enmB [im : Imm t] {x : Str} {elts : List Expr} {kk : Nat} {tpos q : Pos} (i : Nat) (hm : X.mg "enumerate" = none) (hg : Gl X "enumerate" := by rfl) (e : Cy.at_ Γ i = some (tList t) := by rfl) (hN : X.N[i]? = some x := by rfl) (hv : Vis X.env.scope x := by first | exact Or.inl rfl | exact Or.inr (Or.inl rfl) | exact Or.inr (Or.inr rfl)) (hd : (x == ("__debug__" : Str)) = false := by decide)
    (hcd : (x == ("__classdict__" : Str)) = false := by decide) (hs : starEach [.Name x pos] X.env = [(false, eval (.Name x pos) X.env)] := by rfl) :
    Iy X TB Ξ Γ (.Tuple elts kk tpos) (.Call (.Name "enumerate" p) [.Name x pos] [] q) (Cy.set_ Γ i none) (tTpl [tInt, t]) (wOut (te := tTpl [tInt, t]) enm i e) Γ (List t.α) (fun s => cst e (get Γ i s)) (fun a s => pbk Γ i (tList t) e a s) :=
  iy_B (te := tTpl [tInt, t]) (f := enm) (Ite X.K) i e (pi_enum hg hm (L2.pa_cons (L2.pv i hN hv hd hcd) L2.pa_nil hs) hs) (fun σ H R l ws h1 h2 r => ⟨_, h1, l, ws, rfl, SqL.of h2, r⟩) fun H l ws xs h al => runs_enm h al
theorem ix_enm [im : Imm t] {elts : List Expr} {kk : Nat} {tpos q : Pos} {w : WT Γ Γ1 (tList t).α} (hm : X.mg "enumerate" = none) (h : Ex X TB Ξ Γ e Γ1 (.val (tList t)) w) (hg : Gl X "enumerate" := by rfl) (hs : starEach [e] X.env = [(false, eval e X.env)] := by rfl) :
    Ix X TB Ξ Γ (.Tuple elts kk tpos) (.Call (.Name "enumerate" p) [e] [] q) Γ1 (tTpl [tInt, t]) (fun s Q E => w s (fun xs s1 => Q (enm xs) s1) E) := ⟨pi_weak (pi_enum hg hm (L2.pa_cons h.pe L2.pa_nil hs) hs) fun σ H R h => by
  obtain ⟨s, F, Qt, E, sr, tb, hw, hq, he⟩ := h
  refine ⟨s, F, _, E, sr, tb, hw, fun xs s1 v H1 F1 F2 q at1 sr1 d1 c1 => ?_, he⟩
  obtain ⟨l, ws, rfl, rfl, h1, al⟩ := at1
  exact ⟨l, ws, rfl, SqL.of h1, hq _ s1 _ H1 (f1 l) F2 q sr1 d1 c1 (runs_enm h1 al)⟩⟩
end
end TY

set_option Elab.async false
set_option linter.all false
set_option maxRecDepth 100000
set_option maxHeartbeats 4000000
/-! TyI: list comprehensions, targets of several names, items set, op=. -/
namespace TY
open PySem L2

/-! ### slots forgotten together -/
structure Clr (Γ Γ' : Cy) where
  f : HL Γ → HL Γ'
  ok : ∀ {K : PySem.W.Frag} {H : Hp} {F : Fp} {σ : L2.St} {s : HL Γ}, SR K H Γ F σ s → ∃ F', SR K H Γ' F' σ (f s) ∧ ∀ b, F' b → F b
@[reducible] def clr_nil {Γ : Cy} : Clr Γ Γ := ⟨fun s => s, fun h => ⟨_, h, fun _ z => z⟩⟩
@[reducible] def clr_one {Γ Γ' : Cy} (i : Nat) (c : Clr (Cy.set_ Γ i none) Γ') : Clr Γ Γ' := ⟨fun s => c.f (put Γ i none () s), fun h => by
  obtain ⟨F1, h1, e1⟩ := h.forget i
  obtain ⟨F2, h2, e2⟩ := c.ok h1
  exact ⟨F2, h2, fun b z => e1 b (e2 b z)⟩⟩
@[reducible] def NoneAt (Γ : Cy) : List Nat → Prop
  | [] => True
  | v :: r => Cy.at_ Γ v = none ∧ NoneAt Γ r
theorem NoneAt.mem {Γ : Cy} : ∀ {vs : List Nat} {i : Nat}, NoneAt Γ vs → i ∈ vs → Cy.at_ Γ i = none
  | v :: r, i, h, m => by
    rcases List.mem_cons.mp m with e | m
    · rw [e]; exact h.1
    · exact NoneAt.mem h.2 m
theorem SR.agree {K : PySem.W.Frag} {H : Hp} : ∀ {Γ : Cy} {F : Fp} {σ σ' : L2.St} {s : HL Γ}, SR K H Γ F σ s → σ'.length = σ.length → (∀ i, Cy.at_ Γ i ≠ none → σ'[i]? = σ[i]?) → SR K H Γ F σ' s
  | [], F, σ, σ', s, h, hl, _ => by
    obtain ⟨h1, h2⟩ := h
    subst h2
    refine ⟨h1, ?_⟩
    cases σ' with
    | nil => rfl
    | cons => simp at hl
  | o :: Γ, F, σ, σ', s, ⟨w, r, F1, F2, e1, e2, d, h1, h2⟩, hl, ha => by
    subst e1
    cases σ' with
    | nil => simp at hl
    | cons w' r' =>
      have h3 : SR K H Γ F2 r' s.2 := SR.agree h2 (by simpa using hl) fun i hi => by simpa using ha (i + 1) hi
      refine ⟨w', r', F1, F2, rfl, e2, d, ?_, h3⟩
      cases o with
      | none => exact h1
      | some t =>
        have := ha 0 (by simp [Cy.at_])
        simp at this
        rw [this]
        exact h1
theorem wipe_in {σ : L2.St} {i : Nat} : ∀ {vs : List Nat}, i ∈ vs → (wipe σ vs)[i]? = if i < σ.length then some none else none
  | v :: vs, m => by
    unfold wipe
    by_cases e : v = i
    · subst e
      rw [List.getElem?_set]
      simp [wipe_length]
    · rw [List.getElem?_set_ne e]
      rcases List.mem_cons.mp m with e2 | m
      · exact absurd e2.symm e
      · exact wipe_in m
theorem wipe_eq {σ σ' : L2.St} {vs : List Nat} (hl : σ'.length = σ.length) (h : ∀ i : Nat, i ∉ vs → σ'[i]? = σ[i]?) : wipe σ' vs = wipe σ vs := by
  apply List.ext_getElem?
  intro i
  by_cases m : i ∈ vs
  · rw [wipe_in m, wipe_in m, hl]
  · rw [wipe_out m, wipe_out m, h i m]

abbrev FE : Xn → Prop := fun _ => False
abbrev ΞF : WX := fun _ _ _ _ => False
structure Txs (X : Cx) (TB : Addr → Prop) (Ξ : WX) (Γ : Cy) (es : List Expr) (Γ' : Cy) (w : WT Γ Γ' Bool) : Prop where
  pt : PTs X es (LT TB X.K Ξ Γ Γ' w)
theorem pts_weak {X : Cx} {es : List Expr} {t t' : TT} (h : PTs X es t) (i : ∀ σ H Q, t' σ H Q → t σ H Q) : PTs X es t' := ⟨fun pins s σ H Q I q => h.run pins s σ H Q I (i σ H Q q)⟩

section
variable {X : Cx} {TB : Addr → Prop} {Ξ : WX} {C : Ctr} {vs : List V} {Γ Γ1 Γ2 Γ3 Γ4 Γe Γb Γc : Cy} {tg e a b o : Expr} {es : List Expr} {pos p p2 apos : Pos} {x : Str} {ks : List Ki} {t u r te tr : Ty} {K : PySem.W.Frag}
theorem txs_nil : Txs X TB Ξ Γ [] Γ (fun s Q _ => Q true s) := ⟨pts_weak L2.pts_nil fun σ H Q h => lt_pure h⟩
theorem txs_one {w : WT Γ Γ1 Bool} (h : Tx X TB Ξ Γ e Γ1 w) : Txs X TB Ξ Γ [e] Γ1 w := ⟨L2.pts_one h.pt⟩

/-! ### [e for .. in ..] -/
@[reducible] def wLc {α : Type} (w : WT Γ Γ1 (List te.α)) (wg : te.α → HL Γ1 → (HL Γ2 → Prop) → (Xn → Prop) → Prop) (wt : WT Γ2 Γ2 Bool) (we : WT Γ2 Γ2 tr.α) (c : Clr Γ2 Γ1) (wx : HL Γ → α) (bk : α → HL Γ1 → HL Γe) : WT Γ Γe (List tr.α) :=
  fun s Q E => w s (fun xs s1 => xs.length ≤ sizeLine ∧ ∃ I : Nat → List tr.α → HL Γ1 → Prop, I 0 [] s1 ∧
    (∀ i x acc s2, xs[i]? = some x → I i acc s2 → wg x s2 (fun s3 => wt s3 (fun b s4 => (b = true → we s4 (fun y s5 => I (i + 1) (acc ++ [y]) (c.f s5)) FE) ∧ (b = false → I (i + 1) acc (c.f s4))) FE) FE) ∧
    ∀ acc s2, I xs.length acc s2 → acc.length ≤ xs.length → Q acc (bk (wx s) s2)) E
theorem lc_ty [im : Imm tr] {α : Type} {w : WT Γ Γ1 (List te.α)} {wg : te.α → HL Γ1 → (HL Γ2 → Prop) → (Xn → Prop) → Prop} {wt : WT Γ2 Γ2 Bool} {we : WT Γ2 Γ2 tr.α} {c : Clr Γ2 Γ1} {wx : HL Γ → α} {bk : α → HL Γ1 → HL Γe} {js vs : List Nat}
    (hv : NoneAt Γ1 vs) (hj : ∀ j ∈ js, j ∈ vs) {σ : L2.St} {H : Hp} {QH : VK} (h : LX TB K Ξ Γ Γe (.val (tList tr)) (wLc w wg wt we c wx bk) σ H QH) :
    tLc (LY TB K Ξ Γ Γ1 te w Γe α wx bk) (LG TB K ΞF Γ1 Γ2 te js wg) (LT TB K ΞF Γ2 Γ2 wt) (LX TB K ΞF Γ2 Γ2 (.val tr) we) vs σ H QH := by
  obtain ⟨s, F, Q, E, sr, tb, hw, hq, he⟩ := h
  refine ⟨s, F, _, E, sr, tb, hw, fun xs s1 J H1 F1 F' q sr1 d1 c1 runs back D hD => ?_, he⟩
  obtain ⟨hlen, I, i0, step, done⟩ := q
  obtain ⟨own1, runs⟩ := runs
  have lσ := sr1.length
  have toW : ∀ {H2 : Hp} {F2 : Fp} {σ2 : L2.St} {s2 : HL Γ1}, SR K H2 Γ1 F2 σ2 s2 → (∀ i : Nat, i ∉ js → σ2[i]? = (wipe σ vs)[i]?) → SR K H2 Γ1 F2 (wipe σ vs) s2 := fun {H2 F2 σ2 s2} sr2 ag =>
    sr2.agree (by rw [wipe_length, lσ, sr2.length]) fun i hi => (ag i fun z => hi (hv.mem (hj i z))).symm
  have sr1w : SR K H1 Γ1 F' (wipe σ vs) s1 := sr1.agree (wipe_length _ _) fun i hi => wipe_out fun z => hi (hv.mem z)
  have stD := stay_alloc (o := .lst []) hD
  have kpD : ∀ (G : Fp), ∀ b o, G b → H1 b = some o → upd H1 D (.lst []) b = some o := fun G b o _ h => by rw [upd_ne (ne_of_none h hD)]; exact h
  have dD : ∀ (G : Fp), (∀ b, G b → Mut (H1 b)) → ¬ G D := fun G hG z => by
    have := hG D z
    rw [hD] at this
    exact this
  refine ⟨fun i m H2 => m = xs.length - i ∧ i ≤ xs.length ∧ ∃ acc ws s2 F2, I i acc s2 ∧ acc.length ≤ i ∧ H2 D = some (.lst ws) ∧ Al tr K H2 ws acc ∧ SR K H2 Γ1 F2 (wipe σ vs) s2 ∧ Chg H1 F' H2 (fo (f1 D) F2) ∧ Dj (f1 D) F2,
    ⟨_, rfl, Nat.zero_le _, [], [], s1, F', i0, Nat.le_refl _, upd_same, .nil, sr1w.keep stD (kpD F'), Chg.alloc hD, fun b x y => dD F' sr1.own (by rw [← (show b = D from x)]; exact y)⟩, ?_⟩
  rintro i m H2 ⟨rfl, hi, acc, ws, s2, F2, ii, hal, hDs, al, sr2, c2, d2⟩
  have st2 := c2.stay sr1.own
  have k2 := c2.kept own1 d1
  obtain ⟨r1, r2⟩ := runs H2 st2 k2
  have dF1 := c2.apart own1 d1
  by_cases hlt : i < xs.length
  · obtain ⟨g1, g2⟩ := r2 i hlt
    refine .inr ⟨g1, fun H3 => ∃ acc ws s3 F3, I (i + 1) acc s3 ∧ acc.length ≤ i + 1 ∧ H3 D = some (.lst ws) ∧ Al tr K H3 ws acc ∧ SR K H3 Γ1 F3 (wipe σ vs) s3 ∧ Chg H1 F' H3 (fo (f1 D) F3) ∧ Dj (f1 D) F3, fun H3 z => ⟨_, by omega, rfl, hlt, z⟩, fun y H3 yl => ?_⟩
    obtain ⟨at3, c3⟩ := g2 y H3 yl
    have c3' : Chg H2 F2 H3 F2 := ⟨fun b o h n => c3.keep b o h fun z => z, fun b z => .inl z⟩
    have sr3 := sr2.kept c3 (fun _ z => z.elim) (dj_fe _)
    have tb2 : Tab TB H2 := tb.stay ((c1.stay sr.own).trans st2)
    have tb3 := tb2.stay (c3'.stay sr2.own)
    refine ⟨s2, F2, fe, xs[i], _, _, sr3, tb3, at3, fe_dj _, step i xs[i] acc s2 (by simp [hlt]) ii, fun s4 σ4 H4 F4 q4 sr4 c4 ag => ⟨?_, ?_⟩, fun _ z => z.elim⟩
    · have := wipe_eq (σ := wipe σ vs) (σ' := σ4) (vs := vs) (by obtain ⟨F5, h5, _⟩ := c.ok sr4; rw [h5.length, wipe_length, lσ]) fun j hj2 => ag j fun z => hj2 (hj j z)
      rw [this]
      exact wipe_eq (wipe_length _ _) fun j hj2 => wipe_out hj2
    rw [fe_fo] at c4
    refine ⟨s4, F4, _, _, sr4, tb3.stay (c4.stay sr3.own), q4, fun bb s5 H5 F5 q5 sr5 c5 => ?_, fun _ z => z.elim⟩
    have c25 : Chg H2 F2 H5 F5 := (c3'.trans c4).trans c5
    have ownD : ∀ b, f1 D b → Mut (H2 b) := fun b z => by rw [show b = D from z, hDs]; trivial
    cases bb with
    | false =>
      refine iteF ?_
      obtain ⟨F6, sr6, sub⟩ := c.ok sr5
      exact ⟨acc, ws, c.f s5, F6, q5.2 rfl, Nat.le_succ_of_le hal, c25.kept ownD d2 D _ rfl hDs, al.keep (c25.stay sr2.own), toW sr6 ag, (c2.trans c25.frame).sub fun b z => z.imp id (sub b), fun b x y => (c25.apart ownD d2) b x (sub b y)⟩
    | true =>
      refine iteT ⟨s5, F5, _, _, sr5, tb2.stay (c25.stay sr2.own), q5.1 rfl, fun y s6 v H6 G1 F6 q6 at6 sr6 d6 c6 => ?_, fun _ z => z.elim⟩
      have eG := im.imm at6
      subst eG
      rw [fe_fo] at c6
      have c26 : Chg H2 F2 H6 F6 := c25.trans c6
      have hD6 := c26.kept ownD d2 D _ rfl hDs
      have d26 := c26.apart ownD d2
      obtain ⟨F7, sr7, sub⟩ := c.ok sr6
      have stw : Stay H6 (upd H6 D (.lst (ws ++ [v]))) := stay_w hD6 trivial
      refine ⟨ws, hD6, by rw [al.length]; omega, acc ++ [y], ws ++ [v], c.f s6, F7, q6, by rw [List.length_append]; simp; omega, upd_same, ((al.keep (c26.stay sr2.own)).append (.cons at6 .nil)).keep stw, ?_, ?_, fun b x z => d26 b x (sub b z)⟩
      · exact (toW sr7 ag).keep stw fun b o z h => by
          rw [upd_ne (fun e => d26 b (show b = D from e) (sub b z))]
          exact h
      · exact ((c2.trans c26.frame).trans (Chg.write (.inl rfl))).sub fun b z => z.imp id (sub b)
  · have e : i = xs.length := by omega
    subst e
    have sr2' : SR K H2 Γ1 F2 σ s2 := sr2.agree (wipe_length _ _).symm fun i hi => (wipe_out fun z => hi (hv.mem z)).symm
    obtain ⟨F3, sr3, sub⟩ := back s2 H2 F2 sr2' st2 k2 (dF1.sub (fun _ z => z) fun _ z => .inr z)
    refine .inl ⟨r1, hq acc _ (.ref D) H2 (f1 D) F3 (done acc s2 ii hal) ⟨D, ws, rfl, rfl, hDs, al⟩ sr3 (fun b x y => ?_) ?_⟩
    · have x' : b = D := x
      subst x'
      rcases sub b y with z | z
      · exact dD F1 own1 z
      · exact d2 b rfl z
    · exact (c1.trans c2.frame).sub fun b z => by
        rcases z with z | z
        · exact .inr (.inl z)
        · exact (sub b z).imp id .inr
theorem ex_lc [im : Imm tr] {α : Type} {elt iter : Expr} {ifs : List Expr} {scope : Scope} {w : WT Γ Γ1 (List te.α)} {wg : te.α → HL Γ1 → (HL Γ2 → Prop) → (Xn → Prop) → Prop} {wt : WT Γ2 Γ2 Bool} {we : WT Γ2 Γ2 tr.α} {wx : HL Γ → α} {bk : α → HL Γ1 → HL Γe} {js : List Nat} {wg' : Shared → Hp → Addr → List (Str × Addr) → List Addr → te.α → HL Γ1 → (HL Γ2 → Prop) → (Xn → Prop) → Prop} {wt' : Shared → Hp → Addr → List (Str × Addr) → List Addr → WT Γ2 Γ2 Bool} {we' : Shared → Hp → Addr → List (Str × Addr) → List Addr → WT Γ2 Γ2 tr.α}
    (own : List (Str × Nat)) (hc : X.calm = true) (hN : X.N.Nodup) (hi : Iy X TB Ξ Γ tg iter Γ1 te w Γe α wx bk) (ok : BlkOk X.N X.env.scope scope own)
    (hg : ∀ (s : Shared) (H : Hp) (C : Addr) (cl : List (Str × Addr)) (fp : List Addr), Gx (X.blk s H scope (compEnvC scope cl C X.env) fp) TB ΞF Γ1 tg te js Γ2 (wg' s H C cl fp)) (ht : ∀ (s : Shared) (H : Hp) (C : Addr) (cl : List (Str × Addr)) (fp : List Addr), Txs (X.blk s H scope (compEnvC scope cl C X.env) fp) TB ΞF Γ2 ifs Γ2 (wt' s H C cl fp)) (he : ∀ (s : Shared) (H : Hp) (C : Addr) (cl : List (Str × Addr)) (fp : List Addr), Ex (X.blk s H scope (compEnvC scope cl C X.env) fp) TB ΞF Γ2 elt Γ2 (.val tr) (we' s H C cl fp)) (c : Clr Γ2 Γ1)
    (hwg : ∀ s H C cl fp, wg' s H C cl fp = wg := by intros; rfl) (hwt : ∀ s H C cl fp, wt' s H C cl fp = wt := by intros; rfl) (hwe : ∀ s H C cl fp, we' s H C cl fp = we := by intros; rfl)
    (hv : NoneAt Γ1 (own.map (·.2)) := by repeat (first | exact trivial | refine ⟨rfl, ?_⟩)) (hj : ∀ j ∈ js, j ∈ own.map (·.2) := by decide) (hs : ∀ x, foldedSetIterable iter X.env x = pure x := by intro _; rfl) :
    Ex X TB Ξ Γ (.ListComp elt [⟨tg, iter, ifs, 0⟩] scope pos) Γe (.val (tList tr)) (wLc w wg wt we c wx bk) :=
  ⟨pe_weak (pe_lc hc hN hi.pi ok (fun s H C cl fp => (hwg s H C cl fp) ▸ (hg s H C cl fp).pg) (fun s H C cl fp => (hwt s H C cl fp) ▸ (ht s H C cl fp).pt) (fun s H C cl fp => (hwe s H C cl fp) ▸ (he s H C cl fp).pe) hs) fun σ H Q h => lc_ty hv hj h⟩
/-- y = [..] -/
theorem sx_lc [im : Imm tr] {α : Type} {elt iter : Expr} {ifs : List Expr} {scope : Scope} {y : Str} {py spos : Pos} {w : WT Γ Γ1 (List te.α)} {wg : te.α → HL Γ1 → (HL Γ2 → Prop) → (Xn → Prop) → Prop} {wt : WT Γ2 Γ2 Bool} {we : WT Γ2 Γ2 tr.α} {wx : HL Γ → α} {bk : α → HL Γ1 → HL Γe} {js : List Nat} {wg' : Shared → Hp → Addr → List (Str × Addr) → List Addr → te.α → HL Γ1 → (HL Γ2 → Prop) → (Xn → Prop) → Prop} {wt' : Shared → Hp → Addr → List (Str × Addr) → List Addr → WT Γ2 Γ2 Bool} {we' : Shared → Hp → Addr → List (Str × Addr) → List Addr → WT Γ2 Γ2 tr.α}
    (k : Nat) (own : List (Str × Nat)) (hc : X.calm = true) (hN : X.N.Nodup) (hsw : swapsWith (.ListComp elt [⟨tg, iter, ifs, 0⟩] scope pos) (some (.Name y py)) spos.line X.env = pure true) (hi : Iy X TB Ξ Γ tg iter Γ1 te w Γe α wx bk) (ok : BlkOk X.N X.env.scope scope own)
    (hg : ∀ (s : Shared) (H : Hp) (C : Addr) (cl : List (Str × Addr)) (fp : List Addr), Gx (X.blk s H scope (compEnvC scope cl C X.env) fp) TB ΞF Γ1 tg te js Γ2 (wg' s H C cl fp)) (ht : ∀ (s : Shared) (H : Hp) (C : Addr) (cl : List (Str × Addr)) (fp : List Addr), Txs (X.blk s H scope (compEnvC scope cl C X.env) fp) TB ΞF Γ2 ifs Γ2 (wt' s H C cl fp)) (he : ∀ (s : Shared) (H : Hp) (C : Addr) (cl : List (Str × Addr)) (fp : List Addr), Ex (X.blk s H scope (compEnvC scope cl C X.env) fp) TB ΞF Γ2 elt Γ2 (.val tr) (we' s H C cl fp)) (c : Clr Γ2 Γ1)
    (hl : Cy.lt Γe k = true := by rfl) (hy : X.N[k]? = some y := by rfl) (hyl : X.env.scope.names.lookup y = some .local := by rfl)
    (hwg : ∀ s H C cl fp, wg' s H C cl fp = wg := by intros; rfl) (hwt : ∀ s H C cl fp, wt' s H C cl fp = wt := by intros; rfl) (hwe : ∀ s H C cl fp, we' s H C cl fp = we := by intros; rfl)
    (hv : NoneAt Γ1 (own.map (·.2)) := by repeat (first | exact trivial | refine ⟨rfl, ?_⟩)) (hj : ∀ j ∈ js, j ∈ own.map (·.2) := by decide) (hs : ∀ x, foldedSetIterable iter X.env x = pure x := by intro _; rfl) :
    Sx X TB Ξ C vs Γ (.Assign [.Name y py] (.ListComp elt [⟨tg, iter, ifs, 0⟩] scope pos) spos) (Cy.set_ Γe k (some (tList tr))) Γb Γc (wSet k (wLc w wg wt we c wx bk)) :=
  ⟨ps_weak (ps_setLc hc hN hy hyl hsw hi.pi ok (fun s H C cl fp => (hwg s H C cl fp) ▸ (hg s H C cl fp).pg) (fun s H C cl fp => (hwt s H C cl fp) ▸ (ht s H C cl fp).pt) (fun s H C cl fp => (hwe s H C cl fp) ▸ (he s H C cl fp).pe) hs) fun D σ H h => by
    obtain ⟨s, F, Q, sr, tb, hw, hn, hr, hbk, hct, hx⟩ := h
    refine lc_ty (Ξ := Ξ) (js := js) hv hj ⟨s, F, _, _, sr, tb, hw, fun a s1 v H1 F1 F2 q1 at1 sr1 d1 c1 => ?_, fun x ex cls d H1 xa c => hx x ex cls d σ H1 xa c⟩
    obtain ⟨F', a1, a2⟩ := SR.put_ (i := k) (t := some (tList tr)) (w := some v) (a := a) (G := F1) (Cy.lt_len hl) sr1 ⟨v, rfl, at1⟩ d1
    exact hn _ _ H1 F' q1 a1 (c1.sub fun b z => a2 b z)⟩

/-! ### a, b = .. ; for a, b in .. -/
def LGs (TB : Addr → Prop) (K : PySem.W.Frag) (Ξ : WX) (Γ Γ' : Cy) (ts : List Ty) (js : List Nat) (w : HT2 ts → HL Γ → (HL Γ' → Prop) → (Xn → Prop) → Prop) : TGs := fun vs σ H QH => ∃ (s : HL Γ) (F F1 : Fp) (a : HT2 ts) (Q : HL Γ' → Prop) (E : Xn → Prop),
  SR K H Γ F σ s ∧ Tab TB H ∧ AT K H ts F1 vs a ∧ Dj F1 F ∧ w a s Q E ∧
  (∀ s' σ' H' F', Q s' → SR K H' Γ' F' σ' s' → Chg H (fo F1 F) H' F' → (∀ i : Nat, i ∉ js → σ'[i]? = σ[i]?) → QH σ' H') ∧
  (∀ x, E x → ∀ cls d σ' H', XnAt x cls d H' → Chg H (fo F1 F) H' fe → Ξ cls d σ' H')
structure Gy (X : Cx) (TB : Addr → Prop) (Ξ : WX) (Γ : Cy) (es : List Expr) (ts : List Ty) (js : List Nat) (Γ' : Cy) (w : HT2 ts → HL Γ → (HL Γ' → Prop) → (Xn → Prop) → Prop) : Prop where
  pg : PGs X es (LGs TB X.K Ξ Γ Γ' ts js w)
theorem pgs_weak {es : List Expr} {t t' : TGs} (h : PGs X es t) (i : ∀ v σ H Q, t' v σ H Q → t v σ H Q) : PGs X es t' := ⟨fun pins s σ H v u Q I r q => h.run pins s σ H v u Q I r (i v σ H Q q)⟩
@[reducible] def wGs0 : HT2 [] → HL Γ → (HL Γ → Prop) → (Xn → Prop) → Prop := fun _ s Q _ => Q s
theorem gy_nil : Gy X TB Ξ Γ [] [] [] Γ wGs0 := ⟨pgs_weak L2.pgs_nil fun v σ H Q h => by
  obtain ⟨s, F, F1, a, Qt, E, sr, tb, ⟨rfl, rfl⟩, d, hw, hq, _⟩ := h
  exact ⟨rfl, hq s σ H F hw sr (by rw [fe_fo]; exact Chg.refl) fun _ _ => rfl⟩⟩
@[reducible] def wGs {t : Ty} {ts : List Ty} (w1 : t.α → HL Γ → (HL Γ1 → Prop) → (Xn → Prop) → Prop) (w2 : HT2 ts → HL Γ1 → (HL Γ2 → Prop) → (Xn → Prop) → Prop) : HT2 (t :: ts) → HL Γ → (HL Γ2 → Prop) → (Xn → Prop) → Prop :=
  fun a s Q E => w1 a.1 s (fun s1 => w2 a.2 s1 Q E) E
theorem gy_cons {ts : List Ty} {js1 js2 : List Nat} {w1 : t.α → HL Γ → (HL Γ1 → Prop) → (Xn → Prop) → Prop} {w2 : HT2 ts → HL Γ1 → (HL Γ2 → Prop) → (Xn → Prop) → Prop} (h1 : Gx X TB Ξ Γ e t js1 Γ1 w1) (h2 : Gy X TB Ξ Γ1 es ts js2 Γ2 w2)
    (hs : (assignEach (e :: es) X.env).map (·.2) = assign e X.env :: (assignEach es X.env).map (·.2) := by rfl) : Gy X TB Ξ Γ (e :: es) (t :: ts) (js1 ++ js2) Γ2 (wGs w1 w2) := ⟨pgs_weak (L2.pgs_cons h1.pg h2.pg hs) fun v σ H Q h => by
  obtain ⟨s, F, F1, a, Qt, E, sr, tb, ⟨v1, r, A, B, rfl, rfl, dab, at1, ar⟩, d, hw, hq, he⟩ := h
  have dB : Dj B (fo A F) := fun b x y => y.elim (fun y => dab b y x) fun y => d b (.inr x) y
  have ownAF : ∀ b, fo A F b → Mut (H b) := fun b z => z.elim (Ty.own _ at1 b) (sr.own b)
  have up : ∀ b, fo B (fo A F) b → fo (fo A B) F b := fun b z => by
    rcases z with z | z | z
    · exact .inl (.inr z)
    · exact .inl (.inl z)
    · exact .inr z
  refine ⟨v1, r, rfl, s, F, A, a.1, _, E, sr, tb, at1, d.sub (fun _ z => .inl z) (fun _ z => z), hw, fun s1 σ1 H1 F1' q1 sr1 c1 ag1 => ?_, fun x ex cls dd σ' H' xa c => he x ex cls dd σ' H' xa (c.sup fun b z => up b (.inr z))⟩
  have dB1 := c1.apart ar.own dB
  have tb1 : Tab TB H1 := tb.stay (c1.stay ownAF)
  have c1' : Chg H (fo (fo A B) F) H1 (fo B F1') := (c1.frame (G := B)).sup up
  refine ⟨s1, F1', B, a.2, _, E, sr1, tb1, ar.keep (c1.stay ownAF) (c1.kept ar.own dB), dB1, q1, fun s2 σ2 H2 F2 q2 sr2 c2 ag2 => ?_, fun x ex cls dd σ' H' xa c => he x ex cls dd σ' H' xa (c1'.trans c)⟩
  exact hq s2 σ2 H2 F2 q2 sr2 (c1'.trans c2) fun i hi => (ag2 i fun z => hi (List.mem_append_right _ z)).trans (ag1 i fun z => hi (List.mem_append_left _ z))⟩
theorem gx_tup {ts : List Ty} {js : List Nat} {k n : Nat} {w : HT2 ts → HL Γ → (HL Γ1 → Prop) → (Xn → Prop) → Prop} (hc : X.calm = true) (h : Gy X TB Ξ Γ es ts js Γ1 w) (hts : ts.length = n := by rfl)
    (hn : (assignEach es X.env).length = n := by rfl) (hst : (assignEach es X.env).findIdx? (·.1) = none := by rfl) : Gx X TB Ξ Γ (.Tuple es k pos) (tTpl ts) js Γ1 w := ⟨pg_weak (L2.pg_tup hc h.pg hn hst) fun v σ H Q h => by
  obtain ⟨s, F, F1, a, Qt, E, sr, tb, ⟨l, xs, rfl, hs, at1⟩, d, hw, hq, he⟩ := h
  exact ⟨l, xs, rfl, hs, by rw [at1.length]; exact hts, s, F, F1, a, Qt, E, sr, tb, at1, d, hw, hq, he⟩⟩
/-- a, b = c, d -/
@[reducible] def wPar {t u : Ty} (i j : Nat) (w : WT Γ Γ1 (HA [.val t, .val u])) {ρ : Type} : WS Γ (Cy.set_ (Cy.set_ Γ1 i (some t)) j (some u)) Γb Γc ρ := fun s Q => w s (fun a s1 => Q.nx (put (Cy.set_ Γ1 i (some t)) j (some u) a.2.1 (put Γ1 i (some t) a.1 s1))) Q.ex
theorem sx_par {y : Str} {px py pt : Pos} {kt k2 : Nat} {pt2 : Pos} {w : WT Γ Γ1 (HA [.val t, .val u])} (i j : Nat) (hc : X.calm = true) (hN : X.N.Nodup) (ha : Pa X TB Ξ Γ [a, b] Γ1 [.val t, .val u] w) (hli : Cy.lt Γ1 i = true := by rfl) (hlj : Cy.lt (Cy.set_ Γ1 i (some t)) j = true := by rfl)
    (hij : i ≠ j := by decide) (hi : X.N[i]? = some x := by rfl) (hj : X.N[j]? = some y := by rfl) (hx : X.env.scope.names.lookup x = some .local := by rfl) (hy : X.env.scope.names.lookup y = some .local := by rfl)
    (hw : swappedStores [.Tuple [.Name x px, .Name y py] kt pt] (.Tuple [a, b] k2 pt2) X.env = pure (some [x, y]) := by rfl)
    (hs : swapsWithSole [.Tuple [.Name x px, .Name y py] kt pt] (.Tuple [a, b] k2 pt2) pos.line X.env = pure false := by rfl) :
    Sx X TB Ξ C vs Γ (.Assign [.Tuple [.Name x px, .Name y py] kt pt] (.Tuple [a, b] k2 pt2) pos) (Cy.set_ (Cy.set_ Γ1 i (some t)) j (some u)) Γb Γc (wPar i j w) := ⟨ps_weak (L2.ps_par hc hN hi hj hij hx hy ha.pa hw hs) fun D σ H h => by
  obtain ⟨s, F, Q, sr, tb, hw, hn, hr, hbk, hct, hx⟩ := h
  refine ⟨s, F, _, _, sr, tb, hw, fun q s1 vs' H1 F1 F2 q1 ak sr1 d1 c1 => ?_, fun x ex cls d H1 xa c => hx x ex cls d σ H1 xa c⟩
  obtain ⟨v, r, A, B, rfl, rfl, dab, at1, v2, r2, B1, B2, rfl, rfl, db, at2, e3, e4⟩ := ak
  subst e3
  subst e4
  rw [fo_fe] at dab d1 c1
  obtain ⟨F3, a1, a2⟩ := SR.put_ (i := i) (t := some t) (w := some v) (a := q.1) (G := A) (Cy.lt_len hli) sr1 ⟨v, rfl, at1⟩ (d1.sub (fun _ z => .inl z) fun _ z => z)
  obtain ⟨F4, a3, a4⟩ := SR.put_ (i := j) (t := some u) (w := some v2) (a := q.2.1) (G := B1) (Cy.lt_len hlj) a1 ⟨v2, rfl, at2⟩ (fun b x y => (a2 b y).elim (fun y => dab b y x) fun y => d1 b (.inr x) y)
  refine ⟨v, v2, rfl, hn _ _ H1 F4 q1 a3 (c1.sub fun b z => ?_)⟩
  rcases a4 b z with z | z
  · exact .inl (.inr z)
  · exact (a2 b z).imp .inl id⟩
end
end TY

set_option Elab.async false
set_option linter.all false
set_option maxRecDepth 100000
set_option maxHeartbeats 4000000
/-! TyJ: lent parameters, keyword calls, op=, items set, data of any form. -/
namespace TY
open PySem L2

theorem tru_I (i : Int) : Tru.tr (t := tInt) i = (i != 0) := rfl
theorem tru_Ig (i : Int) : Tru.g (t := tInt) i = True := rfl
theorem tru_S (l : List Nat) : Tru.tr (t := tS) l = !l.isEmpty := rfl
theorem tru_Sg (l : List Nat) : Tru.g (t := tS) l = (l.length ≤ sizeLine) := rfl
theorem tru_T {t : Ty} (l : List t.α) : Tru.tr (t := TY.tTup t) l = !l.isEmpty := rfl
theorem tru_Tg {t : Ty} (l : List t.α) : Tru.g (t := TY.tTup t) l = True := rfl
theorem tru_L {t : Ty} (l : List t.α) : Tru.tr (t := tList t) l = !l.isEmpty := rfl
theorem tru_Lg {t : Ty} (l : List t.α) : Tru.g (t := tList t) l = True := rfl
theorem imm_flat {α : Type} {f : α → V} : Imm (tFlat α f) := ⟨fun h => h.1⟩
theorem imm_tup {t : Ty} : Imm (TY.tTup t) := ⟨fun h => h.1⟩
theorem imm_ro {t : Ty} : Imm (tRo t) := ⟨fun h => h.1⟩
theorem imm_D : Imm tD := ⟨fun h => h.1⟩
theorem imm_opt {t : Ty} (i : Imm t) : Imm (tOpt t) := ⟨fun {K H F v a} h => by
  cases a with
  | none => exact h.1
  | some x => exact i.imm h.1⟩
theorem imms_nil : Imms [] := ⟨fun h => h.1⟩
theorem imms_cons {t : Ty} {ts : List Ty} (i : Imm t) (j : Imms ts) : Imms (t :: ts) := ⟨fun ⟨v, r, F1, F2, _, e, _, h1, h2⟩ => by rw [e, i.imm h1, j.imm h2, fe_fo]⟩
theorem imm_tpl {ts : List Ty} (i : Imms ts) : Imm (tTpl ts) := ⟨fun ⟨a, vs, ev, h, at_⟩ => i.imm at_⟩
/-- a parameter that its callee may change, lent on -/
@[reducible] def cj_borA {t : Ty} {v0 : V} {ks : List Ki} {ps : List Pm} {Γ : Cy} (i : Nat) (e : Cy.at_ Γ i = some (tAt v0 t)) (c : Cj ks ps (Cy.set_ Γ i none)) : Cj (.bor i :: ks) (.mu t :: ps) Γ where
  as := fun a s => (cst (t := tAt v0 t) e (get Γ i s), c.as a.2 (put Γ i none () s))
  pb := fun o s => pbk Γ i (tAt v0 t) e o.1 (c.pb o.2 (put Γ i none () s))
  ok := fun {K H F1 F2 vs a σ s} h sr d => by
    obtain ⟨v, r, G1, G2, rfl, rfl, dg, ⟨rfl, hv⟩, h2⟩ := h
    obtain ⟨v', J1, J2, b1, ⟨bv, b2⟩, b3, rfl, b5⟩ := sr.take_ e
    rw [hv] at b1
    cases b1
    have dG2 : Dj G2 J2 := fun b x y => d b (.inr x) (.inr y)
    obtain ⟨FA, FR, a1, a2, a3, a4⟩ := c.ok h2 b3 dG2
    have dJA : Dj J1 (fo FA FR) := by
      rw [a3]
      exact fun b x y => y.elim (fun y => d b (.inr y) (.inl x)) fun y => b5 b x y
    refine ⟨fo J1 FA, FR, ⟨v, r, J1, FA, rfl, rfl, dJA.sub (fun _ z => z) (fun _ z => .inl z), b2, a1⟩, dj_fo (dJA.sub (fun _ z => z) fun _ z => .inr z) a2, ?_, fun {H' FA' o} ao st k dd => ?_⟩
    · rw [fo_assoc, a3, fe_fo, ← fo_assoc, ← fo_assoc, fo_comm J1 G2]
    · obtain ⟨v', r', K1, K2, e', e2, dk, at1, ao⟩ := ao
      cases e'
      subst e2
      obtain ⟨F', c1, c2⟩ := a4 ao st k dd.fo_r
      obtain ⟨F'', c3, c4⟩ := SR.pbk_ (t := tAt v0 t) e c1 hv ⟨bv, at1⟩ (fun b x y => (c2 b y).elim (fun y => dk b x y) fun y => dd b (.inl x) y)
      exact ⟨F'', c3, fun b z => (c4 b z).elim (fun z => .inl (.inl z)) fun z => (c2 b z).imp .inr id⟩

/-! ### keyword calls -/
structure Prm (ks ks' : List Ki) where
  f : HA ks → HA ks'
  g : {α : Type} → List α → List α
  rel : ∀ {vs : List V} {us : List Value}, Vals vs us → Vals (g vs) (g us)
  ok : ∀ {K : PySem.W.Frag} {H : Hp} {σ : L2.St} {F : Fp} {vs : List V} {a : HA ks}, AK K H σ ks F vs a → AK K H σ ks' F (g vs) (f a)
@[reducible] def prm_id {ks : List Ki} : Prm ks ks := ⟨fun a => a, fun l => l, fun h => h, fun h => h⟩
@[reducible] def sw2 {α : Type} : List α → List α
  | a :: b :: r => b :: a :: r
  | l => l
@[reducible] def sk1 {α : Type} (g : List α → List α) : List α → List α
  | a :: r => a :: g r
  | [] => []
@[reducible] def prm_swap {k1 k2 : Ki} {ks : List Ki} : Prm (k1 :: k2 :: ks) (k2 :: k1 :: ks) := ⟨fun a => (a.2.1, a.1, a.2.2), sw2, fun h => by
  cases h with
  | nil => exact .nil
  | cons a r =>
    cases r with
    | nil => exact .cons a .nil
    | cons b r => exact .cons b (.cons a r), fun h => by
  obtain ⟨v, r, F1, F2, rfl, rfl, d, h1, w, r2, F3, F4, rfl, rfl, d2, h2, h3⟩ := h
  refine ⟨w, v :: r2, F3, fo F1 F4, rfl, ?_, fun b x y => y.elim (fun y => d b y (.inl x)) fun y => d2 b x y, h2, v, r2, F1, F4, rfl, rfl, fun b x y => d b x (.inr y), h1, h3⟩
  rw [← fo_assoc, ← fo_assoc, fo_comm F1 F3]⟩
@[reducible] def prm_skip {k : Ki} {ks ks' : List Ki} (p : Prm ks ks') : Prm (k :: ks) (k :: ks') := ⟨fun a => (a.1, p.f a.2), fun l => sk1 p.g l, fun h => by
  cases h with
  | nil => exact .nil
  | cons a r => exact .cons a (p.rel r), fun h => by
  obtain ⟨v, r, F1, F2, rfl, rfl, d, h1, h2⟩ := h
  exact ⟨v, _, F1, F2, rfl, rfl, d, h1, p.ok h2⟩⟩
@[reducible] def prm_trans {k1 k2 k3 : List Ki} (p : Prm k1 k2) (q : Prm k2 k3) : Prm k1 k3 := ⟨fun a => q.f (p.f a), fun l => q.g (p.g l), fun h => q.rel (p.rel h), fun h => q.ok (p.ok h)⟩

/-- the def x may be called with the keywords kn alone; g brings their values into the parameters' order -/
structure DfK (P : Program) (w : World) (K : PySem.W.Frag) (mg : Str → Option Value) (base : Heap) (TB : Addr → Prop) (x : Str) (k : Nat) (pn kn : List Str) (g : {α : Type} → List α → List α) (C : Ctr) : Prop where
  ex : ∃ f fd, FnOk P w K mg base (L2.CX P w) k f fd pn (C.sp K TB) ∧ mg x = some (.ref f) ∧ PySem.W.keepIn K (.ref f) = true ∧ ∀ (s : Shared) (ws : List Value), ws.length = kn.length → BindsTo s fd ⟨[], kn.zip ws⟩ (pn.zip (g ws))
theorem fun_kb {K : PySem.W.Frag} {x qual : Str} {st : Stmt} {f : Addr} {fd : FuncData} {pn kn : List Str} {g : {α : Type} → List α → List α} (F : Fun K x qual st f fd)
    (h : ∀ (kV doc pm : Value) (an : Option Addr) (cdv ct : Value) (ws : List Value), ws.length = kn.length → bindArgs (PySem.W.fnOf x qual (defArgs st) (defBody st) (defScope st) .none kV doc pm an cdv ct) ⟨[], kn.zip ws⟩ = pure (pn.zip (g ws))) :
    ∀ (s : Shared) (ws : List Value), ws.length = kn.length → BindsTo s fd ⟨[], kn.zip ws⟩ (pn.zip (g ws)) := by
  obtain ⟨oc, od, kV, doc, pm, an, cdv, ct, osl, rfl, lk, hcd⟩ := F.ex
  exact fun s ws hl => BindsTo.of_eq (h kV doc pm an cdv ct ws hl)
structure Pk (X : Cx) (TB : Addr → Prop) (Ξ : WX) (Γ : Cy) (kws : List Keyword) (Γ' : Cy) (ks : List Ki) (w : WT Γ Γ' (HA ks)) : Prop where
  pk : PK X kws (LA TB X.K Ξ Γ Γ' ks w)
theorem pk_weak {X : Cx} {e : List Keyword} {t t' : TA} (h : PK X e t) (i : ∀ σ H Q, t' σ H Q → t σ H Q) : PK X e t' := ⟨fun po pins s σ H Q I q => h.run po pins s σ H Q I (i σ H Q q)⟩

section
variable {X : Cx} {TB : Addr → Prop} {Ξ : WX} {C : Ctr} {vs : List V} {Γ Γ1 Γ2 Γ3 Γ4 Γe Γb Γc : Cy} {tg e a b o : Expr} {es : List Expr} {pos p p2 apos kpos : Pos} {x : Str} {ks ks' : List Ki} {t u r te tr : Ty} {K : PySem.W.Frag} {kws : List Keyword} {k : Nat} {pn kn : List Str} {nm : Option Str}
theorem pk_nil_ : Pk X TB Ξ Γ [] Γ [] wNil := ⟨pk_weak L2.pk_nil fun σ H Q h => la_nil h⟩
theorem pk_cons_ {k : Ki} {ks : List Ki} {wa : WT Γ Γ1 k.α} {wb : WT Γ1 Γ2 (HA ks)} (ha : Ex X TB Ξ Γ e Γ1 k wa) (hb : Pk X TB Ξ Γ1 kws Γ2 ks wb) : Pk X TB Ξ Γ (⟨nm, e, kpos⟩ :: kws) Γ2 (k :: ks) (wCons wa wb) :=
  ⟨pk_weak (L2.pk_cons ha.pe hb.pk) fun σ H Q h => la_cons h⟩
@[reducible] def wPrm {ks ks' : List Ki} (m : Prm ks ks') (w : WT Γ Γ1 (HA ks)) : WT Γ Γ1 (HA ks') := fun s Q E => w s (fun a s1 => Q (m.f a) s1) E
theorem la_prm {m : Prm ks ks'} {w : WT Γ Γ1 (HA ks)} {σ : L2.St} {H : Hp} {QH : List V → Hp → Prop} (h : LA TB K Ξ Γ Γ1 ks' (wPrm m w) σ H QH) : LA TB K Ξ Γ Γ1 ks w σ H fun zs H1 => QH (m.g zs) H1 := by
  obtain ⟨s, F, Q, E, sr, tb, hw, hq, he⟩ := h
  exact ⟨s, F, _, E, sr, tb, hw, fun a s1 vs H1 F1 F2 q ak sr1 d c => hq _ s1 _ H1 F1 F2 q (m.ok ak) sr1 d c, he⟩
theorem ak_len {H : Hp} {σ : L2.St} : ∀ {ks : List Ki} {F : Fp} {vs : List V} {a : HA ks}, AK K H σ ks F vs a → vs.length = ks.length
  | [], _, _, _, h => by rw [h.2]; rfl
  | k :: ks, _, _, _, ⟨v, r, F1, F2, e, _, _, _, h2⟩ => by rw [e, List.length_cons, List.length_cons, ak_len h2]
theorem la_len {w : WT Γ Γ1 (HA ks)} {σ : L2.St} {H : Hp} {QH : List V → Hp → Prop} (h : LA TB K Ξ Γ Γ1 ks w σ H QH) : LA TB K Ξ Γ Γ1 ks w σ H fun zs H1 => zs.length = ks.length ∧ QH zs H1 := by
  obtain ⟨s, F, Q, E, sr, tb, hw, hq, he⟩ := h
  exact ⟨s, F, Q, E, sr, tb, hw, fun a s1 vs H1 F1 F2 q ak sr1 d c => ⟨ak_len ak, hq _ s1 _ H1 F1 F2 q ak sr1 d c⟩, he⟩
theorem run_kw {g : {α : Type} → List α → List α} {sp : Sp} {f : Addr} {fd : FuncData} {E : XK} {pins : List (Addr × Obj)} {σ : L2.St} {H : Hp} {s : Shared} {Q : VK} {ws : List Value} {zs : List V} (F : FnOk X.prog X.w X.K X.mg X.base (L2.CX X.prog X.w) k f fd pn sp) (hr : Room k X.A)
    (hb : ∀ (s : Shared) (ws : List Value), ws.length = kn.length → BindsTo s fd ⟨[], kn.zip ws⟩ (pn.zip (g ws))) (hx : PassesAt (L2.CX X.prog X.w) X σ E)
    (I : Inv X pins σ H s) (rz : Vals zs ws) (rg : Vals (g zs) (g ws)) (l2 : zs.length = kn.length) (h : sp (g zs) H Q E) : wpAny (model X.prog X.w) X.A (call (.ref f) [] (kn.zip ws)) (EP X pins σ Q) X.xe s := by
  refine wpAny_call (codeAny_mono (F.run X.A X.stack s H ⟨[], kn.zip ws⟩ (g ws) (g zs) Q E hr I.env0 (hb s ws (rz.length.symm.trans l2)) rg h) fun r s' hq => ?_)
  cases r with
  | error e => exact hx pins H s e s' I hq
  | ok fl =>
    cases fl with
    | ret u => exact I.after hq
    | next => exact False.elim hq
    | brk => exact False.elim hq
    | cont => exact False.elim hq
theorem ex_callK {ps : List Pm} {cw : HT ps → (r.α → Hou ps → Prop) → (Xn → Prop) → Prop} {wa : WT Γ Γ1 (HA ks)} (m : Prm ks ks') (D : DfK X.prog X.w X.K X.mg X.base TB x k pn kn m.g ⟨ps, r, cw⟩) (hr : Room k X.A) (tk : Takes X Ξ) (ha : Pk X TB Ξ Γ kws Γ1 ks wa) (cj : Cj ks' ps Γ1) (hkl : kn.length = ks.length := by rfl) (hg : Gl X x := by rfl)
    (hall : (backToKw pos (keywordEach kws X.env)).all (·.1.isSome) = true := by rfl) (hks : (backToKw pos (keywordEach kws X.env)).filterMap (·.1) = kn := by rfl) (hdb : (x == ("__debug__" : Str)) = false := by decide)
    (hpl : ((backTo pos (starEach [] X.env)).any (·.1) || (backToKw pos (keywordEach kws X.env)).any (·.1.isNone)) = false := by rfl) :
    Ex X TB Ξ Γ (.Call (.Name x p) [] kws pos) Γ1 (.val r) (wApp (C := ⟨ps, r, cw⟩) (wPrm m wa) cj) := by
  obtain ⟨f, fd, F, hm, hk, hb⟩ := D.ex
  refine ⟨⟨fun pins s σ H Q I h => ?_⟩⟩
  have h2 := la_len (la_prm (app_imp (C := ⟨ps, r, cw⟩) h))
  refine wpAny_Call_Name_kw (ld_glob I hg hm ?_ hdb)
  refine PySem.W.callWith_KW0 (h₀ := X.base) I.ok.mod.kin hk hall ?_ hpl
  refine thn (ha.pk.run pos pins s σ H _ I h2) fun ws s2 ⟨zs, H2, I2, rz, l2, q2⟩ => ⟨I2.kIn, ?_⟩
  rw [hks]
  exact run_kw (E := WE Ξ σ) F hr hb (passAt tk σ) I2 rz (m.rel rz) (by rw [hkl]; exact l2) q2

/-! ### more operators -/
@[reducible] def CMulA (i j : Int) : Prop := CMul i j ∨ CMulW i j
theorem o_mulA : Op2 X TB (binaryOp .Mult) (cIg CMulA fun i j => i * j) := ⟨fun x y H Q => (rI CMul fun i j => .int (i * j)) x y H Q ∨ (rI CMulW fun i j => .int (i * j)) x y H Q, fun pins s σ H x y v u Q I rx ry h => h.elim (fun h => op_mul pins s σ H x y v u Q I rx ry h) fun h => op_mulW pins s σ H x y v u Q I rx ry h, fun vs H Q E z => by
  obtain ⟨v, v2, F, F2, a, b, P, rfl, ⟨rfl, rfl⟩, ⟨rfl, rfl⟩, d, ⟨q, p⟩, k⟩ := sp2 z
  exact ⟨_, _, rfl, q.imp (fun q => ⟨a, b, rfl, rfl, q, k _ _ H fe p ⟨rfl, rfl⟩ chg0⟩) fun q => ⟨a, b, rfl, rfl, q, k _ _ H fe p ⟨rfl, rfl⟩ chg0⟩⟩⟩
theorem o_modP : Op2 X TB (binaryOp .Mod) (cIg (fun _ j => 0 < j) fun i j => i % j) := op2_Ig op_mod
theorem ex_neg {w : WT Γ Γ1 Int} (h : Ex X TB Ξ Γ a Γ1 (.val tInt) w) : Ex X TB Ξ Γ (.UnaryOp .USub a pos) Γ1 (.val tInt) (fun s Q E => w s (fun (i : Int) s1 => Q (-i) s1) E) := ⟨pe_weak (pe_un un_neg h.pe) fun σ H Q h => by
  obtain ⟨s, F, Qt, E, sr, tb, hw, hq, he⟩ := h
  exact ⟨s, F, _, E, sr, tb, hw, fun i s1 v H1 F1 F2 q at1 sr1 d1 c1 => ⟨i, at1.2, hq _ s1 _ H1 fe F2 q ⟨rfl, rfl⟩ sr1 (fe_dj _) (by rw [fe_fo]; exact c1.sub fun b z => .inr z)⟩, he⟩⟩
/-- x op= e of ints -/
def Ip2 (X : Cx) (op : Operator) (g : Int → Int → Prop) (f : Int → Int → Int) : Prop := PIp X op fun x y H Q => ∃ i j, x = .int i ∧ y = .int j ∧ g i j ∧ Q (.int (f i j)) H
theorem i_add : Ip2 X .Add (fun _ _ => True) fun i j => i + j := fun pins s σ H x y v u Q I rx ry ⟨i, j, a, b, _, q⟩ => ip_add pins s σ H x y v u Q I rx ry ⟨i, j, a, b, q⟩
theorem i_sub : Ip2 X .Sub (fun _ _ => True) fun i j => i - j := fun pins s σ H x y v u Q I rx ry ⟨i, j, a, b, _, q⟩ => ip_sub pins s σ H x y v u Q I rx ry ⟨i, j, a, b, q⟩
theorem i_fdiv : Ip2 X .FloorDiv CDivW fun i j => i / j := fun pins s σ H x y v u Q I rx ry ⟨i, j, e1, e2, c, q⟩ => by
  subst e1
  subst e2
  obtain ⟨t, rfl⟩ := rx
  obtain ⟨t', rfl⟩ := ry
  have h1 : (0 : Int) < j := c.1
  exact PyProof.Rows.ifloordiv_int (by omega) (by rw [Int.fdiv_eq_ediv_of_nonneg i (by omega)]; exact ⟨.int _, H, I.tok _, ⟨_, rfl⟩, q⟩) (.inl (PyProof.noPylong_of_log2 c.2))
theorem i_mul : Ip2 X .Mult CMul fun i j => i * j := fun pins s σ H x y v u Q I rx ry ⟨i, j, e1, e2, c, q⟩ => by
  subst e1
  subst e2
  obtain ⟨t, rfl⟩ := rx
  obtain ⟨t', rfl⟩ := ry
  exact PyProof.Rows.imul_int ⟨.int _, H, I.tok _, ⟨_, rfl⟩, q⟩ c.ok
theorem i_xor : Ip2 X .BitXor (fun _ _ => True) fun i j => Builtin.bitXor i j := fun pins s σ H x y v u Q I rx ry ⟨i, j, e1, e2, c, q⟩ => by
  subst e1
  subst e2
  obtain ⟨t, rfl⟩ := rx
  obtain ⟨t', rfl⟩ := ry
  exact PyProof.Rows.ixor_int ⟨.int _, H, I.tok _, ⟨_, rfl⟩, q⟩
@[reducible] def wAug {ρ : Type} (i : Nat) (e : Cy.at_ Γ i = some tInt) (g : Int → Int → Prop) (f : Int → Int → Int) (w : WT Γ Γ Int) : WS Γ (Cy.set_ Γ i (some tInt)) Γb Γc ρ := fun s Q => w s (fun y s1 => g (cst e (get Γ i s)) y ∧ Q.nx (put Γ i (some tInt) (f (cst e (get Γ i s)) y) s1)) Q.ex
theorem sx_aug {op : Operator} {g : Int → Int → Prop} {f : Int → Int → Int} {w : WT Γ Γ Int} {pos' : Pos} (i : Nat) (o : Ip2 X op g f) (hN : X.N.Nodup) (h : Ex X TB Ξ Γ e Γ (.val tInt) w) (hi : Cy.at_ Γ i = some tInt := by rfl) (hl : Cy.lt Γ i = true := by rfl) (hx : X.N[i]? = some x := by rfl)
    (hlo : Loc X.env.scope x := by first | exact Or.inl rfl | exact Or.inr rfl) (hf : X.fn x = true ∨ X.env.scope.names.lookup x = some .local := by first | exact .inl rfl | exact .inr rfl | assumption) :
    Sx X TB Ξ C vs Γ (.AugAssign (.Name x pos') op e pos) (Cy.set_ Γ i (some tInt)) Γb Γc (wAug i hi g f w) := ⟨ps_weak (L2.ps_aug hN hx hlo h.pe o hf) fun D σ H h => by
  obtain ⟨s, F, Q, sr, tb, hw, hn, hr, hbk, hct, hx⟩ := h
  obtain ⟨v, F1, h1, ⟨rfl, rfl⟩, _⟩ := sr.get_ hi
  refine ⟨_, h1, s, F, _, _, sr, tb, hw, fun y s1 v H1 F1 F2 q1 at1 sr1 d1 c1 => ?_, fun x ex cls d H1 xa c => hx x ex cls d σ H1 xa c⟩
  obtain ⟨rfl, rfl⟩ := at1
  obtain ⟨F', a1, a2⟩ := SR.put_ (i := i) (t := some tInt) (w := some (.int (f (cst hi (get Γ i s)) y))) (a := f (cst hi (get Γ i s)) y) (G := fe) (Cy.lt_len hl) sr1 ⟨_, rfl, rfl, rfl⟩ (fe_dj _)
  exact ⟨_, _, rfl, rfl, q1.1, hn _ _ H1 F' q1.2 a1 (c1.sub fun b z => (a2 b z).elim (fun z => z.elim) .inr)⟩⟩

/-! ### xs[i] = v -/
theorem gx_setL [im : Imm t] {o ix : Expr} {w : WT Γ Γ Int} (i : Nat) (e : Cy.at_ Γ i = some (tList t)) (ho : Ex X TB Ξ Γ o Γ (.bor i) (wPure fun _ => ())) (hi : Ex X TB Ξ Γ ix Γ (.val tInt) w)
    (ha : ∀ v, assign (.Subscript o ix pos) X.env v = (do
      let ov ← holding [v] (eval o X.env)
      let iv ← holding [v, ov] (eval ix X.env)
      standAt pos
      holding [v, ov, iv] (setItem ov iv v)
      release [v, ov, iv] []) := by intro _; rfl) :
    Gx X TB Ξ Γ (.Subscript o ix pos) t [] Γ (fun a s Q E => w s (fun k s1 => ∃ j, ixN (cst e (get Γ i s1)).length k = some j ∧ Q (pbk Γ i (tList t) e ((cst e (get Γ i s1)).set j a) (put Γ i none () s1))) E) := ⟨pg_weak (L2.pg_sub ho.pe hi.pe set_list ha) fun v σ H Q h => by
  obtain ⟨s, F, F1, a, Qt, E, sr, tb, at1, d, hw, hq, he⟩ := h
  have ef := im.imm at1
  subst ef
  refine ⟨s, F, (fun _ s1 => s1 = s), FE, sr, tb, rfl, fun _ s1 vo H1 G1 G2 q1 ⟨eg, hvo⟩ sr1 d1 c1 => ?_, fun _ z => z.elim⟩
  subst q1
  subst eg
  rw [fe_fo] at c1
  refine ⟨s1, G2, _, E, sr1, tb.stay (c1.stay sr.own), hw, fun kx s2 vk H2 G3 G4 q2 at2 sr2 d2 c2 => ?_, fun x ex cls dd H' xa c => he x ex cls dd σ H' xa ((c1.trans c).sup fun b z => .inr z)⟩
  obtain ⟨rfl, rfl⟩ := at2
  obtain ⟨j, hj, q⟩ := q2
  rw [fe_fo] at c2
  have c12 := c1.trans c2
  obtain ⟨v', J1, J2, b1, ⟨l, ws, rfl, rfl, hl, al⟩, b3, rfl, b5⟩ := sr2.take_ e
  rw [hvo] at b1
  cases b1
  have at2 := at1
  have at3 : t.at_ X.K H2 fe v a := t.keep at1 (c12.stay sr.own) fun _ _ z _ => z.elim
  have st : Stay H2 (upd H2 l (.lst (ws.set j v))) := stay_w hl trivial
  refine ⟨l, ws, kx, j, rfl, rfl, hl, by rw [al.length]; exact hj, ?_⟩
  have b3' := b3.keep st fun b o z h => by
    rw [upd_ne (fun e => b5 b (show f1 l b from e) z)]
    exact h
  obtain ⟨F', c3, c4⟩ := SR.pbk_ (t := tList t) (v := .ref l) (a := (cst e (get Γ i s2)).set j a) (G := f1 l) e b3' hvo ⟨l, _, rfl, rfl, upd_same, (Al.set at3 j al).keep st⟩ b5
  exact hq _ σ _ F' q c3 (((c12.trans (Chg.write (.inl rfl))).sub c4).sup fun b z => .inr z) fun _ _ => rfl⟩

/-! ### a built-in class as a value, isinstance, data -/
@[reducible] def tTyp (T : String) : Ty := tFlat Unit fun _ => V.ty T
theorem ex_typ {T : String} (hm : X.mg x = none) (hv : bootBuiltins x = some (.type T)) (hg : Gl X x := by rfl) (hn : x ≠ "__name__" := by decide) (hdb : (x == ("__debug__" : Str)) = false := by decide) : Ex X TB Ξ Γ (.Name x pos) Γ (.val (tTyp T)) (wPure fun _ => ()) :=
  ex_const (L2.pe_bltn hg hm hv (show RelV (.ty T) _ from rfl) hn hdb) fun _ _ => ⟨rfl, rfl⟩
@[reducible] def D.tag : D → String
  | .non => "NoneType"
  | .bl _ => "bool"
  | .int _ => "int"
  | .str _ => "str"
  | .tup _ => "tuple"
@[reducible] def D.isN : D → Bool | .non => true | _ => false
@[reducible] def D.isT : D → Bool | .tup _ => true | _ => false
@[reducible] def D.isB : D → Bool | .bl _ => true | _ => false
@[reducible] def D.isI : D → Bool | .int _ => true | .bl _ => true | _ => false
@[reducible] def D.isS : D → Bool | .str _ => true | _ => false
theorem DP.ty {H : Hp} {v : V} {d : D} (h : DP K H v d) : TyX K H v (.type d.tag) := by
  cases h with
  | non => exact .base .non
  | bl b => exact .base (.bl b)
  | int i => exact .base (.int i)
  | str x => exact .base (.str _)
  | tup h1 _ =>
    rcases h1 with (h1 | ⟨o, h1⟩) | ⟨o, its, n, h1, h2, _⟩
    · exact .base (.tup h1)
    · exact .fTuple h1
    · exact .kTuple h1 h2
theorem c_isi (T : String) (f : D → Bool) (h : ∀ d : D, kitB d.tag T = some (f d)) : CallO X TB (.builtin "isinstance") (pc2 tD (tTyp T) tBool fun d _ P => P (f d)) := ⟨_, call_isi, fun vs H Q E z => by
  obtain ⟨v, v2, F, F2, a, b, P, rfl, ⟨rfl, h1⟩, ⟨rfl, rfl⟩, d, p, k⟩ := sp2 z
  exact ⟨_, _, _, _, _, rfl, .ty T, h1.ty, kit_ty (h a), k _ _ H fe p ⟨rfl, rfl⟩ chg0⟩⟩
theorem kit_T (d : D) : kitB d.tag "tuple" = some d.isT := by
  cases d
  · show kitB "NoneType" "tuple" = some false
    decide +kernel
  · show kitB "bool" "tuple" = some false
    decide +kernel
  · show kitB "int" "tuple" = some false
    decide +kernel
  · show kitB "str" "tuple" = some false
    decide +kernel
  · show kitB "tuple" "tuple" = some true
    decide +kernel
theorem kit_B (d : D) : kitB d.tag "bool" = some d.isB := by
  cases d
  · show kitB "NoneType" "bool" = some false
    decide +kernel
  · show kitB "bool" "bool" = some true
    decide +kernel
  · show kitB "int" "bool" = some false
    decide +kernel
  · show kitB "str" "bool" = some false
    decide +kernel
  · show kitB "tuple" "bool" = some false
    decide +kernel
theorem kit_I (d : D) : kitB d.tag "int" = some d.isI := by
  cases d
  · show kitB "NoneType" "int" = some false
    decide +kernel
  · show kitB "bool" "int" = some true
    decide +kernel
  · show kitB "int" "int" = some true
    decide +kernel
  · show kitB "str" "int" = some false
    decide +kernel
  · show kitB "tuple" "int" = some false
    decide +kernel
theorem kit_S (d : D) : kitB d.tag "str" = some d.isS := by
  cases d
  · show kitB "NoneType" "str" = some false
    decide +kernel
  · show kitB "bool" "str" = some false
    decide +kernel
  · show kitB "int" "str" = some false
    decide +kernel
  · show kitB "str" "str" = some true
    decide +kernel
  · show kitB "tuple" "str" = some false
    decide +kernel
theorem DPs.length {H : Hp} : ∀ {vs : List V} {ds : List D}, DPs K H vs ds → vs.length = ds.length
  | _, _, .nil => rfl
  | _, _, .cons _ r => by rw [List.length_cons, List.length_cons, DPs.length r]
theorem DPs.get {H : Hp} : ∀ {vs : List V} {ds : List D} {i : Nat} {d : D}, DPs K H vs ds → ds[i]? = some d → ∃ v, vs[i]? = some v ∧ DP K H v d
  | _, _, _, _, .nil, e => by simp at e
  | _, _, 0, _, .cons h _, e => by simp at e; subst e; exact ⟨_, rfl, h⟩
  | _, _, i + 1, x, .cons _ r, e => by
    obtain ⟨v, h1, h2⟩ := DPs.get (i := i) r (by simpa using e)
    exact ⟨v, by simpa using h1, h2⟩
theorem DPs.atI {H : Hp} {vs : List V} {ds : List D} {b : Int} {y : D} (h2 : DPs K H vs ds) (q : L2.atI ds b = some y) : ∃ w, L2.atI vs b = some w ∧ DP K H w y := by
  unfold L2.atI at q ⊢
  rw [h2.length]
  cases e : ixN ds.length b with
  | none => rw [e] at q; cases q
  | some j =>
    rw [e] at q
    exact h2.get q
theorem c_lenD : CallO X TB (.builtin "len") (pc1 tD tInt fun d P => ∃ ds, d = .tup ds ∧ P ((ds.length : Nat) : Int)) := ⟨_, call_len_seq, fun vs H Q E z => by
  obtain ⟨v, F, a, P, rfl, ⟨rfl, h1⟩, ⟨ds, rfl, p⟩, k⟩ := sp1 z
  cases h1 with
  | tup h1 h2 =>
    refine ⟨_, _, rfl, .inr h1, ?_⟩
    rw [h2.length]
    exact k _ _ H fe p ⟨rfl, rfl⟩ Chg.refl⟩
theorem x_D : IxO X TB (pc2 tD tInt tD fun d b P => ∃ ds y, d = .tup ds ∧ atI ds b = some y ∧ P y) := ⟨_, ix_tup, fun vs H Q E z => by
  obtain ⟨v, v2, F, F2, a, b, P, rfl, ⟨rfl, h1⟩, ⟨rfl, rfl⟩, d, ⟨ds, y, rfl, q, p⟩, k⟩ := sp2 z
  cases h1 with
  | tup h1 h2 =>
    obtain ⟨w, e1, e2⟩ := h2.atI q
    exact ⟨_, _, rfl, _, _, b, w, rfl, rfl, h1, e1, k _ _ H fe p ⟨rfl, e2⟩ chg0⟩⟩
theorem o_isND : Op2 X TB (compareOp .Is) (pc2 tD tNone tBool fun a _ P => P a.isN) := ⟨_, op_isN, fun vs H Q E z => by
  obtain ⟨v, v2, F, F2, a, b, P, rfl, ⟨rfl, h1⟩, ⟨rfl, rfl⟩, d, p, k⟩ := sp2 z
  refine ⟨_, _, rfl, rfl, ?_⟩
  have e : decide (v = V.non) = a.isN := by cases h1 <;> first | rfl | exact decide_eq_false fun z => by cases z
  rw [e]
  exact k _ _ H fe p ⟨rfl, rfl⟩ chg0⟩
/-- two of one flat kind -/
@[reducible] def D.like : D → D → Prop
  | .bl _, .bl _ => True
  | .int _, .int _ => True
  | .str _, .str _ => True
  | _, _ => False
theorem o_eqF : Op2 X TB (compareOp .Eq) (pc2 tD tD tBool fun a b P => a.like b ∧ (a = b → P true) ∧ (a ≠ b → P false)) := ⟨_, op_eq, fun vs H Q E z => by
  obtain ⟨v, v2, F, F2, a, b, P, rfl, ⟨rfl, h1⟩, ⟨rfl, h2⟩, d, ⟨l, p1, p2⟩, k⟩ := sp2 z
  have fin : ∀ (r : Bool), (r = true ↔ a = b) → Q (.bl r) H := fun r hr => by
    cases r with
    | true => exact k _ _ H fe (p1 (hr.mp rfl)) ⟨rfl, rfl⟩ chg0
    | false => exact k _ _ H fe (p2 fun z => by cases hr.mpr z) ⟨rfl, rfl⟩ chg0
  refine ⟨_, _, rfl, ?_⟩
  cases h1 <;> cases h2 <;> first | exact l.elim | skip
  · exact ⟨rfl, fin _ (by simp)⟩
  · exact ⟨rfl, fin _ (by simp)⟩
  · exact ⟨rfl, fin _ (by rw [S_dec]; simp)⟩⟩
end
end TY

set_option Elab.async false
set_option linter.all false
set_option maxRecDepth 100000
set_option maxHeartbeats 4000000
/-! TyX: generator expressions whose elements are any expressions: their context, their turns. -/
namespace TX
open PySem L2 PyProof.Rows GenW

/-- the context of a generator expression's frame: made at s, its iterator's objects at fp -/
abbrev Cx.gb (X : Cx) (A' : Around) (s : Shared) (H : Hp) (cenv : Env) (fp : List Addr) : Cx := { X with A := A', s_0 := s, H_0 := H, env := cenv, outer := X.stack, stack := cenv :: X.stack, ex := fp, fn := fun _ => false, calm := true, pn := [], xe := fun _ _ => False }
section
variable {X : Cx} {pins : List (Addr × Obj)} {σ : L2.St} {H : Hp} {s : Shared}
theorem gen_start {scope : Scope} {own : List (Str × Nat)} {fp : List Addr} {A' : Around} {code : Value} {C : Addr} {s' : Shared} {mm : Str → Option Value} (I : Inv X pins σ H s) (ok : BlkOk X.N X.env.scope scope own) (hN : X.N.Nodup) (hcell : ∀ y ∈ scope.names, y.2 ≠ .cell)
    (hA : A'.handled = none) (hAf : A'.frames = some (genEnv scope (cloFrom X.env.cells scope.names []) C code builtinsNs X.env :: X.stack)) (hfp : ∀ b ∈ fp, FpOk X pins H b ∧ b < s.heap.objs.size)
    (kp : ∀ b o, s.heap.get? b = some o → s'.heap.get? b = some o) (os : s'.os = s.os) (bare : AllBare s'.gens) (ns : s'.heap.Ns C mm) (hC : s.heap.objs.size ≤ C) :
    Inv (Cx.gb X A' s H (genEnv scope (cloFrom X.env.cells scope.names []) C code builtinsNs X.env) fp) [] (wipe σ (own.map (·.2))) H s' := by
  have hfree : ∀ y ∈ scope.names, y.2 = .free → ∃ c, X.env.cells.lookup y.1 = some c := fun y hy e => by
    rcases ok.free y hy e with k | k
    · exact I.ok.has _ (.inl k)
    · exact I.ok.has _ (.inr k)
  generalize hcenv : genEnv scope (cloFrom X.env.cells scope.names []) C code builtinsNs X.env = cenv at hAf ⊢
  have hL : cenv.locals = C := by rw [← hcenv]; rfl
  have hcl : cenv.cells = cloFrom X.env.cells scope.names [] := by rw [← hcenv]; rfl
  have hsc : cenv.scope = scope := by rw [← hcenv]; rfl
  have hfr : cenv.frame = some cenv.locals := by rw [← hcenv]; rfl
  have cm : ∀ {y c}, (y, c) ∈ cloFrom X.env.cells scope.names [] → X.env.cells.lookup y = some c ∧ c < s.heap.objs.size := fun {y c} hm => by
    rcases cloFrom_mem hm with hm | ⟨h1, rfl⟩
    · cases hm
    · obtain ⟨c, hc⟩ := hfree _ h1 rfl
      rw [hc]
      obtain ⟨w, z⟩ := I.cell _ _ hc
      exact ⟨rfl, z.lt⟩
  have mem : ∀ {y c}, cenv.cells.lookup y = some c → X.env.cells.lookup y = some c ∧ c < s.heap.objs.size := fun {y c} e => by
    rw [hcl] at e
    exact cm (PySem.mem_of_lookup e)
  have look : ∀ {y}, scope.names.lookup y = some .free → ∃ c, cenv.cells.lookup y = some c ∧ X.env.cells.lookup y = some c := fun {y} hl => by
    have hy : (y, NameKind.free) ∈ scope.names := PySem.mem_of_lookup hl
    obtain ⟨c', e'⟩ := mem_lookup (cloFrom_has (cells := X.env.cells) (acc := []) hy)
    rw [← hcl] at e'
    exact ⟨c', e', (mem e').1⟩
  have noC : ∀ {y}, cenv.kindOf y ≠ some .cell := fun {y} h => by
    unfold Env.kindOf at h
    rw [hsc] at h
    exact hcell _ (PySem.mem_of_lookup h) rfl
  have okB : (Cx.gb X A' s H cenv fp).Ok := by
    refine ⟨I.ok.mod, by show cenv.scope.kind = _; rw [hsc]; exact ok.kind, by show cenv.globals = _; rw [← hcenv]; exact I.ok.glob, by show cenv.builtins = _; rw [← hcenv] <;> rfl, by show s.heap.objs.size ≤ cenv.locals; rw [hL]; exact hC,
      fun y z c e1 e2 => I.ok.inj y z c (mem (show cenv.cells.lookup y = some c from e1)).1 (mem (show cenv.cells.lookup z = some c from e2)).1, fun y hy => ?_, fun y c z e => Bool.noConfusion z, fun _ => hA, hAf, .inr ⟨rfl, hfr⟩, fun b hb => ⟨?_, fun y c e z => ?_⟩, I.bs, Nat.le_trans I.ok.bsz I.sz, fun b o e hb => ?_, fun b hb z => ?_, I.stack, I.stkFree⟩
    · show ∃ c, cenv.cells.lookup y = some c
      rcases hy with hy | hy
      · exact absurd hy noC
      · have hy : cenv.scope.names.lookup y = some .free := hy
        rw [hsc] at hy
        obtain ⟨c, h1, _⟩ := look hy
        exact ⟨c, h1⟩
    · show b ≠ cenv.locals
      rw [hL]; exact Nat.ne_of_lt (Nat.lt_of_lt_of_le (hfp b hb).2 hC)
    · exact (hfp b hb).1.2.2.2.2.1 y c (mem (show cenv.cells.lookup y = some c from e)).1 z
    · rcases (hfp b hb).1.2.2.2.1 with z | z
      · exact I.ok.noex b o e z
      · exact absurd (Nat.lt_of_lt_of_le (Heap.lt_size e) (Nat.le_trans I.ok.bsz z)) (Nat.lt_irrefl _)
    · rcases List.mem_cons.mp (I.stkSub b z) with z | z
      · exact (hfp b hb).1.2.1 z
      · exact (hfp b hb).1.2.2.1 z
  refine ⟨okB, os, bare, Un.kept kp, ⟨mm, ?_, fun i y av e1 e2 e3 => ?_⟩, fun y c e => ?_, ?_, fun y c e => ?_, fun p hp => ?_, I.hok.kept kp, by rw [wipe_length]; exact I.len⟩
  · show Heap.Ns _ cenv.locals _
    rw [hL]
    exact ns
  · obtain ⟨e2, hne⟩ := wipe_some e2
    have hf : scope.names.lookup y = some .free := by
      have key : ∀ k, scope.names.lookup y = some k → k = .local ∨ k = .cell ∨ k = .free → scope.names.lookup y = some .free := fun k hk hk' => by
        have no : ¬ (k = .local ∨ k = .cell) := fun hh => by
          rcases ok.own _ (PySem.mem_of_lookup hk) hh with e' | e'
          · obtain ⟨p, hp, hpy⟩ := List.mem_map.mp e'
            have e3 := ok.ix p hp
            have : p.1 = y := hpy
            rw [this] at e3
            exact hne (List.mem_map.mpr ⟨p, hp, nodup_ix hN e3 e1⟩)
          · exact e' (List.mem_of_getElem? e1)
        rcases hk' with z | z | z
        · exact absurd (.inl z) no
        · exact absurd (.inr z) no
        · rw [z] at hk; exact hk
      have e3 : Vis cenv.scope y := e3
      rw [hsc] at e3
      rcases e3 with e3 | e3 | e3
      · exact key _ e3 (.inl rfl)
      · exact key _ e3 (.inr (.inl rfl))
      · exact e3
    obtain ⟨m, hn, hl⟩ := I.loc
    have hvis : Vis X.env.scope y := (ok.free _ (PySem.mem_of_lookup hf) rfl).elim (fun k => .inr (.inl k)) (fun k => .inr (.inr k))
    obtain ⟨w, r, q⟩ := hl i y av e1 e2 hvis
    refine ⟨w, r, .inr ⟨.inr ?_, ?_⟩⟩
    · show cenv.scope.names.lookup y = some .free
      rw [hsc]; exact hf
    obtain ⟨c, h1, h2⟩ := look hf
    rcases q with ⟨k, _⟩ | ⟨_, c', e', z⟩
    · have k : X.env.scope.names.lookup y = some .local := k
      rcases ok.free _ (PySem.mem_of_lookup hf) rfl with k' | k' <;> rw [show X.env.scope.names.lookup y = _ from k'] at k <;> cases k
    · rw [h2] at e'; cases e'
      exact ⟨c, h1, z.keeps kp⟩
  · obtain ⟨w, z⟩ := I.cell y c (mem (show cenv.cells.lookup y = some c from e)).1
    exact ⟨w, z.keeps kp⟩
  · show H cenv.locals = none
    rw [hL]; exact I.hok.fresh hC
  · exact I.freeC y c (mem (show cenv.cells.lookup y = some c from e)).1
  · exact absurd (show p ∈ ([] : List (Addr × Obj)) ++ [] from hp) (by simp)

/-! ### while the generator sleeps -/
/-- the consumer changes what stands at SL alone -/
structure Wk (SL : List Addr) (s s' : Shared) : Prop where
  os : s'.os = s.os
  bare : AllBare s'.gens
  keep : ∀ b o, b ∉ SL → s.heap.get? b = some o → s'.heap.get? b = some o
  own : ∀ b ∈ SL, ∃ o, s'.heap.get? b = some o ∧ ∀ v, o.data ≠ .cell v
/-- what holds of the generator's state between two turns: pl is pinned, SL the consumer's -/
structure GIv (X : Cx) (pl : List (Addr × Obj)) (SL : List Addr) (σ : L2.St) (H : Hp) (s : Shared) : Prop where
  inv : Inv X pl σ H s
  fp : ∀ b ∈ SL, FpOk X pl H b
  obj : ∀ b ∈ SL, ∃ o, s.heap.get? b = some o ∧ ∀ v, o.data ≠ .cell v
variable {pl : List (Addr × Obj)} {SL : List Addr} {s' : Shared}
theorem inv_wk (I : Inv X pins σ H s) (hS : ∀ b ∈ SL, FpOk X pins H b) (z : Wk SL s s') : Inv X pins σ H s' := by
  obtain ⟨z1, z2, z3, z4⟩ := z
  obtain ⟨hh, g, d, t, o⟩ := s'
  have ho : o = s.os := z1
  subst ho
  have nt : ∀ b u, H b = some u → b ∉ SL := fun b u q hb => by rw [(hS b hb).1] at q; cases q
  refine I.step (g' := g) (t' := t) (d' := d) (ch := SL) (fun b hb => ⟨(hS b hb).2.2.2.1, (hS b hb).2.1, (hS b hb).2.2.2.2.1, (hS b hb).2.2.2.2.2⟩)
    (fun b ob _ _ hc q _ => z3 b ob hc q) (fun b ob _ _ hc q _ => ⟨ob.slots, z3 b ob hc q⟩) (fun _ _ _ _ n => n) (fun b ob hc q => ⟨ob, z3 b ob hc q⟩)
    (fun _ _ q => q) (fun _ _ _ q => q) (fun b ps q => ⟨#[], by rw [q]; simp⟩) (fun m hm => ?_) (fun b u q => ?_) z2
  · obtain ⟨ob, es, ep, ho, r⟩ := hm
    exact ⟨ob, es, ep, z3 _ ob (fun hb => (hS _ hb).2.1 rfl) ho, r⟩
  · refine (I.hok b u q).stay (fun c v hc y => z3 c v ?_ y) (fun _ y => y) fun _ _ y => y
    rcases hc with y | y
    · rw [y]; exact nt b u q
    · exact nt c _ y
theorem GIv.wk (G : GIv X pl SL σ H s) (z : Wk SL s s') : GIv X pl SL σ H s' := ⟨inv_wk G.inv G.fp z, G.fp, z.own⟩
theorem Wk.refl (hb : AllBare s.gens) (ho : ∀ b ∈ SL, ∃ o, s.heap.get? b = some o ∧ ∀ v, o.data ≠ .cell v) : Wk SL s s := ⟨rfl, hb, fun _ _ _ e => e, ho⟩

/-! ### the turns -/
/-- the reading of a generator expression of the deterministic yields ys: j are out, turn i is next -/
def GTurn (J : It) (g : TG) (tt : TT) (te : TE) (vs : List Nat) (σ : L2.St) (ys : List V) (N : Nat) (W : Nat → Nat → Hp → Prop) : Prop := ∀ j i H, W j i H → i ≤ N ∧ j ≤ ys.length ∧
  ((J.stop i H ∧ j = ys.length) ∨ (i < N ∧ J.go i H ∧ ∀ x H', J.yld i H x H' → g x (wipe σ vs) H' fun σ2 H2 => wipe σ2 vs = wipe σ vs ∧ tt σ2 H2 fun b H3 =>
    if b = true then te σ2 H3 fun y H4 => ys[j]? = some y ∧ W (j + 1) (i + 1) H4 else W j (i + 1) H3))
def GR (X : Cx) (pl : List (Addr × Obj)) (SL : List Addr) (σ : L2.St) (ys : List V) (W : Nat → Nat → Hp → Prop) : Nat → Shared → Shared → Prop := fun n s₀ s1 => n = 0 ∧ ∃ i H, W ys.length i H ∧ GIv X pl SL σ H s1 ∧ ∀ b ∈ SL, s1.heap.get? b = s₀.heap.get? b
def GY (X : Cx) (pl : List (Addr × Obj)) (SL : List Addr) (σ : L2.St) (ys : List V) (W : Nat → Nat → Hp → Prop) : Protocol := fun n s₀ v s1 kap => ∃ j y i H, n + 1 + j = ys.length ∧ ys[j]? = some y ∧ RelV y v ∧ W (j + 1) i H ∧ GIv X pl SL σ H s1 ∧
  (∀ b ∈ SL, s1.heap.get? b = s₀.heap.get? b) ∧ ∀ s'', Wk SL s1 s'' → kap (.send .none) s''
def REnd (F : Nat → Shared → Shared → Prop) : GenEnd := fun n s₀ r s₁ => ((r = .ok (.ret .none) ∨ r = .ok .next) ∧ F n s₀ s₁) ∨ ∃ e, r = .error e ∧ False
theorem GIv.back {more : List (Addr × Obj)} {σ' : L2.St} {H' : Hp} (G : GIv X pl SL σ H s) (I : Inv X ((pl ++ pinsAt SL s.heap) ++ more) σ' H' s') : GIv X pl SL σ' H' s' ∧ ∀ b ∈ SL, s'.heap.get? b = s.heap.get? b := by
  have key : ∀ b ∈ SL, ∃ o, s.heap.get? b = some o ∧ s'.heap.get? b = some o ∧ H' b = none ∧ ∀ v, o.data ≠ .cell v := fun b hb => by
    obtain ⟨o, e, d⟩ := G.obj b hb
    have z := I.pin (b, o) (List.mem_append_right _ (List.mem_append_left _ (List.mem_append_right _ (mem_pinsAt hb e))))
    exact ⟨o, e, z.1, z.2.1, d⟩
  refine ⟨⟨I.pins_of fun p hp => I.pin p (List.mem_append_right _ (List.mem_append_left _ (List.mem_append_left _ hp))), fun b hb => ?_, fun b hb => ?_⟩, fun b hb => ?_⟩
  · obtain ⟨o, _, _, n, _⟩ := key b hb
    exact ⟨n, (G.fp b hb).2⟩
  · obtain ⟨o, _, e, _, d⟩ := key b hb
    exact ⟨o, e, d⟩
  · obtain ⟨o, e1, e2, _⟩ := key b hb
    rw [e1, e2]
theorem seg_bindG {α β : Type} {R : GenEnd} {Y : Protocol} {n : Nat} {s₀ s : Shared} {c : Code} {A : Around} {m : Sem α} {Kf : α → Sem β} {K' : β → Sem PySem.Fin} {H' : Value → Sem PySem.Fin} {gd : Bool → Bool} {lv : List Value → List Value} (hA : A.over c [] = X.A)
    (h : wpAny (model X.prog X.w) X.A m (fun a s' => Seg (model X.prog X.w) A R Y n s₀ c ((Kf a).wrap K' H' gd lv) [] s') (fun _ _ => False) s) : Seg (model X.prog X.w) A R Y n s₀ c ((m >>= Kf).wrap K' H' gd lv) [] s := by
  refine seg_bind_wrap ?_
  rw [hA]
  exact wpAny_mono h (fun _ _ z => z) fun _ _ z => z.elim
theorem seg_wrapG {α : Type} {R : GenEnd} {Y : Protocol} {n : Nat} {s₀ s : Shared} {c : Code} {A : Around} {m : Sem α} {Kf : α → Sem PySem.Fin} {H' : Value → Sem PySem.Fin} {gd : Bool → Bool} {lv : List Value → List Value} (hA : A.over c [] = X.A)
    (h : wpAny (model X.prog X.w) X.A m (fun a s' => Seg (model X.prog X.w) A R Y n s₀ c (Kf a) [] s') (fun _ _ => False) s) : Seg (model X.prog X.w) A R Y n s₀ c (m.wrap Kf H' gd lv) [] s := by
  refine seg_wrap ?_
  rw [hA]
  exact wpAny_mono h (fun _ _ z => z) fun _ _ z => z.elim
theorem seg_loop {elt tg iter : Expr} {ifs : List Expr} {scope : Scope} {pos : Pos} {it : Addr} {A : Around} {fp vs : List Addr} {J : It} {tn : Nat → Heap → Prop} {g : TG} {tt : TT} {te : TE} {ys : List V} {N : Nat} {W : Nat → Nat → Hp → Prop}
    (hA : A.over (.compLoop (.GeneratorExp elt [⟨tg, iter, ifs, 0⟩] scope pos) 0 (.ref it) .none X.env) [] = X.A) (hex : X.ex = fp) (hpn : X.pn = []) (hc : X.calm = true) (hxe : X.xe = fun _ _ => False)
    (hco : X.env.scope.isCoroutine = false) (T : Turn X.prog X.w X.K tg J fp it tn) (hpl : ∀ p ∈ pl, p.1 ∉ fp) (hSf : ∀ b ∈ SL, b ∉ fp) (hg : PG X tg g) (ht : PTs X ifs tt) (he : PE X elt te) (turn : GTurn J g tt te vs σ ys N W) :
    ∀ (k n i j : Nat) (s₀ s : Shared) (H : Hp), N - i = k → n + j = ys.length → W j i H → GIv X pl SL (wipe σ vs) H s → tn i s.heap → (∀ b ∈ fp, H b = none) → (∀ b ∈ SL, s.heap.get? b = s₀.heap.get? b) →
      Seg (model X.prog X.w) A (REnd (GR X pl SL (wipe σ vs) ys W)) (GY X pl SL (wipe σ vs) ys W) n s₀
        (.compLoop (.GeneratorExp elt [⟨tg, iter, ifs, 0⟩] scope pos) 0 (.ref it) .none X.env)
        ((model X.prog X.w).den (.compLoop (.GeneratorExp elt [⟨tg, iter, ifs, 0⟩] scope pos) 0 (.ref it) .none X.env)) [] s := by
  have stat : ∀ {pins : List (Addr × Obj)} {σ' : L2.St} {H' : Hp} {s' : Shared}, Inv X pins σ' H' s' → (∀ b ∈ fp, H' b = none) → (∀ p ∈ pins, p.1 ∉ fp) → ∀ b ∈ fp, FpOk X pins H' b := fun {pins σ' H' s'} I' hn hp b hb =>
    ⟨hn b hb, (I'.ok.exf b (by rw [hex]; exact hb)).1, I'.ok.exfs b (by rw [hex]; exact hb), .inl (by rw [hex]; exact hb), fun x c e => (I'.ok.exf b (by rw [hex]; exact hb)).2 x c e, fun p hm z => by
      rw [hpn] at hm
      exact hp p hm (by rw [z]; exact hb)⟩
  intro k
  induction k with
  | zero =>
    intro n i j s₀ s H hk hn hw G st nfp hS
    obtain ⟨hiN, hjN, hh⟩ := turn j i H hw
    rcases hh with ⟨stop, ej⟩ | ⟨hlt, _⟩
    · show Seg _ A _ _ n s₀ _ ((compTurn (.GeneratorExp elt [⟨tg, iter, ifs, 0⟩] scope pos) 0 (.ref it) .none X.env).onRaise (leaving X.env)) [] s
      rw [compTurn_gen, Sem.onRaise_eq_wrap]
      refine seg_bindG hA (wpAny_standAt ?_)
      have hp2 : ∀ p ∈ pl ++ pinsAt SL s.heap, p.1 ∉ fp := fun p hp => (List.mem_append.mp hp).elim (hpl p) fun z => hSf _ (of_pinsAt z).1
      have I0 := G.inv.pinned G.fp G.obj
      refine seg_bindG hA (wpAny_mono (T.done X rfl rfl rfl hc i _ s _ H (fun _ _ => False) I0 (stat I0 nfp hp2) st stop) (fun r s6 ⟨hr, I6⟩ => ?_) fun _ _ z => z)
      subst hr
      obtain ⟨G6, S6⟩ := G.back (more := []) (by rw [List.append_nil]; exact I6)
      subst ej
      exact seg_end (.ok .next) (.inl ⟨.inr rfl, by omega, i, H, hw, G6, fun b hb => (S6 b hb).trans (hS b hb)⟩)
    · omega
  | succ k ih =>
    intro n i j s₀ s H hk hn hw G st nfp hS
    obtain ⟨hiN, hjN, hh⟩ := turn j i H hw
    show Seg _ A _ _ n s₀ _ ((compTurn (.GeneratorExp elt [⟨tg, iter, ifs, 0⟩] scope pos) 0 (.ref it) .none X.env).onRaise (leaving X.env)) [] s
    rw [compTurn_gen, Sem.onRaise_eq_wrap]
    refine seg_bindG hA (wpAny_standAt ?_)
    have hp2 : ∀ p ∈ pl ++ pinsAt SL s.heap, p.1 ∉ fp := fun p hp => (List.mem_append.mp hp).elim (hpl p) fun z => hSf _ (of_pinsAt z).1
    have I0 := G.inv.pinned G.fp G.obj
    rcases hh with ⟨stop, ej⟩ | ⟨hlt, go, step⟩
    · refine seg_bindG hA (wpAny_mono (T.done X rfl rfl rfl hc i _ s _ H (fun _ _ => False) I0 (stat I0 nfp hp2) st stop) (fun r s6 ⟨hr, I6⟩ => ?_) fun _ _ z => z)
      subst hr
      obtain ⟨G6, S6⟩ := G.back (more := []) (by rw [List.append_nil]; exact I6)
      subst ej
      exact seg_end (.ok .next) (.inl ⟨.inr rfl, by omega, i, H, hw, G6, fun b hb => (S6 b hb).trans (hS b hb)⟩)
    · refine seg_bindG hA (wpAny_mono (T.item X rfl rfl rfl hc i _ s _ H (fun _ _ => False) I0 (stat I0 nfp hp2) st go) (fun r s6 ⟨u, hr, h6⟩ => ?_) fun _ _ z => z)
      subst hr
      refine seg_bindG hA (wpAny_mono h6 (fun _ s7 ⟨x, H7, I7, r7, y7, st7, n7⟩ => ?_) fun _ _ z => z)
      have I7' := I7.pinned (stat I7 n7 hp2) (T.obj _ _ st7)
      refine seg_bindG hA (wpAny_mono (hg.run _ s7 _ H7 x u _ I7' r7 (step x H7 y7)) (fun _ s8 ⟨σ8, H8, I8, hw8, q8⟩ => ?_) fun _ _ z => by rw [hxe] at z; exact z)
      refine seg_bindG hA (wpAny_mono (ht.run _ s8 σ8 H8 _ I8 q8) (fun bb s9 ⟨H9, I9, q9⟩ => ?_) fun _ _ z => by rw [hxe] at z; exact z)
      have fin : ∀ {s' : Shared} {H' : Hp}, Inv X ((pl ++ pinsAt SL s.heap) ++ pinsAt fp s7.heap) σ8 H' s' → GIv X pl SL (wipe σ vs) H' s' ∧ tn (i + 1) s'.heap ∧ (∀ b ∈ fp, H' b = none) ∧ ∀ b ∈ SL, s'.heap.get? b = s.heap.get? b := fun {s' H'} I' => by
        have pin' : ∀ b ∈ fp, ∀ o, s7.heap.get? b = some o → s'.heap.get? b = some o ∧ H' b = none := fun b hb o e =>
          let z := I'.pin (b, o) (List.mem_append_right _ (List.mem_append_right _ (mem_pinsAt hb e)))
          ⟨z.1, z.2.1⟩
        obtain ⟨G6, S6⟩ := G.back I'
        refine ⟨⟨G6.inv.weak (by rw [← hw8, wipe_length]) (fun l v e => ?_), G6.fp, G6.obj⟩, T.keep _ _ _ st7 fun b hb o e => (pin' b hb o e).1, fun b hb => ?_, S6⟩
        · rw [← hw8] at e
          exact (wipe_some e).1
        · obtain ⟨o, e, _⟩ := T.obj _ _ st7 b hb
          exact (pin' b hb o e).2
      cases bb with
      | false =>
        simp only [Bool.false_eq_true, if_false] at q9 ⊢
        obtain ⟨G9, st9, n9, S9⟩ := fin I9
        exact seg_again rfl (ih n (i + 1) j s₀ s9 H9 (by omega) hn q9 G9 st9 n9 fun b hb => (S9 b hb).trans (hS b hb))
      | true =>
        simp only [if_true] at q9 ⊢
        have hy : ∀ v, yieldOut X.env v = yieldValue v := fun v => by simp only [yieldOut, hco, Bool.false_eq_true, if_false]
        simp only [hy]
        rw [Sem.bind_eq_wrap', Sem.bind_eq_wrap', Sem.wrap_wrap, Sem.wrap_wrap]
        refine seg_wrapG hA (wpAny_mono (he.run _ s9 σ8 H9 _ I9 q9) (fun v s10 ⟨y, H10, I10, r10, ey, w10⟩ => ?_) fun _ _ z => by rw [hxe] at z; exact z)
        obtain ⟨G10, st10, n10, S10⟩ := fin I10
        have hlt2 := (List.getElem?_eq_some_iff.mp ey).1
        obtain ⟨n', rfl⟩ : ∃ n', n = n' + 1 := ⟨n - 1, by omega⟩
        refine seg_at (seg_yield rfl rfl rfl ⟨j, y, i + 1, H10, by omega, ey, r10, w10, G10, fun b hb => (S10 b hb).trans (hS b hb), fun s'' wk => ?_⟩)
        refine seg_again rfl (ih n' (i + 1) (j + 1) s'' s'' H10 (by omega) (by omega) w10 (G10.wk wk) (T.keep _ _ _ st10 fun b hb o e => wk.keep b o (fun z => hSf b z hb) e) n10 fun _ _ => rfl)

/-! ### the generator as the consumer finds it -/
theorem seg_start {elt tg iter : Expr} {ifs : List Expr} {scope : Scope} {pos : Pos} {it : Addr} {A : Around} {cenv : Env} {R : GenEnd} {Y : Protocol} {n : Nat} {s₀ : Shared} {J : It} {fp : List Addr} {tn : Nat → Heap → Prop} (T : Turn X.prog X.w X.K tg J fp it tn) (st : tn 0 s.heap)
    (loop : Seg (model X.prog X.w) A R Y n s₀ (.compLoop (.GeneratorExp elt [⟨tg, iter, ifs, 0⟩] scope pos) 0 (.ref it) .none cenv) ((model X.prog X.w).den (.compLoop (.GeneratorExp elt [⟨tg, iter, ifs, 0⟩] scope pos) 0 (.ref it) .none cenv)) [] s) :
    Seg (model X.prog X.w) A R Y n s₀ (.compStart (.GeneratorExp elt [⟨tg, iter, ifs, 0⟩] scope pos) 0 (.ref it) .none cenv) ((model X.prog X.w).den (.compStart (.GeneratorExp elt [⟨tg, iter, ifs, 0⟩] scope pos) 0 (.ref it) .none cenv)) [] s := by
  show Seg _ A _ _ _ s₀ _ ((compStart (.GeneratorExp elt [⟨tg, iter, ifs, 0⟩] scope pos) 0 (.ref it) .none cenv).onRaise (leaving cenv)) [] s
  unfold compStart
  rw [Sem.onRaise_eq_wrap]
  show Seg _ A _ _ _ s₀ _ ((ask >>= _).wrap _ _ _ _) [] s
  refine seg_bind_wrap (wpAny_askSetting ?_)
  split
  · exact seg_again rfl loop
  · first
      | exact seg_bind_wrap (wpAny_rule (seg_bind_wrap (wpAny_standAt (seg_bind_wrap (T.self _ 0 s _ _ st (seg_again rfl loop))))))
      | (refine seg_bind_wrap (wpAny_rule ?_); show Seg _ A _ _ _ s₀ _ ((standAt iter.pos >>= _).wrap _ _ _ _) [] s; exact seg_bind_wrap (wpAny_standAt (seg_bind_wrap (T.self _ 0 s _ _ st (seg_again rfl loop)))))
structure GAt (X : Cx) (pl : List (Addr × Obj)) (SL : List Addr) (σ : L2.St) (ys : List V) (W : Nat → Nat → Hp → Prop) (A : Around) (a : Addr) (g j : Nat) (s : Shared) : Prop where
  gen : s.heap.IsGen a g
  at_ : ∃ i H, W j i H ∧ GIv X pl SL σ H s
  goes : ∃ gs, s.gens[g]? = some gs ∧ ∀ s'', Wk SL s s'' → gs.Goes (model X.prog X.w) A (REnd (GR X pl SL σ ys W)) (GY X pl SL σ ys W) (ys.length - j) (.send .none) s''
variable {ys : List V} {W : Nat → Nat → Hp → Prop} {A : Around} {a : Addr} {g j : Nat}
theorem wk_setGen {x : GenState} (G : GIv X pl SL σ H s) (hx : x.bare = true) : Wk SL s (s.setGen g x) := ⟨rfl, L2.allBare_setGen G.inv.bare hx, fun _ _ _ e => e, G.obj⟩
theorem gat_item {Q : Option Value → Shared → Prop} {E : Value → Shared → Prop} (hh : A.handled = none) (hd : A.depth < recursionLimit) (hpa : ∀ h : Heap, (∀ p ∈ pl, h.get? p.1 = some p.2) → h.IsGen a g) (G : GAt X pl SL σ ys W A.in1 a g j s) (hj : j < ys.length)
    (hQ : ∀ v y s', ys[j]? = some y → RelV y v → GAt X pl SL σ ys W A.in1 a g (j + 1) s' → (∀ b ∈ SL, s'.heap.get? b = s.heap.get? b) → Q (some v) s') : wpAny (model X.prog X.w) A (pyNext (.ref a)) Q E s := by
  obtain ⟨hg, ⟨i, H, hw, G0⟩, gs, hgs, hgo⟩ := G
  have hgl : g < s.gens.size := (Array.getElem?_eq_some_iff.mp hgs).1
  obtain ⟨m, hm⟩ : ∃ m, ys.length - j = m + 1 := ⟨ys.length - j - 1, by omega⟩
  rw [hm] at hgo
  refine wpAny_gsz (n := g + 1) hgl (L2.next_genG (Er := fun _ _ => False) hh G0.inv.nolimit hd hg hgs (hgo _ (wk_setGen G0 rfl)) (fun v s₁ gs' hb hy hsz => ?_) (fun s₁ hp => ?_) fun _ _ z => z.elim)
  · obtain ⟨j', y, i', H', ej, ey, rv, w', G1, S1, kap⟩ := hy
    have e : j' = j := by omega
    subst e
    have hsz1 : g < s₁.gens.size := by
      have q : (s₁.setGen g gs').gens.size = s₁.gens.size := setGen_size _ _ _
      omega
    refine hQ v y _ ey rv ⟨hpa _ fun p hp => (G1.inv.pin p (List.mem_append_right _ hp)).1, ⟨i', H', w', G1.wk (wk_setGen G1 hb)⟩, gs', L2.setGen_at hsz1, fun s'' wk => ?_⟩ fun b hb' => S1 b hb'
    have := kap s'' ⟨wk.os, wk.bare, wk.keep, wk.own⟩
    have em : ys.length - (j' + 1) = m := by omega
    rw [em]
    exact this
  · obtain ⟨hn, _⟩ := hp
    omega
theorem gat_done {Q : Option Value → Shared → Prop} {E : Value → Shared → Prop} (hh : A.handled = none) (hd : A.depth < recursionLimit) (hja : ∀ b ∈ SL, b ≠ a) (G : GAt X pl SL σ ys W A.in1 a g j s) (hj : j = ys.length)
    (hQ : ∀ s' i H, W ys.length i H → GIv X pl SL σ H s' → (∀ b ∈ SL, s'.heap.get? b = s.heap.get? b) → Q none s') : wpAny (model X.prog X.w) A (pyNext (.ref a)) Q E s := by
  obtain ⟨hg, ⟨i, H, hw, G0⟩, gs, hgs, hgo⟩ := G
  have e0 : ys.length - j = 0 := by omega
  rw [e0] at hgo
  refine L2.next_genG (Er := fun _ _ => False) hh G0.inv.nolimit hd hg hgs (hgo _ (wk_setGen G0 rfl)) (fun v s₁ gs' hb hy => ?_) (fun s₁ hp h' hk => ?_) fun _ _ z => z.elim
  · obtain ⟨j', y, i', H', ej, ey, rv, w', G1, S1, kap⟩ := hy
    exact False.elim (kap s₁ (Wk.refl G1.inv.bare G1.obj))
  · obtain ⟨_, i', H', w', G1, S1⟩ := hp
    have wk : Wk SL s₁ { s₁.setGen g .finished with heap := h' } := ⟨rfl, L2.allBare_setGen G1.inv.bare rfl, fun b o _ e => hk b o e, fun b hb => let ⟨o, e, d⟩ := G1.obj b hb; ⟨o, hk b o e, d⟩⟩
    refine hQ _ i' H' w' (G1.wk wk) fun b hb => ?_
    obtain ⟨o, e, _⟩ := G1.obj b hb
    exact (hk b o e).trans (e.symm.trans (S1 b hb))
/-- a bool or an int, by its truth -/
def tru : V → Option Bool
  | .bl b => some b
  | .int i => some (i != 0)
  | _ => none
theorem truthy_ok {y : V} {v : Value} {b : Bool} {P : Program} {w : World} {A : Around} {E : Value → Shared → Prop} {Q : Bool → Shared → Prop} (hy : tru y = some b) (r : RelV y v) (h : Q b s) : wpAny (model P w) A (truthy v) Q E s := by
  cases y with
  | bl c =>
    cases (show v = Value.bool c from r)
    cases hy
    exact wpAny_truthy_bool h
  | int i =>
    obtain ⟨t, rfl⟩ := (show ∃ t, v = Value.int i t from r)
    cases hy
    exact PyProof.Rows.truthy_int h
  | _ => cases hy
theorem all_loop {R : Result → Shared → Prop} (hh : A.handled = none) (hd : A.depth < recursionLimit) (hpa : ∀ h : Heap, (∀ p ∈ pl, h.get? p.1 = some p.2) → h.IsGen a g) (hys : ∀ y ∈ ys, ∃ b, tru y = some b) :
    ∀ (k j : Nat) (s : Shared), ys.length - j = k → j ≤ ys.length → GAt X pl [] σ ys W A.in1.in1 a g j s → (∀ l y, l < j → ys[l]? = some y → tru y = some true) →
      (∀ s' j i H, W j i H → GIv X pl [] σ H s' → R (.ok (.ret (.bool (ys.all fun y => tru y == some true)))) s') → codeAny (model X.prog X.w) A (.builtin "all.loop" ⟨[.ref a], []⟩) R s := by
  intro k
  induction k with
  | zero =>
    intro j s hk hj G hb hR
    refine codeAny_builtin F.entry_all_loop ?_
    rw [Around.under_plainId F.plain_all_loop _]
    show wpAny _ A.in1 (pyNext (.ref a) >>= _) _ _ s
    refine wpAny_bind (gat_done hh hd (fun b hb => by simp at hb) G (by omega) fun s' i H w G1 _ => ?_)
    refine wpAny_bind (wpAny_rule (wpAny_pure ?_))
    have e : (ys.all fun y => tru y == some true) = true := by
      rw [List.all_eq_true]
      intro y hy
      obtain ⟨l, hl, e⟩ := List.getElem_of_mem hy
      rw [hb l y (by omega) (by rw [← e]; simp [hl])]
      rfl
    have := hR s' _ i H w G1
    rw [e] at this
    exact this
  | succ k ih =>
    intro j s hk hj G hb hR
    have hlt : j < ys.length := by omega
    refine codeAny_builtin F.entry_all_loop ?_
    rw [Around.under_plainId F.plain_all_loop _]
    show wpAny _ A.in1 (pyNext (.ref a) >>= _) _ _ s
    refine wpAny_bind (gat_item hh hd hpa G hlt fun v y s' ey rv G1 _ => ?_)
    obtain ⟨b, eb⟩ := hys y (List.mem_of_getElem? ey)
    refine wpAny_bind (wpAny_holding (truthy_ok eb rv ?_))
    refine wpAny_bind (wpAny_letGo ?_)
    cases b with
    | true =>
      simp only [if_true]
      refine wpAny_pure ⟨plainId_quiet F.plain_all_loop _, ih (j + 1) _ (by omega) hlt G1 (fun l z hl ez => ?_) hR⟩
      by_cases el : l = j
      · subst el
        rw [ey] at ez
        cases ez
        exact eb
      · exact hb l z (by omega) ez
    | false =>
      simp only [Bool.false_eq_true, if_false]
      refine wpAny_bind (wpAny_rule (wpAny_pure ?_))
      obtain ⟨i, H, w, G2⟩ := G1.at_
      have e : (ys.all fun y => tru y == some true) = false := by
        rw [List.all_eq_false]
        exact ⟨y, List.mem_of_getElem? ey, by rw [eb]; simp⟩
      have := hR s' _ i H w G2
      rw [e] at this
      exact this
theorem any_loop {R : Result → Shared → Prop} (hh : A.handled = none) (hd : A.depth < recursionLimit) (hpa : ∀ h : Heap, (∀ p ∈ pl, h.get? p.1 = some p.2) → h.IsGen a g) (hys : ∀ y ∈ ys, ∃ b, tru y = some b) :
    ∀ (k j : Nat) (s : Shared), ys.length - j = k → j ≤ ys.length → GAt X pl [] σ ys W A.in1.in1 a g j s → (∀ l y, l < j → ys[l]? = some y → tru y = some false) →
      (∀ s' j i H, W j i H → GIv X pl [] σ H s' → R (.ok (.ret (.bool (ys.any fun y => tru y == some true)))) s') → codeAny (model X.prog X.w) A (.builtin "any.loop" ⟨[.ref a], []⟩) R s := by
  intro k
  induction k with
  | zero =>
    intro j s hk hj G hb hR
    refine codeAny_builtin F.entry_any_loop ?_
    rw [Around.under_plainId F.plain_any_loop _]
    show wpAny _ A.in1 (pyNext (.ref a) >>= _) _ _ s
    refine wpAny_bind (gat_done hh hd (fun b hb => by simp at hb) G (by omega) fun s' i H w G1 _ => ?_)
    refine wpAny_bind (wpAny_rule (wpAny_pure ?_))
    have e : (ys.any fun y => tru y == some true) = false := by
      rw [List.any_eq_false]
      intro y hy
      obtain ⟨l, hl, e⟩ := List.getElem_of_mem hy
      rw [hb l y (by omega) (by rw [← e]; simp [hl])]
      simp
    have := hR s' _ i H w G1
    rw [e] at this
    exact this
  | succ k ih =>
    intro j s hk hj G hb hR
    have hlt : j < ys.length := by omega
    refine codeAny_builtin F.entry_any_loop ?_
    rw [Around.under_plainId F.plain_any_loop _]
    show wpAny _ A.in1 (pyNext (.ref a) >>= _) _ _ s
    refine wpAny_bind (gat_item hh hd hpa G hlt fun v y s' ey rv G1 _ => ?_)
    obtain ⟨b, eb⟩ := hys y (List.mem_of_getElem? ey)
    refine wpAny_bind (wpAny_holding (truthy_ok eb rv ?_))
    refine wpAny_bind (wpAny_letGo ?_)
    cases b with
    | false =>
      simp only [Bool.false_eq_true, if_false]
      refine wpAny_pure ⟨plainId_quiet F.plain_any_loop _, ih (j + 1) _ (by omega) hlt G1 (fun l z hl ez => ?_) hR⟩
      by_cases el : l = j
      · subst el
        rw [ey] at ez
        cases ez
        exact eb
      · exact hb l z (by omega) ez
    | true =>
      simp only [if_true]
      refine wpAny_bind (wpAny_rule (wpAny_pure ?_))
      obtain ⟨i, H, w, G2⟩ := G1.at_
      have e : (ys.any fun y => tru y == some true) = true := by
        rw [List.any_eq_true]
        exact ⟨y, List.mem_of_getElem? ey, by rw [eb]; rfl⟩
      have := hR s' _ i H w G2
      rw [e] at this
      exact this
/-- the sum of the first j -/
def psum (ys : List V) (j : Nat) : Int := ((ys.take j).map fun | .int i => i | _ => 0).sum
theorem psum_succ {j : Nat} {i : Int} (h : ys[j]? = some (.int i)) : psum ys (j + 1) = psum ys j + i := by
  obtain ⟨hl, e⟩ := List.getElem?_eq_some_iff.mp h
  unfold psum
  rw [List.take_succ_eq_append_getElem hl, List.map_append, List.sum_append, e]
  simp
theorem sum_loop {R : Result → Shared → Prop} {S : Addr} (hh : A.handled = none) (hd : A.depth < recursionLimit) (hpa : ∀ h : Heap, (∀ p ∈ pl, h.get? p.1 = some p.2) → h.IsGen a g) (hSa : S ≠ a) (hys : ∀ y ∈ ys, ∃ i : Int, y = .int i) :
    ∀ (k j : Nat) (s : Shared) (tA : Tok) (c : Nat) (st : Int), (st = 0 ∨ st = 2) → ys.length - j = k → j ≤ ys.length → GAt X pl [S] σ ys W A.in1.in1 a g j s → s.heap.get? S = some { cls := .type "list", dict := none, data := .seq #[.int (psum ys j) tA] c, slots := #[] } →
      (∀ s' t' i H, W ys.length i H → GIv X pl [S] σ H s' → R (.ok (.ret (.int (psum ys ys.length) t'))) s') → codeAny (model X.prog X.w) A (.builtin "sum.loop" ⟨[.ref a, .ref S, rawInt st, rawInt 0], []⟩) R s := by
  have upd_gat : ∀ {j : Nat} {s s2 : Shared} {o2 : Obj}, GAt X pl [S] σ ys W A.in1.in1 a g j s → s2.os = s.os → s2.gens = s.gens → (∀ b o, b ≠ S → s.heap.get? b = some o → s2.heap.get? b = some o) → s2.heap.get? S = some o2 → (∀ v, o2.data ≠ .cell v) → GAt X pl [S] σ ys W A.in1.in1 a g j s2 := fun {j s s2 o2} G eo eg kp eS nc => by
    obtain ⟨hg, ⟨i, H, w, G0⟩, gs, hgs, hgo⟩ := G
    have kp' : ∀ b o, b ∉ [S] → s.heap.get? b = some o → s2.heap.get? b = some o := fun b o hb e => kp b o (fun z => hb (by rw [z]; exact List.mem_singleton.mpr rfl)) e
    have wk : Wk [S] s s2 := ⟨eo, by rw [eg]; exact G0.inv.bare, kp', fun b hb => by rw [List.mem_singleton.mp hb]; exact ⟨o2, eS, nc⟩⟩
    obtain ⟨o, nm, qn, ho, r⟩ := hg
    exact ⟨⟨o, nm, qn, kp a o (Ne.symm hSa) ho, r⟩, ⟨i, H, w, G0.wk wk⟩, gs, by rw [eg]; exact hgs, fun s'' z => hgo s'' ⟨z.os.trans eo, z.bare, fun b o hb e => z.keep b o hb (kp' b o hb e), z.own⟩⟩
  intro k
  induction k with
  | zero =>
    intro j s tA c st hst2 hk hj G hS hR
    refine codeAny_builtin F.entry_sum_loop ?_
    rw [Around.under_plainId F.plain_sum_loop _]
    show wpAny _ A.in1 (seqItems? (.ref S) >>= _) _ _ s
    refine wpAny_bind (wpAny_seqItems hS rfl ?_)
    show wpAny _ A.in1 (tryCatch (pyNext (.ref a)) _ >>= _) _ _ s
    refine wpAny_bind (wpAny_tryCatch (gat_done hh hd (fun b hb => by rw [List.mem_singleton.mp hb]; exact hSa) G (by omega) fun s' i H w G1 _ => ?_))
    have e : j = ys.length := by omega
    subst e
    exact wpAny_pure (hR s' tA i H w G1)
  | succ k ih =>
    intro j s tA c st hst2 hk hj G hS hR
    have hlt : j < ys.length := by omega
    refine codeAny_builtin F.entry_sum_loop ?_
    rw [Around.under_plainId F.plain_sum_loop _]
    show wpAny _ A.in1 (seqItems? (.ref S) >>= _) _ _ s
    refine wpAny_bind (wpAny_seqItems hS rfl ?_)
    show wpAny _ A.in1 (tryCatch (pyNext (.ref a)) _ >>= _) _ _ s
    refine wpAny_bind (wpAny_tryCatch (gat_item hh hd hpa G hlt fun v y s' ey rv G1 S1 => ?_))
    obtain ⟨i, rfl⟩ := hys y (List.mem_of_getElem? ey)
    obtain ⟨t, rfl⟩ := (show ∃ t, v = Value.int i t from rv)
    have hS' := (S1 S (List.mem_singleton.mpr rfl)).trans hS
    have es := psum_succ ey
    rcases hst2 with rfl | rfl
    · show wpAny _ A.in1 (if (_ : Bool) = true then (mkInt (psum ys j + i) >>= _) else _) _ _ _
      split
      · refine wpAny_bind (wpAny_mkInt ?_)
        show wpAny _ A.in1 (updateSeq S (fun _ => #[.int (psum ys j + i) s'.toks]) >>= _) _ _ _
        refine wpAny_bind ?_
        have h3 := Heap.get?_update_self (Obj.mapSeq fun _ => #[Value.int (psum ys j + i) s'.toks]) hS' rfl
        rw [← es] at h3
        rw [← es]
        refine wpAny_updateSeq hS' rfl (wpAny_pure ⟨plainId_quiet F.plain_sum_loop _, ih (j + 1) _ s'.toks _ 0 (.inl rfl) (by omega) hlt (upd_gat G1 rfl rfl (fun b o hb e => (Heap.get?_update_other _ _ (Ne.symm hb)).trans e) (Heap.get?_update_self _ hS' rfl) (fun v => nofun)) h3 hR⟩)
      · refine wpAny_bind (wpAny_rule ?_)
        refine wpAny_bind (wpAny_attempt (wpAny_holding (wpAny_add_int ?_)))
        show wpAny _ A.in1 (updateSeq S (fun _ => #[.int (psum ys j + i) s'.toks]) >>= _) _ _ _
        refine wpAny_bind (wpAny_updateSeq hS' rfl ?_)
        have hS₂ := Heap.get?_update_self (Obj.mapSeq fun _ => #[Value.int (psum ys j + i) s'.toks]) hS' rfl
        obtain ⟨c2, h3⟩ : ∃ c2, ((s'.heap.update S (Obj.mapSeq fun _ => #[Value.int (psum ys j + i) s'.toks])).update S (Obj.mapSeq fun _ => #[Value.int (psum ys j + i) s'.toks])).get? S = some { cls := .type "list", dict := none, data := .seq #[.int (psum ys (j + 1)) s'.toks] c2, slots := #[] } := ⟨_, by rw [es]; exact Heap.get?_update_self _ hS₂ rfl⟩
        refine wpAny_bind (wpAny_letGo ?_)
        refine wpAny_bind (wpAny_updateSeq hS₂ rfl (wpAny_pure ⟨plainId_quiet F.plain_sum_loop _, ih (j + 1) _ s'.toks _ 2 (.inr rfl) (by omega) hlt (upd_gat G1 rfl rfl (fun b o hb e => (Heap.get?_update_other _ _ (Ne.symm hb)).trans ((Heap.get?_update_other _ _ (Ne.symm hb)).trans e)) (Heap.get?_update_self _ hS₂ rfl) (fun v => nofun)) h3 hR⟩))
    · refine wpAny_bind (wpAny_attempt (wpAny_holding (wpAny_add_int ?_)))
      show wpAny _ A.in1 (updateSeq S (fun _ => #[.int (psum ys j + i) s'.toks]) >>= _) _ _ _
      refine wpAny_bind (wpAny_updateSeq hS' rfl ?_)
      have hS₂ := Heap.get?_update_self (Obj.mapSeq fun _ => #[Value.int (psum ys j + i) s'.toks]) hS' rfl
      obtain ⟨c2, h3⟩ : ∃ c2, ((s'.heap.update S (Obj.mapSeq fun _ => #[Value.int (psum ys j + i) s'.toks])).update S (Obj.mapSeq fun _ => #[Value.int (psum ys j + i) s'.toks])).get? S = some { cls := .type "list", dict := none, data := .seq #[.int (psum ys (j + 1)) s'.toks] c2, slots := #[] } := ⟨_, by rw [es]; exact Heap.get?_update_self _ hS₂ rfl⟩
      refine wpAny_bind (wpAny_letGo ?_)
      refine wpAny_bind (wpAny_updateSeq hS₂ rfl (wpAny_pure ⟨plainId_quiet F.plain_sum_loop _, ih (j + 1) _ s'.toks _ 2 (.inr rfl) (by omega) hlt (upd_gat G1 rfl rfl (fun b o hb e => (Heap.get?_update_other _ _ (Ne.symm hb)).trans ((Heap.get?_update_other _ _ (Ne.symm hb)).trans e)) (Heap.get?_update_self _ hS₂ rfl) (fun v => nofun)) h3 hR⟩))

/-! ### a generator is made -/
theorem gen_code {c P : Addr} {gpos : Pos} {nm : Str} {scope : Scope} {E : Value → Shared → Prop} {Q : Value → Shared → Prop} (TB : GxR.TabB X.base X.mg c P) (hcode : X.env.code = .ref c) (I : Inv X pins σ H s) (ht : GxR.TabG H P)
    (h : ∀ code s3 H3, TY.Chg H TY.fe H3 TY.fe → GxR.TabG H3 P → (∀ b, b ≠ P → H3 b = H b) → Inv X pins σ H3 s3 → (∀ b o, b ≠ P → s.heap.get? b = some o → s3.heap.get? b = some o) → Q code s3) : wpAny (model X.prog X.w) X.A (genexprCode X.env gpos nm scope) Q E s := by
  obtain ⟨ps, hP, ht⟩ := ht
  have hPs : s.heap.get? P = some { cls := .none, data := .fields ps } := I.hok P _ hP
  have cd : PySem.W.CodeHd s.heap c P := TB.code.keeps I.bk
  cases hf : codeAmong gpos ps.toList with
  | none =>
    refine wpAny_genexprCodeX hcode (cd.code hPs ht) (cd.tab hPs) hf fun c' h' tk hx hge hlt hco' _ htab' _ => ?_
    obtain ⟨o1, vs, f1, tf, fl, tg, inF, tx, tt, op, _, _, _, _, _, _, _, _, _, htr, _⟩ := hco'
    have J := GxR.inv_tab (h' := h') (g' := s.gens) (d' := s.drawn) (t' := tk) I hP (fun b u hb e => hx b u hb e) htab'.2 I.bare
    refine h _ _ _ ⟨fun b o e _ => ?_, fun b z => z.elim⟩ ⟨_, upd_same, htr⟩ (fun b hb => upd_ne hb) J fun b o hb e => hx b o hb e
    by_cases hb : b = P
    · subst hb
      rw [hP] at e
      cases e
      exact ⟨_, upd_same, .inr ⟨_, _, rfl, rfl, fun _ => htr⟩⟩
    · exact ⟨o, by rw [upd_ne hb]; exact e, .inl rfl⟩
  | some cv =>
    refine wpAny_genexprCode_hit hcode (cd.code hPs ht) hf ?_
    exact h cv s H TY.Chg.refl ⟨ps, hP, ht⟩ (fun _ _ => rfl) I fun _ _ _ e => e
/-- a generator just made at a in s5; sc: the state ahead of its making -/
structure Born (X : Cx) (pins : List (Addr × Obj)) (σ : L2.St) (H3 : Hp) (elt tg iter : Expr) (ifs : List Expr) (scope : Scope) (gpos : Pos) (J : It) (it : Addr) (fp : List Addr) (tn : Nat → Heap → Prop) (C : Addr) (code : Value) (sc : Shared) (oa : Obj) (g : Nat) (a : Addr) (s5 : Shared) : Prop where
  inv : Inv X pins σ H3 sc
  fpo : ∀ b ∈ fp, FpOk X pins H3 b ∧ b < sc.heap.objs.size
  T : Turn X.prog X.w X.K tg J fp it tn
  st : tn 0 s5.heap
  kp : ∀ b o, sc.heap.get? b = some o → s5.heap.get? b = some o
  os : s5.os = sc.os
  bare : AllBare s5.gens
  ns : ∃ mm, s5.heap.Ns C mm
  hC : sc.heap.objs.size ≤ C
  gs : s5.gens[g]? = some (.fresh (.compStart (.GeneratorExp elt [⟨tg, iter, ifs, 0⟩] scope gpos) 0 (.ref it) .none (genEnv scope (cloFrom X.env.cells scope.names []) C code builtinsNs X.env)))
  oa_ : s5.heap.get? a = some oa
  gen : ∀ h : Heap, h.get? a = some oa → h.IsGen a g
  ha : sc.heap.objs.size ≤ a
  aC : a ≠ C
  nc : ∀ v, oa.data ≠ .cell v
theorem gen_make {c P : Addr} {elt tg iter : Expr} {ifs : List Expr} {scope : Scope} {gpos : Pos} {own : List (Str × Nat)} {wi : TI} {k : Nat} {Q' : Value → Shared → Prop} {RR : It → Hp → Prop}
    (hr : Room k X.A) (TB : GxR.TabB X.base X.mg c P) (hcode : X.env.code = .ref c) (hco : scope.isCoroutine = false) (hcell : ∀ y ∈ scope.names, y.2 ≠ .cell) (h0 : scope.names.lookup (".0" : Str) = some NameKind.local) (ok : BlkOk X.N X.env.scope scope own) (hi : PI X tg iter wi)
    (hs : ∀ v, genFold iter X.env v = pure v) (I : Inv X pins σ H s) (h : wi σ H fun J H1 => GxR.TabG H1 P ∧ RR J H1)
    (hQ : ∀ J H1, RR J H1 → ∀ H3 it fp tn C code sc oa g a s5, TY.Chg H1 TY.fe H3 TY.fe → Born X pins σ H3 elt tg iter ifs scope gpos J it fp tn C code sc oa g a s5 → Q' (.ref a) s5) :
    wpAny (model X.prog X.w) X.A (eval (.GeneratorExp elt [⟨tg, iter, ifs, 0⟩] scope gpos) X.env) Q' X.xe s := by
  have hfree : ∀ y ∈ scope.names, y.2 = .free → ∃ c, X.env.cells.lookup y.1 = some c := fun y hy e => by
    rcases ok.free y hy e with k | k
    · exact I.ok.has _ (.inl k)
    · exact I.ok.has _ (.inr k)
  refine wpAny_GeneratorExp_make hco (closure_ok hfree) hcell h0 ok.kind (by have := hr.dp; omega) ?_ hs
  refine thn (hi.run pins s σ H _ I h) fun xv s1 hx => thn hx fun itv s2 h2 => ?_
  obtain ⟨it, fp, tn, J, H2, e, I2, T, st2, f2, hP, q⟩ := h2
  subst e
  refine ⟨I2.nolimit, gen_code TB hcode I2 hP fun code s3 H3 c3 _ n3 I3 kp3 => ?_⟩
  have hnP : ∀ b ∈ fp, b ≠ P := fun b hb z => by
    obtain ⟨ps, e, _⟩ := hP
    have := (f2 b hb).1
    rw [z, e] at this
    cases this
  have st3 : tn 0 s3.heap := T.keep _ _ _ st2 fun b hb o e => kp3 b o (hnP b hb) e
  obtain ⟨bm, ob, e1, e2, e3, e4, e5, e6, e7, e8⟩ := TB.bm
  refine wpAny_builtinsFor (m := X.mg) (by rw [I3.ok.glob]; exact I3.mod.glob.keeps I3.bk) e1 e2 (I3.bk _ _ e5) e6 e7 e8 ?_
  intro h' hn' hs'
  have hsz : h'.objs.size = s3.heap.objs.size + 1 := by rw [hs'.1, Heap.size_push]
  have keep' : ∀ b o, s3.heap.get? b = some o → h'.get? b = some o := fun b o e => hs'.extBut b o (Nat.ne_of_lt (Heap.lt_size e)) (Heap.get?_push_of_some _ e)
  refine hQ J H2 q H3 it fp tn s3.heap.objs.size code s3 _ s3.gens.size h'.objs.size _ c3 ⟨I3, fun b hb => ⟨⟨?_, (f2 b hb).2⟩, ?_⟩, T, ?_, fun b o e => Heap.get?_push_of_some _ (keep' b o e), rfl, I3.bare.push rfl, ⟨_, hn'.push _⟩, Nat.le_refl _, Array.getElem?_push_size .., Heap.get?_push_size _ rfl, fun h e => ⟨_, _, _, e, rfl, rfl, rfl⟩, by rw [hsz]; exact Nat.le_succ _, by rw [hsz]; exact Nat.succ_ne_self _, fun v z => Data.noConfusion z⟩
  · rw [n3 b (hnP b hb)]; exact (f2 b hb).1
  · obtain ⟨o, e, _⟩ := T.obj _ _ st3 b hb
    exact Heap.lt_size e
  · exact T.keep _ _ _ st3 fun b _ o e => Heap.get?_push_of_some _ (keep' b o e)
/-- .. ready for a consumer around A that keeps SL for itself -/
theorem Born.gat {elt tg iter : Expr} {ifs : List Expr} {scope : Scope} {gpos : Pos} {own : List (Str × Nat)} {J : It} {it : Addr} {fp : List Addr} {tn : Nat → Heap → Prop} {C : Addr} {code : Value} {sc s5 s6 : Shared} {oa : Obj} {H3 : Hp} {gt : TG} {tt : TT} {te : TE} {N : Nat}
    (B : Born X pins σ H3 elt tg iter ifs scope gpos J it fp tn C code sc oa g a s5) (ok : BlkOk X.N X.env.scope scope own) (hN : X.N.Nodup) (hcell : ∀ y ∈ scope.names, y.2 ≠ .cell) (hco : scope.isCoroutine = false) (hA : A.handled = none) (hAf : A.frames = X.A.frames)
    (hg : PG (Cx.gb X (A.over (.compLoop (.GeneratorExp elt [⟨tg, iter, ifs, 0⟩] scope gpos) 0 (.ref it) .none (genEnv scope (cloFrom X.env.cells scope.names []) C code builtinsNs X.env)) []) sc H3 (genEnv scope (cloFrom X.env.cells scope.names []) C code builtinsNs X.env) fp) tg gt)
    (ht : PTs (Cx.gb X (A.over (.compLoop (.GeneratorExp elt [⟨tg, iter, ifs, 0⟩] scope gpos) 0 (.ref it) .none (genEnv scope (cloFrom X.env.cells scope.names []) C code builtinsNs X.env)) []) sc H3 (genEnv scope (cloFrom X.env.cells scope.names []) C code builtinsNs X.env) fp) ifs tt)
    (he : PE (Cx.gb X (A.over (.compLoop (.GeneratorExp elt [⟨tg, iter, ifs, 0⟩] scope gpos) 0 (.ref it) .none (genEnv scope (cloFrom X.env.cells scope.names []) C code builtinsNs X.env)) []) sc H3 (genEnv scope (cloFrom X.env.cells scope.names []) C code builtinsNs X.env) fp) elt te)
    (turn : GTurn J gt tt te (own.map (·.2)) σ ys N W) (w0 : W 0 0 H3) (e6 : s6.os = s5.os) (g6 : s6.gens = s5.gens) (k6 : ∀ b o, s5.heap.get? b = some o → s6.heap.get? b = some o) (hSL : ∀ b ∈ SL, s5.heap.objs.size ≤ b ∧ ∃ o, s6.heap.get? b = some o ∧ ∀ v, o.data ≠ .cell v) :
    GAt (Cx.gb X (A.over (.compLoop (.GeneratorExp elt [⟨tg, iter, ifs, 0⟩] scope gpos) 0 (.ref it) .none (genEnv scope (cloFrom X.env.cells scope.names []) C code builtinsNs X.env)) []) sc H3 (genEnv scope (cloFrom X.env.cells scope.names []) C code builtinsNs X.env) fp) [(a, oa)] SL (wipe σ (own.map (·.2))) ys W A a g 0 s6 := by
  have hover : (A.over (.compLoop (.GeneratorExp elt [⟨tg, iter, ifs, 0⟩] scope gpos) 0 (.ref it) .none (genEnv scope (cloFrom X.env.cells scope.names []) C code builtinsNs X.env)) []).frames = some (genEnv scope (cloFrom X.env.cells scope.names []) C code builtinsNs X.env :: X.stack) := by
    have e1 : (A.over (.compLoop (.GeneratorExp elt [⟨tg, iter, ifs, 0⟩] scope gpos) 0 (.ref it) .none (genEnv scope (cloFrom X.env.cells scope.names []) C code builtinsNs X.env)) []).frames = pushEnvs (Code.envs (.compLoop (.GeneratorExp elt [⟨tg, iter, ifs, 0⟩] scope gpos) 0 (.ref it) .none (genEnv scope (cloFrom X.env.cells scope.names []) C code builtinsNs X.env))) (pushEnvs (envsOf []) A.frames) := rfl
    rw [e1, hAf, B.inv.ok.frames]
    rfl
  obtain ⟨mm, hns⟩ := B.ns
  have I5 := gen_start (A' := A.over (.compLoop (.GeneratorExp elt [⟨tg, iter, ifs, 0⟩] scope gpos) 0 (.ref it) .none (genEnv scope (cloFrom X.env.cells scope.names []) C code builtinsNs X.env)) []) (s' := s5) B.inv ok hN hcell hA hover B.fpo B.kp B.os B.bare hns B.hC
  have hal : sc.heap.objs.size ≤ a := B.ha
  have fa : FpOk (Cx.gb X (A.over (.compLoop (.GeneratorExp elt [⟨tg, iter, ifs, 0⟩] scope gpos) 0 (.ref it) .none (genEnv scope (cloFrom X.env.cells scope.names []) C code builtinsNs X.env)) []) sc H3 (genEnv scope (cloFrom X.env.cells scope.names []) C code builtinsNs X.env) fp) [] H3 a := by
    refine ⟨B.inv.hok.fresh hal, B.aC, fun z => ?_, .inr hal, fun x cc e z => ?_, fun p hp => absurd (show p ∈ ([] : List (Addr × Obj)) ++ [] from hp) (by simp)⟩
    · obtain ⟨_, o, ho, _⟩ := I5.ok.funs.mem z
      exact absurd (Nat.lt_of_lt_of_le (Heap.lt_size ho) hal) (Nat.lt_irrefl _)
    · obtain ⟨v, o, ho, hd⟩ := I5.cell x cc e
      rw [z, B.oa_] at ho
      cases ho
      exact B.nc _ hd
  have I5p : Inv _ [(a, oa)] _ H3 s5 := I5.pins_of fun p hp => by
    rw [List.mem_singleton.mp hp]
    exact ⟨B.oa_, fa.1, fa.2.1, fa.2.2.1, B.nc⟩
  have wk0 : Wk [] s5 s6 := ⟨e6, by rw [g6]; exact B.bare, fun b o _ e => k6 b o e, fun b hb => by simp at hb⟩
  have I6 := inv_wk (SL := []) I5p (fun b hb => by simp at hb) wk0
  have fS : ∀ b ∈ SL, FpOk (Cx.gb X (A.over (.compLoop (.GeneratorExp elt [⟨tg, iter, ifs, 0⟩] scope gpos) 0 (.ref it) .none (genEnv scope (cloFrom X.env.cells scope.names []) C code builtinsNs X.env)) []) sc H3 (genEnv scope (cloFrom X.env.cells scope.names []) C code builtinsNs X.env) fp) [(a, oa)] H3 b := fun b hb => I5p.fpOk (hSL b hb).1 (I5p.hok.fresh (hSL b hb).1)
  have G6 : GIv _ [(a, oa)] SL _ H3 s6 := ⟨I6, fS, fun b hb => (hSL b hb).2⟩
  have hfpl : ∀ b ∈ fp, b < sc.heap.objs.size := fun b hb => (B.fpo b hb).2
  have szs : sc.heap.objs.size ≤ s5.heap.objs.size := Nat.le_trans hal (Nat.le_of_lt (Heap.lt_size B.oa_))
  have nSf : ∀ b ∈ SL, b ∉ fp := fun b hb z => absurd (Nat.lt_of_lt_of_le (hfpl b z) (Nat.le_trans szs (hSL b hb).1)) (Nat.lt_irrefl _)
  have hg6 := B.gs
  rw [← g6] at hg6
  refine ⟨B.gen _ (k6 _ _ B.oa_), ⟨0, H3, w0, G6⟩, _, hg6, fun s'' wk => ⟨rfl, ?_⟩⟩
  have st' : tn 0 s''.heap := B.T.keep _ _ _ B.st fun b hb o e => wk.keep b o (fun z => nSf b z hb) (k6 b o e)
  refine seg_start B.T st' ?_
  refine seg_loop (X := Cx.gb X (A.over (.compLoop (.GeneratorExp elt [⟨tg, iter, ifs, 0⟩] scope gpos) 0 (.ref it) .none (genEnv scope (cloFrom X.env.cells scope.names []) C code builtinsNs X.env)) []) sc H3 (genEnv scope (cloFrom X.env.cells scope.names []) C code builtinsNs X.env) fp)
    rfl rfl rfl rfl rfl hco B.T (fun p hp => ?_) nSf hg ht he turn _ _ 0 0 s'' s'' H3 rfl (by omega) w0 (G6.wk wk) st' (fun b hb => (B.fpo b hb).1.1) fun _ _ => rfl
  rw [List.mem_singleton.mp hp]
  exact fun z => absurd (Nat.lt_of_lt_of_le (hfpl a z) hal) (Nat.lt_irrefl _)
/-- back in the def -/
theorem Born.back {elt tg iter : Expr} {ifs : List Expr} {scope : Scope} {gpos : Pos} {J : It} {it : Addr} {fp : List Addr} {tn : Nat → Heap → Prop} {C : Addr} {code : Value} {sc s5 s7 : Shared} {oa : Obj} {H3 H7 : Hp} {A' : Around} {cenv : Env} {σ' : L2.St}
    (B : Born X pins σ H3 elt tg iter ifs scope gpos J it fp tn C code sc oa g a s5) (G : GIv (Cx.gb X A' sc H3 cenv fp) pl SL σ' H7 s7) : Inv X pins σ H7 s7 :=
  B.inv.call' (ch := fp) G.inv.os G.inv.base G.inv.hok G.inv.bare fun b hb => ⟨(B.fpo b hb).1.2.2.2.1, (B.fpo b hb).1.2.1, (B.fpo b hb).1.2.2.2.2.1, (B.fpo b hb).1.2.2.2.2.2⟩
end
end TX

set_option Elab.async false
set_option linter.all false
set_option maxRecDepth 100000
set_option maxHeartbeats 4000000
/-! TyY: any, all, sum of generator expressions; typed. -/
namespace TX
open PySem L2 PyProof.Rows GenW

abbrev GE (elt tg iter : Expr) (ifs : List Expr) (scope : Scope) (gpos : Pos) : Expr := .GeneratorExp elt [⟨tg, iter, ifs, 0⟩] scope gpos
abbrev gEnv (X : Cx) (scope : Scope) (C : Addr) (code : Value) : Env := genEnv scope (cloFrom X.env.cells scope.names []) C code builtinsNs X.env
theorem room_over {k : Nat} {A : Around} {elt tg iter : Expr} {ifs : List Expr} {scope : Scope} {gpos : Pos} {it : Addr} {cenv : Env} (hr : Room (k + 1) A) : Room k (A.in1.in1.over (.compLoop (GE elt tg iter ifs scope gpos) 0 (.ref it) .none cenv) []) := by
  have h1 : (A.in1.in1.over (.compLoop (GE elt tg iter ifs scope gpos) 0 (.ref it) .none cenv) []).depth = A.depth + 1 := rfl
  have h2 : (A.in1.in1.over (.compLoop (GE elt tg iter ifs scope gpos) 0 (.ref it) .none cenv) []).units = A.units + 5 := rfl
  have d := hr.dp
  have u := hr.un
  exact ⟨hr.hd, by rw [h1]; omega, by rw [h2]; omega⟩
/-- the wish: fin tells which yields' counts the consumer may leave it at -/
def tGen (P : Addr) (wi : TI) (g : TG) (tt : TT) (te : TE) (vs : List Nat) (okY : V → Prop) (val : List V → V) (fin : Nat → Nat → Prop) : TE := fun σ H Q => wi σ H fun J H1 => GxR.TabG H1 P ∧ ∀ H3, TY.Chg H1 TY.fe H3 TY.fe →
  ∃ ys N W, (∀ y ∈ ys, okY y) ∧ W 0 0 H3 ∧ GTurn J g tt te vs σ ys N W ∧ ∀ j i H, fin ys.length j → W j i H → Q (val ys) H
section
variable {X : Cx} {elt tg iter : Expr} {ifs : List Expr} {scope : Scope} {gpos pos p : Pos} {own : List (Str × Nat)} {c P : Addr} {wi : TI} {g : TG} {tt : TT} {te : TE} {k : Nat}
/-- what the rules ask of the generator expression's scope -/
structure GOk (N : List Str) (sc scope : Scope) (own : List (Str × Nat)) : Prop where
  ok : BlkOk N sc scope own
  co : scope.isCoroutine = false
  cell : ∀ y ∈ scope.names, y.2 ≠ .cell
  dot : scope.names.lookup (".0" : Str) = some NameKind.local
theorem pe_genB (hr : Room (k + 1) X.A) (hN : X.N.Nodup) (TB : GxR.TabB X.base X.mg c P) (hcode : X.env.code = .ref c) (S : GOk X.N X.env.scope scope own) (hi : PI X tg iter wi) (isAll : Bool)
    (hgl : Gl X (if isAll then "all" else "any")) (hm : X.mg (if isAll then "all" else "any") = none) (hb : bootBuiltins (if isAll then "all" else "any") = some (.builtin (if isAll then "all" else "any")))
    (hg : ∀ (A' : Around) (s : Shared) (H : Hp) (C : Addr) (code : Value) (fp : List Addr), A'.handled = none → Room k A' → PG (Cx.gb X A' s H (gEnv X scope C code) fp) tg g)
    (ht : ∀ (A' : Around) (s : Shared) (H : Hp) (C : Addr) (code : Value) (fp : List Addr), A'.handled = none → Room k A' → PTs (Cx.gb X A' s H (gEnv X scope C code) fp) ifs tt)
    (he : ∀ (A' : Around) (s : Shared) (H : Hp) (C : Addr) (code : Value) (fp : List Addr), A'.handled = none → Room k A' → PE (Cx.gb X A' s H (gEnv X scope C code) fp) elt te)
    (hs : ∀ v, genFold iter X.env v = pure v)
    (hst : starEach [GE elt tg iter ifs scope gpos] X.env = (false, eval (GE elt tg iter ifs scope gpos) X.env) :: starEach [] X.env) :
    PE X (.Call (.Name (if isAll then "all" else "any") p) [GE elt tg iter ifs scope gpos] [] pos) (tGen P wi g tt te (own.map (·.2)) (fun y => ∃ b, tru y = some b) (fun ys => .bl (if isAll then ys.all fun y => tru y == some true else ys.any fun y => tru y == some true)) fun _ _ => True) := by
  have hd : X.A.depth < recursionLimit := by have := hr.dp; omega
  refine ⟨fun pins s σ H Q I h => ?_⟩
  have key : ∀ {Q' : Value → Shared → Prop}, (∀ v s', EP X pins σ Q v s' → Q' v s') → ∀ (isA : Bool), isA = isAll → wpAny (model X.prog X.w) X.A (eval (GE elt tg iter ifs scope gpos) X.env) (fun u s1 => ∃ a, u = .ref a ∧ wpAny (model X.prog X.w) X.A.in1 (pyIter (.ref a)) (fun it s2 => it = .ref a ∧
      codeAny (model X.prog X.w) X.A (.builtin (if isA then "all.loop" else "any.loop") ⟨[.ref a], []⟩) (fun r s' => ∃ v, r = .ok (.ret v) ∧ Q' v s') s2) X.xe s1) X.xe s := by
    intro Q' hQ' isA eA
    refine gen_make (hr.mono (Nat.le_succ k)) TB hcode S.co S.cell S.dot S.ok hi hs I h fun J H1 q H3 it fp tn C code sc oa gg a s5 c3 B => ?_
    obtain ⟨ys, N, W, hys, w0, turn, fin⟩ := q H3 c3
    have G := B.gat (A := X.A.in1.in1) (SL := []) (s6 := s5) S.ok hN S.cell S.co hr.hd rfl (hg _ _ _ _ _ _ hr.hd (room_over hr)) (ht _ _ _ _ _ _ hr.hd (room_over hr)) (he _ _ _ _ _ _ hr.hd (room_over hr)) turn w0 rfl rfl (fun _ _ e => e) fun b hb => by simp at hb
    refine ⟨a, rfl, wpAny_pyIter_gen G.gen ⟨rfl, ?_⟩⟩
    have hpa : ∀ h : Heap, (∀ p ∈ [(a, oa)], h.get? p.1 = some p.2) → h.IsGen a gg := fun h hp => B.gen h (hp (a, oa) List.mem_cons_self)
    cases isA with
    | true =>
      subst eA
      have L := all_loop (R := fun r s' => ∃ v, r = .ok (.ret v) ∧ Q' v s') hr.hd hd hpa hys _ 0 s5 rfl (Nat.zero_le _) G (fun l y hl => absurd hl (Nat.not_lt_zero _)) fun s' j i H7 w7 G7 => ⟨_, rfl, hQ' _ _ ⟨.bl _, H7, B.back G7, rfl, fin j i H7 trivial w7⟩⟩
      exact L
    | false =>
      subst eA
      have L := any_loop (R := fun r s' => ∃ v, r = .ok (.ret v) ∧ Q' v s') hr.hd hd hpa hys _ 0 s5 rfl (Nat.zero_le _) G (fun l y hl => absurd hl (Nat.not_lt_zero _)) fun s' j i H7 w7 G7 => ⟨_, rfl, hQ' _ _ ⟨.bl _, H7, B.back G7, rfl, fin j i H7 trivial w7⟩⟩
      exact L
  cases isAll with
  | true =>
    refine wpAny_Call_Name_kw (ld_blt I hgl hm hb ?_)
    refine PyProof.Rows.callWith_builtin1 ?_ hst (by rfl)
    rw [hst]
    refine Calls.spliced_cons (thn (key (Q' := EP X pins σ Q) (fun _ _ z => z) true rfl) fun u s1 ⟨a, eu, h1⟩ => ?_)
    subst eu
    refine Calls.spliced_nil ?_
    refine call_function_tree F.kind_all F.plain_all F.entry_all (F.args_all1 _) ?_
    unfold Builtin.«all»
    refine wpAny_bind (m := oneArg "all" _) (wpAny_pure ?_)
    refine wpAny_bind (wpAny_mono h1 (fun it s₂ ⟨e, h₂⟩ => ?_) fun _ _ e => e)
    subst e
    refine wpAny_pure ⟨plainId_quiet F.plain_all_loop _, codeAny_mono h₂ fun r s' ⟨v, er, q⟩ => ?_⟩
    subst er
    exact q
  | false =>
    refine wpAny_Call_Name_kw (ld_blt I hgl hm hb ?_)
    refine PyProof.Rows.callWith_builtin1 ?_ hst (by rfl)
    rw [hst]
    refine Calls.spliced_cons (thn (key (Q' := EP X pins σ Q) (fun _ _ z => z) false rfl) fun u s1 ⟨a, eu, h1⟩ => ?_)
    subst eu
    refine Calls.spliced_nil ?_
    refine call_function_tree F.kind_any F.plain_any F.entry_any (F.args_any1 _) ?_
    unfold Builtin.«any»
    refine wpAny_bind (m := oneArg "any" _) (wpAny_pure ?_)
    refine wpAny_bind (wpAny_mono h1 (fun it s₂ ⟨e, h₂⟩ => ?_) fun _ _ e => e)
    subst e
    refine wpAny_pure ⟨plainId_quiet F.plain_any_loop _, codeAny_mono h₂ fun r s' ⟨v, er, q⟩ => ?_⟩
    subst er
    exact q
theorem pe_genS (hr : Room (k + 1) X.A) (hN : X.N.Nodup) (TB : GxR.TabB X.base X.mg c P) (hcode : X.env.code = .ref c) (S : GOk X.N X.env.scope scope own) (hi : PI X tg iter wi)
    (hgl : Gl X "sum") (hm : X.mg "sum" = none) (hb : bootBuiltins "sum" = some (.builtin "sum"))
    (hg : ∀ (A' : Around) (s : Shared) (H : Hp) (C : Addr) (code : Value) (fp : List Addr), A'.handled = none → Room k A' → PG (Cx.gb X A' s H (gEnv X scope C code) fp) tg g)
    (ht : ∀ (A' : Around) (s : Shared) (H : Hp) (C : Addr) (code : Value) (fp : List Addr), A'.handled = none → Room k A' → PTs (Cx.gb X A' s H (gEnv X scope C code) fp) ifs tt)
    (he : ∀ (A' : Around) (s : Shared) (H : Hp) (C : Addr) (code : Value) (fp : List Addr), A'.handled = none → Room k A' → PE (Cx.gb X A' s H (gEnv X scope C code) fp) elt te)
    (hs : ∀ v, genFold iter X.env v = pure v)
    (hst : starEach [GE elt tg iter ifs scope gpos] X.env = (false, eval (GE elt tg iter ifs scope gpos) X.env) :: starEach [] X.env) :
    PE X (.Call (.Name "sum" p) [GE elt tg iter ifs scope gpos] [] pos) (tGen P wi g tt te (own.map (·.2)) (fun y => ∃ i : Int, y = .int i) (fun ys => .int (psum ys ys.length)) fun n j => j = n) := by
  have hd : X.A.depth < recursionLimit := by have := hr.dp; omega
  refine ⟨fun pins s σ H Q I h => ?_⟩
  refine wpAny_Call_Name_kw (ld_blt I hgl hm hb ?_)
  refine PyProof.Rows.callWith_builtin1 ?_ hst (by rfl)
  rw [hst]
  refine Calls.spliced_cons ?_
  refine gen_make (hr.mono (Nat.le_succ k)) TB hcode S.co S.cell S.dot S.ok hi hs I h fun J H1 q H3 it fp tn C code sc oa gg a s5 c3 B => ?_
  obtain ⟨ys, N, W, hys, w0, turn, fin⟩ := q H3 c3
  have hpa : ∀ h : Heap, (∀ p ∈ [(a, oa)], h.get? p.1 = some p.2) → h.IsGen a gg := fun h hp => B.gen h (hp (a, oa) List.mem_cons_self)
  refine Calls.spliced_nil ?_
  refine call_function_tree F.kind_sum F.plain_sum F.entry_sum (F.args_sum1 _) ?_
  unfold Builtin.«sum»
  simp only [List.length_cons, List.length_nil]
  rw [if_neg (by decide)]
  refine wpAny_bind (wpAny_of_eq (show Builtin.Builtins.bindParams "sum" ["start"] 0 { } = pure [none] from rfl) ?_)
  refine wpAny_bind (wpAny_pyIter_gen (B.gen _ B.oa_) ?_)
  refine wpAny_bind (wpAny_mkInt ?_)
  refine wpAny_bind (wpAny_pure ?_)
  simp only [List.forIn_cons, List.forIn_nil]
  refine wpAny_bind (wpAny_bind (wpAny_bind (wpAny_isInstance (T := "int") (b := false) (typeIs_int _ _ _) PySem.sub_int_str ?_)))
  simp only [Bool.false_eq_true, if_false]
  refine wpAny_pure (wpAny_bind (wpAny_bind (wpAny_isInstance (T := "int") (b := false) (typeIs_int _ _ _) PySem.sub_int_bytes ?_)))
  simp only [Bool.false_eq_true, if_false]
  refine wpAny_pure (wpAny_bind (wpAny_bind (wpAny_isInstance (T := "int") (b := false) (typeIs_int _ _ _) PySem.sub_int_bytearray ?_)))
  simp only [Bool.false_eq_true, if_false]
  refine wpAny_pure (wpAny_pure ?_)
  refine wpAny_bind (wpAny_newObj_type ?_)
  have G := B.gat (A := X.A.in1.in1) (SL := [s5.heap.objs.size]) (s6 := { s5 with heap := s5.heap.push { cls := .type "list", data := .seq #[.int 0 s5.toks] }, toks := s5.toks + 1 }) S.ok hN S.cell S.co hr.hd rfl (hg _ _ _ _ _ _ hr.hd (room_over hr)) (ht _ _ _ _ _ _ hr.hd (room_over hr)) (he _ _ _ _ _ _ hr.hd (room_over hr)) turn w0 rfl rfl
    (fun _ _ e => Heap.get?_push_of_some _ e) fun b hb => by
      rw [List.mem_singleton.mp hb]
      exact ⟨Nat.le_refl _, _, Heap.get?_push_size _ rfl, fun v z => Data.noConfusion z⟩
  have hSa : s5.heap.objs.size ≠ a := Nat.ne_of_gt (Heap.lt_size B.oa_)
  have L := fun R => sum_loop (R := R) hr.hd hd hpa hSa hys _ 0 _ s5.toks 0 0 (.inl rfl) rfl (Nat.zero_le _) G (Heap.get?_push_size _ rfl)
  exact wpAny_pure ⟨plainId_quiet F.plain_sum_loop _, L _ fun s' t' i H7 w7 G7 => ⟨.int _, H7, B.back G7, ⟨t', rfl⟩, fin _ i H7 rfl w7⟩⟩
end
end TX

set_option Elab.async false
set_option linter.all false
set_option maxRecDepth 100000
set_option maxHeartbeats 4000000
/-! TyZ: any, all, sum of generator expressions, typed; defs whose code's table is known. -/
namespace TY
open PySem L2 TX

section
variable {X : Cx} {TB : Addr → Prop} {Ξ : WX} {C : Ctr} {vs : List V} {Γ Γ1 Γ2 Γ3 Γ4 Γe Γb Γc : Cy} {tg e a b o : Expr} {es : List Expr} {pos p p2 apos gpos : Pos} {x : Str} {ks : List Ki} {t u r te tr : Ty} {K : PySem.W.Frag}
@[reducible] def wGen {α β : Type} {r : Ty} (fin : Nat → Nat → Prop) (val' : List α → r.α) (w : WT Γ Γ1 (List te.α)) (wg : te.α → HL Γ1 → (HL Γ2 → Prop) → (Xn → Prop) → Prop) (wt : WT Γ2 Γ2 Bool) (we : WT Γ2 Γ2 α) (c : Clr Γ2 Γ1) (wx : HL Γ → β) (bk : β → HL Γ1 → HL Γe) : WT Γ Γe r.α :=
  fun s Q E => w s (fun xs s1 => ∃ (ys : List α) (I : Nat → Nat → HL Γ1 → Prop), I 0 0 s1 ∧
    (∀ i j x s2, xs[i]? = some x → I i j s2 → wg x s2 (fun s3 => wt s3 (fun b s4 => (b = true → we s4 (fun y s5 => ys[j]? = some y ∧ I (i + 1) (j + 1) (c.f s5)) FE) ∧ (b = false → I (i + 1) j (c.f s4))) FE) FE) ∧
    (∀ j s2, I xs.length j s2 → j = ys.length) ∧ (∀ i j s2, I i j s2 → j ≤ ys.length) ∧ ∀ i j s2, fin ys.length j → I i j s2 → Q (val' ys) (bk (wx s) s2)) E
theorem gen_ty {α β : Type} {f : α → V} {P : Addr} {fin : Nat → Nat → Prop} {val' : List α → r.α} {val : List V → V} {okY : V → Prop} {w : WT Γ Γ1 (List te.α)} {wg : te.α → HL Γ1 → (HL Γ2 → Prop) → (Xn → Prop) → Prop} {wt : WT Γ2 Γ2 Bool} {we : WT Γ2 Γ2 α} {c : Clr Γ2 Γ1} {wx : HL Γ → β} {bk : β → HL Γ1 → HL Γe} {js vs : List Nat}
    (hP : TB P) (hv : NoneAt Γ1 vs) (hj : ∀ j ∈ js, j ∈ vs) (hok : ∀ y : α, okY (f y)) (hval : ∀ (ys : List α) K H, r.at_ K H fe (val (ys.map f)) (val' ys)) {σ : L2.St} {H : Hp} {QH : VK}
    (h : LX TB K Ξ Γ Γe (.val r) (wGen fin val' w wg wt we c wx bk) σ H QH) :
    tGen P (LY TB K Ξ Γ Γ1 te w Γe β wx bk) (LG TB K ΞF Γ1 Γ2 te js wg) (LT TB K ΞF Γ2 Γ2 wt) (LX TB K ΞF Γ2 Γ2 (.val (tFlat α f)) we) vs okY val fin σ H QH := by
  obtain ⟨s, F, Q, E, sr, tb, hw, hq, he⟩ := h
  refine ⟨s, F, _, E, sr, tb, hw, fun xs s1 J H1 F1 F' q sr1 d1 c1 runs back => ⟨tb.stay (c1.stay sr.own) P hP, fun H3 c3 => ?_⟩, he⟩
  obtain ⟨ys, I, i0, step, ends, jle, done⟩ := q
  obtain ⟨own1, runs⟩ := runs
  have lσ := sr1.length
  have st3 : Stay H1 H3 := c3.stay fun _ z => z.elim
  have kp3 : ∀ (G : Fp), (∀ b, G b → Mut (H1 b)) → ∀ b o, G b → H1 b = some o → H3 b = some o := fun G hG => c3.kept hG (dj_fe _)
  have sr3 : SR K H3 Γ1 F' σ s1 := sr1.keep st3 (kp3 F' sr1.own)
  have own3 : ∀ b, F1 b → Mut (H3 b) := fun b z => by
    have m := own1 b z
    cases e : H1 b with
    | none => rw [e] at m; exact m.elim
    | some o =>
      rw [kp3 F1 own1 b o z e]
      rw [e] at m
      exact m
  have c13 : Chg H F H3 (fo F1 F') := ⟨fun b o h n => by
    obtain ⟨o1, h1, k1⟩ := c1.keep b o h n
    obtain ⟨o2, h2, k2⟩ := c3.keep b o1 h1 fun z => z
    exact ⟨o2, h2, k1.trans k2⟩, c1.new⟩
  have sr3w : SR K H3 Γ1 F' (wipe σ vs) s1 := sr3.agree (wipe_length _ _) fun i hi => wipe_out fun z => hi (hv.mem z)
  have toW : ∀ {H2 : Hp} {F2 : Fp} {σ2 : L2.St} {s2 : HL Γ1}, SR K H2 Γ1 F2 σ2 s2 → (∀ i : Nat, i ∉ js → σ2[i]? = (wipe σ vs)[i]?) → SR K H2 Γ1 F2 (wipe σ vs) s2 := fun {H2 F2 σ2 s2} sr2 ag =>
    sr2.agree (by rw [wipe_length, lσ, sr2.length]) fun i hi => (ag i fun z => hi (hv.mem (hj i z))).symm
  refine ⟨ys.map f, xs.length, fun j i H2 => i ≤ xs.length ∧ ∃ s2 F2, I i j s2 ∧ SR K H2 Γ1 F2 (wipe σ vs) s2 ∧ Chg H3 F' H2 F2, fun y hy => ?_, ⟨Nat.zero_le _, s1, F', i0, sr3w, Chg.refl⟩, ?_, ?_⟩
  · obtain ⟨z, _, rfl⟩ := List.mem_map.mp hy
    exact hok z
  · rintro j i H2 ⟨hi, s2, F2, ii, sr2, c2⟩
    refine ⟨hi, by rw [List.length_map]; exact jle i j s2 ii, ?_⟩
    have st2 := c2.stay sr3.own
    obtain ⟨r1, r2⟩ := runs H2 (st3.trans st2) fun b o z h => c2.kept own3 d1 b o z (kp3 F1 own1 b o z h)
    by_cases hlt : i < xs.length
    · obtain ⟨g1, g2⟩ := r2 i hlt
      refine .inr ⟨hlt, g1, fun y H4 yl => ?_⟩
      obtain ⟨at3, c4⟩ := g2 y H4 yl
      have c4' : Chg H2 F2 H4 F2 := ⟨fun b o h n => c4.keep b o h fun z => z, fun b z => .inl z⟩
      have sr4 := sr2.kept c4 (fun _ z => z.elim) (dj_fe _)
      have tb2 : Tab TB H2 := tb.stay ((c13.stay sr.own).trans st2)
      have tb4 := tb2.stay (c4'.stay sr2.own)
      refine ⟨s2, F2, fe, xs[i], _, _, sr4, tb4, at3, fe_dj _, step i j xs[i] s2 (by simp [hlt]) ii, fun s5 σ5 H5 F5 q5 sr5 c5 ag => ⟨?_, ?_⟩, fun _ z => z.elim⟩
      · have := wipe_eq (σ := wipe σ vs) (σ' := σ5) (vs := vs) (by obtain ⟨F6, h6, _⟩ := c.ok sr5; rw [h6.length, wipe_length, lσ]) fun l hl => ag l fun z => hl (hj l z)
        rw [this]
        exact wipe_eq (wipe_length _ _) fun l hl => wipe_out hl
      rw [fe_fo] at c5
      refine ⟨s5, F5, _, _, sr5, tb4.stay (c5.stay sr4.own), q5, fun bb s6 H6 F6 q6 sr6 c6 => ?_, fun _ z => z.elim⟩
      have c26 : Chg H2 F2 H6 F6 := (c4'.trans c5).trans c6
      cases bb with
      | false =>
        refine iteF ?_
        obtain ⟨F7, sr7, sub⟩ := c.ok sr6
        exact ⟨hlt, c.f s6, F7, q6.2 rfl, toW sr7 ag, (c2.trans c26).sub sub⟩
      | true =>
        refine iteT ⟨s6, F6, _, _, sr6, tb2.stay (c26.stay sr2.own), q6.1 rfl, fun z s7 v H7 G1 F7 q7 at7 sr7 d7 c7 => ?_, fun _ z => z.elim⟩
        obtain ⟨eG, ev⟩ := at7
        subst eG
        rw [fe_fo] at c7
        obtain ⟨F8, sr8, sub⟩ := c.ok sr7
        refine ⟨by rw [List.getElem?_map, q7.1, ev]; rfl, hlt, c.f s7, F8, q7.2, toW sr8 ag, ((c2.trans c26).trans c7).sub sub⟩
    · have e : i = xs.length := by omega
      subst e
      exact .inl ⟨r1, by rw [List.length_map]; exact ends j s2 ii⟩
  · rintro j i H2 hf ⟨hi, s2, F2, ii, sr2, c2⟩
    rw [List.length_map] at hf
    have st2 := c2.stay sr3.own
    have sr2' : SR K H2 Γ1 F2 σ s2 := sr2.agree (wipe_length _ _).symm fun i hi => (wipe_out fun z => hi (hv.mem z)).symm
    have dF : Dj F1 F2 := c2.apart own3 d1
    obtain ⟨F3, srE, sub⟩ := back s2 H2 F2 sr2' (st3.trans st2) (fun b o z h => c2.kept own3 d1 b o z (kp3 F1 own1 b o z h)) dF
    exact hq _ _ _ H2 fe F3 (done i j s2 hf ii) (hval ys K H2) srE (fe_dj _) (by rw [fe_fo]; exact (c13.trans c2.frame).sub fun b z => sub b z)
abbrev GFam (X : Cx) (k : Nat) (scope : Scope) (cb : Around → Shared → Hp → Addr → Value → List Addr → Prop) : Prop := ∀ (A' : Around) (s : Shared) (H : Hp) (C : Addr) (code : Value) (fp : List Addr), A'.handled = none → Room k A' → cb A' s H C code fp
theorem ex_genB {α β : Type} {f : α → V} {P c : Addr} {k : Nat} {elt iter : Expr} {ifs : List Expr} {scope : Scope} {w : WT Γ Γ1 (List te.α)} {wg : te.α → HL Γ1 → (HL Γ2 → Prop) → (Xn → Prop) → Prop} {wt : WT Γ2 Γ2 Bool} {we : WT Γ2 Γ2 α} {wx : HL Γ → β} {bk : β → HL Γ1 → HL Γe} {js : List Nat}
    {wg' : (A' : Around) → Shared → Hp → Addr → Value → List Addr → A'.handled = none → Room k A' → te.α → HL Γ1 → (HL Γ2 → Prop) → (Xn → Prop) → Prop} {wt' : (A' : Around) → Shared → Hp → Addr → Value → List Addr → A'.handled = none → Room k A' → WT Γ2 Γ2 Bool} {we' : (A' : Around) → Shared → Hp → Addr → Value → List Addr → A'.handled = none → Room k A' → WT Γ2 Γ2 α}
    (isAll : Bool) (trf : α → Bool) (htr : ∀ y, tru (f y) = some (trf y)) (own : List (Str × Nat)) (hr : Room (k + 1) X.A) (hN : X.N.Nodup) (tab : GxR.TabB X.base X.mg c P) (hP : TB P) (hcode : X.env.code = .ref c) (S : GOk X.N X.env.scope scope own) (hi : Iy X TB Ξ Γ tg iter Γ1 te w Γe β wx bk)
    (hm : X.mg (if isAll then "all" else "any") = none) (hb : bootBuiltins (if isAll then "all" else "any") = some (.builtin (if isAll then "all" else "any")))
    (hg : ∀ (A' : Around) (s : Shared) (H : Hp) (C : Addr) (code : Value) (fp : List Addr) (h1 : A'.handled = none) (h2 : Room k A'), Gx (Cx.gb X A' s H (gEnv X scope C code) fp) TB ΞF Γ1 tg te js Γ2 (wg' A' s H C code fp h1 h2))
    (ht : ∀ (A' : Around) (s : Shared) (H : Hp) (C : Addr) (code : Value) (fp : List Addr) (h1 : A'.handled = none) (h2 : Room k A'), Txs (Cx.gb X A' s H (gEnv X scope C code) fp) TB ΞF Γ2 ifs Γ2 (wt' A' s H C code fp h1 h2))
    (he : ∀ (A' : Around) (s : Shared) (H : Hp) (C : Addr) (code : Value) (fp : List Addr) (h1 : A'.handled = none) (h2 : Room k A'), Ex (Cx.gb X A' s H (gEnv X scope C code) fp) TB ΞF Γ2 elt Γ2 (.val (tFlat α f)) (we' A' s H C code fp h1 h2)) (cl : Clr Γ2 Γ1)
    (hwg : ∀ A' s H C code fp h1 h2, wg' A' s H C code fp h1 h2 = wg := by intros; rfl) (hwt : ∀ A' s H C code fp h1 h2, wt' A' s H C code fp h1 h2 = wt := by intros; rfl) (hwe : ∀ A' s H C code fp h1 h2, we' A' s H C code fp h1 h2 = we := by intros; rfl)
    (hgl : Gl X (if isAll then "all" else "any") := by rfl) (hv : NoneAt Γ1 (own.map (·.2)) := by repeat (first | exact trivial | refine ⟨rfl, ?_⟩)) (hj : ∀ j ∈ js, j ∈ own.map (·.2) := by decide) (hs : ∀ v, genFold iter X.env v = pure v := by intro _; rfl)
    (hst : starEach [GE elt tg iter ifs scope gpos] X.env = (false, eval (GE elt tg iter ifs scope gpos) X.env) :: starEach [] X.env := by rfl) :
    Ex X TB Ξ Γ (.Call (.Name (if isAll then "all" else "any") p) [.GeneratorExp elt [⟨tg, iter, ifs, 0⟩] scope gpos] [] pos) Γe (.val tBool) (wGen (r := tBool) (fun _ _ => True) (fun ys => if isAll then ys.all trf else ys.any trf) w wg wt we cl wx bk) :=
  ⟨pe_weak (pe_genB hr hN tab hcode S hi.pi isAll hgl hm hb (fun A' s H C code fp h1 h2 => hwg A' s H C code fp h1 h2 ▸ (hg A' s H C code fp h1 h2).pg) (fun A' s H C code fp h1 h2 => hwt A' s H C code fp h1 h2 ▸ (ht A' s H C code fp h1 h2).pt) (fun A' s H C code fp h1 h2 => hwe A' s H C code fp h1 h2 ▸ (he A' s H C code fp h1 h2).pe) hs hst) fun σ H Q h =>
    gen_ty (r := tBool) (f := f) (val := fun ys => .bl (if isAll then ys.all fun y => tru y == some true else ys.any fun y => tru y == some true)) (val' := fun ys => if isAll then ys.all trf else ys.any trf) hP hv hj (fun y => ⟨_, htr y⟩) (fun ys K H => ⟨rfl, by
      congr 1
      have e : ∀ y : α, (tru (f y) == some true) = trf y := fun y => by rw [htr]; cases trf y <;> rfl
      cases isAll <;> simp [List.all_map, List.any_map, Function.comp_def, e]⟩) h⟩
theorem psum_ints (ys : List Int) : psum (ys.map V.int) (ys.map V.int).length = ys.sum := by
  unfold psum
  rw [List.take_length, List.map_map]
  congr 1
  induction ys with
  | nil => rfl
  | cons y r ih => rw [List.map_cons, ih]; rfl
theorem ex_genS {β : Type} {P c : Addr} {k : Nat} {elt iter : Expr} {ifs : List Expr} {scope : Scope} {w : WT Γ Γ1 (List te.α)} {wg : te.α → HL Γ1 → (HL Γ2 → Prop) → (Xn → Prop) → Prop} {wt : WT Γ2 Γ2 Bool} {we : WT Γ2 Γ2 Int} {wx : HL Γ → β} {bk : β → HL Γ1 → HL Γe} {js : List Nat}
    {wg' : (A' : Around) → Shared → Hp → Addr → Value → List Addr → A'.handled = none → Room k A' → te.α → HL Γ1 → (HL Γ2 → Prop) → (Xn → Prop) → Prop} {wt' : (A' : Around) → Shared → Hp → Addr → Value → List Addr → A'.handled = none → Room k A' → WT Γ2 Γ2 Bool} {we' : (A' : Around) → Shared → Hp → Addr → Value → List Addr → A'.handled = none → Room k A' → WT Γ2 Γ2 Int}
    (own : List (Str × Nat)) (hr : Room (k + 1) X.A) (hN : X.N.Nodup) (tab : GxR.TabB X.base X.mg c P) (hP : TB P) (hcode : X.env.code = .ref c) (S : GOk X.N X.env.scope scope own) (hi : Iy X TB Ξ Γ tg iter Γ1 te w Γe β wx bk)
    (hm : X.mg "sum" = none) (hb : bootBuiltins "sum" = some (.builtin "sum"))
    (hg : ∀ (A' : Around) (s : Shared) (H : Hp) (C : Addr) (code : Value) (fp : List Addr) (h1 : A'.handled = none) (h2 : Room k A'), Gx (Cx.gb X A' s H (gEnv X scope C code) fp) TB ΞF Γ1 tg te js Γ2 (wg' A' s H C code fp h1 h2))
    (ht : ∀ (A' : Around) (s : Shared) (H : Hp) (C : Addr) (code : Value) (fp : List Addr) (h1 : A'.handled = none) (h2 : Room k A'), Txs (Cx.gb X A' s H (gEnv X scope C code) fp) TB ΞF Γ2 ifs Γ2 (wt' A' s H C code fp h1 h2))
    (he : ∀ (A' : Around) (s : Shared) (H : Hp) (C : Addr) (code : Value) (fp : List Addr) (h1 : A'.handled = none) (h2 : Room k A'), Ex (Cx.gb X A' s H (gEnv X scope C code) fp) TB ΞF Γ2 elt Γ2 (.val tInt) (we' A' s H C code fp h1 h2)) (cl : Clr Γ2 Γ1)
    (hwg : ∀ A' s H C code fp h1 h2, wg' A' s H C code fp h1 h2 = wg := by intros; rfl) (hwt : ∀ A' s H C code fp h1 h2, wt' A' s H C code fp h1 h2 = wt := by intros; rfl) (hwe : ∀ A' s H C code fp h1 h2, we' A' s H C code fp h1 h2 = we := by intros; rfl)
    (hgl : Gl X "sum" := by rfl) (hv : NoneAt Γ1 (own.map (·.2)) := by repeat (first | exact trivial | refine ⟨rfl, ?_⟩)) (hj : ∀ j ∈ js, j ∈ own.map (·.2) := by decide) (hs : ∀ v, genFold iter X.env v = pure v := by intro _; rfl)
    (hst : starEach [GE elt tg iter ifs scope gpos] X.env = (false, eval (GE elt tg iter ifs scope gpos) X.env) :: starEach [] X.env := by rfl) :
    Ex X TB Ξ Γ (.Call (.Name "sum" p) [.GeneratorExp elt [⟨tg, iter, ifs, 0⟩] scope gpos] [] pos) Γe (.val tInt) (wGen (r := tInt) (fun n j => j = n) List.sum w wg wt we cl wx bk) :=
  ⟨pe_weak (pe_genS hr hN tab hcode S hi.pi hgl hm hb (fun A' s H C code fp h1 h2 => hwg A' s H C code fp h1 h2 ▸ (hg A' s H C code fp h1 h2).pg) (fun A' s H C code fp h1 h2 => hwt A' s H C code fp h1 h2 ▸ (ht A' s H C code fp h1 h2).pt) (fun A' s H C code fp h1 h2 => hwe A' s H C code fp h1 h2 ▸ (he A' s H C code fp h1 h2).pe) hs hst) fun σ H Q h =>
    gen_ty (r := tInt) (f := V.int) (val := fun ys => .int (psum ys ys.length)) (val' := List.sum) hP hv hj (fun y => ⟨_, rfl⟩) (fun ys K H => ⟨rfl, by rw [psum_ints]⟩) h⟩
end

/-! ### a lent parameter, walked -/
section
variable {X : Cx} {TB : Addr → Prop} {Ξ : WX} {Γ : Cy} {tg e : Expr} {pos p : Pos} {t : Ty} {K : PySem.W.Frag}
theorem iy_BA {v0 : V} [im : Imm t] {iter : Expr} {te : Ty} {f : List t.α → List te.α} {g : TI} (J : Addr → It) (i : Nat) (e : Cy.at_ Γ i = some (tAt v0 (tList t))) (hp : PI X tg iter g)
    (hg : ∀ (σ : L2.St) (H : Hp) (R : It → Hp → Prop) l ws, σ[i]? = some (some (.ref l)) → H l = some (.lst ws) → R (J l) H → g σ H R)
    (hJ : ∀ H l ws xs, H l = some (.lst ws) → Al t X.K H ws xs → Runs X.K (J l) te (f1 l) H (f xs)) :
    Iy X TB Ξ Γ tg iter (Cy.set_ Γ i none) te (fun s Q _ => Q (f (cst (t := tAt v0 (tList t)) e (get Γ i s))) (put Γ i none () s)) Γ (List t.α) (fun s => cst (t := tAt v0 (tList t)) e (get Γ i s)) (fun a s => pbk Γ i (tAt v0 (tList t)) e a s) := ⟨pi_weak hp fun σ H R h => by
  obtain ⟨s, F, Q, E, sr, tb, hw, hq, he⟩ := h
  obtain ⟨v, F1, F2, h1, at1, sr2, rfl, d⟩ := sr.take_ e
  obtain ⟨ev0, l, ws, rfl, rfl, h2, al⟩ := at1
  refine hg σ H R l ws h1 h2 (hq _ _ (J l) H (f1 l) F2 hw sr2 d Chg.refl (hJ _ _ _ _ h2 al) fun s2 H2 F2' sr3 st kp d3 => ?_)
  obtain ⟨F', a1, a2⟩ := SR.pbk_ (t := tAt v0 (tList t)) (v := .ref l) e sr3 h1 (a := cst (t := tAt v0 (tList t)) e (get Γ i s)) (G := f1 l) ⟨ev0, l, ws, rfl, rfl, kp l _ rfl h2, al.keep st⟩ d3
  exact ⟨F', a1, a2⟩⟩
@[reducible] def wOutA {t te : Ty} {v0 : V} (f : List t.α → List te.α) (i : Nat) (e : Cy.at_ Γ i = some (tAt v0 (tList t))) : WT Γ (Cy.set_ Γ i none) (List te.α) := fun s Q _ => Q (f (cst (t := tAt v0 (tList t)) e (get Γ i s))) (put Γ i none () s)
/-- a lent list in slot i, walked in an expression -/
theorem iy_lstBA {v0 : V} [im : Imm t] {x : Str} (i : Nat) (e : Cy.at_ Γ i = some (tAt v0 (tList t)) := by rfl) (hN : X.N[i]? = some x := by rfl) (hv : Vis X.env.scope x := by first | exact Or.inl rfl | exact Or.inr (Or.inl rfl) | exact Or.inr (Or.inr rfl)) (hd : (x == ("__debug__" : Str)) = false := by decide)
    (hcd : (x == ("__classdict__" : Str)) = false := by decide) : Iy X TB Ξ Γ tg (.Name x pos) (Cy.set_ Γ i none) t (wOutA (te := t) (fun xs => xs) i e) Γ (List t.α) (fun s => cst (t := tAt v0 (tList t)) e (get Γ i s)) (fun a s => pbk Γ i (tAt v0 (tList t)) e a s) :=
  iy_BA (f := fun xs => xs) (Itl X.K) i e (pi_list (L2.pv i hN hv hd hcd)) (fun σ H R l ws h1 h2 r => ⟨_, h1, l, rfl, ⟨ws, SqL.of h2⟩, r⟩) fun H l ws xs h al => runs_lst h al
theorem iy_enmBA {v0 : V} [im : Imm t] {x : Str} {elts : List Expr} {kk : Nat} {tpos q : Pos} (i : Nat) (hm : X.mg "enumerate" = none) (hg : Gl X "enumerate" := by rfl) (e : Cy.at_ Γ i = some (tAt v0 (tList t)) := by rfl) (hN : X.N[i]? = some x := by rfl) (hv : Vis X.env.scope x := by first | exact Or.inl rfl | exact Or.inr (Or.inl rfl) | exact Or.inr (Or.inr rfl)) (hd : (x == ("__debug__" : Str)) = false := by decide)
    (hcd : (x == ("__classdict__" : Str)) = false := by decide) (hs : starEach [.Name x pos] X.env = [(false, eval (.Name x pos) X.env)] := by rfl) :
    Iy X TB Ξ Γ (.Tuple elts kk tpos) (.Call (.Name "enumerate" p) [.Name x pos] [] q) (Cy.set_ Γ i none) (tTpl [tInt, t]) (wOutA (te := tTpl [tInt, t]) enm i e) Γ (List t.α) (fun s => cst (t := tAt v0 (tList t)) e (get Γ i s)) (fun a s => pbk Γ i (tAt v0 (tList t)) e a s) :=
  iy_BA (te := tTpl [tInt, t]) (f := enm) (Ite X.K) i e (pi_enum hg hm (L2.pa_cons (L2.pv i hN hv hd hcd) L2.pa_nil hs) hs) (fun σ H R l ws h1 h2 r => ⟨_, h1, l, ws, rfl, SqL.of h2, r⟩) fun H l ws xs h al => runs_enm h al
end

/-! ### defs whose code object is known -/
structure FunT (K : PySem.W.Frag) (x qual : Str) (st : Stmt) (f : Addr) (fd : FuncData) (c : Addr) : Prop where
  ex : ∃ (oc : Value) (od : Option Addr) (kV doc pm : Value) (an : Option Addr) (ct : Value) (osl : Array (Option Value)),
    fd = PySem.W.fnOf x qual (defArgs st) (defBody st) (defScope st) .none kV doc pm an (.ref c) ct ∧ K.lookup f = some ⟨oc, od, .func fd, osl⟩ ∧ PySem.W.codeIn K (.ref c) qual = true
  kp : PySem.W.keepIn K (.ref f) = true
theorem FunT.fun_ {K : PySem.W.Frag} {x qual : Str} {st : Stmt} {f : Addr} {fd : FuncData} {c : Addr} (F : FunT K x qual st f fd c) : Fun K x qual st f fd := by
  obtain ⟨oc, od, kV, doc, pm, an, ct, osl, h1, h2, h3⟩ := F.ex
  exact ⟨⟨oc, od, kV, doc, pm, an, .ref c, ct, osl, h1, h2, h3⟩, F.kp⟩
section
variable {P : Program} {w : World} {K : PySem.W.Frag} {mg : Str → Option Value} {base : Heap}
theorem FunT.okX {x qual : Str} {st : Stmt} {f c : Addr} {fd : FuncData} {N ps : List Str} {k : Nat} {sp : Sp} (F : FunT K x qual st f fd c) (S : FnScope N ps (defScope st)) (len : ∀ vs H Q E, sp vs H Q E → vs.length = ps.length)
    (hbody : ∀ (A : Around) (outer : List Env) (s : Shared) (H : Hp) (vs : List V) (Q : VK) (E : XK), Room k (A.deeper (PyProof.Rows.envOfC qual (defScope st) s.heap.objs.size f (.ref c))) → sp vs H Q E →
      ∃ t, PSs (cxOf (L2.CX P w) P w K mg base N qual (defScope st) f (.ref c) A outer s H E) (defBody st) t ∧ t { nx := fun _ H' => Q .non H', rt := Q } (start N vs) H) : FnOk P w K mg base (L2.CX P w) (k + 1) f fd ps sp := by
  obtain ⟨oc, od, kV, doc, pm, an, ct, osl, rfl, lk, hcd⟩ := F.ex
  exact fn_of lk hcd S len fun A outer s H vs Q E hr hsp => hbody A outer s H vs Q E hr hsp
theorem fn_tyT {x qual : Str} {st : Stmt} {f c : Addr} {fd : FuncData} {N pn : List Str} {k : Nat} {C : Ctr} {TB : Addr → Prop} (n : Nat) (F : FunT K x qual st f fd c) (S : FnScope N pn (defScope st)) (hl : C.ps.length = pn.length) (hn : N.length = pn.length + n)
    (hbody : ∀ (cdv : Value) (A : Around) (outer : List Env) (s : Shared) (H : Hp) (vs : List V) (E : XK), cdv = .ref c → Room k (A.deeper (PyProof.Rows.envOfC qual (defScope st) s.heap.objs.size f cdv)) → vs.length = C.ps.length →
      ∃ Γn w', Ss (cxOf (L2.CX P w) P w K mg base N qual (defScope st) f cdv A outer s H E) TB (fun cls d _ H' => E cls d H') C vs (ini C.ps vs n) (defBody st) Γn [] [] w' ∧ ∀ as Q E', C.w as Q E' → w' (iniv C.ps vs n as) (enR Q E')) :
    FnOk P w K mg base (L2.CX P w) (k + 1) f fd pn (C.sp K TB) := by
  refine F.okX S (fun vs H Q E h => (Ctr.len h).trans hl) fun A outer s H vs Q E hr h => ?_
  have hv : vs.length = C.ps.length := Ctr.len h
  obtain ⟨as, F0, Qt, Et, ar, tb, hw, hq, he⟩ := h
  obtain ⟨Γn, w', d, q⟩ := hbody (.ref c) A outer s H vs E rfl hr hv
  refine ⟨_, d.ps, iniv C.ps vs n as, F0, enR Qt Et, ?_, tb, q as Qt Et hw, fun _ _ _ _ z => z.elim, fun r o v H' F1 F2 q a ao dj c => hq r o v H' F1 F2 q a ao dj c, fun _ _ _ _ z => z.elim, fun _ _ _ _ z => z.elim, fun x ex cls d σ' H' xa c => he x ex cls d H' xa c⟩
  have e : start N vs = vs.map some ++ List.replicate n none := by
    show vs.map some ++ List.replicate (N.length - vs.length) none = _
    rw [show N.length - vs.length = n by omega]
  rw [e]
  exact sr_ini n ar
end
end TY

set_option Elab.async false
set_option linter.all false
set_option maxRecDepth 100000
set_option maxHeartbeats 4000000
/-! TyR: repr of a list of data (only where no repr is under way around: A.guards). -/
namespace TY
open PySem L2
mutual
def py : D → PyData
  | .non => .none
  | .bl b => .bool b
  | .int i => .int i
  | .str x => .str ⟨x.toArray⟩
  | .tup xs => .tuple (pys xs)
def pys : List D → List PyData
  | [] => []
  | x :: xs => py x :: pys xs
end
mutual
theorem dp_py {K : PySem.W.Frag} {H : Hp} : ∀ (d : D) (v : V), DP K H v d → Dp K H v (py d)
  | .non, _, h => by cases h; exact .non
  | .bl b, _, h => by cases h; exact .bl b
  | .int i, _, h => by cases h; exact .int i
  | .str x, _, h => by cases h; exact .str _
  | .tup ds, _, h => by
    cases h with
    | tup h1 h2 => exact .tup h1 (dps_py ds _ h2)
theorem dps_py {K : PySem.W.Frag} {H : Hp} : ∀ (ds : List D) (vs : List V), DPs K H vs ds → DpAll K H vs (pys ds)
  | [], _, h => by cases h; exact .nil
  | d :: ds, _, h => by
    cases h with
    | cons h1 h2 => exact .cons (dp_py d _ h1) (dps_py ds _ h2)
end
mutual
def Sho : D → Prop
  | .int i => i.natAbs.log2 < 1920
  | .str x => (reprText ⟨x.toArray⟩).length ≤ 1900
  | .tup xs => Shos xs
  | _ => True
def Shos : List D → Prop
  | [] => True
  | x :: xs => Sho x ∧ Shos xs
end
mutual
def dsz : D → Nat
  | .tup xs => dszs xs + 1
  | _ => 1
def dszs : List D → Nat
  | [] => 0
  | x :: xs => dsz x + dszs xs
end
mutual
def ddp : D → Nat
  | .tup xs => ddps xs + 1
  | _ => 0
def ddps : List D → Nat
  | [] => 0
  | x :: xs => max (ddp x) (ddps xs)
end
theorem shown_int (i : Int) : PyData.shown (.int i) = Str.ofString (toString i) := by simp only [PyData.shown]
mutual
theorem py_show : ∀ (d : D), Sho d → (py d).showable = true ∧ (py d).hasDict = false ∧ (py d).depth = ddp d ∧ (py d).shown.length + 2 ≤ 2000 * dsz d
  | .non, _ => ⟨rfl, rfl, rfl, by simp only [py, PyData.shown]; try decide⟩
  | .bl b, _ => ⟨rfl, rfl, rfl, by cases b <;> simp only [py, PyData.shown] <;> try decide⟩
  | .int i, h => by
    have h' : i.natAbs.log2 < 1920 := h
    refine ⟨by simp [py, PyData.showable, h'], by simp [py, PyData.hasDict], by simp [py, PyData.depth, ddp], ?_⟩
    have e : py (.int i) = .int i := by simp [py]
    have e2 : dsz (.int i) = 1 := by simp [dsz]
    rw [e, e2, shown_int]
    have := PyProof.Rows.int_text_len_1921 h'
    omega
  | .str x, h => by
    have h' : (reprText ⟨x.toArray⟩).length ≤ 1900 := h
    refine ⟨by simp [py, PyData.showable], by simp [py, PyData.hasDict], by simp [py, PyData.depth, ddp], ?_⟩
    have e : (py (.str x)).shown = reprText ⟨x.toArray⟩ := by simp only [py, PyData.shown]
    have e2 : dsz (.str x) = 1 := by simp [dsz]
    rw [e, e2]
    omega
  | .tup xs, h => by
    obtain ⟨a, b, c, d⟩ := pys_show xs (show Shos xs from h)
    refine ⟨by simpa [py, PyData.showable] using a, by simpa [py, PyData.hasDict] using b, by simp [py, PyData.depth, ddp, c], ?_⟩
    have e : (py (.tup xs)).shown = tupleText (PyData.shownAll (pys xs)) := by simp only [py, PyData.shown]
    have e2 : dsz (.tup xs) = dszs xs + 1 := by simp [dsz]
    rw [e, e2]
    have : (tupleText (PyData.shownAll (pys xs))).length ≤ piled (PyData.shownAll (pys xs)) + 3 := by
      unfold tupleText
      rw [strLen_append, strLen_append]
      have e1 : ((("(" : String) : Str)).length = 1 := rfl
      have e3 : (((if (PyData.shownAll (pys xs)).length == 1 then ",)" else ")" : String) : Str)).length ≤ 2 := by split <;> decide
      rw [e1]
      cases hz : PyData.shownAll (pys xs) with
      | nil =>
        rw [hz] at e3
        have e4 : (Str.join ", " []).length = 0 := rfl
        rw [e4]
        have := Nat.zero_le (piled [])
        omega
      | cons t r =>
        rw [hz] at e3
        have := join_length_add (t :: r) (by simp)
        omega
    omega
theorem pys_show : ∀ (ds : List D), Shos ds → PyData.showableAll (pys ds) = true ∧ PyData.hasDictAll (pys ds) = false ∧ PyData.depthAll (pys ds) = ddps ds ∧ piled (PyData.shownAll (pys ds)) ≤ 2000 * dszs ds
  | [], _ => ⟨rfl, rfl, rfl, by simp [pys, PyData.shownAll, piled, dszs]⟩
  | d :: ds, h => by
    obtain ⟨h1, h2⟩ : Sho d ∧ Shos ds := h
    obtain ⟨a, b, c, e⟩ := py_show d h1
    obtain ⟨a', b', c', e'⟩ := pys_show ds h2
    refine ⟨by simp [pys, PyData.showableAll, a, a'], by simp [pys, PyData.hasDictAll, b, b'], by simp [pys, PyData.depthAll, ddps, c, c'], ?_⟩
    have e1 : PyData.shownAll (pys (d :: ds)) = (py d).shown :: PyData.shownAll (pys ds) := by simp only [pys, PyData.shownAll]
    have e2 : dszs (d :: ds) = dsz d + dszs ds := by simp [dszs]
    rw [e1, e2, piled_cons]
    omega
end
/-- the text of a list of data -/
def shw (ds : List D) : List Nat := (PyData.shown (.list (pys ds))).cps.toList
structure RepOk (ds : List D) : Prop where
  sho : Shos ds
  size : dszs ds ≤ 8000
  deep : ddps ds ≤ 40
theorem listText_le (ts : List Str) : (listText ts).length ≤ piled ts + 2 := by
  have hX : (listText ts).length = (textFrom 0 "[" ts).length + 1 := by
    show (textFrom 0 "[" ts ++ "]").length = _
    rw [strLen_append]; rfl
  rw [hX]
  cases ts with
  | nil => exact Nat.le_of_eq rfl
  | cons t r =>
    have hY : (textFrom 0 "[" (t :: r)).length = (textFrom 1 (("[" : Str) ++ (if (0 : Nat) > 0 then ", " else "" : String) ++ t) r).length := rfl
    have e : ((("[" : Str) ++ (if (0 : Nat) > 0 then ", " else "" : String) ++ t)).length = 1 + t.length := by
      rw [strLen_append, strLen_append]; rfl
    rw [hY, textFrom_length_pos r 1 _ (Nat.succ_pos 0), e, piled_cons]
    omega
section
variable {X : Cx} {TB : Addr → Prop}
theorem c_repr (hg : X.A.guards = some []) (hu : X.A.units + 64 < cLine) : CallO X TB (.builtin "repr") (pc1 (tList tD) tS fun ds P => RepOk ds ∧ P (shw ds)) :=
  ⟨fun vs H Q => ∃ a ws ds, vs = [.ref a] ∧ SqL X.K H a ws ∧ DPs X.K H ws ds ∧ RepOk ds ∧ Q (S (shw ds)) H, fun pins s σ H xs us Q I rv h => by
    obtain ⟨a, ws, ds, rfl, sq, dp, ok, q⟩ := h
    obtain ⟨u, rfl, ru⟩ : ∃ u, us = [u] ∧ RelV (.ref a) u := by
      cases rv with
      | cons r1 r2 =>
        cases r2
        exact ⟨_, rfl, r1⟩
    obtain ⟨as, rd⟩ := Dp.reads I (.list (pys ds)) (.ref a) u (.lst sq (dps_py ds ws dp)) ru
    obtain rfl : u = .ref a := ru
    obtain ⟨a1, a2, a3, a4⟩ := pys_show ds ok.sho
    have hsz : (PyData.shown (.list (pys ds))).length ≤ sizeLine := by
      have e : PyData.shown (.list (pys ds)) = listText (PyData.shownAll (pys ds)) := by simp only [PyData.shown]
      rw [e]
      have h1 := listText_le (PyData.shownAll (pys ds))
      have h2 := ok.size
      have h3 : sizeLine = 16777216 := rfl
      omega
    have hd : (PyData.list (pys ds)).hasDict = false := by simpa [PyData.hasDict] using a2
    have hdp : (PyData.list (pys ds)).depth = ddps ds + 1 := by simp [PyData.depth, a3]
    refine repr_of_reads' rd (by simpa [PyData.showable] using a1) (fun z => by rw [hd] at z; cases z) hg (by rw [hdp]; have := ok.deep; omega) (fun _ _ e => e) (fun h' u' tk hk => ?_) hsz
    exact ⟨S (shw ds), H, I.kept hk, ⟨u', rfl⟩, q⟩, fun vs H Q E z => by
    obtain ⟨v, F, a, P, rfl, ⟨l, ws, rfl, rfl, h1, al⟩, ⟨ok, p⟩, k⟩ := sp1 z
    refine ⟨l, ws, a, rfl, SqL.of h1, ?_, ok, k _ _ H fe p ⟨rfl, rfl⟩ (Chg.refl.sub fun b z => z.elim)⟩
    have := dps_of (cv_id (t := tD)) al
    simpa using this⟩
end
end TY

set_option Elab.async false
set_option linter.all false
set_option maxRecDepth 100000
set_option maxHeartbeats 4000000
/-! TyL: a law that may ask for repr: its promise where no repr is under way, and its end. -/
namespace TY
open PySem PySem.Spec PyProof.Rows L2
/-- a promise at calls with no guard around -/
structure FnG (P : Program) (w : World) (K : PySem.W.Frag) (mg : Str → Option Value) (base : Heap) (k : Nat) (f : Addr) (fd : FuncData) (ps : List Str) (sp : Sp) : Prop where
  go : ∀ (A : Around) (oe : List Env) (t : Shared) (G : Hp) (ar : Args) (us : List Value) (vs : List V) (Q : VK) (E : XK), A.guards = some [] → Room k A → Env0 P w K mg base A oe t G → BindsTo t fd ar (ps.zip us) → Vals vs us → sp vs G Q E →
    codeAny (model P w) A (.call (.ref f) ar) (CR (L2.CX P w) oe P w G t Q E) t
theorem FnG.of {P : Program} {w : World} {K : PySem.W.Frag} {mg : Str → Option Value} {base : Heap} {k : Nat} {f : Addr} {fd : FuncData} {ps : List Str} {sp : Sp} (F : FnOk P w K mg base (L2.CX P w) k f fd ps sp) : FnG P w K mg base k f fd ps sp :=
  ⟨fun A oe t G ar us vs Q E _ hr e0 hb rv h => F.run A oe t G ar us vs Q E hr e0 hb rv h⟩
section
variable {P : Program} {w : World} {K : PySem.W.Frag} {mg : Str → Option Value} {base : Heap}
theorem fn_tyG {x qual : Str} {st : Stmt} {f : Addr} {fd : FuncData} {N pn : List Str} {k : Nat} {C : Ctr} {TB : Addr → Prop} (n : Nat) (F : Fun K x qual st f fd) (S : FnScope N pn (defScope st)) (hl : C.ps.length = pn.length) (hn : N.length = pn.length + n)
    (hbody : ∀ (cdv : Value) (A : Around) (outer : List Env) (s : Shared) (H : Hp) (vs : List V) (E : XK), A.guards = some [] → Room k (A.deeper (envOfC qual (defScope st) s.heap.objs.size f cdv)) → vs.length = C.ps.length →
      ∃ Γn w', Ss (cxOf (L2.CX P w) P w K mg base N qual (defScope st) f cdv A outer s H E) TB (fun cls d _ H' => E cls d H') C vs (ini C.ps vs n) (defBody st) Γn [] [] w' ∧ ∀ as Q E', C.w as Q E' → w' (iniv C.ps vs n as) (enR Q E')) :
    FnG P w K mg base (k + 1) f fd pn (C.sp K TB) := by
  obtain ⟨oc, od, kV, doc, pm, an, cdv, ct, osl, rfl, lk, hcd⟩ := F.ex
  refine ⟨fun A oe t G ar us vs Q E gd room ev bnd rel hsp => ?_⟩
  have hv : vs.length = C.ps.length := Ctr.len hsp
  have grow : ∀ b o, base.get? b = some o → t.heap.get? b = some o := fun b o e => (ev.bs b o e).1
  have kin : K.In t.heap := ev.mod.kin.keeps grow
  have low := ev.mod.nolimit.keeps grow
  refine codeAny_call_function room.depth (kin _ _ lk) rfl S.co S.gen rfl (PySem.W.codeRec_of kin hcd) (bnd _ _ _ _ ?_)
  refine wpAny_newFunctionEnv_cells S.kind (fun y hy => ?_) fun env he t1 ic => ?_
  · rcases S.par y.1 (List.of_mem_zip (a := y.1) (b := y.2) hy).1 with q | q
    · exact .inl q
    · exact .inr ⟨q, PySem.W.cellsFrom_some _ _ _ (.inl q)⟩
  subst he
  refine ⟨low.keeps ic.toInCall.keep, codeAny_func ?_⟩
  obtain ⟨Γn, w', dv, q⟩ := hbody cdv A oe t G vs E gd (room.deeper _) hv
  obtain ⟨as, F0, Qt, Et, aR, tb, hw, hq, hx⟩ := hsp
  have st0 := inv_start (CX := L2.CX P w) (E := E) S room.hd ev (hv.trans hl) rel ic
  have e : start N vs = vs.map some ++ List.replicate n none := by
    show vs.map some ++ List.replicate (N.length - vs.length) none = _
    rw [show N.length - vs.length = n by omega]
  have rd := dv.ps.run [] t1 (start N vs) G { nx := fun _ G' => Q .non G', rt := Q } st0 ⟨iniv C.ps vs n as, F0, enR Qt Et, by rw [e]; exact sr_ini n aR, tb, q as Qt Et hw, fun _ _ _ _ z => z.elim, fun r o v H' F1 F2 q a ao dj c => hq r o v H' F1 F2 q a ao dj c, fun _ _ _ _ z => z.elim, fun _ _ _ _ z => z.elim, fun x ex cls d σ' H' xa c => hx x ex cls d H' xa c⟩
  refine wpAny_mono rd (fun fl t2 out => ?_) fun e t2 out => out
  match fl, out with
  | .ret u, ⟨v, _, G', J, rv, q⟩ => exact ⟨v, G', J.os, J.bare, J.base, J.hok, rv, q⟩
  | .next, ⟨_, G', J, q⟩ => exact ⟨.non, G', J.os, J.bare, J.base, J.hok, rfl, q⟩
  | .brk, ⟨_, _, _, q⟩ => exact q.elim
  | .cont, ⟨_, _, _, q⟩ => exact q.elim
end
section
variable {P : Program} {w : World} {K : PySem.W.Frag} {mg mb : Str → Option Value}
abbrev tab0 : Obj := { cls := .none, data := .fields #[] }
/-- the law's one call, from the promise of its def -/
theorem law_at {k : Nat} {fa a : Addr} {cs : List (Addr × Addr)} {fd : FuncData} {x : Str} {sp : Sp} {t : Shared} {vs : List Value} {ns : List Int}
    (kin : K.In t.heap) (hmg : t.heap.Ns mainGlobals mg) (hmb : t.heap.Ns builtinsNs mb) (hbu : ∀ y : Str, y ≠ "__name__" → mb y = bootBuiltins y) (low : t.heap.NoLimit) (gen0 : t.gens = #[])
    (isT : ∀ q ∈ cs, t.heap.get? q.2 = some tab0) (outT : ∀ q ∈ cs, K.lookup q.2 = none) (cdT : ∀ q ∈ cs, PySem.W.CodeHd t.heap q.1 q.2)
    (hbm : ∃ (bm : Addr) (ob : Obj), mg "__builtins__" = some (.ref bm) ∧ bm ≠ builtinsNs ∧ t.heap.get? bm = some ob ∧ ob.cls = .type "module" ∧ ob.dict = some builtinsNs ∧ ob.data = .plain)
    (scr : t.heap.get? a = some { cls := .type "list", data := .seq vs.toArray }) (hins : IntsAre vs ns) (small : ns.length ≤ sizeLine) (room : Room k callerA)
    (F : ∀ base : Heap, K.In base → base.Ns mainGlobals mg → (∀ q ∈ cs, GxR.TabB base mg q.1 q.2) → FnG P w K mg base k fa fd [x] sp) (bnd : ∀ (s : Shared) (u : Value), BindsTo s fd ⟨[u], []⟩ [(x, u)])
    (hsp : ∀ G : Hp, (∀ q ∈ cs, G q.2 = some (.tbl #[])) → ((∃ o, G a = some (.frz o (.lst (ns.map V.int)))) ∨ ∀ G', SqL K G' a (ns.map V.int)) → sp [.ref a] G (fun v _ => v = .bl true) fun _ _ _ => False) :
    codeAny (model P w) callerA (.call (.ref fa) ⟨[.ref a], []⟩) (fun r s' => r = .ok (.ret (.bool true)) ∧ OldK t.heap s'.heap ∧ s'.os = t.os ∧ AllBare s'.gens) t := by
  obtain ⟨tt, htt⟩ : ∃ l, l = cs.map (·.2) := ⟨_, rfl⟩
  have tabOf : ∀ b ∈ tt, t.heap.get? b = some tab0 ∧ K.lookup b = none ∧ ∃ q ∈ cs, q.2 = b := fun b hb => by
    rw [htt] at hb
    obtain ⟨q, hq, rfl⟩ := List.mem_map.mp hb
    exact ⟨isT q hq, outT q hq, q, hq, rfl⟩
  have inT : ∀ q ∈ cs, q.2 ∈ tt := fun q hq => by rw [htt]; exact List.mem_map.mpr ⟨q, hq, rfl⟩
  have scrT : a ∉ tt := fun z => by
    have h := (tabOf a z).1
    rw [scr] at h
    cases h
  -- the tracked: the tables, the script where nothing else tells it
  obtain ⟨G, hG⟩ : ∃ G : Hp, G = fun b => if b ∈ tt then some (.tbl #[]) else if b = a ∧ (K.lookup a).isNone = true then some (.frz { cls := .type "list", data := .seq vs.toArray } (.lst (ns.map V.int))) else none := ⟨_, rfl⟩
  have atT : ∀ b, b ∈ tt → G b = some (.tbl #[]) := fun b hb => by rw [hG]; exact if_pos hb
  have atA : K.lookup a = none → G a = some (.frz { cls := .type "list", data := .seq vs.toArray } (.lst (ns.map V.int))) := fun e => by
    rw [hG]
    show (if a ∈ tt then _ else _) = _
    rw [if_neg scrT, if_pos ⟨rfl, by rw [e]; rfl⟩]
  have else_ : ∀ b, b ∉ tt → (b = a → K.lookup a ≠ none) → G b = none := fun b h1 h2 => by
    rw [hG]
    show (if b ∈ tt then _ else _) = _
    rw [if_neg h1, if_neg fun z => h2 z.1 (Option.isNone_iff_eq_none.mp z.2)]
  have kinds : ∀ b, G b = none ∨ b ∈ tt ∨ (b = a ∧ K.lookup a = none) := fun b => by
    by_cases h1 : b ∈ tt
    · exact .inr (.inl h1)
    · by_cases h2 : b = a ∧ K.lookup a = none
      · exact .inr (.inr h2)
      · exact .inl (else_ b h1 fun e z => h2 ⟨e, z⟩)
  have vals := vals_ints hins
  have seqA : (∃ o, G a = some (.frz o (.lst (ns.map V.int)))) ∨ ∀ G', SqL K G' a (ns.map V.int) := by
    cases e : K.lookup a with
    | none => exact .inl ⟨_, atA e⟩
    | some o =>
      have e2 := kin a o e
      rw [scr] at e2
      cases e2
      exact .inr fun G' => .inr ⟨_, vs.toArray, _, e, rfl, rfl, rfl, by rw [List.size_toArray, hins.length]; exact small, by simpa using vals⟩
  have hok : HOk P w G t.heap := fun b u hb => by
    rcases kinds b with z | z | ⟨z, z2⟩
    · rw [z] at hb
      cases hb
    · rw [atT b z] at hb
      cases hb
      exact (tabOf b z).1
    · subst z
      rw [atA z2] at hb
      cases hb
      exact ⟨scr, by rw [List.length_map]; exact small, vs, _, vals, scr⟩
  have plain : ∀ {b : Addr} {o : Obj}, t.heap.get? b = some o → (∀ l n, o.data ≠ .seq l n) → o.data ≠ .fields #[] → G b = none := fun {b o} e h1 h2 => by
    rcases kinds b with z | z | ⟨z, _⟩
    · exact z
    · rw [(tabOf b z).1] at e
      cases e
      exact (h2 rfl).elim
    · rw [z, scr] at e
      cases e
      exact (h1 _ _ rfl).elim
  have down : ∀ {b : Addr} {m : Str → Option Value}, t.heap.Ns b m → (hidT t.heap G).Ns b m := fun {b m} ⟨o, es, ep, e, d, r⟩ =>
    ⟨o, es, ep, hidT_get e (plain e (fun l n z => by rw [d] at z; cases z) fun z => by rw [d] at z; cases z), d, r⟩
  have kinB : K.In (hidT t.heap G) := fun b o e => by
    refine hidT_get (kin b o e) ?_
    rcases kinds b with z | z | ⟨z, z2⟩
    · exact z
    · rw [(tabOf b z).2.1] at e
      cases e
    · rw [z, z2] at e
      cases e
  obtain ⟨ml, low1, low2⟩ := low
  have md : L2.Mod K mg (hidT t.heap G) := ⟨kinB, down hmg, ⟨mb, down hmb, hbu⟩, ⟨ml, down low1, low2⟩⟩
  have tbs : ∀ q ∈ cs, GxR.TabB (hidT t.heap G) mg q.1 q.2 := fun q hq => by
    obtain ⟨bm, ob, m1, m2, m3, m4, m5, m6⟩ := hbm
    obtain ⟨og, eg, pg, g1, g2, _⟩ := hmg
    refine ⟨?_, ⟨bm, ob, m1, m2, fun z => ?_, fun z => ?_, hidT_get m3 (plain m3 (fun l n z => by rw [m6] at z; cases z) fun z => by rw [m6] at z; cases z), m4, m5, m6⟩, fun z => ?_⟩
    · obtain ⟨oc, us, fl, tf, fg, tg, nf, tx, tq, c1, c2, c3, c4, c5, c6⟩ := cdT q hq
      exact ⟨oc, us, fl, tf, fg, tg, nf, tx, tq, hidT_get c1 (plain c1 (fun l n z => by rw [c3] at z; cases z) fun z => by
        rw [c3] at z
        cases z
        simp at c4), c2, c3, c4, c5, c6⟩
    · rw [z, g1] at m3
      cases m3
      rw [g2] at m6
      cases m6
    · rw [z, isT q hq] at m3
      cases m3
      cases m4
    · rw [z, isT q hq] at g1
      cases g1
      cases g2
  have ev : Env0 P w K mg (hidT t.heap G) callerA [] t G := ⟨rfl, md, fun b o e => of_hidT e, Nat.le_of_eq (hidT_size _ _), trivial, fun b hb => (List.not_mem_nil hb).elim, hok, .of_eq gen0⟩
  have done := (F _ kinB (down hmg) tbs).go callerA [] t G ⟨[.ref a], []⟩ [.ref a] [.ref a] _ _ rfl room ev (bnd t (.ref a)) (.cons rfl .nil) (hsp G (fun q hq => atT _ (inT q hq)) seqA)
  refine codeAny_mono done fun r s' out => ?_
  match r, out with
  | .error e, out =>
    obtain ⟨_, _, _, _, _, _, _, _, _, _, _, _, z⟩ := out
    exact z.elim
  | .ok .next, out => exact out.elim
  | .ok .brk, out => exact out.elim
  | .ok .cont, out => exact out.elim
  | .ok (.ret u), ⟨v, G', os, bare, un, hok', rv, q⟩ =>
    obtain rfl : v = .bl true := q
    obtain rfl : u = Value.bool true := rv
    have old : ∀ b o, b ∉ tt → t.heap.get? b = some o → s'.heap.get? b = some o := fun b o nb e => by
      rcases kinds b with z | z | ⟨z, z2⟩
      · exact un.keep b o e z (fun z => (List.not_mem_nil z).elim) (by simp)
      · exact absurd z nb
      · subst z
        have e3 := un.frzs b _ _ (atA z2)
        have e4 := (hok' b _ e3).1
        rw [scr] at e
        cases e
        exact e4
    have grown : ∀ b ∈ tt, ∃ more : Array Value, s'.heap.get? b = some { cls := .none, data := .fields more } := fun b hb => by
      obtain ⟨more, z⟩ := un.tbls b #[] (atT b hb)
      exact ⟨_, hok' b _ z⟩
    refine ⟨rfl, ⟨fun b o e => ?_, fun b o e => ?_⟩, os, bare⟩
    · by_cases hb : b ∈ tt
      · obtain ⟨e1, _, p, hp, rfl⟩ := tabOf b hb
        obtain ⟨more, hm⟩ := grown _ hb
        rw [e1] at e
        cases e
        exact .inr (.inl ⟨((cdT p hp).tab (isT p hp)).isCodeTable, rfl, #[], more, rfl, by rw [Array.empty_append]; exact hm⟩)
      · exact .inl (old b o hb e)
    · by_cases hb : b ∈ tt
      · exact ⟨_, (grown b hb).choose_spec⟩
      · exact ⟨o, old b o hb e⟩
end
/-- what a law's end needs at the heap behind the top -/
structure LawG (l : PySem.W.OpenLaw) (w : World) (K : PySem.W.Frag) (k n : Nat) (x : Str) (mg : Str → Option Value) (fa : Addr) (h : Heap) : Prop where
  inn : K.In h
  ex : ∃ (fd : FuncData) (cs : List (Addr × Addr)) (sp : Sp),
    (∀ q ∈ cs, h.get? q.2 = some tab0 ∧ K.lookup q.2 = none ∧ PySem.W.CodeHd h q.1 q.2) ∧
    (∀ (s : Shared) (u : Value), BindsTo s fd ⟨[u], []⟩ [(x, u)]) ∧
    (∀ (G : Hp) (a : Addr) (ns : List Int), ns.length ≤ n → (∀ z ∈ ns, Builtin.Int.intBits z ≤ 1048576) → (∀ q ∈ cs, G q.2 = some (.tbl #[])) → ((∃ o, G a = some (.frz o (.lst (ns.map V.int)))) ∨ ∀ G', SqL K G' a (ns.map V.int)) → sp [.ref a] G (fun v _ => v = .bl true) fun _ _ _ => False) ∧
    ∀ base : Heap, K.In base → base.Ns mainGlobals mg → (∀ q ∈ cs, GxR.TabB base mg q.1 q.2) → FnG l.prog w K mg base k fa fd [x] sp
theorem walk_law {l : PySem.W.OpenLaw} {n k : Nat} {pv : Program} {loose : List Str} {XP : (Str → Option Value) → Heap → Prop} {YP : World → Heap → Prop} {d : DefRec} {x : Str}
    (most : l.most = some n) (fit : n ≤ sizeLine) (nod : d.params.defaults = []) (room : Room k callerA)
    (F : ∀ (w : World) (mg : Str → Option Value) (fa : Addr) (h : Heap), YP w h → h.Ns mainGlobals mg → mg d.name = some (.ref fa) → ∃ K : PySem.W.Frag, LawG l w K k n x mg fa h) :
    PySem.W.WalkO pv loose XP YP l.row.toRowW d [] (fun f vs => PySem.call f vs) := by
  refine Att.attach_callB most nod fun w t0 t mg mb fa o pm cd doc a vs ns gr y ho hd hcd hm hobj hi hlen hbits hg => ?_
  obtain ⟨K, ⟨kin, fd, cs, sp, tabs, bnd, hsp, hF⟩⟩ := F w mg fa _ y gr.T.g hm
  exact law_at kin gr.T.g gr.T.b gr.T.builtins gr.T.nolimit hg (fun q hq => (tabs q hq).1) (fun q hq => (tabs q hq).2.1) (fun q hq => (tabs q hq).2.2) gr.T.bmain hobj hi (Nat.le_trans hlen fit) room hF bnd fun G h1 h2 => hsp G a ns hlen hbits h1 h2
/-! ### defs as the head's facts tell them -/
@[reducible] def dfn (x : Str) (st : Stmt) : He.DefD := ⟨(x, none), x, x, defArgs st, defBody st, defScope st, [], []⟩
section
variable {P : Program} {w : World} {K : PySem.W.Frag} {mg : Str → Option Value} {base h : Heap} {TB : Addr → Prop} {x qual : Str} {st : Stmt} {f : Addr} {fd : FuncData} {kws : List (Str × V)}
theorem fun_of (F : FunD K x qual (defArgs st) (defBody st) (defScope st) [] kws f fd) : Fun K x qual st f fd := by
  obtain ⟨oc, od, dV, kV, doc, pm, an, cdv, ct, osl, rfl, lk, hcd, hD, hK⟩ := F.ex
  rcases hD with ⟨_, rfl⟩ | ⟨e, _⟩
  · exact ⟨⟨oc, od, kV, doc, pm, an, cdv, ct, osl, rfl, lk, hcd⟩, F.kp⟩
  · exact absurd rfl e
theorem funT_of (F : Fun K x x st (He.fAd K (x, none)) fd) : FunT K x x st (He.fAd K (x, none)) fd (He.cT K (x, none)).1 := by
  obtain ⟨oc, od, kV, doc, pm, an, cdv, ct, osl, rfl, lk, hcd⟩ := F.ex
  obtain ⟨c, rfl⟩ := He.codeIn_ref hcd
  have e : (He.cT K (x, none)).1 = c := He.codeOf_eq lk rfl
  rw [e]
  exact ⟨⟨oc, od, kV, doc, pm, an, ct, osl, rfl, lk, hcd⟩, F.kp⟩
/-- what the head tells of a def -/
structure Known (K : PySem.W.Frag) (mg : Str → Option Value) (x : Str) (st : Stmt) (fd : FuncData) : Prop where
  fn : Fun K x x st (He.fAd K (x, none)) fd
  gl : mg x = some (.ref (He.fAd K (x, none)))
theorem known {fa : List He.Fa} {fn : List He.DefD} (X : K.In h) (G : h.Ns mainGlobals mg) (c : He.SaysD fa fn K) (h1 : dfn x st ∈ fn) (h2 : He.Fa.glo x ∈ fa) : ∃ fd, Known K mg x st fd := by
  obtain ⟨fd, F⟩ := c.defs h1
  exact ⟨fd, fun_of F, He.glo_ok X G (c.facts h2)⟩
theorem df_of {k : Nat} {pn : List Str} {C : Ctr} (N : Known K mg x st fd) (F : FnOk P w K mg base (L2.CX P w) k (He.fAd K (x, none)) fd pn (C.sp K TB))
    (hb : ∀ (kV doc pm : Value) (an : Option Addr) (cdv ct : Value) (us : List Value), us.length = pn.length → bindArgs (PySem.W.fnOf x x (defArgs st) (defBody st) (defScope st) .none kV doc pm an cdv ct) ⟨us, []⟩ = pure (pn.zip us)) : Df P w K mg base TB x k pn C :=
  ⟨_, fd, F, N.gl, N.fn.kp, L2.Fun.binds N.fn hb⟩
theorem dfk_of {k : Nat} {pn kn : List Str} {g : {α : Type} → List α → List α} {C : Ctr} (N : Known K mg x st fd) (F : FnOk P w K mg base (L2.CX P w) k (He.fAd K (x, none)) fd pn (C.sp K TB))
    (hb : ∀ (kV doc pm : Value) (an : Option Addr) (cdv ct : Value) (ws : List Value), ws.length = kn.length → bindArgs (PySem.W.fnOf x x (defArgs st) (defBody st) (defScope st) .none kV doc pm an cdv ct) ⟨[], kn.zip ws⟩ = pure (pn.zip (g ws))) : DfK P w K mg base TB x k pn kn g C :=
  ⟨_, fd, F, N.gl, N.fn.kp, fun_kb N.fn hb⟩
/-- a def that calls itself: from each depth to the next -/
theorem df_rec {pn : List Str} {C : Nat → Ctr} {lv : Nat} (N : Known K mg x st fd) (hb : ∀ (kV doc pm : Value) (an : Option Addr) (cdv ct : Value) (us : List Value), us.length = pn.length → bindArgs (PySem.W.fnOf x x (defArgs st) (defBody st) (defScope st) .none kV doc pm an cdv ct) ⟨us, []⟩ = pure (pn.zip us))
    (h0 : ∀ vs H Q E, ¬ (C 0).sp K TB vs H Q E) (step : ∀ n, Df P w K mg base TB x (n + lv) pn (C n) → FnOk P w K mg base (L2.CX P w) (n + lv + 1) (He.fAd K (x, none)) fd pn ((C (n + 1)).sp K TB)) : ∀ n, Df P w K mg base TB x (n + lv) pn (C n)
  | 0 => df_of N ⟨fun vs H Q E z => (h0 _ _ _ _ z).elim, fun A oe t G ar us vs Q E _ _ _ _ z => (h0 _ _ _ _ z).elim⟩ hb
  | n + 1 => by
    have h := step n (df_rec N hb h0 step n)
    have e : n + 1 + lv = n + lv + 1 := by omega
    rw [e]
    exact df_of N h hb
/-- the law's promise from its contract -/
theorem law_sp {ts : List Addr} {cw : HT [.im (tRo tInt)] → (Bool → Hou [.im (tRo tInt)] → Prop) → (Xn → Prop) → Prop} {G : Hp} {a : Addr} {ns : List Int} (hT : ∀ b ∈ ts, G b = some (.tbl #[])) (hs : (∃ o, G a = some (.frz o (.lst (ns.map V.int)))) ∨ ∀ G', SqL K G' a (ns.map V.int))
    (hw : cw (ns, ()) (fun r _ => r = true) fun _ => False) : Ctr.sp ⟨[.im (tRo tInt)], tBool, cw⟩ K (fun b => b ∈ ts) [.ref a] G (fun v _ => v = .bl true) fun _ _ _ => False := by
  refine ⟨(ns, ()), fe, fun r _ => r = true, fun _ => False, ⟨_, _, fe, fe, rfl, (fo_fe _).symm, dj_fe _, ⟨rfl, a, ns.map V.int, rfl, hs, al_of_flat ns⟩, rfl, rfl⟩, fun b hb => ⟨#[], hT b hb, ?_⟩, hw, ?_, fun x z => z.elim⟩
  · trivial
  · rintro r o v H' F1 F2 rfl at1 _ _ _
    exact at1.2
end
open Classical in
/-- equal data -/
noncomputable def eqD (a b : D) : Bool := decide (a = b)
theorem eqD_self (a : D) : eqD a a = true := by unfold eqD; simp
theorem eqD_of {a b : D} (h : a = b) : eqD a b = true := by rw [h, eqD_self]
theorem eqD_ne {a b : D} (h : a ≠ b) : eqD a b = false := by unfold eqD; simp [h]
section
variable {X : Cx} {TB : Addr → Prop} {Ξ : WX} {C : Ctr} {vs : List V} {Γ Γ1 Γb Γc : Cy} {e : Expr} {sa : List Stmt} {pos : Pos} {ρ : Type}
/-- a question whose answer is known to be no -/
@[reducible] def wGuard (wc : WT Γ Γ1 Bool) : WS Γ Γ1 Γb Γc ρ := fun s Q => wc s (fun b s1 => b = false ∧ Q.nx s1) Q.ex
theorem sx_guard {wc : WT Γ Γ1 Bool} (hc : Tx X TB Ξ Γ e Γ1 wc) : Sx X TB Ξ C vs Γ (.If e sa [] pos) Γ1 Γb Γc (wGuard wc) :=
  ⟨ps_weak (L2.ps_if hc.pt (ss_never (C := C) (vs := vs) (Ξ := Ξ) (TB := TB) (Γ := Γ1) (Γ1 := Γ1) (Γb := Γb) (Γc := Γc) (rest := sa)).ps (ss_nil (C := C) (vs := vs) (Ξ := Ξ) (TB := TB) (Γ := Γ1) (Γb := Γb) (Γc := Γc)).ps) fun D σ H h => by
    obtain ⟨s, F, Q, sr, tb, hw, hn, hr, hbk, hct, hx⟩ := h
    refine ⟨s, F, _, _, sr, tb, hw, fun b s1 H1 F1 q1 sr1 c1 => ?_, fun x ex cls d H1 xa c => hx x ex cls d σ H1 xa c⟩
    obtain ⟨rfl, q2⟩ := q1
    exact iteF ⟨s1, F1, Q, sr1, tb.stay (c1.stay sr.own), q2, fun s2 σ2 H2 F2 q2 sr2 c2 => hn s2 σ2 H2 F2 q2 sr2 (c1.trans c2), fun r o v H2 G1 G2 q2 a2 o2 d2 c2 => hr r o v H2 G1 G2 q2 a2 o2 d2 (c1.trans c2),
      fun s2 σ2 H2 F2 q2 sr2 c2 => hbk s2 σ2 H2 F2 q2 sr2 (c1.trans c2), fun s2 σ2 H2 F2 q2 sr2 c2 => hct s2 σ2 H2 F2 q2 sr2 (c1.trans c2), fun x ex cls d σ2 H2 xa c2 => hx x ex cls d σ2 H2 xa (c1.trans c2)⟩⟩
end
theorem eqd_no {a b : D} (h : a = b) : (!eqD a b) = false := by rw [eqD_of h]; rfl
theorem nd_self {α : Type} [DecidableEq α] (a : α) : (!decide (a = a)) = false := by simp
end TY

set_option Elab.async false
set_option linter.all false
set_option maxRecDepth 100000
set_option maxHeartbeats 4000000
/-! K48P: the plain part of k48. -/
namespace K48
open PySem L2 TY TX

theorem abs_ite (a : Int) : (if a < 0 then -a else a) = (a.natAbs : Int) := by split <;> omega
theorem gcd_step {x y : Int} (hx : 0 ≤ x) (hy : 0 < y) : Int.gcd y (x % y) = Int.gcd x y := by
  obtain ⟨n, rfl⟩ := Int.eq_ofNat_of_zero_le hx
  obtain ⟨m, rfl⟩ := Int.eq_ofNat_of_zero_le (Int.le_of_lt hy)
  rw [← Int.natCast_emod]
  show Nat.gcd m (n % m) = Nat.gcd n m
  rw [Nat.gcd_comm m, ← Nat.gcd_rec, Nat.gcd_comm]
theorem log2_lt {i : Int} {k : Nat} (h0 : 0 < i) (h : i < 2 ^ k) : i.natAbs.log2 < k := by
  have h2 : i.natAbs < 2 ^ k := by
    have : ((i.natAbs : Nat) : Int) < ((2 ^ k : Nat) : Int) := by
      rw [Int.natCast_pow]
      show (i.natAbs : Int) < 2 ^ k
      omega
    exact Int.ofNat_lt.mp this
  exact (Nat.log2_lt (by omega)).mpr h2
theorem cdivW {i j : Int} (h0 : 0 < j) (h : j < 2 ^ 100) : CDivW i j := ⟨h0, Nat.lt_of_lt_of_le (log2_lt h0 h) (by decide)⟩
theorem gcd_pos {a b : Int} (hb : 0 < b) : 0 < ((Int.gcd a b : Nat) : Int) := by
  have : 0 < Int.gcd a b := Int.gcd_pos_of_ne_zero_right a (by omega)
  omega
theorem gcd_le {a b : Int} (hb : 0 < b) : ((Int.gcd a b : Nat) : Int) ≤ b := Int.le_of_dvd hb (Int.gcd_dvd_right ..)

/-! ### rounding -/
def rnd (rule : List Nat) (a b : Int) : Int := if rule = [100, 111, 119, 110] then a / b else if rule = [117, 112] then -(-a / b) else if rule = [110, 101, 97, 114] then (2 * a + b) / (2 * b) else -((b - 2 * a) / (2 * b))
theorem div_eq {a b n d : Int} (hb : 0 < b) (hd : 0 < d) (h : a * d = n * b) : a / b = n / d := by
  rw [← Int.mul_ediv_mul_of_pos_left a b hd, h, Int.mul_comm b d, Int.mul_ediv_mul_of_pos_left n d hb]
theorem rnd_eq {rule : List Nat} {a b n d : Int} (hb : 0 < b) (hd : 0 < d) (h : a * d = n * b) : rnd rule a b = rnd rule n d := by
  have e2 : -a / b = -n / d := div_eq hb hd (by rw [Int.neg_mul, Int.neg_mul, h])
  have e3 : (2 * a + b) / (2 * b) = (2 * n + d) / (2 * d) := div_eq (by omega) (by omega) (by grind)
  have e4 : (b - 2 * a) / (2 * b) = (d - 2 * n) / (2 * d) := div_eq (by omega) (by omega) (by grind)
  unfold rnd
  rw [div_eq hb hd h, e2, e3, e4]

/-! ### sums of products -/
def dot (ws row : List Int) : Int := (List.zipWith (fun x y => x * y) ws row.reverse).sum
theorem sum_scale (c : Int) : ∀ (ws vs : List Int), (List.zipWith (fun x y => x * y) (ws.map fun x => x * c) vs).sum = (List.zipWith (fun x y => x * y) ws vs).sum * c
  | [], _ => by simp
  | _ :: _, [] => by simp
  | w :: ws, v :: vs => by
    simp only [List.map_cons, List.zipWith_cons_cons, List.sum_cons]
    rw [sum_scale c ws vs, Int.add_mul]
    congr 1
    rw [Int.mul_assoc, Int.mul_comm c v, ← Int.mul_assoc]
theorem dot_scale (c : Int) (ws row : List Int) : dot (ws.map fun x => x * c) row = dot ws row * c := sum_scale c ws _

abbrev Frc := Int × Int × Unit
structure TapsOk (taps : List Frc) : Prop where
  len : taps.length ≤ 6
  ok : ∀ p ∈ taps, 0 < p.2.1 ∧ p.2.1 < 1024 ∧ -1024 < p.1 ∧ p.1 < 1024
def den (taps : List Frc) : Int := (taps.map fun p => p.2.1).foldr (fun x y => x * y) 1
def whole (taps : List Frc) (b : Int) : List Int := taps.map fun p => p.1 * (b / p.2.1)
theorem den_pos : ∀ {taps : List Frc}, (∀ p ∈ taps, 0 < p.2.1) → 0 < den taps
  | [], _ => by decide
  | p :: r, h => by
    show 0 < p.2.1 * den r
    exact Int.mul_pos (h p List.mem_cons_self) (den_pos fun q hq => h q (List.mem_cons_of_mem _ hq))
theorem dvd_den : ∀ {taps : List Frc} {p : Frc}, p ∈ taps → p.2.1 ∣ den taps
  | q :: r, p, h => by
    show p.2.1 ∣ q.2.1 * den r
    rcases List.mem_cons.mp h with e | h
    · rw [e]; exact Int.dvd_mul_right _ _
    · exact Int.dvd_trans (dvd_den h) (Int.dvd_mul_left _ _)
/-- the guess: taps times the numbers before, rounded -/
def guess (taps : List Frc) (rule : List Nat) (row : List Int) : Int := rnd rule (dot (whole taps (den taps)) row) (den taps)
theorem whole_scale {taps : List Frc} {b c : Int} (h : ∀ p ∈ taps, p.2.1 ≠ 0 ∧ p.2.1 ∣ b ∧ p.2.1 ∣ c) : (whole taps b).map (fun x => x * c) = (whole taps c).map fun x => x * b := by
  unfold whole
  rw [List.map_map, List.map_map]
  refine List.map_congr_left fun p hp => ?_
  obtain ⟨h0, ⟨x, ex⟩, ⟨y, ey⟩⟩ := h p hp
  show p.1 * (b / p.2.1) * c = p.1 * (c / p.2.1) * b
  rw [ex, ey, Int.mul_ediv_cancel_left _ h0, Int.mul_ediv_cancel_left _ h0, Int.mul_assoc, Int.mul_assoc]
  congr 1
  rw [Int.mul_left_comm, Int.mul_comm x y, Int.mul_left_comm p.2.1 y x] <;> simp [Int.mul_left_comm, Int.mul_comm]
theorem guess_eq {taps : List Frc} {rule : List Nat} {row : List Int} {b : Int} (ok : TapsOk taps) (hb : 0 < b) (hd : ∀ p ∈ taps, p.2.1 ∣ b) : rnd rule (dot (whole taps b) row) b = guess taps rule row := by
  refine rnd_eq hb (den_pos fun p hp => (ok.ok p hp).1) ?_
  rw [← dot_scale, ← dot_scale, whole_scale fun p hp => ⟨by have := (ok.ok p hp).1; omega, hd p hp, dvd_den hp⟩]

/-! ### errors and numbers -/
def errsG (g : List Int → Int) : List Int → List Int → List Int
  | _, [] => []
  | row, n :: r => (n - g row) :: errsG g (row ++ [n]) r
def readG (g : List Int → Int) : List Int → List Int → List Int
  | _, [] => []
  | row, e :: r => (e + g row) :: readG g (row ++ [e + g row]) r
theorem read_errs (g : List Int → Int) : ∀ (ns row : List Int), readG g row (errsG g row ns) = ns
  | [], _ => rfl
  | n :: r, row => by
    show (n - g row + g row) :: readG g (row ++ [n - g row + g row]) (errsG g (row ++ [n]) r) = _
    rw [Int.sub_add_cancel, read_errs g r]
theorem errs_read (g : List Int → Int) : ∀ (es row : List Int), errsG g row (readG g row es) = es
  | [], _ => rfl
  | e :: r, row => by
    show (e + g row - g row) :: errsG g (row ++ [e + g row]) (readG g (row ++ [e + g row]) r) = _
    rw [Int.add_sub_cancel, errs_read g r]
theorem errsG_len (g : List Int → Int) : ∀ (ns row : List Int), (errsG g row ns).length = ns.length
  | [], _ => rfl
  | n :: r, row => by rw [List.length_cons, ← errsG_len g r (row ++ [n])]; rfl
theorem readG_len (g : List Int → Int) : ∀ (ns row : List Int), (readG g row ns).length = ns.length
  | [], _ => rfl
  | n :: r, row => by rw [List.length_cons, ← readG_len g r (row ++ [n + g row])]; rfl
/-- one more number -/
theorem errs_snoc (g : List Int → Int) : ∀ (ns row : List Int) (n : Int), errsG g row (ns ++ [n]) = errsG g row ns ++ [n - g (row ++ ns)]
  | [], row, n => by simp [errsG]
  | m :: r, row, n => by
    show (m - g row) :: errsG g (row ++ [m]) (r ++ [n]) = _
    rw [errs_snoc g r]
    simp [errsG]
theorem read_snoc (g : List Int → Int) : ∀ (es row : List Int) (e : Int), readG g row (es ++ [e]) = readG g row es ++ [e + g (row ++ readG g row es)]
  | [], row, e => by simp [readG]
  | m :: r, row, e => by
    show (m + g row) :: readG g (row ++ [m + g row]) (r ++ [e]) = _
    rw [read_snoc g r]
    simp [readG]

/-! ### least common multiples -/
theorem mult_ok {a b : Int} (ha : 0 < a) (hb : 0 < b) : 0 < a / ((Int.gcd a b : Nat) : Int) * b ∧ a ∣ a / ((Int.gcd a b : Nat) : Int) * b ∧ b ∣ a / ((Int.gcd a b : Nat) : Int) * b ∧ a / ((Int.gcd a b : Nat) : Int) * b ∣ a * b := by
  have hg := gcd_pos (a := a) hb
  obtain ⟨x, ex⟩ : ((Int.gcd a b : Nat) : Int) ∣ a := Int.gcd_dvd_left ..
  obtain ⟨y, ey⟩ : ((Int.gcd a b : Nat) : Int) ∣ b := Int.gcd_dvd_right ..
  generalize ((Int.gcd a b : Nat) : Int) = g at *
  have e1 : a / g = x := by rw [ex]; exact Int.mul_ediv_cancel_left _ (by omega)
  rw [e1]
  have hx : 0 < x := by
    rcases Int.lt_trichotomy x 0 with h | h | h
    · have := Int.mul_neg_of_pos_of_neg hg h; omega
    · rw [h] at ex; simp at ex; omega
    · exact h
  refine ⟨Int.mul_pos hx hb, ⟨y, ?_⟩, Int.dvd_mul_left _ _, ⟨g, ?_⟩⟩
  · rw [ex, ey]; grind
  · rw [ex]; grind
theorem den_snoc : ∀ (taps : List Frc) (p : Frc), den (taps ++ [p]) = den taps * p.2.1
  | [], p => by simp [den]
  | q :: r, p => by
    show q.2.1 * den (r ++ [p]) = q.2.1 * den r * p.2.1
    rw [den_snoc r p]
    grind
theorem den_le : ∀ {taps : List Frc}, (∀ p ∈ taps, 0 < p.2.1 ∧ p.2.1 < 1024) → den taps ≤ 1024 ^ taps.length
  | [], _ => by decide
  | q :: r, h => by
    show q.2.1 * den r ≤ 1024 ^ (r.length + 1)
    have h1 := den_le (taps := r) fun p hp => h p (List.mem_cons_of_mem _ hp)
    have h2 := h q List.mem_cons_self
    have h3 : 0 < den r := den_pos fun p hp => (h p (List.mem_cons_of_mem _ hp)).1
    rw [Int.pow_succ, Int.mul_comm]
    exact Int.mul_le_mul h1 (by omega) (by omega) (Int.pow_nonneg (by decide))
theorem den_div : ∀ {taps : List Frc} {p : Frc}, (∀ p ∈ taps, 0 < p.2.1 ∧ p.2.1 < 1024) → p ∈ taps → den taps ≤ p.2.1 * 1024 ^ (taps.length - 1)
  | q :: r, p, h, hp => by
    show q.2.1 * den r ≤ p.2.1 * 1024 ^ r.length
    have h1 := den_le (taps := r) fun p hp => h p (List.mem_cons_of_mem _ hp)
    have h2 := h q List.mem_cons_self
    have h3 : 0 < den r := den_pos fun p hp => (h p (List.mem_cons_of_mem _ hp)).1
    rcases List.mem_cons.mp hp with e | hp
    · rw [e]
      exact Int.mul_le_mul_of_nonneg_left h1 (by omega)
    · have h4 := den_div (taps := r) (fun p hp => h p (List.mem_cons_of_mem _ hp)) hp
      have h5 := h p (List.mem_cons_of_mem _ hp)
      obtain ⟨n, hn⟩ : ∃ n, r.length = n + 1 := ⟨r.length - 1, by have := List.length_pos_of_mem hp; omega⟩
      rw [hn] at h4 ⊢
      have h6 : (0 : Int) ≤ 1024 ^ n := Int.pow_nonneg (by decide)
      have h7 : q.2.1 * den r ≤ 1024 * (p.2.1 * 1024 ^ n) := Int.mul_le_mul (by omega) h4 (by omega) (by omega)
      rw [Int.pow_succ]
      grind
theorem pow_le6 {n : Nat} (h : n ≤ 6) : (1024 : Int) ^ n ≤ 2 ^ 60 := by
  rcases n with _ | _ | _ | _ | _ | _ | _ | n
  all_goals first | decide | omega
theorem pow_le5 {n : Nat} (h : n ≤ 5) : (1024 : Int) ^ n ≤ 2 ^ 50 := by
  rcases n with _ | _ | _ | _ | _ | _ | n
  all_goals first | decide | omega
theorem whole_bound {taps : List Frc} {b : Int} (ok : TapsOk taps) (hb : 0 < b) (hd : b ∣ den taps) : b < 2 ^ 61 ∧ ∀ x ∈ whole taps b, -(2 ^ 61) < x ∧ x < 2 ^ 61 := by
  have hp : ∀ p ∈ taps, 0 < p.2.1 ∧ p.2.1 < 1024 := fun p h => ⟨(ok.ok p h).1, (ok.ok p h).2.1⟩
  have h0 := den_pos fun p h => (hp p h).1
  have hle := Int.le_of_dvd h0 hd
  refine ⟨by have := den_le hp; have := pow_le6 ok.len; omega, fun x hx => ?_⟩
  unfold whole at hx
  obtain ⟨p, hpm, rfl⟩ := List.mem_map.mp hx
  have h1 := den_div hp hpm
  have h2 := pow_le5 (n := taps.length - 1) (by have := ok.len; omega)
  obtain ⟨h3, h4, h5, h6⟩ := ok.ok p hpm
  have h7 : b / p.2.1 ≤ 2 ^ 50 := by
    have h8 : b ≤ p.2.1 * 2 ^ 50 := Int.le_trans hle (Int.le_trans h1 (Int.mul_le_mul_of_nonneg_left h2 (by omega)))
    exact Int.ediv_le_of_le_mul h3 (by rw [Int.mul_comm]; exact h8)
  have h8 : 0 ≤ b / p.2.1 := Int.ediv_nonneg (by omega) (by omega)
  constructor
  · have : -(1024 * 2 ^ 50) ≤ p.1 * (b / p.2.1) := by
      have := Int.mul_le_mul (show -p.1 ≤ 1024 by omega) h7 h8 (by omega)
      grind
    omega
  · have : p.1 * (b / p.2.1) ≤ 1024 * 2 ^ 50 := Int.mul_le_mul (show p.1 ≤ 1024 by omega) h7 h8 (by omega)
    omega
theorem whole_snoc (taps : List Frc) (p : Frc) (b : Int) : whole (taps ++ [p]) b = whole taps b ++ [p.1 * (b / p.2.1)] := by simp [whole]
theorem take_snoc {α : Type} {xs : List α} {i : Nat} {x : α} (h : xs[i]? = some x) : xs.take (i + 1) = xs.take i ++ [x] := by
  obtain ⟨hl, e⟩ := List.getElem?_eq_some_iff.mp h
  rw [List.take_succ_eq_append_getElem hl, e]
theorem atI_back {α : Type} {xs : List α} {i : Nat} (h : i < xs.length) : atI xs (-1 - (i : Int)) = xs.reverse[i]? := by
  unfold atI ixN
  rw [if_neg (by omega), if_pos (by omega), List.getElem?_reverse h]
  show xs[(-1 - (i : Int) + (xs.length : Int)).toNat]? = _
  congr 1
  omega
theorem cmul2 (x : Int) : CMulA 2 x := .inl (.inl ⟨by decide, by decide⟩)

/-! ### fractions in their least terms -/
structure Lows (a b n d : Int) : Prop where
  pos : 0 < d
  le : d ≤ b
  eq : n * b = a * d
  top : n.natAbs ≤ a.natAbs
theorem lows {a b : Int} (hb : 0 < b) : Lows a b (a / ((Int.gcd a b : Nat) : Int)) (b / ((Int.gcd a b : Nat) : Int)) := by
  have hg := gcd_pos (a := a) hb
  obtain ⟨x, ex⟩ : ((Int.gcd a b : Nat) : Int) ∣ a := Int.gcd_dvd_left ..
  obtain ⟨y, ey⟩ : ((Int.gcd a b : Nat) : Int) ∣ b := Int.gcd_dvd_right ..
  generalize ((Int.gcd a b : Nat) : Int) = g at *
  have e1 : a / g = x := by rw [ex]; exact Int.mul_ediv_cancel_left _ (by omega)
  have e2 : b / g = y := by rw [ey]; exact Int.mul_ediv_cancel_left _ (by omega)
  rw [e1, e2]
  have hy : 0 < y := by
    rcases Int.lt_trichotomy y 0 with h | h | h
    · have := Int.mul_neg_of_pos_of_neg hg h; omega
    · rw [h] at ey; simp at ey; omega
    · exact h
  refine ⟨hy, ?_, ?_, ?_⟩
  · have : 1 * y ≤ g * y := Int.mul_le_mul_of_nonneg_right (by omega) (by omega)
    omega
  · rw [ex, ey]; grind
  · rw [ex, Int.natAbs_mul]
    exact Nat.le_mul_of_pos_left _ (by omega)
/-- the turns of the least terms' loop: after i of them -/
structure LowI (a b : Int) (i : Nat) (x y : Int) : Prop where
  hx : 0 ≤ x
  hy : 0 ≤ y
  g : Int.gcd x y = Int.gcd a b
  lt : 0 < i → y < x
  sm : 0 < i → x * y * 2 ^ (i - 1) ≤ 2 ^ 124
  le : i = 0 → x = a.natAbs ∧ y = b
theorem LowI.step {a b x y : Int} {i : Nat} (hb : b ≤ 2 ^ 62) (h : LowI a b i x y) (h0 : 0 < y) : LowI a b (i + 1) y (x % y) := by
  have e1 := Int.emod_lt_of_pos x h0
  have e2 := Int.emod_nonneg x (show y ≠ 0 by omega)
  refine ⟨h.hy, e2, (gcd_step h.hx h0).trans h.g, fun _ => e1, fun _ => ?_, fun z => by omega⟩
  rcases i with _ | i
  · obtain ⟨_, ey⟩ := h.le rfl
    show y * (x % y) * 2 ^ 0 ≤ 2 ^ 124
    have : y * (x % y) ≤ 2 ^ 62 * 2 ^ 62 := Int.mul_le_mul (by omega) (by omega) e2 (by decide)
    omega
  · have s := h.sm (by omega)
    have l := h.lt (by omega)
    show y * (x % y) * 2 ^ (i + 1) ≤ 2 ^ 124
    have s : x * y * 2 ^ i ≤ 2 ^ 124 := s
    have e3 : x % y * 2 ≤ x := by
      have e4 := Int.emod_add_mul_ediv x y
      have e5 : 1 ≤ x / y := (Int.le_ediv_iff_mul_le h0).mpr (by omega)
      have e6 : y * 1 ≤ y * (x / y) := Int.mul_le_mul_of_nonneg_left e5 (by omega)
      omega
    have e7 : y * (x % y * 2) * 2 ^ i ≤ y * x * 2 ^ i := Int.mul_le_mul_of_nonneg_right (Int.mul_le_mul_of_nonneg_left e3 (by omega)) (Int.pow_nonneg (by decide))
    rw [Int.pow_succ]
    grind
theorem LowI.done {a b x y : Int} (h : LowI a b 100000 x y) : y = 0 := by
  rcases Int.lt_or_eq_of_le h.hy with z | z
  · exfalso
    have l := h.lt (by decide)
    have s := h.sm (by decide)
    have h1 : (1 : Int) ≤ x * y := Int.mul_pos (by omega) z
    have h2 : (1 : Int) * 2 ^ 99999 ≤ x * y * 2 ^ 99999 := Int.mul_le_mul_of_nonneg_right h1 (Int.pow_nonneg (by decide))
    have h3 : (2 : Int) ^ 125 ≤ 2 ^ 99999 := by
      have h5 : (2 : Nat) ^ 125 ≤ 2 ^ 99999 := Nat.pow_le_pow_right (by decide) (by decide)
      have h6 : ((2 ^ 125 : Nat) : Int) ≤ ((2 ^ 99999 : Nat) : Int) := Int.ofNat_le.mpr h5
      rw [Int.natCast_pow, Int.natCast_pow] at h6
      exact h6
    have h4 : (2 : Int) ^ 99999 ≤ 2 ^ 124 := by
      have s' : x * y * 2 ^ 99999 ≤ 2 ^ 124 := s
      generalize (2 : Int) ^ 99999 = p at *
      omega
    generalize (2 : Int) ^ 99999 = p at *
    omega
  · exact z.symm
theorem LowI.fin {a b x : Int} {i : Nat} (h : LowI a b i x 0) : x = ((Int.gcd a b : Nat) : Int) := by
  rw [← h.g]
  have := h.hx
  simp [Int.gcd]
  omega
/-- one more tap of the sum -/
theorem guess_step {B n d k p q y n1 d1 n2 d2 W : Int} (hq : 0 < q) (hB : 0 < B) (h : n * B = d * k) (hd : 0 < d) (h1 : n1 * q = p * y * d1) (hd1 : 0 < d1) (h2 : n2 * (d * d1) = (n * d1 + n1 * d) * d2) (hW : W * q = p * B) : n2 * B = d2 * (k + W * y) := by
  have e1 : n1 * B * q = y * d1 * W * q := by grind
  have e2 : n1 * B = y * d1 * W := Int.eq_of_mul_eq_mul_right (by omega) e1
  have e3 : n2 * B * (d * d1) = d2 * (k + W * y) * (d * d1) := by grind
  exact Int.eq_of_mul_eq_mul_right (by have := Int.mul_pos hd hd1; omega) e3
theorem cut_from {α : Type} (xs ys : List α) : cut (xs ++ ys) (some (xs.length : Int)) none = ys := by
  have e2 : HT.sIx (xs ++ ys).length 0 (some (xs.length : Int)) = xs.length := by
    rw [HT.sIx_nat, List.length_append]
    omega
  have e3 : HT.sIx (xs ++ ys).length (xs ++ ys).length none = (xs ++ ys).length := rfl
  unfold cut
  rw [e2, e3, List.drop_left, List.length_append]
  simp
theorem atI_map {α β : Type} {f : α → β} {xs : List α} {k : Int} {y : α} (h : L2.atI xs k = some y) : L2.atI (xs.map f) k = some (f y) := by
  unfold L2.atI at h ⊢
  rw [List.length_map]
  cases e : ixN xs.length k with
  | none => rw [e] at h; cases h
  | some j =>
    rw [e] at h
    have h' : xs[j]? = some y := h
    show (List.map f xs)[j]? = _
    rw [List.getElem?_map, h']
    rfl
theorem atI_ok {α : Type} {xs : List α} {i : Int} (h0 : 0 ≤ i) (h : i < (xs.length : Int)) : ∃ y, L2.atI xs i = some y := by
  obtain ⟨n, rfl⟩ := Int.eq_ofNat_of_zero_le h0
  have hn : n < xs.length := by omega
  exact ⟨xs[n], atI_nat (by simp [hn])⟩
theorem pickI {α : Type} {xs : List α} {r m : Int} (h0 : 0 ≤ r) (h : r < m) {R : α → Prop} (k : ∀ y ∈ xs, R y) (hm : (xs.length : Int) = m := by rfl) : ∃ y, L2.atI xs r = some y ∧ R y := by
  subst hm
  obtain ⟨n, rfl⟩ := Int.eq_ofNat_of_zero_le h0
  have hn : n < xs.length := by omega
  exact ⟨xs[n], atI_nat (by simp [hn]), k _ (List.getElem_mem hn)⟩
theorem atI_back2 {α : Type} {xs : List α} {i : Nat} (h : i < xs.length) : L2.atI xs ((xs.length : Int) - 1 - (i : Int)) = xs.reverse[i]? := by
  have e : (xs.length : Int) - 1 - (i : Int) = ((xs.length - 1 - i : Nat) : Int) := by omega
  rw [e, List.getElem?_reverse h]
  have hn : xs.length - 1 - i < xs.length := by omega
  rw [List.getElem?_eq_getElem hn]
  exact atI_nat (by simp [hn])
theorem pickLast {α : Type} {xs : List α} (h : 0 < xs.length) {R : α → Prop} (k : ∀ y ∈ xs, R y) : ∃ y, L2.atI xs (-1) = some y ∧ R y := by
  have e := atI_back (xs := xs) (i := 0) h
  have hr : 0 < xs.reverse.length := by simpa using h
  rw [List.getElem?_eq_getElem hr] at e
  exact ⟨_, e, k _ (by simpa using List.getElem_mem hr)⟩
theorem ixLast {n : Nat} (h : 0 < n) {R : Nat → Prop} (k : ∀ j, R j) : ∃ j, ixN n (-1) = some j ∧ R j := by
  refine ⟨(-1 + (n : Int)).toNat, ?_, k _⟩
  unfold ixN
  rw [if_neg (by omega), if_pos (by omega)]
abbrev TapOk (p : Frc) : Prop := 0 < p.2.1 ∧ p.2.1 < 1024 ∧ -1024 < p.1 ∧ p.1 < 1024
theorem Lows.tap {a b : Int} {r : Frc} (h : Lows a b r.1 r.2.1) (ha : -1024 < a ∧ a < 1024) (hb : b < 1024) : TapOk r := by
  obtain ⟨h1, h2, h3, h4⟩ := h
  exact ⟨h1, by omega, by omega, by omega⟩
theorem tap_set {xs : List Frc} {j : Nat} {y : Frc} (h : ∀ p ∈ xs, TapOk p) (hy : TapOk y) : ∀ p ∈ xs.set j y, TapOk p := fun p hp => by
  rcases List.mem_or_eq_of_mem_set hp with h1 | rfl
  · exact h p h1
  · exact hy
theorem whole_dvd {taps : List Frc} (ok : ∀ p ∈ taps, 0 < p.2.1) {p : Frc} (h : p ∈ taps) : p.1 * (den taps / p.2.1) * p.2.1 = p.1 * den taps := by
  have e : den taps / p.2.1 * p.2.1 = den taps := Int.ediv_mul_cancel (dvd_den h)
  rw [Int.mul_assoc, e]

/-! ### depth of data -/
mutual
def Dd : D → Nat
  | .tup xs => Dds xs + 1
  | _ => 0
def Dds : List D → Nat
  | [] => 0
  | x :: xs => max (Dd x) (Dds xs)
end
theorem dd_mem : ∀ {xs : List D} {x : D}, x ∈ xs → Dd x ≤ Dds xs
  | y :: r, x, h => by
    show Dd x ≤ max (Dd y) (Dds r)
    rcases List.mem_cons.mp h with rfl | h
    · exact Nat.le_max_left _ _
    · exact Nat.le_trans (dd_mem h) (Nat.le_max_right _ _)
mutual
def Fit : D → Prop
  | .tup xs => xs.length < 1000000 ∧ Fits xs
  | _ => True
def Fits : List D → Prop
  | [] => True
  | x :: xs => Fit x ∧ Fits xs
end
theorem fit_mem : ∀ {xs : List D} {x : D}, Fits xs → x ∈ xs → Fit x
  | y :: r, x, hf, h => by
    have hf' : Fit y ∧ Fits r := hf
    rcases List.mem_cons.mp h with rfl | h
    · exact hf'.1
    · exact fit_mem hf'.2 h
abbrev RuleOk (x : List Nat) : Prop := x ∈ [[100, 111, 119, 110], [117, 112], [110, 101, 97, 114], [108, 111, 119]]
theorem sm {α : Type} {a b : α} {A B : Prop} (h : a = b) (hA : A) : (a = b → A) ∧ (a ≠ b → B) := ⟨fun _ => hA, fun n => absurd h n⟩
theorem nt {A B : Prop} (h : B) : ((!true) = true → A) ∧ ((!true) = false → B) := ⟨fun z => (by cases z), fun _ => h⟩
theorem dds_ints : ∀ xs : List Int, Dds (xs.map D.int) = 0
  | [] => rfl
  | x :: xs => by
    show max 0 (Dds (xs.map D.int)) = 0
    rw [dds_ints xs]
    rfl
theorem dd_ints (xs : List Int) : Dd (D.tup (xs.map D.int)) < 2 := by
  show Dds (xs.map D.int) + 1 < 2
  rw [dds_ints]
  decide
theorem fits_ints : ∀ xs : List Int, Fits (xs.map D.int)
  | [] => trivial
  | x :: xs => ⟨trivial, fits_ints xs⟩
theorem fit_ints {xs : List Int} (h : xs.length ≤ 1000) : Fit (D.tup (xs.map D.int)) := ⟨by rw [List.length_map]; omega, fits_ints xs⟩
theorem shos_ints : ∀ {xs : List Int}, (∀ x ∈ xs, -(2 ^ 70) < x ∧ x < 2 ^ 70) → Shos (xs.map D.int)
  | [], _ => trivial
  | x :: xs, h => by
    refine ⟨?_, shos_ints fun y hy => h y (List.mem_cons_of_mem _ hy)⟩
    obtain ⟨h1, h2⟩ := h x List.mem_cons_self
    show x.natAbs.log2 < 1920
    by_cases z : x.natAbs = 0
    · rw [z]; decide
    · exact Nat.lt_of_lt_of_le ((Nat.log2_lt z).mpr (show x.natAbs < 2 ^ 70 by omega)) (by decide)
theorem dszs_ints : ∀ xs : List Int, dszs (xs.map D.int) = xs.length
  | [] => rfl
  | x :: xs => by
    show 1 + dszs (xs.map D.int) = _
    rw [dszs_ints xs, List.length_cons]
    omega
theorem ddps_ints : ∀ xs : List Int, ddps (xs.map D.int) = 0
  | [] => rfl
  | x :: xs => by
    show max 0 (ddps (xs.map D.int)) = 0
    rw [ddps_ints xs]
    rfl
abbrev tapD (p : Frc) : D := D.tup [D.int p.1, D.int p.2.1]
theorem shos_taps : ∀ {xs : List Frc}, (∀ p ∈ xs, TapOk p) → Shos (xs.map tapD) ∧ dszs (xs.map tapD) = 3 * xs.length ∧ ddps (xs.map tapD) ≤ 1
  | [], _ => ⟨trivial, rfl, by decide⟩
  | p :: xs, h => by
    obtain ⟨a, b, c⟩ := shos_taps (xs := xs) fun y hy => h y (List.mem_cons_of_mem _ hy)
    obtain ⟨h1, h2, h3, h4⟩ := h p List.mem_cons_self
    refine ⟨⟨shos_ints (xs := [p.1, p.2.1]) (fun x hx => ?_), a⟩, ?_, ?_⟩
    · rcases List.mem_cons.mp hx with rfl | hx
      · omega
      · rw [List.mem_singleton.mp hx]; omega
    · show 3 + dszs (xs.map tapD) = _
      rw [b, List.length_cons]
      omega
    · show max (max 0 (max 0 0) + 1) (ddps (xs.map tapD)) ≤ 1
      omega
theorem rep_ok {taps : List Frc} {rule : List Nat} {past nums : List Int} (ok : TapsOk taps) (hr : RuleOk rule) (h1 : past.length ≤ 1000) (h2 : nums.length ≤ 1000) (b1 : ∀ x ∈ past, -(2 ^ 70) < x ∧ x < 2 ^ 70) (b2 : ∀ x ∈ nums, -(2 ^ 70) < x ∧ x < 2 ^ 70) :
    RepOk [D.tup [D.tup (taps.map tapD), D.str rule], D.tup (past.map D.int), D.tup (nums.map D.int)] := by
  obtain ⟨a, b, c⟩ := shos_taps ok.ok
  have hz := ok.len
  have hr2 : Sho (D.str rule) := by
    have h : rule = [100, 111, 119, 110] ∨ rule = [117, 112] ∨ rule = [110, 101, 97, 114] ∨ rule = [108, 111, 119] := by simpa using hr
    rcases h with rfl | rfl | rfl | rfl <;> (show (reprText _).length ≤ 1900; decide +kernel)
  refine ⟨⟨⟨a, hr2, trivial⟩, shos_ints b1, shos_ints b2, trivial⟩, ?_, ?_⟩
  · show ((dszs (taps.map tapD) + 1) + (1 + 0) + 1) + ((dszs (past.map D.int) + 1) + ((dszs (nums.map D.int) + 1) + 0)) ≤ 8000
    rw [b, dszs_ints, dszs_ints]
    omega
  · show max (max (ddps (taps.map tapD) + 1) (max 0 0) + 1) (max (ddps (past.map D.int) + 1) (max (ddps (nums.map D.int) + 1) 0)) ≤ 40
    rw [ddps_ints, ddps_ints]
    omega
end K48

set_option Elab.async false
set_option linter.all false
set_option maxRecDepth 100000
set_option maxHeartbeats 4000000
/-! DrawA: the bag of k47, k48: [cells, at, great, turn, way, left, mixed]. -/
namespace K48
open PySem L2 TY TX
structure BagA where
  ns : List Int
  i1 : Int
  i2 : Int
  i3 : Int
  i4 : Int
  i5 : Int
  ms : List Int
@[reducible] def BagA.vs (c m : Addr) (b : BagA) : List V := [.ref c, .int b.i1, .int b.i2, .int b.i3, .int b.i4, .int b.i5, .ref m]
@[reducible] def tBagAt (c m : Addr) : Ty where
  α := BagA
  at_ := fun K H F v b => ∃ p, v = .ref p ∧ F = fo (f1 p) (fo (f1 c) (f1 m)) ∧ p ≠ c ∧ p ≠ m ∧ c ≠ m ∧ H p = some (.lst (b.vs c m)) ∧ H c = some (.lst (b.ns.map V.int)) ∧ H m = some (.lst (b.ms.map V.int))
  own := fun ⟨p, _, e, _, _, _, h1, h2, h3⟩ b z => by
    rw [e] at z
    rcases z with z | z | z
    · rw [show b = p from z, h1]; trivial
    · rw [show b = c from z, h2]; trivial
    · rw [show b = m from z, h3]; trivial
  keep := fun ⟨p, ev, e, n1, n2, n3, h1, h2, h3⟩ s k => ⟨p, ev, e, n1, n2, n3, k p _ (by rw [e]; exact .inl rfl) h1, k c _ (by rw [e]; exact .inr (.inl rfl)) h2, k m _ (by rw [e]; exact .inr (.inr rfl)) h3⟩
structure BagA.Ok (b : BagA) : Prop where
  at_ : 0 ≤ b.i1
  len : b.ms.length = b.ns.length
/-- a bag in any state -/
@[reducible] def tBag : Ty where
  α := Unit
  at_ := fun K H F v _ => ∃ c m b, BagA.Ok b ∧ (tBagAt c m).at_ K H F v b
  own := fun ⟨c, m, b, _, h⟩ => (tBagAt c m).own h
  keep := fun ⟨c, m, b, o, h⟩ s k => ⟨c, m, b, o, (tBagAt c m).keep h s k⟩
def bagGet (b : BagA) : Int → Option Int
  | 1 => some b.i1
  | 2 => some b.i2
  | 3 => some b.i3
  | 4 => some b.i4
  | 5 => some b.i5
  | _ => none
def bagSet (b : BagA) (x : Int) : Nat → BagA
  | 1 => { b with i1 := x }
  | 2 => { b with i2 := x }
  | 3 => { b with i3 := x }
  | 4 => { b with i4 := x }
  | 5 => { b with i5 := x }
  | _ => b
section
variable {X : Cx} {TB : Addr → Prop} {Ξ : WX} {Γ Γ1 : Cy} {c m : Addr} {pos p pos2 pos3 : Pos} {v0 : V} {x y : Str} {e : Expr}
theorem x_bagI : IxO X TB (pm2 (tBagAt c m) tInt tInt fun b (k : Int) P => ∃ y : Int, bagGet b k = some y ∧ P y b) := ⟨_, ix_list, fun vs H Q E z => by
  obtain ⟨v, v2, F, F2, a, b, P, rfl, ⟨l, rfl, ef, n1, n2, n3, h1, h2, h3⟩, ⟨rfl, rfl⟩, d, ⟨y, q, pp⟩, k⟩ := spm2 z
  rw [fo_fe] at k
  refine ⟨_, _, rfl, l, _, b, .int y, rfl, rfl, SqL.of h1, ?_, k _ _ _ H fe F pp ⟨rfl, rfl⟩ ⟨l, rfl, ef, n1, n2, n3, h1, h2, h3⟩ (fe_dj _) (by rw [fe_fo]; exact Chg.refl)⟩
  unfold bagGet at q
  split at q <;> first | (cases q; rfl) | cases q⟩
theorem x_bagC : IxO X TB (pm2 (tBagAt c m) tInt (tIs (.ref c)) fun b (k : Int) P => k = 0 ∧ P () b) := ⟨_, ix_list, fun vs H Q E z => by
  obtain ⟨v, v2, F, F2, a, b, P, rfl, ⟨l, rfl, ef, n1, n2, n3, h1, h2, h3⟩, ⟨rfl, rfl⟩, d, ⟨rfl, pp⟩, k⟩ := spm2 z
  rw [fo_fe] at k
  exact ⟨_, _, rfl, l, _, 0, .ref c, rfl, rfl, SqL.of h1, rfl, k _ _ _ H fe F pp ⟨rfl, rfl⟩ ⟨l, rfl, ef, n1, n2, n3, h1, h2, h3⟩ (fe_dj _) (by rw [fe_fo]; exact Chg.refl)⟩⟩
/-- len(cells), cells = bag[0] -/
theorem ex_lenC (i j : Nat) (hm : X.mg "len" = none) (e0 : Cy.at_ Γ i = some (tAt v0 (tBagAt c m)) := by rfl) (e1 : Cy.at_ Γ j = some (tIs (.ref c)) := by rfl) (hg : Gl X "len" := by rfl) (hN : X.N[j]? = some x := by rfl) (hv : Vis X.env.scope x := by first | exact Or.inl rfl | exact Or.inr (Or.inl rfl) | exact Or.inr (Or.inr rfl)) (hd : (x == ("__debug__" : Str)) = false := by decide)
    (hcd : (x == ("__classdict__" : Str)) = false := by decide) (he : starEach [.Name x pos] X.env = (false, eval (.Name x pos) X.env) :: starEach [] X.env := by rfl) :
    Ex X TB Ξ Γ (.Call (.Name "len" p) [.Name x pos] [] pos2) Γ (.val tInt) (wPure fun s => (((cst (t := tAt v0 (tBagAt c m)) e0 (get Γ i s)).ns.length : Nat) : Int)) := ⟨pe_weak (L2.pe_callB call_len_seq hg hm PySem.boot_len (L2.pa_cons (L2.pv j hN hv hd hcd) L2.pa_nil he) (by decide) (by decide) he) fun σ H Q h => by
  obtain ⟨s, F, Qt, E, sr, tb, hw, hq, _⟩ := h
  obtain ⟨v, F1, h1, ⟨ev, _⟩, _⟩ := sr.get_ e1
  obtain ⟨v', F2, g1, ⟨_, l, _, _, _, _, _, _, g2, _⟩, _⟩ := sr.get_ e0
  refine ⟨v, h1, c, _, by rw [ev], .inl (SqL.of g2), ?_⟩
  rw [List.length_map]
  exact hq _ s _ H fe F hw ⟨rfl, rfl⟩ sr (fe_dj _) (by rw [fe_fo]; exact Chg.refl)⟩
/-- cells[e] -/
theorem ex_cellC {w : WT Γ Γ Int} (i j : Nat) (he : Ex X TB Ξ Γ e Γ (.val tInt) w) (e0 : Cy.at_ Γ i = some (tAt v0 (tBagAt c m)) := by rfl) (e1 : Cy.at_ Γ j = some (tIs (.ref c)) := by rfl) (hN : X.N[j]? = some x := by rfl) (hv : Vis X.env.scope x := by first | exact Or.inl rfl | exact Or.inr (Or.inl rfl) | exact Or.inr (Or.inr rfl)) (hd : (x == ("__debug__" : Str)) = false := by decide)
    (hcd : (x == ("__classdict__" : Str)) = false := by decide) (hs : PlainIx e := by exact fun _ _ => rfl) :
    Ex X TB Ξ Γ (.Subscript (.Name x pos) e pos2) Γ (.val tInt) (fun s Q E => w s (fun k s1 => ∃ y, atI (cst (t := tAt v0 (tBagAt c m)) e0 (get Γ i s1)).ns k = some y ∧ Q y s1) E) := ⟨pe_weak (L2.pe_ix ix_list (L2.pv j hN hv hd hcd) he.pe hs) fun σ H Q h => by
  obtain ⟨s, F, Qt, E, sr, tb, hw, hq, hx⟩ := h
  obtain ⟨v, F1, h1, ⟨ev, _⟩, _⟩ := sr.get_ e1
  refine ⟨v, h1, s, F, _, E, sr, tb, hw, fun k s1 vk H1 G1 G2 q at1 sr1 d1 c1 => ?_, hx⟩
  obtain ⟨rfl, rfl⟩ := at1
  obtain ⟨y, q1, q2⟩ := q
  obtain ⟨v', F2, g1, ⟨_, l, _, _, _, _, _, _, g2, _⟩, _⟩ := sr1.get_ e0
  have q3 : L2.atI ((cst (t := tAt v0 (tBagAt c m)) e0 (get Γ i s1)).ns.map V.int) k = some (.int y) := atI_map q1
  exact ⟨c, _, k, .int y, by rw [ev], rfl, SqL.of g2, q3, hq _ s1 _ H1 fe G2 q2 ⟨rfl, rfl⟩ sr1 (fe_dj _) (by rw [fe_fo] at c1 ⊢; exact c1)⟩⟩
/-- bag[6][e] -/
theorem ex_bagM {w : WT Γ Γ Int} {k6 : Nat} (i : Nat) (he : Ex X TB Ξ Γ e Γ (.val tInt) w) (e0 : Cy.at_ Γ i = some (tAt v0 (tBagAt c m)) := by rfl) (hN : X.N[i]? = some x := by rfl) (hv : Vis X.env.scope x := by first | exact Or.inl rfl | exact Or.inr (Or.inl rfl) | exact Or.inr (Or.inr rfl)) (hd : (x == ("__debug__" : Str)) = false := by decide)
    (hcd : (x == ("__classdict__" : Str)) = false := by decide) (hs : PlainIx e := by exact fun _ _ => rfl) :
    Ex X TB Ξ Γ (.Subscript (.Subscript (.Name x pos) (.Constant (.int 6) k6 p) pos3) e pos2) Γ (.val tInt) (fun s Q E => w s (fun k s1 => ∃ y, atI (cst (t := tAt v0 (tBagAt c m)) e0 (get Γ i s1)).ms k = some y ∧ Q y s1) E) := ⟨pe_weak (L2.pe_ix ix_list (L2.pe_ix ix_list (L2.pv i hN hv hd hcd) pe_int (fun _ _ => rfl)) he.pe hs) fun σ H Q h => by
  obtain ⟨s, F, Qt, E, sr, tb, hw, hq, hx⟩ := h
  obtain ⟨v, F1, h1, ⟨ev, l, el, _, _, _, _, g0, _⟩, _⟩ := sr.get_ e0
  refine ⟨v, h1, l, _, 6, .ref m, el, rfl, SqL.of g0, rfl, s, F, _, E, sr, tb, hw, fun k s1 vk H1 G1 G2 q at1 sr1 d1 c1 => ?_, hx⟩
  obtain ⟨rfl, rfl⟩ := at1
  obtain ⟨y, q1, q2⟩ := q
  obtain ⟨v', F2, g1, ⟨_, l', _, _, _, _, _, _, _, g2⟩, _⟩ := sr1.get_ e0
  have q3 : L2.atI ((cst (t := tAt v0 (tBagAt c m)) e0 (get Γ i s1)).ms.map V.int) k = some (.int y) := atI_map q1
  exact ⟨m, _, k, .int y, rfl, rfl, SqL.of g2, q3, hq _ s1 _ H1 fe G2 q2 ⟨rfl, rfl⟩ sr1 (fe_dj _) (by rw [fe_fo] at c1 ⊢; exact c1)⟩⟩
/-- bag[k] = e -/
theorem gx_bag {k6 : Nat} (i k : Nat) (hk : 1 ≤ k ∧ k ≤ 5) (e0 : Cy.at_ Γ i = some (tAt v0 (tBagAt c m)) := by rfl) (hN : X.N[i]? = some x := by rfl) (hv : Vis X.env.scope x := by first | exact Or.inl rfl | exact Or.inr (Or.inl rfl) | exact Or.inr (Or.inr rfl)) (hd : (x == ("__debug__" : Str)) = false := by decide)
    (hcd : (x == ("__classdict__" : Str)) = false := by decide)
    (ha : ∀ v, assign (.Subscript (.Name x pos) (.Constant (.int (k : Int)) k6 p) pos2) X.env v = (do
      let ov ← holding [v] (eval (.Name x pos) X.env)
      let iv ← holding [v, ov] (eval (.Constant (.int (k : Int)) k6 p) X.env)
      standAt pos2
      holding [v, ov, iv] (setItem ov iv v)
      release [v, ov, iv] []) := by intro _; rfl) :
    Gx X TB Ξ Γ (.Subscript (.Name x pos) (.Constant (.int (k : Int)) k6 p) pos2) tInt [] Γ (fun a s Q _ => Q (pbk Γ i (tAt v0 (tBagAt c m)) e0 (bagSet (cst (t := tAt v0 (tBagAt c m)) e0 (get Γ i s)) a k) (put Γ i none () s))) := ⟨pg_weak (L2.pg_sub (L2.pv i hN hv hd hcd) pe_int set_list ha) fun v σ H Q h => by
  obtain ⟨s, F, F1, a, Qt, E, sr, tb, ⟨rfl, rfl⟩, d, hw, hq, he⟩ := h
  obtain ⟨v', J1, J2, b1, ⟨ev, l, rfl, rfl, n1, n2, n3, h1, h2, h3⟩, b3, rfl, b5⟩ := sr.take_ e0
  refine ⟨_, b1, l, _, (k : Int), k, rfl, rfl, h1, ?_, ?_⟩
  · obtain ⟨k1, k2⟩ := hk
    unfold ixN
    rw [if_pos (by omega), if_pos (by show (k : Int) < ((7 : Nat) : Int); omega)]
    simp
  have st : Stay H (upd H l (.lst ((BagA.vs c m (cst (t := tAt v0 (tBagAt c m)) e0 (get Γ i s))).set k (.int a)))) := stay_w h1 trivial
  have b3' := b3.keep st fun b o z h => by
    rw [upd_ne (fun e => b5 b (.inl e) z)]
    exact h
  have e9 : (BagA.vs c m (cst (t := tAt v0 (tBagAt c m)) e0 (get Γ i s))).set k (.int a) = BagA.vs c m (bagSet (cst (t := tAt v0 (tBagAt c m)) e0 (get Γ i s)) a k) := by
    obtain ⟨k1, k2⟩ := hk
    rcases k with _ | _ | _ | _ | _ | _ | k
    all_goals first | rfl | omega
  have e10 : (bagSet (cst (t := tAt v0 (tBagAt c m)) e0 (get Γ i s)) a k).ns = (cst (t := tAt v0 (tBagAt c m)) e0 (get Γ i s)).ns ∧ (bagSet (cst (t := tAt v0 (tBagAt c m)) e0 (get Γ i s)) a k).ms = (cst (t := tAt v0 (tBagAt c m)) e0 (get Γ i s)).ms := by
    rcases k with _ | _ | _ | _ | _ | _ | k <;> exact ⟨rfl, rfl⟩
  rw [e9] at st b3' ⊢
  obtain ⟨F', c3, c4⟩ := SR.pbk_ (t := tAt v0 (tBagAt c m)) (v := .ref l) (a := bagSet (cst (t := tAt v0 (tBagAt c m)) e0 (get Γ i s)) a k) (G := fo (f1 l) (fo (f1 c) (f1 m))) e0 b3' b1 ⟨ev, l, rfl, rfl, n1, n2, n3, upd_same, by rw [upd_ne (Ne.symm n1), e10.1]; exact h2, by rw [upd_ne (Ne.symm n2), e10.2]; exact h3⟩ b5
  exact hq _ σ _ F' hw c3 (((Chg.write (.inl (.inl rfl))).sub c4).sup fun b z => .inr z) fun _ _ => rfl⟩
/-- a bag, written -/
theorem ex_bagNew {es : List Expr} {w : WT Γ Γ1 (HA [.val (tList tInt), .val tInt, .val tInt, .val tInt, .val tInt, .val tInt, .val (tList tInt)])} (h : Pa X TB Ξ Γ es Γ1 [.val (tList tInt), .val tInt, .val tInt, .val tInt, .val tInt, .val tInt, .val (tList tInt)] w) :
    Ex X TB Ξ Γ (.List es pos) Γ1 (.val tBag) (fun s Q E => w s (fun a s1 => (fun (ns : List Int) (i : Int) (ms : List Int) => (0 ≤ i ∧ ms.length = ns.length) ∧ Q () s1) a.1 a.2.1 a.2.2.2.2.2.2.1) E) := ⟨pe_weak (L2.pe_lst h.pa) fun σ H Q h => by
  obtain ⟨s, F, Qt, E, sr, tb, hw, hq, he⟩ := h
  refine ⟨s, F, _, E, sr, tb, hw, fun a s1 vs H1 F1 F2 q ak sr1 d c => ?_, he⟩
  obtain ⟨v0, r0, G0, J0, rfl, rfl, d0, ⟨l0, w0, rfl, rfl, h0, al0⟩, v1, r1, G1, J1, rfl, rfl, d1, ⟨rfl, rfl⟩, v2, r2, G2, J2, rfl, rfl, d2, ⟨rfl, rfl⟩, v3, r3, G3, J3, rfl, rfl, d3, ⟨rfl, rfl⟩, v4, r4, G4, J4, rfl, rfl, d4, ⟨rfl, rfl⟩, v5, r5, G5, J5, rfl, rfl, d5, ⟨rfl, rfl⟩, v6, r6, G6, J6, rfl, rfl, d6, ⟨l6, w6, rfl, rfl, h6, al6⟩, rfl, rfl⟩ := ak
  obtain ⟨⟨q1, q2⟩, q3⟩ := q
  obtain rfl := al_flat al0
  obtain rfl := al_flat al6
  rw [fe_fo, fe_fo, fe_fo, fe_fo, fe_fo, fo_fe] at d0 c d
  refine ⟨by show 7 ≤ sizeLine; decide, fun p' hp => ?_⟩
  have n1 : p' ≠ l0 := Ne.symm (ne_of_none h0 hp)
  have n2 : p' ≠ l6 := Ne.symm (ne_of_none h6 hp)
  have n3 : l0 ≠ l6 := fun e => d0 l0 rfl e
  have st := stay_alloc (o := .lst (BagA.vs l0 l6 ⟨a.1, a.2.1, a.2.2.1, a.2.2.2.1, a.2.2.2.2.1, a.2.2.2.2.2.1, a.2.2.2.2.2.2.1⟩)) hp
  refine hq () s1 _ _ (fo (f1 p') (fo (f1 l0) (f1 l6))) F2 q3 ⟨l0, l6, ⟨a.1, a.2.1, a.2.2.1, a.2.2.2.1, a.2.2.2.2.1, a.2.2.2.2.2.1, a.2.2.2.2.2.2.1⟩, ⟨q1, q2⟩, p', rfl, rfl, n1, n2, n3, upd_same, by rw [upd_ne (Ne.symm n1)]; exact h0, by rw [upd_ne (Ne.symm n2)]; exact h6⟩
    (sr1.keep st fun b o _ h => by rw [upd_ne (ne_of_none h hp)]; exact h) (fun b x y => ?_) (c.trans ((Chg.alloc hp).sub fun b z => ?_))
  · rcases x with x | x
    · have e : b = p' := x
      have m := sr1.own b y
      rw [e, hp] at m
      exact m
    · exact d b x y
  · rcases z with (z | z) | z
    · exact .inl z
    · exact .inr (.inl z)
    · exact .inr (.inr z)⟩
/-- bag[k] = e, of a bag in any state -/
theorem gx_bagU {k6 : Nat} (i k : Nat) (hk : 2 ≤ k ∧ k ≤ 5) (e0 : Cy.at_ Γ i = some tBag := by rfl) (hN : X.N[i]? = some x := by rfl) (hv : Vis X.env.scope x := by first | exact Or.inl rfl | exact Or.inr (Or.inl rfl) | exact Or.inr (Or.inr rfl)) (hd : (x == ("__debug__" : Str)) = false := by decide)
    (hcd : (x == ("__classdict__" : Str)) = false := by decide)
    (ha : ∀ v, assign (.Subscript (.Name x pos) (.Constant (.int (k : Int)) k6 p) pos2) X.env v = (do
      let ov ← holding [v] (eval (.Name x pos) X.env)
      let iv ← holding [v, ov] (eval (.Constant (.int (k : Int)) k6 p) X.env)
      standAt pos2
      holding [v, ov, iv] (setItem ov iv v)
      release [v, ov, iv] []) := by intro _; rfl) :
    Gx X TB Ξ Γ (.Subscript (.Name x pos) (.Constant (.int (k : Int)) k6 p) pos2) tInt [] Γ (fun a s Q _ => Q (pbk Γ i tBag e0 () (put Γ i none () s))) := ⟨pg_weak (L2.pg_sub (L2.pv i hN hv hd hcd) pe_int set_list ha) fun v σ H Q h => by
  obtain ⟨s, F, F1, a, Qt, E, sr, tb, ⟨rfl, rfl⟩, d, hw, hq, he⟩ := h
  obtain ⟨v', J1, J2, b1, ⟨c, m, b, ok, l, ev, ej, n1, n2, n3, h1, h2, h3⟩, b3, rfl, b5⟩ := sr.take_ e0
  subst ev ej
  refine ⟨_, b1, l, _, (k : Int), k, rfl, rfl, h1, ?_, ?_⟩
  · obtain ⟨k1, k2⟩ := hk
    unfold ixN
    rw [if_pos (by omega), if_pos (by show (k : Int) < ((7 : Nat) : Int); omega)]
    simp
  have st : Stay H (upd H l (.lst ((BagA.vs c m b).set k (.int a)))) := stay_w h1 trivial
  have b3' := b3.keep st fun b o z h => by
    rw [upd_ne (fun e => b5 b (.inl e) z)]
    exact h
  have e9 : (BagA.vs c m b).set k (.int a) = BagA.vs c m (bagSet b a k) := by
    obtain ⟨k1, k2⟩ := hk
    rcases k with _ | _ | _ | _ | _ | _ | k
    all_goals first | rfl | omega
  have e10 : (bagSet b a k).ns = b.ns ∧ (bagSet b a k).ms = b.ms ∧ (bagSet b a k).i1 = b.i1 := by
    obtain ⟨k1, k2⟩ := hk
    rcases k with _ | _ | _ | _ | _ | _ | k
    all_goals first | exact ⟨rfl, rfl, rfl⟩ | omega
  rw [e9] at st b3' ⊢
  obtain ⟨F', c3, c4⟩ := SR.pbk_ (t := tBag) (v := .ref l) (a := ()) (G := fo (f1 l) (fo (f1 c) (f1 m))) e0 b3' b1 ⟨c, m, bagSet b a k, ⟨by rw [e10.2.2]; exact ok.at_, by rw [e10.1, e10.2.1]; exact ok.len⟩, l, rfl, rfl, n1, n2, n3, upd_same, by rw [upd_ne (Ne.symm n1), e10.1]; exact h2, by rw [upd_ne (Ne.symm n2), e10.2.1]; exact h3⟩ b5
  exact hq _ σ _ F' hw c3 (((Chg.write (.inl (.inl rfl))).sub c4).sup fun b z => .inr z) fun _ _ => rfl⟩
end
end K48

set_option Elab.async false
set_option linter.all false
set_option maxRecDepth 100000
set_option maxHeartbeats 4000000
namespace K48
open PySem L2 TY TX

def top (i : Nat) : Stmt := PySem.Challenge.pw_roundladder_k48_errors_there_and_back.main.body.getD i (.Pass ⟨0, 0, 0, 0⟩)
abbrev s_divisor : Stmt := top 1
abbrev s_multiple : Stmt := top 2
abbrev s_rounded_by : Stmt := top 4
abbrev s_whole_taps : Stmt := top 6
abbrev s_tapped : Stmt := top 7
abbrev s_errors_of : Stmt := top 8
abbrev s_read_back : Stmt := top 9
abbrev s__law_mixed : Stmt := top 11
abbrev s__law_draw_at : Stmt := top 12
abbrev s__law_draw : Stmt := top 12
abbrev s__law_low : Stmt := top 15
abbrev s__law_plus : Stmt := top 16
abbrev s__law_rounded : Stmt := top 17
abbrev s__law_predictor : Stmt := top 18
abbrev s__law_numbers : Stmt := top 19
abbrev s__law_guess : Stmt := top 20
abbrev s__law_errors : Stmt := top 21
abbrev s__law_read : Stmt := top 22
abbrev s__law_same : Stmt := top 14
abbrev s__law_start : Stmt := top 13
structure Bt (mg : Str → Option Value) : Prop where
  abs : mg "abs" = none
  bool : mg "bool" = none
  enumerate : mg "enumerate" = none
  int : mg "int" = none
  isinstance : mg "isinstance" = none
  len : mg "len" = none
  list : mg "list" = none
  range : mg "range" = none
  repr : mg "repr" = none
  str : mg "str" = none
  sum : mg "sum" = none
  tuple : mg "tuple" = none
theorem takesF {X : Cx} : Takes X ΞF := fun u s' ⟨_, _, _, _, _, _, _, _, _, _, _, _, _, _, _, _, z⟩ => z.elim
section
variable {P : Program} {w : World} {K : PySem.W.Frag} {mg : Str → Option Value} {base : Heap} {TB : Addr → Prop}
instance : Imm (tTpl [tInt, tInt]) := (imm_tpl (imms_cons imm_flat (imms_cons imm_flat imms_nil)))
instance : Imm (tTup (tTpl [tInt, tInt])) := imm_tup
instance : Imm (tTpl [(tTup (tTpl [tInt, tInt])), tS]) := (imm_tpl (imms_cons imm_tup (imms_cons imm_flat imms_nil)))
instance : Imm (tTup tInt) := imm_tup
instance : Imm (tRo tInt) := imm_ro
@[reducible] def C_divisor : Ctr := ⟨[.im tInt, .im tInt], tInt, fun a Q E => (fun (a0 : Int) (a1 : Int) => Q ((Int.gcd a0 a1 : Nat) : Int) ((), (), ())) a.1 a.2.1⟩
theorem sc_divisor : FnScope ["one", "other"] ["one", "other"] (defScope s_divisor) := ⟨rfl, rfl, rfl, by decide +kernel, rfl, by decide +kernel, by decide +kernel⟩
theorem ok_divisor {f : Addr} {fd : FuncData} (F : Fun K "divisor" "divisor" s_divisor f fd) (Z : Bt mg)  : FnOk P w K mg base (L2.CX P w) 1 f fd ["one", "other"] (C_divisor.sp K TB) := by
  refine fn_ty (C := C_divisor) 0 F sc_divisor rfl rfl fun cdv A outer s H vs E hr hv => ?_
  obtain ⟨v0, v1, rfl⟩ : ∃ v0 v1, vs = [v0, v1] := by
    match vs, hv with
    | [v0, v1], _ => exact ⟨v0, v1, rfl⟩
  refine ⟨[], _, (ss_cons (Γ1 := [some tInt, some tInt]) (sx_par 0 1 rfl sc_divisor.nd (pa_cons (ex_callB c_abs Z.abs (by decide +kernel) (pa_cons (ex_var (t := tInt) 0) pa_nil) (cj_val cj_nil)) (pa_cons (ex_callB c_abs Z.abs (by decide +kernel) (pa_cons (ex_var (t := tInt) 1) pa_nil) (cj_val cj_nil)) pa_nil)))
    (ss_cons (Γ1 := [some tInt, some tInt]) (sx_while (passes_of rfl) (tx_tru (ex_var (t := tInt) 1))
    (ss_one (sx_par 0 1 rfl sc_divisor.nd (pa_cons (ex_var (t := tInt) 1) (pa_cons (ex_bin o_modP (ex_var (t := tInt) 0) (ex_var (t := tInt) 1) (cj_val (cj_val cj_nil))) pa_nil)))))
    (ss_one (sx_ret (out_im (out_im out_nil)) (ex_var (t := tInt) 0))))), ?_⟩
  rintro ⟨(a0 : Int), (a1 : Int), au⟩ Q E hw
  dsimp only [TY.wGuard, TY.wSeq, TY.wPar, TY.wCons, TY.wNil, TY.wApp, TY.wPure, TY.wMv, TY.wWhile, TY.wFor, TY.wTru, TY.wRet, TY.wRetN, TY.wSkip, TY.wSet, TY.wAsg, TY.wIf, TY.wName, TY.wDrop, TY.wBrk, TY.wCnt, TY.wNever, TY.wClr, TY.wPre, TY.wGs, TY.wGs0, TY.wLc, TY.wGen, TY.wOut, TY.wOutA, TY.wPrm, TY.wAug, TY.wCv, TY.wB, TY.wAnd, TY.wOr, TY.wNot, TY.wIfE, TY.wMap, TY.wRng1, TY.wRng2, TY.wSgn, TY.wSome, enR, enN, ini, iniv, none_s, none_v, Cy.set_, Cy.at_, TY.get, TY.put, pbk, cstr, cst, cj_val, cj_tmp, cj_bor, cj_borA, cj_nil, out_im, out_mu, out_nil, pc1, pc2, pm1, pm2, pmm, cI, cIg, cIb, cSb, cS3, prm_id, prm_swap, prm_skip, prm_trans, clr_nil, clr_one, hv, hl_, kv, kr, prj, tyOf, HT2, cv_id, cv_non, cv_someI, cv_someS, cv_someT, cv_dN, cv_dB, cv_dI, cv_dS, cv_dT, cv_dP, cvs_nil, cvs_cons, tAt, tIs, Pm.ty, Ctr.ps, Ctr.r, Ctr.w, tru_I, tru_Ig, tru_S, tru_Sg, tru_T, tru_Tg, tru_L, tru_Lg, C_divisor] at hw ⊢
  refine ⟨fun m s => m = s.2.1.natAbs ∧ 0 ≤ s.1 ∧ 0 ≤ s.2.1 ∧ Int.gcd s.1 s.2.1 = Int.gcd a0 a1, ⟨_, rfl, ?_, ?_, ?_⟩, ?_⟩
  · show (0 : Int) ≤ if a0 < 0 then -a0 else a0
    split <;> omega
  · show (0 : Int) ≤ if a1 < 0 then -a1 else a1
    split <;> omega
  · show Int.gcd (if a0 < 0 then -a0 else a0) (if a1 < 0 then -a1 else a1) = _
    rw [abs_ite, abs_ite]
    simp [Int.gcd]
  · rintro m ⟨(x : Int), (y : Int), u⟩ ⟨rfl, (hx : 0 ≤ x), (hy : 0 ≤ y), (hg : Int.gcd x y = Int.gcd a0 a1)⟩
    refine ⟨trivial, fun h => ?_, fun h => ?_⟩
    · have h0 : 0 < y := by simp at h; omega
      have e1 := Int.emod_lt_of_pos x h0
      have e2 := Int.emod_nonneg x (show y ≠ 0 by omega)
      refine ⟨h0, _, ?_, rfl, hy, e2, (gcd_step hx h0).trans hg⟩
      show (x % y).natAbs < y.natAbs
      omega
    · have h0 : y = 0 := by simpa using h
      subst h0
      have e : ((Int.gcd a0 a1 : Nat) : Int) = x := by
        rw [← hg]
        simp [Int.gcd]
        omega
      rw [e] at hw
      exact hw
@[reducible] def C_multiple : Ctr := ⟨[.im tInt, .im tInt], tInt, fun a Q E => (fun (a0 : Int) (a1 : Int) => (0 < a0 ∧ a0 < 2 ^ 64 ∧ 0 < a1 ∧ a1 < 2 ^ 20) ∧ Q (a0 / ((Int.gcd a0 a1 : Nat) : Int) * a1) ((), (), ())) a.1 a.2.1⟩
theorem sc_multiple : FnScope ["one", "other"] ["one", "other"] (defScope s_multiple) := ⟨rfl, rfl, rfl, by decide +kernel, rfl, by decide +kernel, by decide +kernel⟩
theorem ok_multiple {f : Addr} {fd : FuncData} (F : Fun K "multiple" "multiple" s_multiple f fd) (Z : Bt mg) (D_divisor : Df P w K mg base TB "divisor" 1 ["one", "other"] C_divisor) : FnOk P w K mg base (L2.CX P w) 2 f fd ["one", "other"] (C_multiple.sp K TB) := by
  refine fn_ty (C := C_multiple) 0 F sc_multiple rfl rfl fun cdv A outer s H vs E hr hv => ?_
  obtain ⟨v0, v1, rfl⟩ : ∃ v0 v1, vs = [v0, v1] := by
    match vs, hv with
    | [v0, v1], _ => exact ⟨v0, v1, rfl⟩
  refine ⟨[], _, (ss_one (sx_ret (out_im (out_im out_nil)) (ex_bin o_mulA (ex_bin o_fdivW (ex_var (t := tInt) 0) (ex_call D_divisor (hr.mono (by decide)) (takes_of rfl rfl rfl rfl) (pa_cons (ex_var (t := tInt) 0) (pa_cons (ex_var (t := tInt) 1) pa_nil)) (cj_val (cj_val cj_nil))) (cj_val (cj_val cj_nil))) (ex_var (t := tInt) 1) (cj_val (cj_val cj_nil))))), ?_⟩
  rintro ⟨(a0 : Int), (a1 : Int), au⟩ Q E hw
  dsimp only [TY.wGuard, TY.wSeq, TY.wPar, TY.wCons, TY.wNil, TY.wApp, TY.wPure, TY.wMv, TY.wWhile, TY.wFor, TY.wTru, TY.wRet, TY.wRetN, TY.wSkip, TY.wSet, TY.wAsg, TY.wIf, TY.wName, TY.wDrop, TY.wBrk, TY.wCnt, TY.wNever, TY.wClr, TY.wPre, TY.wGs, TY.wGs0, TY.wLc, TY.wGen, TY.wOut, TY.wOutA, TY.wPrm, TY.wAug, TY.wCv, TY.wB, TY.wAnd, TY.wOr, TY.wNot, TY.wIfE, TY.wMap, TY.wRng1, TY.wRng2, TY.wSgn, TY.wSome, enR, enN, ini, iniv, none_s, none_v, Cy.set_, Cy.at_, TY.get, TY.put, pbk, cstr, cst, cj_val, cj_tmp, cj_bor, cj_borA, cj_nil, out_im, out_mu, out_nil, pc1, pc2, pm1, pm2, pmm, cI, cIg, cIb, cSb, cS3, prm_id, prm_swap, prm_skip, prm_trans, clr_nil, clr_one, hv, hl_, kv, kr, prj, tyOf, HT2, cv_id, cv_non, cv_someI, cv_someS, cv_someT, cv_dN, cv_dB, cv_dI, cv_dS, cv_dT, cv_dP, cvs_nil, cvs_cons, tAt, tIs, Pm.ty, Ctr.ps, Ctr.r, Ctr.w, tru_I, tru_Ig, tru_S, tru_Sg, tru_T, tru_Tg, tru_L, tru_Lg, C_divisor, C_multiple] at hw ⊢
  obtain ⟨⟨h1, h2, h3, h4⟩, hw⟩ := hw
  have g1 := gcd_pos (a := a0) h3
  have g2 := gcd_le (a := a0) h3
  exact ⟨cdivW g1 (by omega), .inl (.inr ⟨by omega, by omega⟩), hw⟩
@[reducible] def C_rounded_by : Ctr := ⟨[.im tS, .im tInt, .im tInt], tInt, fun a Q E => (fun (a0 : List Nat) (a1 : Int) (a2 : Int) => (0 < a2 ∧ a2 < 2 ^ 99) ∧ Q (rnd a0 a1 a2) ((), (), (), ())) a.1 a.2.1 a.2.2.1⟩
theorem sc_rounded_by : FnScope ["rule", "above", "below"] ["rule", "above", "below"] (defScope s_rounded_by) := ⟨rfl, rfl, rfl, by decide +kernel, rfl, by decide +kernel, by decide +kernel⟩
theorem ok_rounded_by {f : Addr} {fd : FuncData} (F : Fun K "rounded_by" "rounded_by" s_rounded_by f fd) (Z : Bt mg)  : FnOk P w K mg base (L2.CX P w) 1 f fd ["rule", "above", "below"] (C_rounded_by.sp K TB) := by
  refine fn_ty (C := C_rounded_by) 0 F sc_rounded_by rfl rfl fun cdv A outer s H vs E hr hv => ?_
  obtain ⟨v0, v1, v2, rfl⟩ : ∃ v0 v1 v2, vs = [v0, v1, v2] := by
    match vs, hv with
    | [v0, v1, v2], _ => exact ⟨v0, v1, v2, rfl⟩
  refine ⟨[], _, (ss_cons (Γ1 := [some tS, some tInt, some tInt]) (sx_if (tx_cmp o_eqS (ex_var (t := tS) 0) (ex_str [100, 111, 119, 110]) (cj_val (cj_val cj_nil)))
    (ss_one (sx_ret (out_im (out_im (out_im out_nil))) (ex_bin o_fdivW (ex_var (t := tInt) 1) (ex_var (t := tInt) 2) (cj_val (cj_val cj_nil)))))
    ss_nil)
    (ss_cons (Γ1 := [some tS, some tInt, some tInt]) (sx_if (tx_cmp o_eqS (ex_var (t := tS) 0) (ex_str [117, 112]) (cj_val (cj_val cj_nil)))
    (ss_one (sx_ret (out_im (out_im (out_im out_nil))) (ex_neg (ex_bin o_fdivW (ex_neg (ex_var (t := tInt) 1)) (ex_var (t := tInt) 2) (cj_val (cj_val cj_nil))))))
    ss_nil)
    (ss_cons (Γ1 := [some tS, some tInt, some tInt]) (sx_if (tx_cmp o_eqS (ex_var (t := tS) 0) (ex_str [110, 101, 97, 114]) (cj_val (cj_val cj_nil)))
    (ss_one (sx_ret (out_im (out_im (out_im out_nil))) (ex_bin o_fdivW (ex_bin o_addI (ex_bin o_mulA ex_int (ex_var (t := tInt) 1) (cj_val (cj_val cj_nil))) (ex_var (t := tInt) 2) (cj_val (cj_val cj_nil))) (ex_bin o_mulA ex_int (ex_var (t := tInt) 2) (cj_val (cj_val cj_nil))) (cj_val (cj_val cj_nil)))))
    ss_nil)
    (ss_one (sx_ret (out_im (out_im (out_im out_nil))) (ex_neg (ex_bin o_fdivW (ex_bin o_subI (ex_var (t := tInt) 2) (ex_bin o_mulA ex_int (ex_var (t := tInt) 1) (cj_val (cj_val cj_nil))) (cj_val (cj_val cj_nil))) (ex_bin o_mulA ex_int (ex_var (t := tInt) 2) (cj_val (cj_val cj_nil))) (cj_val (cj_val cj_nil))))))))), ?_⟩
  rintro ⟨(a0 : List Nat), (a1 : Int), (a2 : Int), au⟩ Q E hw
  dsimp only [TY.wGuard, TY.wSeq, TY.wPar, TY.wCons, TY.wNil, TY.wApp, TY.wPure, TY.wMv, TY.wWhile, TY.wFor, TY.wTru, TY.wRet, TY.wRetN, TY.wSkip, TY.wSet, TY.wAsg, TY.wIf, TY.wName, TY.wDrop, TY.wBrk, TY.wCnt, TY.wNever, TY.wClr, TY.wPre, TY.wGs, TY.wGs0, TY.wLc, TY.wGen, TY.wOut, TY.wOutA, TY.wPrm, TY.wAug, TY.wCv, TY.wB, TY.wAnd, TY.wOr, TY.wNot, TY.wIfE, TY.wMap, TY.wRng1, TY.wRng2, TY.wSgn, TY.wSome, enR, enN, ini, iniv, none_s, none_v, Cy.set_, Cy.at_, TY.get, TY.put, pbk, cstr, cst, cj_val, cj_tmp, cj_bor, cj_borA, cj_nil, out_im, out_mu, out_nil, pc1, pc2, pm1, pm2, pmm, cI, cIg, cIb, cSb, cS3, prm_id, prm_swap, prm_skip, prm_trans, clr_nil, clr_one, hv, hl_, kv, kr, prj, tyOf, HT2, cv_id, cv_non, cv_someI, cv_someS, cv_someT, cv_dN, cv_dB, cv_dI, cv_dS, cv_dT, cv_dP, cvs_nil, cvs_cons, tAt, tIs, Pm.ty, Ctr.ps, Ctr.r, Ctr.w, tru_I, tru_Ig, tru_S, tru_Sg, tru_T, tru_Tg, tru_L, tru_Lg, C_rounded_by] at hw ⊢
  obtain ⟨⟨h1, h2⟩, hw⟩ := hw
  have c1 := cdivW (i := a1) h1 (by omega)
  have c2 : ∀ x : Int, CDivW x (2 * a2) := fun x => cdivW (by omega) (by omega)
  have c3 := cdivW (i := -a1) h1 (by omega)
  refine ⟨fun h => ⟨c1, ?_⟩, fun h => ⟨fun k => ⟨c3, ?_⟩, fun k => ⟨fun l => ⟨cmul2 _, cmul2 _, c2 _, ?_⟩, fun l => ⟨cmul2 _, cmul2 _, c2 _, ?_⟩⟩⟩⟩
  · rw [rnd, if_pos (of_decide_eq_true h)] at hw; exact hw
  · rw [rnd, if_neg (of_decide_eq_false h), if_pos (of_decide_eq_true k)] at hw; exact hw
  · rw [rnd, if_neg (of_decide_eq_false h), if_neg (of_decide_eq_false k), if_pos (of_decide_eq_true l)] at hw; exact hw
  · rw [rnd, if_neg (of_decide_eq_false h), if_neg (of_decide_eq_false k), if_neg (of_decide_eq_false l)] at hw; exact hw
@[reducible] def C_whole_taps : Ctr := ⟨[.im (tTup (tTpl [tInt, tInt]))], (tTpl [tInt, (tList tInt)]), fun a Q E => (fun (a0 : List ((Int) × (Int) × Unit)) => TapsOk a0 ∧ ∀ b : Int, 0 < b → b < 2 ^ 61 → (∀ p ∈ a0, p.2.1 ∣ b) → (∀ x ∈ whole a0 b, -(2 ^ 61) < x ∧ x < 2 ^ 61) → Q (b, whole a0 b, ()) ((), ())) a.1⟩
theorem sc_whole_taps : FnScope ["taps", "below", "above", "under"] ["taps"] (defScope s_whole_taps) := ⟨rfl, rfl, rfl, by decide +kernel, rfl, by decide +kernel, by decide +kernel⟩
theorem ok_whole_taps {f : Addr} {fd : FuncData} (F : Fun K "whole_taps" "whole_taps" s_whole_taps f fd) (Z : Bt mg) (D_multiple : Df P w K mg base TB "multiple" 2 ["one", "other"] C_multiple) : FnOk P w K mg base (L2.CX P w) 3 f fd ["taps"] (C_whole_taps.sp K TB) := by
  refine fn_ty (C := C_whole_taps) 3 F sc_whole_taps rfl rfl fun cdv A outer s H vs E hr hv => ?_
  obtain ⟨v0, rfl⟩ : ∃ v0, vs = [v0] := by
    match vs, hv with
    | [v0], _ => exact ⟨v0, rfl⟩
  refine ⟨[], _, (ss_cons (Γ1 := [some (tTup (tTpl [tInt, tInt])), some tInt, none, none]) (sx_set 1 sc_whole_taps.nd ex_int)
    (ss_cons (Γ1 := [some (tTup (tTpl [tInt, tInt])), some tInt, none, none]) (sx_for (te := (tTpl [tInt, tInt])) (passes_of rfl) rfl (ix_tup_ (ex_var (t := (tTup (tTpl [tInt, tInt]))) 0)) (gx_tup rfl (gy_cons (gx_name 2 sc_whole_taps.nd) (gy_cons (gx_name 3 sc_whole_taps.nd) gy_nil)))
    (ss_clr 3 (ss_clr 2 (ss_one (sx_set 1 sc_whole_taps.nd (ex_call D_multiple (hr.mono (by decide)) (takes_of rfl rfl rfl rfl) (pa_cons (ex_var (t := tInt) 1) (pa_cons (ex_var (t := tInt) 3) pa_nil)) (cj_val (cj_val cj_nil))))))))
    (ss_one (sx_ret (out_im out_nil) (ex_tup [tInt, (tList tInt)] (pa_cons (ex_var (t := tInt) 1) (pa_cons (ex_lc (te := (tTpl [tInt, tInt])) (tr := tInt) [("above", 2), ("under", 3)] rfl sc_whole_taps.nd (iy_of (ix_tup_ (ex_var (t := (tTup (tTpl [tInt, tInt]))) 0))) (blkOk_by (N := ["taps", "below", "above", "under"]) (sc := defScope s_whole_taps) (by decide +kernel)) (fun _ _ _ _ _ => (gx_tup rfl (gy_cons (gx_name 2 sc_whole_taps.nd) (gy_cons (gx_name 3 sc_whole_taps.nd) gy_nil)))) (fun _ _ _ _ _ => txs_nil) (fun _ _ _ _ _ => (ex_bin o_mulA (ex_var (t := tInt) 2) (ex_bin o_fdivW (ex_var (t := tInt) 1) (ex_var (t := tInt) 3) (cj_val (cj_val cj_nil))) (cj_val (cj_val cj_nil)))) (clr_one 2 (clr_one 3 clr_nil))) pa_nil))))))), ?_⟩
  rintro ⟨(a0 : List ((Int) × (Int) × Unit)), au⟩ Q E hw
  dsimp only [TY.wGuard, TY.wSeq, TY.wPar, TY.wCons, TY.wNil, TY.wApp, TY.wPure, TY.wMv, TY.wWhile, TY.wFor, TY.wTru, TY.wRet, TY.wRetN, TY.wSkip, TY.wSet, TY.wAsg, TY.wIf, TY.wName, TY.wDrop, TY.wBrk, TY.wCnt, TY.wNever, TY.wClr, TY.wPre, TY.wGs, TY.wGs0, TY.wLc, TY.wGen, TY.wOut, TY.wOutA, TY.wPrm, TY.wAug, TY.wCv, TY.wB, TY.wAnd, TY.wOr, TY.wNot, TY.wIfE, TY.wMap, TY.wRng1, TY.wRng2, TY.wSgn, TY.wSome, enR, enN, ini, iniv, none_s, none_v, Cy.set_, Cy.at_, TY.get, TY.put, pbk, cstr, cst, cj_val, cj_tmp, cj_bor, cj_borA, cj_nil, out_im, out_mu, out_nil, pc1, pc2, pm1, pm2, pmm, cI, cIg, cIb, cSb, cS3, prm_id, prm_swap, prm_skip, prm_trans, clr_nil, clr_one, hv, hl_, kv, kr, prj, tyOf, HT2, cv_id, cv_non, cv_someI, cv_someS, cv_someT, cv_dN, cv_dB, cv_dI, cv_dS, cv_dT, cv_dP, cvs_nil, cvs_cons, tAt, tIs, Pm.ty, Ctr.ps, Ctr.r, Ctr.w, tru_I, tru_Ig, tru_S, tru_Sg, tru_T, tru_Tg, tru_L, tru_Lg, C_multiple, C_whole_taps] at hw ⊢
  obtain ⟨ok, hw⟩ := hw
  have hu : ∀ {i : Nat} {x : Frc}, a0[i]? = some x → 0 < x.2.1 ∧ x.2.1 < 1024 ∧ -1024 < x.1 ∧ x.1 < 1024 := fun h => ok.ok _ (List.mem_of_getElem? h)
  have hp : ∀ p ∈ a0, 0 < p.2.1 ∧ p.2.1 < 1024 := fun p h => ⟨(ok.ok p h).1, (ok.ok p h).2.1⟩
  refine ⟨fun i s => ∃ b : Int, s = (a0, b, (), (), ()) ∧ 0 < b ∧ b ∣ den (a0.take i) ∧ ∀ p ∈ a0.take i, p.2.1 ∣ b, ⟨1, rfl, by decide, Int.dvd_refl _, fun p h => by simp at h⟩, ?_, ?_⟩
  · rintro i x s hx ⟨b, rfl, hb, hd, hall⟩
    obtain ⟨u1, u2, _, _⟩ := hu hx
    obtain ⟨m1, m2, m3, m4⟩ := mult_ok hb u1
    have hk : ∀ p ∈ a0.take i, 0 < p.2.1 ∧ p.2.1 < 1024 := fun p h => hp p (List.mem_of_mem_take h)
    have hle : b ≤ 2 ^ 60 := Int.le_trans (Int.le_of_dvd (den_pos fun p h => (hk p h).1) hd) (Int.le_trans (den_le hk) (pow_le6 (by have := ok.len; rw [List.length_take]; omega)))
    refine ⟨⟨hb, ?_, u1, ?_⟩, _, rfl, m1, ?_, ?_⟩
    · show b < 2 ^ 64
      omega
    · omega
    · rw [take_snoc hx, den_snoc]
      exact Int.dvd_trans m4 (Int.mul_dvd_mul hd (Int.dvd_refl _))
    · rw [take_snoc hx]
      intro p hpm
      rcases List.mem_append.mp hpm with h | h
      · exact Int.dvd_trans (hall p h) m2
      · rw [List.mem_singleton.mp h]; exact m3
  · rintro s ⟨b, rfl, hb, hd, hall⟩
    rw [List.take_length] at hd hall
    obtain ⟨w1, w2⟩ := whole_bound ok hb hd
    refine ⟨by have := ok.len; exact Nat.le_trans this (by decide), fun i acc s => s = (a0, b, (), (), ()) ∧ acc = whole (a0.take i) b, ⟨rfl, rfl⟩, ?_, ?_⟩
    · rintro i x acc s hx ⟨rfl, rfl⟩
      obtain ⟨u1, u2, u3, u4⟩ := hu hx
      refine ⟨fun _ => ⟨cdivW u1 (by omega), .inl (.inl ⟨by omega, by omega⟩), rfl, ?_⟩, fun h => by cases h⟩
      rw [take_snoc hx, whole_snoc]
    · rintro acc s ⟨rfl, rfl⟩ _
      have e : a0.take (List.length (a0, b, (), (), ()).fst) = a0 := List.take_length
      rw [e]
      exact hw b hb w1 hall w2
@[reducible] def C_tapped : Ctr := ⟨[.mu (tList tInt), .mu (tList tInt)], tInt, fun a Q E => (fun (a0 : List (Int)) (a1 : List (Int)) => (a0.length ≤ a1.length ∧ ∀ x ∈ a0, -(2 ^ 61) < x ∧ x < 2 ^ 61) ∧ Q (dot a0 a1) (a0, a1, ())) a.1 a.2.1⟩
theorem sc_tapped : FnScope ["numbers", "before", "at", "tap"] ["numbers", "before"] (defScope s_tapped) := ⟨rfl, rfl, rfl, by decide +kernel, rfl, by decide +kernel, by decide +kernel⟩
theorem ok_tapped {f : Addr} {fd : FuncData} {c Pt : Addr} (F : FunT K "tapped" "tapped" s_tapped f fd c) (tab : GxR.TabB base mg c Pt) (hTB : TB Pt) (Z : Bt mg)  : FnOk P w K mg base (L2.CX P w) 2 f fd ["numbers", "before"] (C_tapped.sp K TB) := by
  refine fn_tyT (C := C_tapped) 2 F sc_tapped rfl rfl fun cdv A outer s H vs E hcd hr hv => ?_
  obtain ⟨v0, v1, rfl⟩ : ∃ v0 v1, vs = [v0, v1] := by
    match vs, hv with
    | [v0, v1], _ => exact ⟨v0, v1, rfl⟩
  refine ⟨[], _, (ss_one (sx_ret (out_mu (out_mu out_nil)) (ex_genS (X := cxOf (L2.CX P w) P w K mg base ["numbers", "before", "at", "tap"] "tapped" (defScope s_tapped) f cdv A outer s H E) (te := (tTpl [tInt, tInt])) (k := 0) [("at", 2), ("tap", 3)] hr sc_tapped.nd tab hTB hcd ⟨blkOk_by (N := ["numbers", "before", "at", "tap"]) (sc := defScope s_tapped) (by decide +kernel), rfl, by decide +kernel, by decide +kernel⟩ (iy_enmBA 0 Z.enumerate) Z.sum (by decide +kernel) (fun _ _ _ _ _ _ _ hrg => (gx_tup rfl (gy_cons (gx_name 2 sc_tapped.nd) (gy_cons (gx_name 3 sc_tapped.nd) gy_nil)))) (fun _ _ _ _ _ _ _ hrg => txs_nil) (fun _ _ _ _ _ _ _ hrg => (ex_bin o_mulA (ex_var (t := tInt) 3) (ex_ix x_lst (ex_bor 1) (ex_bin o_subI (ex_neg ex_int) (ex_var (t := tInt) 2) (cj_val (cj_val cj_nil))) (cj_borA 1 rfl (cj_val cj_nil))) (cj_val (cj_val cj_nil)))) (clr_one 2 (clr_one 3 clr_nil))))), ?_⟩
  rintro ⟨(a0 : List (Int)), (a1 : List (Int)), au⟩ Q E hw
  dsimp only [TY.wGuard, TY.wSeq, TY.wPar, TY.wCons, TY.wNil, TY.wApp, TY.wPure, TY.wMv, TY.wWhile, TY.wFor, TY.wTru, TY.wRet, TY.wRetN, TY.wSkip, TY.wSet, TY.wAsg, TY.wIf, TY.wName, TY.wDrop, TY.wBrk, TY.wCnt, TY.wNever, TY.wClr, TY.wPre, TY.wGs, TY.wGs0, TY.wLc, TY.wGen, TY.wOut, TY.wOutA, TY.wPrm, TY.wAug, TY.wCv, TY.wB, TY.wAnd, TY.wOr, TY.wNot, TY.wIfE, TY.wMap, TY.wRng1, TY.wRng2, TY.wSgn, TY.wSome, enR, enN, ini, iniv, none_s, none_v, Cy.set_, Cy.at_, TY.get, TY.put, pbk, cstr, cst, cj_val, cj_tmp, cj_bor, cj_borA, cj_nil, out_im, out_mu, out_nil, pc1, pc2, pm1, pm2, pmm, cI, cIg, cIb, cSb, cS3, prm_id, prm_swap, prm_skip, prm_trans, clr_nil, clr_one, hv, hl_, kv, kr, prj, tyOf, HT2, cv_id, cv_non, cv_someI, cv_someS, cv_someT, cv_dN, cv_dB, cv_dI, cv_dS, cv_dT, cv_dP, cvs_nil, cvs_cons, tAt, tIs, Pm.ty, Ctr.ps, Ctr.r, Ctr.w, tru_I, tru_Ig, tru_S, tru_Sg, tru_T, tru_Tg, tru_L, tru_Lg, C_tapped] at hw ⊢
  obtain ⟨⟨hl, hb⟩, hw⟩ := hw
  have hz : (List.zipWith (fun x y => x * y) a0 a1.reverse).length = a0.length := by simp; omega
  refine ⟨List.zipWith (fun x y => x * y) a0 a1.reverse, fun i j s => i = j ∧ i ≤ a0.length ∧ s = ((), a1, (), (), ()), ⟨rfl, Nat.zero_le _, rfl⟩, ?_, ?_, ?_, ?_⟩
  · rintro i j x s hx ⟨rfl, hi, rfl⟩
    obtain ⟨h1, h2⟩ := enm_get hx
    have hlt := (List.getElem?_eq_some_iff.mp h2).1
    refine ⟨fun _ => ?_, fun h => by cases h⟩
    obtain ⟨y, hy⟩ : ∃ y, a1.reverse[i]? = some y := ⟨a1.reverse[i]'(by simp; omega), by simp [show i < a1.length by omega]⟩
    obtain ⟨b1, b2⟩ := hb _ (List.mem_of_getElem? h2)
    refine ⟨y, ?_, .inl (.inl ⟨by omega, by omega⟩), ?_, rfl, by omega, rfl⟩
    · rw [h1, atI_back (by show i < a1.length; omega)]; exact hy
    · rw [List.getElem?_zipWith, h2, hy]
  · rintro j s ⟨h1, h2, rfl⟩
    rw [← h1, enm_len, hz]
  · rintro i j s ⟨h1, h2, rfl⟩
    rw [hz]; omega
  · rintro i j s hj ⟨h1, h2, rfl⟩
    exact hw
@[reducible] def C_errors_of : Ctr := ⟨[.im (tTpl [(tTup (tTpl [tInt, tInt])), tS]), .im (tTup tInt), .im (tTup tInt)], (tTup tInt), fun a Q E => (fun (a0 : (List ((Int) × (Int) × Unit)) × (List Nat) × Unit) (a1 : List (Int)) (a2 : List (Int)) => (TapsOk a0.1 ∧ a0.1.length ≤ a1.length ∧ a1.length + a2.length ≤ 1000) ∧ Q (errsG (guess a0.1 a0.2.1) a1 a2) ((), (), (), ())) a.1 a.2.1 a.2.2.1⟩
theorem sc_errors_of : FnScope ["predictor", "past", "numbers", "taps", "rule", "below", "whole", "row", "found", "number"] ["predictor", "past", "numbers"] (defScope s_errors_of) := ⟨rfl, rfl, rfl, by decide +kernel, rfl, by decide +kernel, by decide +kernel⟩
theorem ok_errors_of {f : Addr} {fd : FuncData} (F : Fun K "errors_of" "errors_of" s_errors_of f fd) (Z : Bt mg) (D_whole_taps : Df P w K mg base TB "whole_taps" 3 ["taps"] C_whole_taps) (D_tapped : Df P w K mg base TB "tapped" 2 ["numbers", "before"] C_tapped) (D_rounded_by : Df P w K mg base TB "rounded_by" 1 ["rule", "above", "below"] C_rounded_by) : FnOk P w K mg base (L2.CX P w) 4 f fd ["predictor", "past", "numbers"] (C_errors_of.sp K TB) := by
  refine fn_ty (C := C_errors_of) 7 F sc_errors_of rfl rfl fun cdv A outer s H vs E hr hv => ?_
  obtain ⟨v0, v1, v2, rfl⟩ : ∃ v0 v1 v2, vs = [v0, v1, v2] := by
    match vs, hv with
    | [v0, v1, v2], _ => exact ⟨v0, v1, v2, rfl⟩
  refine ⟨[], _, (ss_cons (Γ1 := [some (tTpl [(tTup (tTpl [tInt, tInt])), tS]), some (tTup tInt), some (tTup tInt), some (tTup (tTpl [tInt, tInt])), some tS, none, none, none, none, none]) (sx_asg (ex_var (t := (tTpl [(tTup (tTpl [tInt, tInt])), tS])) 0) (gx_tup rfl (gy_cons (gx_name 3 sc_errors_of.nd) (gy_cons (gx_name 4 sc_errors_of.nd) gy_nil))))
    (ss_cons (Γ1 := [some (tTpl [(tTup (tTpl [tInt, tInt])), tS]), some (tTup tInt), some (tTup tInt), some (tTup (tTpl [tInt, tInt])), some tS, some tInt, some (tList tInt), none, none, none]) (sx_asg (ex_call D_whole_taps (hr.mono (by decide)) (takes_of rfl rfl rfl rfl) (pa_cons (ex_var (t := (tTup (tTpl [tInt, tInt]))) 3) pa_nil) (cj_val cj_nil)) (gx_tup rfl (gy_cons (gx_name 5 sc_errors_of.nd) (gy_cons (gx_name 6 sc_errors_of.nd) gy_nil))))
    (ss_cons (Γ1 := [some (tTpl [(tTup (tTpl [tInt, tInt])), tS]), some (tTup tInt), some (tTup tInt), some (tTup (tTpl [tInt, tInt])), some tS, some tInt, some (tList tInt), some (tList tInt), none, none]) (sx_set 7 sc_errors_of.nd (ex_callTy c_listT Z.list (by decide +kernel) (pa_cons (ex_var (t := (tTup tInt)) 1) pa_nil) (cj_val cj_nil)))
    (ss_cons (Γ1 := [some (tTpl [(tTup (tTpl [tInt, tInt])), tS]), some (tTup tInt), some (tTup tInt), some (tTup (tTpl [tInt, tInt])), some tS, some tInt, some (tList tInt), some (tList tInt), some (tList tInt), none]) (sx_set 8 sc_errors_of.nd (ex_list tInt 0 pa_nil))
    (ss_cons (Γ1 := [some (tTpl [(tTup (tTpl [tInt, tInt])), tS]), some (tTup tInt), some (tTup tInt), some (tTup (tTpl [tInt, tInt])), some tS, some tInt, some (tList tInt), some (tList tInt), some (tList tInt), none]) (sx_for (te := tInt) (passes_of rfl) rfl (ix_tup_ (ex_var (t := (tTup tInt)) 2)) (gx_name 9 sc_errors_of.nd)
    (ss_clr 9 (ss_cons (Γ1 := [some (tTpl [(tTup (tTpl [tInt, tInt])), tS]), some (tTup tInt), some (tTup tInt), some (tTup (tTpl [tInt, tInt])), some tS, some tInt, some (tList tInt), some (tList tInt), some (tList tInt), some tInt]) (sx_expr (ex_meth m_append PySem.F.plainAttrs_list PySem.F.slot_list_append PySem.F.type_list_append (ex_bor 8) (pa_cons (ex_bin o_subI (ex_var (t := tInt) 9) (ex_call D_rounded_by (hr.mono (by decide)) (takes_of rfl rfl rfl rfl) (pa_cons (ex_var (t := tS) 4) (pa_cons (ex_call D_tapped (hr.mono (by decide)) (takes_of rfl rfl rfl rfl) (pa_cons (ex_bor 6) (pa_cons (ex_bor 7) pa_nil)) (cj_bor 6 rfl (cj_bor 7 rfl cj_nil))) (pa_cons (ex_var (t := tInt) 5) pa_nil))) (cj_val (cj_val (cj_val cj_nil)))) (cj_val (cj_val cj_nil))) pa_nil) (cj_bor 8 rfl (cj_val cj_nil)) (fun h sr => ty_lst (i := 8) rfl h sr)))
    (ss_one (sx_expr (ex_meth m_append PySem.F.plainAttrs_list PySem.F.slot_list_append PySem.F.type_list_append (ex_bor 7) (pa_cons (ex_var (t := tInt) 9) pa_nil) (cj_bor 7 rfl (cj_val cj_nil)) (fun h sr => ty_lst (i := 7) rfl h sr)))))))
    (ss_one (sx_ret (out_im (out_im (out_im out_nil))) (ex_callTy c_tupL Z.tuple (by decide +kernel) (pa_cons (ex_bor 8) pa_nil) (cj_bor 8 rfl cj_nil))))))))), ?_⟩
  rintro ⟨(a0 : (List ((Int) × (Int) × Unit)) × (List Nat) × Unit), (a1 : List (Int)), (a2 : List (Int)), au⟩ Q E hw
  dsimp only [TY.wGuard, TY.wSeq, TY.wPar, TY.wCons, TY.wNil, TY.wApp, TY.wPure, TY.wMv, TY.wWhile, TY.wFor, TY.wTru, TY.wRet, TY.wRetN, TY.wSkip, TY.wSet, TY.wAsg, TY.wIf, TY.wName, TY.wDrop, TY.wBrk, TY.wCnt, TY.wNever, TY.wClr, TY.wPre, TY.wGs, TY.wGs0, TY.wLc, TY.wGen, TY.wOut, TY.wOutA, TY.wPrm, TY.wAug, TY.wCv, TY.wB, TY.wAnd, TY.wOr, TY.wNot, TY.wIfE, TY.wMap, TY.wRng1, TY.wRng2, TY.wSgn, TY.wSome, enR, enN, ini, iniv, none_s, none_v, Cy.set_, Cy.at_, TY.get, TY.put, pbk, cstr, cst, cj_val, cj_tmp, cj_bor, cj_borA, cj_nil, out_im, out_mu, out_nil, pc1, pc2, pm1, pm2, pmm, cI, cIg, cIb, cSb, cS3, prm_id, prm_swap, prm_skip, prm_trans, clr_nil, clr_one, hv, hl_, kv, kr, prj, tyOf, HT2, cv_id, cv_non, cv_someI, cv_someS, cv_someT, cv_dN, cv_dB, cv_dI, cv_dS, cv_dT, cv_dP, cvs_nil, cvs_cons, tAt, tIs, Pm.ty, Ctr.ps, Ctr.r, Ctr.w, tru_I, tru_Ig, tru_S, tru_Sg, tru_T, tru_Tg, tru_L, tru_Lg, C_whole_taps, C_tapped, C_rounded_by, C_errors_of] at hw ⊢
  obtain ⟨⟨ok, hl, hn⟩, hw⟩ := hw
  refine ⟨ok, fun b hb hb2 hd hws => ?_⟩
  have hln : (whole a0.1 b).length = a0.1.length := by simp [whole]
  refine ⟨fun i s => s = (a0, a1, a2, a0.1, a0.2.1, b, whole a0.1 b, a1 ++ a2.take i, errsG (guess a0.1 a0.2.1) a1 (a2.take i), (), ()), ?_, ?_, ?_⟩
  · show _ = (_, _, _, _, _, _, _, a1 ++ [], [], _, _)
    rw [List.append_nil]
  · rintro i x s hx rfl
    have hi := (List.getElem?_eq_some_iff.mp hx).1
    have h3 : sizeLine = 16777216 := rfl
    have h4 : (a2.take i).length = i := by rw [List.length_take]; omega
    refine ⟨⟨?_, hws⟩, ⟨hb, show b < 2 ^ 99 by omega⟩, ?_, ?_, ?_⟩
    · show (whole a0.1 b).length ≤ (a1 ++ a2.take i).length
      rw [hln, List.length_append]; omega
    · show (errsG _ a1 (a2.take i)).length < sizeLine
      rw [errsG_len]; omega
    · show (a1 ++ a2.take i).length < sizeLine
      rw [List.length_append]; omega
    · show (_, _, _, _, _, _, _, (a1 ++ a2.take i) ++ [x], errsG _ a1 (a2.take i) ++ [x - rnd a0.2.1 (dot (whole a0.1 b) (a1 ++ a2.take i)) b], _, _) = _
      rw [guess_eq ok hb hd, take_snoc hx, errs_snoc, List.append_assoc]
  · rintro s rfl
    show Q (errsG _ a1 (a2.take a2.length)) _
    rw [List.take_length]
    exact hw
@[reducible] def C_read_back : Ctr := ⟨[.im (tTpl [(tTup (tTpl [tInt, tInt])), tS]), .im (tTup tInt), .im (tTup tInt)], (tTup tInt), fun a Q E => (fun (a0 : (List ((Int) × (Int) × Unit)) × (List Nat) × Unit) (a1 : List (Int)) (a2 : List (Int)) => (TapsOk a0.1 ∧ a0.1.length ≤ a1.length ∧ a1.length + a2.length ≤ 1000) ∧ Q (readG (guess a0.1 a0.2.1) a1 a2) ((), (), (), ())) a.1 a.2.1 a.2.2.1⟩
theorem sc_read_back : FnScope ["predictor", "past", "errors", "taps", "rule", "below", "whole", "row", "error"] ["predictor", "past", "errors"] (defScope s_read_back) := ⟨rfl, rfl, rfl, by decide +kernel, rfl, by decide +kernel, by decide +kernel⟩
theorem ok_read_back {f : Addr} {fd : FuncData} (F : Fun K "read_back" "read_back" s_read_back f fd) (Z : Bt mg) (D_whole_taps : Df P w K mg base TB "whole_taps" 3 ["taps"] C_whole_taps) (D_tapped : Df P w K mg base TB "tapped" 2 ["numbers", "before"] C_tapped) (D_rounded_by : Df P w K mg base TB "rounded_by" 1 ["rule", "above", "below"] C_rounded_by) : FnOk P w K mg base (L2.CX P w) 4 f fd ["predictor", "past", "errors"] (C_read_back.sp K TB) := by
  refine fn_ty (C := C_read_back) 6 F sc_read_back rfl rfl fun cdv A outer s H vs E hr hv => ?_
  obtain ⟨v0, v1, v2, rfl⟩ : ∃ v0 v1 v2, vs = [v0, v1, v2] := by
    match vs, hv with
    | [v0, v1, v2], _ => exact ⟨v0, v1, v2, rfl⟩
  refine ⟨[], _, (ss_cons (Γ1 := [some (tTpl [(tTup (tTpl [tInt, tInt])), tS]), some (tTup tInt), some (tTup tInt), some (tTup (tTpl [tInt, tInt])), some tS, none, none, none, none]) (sx_asg (ex_var (t := (tTpl [(tTup (tTpl [tInt, tInt])), tS])) 0) (gx_tup rfl (gy_cons (gx_name 3 sc_read_back.nd) (gy_cons (gx_name 4 sc_read_back.nd) gy_nil))))
    (ss_cons (Γ1 := [some (tTpl [(tTup (tTpl [tInt, tInt])), tS]), some (tTup tInt), some (tTup tInt), some (tTup (tTpl [tInt, tInt])), some tS, some tInt, some (tList tInt), none, none]) (sx_asg (ex_call D_whole_taps (hr.mono (by decide)) (takes_of rfl rfl rfl rfl) (pa_cons (ex_var (t := (tTup (tTpl [tInt, tInt]))) 3) pa_nil) (cj_val cj_nil)) (gx_tup rfl (gy_cons (gx_name 5 sc_read_back.nd) (gy_cons (gx_name 6 sc_read_back.nd) gy_nil))))
    (ss_cons (Γ1 := [some (tTpl [(tTup (tTpl [tInt, tInt])), tS]), some (tTup tInt), some (tTup tInt), some (tTup (tTpl [tInt, tInt])), some tS, some tInt, some (tList tInt), some (tList tInt), none]) (sx_set 7 sc_read_back.nd (ex_callTy c_listT Z.list (by decide +kernel) (pa_cons (ex_var (t := (tTup tInt)) 1) pa_nil) (cj_val cj_nil)))
    (ss_cons (Γ1 := [some (tTpl [(tTup (tTpl [tInt, tInt])), tS]), some (tTup tInt), some (tTup tInt), some (tTup (tTpl [tInt, tInt])), some tS, some tInt, some (tList tInt), some (tList tInt), none]) (sx_for (te := tInt) (passes_of rfl) rfl (ix_tup_ (ex_var (t := (tTup tInt)) 2)) (gx_name 8 sc_read_back.nd)
    (ss_clr 8 (ss_one (sx_expr (ex_meth m_append PySem.F.plainAttrs_list PySem.F.slot_list_append PySem.F.type_list_append (ex_bor 7) (pa_cons (ex_bin o_addI (ex_var (t := tInt) 8) (ex_call D_rounded_by (hr.mono (by decide)) (takes_of rfl rfl rfl rfl) (pa_cons (ex_var (t := tS) 4) (pa_cons (ex_call D_tapped (hr.mono (by decide)) (takes_of rfl rfl rfl rfl) (pa_cons (ex_bor 6) (pa_cons (ex_bor 7) pa_nil)) (cj_bor 6 rfl (cj_bor 7 rfl cj_nil))) (pa_cons (ex_var (t := tInt) 5) pa_nil))) (cj_val (cj_val (cj_val cj_nil)))) (cj_val (cj_val cj_nil))) pa_nil) (cj_bor 7 rfl (cj_val cj_nil)) (fun h sr => ty_lst (i := 7) rfl h sr))))))
    (ss_one (sx_ret (out_im (out_im (out_im out_nil))) (ex_callTy c_tupL Z.tuple (by decide +kernel) (pa_cons (ex_slice s_lst (ex_bor 7) (ox_some (ex_callB c_lenT Z.len (by decide +kernel) (pa_cons (ex_var (t := (tTup tInt)) 1) pa_nil) (cj_val cj_nil))) ox_none (cj_bor 7 rfl (cj_val (cj_val cj_nil)))) pa_nil) (cj_tmp cj_nil)))))))), ?_⟩
  rintro ⟨(a0 : (List ((Int) × (Int) × Unit)) × (List Nat) × Unit), (a1 : List (Int)), (a2 : List (Int)), au⟩ Q E hw
  dsimp only [TY.wGuard, TY.wSeq, TY.wPar, TY.wCons, TY.wNil, TY.wApp, TY.wPure, TY.wMv, TY.wWhile, TY.wFor, TY.wTru, TY.wRet, TY.wRetN, TY.wSkip, TY.wSet, TY.wAsg, TY.wIf, TY.wName, TY.wDrop, TY.wBrk, TY.wCnt, TY.wNever, TY.wClr, TY.wPre, TY.wGs, TY.wGs0, TY.wLc, TY.wGen, TY.wOut, TY.wOutA, TY.wPrm, TY.wAug, TY.wCv, TY.wB, TY.wAnd, TY.wOr, TY.wNot, TY.wIfE, TY.wMap, TY.wRng1, TY.wRng2, TY.wSgn, TY.wSome, enR, enN, ini, iniv, none_s, none_v, Cy.set_, Cy.at_, TY.get, TY.put, pbk, cstr, cst, cj_val, cj_tmp, cj_bor, cj_borA, cj_nil, out_im, out_mu, out_nil, pc1, pc2, pm1, pm2, pmm, cI, cIg, cIb, cSb, cS3, prm_id, prm_swap, prm_skip, prm_trans, clr_nil, clr_one, hv, hl_, kv, kr, prj, tyOf, HT2, cv_id, cv_non, cv_someI, cv_someS, cv_someT, cv_dN, cv_dB, cv_dI, cv_dS, cv_dT, cv_dP, cvs_nil, cvs_cons, tAt, tIs, Pm.ty, Ctr.ps, Ctr.r, Ctr.w, tru_I, tru_Ig, tru_S, tru_Sg, tru_T, tru_Tg, tru_L, tru_Lg, C_whole_taps, C_tapped, C_rounded_by, C_read_back] at hw ⊢
  obtain ⟨⟨ok, hl, hn⟩, hw⟩ := hw
  refine ⟨ok, fun b hb hb2 hd hws => ?_⟩
  have hln : (whole a0.1 b).length = a0.1.length := by simp [whole]
  refine ⟨fun i s => s = (a0, a1, a2, a0.1, a0.2.1, b, whole a0.1 b, a1 ++ readG (guess a0.1 a0.2.1) a1 (a2.take i), (), ()), ?_, ?_, ?_⟩
  · show _ = (_, _, _, _, _, _, _, a1 ++ [], _, _)
    rw [List.append_nil]
  · rintro i x s hx rfl
    have hi := (List.getElem?_eq_some_iff.mp hx).1
    have h3 : sizeLine = 16777216 := rfl
    have h4 : (a2.take i).length = i := by rw [List.length_take]; omega
    refine ⟨⟨?_, hws⟩, ⟨hb, show b < 2 ^ 99 by omega⟩, ?_, ?_⟩
    · show (whole a0.1 b).length ≤ (a1 ++ readG _ a1 (a2.take i)).length
      rw [hln, List.length_append]; omega
    · show (a1 ++ readG _ a1 (a2.take i)).length < sizeLine
      rw [List.length_append, readG_len]; omega
    · show (_, _, _, _, _, _, _, (a1 ++ readG _ a1 (a2.take i)) ++ [x + rnd a0.2.1 (dot (whole a0.1 b) (a1 ++ readG _ a1 (a2.take i))) b], _, _) = _
      rw [guess_eq ok hb hd, take_snoc hx, read_snoc, List.append_assoc]
  · rintro s rfl
    show Q (cut (a1 ++ readG _ a1 (a2.take a2.length)) (some (a1.length : Int)) none) _
    rw [List.take_length, cut_from]
    exact hw
@[reducible] def C__law_mixed : Ctr := ⟨[.im tInt, .im tInt], tInt, fun a Q E => (fun (a0 : Int) (a1 : Int) => ∀ r : Int, 0 ≤ r → r < 998244353 → Q r ((), (), ())) a.1 a.2.1⟩
theorem sc__law_mixed : FnScope ["cell", "trip", "one", "two"] ["cell", "trip"] (defScope s__law_mixed) := ⟨rfl, rfl, rfl, by decide +kernel, rfl, by decide +kernel, by decide +kernel⟩
theorem ok__law_mixed {f : Addr} {fd : FuncData} (F : Fun K "_law_mixed" "_law_mixed" s__law_mixed f fd) (Z : Bt mg)  : FnOk P w K mg base (L2.CX P w) 1 f fd ["cell", "trip"] (C__law_mixed.sp K TB) := by
  refine fn_ty (C := C__law_mixed) 2 F sc__law_mixed rfl rfl fun cdv A outer s H vs E hr hv => ?_
  obtain ⟨v0, v1, rfl⟩ : ∃ v0 v1, vs = [v0, v1] := by
    match vs, hv with
    | [v0, v1], _ => exact ⟨v0, v1, rfl⟩
  refine ⟨[], _, (ss_cons (Γ1 := [some tInt, some tInt, some tInt, none]) (sx_set 2 sc__law_mixed.nd (ex_bin o_modP (ex_callTy c_intI Z.int (by decide +kernel) (pa_cons (ex_bin o_addI (ex_bin o_addI (ex_bin o_mulA (ex_var (t := tInt) 0) ex_int (cj_val (cj_val cj_nil))) (ex_bin o_mulA (ex_var (t := tInt) 1) ex_int (cj_val (cj_val cj_nil))) (cj_val (cj_val cj_nil))) ex_int (cj_val (cj_val cj_nil))) pa_nil) (cj_val cj_nil)) ex_int (cj_val (cj_val cj_nil))))
    (ss_cons (Γ1 := [some tInt, some tInt, some tInt, some tInt]) (sx_set 3 sc__law_mixed.nd (ex_bin o_modP (ex_callTy c_intI Z.int (by decide +kernel) (pa_cons (ex_bin o_addI (ex_bin o_addI (ex_bin o_mulA (ex_var (t := tInt) 2) (ex_var (t := tInt) 2) (cj_val (cj_val cj_nil))) (ex_bin o_mulA (ex_var (t := tInt) 1) ex_int (cj_val (cj_val cj_nil))) (cj_val (cj_val cj_nil))) (ex_bin o_fdivW (ex_var (t := tInt) 2) ex_int (cj_val (cj_val cj_nil))) (cj_val (cj_val cj_nil))) pa_nil) (cj_val cj_nil)) ex_int (cj_val (cj_val cj_nil))))
    (ss_one (sx_ret (out_im (out_im out_nil)) (ex_bin o_modP (ex_callTy c_intI Z.int (by decide +kernel) (pa_cons (ex_bin o_addI (ex_bin o_addI (ex_bin o_mulA (ex_var (t := tInt) 3) ex_int (cj_val (cj_val cj_nil))) (ex_bin o_fdivW (ex_var (t := tInt) 3) ex_int (cj_val (cj_val cj_nil))) (cj_val (cj_val cj_nil))) (ex_var (t := tInt) 1) (cj_val (cj_val cj_nil))) pa_nil) (cj_val cj_nil)) ex_int (cj_val (cj_val cj_nil))))))), ?_⟩
  rintro ⟨(a0 : Int), (a1 : Int), au⟩ Q E hw
  dsimp only [TY.wGuard, TY.wSeq, TY.wPar, TY.wCons, TY.wNil, TY.wApp, TY.wPure, TY.wMv, TY.wWhile, TY.wFor, TY.wTru, TY.wRet, TY.wRetN, TY.wSkip, TY.wSet, TY.wAsg, TY.wIf, TY.wName, TY.wDrop, TY.wBrk, TY.wCnt, TY.wNever, TY.wClr, TY.wPre, TY.wGs, TY.wGs0, TY.wLc, TY.wGen, TY.wOut, TY.wOutA, TY.wPrm, TY.wAug, TY.wCv, TY.wB, TY.wAnd, TY.wOr, TY.wNot, TY.wIfE, TY.wMap, TY.wRng1, TY.wRng2, TY.wSgn, TY.wSome, enR, enN, ini, iniv, none_s, none_v, Cy.set_, Cy.at_, TY.get, TY.put, pbk, cstr, cst, cj_val, cj_tmp, cj_bor, cj_borA, cj_nil, out_im, out_mu, out_nil, pc1, pc2, pm1, pm2, pmm, cI, cIg, cIb, cSb, cS3, prm_id, prm_swap, prm_skip, prm_trans, clr_nil, clr_one, hv, hl_, kv, kr, prj, tyOf, HT2, cv_id, cv_non, cv_someI, cv_someS, cv_someT, cv_dN, cv_dB, cv_dI, cv_dS, cv_dT, cv_dP, cvs_nil, cvs_cons, tAt, tIs, Pm.ty, Ctr.ps, Ctr.r, Ctr.w, tru_I, tru_Ig, tru_S, tru_Sg, tru_T, tru_Tg, tru_L, tru_Lg, C__law_mixed] at hw ⊢
  have k1 := Int.emod_nonneg (a0 * 48271 + a1 * 69621 + 12345) (show (2147483647 : Int) ≠ 0 by decide)
  have k2 := Int.emod_lt_of_pos (a0 * 48271 + a1 * 69621 + 12345) (show (0 : Int) < 2147483647 by decide)
  generalize (a0 * 48271 + a1 * 69621 + 12345) % 2147483647 = u at *
  refine ⟨.inl (.inr ⟨by decide, by decide⟩), .inl (.inr ⟨by decide, by decide⟩), by decide, .inl (.inr ⟨by omega, by omega⟩), .inl (.inr ⟨by decide, by decide⟩), cdivW (by decide) (by decide), by decide, .inl (.inr ⟨by decide, by decide⟩), cdivW (by decide) (by decide), by decide, ?_⟩
  exact hw _ (Int.emod_nonneg _ (by decide)) (Int.emod_lt_of_pos _ (by decide))
@[reducible] def C__law_draw_at (cA mA : Addr) : Ctr := ⟨[.mu (tBagAt cA mA), .im tInt], tInt, fun a Q E => (fun (a0 : BagA) (a1 : Int) => (0 < a1 ∧ a1 < 2 ^ 90 ∧ a0.Ok) ∧ ∀ (r : Int) (b : BagA), 0 ≤ r → r < a1 → b.Ok → Q r (b, (), ())) a.1 a.2.1⟩
theorem sc__law_draw_at : FnScope ["bag", "limit", "cells", "cell", "found"] ["bag", "limit"] (defScope s__law_draw_at) := ⟨rfl, rfl, rfl, by decide +kernel, rfl, by decide +kernel, by decide +kernel⟩
theorem ok__law_draw_at (cA mA : Addr) {f : Addr} {fd : FuncData} (F : Fun K "_law_draw" "_law_draw" s__law_draw_at f fd) (Z : Bt mg) (D__law_mixed : Df P w K mg base TB "_law_mixed" 1 ["cell", "trip"] C__law_mixed) : FnOk P w K mg base (L2.CX P w) 2 f fd ["bag", "limit"] ((C__law_draw_at cA mA).sp K TB) := by
  refine fn_ty (C := (C__law_draw_at cA mA)) 3 F sc__law_draw_at rfl rfl fun cdv A outer s H vs E hr hv => ?_
  obtain ⟨v0, v1, rfl⟩ : ∃ v0 v1, vs = [v0, v1] := by
    match vs, hv with
    | [v0, v1], _ => exact ⟨v0, v1, rfl⟩
  refine ⟨[], _, (ss_cons (Γ1 := [some (tAt v0 (tBagAt cA mA)), some tInt, none, none, none]) (sx_asg (ex_bin o_addI (ex_ix x_bagI (ex_bor 0) ex_int (cj_borA 0 rfl (cj_val cj_nil))) ex_int (cj_val (cj_val cj_nil))) (gx_bag 0 3 (by decide)))
    (ss_cons (Γ1 := [some (tAt v0 (tBagAt cA mA)), some tInt, some (tIs (.ref cA)), none, none]) (sx_set 2 sc__law_draw_at.nd (ex_ix x_bagC (ex_bor 0) ex_int (cj_borA 0 rfl (cj_val cj_nil))))
    (ss_cons (Γ1 := [some (tAt v0 (tBagAt cA mA)), some tInt, some (tIs (.ref cA)), none, none]) (sx_if (tx_cmp o_eqI (ex_lenC 0 2 Z.len) ex_int (cj_val (cj_val cj_nil)))
    (ss_one (sx_ret (out_mu (out_im out_nil)) (ex_bin o_modP (ex_callTy c_intI Z.int (by decide +kernel) (pa_cons (ex_call D__law_mixed (hr.mono (by decide)) (takes_of rfl rfl rfl rfl) (pa_cons ex_int (pa_cons (ex_ix x_bagI (ex_bor 0) ex_int (cj_borA 0 rfl (cj_val cj_nil))) pa_nil)) (cj_val (cj_val cj_nil))) pa_nil) (cj_val cj_nil)) (ex_var (t := tInt) 1) (cj_val (cj_val cj_nil)))))
    ss_nil)
    (ss_cons (Γ1 := [some (tAt v0 (tBagAt cA mA)), some tInt, some (tIs (.ref cA)), none, none]) (sx_if ((tw_and (tx_cmp o_eqI (ex_ix x_bagI (ex_bor 0) ex_int (cj_borA 0 rfl (cj_val cj_nil))) ex_int (cj_val (cj_val cj_nil))) (tw_and (tx_cmp o_eqI (ex_ix x_bagI (ex_bor 0) ex_int (cj_borA 0 rfl (cj_val cj_nil))) ex_int (cj_val (cj_val cj_nil))) (tw_and1 (tx_cmp o_ltI (ex_ix x_bagI (ex_bor 0) ex_int (cj_borA 0 rfl (cj_val cj_nil))) (ex_lenC 0 2 Z.len) (cj_val (cj_val cj_nil))))))).tx
    (ss_clr 3 (ss_cons (Γ1 := [some (tAt v0 (tBagAt cA mA)), some tInt, some (tIs (.ref cA)), some tInt, none]) (sx_set 3 sc__law_draw_at.nd (ex_cellC 0 2 (ex_ix x_bagI (ex_bor 0) ex_int (cj_borA 0 rfl (cj_val cj_nil)))))
    (ss_cons (Γ1 := [some (tAt v0 (tBagAt cA mA)), some tInt, some (tIs (.ref cA)), some tInt, none]) (sx_asg (ex_bin o_addI (ex_ix x_bagI (ex_bor 0) ex_int (cj_borA 0 rfl (cj_val cj_nil))) ex_int (cj_val (cj_val cj_nil))) (gx_bag 0 1 (by decide)))
    (ss_cons (Γ1 := [some (tAt v0 (tBagAt cA mA)), some tInt, some (tIs (.ref cA)), some tInt, none]) (sx_if (tx_cmp o_ltI (ex_var (t := tInt) 3) (ex_bin o_powI ex_int ex_int (cj_val (cj_val cj_nil))) (cj_val (cj_val cj_nil)))
    (ss_one (sx_ret (out_mu (out_im out_nil)) (ex_bin o_modP (ex_callTy c_intI Z.int (by decide +kernel) (pa_cons (ex_call D__law_mixed (hr.mono (by decide)) (takes_of rfl rfl rfl rfl) (pa_cons (ex_var (t := tInt) 3) (pa_cons (ex_ix x_bagI (ex_bor 0) ex_int (cj_borA 0 rfl (cj_val cj_nil))) pa_nil)) (cj_val (cj_val cj_nil))) pa_nil) (cj_val cj_nil)) (ex_var (t := tInt) 1) (cj_val (cj_val cj_nil)))))
    ss_nil)
    (ss_cons (Γ1 := [some (tAt v0 (tBagAt cA mA)), some tInt, some (tIs (.ref cA)), some tInt, none]) (sx_asg (ex_var (t := tInt) 3) (gx_bag 0 2 (by decide)))
    (ss_one (sx_asg ex_int (gx_bag 0 5 (by decide)))))))))
    ss_nil)
    (ss_cons (Γ1 := [some (tAt v0 (tBagAt cA mA)), some tInt, some (tIs (.ref cA)), none, none]) (sx_if ((tw_or (tx_cmp o_eqI (ex_ix x_bagI (ex_bor 0) ex_int (cj_borA 0 rfl (cj_val cj_nil))) ex_int (cj_val (cj_val cj_nil))) (tw_or1 (tx_cmp o_eqI (ex_ix x_bagI (ex_bor 0) ex_int (cj_borA 0 rfl (cj_val cj_nil))) ex_int (cj_val (cj_val cj_nil)))))).tx
    (ss_one (sx_ret (out_mu (out_im out_nil)) (ex_bin o_modP (ex_callTy c_intI Z.int (by decide +kernel) (pa_cons (ex_call D__law_mixed (hr.mono (by decide)) (takes_of rfl rfl rfl rfl) (pa_cons (ex_bagM 0 (ex_bin o_modP (ex_callTy c_intI Z.int (by decide +kernel) (pa_cons (ex_ix x_bagI (ex_bor 0) ex_int (cj_borA 0 rfl (cj_val cj_nil))) pa_nil) (cj_val cj_nil)) (ex_lenC 0 2 Z.len) (cj_val (cj_val cj_nil)))) (pa_cons (ex_ix x_bagI (ex_bor 0) ex_int (cj_borA 0 rfl (cj_val cj_nil))) pa_nil)) (cj_val (cj_val cj_nil))) pa_nil) (cj_val cj_nil)) (ex_var (t := tInt) 1) (cj_val (cj_val cj_nil)))))
    ss_nil)
    (ss_cons (Γ1 := [some (tAt v0 (tBagAt cA mA)), some tInt, some (tIs (.ref cA)), none, some tInt]) (sx_set 4 sc__law_draw_at.nd (ex_bin o_modP (ex_callTy c_intI Z.int (by decide +kernel) (pa_cons (ex_ix x_bagI (ex_bor 0) ex_int (cj_borA 0 rfl (cj_val cj_nil))) pa_nil) (cj_val cj_nil)) (ex_var (t := tInt) 1) (cj_val (cj_val cj_nil))))
    (ss_cons (Γ1 := [some (tAt v0 (tBagAt cA mA)), some tInt, some (tIs (.ref cA)), none, some tInt]) (sx_asg (ex_bin o_subI (ex_ix x_bagI (ex_bor 0) ex_int (cj_borA 0 rfl (cj_val cj_nil))) ex_int (cj_val (cj_val cj_nil))) (gx_bag 0 5 (by decide)))
    (ss_cons (Γ1 := [some (tAt v0 (tBagAt cA mA)), some tInt, some (tIs (.ref cA)), none, some tInt]) (sx_asg (ex_bin o_mulA (ex_bin o_fdivW (ex_callTy c_intI Z.int (by decide +kernel) (pa_cons (ex_ix x_bagI (ex_bor 0) ex_int (cj_borA 0 rfl (cj_val cj_nil))) pa_nil) (cj_val cj_nil)) (ex_var (t := tInt) 1) (cj_val (cj_val cj_nil))) (ex_callTy c_intB Z.int (by decide +kernel) (pa_cons (ex_cmp o_gtI (ex_ix x_bagI (ex_bor 0) ex_int (cj_borA 0 rfl (cj_val cj_nil))) ex_int (cj_val (cj_val cj_nil))) pa_nil) (cj_val cj_nil)) (cj_val (cj_val cj_nil))) (gx_bag 0 2 (by decide)))
    (ss_one (sx_ret (out_mu (out_im out_nil)) (ex_var (t := tInt) 4))))))))))), ?_⟩
  rintro ⟨(a0 : BagA), (a1 : Int), au⟩ Q E hw
  dsimp only [TY.wGuard, TY.wSeq, TY.wPar, TY.wCons, TY.wNil, TY.wApp, TY.wPure, TY.wMv, TY.wWhile, TY.wFor, TY.wTru, TY.wRet, TY.wRetN, TY.wSkip, TY.wSet, TY.wAsg, TY.wIf, TY.wName, TY.wDrop, TY.wBrk, TY.wCnt, TY.wNever, TY.wClr, TY.wPre, TY.wGs, TY.wGs0, TY.wLc, TY.wGen, TY.wOut, TY.wOutA, TY.wPrm, TY.wAug, TY.wCv, TY.wB, TY.wAnd, TY.wOr, TY.wNot, TY.wIfE, TY.wMap, TY.wRng1, TY.wRng2, TY.wSgn, TY.wSome, enR, enN, ini, iniv, none_s, none_v, Cy.set_, Cy.at_, TY.get, TY.put, pbk, cstr, cst, cj_val, cj_tmp, cj_bor, cj_borA, cj_nil, out_im, out_mu, out_nil, pc1, pc2, pm1, pm2, pmm, cI, cIg, cIb, cSb, cS3, prm_id, prm_swap, prm_skip, prm_trans, clr_nil, clr_one, hv, hl_, kv, kr, prj, tyOf, HT2, cv_id, cv_non, cv_someI, cv_someS, cv_someT, cv_dN, cv_dB, cv_dI, cv_dS, cv_dT, cv_dP, cvs_nil, cvs_cons, tAt, tIs, Pm.ty, Ctr.ps, Ctr.r, Ctr.w, tru_I, tru_Ig, tru_S, tru_Sg, tru_T, tru_Tg, tru_L, tru_Lg, C__law_mixed, C__law_draw_at] at hw ⊢
  obtain ⟨⟨p1, p2, ok⟩, hw⟩ := hw
  obtain ⟨ns, i1, i2, i3, i4, i5, ms⟩ := a0
  obtain ⟨ok1, ok2⟩ := ok
  have ok1 : 0 ≤ i1 := ok1
  have ok2 : ms.length = ns.length := ok2
  have fin : ∀ (z : Int) (b : BagA), b.Ok → Q (z % a1) (b, (), ()) := fun z b h => hw _ _ (Int.emod_nonneg _ (by omega)) (Int.emod_lt_of_pos _ p1) h
  simp only [bagGet, bagSet, Option.some.injEq, exists_eq_left', decide_eq_true_eq, decide_eq_false_iff_not, true_and, forall_const, p1]
  have hC : ∀ {R : Int → Prop}, i1 < (ns.length : Int) → (∀ y, R y) → ∃ y, L2.atI ns i1 = some y ∧ R y := fun {R} h r => by
    obtain ⟨y, hy⟩ := atI_ok ok1 h
    exact ⟨y, hy, r y⟩
  have hM : ∀ {R : Int → Prop}, ¬ (ns.length : Int) = 0 → (∀ y, R y) → ∃ y, L2.atI ms ((i3 + 1) % (ns.length : Int)) = some y ∧ R y := fun {R} h r => by
    obtain ⟨y, hy⟩ := atI_ok (xs := ms) (Int.emod_nonneg (i3 + 1) h) (by rw [ok2]; exact Int.emod_lt_of_pos _ (by omega))
    exact ⟨y, hy, r y⟩
  repeat' first
    | exact fin _ _ ⟨(by first | exact ok1 | (show 0 ≤ i1 + 1; omega)), ok2⟩
    | exact cdivW p1 (by omega)
    | exact ⟨by decide, by decide, by decide⟩
    | exact .inl (.inr (by split <;> exact ⟨by decide, by decide⟩))
    | (refine And.intro ?_ ?_)
    | (intro h; first | (cases h; done) | skip)
    | (refine hM (by assumption) fun y => ?_)
    | (refine hC (by assumption) fun y => ?_)
    | (show (0 : Int) < _; omega)
@[reducible] def C__law_draw : Ctr := ⟨[.mu tBag, .im tInt], tInt, fun a Q E => (fun (a0 : Unit) (a1 : Int) => (0 < a1 ∧ a1 < 2 ^ 90) ∧ ∀ r : Int, 0 ≤ r → r < a1 → Q r ((), (), ())) a.1 a.2.1⟩
theorem ok__law_draw {f : Addr} {fd : FuncData} (F : Fun K "_law_draw" "_law_draw" s__law_draw f fd) (Z : Bt mg) (D__law_mixed : Df P w K mg base TB "_law_mixed" 1 ["cell", "trip"] C__law_mixed) : FnOk P w K mg base (L2.CX P w) 2 f fd ["bag", "limit"] (C__law_draw.sp K TB) := by
  have all := fun c m => ok__law_draw_at (P := P) (w := w) (base := base) (TB := TB) c m F Z D__law_mixed
  have key : ∀ vs H Q E, C__law_draw.sp K TB vs H Q E → ∃ c m, (C__law_draw_at c m).sp K TB vs H Q E := by
    rintro vs H Q E ⟨⟨_, (a1 : Int), _⟩, F0, Qt, Et, ⟨v, r, F1, F2, rfl, rfl, d, ⟨c, m, b, ok, hb⟩, ar⟩, tb, ⟨⟨p1, p2⟩, hw⟩, hq, he⟩
    refine ⟨c, m, (b, a1, ()), fo F1 F2, fun x o => BagA.Ok o.1 ∧ Qt x ((), (), ()), Et, ⟨v, r, F1, F2, rfl, rfl, d, hb, ar⟩, tb, ⟨⟨p1, p2, ok⟩, fun x b' x1 x2 ob => ⟨ob, hw x x1 x2⟩⟩, ?_, he⟩
    rintro x o v' H' G1 G2 ⟨ob, q⟩ at1 ⟨w', r', J1, J2, e1, e2, dj, at2, ao⟩ dd ch
    exact hq x ((), (), ()) v' H' G1 G2 q at1 ⟨w', r', J1, J2, e1, e2, dj, ⟨c, m, o.1, ob, at2⟩, ao⟩ dd ch
  refine ⟨fun vs H Q E h => ?_, fun A outer s H args us vs Q E hr e0 hb rv h => ?_⟩
  · exact (Ctr.len h)
  · obtain ⟨c, m, h⟩ := key vs H Q E h
    exact (all c m).run A outer s H args us vs Q E hr e0 hb rv h
@[reducible] def C__law_low : Ctr := ⟨[.im tInt, .im tInt], (tTpl [tInt, tInt]), fun a Q E => (fun (a0 : Int) (a1 : Int) => (0 < a1 ∧ a1 ≤ 2 ^ 62) ∧ ∀ r : Frc, Lows a0 a1 r.1 r.2.1 → Q r ((), (), ())) a.1 a.2.1⟩
theorem sc__law_low : FnScope ["a", "b", "one", "other", "trip"] ["a", "b"] (defScope s__law_low) := ⟨rfl, rfl, rfl, by decide +kernel, rfl, by decide +kernel, by decide +kernel⟩
theorem ok__law_low {f : Addr} {fd : FuncData} (F : Fun K "_law_low" "_law_low" s__law_low f fd) (Z : Bt mg)  : FnOk P w K mg base (L2.CX P w) 1 f fd ["a", "b"] (C__law_low.sp K TB) := by
  refine fn_ty (C := C__law_low) 3 F sc__law_low rfl rfl fun cdv A outer s H vs E hr hv => ?_
  obtain ⟨v0, v1, rfl⟩ : ∃ v0 v1, vs = [v0, v1] := by
    match vs, hv with
    | [v0, v1], _ => exact ⟨v0, v1, rfl⟩
  refine ⟨[], _, (ss_cons (Γ1 := [some tInt, some tInt, some tInt, some tInt, none]) (sx_par 2 3 rfl sc__law_low.nd (pa_cons (ex_callB c_abs Z.abs (by decide +kernel) (pa_cons (ex_var (t := tInt) 0) pa_nil) (cj_val cj_nil)) (pa_cons (ex_callB c_abs Z.abs (by decide +kernel) (pa_cons (ex_var (t := tInt) 1) pa_nil) (cj_val cj_nil)) pa_nil)))
    (ss_cons (Γ1 := [some tInt, some tInt, some tInt, some tInt, none]) (sx_for (te := tInt) (passes_of rfl) rfl (ix_rng1 Z.range (pa_cons ex_int pa_nil)) (gx_name 4 sc__law_low.nd)
    (ss_clr 4 (ss_cons (Γ1 := [some tInt, some tInt, some tInt, some tInt, some tInt]) (sx_if (tx_cmp o_eqI (ex_var (t := tInt) 3) ex_int (cj_val (cj_val cj_nil)))
    (ss_pre 4 (ss_one sx_break))
    ss_nil)
    (ss_one (sx_par 2 3 rfl sc__law_low.nd (pa_cons (ex_var (t := tInt) 3) (pa_cons (ex_bin o_modP (ex_callTy c_intI Z.int (by decide +kernel) (pa_cons (ex_var (t := tInt) 2) pa_nil) (cj_val cj_nil)) (ex_var (t := tInt) 3) (cj_val (cj_val cj_nil))) pa_nil)))))))
    (ss_one (sx_ret (out_im (out_im out_nil)) (ex_if (tx_cmp o_gtI (ex_var (t := tInt) 1) ex_int (cj_val (cj_val cj_nil))) (ex_tup [tInt, tInt] (pa_cons (ex_bin o_fdivW (ex_var (t := tInt) 0) (ex_var (t := tInt) 2) (cj_val (cj_val cj_nil))) (pa_cons (ex_bin o_fdivW (ex_var (t := tInt) 1) (ex_var (t := tInt) 2) (cj_val (cj_val cj_nil))) pa_nil))) (ex_tup [tInt, tInt] (pa_cons (ex_bin o_subI ex_int (ex_bin o_fdivW (ex_var (t := tInt) 0) (ex_var (t := tInt) 2) (cj_val (cj_val cj_nil))) (cj_val (cj_val cj_nil))) (pa_cons (ex_bin o_subI ex_int (ex_bin o_fdivW (ex_var (t := tInt) 1) (ex_var (t := tInt) 2) (cj_val (cj_val cj_nil))) (cj_val (cj_val cj_nil))) pa_nil)))))))), ?_⟩
  rintro ⟨(a0 : Int), (a1 : Int), au⟩ Q E hw
  dsimp only [TY.wGuard, TY.wSeq, TY.wPar, TY.wCons, TY.wNil, TY.wApp, TY.wPure, TY.wMv, TY.wWhile, TY.wFor, TY.wTru, TY.wRet, TY.wRetN, TY.wSkip, TY.wSet, TY.wAsg, TY.wIf, TY.wName, TY.wDrop, TY.wBrk, TY.wCnt, TY.wNever, TY.wClr, TY.wPre, TY.wGs, TY.wGs0, TY.wLc, TY.wGen, TY.wOut, TY.wOutA, TY.wPrm, TY.wAug, TY.wCv, TY.wB, TY.wAnd, TY.wOr, TY.wNot, TY.wIfE, TY.wMap, TY.wRng1, TY.wRng2, TY.wSgn, TY.wSome, enR, enN, ini, iniv, none_s, none_v, Cy.set_, Cy.at_, TY.get, TY.put, pbk, cstr, cst, cj_val, cj_tmp, cj_bor, cj_borA, cj_nil, out_im, out_mu, out_nil, pc1, pc2, pm1, pm2, pmm, cI, cIg, cIb, cSb, cS3, prm_id, prm_swap, prm_skip, prm_trans, clr_nil, clr_one, hv, hl_, kv, kr, prj, tyOf, HT2, cv_id, cv_non, cv_someI, cv_someS, cv_someT, cv_dN, cv_dB, cv_dI, cv_dS, cv_dT, cv_dP, cvs_nil, cvs_cons, tAt, tIs, Pm.ty, Ctr.ps, Ctr.r, Ctr.w, tru_I, tru_Ig, tru_S, tru_Sg, tru_T, tru_Tg, tru_L, tru_Lg, C__law_low] at hw ⊢
  obtain ⟨⟨h1, h2⟩, hw⟩ := hw
  have fin : ∀ {i : Nat} {x y : Int}, LowI a0 a1 i x y → y = 0 → CDivW a0 x ∧ CDivW a1 x ∧ Q (TY.hv [tInt, tInt] (a0 / x, a1 / x, ())) ((), (), ()) := fun {i x y} h e => by
    subst e
    have e2 := h.fin
    have hg := gcd_pos (a := a0) h1
    have hd : ((Int.gcd a0 a1 : Nat) : Int) ≤ a1 := Int.le_of_dvd h1 (Int.gcd_dvd_right ..)
    rw [e2]
    exact ⟨cdivW hg (by omega), cdivW hg (by omega), hw _ (lows h1)⟩
  refine ⟨⟨by decide, by decide⟩, fun i s => ∃ x y : Int, s = (a0, a1, x, y, (), ()) ∧ LowI a0 a1 i x y, ⟨_, _, rfl, ?_⟩, ?_, ?_⟩
  · refine ⟨?_, ?_, ?_, fun z => by omega, fun z => by omega, fun _ => ⟨?_, ?_⟩⟩
    · split <;> omega
    · split <;> omega
    · rw [abs_ite, abs_ite]; simp [Int.gcd]
    · split <;> omega
    · rw [if_neg (by omega)]
  · rintro i t s hx ⟨x, y, rfl, h⟩
    refine ⟨fun e => ⟨fun _ => fin h (of_decide_eq_true e), fun z => absurd h1 (of_decide_eq_false z)⟩, fun e => ?_⟩
    have h0 : 0 < y := by have z : ¬ y = 0 := of_decide_eq_false e; have := h.hy; omega
    exact ⟨h0, _, _, rfl, h.step h2 h0⟩
  · rintro s ⟨x, y, rfl, h⟩
    rw [rng_len] at h
    exact ⟨fun _ => fin h h.done, fun z => absurd h1 (of_decide_eq_false z)⟩
@[reducible] def C__law_plus : Ctr := ⟨[.im (tTpl [tInt, tInt]), .im (tTpl [tInt, tInt])], (tTpl [tInt, tInt]), fun a Q E => (fun (a0 : (Int) × (Int) × Unit) (a1 : (Int) × (Int) × Unit) => (0 < a0.2.1 ∧ a0.2.1 ≤ 2 ^ 50 ∧ 0 < a1.2.1 ∧ a1.2.1 ≤ 2 ^ 10) ∧ ∀ r : Frc, Lows (a0.1 * a1.2.1 + a1.1 * a0.2.1) (a0.2.1 * a1.2.1) r.1 r.2.1 → Q r ((), (), ())) a.1 a.2.1⟩
theorem sc__law_plus : FnScope ["a", "b"] ["a", "b"] (defScope s__law_plus) := ⟨rfl, rfl, rfl, by decide +kernel, rfl, by decide +kernel, by decide +kernel⟩
theorem ok__law_plus {f : Addr} {fd : FuncData} (F : Fun K "_law_plus" "_law_plus" s__law_plus f fd) (Z : Bt mg) (D__law_low : Df P w K mg base TB "_law_low" 1 ["a", "b"] C__law_low) : FnOk P w K mg base (L2.CX P w) 2 f fd ["a", "b"] (C__law_plus.sp K TB) := by
  refine fn_ty (C := C__law_plus) 0 F sc__law_plus rfl rfl fun cdv A outer s H vs E hr hv => ?_
  obtain ⟨v0, v1, rfl⟩ : ∃ v0 v1, vs = [v0, v1] := by
    match vs, hv with
    | [v0, v1], _ => exact ⟨v0, v1, rfl⟩
  refine ⟨[], _, (ss_one (sx_ret (out_im (out_im out_nil)) (ex_call D__law_low (hr.mono (by decide)) (takes_of rfl rfl rfl rfl) (pa_cons (ex_bin o_addI (ex_bin o_mulA (ex_ix (x_tpl (ts := [tInt, tInt]) 0 (by decide)) (ex_var (t := (tTpl [tInt, tInt])) 0) ex_int (cj_val (cj_val cj_nil))) (ex_ix (x_tpl (ts := [tInt, tInt]) 1 (by decide)) (ex_var (t := (tTpl [tInt, tInt])) 1) ex_int (cj_val (cj_val cj_nil))) (cj_val (cj_val cj_nil))) (ex_bin o_mulA (ex_ix (x_tpl (ts := [tInt, tInt]) 0 (by decide)) (ex_var (t := (tTpl [tInt, tInt])) 1) ex_int (cj_val (cj_val cj_nil))) (ex_ix (x_tpl (ts := [tInt, tInt]) 1 (by decide)) (ex_var (t := (tTpl [tInt, tInt])) 0) ex_int (cj_val (cj_val cj_nil))) (cj_val (cj_val cj_nil))) (cj_val (cj_val cj_nil))) (pa_cons (ex_bin o_mulA (ex_ix (x_tpl (ts := [tInt, tInt]) 1 (by decide)) (ex_var (t := (tTpl [tInt, tInt])) 0) ex_int (cj_val (cj_val cj_nil))) (ex_ix (x_tpl (ts := [tInt, tInt]) 1 (by decide)) (ex_var (t := (tTpl [tInt, tInt])) 1) ex_int (cj_val (cj_val cj_nil))) (cj_val (cj_val cj_nil))) pa_nil)) (cj_val (cj_val cj_nil))))), ?_⟩
  rintro ⟨(a0 : (Int) × (Int) × Unit), (a1 : (Int) × (Int) × Unit), au⟩ Q E hw
  dsimp only [TY.wGuard, TY.wSeq, TY.wPar, TY.wCons, TY.wNil, TY.wApp, TY.wPure, TY.wMv, TY.wWhile, TY.wFor, TY.wTru, TY.wRet, TY.wRetN, TY.wSkip, TY.wSet, TY.wAsg, TY.wIf, TY.wName, TY.wDrop, TY.wBrk, TY.wCnt, TY.wNever, TY.wClr, TY.wPre, TY.wGs, TY.wGs0, TY.wLc, TY.wGen, TY.wOut, TY.wOutA, TY.wPrm, TY.wAug, TY.wCv, TY.wB, TY.wAnd, TY.wOr, TY.wNot, TY.wIfE, TY.wMap, TY.wRng1, TY.wRng2, TY.wSgn, TY.wSome, enR, enN, ini, iniv, none_s, none_v, Cy.set_, Cy.at_, TY.get, TY.put, pbk, cstr, cst, cj_val, cj_tmp, cj_bor, cj_borA, cj_nil, out_im, out_mu, out_nil, pc1, pc2, pm1, pm2, pmm, cI, cIg, cIb, cSb, cS3, prm_id, prm_swap, prm_skip, prm_trans, clr_nil, clr_one, hv, hl_, kv, kr, prj, tyOf, HT2, cv_id, cv_non, cv_someI, cv_someS, cv_someT, cv_dN, cv_dB, cv_dI, cv_dS, cv_dT, cv_dP, cvs_nil, cvs_cons, tAt, tIs, Pm.ty, Ctr.ps, Ctr.r, Ctr.w, tru_I, tru_Ig, tru_S, tru_Sg, tru_T, tru_Tg, tru_L, tru_Lg, C__law_low, C__law_plus] at hw ⊢
  obtain ⟨⟨h1, h2, h3, h4⟩, hw⟩ := hw
  have h5 : 0 < a0.2.1 * a1.2.1 := Int.mul_pos h1 h3
  have h6 : a0.2.1 * a1.2.1 ≤ 2 ^ 50 * 2 ^ 10 := Int.mul_le_mul h2 h4 (by omega) (by decide)
  refine ⟨rfl, rfl, .inl (.inr ⟨by show _ < a1.2.1; omega, by show a1.2.1 < _; omega⟩), rfl, rfl, .inl (.inr ⟨by show _ < a0.2.1; omega, by show a0.2.1 < _; omega⟩), rfl, rfl, .inl (.inr ⟨by show _ < a1.2.1; omega, by show a1.2.1 < _; omega⟩), ⟨h5, by omega⟩, hw⟩
@[reducible] def C__law_rounded : Ctr := ⟨[.im tS, .im tInt, .im tInt], tInt, fun a Q E => (fun (a0 : List Nat) (a1 : Int) (a2 : Int) => (0 < a2 ∧ a2 < 2 ^ 99) ∧ Q (rnd a0 a1 a2) ((), (), (), ())) a.1 a.2.1 a.2.2.1⟩
theorem sc__law_rounded : FnScope ["rule", "a", "b"] ["rule", "a", "b"] (defScope s__law_rounded) := ⟨rfl, rfl, rfl, by decide +kernel, rfl, by decide +kernel, by decide +kernel⟩
theorem ok__law_rounded {f : Addr} {fd : FuncData} (F : Fun K "_law_rounded" "_law_rounded" s__law_rounded f fd) (Z : Bt mg)  : FnOk P w K mg base (L2.CX P w) 1 f fd ["rule", "a", "b"] (C__law_rounded.sp K TB) := by
  refine fn_ty (C := C__law_rounded) 0 F sc__law_rounded rfl rfl fun cdv A outer s H vs E hr hv => ?_
  obtain ⟨v0, v1, v2, rfl⟩ : ∃ v0 v1 v2, vs = [v0, v1, v2] := by
    match vs, hv with
    | [v0, v1, v2], _ => exact ⟨v0, v1, v2, rfl⟩
  refine ⟨[], _, (ss_cons (Γ1 := [some tS, some tInt, some tInt]) (sx_if (tx_cmp o_eqS (ex_var (t := tS) 0) (ex_str [100, 111, 119, 110]) (cj_val (cj_val cj_nil)))
    (ss_one (sx_ret (out_im (out_im (out_im out_nil))) (ex_bin o_fdivW (ex_var (t := tInt) 1) (ex_var (t := tInt) 2) (cj_val (cj_val cj_nil)))))
    ss_nil)
    (ss_cons (Γ1 := [some tS, some tInt, some tInt]) (sx_if (tx_cmp o_eqS (ex_var (t := tS) 0) (ex_str [117, 112]) (cj_val (cj_val cj_nil)))
    (ss_one (sx_ret (out_im (out_im (out_im out_nil))) (ex_bin o_subI ex_int (ex_bin o_fdivW (ex_bin o_subI ex_int (ex_var (t := tInt) 1) (cj_val (cj_val cj_nil))) (ex_var (t := tInt) 2) (cj_val (cj_val cj_nil))) (cj_val (cj_val cj_nil)))))
    ss_nil)
    (ss_cons (Γ1 := [some tS, some tInt, some tInt]) (sx_if (tx_cmp o_eqS (ex_var (t := tS) 0) (ex_str [110, 101, 97, 114]) (cj_val (cj_val cj_nil)))
    (ss_one (sx_ret (out_im (out_im (out_im out_nil))) (ex_bin o_fdivW (ex_bin o_addI (ex_bin o_mulA ex_int (ex_var (t := tInt) 1) (cj_val (cj_val cj_nil))) (ex_var (t := tInt) 2) (cj_val (cj_val cj_nil))) (ex_bin o_mulA ex_int (ex_var (t := tInt) 2) (cj_val (cj_val cj_nil))) (cj_val (cj_val cj_nil)))))
    ss_nil)
    (ss_one (sx_ret (out_im (out_im (out_im out_nil))) (ex_bin o_subI ex_int (ex_bin o_fdivW (ex_bin o_subI (ex_var (t := tInt) 2) (ex_bin o_mulA ex_int (ex_var (t := tInt) 1) (cj_val (cj_val cj_nil))) (cj_val (cj_val cj_nil))) (ex_bin o_mulA ex_int (ex_var (t := tInt) 2) (cj_val (cj_val cj_nil))) (cj_val (cj_val cj_nil))) (cj_val (cj_val cj_nil)))))))), ?_⟩
  rintro ⟨(a0 : List Nat), (a1 : Int), (a2 : Int), au⟩ Q E hw
  dsimp only [TY.wGuard, TY.wSeq, TY.wPar, TY.wCons, TY.wNil, TY.wApp, TY.wPure, TY.wMv, TY.wWhile, TY.wFor, TY.wTru, TY.wRet, TY.wRetN, TY.wSkip, TY.wSet, TY.wAsg, TY.wIf, TY.wName, TY.wDrop, TY.wBrk, TY.wCnt, TY.wNever, TY.wClr, TY.wPre, TY.wGs, TY.wGs0, TY.wLc, TY.wGen, TY.wOut, TY.wOutA, TY.wPrm, TY.wAug, TY.wCv, TY.wB, TY.wAnd, TY.wOr, TY.wNot, TY.wIfE, TY.wMap, TY.wRng1, TY.wRng2, TY.wSgn, TY.wSome, enR, enN, ini, iniv, none_s, none_v, Cy.set_, Cy.at_, TY.get, TY.put, pbk, cstr, cst, cj_val, cj_tmp, cj_bor, cj_borA, cj_nil, out_im, out_mu, out_nil, pc1, pc2, pm1, pm2, pmm, cI, cIg, cIb, cSb, cS3, prm_id, prm_swap, prm_skip, prm_trans, clr_nil, clr_one, hv, hl_, kv, kr, prj, tyOf, HT2, cv_id, cv_non, cv_someI, cv_someS, cv_someT, cv_dN, cv_dB, cv_dI, cv_dS, cv_dT, cv_dP, cvs_nil, cvs_cons, tAt, tIs, Pm.ty, Ctr.ps, Ctr.r, Ctr.w, tru_I, tru_Ig, tru_S, tru_Sg, tru_T, tru_Tg, tru_L, tru_Lg, C__law_rounded] at hw ⊢
  obtain ⟨⟨h1, h2⟩, hw⟩ := hw
  have c1 := fun x => cdivW (i := x) h1 (by omega)
  have c2 : ∀ x : Int, CDivW x (2 * a2) := fun x => cdivW (by omega) (by omega)
  have z : ∀ x : Int, 0 - x = -x := fun x => by omega
  refine ⟨fun h => ⟨c1 _, ?_⟩, fun h => ⟨fun k => ⟨c1 _, ?_⟩, fun k => ⟨fun l => ⟨cmul2 _, cmul2 _, c2 _, ?_⟩, fun l => ⟨cmul2 _, cmul2 _, c2 _, ?_⟩⟩⟩⟩
  · rw [rnd, if_pos (of_decide_eq_true h)] at hw; exact hw
  · rw [rnd, if_neg (of_decide_eq_false h), if_pos (of_decide_eq_true k)] at hw; rw [z, z]; exact hw
  · rw [rnd, if_neg (of_decide_eq_false h), if_neg (of_decide_eq_false k), if_pos (of_decide_eq_true l)] at hw; exact hw
  · rw [rnd, if_neg (of_decide_eq_false h), if_neg (of_decide_eq_false k), if_neg (of_decide_eq_false l)] at hw; rw [z]; exact hw
@[reducible] def C__law_predictor : Ctr := ⟨[.mu tBag], (tTpl [(tTup (tTpl [tInt, tInt])), tS]), fun a Q E => (fun (a0 : Unit) => ∀ r : List Frc × List Nat × Unit, TapsOk r.1 → RuleOk r.2.1 → Q r ((), ())) a.1⟩
theorem sc__law_predictor : FnScope ["bag", "taps", "k", "top", "below"] ["bag"] (defScope s__law_predictor) := ⟨rfl, rfl, rfl, by decide +kernel, rfl, by decide +kernel, by decide +kernel⟩
theorem ok__law_predictor {f : Addr} {fd : FuncData} (F : Fun K "_law_predictor" "_law_predictor" s__law_predictor f fd) (Z : Bt mg) (D__law_draw : Df P w K mg base TB "_law_draw" 2 ["bag", "limit"] C__law_draw) (D__law_low : Df P w K mg base TB "_law_low" 1 ["a", "b"] C__law_low) : FnOk P w K mg base (L2.CX P w) 3 f fd ["bag"] (C__law_predictor.sp K TB) := by
  refine fn_ty (C := C__law_predictor) 4 F sc__law_predictor rfl rfl fun cdv A outer s H vs E hr hv => ?_
  obtain ⟨v0, rfl⟩ : ∃ v0, vs = [v0] := by
    match vs, hv with
    | [v0], _ => exact ⟨v0, rfl⟩
  refine ⟨[], _, (ss_cons (Γ1 := [some (tAt v0 tBag), some (tList (tTpl [tInt, tInt])), none, none, none]) (sx_set 1 sc__law_predictor.nd (ex_list (tTpl [tInt, tInt]) 0 pa_nil))
    (ss_cons (Γ1 := [some (tAt v0 tBag), some (tList (tTpl [tInt, tInt])), none, none, none]) (sx_for (te := tInt) (passes_of rfl) rfl (ix_rng1 Z.range (pa_cons (ex_ix x_lst (ex_list tInt 7 (pa_cons ex_int (pa_cons ex_int (pa_cons ex_int (pa_cons ex_int (pa_cons ex_int (pa_cons ex_int (pa_cons ex_int pa_nil)))))))) (ex_call D__law_draw (hr.mono (by decide)) (takes_of rfl rfl rfl rfl) (pa_cons (ex_bor 0) (pa_cons ex_int pa_nil)) (cj_borA 0 rfl (cj_val cj_nil))) (cj_tmp (cj_val cj_nil))) pa_nil)) (gx_name 2 sc__law_predictor.nd)
    (ss_clr 4 (ss_clr 3 (ss_clr 2 (ss_cons (Γ1 := [some (tAt v0 tBag), some (tList (tTpl [tInt, tInt])), some tInt, some tInt, some tInt]) (sx_par 3 4 rfl sc__law_predictor.nd (pa_cons (ex_bin o_subI (ex_call D__law_draw (hr.mono (by decide)) (takes_of rfl rfl rfl rfl) (pa_cons (ex_bor 0) (pa_cons ex_int pa_nil)) (cj_borA 0 rfl (cj_val cj_nil))) ex_int (cj_val (cj_val cj_nil))) (pa_cons (ex_ix x_lst (ex_list tInt 6 (pa_cons ex_int (pa_cons ex_int (pa_cons ex_int (pa_cons ex_int (pa_cons ex_int (pa_cons ex_int pa_nil))))))) (ex_call D__law_draw (hr.mono (by decide)) (takes_of rfl rfl rfl rfl) (pa_cons (ex_bor 0) (pa_cons ex_int pa_nil)) (cj_borA 0 rfl (cj_val cj_nil))) (cj_tmp (cj_val cj_nil))) pa_nil)))
    (ss_cons (Γ1 := [some (tAt v0 tBag), some (tList (tTpl [tInt, tInt])), some tInt, some tInt, some tInt]) (sx_if (tx_cmp o_eqI (ex_call D__law_draw (hr.mono (by decide)) (takes_of rfl rfl rfl rfl) (pa_cons (ex_bor 0) (pa_cons ex_int pa_nil)) (cj_borA 0 rfl (cj_val cj_nil))) ex_int (cj_val (cj_val cj_nil)))
    (ss_one (sx_par 3 4 rfl sc__law_predictor.nd (pa_cons (ex_bin o_subI (ex_call D__law_draw (hr.mono (by decide)) (takes_of rfl rfl rfl rfl) (pa_cons (ex_bor 0) (pa_cons ex_int pa_nil)) (cj_borA 0 rfl (cj_val cj_nil))) ex_int (cj_val (cj_val cj_nil))) (pa_cons (ex_bin o_addI ex_int (ex_call D__law_draw (hr.mono (by decide)) (takes_of rfl rfl rfl rfl) (pa_cons (ex_bor 0) (pa_cons ex_int pa_nil)) (cj_borA 0 rfl (cj_val cj_nil))) (cj_val (cj_val cj_nil))) pa_nil))))
    ss_nil)
    (ss_one (sx_expr (ex_meth m_append PySem.F.plainAttrs_list PySem.F.slot_list_append PySem.F.type_list_append (ex_bor 1) (pa_cons (ex_call D__law_low (hr.mono (by decide)) (takes_of rfl rfl rfl rfl) (pa_cons (ex_var (t := tInt) 3) (pa_cons (ex_var (t := tInt) 4) pa_nil)) (cj_val (cj_val cj_nil))) pa_nil) (cj_bor 1 rfl (cj_val cj_nil)) (fun h sr => ty_lst (i := 1) rfl h sr))))))))))
    (ss_cons (Γ1 := [some (tAt v0 tBag), some (tList (tTpl [tInt, tInt])), none, none, none]) (sx_if (tx_cmp o_eqI (ex_ix (x_tpl (ts := [tInt, tInt]) 0 (by decide)) (ex_ix x_lst (ex_bor 1) (ex_neg ex_int) (cj_bor 1 rfl (cj_val cj_nil))) ex_int (cj_val (cj_val cj_nil))) ex_int (cj_val (cj_val cj_nil)))
    (ss_one (sx_asg (ex_ix x_lst (ex_list (tTpl [tInt, tInt]) 4 (pa_cons (ex_tup [tInt, tInt] (pa_cons ex_int (pa_cons ex_int pa_nil))) (pa_cons (ex_tup [tInt, tInt] (pa_cons (ex_neg ex_int) (pa_cons ex_int pa_nil))) (pa_cons (ex_tup [tInt, tInt] (pa_cons ex_int (pa_cons ex_int pa_nil))) (pa_cons (ex_tup [tInt, tInt] (pa_cons ex_int (pa_cons ex_int pa_nil))) pa_nil))))) (ex_call D__law_draw (hr.mono (by decide)) (takes_of rfl rfl rfl rfl) (pa_cons (ex_bor 0) (pa_cons ex_int pa_nil)) (cj_borA 0 rfl (cj_val cj_nil))) (cj_tmp (cj_val cj_nil))) (gx_setL 1 rfl (ex_bor 1) (ex_neg ex_int))))
    ss_nil)
    (ss_one (sx_ret (out_mu out_nil) (ex_tup [(tTup (tTpl [tInt, tInt])), tS] (pa_cons (ex_callTy c_tupL Z.tuple (by decide +kernel) (pa_cons (ex_bor 1) pa_nil) (cj_bor 1 rfl cj_nil)) (pa_cons (ex_ix x_lst (ex_list tS 4 (pa_cons (ex_str [100, 111, 119, 110]) (pa_cons (ex_str [117, 112]) (pa_cons (ex_str [110, 101, 97, 114]) (pa_cons (ex_str [108, 111, 119]) pa_nil))))) (ex_call D__law_draw (hr.mono (by decide)) (takes_of rfl rfl rfl rfl) (pa_cons (ex_bor 0) (pa_cons ex_int pa_nil)) (cj_borA 0 rfl (cj_val cj_nil))) (cj_tmp (cj_val cj_nil))) pa_nil)))))))), ?_⟩
  rintro ⟨(a0 : Unit), au⟩ Q E hw
  dsimp only [TY.wGuard, TY.wSeq, TY.wPar, TY.wCons, TY.wNil, TY.wApp, TY.wPure, TY.wMv, TY.wWhile, TY.wFor, TY.wTru, TY.wRet, TY.wRetN, TY.wSkip, TY.wSet, TY.wAsg, TY.wIf, TY.wName, TY.wDrop, TY.wBrk, TY.wCnt, TY.wNever, TY.wClr, TY.wPre, TY.wGs, TY.wGs0, TY.wLc, TY.wGen, TY.wOut, TY.wOutA, TY.wPrm, TY.wAug, TY.wCv, TY.wB, TY.wAnd, TY.wOr, TY.wNot, TY.wIfE, TY.wMap, TY.wRng1, TY.wRng2, TY.wSgn, TY.wSome, enR, enN, ini, iniv, none_s, none_v, Cy.set_, Cy.at_, TY.get, TY.put, pbk, cstr, cst, cj_val, cj_tmp, cj_bor, cj_borA, cj_nil, out_im, out_mu, out_nil, pc1, pc2, pm1, pm2, pmm, cI, cIg, cIb, cSb, cS3, prm_id, prm_swap, prm_skip, prm_trans, clr_nil, clr_one, hv, hl_, kv, kr, prj, tyOf, HT2, cv_id, cv_non, cv_someI, cv_someS, cv_someT, cv_dN, cv_dB, cv_dI, cv_dS, cv_dT, cv_dP, cvs_nil, cvs_cons, tAt, tIs, Pm.ty, Ctr.ps, Ctr.r, Ctr.w, tru_I, tru_Ig, tru_S, tru_Sg, tru_T, tru_Tg, tru_L, tru_Lg, C__law_draw, C__law_low, C__law_predictor] at hw ⊢
  refine ⟨⟨by decide, by decide⟩, fun r0 z1 z2 => pickI z1 z2 fun many hmany => ?_⟩
  have hm : 1 ≤ many ∧ many ≤ 6 := by
    simp only [List.mem_cons, List.not_mem_nil, or_false] at hmany
    omega
  refine ⟨⟨by omega, by omega⟩, fun i s => ∃ ts : List Frc, s = ((), ts, (), (), (), ()) ∧ ts.length = i ∧ ∀ p ∈ ts, TapOk p, ⟨[], rfl, rfl, by simp⟩, ?_, ?_⟩
  · rintro i x s hx ⟨ts, rfl, hl, ht⟩
    obtain ⟨hi, _⟩ := rng_get hx
    have h3 : sizeLine = 16777216 := rfl
    have hlt : ts.length < sizeLine := by omega
    have step : ∀ r : Frc, TapOk r → ∃ ts' : List Frc, (((), ts ++ [r], (), (), (), ()) : Unit × List Frc × Unit × Unit × Unit × Unit) = ((), ts', (), (), (), ()) ∧ ts'.length = i + 1 ∧ ∀ p ∈ ts', TapOk p := fun r hr => ⟨_, rfl, by simp [hl], fun p hp => by
      rcases List.mem_append.mp hp with h | h
      · exact ht p h
      · rw [List.mem_singleton.mp h]; exact hr⟩
    refine ⟨⟨by decide, by decide⟩, fun t1 u1 u2 => ⟨⟨by decide, by decide⟩, fun t2 u3 u4 => pickI u3 u4 fun bl hbl => ⟨⟨by decide, by decide⟩, fun t3 u5 u6 => ⟨fun _ => ⟨⟨by decide, by decide⟩, fun t4 u7 u8 => ⟨⟨by decide, by decide⟩, fun t5 u9 u10 => ⟨⟨by omega, by omega⟩, fun r lr => ⟨hlt, step r (lr.tap ⟨by omega, by omega⟩ (by omega))⟩⟩⟩⟩, fun _ => ?_⟩⟩⟩⟩
    have hb : 1 ≤ bl ∧ bl ≤ 6 := by
      simp only [List.mem_cons, List.not_mem_nil, or_false] at hbl
      omega
    exact ⟨⟨by omega, by omega⟩, fun r lr => ⟨hlt, step r (lr.tap ⟨by omega, by omega⟩ (by omega))⟩⟩
  · rintro s ⟨ts, rfl, hl, ht⟩
    rw [rng_len] at hl
    have h0 : 0 < ts.length := by omega
    have names : ∀ (ys : List Frc), ys.length = ts.length → (∀ p ∈ ys, TapOk p) → (0 < (4 : Int) ∧ (4 : Int) < 2 ^ 90) ∧ ∀ r : Int, 0 ≤ r → r < 4 → ∃ y, L2.atI [[100, 111, 119, 110], [117, 112], [110, 101, 97, 114], [108, 111, 119]] r = some y ∧ Q (ys, y, ()) ((), ()) := fun ys e h =>
      ⟨⟨by decide, by decide⟩, fun r v1 v2 => pickI v1 v2 fun y hy => hw (ys, y, ()) ⟨by show ys.length ≤ 6; omega, h⟩ hy⟩
    refine pickLast h0 fun p hp => ⟨rfl, fun _ => ⟨⟨by decide, by decide⟩, fun t1 u1 u2 => pickI u1 u2 fun y hy => ixLast h0 fun j => names _ List.length_set (tap_set ht ?_)⟩, fun _ => names _ rfl ht⟩
    have hy' : y = (1, 1, ()) ∨ y = (-1, 2, ()) ∨ y = (1, 2, ()) ∨ y = (999, 998, ()) := by simpa using hy
    rcases hy' with rfl | rfl | rfl | rfl <;> decide
@[reducible] def C__law_numbers : Ctr := ⟨[.mu tBag, .im tInt], (tTup tInt), fun a Q E => (fun (a0 : Unit) (a1 : Int) => (0 ≤ a1 ∧ a1 ≤ 1000) ∧ ∀ r : List Int, (r.length : Int) = a1 → (∀ x ∈ r, -(2 ^ 70) < x ∧ x < 2 ^ 70) → Q r ((), (), ())) a.1 a.2.1⟩
theorem sc__law_numbers : FnScope ["bag", "many", "way", "found", "k", "number"] ["bag", "many"] (defScope s__law_numbers) := ⟨rfl, rfl, rfl, by decide +kernel, rfl, by decide +kernel, by decide +kernel⟩
theorem ok__law_numbers {f : Addr} {fd : FuncData} (F : Fun K "_law_numbers" "_law_numbers" s__law_numbers f fd) (Z : Bt mg) (D__law_draw : Df P w K mg base TB "_law_draw" 2 ["bag", "limit"] C__law_draw) : FnOk P w K mg base (L2.CX P w) 3 f fd ["bag", "many"] (C__law_numbers.sp K TB) := by
  refine fn_ty (C := C__law_numbers) 4 F sc__law_numbers rfl rfl fun cdv A outer s H vs E hr hv => ?_
  obtain ⟨v0, v1, rfl⟩ : ∃ v0 v1, vs = [v0, v1] := by
    match vs, hv with
    | [v0, v1], _ => exact ⟨v0, v1, rfl⟩
  refine ⟨[], _, (ss_cons (Γ1 := [some (tAt v0 tBag), some tInt, some tInt, none, none, none]) (sx_set 2 sc__law_numbers.nd (ex_call D__law_draw (hr.mono (by decide)) (takes_of rfl rfl rfl rfl) (pa_cons (ex_bor 0) (pa_cons ex_int pa_nil)) (cj_borA 0 rfl (cj_val cj_nil))))
    (ss_cons (Γ1 := [some (tAt v0 tBag), some tInt, some tInt, some (tList tInt), none, none]) (sx_set 3 sc__law_numbers.nd (ex_list tInt 0 pa_nil))
    (ss_cons (Γ1 := [some (tAt v0 tBag), some tInt, some tInt, some (tList tInt), none, none]) (sx_for (te := tInt) (passes_of rfl) rfl (ix_rng1 Z.range (pa_cons (ex_var (t := tInt) 1) pa_nil)) (gx_name 4 sc__law_numbers.nd)
    (ss_clr 5 (ss_clr 4 (ss_cons (Γ1 := [some (tAt v0 tBag), some tInt, some tInt, some (tList tInt), some tInt, some tInt]) (sx_set 5 sc__law_numbers.nd (ex_bin o_subI (ex_call D__law_draw (hr.mono (by decide)) (takes_of rfl rfl rfl rfl) (pa_cons (ex_bor 0) (pa_cons ex_int pa_nil)) (cj_borA 0 rfl (cj_val cj_nil))) ex_int (cj_val (cj_val cj_nil))))
    (ss_cons (Γ1 := [some (tAt v0 tBag), some tInt, some tInt, some (tList tInt), some tInt, some tInt]) (sx_if (tx_cmp o_eqI (ex_var (t := tInt) 2) ex_int (cj_val (cj_val cj_nil)))
    (ss_one (sx_set 5 sc__law_numbers.nd ex_int))
    ss_nil)
    (ss_cons (Γ1 := [some (tAt v0 tBag), some tInt, some tInt, some (tList tInt), some tInt, some tInt]) (sx_if ((tw_and (tx_cmp o_eqI (ex_var (t := tInt) 2) ex_int (cj_val (cj_val cj_nil))) (tw_and1 (tx_cmp o_eqI (ex_call D__law_draw (hr.mono (by decide)) (takes_of rfl rfl rfl rfl) (pa_cons (ex_bor 0) (pa_cons ex_int pa_nil)) (cj_borA 0 rfl (cj_val cj_nil))) ex_int (cj_val (cj_val cj_nil)))))).tx
    (ss_one (sx_set 5 sc__law_numbers.nd (ex_ix x_lst (ex_list tInt 4 (pa_cons (ex_bin o_addI (ex_bin o_powI ex_int ex_int (cj_val (cj_val cj_nil))) ex_int (cj_val (cj_val cj_nil))) (pa_cons (ex_bin o_subI ex_int (ex_bin o_powI ex_int ex_int (cj_val (cj_val cj_nil))) (cj_val (cj_val cj_nil))) (pa_cons (ex_bin o_addI (ex_bin o_powI ex_int ex_int (cj_val (cj_val cj_nil))) ex_int (cj_val (cj_val cj_nil))) (pa_cons ex_int pa_nil))))) (ex_call D__law_draw (hr.mono (by decide)) (takes_of rfl rfl rfl rfl) (pa_cons (ex_bor 0) (pa_cons ex_int pa_nil)) (cj_borA 0 rfl (cj_val cj_nil))) (cj_tmp (cj_val cj_nil)))))
    ss_nil)
    (ss_one (sx_expr (ex_meth m_append PySem.F.plainAttrs_list PySem.F.slot_list_append PySem.F.type_list_append (ex_bor 3) (pa_cons (ex_var (t := tInt) 5) pa_nil) (cj_bor 3 rfl (cj_val cj_nil)) (fun h sr => ty_lst (i := 3) rfl h sr))))))))))
    (ss_one (sx_ret (out_mu (out_im out_nil)) (ex_callTy c_tupL Z.tuple (by decide +kernel) (pa_cons (ex_bor 3) pa_nil) (cj_bor 3 rfl cj_nil))))))), ?_⟩
  rintro ⟨(a0 : Unit), (a1 : Int), au⟩ Q E hw
  dsimp only [TY.wGuard, TY.wSeq, TY.wPar, TY.wCons, TY.wNil, TY.wApp, TY.wPure, TY.wMv, TY.wWhile, TY.wFor, TY.wTru, TY.wRet, TY.wRetN, TY.wSkip, TY.wSet, TY.wAsg, TY.wIf, TY.wName, TY.wDrop, TY.wBrk, TY.wCnt, TY.wNever, TY.wClr, TY.wPre, TY.wGs, TY.wGs0, TY.wLc, TY.wGen, TY.wOut, TY.wOutA, TY.wPrm, TY.wAug, TY.wCv, TY.wB, TY.wAnd, TY.wOr, TY.wNot, TY.wIfE, TY.wMap, TY.wRng1, TY.wRng2, TY.wSgn, TY.wSome, enR, enN, ini, iniv, none_s, none_v, Cy.set_, Cy.at_, TY.get, TY.put, pbk, cstr, cst, cj_val, cj_tmp, cj_bor, cj_borA, cj_nil, out_im, out_mu, out_nil, pc1, pc2, pm1, pm2, pmm, cI, cIg, cIb, cSb, cS3, prm_id, prm_swap, prm_skip, prm_trans, clr_nil, clr_one, hv, hl_, kv, kr, prj, tyOf, HT2, cv_id, cv_non, cv_someI, cv_someS, cv_someT, cv_dN, cv_dB, cv_dI, cv_dS, cv_dT, cv_dP, cvs_nil, cvs_cons, tAt, tIs, Pm.ty, Ctr.ps, Ctr.r, Ctr.w, tru_I, tru_Ig, tru_S, tru_Sg, tru_T, tru_Tg, tru_L, tru_Lg, C__law_draw, C__law_numbers] at hw ⊢
  obtain ⟨⟨p1, p2⟩, hw⟩ := hw
  refine ⟨⟨by decide, by decide⟩, fun way _ _ => ⟨⟨by omega, by omega⟩, fun i s => ∃ xs : List Int, s = ((), a1, way, xs, (), (), ()) ∧ xs.length = i ∧ ∀ x ∈ xs, -(2 ^ 70) < x ∧ x < 2 ^ 70, ⟨[], rfl, rfl, by simp⟩, ?_, ?_⟩⟩
  · rintro i x s hx ⟨xs, rfl, hl, hb⟩
    obtain ⟨hi, _⟩ := rng_get hx
    have h3 : sizeLine = 16777216 := rfl
    have hlt : xs.length < sizeLine := by omega
    have step : ∀ y : Int, -(2 ^ 70) < y → y < 2 ^ 70 → xs.length < sizeLine ∧ ∃ xs' : List Int, (((), a1, way, xs ++ [y], (), (), ()) : Unit × Int × Int × List Int × Unit × Unit × Unit) = ((), a1, way, xs', (), (), ()) ∧ xs'.length = i + 1 ∧ ∀ x ∈ xs', -(2 ^ 70) < x ∧ x < 2 ^ 70 := fun y y1 y2 => ⟨hlt, _, rfl, by simp [hl], fun p hp => by
      rcases List.mem_append.mp hp with h | h
      · exact hb p h
      · rw [List.mem_singleton.mp h]; exact ⟨y1, y2⟩⟩
    have four : (CPow 10 20 ∧ CPow 10 20 ∧ CPow 10 9 ∧ (0 < (4 : Int) ∧ (4 : Int) < 2 ^ 90) ∧ ∀ r : Int, 0 ≤ r → r < 4 → ∃ y, L2.atI [10 ^ Int.toNat 20 + 1, 0 - 10 ^ Int.toNat 20, 10 ^ Int.toNat 9 + 7, 0] r = some y ∧ xs.length < sizeLine ∧ ∃ xs' : List Int, (((), a1, way, xs ++ [y], (), (), ()) : Unit × Int × Int × List Int × Unit × Unit × Unit) = ((), a1, way, xs', (), (), ()) ∧ xs'.length = i + 1 ∧ ∀ x ∈ xs', -(2 ^ 70) < x ∧ x < 2 ^ 70) :=
      ⟨⟨by decide, by decide, by decide⟩, ⟨by decide, by decide, by decide⟩, ⟨by decide, by decide, by decide⟩, ⟨by decide, by decide⟩, fun r r0 r1 => pickI r0 r1 fun y hy => by
        have h : -(2 ^ 70) < y ∧ y < 2 ^ 70 := by revert y; decide
        exact step y h.1 h.2⟩
    refine ⟨⟨by decide, by decide⟩, fun r r0 r1 => ?_⟩
    have s3 := step 3 (by decide) (by decide)
    have sr := step (r - 4) (by omega) (by omega)
    exact ⟨fun _ => ⟨fun _ => ⟨⟨by decide, by decide⟩, fun _ _ _ => ⟨fun _ => four, fun _ => s3⟩⟩, fun _ => ⟨fun _ => four, fun _ => s3⟩⟩, fun _ => ⟨fun _ => ⟨⟨by decide, by decide⟩, fun _ _ _ => ⟨fun _ => four, fun _ => sr⟩⟩, fun _ => ⟨fun _ => four, fun _ => sr⟩⟩⟩
  · rintro s ⟨xs, rfl, hl, hb⟩
    rw [rng_len] at hl
    exact hw xs (by omega) hb
@[reducible] def C__law_guess : Ctr := ⟨[.im (tTpl [(tTup (tTpl [tInt, tInt])), tS]), .mu (tList tInt)], tInt, fun a Q E => (fun (a0 : (List ((Int) × (Int) × Unit)) × (List Nat) × Unit) (a1 : List (Int)) => (TapsOk a0.1 ∧ a0.1.length ≤ a1.length) ∧ Q (guess a0.1 a0.2.1 a1) ((), a1, ())) a.1 a.2.1⟩
theorem sc__law_guess : FnScope ["predictor", "known", "total", "k", "tap"] ["predictor", "known"] (defScope s__law_guess) := ⟨rfl, rfl, rfl, by decide +kernel, rfl, by decide +kernel, by decide +kernel⟩
theorem ok__law_guess {f : Addr} {fd : FuncData} (F : Fun K "_law_guess" "_law_guess" s__law_guess f fd) (Z : Bt mg) (D__law_low : Df P w K mg base TB "_law_low" 1 ["a", "b"] C__law_low) (D__law_plus : Df P w K mg base TB "_law_plus" 2 ["a", "b"] C__law_plus) (D__law_rounded : Df P w K mg base TB "_law_rounded" 1 ["rule", "a", "b"] C__law_rounded) : FnOk P w K mg base (L2.CX P w) 3 f fd ["predictor", "known"] (C__law_guess.sp K TB) := by
  refine fn_ty (C := C__law_guess) 3 F sc__law_guess rfl rfl fun cdv A outer s H vs E hr hv => ?_
  obtain ⟨v0, v1, rfl⟩ : ∃ v0 v1, vs = [v0, v1] := by
    match vs, hv with
    | [v0, v1], _ => exact ⟨v0, v1, rfl⟩
  refine ⟨[], _, (ss_cons (Γ1 := [some (tTpl [(tTup (tTpl [tInt, tInt])), tS]), some (tAt v1 (tList tInt)), some (tTpl [tInt, tInt]), none, none]) (sx_set 2 sc__law_guess.nd (ex_tup [tInt, tInt] (pa_cons ex_int (pa_cons ex_int pa_nil))))
    (ss_cons (Γ1 := [some (tTpl [(tTup (tTpl [tInt, tInt])), tS]), some (tAt v1 (tList tInt)), some (tTpl [tInt, tInt]), none, none]) (sx_for (te := tInt) (passes_of rfl) rfl (ix_rng1 Z.range (pa_cons (ex_callB c_lenT Z.len (by decide +kernel) (pa_cons (ex_ix (x_tpl (ts := [(tTup (tTpl [tInt, tInt])), tS]) 0 (by decide)) (ex_var (t := (tTpl [(tTup (tTpl [tInt, tInt])), tS])) 0) ex_int (cj_val (cj_val cj_nil))) pa_nil) (cj_val cj_nil)) pa_nil)) (gx_name 3 sc__law_guess.nd)
    (ss_clr 4 (ss_clr 3 (ss_cons (Γ1 := [some (tTpl [(tTup (tTpl [tInt, tInt])), tS]), some (tAt v1 (tList tInt)), some (tTpl [tInt, tInt]), some tInt, some (tTpl [tInt, tInt])]) (sx_set 4 sc__law_guess.nd (ex_ix x_tup (ex_ix (x_tpl (ts := [(tTup (tTpl [tInt, tInt])), tS]) 0 (by decide)) (ex_var (t := (tTpl [(tTup (tTpl [tInt, tInt])), tS])) 0) ex_int (cj_val (cj_val cj_nil))) (ex_var (t := tInt) 3) (cj_val (cj_val cj_nil))))
    (ss_one (sx_set 2 sc__law_guess.nd (ex_call D__law_plus (hr.mono (by decide)) (takes_of rfl rfl rfl rfl) (pa_cons (ex_var (t := (tTpl [tInt, tInt])) 2) (pa_cons (ex_call D__law_low (hr.mono (by decide)) (takes_of rfl rfl rfl rfl) (pa_cons (ex_bin o_mulA (ex_ix (x_tpl (ts := [tInt, tInt]) 0 (by decide)) (ex_var (t := (tTpl [tInt, tInt])) 4) ex_int (cj_val (cj_val cj_nil))) (ex_ix x_lst (ex_bor 1) (ex_bin o_subI (ex_bin o_subI (ex_callB c_lenL Z.len (by decide +kernel) (pa_cons (ex_bor 1) pa_nil) (cj_borA 1 rfl cj_nil)) ex_int (cj_val (cj_val cj_nil))) (ex_var (t := tInt) 3) (cj_val (cj_val cj_nil))) (cj_borA 1 rfl (cj_val cj_nil))) (cj_val (cj_val cj_nil))) (pa_cons (ex_ix (x_tpl (ts := [tInt, tInt]) 1 (by decide)) (ex_var (t := (tTpl [tInt, tInt])) 4) ex_int (cj_val (cj_val cj_nil))) pa_nil)) (cj_val (cj_val cj_nil))) pa_nil)) (cj_val (cj_val cj_nil)))))))))
    (ss_one (sx_ret (out_im (out_mu out_nil)) (ex_call D__law_rounded (hr.mono (by decide)) (takes_of rfl rfl rfl rfl) (pa_cons (ex_ix (x_tpl (ts := [(tTup (tTpl [tInt, tInt])), tS]) 1 (by decide)) (ex_var (t := (tTpl [(tTup (tTpl [tInt, tInt])), tS])) 0) ex_int (cj_val (cj_val cj_nil))) (pa_cons (ex_ix (x_tpl (ts := [tInt, tInt]) 0 (by decide)) (ex_var (t := (tTpl [tInt, tInt])) 2) ex_int (cj_val (cj_val cj_nil))) (pa_cons (ex_ix (x_tpl (ts := [tInt, tInt]) 1 (by decide)) (ex_var (t := (tTpl [tInt, tInt])) 2) ex_int (cj_val (cj_val cj_nil))) pa_nil))) (cj_val (cj_val (cj_val cj_nil)))))))), ?_⟩
  rintro ⟨(a0 : (List ((Int) × (Int) × Unit)) × (List Nat) × Unit), (a1 : List (Int)), au⟩ Q E hw
  dsimp only [TY.wGuard, TY.wSeq, TY.wPar, TY.wCons, TY.wNil, TY.wApp, TY.wPure, TY.wMv, TY.wWhile, TY.wFor, TY.wTru, TY.wRet, TY.wRetN, TY.wSkip, TY.wSet, TY.wAsg, TY.wIf, TY.wName, TY.wDrop, TY.wBrk, TY.wCnt, TY.wNever, TY.wClr, TY.wPre, TY.wGs, TY.wGs0, TY.wLc, TY.wGen, TY.wOut, TY.wOutA, TY.wPrm, TY.wAug, TY.wCv, TY.wB, TY.wAnd, TY.wOr, TY.wNot, TY.wIfE, TY.wMap, TY.wRng1, TY.wRng2, TY.wSgn, TY.wSome, enR, enN, ini, iniv, none_s, none_v, Cy.set_, Cy.at_, TY.get, TY.put, pbk, cstr, cst, cj_val, cj_tmp, cj_bor, cj_borA, cj_nil, out_im, out_mu, out_nil, pc1, pc2, pm1, pm2, pmm, cI, cIg, cIb, cSb, cS3, prm_id, prm_swap, prm_skip, prm_trans, clr_nil, clr_one, hv, hl_, kv, kr, prj, tyOf, HT2, cv_id, cv_non, cv_someI, cv_someS, cv_someT, cv_dN, cv_dB, cv_dI, cv_dS, cv_dT, cv_dP, cvs_nil, cvs_cons, tAt, tIs, Pm.ty, Ctr.ps, Ctr.r, Ctr.w, tru_I, tru_Ig, tru_S, tru_Sg, tru_T, tru_Tg, tru_L, tru_Lg, C__law_low, C__law_plus, C__law_rounded, C__law_guess] at hw ⊢
  obtain ⟨⟨ok, hl⟩, hw⟩ := hw
  have hp : ∀ p ∈ a0.1, 0 < p.2.1 := fun p h => (ok.ok p h).1
  have hB := den_pos hp
  have h6 := ok.len
  refine ⟨rfl, ⟨by omega, by omega⟩, fun i s => ∃ n d : Int, s = (a0, a1, (n, d, ()), (), (), ()) ∧ 0 < d ∧ d ≤ 1024 ^ i ∧ n * den a0.1 = d * ((List.zipWith (fun x y => x * y) (whole a0.1 (den a0.1)) a1.reverse).take i).sum, ⟨0, 1, rfl, by decide, by decide, by simp⟩, ?_, ?_⟩
  · rintro i x s hx ⟨n, d, rfl, hd, hd2, he⟩
    obtain ⟨hi, hx⟩ := rng_get hx
    obtain rfl : x = (i : Int) := by omega
    have hi1 : i < a0.1.length := by omega
    have hi2 : i < a1.length := by omega
    have hr : i < a1.reverse.length := by simpa using hi2
    have e1 : L2.atI a0.1 (i : Int) = some a0.1[i] := atI_nat (List.getElem?_eq_getElem hi1)
    have e2 : L2.atI a1 ((a1.length : Int) - 1 - (i : Int)) = some a1.reverse[i] := by rw [atI_back2 hi2]; exact List.getElem?_eq_getElem hr
    have hm : a0.1[i] ∈ a0.1 := List.getElem_mem hi1
    obtain ⟨u1, u2, u3, u4⟩ := ok.ok _ hm
    have hd5 : d ≤ 2 ^ 50 := Int.le_trans hd2 (pow_le5 (by omega))
    refine ⟨rfl, a0.1[i], e1, rfl, a1.reverse[i], e2, .inl (.inl ⟨by omega, by omega⟩), rfl, ⟨u1, by omega⟩, fun r1 l1 => ⟨⟨hd, hd5, l1.pos, ?_⟩, fun r2 l2 => ?_⟩⟩
    · have := l1.le; omega
    · refine ⟨r2.1, r2.2.1, rfl, l2.pos, ?_, ?_⟩
      · have q1 := l2.le
        have q2 : d * r1.2.1 ≤ 1024 ^ i * 1024 := Int.mul_le_mul hd2 (by have := l1.le; omega) (by have := l1.pos; omega) (Int.pow_nonneg (by decide))
        rw [Int.pow_succ]
        exact Int.le_trans q1 q2
      · have e3 : (List.zipWith (fun x y => x * y) (whole a0.1 (den a0.1)) a1.reverse)[i]? = some (a0.1[i].1 * (den a0.1 / a0.1[i].2.1) * a1.reverse[i]) := by
          have w1 : (whole a0.1 (den a0.1))[i]? = some (a0.1[i].1 * (den a0.1 / a0.1[i].2.1)) := by simp [whole, hi1]
          rw [List.getElem?_zipWith, w1, List.getElem?_eq_getElem hr]
        rw [take_snoc e3, List.sum_append]
        show r2.1 * den a0.1 = r2.2.1 * (_ + (_ + 0))
        rw [Int.add_zero]
        exact guess_step u1 hB he hd l1.eq l1.pos l2.eq (whole_dvd hp hm)
  · rintro s ⟨n, d, rfl, hd, hd2, he⟩
    rw [rng_len] at hd2 he
    have hd2 : d ≤ 1024 ^ a0.1.length := by rw [Int.toNat_natCast] at hd2; exact hd2
    have h60 : d ≤ 2 ^ 60 := Int.le_trans hd2 (pow_le6 h6)
    have hz : (List.zipWith (fun x y => x * y) (whole a0.1 (den a0.1)) a1.reverse).length = a0.1.length := by simp [whole]; omega
    rw [Int.toNat_natCast, List.take_of_length_le (Nat.le_of_eq hz)] at he
    refine ⟨rfl, rfl, rfl, ⟨hd, by show d < _; omega⟩, ?_⟩
    have e : rnd a0.2.1 n d = guess a0.1 a0.2.1 a1 := rnd_eq hd hB (by rw [he]; exact Int.mul_comm _ _)
    show Q (rnd a0.2.1 n d) _
    rw [e]
    exact hw
@[reducible] def C__law_errors : Ctr := ⟨[.im (tTpl [(tTup (tTpl [tInt, tInt])), tS]), .im (tTup tInt), .im (tTup tInt)], (tTup tInt), fun a Q E => (fun (a0 : (List ((Int) × (Int) × Unit)) × (List Nat) × Unit) (a1 : List (Int)) (a2 : List (Int)) => (TapsOk a0.1 ∧ a0.1.length ≤ a1.length ∧ a1.length + a2.length ≤ 1000) ∧ Q (errsG (guess a0.1 a0.2.1) a1 a2) ((), (), (), ())) a.1 a.2.1 a.2.2.1⟩
theorem sc__law_errors : FnScope ["predictor", "past", "numbers", "known", "found", "number"] ["predictor", "past", "numbers"] (defScope s__law_errors) := ⟨rfl, rfl, rfl, by decide +kernel, rfl, by decide +kernel, by decide +kernel⟩
theorem ok__law_errors {f : Addr} {fd : FuncData} (F : Fun K "_law_errors" "_law_errors" s__law_errors f fd) (Z : Bt mg) (D__law_guess : Df P w K mg base TB "_law_guess" 3 ["predictor", "known"] C__law_guess) : FnOk P w K mg base (L2.CX P w) 4 f fd ["predictor", "past", "numbers"] (C__law_errors.sp K TB) := by
  refine fn_ty (C := C__law_errors) 3 F sc__law_errors rfl rfl fun cdv A outer s H vs E hr hv => ?_
  obtain ⟨v0, v1, v2, rfl⟩ : ∃ v0 v1 v2, vs = [v0, v1, v2] := by
    match vs, hv with
    | [v0, v1, v2], _ => exact ⟨v0, v1, v2, rfl⟩
  refine ⟨[], _, (ss_cons (Γ1 := [some (tTpl [(tTup (tTpl [tInt, tInt])), tS]), some (tTup tInt), some (tTup tInt), some (tList tInt), some (tList tInt), none]) (sx_par 3 4 rfl sc__law_errors.nd (pa_cons (ex_callTy c_listT Z.list (by decide +kernel) (pa_cons (ex_var (t := (tTup tInt)) 1) pa_nil) (cj_val cj_nil)) (pa_cons (ex_list tInt 0 pa_nil) pa_nil)))
    (ss_cons (Γ1 := [some (tTpl [(tTup (tTpl [tInt, tInt])), tS]), some (tTup tInt), some (tTup tInt), some (tList tInt), some (tList tInt), none]) (sx_for (te := tInt) (passes_of rfl) rfl (ix_tup_ (ex_var (t := (tTup tInt)) 2)) (gx_name 5 sc__law_errors.nd)
    (ss_clr 5 (ss_cons (Γ1 := [some (tTpl [(tTup (tTpl [tInt, tInt])), tS]), some (tTup tInt), some (tTup tInt), some (tList tInt), some (tList tInt), some tInt]) (sx_expr (ex_meth m_append PySem.F.plainAttrs_list PySem.F.slot_list_append PySem.F.type_list_append (ex_bor 4) (pa_cons (ex_bin o_subI (ex_var (t := tInt) 5) (ex_call D__law_guess (hr.mono (by decide)) (takes_of rfl rfl rfl rfl) (pa_cons (ex_var (t := (tTpl [(tTup (tTpl [tInt, tInt])), tS])) 0) (pa_cons (ex_bor 3) pa_nil)) (cj_val (cj_bor 3 rfl cj_nil))) (cj_val (cj_val cj_nil))) pa_nil) (cj_bor 4 rfl (cj_val cj_nil)) (fun h sr => ty_lst (i := 4) rfl h sr)))
    (ss_one (sx_expr (ex_meth m_append PySem.F.plainAttrs_list PySem.F.slot_list_append PySem.F.type_list_append (ex_bor 3) (pa_cons (ex_var (t := tInt) 5) pa_nil) (cj_bor 3 rfl (cj_val cj_nil)) (fun h sr => ty_lst (i := 3) rfl h sr)))))))
    (ss_one (sx_ret (out_im (out_im (out_im out_nil))) (ex_callTy c_tupL Z.tuple (by decide +kernel) (pa_cons (ex_bor 4) pa_nil) (cj_bor 4 rfl cj_nil)))))), ?_⟩
  rintro ⟨(a0 : (List ((Int) × (Int) × Unit)) × (List Nat) × Unit), (a1 : List (Int)), (a2 : List (Int)), au⟩ Q E hw
  dsimp only [TY.wGuard, TY.wSeq, TY.wPar, TY.wCons, TY.wNil, TY.wApp, TY.wPure, TY.wMv, TY.wWhile, TY.wFor, TY.wTru, TY.wRet, TY.wRetN, TY.wSkip, TY.wSet, TY.wAsg, TY.wIf, TY.wName, TY.wDrop, TY.wBrk, TY.wCnt, TY.wNever, TY.wClr, TY.wPre, TY.wGs, TY.wGs0, TY.wLc, TY.wGen, TY.wOut, TY.wOutA, TY.wPrm, TY.wAug, TY.wCv, TY.wB, TY.wAnd, TY.wOr, TY.wNot, TY.wIfE, TY.wMap, TY.wRng1, TY.wRng2, TY.wSgn, TY.wSome, enR, enN, ini, iniv, none_s, none_v, Cy.set_, Cy.at_, TY.get, TY.put, pbk, cstr, cst, cj_val, cj_tmp, cj_bor, cj_borA, cj_nil, out_im, out_mu, out_nil, pc1, pc2, pm1, pm2, pmm, cI, cIg, cIb, cSb, cS3, prm_id, prm_swap, prm_skip, prm_trans, clr_nil, clr_one, hv, hl_, kv, kr, prj, tyOf, HT2, cv_id, cv_non, cv_someI, cv_someS, cv_someT, cv_dN, cv_dB, cv_dI, cv_dS, cv_dT, cv_dP, cvs_nil, cvs_cons, tAt, tIs, Pm.ty, Ctr.ps, Ctr.r, Ctr.w, tru_I, tru_Ig, tru_S, tru_Sg, tru_T, tru_Tg, tru_L, tru_Lg, C__law_guess, C__law_errors] at hw ⊢
  obtain ⟨⟨ok, hl, hn⟩, hw⟩ := hw
  have h3 : sizeLine = 16777216 := rfl
  refine ⟨fun i s => s = (a0, a1, a2, a1 ++ a2.take i, errsG (guess a0.1 a0.2.1) a1 (a2.take i), (), ()), ?_, ?_, ?_⟩
  · show _ = (_, _, _, a1 ++ [], [], _, _)
    rw [List.append_nil]
  · rintro i x s hx rfl
    have hi := (List.getElem?_eq_some_iff.mp hx).1
    have h4 : (a2.take i).length = i := by rw [List.length_take]; omega
    refine ⟨⟨ok, ?_⟩, ?_, ?_, ?_⟩
    · show a0.1.length ≤ (a1 ++ a2.take i).length
      rw [List.length_append]; omega
    · show (errsG _ a1 (a2.take i)).length < sizeLine
      rw [errsG_len]; omega
    · show (a1 ++ a2.take i).length < sizeLine
      rw [List.length_append]; omega
    · show (_, _, _, (a1 ++ a2.take i) ++ [x], errsG _ a1 (a2.take i) ++ [x - guess a0.1 a0.2.1 (a1 ++ a2.take i)], _, _) = _
      rw [take_snoc hx, errs_snoc, List.append_assoc]
  · rintro s rfl
    show Q (errsG _ a1 (a2.take a2.length)) _
    rw [List.take_length]
    exact hw
@[reducible] def C__law_read : Ctr := ⟨[.im (tTpl [(tTup (tTpl [tInt, tInt])), tS]), .im (tTup tInt), .im (tTup tInt)], (tTup tInt), fun a Q E => (fun (a0 : (List ((Int) × (Int) × Unit)) × (List Nat) × Unit) (a1 : List (Int)) (a2 : List (Int)) => (TapsOk a0.1 ∧ a0.1.length ≤ a1.length ∧ a1.length + a2.length ≤ 1000) ∧ Q (readG (guess a0.1 a0.2.1) a1 a2) ((), (), (), ())) a.1 a.2.1 a.2.2.1⟩
theorem sc__law_read : FnScope ["predictor", "past", "errors", "known", "error"] ["predictor", "past", "errors"] (defScope s__law_read) := ⟨rfl, rfl, rfl, by decide +kernel, rfl, by decide +kernel, by decide +kernel⟩
theorem ok__law_read {f : Addr} {fd : FuncData} (F : Fun K "_law_read" "_law_read" s__law_read f fd) (Z : Bt mg) (D__law_guess : Df P w K mg base TB "_law_guess" 3 ["predictor", "known"] C__law_guess) : FnOk P w K mg base (L2.CX P w) 4 f fd ["predictor", "past", "errors"] (C__law_read.sp K TB) := by
  refine fn_ty (C := C__law_read) 2 F sc__law_read rfl rfl fun cdv A outer s H vs E hr hv => ?_
  obtain ⟨v0, v1, v2, rfl⟩ : ∃ v0 v1 v2, vs = [v0, v1, v2] := by
    match vs, hv with
    | [v0, v1, v2], _ => exact ⟨v0, v1, v2, rfl⟩
  refine ⟨[], _, (ss_cons (Γ1 := [some (tTpl [(tTup (tTpl [tInt, tInt])), tS]), some (tTup tInt), some (tTup tInt), some (tList tInt), none]) (sx_set 3 sc__law_read.nd (ex_callTy c_listT Z.list (by decide +kernel) (pa_cons (ex_var (t := (tTup tInt)) 1) pa_nil) (cj_val cj_nil)))
    (ss_cons (Γ1 := [some (tTpl [(tTup (tTpl [tInt, tInt])), tS]), some (tTup tInt), some (tTup tInt), some (tList tInt), none]) (sx_for (te := tInt) (passes_of rfl) rfl (ix_tup_ (ex_var (t := (tTup tInt)) 2)) (gx_name 4 sc__law_read.nd)
    (ss_clr 4 (ss_one (sx_expr (ex_meth m_append PySem.F.plainAttrs_list PySem.F.slot_list_append PySem.F.type_list_append (ex_bor 3) (pa_cons (ex_bin o_addI (ex_var (t := tInt) 4) (ex_call D__law_guess (hr.mono (by decide)) (takes_of rfl rfl rfl rfl) (pa_cons (ex_var (t := (tTpl [(tTup (tTpl [tInt, tInt])), tS])) 0) (pa_cons (ex_bor 3) pa_nil)) (cj_val (cj_bor 3 rfl cj_nil))) (cj_val (cj_val cj_nil))) pa_nil) (cj_bor 3 rfl (cj_val cj_nil)) (fun h sr => ty_lst (i := 3) rfl h sr))))))
    (ss_one (sx_ret (out_im (out_im (out_im out_nil))) (ex_callTy c_tupL Z.tuple (by decide +kernel) (pa_cons (ex_slice s_lst (ex_bor 3) (ox_some (ex_callB c_lenT Z.len (by decide +kernel) (pa_cons (ex_var (t := (tTup tInt)) 1) pa_nil) (cj_val cj_nil))) ox_none (cj_bor 3 rfl (cj_val (cj_val cj_nil)))) pa_nil) (cj_tmp cj_nil)))))), ?_⟩
  rintro ⟨(a0 : (List ((Int) × (Int) × Unit)) × (List Nat) × Unit), (a1 : List (Int)), (a2 : List (Int)), au⟩ Q E hw
  dsimp only [TY.wGuard, TY.wSeq, TY.wPar, TY.wCons, TY.wNil, TY.wApp, TY.wPure, TY.wMv, TY.wWhile, TY.wFor, TY.wTru, TY.wRet, TY.wRetN, TY.wSkip, TY.wSet, TY.wAsg, TY.wIf, TY.wName, TY.wDrop, TY.wBrk, TY.wCnt, TY.wNever, TY.wClr, TY.wPre, TY.wGs, TY.wGs0, TY.wLc, TY.wGen, TY.wOut, TY.wOutA, TY.wPrm, TY.wAug, TY.wCv, TY.wB, TY.wAnd, TY.wOr, TY.wNot, TY.wIfE, TY.wMap, TY.wRng1, TY.wRng2, TY.wSgn, TY.wSome, enR, enN, ini, iniv, none_s, none_v, Cy.set_, Cy.at_, TY.get, TY.put, pbk, cstr, cst, cj_val, cj_tmp, cj_bor, cj_borA, cj_nil, out_im, out_mu, out_nil, pc1, pc2, pm1, pm2, pmm, cI, cIg, cIb, cSb, cS3, prm_id, prm_swap, prm_skip, prm_trans, clr_nil, clr_one, hv, hl_, kv, kr, prj, tyOf, HT2, cv_id, cv_non, cv_someI, cv_someS, cv_someT, cv_dN, cv_dB, cv_dI, cv_dS, cv_dT, cv_dP, cvs_nil, cvs_cons, tAt, tIs, Pm.ty, Ctr.ps, Ctr.r, Ctr.w, tru_I, tru_Ig, tru_S, tru_Sg, tru_T, tru_Tg, tru_L, tru_Lg, C__law_guess, C__law_read] at hw ⊢
  obtain ⟨⟨ok, hl, hn⟩, hw⟩ := hw
  have h3 : sizeLine = 16777216 := rfl
  refine ⟨fun i s => s = (a0, a1, a2, a1 ++ readG (guess a0.1 a0.2.1) a1 (a2.take i), (), ()), ?_, ?_, ?_⟩
  · show _ = (_, _, _, a1 ++ [], _, _)
    rw [List.append_nil]
  · rintro i x s hx rfl
    have hi := (List.getElem?_eq_some_iff.mp hx).1
    have h4 : (a2.take i).length = i := by rw [List.length_take]; omega
    refine ⟨⟨ok, ?_⟩, ?_, ?_⟩
    · show a0.1.length ≤ (a1 ++ readG _ a1 (a2.take i)).length
      rw [List.length_append]; omega
    · show (a1 ++ readG _ a1 (a2.take i)).length < sizeLine
      rw [List.length_append, readG_len]; omega
    · show (_, _, _, (a1 ++ readG _ a1 (a2.take i)) ++ [x + guess a0.1 a0.2.1 (a1 ++ readG _ a1 (a2.take i))], _, _) = _
      rw [take_snoc hx, read_snoc, List.append_assoc]
  · rintro s rfl
    show Q (cut (a1 ++ readG _ a1 (a2.take a2.length)) (some (a1.length : Int)) none) _
    rw [List.take_length, cut_from]
    exact hw
@[reducible] def C__law_same (n : Nat) : Ctr := ⟨[.im tD, .im tD], tBool, fun a Q E => (fun (a0 : D) (a1 : D) => (Dd a1 < n ∧ Fit a1) ∧ Q (eqD a0 a1) ((), (), ())) a.1 a.2.1⟩
theorem sc__law_same : FnScope ["actual", "due", "k"] ["actual", "due"] (defScope s__law_same) := ⟨rfl, rfl, rfl, by decide +kernel, rfl, by decide +kernel, by decide +kernel⟩
theorem ok__law_same (n : Nat) {f : Addr} {fd : FuncData} (F : Fun K "_law_same" "_law_same" s__law_same f fd) (Z : Bt mg)  (D__law_same : Df P w K mg base TB "_law_same" (n + 1) ["actual", "due"] (C__law_same n)) : FnOk P w K mg base (L2.CX P w) (n + 1 + 1) f fd ["actual", "due"] ((C__law_same (n + 1)).sp K TB) := by
  refine fn_ty (C := (C__law_same (n + 1))) 1 F sc__law_same rfl rfl fun cdv A outer s H vs E hr hv => ?_
  obtain ⟨v0, v1, rfl⟩ : ∃ v0 v1, vs = [v0, v1] := by
    match vs, hv with
    | [v0, v1], _ => exact ⟨v0, v1, rfl⟩
  refine ⟨[], _, (ss_cons (Γ1 := [some tD, some tD, none]) (sx_if (tx_val (ex_callB (c_isi "tuple" D.isT kit_T) Z.isinstance (by decide +kernel) (pa_cons (ex_var (t := tD) 1) (pa_cons (ex_typ (T := "tuple") Z.tuple (by decide +kernel)) pa_nil)) (cj_val (cj_val cj_nil))))
    (ss_cons (Γ1 := [some tD, some tD, none]) (sx_if ((tw_or (tx_not (tx_val (ex_callB (c_isi "tuple" D.isT kit_T) Z.isinstance (by decide +kernel) (pa_cons (ex_var (t := tD) 0) (pa_cons (ex_typ (T := "tuple") Z.tuple (by decide +kernel)) pa_nil)) (cj_val (cj_val cj_nil))))) (tw_or1 (tx_cmp o_neI (ex_callB c_lenD Z.len (by decide +kernel) (pa_cons (ex_var (t := tD) 0) pa_nil) (cj_val cj_nil)) (ex_callB c_lenD Z.len (by decide +kernel) (pa_cons (ex_var (t := tD) 1) pa_nil) (cj_val cj_nil)) (cj_val (cj_val cj_nil)))))).tx
    (ss_one (sx_ret (out_im (out_im out_nil)) ex_bl))
    ss_nil)
    (ss_cons (Γ1 := [some tD, some tD, none]) (sx_for (te := tInt) (passes_of rfl) rfl (ix_rng1 Z.range (pa_cons (ex_callB c_lenD Z.len (by decide +kernel) (pa_cons (ex_var (t := tD) 1) pa_nil) (cj_val cj_nil)) pa_nil)) (gx_name 2 sc__law_same.nd)
    (ss_clr 2 (ss_one (sx_if (tx_not (tx_val (ex_call D__law_same (hr.mono (by omega)) (takes_of rfl rfl rfl rfl) (pa_cons (ex_ix x_D (ex_var (t := tD) 0) (ex_var (t := tInt) 2) (cj_val (cj_val cj_nil))) (pa_cons (ex_ix x_D (ex_var (t := tD) 1) (ex_var (t := tInt) 2) (cj_val (cj_val cj_nil))) pa_nil)) (cj_val (cj_val cj_nil)))))
    (ss_one (sx_ret (out_im (out_im out_nil)) ex_bl))
    ss_nil))))
    (ss_one (sx_ret (out_im (out_im out_nil)) ex_bl))))
    ss_nil)
    (ss_cons (Γ1 := [some tD, some tD, none]) (sx_if (tx_cmp o_isND (ex_var (t := tD) 1) ex_non (cj_val (cj_val cj_nil)))
    (ss_one (sx_ret (out_im (out_im out_nil)) (ex_cmp o_isND (ex_var (t := tD) 0) ex_non (cj_val (cj_val cj_nil)))))
    ss_nil)
    (ss_cons (Γ1 := [some tD, some tD, none]) (sx_if (tx_val (ex_callB (c_isi "bool" D.isB kit_B) Z.isinstance (by decide +kernel) (pa_cons (ex_var (t := tD) 1) (pa_cons (ex_typ (T := "bool") Z.bool (by decide +kernel)) pa_nil)) (cj_val (cj_val cj_nil))))
    (ss_one (sx_ret (out_im (out_im out_nil)) (ex_and (ex_callB (c_isi "bool" D.isB kit_B) Z.isinstance (by decide +kernel) (pa_cons (ex_var (t := tD) 0) (pa_cons (ex_typ (T := "bool") Z.bool (by decide +kernel)) pa_nil)) (cj_val (cj_val cj_nil))) (ex_one (ex_cmp o_eqF (ex_var (t := tD) 0) (ex_var (t := tD) 1) (cj_val (cj_val cj_nil)))))))
    ss_nil)
    (ss_cons (Γ1 := [some tD, some tD, none]) (sx_if (tx_val (ex_callB (c_isi "str" D.isS kit_S) Z.isinstance (by decide +kernel) (pa_cons (ex_var (t := tD) 1) (pa_cons (ex_typ (T := "str") Z.str (by decide +kernel)) pa_nil)) (cj_val (cj_val cj_nil))))
    (ss_one (sx_ret (out_im (out_im out_nil)) (ex_and (ex_callB (c_isi "str" D.isS kit_S) Z.isinstance (by decide +kernel) (pa_cons (ex_var (t := tD) 0) (pa_cons (ex_typ (T := "str") Z.str (by decide +kernel)) pa_nil)) (cj_val (cj_val cj_nil))) (ex_one (ex_cmp o_eqF (ex_var (t := tD) 0) (ex_var (t := tD) 1) (cj_val (cj_val cj_nil)))))))
    ss_nil)
    (ss_one (sx_ret (out_im (out_im out_nil)) (ex_and (ex_callB (c_isi "int" D.isI kit_I) Z.isinstance (by decide +kernel) (pa_cons (ex_var (t := tD) 0) (pa_cons (ex_typ (T := "int") Z.int (by decide +kernel)) pa_nil)) (cj_val (cj_val cj_nil))) (ex_and (ex_not (ex_callB (c_isi "bool" D.isB kit_B) Z.isinstance (by decide +kernel) (pa_cons (ex_var (t := tD) 0) (pa_cons (ex_typ (T := "bool") Z.bool (by decide +kernel)) pa_nil)) (cj_val (cj_val cj_nil)))) (ex_one (ex_cmp o_eqF (ex_var (t := tD) 0) (ex_var (t := tD) 1) (cj_val (cj_val cj_nil)))))))))))), ?_⟩
  rintro ⟨(a0 : D), (a1 : D), au⟩ Q E hw
  dsimp only [TY.wGuard, TY.wSeq, TY.wPar, TY.wCons, TY.wNil, TY.wApp, TY.wPure, TY.wMv, TY.wWhile, TY.wFor, TY.wTru, TY.wRet, TY.wRetN, TY.wSkip, TY.wSet, TY.wAsg, TY.wIf, TY.wName, TY.wDrop, TY.wBrk, TY.wCnt, TY.wNever, TY.wClr, TY.wPre, TY.wGs, TY.wGs0, TY.wLc, TY.wGen, TY.wOut, TY.wOutA, TY.wPrm, TY.wAug, TY.wCv, TY.wB, TY.wAnd, TY.wOr, TY.wNot, TY.wIfE, TY.wMap, TY.wRng1, TY.wRng2, TY.wSgn, TY.wSome, enR, enN, ini, iniv, none_s, none_v, Cy.set_, Cy.at_, TY.get, TY.put, pbk, cstr, cst, cj_val, cj_tmp, cj_bor, cj_borA, cj_nil, out_im, out_mu, out_nil, pc1, pc2, pm1, pm2, pmm, cI, cIg, cIb, cSb, cS3, prm_id, prm_swap, prm_skip, prm_trans, clr_nil, clr_one, hv, hl_, kv, kr, prj, tyOf, HT2, cv_id, cv_non, cv_someI, cv_someS, cv_someT, cv_dN, cv_dB, cv_dI, cv_dS, cv_dT, cv_dP, cvs_nil, cvs_cons, tAt, tIs, Pm.ty, Ctr.ps, Ctr.r, Ctr.w, tru_I, tru_Ig, tru_S, tru_Sg, tru_T, tru_Tg, tru_L, tru_Lg, C__law_same] at hw ⊢
  obtain ⟨⟨hd, hf⟩, hw⟩ := hw
  have h1 : a0 = a1 → Q true ((), (), ()) := fun e => by rw [eqD_of e] at hw; exact hw
  have h2 : a0 ≠ a1 → Q false ((), (), ()) := fun e => by rw [eqD_ne e] at hw; exact hw
  have no : ∀ {p : Prop}, true = false → p := fun z => by cases z
  cases a1 with
  | tup ds =>
    have hds : Dds ds < n := Nat.lt_of_succ_lt_succ hd
    obtain ⟨hl, hfs⟩ : ds.length < 1000000 ∧ Fits ds := hf
    refine ⟨fun _ => ⟨fun z => ?_, fun z => ⟨fun _ => h2 ?_, no⟩⟩, no⟩
    · obtain ⟨as, rfl⟩ : ∃ as, a0 = .tup as := by cases a0 <;> first | exact ⟨_, rfl⟩ | cases z
      refine ⟨as, rfl, ds, rfl, fun e => h2 ?_, fun e => ⟨ds, rfl, ⟨by omega, by omega⟩, fun i s => s = (.tup as, .tup ds, (), ()) ∧ ∀ j, j < i → as[j]? = ds[j]?, ⟨rfl, by omega⟩, ?_, ?_⟩⟩
      · intro e'
        cases e'
        simp at e
      · rintro i x s hx ⟨rfl, hj⟩
        obtain ⟨hi, hx⟩ := rng_get hx
        obtain rfl : x = (i : Int) := by omega
        have hl' : as.length = ds.length := by
          have e' : ¬ ¬ ((as.length : Int) = ds.length) := by simpa using e
          omega
        have i2 : i < ds.length := by omega
        have i1 : i < as.length := by omega
        refine ⟨as, as[i], rfl, atI_nat (List.getElem?_eq_getElem i1), ds, ds[i], rfl, atI_nat (List.getElem?_eq_getElem i2), ⟨Nat.lt_of_le_of_lt (dd_mem (List.getElem_mem i2)) hds, fit_mem hfs (List.getElem_mem i2)⟩, fun q => h2 ?_, fun q => ⟨rfl, fun j hj' => ?_⟩⟩
        rotate_left
        · have q : as[i] = ds[i] := Classical.byContradiction fun n => by rw [eqD_ne n] at q; cases q
          by_cases h : j = i
          · subst h
            rw [List.getElem?_eq_getElem i1, List.getElem?_eq_getElem i2, q]
          · exact hj j (by omega)
        · intro e'
          cases e'
          rw [eqD_self] at q
          cases q
      · rintro s ⟨rfl, hj⟩
        rw [rng_len, Int.toNat_natCast] at hj
        have hl' : as.length = ds.length := by
          have e' : ¬ ¬ ((as.length : Int) = ds.length) := by simpa using e
          omega
        refine h1 (congrArg D.tup (List.ext_getElem? fun j => ?_))
        by_cases h : j < ds.length
        · exact hj j h
        · rw [List.getElem?_eq_none (by omega), List.getElem?_eq_none (by omega)]
    · intro e
      rw [e] at z
      cases z
  | _ =>
    refine ⟨fun z => (by cases z), fun _ => ?_⟩
    cases a0 <;> simp_all [D.isT, D.isN, D.isB, D.isS, D.isI, D.like]
theorem C__law_same_no {vs : List V} {H : Hp} {Q : VK} {E : XK} (z : (C__law_same 0).sp K TB vs H Q E) : False := by
  obtain ⟨as, F, Qt, Et, _, _, ⟨⟨h, _⟩, _⟩, _⟩ := z
  exact absurd h (Nat.not_lt_zero _)
@[reducible] def C__law_start : Ctr := ⟨[.im (tRo tInt)], tBag, fun a Q E => (fun (a0 : List (Int)) => a0.length ≤ 63 ∧ Q () ((), ())) a.1⟩
theorem sc__law_start : FnScope ["script", "bag", "cell"] ["script"] (defScope s__law_start) := ⟨rfl, rfl, rfl, by decide +kernel, rfl, by decide +kernel, by decide +kernel⟩
theorem ok__law_start {f : Addr} {fd : FuncData} (F : Fun K "_law_start" "_law_start" s__law_start f fd) (Z : Bt mg) (D__law_draw : Df P w K mg base TB "_law_draw" 2 ["bag", "limit"] C__law_draw) : FnOk P w K mg base (L2.CX P w) 3 f fd ["script"] (C__law_start.sp K TB) := by
  refine fn_ty (C := C__law_start) 2 F sc__law_start rfl rfl fun cdv A outer s H vs E hr hv => ?_
  obtain ⟨v0, rfl⟩ : ∃ v0, vs = [v0] := by
    match vs, hv with
    | [v0], _ => exact ⟨v0, rfl⟩
  refine ⟨[], _, (ss_cons (Γ1 := [some (tRo tInt), some tBag, none]) (sx_set 1 sc__law_start.nd (ex_bagNew (pa_cons (ex_callTy c_listR Z.list (by decide +kernel) (pa_cons (ex_var (t := (tRo tInt)) 0) pa_nil) (cj_val cj_nil)) (pa_cons ex_int (pa_cons ex_int (pa_cons ex_int (pa_cons ex_int (pa_cons ex_int (pa_cons (ex_lc (te := tInt) (tr := tInt) [("cell", 2)] rfl sc__law_start.nd (iy_of (ix_ro (ex_var (t := (tRo tInt)) 0))) (blkOk_by (N := ["script", "bag", "cell"]) (sc := defScope s__law_start) (by decide +kernel)) (fun _ _ _ _ _ => (gx_name 2 sc__law_start.nd)) (fun _ _ _ _ _ => txs_nil) (fun _ _ _ _ _ => (ex_bin o_modP (ex_callTy c_intI Z.int (by decide +kernel) (pa_cons (ex_var (t := tInt) 2) pa_nil) (cj_val cj_nil)) ex_int (cj_val (cj_val cj_nil)))) (clr_one 2 clr_nil)) pa_nil)))))))))
    (ss_cons (Γ1 := [some (tRo tInt), some tBag, none]) (sx_if ((tw_or (tx_cmp o_eqI (ex_callB c_lenR Z.len (by decide +kernel) (pa_cons (ex_var (t := (tRo tInt)) 0) pa_nil) (cj_val cj_nil)) ex_int (cj_val (cj_val cj_nil))) (tw_or1 (tx_cmp o_eqI (ex_bin o_modP (ex_callTy c_intI Z.int (by decide +kernel) (pa_cons (ex_ix x_ro (ex_var (t := (tRo tInt)) 0) ex_int (cj_val (cj_val cj_nil))) pa_nil) (cj_val cj_nil)) ex_int (cj_val (cj_val cj_nil))) ex_int (cj_val (cj_val cj_nil)))))).tx
    (ss_one (sx_asg ex_int (gx_bagU 1 4 (by decide))))
    ss_nil)
    (ss_cons (Γ1 := [some (tRo tInt), some tBag, none]) (sx_expr (ex_call D__law_draw (hr.mono (by decide)) (takes_of rfl rfl rfl rfl) (pa_cons (ex_bor 1) (pa_cons ex_int pa_nil)) (cj_bor 1 rfl (cj_val cj_nil))))
    (ss_one (sx_ret (out_im out_nil) (ex_mv (t := tBag) 1)))))), ?_⟩
  rintro ⟨(a0 : List (Int)), au⟩ Q E hw
  dsimp only [TY.wGuard, TY.wSeq, TY.wPar, TY.wCons, TY.wNil, TY.wApp, TY.wPure, TY.wMv, TY.wWhile, TY.wFor, TY.wTru, TY.wRet, TY.wRetN, TY.wSkip, TY.wSet, TY.wAsg, TY.wIf, TY.wName, TY.wDrop, TY.wBrk, TY.wCnt, TY.wNever, TY.wClr, TY.wPre, TY.wGs, TY.wGs0, TY.wLc, TY.wGen, TY.wOut, TY.wOutA, TY.wPrm, TY.wAug, TY.wCv, TY.wB, TY.wAnd, TY.wOr, TY.wNot, TY.wIfE, TY.wMap, TY.wRng1, TY.wRng2, TY.wSgn, TY.wSome, enR, enN, ini, iniv, none_s, none_v, Cy.set_, Cy.at_, TY.get, TY.put, pbk, cstr, cst, cj_val, cj_tmp, cj_bor, cj_borA, cj_nil, out_im, out_mu, out_nil, pc1, pc2, pm1, pm2, pmm, cI, cIg, cIb, cSb, cS3, prm_id, prm_swap, prm_skip, prm_trans, clr_nil, clr_one, hv, hl_, kv, kr, prj, tyOf, HT2, cv_id, cv_non, cv_someI, cv_someS, cv_someT, cv_dN, cv_dB, cv_dI, cv_dS, cv_dT, cv_dP, cvs_nil, cvs_cons, tAt, tIs, Pm.ty, Ctr.ps, Ctr.r, Ctr.w, tru_I, tru_Ig, tru_S, tru_Sg, tru_T, tru_Tg, tru_L, tru_Lg, C__law_draw, C__law_start] at hw ⊢
  obtain ⟨hl, hw⟩ := hw
  have h3 : sizeLine = 16777216 := rfl
  have q : (0 < (2 : Int) ∧ (2 : Int) < 2 ^ 90) ∧ ∀ r : Int, 0 ≤ r → r < 2 → Q () ((), ()) := ⟨⟨by decide, by decide⟩, fun _ _ _ => hw⟩
  refine ⟨by omega, fun i acc s => s = (a0, (), (), ()) ∧ acc.length = i, ⟨rfl, rfl⟩, ?_, ?_⟩
  · rintro i x acc s hx ⟨rfl, rfl⟩
    exact ⟨fun _ => ⟨by decide, rfl, by simp⟩, fun z => by cases z⟩
  · rintro acc s ⟨rfl, hacc⟩ _
    refine ⟨⟨by decide, hacc⟩, fun h => ?_, fun _ => ⟨fun _ => q, fun _ => q⟩⟩
    have h' : ¬ ((a0.length : Int) = 0) := of_decide_eq_false h
    obtain ⟨y, hy⟩ := atI_ok (xs := a0) (i := 0) (by decide) (by omega)
    exact ⟨y, hy, by decide, fun _ => q, fun _ => q⟩
end
end K48

set_option Elab.async false
set_option linter.all false
set_option maxRecDepth 100000
set_option maxHeartbeats 4000000
namespace K48
namespace LW
open PySem L2 TY TX
abbrev s_law : Stmt := top 23
section
variable {P : Program} {w : World} {K : PySem.W.Frag} {mg : Str → Option Value} {base : Heap} {TB : Addr → Prop}
instance : Imm (tRo tInt) := imm_ro
instance : Imm (tTpl [tInt, tInt]) := (imm_tpl (imms_cons imm_flat (imms_cons imm_flat imms_nil)))
instance : Imm (tTup (tTpl [tInt, tInt])) := imm_tup
instance : Imm (tTpl [(tTup (tTpl [tInt, tInt])), tS]) := (imm_tpl (imms_cons imm_tup (imms_cons imm_flat imms_nil)))
instance : Imm (tTup tInt) := imm_tup
@[reducible] def C_law : Ctr := ⟨[.im (tRo tInt)], tBool, fun a Q E => (fun (a0 : List (Int)) => a0.length ≤ 63 ∧ Q true ((), ())) a.1⟩
theorem sc_law : FnScope ["script", "bag", "trip", "predictor", "past", "numbers", "kept", "due", "errors", "read"] ["script"] (defScope s_law) := ⟨rfl, rfl, rfl, by decide +kernel, rfl, by decide +kernel, by decide +kernel⟩
theorem ok_law {f : Addr} {fd : FuncData} (F : Fun K "law" "law" s_law f fd) (Z : Bt mg) (D__law_start : Df P w K mg base TB "_law_start" 3 ["script"] C__law_start) (D__law_predictor : Df P w K mg base TB "_law_predictor" 3 ["bag"] C__law_predictor) (D__law_numbers : Df P w K mg base TB "_law_numbers" 3 ["bag", "many"] C__law_numbers) (D__law_draw : Df P w K mg base TB "_law_draw" 2 ["bag", "limit"] C__law_draw) (D__law_errors : Df P w K mg base TB "_law_errors" 4 ["predictor", "past", "numbers"] C__law_errors) (D_errors_of : Df P w K mg base TB "errors_of" 4 ["predictor", "past", "numbers"] C_errors_of) (D__law_same : Df P w K mg base TB "_law_same" 3 ["actual", "due"] (C__law_same 2)) (K_errors_of_numbers_past_predictor : DfK P w K mg base TB "errors_of" 4 ["predictor", "past", "numbers"] ["numbers", "past", "predictor"] (fun {_} l => (sw2 (sk1 (fun l => (sw2 l)) (sw2 l)))) C_errors_of) (D_read_back : Df P w K mg base TB "read_back" 4 ["predictor", "past", "errors"] C_read_back) (D__law_read : Df P w K mg base TB "_law_read" 4 ["predictor", "past", "errors"] C__law_read) (K_read_back_errors_past_predictor : DfK P w K mg base TB "read_back" 4 ["predictor", "past", "errors"] ["errors", "past", "predictor"] (fun {_} l => (sw2 (sk1 (fun l => (sw2 l)) (sw2 l)))) C_read_back) : FnG P w K mg base 5 f fd ["script"] (C_law.sp K TB) := by
  refine fn_tyG (C := C_law) 9 F sc_law rfl rfl fun cdv A outer s H vs E hgu hr hv => ?_
  obtain ⟨v0, rfl⟩ : ∃ v0, vs = [v0] := by
    match vs, hv with
    | [v0], _ => exact ⟨v0, rfl⟩
  refine ⟨[], _, (ss_cons (Γ1 := [some (tRo tInt), some tBag, none, none, none, none, none, none, none, none]) (sx_set 1 sc_law.nd (ex_call D__law_start (hr.mono (by decide)) (takes_of rfl rfl rfl rfl) (pa_cons (ex_var (t := (tRo tInt)) 0) pa_nil) (cj_val cj_nil)))
    (ss_cons (Γ1 := [some (tRo tInt), some tBag, none, none, none, none, none, none, none, none]) (sx_for (te := tInt) (passes_of rfl) rfl (ix_rng1 Z.range (pa_cons ex_int pa_nil)) (gx_name 2 sc_law.nd)
    (ss_clr 9 (ss_clr 8 (ss_clr 7 (ss_clr 6 (ss_clr 5 (ss_clr 4 (ss_clr 3 (ss_clr 2 (ss_cons (Γ1 := [some (tRo tInt), some tBag, some tInt, some (tTpl [(tTup (tTpl [tInt, tInt])), tS]), none, none, none, none, none, none]) (sx_set 3 sc_law.nd (ex_call D__law_predictor (hr.mono (by decide)) (takes_of rfl rfl rfl rfl) (pa_cons (ex_bor 1) pa_nil) (cj_bor 1 rfl cj_nil)))
    (ss_cons (Γ1 := [some (tRo tInt), some tBag, some tInt, some (tTpl [(tTup (tTpl [tInt, tInt])), tS]), some (tTup tInt), none, none, none, none, none]) (sx_set 4 sc_law.nd (ex_call D__law_numbers (hr.mono (by decide)) (takes_of rfl rfl rfl rfl) (pa_cons (ex_bor 1) (pa_cons (ex_callB c_lenT Z.len (by decide +kernel) (pa_cons (ex_ix (x_tpl (ts := [(tTup (tTpl [tInt, tInt])), tS]) 0 (by decide)) (ex_var (t := (tTpl [(tTup (tTpl [tInt, tInt])), tS])) 3) ex_int (cj_val (cj_val cj_nil))) pa_nil) (cj_val cj_nil)) pa_nil)) (cj_bor 1 rfl (cj_val cj_nil))))
    (ss_cons (Γ1 := [some (tRo tInt), some tBag, some tInt, some (tTpl [(tTup (tTpl [tInt, tInt])), tS]), some (tTup tInt), some (tTup tInt), none, none, none, none]) (sx_set 5 sc_law.nd (ex_call D__law_numbers (hr.mono (by decide)) (takes_of rfl rfl rfl rfl) (pa_cons (ex_bor 1) (pa_cons (ex_if (tx_cmp o_eqI (ex_call D__law_draw (hr.mono (by decide)) (takes_of rfl rfl rfl rfl) (pa_cons (ex_bor 1) (pa_cons ex_int pa_nil)) (cj_bor 1 rfl (cj_val cj_nil))) ex_int (cj_val (cj_val cj_nil))) ex_int (ex_call D__law_draw (hr.mono (by decide)) (takes_of rfl rfl rfl rfl) (pa_cons (ex_bor 1) (pa_cons ex_int pa_nil)) (cj_bor 1 rfl (cj_val cj_nil)))) pa_nil)) (cj_bor 1 rfl (cj_val cj_nil))))
    (ss_cons (Γ1 := [some (tRo tInt), some tBag, some tInt, some (tTpl [(tTup (tTpl [tInt, tInt])), tS]), some (tTup tInt), some (tTup tInt), some tS, none, none, none]) (sx_set 6 sc_law.nd (ex_callB (c_repr hgu hr.units) Z.repr (by decide +kernel) (pa_cons (ex_list tD 3 (pa_cons (ex_cv (cv_dP (cvs_cons (cv_dT (cv_dP (cvs_cons cv_dI (cvs_cons cv_dI cvs_nil)))) (cvs_cons cv_dS cvs_nil))) (ex_var (t := (tTpl [(tTup (tTpl [tInt, tInt])), tS])) 3)) (pa_cons (ex_cv (cv_dT cv_dI) (ex_var (t := (tTup tInt)) 4)) (pa_cons (ex_cv (cv_dT cv_dI) (ex_var (t := (tTup tInt)) 5)) pa_nil)))) pa_nil) (cj_val cj_nil)))
    (ss_cons (Γ1 := [some (tRo tInt), some tBag, some tInt, some (tTpl [(tTup (tTpl [tInt, tInt])), tS]), some (tTup tInt), some (tTup tInt), some tS, some (tTup tInt), none, none]) (sx_set 7 sc_law.nd (ex_call D__law_errors (hr.mono (by decide)) (takes_of rfl rfl rfl rfl) (pa_cons (ex_var (t := (tTpl [(tTup (tTpl [tInt, tInt])), tS])) 3) (pa_cons (ex_var (t := (tTup tInt)) 4) (pa_cons (ex_var (t := (tTup tInt)) 5) pa_nil))) (cj_val (cj_val (cj_val cj_nil)))))
    (ss_cons (Γ1 := [some (tRo tInt), some tBag, some tInt, some (tTpl [(tTup (tTpl [tInt, tInt])), tS]), some (tTup tInt), some (tTup tInt), some tS, some (tTup tInt), none, none]) (sx_guard (tx_not (tx_val (ex_call D__law_same (hr.mono (by decide)) (takes_of rfl rfl rfl rfl) (pa_cons (ex_cv (cv_dT cv_dI) (ex_call D_errors_of (hr.mono (by decide)) (takes_of rfl rfl rfl rfl) (pa_cons (ex_var (t := (tTpl [(tTup (tTpl [tInt, tInt])), tS])) 3) (pa_cons (ex_var (t := (tTup tInt)) 4) (pa_cons (ex_var (t := (tTup tInt)) 5) pa_nil))) (cj_val (cj_val (cj_val cj_nil))))) (pa_cons (ex_cv (cv_dT cv_dI) (ex_var (t := (tTup tInt)) 7)) pa_nil)) (cj_val (cj_val cj_nil))))))
    (ss_cons (Γ1 := [some (tRo tInt), some tBag, some tInt, some (tTpl [(tTup (tTpl [tInt, tInt])), tS]), some (tTup tInt), some (tTup tInt), some tS, some (tTup tInt), none, none]) (sx_guard (tx_not (tx_val (ex_call D__law_same (hr.mono (by decide)) (takes_of rfl rfl rfl rfl) (pa_cons (ex_cv (cv_dT cv_dI) (ex_callK (prm_trans prm_swap (prm_trans (prm_skip prm_swap) prm_swap)) K_errors_of_numbers_past_predictor (hr.mono (by decide)) (takes_of rfl rfl rfl rfl) (pk_cons_ (ex_var (t := (tTup tInt)) 5) (pk_cons_ (ex_var (t := (tTup tInt)) 4) (pk_cons_ (ex_var (t := (tTpl [(tTup (tTpl [tInt, tInt])), tS])) 3) pk_nil_))) (cj_val (cj_val (cj_val cj_nil))))) (pa_cons (ex_cv (cv_dT cv_dI) (ex_var (t := (tTup tInt)) 7)) pa_nil)) (cj_val (cj_val cj_nil))))))
    (ss_cons (Γ1 := [some (tRo tInt), some tBag, some tInt, some (tTpl [(tTup (tTpl [tInt, tInt])), tS]), some (tTup tInt), some (tTup tInt), some tS, some (tTup tInt), none, none]) (sx_guard (tx_not (tx_val (ex_call D__law_same (hr.mono (by decide)) (takes_of rfl rfl rfl rfl) (pa_cons (ex_cv (cv_dT cv_dI) (ex_call D_read_back (hr.mono (by decide)) (takes_of rfl rfl rfl rfl) (pa_cons (ex_var (t := (tTpl [(tTup (tTpl [tInt, tInt])), tS])) 3) (pa_cons (ex_var (t := (tTup tInt)) 4) (pa_cons (ex_var (t := (tTup tInt)) 7) pa_nil))) (cj_val (cj_val (cj_val cj_nil))))) (pa_cons (ex_cv (cv_dT cv_dI) (ex_var (t := (tTup tInt)) 5)) pa_nil)) (cj_val (cj_val cj_nil))))))
    (ss_cons (Γ1 := [some (tRo tInt), some tBag, some tInt, some (tTpl [(tTup (tTpl [tInt, tInt])), tS]), some (tTup tInt), some (tTup tInt), some tS, some (tTup tInt), some (tTup tInt), none]) (sx_set 8 sc_law.nd (ex_call D__law_numbers (hr.mono (by decide)) (takes_of rfl rfl rfl rfl) (pa_cons (ex_bor 1) (pa_cons (ex_call D__law_draw (hr.mono (by decide)) (takes_of rfl rfl rfl rfl) (pa_cons (ex_bor 1) (pa_cons ex_int pa_nil)) (cj_bor 1 rfl (cj_val cj_nil))) pa_nil)) (cj_bor 1 rfl (cj_val cj_nil))))
    (ss_cons (Γ1 := [some (tRo tInt), some tBag, some tInt, some (tTpl [(tTup (tTpl [tInt, tInt])), tS]), some (tTup tInt), some (tTup tInt), some tS, some (tTup tInt), some (tTup tInt), some (tTup tInt)]) (sx_set 9 sc_law.nd (ex_call D__law_read (hr.mono (by decide)) (takes_of rfl rfl rfl rfl) (pa_cons (ex_var (t := (tTpl [(tTup (tTpl [tInt, tInt])), tS])) 3) (pa_cons (ex_var (t := (tTup tInt)) 4) (pa_cons (ex_var (t := (tTup tInt)) 8) pa_nil))) (cj_val (cj_val (cj_val cj_nil)))))
    (ss_cons (Γ1 := [some (tRo tInt), some tBag, some tInt, some (tTpl [(tTup (tTpl [tInt, tInt])), tS]), some (tTup tInt), some (tTup tInt), some tS, some (tTup tInt), some (tTup tInt), some (tTup tInt)]) (sx_guard (tx_not (tx_val (ex_call D__law_same (hr.mono (by decide)) (takes_of rfl rfl rfl rfl) (pa_cons (ex_cv (cv_dT cv_dI) (ex_callK (prm_trans prm_swap (prm_trans (prm_skip prm_swap) prm_swap)) K_read_back_errors_past_predictor (hr.mono (by decide)) (takes_of rfl rfl rfl rfl) (pk_cons_ (ex_var (t := (tTup tInt)) 8) (pk_cons_ (ex_var (t := (tTup tInt)) 4) (pk_cons_ (ex_var (t := (tTpl [(tTup (tTpl [tInt, tInt])), tS])) 3) pk_nil_))) (cj_val (cj_val (cj_val cj_nil))))) (pa_cons (ex_cv (cv_dT cv_dI) (ex_var (t := (tTup tInt)) 9)) pa_nil)) (cj_val (cj_val cj_nil))))))
    (ss_cons (Γ1 := [some (tRo tInt), some tBag, some tInt, some (tTpl [(tTup (tTpl [tInt, tInt])), tS]), some (tTup tInt), some (tTup tInt), some tS, some (tTup tInt), some (tTup tInt), some (tTup tInt)]) (sx_guard (tx_not (tx_val (ex_call D__law_same (hr.mono (by decide)) (takes_of rfl rfl rfl rfl) (pa_cons (ex_cv (cv_dT cv_dI) (ex_call D_read_back (hr.mono (by decide)) (takes_of rfl rfl rfl rfl) (pa_cons (ex_var (t := (tTpl [(tTup (tTpl [tInt, tInt])), tS])) 3) (pa_cons (ex_var (t := (tTup tInt)) 4) (pa_cons (ex_var (t := (tTup tInt)) 8) pa_nil))) (cj_val (cj_val (cj_val cj_nil))))) (pa_cons (ex_cv (cv_dT cv_dI) (ex_var (t := (tTup tInt)) 9)) pa_nil)) (cj_val (cj_val cj_nil))))))
    (ss_cons (Γ1 := [some (tRo tInt), some tBag, some tInt, some (tTpl [(tTup (tTpl [tInt, tInt])), tS]), some (tTup tInt), some (tTup tInt), some tS, some (tTup tInt), some (tTup tInt), some (tTup tInt)]) (sx_guard (tx_not (tx_val (ex_call D__law_same (hr.mono (by decide)) (takes_of rfl rfl rfl rfl) (pa_cons (ex_cv (cv_dT cv_dI) (ex_call D_errors_of (hr.mono (by decide)) (takes_of rfl rfl rfl rfl) (pa_cons (ex_var (t := (tTpl [(tTup (tTpl [tInt, tInt])), tS])) 3) (pa_cons (ex_var (t := (tTup tInt)) 4) (pa_cons (ex_call D_read_back (hr.mono (by decide)) (takes_of rfl rfl rfl rfl) (pa_cons (ex_var (t := (tTpl [(tTup (tTpl [tInt, tInt])), tS])) 3) (pa_cons (ex_var (t := (tTup tInt)) 4) (pa_cons (ex_var (t := (tTup tInt)) 8) pa_nil))) (cj_val (cj_val (cj_val cj_nil)))) pa_nil))) (cj_val (cj_val (cj_val cj_nil))))) (pa_cons (ex_cv (cv_dT cv_dI) (ex_var (t := (tTup tInt)) 8)) pa_nil)) (cj_val (cj_val cj_nil))))))
    (ss_one (sx_guard (tx_cmp o_neS (ex_callB (c_repr hgu hr.units) Z.repr (by decide +kernel) (pa_cons (ex_list tD 3 (pa_cons (ex_cv (cv_dP (cvs_cons (cv_dT (cv_dP (cvs_cons cv_dI (cvs_cons cv_dI cvs_nil)))) (cvs_cons cv_dS cvs_nil))) (ex_var (t := (tTpl [(tTup (tTpl [tInt, tInt])), tS])) 3)) (pa_cons (ex_cv (cv_dT cv_dI) (ex_var (t := (tTup tInt)) 4)) (pa_cons (ex_cv (cv_dT cv_dI) (ex_var (t := (tTup tInt)) 5)) pa_nil)))) pa_nil) (cj_val cj_nil)) (ex_var (t := tS) 6) (cj_val (cj_val cj_nil)))))))))))))))))))))))))))
    (ss_one (sx_ret (out_im out_nil) ex_bl)))), ?_⟩
  rintro ⟨(a0 : List (Int)), au⟩ Q E hw
  dsimp only [TY.wGuard, TY.wSeq, TY.wPar, TY.wCons, TY.wNil, TY.wApp, TY.wPure, TY.wMv, TY.wWhile, TY.wFor, TY.wTru, TY.wRet, TY.wRetN, TY.wSkip, TY.wSet, TY.wAsg, TY.wIf, TY.wName, TY.wDrop, TY.wBrk, TY.wCnt, TY.wNever, TY.wClr, TY.wPre, TY.wGs, TY.wGs0, TY.wLc, TY.wGen, TY.wOut, TY.wOutA, TY.wPrm, TY.wAug, TY.wCv, TY.wB, TY.wAnd, TY.wOr, TY.wNot, TY.wIfE, TY.wMap, TY.wRng1, TY.wRng2, TY.wSgn, TY.wSome, enR, enN, ini, iniv, none_s, none_v, Cy.set_, Cy.at_, TY.get, TY.put, pbk, cstr, cst, cj_val, cj_tmp, cj_bor, cj_borA, cj_nil, out_im, out_mu, out_nil, pc1, pc2, pm1, pm2, pmm, cI, cIg, cIb, cSb, cS3, prm_id, prm_swap, prm_skip, prm_trans, clr_nil, clr_one, hv, hl_, kv, kr, prj, tyOf, HT2, cv_id, cv_non, cv_someI, cv_someS, cv_someT, cv_dN, cv_dB, cv_dI, cv_dS, cv_dT, cv_dP, cvs_nil, cvs_cons, tAt, tIs, Pm.ty, Ctr.ps, Ctr.r, Ctr.w, tru_I, tru_Ig, tru_S, tru_Sg, tru_T, tru_Tg, tru_L, tru_Lg, C__law_start, C__law_predictor, C__law_numbers, C__law_draw, C__law_errors, C_errors_of, C__law_same, C_read_back, C__law_read, C_law] at hw ⊢
  have hl := hw.1
  have hw := hw.2
  refine ⟨hl, ⟨by decide, by decide⟩, fun _ _ => True, trivial, ?_, ?_⟩
  · intro i x s hx _
    intro r ok ru
    refine ⟨rfl, ⟨by omega, by have := ok.len; omega⟩, fun past hpl hpb => ⟨⟨by decide, by decide⟩, fun e0 _ _ => ?_⟩⟩
    have h1 : r.1.length ≤ past.length := by omega
    have h2 : past.length ≤ 6 := by have := ok.len; omega
    refine ⟨fun _ => ⟨⟨by decide, by decide⟩, fun xs hxl hxb => ?_⟩, fun _ => ⟨⟨by decide, by decide⟩, fun z z0 z1 => ⟨⟨by omega, by omega⟩, fun xs hxl hxb => ?_⟩⟩⟩
    all_goals
      have h3 : xs.length ≤ 60 := by omega
      have c1 : ∀ ys : List Int, ys.length ≤ 100 → TapsOk r.1 ∧ r.1.length ≤ past.length ∧ past.length + ys.length ≤ 1000 := fun ys h => ⟨ok, h1, by omega⟩
      have c2 : ∀ ys : List Int, ys.length ≤ 100 → Dd (D.tup (ys.map D.int)) < 2 ∧ Fit (D.tup (ys.map D.int)) := fun ys h => ⟨dd_ints _, fit_ints (by omega)⟩
      have rep := rep_ok ok ru (past := past) (nums := xs) (by omega) (by omega) hpb hxb
      refine ⟨rep, c1 _ (by omega), c1 _ (by omega), c2 _ (by rw [errsG_len]; omega), eqd_no rfl, ?_⟩
      refine ⟨c1 _ (by omega), c2 _ (by rw [errsG_len]; omega), eqd_no rfl, ?_⟩
      refine ⟨c1 _ (by rw [errsG_len]; omega), c2 _ (by omega), eqd_no (by rw [read_errs]), ?_⟩
      refine ⟨⟨by decide, by decide⟩, fun m m0 m1 => ⟨⟨by omega, by omega⟩, fun es hel heb => ?_⟩⟩
      have h4 : es.length ≤ 8 := by omega
      refine ⟨c1 _ (by omega), c1 _ (by omega), c2 _ (by rw [readG_len]; omega), eqd_no rfl, ?_⟩
      refine ⟨c1 _ (by omega), c2 _ (by rw [readG_len]; omega), eqd_no rfl, ?_⟩
      refine ⟨c1 _ (by omega), c1 _ (by rw [readG_len]; omega), c2 _ (by omega), eqd_no (by rw [errs_read]), ?_⟩
      refine ⟨rep, ?_, ?_⟩
      · simp only [decide_true, Bool.not_true]
      · exact trivial
  · intro s _
    exact hw
end
end LW
end K48

set_option Elab.async false
set_option linter.all false
set_option maxRecDepth 100000
set_option maxHeartbeats 0
namespace K48
namespace EN
open PySem L2 TY TX K48.LW
abbrev R : PySem.W.OpenRow := PySem.W.OpenLaw.row PySem.Challenge.rw_roundladder_k48_errors_there_and_back
def fn : List He.DefD := [dfn "divisor" s_divisor, dfn "multiple" s_multiple, dfn "rounded_by" s_rounded_by, dfn "whole_taps" s_whole_taps, dfn "tapped" s_tapped, dfn "errors_of" s_errors_of, dfn "read_back" s_read_back, dfn "_law_mixed" s__law_mixed, dfn "_law_draw" s__law_draw, dfn "_law_low" s__law_low, dfn "_law_plus" s__law_plus, dfn "_law_rounded" s__law_rounded, dfn "_law_predictor" s__law_predictor, dfn "_law_numbers" s__law_numbers, dfn "_law_guess" s__law_guess, dfn "_law_errors" s__law_errors, dfn "_law_read" s__law_read, dfn "_law_same" s__law_same, dfn "_law_start" s__law_start, dfn "law" s_law]
def fa : List He.Fa := [.glo "divisor", .glo "multiple", .glo "rounded_by", .glo "whole_taps", .glo "tapped", .glo "errors_of", .glo "read_back", .glo "_law_mixed", .glo "_law_draw", .glo "_law_low", .glo "_law_plus", .glo "_law_rounded", .glo "_law_predictor", .glo "_law_numbers", .glo "_law_guess", .glo "_law_errors", .glo "_law_read", .glo "_law_same", .glo "_law_start", .glo "law", .free "abs", .free "bool", .free "enumerate", .free "int", .free "isinstance", .free "len", .free "list", .free "range", .free "repr", .free "str", .free "sum", .free "tuple"]
def tf : List He.Defn := [("tapped", none)]
abbrev hk : PySem.W.Hook := He.hookX 4 fa fn [] tf fun _ => true
def ob (s : PySem.W.SharedT) : He.AlX := He.obsX 4 fa fn [] tf (fun _ => true) (HandSHeadRun.getT s)
theorem ob_eq (s : PySem.W.SharedT) : ob s = hk.obs s.abs := He.obsX_eq (HandSHeadRun.getT_eq s)
def loose0 : List PySem.Str := ["divisor", "multiple", "rounded_by", "whole_taps", "tapped", "errors_of", "read_back", "_law_mixed", "_law_draw", "_law_start", "_law_same", "_law_low", "_law_plus", "_law_rounded", "_law_predictor", "_law_numbers", "_law_guess", "_law_errors", "_law_read"]
abbrev loose : List PySem.Str := loose0
theorem run (w : World) : HandSHeadRun.RunEq R (PySem.W.view R.prog [23]) hk ob 3000 loose w := by
  intro os
  kernel_rfl
theorem facts {w : World} {K : PySem.W.Frag} {h : Heap} {mg : Str → Option Value} {fl : Addr} (X : K.In h) (G : h.Ns mainGlobals mg) (hfa : mg ("law" : Str) = some (.ref fl)) (c : He.SaysX fa fn [] tf (fun _ => true) w h K) :
    LawG PySem.Challenge.rw_roundladder_k48_errors_there_and_back w K 5 63 "script" mg fl h := by
  obtain ⟨fd0, N0⟩ := known (x := "divisor") (st := s_divisor) X G c.t.d (List.mem_of_getElem? (i := 0) rfl) (List.mem_of_getElem? (i := 0) rfl)
  obtain ⟨fd1, N1⟩ := known (x := "multiple") (st := s_multiple) X G c.t.d (List.mem_of_getElem? (i := 1) rfl) (List.mem_of_getElem? (i := 1) rfl)
  obtain ⟨fd2, N2⟩ := known (x := "rounded_by") (st := s_rounded_by) X G c.t.d (List.mem_of_getElem? (i := 2) rfl) (List.mem_of_getElem? (i := 2) rfl)
  obtain ⟨fd3, N3⟩ := known (x := "whole_taps") (st := s_whole_taps) X G c.t.d (List.mem_of_getElem? (i := 3) rfl) (List.mem_of_getElem? (i := 3) rfl)
  obtain ⟨fd4, N4⟩ := known (x := "tapped") (st := s_tapped) X G c.t.d (List.mem_of_getElem? (i := 4) rfl) (List.mem_of_getElem? (i := 4) rfl)
  obtain ⟨fd5, N5⟩ := known (x := "errors_of") (st := s_errors_of) X G c.t.d (List.mem_of_getElem? (i := 5) rfl) (List.mem_of_getElem? (i := 5) rfl)
  obtain ⟨fd6, N6⟩ := known (x := "read_back") (st := s_read_back) X G c.t.d (List.mem_of_getElem? (i := 6) rfl) (List.mem_of_getElem? (i := 6) rfl)
  obtain ⟨fd7, N7⟩ := known (x := "_law_mixed") (st := s__law_mixed) X G c.t.d (List.mem_of_getElem? (i := 7) rfl) (List.mem_of_getElem? (i := 7) rfl)
  obtain ⟨fd8, N8⟩ := known (x := "_law_draw") (st := s__law_draw) X G c.t.d (List.mem_of_getElem? (i := 8) rfl) (List.mem_of_getElem? (i := 8) rfl)
  obtain ⟨fd9, N9⟩ := known (x := "_law_low") (st := s__law_low) X G c.t.d (List.mem_of_getElem? (i := 9) rfl) (List.mem_of_getElem? (i := 9) rfl)
  obtain ⟨fd10, N10⟩ := known (x := "_law_plus") (st := s__law_plus) X G c.t.d (List.mem_of_getElem? (i := 10) rfl) (List.mem_of_getElem? (i := 10) rfl)
  obtain ⟨fd11, N11⟩ := known (x := "_law_rounded") (st := s__law_rounded) X G c.t.d (List.mem_of_getElem? (i := 11) rfl) (List.mem_of_getElem? (i := 11) rfl)
  obtain ⟨fd12, N12⟩ := known (x := "_law_predictor") (st := s__law_predictor) X G c.t.d (List.mem_of_getElem? (i := 12) rfl) (List.mem_of_getElem? (i := 12) rfl)
  obtain ⟨fd13, N13⟩ := known (x := "_law_numbers") (st := s__law_numbers) X G c.t.d (List.mem_of_getElem? (i := 13) rfl) (List.mem_of_getElem? (i := 13) rfl)
  obtain ⟨fd14, N14⟩ := known (x := "_law_guess") (st := s__law_guess) X G c.t.d (List.mem_of_getElem? (i := 14) rfl) (List.mem_of_getElem? (i := 14) rfl)
  obtain ⟨fd15, N15⟩ := known (x := "_law_errors") (st := s__law_errors) X G c.t.d (List.mem_of_getElem? (i := 15) rfl) (List.mem_of_getElem? (i := 15) rfl)
  obtain ⟨fd16, N16⟩ := known (x := "_law_read") (st := s__law_read) X G c.t.d (List.mem_of_getElem? (i := 16) rfl) (List.mem_of_getElem? (i := 16) rfl)
  obtain ⟨fd17, N17⟩ := known (x := "_law_same") (st := s__law_same) X G c.t.d (List.mem_of_getElem? (i := 17) rfl) (List.mem_of_getElem? (i := 17) rfl)
  obtain ⟨fd18, N18⟩ := known (x := "_law_start") (st := s__law_start) X G c.t.d (List.mem_of_getElem? (i := 18) rfl) (List.mem_of_getElem? (i := 18) rfl)
  obtain ⟨fd19, N19⟩ := known (x := "law") (st := s_law) X G c.t.d (List.mem_of_getElem? (i := 19) rfl) (List.mem_of_getElem? (i := 19) rfl)
  have Z : Bt mg := ⟨He.free_ok X G (c.t.d.fact 20 (f := .free "abs") rfl), He.free_ok X G (c.t.d.fact 21 (f := .free "bool") rfl), He.free_ok X G (c.t.d.fact 22 (f := .free "enumerate") rfl), He.free_ok X G (c.t.d.fact 23 (f := .free "int") rfl), He.free_ok X G (c.t.d.fact 24 (f := .free "isinstance") rfl), He.free_ok X G (c.t.d.fact 25 (f := .free "len") rfl), He.free_ok X G (c.t.d.fact 26 (f := .free "list") rfl), He.free_ok X G (c.t.d.fact 27 (f := .free "range") rfl), He.free_ok X G (c.t.d.fact 28 (f := .free "repr") rfl), He.free_ok X G (c.t.d.fact 29 (f := .free "str") rfl), He.free_ok X G (c.t.d.fact 30 (f := .free "sum") rfl), He.free_ok X G (c.t.d.fact 31 (f := .free "tuple") rfl)⟩
  obtain rfl : He.fAd K ("law", none) = fl := by
    have e := N19.gl.symm.trans hfa
    exact Value.ref.inj (Option.some.inj e)
  refine ⟨X, fd19, tf.map (He.cT K), C_law.sp K (fun b => b ∈ (tf.map (He.cT K)).map (·.2)), fun q hq => ?_, fun s u => ?_, fun G a ns hl hb hT hs => ?_, fun base KB GB TT => ?_⟩
  · obtain ⟨p, hp, rfl⟩ := List.mem_map.mp hq
    exact ⟨c.empty p hp, c.out p hp, PySem.W.codeHd_of_K X (c.hd p hp)⟩
  · obtain ⟨oc, od, kV, doc, pm, an, cdv, ct, osl, rfl, _, _⟩ := N19.fn.ex
    exact BindsTo.of_eq rfl
  · refine law_sp (fun b hb => ?_) hs ?_
    · obtain ⟨q, hq, rfl⟩ := List.mem_map.mp hb
      exact hT q hq
    · exact ⟨hl, rfl⟩
  obtain ⟨TB, hTB⟩ : ∃ TB : Addr → Prop, TB = fun b => b ∈ (tf.map (He.cT K)).map (·.2) := ⟨_, rfl⟩
  have tab_tapped : GxR.TabB base mg (He.cT K ("tapped", none)).1 (He.cT K ("tapped", none)).2 := TT _ (List.mem_map.mpr ⟨("tapped", none), by decide, rfl⟩)
  have tb_tapped : TB (He.cT K ("tapped", none)).2 := by rw [hTB]; exact List.mem_map.mpr ⟨_, List.mem_map.mpr ⟨("tapped", none), by decide, rfl⟩, rfl⟩
  rw [← hTB]
  have F_divisor := ok_divisor (P := (PySem.Challenge.rw_roundladder_k48_errors_there_and_back).prog) (w := w) (base := base) (TB := TB) N0.fn Z 
  have D_divisor := df_of N0 F_divisor (fun _ _ _ _ _ _ us hl => match us, hl with | [_, _], _ => rfl)
  have F_multiple := ok_multiple (P := (PySem.Challenge.rw_roundladder_k48_errors_there_and_back).prog) (w := w) (base := base) (TB := TB) N1.fn Z D_divisor
  have D_multiple := df_of N1 F_multiple (fun _ _ _ _ _ _ us hl => match us, hl with | [_, _], _ => rfl)
  have F_rounded_by := ok_rounded_by (P := (PySem.Challenge.rw_roundladder_k48_errors_there_and_back).prog) (w := w) (base := base) (TB := TB) N2.fn Z 
  have D_rounded_by := df_of N2 F_rounded_by (fun _ _ _ _ _ _ us hl => match us, hl with | [_, _, _], _ => rfl)
  have F_whole_taps := ok_whole_taps (P := (PySem.Challenge.rw_roundladder_k48_errors_there_and_back).prog) (w := w) (base := base) (TB := TB) N3.fn Z D_multiple
  have D_whole_taps := df_of N3 F_whole_taps (fun _ _ _ _ _ _ us hl => match us, hl with | [_], _ => rfl)
  have F_tapped := ok_tapped (P := (PySem.Challenge.rw_roundladder_k48_errors_there_and_back).prog) (w := w) (base := base) (TB := TB) (funT_of N4.fn) tab_tapped tb_tapped Z 
  have D_tapped := df_of N4 F_tapped (fun _ _ _ _ _ _ us hl => match us, hl with | [_, _], _ => rfl)
  have F_errors_of := ok_errors_of (P := (PySem.Challenge.rw_roundladder_k48_errors_there_and_back).prog) (w := w) (base := base) (TB := TB) N5.fn Z D_whole_taps D_tapped D_rounded_by
  have D_errors_of := df_of N5 F_errors_of (fun _ _ _ _ _ _ us hl => match us, hl with | [_, _, _], _ => rfl)
  have K_errors_of_numbers_past_predictor : DfK (PySem.Challenge.rw_roundladder_k48_errors_there_and_back).prog w K mg base TB "errors_of" 4 ["predictor", "past", "numbers"] ["numbers", "past", "predictor"] (fun {_} l => (sw2 (sk1 (fun l => (sw2 l)) (sw2 l)))) C_errors_of := dfk_of N5 F_errors_of (fun _ _ _ _ _ _ ws hl => match ws, hl with | [_, _, _], _ => rfl)
  have F_read_back := ok_read_back (P := (PySem.Challenge.rw_roundladder_k48_errors_there_and_back).prog) (w := w) (base := base) (TB := TB) N6.fn Z D_whole_taps D_tapped D_rounded_by
  have D_read_back := df_of N6 F_read_back (fun _ _ _ _ _ _ us hl => match us, hl with | [_, _, _], _ => rfl)
  have K_read_back_errors_past_predictor : DfK (PySem.Challenge.rw_roundladder_k48_errors_there_and_back).prog w K mg base TB "read_back" 4 ["predictor", "past", "errors"] ["errors", "past", "predictor"] (fun {_} l => (sw2 (sk1 (fun l => (sw2 l)) (sw2 l)))) C_read_back := dfk_of N6 F_read_back (fun _ _ _ _ _ _ ws hl => match ws, hl with | [_, _, _], _ => rfl)
  have F__law_mixed := ok__law_mixed (P := (PySem.Challenge.rw_roundladder_k48_errors_there_and_back).prog) (w := w) (base := base) (TB := TB) N7.fn Z 
  have D__law_mixed := df_of N7 F__law_mixed (fun _ _ _ _ _ _ us hl => match us, hl with | [_, _], _ => rfl)
  have F__law_draw := ok__law_draw (P := (PySem.Challenge.rw_roundladder_k48_errors_there_and_back).prog) (w := w) (base := base) (TB := TB) N8.fn Z D__law_mixed
  have D__law_draw := df_of N8 F__law_draw (fun _ _ _ _ _ _ us hl => match us, hl with | [_, _], _ => rfl)
  have F__law_low := ok__law_low (P := (PySem.Challenge.rw_roundladder_k48_errors_there_and_back).prog) (w := w) (base := base) (TB := TB) N9.fn Z 
  have D__law_low := df_of N9 F__law_low (fun _ _ _ _ _ _ us hl => match us, hl with | [_, _], _ => rfl)
  have F__law_plus := ok__law_plus (P := (PySem.Challenge.rw_roundladder_k48_errors_there_and_back).prog) (w := w) (base := base) (TB := TB) N10.fn Z D__law_low
  have D__law_plus := df_of N10 F__law_plus (fun _ _ _ _ _ _ us hl => match us, hl with | [_, _], _ => rfl)
  have F__law_rounded := ok__law_rounded (P := (PySem.Challenge.rw_roundladder_k48_errors_there_and_back).prog) (w := w) (base := base) (TB := TB) N11.fn Z 
  have D__law_rounded := df_of N11 F__law_rounded (fun _ _ _ _ _ _ us hl => match us, hl with | [_, _, _], _ => rfl)
  have F__law_predictor := ok__law_predictor (P := (PySem.Challenge.rw_roundladder_k48_errors_there_and_back).prog) (w := w) (base := base) (TB := TB) N12.fn Z D__law_draw D__law_low
  have D__law_predictor := df_of N12 F__law_predictor (fun _ _ _ _ _ _ us hl => match us, hl with | [_], _ => rfl)
  have F__law_numbers := ok__law_numbers (P := (PySem.Challenge.rw_roundladder_k48_errors_there_and_back).prog) (w := w) (base := base) (TB := TB) N13.fn Z D__law_draw
  have D__law_numbers := df_of N13 F__law_numbers (fun _ _ _ _ _ _ us hl => match us, hl with | [_, _], _ => rfl)
  have F__law_guess := ok__law_guess (P := (PySem.Challenge.rw_roundladder_k48_errors_there_and_back).prog) (w := w) (base := base) (TB := TB) N14.fn Z D__law_low D__law_plus D__law_rounded
  have D__law_guess := df_of N14 F__law_guess (fun _ _ _ _ _ _ us hl => match us, hl with | [_, _], _ => rfl)
  have F__law_errors := ok__law_errors (P := (PySem.Challenge.rw_roundladder_k48_errors_there_and_back).prog) (w := w) (base := base) (TB := TB) N15.fn Z D__law_guess
  have D__law_errors := df_of N15 F__law_errors (fun _ _ _ _ _ _ us hl => match us, hl with | [_, _, _], _ => rfl)
  have F__law_read := ok__law_read (P := (PySem.Challenge.rw_roundladder_k48_errors_there_and_back).prog) (w := w) (base := base) (TB := TB) N16.fn Z D__law_guess
  have D__law_read := df_of N16 F__law_read (fun _ _ _ _ _ _ us hl => match us, hl with | [_, _, _], _ => rfl)
  have A__law_same := df_rec (P := (PySem.Challenge.rw_roundladder_k48_errors_there_and_back).prog) (w := w) (base := base) (TB := TB) (lv := 1) (C := C__law_same) N17 (fun _ _ _ _ _ _ us hl => match us, hl with | [_, _], _ => rfl) (fun vs H Q E z => C__law_same_no z) fun n D => ok__law_same n N17.fn Z  D
  have D__law_same := A__law_same 2
  have F__law_start := ok__law_start (P := (PySem.Challenge.rw_roundladder_k48_errors_there_and_back).prog) (w := w) (base := base) (TB := TB) N18.fn Z D__law_draw
  have D__law_start := df_of N18 F__law_start (fun _ _ _ _ _ _ us hl => match us, hl with | [_], _ => rfl)
  exact ok_law N19.fn Z D__law_start D__law_predictor D__law_numbers D__law_draw D__law_errors D_errors_of D__law_same K_errors_of_numbers_past_predictor D_read_back D__law_read K_read_back_errors_past_predictor
end EN
end K48
open PySem PySem.W PySem.Calls PyProof.Rows
theorem PySem.Challenge.cw_roundladder_k48_errors_there_and_back_holds : PySem.Challenge.rw_roundladder_k48_errors_there_and_back.Holds := by
  w_on; o_law
  refine HandSHeadRun.head_any (r := OpenLaw.row PySem.Challenge.rw_roundladder_k48_errors_there_and_back) (q := view (OpenLaw.row PySem.Challenge.rw_roundladder_k48_errors_there_and_back).prog [23]) (H := K48.EN.hk) (ob := K48.EN.ob) (M := 3000) (loose := K48.EN.loose) (d := HandSHeadRun.topDef (OpenLaw.row PySem.Challenge.rw_roundladder_k48_errors_there_and_back).prog 23) (kwd := []) K48.EN.ob_eq
    (by kernel_rfl) (fun s => by kernel_rfl) K48.EN.run (by kernel_rfl) (by kernel_rfl) (by kernel_rfl) (by rfl) (by first | assumption | decide +kernel) (by decide +kernel) ⟨rfl, rfl, rfl, rfl, rfl, by decide +kernel⟩ ?hw ?hc
  case hw => w_witness2
  case hc =>
    refine TY.walk_law (l := PySem.Challenge.rw_roundladder_k48_errors_there_and_back) (n := 63) (k := 5) (x := "script") rfl (by decide) (by kernel_rfl) ⟨rfl, by decide, by decide⟩ ?F
    intro w mg fl h Y G hmg0
    obtain ⟨K, KX, c⟩ := Y
    have hmg : mg ("law" : PySem.Str) = some (.ref fl) := by
      have e : (HandSHeadRun.topDef (OpenLaw.row PySem.Challenge.rw_roundladder_k48_errors_there_and_back).prog 23).name = ("law" : PySem.Str) := by kernel_rfl
      rw [← e]
      exact hmg0
    exact ⟨K, K48.EN.facts KX G hmg c⟩

