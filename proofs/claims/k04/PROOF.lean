import PyProof.Rows.All
import Wide.All
import OpenK.AllK
import Wide.FinOn
import HandS.ForMost
import HandS.Walk
import HandS.IsInst
import HandS.Flow
import HandS.TupAny
import HandS.Wide
import HandS.Conv
import HandS.RaiseMore
import HandS.TupMul
import HandS.Zip
import HandS.Dict
import PyProof.ReprRoads
import PySem.Challenge.RW_ropesays_k04_lists_and_tuples_all_the_wa
set_option Elab.async false
set_option linter.all false
set_option maxRecDepth 100000
set_option maxHeartbeats 4000000
/-! # DataS: a calculus on data over the layer: lists and dicts of data are kept locked, so a value is what it holds; what draws is a box -/
namespace DS
open PySem PySem.Spec PyProof.Rows L2

/-! ### data -/
inductive D where
  | non | bl (b : Bool) | int (i : Int) | str (x : Str)
  | lst (xs : List D) | tup (xs : List D)
  | dct (kvs : List (Key × D))
  | ins (C : Addr) (fs : List (Str × D))
  | box
  | raw (v : V)

/-- K: the written part; S: the classes whose instances never change; B: where the box stands, and its cells -/
structure Cc where
  K : PySem.W.Frag
  S : Addr → Prop
  B : Option (Addr × (Addr × List Int))

def FzL (K : PySem.W.Frag) (H : Hp) (a : Addr) (xs : List V) : Prop := (∃ o, H a = some (.frz o (.lst xs))) ∨
  ∃ (its : List Value) (n : Nat), K.lookup a = some { cls := .type "list", data := .seq its.toArray n } ∧ its.length ≤ sizeLine ∧ Vals xs its
theorem FzL.sq {K : PySem.W.Frag} {H : Hp} {a : Addr} {xs : List V} (h : FzL K H a xs) : SqL K H a xs := by
  rcases h with ⟨o, h⟩ | ⟨its, n, h, hz, r⟩
  · exact .inl (.inr ⟨o, h⟩)
  · exact .inr ⟨_, its.toArray, n, h, rfl, rfl, rfl, by simpa using hz, by simpa using r⟩
theorem FzL.at {X : Cx} {pins : List (Addr × Obj)} {σ : L2.St} {H : Hp} {s : Shared} {a : Addr} {xs : List V} (I : Inv X pins σ H s) (h : FzL X.K H a xs) :
    ∃ (its : List Value) (n : Nat), Vals xs its ∧ s.heap.get? a = some { cls := .type "list", data := .seq its.toArray n } ∧ its.length ≤ sizeLine := by
  rcases h with ⟨o, h⟩ | ⟨its, n, h, hz, r⟩
  · obtain ⟨_, z, its, n, r, e⟩ := I.hok a _ h
    exact ⟨its, n, r, e, by rw [← r.length]; exact z⟩
  · exact ⟨its, n, r, I.kIn a _ h, hz⟩

mutual
inductive DV (c : Cc) (H : Hp) : V → D → Prop
  | non : DV c H .non .non
  | bl (b : Bool) : DV c H (.bl b) (.bl b)
  | int (i : Int) : DV c H (.int i) (.int i)
  | str (x : Str) : DV c H (.str x) (.str x)
  | lst {a : Addr} {xs : List V} {ds : List D} : FzL c.K H a xs → DVs c H xs ds → DV c H (.ref a) (.lst ds)
  | tup {a : Addr} {xs : List V} {ds : List D} : SqT c.K H a xs → DVs c H xs ds → DV c H (.ref a) (.tup ds)
  | dct {a : Addr} {o : Obj} {kvs : List (Key × V)} {ds : List (Key × D)} : H a = some (.frz o (.dK kvs)) → DVk c H kvs ds → DV c H (.ref a) (.dct ds)
  | ins {a C dx : Addr} {fs : List (Str × V)} {ds : List (Str × D)} : c.S C → H a = some (.ins C dx fs) → DVf c H fs ds → DV c H (.ref a) (.ins C ds)
  | box {a : Addr} {cl : Addr × List Int} : c.B = some (a, cl) → DV c H (.ref a) .box
  | raw (v : V) : DV c H v (.raw v)
inductive DVs (c : Cc) (H : Hp) : List V → List D → Prop
  | nil : DVs c H [] []
  | cons {v : V} {vs : List V} {d : D} {ds : List D} : DV c H v d → DVs c H vs ds → DVs c H (v :: vs) (d :: ds)
inductive DVk (c : Cc) (H : Hp) : List (Key × V) → List (Key × D) → Prop
  | nil : DVk c H [] []
  | cons {k : Key} {v : V} {vs : List (Key × V)} {d : D} {ds : List (Key × D)} : DV c H v d → DVk c H vs ds → DVk c H ((k, v) :: vs) ((k, d) :: ds)
inductive DVf (c : Cc) (H : Hp) : List (Str × V) → List (Str × D) → Prop
  | nil : DVf c H [] []
  | cons {k : Str} {v : V} {vs : List (Str × V)} {d : D} {ds : List (Str × D)} : DV c H v d → DVf c H vs ds → DVf c H ((k, v) :: vs) ((k, d) :: ds)
end

/-! ### what stays -/
def Stb (c : Cc) : HO → Prop
  | .frz _ _ => True
  | .tup _ => True
  | .ins C _ _ => c.S C
  | _ => False
/-- what never changes stays -/
def Kw (c : Cc) (H H' : Hp) : Prop := ∀ a u, H a = some u → Stb c u → H' a = some u
/-- all but the box stays -/
def Ks (c : Cc) (H H' : Hp) : Prop := ∀ a u, H a = some u → (Stb c u ∨ ∀ cl, c.B ≠ some (a, cl)) → H' a = some u
section
variable {c : Cc} {H H1 H2 : Hp}
theorem Kw.refl (c : Cc) (H : Hp) : Kw c H H := fun _ _ e _ => e
theorem Kw.trans (h : Kw c H H1) (g : Kw c H1 H2) : Kw c H H2 := fun a u e s => g a u (h a u e s) s
theorem Ks.refl (c : Cc) (H : Hp) : Ks c H H := fun _ _ e _ => e
theorem Ks.trans (h : Ks c H H1) (g : Ks c H1 H2) : Ks c H H2 := fun a u e s => g a u (h a u e s) s
theorem Ks.kw (h : Ks c H H1) : Kw c H H1 := fun a u e s => h a u e (.inl s)
theorem Same.ks (h : Same H H1) : Ks c H H1 := fun a u e _ => h a u e
theorem same_new {p : Addr} {o : HO} (h : H p = none) : Same H (upd H p o) := fun a u e => by
  rw [upd_ne (ne_of_none e h)]; exact e
theorem kw_upd {p : Addr} {o u : HO} (h : H p = some u) (n : ¬ Stb c u) : Kw c H (upd H p o) := fun a w e s => by
  by_cases z : a = p
  · subst z; rw [h] at e; cases e; exact absurd s n
  · rw [upd_ne z]; exact e
end
mutual
theorem DV.kw {c : Cc} {H H' : Hp} (k : Kw c H H') : ∀ {v : V} {d : D}, DV c H v d → DV c H' v d
  | _, _, .non => .non
  | _, _, .bl b => .bl b
  | _, _, .int i => .int i
  | _, _, .str x => .str x
  | _, _, .lst h hs => .lst (by
      rcases h with ⟨o, h⟩ | h
      · exact .inl ⟨o, k _ _ h True.intro⟩
      · exact .inr h) (DVs.kw k hs)
  | _, _, .tup h hs => .tup (by
      rcases h with (h | ⟨o, h⟩) | h
      · exact .inl (.inl (k _ _ h True.intro))
      · exact .inl (.inr ⟨o, k _ _ h True.intro⟩)
      · exact .inr h) (DVs.kw k hs)
  | _, _, .dct h hs => .dct (k _ _ h True.intro) (DVk.kw k hs)
  | _, _, .ins s h hs => .ins s (k _ _ h s) (DVf.kw k hs)
  | _, _, .box h => .box h
  | _, _, .raw v => .raw v
theorem DVs.kw {c : Cc} {H H' : Hp} (k : Kw c H H') : ∀ {vs : List V} {ds : List D}, DVs c H vs ds → DVs c H' vs ds
  | _, _, .nil => .nil
  | _, _, .cons h t => .cons (DV.kw k h) (DVs.kw k t)
theorem DVk.kw {c : Cc} {H H' : Hp} (k : Kw c H H') : ∀ {vs : List (Key × V)} {ds : List (Key × D)}, DVk c H vs ds → DVk c H' vs ds
  | _, _, .nil => .nil
  | _, _, .cons h t => .cons (DV.kw k h) (DVk.kw k t)
theorem DVf.kw {c : Cc} {H H' : Hp} (k : Kw c H H') : ∀ {vs : List (Str × V)} {ds : List (Str × D)}, DVf c H vs ds → DVf c H' vs ds
  | _, _, .nil => .nil
  | _, _, .cons h t => .cons (DV.kw k h) (DVf.kw k t)
end
section
variable {c : Cc} {H : Hp}
theorem DVs.length {vs : List V} {ds : List D} (h : DVs c H vs ds) : vs.length = ds.length := by
  induction ds generalizing vs with
  | nil => cases h; rfl
  | cons d ds ih => cases h with | cons a b => simp [ih b]
theorem DVs.get {vs : List V} {ds : List D} {i : Nat} {v : V} (h : DVs c H vs ds) (e : vs[i]? = some v) : ∃ d, ds[i]? = some d ∧ DV c H v d := by
  induction i generalizing vs ds with
  | zero => cases h with
    | nil => simp at e
    | cons a b => simp at e; subst e; exact ⟨_, rfl, a⟩
  | succ i ih => cases h with
    | nil => simp at e
    | cons a b =>
      obtain ⟨d, h1, h2⟩ := ih b (by simpa using e)
      exact ⟨d, by simpa using h1, h2⟩
theorem DVs.getD {vs : List V} {ds : List D} {i : Nat} {d : D} (h : DVs c H vs ds) (e : ds[i]? = some d) : ∃ v, vs[i]? = some v ∧ DV c H v d := by
  induction i generalizing vs ds with
  | zero => cases h with
    | nil => simp at e
    | cons a b => simp at e; subst e; exact ⟨_, rfl, a⟩
  | succ i ih => cases h with
    | nil => simp at e
    | cons a b =>
      obtain ⟨d, h1, h2⟩ := ih b (by simpa using e)
      exact ⟨d, by simpa using h1, h2⟩
theorem DVs.append {vs ws : List V} {ds es : List D} (h : DVs c H vs ds) (g : DVs c H ws es) : DVs c H (vs ++ ws) (ds ++ es) := by
  induction ds generalizing vs with
  | nil => cases h; exact g
  | cons d ds ih => cases h with | cons a b => exact .cons a (ih b)
theorem DVs.one {v : V} {d : D} (h : DV c H v d) : DVs c H [v] [d] := .cons h .nil
theorem DVs.take {vs : List V} {ds : List D} (n : Nat) (h : DVs c H vs ds) : DVs c H (vs.take n) (ds.take n) := by
  induction n generalizing vs ds with
  | zero => simp; exact .nil
  | succ n ih => cases h with
    | nil => simp; exact .nil
    | cons a b => simp; exact .cons a (ih b)
theorem DVs.drop {vs : List V} {ds : List D} (n : Nat) (h : DVs c H vs ds) : DVs c H (vs.drop n) (ds.drop n) := by
  induction n generalizing vs ds with
  | zero => simpa using h
  | succ n ih => cases h with
    | nil => simp; exact .nil
    | cons a b => simpa using ih b
theorem DVs.isEmpty {vs : List V} {ds : List D} (h : DVs c H vs ds) : vs.isEmpty = ds.isEmpty := by cases h <;> rfl
end

/-! ### the box -/
def BoxAt (c : Cc) (n : Nat) (H : Hp) : Prop := ∀ b cl, c.B = some (b, cl) → ∃ (lap rest : Int),
  H b = some (.lst [.ref cl.1, .int lap, .int rest]) ∧ FzL c.K H cl.1 (cl.2.map V.int) ∧ 0 ≤ lap ∧ lap ≤ n ∧ 0 ≤ rest
section
variable {c : Cc} {H H1 : Hp} {n m : Nat}
theorem FzL.kw {a : Addr} {xs : List V} (k : Kw c H H1) (h : FzL c.K H a xs) : FzL c.K H1 a xs := by
  rcases h with ⟨o, h⟩ | h
  · exact .inl ⟨o, k _ _ h True.intro⟩
  · exact .inr h
theorem BoxAt.same (h : BoxAt c n H) (s : Same H H1) : BoxAt c n H1 := fun b cl e => by
  obtain ⟨lap, rest, h1, h2, h3⟩ := h b cl e
  exact ⟨lap, rest, s _ _ h1, h2.kw (Same.ks s).kw, h3⟩
theorem BoxAt.le (h : BoxAt c n H) (l : n ≤ m) : BoxAt c m H := fun b cl e => by
  obtain ⟨lap, rest, h1, h2, h3, h4, h5⟩ := h b cl e
  exact ⟨lap, rest, h1, h2, h3, by omega, h5⟩
/-- a change at one place that is not the box -/
theorem BoxAt.upd {p : Addr} {o : HO} (h : BoxAt c n H) (k : Kw c H (upd H p o)) (hp : ∀ cl, c.B ≠ some (p, cl)) : BoxAt c n (L2.upd H p o) := fun b cl e => by
  obtain ⟨lap, rest, h1, h2, h3⟩ := h b cl e
  have nb : b ≠ p := fun z => hp cl (by rw [← z]; exact e)
  exact ⟨lap, rest, by rw [upd_ne nb]; exact h1, h2.kw k, h3⟩
end

/-! ### slots -/
inductive Sl where
  | no
  | val (d : D)
  | own (p : Addr) (xs : List D)
abbrev Ev := List Sl
abbrev St := L2.St
structure Rel (c : Cc) (H0 : Hp) (ρ : Ev) (n : Nat) (σ : St) (H : Hp) : Prop where
  len : σ.length = ρ.length
  vals : ∀ (i : Nat) (d : D), ρ[i]? = some (.val d) → ∃ v, σ[i]? = some (some v) ∧ DV c H v d
  owns : ∀ (i : Nat) (p : Addr) (xs : List D), ρ[i]? = some (.own p xs) → σ[i]? = some (some (.ref p)) ∧ H0 p = none ∧ (∀ cl, c.B ≠ some (p, cl)) ∧ ∃ vs, H p = some (.lst vs) ∧ DVs c H vs xs
  uniq : ∀ (i j : Nat) (p : Addr) (xs ys : List D), ρ[i]? = some (.own p xs) → ρ[j]? = some (.own p ys) → i = j
  box : BoxAt c n H
  k0 : Ks c H0 H
section
variable {c : Cc} {H0 H H1 : Hp} {ρ : Ev} {n m : Nat} {σ : St}
theorem Rel.step (R : Rel c H0 ρ n σ H) (k : Ks c H H1) (b : BoxAt c m H1) : Rel c H0 ρ m σ H1 where
  len := R.len
  vals := fun i d e => let ⟨v, h1, h2⟩ := R.vals i d e; ⟨v, h1, h2.kw k.kw⟩
  owns := fun i p xs e => let ⟨h1, h2, h3, vs, h4, h5⟩ := R.owns i p xs e; ⟨h1, h2, h3, vs, k _ _ h4 (.inr h3), h5.kw k.kw⟩
  uniq := R.uniq
  box := b
  k0 := R.k0.trans k
theorem Rel.set {i : Nat} {v : V} {d : D} (R : Rel c H0 ρ n σ H) (h : DV c H v d) : Rel c H0 (ρ.set i (.val d)) n (σ.set i (some v)) H where
  len := by simp [R.len]
  vals := fun j e hj => by
    by_cases z : i = j
    · subst z
      have hl : i < ρ.length := by have := (List.getElem?_eq_some_iff.mp hj).1; simpa using this
      rw [List.getElem?_set_self hl] at hj
      cases hj
      exact ⟨v, List.getElem?_set_self (by rw [R.len]; exact hl), h⟩
    · rw [List.getElem?_set_ne z] at hj
      rw [List.getElem?_set_ne z]
      exact R.vals j e hj
  owns := fun j p xs hj => by
    by_cases z : i = j
    · subst z
      have hl : i < ρ.length := by have := (List.getElem?_eq_some_iff.mp hj).1; simpa using this
      rw [List.getElem?_set_self hl] at hj
      cases hj
    · rw [List.getElem?_set_ne z] at hj
      rw [List.getElem?_set_ne z]
      exact R.owns j p xs hj
  uniq := fun j1 j2 p xs ys h1 h2 => by
    have nz : ∀ (j : Nat) (zs : List D), (ρ.set i (.val d))[j]? = some (.own p zs) → ρ[j]? = some (.own p zs) := fun j zs hj => by
      by_cases z : i = j
      · subst z
        have hl : i < ρ.length := by have := (List.getElem?_eq_some_iff.mp hj).1; simpa using this
        rw [List.getElem?_set_self hl] at hj
        cases hj
      · rw [List.getElem?_set_ne z] at hj; exact hj
    exact R.uniq j1 j2 p xs ys (nz j1 xs h1) (nz j2 ys h2)
  box := R.box
  k0 := R.k0
end

/-! ### the calculus -/
abbrev DK := D → Nat → Prop
abbrev XD := Addr → List (Str × D) → Nat → Prop
abbrev ME := XD → Ev → Nat → DK → Prop
abbrev MT := XD → Ev → Nat → (Bool → Nat → Prop) → Prop
abbrev MA := XD → Ev → Nat → (List D → Nat → Prop) → Prop
structure Pn where
  nx : Ev → Nat → Prop
  rt : DK
  bk : Ev → Nat → Prop := fun _ _ => False
  ct : Ev → Nat → Prop := fun _ _ => False
abbrev MS := XD → Ev → Nat → Pn → Prop
abbrev Con := XD → List D → Nat → DK → Prop

def tE (c : Cc) (H0 : Hp) (ε : XD) (m : ME) : TE := fun σ H Q => ∃ ρ n k, Rel c H0 ρ n σ H ∧ m ε ρ n k ∧ ∀ d n' v H', k d n' → DV c H' v d → Ks c H H' → BoxAt c n' H' → Q v H'
def tT (c : Cc) (H0 : Hp) (ε : XD) (m : MT) : TT := fun σ H Q => ∃ ρ n k, Rel c H0 ρ n σ H ∧ m ε ρ n k ∧ ∀ b n' H', k b n' → Ks c H H' → BoxAt c n' H' → Q b H'
def tA (c : Cc) (H0 : Hp) (ε : XD) (m : MA) : TA := fun σ H Q => ∃ ρ n k, Rel c H0 ρ n σ H ∧ m ε ρ n k ∧ ∀ ds n' vs H', k ds n' → DVs c H' vs ds → Ks c H H' → BoxAt c n' H' → Q vs H'
def tS (c : Cc) (H0 : Hp) (ε : XD) (m : MS) : TS := fun De σ H => ∃ ρ n P, Rel c H0 ρ n σ H ∧ m ε ρ n P ∧
  (∀ ρ' n' σ' H', P.nx ρ' n' → Rel c H0 ρ' n' σ' H' → Kw c H H' → De.nx σ' H') ∧
  (∀ d n' v H', P.rt d n' → DV c H' v d → Ks c H0 H' → BoxAt c n' H' → De.rt v H') ∧
  (∀ ρ' n' σ' H', P.bk ρ' n' → Rel c H0 ρ' n' σ' H' → Kw c H H' → De.bk σ' H') ∧
  (∀ ρ' n' σ' H', P.ct ρ' n' → Rel c H0 ρ' n' σ' H' → Kw c H H' → De.ct σ' H')
end DS
namespace DS
open PySem PySem.Spec PyProof.Rows L2
section
variable {X : Cx} {c : Cc} {H0 : Hp} {ε : XD}

theorem imp_pe {e : Expr} {t t' : TE} (h : PE X e t) (i : ∀ σ H Q, t' σ H Q → t σ H Q) : PE X e t' := ⟨fun pins s σ H Q I w => h.run pins s σ H Q I (i σ H Q w)⟩
theorem imp_pt {e : Expr} {t t' : TT} (h : PT X e t) (i : ∀ σ H Q, t' σ H Q → t σ H Q) : PT X e t' := ⟨fun pins s σ H Q I w => h.run pins s σ H Q I (i σ H Q w)⟩
theorem imp_pw {e : Expr} {t t' : TT} (h : PW X e t) (i : ∀ σ H Q, t' σ H Q → t σ H Q) : PW X e t' := ⟨fun wh pins s σ H Q I w => h.run wh pins s σ H Q I (i σ H Q w)⟩
theorem imp_pa {e : List Expr} {t t' : TA} (h : PA X e t) (i : ∀ σ H Q, t' σ H Q → t σ H Q) : PA X e t' := ⟨fun p pins s σ H Q I w => h.run p pins s σ H Q I (i σ H Q w)⟩
theorem imp_ps {e : Stmt} {t t' : TS} (h : PS X e t) (i : ∀ De σ H, t' De σ H → t De σ H) : PS X e t' := ⟨fun pins s σ H De I w => h.run pins s σ H De I (i De σ H w)⟩
theorem imp_pss {e : List Stmt} {t t' : TS} (h : PSs X e t) (i : ∀ De σ H, t' De σ H → t De σ H) : PSs X e t' := ⟨fun pins s σ H De I w => h.run pins s σ H De I (i De σ H w)⟩

/-- a new thing may be locked behind the expression -/
def tFz (t : TE) : TE := fun σ H Q => t σ H fun v H' => Q v H' ∨ ∃ p u, v = .ref p ∧ H' p = some u ∧ Mut (some u) ∧ ∀ o, Q v (upd H' p (.frz o u))
theorem pe_fz {e : Expr} {t : TE} (h : PE X e t) : PE X e (tFz t) := by
  refine ⟨fun pins s σ H Q I w => ?_⟩
  refine thn (h.run pins s σ H _ I w) fun v s1 ⟨x, H1, I1, r, q⟩ => ?_
  rcases q with q | ⟨p, u, rfl, hp, mu, q⟩
  · exact ⟨x, H1, I1, r, q⟩
  · obtain ⟨o, I2⟩ := I1.lock hp mu
    exact ⟨_, _, I2, r, q o⟩

/-- a value that is data, or a new thing that is once it's locked -/
def DVn (c : Cc) (H0 H : Hp) (v : V) (d : D) : Prop := DV c H v d ∨ ∃ p u, v = .ref p ∧ H0 p = none ∧ H p = some u ∧ Mut (some u) ∧ ¬ Stb c u ∧ ∀ o, DV c (upd H p (.frz o u)) v d
theorem DVn.lst {H H' : Hp} {p : Addr} {xs : List V} {ds : List D} (h0 : H p = none) (h : H' p = some (.lst xs)) (hs : DVs c H' xs ds) : DVn c H H' (.ref p) (.lst ds) :=
  .inr ⟨p, _, rfl, h0, h, True.intro, id, fun o => .lst (.inl ⟨o, upd_same⟩) (hs.kw (kw_upd h id))⟩

/-- the end of a step that laid new things -/
theorem fin_new {ρ : Ev} {n : Nat} {k : DK} {σ : St} {H H1 : Hp} {Q : VK} {v : V} {d : D} (R : BoxAt c n H) (s : Same H H1) (dv : DVn c H H1 v d) (m : k d n)
    (q : ∀ d n' v H', k d n' → DV c H' v d → Ks c H H' → BoxAt c n' H' → Q v H') : Q v H1 ∨ ∃ p u, v = .ref p ∧ H1 p = some u ∧ Mut (some u) ∧ ∀ o, Q v (upd H1 p (.frz o u)) := by
  rcases dv with dv | ⟨p, u, rfl, h0, h1, mu, ns, dv⟩
  · exact .inl (q _ _ _ _ m dv (Same.ks s) (R.same s))
  · refine .inr ⟨p, u, rfl, h1, mu, fun o => q _ _ _ _ m (dv o) (fun a w e z => ?_) ?_⟩
    · rw [upd_ne (ne_of_none e h0)]; exact s _ _ e
    · refine (R.same s).upd (kw_upd h1 ns) fun cl z => ?_
      obtain ⟨_, _, e, _⟩ := R p cl z
      rw [h0] at e; cases e

/-! ### names, constants -/
def mVar (i : Nat) : ME := fun _ ρ n k => match ρ[i]? with
  | some (.val d) => k d n
  | _ => False
def mC (d : D) : ME := fun _ _ n k => k d n
theorem de_var (i : Nat) {x : Str} {pos : Pos} (hN : X.N[i]? = some x := by rfl) (hv : Vis X.env.scope x := by first | exact Or.inl rfl | exact Or.inr (Or.inl rfl) | exact Or.inr (Or.inr rfl))
    (hd : (x == ("__debug__" : Str)) = false := by decide) (hcd : (x == ("__classdict__" : Str)) = false := by decide) : PE X (.Name x pos) (tE c H0 ε (mVar i)) := by
  refine imp_pe (pe_var hN hv hd hcd) fun σ H Q ⟨ρ, n, k, R, m, q⟩ => ?_
  unfold mVar at m
  split at m
  · rename_i d e
    obtain ⟨v, h1, h2⟩ := R.vals i d e
    exact ⟨v, h1, q _ _ _ _ m h2 (Ks.refl _ _) R.box⟩
  · exact m.elim
theorem de_c {e : Expr} {v : V} {d : D} (h : PE X e (tC v)) (hd : ∀ H, DV c H v d) : PE X e (tE c H0 ε (mC d)) :=
  imp_pe h fun σ H Q ⟨ρ, n, k, R, m, q⟩ => q _ _ _ _ m (hd H) (Ks.refl _ _) R.box
theorem de_int {i j pos} : PE X (.Constant (.int i) j pos) (tE c H0 ε (mC (.int i))) := de_c pe_int fun _ => .int i
theorem de_bl {b j pos} : PE X (.Constant (.bool b) j pos) (tE c H0 ε (mC (.bl b))) := de_c pe_bl fun _ => .bl b
theorem de_non {j pos} : PE X (.Constant .none j pos) (tE c H0 ε (mC .non)) := de_c pe_non fun _ => .non
theorem de_str {x j pos} : PE X (.Constant (.str x) j pos) (tE c H0 ε (mC (.str x))) := de_c pe_str fun _ => .str x
/-- a built-in type as a value -/
theorem de_ty {x : Str} {n : String} {pos : Pos} (hg : Gl X x) (hm : X.mg x = none) (hv : bootBuiltins x = some (.type n)) (hn : x ≠ "__name__" := by decide) (hd : (x == ("__debug__" : Str)) = false := by decide) : PE X (.Name x pos) (tE c H0 ε (mC (.raw (.ty n)))) :=
  de_c (pe_bltn hg hm hv (v := .ty n) rfl hn hd) fun _ => .raw _
/-- a module's constant -/
structure KDat (K : PySem.W.Frag) (mg : Str → Option Value) (x : Str) (d : D) : Prop where
  ex : ∃ u v, mg x = some u ∧ RelV v u ∧ ∀ (S : Addr → Prop) B H, DV ⟨K, S, B⟩ H v d
theorem de_glob {S : Addr → Prop} {B} {x : Str} {d : D} {pos : Pos} (hg : Gl X x) (h : KDat X.K X.mg x d) (hd : (x == ("__debug__" : Str)) = false := by decide) : PE X (.Name x pos) (tE ⟨X.K, S, B⟩ H0 ε (mC d)) := by
  obtain ⟨u, v, h1, h2, h3⟩ := h.ex
  exact de_c (pe_glob hg h1 h2 hd) fun H => h3 S B H

/-! ### operators -/
def optK {α : Type} (o : Option α) (k : α → Prop) : Prop := match o with
  | some a => k a
  | none => False
theorem optK_some {α : Type} {o : Option α} {k : α → Prop} (h : optK o k) : ∃ a, o = some a ∧ k a := by
  cases o with
  | none => exact h.elim
  | some a => exact ⟨a, rfl, h⟩
def mOp (g : D → D → Option D) (ma mb : ME) : ME := fun ε ρ n k => ma ε ρ n fun x n1 => mb ε ρ n1 fun y n2 => optK (g x y) fun d => k d n2
def mUn (g : D → Option D) (ma : ME) : ME := fun ε ρ n k => ma ε ρ n fun x n1 => optK (g x) fun d => k d n1
def OpD (c : Cc) (r : R2) (g : D → D → Option D) : Prop := ∀ x y dx dy d H (Q : VK), DV c H x dx → DV c H y dy → g dx dy = some d → (∀ v H', DVn c H H' v d → Same H H' → Q v H') → r x y H Q
theorem same_refl (H : Hp) : Same H H := fun _ _ e => e
theorem de_bin {f : Value → Value → Sem Value} {r : R2} {g : D → D → Option D} {ma mb : ME} {e a b : Expr} (h : ∀ {ta tb}, PE X a ta → PE X b tb → PE X e (tOp r ta tb)) (hd : OpD c r g)
    (ha : PE X a (tE c H0 ε ma)) (hb : PE X b (tE c H0 ε mb)) : PE X e (tE c H0 ε (mOp g ma mb)) := by
  refine imp_pe (pe_fz (h ha hb)) fun σ H Q ⟨ρ, n, k, R, m, q⟩ => ?_
  refine ⟨ρ, n, _, R, m, fun x n1 v H1 m1 dv k1 b1 => ⟨ρ, n1, _, R.step k1 b1, m1, fun y n2 u H2 m2 du k2 b2 => ?_⟩⟩
  obtain ⟨d, e1, m3⟩ := optK_some m2
  refine hd _ _ _ _ _ H2 _ (dv.kw k2.kw) du e1 fun w H3 dw s3 => ?_
  exact fin_new (ρ := ρ) (σ := σ) b2 s3 dw m3 fun d n' v H' a1 a2 a3 a4 => q d n' v H' a1 a2 ((k1.trans k2).trans a3) a4
theorem de_op {op : Operator} {r : R2} {g : D → D → Option D} {ma mb : ME} {a b : Expr} {pos : Pos} (ho : OpR X (binaryOp op) r) (hd : OpD c r g) (ha : PE X a (tE c H0 ε ma)) (hb : PE X b (tE c H0 ε mb)) : PE X (.BinOp a op b pos) (tE c H0 ε (mOp g ma mb)) :=
  de_bin (f := binaryOp op) (fun h1 h2 => pe_op ho h1 h2) hd ha hb
theorem de_cmp {op : CmpOp} {r : R2} {g : D → D → Option D} {ma mb : ME} {a b : Expr} {pos : Pos} (ho : OpR X (compareOp op) r) (hd : OpD c r g) (hm : behindInMarks op b = false) (ha : PE X a (tE c H0 ε ma)) (hb : PE X b (tE c H0 ε mb)) :
    PE X (.Compare a [op] [b] pos) (tE c H0 ε (mOp g ma mb)) :=
  de_bin (f := compareOp op) (fun h1 h2 => pe_cmpR ho h1 h2 hm) hd ha hb
def UnD (c : Cc) (r : V → Hp → VK → Prop) (g : D → Option D) : Prop := ∀ x dx d H (Q : VK), DV c H x dx → g dx = some d → (∀ v H', DVn c H H' v d → Same H H' → Q v H') → r x H Q
theorem de_un {op : UnaryOp} {r : V → Hp → VK → Prop} {g : D → Option D} {ma : ME} {a : Expr} {pos : Pos} (ho : UnR X (unaryOp op) r) (hd : UnD c r g) (ha : PE X a (tE c H0 ε ma)) : PE X (.UnaryOp op a pos) (tE c H0 ε (mUn g ma)) := by
  refine imp_pe (pe_fz (pe_un ho ha)) fun σ H Q ⟨ρ, n, k, R, m, q⟩ => ?_
  refine ⟨ρ, n, _, R, m, fun x n1 v H1 m1 dv k1 b1 => ?_⟩
  obtain ⟨d, e1, m3⟩ := optK_some m1
  refine hd _ _ _ H1 _ dv e1 fun w H3 dw s3 => ?_
  exact fin_new (ρ := ρ) (σ := σ) b1 s3 dw m3 fun d n' v H' a1 a2 a3 a4 => q d n' v H' a1 a2 (k1.trans a3) a4

/-! the functions of data -/
def addD : D → D → Option D
  | .int a, .int b => some (.int (a + b))
  | .str a, .str b => if a.length + b.length ≤ sizeLine then some (.str (a ++ b)) else none
  | .lst xs, .lst ys => if xs.length + ys.length ≤ sizeLine then some (.lst (xs ++ ys)) else none
  | .tup xs, .tup ys => if xs.length + ys.length ≤ sizeLine then some (.tup (xs ++ ys)) else none
  | _, _ => none
theorem op_catF : OpR X (binaryOp .Add) (fun x y H Q => ∃ l b xs zs, x = .ref l ∧ y = .ref b ∧ FzL X.K H l xs ∧ FzL X.K H b zs ∧ xs.length + zs.length ≤ sizeLine ∧ ∀ p, H p = none → Q (.ref p) (upd H p (.lst (xs ++ zs)))) := by
  intro pins s σ H x y v u Q I rx ry h
  obtain ⟨l, b, xs, zs, rfl, rfl, f1, f2, sz, k⟩ := h
  cases rx
  cases ry
  obtain ⟨i1, n1, r1, g1, _⟩ := f1.at I
  obtain ⟨i2, n2, r2, g2, _⟩ := f2.at I
  have e1 := r1.length
  have e2 := r2.length
  refine PySem.P.add_list g1 g2 ?_ (by simp only [List.size_toArray]; omega)
  simp only [List.append_toArray]
  exact ⟨.ref _, _, I.lnew (t' := s.toks) (r1.append r2) (by rw [List.length_append]; omega), rfl, k _ I.fresh⟩
end
end DS
/-! # DataG: promises of defs that are called where no repr runs (so what repr gives is known in them) -/
namespace DS
open PySem PySem.Spec PyProof.Rows L2
/-- the promise of a def, where no repr is under way -/
structure FnG (P : Program) (w : World) (K : PySem.W.Frag) (mg : Str → Option Value) (base : Heap) (CX : CXT) (k : Nat) (f : Addr) (fd : FuncData) (ps : List Str) (sp : Sp) : Prop where
  len : ∀ vs H Q E, sp vs H Q E → vs.length = ps.length
  run : ∀ (A : Around) (out : List Env) (s : Shared) (H : Hp) (ar : Args) (us : List Value) (vs : List V) (Q : VK) (E : XK), A.guards = some [] → Room k A → Env0 P w K mg base A out s H →
    BindsTo s fd ar (ps.zip us) → Vals vs us → sp vs H Q E → codeAny (model P w) A (.call (.ref f) ar) (CR CX out P w H s Q E) s
section
variable {P : Program} {w : World} {K : PySem.W.Frag} {mg : Str → Option Value} {base : Heap} {CX : CXT} {k : Nat} {f : Addr}
theorem FnG.mono {j : Nat} {fd : FuncData} {ps : List Str} {sp : Sp} (F : FnG P w K mg base CX j f fd ps sp) (h : j ≤ k) : FnG P w K mg base CX k f fd ps sp :=
  ⟨F.len, fun A o s H ar us vs Q E g r => F.run A o s H ar us vs Q E g (r.mono h)⟩
theorem FnG.imp {fd : FuncData} {ps : List Str} {sp sp' : Sp} (F : FnG P w K mg base CX k f fd ps sp) (h : ∀ vs H Q E, sp' vs H Q E → sp vs H Q E) : FnG P w K mg base CX k f fd ps sp' :=
  ⟨fun vs H Q E q => F.len vs H Q E (h _ _ _ _ q), fun A o s H ar us vs Q E g r e b v q => F.run A o s H ar us vs Q E g r e b v (h _ _ _ _ q)⟩
/-- a def of the text by its body -/
theorem fng_of {x qual : Str} {st : Stmt} {fd : FuncData} {N ps : List Str} {sp : Sp} (F : Fun K x qual st f fd) (S : FnScope N ps (defScope st)) (len : ∀ vs H Q E, sp vs H Q E → vs.length = ps.length)
    (hb : ∀ (cdv : Value) (A : Around) (out : List Env) (s : Shared) (H : Hp) (vs : List V) (Q : VK) (E : XK), A.guards = some [] → Room k (A.deeper (envOfC qual (defScope st) s.heap.objs.size f cdv)) → sp vs H Q E →
      ∃ t, PSs (cxOf CX P w K mg base N qual (defScope st) f cdv A out s H E) (defBody st) t ∧ t { nx := fun _ H' => Q .non H', rt := Q } (start N vs) H) : FnG P w K mg base CX (k + 1) f fd ps sp := by
  obtain ⟨oc, od, kV, doc, pm, an, cdv, ct, osl, rfl, lk, hcd⟩ := F.ex
  refine ⟨len, fun A out s H ar us vs Q E hg hr e0 hbi hv hq => ?_⟩
  have there : ∀ b o, base.get? b = some o → s.heap.get? b = some o := fun b o e => (e0.bs b o e).1
  have inS : K.In s.heap := e0.mod.kin.keeps there
  have kinds : ∀ y ∈ ps.zip us, (defScope st).names.lookup y.1 = some .local ∨ ((defScope st).names.lookup y.1 = some .cell ∧ ((cellsFrom (s.heap.objs.size + 1) (defScope st).names []).lookup y.1).isSome = true) := by
    rintro ⟨y, v⟩ hy
    rcases S.par y (List.of_mem_zip hy).1 with q | q
    · exact .inl q
    · exact .inr ⟨q, PySem.W.cellsFrom_some _ _ _ (.inl q)⟩
  refine codeAny_call_function hr.depth (inS _ _ lk) rfl S.co S.gen rfl (PySem.W.codeRec_of inS hcd) (hbi _ _ _ _ ?_)
  refine wpAny_newFunctionEnv_cells S.kind kinds fun env he s1 ic => ?_
  subst he
  refine ⟨(e0.mod.nolimit.keeps there).keeps ic.toInCall.keep, codeAny_func ?_⟩
  obtain ⟨t, ht, hq'⟩ := hb cdv A out s H vs Q E hg (hr.deeper _) hq
  have I := inv_start (CX := CX) (E := E) S hr.hd e0 (len _ _ _ _ hq) hv ic
  refine wpAny_mono (ht.run [] s1 (start N vs) H _ I hq') (fun fl s' hs => ?_) (fun _ _ z => z)
  match fl, hs with
  | .ret u, ⟨v, σ', H', J, rv, q⟩ => exact ⟨v, H', J.os, J.bare, J.base, J.hok, rv, q⟩
  | .next, ⟨σ', H', J, q⟩ => exact ⟨V.non, H', J.os, J.bare, J.base, J.hok, rfl, q⟩
  | .brk, ⟨_, _, _, q⟩ => exact q.elim
  | .cont, ⟨_, _, _, q⟩ => exact q.elim
end
section
variable {X : Cx} {CX : CXT} {k : Nat} {f : Addr} {fd : FuncData} {ps : List Str} {sp : Sp} {E : XK}
/-- the def runs: however its arguments came -/
theorem run_g {pins : List (Addr × Obj)} {σ : St} {H : Hp} {s : Shared} {Q : VK} {us ws : List Value} {kw : List (Str × Value)} {vs : List V} (F : FnG X.prog X.w X.K X.mg X.base CX k f fd ps sp) (hg : X.A.guards = some []) (hr : Room k X.A) (hx : Passes CX X E)
    (I : Inv X pins σ H s) (hb : ws.length = ps.length → BindsTo s fd ⟨us, kw⟩ (ps.zip ws)) (r : Vals vs ws) (h : sp vs H Q E) : wpAny (model X.prog X.w) X.A (call (.ref f) us kw) (EP X pins σ Q) X.xe s := by
  have hl : ws.length = ps.length := r.length.symm.trans (F.len _ _ _ _ h)
  refine wpAny_call (codeAny_mono (F.run X.A X.stack s H ⟨us, kw⟩ ws vs Q E hg hr I.env0 (hb hl) r h) ?_)
  rintro (e | fl) s' hq
  · exact hx pins σ H s e s' I hq
  · match fl, hq with
    | .ret u, hq => exact I.after hq
    | .next, hq => exact hq.elim
    | .brk, hq => exact hq.elim
    | .cont, hq => exact hq.elim
variable {x : Str} {p pos : Pos} {e : Expr} {es : List Expr} {t tk : TA} {ds : List Value} {dvs : List V} {ks : List Str} {kws : List Keyword} {g : List Value → List Value → List Value} {gV : List V → List V → List V}
theorem pe_callG (F : FnG X.prog X.w X.K X.mg X.base CX k f fd ps sp) (hgd : X.A.guards = some []) (hr : Room k X.A) (hm : X.mg x = some (.ref f)) (hk : PySem.W.keepIn X.K (.ref f) = true) (hb : Binds X.K fd ps ds) (hd : Vals dvs ds) (hx : Passes CX X E) (hg : Gl X x)
    (ha : PA X (e :: es) t) (hdb : (x == ("__debug__" : Str)) = false := by decide) (he : starEach (e :: es) X.env = (false, eval e X.env) :: starEach es X.env := by rfl) (hpl : (backTo pos (starEach es X.env)).any (·.1) = false := by rfl) :
    PE X (.Call (.Name x p) (e :: es) [] pos) (tCall sp dvs E t) := by
  constructor
  intro pins s σ H Q I hq
  apply wpAny_Call_Name_kw
  refine ld_glob I hg hm (PySem.W.callWith_K (h₀ := X.base) I.ok.mod.kin hk (thn (ha.run pos pins s σ H _ I hq) ?_) he hpl) hdb
  rintro us s1 ⟨vs, H1, I1, r, q⟩
  exact ⟨I1.kIn, run_g F hgd hr hx I1 (fun hl => hb s1 us I1.kIn hl) (r.append hd) q⟩
theorem pe_callG0 (F : FnG X.prog X.w X.K X.mg X.base CX k f fd ps sp) (hgd : X.A.guards = some []) (hr : Room k X.A) (hm : X.mg x = some (.ref f)) (hk : PySem.W.keepIn X.K (.ref f) = true) (hb : Binds X.K fd ps ds) (hd : Vals dvs ds) (hx : Passes CX X E) (hg : Gl X x)
    (hdb : (x == ("__debug__" : Str)) = false := by decide) : PE X (.Call (.Name x p) [] [] pos) (tCall sp dvs E tNil) := by
  constructor
  intro pins s σ H Q I hq
  apply wpAny_Call_Name_kw
  exact ld_glob I hg hm (PySem.W.callWith_K0 I.kIn hk (run_g (us := []) (ws := ds) (vs := dvs) F hgd hr hx I (fun hl => hb s [] I.kIn hl) hd hq)) hdb
theorem pe_callKG (F : FnG X.prog X.w X.K X.mg X.base CX k f fd ps sp) (hgd : X.A.guards = some []) (hr : Room k X.A) (hm : X.mg x = some (.ref f)) (hk : PySem.W.keepIn X.K (.ref f) = true) (hb : KBinds X.K fd ps ks g gV) (hx : Passes CX X E) (hg : Gl X x)
    (ha : PA X (e :: es) t) (hkw : PK X kws tk) (hall : (backToKw pos (keywordEach kws X.env)).all (·.1.isSome) = true := by rfl) (hks : (backToKw pos (keywordEach kws X.env)).filterMap (·.1) = ks := by rfl)
    (hdb : (x == ("__debug__" : Str)) = false := by decide) (he : starEach (e :: es) X.env = (false, eval e X.env) :: starEach es X.env := by rfl)
    (hpl : ((backTo pos (starEach (e :: es) X.env)).any (·.1) || (backToKw pos (keywordEach kws X.env)).any (·.1.isNone)) = false := by rfl) :
    PE X (.Call (.Name x p) (e :: es) kws pos) (tCallK sp gV E t tk) := by
  constructor
  intro pins s σ H Q I hq
  apply wpAny_Call_Name_kw
  refine ld_glob I hg hm (PySem.W.callWith_KW (h₀ := X.base) I.ok.mod.kin hk hall (thn (ha.run pos pins s σ H _ I hq) ?_) hpl he) hdb
  rintro us s1 ⟨vs, H1, I1, r, q⟩
  refine thn (hkw.run pos pins s1 σ H1 _ I1 q) ?_
  rintro ws s2 ⟨zs, H2, I2, rz, q2⟩
  refine ⟨I2.kIn, ?_⟩
  rw [hks]
  exact run_g F hgd hr hx I2 (fun hl => hb.to s2 us ws I2.kIn hl) (hb.rel r rz) q2
theorem pe_callKG0 (F : FnG X.prog X.w X.K X.mg X.base CX k f fd ps sp) (hgd : X.A.guards = some []) (hr : Room k X.A) (hm : X.mg x = some (.ref f)) (hk : PySem.W.keepIn X.K (.ref f) = true) (hb : KBinds X.K fd ps ks g gV) (hx : Passes CX X E) (hg : Gl X x)
    (hkw : PK X kws tk) (hall : (backToKw pos (keywordEach kws X.env)).all (·.1.isSome) = true := by rfl) (hks : (backToKw pos (keywordEach kws X.env)).filterMap (·.1) = ks := by rfl)
    (hdb : (x == ("__debug__" : Str)) = false := by decide)
    (hpl : ((backTo pos (starEach [] X.env)).any (·.1) || (backToKw pos (keywordEach kws X.env)).any (·.1.isNone)) = false := by rfl) :
    PE X (.Call (.Name x p) [] kws pos) (tCallK sp gV E tNil tk) := by
  constructor
  intro pins s σ H Q I hq
  apply wpAny_Call_Name_kw
  refine ld_glob I hg hm (PySem.W.callWith_KW0 (h₀ := X.base) I.ok.mod.kin hk hall ?_ hpl) hdb
  refine thn (hkw.run pos pins s σ H _ I hq) ?_
  rintro ws s2 ⟨zs, H2, I2, rz, q2⟩
  refine ⟨I2.kIn, ?_⟩
  rw [hks]
  exact run_g (us := []) F hgd hr hx I2 (fun hl => hb.to s2 [] ws I2.kIn hl) (hb.rel .nil rz) q2
end
/-! ### the end of a law -/
/-- the law's call from the outermost frame: ob is the script's object, H tracks it or nothing -/
theorem law_core {P : Program} {w : World} {K : PySem.W.Frag} {mg mb : Str → Option Value} {CX : CXT} {k : Nat} {s₁ : Shared} {fa a : Addr} {vs : List Value} {ns : List Int} {fd : FuncData} {sp : Sp} {x : Str} {H : Hp}
    (KX : K.In s₁.heap) (hns : s₁.heap.Ns mainGlobals mg) (hb : s₁.heap.Ns builtinsNs mb) (hbb : ∀ y : Str, y ≠ "__name__" → mb y = bootBuiltins y) (hlim : s₁.heap.NoLimit) (hgen : s₁.gens = #[])
    (ha : s₁.heap.get? a = some { cls := .type "list", data := .seq vs.toArray }) (rv : Vals (ns.map V.int) vs) (hz : (ns.map V.int).length ≤ sizeLine) (hr : Room k callerA)
    (hH : ∀ b u, H b = some u → b = a ∧ u = .frz { cls := .type "list", data := .seq vs.toArray } (.lst (ns.map V.int)) ∧ K.lookup a = none)
    (F : ∀ base : Heap, K.In base → base.Ns mainGlobals mg → FnG P w K mg base CX k fa fd [x] sp) (hbind : ∀ (s : Shared) (u : Value), BindsTo s fd ⟨[u], []⟩ [(x, u)])
    (hq : sp [.ref a] H (fun v _ => v = .bl true) fun _ _ _ => False) (hCX : ∀ e s', CX [] H s₁ (fun _ _ _ => False) e s' → False) :
    codeAny (model P w) callerA (.call (.ref fa) ⟨[.ref a], []⟩) (fun r s' => r = .ok (.ret (.bool true)) ∧ OldK s₁.heap s'.heap ∧ s'.os = s₁.os ∧ AllBare s'.gens) s₁ := by
  have free : ∀ b, b ≠ a → H b = none := fun b hb => by
    cases z : H b with
    | none => rfl
    | some u => exact absurd (hH b u z).1 hb
  have hid : ∀ {b : Addr} {o : Obj}, s₁.heap.get? b = some o → b ≠ a → (hidT s₁.heap H).get? b = some o := fun e n => hidT_get e (free _ n)
  have nsB : ∀ {b : Addr} {m : Str → Option Value}, s₁.heap.Ns b m → (hidT s₁.heap H).Ns b m := fun {b m} ⟨o, es, ep, e, d, r⟩ => by
    refine ⟨o, es, ep, hid e fun z => ?_, d, r⟩
    subst z
    rw [ha] at e
    cases e
    cases d
  have inB : K.In (hidT s₁.heap H) := fun b o e => by
    refine hidT_get (KX b o e) ?_
    cases z : H b with
    | none => rfl
    | some u =>
      obtain ⟨rfl, _, hk⟩ := hH b u z
      rw [hk] at e
      cases e
  have hok : HOk P w H s₁.heap := fun b u e => by
    obtain ⟨rfl, rfl, _⟩ := hH b u e
    exact ⟨ha, hz, vs, _, rv, ha⟩
  have M : Mod K mg (hidT s₁.heap H) := ⟨inB, nsB hns, ⟨mb, nsB hb, hbb⟩, let ⟨mc, h1, h2⟩ := hlim; ⟨mc, nsB h1, h2⟩⟩
  have e0 : Env0 P w K mg (hidT s₁.heap H) callerA [] s₁ H := ⟨rfl, M, fun b o e => of_hidT e, Nat.le_of_eq (hidT_size _ _), trivial, fun b z => absurd z (List.not_mem_nil), hok, .of_eq hgen⟩
  refine codeAny_mono ((F _ inB (nsB hns)).run callerA [] s₁ H ⟨[.ref a], []⟩ [.ref a] [.ref a] _ _ rfl hr e0 (hbind s₁ (.ref a)) (.cons rfl .nil) hq) ?_
  rintro (e | fl) s' h
  · exact (hCX e s' h).elim
  · match fl, h with
    | .next, h => exact h.elim
    | .brk, h => exact h.elim
    | .cont, h => exact h.elim
    | .ret u, ⟨v, H', os, bare, un, hok', r', (q : v = .bl true)⟩ =>
      subst q
      obtain rfl : u = Value.bool true := r'
      refine ⟨rfl, OldK.of_keep fun b o e => ?_, os, bare⟩
      cases z : H b with
      | none => exact un.keep b o e z (List.not_mem_nil) (List.not_mem_nil)
      | some u =>
        obtain ⟨rfl, rfl, _⟩ := hH b u z
        have z2 := un.frzs b _ _ z
        rw [ha] at e
        cases e
        exact (hok' b _ z2).1
theorem law_g {l : PySem.W.OpenLaw} {n k : Nat} {q : Program} {loose : List Str} {XP : (Str → Option Value) → Heap → Prop} {YP : World → Heap → Prop} {d : DefRec} {K : Params → PySem.W.Frag} {CX : CXT} {sp : PySem.W.Frag → Sp} {x : Str}
    (hn : l.most = some n) (hn2 : n ≤ sizeLine) (hdf : d.params.defaults = []) (hr : Room k callerA) (hY : ∀ (w : World) (h : Heap), YP w h → (K w.params).In h)
    (F : ∀ (w : World) (mg : Str → Option Value) (fa : Addr) (h : Heap), (K w.params).In h → h.Ns mainGlobals mg → mg d.name = some (.ref fa) →
      ∃ fd : FuncData, (∀ (s : Shared) (u : Value), BindsTo s fd ⟨[u], []⟩ [(x, u)]) ∧ ∀ base : Heap, (K w.params).In base → base.Ns mainGlobals mg → FnG l.prog w (K w.params) mg base CX k fa fd [x] (sp (K w.params)))
    (hsp : ∀ (K : PySem.W.Frag) (H : Hp) (a : Addr) (ns : List Int), ns.length ≤ n → FzL K H a (ns.map V.int) → sp K [.ref a] H (fun v _ => v = .bl true) fun _ _ _ => False)
    (hCX : ∀ (H : Hp) (s : Shared) (e : Value) (s' : Shared), CX [] H s (fun _ _ _ => False) e s' → False) :
    PySem.W.WalkO q loose XP YP l.row.toRowW d [] (fun f vs => PySem.call f vs) := by
  refine Att.attach_call hn hdf fun w s₀ s₁ mg mb fa o pm cd doc a vs ns G Y ho hd hcd hmg hobj hints hlen hgn => ?_
  have KX := hY w _ Y
  obtain ⟨fd, hb, hF⟩ := F w mg fa _ KX G.T.g hmg
  have rv : Vals (ns.map V.int) vs := by
    clear hobj hlen
    induction hints with
    | nil => exact .nil
    | cons i t _ ih => exact .cons ⟨t, rfl⟩ ih
  have hz : (ns.map V.int).length ≤ sizeLine := by rw [List.length_map]; exact Nat.le_trans hlen hn2
  cases hk : (K w.params).lookup a with
  | some ob =>
    have e := KX a ob hk
    rw [hobj] at e
    cases e
    exact law_core (H := fun _ => none) KX G.T.g G.T.b G.T.builtins G.T.nolimit hgn hobj rv hz hr (fun b u z => nomatch z) hF hb (hsp _ _ _ ns hlen (.inr ⟨vs, _, hk, by rw [← rv.length]; exact hz, rv⟩)) fun e s' => hCX _ _ e s'
  | none =>
    refine law_core (H := fun b => if b = a then some (.frz { cls := .type "list", data := .seq vs.toArray } (.lst (ns.map V.int))) else none) KX G.T.g G.T.b G.T.builtins G.T.nolimit hgn hobj rv hz hr (fun b u z => ?_) hF hb
      (hsp _ _ _ ns hlen (.inl ⟨_, if_pos rfl⟩)) fun e s' => hCX _ _ e s'
    by_cases hba : b = a
    · rw [if_pos hba] at z
      cases z
      exact ⟨hba, rfl, hk⟩
    · rw [if_neg hba] at z
      cases z
end DS
namespace DS
open PySem PySem.Spec PyProof.Rows L2
/-! ### plain data -/
mutual
def pyD : D → Option PyData
  | .non => some .none
  | .bl b => some (.bool b)
  | .int i => some (.int i)
  | .str x => some (.str x)
  | .lst xs => (pyDs xs).map .list
  | .tup xs => (pyDs xs).map .tuple
  | .dct kvs => (pyDk kvs).map .dict
  | _ => none
def pyDs : List D → Option (List PyData)
  | [] => some []
  | x :: xs => match pyD x, pyDs xs with
    | some a, some b => some (a :: b)
    | _, _ => none
def pyDk : List (Key × D) → Option (List (PyData × PyData))
  | [] => some []
  | (k, x) :: xs => match pyD x, pyDk xs with
    | some a, some b => some (((match k with | .inl i => PyData.int i | .inr z => PyData.str z), a) :: b)
    | _, _ => none
end
section
variable {X : Cx} {c : Cc} {H0 : Hp} {ε : XD}
theorem opd_int {H : Hp} {i : Int} {v : V} : DV c H v (.int i) → v = .int i := fun h => by cases h; rfl
theorem opd_bl {H : Hp} {i : Bool} {v : V} : DV c H v (.bl i) → v = .bl i := fun h => by cases h; rfl
theorem opd_str {H : Hp} {i : Str} {v : V} : DV c H v (.str i) → v = .str i := fun h => by cases h; rfl
theorem opd_non {H : Hp} {v : V} : DV c H v .non → v = .non := fun h => by cases h; rfl
theorem opd_lst {H : Hp} {ds : List D} {v : V} : DV c H v (.lst ds) → ∃ a xs, v = .ref a ∧ FzL c.K H a xs ∧ DVs c H xs ds := fun h => by
  cases h with | lst a b => exact ⟨_, _, rfl, a, b⟩
theorem opd_tup {H : Hp} {ds : List D} {v : V} : DV c H v (.tup ds) → ∃ a xs, v = .ref a ∧ SqT c.K H a xs ∧ DVs c H xs ds := fun h => by
  cases h with | tup a b => exact ⟨_, _, rfl, a, b⟩
theorem DVn.of {H H' : Hp} {v : V} {d : D} (h : DV c H' v d) : DVn c H H' v d := .inl h
theorem new_lst {H : Hp} {Q : VK} {xs : List V} {ds : List D} (hs : DVs c H xs ds) (k : ∀ v H', DVn c H H' v (.lst ds) → Same H H' → Q v H') : ∀ p, H p = none → Q (.ref p) (upd H p (.lst xs)) := fun p hp =>
  k _ _ (.lst hp upd_same (hs.kw (Same.ks (same_new hp)).kw)) (same_new hp)
theorem new_tup {H : Hp} {Q : VK} {xs : List V} {ds : List D} (hs : DVs c H xs ds) (k : ∀ v H', DVn c H H' v (.tup ds) → Same H H' → Q v H') : ∀ p, H p = none → Q (.ref p) (upd H p (.tup xs)) := fun p hp =>
  k _ _ (.of (.tup (.inl (.inl upd_same)) (hs.kw (Same.ks (same_new hp)).kw))) (same_new hp)

/-! + -/
abbrev rAddI : R2 := rI0 fun i j => .int (i + j)
abbrev rAddS0 : R2 := fun x y H Q => ∃ i j, x = .str i ∧ y = .str j ∧ i.length + j.length ≤ sizeLine ∧ Q (.str (i ++ j)) H
abbrev rCatF (K : PySem.W.Frag) : R2 := fun x y H Q => ∃ l b xs zs, x = .ref l ∧ y = .ref b ∧ FzL K H l xs ∧ FzL K H b zs ∧ xs.length + zs.length ≤ sizeLine ∧ ∀ p, H p = none → Q (.ref p) (upd H p (.lst (xs ++ zs)))
abbrev rAddA (K : PySem.W.Frag) : R2 := fun x y H Q => (rAddI x y H Q ∨ rAddS0 x y H Q) ∨ (rCatF K x y H Q ∨ rCatA K x y H Q)
theorem oo_add : OpR X (binaryOp .Add) (rAddA X.K) := OpR.or (OpR.or op_add op_add_str) (OpR.or op_catF op_catA)
theorem od_add : OpD c (rAddA c.K) addD := by
  intro x y dx dy d H Q hx hy e k
  unfold addD at e
  split at e
  · cases e
    cases opd_int hx; cases opd_int hy
    exact .inl (.inl ⟨_, _, rfl, rfl, k _ _ (.of (.int _)) (same_refl H)⟩)
  · split at e
    · rename_i h1
      cases e
      cases opd_str hx; cases opd_str hy
      exact .inl (.inr ⟨_, _, rfl, rfl, h1, k _ _ (.of (.str _)) (same_refl H)⟩)
    · cases e
  · split at e
    · rename_i h1
      cases e
      obtain ⟨a, vs, rfl, ha, hs⟩ := opd_lst hx
      obtain ⟨b, ws, rfl, hb, ht⟩ := opd_lst hy
      have l1 := hs.length
      have l2 := ht.length
      exact .inr (.inl ⟨a, b, vs, ws, rfl, rfl, ha, hb, by omega, new_lst (hs.append ht) k⟩)
    · cases e
  · split at e
    · rename_i h1
      cases e
      obtain ⟨a, vs, rfl, ha, hs⟩ := opd_tup hx
      obtain ⟨b, ws, rfl, hb, ht⟩ := opd_tup hy
      have l1 := hs.length
      have l2 := ht.length
      refine .inr (.inr ⟨a, b, vs, ws, rfl, rfl, ha, hb, by omega, fun e => ?_, fun _ e => ?_, fun _ _ => new_tup (hs.append ht) k⟩)
      · subst e
        cases hs
        exact k _ _ (.of (.tup hb ht)) (same_refl H)
      · subst e
        cases ht
        rw [List.append_nil] at k
        exact k _ _ (.of (.tup ha hs)) (same_refl H)
    · cases e
  · cases e

/-! - * // % ** -/
def subD : D → D → Option D
  | .int a, .int b => some (.int (a - b))
  | _, _ => none
theorem od_sub : OpD c (rI0 fun i j => .int (i - j)) subD := by
  intro x y dx dy d H Q hx hy e k
  unfold subD at e
  split at e
  · cases e
    cases opd_int hx; cases opd_int hy
    exact ⟨_, _, rfl, rfl, k _ _ (.of (.int _)) (same_refl H)⟩
  · cases e
def mulD : D → D → Option D
  | .int a, .int b => if (-(2 ^ 64) < a ∧ a < 2 ^ 64) ∨ (-(2 ^ 64) < b ∧ b < 2 ^ 64) then some (.int (a * b)) else none
  | .lst xs, .int k => if -(2 ^ 63) ≤ k ∧ k < 2 ^ 63 ∧ xs.length * k.toNat ≤ sizeLine then some (.lst (List.replicate k.toNat xs).flatten) else none
  | _, _ => none
/-- a list times an int, the list locked or new -/
theorem rep_core {X : Cx} {pins : List (Addr × Obj)} {σ : L2.St} {H : Hp} {s : Shared} {l : Addr} {its : List Value} {n : Nat} {xs : List V} {k : Int} {t : Tok} {Q : VK} (I : Inv X pins σ H s)
    (e : s.heap.get? l = some { cls := .type "list", data := .seq its.toArray n }) (r : Vals xs its) (h1 : -(2 ^ 63) ≤ k) (h2 : k < 2 ^ 63) (hz : xs.length * k.toNat ≤ sizeLine)
    (q : ∀ p, H p = none → Q (.ref p) (upd H p (.lst (List.replicate k.toNat xs).flatten))) : wpAny (model X.prog X.w) X.A (binaryOp .Mult (.ref l) (.int k t)) (EP X pins σ Q) X.xe s := by
  have size : its.toArray.size * k.toNat ≤ sizeLine := by simpa [← r.length] using hz
  have room : (sizeLine : Nat) ≤ (2 ^ 63 - 1) / 8 := by decide
  have fold : ∀ m : Nat, List.foldl (fun x1 x2 => x1 ++ x2) #[] (List.replicate m its.toArray) = (List.replicate m its).flatten.toArray := fun m => by
    simpa using foldl_rep its m []
  have whole : List.foldl (fun x1 x2 => x1 ++ x2) #[] (List.replicate (if its.toArray.isEmpty = true then 0 else k.toNat) its.toArray) = (List.replicate k.toNat its).flatten.toArray := by
    rw [fold]
    cases its <;> simp
  have back : wpAny (model X.prog X.w) X.A (call (.builtin "list.__mul__") [.ref l, .int k t]) (EP X pins σ Q) X.xe s := call_meets PySem.F.slot_list_mul ⟨_, e, rfl⟩ PySem.F.entry_list_mul (PySem.F.args_list_mul_2 (.ref l) (.int k t))
    (AutoListH.list___mul___list_int_3 l its.toArray n k t (by rw [fitsIndex_both h1 h2]; decide) (by omega) (by rw [notLongL size]; decide))
    ⟨e, by rw [whole]; exact ⟨.ref _, _, I.lnew (t' := s.toks) (r.rep k.toNat) (by rw [PyProof.Rows.lm_len_rep_flat, Nat.mul_comm]; exact hz), rfl, q _ I.fresh⟩⟩
  exact wpAny_binaryOp_repeat_ref (by decide) ⟨_, e, rfl⟩ (fun s' => typeIs_int s' k t) noFill_list_mul PySem.F.fills_int_mul PySem.F.slot_int_rmul repeat_list PySem.F.slot_int_index.lookup
    (call_meets PySem.F.slot_int_rmul (typeIs_int s k t) PySem.F.entry_int_rmul (PySem.F.args_int_rmul_2 _ _) (int___rmul___int_list k t l its.toArray n) ⟨e, rfl, ⟨_, e, rfl⟩, back⟩)
abbrev rMulI : R2 := rI CMul fun i j => .int (i * j)
abbrev rRepF (K : PySem.W.Frag) : R2 := fun x y H Q => ∃ l k xs, x = .ref l ∧ y = .int k ∧ FzL K H l xs ∧ -(2 ^ 63) ≤ k ∧ k < 2 ^ 63 ∧ xs.length * k.toNat ≤ sizeLine ∧
  ∀ p, H p = none → Q (.ref p) (upd H p (.lst (List.replicate k.toNat xs).flatten))
theorem op_repF : OpR X (binaryOp .Mult) (rRepF X.K) := by
  rintro pins s σ H x y v u Q I rx ry ⟨l, k, xs, rfl, rfl, f, h1, h2, hz, q⟩
  cases rx
  obtain ⟨t, rfl⟩ := ry
  obtain ⟨its, n, r, e, _⟩ := f.at I
  exact rep_core I e r h1 h2 hz q
theorem DVs.rep {c : Cc} {H : Hp} {xs : List V} {ds : List D} (h : DVs c H xs ds) : ∀ n : Nat, DVs c H (List.replicate n xs).flatten (List.replicate n ds).flatten
  | 0 => .nil
  | n + 1 => by
    rw [List.replicate_succ, List.replicate_succ, List.flatten_cons, List.flatten_cons]
    exact h.append (DVs.rep h n)
abbrev rMulA (K : PySem.W.Frag) : R2 := fun x y H Q => rMulI x y H Q ∨ rRepF K x y H Q
theorem oo_mul : OpR X (binaryOp .Mult) (rMulA X.K) := OpR.or op_mul op_repF
theorem od_mul : OpD c (rMulA c.K) mulD := by
  intro x y dx dy d H Q hx hy e k
  unfold mulD at e
  split at e
  · split at e
    · rename_i h1
      cases e
      cases opd_int hx; cases opd_int hy
      exact .inl ⟨_, _, rfl, rfl, h1, k _ _ (.of (.int _)) (same_refl H)⟩
    · cases e
  · split at e
    · rename_i h1
      cases e
      obtain ⟨a, vs, rfl, ha, hs⟩ := opd_lst hx
      cases opd_int hy
      exact .inr ⟨a, _, vs, rfl, rfl, ha, h1.1, h1.2.1, by rw [hs.length]; exact h1.2.2, new_lst (hs.rep _) k⟩
    · cases e
  · cases e
def fdivD : D → D → Option D
  | .int a, .int b => if 0 < b ∧ b < 1073741824 then some (.int (a / b)) else none
  | _, _ => none
theorem od_fdiv : OpD c (rI CDiv fun i j => .int (i / j)) fdivD := by
  intro x y dx dy d H Q hx hy e k
  unfold fdivD at e
  split at e
  · split at e
    · rename_i h1
      cases e
      cases opd_int hx; cases opd_int hy
      exact ⟨_, _, rfl, rfl, h1, k _ _ (.of (.int _)) (same_refl H)⟩
    · cases e
  · cases e
def modD : D → D → Option D
  | .int a, .int b => if 0 < b then some (.int (a % b)) else none
  | _, _ => none
theorem od_mod : OpD c (rI (fun _ j => 0 < j) fun i j => .int (i % j)) modD := by
  intro x y dx dy d H Q hx hy e k
  unfold modD at e
  split at e
  · split at e
    · rename_i h1
      cases e
      cases opd_int hx; cases opd_int hy
      exact ⟨_, _, rfl, rfl, h1, k _ _ (.of (.int _)) (same_refl H)⟩
    · cases e
  · cases e
def powD : D → D → Option D
  | .int a, .int b => if 0 ≤ b ∧ b ≤ 1000000 ∧ a.natAbs < 2 ^ 64 then some (.int (a ^ b.toNat)) else none
  | _, _ => none
theorem od_pow : OpD c (rI CPow fun i j => .int (i ^ j.toNat)) powD := by
  intro x y dx dy d H Q hx hy e k
  unfold powD at e
  split at e
  · split at e
    · rename_i h1
      cases e
      cases opd_int hx; cases opd_int hy
      exact ⟨_, _, rfl, rfl, h1, k _ _ (.of (.int _)) (same_refl H)⟩
    · cases e
  · cases e
def negD : D → Option D
  | .int a => some (.int (-a))
  | _ => none
theorem ud_neg : UnD c (rU fun i => .int (-i)) negD := by
  intro x dx d H Q hx e k
  unfold negD at e
  split at e
  · cases e
    cases opd_int hx
    exact ⟨_, rfl, k _ _ (.of (.int _)) (same_refl H)⟩
  · cases e

/-! order of ints -/
def cmpI (g : Int → Int → Bool) : D → D → Option D
  | .int a, .int b => some (.bl (g a b))
  | _, _ => none
theorem od_cmpI {g : Int → Int → Bool} : OpD c (rI0 fun i j => .bl (g i j)) (cmpI g) := by
  intro x y dx dy d H Q hx hy e k
  unfold cmpI at e
  split at e
  · cases e
    cases opd_int hx; cases opd_int hy
    exact ⟨_, _, rfl, rfl, k _ _ (.of (.bl _)) (same_refl H)⟩
  · cases e
/-! is -/
def isD : D → D → Option D
  | .raw _, _ => none
  | .non, .non => some (.bl true)
  | .bl a, .bl b => some (.bl (decide (a = b)))
  | _, .non => some (.bl false)
  | _, .bl _ => some (.bl false)
  | _, _ => none
def isnD (x y : D) : Option D := match isD x y with
  | some (.bl b) => some (.bl (!b))
  | _ => none
abbrev rIsP (g : Bool → Bool) : R2 := fun x y H Q => (y = .non ∨ ∃ b, y = .bl b) ∧ Q (.bl (g (decide (x = y)))) H
theorem beqV {x y : V} {u v : Value} (hy : y = .non ∨ ∃ b, y = .bl b) (rx : RelV x u) (ry : RelV y v) : plainIs u v = true ∧ (u == v) = decide (x = y) := by
  rcases hy with rfl | ⟨b, rfl⟩
  · cases (show v = Value.none from ry)
    refine ⟨?_, rx.none_iff⟩
    cases x <;> first | (cases (show u = _ from rx); rfl) | (obtain ⟨t, rfl⟩ := rx; rfl)
  · cases (show v = Value.bool b from ry)
    cases x with
    | bl a =>
      cases (show u = Value.bool a from rx)
      refine ⟨rfl, ?_⟩
      by_cases e : a = b
      · subst e; simp
      · have e2 : ¬ (V.bl a = V.bl b) := fun z => e (V.bl.inj z)
        have e3 : ¬ (Value.bool a = Value.bool b) := fun z => e (Value.bool.inj z)
        rw [decide_eq_false e2]
        exact beq_eq_false_iff_ne.mpr e3
    | non => cases (show u = Value.none from rx); exact ⟨rfl, rfl⟩
    | int i => obtain ⟨t, rfl⟩ := rx; exact ⟨rfl, rfl⟩
    | str i => obtain ⟨t, rfl⟩ := rx; exact ⟨rfl, rfl⟩
    | byt i => obtain ⟨t, rfl⟩ := rx; exact ⟨rfl, rfl⟩
    | flt i => obtain ⟨t, rfl⟩ := rx; exact ⟨rfl, rfl⟩
    | ref a => cases (show u = Value.ref a from rx); exact ⟨rfl, rfl⟩
    | ty n => cases (show u = Value.type n from rx); exact ⟨rfl, rfl⟩
theorem oo_is : OpR X (compareOp .Is) (rIsP id) := by
  rintro pins s σ H x y u v Q I rx ry ⟨hy, q⟩
  obtain ⟨p, e⟩ := beqV hy rx ry
  exact wpAny_is_plain p ⟨.bl _, H, I, by rw [e]; rfl, q⟩
theorem oo_isn : OpR X (compareOp .IsNot) (rIsP not) := by
  rintro pins s σ H x y u v Q I rx ry ⟨hy, q⟩
  obtain ⟨p, e⟩ := beqV hy rx ry
  exact wpAny_isNot_plain p ⟨.bl _, H, I, by rw [e]; rfl, q⟩
theorem isD_ok {H : Hp} {x y : V} {dx dy d : D} (hx : DV c H x dx) (hy : DV c H y dy) (e : isD dx dy = some d) : (y = .non ∨ ∃ b, y = .bl b) ∧ d = .bl (decide (x = y)) := by
  unfold isD at e
  split at e
  · cases e
  · cases e; cases opd_non hx; cases opd_non hy; exact ⟨.inl rfl, by simp⟩
  · cases e; cases opd_bl hx; cases opd_bl hy
    refine ⟨.inr ⟨_, rfl⟩, ?_⟩
    rename_i a b
    by_cases z : a = b
    · subst z; simp
    · have z2 : ¬ (V.bl a = V.bl b) := fun q => z (V.bl.inj q)
      rw [decide_eq_false z, decide_eq_false z2]
  · rename_i h1 h2 h3
    cases e; cases opd_non hy
    refine ⟨.inl rfl, ?_⟩
    cases hx with
    | non => simp_all
    | raw v => simp_all
    | _ => rfl
  · rename_i b h1 h2 h3
    cases e; cases opd_bl hy
    refine ⟨.inr ⟨_, rfl⟩, ?_⟩
    cases hx with
    | bl a => simp_all
    | raw v => simp_all
    | _ => rfl
  · cases e
theorem od_is : OpD c (rIsP id) isD := by
  intro x y dx dy d H Q hx hy e k
  obtain ⟨h1, rfl⟩ := isD_ok hx hy e
  exact ⟨h1, k _ _ (.of (.bl _)) (same_refl H)⟩
theorem od_isn : OpD c (rIsP not) isnD := by
  intro x y dx dy d H Q hx hy e k
  unfold isnD at e
  split at e
  · rename_i b h
    cases e
    obtain ⟨h1, h2⟩ := isD_ok hx hy h
    cases h2
    exact ⟨h1, k _ _ (.of (.bl _)) (same_refl H)⟩
  · cases e

/-! == -/
mutual
theorem dp_of {H : Hp} : ∀ (d : D) (v : V) (e : PyData), DV c H v d → pyD d = some e → e.canLay0 = true → Dp c.K H v e
  | .non, _, _, h, e, _ => by cases h; cases e; exact .non
  | .bl b, _, _, h, e, _ => by cases h; cases e; exact .bl b
  | .int i, _, _, h, e, _ => by cases h; cases e; exact .int i
  | .str x, _, _, h, e, _ => by cases h; cases e; exact .str x
  | .lst xs, _, _, h, e, l => by
    cases h with
    | lst f hs =>
      rw [pyD] at e
      cases z : pyDs xs with
      | none => rw [z] at e; cases e
      | some es =>
        rw [z] at e; cases e
        exact .lst f.sq (dps_of xs _ es hs z (by simpa [PyData.canLay0] using l))
  | .tup xs, _, _, h, e, l => by
    cases h with
    | tup f hs =>
      rw [pyD] at e
      cases z : pyDs xs with
      | none => rw [z] at e; cases e
      | some es =>
        rw [z] at e; cases e
        exact .tup f (dps_of xs _ es hs z (by simpa [PyData.canLay0] using l))
  | .dct xs, _, _, h, e, l => by
    rw [pyD] at e
    cases z : pyDk xs with
    | none => rw [z] at e; cases e
    | some es => rw [z] at e; cases e; simp [PyData.canLay0] at l
  | .ins _ _, _, _, _, e, _ => by rw [pyD] at e <;> first | cases e | (intros; contradiction)
  | .box, _, _, _, e, _ => by rw [pyD] at e <;> first | cases e | (intros; contradiction)
  | .raw _, _, _, _, e, _ => by rw [pyD] at e <;> first | cases e | (intros; contradiction)
theorem dps_of {H : Hp} : ∀ (ds : List D) (vs : List V) (es : List PyData), DVs c H vs ds → pyDs ds = some es → PyData.canLayAll0 es = true → DpAll c.K H vs es
  | [], _, _, h, e, _ => by cases h; rw [pyDs] at e; cases e; exact .nil
  | d :: ds, _, _, h, e, l => by
    cases h with
    | cons a b =>
      rw [pyDs] at e
      split at e
      · rename_i e1 e2 h1 h2
        cases e
        have l' : e1.canLay0 = true ∧ PyData.canLayAll0 e2 = true := by simpa [PyData.canLayAll0] using l
        exact .cons (dp_of d _ e1 a h1 l'.1) (dps_of ds _ e2 b h2 l'.2)
      · cases e
end
def eqD (x y : D) : Option D := match pyD x, pyD y with
  | some a, some b => if SeqAt.shaped a = true ∧ SeqAt.shaped b = true then some (.bl (PyData.eqv a b)) else none
  | _, _ => none
def neD (x y : D) : Option D := match pyD x, pyD y with
  | some a, some b => if SeqAt.shaped a = true ∧ SeqAt.shaped b = true then some (.bl (!PyData.eqv a b)) else none
  | _, _ => none
theorem od_eq : OpD c (rEqD c.K) eqD := by
  intro x y dx dy d H Q hx hy e k
  unfold eqD at e
  split at e
  · rename_i a b h1 h2
    split at e
    · rename_i hs
      cases e
      exact ⟨a, b, dp_of _ _ _ hx h1 (SeqAt.canLay_of_shaped hs.1), dp_of _ _ _ hy h2 (SeqAt.canLay_of_shaped hs.2), hs.1, hs.2, k _ _ (.of (.bl _)) (same_refl H)⟩
    · cases e
  · cases e
theorem od_ne : OpD c (rNeD c.K) neD := by
  intro x y dx dy d H Q hx hy e k
  unfold neD at e
  split at e
  · rename_i a b h1 h2
    split at e
    · rename_i hs
      cases e
      exact ⟨a, b, dp_of _ _ _ hx h1 (SeqAt.canLay_of_shaped hs.1), dp_of _ _ _ hy h2 (SeqAt.canLay_of_shaped hs.2), hs.1, hs.2, k _ _ (.of (.bl _)) (same_refl H)⟩
    · cases e
  · cases e

/-! in, over flat things -/
def flD : D → Option V
  | .non => some .non
  | .bl b => some (.bl b)
  | .int i => some (.int i)
  | .str x => some (.str x)
  | _ => none
def flDs : List D → Option (List V)
  | [] => some []
  | x :: xs => match flD x, flDs xs with
    | some a, some b => some (a :: b)
    | _, _ => none
theorem fl_of {H : Hp} {v w : V} {d : D} (h : DV c H v d) (e : flD d = some w) : v = w ∧ flatV v = true := by
  cases h <;> first | (cases e; exact ⟨rfl, rfl⟩) | cases e
theorem fls_of {H : Hp} {vs ws : List V} {ds : List D} (h : DVs c H vs ds) (e : flDs ds = some ws) : vs = ws ∧ vs.all flatV = true := by
  induction ds generalizing vs ws with
  | nil => cases h; cases e; exact ⟨rfl, rfl⟩
  | cons d ds ih =>
    cases h with
    | cons a b =>
      rw [flDs] at e
      split at e
      · rename_i h1 h2
        cases e
        obtain ⟨rfl, q1⟩ := fl_of a h1
        obtain ⟨rfl, q2⟩ := ih b h2
        exact ⟨rfl, by simp [q1, q2]⟩
      · cases e
def inD (neg : Bool) : D → D → Option D
  | x, .lst ys => (match flD x, flDs ys with
    | some a, some b => some (.bl (if neg then !inV a b else inV a b))
    | _, _ => none)
  | x, .tup ys => (match flD x, flDs ys with
    | some a, some b => some (.bl (if neg then !inV a b else inV a b))
    | _, _ => none)
  | _, _ => none
theorem od_in {neg : Bool} : OpD c (rIn c.K neg) (inD neg) := by
  intro x y dx dy d H Q hx hy e k
  unfold inD at e
  split at e
  · split at e
    · rename_i h1 h2
      cases e
      obtain ⟨a, xs, rfl, f, hs⟩ := opd_lst hy
      obtain ⟨rfl, q1⟩ := fl_of hx h1
      obtain ⟨rfl, q2⟩ := fls_of hs h2
      exact ⟨a, _, rfl, .inl f.sq, q1, q2, k _ _ (.of (.bl _)) (same_refl H)⟩
    · cases e
  · split at e
    · rename_i h1 h2
      cases e
      obtain ⟨a, xs, rfl, f, hs⟩ := opd_tup hy
      obtain ⟨rfl, q1⟩ := fl_of hx h1
      obtain ⟨rfl, q2⟩ := fls_of hs h2
      exact ⟨a, _, rfl, .inr f, q1, q2, k _ _ (.of (.bl _)) (same_refl H)⟩
    · cases e
  · cases e
end
end DS
namespace DS
open PySem PySem.Spec PyProof.Rows L2
section
variable {X : Cx} {c : Cc} {H0 : Hp} {ε : XD}
/-! ### arguments, displays -/
def mNil : MA := fun _ _ n k => k [] n
def mCons (ma : ME) (mr : MA) : MA := fun ε ρ n k => ma ε ρ n fun d n1 => mr ε ρ n1 fun ds n2 => k (d :: ds) n2
theorem da_nil : PA X [] (tA c H0 ε mNil) := imp_pa pa_nil fun σ H Q ⟨ρ, n, k, R, m, q⟩ => q _ _ _ _ m .nil (Ks.refl _ _) R.box
theorem da_cons {e : Expr} {es : List Expr} {ma : ME} {mr : MA} (ha : PE X e (tE c H0 ε ma)) (hr : PA X es (tA c H0 ε mr)) (hs : starEach (e :: es) X.env = (false, eval e X.env) :: starEach es X.env := by rfl) : PA X (e :: es) (tA c H0 ε (mCons ma mr)) :=
  imp_pa (pa_cons ha hr hs) fun σ H Q ⟨ρ, n, k, R, m, q⟩ =>
    ⟨ρ, n, _, R, m, fun d n1 v H1 m1 dv k1 b1 => ⟨ρ, n1, _, R.step k1 b1, m1, fun ds n2 vs H2 m2 dvs k2 b2 => q _ _ _ _ m2 (.cons (dv.kw k2.kw) dvs) (k1.trans k2) b2⟩⟩
def dk_nil : PK X [] (tA c H0 ε mNil) := ⟨fun pos pins s σ H Q I ⟨ρ, n, k, R, m, q⟩ => pk_nil.run pos pins s σ H Q I (q _ _ _ _ m .nil (Ks.refl _ _) R.box)⟩
theorem dk_cons {e : Expr} {kws : List Keyword} {nm : Option Str} {kpos : Pos} {ma : ME} {mr : MA} (ha : PE X e (tE c H0 ε ma)) (hr : PK X kws (tA c H0 ε mr)) : PK X (⟨nm, e, kpos⟩ :: kws) (tA c H0 ε (mCons ma mr)) :=
  ⟨fun pos pins s σ H Q I ⟨ρ, n, k, R, m, q⟩ => (pk_cons ha hr).run pos pins s σ H Q I
    ⟨ρ, n, _, R, m, fun d n1 v H1 m1 dv k1 b1 => ⟨ρ, n1, _, R.step k1 b1, m1, fun ds n2 vs H2 m2 dvs k2 b2 => q _ _ _ _ m2 (.cons (dv.kw k2.kw) dvs) (k1.trans k2) b2⟩⟩⟩
def mArgs (g : List D → Option D) (ma : MA) : ME := fun ε ρ n k => ma ε ρ n fun ds n1 => optK (g ds) fun d => k d n1
def CallD (c : Cc) (r : List V → Hp → VK → Prop) (g : List D → Option D) : Prop := ∀ xs ds d H (Q : VK), DVs c H xs ds → g ds = some d → (∀ v H', DVn c H H' v d → Same H H' → Q v H') → r xs H Q
theorem de_args {e : Expr} {r : List V → Hp → VK → Prop} {g : List D → Option D} {ma : MA} {es : List Expr} (h : ∀ {t}, PA X es t → PE X e (tCB r t)) (hd : CallD c r g) (ha : PA X es (tA c H0 ε ma)) : PE X e (tE c H0 ε (mArgs g ma)) := by
  refine imp_pe (pe_fz (h ha)) fun σ H Q ⟨ρ, n, k, R, m, q⟩ => ?_
  refine ⟨ρ, n, _, R, m, fun ds n1 vs H1 m1 dvs k1 b1 => ?_⟩
  obtain ⟨d, e1, m3⟩ := optK_some m1
  refine hd _ _ _ H1 _ dvs e1 fun w H3 dw s3 => ?_
  exact fin_new (ρ := ρ) (σ := σ) b1 s3 dw m3 fun d n' v H' a1 a2 a3 a4 => q d n' v H' a1 a2 (k1.trans a3) a4
def lstD (ds : List D) : Option D := if ds.length ≤ 1000 then some (.lst ds) else none
def tupD (ds : List D) : Option D := if ds.length ≤ 1000 then some (.tup ds) else none
theorem small_line {n : Nat} (h : n ≤ 1000) : n ≤ sizeLine := Nat.le_trans h (by decide)
theorem de_lst {es : List Expr} {ma : MA} {pos : Pos} (ha : PA X es (tA c H0 ε ma)) : PE X (.List es pos) (tE c H0 ε (mArgs lstD ma)) :=
  de_args (r := fun xs H Q => xs.length ≤ sizeLine ∧ ∀ p, H p = none → Q (.ref p) (upd H p (.lst xs))) (fun h => pe_lst h) (fun xs ds d H Q hs e k => by
    unfold lstD at e
    split at e
    · rename_i h
      cases e
      exact ⟨by rw [hs.length]; exact small_line h, new_lst hs k⟩
    · cases e) ha
theorem de_tup {es : List Expr} {ma : MA} {x1} {pos : Pos} (ha : PA X es (tA c H0 ε ma)) : PE X (.Tuple es x1 pos) (tE c H0 ε (mArgs tupD ma)) :=
  de_args (r := fun xs H Q => xs.length ≤ sizeLine ∧ ∀ p, H p = none → Q (.ref p) (upd H p (.tup xs))) (fun h => pe_tup h) (fun xs ds d H Q hs e k => by
    unfold tupD at e
    split at e
    · rename_i h
      cases e
      exact ⟨by rw [hs.length]; exact small_line h, new_tup hs k⟩
    · cases e) ha

/-! ### built-ins -/
variable {id T x : Str} {p pos : Pos} {e : Expr} {es : List Expr} {ma : MA} {r : List V → Hp → VK → Prop} {g : List D → Option D}
theorem de_callB {id : String} (hc : CallR X (.builtin id) r) (hd : CallD c r g) (hm : X.mg x = none) (hv : bootBuiltins x = some (.builtin id)) (ha : PA X (e :: es) (tA c H0 ε ma)) (hg : Gl X x := by rfl) (hn : x ≠ "__name__" := by decide) (hdb : (x == ("__debug__" : Str)) = false := by decide)
    (he : starEach (e :: es) X.env = (false, eval e X.env) :: starEach es X.env := by rfl) (hpl : (backTo pos (starEach es X.env)).any (·.1) = false := by rfl) : PE X (.Call (.Name x p) (e :: es) [] pos) (tE c H0 ε (mArgs g ma)) :=
  de_args (fun h => pe_callB hc hg hm hv h hn hdb he hpl) hd ha
theorem de_callT {T : String} (hc : CallR X (.type T) r) (hd : CallD c r g) (hm : X.mg x = none) (hv : bootBuiltins x = some (.type T)) (ha : PA X (e :: es) (tA c H0 ε ma)) (hg : Gl X x := by rfl) (hn : x ≠ "__name__" := by decide) (hdb : (x == ("__debug__" : Str)) = false := by decide)
    (he : starEach (e :: es) X.env = (false, eval e X.env) :: starEach es X.env := by rfl) (hpl : (backTo pos (starEach es X.env)).any (·.1) = false := by rfl) : PE X (.Call (.Name x p) (e :: es) [] pos) (tE c H0 ε (mArgs g ma)) :=
  de_args (fun h => pe_callTy hc hg hm hv h hn hdb he hpl) hd ha
theorem dvs1 {H : Hp} {xs : List V} {d : D} (h : DVs c H xs [d]) : ∃ v, xs = [v] ∧ DV c H v d := by
  cases h with | cons a b => cases b; exact ⟨_, rfl, a⟩
theorem dvs2 {H : Hp} {xs : List V} {d d2 : D} (h : DVs c H xs [d, d2]) : ∃ v w, xs = [v, w] ∧ DV c H v d ∧ DV c H w d2 := by
  cases h with | cons a b => cases b with | cons a2 b2 => cases b2; exact ⟨_, _, rfl, a, a2⟩
def lenD : List D → Option D
  | [.lst xs] => some (.int xs.length)
  | [.tup xs] => some (.int xs.length)
  | [.str z] => if z.length ≤ sizeLine then some (.int z.length) else none
  | _ => none
abbrev rLenA (K : PySem.W.Frag) : List V → Hp → VK → Prop := fun xs H Q => ∃ x n, xs = [x] ∧ LenV K x H n ∧ Q (.int n) H
theorem cd_len : CallD c (rLenA c.K) lenD := by
  intro xs ds d H Q hs e k
  unfold lenD at e
  split at e
  · cases e
    obtain ⟨v, rfl, h⟩ := dvs1 hs
    obtain ⟨a, ys, rfl, f, h2⟩ := opd_lst h
    rw [← h2.length] at k
    exact ⟨_, _, rfl, .inl ⟨_, f.sq, rfl⟩, k _ _ (.of (.int _)) (same_refl H)⟩
  · cases e
    obtain ⟨v, rfl, h⟩ := dvs1 hs
    obtain ⟨a, ys, rfl, f, h2⟩ := opd_tup h
    rw [← h2.length] at k
    exact ⟨_, _, rfl, .inr ⟨_, f, rfl⟩, k _ _ (.of (.int _)) (same_refl H)⟩
  · split at e
    · rename_i hz
      cases e
      obtain ⟨v, rfl, h⟩ := dvs1 hs
      cases opd_str h
      exact ⟨_, _, rfl, ⟨hz, rfl⟩, k _ _ (.of (.int _)) (same_refl H)⟩
    · cases e
  · cases e
def intD : List D → Option D
  | [.int i] => some (.int i)
  | [.bl b] => some (.int (if b then 1 else 0))
  | _ => none
theorem cd_int : CallD c (fun xs H Q => (∃ i, xs = [.int i] ∧ Q (.int i) H) ∨ ∃ k, xs = [.bl k] ∧ Q (.int (if k then 1 else 0)) H) intD := by
  intro xs ds d H Q hs e k
  unfold intD at e
  split at e
  · cases e
    obtain ⟨v, rfl, h⟩ := dvs1 hs
    cases opd_int h
    exact .inl ⟨_, rfl, k _ _ (.of (.int _)) (same_refl H)⟩
  · cases e
    obtain ⟨v, rfl, h⟩ := dvs1 hs
    cases opd_bl h
    exact .inr ⟨_, rfl, k _ _ (.of (.int _)) (same_refl H)⟩
  · cases e
def strD : List D → Option D
  | [.int i] => if i.natAbs.log2 < 1920 then some (.str (toString i)) else none
  | _ => none
theorem cd_str : CallD c (fun xs H Q => ∃ i, xs = [.int i] ∧ i.natAbs.log2 < 1920 ∧ Q (.str (toString i)) H) strD := by
  intro xs ds d H Q hs e k
  unfold strD at e
  split at e
  · split at e
    · rename_i hz
      cases e
      obtain ⟨v, rfl, h⟩ := dvs1 hs
      cases opd_int h
      exact ⟨_, rfl, hz, k _ _ (.of (.str _)) (same_refl H)⟩
    · cases e
  · cases e
def absD : List D → Option D
  | [.int i] => some (.int (if i < 0 then -i else i))
  | _ => none
theorem cd_abs : CallD c (fun xs H Q => ∃ i, xs = [.int i] ∧ Q (.int (if i < 0 then -i else i)) H) absD := by
  intro xs ds d H Q hs e k
  unfold absD at e
  split at e
  · cases e
    obtain ⟨v, rfl, h⟩ := dvs1 hs
    cases opd_int h
    exact ⟨_, rfl, k _ _ (.of (.int _)) (same_refl H)⟩
  · cases e
def listD : List D → Option D
  | [.lst xs] => some (.lst xs)
  | [.tup xs] => some (.lst xs)
  | _ => none
theorem cd_list : CallD c (fun xs H Q => ∃ p ys, xs = [.ref p] ∧ (SqL c.K H p ys ∨ SqT c.K H p ys) ∧ ∀ l, H l = none → Q (.ref l) (upd H l (.lst ys))) listD := by
  intro xs ds d H Q hs e k
  unfold listD at e
  split at e
  · cases e
    obtain ⟨v, rfl, h⟩ := dvs1 hs
    obtain ⟨a, ys, rfl, f, h2⟩ := opd_lst h
    exact ⟨_, _, rfl, .inl f.sq, new_lst h2 k⟩
  · cases e
    obtain ⟨v, rfl, h⟩ := dvs1 hs
    obtain ⟨a, ys, rfl, f, h2⟩ := opd_tup h
    exact ⟨_, _, rfl, .inr f, new_lst h2 k⟩
  · cases e
def tupleD : List D → Option D
  | [.lst xs] => some (.tup xs)
  | [.tup xs] => some (.tup xs)
  | _ => none
theorem cd_tuple : CallD c (fun xs H Q => ∃ p ys, xs = [.ref p] ∧ ((SqL c.K H p ys ∧ ∀ l, H l = none → Q (.ref l) (upd H l (.tup ys))) ∨ (SqT c.K H p ys ∧ Q (.ref p) H))) tupleD := by
  intro xs ds d H Q hs e k
  unfold tupleD at e
  split at e
  · cases e
    obtain ⟨v, rfl, h⟩ := dvs1 hs
    obtain ⟨a, ys, rfl, f, h2⟩ := opd_lst h
    exact ⟨_, _, rfl, .inl ⟨f.sq, new_tup h2 k⟩⟩
  · cases e
    obtain ⟨v, rfl, h⟩ := dvs1 hs
    obtain ⟨a, ys, rfl, f, h2⟩ := opd_tup h
    exact ⟨_, _, rfl, .inr ⟨f, k _ _ (.of (.tup f h2)) (same_refl H)⟩⟩
  · cases e
def intsOf : List D → Option (List Int)
  | [] => some []
  | .int i :: r => (intsOf r).map (i :: ·)
  | _ => none
theorem ints_of {H : Hp} {vs : List V} {ds : List D} {ns : List Int} (h : DVs c H vs ds) (e : intsOf ds = some ns) : vs = ns.map V.int := by
  induction ds generalizing vs ns with
  | nil => cases h; cases e; rfl
  | cons d ds ih =>
    cases h with
    | cons a b =>
      cases d <;> try (rw [intsOf] at e <;> first | cases e | (intros; contradiction))
      rw [intsOf] at e
      cases z : intsOf ds with
      | none => rw [z] at e; cases e
      | some ms =>
        rw [z] at e; cases e
        cases opd_int a
        rw [ih b z]; rfl
def blsOf : List D → Option (List Bool)
  | [] => some []
  | .bl i :: r => (blsOf r).map (i :: ·)
  | _ => none
theorem bls_of {H : Hp} {vs : List V} {ds : List D} {ns : List Bool} (h : DVs c H vs ds) (e : blsOf ds = some ns) : vs = ns.map V.bl := by
  induction ds generalizing vs ns with
  | nil => cases h; cases e; rfl
  | cons d ds ih =>
    cases h with
    | cons a b =>
      cases d <;> try (rw [blsOf] at e <;> first | cases e | (intros; contradiction))
      rw [blsOf] at e
      cases z : blsOf ds with
      | none => rw [z] at e; cases e
      | some ms =>
        rw [z] at e; cases e
        cases opd_bl a
        rw [ih b z]; rfl
def sumD : List D → Option D
  | [.lst xs] => (intsOf xs).map fun ns => .int ns.sum
  | _ => none
theorem cd_sum : CallD c (rSum c.K) sumD := by
  intro xs ds d H Q hs e k
  unfold sumD at e
  split at e
  · rename_i ys
    cases z : intsOf ys with
    | none => rw [z] at e; cases e
    | some ns =>
      rw [z] at e; cases e
      obtain ⟨v, rfl, h⟩ := dvs1 hs
      obtain ⟨a, ws, rfl, f, h2⟩ := opd_lst h
      cases ints_of h2 z
      exact ⟨_, _, rfl, f.sq, k _ _ (.of (.int _)) (same_refl H)⟩
  · cases e
def allD : List D → Option D
  | [.lst xs] => (blsOf xs).map fun ns => .bl (ns.all (fun b => b))
  | _ => none
def anyD : List D → Option D
  | [.lst xs] => (blsOf xs).map fun ns => .bl (ns.any (fun b => b))
  | _ => none
theorem cd_all : CallD c (rAll c.K) allD := by
  intro xs ds d H Q hs e k
  unfold allD at e
  split at e
  · rename_i ys
    cases z : blsOf ys with
    | none => rw [z] at e; cases e
    | some ns =>
      rw [z] at e; cases e
      obtain ⟨v, rfl, h⟩ := dvs1 hs
      obtain ⟨a, ws, rfl, f, h2⟩ := opd_lst h
      cases bls_of h2 z
      exact ⟨_, _, rfl, f.sq, k _ _ (.of (.bl _)) (same_refl H)⟩
  · cases e
theorem cd_any : CallD c (rAny c.K) anyD := by
  intro xs ds d H Q hs e k
  unfold anyD at e
  split at e
  · rename_i ys
    cases z : blsOf ys with
    | none => rw [z] at e; cases e
    | some ns =>
      rw [z] at e; cases e
      obtain ⟨v, rfl, h⟩ := dvs1 hs
      obtain ⟨a, ws, rfl, f, h2⟩ := opd_lst h
      cases bls_of h2 z
      exact ⟨_, _, rfl, f.sq, k _ _ (.of (.bl _)) (same_refl H)⟩
  · cases e

/-! isinstance -/
def tyD : D → Option String
  | .non => some "NoneType"
  | .bl _ => some "bool"
  | .int _ => some "int"
  | .str _ => some "str"
  | .lst _ => some "list"
  | .tup _ => some "tuple"
  | .dct _ => some "dict"
  | _ => none
def isT (t n : String) : Bool := t == n || (t == "bool" && n == "int")
def tyNames : List String := ["int", "bool", "str", "list", "tuple", "dict"]
theorem isT_ok : ∀ t ∈ ["NoneType", "bool", "int", "str", "list", "tuple", "dict"], ∀ n ∈ tyNames, kitB t n = some (isT t n) := by decide +kernel
theorem tyx_of {H : Hp} {v : V} {d : D} {t : String} (h : DV c H v d) (e : tyD d = some t) : TyX c.K H v (.type t) ∧ t ∈ ["NoneType", "bool", "int", "str", "list", "tuple", "dict"] := by
  cases h with
  | non => cases e; exact ⟨.base .non, by decide⟩
  | bl b => cases e; exact ⟨.base (.bl b), by decide⟩
  | int i => cases e; exact ⟨.base (.int i), by decide⟩
  | str z => cases e; exact ⟨.base (.str z), by decide⟩
  | lst f hs =>
    cases e
    refine ⟨?_, by decide⟩
    rcases f with ⟨o, f⟩ | ⟨its, n, f, _⟩
    · exact .base (.frz f)
    · exact .kList f rfl
  | tup f hs =>
    cases e
    refine ⟨?_, by decide⟩
    rcases f with (f | ⟨o, f⟩) | ⟨o, its, n, f, hc, _⟩
    · exact .base (.tup f)
    · exact .fTuple f
    · exact .kTuple f hc
  | dct f hs => cases e; exact ⟨.fDict f, by decide⟩
  | ins => cases e
  | box => cases e
  | raw => cases e
def isiD : List D → Option D
  | [x, .raw (.ty n)] => (match tyD x with
    | some t => if n ∈ tyNames then some (.bl (isT t n)) else none
    | none => none)
  | _ => none
theorem cd_isi : CallD c (rIsi c.K) isiD := by
  intro xs ds d H Q hs e k
  unfold isiD at e
  split at e
  · split at e
    · split at e
      · rename_i hn
        cases e
        obtain ⟨v, w, rfl, h1, h2⟩ := dvs2 hs
        obtain ⟨ty, mt⟩ := tyx_of h1 (by assumption)
        cases h2
        exact ⟨_, _, _, _, _, rfl, .ty _, ty, kit_ty (isT_ok _ mt _ hn), k _ _ (.of (.bl _)) (same_refl H)⟩
      · cases e
    · cases e
  · cases e
/-- isinstance(x, (T1, T2)) -/
def isi2 (n1 n2 : String) (x : D) : Option D := match tyD x with
  | some t => some (.bl (isT t n1 || isT t n2))
  | none => none
def mUn1 (g : D → Option D) (ma : ME) : ME := fun ε ρ n k => ma ε ρ n fun x n1 => optK (g x) fun d => k d n1
theorem de_isi2 {a1 a2 : Str} {n1 n2 : String} {ma : ME} {q1 q2 tp : Pos} {k1} (hm : X.mg "isinstance" = none) (hm1 : X.mg a1 = none) (hm2 : X.mg a2 = none) (hv1 : bootBuiltins a1 = some (.type n1)) (hv2 : bootBuiltins a2 = some (.type n2))
    (he : PE X e (tE c H0 ε ma)) (i1 : n1 ∈ tyNames := by decide) (i2 : n2 ∈ tyNames := by decide) (hK : X.K = c.K := by rfl) (hg : Gl X "isinstance" := by rfl) (hg1 : Gl X a1 := by rfl) (hg2 : Gl X a2 := by rfl)
    (m1 : a1 ≠ "__name__" := by decide) (d1 : (a1 == ("__debug__" : Str)) = false := by decide) (m2 : a2 ≠ "__name__" := by decide) (d2 : (a2 == ("__debug__" : Str)) = false := by decide)
    (s0 : starEach [e, .Tuple [.Name a1 q1, .Name a2 q2] k1 tp] X.env = (false, eval e X.env) :: starEach [.Tuple [.Name a1 q1, .Name a2 q2] k1 tp] X.env := by rfl)
    (s1 : starEach [.Tuple [.Name a1 q1, .Name a2 q2] k1 tp] X.env = (false, eval (.Tuple [.Name a1 q1, .Name a2 q2] k1 tp) X.env) :: starEach [] X.env := by rfl)
    (s2 : starEach [.Name a1 q1, .Name a2 q2] X.env = (false, eval (.Name a1 q1) X.env) :: starEach [.Name a2 q2] X.env := by rfl) (s3 : starEach [.Name a2 q2] X.env = (false, eval (.Name a2 q2) X.env) :: starEach [] X.env := by rfl)
    (hpl : (backTo pos (starEach [.Tuple [.Name a1 q1, .Name a2 q2] k1 tp] X.env)).any (·.1) = false := by rfl) :
    PE X (.Call (.Name "isinstance" p) [e, .Tuple [.Name a1 q1, .Name a2 q2] k1 tp] [] pos) (tE c H0 ε (mUn1 (isi2 n1 n2) ma)) := by
  have ht : PE X (.Tuple [.Name a1 q1, .Name a2 q2] k1 tp) (tTup (tCons (tC (.ty n1)) (tCons (tC (.ty n2)) tNil))) :=
    pe_tup (pa_cons (pe_bltn hg1 hm1 hv1 (v := .ty n1) rfl m1 d1) (pa_cons (pe_bltn hg2 hm2 hv2 (v := .ty n2) rfl m2 d2) pa_nil s3) s2)
  refine imp_pe (pe_callB call_isiT hg hm (by decide +kernel) (pa_cons he (pa_cons ht pa_nil s1) s0) (by decide) (by decide) s0 hpl) fun σ H Q ⟨ρ, n, k, R, m, q⟩ => ?_
  refine ⟨ρ, n, _, R, m, fun d n' v H1 m1 dv k1 b1 => ?_⟩
  obtain ⟨b, e1, m3⟩ := optK_some m1
  refine ⟨by show 2 ≤ sizeLine; decide, fun tpl hp => ?_⟩
  unfold isi2 at e1
  split at e1
  · rename_i t ht
    cases e1
    obtain ⟨ty, mt⟩ := tyx_of dv ht
    have sm := same_new (o := .tup [.ty n1, .ty n2]) hp
    have kx := kit_ty (K := X.K) (isT_ok _ mt _ i1)
    have ky := kit_ty (K := X.K) (isT_ok _ mt _ i2)
    have ty2 := (tyx_of (dv.kw (Same.ks sm).kw) ht).1
    rw [← hK] at ty2
    refine ⟨v, tpl, [.ty n1, .ty n2], .type t, [.type n1, .type n2], isT t n1 || isT t n2, rfl, upd_same, .cons (.ty _) (.cons (.ty _) .nil), ty2, ?_, ?_⟩
    · refine kitAny_cons kx (fun h => ?_) (fun h => by rw [h]; rfl)
      rw [h]
      exact kitAny_cons ky (fun h2 => by rw [h2]; rfl) (fun h2 => by rw [h2]; rfl)
    · exact q _ _ _ _ m3 (.bl _) (k1.trans (Same.ks sm)) (b1.same sm)
  · cases e1
end
end DS
namespace DS
open PySem PySem.Spec PyProof.Rows L2
section
variable {X : Cx} {c : Cc} {H0 : Hp} {ε : XD}
/-! ### truth, tests -/
def truthD : D → Option Bool
  | .non => some false
  | .bl b => some b
  | .int i => some (i != 0)
  | .str z => if z.length ≤ sizeLine then some ((z.length : Int) != 0) else none
  | .lst xs => some (!xs.isEmpty)
  | .tup xs => some (!xs.isEmpty)
  | _ => none
theorem tru_of {H : Hp} {v : V} {d : D} {b : Bool} (h : DV c H v d) (e : truthD d = some b) : TruV c.K v H b := by
  cases h with
  | non => cases e; rfl
  | bl x => cases e; rfl
  | int i => cases e; rfl
  | str z =>
    by_cases hz : z.length ≤ sizeLine
    · have e' : some ((z.length : Int) != 0) = some b := by rw [← e]; exact (if_pos hz).symm
      cases e'
      exact ⟨hz, rfl⟩
    · have e' : (none : Option Bool) = some b := by rw [← e]; exact (if_neg hz).symm
      cases e'
  | lst f hs => cases e; exact .inl ⟨_, f.sq, by rw [hs.isEmpty]⟩
  | tup f hs => cases e; exact .inr (.inl ⟨_, f, by rw [hs.isEmpty]⟩)
  | dct f hs => cases e
  | ins => cases e
  | box => cases e
  | raw => cases e
def mTru (ma : ME) : MT := fun ε ρ n k => ma ε ρ n fun d n1 => optK (truthD d) fun b => k b n1
def mBl (ma : ME) : MT := fun ε ρ n k => ma ε ρ n fun d n1 => match d with
  | .bl b => k b n1
  | _ => False
def mNot (ma : MT) : MT := fun ε ρ n k => ma ε ρ n fun b n1 => k (!b) n1
def mAnd (ma mb : MT) : MT := fun ε ρ n k => ma ε ρ n fun b n1 => if b = true then mb ε ρ n1 k else k false n1
def mOr (ma mb : MT) : MT := fun ε ρ n k => ma ε ρ n fun b n1 => if b = true then k true n1 else mb ε ρ n1 k
variable {a b e : Expr} {rest : List Expr} {pos : Pos} {ma mb mc : ME} {ta tb : MT}
theorem dt_tru (h : PE X a (tE c H0 ε ma)) (hK : c.K = X.K := by rfl) (he : ∀ whole, isTrue a X.env whole = (do let v ← whole; standAt a.pos; holding [v] (truthy v)) := by intro _; rfl) : PT X a (tT c H0 ε (mTru ma)) :=
  imp_pt (pt_truth h he) fun σ H Q ⟨ρ, n, k, R, m, q⟩ => ⟨ρ, n, _, R, m, fun d n1 v H1 m1 dv k1 b1 => by
    obtain ⟨b, e1, m2⟩ := optK_some m1
    exact ⟨b, hK ▸ tru_of dv e1, q _ _ _ m2 k1 b1⟩⟩
theorem dt_bl {t : TE} (h : PT X a (tTest t)) (i : ∀ σ H Q, tE c H0 ε ma σ H Q → t σ H Q) : PT X a (tT c H0 ε (mBl ma)) :=
  imp_pt h fun σ H Q ⟨ρ, n, k, R, m, q⟩ => i _ _ _ ⟨ρ, n, _, R, m, fun d n1 v H1 m1 dv k1 b1 => by
    cases dv with
    | bl b => exact ⟨b, rfl, q _ _ _ m1 k1 b1⟩
    | _ => exact m1.elim⟩
theorem dt_not (h : PT X a (tT c H0 ε ta)) : PT X (.UnaryOp .Not a pos) (tT c H0 ε (mNot ta)) :=
  imp_pt (pt_not h) fun σ H Q ⟨ρ, n, k, R, m, q⟩ => ⟨ρ, n, _, R, m, fun b n1 H1 m1 k1 b1 => q _ _ _ m1 k1 b1⟩
theorem dw_and1 (h : PT X a (tT c H0 ε ta)) : PW X (.BoolOp .And [a] pos) (tT c H0 ε ta) := pw_and1 h
theorem dw_or1 (h : PT X a (tT c H0 ε ta)) : PW X (.BoolOp .Or [a] pos) (tT c H0 ε ta) := pw_or1 h
theorem dw_and (h : PT X a (tT c H0 ε ta)) (g : PW X (.BoolOp .And (b :: rest) pos) (tT c H0 ε tb)) : PW X (.BoolOp .And (a :: b :: rest) pos) (tT c H0 ε (mAnd ta tb)) :=
  imp_pw (pw_and h g) fun σ H Q ⟨ρ, n, k, R, m, q⟩ => ⟨ρ, n, _, R, m, fun b n1 H1 m1 k1 b1 => by
    cases b with
    | true => rw [if_pos rfl] at m1 ⊢; exact ⟨ρ, n1, k, R.step k1 b1, m1, fun b2 n2 H2 m2 k2 b3 => q _ _ _ m2 (k1.trans k2) b3⟩
    | false => rw [if_neg (by decide)] at m1 ⊢; exact q _ _ _ m1 k1 b1⟩
theorem dw_or (h : PT X a (tT c H0 ε ta)) (g : PW X (.BoolOp .Or (b :: rest) pos) (tT c H0 ε tb)) : PW X (.BoolOp .Or (a :: b :: rest) pos) (tT c H0 ε (mOr ta tb)) :=
  imp_pw (pw_or h g) fun σ H Q ⟨ρ, n, k, R, m, q⟩ => ⟨ρ, n, _, R, m, fun b n1 H1 m1 k1 b1 => by
    cases b with
    | false => rw [if_neg (by decide)] at m1 ⊢; exact ⟨ρ, n1, k, R.step k1 b1, m1, fun b2 n2 H2 m2 k2 b3 => q _ _ _ m2 (k1.trans k2) b3⟩
    | true => rw [if_pos rfl] at m1 ⊢; exact q _ _ _ m1 k1 b1⟩
/-- a comparison as a test -/
theorem dt_cmp {op : CmpOp} {r : R2} {g : D → D → Option D} (ho : OpR X (compareOp op) r) (hd : OpD c r g) (hm : behindInMarks op b = false) (ha : PE X a (tE c H0 ε ma)) (hb : PE X b (tE c H0 ε mb)) : PT X (.Compare a [op] [b] pos) (tT c H0 ε (mBl (mOp g ma mb))) := by
  refine imp_pt (pt_cmpR ho ha hb hm) fun σ H Q ⟨ρ, n, k, R, m, q⟩ => ?_
  refine ⟨ρ, n, _, R, m, fun x n1 v H1 m1 dv k1 b1 => ⟨ρ, n1, _, R.step k1 b1, m1, fun y n2 u H2 m2 du k2 b2 => ?_⟩⟩
  obtain ⟨d, e1, m3⟩ := optK_some m2
  refine hd _ _ _ _ _ H2 _ (dv.kw k2.kw) du e1 fun w H3 dw s3 => ?_
  rcases dw with dw | ⟨p, u, rfl, _, _, _, _, dw⟩
  · cases dw with
    | bl b => exact ⟨b, rfl, q _ _ _ m3 ((k1.trans k2).trans (Same.ks s3)) (b2.same s3)⟩
    | _ => exact m3.elim
  · have dd := dw { cls := .none, dict := none, data := .fields #[] }
    cases dd <;> exact m3.elim
/-! values of and, or, not; a if t else b; a chain -/
def mAndV (ma mb : ME) : ME := fun ε ρ n k => ma ε ρ n fun d n1 => optK (truthD d) fun b => if b = true then mb ε ρ n1 k else k d n1
def mOrV (ma mb : ME) : ME := fun ε ρ n k => ma ε ρ n fun d n1 => optK (truthD d) fun b => if b = true then k d n1 else mb ε ρ n1 k
def mNotV (ma : ME) : ME := fun ε ρ n k => ma ε ρ n fun d n1 => optK (truthD d) fun b => k (.bl (!b)) n1
def mIfE (t : MT) (ma mb : ME) : ME := fun ε ρ n k => t ε ρ n fun b n1 => if b = true then ma ε ρ n1 k else mb ε ρ n1 k
theorem de_one {op} (h : PE X a (tE c H0 ε ma)) : PE X (.BoolOp op [a] pos) (tE c H0 ε ma) := pe_one h
theorem de_and (h : PE X a (tE c H0 ε ma)) (g : PE X (.BoolOp .And (b :: rest) pos) (tE c H0 ε mb)) (hK : c.K = X.K := by rfl) : PE X (.BoolOp .And (a :: b :: rest) pos) (tE c H0 ε (mAndV ma mb)) :=
  imp_pe (pe_andT h g) fun σ H Q ⟨ρ, n, k, R, m, q⟩ => ⟨ρ, n, _, R, m, fun d n1 v H1 m1 dv k1 b1 => by
    obtain ⟨b, e1, m2⟩ := optK_some m1
    refine ⟨b, hK ▸ tru_of dv e1, ?_⟩
    cases b with
    | true => rw [if_pos rfl] at m2 ⊢; exact ⟨ρ, n1, k, R.step k1 b1, m2, fun d2 n2 v2 H2 m3 dv2 k2 b3 => q _ _ _ _ m3 dv2 (k1.trans k2) b3⟩
    | false => rw [if_neg (by decide)] at m2 ⊢; exact q _ _ _ _ m2 dv k1 b1⟩
theorem de_or (h : PE X a (tE c H0 ε ma)) (g : PE X (.BoolOp .Or (b :: rest) pos) (tE c H0 ε mb)) (hK : c.K = X.K := by rfl) : PE X (.BoolOp .Or (a :: b :: rest) pos) (tE c H0 ε (mOrV ma mb)) :=
  imp_pe (pe_orT h g) fun σ H Q ⟨ρ, n, k, R, m, q⟩ => ⟨ρ, n, _, R, m, fun d n1 v H1 m1 dv k1 b1 => by
    obtain ⟨b, e1, m2⟩ := optK_some m1
    refine ⟨b, hK ▸ tru_of dv e1, ?_⟩
    cases b with
    | false => rw [if_neg (by decide)] at m2 ⊢; exact ⟨ρ, n1, k, R.step k1 b1, m2, fun d2 n2 v2 H2 m3 dv2 k2 b3 => q _ _ _ _ m3 dv2 (k1.trans k2) b3⟩
    | true => rw [if_pos rfl] at m2 ⊢; exact q _ _ _ _ m2 dv k1 b1⟩
theorem de_not (h : PE X a (tE c H0 ε ma)) (hK : c.K = X.K := by rfl) : PE X (.UnaryOp .Not a pos) (tE c H0 ε (mNotV ma)) :=
  imp_pe (pe_notT h) fun σ H Q ⟨ρ, n, k, R, m, q⟩ => ⟨ρ, n, _, R, m, fun d n1 v H1 m1 dv k1 b1 => by
    obtain ⟨b, e1, m2⟩ := optK_some m1
    exact ⟨b, hK ▸ tru_of dv e1, q _ _ _ _ m2 (.bl _) k1 b1⟩⟩
theorem de_if {t : Expr} (ht : PT X t (tT c H0 ε ta)) (h : PE X a (tE c H0 ε ma)) (g : PE X b (tE c H0 ε mb)) : PE X (.IfExp t a b pos) (tE c H0 ε (mIfE ta ma mb)) :=
  imp_pe (pe_ifExp ht h g) fun σ H Q ⟨ρ, n, k, R, m, q⟩ => ⟨ρ, n, _, R, m, fun b n1 H1 m1 k1 b1 => by
    cases b with
    | true => rw [if_pos rfl] at m1 ⊢; exact ⟨ρ, n1, k, R.step k1 b1, m1, fun d2 n2 v2 H2 m3 dv2 k2 b3 => q _ _ _ _ m3 dv2 (k1.trans k2) b3⟩
    | false => rw [if_neg (by decide)] at m1 ⊢; exact ⟨ρ, n1, k, R.step k1 b1, m1, fun d2 n2 v2 H2 m3 dv2 k2 b3 => q _ _ _ _ m3 dv2 (k1.trans k2) b3⟩⟩
/-- a < b < c: both comparisons give truths -/
def mChain (g g' : D → D → Option D) (ma mb mc : ME) : ME := fun ε ρ n k => ma ε ρ n fun x n1 => mb ε ρ n1 fun y n2 => optK (g x y) fun z => match z with
  | .bl true => mc ε ρ n2 fun w n3 => optK (g' y w) fun d => k d n3
  | .bl false => k (.bl false) n2
  | _ => False
theorem de_chain {op op' : CmpOp} {r r' : R2} {g g' : D → D → Option D} {cc : Expr} (ho : OpR X (compareOp op) r) (hd : OpD c r g) (ho' : OpR X (compareOp op') r') (hd' : OpD c r' g') (ha : PE X a (tE c H0 ε ma)) (hb : PE X b (tE c H0 ε mb)) (hc : PE X cc (tE c H0 ε mc))
    (hm : lastMarks [op, op'] [b, cc] = false := by with_unfolding_all rfl) : PE X (.Compare a [op, op'] [b, cc] pos) (tE c H0 ε (mChain g g' ma mb mc)) := by
  refine imp_pe (pe_fz (pe_chain ho ho' ha hb hc hm)) fun σ H Q ⟨ρ, n, k, R, m, q⟩ => ?_
  refine ⟨ρ, n, _, R, m, fun x n1 v H1 m1 dv k1 b1 => ⟨ρ, n1, _, R.step k1 b1, m1, fun y n2 u H2 m2 du k2 b2 => ?_⟩⟩
  obtain ⟨d, e1, m3⟩ := optK_some m2
  refine hd _ _ _ _ _ H2 _ (dv.kw k2.kw) du e1 fun w H3 dw s3 => ?_
  have R3 := (R.step (k1.trans k2) b2).step (Same.ks s3) (b2.same s3)
  have k3 : Ks c H H3 := (k1.trans k2).trans (Same.ks s3)
  have fin : DV c H3 w d → ∃ kk, w = .bl kk ∧ (if kk = true then tE c H0 ε mc σ H3 fun w' H4 => r' u w' H4 fun v H' => Q v H' ∨ ∃ p u, v = .ref p ∧ H' p = some u ∧ Mut (some u) ∧ ∀ o, Q v (upd H' p (.frz o u)) else Q (.bl false) H3 ∨ ∃ p u, V.bl false = .ref p ∧ H3 p = some u ∧ Mut (some u) ∧ ∀ o, Q (.bl false) (upd H3 p (.frz o u))) := by
    intro dv3
    cases dv3 with
    | bl kk =>
      refine ⟨kk, rfl, ?_⟩
      cases kk with
      | true =>
        rw [if_pos rfl]
        refine ⟨ρ, n2, _, R3, m3, fun z n4 vz H4 m4 dz k4 b4 => ?_⟩
        obtain ⟨d5, e5, m5⟩ := optK_some m4
        refine hd' _ _ _ _ _ H4 _ ((du.kw (Same.ks s3).kw).kw k4.kw) dz e5 fun w5 H5 dw5 s5 => ?_
        exact fin_new (ρ := ρ) (σ := σ) b4 s5 dw5 m5 fun d n' v H' a1 a2 a3 a4 => q d n' v H' a1 a2 ((k3.trans k4).trans a3) a4
      | false =>
        rw [if_neg (by decide)]
        exact .inl (q _ _ _ _ m3 (.bl _) k3 (b2.same s3))
    | _ => exact m3.elim
  rcases dw with dw | ⟨p, u', rfl, _, _, _, _, dw⟩
  · exact fin dw
  · have dd := dw { cls := .none, dict := none, data := .fields #[] }
    cases dd <;> exact m3.elim

/-! ### subscripts, slices -/
def ixD : D → D → Option D
  | .lst xs, .int i => atI xs i
  | .tup xs, .int i => atI xs i
  | .str z, .int i => if z.length ≤ sizeLine then (atI z.cps.toList i).map fun cd => .str ⟨#[cd]⟩ else none
  | _, _ => none
theorem DVs.atI {H : Hp} {xs : List V} {ds : List D} {i : Int} {d : D} (h : DVs c H xs ds) (e : L2.atI ds i = some d) : ∃ v, L2.atI xs i = some v ∧ DV c H v d := by
  unfold L2.atI at e ⊢
  rw [h.length]
  cases z : ixN ds.length i with
  | none => rw [z] at e; cases e
  | some j => rw [z] at e; exact h.getD e
theorem od_ix : OpD c (rIx c.K) ixD := by
  intro x y dx dy d H Q hx hy e k
  unfold ixD at e
  split at e
  · obtain ⟨a, xs, rfl, f, hs⟩ := opd_lst hx
    cases opd_int hy
    obtain ⟨v, h1, h2⟩ := hs.atI e
    exact .inl ⟨_, _, _, _, rfl, rfl, f.sq, h1, k _ _ (.of h2) (same_refl H)⟩
  · obtain ⟨a, xs, rfl, f, hs⟩ := opd_tup hx
    cases opd_int hy
    obtain ⟨v, h1, h2⟩ := hs.atI e
    exact .inr (.inl ⟨_, _, _, _, rfl, rfl, f, h1, k _ _ (.of h2) (same_refl H)⟩)
  · split at e
    · rename_i hz
      cases opd_str hx; cases opd_int hy
      obtain ⟨cd, w, rfl⟩ := Option.map_eq_some_iff.mp e
      exact .inr (.inr ⟨_, _, _, rfl, rfl, hz, w, k _ _ (.of (.str _)) (same_refl H)⟩)
    · cases e
  · cases e
theorem de_ix (ha : PE X a (tE c H0 ε ma)) (hb : PE X b (tE c H0 ε mb)) (hK : c.K = X.K := by rfl) (hs : PlainIx b := by intro _ _; rfl) : PE X (.Subscript a b pos) (tE c H0 ε (mOp ixD ma mb)) :=
  de_bin (f := fun _ _ => pure .none) (r := rIx c.K) (fun h1 h2 => hK ▸ pe_ix ix_seq h1 h2 hs) od_ix ha hb
end
end DS
namespace DS
open PySem PySem.Spec PyProof.Rows L2
section
variable {X : Cx} {c : Cc} {H0 : Hp} {ε : XD}
variable {a b e : Expr} {pos : Pos} {ma mb mc : ME} {ta tb : MT}
/-! ### slices -/
abbrev MO := XD → Ev → Nat → (Option Int → Nat → Prop) → Prop
def tO (c : Cc) (H0 : Hp) (ε : XD) (m : MO) : TO := fun σ H Q => ∃ ρ n k, Rel c H0 ρ n σ H ∧ m ε ρ n k ∧ ∀ i n' H', k i n' → Ks c H H' → BoxAt c n' H' → Q i H'
def mNoP : MO := fun _ _ n k => k none n
def mPart (ma : ME) : MO := fun ε ρ n k => ma ε ρ n fun d n1 => match d with
  | .int i => k (some i) n1
  | _ => False
theorem imp_po {eo : Option Expr} {t t' : TO} (h : PO X eo t) (i : ∀ σ H Q, t' σ H Q → t σ H Q) : PO X eo t' := ⟨fun pins s σ H Q I w => h.run pins s σ H Q I (i σ H Q w)⟩
theorem do_none : PO X none (tO c H0 ε mNoP) := imp_po po_none fun σ H Q ⟨ρ, n, k, R, m, q⟩ => q _ _ _ m (Ks.refl _ _) R.box
theorem do_some (h : PE X a (tE c H0 ε ma)) : PO X (some a) (tO c H0 ε (mPart ma)) := imp_po (po_some h) fun σ H Q ⟨ρ, n, k, R, m, q⟩ => ⟨ρ, n, _, R, m, fun d n1 v H1 m1 dv k1 b1 => by
  cases dv with
  | int i => exact ⟨i, rfl, q _ _ _ m1 k1 b1⟩
  | _ => exact m1.elim⟩
def cutD (xs : List D) (lo hi : Option Int) : List D := (xs.drop (HT.sIx xs.length 0 lo)).take (HT.sIx xs.length xs.length hi - HT.sIx xs.length 0 lo)
def slD (x : D) (lo hi : Option Int) : Option D := match x with
  | .lst xs => some (.lst (cutD xs lo hi))
  | .tup xs => some (.tup (cutD xs lo hi))
  | .str z => if z.length ≤ sizeLine then some (.str (cutS z lo hi)) else none
  | _ => none
def mSl (me : ME) (ml mh : MO) : ME := fun ε ρ n k => me ε ρ n fun x n1 => ml ε ρ n1 fun lo n2 => mh ε ρ n2 fun hi n3 => optK (slD x lo hi) fun d => k d n3
abbrev rSlAll (K : PySem.W.Frag) : V → Option Int → Option Int → Hp → VK → Prop := fun x lo hi H Q => (rSlL K x lo hi H Q ∨ rSlA K x lo hi H Q) ∨ rSlS x lo hi H Q
theorem cut_whole {xs : List V} {lo hi : Option Int} (h : HT.sIx xs.length 0 lo = 0 ∧ HT.sIx xs.length xs.length hi = xs.length) {ds : List D} (e : xs.length = ds.length) : cutD ds lo hi = ds := by
  unfold cutD
  rw [← e, h.1, h.2, List.drop_zero, e]
  simp
theorem DVs.cut {H : Hp} {xs : List V} {ds : List D} (h : DVs c H xs ds) (lo hi : Option Int) : DVs c H (cutV xs lo hi) (cutD ds lo hi) := by
  unfold cutV cutD
  rw [h.length]
  exact (h.drop _).take _
theorem de_sl {lo hi : Option Expr} {p2 : Pos} {ml mh : MO} (he : PE X e (tE c H0 ε ma)) (hl : PO X lo (tO c H0 ε ml)) (hh : PO X hi (tO c H0 ε mh)) (hK : c.K = X.K := by rfl) : PE X (.Subscript e (.Slice lo hi none p2) pos) (tE c H0 ε (mSl ma ml mh)) := by
  refine imp_pe (pe_fz (pe_slice (SlR.or (SlR.or sl_list sl_tupA) sl_str) he hl hh)) fun σ H Q ⟨ρ, n, k, R, m, q⟩ => ?_
  refine ⟨ρ, n, _, R, m, fun x n1 v H1 m1 dv k1 b1 => ⟨ρ, n1, _, R.step k1 b1, m1, fun lo n2 H2 m2 k2 b2 => ⟨ρ, n2, _, R.step (k1.trans k2) b2, m2, fun hi n3 H3 m3 k3 b3 => ?_⟩⟩⟩
  obtain ⟨d, e1, m4⟩ := optK_some m3
  have dv3 := dv.kw (k2.trans k3).kw
  have K3 := (k1.trans k2).trans k3
  have fin : ∀ w H4, DVn c H3 H4 w d → Same H3 H4 → Q w H4 ∨ ∃ p u, w = .ref p ∧ H4 p = some u ∧ Mut (some u) ∧ ∀ o, Q w (upd H4 p (.frz o u)) := fun w H4 dw s4 =>
    fin_new (ρ := ρ) (σ := σ) b3 s4 dw m4 fun d n' v H' a1 a2 a3 a4 => q d n' v H' a1 a2 (K3.trans a3) a4
  unfold slD at e1
  split at e1
  · cases e1
    obtain ⟨a, xs, rfl, f, hs⟩ := opd_lst dv3
    exact .inl (.inl ⟨a, xs, rfl, hK ▸ f.sq, new_lst (hs.cut lo hi) fin⟩)
  · cases e1
    obtain ⟨a, xs, rfl, f, hs⟩ := opd_tup dv3
    refine .inl (.inr ⟨a, xs, rfl, hK ▸ f, fun w => ?_, fun _ => new_tup (hs.cut lo hi) fin⟩)
    rw [cut_whole w hs.length] at fin
    exact fin _ _ (.of (.tup f hs)) (same_refl _)
  · split at e1
    · rename_i hz
      cases e1
      cases opd_str dv3
      exact .inr ⟨_, rfl, hz, fin _ _ (.of (.str _)) (same_refl _)⟩
    · cases e1
  · cases e1

/-! ### statements -/
variable {st : Stmt} {sts rest : List Stmt} {ms mt : MS}
def mNext : MS := fun _ ρ n P => P.nx ρ n
def mSeq (ms mt : MS) : MS := fun ε ρ n P => ms ε ρ n { P with nx := fun ρ' n' => mt ε ρ' n' P }
def mDrop (ma : ME) : MS := fun ε ρ n P => ma ε ρ n fun _ n1 => P.nx ρ n1
def mRet (ma : ME) : MS := fun ε ρ n P => ma ε ρ n P.rt
def mRetN : MS := fun _ _ n P => P.rt .non n
def mIf (t : MT) (ms mt : MS) : MS := fun ε ρ n P => t ε ρ n fun b n1 => if b = true then ms ε ρ n1 P else mt ε ρ n1 P
def mBrk : MS := fun _ ρ n P => P.bk ρ n
def mCnt : MS := fun _ ρ n P => P.ct ρ n
def mNever : MS := fun _ _ _ _ => False
theorem ds_never : PS X st (tS c H0 ε mNever) := imp_ps ps_never fun De σ H ⟨_, _, _, _, m, _⟩ => m.elim
theorem dss_nil : PSs X [] (tS c H0 ε mNext) := imp_pss pss_nil fun De σ H ⟨ρ, n, P, R, m, h1, _⟩ => h1 _ _ _ _ m R (Kw.refl _ _)
theorem dss_cons (h : PS X st (tS c H0 ε ms)) (g : PSs X rest (tS c H0 ε mt)) : PSs X (st :: rest) (tS c H0 ε (mSeq ms mt)) :=
  imp_pss (pss_cons h g) fun De σ H ⟨ρ, n, P, R, m, h1, h2, h3, h4⟩ => ⟨ρ, n, _, R, m, fun ρ' n' σ' H' m' R' k' => ⟨ρ', n', P, R', m', fun a1 a2 a3 a4 a5 a6 a7 => h1 a1 a2 a3 a4 a5 a6 (k'.trans a7), h2,
    fun a1 a2 a3 a4 a5 a6 a7 => h3 a1 a2 a3 a4 a5 a6 (k'.trans a7), fun a1 a2 a3 a4 a5 a6 a7 => h4 a1 a2 a3 a4 a5 a6 (k'.trans a7)⟩, h2, h3, h4⟩
theorem dss_one (h : PS X st (tS c H0 ε ms)) : PSs X [st] (tS c H0 ε ms) := pss_one h
theorem ds_doc {x j pos pos'} : PS X (.Expr (.Constant (.str x) j pos) pos') (tS c H0 ε mNext) := imp_ps ps_doc fun De σ H ⟨ρ, n, P, R, m, h1, _⟩ => h1 _ _ _ _ m R (Kw.refl _ _)
theorem ds_pass {pos} : PS X (.Pass pos) (tS c H0 ε mNext) := imp_ps ps_pass fun De σ H ⟨ρ, n, P, R, m, h1, _⟩ => h1 _ _ _ _ m R (Kw.refl _ _)
theorem ds_break {pos} : PS X (.Break pos) (tS c H0 ε mBrk) := imp_ps ps_break fun De σ H ⟨ρ, n, P, R, m, _, _, h1, _⟩ => h1 _ _ _ _ m R (Kw.refl _ _)
theorem ds_cont {pos} : PS X (.Continue pos) (tS c H0 ε mCnt) := imp_ps ps_continue fun De σ H ⟨ρ, n, P, R, m, _, _, _, h1⟩ => h1 _ _ _ _ m R (Kw.refl _ _)
theorem ds_expr (he : PE X e (tE c H0 ε ma)) (hs : swapsWith e none pos.line X.env = pure false := by rfl) : PS X (.Expr e pos) (tS c H0 ε (mDrop ma)) :=
  imp_ps (ps_expr he hs) fun De σ H ⟨ρ, n, P, R, m, h1, _⟩ => ⟨ρ, n, _, R, m, fun d n1 v H1 m1 dv k1 b1 => h1 _ _ _ _ m1 (R.step k1 b1) k1.kw⟩
theorem ds_ret (he : PE X e (tE c H0 ε ma)) : PS X (.Return (some e) pos) (tS c H0 ε (mRet ma)) :=
  imp_ps (ps_ret he) fun De σ H ⟨ρ, n, P, R, m, h1, h2, _⟩ => ⟨ρ, n, _, R, m, fun d n1 v H1 m1 dv k1 b1 => h2 _ _ _ _ m1 dv (R.k0.trans k1) b1⟩
theorem ds_retN : PS X (.Return none pos) (tS c H0 ε mRetN) := imp_ps ps_retN fun De σ H ⟨ρ, n, P, R, m, h1, h2, _⟩ => h2 _ _ _ _ m .non R.k0 R.box
theorem ds_if {t : Expr} {s1 s2 : List Stmt} (ht : PT X t (tT c H0 ε ta)) (h : PSs X s1 (tS c H0 ε ms)) (g : PSs X s2 (tS c H0 ε mt)) : PS X (.If t s1 s2 pos) (tS c H0 ε (mIf ta ms mt)) :=
  imp_ps (ps_if ht h g) fun De σ H ⟨ρ, n, P, R, m, h1, h2, h3, h4⟩ => ⟨ρ, n, _, R, m, fun b n1 H1 m1 k1 b1 => by
    have go : ∀ {mm : MS}, mm ε ρ n1 P → tS c H0 ε mm De σ H1 := fun mm => ⟨ρ, n1, P, R.step k1 b1, mm, fun a1 a2 a3 a4 a5 a6 a7 => h1 a1 a2 a3 a4 a5 a6 (k1.kw.trans a7), h2,
      fun a1 a2 a3 a4 a5 a6 a7 => h3 a1 a2 a3 a4 a5 a6 (k1.kw.trans a7), fun a1 a2 a3 a4 a5 a6 a7 => h4 a1 a2 a3 a4 a5 a6 (k1.kw.trans a7)⟩
    cases b with
    | true => rw [if_pos rfl] at m1; exact iteT (go m1)
    | false => rw [if_neg (by decide)] at m1; exact iteF (go m1)⟩

/-! targets -/
abbrev GF := D → Ev → Option Ev
/-- all slots but those told stay -/
def Off (ts : List Nat) (σ σ' : St) : Prop := σ'.length = σ.length ∧ ∀ j : Nat, j ∉ ts → σ'[j]? = σ[j]?
theorem Off.trans {ts us : List Nat} {σ σ1 σ2 : St} (h : Off ts σ σ1) (g : Off us σ1 σ2) : Off (ts ++ us) σ σ2 :=
  ⟨g.1.trans h.1, fun j hj => (g.2 j fun z => hj (List.mem_append_right _ z)).trans (h.2 j fun z => hj (List.mem_append_left _ z))⟩
def tG (c : Cc) (H0 : Hp) (ts : List Nat) (g : GF) : TG := fun v σ H Q => ∃ ρ n d ρ', Rel c H0 ρ n σ H ∧ DV c H v d ∧ g d ρ = some ρ' ∧ ∀ σ', Rel c H0 ρ' n σ' H → Off ts σ σ' → Q σ' H
theorem imp_pg {t t' : TG} (h : PG X e t) (i : ∀ v σ H Q, t' v σ H Q → t v σ H Q) : PG X e t' := ⟨fun pins s σ H v u Q I r w => h.run pins s σ H v u Q I r (i v σ H Q w)⟩
def gfName (i : Nat) : GF := fun d ρ => some (ρ.set i (.val d))
theorem dg_name (i : Nat) {x : Str} (hN : X.N.Nodup) (hi : X.N[i]? = some x := by rfl) (hx : Loc X.env.scope x := by first | exact Or.inl rfl | exact Or.inr rfl) (hf : X.fn x = true ∨ X.env.scope.names.lookup x = some .local := by first | exact .inl rfl | exact .inr rfl) : PG X (.Name x pos) (tG c H0 [i] (gfName i)) :=
  imp_pg (pg_name hN hi hx hf) fun v σ H Q ⟨ρ, n, d, ρ', R, dv, e, q⟩ => by
    cases e
    exact q _ (R.set dv) ⟨List.length_set, fun j hj => List.getElem?_set_ne (fun z => hj (by simp [z]))⟩
def tGs (c : Cc) (H0 : Hp) (ts : List Nat) (g : List D → Ev → Option Ev) : TGs := fun vs σ H Q => ∃ ρ n ds ρ', Rel c H0 ρ n σ H ∧ DVs c H vs ds ∧ g ds ρ = some ρ' ∧ ∀ σ', Rel c H0 ρ' n σ' H → Off ts σ σ' → Q σ' H
theorem imp_pgs {es : List Expr} {t t' : TGs} (h : PGs X es t) (i : ∀ v σ H Q, t' v σ H Q → t v σ H Q) : PGs X es t' := ⟨fun pins s σ H v u Q I r w => h.run pins s σ H v u Q I r (i v σ H Q w)⟩
def gsNil : List D → Ev → Option Ev := fun ds ρ => match ds with
  | [] => some ρ
  | _ => none
def gsCons (g : GF) (gs : List D → Ev → Option Ev) : List D → Ev → Option Ev := fun ds ρ => match ds with
  | d :: r => (g d ρ).bind fun ρ' => gs r ρ'
  | _ => none
theorem dgs_nil : PGs X [] (tGs c H0 [] gsNil) := imp_pgs pgs_nil fun vs σ H Q ⟨ρ, n, ds, ρ', R, dv, e, q⟩ => by
  cases dv with
  | nil => cases e; exact ⟨rfl, q _ R ⟨rfl, fun _ _ => rfl⟩⟩
  | cons => cases e
theorem dgs_cons {es : List Expr} {ts us : List Nat} {g : GF} {gs : List D → Ev → Option Ev} (h1 : PG X e (tG c H0 ts g)) (h2 : PGs X es (tGs c H0 us gs)) (hs : (assignEach (e :: es) X.env).map (·.2) = assign e X.env :: (assignEach es X.env).map (·.2) := by rfl) :
    PGs X (e :: es) (tGs c H0 (ts ++ us) (gsCons g gs)) :=
  imp_pgs (pgs_cons h1 h2 hs) fun vs σ H Q ⟨ρ, n, ds, ρ', R, dv, e, q⟩ => by
    cases dv with
    | nil => cases e
    | cons a b =>
      obtain ⟨ρ1, e1, e2⟩ := Option.bind_eq_some_iff.mp e
      exact ⟨_, _, rfl, ρ, n, _, ρ1, R, a, e1, fun σ' R' o1 => ⟨ρ1, n, _, ρ', R', b, e2, fun σ2 R2 o2 => q _ R2 (o1.trans o2)⟩⟩
def gfTup (gs : List D → Ev → Option Ev) : GF := fun d ρ => match d with
  | .tup ds => gs ds ρ
  | _ => none
theorem dg_tup {es : List Expr} {k m : Nat} {ts : List Nat} {gs : List D → Ev → Option Ev} (hc : X.calm = true) (h : PGs X es (tGs c H0 ts gs)) (hl : ∀ ds ρ ρ', gs ds ρ = some ρ' → ds.length = m) (hK : c.K = X.K := by rfl)
    (hn : (assignEach es X.env).length = m := by rfl) (hst : (assignEach es X.env).findIdx? (·.1) = none := by rfl) : PG X (.Tuple es k pos) (tG c H0 ts (gfTup gs)) :=
  imp_pg (pg_tup hc h hn hst) fun v σ H Q ⟨ρ, n, d, ρ', R, dv, e, q⟩ => by
    unfold gfTup at e
    split at e
    · obtain ⟨a, xs, rfl, f, hs⟩ := opd_tup dv
      exact ⟨a, xs, rfl, hK ▸ f, by rw [hs.length]; exact hl _ _ _ e, ρ, n, _, ρ', R, hs, e, q⟩
    · cases e
theorem gs_nil_len : ∀ ds ρ ρ', gsNil ds ρ = some ρ' → ds.length = 0 := by
  intro ds ρ ρ' e
  cases ds with
  | nil => rfl
  | cons => cases e
theorem gs_cons_len {g : GF} {gs : List D → Ev → Option Ev} {m : Nat} (h : ∀ ds ρ ρ', gs ds ρ = some ρ' → ds.length = m) : ∀ ds ρ ρ', gsCons g gs ds ρ = some ρ' → ds.length = m + 1 := by
  intro ds ρ ρ' e
  cases ds with
  | nil => cases e
  | cons d r =>
    obtain ⟨ρ1, e1, e2⟩ := Option.bind_eq_some_iff.mp e
    rw [List.length_cons, h _ _ _ e2]
def mAsg (g : GF) (ma : ME) : MS := fun ε ρ n P => ma ε ρ n fun d n1 => optK (g d ρ) fun ρ' => P.nx ρ' n1
theorem ds_asg {tg : Expr} {ts : List Nat} {g : GF} (he : PE X e (tE c H0 ε ma)) (hg : PG X tg (tG c H0 ts g)) (hs : swapsWithSole [tg] e pos.line X.env = pure false := by rfl) (hw : swappedStores [tg] e X.env = pure none := by rfl)
    (h1 : (assignEach [tg] X.env).map (·.2) = [assign tg X.env] := by rfl) : PS X (.Assign [tg] e pos) (tS c H0 ε (mAsg g ma)) :=
  imp_ps (ps_asg he hg hs hw h1) fun De σ H ⟨ρ, n, P, R, m, h1, _⟩ => ⟨ρ, n, _, R, m, fun d n1 v H1 m1 dv k1 b1 => by
    obtain ⟨ρ', e1, m2⟩ := optK_some m1
    exact ⟨ρ, n1, d, ρ', R.step k1 b1, dv, e1, fun σ' R' _ => h1 _ _ _ _ m2 R' k1.kw⟩⟩
theorem ds_set (i : Nat) {x : Str} {pos' : Pos} (hN : X.N.Nodup) (he : PE X e (tE c H0 ε ma)) (hi : X.N[i]? = some x := by rfl) (hx : Loc X.env.scope x := by first | exact Or.inl rfl | exact Or.inr rfl) (hs : swapsWith e (some (.Name x pos')) pos.line X.env = pure false := by rfl)
    (hf : X.fn x = true ∨ X.env.scope.names.lookup x = some .local := by first | exact .inl rfl | exact .inr rfl) : PS X (.Assign [.Name x pos'] e pos) (tS c H0 ε (mAsg (gfName i) ma)) :=
  imp_ps (ps_set hN hi hx he hs hf) fun De σ H ⟨ρ, n, P, R, m, h1, _⟩ => ⟨ρ, n, _, R, m, fun d n1 v H1 m1 dv k1 b1 => h1 _ _ _ _ m1 ((R.step k1 b1).set dv) k1.kw⟩
def mPar (i j : Nat) (ma : MA) : MS := fun ε ρ n P => ma ε ρ n fun ds n1 => match ds with
  | [x, y] => P.nx ((ρ.set i (.val x)).set j (.val y)) n1
  | _ => False
theorem ds_par (i j : Nat) {x y : Str} {ms : MA} {px py pt : Pos} {kt k2 pt2} (hc : X.calm = true) (hN : X.N.Nodup) (hi : X.N[i]? = some x) (hj : X.N[j]? = some y) (hij : i ≠ j) (hx : X.env.scope.names.lookup x = some .local) (hy : X.env.scope.names.lookup y = some .local)
    (ha : PA X [a, b] (tA c H0 ε ms)) (hw : swappedStores [.Tuple [.Name x px, .Name y py] kt pt] (.Tuple [a, b] k2 pt2) X.env = pure (some [x, y])) (hs : swapsWithSole [.Tuple [.Name x px, .Name y py] kt pt] (.Tuple [a, b] k2 pt2) pos.line X.env = pure false := by rfl) :
    PS X (.Assign [.Tuple [.Name x px, .Name y py] kt pt] (.Tuple [a, b] k2 pt2) pos) (tS c H0 ε (mPar i j ms)) :=
  imp_ps (ps_par hc hN hi hj hij hx hy ha hw hs) fun De σ H ⟨ρ, n, P, R, m, h1, _⟩ => ⟨ρ, n, _, R, m, fun ds n1 vs H1 m1 dv k1 b1 => by
    match ds, m1, dv with
    | [d, d'], m1, dv =>
      obtain ⟨v, w, rfl, h2, h3⟩ := dvs2 dv
      exact ⟨v, w, rfl, h1 _ _ _ _ m1 (((R.step k1 b1).set h2).set h3) k1.kw⟩⟩
end
end DS
namespace DS
open PySem PySem.Spec PyProof.Rows L2
/-! ### what is walked -/
inductive Src where
  | one (xs : List V)
  | two (xs ys : List V)
def Src.len : Src → Nat
  | .one xs => xs.length
  | .two xs ys => min xs.length ys.length
def Src.Y : Src → Nat → Hp → V → Hp → Prop
  | .one xs => YAt xs
  | .two xs ys => YPair (fun i => xs[i]?) (fun i => ys[i]?)
def Src.ok (c : Cc) (H : Hp) : Src → List D → Prop
  | .one xs, ds => DVs c H xs ds
  | .two xs ys, ds => ∃ dx dy, DVs c H xs dx ∧ DVs c H ys dy ∧ ds = List.zipWith (fun a b => D.tup [a, b]) dx dy
structure ItOk (c : Cc) (H : Hp) (J : It) (ds : List D) : Prop where
  ex : ∃ (src : Src) (G : Hp → Prop), Walk J src.len G src.Y ∧ (∀ H', Kw c H H' → G H') ∧ src.ok c H ds
section
variable {c : Cc} {H H1 H2 : Hp}
theorem Src.ok_len {src : Src} {ds : List D} (h : src.ok c H ds) : src.len = ds.length := by
  cases src with
  | one xs => exact DVs.length h
  | two xs ys =>
    obtain ⟨dx, dy, h1, h2, rfl⟩ := h
    show min xs.length ys.length = _
    rw [h1.length, h2.length, List.length_zipWith]
theorem Src.step {src : Src} {ds : List D} {i : Nat} {x : V} (h : src.ok c H ds) (k : Kw c H H1) (y : src.Y i H1 x H2) : ∃ d, ds[i]? = some d ∧ DV c H2 x d ∧ Same H1 H2 := by
  cases src with
  | one xs =>
    obtain ⟨rfl, e⟩ := y
    obtain ⟨d, h1, h2⟩ := DVs.get h e
    exact ⟨d, h1, h2.kw k, same_refl _⟩
  | two xs ys =>
    obtain ⟨dx, dy, h1, h2, rfl⟩ := h
    obtain ⟨T, v, w, rfl, hT, rfl, e1, e2⟩ := y
    obtain ⟨d1, f1, g1⟩ := h1.get e1
    obtain ⟨d2, f2, g2⟩ := h2.get e2
    have sm := same_new (o := .tup [v, w]) hT
    refine ⟨.tup [d1, d2], by rw [List.getElem?_zipWith, f1, f2], ?_, sm⟩
    exact .tup (.inl (.inl upd_same)) (.cons ((g1.kw k).kw (Same.ks sm).kw) (.cons ((g2.kw k).kw (Same.ks sm).kw) .nil))
end
section
variable {X : Cx} {c : Cc} {H0 : Hp} {ε : XD}
variable {a b e tg iter : Expr} {pos : Pos} {ma mb mc : ME} {mi mj : MA}
def tI (c : Cc) (H0 : Hp) (ε : XD) (mi : MA) : TI := fun σ H R => ∃ ρ n k, Rel c H0 ρ n σ H ∧ mi ε ρ n k ∧ ∀ ds n' J H', k ds n' → ItOk c H' J ds → Ks c H H' → BoxAt c n' H' → R J H'
theorem imp_pi {t t' : TI} (h : PI X tg iter t) (i : ∀ σ H Q, t' σ H Q → t σ H Q) : PI X tg iter t' := ⟨fun pins s σ H R I w => h.run pins s σ H R I (i σ H R w)⟩
/-- a list or a tuple -/
def mIter (ma : ME) : MA := fun ε ρ n k => ma ε ρ n fun d n1 => match d with
  | .lst xs => k xs n1
  | .tup xs => k xs n1
  | _ => False
theorem it_list {K : PySem.W.Frag} {S : Addr → Prop} {B} {H : Hp} {a : Addr} {xs : List V} {ds : List D} (f : FzL K H a xs) (h : DVs ⟨K, S, B⟩ H xs ds) : ItOk ⟨K, S, B⟩ H (Itl K a) ds :=
  ⟨.one xs, fun H' => FzL K H' a xs, walk_list.mono (fun _ z => z.sq) (fun _ _ _ _ _ _ y => y), fun _ k => f.kw k, h⟩
theorem sqt_kw {c : Cc} {H H1 : Hp} {a : Addr} {xs : List V} (k : Kw c H H1) (h : SqT c.K H a xs) : SqT c.K H1 a xs := by
  rcases h with (h | ⟨o, h⟩) | h
  · exact .inl (.inl (k _ _ h True.intro))
  · exact .inl (.inr ⟨o, k _ _ h True.intro⟩)
  · exact .inr h
theorem it_tup {c : Cc} {H : Hp} {a : Addr} {xs : List V} {ds : List D} (f : SqT c.K H a xs) (h : DVs c H xs ds) : ItOk c H (Itt c.K a) ds :=
  ⟨.one xs, fun H' => SqT c.K H' a xs, walk_tup, fun _ k => sqt_kw k f, h⟩
theorem pi_seq {l : Expr} {tl : TE} (hl : PE X l tl) : PI X tg l (fun σ H R => tl σ H fun x H1 => ∃ a, x = .ref a ∧ ((∃ xs, SqL X.K H1 a xs ∧ R (Itl X.K a) H1) ∨ (∃ xs, SqT X.K H1 a xs ∧ R (Itt X.K a) H1))) := by
  constructor
  intro pins s σ H R I h
  refine thn (hl.run pins s σ H _ I h) ?_
  rintro v s1 ⟨x, H1, I1, r1, a, rfl, q⟩
  obtain rfl : v = .ref a := r1
  have fp : ∀ b ∈ [s1.heap.objs.size], FpOk X pins H1 b := fun b hb => by
    obtain rfl := List.mem_singleton.mp hb
    exact I1.fpOk (Nat.le_refl _) (I1.hok.fresh (Nat.le_refl _))
  rcases q with ⟨xs, f, q⟩ | ⟨xs, f, q⟩
  · obtain ⟨its, rv, p, hz⟩ := I1.list f
    exact wpAny_pyIter_list p.isList ⟨_, [s1.heap.objs.size], _, _, H1, rfl, I1.kept (t' := s1.toks) (fun _ _ z => Heap.get?_push_of_some _ z), turn_list a _, ⟨_, Heap.get?_push_size _ rfl, rfl, rfl⟩, fp, q⟩
  · obtain ⟨its, rv, p, hz⟩ := I1.tuple f
    exact wpAny_pyIter_tuple (show s1.heap.IsTuple a its.toArray from p) ⟨_, [s1.heap.objs.size], _, _, H1, rfl, I1.kept (t' := s1.toks) (fun _ _ z => Heap.get?_push_of_some _ z), turn_tuple a _, ⟨_, Heap.get?_push_size _ rfl, rfl, rfl⟩, fp, q⟩
theorem di_seq {S : Addr → Prop} {B} (h : PE X a (tE ⟨X.K, S, B⟩ H0 ε ma)) : PI X tg a (tI ⟨X.K, S, B⟩ H0 ε (mIter ma)) :=
  imp_pi (pi_seq h) fun σ H Q ⟨ρ, n, k, R, m, q⟩ => ⟨ρ, n, _, R, m, fun d n1 v H1 m1 dv k1 b1 => by
    cases dv with
    | lst f hs => exact ⟨_, rfl, .inl ⟨_, f.sq, q _ _ _ _ m1 (it_list f hs) k1 b1⟩⟩
    | tup f hs => exact ⟨_, rfl, .inr ⟨_, f, q _ _ _ _ m1 (it_tup f hs) k1 b1⟩⟩
    | _ => exact m1.elim⟩
def range1D (j : Int) : List D := (List.range j.toNat).map fun i => .int (i : Nat)
def range2D (i j : Int) : List D := (List.range (j - i).toNat).map fun t => .int (i + (t : Nat))
def mRange1 (ma : ME) : MA := fun ε ρ n k => ma ε ρ n fun d n1 => match d with
  | .int j => (-(2 ^ 62) ≤ j ∧ j < 2 ^ 62) ∧ k (range1D j) n1
  | _ => False
def mRange2 (ma mb : ME) : MA := fun ε ρ n k => ma ε ρ n fun d n1 => mb ε ρ n1 fun d' n2 => match d, d' with
  | .int i, .int j => (-(2 ^ 62) ≤ i ∧ i < 2 ^ 62 ∧ -(2 ^ 62) ≤ j ∧ j < 2 ^ 62) ∧ k (range2D i j) n2
  | _, _ => False
theorem dvs_ints {c : Cc} {H : Hp} : ∀ ns : List Int, DVs c H (ns.map V.int) (ns.map D.int)
  | [] => .nil
  | i :: r => .cons (.int i) (dvs_ints r)
theorem it_range {c : Cc} {H : Hp} (lo : Int) (n : Nat) : ItOk c H (Itr lo n) ((List.range n).map fun t => .int (lo + (t : Nat))) := by
  have h := dvs_ints (c := c) (H := H) ((List.range n).map fun t => lo + (t : Nat))
  rw [List.map_map, List.map_map] at h
  refine ⟨.one _, fun _ => True, ?_, fun _ _ => True.intro, h⟩
  have w := walk_range (lo := lo) (n := n)
  show Walk _ (List.length _) _ _
  rw [List.length_map, List.length_range]
  refine w.mono (fun _ z => z) fun i H x H' hi _ y => ⟨y.1, ?_⟩
  rw [y.2, List.getElem?_map, List.getElem?_range hi]
  rfl
theorem di_range1 {p : Pos} (hm : X.mg "range" = none) (ha : PE X a (tE c H0 ε ma)) (hg : Gl X "range" := by rfl) (hs : starEach [a] X.env = (false, eval a X.env) :: starEach [] X.env := by rfl) (hs2 : starEach [] X.env = [] := by rfl) : PI X tg (.Call (.Name "range" p) [a] [] pos) (tI c H0 ε (mRange1 ma)) :=
  imp_pi (pi_range1 hg hm (pa_cons ha pa_nil hs) (by rw [hs, hs2])) fun σ H Q ⟨ρ, n, k, R, m, q⟩ => ⟨ρ, n, _, R, m, fun d n1 v H1 m1 dv k1 b1 => by
    cases dv with
    | int j =>
      refine ⟨j, rfl, m1.1.1, m1.1.2, ?_⟩
      have it := it_range (c := c) (H := H1) 0 j.toNat
      simp only [Int.zero_add] at it
      exact q _ _ _ _ m1.2 it k1 b1
    | _ => exact m1.elim⟩
theorem di_range2 {p : Pos} (hm : X.mg "range" = none) (ha : PE X a (tE c H0 ε ma)) (hb : PE X b (tE c H0 ε mb)) (hg : Gl X "range" := by rfl) (hs : starEach [a, b] X.env = (false, eval a X.env) :: starEach [b] X.env := by rfl)
    (hs1 : starEach [b] X.env = (false, eval b X.env) :: starEach [] X.env := by rfl) (hs2 : starEach [] X.env = [] := by rfl) : PI X tg (.Call (.Name "range" p) [a, b] [] pos) (tI c H0 ε (mRange2 ma mb)) :=
  imp_pi (pi_range2 hg hm (pa_cons ha (pa_cons hb pa_nil hs1) hs) (by rw [hs, hs1, hs2]) (by rw [hs1, hs2])) fun σ H Q ⟨ρ, n, k, R, m, q⟩ => ⟨ρ, n, _, R, m, fun d n1 v H1 m1 dv k1 b1 => ⟨ρ, n1, _, R.step k1 b1, m1, fun d' n2 w H2 m2 dw k2 b2 => by
    cases dv with
    | int i =>
      cases dw with
      | int j => exact ⟨i, j, rfl, m2.1, q _ _ _ _ m2.2 (it_range i _) (k1.trans k2) b2⟩
      | _ => exact m2.elim
    | _ => cases dw <;> exact m2.elim⟩⟩
/-- zip of two lists or of two tuples -/
def mZip (ma mb : ME) : MA := fun ε ρ n k => ma ε ρ n fun d n1 => mb ε ρ n1 fun d' n2 => match d, d' with
  | .lst xs, .lst ys => k (List.zipWith (fun a b => D.tup [a, b]) xs ys) n2
  | .tup xs, .tup ys => k (List.zipWith (fun a b => D.tup [a, b]) xs ys) n2
  | _, _ => False

/-! ### for -/
def forD (st : D → Ev → Nat → Pn → Prop) : List D → Ev → Nat → Pn → Prop
  | [], ρ, n, P => P.nx ρ n
  | d :: ds, ρ, n, P => st d ρ n { nx := fun ρ' n' => forD st ds ρ' n' P, rt := P.rt, bk := P.nx, ct := fun ρ' n' => forD st ds ρ' n' P }
def mFor (mi : MA) (g : GF) (ms : MS) : MS := fun ε ρ n P => mi ε ρ n fun ds n1 => forD (fun d ρ n P => optK (g d ρ) fun ρ' => ms ε ρ' n P) ds ρ n1 P
theorem ds_for {body : List Stmt} {ts : List Nat} {g : GF} {ms : MS} (hp : PassesOwn (model X.prog X.w) X.A X.env X.xe) (hc : X.calm = true) (hi : PI X tg iter (tI c H0 ε mi)) (hg : PG X tg (tG c H0 ts g)) (hb : PSs X body (tS c H0 ε ms))
    (hs : ∀ x, foldedSetIterable iter X.env x = pure x := by intro _; rfl) : PS X (.For tg iter body [] pos) (tS c H0 ε (mFor mi g ms)) := by
  refine imp_ps (ps_for hp hc hi hg hb hs) fun De σ H ⟨ρ, n, P, R, m, h1, h2, h3, h4⟩ => ⟨ρ, n, _, R, m, fun ds n1 J H1 m1 it k1 b1 => ?_⟩
  obtain ⟨src, G, w, hG, ok⟩ := it.ex
  have hl := Src.ok_len ok
  refine for_it w (fun i σ' H' => ∃ ρ' n', Rel c H0 ρ' n' σ' H' ∧ Kw c H1 H' ∧ forD (fun d ρ n P => optK (g d ρ) fun ρ' => ms ε ρ' n P) (ds.drop i) ρ' n' P) ⟨ρ, n1, R.step k1 b1, Kw.refl _ _, m1⟩
    (fun i σ' H' _ ⟨_, _, _, k', _⟩ => hG _ k') ?_ ?_
  · rintro i x σ' H' H'' hi ⟨ρ', n', R', k', f⟩ y
    obtain ⟨d, e1, dv, sm⟩ := Src.step ok k' y
    have hi' : i < ds.length := by rw [← hl]; exact hi
    have ed : ds.drop i = d :: ds.drop (i + 1) := by
      rw [List.drop_eq_getElem_cons hi']
      rw [List.getElem?_eq_getElem hi'] at e1
      cases e1
      rfl
    rw [ed] at f
    obtain ⟨ρ2, e2, f2⟩ := optK_some f
    have R2 := R'.step (Same.ks sm) (R'.box.same sm)
    refine ⟨ρ', n', d, ρ2, R2, dv, e2, fun σ2 R3 _ => ⟨ρ2, n', _, R3, f2, fun a1 a2 a3 a4 a5 a6 a7 => ⟨a1, a2, a6, (k'.trans (Same.ks sm).kw).trans a7, a5⟩, h2, fun a1 a2 a3 a4 a5 a6 a7 => h1 a1 a2 a3 a4 a5 a6 (((k1.kw.trans k').trans (Same.ks sm).kw).trans a7),
      fun a1 a2 a3 a4 a5 a6 a7 => ⟨a1, a2, a6, (k'.trans (Same.ks sm).kw).trans a7, a5⟩⟩⟩
  · rintro σ' H' ⟨ρ', n', R', k', f⟩
    rw [hl, List.drop_length] at f
    exact h1 _ _ _ _ f R' (k1.kw.trans k')
end
end DS
namespace DS
open PySem PySem.Spec PyProof.Rows L2
section
variable {X : Cx} {c : Cc} {H0 : Hp} {ε : XD}
variable {a b e tg iter : Expr} {pos : Pos} {ma mb mc : ME} {mi mj : MA}
/-! ### a new list that is being filled, apart from all data -/
theorem Rel.upd {ρ : Ev} {n : Nat} {σ : St} {H : Hp} {p : Addr} {o u : HO} (R : Rel c H0 ρ n σ H) (h0 : H0 p = none) (hb : ∀ cl, c.B ≠ some (p, cl)) (ho : ∀ (i : Nat) (q : Addr) (xs : List D), ρ[i]? = some (.own q xs) → q ≠ p) (hp : H p = some u) (hu : ¬ Stb c u) : Rel c H0 ρ n σ (L2.upd H p o) where
  len := R.len
  vals := fun i d e => let ⟨v, h1, h2⟩ := R.vals i d e; ⟨v, h1, h2.kw (kw_upd hp hu)⟩
  owns := fun i q xs e => by
    obtain ⟨h1, h2, h3, vs, h4, h5⟩ := R.owns i q xs e
    exact ⟨h1, h2, h3, vs, by rw [upd_ne (ho i q xs e)]; exact h4, h5.kw (kw_upd hp hu)⟩
  uniq := R.uniq
  box := R.box.upd (kw_upd hp hu) hb
  k0 := fun a w e s => by
    rw [upd_ne (ne_of_none e h0)]
    exact R.k0 a w e s
/-- what is free of tracked things is apart from what was tracked -/
theorem Rel.apart {ρ : Ev} {n : Nat} {σ : St} {H : Hp} {p : Addr} (R : Rel c H0 ρ n σ H) (hp : H p = none) : H0 p = none ∧ (∀ cl, c.B ≠ some (p, cl)) ∧ ∀ (i : Nat) (q : Addr) (xs : List D), ρ[i]? = some (.own q xs) → q ≠ p := by
  have hb : ∀ cl, c.B ≠ some (p, cl) := fun cl z => by
    obtain ⟨_, _, e, _⟩ := R.box p cl z
    rw [hp] at e; cases e
  refine ⟨?_, hb, fun i q xs e z => ?_⟩
  · cases w : H0 p with
    | none => rfl
    | some u =>
      have := R.k0 p u w (.inr hb)
      rw [hp] at this; cases this
  · obtain ⟨_, _, _, vs, h4, _⟩ := R.owns i q xs e
    rw [z, hp] at h4; cases h4
/-! ### comprehensions -/
def wipeE (ρ : Ev) : List Nat → Ev
  | [] => ρ
  | v :: vs => (wipeE ρ vs).set v .no
theorem wipeE_get {ρ : Ev} {i : Nat} {s : Sl} : ∀ {vs : List Nat}, (wipeE ρ vs)[i]? = some s → s ≠ .no → ρ[i]? = some s ∧ i ∉ vs
  | [], h, _ => ⟨h, by simp⟩
  | v :: vs, h, hn => by
    unfold wipeE at h
    by_cases hi : v = i
    · subst hi
      by_cases hv : v < (wipeE ρ vs).length
      · rw [List.getElem?_set_self hv] at h; cases h; exact absurd rfl hn
      · rw [List.getElem?_eq_none (by simpa using hv)] at h; cases h
    · rw [List.getElem?_set_ne hi] at h
      obtain ⟨h1, h2⟩ := wipeE_get h hn
      exact ⟨h1, fun z => by rcases List.mem_cons.mp z with z | z; exact hi z.symm; exact h2 z⟩
theorem wipeE_len (ρ : Ev) : ∀ vs : List Nat, (wipeE ρ vs).length = ρ.length
  | [] => rfl
  | v :: vs => by unfold wipeE; rw [List.length_set, wipeE_len ρ vs]
theorem wipe_off {σ : St} {i : Nat} : ∀ {vs : List Nat}, i ∉ vs → (wipe σ vs)[i]? = σ[i]?
  | [], _ => rfl
  | v :: vs, h => by
    unfold wipe
    rw [List.getElem?_set_ne (fun z => h (by simp [z])), wipe_off fun z => h (List.mem_cons_of_mem _ z)]
theorem wipe_in {σ : St} {i : Nat} : ∀ {vs : List Nat}, i ∈ vs → (wipe σ vs)[i]? = if i < σ.length then some none else none
  | v :: vs, h => by
    unfold wipe
    by_cases z : v = i
    · subst z
      by_cases hl : v < σ.length
      · rw [if_pos hl, List.getElem?_set_self (by rw [wipe_length]; exact hl)]
      · rw [if_neg hl, List.getElem?_eq_none (by rw [List.length_set, wipe_length]; omega)]
    · rw [List.getElem?_set_ne z]
      exact wipe_in (by rcases List.mem_cons.mp h with q | q; exact absurd q.symm z; exact q)
theorem wipe_same {σ σ' : St} {vs ts : List Nat} (h : Off ts (wipe σ vs) σ') (hv : ∀ i ∈ ts, i ∈ vs) : wipe σ' vs = wipe σ vs := by
  apply List.ext_getElem?
  intro i
  by_cases z : i ∈ vs
  · rw [wipe_in z, wipe_in z, h.1, wipe_length]
  · rw [wipe_off z, wipe_off z, h.2 i fun q => z (hv i q), wipe_off z]
theorem Rel.wipe {ρ : Ev} {n : Nat} {σ : St} {H : Hp} (R : Rel c H0 ρ n σ H) (vs : List Nat) : Rel c H0 (wipeE ρ vs) n (L2.wipe σ vs) H where
  len := by rw [wipeE_len, wipe_length]; exact R.len
  vals := fun i d e => by
    obtain ⟨h1, h2⟩ := wipeE_get e (by simp)
    obtain ⟨v, h3, h4⟩ := R.vals i d h1
    exact ⟨v, by rw [wipe_off h2]; exact h3, h4⟩
  owns := fun i p xs e => by
    obtain ⟨h1, h2⟩ := wipeE_get e (by simp)
    rw [wipe_off h2]
    exact R.owns i p xs h1
  uniq := fun i j p xs ys e1 e2 => R.uniq i j p xs ys (wipeE_get e1 (by simp)).1 (wipeE_get e2 (by simp)).1
  box := R.box
  k0 := R.k0
/-- the turns: each gives an item or none -/
def compD (st : D → Nat → (Option D → Nat → Prop) → Prop) : List D → Nat → (List D → Nat → Prop) → Prop
  | [], n, k => k [] n
  | d :: ds, n, k => st d n fun o n1 => compD st ds n1 fun xs n2 => k (match o with | some y => y :: xs | none => xs) n2
def noX : XD := fun _ _ _ => False
def mLc (mi : MA) (g : GF) (vs : List Nat) (tt : MT) (te : ME) : ME := fun ε ρ n k => mi ε ρ n fun ds n1 => ds.length ≤ 1000000 ∧
  compD (fun d n k => optK (g d (wipeE ρ vs)) fun ρ' => tt noX ρ' n fun b n2 => if b = true then te noX ρ' n2 fun y n3 => k (some y) n3 else k none n2) ds n1 fun xs n2 => k (.lst xs) n2
def mYes : MT := fun _ _ n k => k true n
theorem line_million : 1000000 < sizeLine := by decide
theorem lc_read {g : GF} {ts vs : List Nat} {tt : MT} {te : ME} (hts : ∀ i ∈ ts, i ∈ vs) (σ : St) (H : Hp) (Q : VK) (h : tE c H0 ε (mLc mi g vs tt te) σ H Q) :
    tLc (tI c H0 ε mi) (tG c H0 ts g) (tT c H0 noX tt) (tE c H0 noX te) vs σ H fun v H' => Q v H' ∨ ∃ p u, v = .ref p ∧ H' p = some u ∧ Mut (some u) ∧ ∀ o, Q v (L2.upd H' p (.frz o u)) := by
  obtain ⟨ρ, n, k, R, m, q⟩ := h
  refine ⟨ρ, n, _, R, m, fun ds n1 J H1 m1 it k1 b1 D hD => ?_⟩
  obtain ⟨hlen, m1⟩ := m1
  obtain ⟨src, G, w, hG, ok⟩ := it.ex
  have hl := Src.ok_len ok
  have R1 := R.step k1 b1
  obtain ⟨a0, ab, ao⟩ := R1.apart hD
  have s1 : Same H1 (L2.upd H1 D (.lst [])) := same_new hD
  have nst : ∀ xs, ¬ Stb c (.lst xs) := fun _ z => z
  refine lc_it w (fun i H' => ∃ n' acc done, Rel c H0 ρ n' σ H' ∧ Ks c H1 H' ∧ H' D = some (.lst acc) ∧ DVs c H' acc done ∧ acc.length ≤ i ∧
    compD (fun d n k => optK (g d (wipeE ρ vs)) fun ρ' => tt noX ρ' n fun b n2 => if b = true then te noX ρ' n2 fun y n3 => k (some y) n3 else k none n2) (ds.drop i) n' fun xs n2 => k (.lst (done ++ xs)) n2)
    ⟨n1, [], [], R1.step (Same.ks s1) (b1.same s1), Same.ks s1, upd_same, .nil, Nat.le_refl _, m1⟩ (fun i H' _ ⟨_, _, _, _, k', _⟩ => hG _ k'.kw) ?_ ?_
  · rintro i x H' H'' hi ⟨n', acc, done, R', k', hD', hacc, la, f⟩ y
    obtain ⟨d, e1, dv, sm⟩ := Src.step ok k'.kw y
    have hi' : i < ds.length := by rw [← hl]; exact hi
    have ed : ds.drop i = d :: ds.drop (i + 1) := by
      rw [List.drop_eq_getElem_cons hi']
      rw [List.getElem?_eq_getElem hi'] at e1
      cases e1
      rfl
    rw [ed] at f
    obtain ⟨ρ2, e2, f2⟩ := optK_some f
    have R2 := R'.step (Same.ks sm) (R'.box.same sm)
    refine ⟨wipeE ρ vs, n', d, ρ2, R2.wipe vs, dv, e2, fun σ2 R3 off => ⟨wipe_same off hts, ρ2, n', _, R3, f2, fun b n2 H3 m3 k3 b3 => ?_⟩⟩
    have kD : Ks c H1 H3 := (k'.trans (Same.ks sm)).trans k3
    have hD3 : H3 D = some (.lst acc) := k3 _ _ (sm _ _ hD') (.inr ab)
    cases b with
    | false =>
      rw [if_neg (by decide)] at m3
      refine iteF ?_
      exact ⟨n2, acc, done, R2.step k3 b3, kD, hD3, (hacc.kw (Same.ks sm).kw).kw k3.kw, by omega, m3⟩
    | true =>
      rw [if_pos rfl] at m3
      refine iteT ?_
      refine ⟨ρ2, n2, _, R3.step k3 b3, m3, fun yd n3 yv H4 m4 dy k4 b4 => ?_⟩
      have hD4 : H4 D = some (.lst acc) := k4 _ _ hD3 (.inr ab)
      refine ⟨acc, hD4, by have := line_million; omega, n3, acc ++ [yv], done ++ [yd], ?_, ?_, upd_same, ?_, by rw [List.length_append]; exact Nat.succ_le_succ la, ?_⟩
      · exact (R2.step (k3.trans k4) b4).upd a0 ab ao hD4 (nst _)
      · intro p u ep s
        rw [upd_ne (ne_of_none ep hD)]
        exact (kD.trans k4) p u ep s
      · exact ((((hacc.kw (Same.ks sm).kw).kw k3.kw).kw k4.kw).append (.one dy)).kw (kw_upd hD4 (nst _))
      · have fe : (fun xs n2 => k (.lst (done ++ [yd] ++ xs)) n2) = fun xs n2 => k (.lst (done ++ (yd :: xs))) n2 := by
          funext xs n2
          rw [List.append_assoc]
          rfl
        rw [fe]
        exact m4
  · rintro H' ⟨n', acc, done, R', k', hD', hacc, la, f⟩
    rw [hl, List.drop_length] at f
    have f' : k (.lst done) n' := by simpa [compD] using f
    refine .inr ⟨D, _, rfl, hD', True.intro, fun o => q _ _ _ _ f' (.lst (.inl ⟨o, upd_same⟩) (hacc.kw (kw_upd hD' (nst _)))) ?_ ?_⟩
    · intro p u ep s
      have e1 := k1 p u ep s
      rw [upd_ne (ne_of_none e1 hD)]
      exact k' p u e1 s
    · exact R'.box.upd (kw_upd hD' (nst _)) ab
theorem de_lc {elt : Expr} {ifs : List Expr} {scope : Scope} {own : List (Str × Nat)} {g : GF} {ts : List Nat} {tt : MT} {te : ME} (hc : X.calm = true) (hN : X.N.Nodup) (hi : PI X tg iter (tI c H0 ε mi)) (ok : BlkOk X.N X.env.scope scope own) (hts : ∀ i ∈ ts, i ∈ own.map (·.2))
    (hg : ∀ (s : Shared) (H : Hp) (C : Addr) (cl : List (Str × Addr)) (fp : List Addr), PG (X.blk s H scope (compEnvC scope cl C X.env) fp) tg (tG c H0 ts g)) (ht : ∀ (s : Shared) (H : Hp) (C : Addr) (cl : List (Str × Addr)) (fp : List Addr), PTs (X.blk s H scope (compEnvC scope cl C X.env) fp) ifs (tT c H0 noX tt))
    (he : ∀ (s : Shared) (H : Hp) (C : Addr) (cl : List (Str × Addr)) (fp : List Addr), PE (X.blk s H scope (compEnvC scope cl C X.env) fp) elt (tE c H0 noX te)) (hs : ∀ x, foldedSetIterable iter X.env x = pure x := by intro _; rfl) :
    PE X (.ListComp elt [⟨tg, iter, ifs, 0⟩] scope pos) (tE c H0 ε (mLc mi g (own.map (·.2)) tt te)) :=
  imp_pe (pe_fz (pe_lc hc hN hi ok hg ht he hs)) fun σ H Q h => lc_read hts σ H Q h
theorem dts_nil : PTs X [] (tT c H0 ε mYes) := ⟨fun pins s σ H Q I ⟨ρ, n, k, R, m, q⟩ => pts_nil.run pins s σ H Q I (q _ _ _ m (Ks.refl _ _) R.box)⟩
theorem dts_one {tt : MT} (h : PT X a (tT c H0 ε tt)) : PTs X [a] (tT c H0 ε tt) := pts_one h
/-- a new thing may be locked behind a statement -/
theorem ps_fz {st : Stmt} {t : TS} (h : PS X st t) : PS X st (fun De σ H => t { De with nx := fun σ' H' => De.nx σ' H' ∨ ∃ p u, H' p = some u ∧ Mut (some u) ∧ ∀ o, De.nx σ' (L2.upd H' p (.frz o u)) } σ H) := by
  refine ⟨fun pins s σ H De I w => ?_⟩
  refine thn (h.run pins s σ H _ I w) fun f s1 q => ?_
  cases f with
  | next =>
    obtain ⟨σ', H', I1, q | ⟨p, u, hp, mu, q⟩⟩ := q
    · exact ⟨σ', H', I1, q⟩
    · obtain ⟨o, I2⟩ := I1.lock hp mu
      exact ⟨σ', _, I2, q o⟩
  | ret v => exact q
  | brk => exact q
  | cont => exact q
theorem ds_setLc (i : Nat) {y : Str} {py : Pos} {spos : Pos} {elt : Expr} {ifs : List Expr} {scope : Scope} {own : List (Str × Nat)} {g : GF} {ts : List Nat} {tt : MT} {te : ME} (hc : X.calm = true) (hN : X.N.Nodup) (hy : X.N[i]? = some y) (hyl : X.env.scope.names.lookup y = some .local)
    (hsw : swapsWith (.ListComp elt [⟨tg, iter, ifs, 0⟩] scope pos) (some (.Name y py)) spos.line X.env = pure true) (hi : PI X tg iter (tI c H0 ε mi)) (ok : BlkOk X.N X.env.scope scope own) (hts : ∀ i ∈ ts, i ∈ own.map (·.2))
    (hg : ∀ (s : Shared) (H : Hp) (C : Addr) (cl : List (Str × Addr)) (fp : List Addr), PG (X.blk s H scope (compEnvC scope cl C X.env) fp) tg (tG c H0 ts g)) (ht : ∀ (s : Shared) (H : Hp) (C : Addr) (cl : List (Str × Addr)) (fp : List Addr), PTs (X.blk s H scope (compEnvC scope cl C X.env) fp) ifs (tT c H0 noX tt))
    (he : ∀ (s : Shared) (H : Hp) (C : Addr) (cl : List (Str × Addr)) (fp : List Addr), PE (X.blk s H scope (compEnvC scope cl C X.env) fp) elt (tE c H0 noX te)) (hs : ∀ x, foldedSetIterable iter X.env x = pure x := by intro _; rfl) :
    PS X (.Assign [.Name y py] (.ListComp elt [⟨tg, iter, ifs, 0⟩] scope pos) spos) (tS c H0 ε (mAsg (gfName i) (mLc mi g (own.map (·.2)) tt te))) := by
  refine imp_ps (ps_fz (ps_setLc hc hN hy hyl hsw hi ok hg ht he hs)) fun De σ H ⟨ρ, n, P, R, m, h1, _⟩ => ?_
  have h := lc_read (c := c) (H0 := H0) (ε := ε) (mi := mi) (g := g) (ts := ts) (vs := own.map (fun p : Str × Nat => p.2)) (tt := tt) (te := te) hts σ H
    (fun v H' => De.nx (σ.set i (some v)) H') ⟨ρ, n, fun d n1 => P.nx (ρ.set i (.val d)) n1, R, m, fun d n1 v H1 m1 dv k1 b1 => h1 _ _ _ _ m1 ((R.step k1 b1).set dv) k1.kw⟩
  obtain ⟨ρ1, n1, k1, R1, mm, h⟩ := h
  refine ⟨ρ1, n1, k1, R1, mm, fun ds n' J H' a1 a2 a3 a4 => ?_⟩
  intro D hD
  obtain ⟨W, w0, w⟩ := h ds n' J H' a1 a2 a3 a4 D hD
  refine ⟨W, w0, fun i m H hw => ?_⟩
  rcases w i m H hw with ⟨st, q⟩ | q
  · refine .inl ⟨st, ?_⟩
    rcases q with q | ⟨p, u, e, hp, mu, q⟩
    · exact .inl q
    · exact .inr ⟨p, u, hp, mu, q⟩
  · exact .inr q
end
end DS
namespace DS
open PySem PySem.Spec PyProof.Rows L2
/-! ### defs by their runs -/
def spD (K : PySem.W.Frag) (S : Addr → Prop) (con : Con) : Sp := fun vs H Q _ => ∃ B n ds k, DVs ⟨K, S, B⟩ H vs ds ∧ BoxAt ⟨K, S, B⟩ n H ∧ con noX ds n k ∧ ∀ d n' v H', k d n' → DV ⟨K, S, B⟩ H' v d → Ks ⟨K, S, B⟩ H H' → BoxAt ⟨K, S, B⟩ n' H' → Q v H'
def rho (N : Nat) (ds : List D) : Ev := ds.map .val ++ List.replicate (N - ds.length) .no
def conOf (m N : Nat) (ms : MS) : Con := fun _ ds n k => ds.length = m ∧ ms noX (rho N ds) n { nx := fun _ n' => k .non n', rt := k }
theorem rel_start {c : Cc} {H : Hp} {N : List Str} {vs : List V} {ds : List D} {n : Nat} (h : DVs c H vs ds) (b : BoxAt c n H) : Rel c H (rho N.length ds) n (L2.start N vs) H where
  len := by
    unfold L2.start rho
    simp only [List.length_append, List.length_map, List.length_replicate, h.length]
  vals := fun i d e => by
    unfold rho at e
    by_cases hi : i < ds.length
    · rw [List.getElem?_append_left (by simpa using hi), List.getElem?_map] at e
      obtain ⟨d', e1, e2⟩ := Option.map_eq_some_iff.mp e
      cases e2
      obtain ⟨v, h1, h2⟩ := h.getD e1
      refine ⟨v, ?_, h2⟩
      unfold L2.start
      rw [List.getElem?_append_left (by simpa [h.length] using hi), List.getElem?_map, h1]
      rfl
    · rw [List.getElem?_append_right (by simpa using hi), List.getElem?_replicate] at e
      split at e <;> cases e
  owns := fun i p xs e => by
    unfold rho at e
    by_cases hi : i < ds.length
    · rw [List.getElem?_append_left (by simpa using hi), List.getElem?_map] at e
      obtain ⟨d', e1, e2⟩ := Option.map_eq_some_iff.mp e
      cases e2
    · rw [List.getElem?_append_right (by simpa using hi), List.getElem?_replicate] at e
      split at e <;> cases e
  uniq := fun i j p xs ys e => by
    unfold rho at e
    by_cases hi : i < ds.length
    · rw [List.getElem?_append_left (by simpa using hi), List.getElem?_map] at e
      obtain ⟨d', e1, e2⟩ := Option.map_eq_some_iff.mp e
      cases e2
    · rw [List.getElem?_append_right (by simpa using hi), List.getElem?_replicate] at e
      split at e <;> cases e
  box := b
  k0 := Ks.refl _ _
section
variable {P : Program} {w : World} {K : PySem.W.Frag} {mg : Str → Option Value} {base : Heap} {k : Nat} {f : Addr} {S : Addr → Prop}
theorem fng_con {x qual : Str} {st : Stmt} {fd : FuncData} {N ps : List Str} {con : Con} {m : Nat} {ms : MS} (F : Fun K x qual st f fd) (Sc : FnScope N ps (defScope st)) (hps : ps.length = m) (hcon : ∀ ds n kk, con noX ds n kk → conOf m N.length ms noX ds n kk)
    (hb : ∀ (cdv : Value) (A : Around) (out : List Env) (s : Shared) (H : Hp) (E : XK) (B : Option (Addr × (Addr × List Int))), A.guards = some [] → Room k (A.deeper (envOfC qual (defScope st) s.heap.objs.size f cdv)) →
      PSs (cxOf CX0 P w K mg base N qual (defScope st) f cdv A out s H E).nox (defBody st) (tS ⟨K, S, B⟩ H noX ms)) : FnG P w K mg base CX0 (k + 1) f fd ps (spD K S con) := by
  refine fng_of F Sc (fun vs H Q E ⟨B, n, ds, kk, h1, _, h3, _⟩ => ?_) fun cdv A out s H vs Q E hg hr ⟨B, n, ds, kk, h1, h2, h3, h4⟩ => ?_
  · rw [h1.length, (hcon _ _ _ h3).1, hps]
  · refine ⟨_, (hb cdv A out s H E B hg hr).nox, rho N.length ds, n, _, rel_start h1 h2, (hcon _ _ _ h3).2, fun ρ' n' σ' H' a1 a2 _ => ?_, fun d n' v H' a1 a2 a3 a4 => h4 _ _ _ _ a1 a2 a3 a4, fun _ _ _ _ z => z.elim, fun _ _ _ _ z => z.elim⟩
    exact h4 _ _ _ _ a1 .non a2.k0 a2.box
end
section
variable {X : Cx} {S : Addr → Prop} {B : Option (Addr × (Addr × List Int))} {H0 : Hp} {ε : XD} {con : Con} {k : Nat} {f : Addr} {fd : FuncData} {ps ks : List Str} {x : Str} {p pos : Pos} {e : Expr} {es : List Expr} {kws : List Keyword} {ma mk : MA}
def mCall (con : Con) (ma : MA) : ME := fun ε ρ n k => ma ε ρ n fun ds n1 => con noX ds n1 k
/-- a def of the text, and how it is called -/
structure Cal (X : Cx) (S : Addr → Prop) (x : Str) (con : Con) : Prop where
  ex : ∃ (k : Nat) (f : Addr) (fd : FuncData) (ps : List Str), FnG X.prog X.w X.K X.mg X.base CX0 k f fd ps (spD X.K S con) ∧ Room k X.A ∧ X.mg x = some (.ref f) ∧ PySem.W.keepIn X.K (.ref f) = true ∧ Binds X.K fd ps []
theorem de_call (C : Cal X S x con) (hgd : X.A.guards = some []) (ha : PA X (e :: es) (tA ⟨X.K, S, B⟩ H0 ε ma)) (hg : Gl X x := by rfl) (hdb : (x == ("__debug__" : Str)) = false := by decide)
    (he : starEach (e :: es) X.env = (false, eval e X.env) :: starEach es X.env := by rfl) (hpl : (backTo pos (starEach es X.env)).any (·.1) = false := by rfl) : PE X (.Call (.Name x p) (e :: es) [] pos) (tE ⟨X.K, S, B⟩ H0 ε (mCall con ma)) := by
  obtain ⟨k, f, fd, ps, F, hr, hm, hk, hb⟩ := C.ex
  refine imp_pe (pe_callG F hgd hr hm hk hb .nil pass0 hg ha hdb he hpl) fun σ H Q ⟨ρ, n, kk, R, m, q⟩ => ⟨ρ, n, _, R, m, fun ds n1 vs H1 m1 dvs k1 b1 => ?_⟩
  show spD X.K S con (vs ++ []) H1 Q E0
  rw [List.append_nil]
  exact ⟨B, n1, ds, kk, dvs, b1, m1, fun d n' v H' a1 a2 a3 a4 => q _ _ _ _ a1 a2 (k1.trans a3) a4⟩
theorem de_call0 (C : Cal X S x con) (hgd : X.A.guards = some []) (hg : Gl X x := by rfl) (hdb : (x == ("__debug__" : Str)) = false := by decide) : PE X (.Call (.Name x p) [] [] pos) (tE ⟨X.K, S, B⟩ H0 ε (mCall con mNil)) := by
  obtain ⟨k, f, fd, ps, F, hr, hm, hk, hb⟩ := C.ex
  exact imp_pe (pe_callG0 F hgd hr hm hk hb .nil pass0 hg hdb) fun σ H Q ⟨ρ, n, kk, R, m, q⟩ => ⟨B, n, [], kk, .nil, R.box, m, q⟩
/-! keywords: the values by places -/
def pick {α : Type} (ix : List Nat) (l : List α) : List α := ix.filterMap fun i => l[i]?
theorem pick_vals {vs : List V} {us : List Value} (r : Vals vs us) : ∀ ix : List Nat, Vals (pick ix vs) (pick ix us)
  | [] => .nil
  | i :: ix => by
    unfold pick
    rw [List.filterMap_cons, List.filterMap_cons]
    cases e : vs[i]? with
    | none => rw [Vals.none_of r e]; exact pick_vals r ix
    | some v =>
      obtain ⟨u, h1, h2⟩ := r.get e
      rw [h1]
      exact .cons h2 (pick_vals r ix)
theorem pick_dvs {c : Cc} {H : Hp} {vs : List V} {ds : List D} (r : DVs c H vs ds) : ∀ ix : List Nat, DVs c H (pick ix vs) (pick ix ds)
  | [] => .nil
  | i :: ix => by
    unfold pick
    rw [List.filterMap_cons, List.filterMap_cons]
    cases e : vs[i]? with
    | none =>
      have hi : ds[i]? = none := by
        rw [List.getElem?_eq_none_iff] at e ⊢
        rw [← r.length]; exact e
      rw [hi]; exact pick_dvs r ix
    | some v =>
      obtain ⟨d, h1, h2⟩ := r.get e
      rw [h1]
      exact .cons h2 (pick_dvs r ix)
structure KB (K : PySem.W.Frag) (fd : FuncData) (ps : List Str) (n : Nat) (ks : List Str) (ix : List Nat) : Prop where
  to : ∀ (s : Shared) (us ws : List Value), K.In s.heap → us.length = n → ws.length = ks.length → BindsTo s fd ⟨us, ks.zip ws⟩ (ps.zip (pick ix (us ++ ws)))
structure CalK (X : Cx) (S : Addr → Prop) (x : Str) (con : Con) (n : Nat) (ks : List Str) (ix : List Nat) : Prop where
  ex : ∃ (k : Nat) (f : Addr) (fd : FuncData) (ps : List Str), FnG X.prog X.w X.K X.mg X.base CX0 k f fd ps (spD X.K S con) ∧ Room k X.A ∧ X.mg x = some (.ref f) ∧ PySem.W.keepIn X.K (.ref f) = true ∧ KB X.K fd ps n ks ix
def mCallK (con : Con) (n m : Nat) (ix : List Nat) (ma mk : MA) : ME := fun ε ρ n0 k => ma ε ρ n0 fun ds n1 => mk ε ρ n1 fun es n2 => ds.length = n ∧ es.length = m ∧ con noX (pick ix (ds ++ es)) n2 k
theorem de_callK {n : Nat} {ix : List Nat} (C : CalK X S x con n ks ix) (hgd : X.A.guards = some []) (ha : PA X (e :: es) (tA ⟨X.K, S, B⟩ H0 ε ma)) (hkw : PK X kws (tA ⟨X.K, S, B⟩ H0 ε mk)) (hg : Gl X x := by rfl) (hall : (backToKw pos (keywordEach kws X.env)).all (·.1.isSome) = true := by rfl)
    (hks : (backToKw pos (keywordEach kws X.env)).filterMap (·.1) = ks := by rfl) (hdb : (x == ("__debug__" : Str)) = false := by decide) (he : starEach (e :: es) X.env = (false, eval e X.env) :: starEach es X.env := by rfl)
    (hpl : ((backTo pos (starEach (e :: es) X.env)).any (·.1) || (backToKw pos (keywordEach kws X.env)).any (·.1.isNone)) = false := by rfl) : PE X (.Call (.Name x p) (e :: es) kws pos) (tE ⟨X.K, S, B⟩ H0 ε (mCallK con n ks.length ix ma mk)) := by
  obtain ⟨k, f, fd, ps, F, hr, hm, hk, hb⟩ := C.ex
  constructor
  rintro pins s σ H Q I ⟨ρ, n0, kk, R, m, q⟩
  apply wpAny_Call_Name_kw
  refine ld_glob I hg hm (PySem.W.callWith_KW (h₀ := X.base) I.ok.mod.kin hk hall (thn (ha.run pos pins s σ H (fun vs H1 => tA ⟨X.K, S, B⟩ H0 ε mk σ H1 fun zs H2 => vs.length = n ∧ zs.length = ks.length ∧ spD X.K S con (pick ix (vs ++ zs)) H2 Q (fun _ _ _ => False)) I ?_) ?_) hpl he) hdb
  · refine ⟨ρ, n0, _, R, m, fun ds n1 vs H1 m1 dvs k1 b1 => ⟨ρ, n1, _, R.step k1 b1, m1, fun es' n2 zs H2 m2 dzs k2 b2 => ?_⟩⟩
    refine ⟨dvs.length.trans m2.1, dzs.length.trans m2.2.1, B, n2, _, kk, pick_dvs ((dvs.kw k2.kw).append dzs) ix, b2, m2.2.2, fun d n' v H' a1 a2 a3 a4 => q _ _ _ _ a1 a2 ((k1.trans k2).trans a3) a4⟩
  · rintro us s1 ⟨vs, H1, I1, r, q1⟩
    refine thn (hkw.run pos pins s1 σ H1 _ I1 q1) ?_
    rintro ws s2 ⟨zs, H2, I2, rz, l1, l2, q2⟩
    refine ⟨I2.kIn, ?_⟩
    rw [hks]
    exact run_g F hgd hr pass0 I2 (fun _ => hb.to s2 us ws I2.kIn (r.length.symm.trans l1) (rz.length.symm.trans l2)) (pick_vals (r.append rz) ix) q2
theorem de_callK0 {ix : List Nat} (C : CalK X S x con 0 ks ix) (hgd : X.A.guards = some []) (hkw : PK X kws (tA ⟨X.K, S, B⟩ H0 ε mk)) (hg : Gl X x := by rfl) (hall : (backToKw pos (keywordEach kws X.env)).all (·.1.isSome) = true := by rfl)
    (hks : (backToKw pos (keywordEach kws X.env)).filterMap (·.1) = ks := by rfl) (hdb : (x == ("__debug__" : Str)) = false := by decide)
    (hpl : ((backTo pos (starEach [] X.env)).any (·.1) || (backToKw pos (keywordEach kws X.env)).any (·.1.isNone)) = false := by rfl) : PE X (.Call (.Name x p) [] kws pos) (tE ⟨X.K, S, B⟩ H0 ε (mCallK con 0 ks.length ix mNil mk)) := by
  obtain ⟨k, f, fd, ps, F, hr, hm, hk, hb⟩ := C.ex
  constructor
  rintro pins s σ H Q I ⟨ρ, n0, kk, R, m, q⟩
  apply wpAny_Call_Name_kw
  refine ld_glob I hg hm (PySem.W.callWith_KW0 (h₀ := X.base) I.ok.mod.kin hk hall ?_ hpl) hdb
  refine thn (hkw.run pos pins s σ H (fun zs H2 => zs.length = ks.length ∧ spD X.K S con (pick ix zs) H2 Q (fun _ _ _ => False)) I ?_) ?_
  · refine ⟨ρ, n0, _, R, m, fun es' n2 zs H2 m2 dzs k2 b2 => ?_⟩
    refine ⟨dzs.length.trans m2.2.1, B, n2, _, kk, pick_dvs dzs ix, b2, m2.2.2, fun d n' v H' a1 a2 a3 a4 => q _ _ _ _ a1 a2 (k2.trans a3) a4⟩
  · rintro ws s2 ⟨zs, H2, I2, rz, l2, q2⟩
    refine ⟨I2.kIn, ?_⟩
    rw [hks]
    exact run_g (us := []) F hgd hr pass0 I2 (fun _ => hb.to s2 [] ws I2.kIn rfl (rz.length.symm.trans l2)) (pick_vals rz ix) q2
end
/-! ### the box -/
/-- a draw below many: any number -/
def conDraw : Con := fun _ ds n k => match ds with
  | [.box, .int many] => (0 < many ∧ many < 1073741824) ∧ n < 1000000 ∧ ∀ (r : Int) (n2 : Nat), 0 ≤ r → r < many → n ≤ n2 → n2 ≤ n + 1 → k (.int r) n2
  | _ => False
end DS
namespace DS
open PySem PySem.Spec PyProof.Rows L2
/-! ### the box within its own def; the law's own start -/
section
variable {X : Cx} {S : Addr → Prop} {b : Addr} {cl : Addr} {cells : List Int} {H0 : Hp} {ε : XD} {x : Str} {p q pos spos : Pos} {j : Nat}
def mBox0 (cells : List Int) (i : Nat) : ME := fun _ ρ n k => match ρ[i]? with
  | some (.val .box) => k (.lst (cells.map D.int)) n
  | _ => False
def mBox1 (i : Nat) : ME := fun _ ρ n k => match ρ[i]? with
  | some (.val .box) => ∀ lap : Int, 0 ≤ lap → lap ≤ n → k (.int lap) n
  | _ => False
def mBox2 (i : Nat) : ME := fun _ ρ n k => match ρ[i]? with
  | some (.val .box) => ∀ r : Int, 0 ≤ r → k (.int r) n
  | _ => False
theorem box_slot {c : Cc} {ρ : Ev} {n : Nat} {σ : St} {H : Hp} {i : Nat} (R : Rel c H0 ρ n σ H) (e : ρ[i]? = some (.val .box)) : ∃ b cl lap rest, c.B = some (b, cl) ∧ σ[i]? = some (some (.ref b)) ∧ H b = some (.lst [.ref cl.1, .int lap, .int rest]) ∧ FzL c.K H cl.1 (cl.2.map V.int) ∧ 0 ≤ lap ∧ lap ≤ n ∧ 0 ≤ rest := by
  obtain ⟨v, h1, h2⟩ := R.vals i _ e
  cases h2 with
  | box hb =>
    obtain ⟨lap, rest, h3⟩ := R.box _ _ hb
    exact ⟨_, _, lap, rest, hb, h1, h3⟩
theorem de_box0 (i : Nat) (hN : X.N[i]? = some x := by rfl) (hv : Vis X.env.scope x := by first | exact Or.inl rfl | exact Or.inr (Or.inl rfl) | exact Or.inr (Or.inr rfl)) (hd : (x == ("__debug__" : Str)) = false := by decide) (hcd : (x == ("__classdict__" : Str)) = false := by decide) (hs : PlainIx (.Constant (.int 0) j q) := by intro _ _; rfl) :
    PE X (.Subscript (.Name x p) (.Constant (.int 0) j q) pos) (tE ⟨X.K, S, some (b, (cl, cells))⟩ H0 ε (mBox0 cells i)) :=
  imp_pe (pe_ix ix_list (pe_var hN hv hd hcd) pe_int hs) fun σ H Q ⟨ρ, n, k, R, m, q⟩ => by
    unfold mBox0 at m
    split at m
    · obtain ⟨b', cl', lap, rest, e1, e2, e3, e4, e5⟩ := box_slot R (by assumption)
      cases e1
      exact ⟨_, e2, _, _, _, _, rfl, rfl, SqL.of e3, rfl, q _ _ _ _ m (.lst e4 (dvs_ints _)) (Ks.refl _ _) R.box⟩
    · exact m.elim
theorem de_box1 (i : Nat) (hN : X.N[i]? = some x := by rfl) (hv : Vis X.env.scope x := by first | exact Or.inl rfl | exact Or.inr (Or.inl rfl) | exact Or.inr (Or.inr rfl)) (hd : (x == ("__debug__" : Str)) = false := by decide) (hcd : (x == ("__classdict__" : Str)) = false := by decide) (hs : PlainIx (.Constant (.int 1) j q) := by intro _ _; rfl) :
    PE X (.Subscript (.Name x p) (.Constant (.int 1) j q) pos) (tE ⟨X.K, S, some (b, (cl, cells))⟩ H0 ε (mBox1 i)) :=
  imp_pe (pe_ix ix_list (pe_var hN hv hd hcd) pe_int hs) fun σ H Q ⟨ρ, n, k, R, m, q⟩ => by
    unfold mBox1 at m
    split at m
    · obtain ⟨b', cl', lap, rest, e1, e2, e3, e4, e5, e6, e7⟩ := box_slot R (by assumption)
      cases e1
      exact ⟨_, e2, _, _, _, _, rfl, rfl, SqL.of e3, rfl, q _ _ _ _ (m lap e5 e6) (.int _) (Ks.refl _ _) R.box⟩
    · exact m.elim
theorem de_box2 (i : Nat) (hN : X.N[i]? = some x := by rfl) (hv : Vis X.env.scope x := by first | exact Or.inl rfl | exact Or.inr (Or.inl rfl) | exact Or.inr (Or.inr rfl)) (hd : (x == ("__debug__" : Str)) = false := by decide) (hcd : (x == ("__classdict__" : Str)) = false := by decide) (hs : PlainIx (.Constant (.int 2) j q) := by intro _ _; rfl) :
    PE X (.Subscript (.Name x p) (.Constant (.int 2) j q) pos) (tE ⟨X.K, S, some (b, (cl, cells))⟩ H0 ε (mBox2 i)) :=
  imp_pe (pe_ix ix_list (pe_var hN hv hd hcd) pe_int hs) fun σ H Q ⟨ρ, n, k, R, m, q⟩ => by
    unfold mBox2 at m
    split at m
    · obtain ⟨b', cl', lap, rest, e1, e2, e3, e4, e5, e6, e7⟩ := box_slot R (by assumption)
      cases e1
      exact ⟨_, e2, _, _, _, _, rfl, rfl, SqL.of e3, rfl, q _ _ _ _ (m rest e7) (.int _) (Ks.refl _ _) R.box⟩
    · exact m.elim
/-- the box's places 1 and 2 are stored -/
def mPut1 (i : Nat) (ma : ME) : MS := fun ε ρ n P => ma ε ρ n fun d n1 => match d, ρ[i]? with
  | .int v, some (.val .box) => (0 ≤ v ∧ v ≤ (n1 : Int) + 1) ∧ P.nx ρ (n1 + 1)
  | _, _ => False
def mPut2 (i : Nat) (ma : ME) : MS := fun ε ρ n P => ma ε ρ n fun d n1 => match d, ρ[i]? with
  | .int v, some (.val .box) => 0 ≤ v ∧ P.nx ρ n1
  | _, _ => False
theorem rel_put {c : Cc} {ρ : Ev} {n m : Nat} {σ : St} {H : Hp} {b : Addr} {cl : Addr × List Int} {xs : List V} {lap rest : Int} (R : Rel c H0 ρ n σ H) (hb : c.B = some (b, cl)) (e3 : H b = some (.lst xs)) (e5 : 0 ≤ lap) (e6 : lap ≤ m) (e7 : 0 ≤ rest) :
    Rel c H0 ρ m σ (upd H b (.lst [.ref cl.1, .int lap, .int rest])) ∧ Ks c H (upd H b (.lst [.ref cl.1, .int lap, .int rest])) := by
  have kw : Kw c H (upd H b (.lst [.ref cl.1, .int lap, .int rest])) := kw_upd e3 (fun z => z)
  have ks : Ks c H (upd H b (.lst [.ref cl.1, .int lap, .int rest])) := fun a u ea s => by
    by_cases z : a = b
    · subst z
      rcases s with s | s
      · rw [e3] at ea; cases ea; exact s.elim
      · exact absurd hb (s cl)
    · rw [upd_ne z]; exact ea
  have bx : BoxAt c m (upd H b (.lst [.ref cl.1, .int lap, .int rest])) := fun b' cl' e => by
    rw [hb] at e
    cases e
    obtain ⟨_, _, _, f, _⟩ := R.box _ _ hb
    exact ⟨lap, rest, upd_same, f.kw kw, e5, e6, e7⟩
  exact ⟨R.step ks bx, ks⟩
theorem ds_box1 {e : Expr} {ma : ME} (i : Nat) (he : PE X e (tE ⟨X.K, S, some (b, (cl, cells))⟩ H0 ε ma)) (hN : X.N[i]? = some x := by rfl) (hv : Vis X.env.scope x := by first | exact Or.inl rfl | exact Or.inr (Or.inl rfl) | exact Or.inr (Or.inr rfl)) (hd : (x == ("__debug__" : Str)) = false := by decide) (hcd : (x == ("__classdict__" : Str)) = false := by decide)
    (hs : swapsWithSole [.Subscript (.Name x p) (.Constant (.int 1) j q) pos] e spos.line X.env = pure false := by rfl) (hw : swappedStores [.Subscript (.Name x p) (.Constant (.int 1) j q) pos] e X.env = pure none := by rfl)
    (h1 : (assignEach [.Subscript (.Name x p) (.Constant (.int 1) j q) pos] X.env).map (·.2) = [assign (.Subscript (.Name x p) (.Constant (.int 1) j q) pos) X.env] := by rfl)
    (ha : ∀ v, assign (.Subscript (.Name x p) (.Constant (.int 1) j q) pos) X.env v = (do
      let ov ← holding [v] (eval (.Name x p) X.env)
      let iv ← holding [v, ov] (eval (.Constant (.int 1) j q) X.env)
      standAt pos
      holding [v, ov, iv] (setItem ov iv v)
      release [v, ov, iv] []) := by intro _; rfl) :
    PS X (.Assign [.Subscript (.Name x p) (.Constant (.int 1) j q) pos] e spos) (tS ⟨X.K, S, some (b, (cl, cells))⟩ H0 ε (mPut1 i ma)) :=
  imp_ps (ps_asg he (pg_sub (pe_var hN hv hd hcd) pe_int set_list ha) hs hw h1) fun De σ H ⟨ρ, n, P, R, m, h1, _⟩ => ⟨ρ, n, _, R, m, fun d n1 v H1 m1 dv k1 b1 => by
    split at m1
    · have R1 := R.step k1 b1
      obtain ⟨b', cl', lap, rest, e1, e2, e3, e4, e5, e6, e7⟩ := box_slot R1 (by assumption)
      cases opd_int dv
      obtain ⟨hv, m2⟩ := m1
      obtain ⟨R2, ks⟩ := rel_put (m := n1 + 1) R1 e1 e3 hv.1 (by have := hv.2; omega) e7
      exact ⟨_, e2, b', _, 1, 1, rfl, rfl, e3, rfl, h1 _ _ _ _ m2 R2 (k1.trans ks).kw⟩
    · exact m1.elim⟩
theorem ds_box2 {e : Expr} {ma : ME} (i : Nat) (he : PE X e (tE ⟨X.K, S, some (b, (cl, cells))⟩ H0 ε ma)) (hN : X.N[i]? = some x := by rfl) (hv : Vis X.env.scope x := by first | exact Or.inl rfl | exact Or.inr (Or.inl rfl) | exact Or.inr (Or.inr rfl)) (hd : (x == ("__debug__" : Str)) = false := by decide) (hcd : (x == ("__classdict__" : Str)) = false := by decide)
    (hs : swapsWithSole [.Subscript (.Name x p) (.Constant (.int 2) j q) pos] e spos.line X.env = pure false := by rfl) (hw : swappedStores [.Subscript (.Name x p) (.Constant (.int 2) j q) pos] e X.env = pure none := by rfl)
    (h1 : (assignEach [.Subscript (.Name x p) (.Constant (.int 2) j q) pos] X.env).map (·.2) = [assign (.Subscript (.Name x p) (.Constant (.int 2) j q) pos) X.env] := by rfl)
    (ha : ∀ v, assign (.Subscript (.Name x p) (.Constant (.int 2) j q) pos) X.env v = (do
      let ov ← holding [v] (eval (.Name x p) X.env)
      let iv ← holding [v, ov] (eval (.Constant (.int 2) j q) X.env)
      standAt pos
      holding [v, ov, iv] (setItem ov iv v)
      release [v, ov, iv] []) := by intro _; rfl) :
    PS X (.Assign [.Subscript (.Name x p) (.Constant (.int 2) j q) pos] e spos) (tS ⟨X.K, S, some (b, (cl, cells))⟩ H0 ε (mPut2 i ma)) :=
  imp_ps (ps_asg he (pg_sub (pe_var hN hv hd hcd) pe_int set_list ha) hs hw h1) fun De σ H ⟨ρ, n, P, R, m, h1, _⟩ => ⟨ρ, n, _, R, m, fun d n1 v H1 m1 dv k1 b1 => by
    split at m1
    · have R1 := R.step k1 b1
      obtain ⟨b', cl', lap, rest, e1, e2, e3, e4, e5, e6, e7⟩ := box_slot R1 (by assumption)
      cases opd_int dv
      obtain ⟨hv, m2⟩ := m1
      obtain ⟨R2, ks⟩ := rel_put (m := n1) R1 e1 e3 e5 e6 hv
      exact ⟨_, e2, b', _, 2, 2, rfl, rfl, e3, rfl, h1 _ _ _ _ m2 R2 (k1.trans ks).kw⟩
    · exact m1.elim⟩
end
/-- the def that draws -/
theorem fng_draw {P : Program} {w : World} {K : PySem.W.Frag} {mg : Str → Option Value} {base : Heap} {k : Nat} {f : Addr} {S : Addr → Prop} {x qual : Str} {st : Stmt} {fd : FuncData} {N ps : List Str} {ms : List Int → MS} (F : Fun K x qual st f fd) (Sc : FnScope N ps (defScope st)) (hps : ps.length = 2)
    (hcon : ∀ cells ds n kk, conDraw noX ds n kk → conOf 2 N.length (ms cells) noX ds n kk)
    (hb : ∀ (cdv : Value) (A : Around) (out : List Env) (s : Shared) (H : Hp) (E : XK) (b cl : Addr) (cells : List Int), A.guards = some [] → Room k (A.deeper (envOfC qual (defScope st) s.heap.objs.size f cdv)) →
      PSs (cxOf CX0 P w K mg base N qual (defScope st) f cdv A out s H E).nox (defBody st) (tS ⟨K, S, some (b, (cl, cells))⟩ H noX (ms cells))) : FnG P w K mg base CX0 (k + 1) f fd ps (spD K S conDraw) := by
  refine fng_of F Sc (fun vs H Q E ⟨B, n, ds, kk, h1, _, h3, _⟩ => ?_) fun cdv A out s H vs Q E hg hr ⟨B, n, ds, kk, h1, h2, h3, h4⟩ => ?_
  · rw [h1.length, (hcon [] _ _ _ h3).1, hps]
  · have hB : ∃ b cl cells, B = some (b, (cl, cells)) := by
      unfold conDraw at h3
      split at h3
      · cases h1 with
        | cons a _ => cases a with | box hb => exact ⟨_, _, _, hb⟩
      · exact h3.elim
    obtain ⟨b, cl, cells, rfl⟩ := hB
    refine ⟨_, (hb cdv A out s H E b cl cells hg hr).nox, rho N.length ds, n, _, rel_start h1 h2, (hcon cells _ _ _ h3).2, fun ρ' n' σ' H' a1 a2 _ => ?_, fun d n' v H' a1 a2 a3 a4 => h4 _ _ _ _ a1 a2 a3 a4, fun _ _ _ _ z => z.elim, fun _ _ _ _ z => z.elim⟩
    exact h4 _ _ _ _ a1 .non a2.k0 a2.box
/-! the def that makes the box: return [[int(c) for c in script[:60]], 0, 0] -/
def spQuay (K : PySem.W.Frag) : Sp := fun vs H Q _ => ∃ (a : Addr) (ns : List Int), vs = [.ref a] ∧ FzL K H a (ns.map V.int) ∧ ∀ b cl (cells : List Int) H', H b = none → H' b = some (.lst [.ref cl, .int 0, .int 0]) → FzL K H' cl (cells.map V.int) → Same H H' → Q (.ref b) H'
theorem dvs_int_inv {c : Cc} {H : Hp} : ∀ {vs : List V} {ns : List Int}, DVs c H vs (ns.map D.int) → vs = ns.map V.int
  | _, [], h => by cases h; rfl
  | _, i :: r, h => by
    cases h with
    | cons a b => cases opd_int a; rw [dvs_int_inv b]; rfl
theorem dvs_of_ints {c : Cc} {H : Hp} (ns : List Int) : DVs c H (ns.map V.int) (ns.map D.int) := dvs_ints ns
theorem fng_quay {P : Program} {w : World} {K : PySem.W.Frag} {mg : Str → Option Value} {base : Heap} {k : Nat} {f : Addr} {x qual : Str} {st : Stmt} {fd : FuncData} {N : List Str} {xs : Str} {e : Expr} {pos lp p0 p1 : Pos} {j0 j1 : Nat} {me : ME} (F : Fun K x qual st f fd) (Sc : FnScope N [xs] (defScope st))
    (hbody : defBody st = [.Return (some (.List [e, .Constant (.int 0) j0 p0, .Constant (.int 0) j1 p1] lp)) pos])
    (hm : ∀ (ns : List Int) kk, (∀ cells : List Int, kk (.lst (cells.map D.int)) 0) → me noX (rho N.length [.lst (ns.map D.int)]) 0 kk)
    (hb : ∀ (cdv : Value) (A : Around) (out : List Env) (s : Shared) (H : Hp) (E : XK), A.guards = some [] → Room k (A.deeper (envOfC qual (defScope st) s.heap.objs.size f cdv)) →
      PE (cxOf CX0 P w K mg base N qual (defScope st) f cdv A out s H E).nox e (tE ⟨K, fun _ => False, none⟩ H noX me))
    (hst : ∀ env : Env, starEach [e, .Constant (.int 0) j0 p0, .Constant (.int 0) j1 p1] env = (false, eval e env) :: starEach [.Constant (.int 0) j0 p0, .Constant (.int 0) j1 p1] env := by intro _; rfl) :
    FnG P w K mg base CX0 (k + 1) f fd [xs] (spQuay K) := by
  refine fng_of F Sc (fun vs H Q E ⟨a, ns, h, _⟩ => by rw [h]; rfl) fun cdv A out s H vs Q E hg hr ⟨a, ns, h1, h2, h3⟩ => ?_
  subst h1
  have hE := hb cdv A out s H E hg hr
  have s0 := pss_one (ps_ret (pos := pos) (pe_lst (pos := lp) (pa_cons hE (pa_cons (pe_int (i := 0) (j := j0) (pos := p0)) (pa_cons (pe_int (i := 0) (j := j1) (pos := p1)) pa_nil)) (hst _))))
  rw [← hbody] at s0
  refine ⟨_, PSs.nox s0, ?_⟩
  · have R : Rel ⟨K, fun _ => False, none⟩ H (rho N.length [.lst (ns.map D.int)]) 0 (L2.start N [.ref a]) H := rel_start (.one (.lst h2 (dvs_ints ns))) (fun _ _ z => nomatch z)
    refine ⟨_, 0, _, R, hm ns (fun d n' => ∃ cells : List Int, d = .lst (cells.map D.int)) (fun cells => ⟨cells, rfl⟩), fun d n' v H' ⟨cells, e⟩ dv ks bx => ?_⟩
    subst e
    refine ⟨by show 3 ≤ sizeLine; decide, fun b hbn => ?_⟩
    obtain ⟨cl, ws, rfl, f, hs⟩ := opd_lst dv
    obtain rfl := dvs_int_inv hs
    have sm : Same H H' := fun p u ep => ks p u ep (.inr fun _ z => nomatch z)
    have sm2 : Same H' (upd H' b (.lst [.ref cl, .int 0, .int 0])) := same_new hbn
    have hb0 : H b = none := by
      cases z : H b with
      | none => rfl
      | some u => rw [sm b u z] at hbn; cases hbn
    exact h3 b cl cells _ hb0 upd_same (f.kw (c := ⟨K, fun _ => False, none⟩) (Same.ks sm2).kw) (fun p u ep => sm2 p u (sm p u ep))
/-! the law: box = quay(script), then the rest -/
def spLaw (K : PySem.W.Frag) : Sp := fun vs H Q _ => ∃ (a : Addr) (ns : List Int), vs = [.ref a] ∧ FzL K H a (ns.map V.int) ∧ ∀ H', Q (.bl true) H'
theorem fng_law {P : Program} {w : World} {K : PySem.W.Frag} {mg : Str → Option Value} {base : Heap} {k kq : Nat} {f fq : Addr} {S : Addr → Prop} {x qual y bx xs : Str} {st : Stmt} {fd fdq : FuncData} {N psq : List Str} {pb py ps pc spos : Pos} {rest : List Stmt} {i : Nat} {ms : MS}
    (F : Fun K x qual st f fd) (Sc : FnScope N [xs] (defScope st)) (FQ : FnG P w K mg base CX0 kq fq fdq psq (spQuay K)) (hkq : kq ≤ k) (hmq : mg y = some (.ref fq)) (hkeep : PySem.W.keepIn K (.ref fq) = true) (hbq : Binds K fdq psq [])
    (hbody : defBody st = .Assign [.Name bx pb] (.Call (.Name y py) [.Name xs ps] [] pc) spos :: rest) (h0 : N[0]? = some xs) (hi : N[i]? = some bx) (hN : 0 < N.length) (hi0 : i ≠ 0)
    (hvx : Vis (defScope st) xs) (hlb : Loc (defScope st) bx) (hgy : (defScope st).names.lookup y = some .globalImplicit)
    (hd1 : (xs == ("__debug__" : Str)) = false) (hd2 : (xs == ("__classdict__" : Str)) = false) (hd3 : (y == ("__debug__" : Str)) = false)
    (hsw : ∀ env : Env, swapsWith (.Call (.Name y py) [.Name xs ps] [] pc) (some (.Name bx pb)) spos.line env = pure false) (hst : ∀ env : Env, starEach [.Name xs ps] env = (false, eval (.Name xs ps) env) :: starEach [] env) (hst0 : ∀ env : Env, (backTo pc (starEach [] env)).any (·.1) = false)
    (hms : ms noX ((List.replicate N.length Sl.no).set i (.val .box)) 0 { nx := fun _ _ => False, rt := fun d _ => d = .bl true })
    (hb : ∀ (cdv : Value) (A : Around) (out : List Env) (s : Shared) (H H1 : Hp) (E : XK) (b cl : Addr) (cells : List Int), A.guards = some [] → Room k (A.deeper (envOfC qual (defScope st) s.heap.objs.size f cdv)) →
      PSs (cxOf CX0 P w K mg base N qual (defScope st) f cdv A out s H E).nox rest (tS ⟨K, S, some (b, (cl, cells))⟩ H1 noX ms)) : FnG P w K mg base CX0 (k + 1) f fd [xs] (spLaw K) := by
  refine fng_of F Sc (fun vs H Q E ⟨a, ns, h, _⟩ => by rw [h]; rfl) fun cdv A out s H vs Q E hg hr ⟨a, ns, h1, h2, h3⟩ => ?_
  subst h1
  let Y := (cxOf CX0 P w K mg base N qual (defScope st) f cdv A out s H E).nox
  have hrest : PSs Y rest (fun De σ H' => ∃ b cl cells, tS ⟨K, S, some (b, (cl, cells))⟩ H' noX ms De σ H') := ⟨fun pins s' σ H' De I ⟨b, cl, cells, w'⟩ => (hb cdv A out s H H' E b cl cells hg hr).run pins s' σ H' De I w'⟩
  have e1 : PE Y (.Call (.Name y py) [.Name xs ps] [] pc) (tCall (spQuay K) [] E0 (tCons (tVar 0) tNil)) :=
    pe_callG (X := Y) FQ hg (hr.mono hkq) hmq hkeep hbq .nil pass0 hgy (pa_cons (pe_var h0 hvx hd1 hd2) pa_nil (hst _)) hd3 (hst _) (hst0 _)
  have s1 : PS Y (.Assign [.Name bx pb] (.Call (.Name y py) [.Name xs ps] [] pc) spos) (tAsg (tCall (spQuay K) [] E0 (tCons (tVar 0) tNil)) (gName i)) := ps_set Sc.nd hi hlb e1 (hsw _) (.inl rfl)
  have s0 := pss_cons s1 hrest
  rw [← hbody] at s0
  refine ⟨_, PSs.nox (X := cxOf CX0 P w K mg base N qual (defScope st) f cdv A out s H E) s0, ?_⟩
  · have z0 : (L2.start N [V.ref a])[0]? = some (some (.ref a)) := rfl
    refine ⟨_, z0, a, ns, rfl, h2, fun b cl cells H' hbn hb1 hcl sm => ?_⟩
    refine ⟨b, cl, cells, _, 0, _, ?_, hms, fun _ _ _ _ z => z.elim, fun d n' v H2 e dv _ _ => ?_, fun _ _ _ _ z => z.elim, fun _ _ _ _ z => z.elim⟩
    · have hl : (L2.start N [V.ref a]).length = N.length := by
        unfold L2.start
        simp only [List.length_append, List.length_map, List.length_replicate, List.length_cons, List.length_nil]
        omega
      have lt : i < N.length := (List.getElem?_eq_some_iff.mp hi).1
      refine ⟨by simp [hl], fun j d e => ?_, fun j p xs e => ?_, fun j j' p xs ys e => ?_, fun b' cl' e => ?_, Ks.refl _ _⟩
      · by_cases z : i = j
        · subst z
          rw [List.getElem?_set_self (by simpa using lt)] at e
          cases e
          exact ⟨.ref b, List.getElem?_set_self (by rw [hl]; exact lt), .box rfl⟩
        · rw [List.getElem?_set_ne z, List.getElem?_replicate] at e
          split at e <;> cases e
      · by_cases z : i = j
        · subst z
          rw [List.getElem?_set_self (by simpa using lt)] at e
          cases e
        · rw [List.getElem?_set_ne z, List.getElem?_replicate] at e
          split at e <;> cases e
      · by_cases z : i = j
        · subst z
          rw [List.getElem?_set_self (by simpa using lt)] at e
          cases e
        · rw [List.getElem?_set_ne z, List.getElem?_replicate] at e
          split at e <;> cases e
      · cases e
        exact ⟨0, 0, hb1, hcl, Int.le_refl _, Int.le_refl _, Int.le_refl _⟩
    · subst e
      cases opd_bl dv
      exact h3 H2
end DS
namespace DS
open PySem PySem.Spec PyProof.Rows L2
/-! ### a def of the text with its promise; how it binds -/
structure Co (P : Program) (w : World) (K : PySem.W.Frag) (mg : Str → Option Value) (base : Heap) (S : Addr → Prop) (x : Str) (st : Stmt) (ps : List Str) (con : Con) (k : Nat) : Prop where
  ex : ∃ f fd, Fun K x x st f fd ∧ FnG P w K mg base CX0 k f fd ps (spD K S con) ∧ mg x = some (.ref f)
def BindA (x : Str) (st : Stmt) (ps : List Str) : Prop := ∀ (kV doc pm : Value) (an : Option Addr) (cdv ct : Value) (us : List Value), us.length = ps.length →
  bindArgs (PySem.W.fnOf x x (defArgs st) (defBody st) (defScope st) .none kV doc pm an cdv ct) ⟨us, []⟩ = pure (ps.zip us)
def BindK (x : Str) (st : Stmt) (ps : List Str) (n : Nat) (ks : List Str) (ix : List Nat) : Prop := ∀ (kV doc pm : Value) (an : Option Addr) (cdv ct : Value) (us ws : List Value), us.length = n → ws.length = ks.length →
  bindArgs (PySem.W.fnOf x x (defArgs st) (defBody st) (defScope st) .none kV doc pm an cdv ct) ⟨us, ks.zip ws⟩ = pure (ps.zip (pick ix (us ++ ws)))
theorem cal_of {X : Cx} {S : Addr → Prop} {x : Str} {st : Stmt} {ps : List Str} {con : Con} {k : Nat} (C : Co X.prog X.w X.K X.mg X.base S x st ps con k) (hr : Room k X.A) (hb : BindA x st ps) : Cal X S x con := by
  obtain ⟨f, fd, F, G, hm⟩ := C.ex
  exact ⟨k, f, fd, ps, G, hr, hm, F.kp, F.binds hb⟩
theorem calK_of {X : Cx} {S : Addr → Prop} {x : Str} {st : Stmt} {ps ks : List Str} {con : Con} {k n : Nat} {ix : List Nat} (C : Co X.prog X.w X.K X.mg X.base S x st ps con k) (hr : Room k X.A) (hb : BindK x st ps n ks ix) : CalK X S x con n ks ix := by
  obtain ⟨f, fd, F, G, hm⟩ := C.ex
  refine ⟨k, f, fd, ps, G, hr, hm, F.kp, ⟨fun s us ws _ h1 h2 => ?_⟩⟩
  obtain ⟨oc, od, kV, doc, pm, an, cdv, ct, osl, rfl, lk, hcd⟩ := F.ex
  exact .of_eq (hb kV doc pm an cdv ct us ws h1 h2)
theorem co_mk {P : Program} {w : World} {K : PySem.W.Frag} {mg : Str → Option Value} {base : Heap} {S : Addr → Prop} {x : Str} {st : Stmt} {ps N : List Str} {con : Con} {k : Nat} {f : Addr} {fd : FuncData} (F : Fun K x x st f fd) (hm : mg x = some (.ref f))
    (h : Fun K x x st f fd → FnG P w K mg base CX0 k f fd ps (spD K S con)) : Co P w K mg base S x st ps con k := ⟨f, fd, F, h F, hm⟩
/-! ### displays of dicts -/
section
variable {X : Cx} {c : Cc} {H0 : Hp} {ε : XD}
variable {a b e : Expr} {pos : Pos} {ma mb mc : ME}
inductive DVp (c : Cc) (H : Hp) : List (V × V) → List (D × D) → Prop
  | nil : DVp c H [] []
  | cons {v w : V} {vs : List (V × V)} {d f : D} {ds : List (D × D)} : DV c H v d → DV c H w f → DVp c H vs ds → DVp c H ((v, w) :: vs) ((d, f) :: ds)
abbrev MP := List (ME × ME)
def mPnil : MP := []
def mPcons (ma mb : ME) (mp : MP) : MP := (ma, mb) :: mp
def mPairs : MP → XD → Ev → Nat → (List (D × D) → Nat → Prop) → Prop
  | [], _, _, n, k => k [] n
  | (ma, mb) :: r, ε, ρ, n, k => ma ε ρ n fun d n1 => mb ε ρ n1 fun f n2 => mPairs r ε ρ n2 fun ds n3 => k ((d, f) :: ds) n3
def tPr (c : Cc) (H0 : Hp) (ε : XD) (mp : MP) : List (TE × TE) := mp.map fun p => (tE c H0 ε p.1, tE c H0 ε p.2)
theorem dp_nil : PPs X pos [] [] (tPr c H0 ε mPnil) := pps_nil
theorem dp_cons {ks : List (Option Expr)} {vs : List Expr} {mp : MP} (ha : PE X a (tE c H0 ε ma)) (hb : PE X b (tE c H0 ε mb)) (h : PPs X pos ks vs (tPr c H0 ε mp)) : PPs X pos (some a :: ks) (b :: vs) (tPr c H0 ε (mPcons ma mb mp)) := pps_cons ha hb h
theorem tpairs_of : ∀ (mp : MP) (σ : St) (H : Hp) (Q : List (V × V) → Hp → Prop) (ρ : Ev) (n : Nat) (k : List (D × D) → Nat → Prop), Rel c H0 ρ n σ H → mPairs mp ε ρ n k → (∀ ds n' vs H', k ds n' → DVp c H' vs ds → Ks c H H' → BoxAt c n' H' → Q vs H') → tPairs (tPr c H0 ε mp) σ H Q
  | [], σ, H, Q, ρ, n, k, R, m, q => q _ _ _ _ m .nil (Ks.refl _ _) R.box
  | (ma, mb) :: r, σ, H, Q, ρ, n, k, R, m, q => by
    refine ⟨ρ, n, _, R, m, fun d n1 v H1 m1 dv k1 b1 => ⟨ρ, n1, _, R.step k1 b1, m1, fun f n2 u H2 m2 du k2 b2 => ?_⟩⟩
    refine tpairs_of r σ H2 _ ρ n2 _ (R.step (k1.trans k2) b2) m2 fun ds n3 vs H3 m3 dvs k3 b3 => ?_
    exact q _ _ _ _ m3 (.cons (dv.kw (k2.trans k3).kw) (du.kw k3.kw) dvs) ((k1.trans k2).trans k3) b3
def keyD : D → Option Key
  | .int i => some (.inl i)
  | .str x => some (.inr x)
  | _ => none
def keysD : List (D × D) → Option (List (Key × D))
  | [] => some []
  | (a, b) :: r => match keyD a, keysD r with
    | some k, some l => some ((k, b) :: l)
    | _, _ => none
theorem keys_of {H : Hp} : ∀ {ps : List (V × V)} {ds : List (D × D)} {l : List (Key × D)}, DVp c H ps ds → keysD ds = some l → ∃ kvs : List (Key × V), ps = kvs.map (fun kv => (kV kv.1, kv.2)) ∧ DVk c H kvs l ∧ kvs.map (·.1) = l.map (·.1)
  | _, _, _, .nil, e => by cases e; exact ⟨[], rfl, .nil, rfl⟩
  | _, _, _, .cons (v := v) (w := w) (d := d) (f := f) h1 h2 t, e => by
    rw [keysD] at e
    split at e
    · rename_i k l e1 e2
      cases e
      obtain ⟨kvs, q1, q2, q3⟩ := keys_of t e2
      refine ⟨(k, w) :: kvs, ?_, .cons h2 q2, by simp [q3]⟩
      rw [q1, List.map_cons]
      congr 2
      cases d <;> first | (cases e1; first | (cases opd_int h1; rfl) | (cases opd_str h1; rfl)) | cases e1
    · cases e
theorem merge_nd : ∀ (kvs acc : List (Key × V)), ((acc ++ kvs).map (·.1)).Nodup → mergeK acc kvs = acc ++ kvs
  | [], acc, _ => by simp [mergeK]
  | p :: r, acc, h => by
    have e : (acc.any fun kv => decide (kv.1 = p.1)) = false := by
      rw [List.any_eq_false]
      intro kv hk
      simp only [decide_eq_true_eq]
      intro z
      rw [List.map_append, List.nodup_append] at h
      exact h.2.2 _ (List.mem_map_of_mem hk) _ (List.mem_map_of_mem (List.mem_cons_self)) z
    have e2 : putK acc p.1 p.2 = acc ++ [p] := by
      unfold putK
      rw [e]
      rfl
    show mergeK (putK acc p.1 p.2) r = _
    rw [e2, merge_nd r (acc ++ [p]) (by simpa using h)]
    simp
def dctD (ds : List (D × D)) : Option D := match keysD ds with
  | some l => if (l.map (·.1)).Nodup ∧ l.length ≤ 15 then some (.dct l) else none
  | none => none
def mDict (mp : MP) : ME := fun ε ρ n k => mPairs mp ε ρ n fun ds n1 => optK (dctD ds) fun d => k d n1
def mDict0 : ME := mC (.dct [])
theorem DVk.length {H : Hp} : ∀ {vs : List (Key × V)} {ds : List (Key × D)}, DVk c H vs ds → vs.length = ds.length
  | _, _, .nil => rfl
  | _, _, .cons _ t => by simp [DVk.length t]
theorem de_dict {keys : List (Option Expr)} {values : List Expr} {mp : MP} (h : PPs X pos keys values (tPr c H0 ε mp)) (hall : keys.all (·.isSome) = true := by rfl) (hl : keys.length = values.length := by rfl) (h0 : keys ≠ [] := by simp) (h15 : keys.length ≤ 15 := by decide) : PE X (.Dict keys values pos) (tE c H0 ε (mDict mp)) := by
  refine imp_pe (pe_fz (pe_disp h hall hl h0 h15)) fun σ H Q ⟨ρ, n, k, R, m, q⟩ => fun p hp => ?_
  have sm := same_new (o := .dK []) hp
  have hb : ∀ cl, c.B ≠ some (p, cl) := (R.apart hp).2.1
  refine tpairs_of mp σ _ _ ρ n _ (R.step (Same.ks sm) (R.box.same sm)) m fun ds n1 vs H1 m1 dvs k1 b1 => ?_
  obtain ⟨d, e1, m2⟩ := optK_some m1
  unfold dctD at e1
  split at e1
  · rename_i l el
    split at e1
    · rename_i hnd
      cases e1
      obtain ⟨kvs, q1, q2, q3⟩ := keys_of dvs el
      have hp1 : H1 p = some (.dK []) := k1 _ _ upd_same (.inr hb)
      refine ⟨hp1, kvs, q1, by rw [q2.length]; exact hnd.2, .inr ⟨p, _, rfl, upd_same, True.intro, fun o => ?_⟩⟩
      have em : mergeK [] kvs = kvs := merge_nd kvs [] (by rw [List.nil_append, q3]; exact hnd.1)
      rw [em]
      have kw1 : Kw c H1 (L2.upd H1 p (.dK kvs)) := kw_upd hp1 (fun z => z)
      have kw2 : Kw c (L2.upd H1 p (.dK kvs)) (L2.upd (L2.upd H1 p (.dK kvs)) p (.frz o (.dK kvs))) := kw_upd upd_same (fun z => z)
      refine q _ _ _ _ m2 (.dct upd_same (DVk.kw (kw1.trans kw2) q2)) (fun a w ea s => ?_) ((b1.upd kw1 hb).upd kw2 hb)
      have ne := ne_of_none ea hp
      rw [upd_ne ne, upd_ne ne]
      exact k1 a w (by rw [upd_ne ne]; exact ea) s
    · cases e1
  · cases e1
theorem de_dict0 : PE X (.Dict [] [] pos) (tE c H0 ε mDict0) :=
  imp_pe (pe_fz pe_dnewK) fun σ H Q ⟨ρ, n, k, R, m, q⟩ => fun p hp => .inr ⟨p, _, rfl, upd_same, True.intro, fun o => by
    have hb : ∀ cl, c.B ≠ some (p, cl) := (R.apart hp).2.1
    have sm := same_new (o := .dK []) hp
    have kw2 : Kw c (L2.upd H p (.dK [])) (L2.upd (L2.upd H p (.dK [])) p (.frz o (.dK []))) := kw_upd upd_same (fun z => z)
    refine q _ _ _ _ m (.dct upd_same .nil) (fun a w ea s => ?_) ((R.box.same sm).upd kw2 hb)
    have ne := ne_of_none ea hp
    rw [upd_ne ne, upd_ne ne]; exact ea⟩
end
theorem bb_len : bootBuiltins "len" = some (.builtin "len") := by decide +kernel
theorem bb_abs : bootBuiltins "abs" = some (.builtin "abs") := by decide +kernel
theorem bb_isinstance : bootBuiltins "isinstance" = some (.builtin "isinstance") := by decide +kernel
theorem bb_sum : bootBuiltins "sum" = some (.builtin "sum") := by decide +kernel
theorem bb_all : bootBuiltins "all" = some (.builtin "all") := by decide +kernel
theorem bb_any : bootBuiltins "any" = some (.builtin "any") := by decide +kernel
theorem bb_repr : bootBuiltins "repr" = some (.builtin "repr") := by decide +kernel
theorem bb_int : bootBuiltins "int" = some (.type "int") := by decide +kernel
theorem bb_bool : bootBuiltins "bool" = some (.type "bool") := by decide +kernel
theorem bb_str : bootBuiltins "str" = some (.type "str") := by decide +kernel
theorem bb_list : bootBuiltins "list" = some (.type "list") := by decide +kernel
theorem bb_tuple : bootBuiltins "tuple" = some (.type "tuple") := by decide +kernel
theorem bb_dict : bootBuiltins "dict" = some (.type "dict") := by decide +kernel
end DS
namespace DS
open PySem PySem.Spec PyProof.Rows L2
/-! ### repr of lists and tuples of data without dicts -/
section
variable {X : Cx} {S : Addr → Prop} {B : Option (Addr × (Addr × List Int))} {pins : List (Addr × Obj)} {σ : L2.St} {H : Hp} {s : Shared}
mutual
theorem rd_of (I : Inv X pins σ H s) : ∀ (d : D) (v : V) (u : Value) (e : PyData), DV ⟨X.K, S, B⟩ H v d → RelV v u → pyD d = some e → e.hasDict = false → ∃ as, Reads s.heap u e as
  | .non, _, _, _, h, r, e, _ => by cases h; cases e; cases (show _ = Value.none from r); exact ⟨_, .none⟩
  | .bl b, _, _, _, h, r, e, _ => by cases h; cases e; cases (show _ = Value.bool b from r); exact ⟨_, .bool b⟩
  | .int i, _, _, _, h, r, e, _ => by cases h; cases e; obtain ⟨t, rfl⟩ := r; exact ⟨_, .int i t⟩
  | .str x, _, _, _, h, r, e, _ => by cases h; cases e; obtain ⟨t, rfl⟩ := r; exact ⟨_, .str x t⟩
  | .lst xs, _, _, _, h, r, e, l => by
    cases h with
    | lst f hs =>
      cases r
      rw [pyD] at e
      obtain ⟨es, z, rfl⟩ := Option.map_eq_some_iff.mp e
      obtain ⟨its, n, rv, g, _⟩ := f.at I
      obtain ⟨as, ra⟩ := rds_of I xs _ its es hs rv z (by simpa [PyData.hasDict] using l)
      exact ⟨_, .list g rfl rfl (by simpa using ra)⟩
  | .tup xs, _, _, _, h, r, e, l => by
    cases h with
    | tup f hs =>
      cases r
      rw [pyD] at e
      obtain ⟨es, z, rfl⟩ := Option.map_eq_some_iff.mp e
      obtain ⟨its, rv, ⟨o, g, hc, n, hd⟩, _⟩ := I.tuple f
      obtain ⟨as, ra⟩ := rds_of I xs _ its es hs rv z (by simpa [PyData.hasDict] using l)
      exact ⟨_, .tuple g hc hd (by simpa using ra)⟩
  | .dct kvs, _, _, _, h, r, e, l => by
    rw [pyD] at e
    obtain ⟨es, z, rfl⟩ := Option.map_eq_some_iff.mp e
    simp [PyData.hasDict] at l
  | .ins _ _, _, _, _, _, _, e, _ => by rw [pyD] at e <;> first | cases e | (intros; contradiction)
  | .box, _, _, _, _, _, e, _ => by rw [pyD] at e <;> first | cases e | (intros; contradiction)
  | .raw _, _, _, _, _, _, e, _ => by rw [pyD] at e <;> first | cases e | (intros; contradiction)
theorem rds_of (I : Inv X pins σ H s) : ∀ (ds : List D) (vs : List V) (us : List Value) (es : List PyData), DVs ⟨X.K, S, B⟩ H vs ds → Vals vs us → pyDs ds = some es → PyData.hasDictAll es = false → ∃ as, ReadsAll s.heap us es as
  | [], _, _, _, h, r, e, _ => by cases h; cases r; rw [pyDs] at e; cases e; exact ⟨_, .nil⟩
  | d :: ds, _, _, _, h, r, e, l => by
    cases h with
    | cons a b =>
      cases r with
      | cons r1 r2 =>
        rw [pyDs] at e
        split at e
        · rename_i e1 e2 h1 h2
          cases e
          have l' : e1.hasDict = false ∧ PyData.hasDictAll e2 = false := by simpa [PyData.hasDictAll] using l
          obtain ⟨as, q1⟩ := rd_of I d _ _ e1 a r1 h1 l'.1
          obtain ⟨bs, q2⟩ := rds_of I ds _ _ e2 b r2 h2 l'.2
          exact ⟨_, .cons q1 q2⟩
        · cases e
end
end
section
variable {X : Cx} {c : Cc}
def reprE (e : PyData) : Option D := if e.hasDict = false ∧ e.showable = true ∧ e.depth ≤ 60 ∧ e.shown.length ≤ sizeLine then some (.str e.shown) else none
def reprD : List D → Option D
  | [.lst xs] => (pyD (.lst xs)).bind reprE
  | [.tup xs] => (pyD (.tup xs)).bind reprE
  | _ => none
abbrev rRepr (K : PySem.W.Frag) : List V → Hp → VK → Prop := fun xs H Q => ∃ (S : Addr → Prop) (B : Option (Addr × (Addr × List Int))) (a : Addr) (d : D) (e : PyData), xs = [.ref a] ∧ DV ⟨K, S, B⟩ H (.ref a) d ∧ pyD d = some e ∧
  e.hasDict = false ∧ e.showable = true ∧ e.depth ≤ 60 ∧ e.shown.length ≤ sizeLine ∧ Q (.str e.shown) H
theorem call_reprD {k : Nat} (hg : X.A.guards = some []) (hr : Room k X.A) : CallR X (.builtin "repr") (rRepr X.K) := by
  intro pins s σ H xs us Q I r ⟨S, B, a, d, e, ex, dv, pe, h1, h2, h3, h4, q⟩
  subst ex
  obtain ⟨u, rfl, ru⟩ := vals1 r
  cases (show u = Value.ref a from ru)
  obtain ⟨as, rd⟩ := rd_of I d _ _ e dv rfl pe h1
  have hu := hr.un
  exact repr_of_reads' rd h2 (fun z => by rw [h1] at z; cases z) hg (by omega) (fun _ _ z => z) (fun h' u tk hk => ⟨.str _, H, I.kept (t' := tk) hk, ⟨_, rfl⟩, q⟩) h4
theorem cd_repr : CallD c (rRepr c.K) reprD := by
  intro xs ds d H Q hs e k
  have go : ∀ {x : D} {d : D} {v : V}, DV c H v x → (∃ a, v = .ref a) → (pyD x).bind reprE = some d → (∀ v H', DVn c H H' v d → Same H H' → Q v H') → rRepr c.K [v] H Q := by
    rintro x d v hv ⟨a, rfl⟩ e k
    obtain ⟨e', h1, h2⟩ := Option.bind_eq_some_iff.mp e
    unfold reprE at h2
    split at h2
    · rename_i hc
      cases h2
      exact ⟨c.S, c.B, a, x, e', rfl, hv, h1, hc.1, hc.2.1, hc.2.2.1, hc.2.2.2, k _ _ (.of (.str _)) (same_refl H)⟩
    · cases h2
  unfold reprD at e
  split at e
  · obtain ⟨v, rfl, h⟩ := dvs1 hs
    obtain ⟨a, ys, rfl, _⟩ := opd_lst h
    exact go h ⟨a, rfl⟩ e k
  · obtain ⟨v, rfl, h⟩ := dvs1 hs
    obtain ⟨a, ys, rfl, _⟩ := opd_tup h
    exact go h ⟨a, rfl⟩ e k
  · cases e
end
end DS
namespace DS
open PySem PySem.Spec PyProof.Rows L2
/-! ### repr of all data, dicts too -/
section
variable {X : Cx} {S : Addr → Prop} {B : Option (Addr × (Addr × List Int))} {pins : List (Addr × Obj)} {σ : L2.St} {H : Hp} {s : Shared}
def keyP : Key → PyData
  | .inl i => .int i
  | .inr z => .str z
theorem keys_read {h : Heap} {P : Program} {w : World} : ∀ {es : List DictEntry} {kvs : List (Key × V)} {vs : List (Key × Value)}, Pairs (mixKind P w) es vs → KV kvs vs → ReadsAll h (es.map (·.key)) (kvs.map fun kv => keyP kv.1) []
  | [], _, _, .nil, r => by unfold KV at r; cases r; exact .nil
  | e :: es, _, _, .cons (kv := q) hk hv t, r => by
    unfold KV at r
    cases r with
    | @cons p _ ps _ h1 h2 =>
      refine .cons (as := []) (bs := []) ?_ (keys_read t h2)
      obtain ⟨k, v⟩ := p
      obtain ⟨k2, v2⟩ := q
      obtain ⟨rfl, _⟩ := h1
      rcases keyIs_shape hk with ⟨i, u, rfl, e1⟩ | ⟨x, u, rfl, e1⟩
      · show Reads h e.key (.int i) []
        rw [e1]; exact .int i u
      · show Reads h e.key (.str x) []
        rw [e1]; exact .str x u
theorem vals_entries {P : Program} {w : World} : ∀ {es : List DictEntry} {kvs : List (Key × V)} {vs : List (Key × Value)}, Pairs (mixKind P w) es vs → KV kvs vs → Vals (kvs.map (·.2)) (es.map (·.val))
  | [], _, _, .nil, r => by unfold KV at r; cases r; exact .nil
  | e :: es, _, _, .cons hk hv t, r => by
    unfold KV at r
    cases r with
    | cons h1 h2 => exact .cons (by show L2.RelV _ e.val; rw [hv]; exact h1.2) (vals_entries t h2)
mutual
theorem rdS_of (I : Inv X pins σ H s) : ∀ (d : D) (v : V) (u : Value) (e : PyData), DV ⟨X.K, S, B⟩ H v d → RelV v u → pyD d = some e → ∃ as, Reads s.heap u e as
  | .non, _, _, _, h, r, e => by cases h; cases e; cases (show _ = Value.none from r); exact ⟨_, .none⟩
  | .bl b, _, _, _, h, r, e => by cases h; cases e; cases (show _ = Value.bool b from r); exact ⟨_, .bool b⟩
  | .int i, _, _, _, h, r, e => by cases h; cases e; obtain ⟨t, rfl⟩ := r; exact ⟨_, .int i t⟩
  | .str x, _, _, _, h, r, e => by cases h; cases e; obtain ⟨t, rfl⟩ := r; exact ⟨_, .str x t⟩
  | .lst xs, _, _, _, h, r, e => by
    cases h with
    | lst f hs =>
      cases r
      rw [pyD] at e
      obtain ⟨es, z, rfl⟩ := Option.map_eq_some_iff.mp e
      obtain ⟨its, n, rv, g, _⟩ := f.at I
      obtain ⟨as, ra⟩ := rdsS_of I xs _ its es hs rv z
      exact ⟨_, .list g rfl rfl (by simpa using ra)⟩
  | .tup xs, _, _, _, h, r, e => by
    cases h with
    | tup f hs =>
      cases r
      rw [pyD] at e
      obtain ⟨es, z, rfl⟩ := Option.map_eq_some_iff.mp e
      obtain ⟨its, rv, ⟨o, g, hc, n, hd⟩, _⟩ := I.tuple f
      obtain ⟨as, ra⟩ := rdsS_of I xs _ its es hs rv z
      exact ⟨_, .tuple g hc hd (by simpa using ra)⟩
  | .dct kvs, _, _, _, h, r, e => by
    cases h with
    | dct f hs =>
      cases r
      rw [pyD] at e
      obtain ⟨es, z, rfl⟩ := Option.map_eq_some_iff.mp e
      obtain ⟨_, _, hsys, vs, rkv, ob, ents, ep, eg, exd, ed, ko, prs, nd⟩ := I.hok _ _ f
      have rv := vals_entries prs rkv
      have rk := keys_read (h := s.heap) prs rkv
      obtain ⟨as, ra, hk⟩ := rdkS_of I kvs _ _ es hs rv z
      exact ⟨_, .dict (as := []) (bs := as) eg exd.1 ed (by rw [← hk]; simpa using rk) (by simpa using ra)⟩
  | .ins _ _, _, _, _, _, _, e => by rw [pyD] at e <;> first | cases e | (intros; contradiction)
  | .box, _, _, _, _, _, e => by rw [pyD] at e <;> first | cases e | (intros; contradiction)
  | .raw _, _, _, _, _, _, e => by rw [pyD] at e <;> first | cases e | (intros; contradiction)
theorem rdsS_of (I : Inv X pins σ H s) : ∀ (ds : List D) (vs : List V) (us : List Value) (es : List PyData), DVs ⟨X.K, S, B⟩ H vs ds → Vals vs us → pyDs ds = some es → ∃ as, ReadsAll s.heap us es as
  | [], _, _, _, h, r, e => by cases h; cases r; rw [pyDs] at e; cases e; exact ⟨_, .nil⟩
  | d :: ds, _, _, _, h, r, e => by
    cases h with
    | cons a b =>
      cases r with
      | cons r1 r2 =>
        rw [pyDs] at e
        split at e
        · rename_i e1 e2 h1 h2
          cases e
          obtain ⟨as, q1⟩ := rdS_of I d _ _ e1 a r1 h1
          obtain ⟨bs, q2⟩ := rdsS_of I ds _ _ e2 b r2 h2
          exact ⟨_, .cons q1 q2⟩
        · cases e
theorem rdkS_of (I : Inv X pins σ H s) : ∀ (ds : List (Key × D)) (vs : List (Key × V)) (us : List Value) (es : List (PyData × PyData)), DVk ⟨X.K, S, B⟩ H vs ds → Vals (vs.map (·.2)) us → pyDk ds = some es →
    ∃ as, ReadsAll s.heap us (es.map (·.2)) as ∧ (vs.map fun kv => keyP kv.1) = es.map (·.1)
  | [], _, _, _, h, r, e => by cases h; cases r; rw [pyDk] at e; cases e; exact ⟨_, .nil, rfl⟩
  | (k, d) :: ds, _, _, _, h, r, e => by
    cases h with
    | cons a b =>
      rw [List.map_cons] at r
      cases r with
      | cons r1 r2 =>
        unfold pyDk at e
        split at e
        · rename_i e1 e2 h1 h2
          cases e
          obtain ⟨as, q1⟩ := rdS_of I d _ _ e1 a r1 h1
          obtain ⟨bs, q2, hk⟩ := rdkS_of I ds _ _ e2 b r2 h2
          refine ⟨_, .cons q1 q2, ?_⟩
          rw [List.map_cons, List.map_cons, hk]
          cases k <;> rfl
        · cases e
end
end
/-! what repr says of each part -/
section
variable {X : Cx} {S : Addr → Prop} {B : Option (Addr × (Addr × List Int))} {pins : List (Addr × Obj)} {σ : L2.St} {H : Hp} {s : Shared}
abbrev Sho (X : Cx) (s : Shared) (u : Value) (e : PyData) : Prop := ∃ bs, ReadAtMost s.heap e.depth bs ∧ ReprK X.prog X.w bs s.heap e.depth u e.shown
abbrev ShoA (X : Cx) (s : Shared) (us : List Value) (es : List PyData) : Prop := ∃ bs, ReadAtMost s.heap (PyData.depthAll es) bs ∧ ReprAllK X.prog X.w bs s.heap (PyData.depthAll es) us (PyData.shownAll es)
theorem sho_cons {u : Value} {us : List Value} {e : PyData} {es : List PyData} (h : Sho X s u e) (g : ShoA X s us es) : ShoA X s (u :: us) (e :: es) := by
  obtain ⟨b1, p1, q1⟩ := h
  obtain ⟨b2, p2, q2⟩ := g
  refine ⟨b1 ++ b2, ?_, ?_⟩
  · rw [PyData.depthAll]
    exact (p1.mono (Nat.le_max_left _ _)).append (p2.mono (Nat.le_max_right _ _))
  · rw [PyData.depthAll, PyData.shownAll]
    exact .cons ((q1.more fun _ z => List.mem_append_left b2 z).level_le (Nat.le_max_left _ _)) (q2.more_le (fun _ z => List.mem_append_right b1 z) (Nat.le_max_right _ _))
theorem sho_lst {a : Addr} {its : List Value} {n : Nat} {es : List PyData} {as : List Addr} (g : s.heap.get? a = some { cls := .type "list", data := .seq its.toArray n }) (r : Reads s.heap (.ref a) (.list es) as) (h : ShoA X s its es) : Sho X s (.ref a) (.list es) := by
  obtain ⟨bs, p, q⟩ := h
  have out : a ∉ bs := not_mem_of_deeper r (Nat.lt_succ_self _) p
  refine ⟨a :: bs, ReadAtMost.cons r (Nat.le_succ _) p, ?_⟩
  cases its with
  | nil =>
    cases es with
    | nil =>
      show ReprK _ _ _ _ _ _ (listText [])
      rw [listText_nil]
      exact ReprK.listEmpty g rfl rfl
    | cons e es => rw [PyData.shownAll] at q; cases q
  | cons x l => exact ReprK.list g rfl rfl out (by simpa using q.length_eq) fun i y z => q.item i y (by simpa using z)
theorem sho_tup {a : Addr} {o : Obj} {its : List Value} {n : Nat} {es : List PyData} {as : List Addr} (g : s.heap.get? a = some o) (hc : o.cls = .type "tuple") (hd : o.data = .seq its.toArray n) (r : Reads s.heap (.ref a) (.tuple es) as) (h : ShoA X s its es) : Sho X s (.ref a) (.tuple es) := by
  obtain ⟨bs, p, q⟩ := h
  exact ⟨a :: bs, ReadAtMost.cons r (Nat.le_succ _) p, ReprK.tuple g hc hd (not_mem_of_deeper r (Nat.lt_succ_self _) p) (by simpa using q)⟩
/-- the parts of a dict -/
theorem sho_dct {a : Addr} {ents : Array DictEntry} {kvs : List (PyData × PyData)} {as : List Addr} (r : Reads s.heap (.ref a) (.dict kvs) as) (hk : ReadsAll s.heap (ents.toList.map (·.key)) (kvs.map (·.1)) []) (hs : PyData.showableAll (kvs.map (·.1)) = true)
    (hz : ∀ t ∈ PyData.shownAll (kvs.map (·.1)), t.length ≤ sizeLine) (h : ShoA X s (ents.toList.map (·.val)) (kvs.map (·.2))) : ∃ bs, ReadAtMost s.heap (PyData.depthKv kvs) bs ∧ a ∉ bs ∧
      ReprEntriesK X.prog X.w bs s.heap (PyData.depthKv kvs) ents.toList (List.zipWith (fun k v : Str => k ++ ": " ++ v) (PyData.shownAll (kvs.map (·.1))) (PyData.shownAll (kvs.map (·.2)))) := by
  obtain ⟨b2, p2, q2⟩ := h
  obtain ⟨b1, p1, q1⟩ := ReprAllK.of_readsAll (prog := X.prog) (w := X.w) hk hs (fun _ z => nomatch z) hz
  have pp := (p1.mono (PyData.depthAll_keys_le kvs)).append (p2.mono (PyData.depthAll_vals_le kvs))
  exact ⟨b1 ++ b2, pp, not_mem_of_deeper r (Nat.lt_succ_self _) pp, ReprEntriesK.of_two _ _ _ (q1.more_le (fun _ z => List.mem_append_left b2 z) (PyData.depthAll_keys_le kvs)) (q2.more_le (fun _ z => List.mem_append_right b1 z) (PyData.depthAll_vals_le kvs))⟩
mutual
theorem sho_of (I : Inv X pins σ H s) : ∀ (d : D) (v : V) (u : Value) (e : PyData), DV ⟨X.K, S, B⟩ H v d → RelV v u → pyD d = some e → e.showable = true → e.shown.length ≤ sizeLine → Sho X s u e
  | .non, _, _, _, h, r, e, _, _ => by cases h; cases e; cases (show _ = Value.none from r); exact ⟨[], fun _ z => (nomatch z), .of_is ReprIs.none _ _ _⟩
  | .bl b, _, _, _, h, r, e, _, _ => by cases h; cases e; cases (show _ = Value.bool b from r); exact ⟨[], fun _ z => (nomatch z), .of_is (ReprIs.bool b) _ _ _⟩
  | .int i, _, _, _, h, r, e, q, _ => by cases h; cases e; obtain ⟨t, rfl⟩ := r; exact ⟨[], fun _ z => (nomatch z), .of_is (ReprIs.int t (by simpa [PyData.showable] using q)) _ _ _⟩
  | .str x, _, _, _, h, r, e, _, q => by cases h; cases e; obtain ⟨t, rfl⟩ := r; exact ⟨[], fun _ z => (nomatch z), .of_is (ReprIs.str x t q) _ _ _⟩
  | .lst xs, v, u, _, h, r, e, q, z => by
    obtain ⟨as, rd⟩ := rdS_of I _ _ _ _ h r e
    cases h with
    | lst f hs =>
      cases r
      rw [pyD] at e
      obtain ⟨es, w, rfl⟩ := Option.map_eq_some_iff.mp e
      obtain ⟨its, n, rv, g, _⟩ := f.at I
      exact sho_lst g rd (shos_of I xs _ its es hs rv w (by simpa [PyData.showable] using q) fun t ht => Nat.le_trans (listText_mem_le ht) z)
  | .tup xs, v, u, _, h, r, e, q, z => by
    obtain ⟨as, rd⟩ := rdS_of I _ _ _ _ h r e
    cases h with
    | tup f hs =>
      cases r
      rw [pyD] at e
      obtain ⟨es, w, rfl⟩ := Option.map_eq_some_iff.mp e
      obtain ⟨its, rv, ⟨o, g, hc, n, hd⟩, _⟩ := I.tuple f
      exact sho_tup g hc hd rd (shos_of I xs _ its es hs rv w (by simpa [PyData.showable] using q) fun t ht => Nat.le_trans (tupleText_mem_le ht) z)
  | .dct kvs, v, u, _, h, r, e, q, z => by
    obtain ⟨as, rd⟩ := rdS_of I _ _ _ _ h r e
    cases h with
    | dct f hs =>
      cases r
      rw [pyD] at e
      obtain ⟨es, w, rfl⟩ := Option.map_eq_some_iff.mp e
      obtain ⟨_, _, hsys, vs, rkv, ob, ents, ep, eg, exd, ed, ko, prs, nd⟩ := I.hok _ _ f
      have rv := vals_entries prs rkv
      have rk := keys_read (h := s.heap) prs rkv
      obtain ⟨_, _, hk⟩ := rdkS_of I kvs _ _ es hs rv w
      obtain ⟨s1, s2⟩ := PyData.showableKv_split es (by simpa [PyData.showable] using q)
      have z' : (dictText (PyData.shownKv es)).length ≤ sizeLine := z
      obtain ⟨bs, p, out, re⟩ := sho_dct (X := X) rd (by rw [← hk]; simpa using rk) s1 (fun t ht => let ⟨y, hy, hl⟩ := PyData.shownKv_key_le es t ht; Nat.le_trans hl (Nat.le_trans (dictText_mem_le hy) z'))
        (shok_of I kvs _ _ es hs rv w s2 fun t ht => let ⟨y, hy, hl⟩ := PyData.shownKv_val_le es t ht; Nat.le_trans hl (Nat.le_trans (dictText_mem_le hy) z'))
      refine ⟨_ :: bs, ReadAtMost.cons rd (Nat.le_succ _) p, ?_⟩
      show ReprK _ _ _ _ _ _ (dictText (PyData.shownKv es))
      rw [PyData.shownKv_eq]
      exact ReprK.dict eg exd.1 ed hsys out re
  | .ins _ _, _, _, _, _, _, e, _, _ => by rw [pyD] at e <;> first | cases e | (intros; contradiction)
  | .box, _, _, _, _, _, e, _, _ => by rw [pyD] at e <;> first | cases e | (intros; contradiction)
  | .raw _, _, _, _, _, _, e, _, _ => by rw [pyD] at e <;> first | cases e | (intros; contradiction)
theorem shos_of (I : Inv X pins σ H s) : ∀ (ds : List D) (vs : List V) (us : List Value) (es : List PyData), DVs ⟨X.K, S, B⟩ H vs ds → Vals vs us → pyDs ds = some es → PyData.showableAll es = true → (∀ t ∈ PyData.shownAll es, t.length ≤ sizeLine) → ShoA X s us es
  | [], _, _, _, h, r, e, _, _ => by cases h; cases r; rw [pyDs] at e; cases e; exact ⟨[], fun _ z => (nomatch z), .nil⟩
  | d :: ds, _, _, _, h, r, e, q, z => by
    cases h with
    | cons a b =>
      cases r with
      | cons r1 r2 =>
        rw [pyDs] at e
        split at e
        · rename_i e1 e2 h1 h2
          cases e
          have q' : e1.showable = true ∧ PyData.showableAll e2 = true := by simpa [PyData.showableAll] using q
          exact sho_cons (sho_of I d _ _ e1 a r1 h1 q'.1 (z _ List.mem_cons_self)) (shos_of I ds _ _ e2 b r2 h2 q'.2 fun t ht => z t (List.mem_cons_of_mem _ ht))
        · cases e
theorem shok_of (I : Inv X pins σ H s) : ∀ (ds : List (Key × D)) (vs : List (Key × V)) (us : List Value) (es : List (PyData × PyData)), DVk ⟨X.K, S, B⟩ H vs ds → Vals (vs.map (·.2)) us → pyDk ds = some es → PyData.showableAll (es.map (·.2)) = true →
    (∀ t ∈ PyData.shownAll (es.map (·.2)), t.length ≤ sizeLine) → ShoA X s us (es.map (·.2))
  | [], _, _, _, h, r, e, _, _ => by cases h; cases r; rw [pyDk] at e; cases e; exact ⟨[], fun _ z => (nomatch z), .nil⟩
  | (k, d) :: ds, _, _, _, h, r, e, q, z => by
    cases h with
    | cons a b =>
      rw [List.map_cons] at r
      cases r with
      | cons r1 r2 =>
        unfold pyDk at e
        split at e
        · rename_i e1 e2 h1 h2
          cases e
          have q' : e1.showable = true ∧ PyData.showableAll (e2.map (·.2)) = true := by simpa [PyData.showableAll] using q
          exact sho_cons (sho_of I d _ _ e1 a r1 h1 q'.1 (z _ List.mem_cons_self)) (shok_of I ds _ _ e2 b r2 h2 q'.2 fun t ht => z t (List.mem_cons_of_mem _ ht))
        · cases e
end
end
section
variable {X : Cx} {c : Cc}
def reprX (e : PyData) : Option D := if e.showable = true ∧ e.depth ≤ 60 ∧ e.shown.length ≤ sizeLine then some (.str e.shown) else none
def reprXD : List D → Option D
  | [d] => (pyD d).bind reprX
  | _ => none
abbrev rReprX (K : PySem.W.Frag) : List V → Hp → VK → Prop := fun xs H Q => ∃ (S : Addr → Prop) (B : Option (Addr × (Addr × List Int))) (v : V) (d : D) (e : PyData), xs = [v] ∧ DV ⟨K, S, B⟩ H v d ∧ pyD d = some e ∧
  e.showable = true ∧ e.depth ≤ 60 ∧ e.shown.length ≤ sizeLine ∧ Q (.str e.shown) H
theorem call_reprX {k : Nat} (hg : X.A.guards = some []) (hr : Room k X.A) : CallR X (.builtin "repr") (rReprX X.K) := by
  intro pins s σ H xs us Q I r ⟨S, B, v, d, e, ex, dv, pe, h2, h3, h4, q⟩
  subst ex
  obtain ⟨u, rfl, ru⟩ := vals1 r
  have hu := hr.un
  cases dv with
  | non => cases pe; cases (show u = Value.none from ru); exact PySem.P.repr_of_none ⟨.str _, H, I.tok _, ⟨_, rfl⟩, q⟩
  | bl b => cases pe; cases (show u = Value.bool b from ru); exact PySem.P.repr_of_bool ⟨.str _, H, I.tok _, ⟨_, rfl⟩, q⟩
  | int i => cases pe; obtain ⟨t, rfl⟩ := ru; exact PySem.P.repr_of_int (by simpa [PyData.showable] using h2) ⟨.str _, H, I.tok _, ⟨_, rfl⟩, q⟩
  | str x => cases pe; obtain ⟨t, rfl⟩ := ru; exact PySem.P.repr_of_str ⟨.str _, H, I.tok _, ⟨_, rfl⟩, q⟩ h4
  | lst f hs =>
    obtain ⟨as, rd⟩ := rdS_of (S := S) (B := B) I _ _ _ _ (.lst f hs) ru pe
    cases (show u = _ from ru)
    rw [pyD] at pe
    obtain ⟨es, w, rfl⟩ := Option.map_eq_some_iff.mp pe
    obtain ⟨its, n, rv, g, _⟩ := f.at I
    have h3' : PyData.depthAll es + 1 ≤ 60 := h3
    have h4' : (listText (PyData.shownAll es)).length ≤ sizeLine := h4
    obtain ⟨bs, p, q'⟩ := shos_of I _ _ its es hs rv w (by simpa [PyData.showable] using h2) fun t ht => Nat.le_trans (listText_mem_le ht) h4'
    have out := not_mem_of_deeper rd (Nat.lt_succ_self _) p
    refine call_repr_slot (by omega) ⟨_, g, rfl⟩ F.slot_list_repr.toG ?_
    cases its with
    | nil =>
      cases es with
      | nil => exact call_list_repr_empty ⟨_, g, rfl⟩ g rfl ⟨_, _, rfl, ⟨.str _, H, I.tok _, ⟨_, rfl⟩, by
          have := q
          rw [show (PyData.list []).shown = listText [] from rfl, listText_nil] at this
          exact this⟩⟩
      | cons e es => rw [PyData.shownAll] at q'; cases q'
    | cons x l => exact call_list_reprK g rfl rfl out (by simpa using q'.length_eq) (fun i y z => q'.item i y (by simpa using z)) hg (fun b _ => Clear.nil b) (by show X.A.units + 1 + _ < _; omega) (fun _ _ z => z) (fun h' u tk hk => ⟨_, _, rfl, ⟨.str _, H, I.kept (t' := tk) hk, ⟨_, rfl⟩, q⟩⟩) h4'
  | tup f hs =>
    obtain ⟨as, rd⟩ := rdS_of (S := S) (B := B) I _ _ _ _ (.tup f hs) ru pe
    cases (show u = _ from ru)
    rw [pyD] at pe
    obtain ⟨es, w, rfl⟩ := Option.map_eq_some_iff.mp pe
    obtain ⟨its, rv, ⟨o, g, hc, n, hd⟩, _⟩ := I.tuple f
    have h3' : PyData.depthAll es + 1 ≤ 60 := h3
    have h4' : (tupleText (PyData.shownAll es)).length ≤ sizeLine := h4
    obtain ⟨bs, p, q'⟩ := shos_of I _ _ its es hs rv w (by simpa [PyData.showable] using h2) fun t ht => Nat.le_trans (tupleText_mem_le ht) h4'
    refine call_repr_slot (by omega) ⟨o, g, hc⟩ F.slot_tuple_repr ?_
    exact call_tuple_reprK g hc hd (not_mem_of_deeper rd (Nat.lt_succ_self _) p) (by simpa using q') hg (fun b _ => Clear.nil b) (by show X.A.units + 1 + _ < _; omega) (fun _ _ z => z) (fun h' u tk hk => ⟨_, _, rfl, ⟨.str _, H, I.kept (t' := tk) hk, ⟨_, rfl⟩, q⟩⟩) h4'
  | dct f hs =>
    obtain ⟨as, rd⟩ := rdS_of (S := S) (B := B) I _ _ _ _ (.dct f hs) ru pe
    cases (show u = _ from ru)
    rw [pyD] at pe
    obtain ⟨es, w, rfl⟩ := Option.map_eq_some_iff.mp pe
    obtain ⟨_, _, hsys, vs, rkv, ob, ents, ep, eg, exd, ed, ko, prs, nd⟩ := I.hok _ _ f
    have rv := vals_entries prs rkv
    have rk := keys_read (h := s.heap) prs rkv
    obtain ⟨_, _, hk⟩ := rdkS_of I _ _ _ es hs rv w
    obtain ⟨s1, s2⟩ := PyData.showableKv_split es (by simpa [PyData.showable] using h2)
    have h3' : PyData.depthKv es + 1 ≤ 60 := h3
    have h4' : (dictText (PyData.shownKv es)).length ≤ sizeLine := h4
    obtain ⟨bs, p, out, re⟩ := sho_dct (X := X) rd (by rw [← hk]; simpa using rk) s1 (fun t ht => let ⟨y, hy, hl⟩ := PyData.shownKv_key_le es t ht; Nat.le_trans hl (Nat.le_trans (dictText_mem_le hy) h4'))
      (shok_of I _ _ _ es hs rv w s2 fun t ht => let ⟨y, hy, hl⟩ := PyData.shownKv_val_le es t ht; Nat.le_trans hl (Nat.le_trans (dictText_mem_le hy) h4'))
    refine call_repr_slot (by omega) ⟨ob, eg, exd.1⟩ F.slot_dict_repr ?_
    exact call_dict_reprK eg exd.1 ed hsys out re hg (fun b _ => Clear.nil b) (by show X.A.units + 1 + _ < _; omega) (fun _ _ z => z) (fun h' u tk hk => ⟨_, _, rfl, ⟨.str _, H, I.kept (t' := tk) hk, ⟨_, rfl⟩, by
      have := q
      rw [show (PyData.dict es).shown = dictText (PyData.shownKv es) from rfl, PyData.shownKv_eq] at this
      exact this⟩⟩) (by rw [← PyData.shownKv_eq]; exact h4')
  | ins => rw [pyD] at pe <;> first | cases pe | (intros; contradiction)
  | box => rw [pyD] at pe <;> first | cases pe | (intros; contradiction)
  | raw => rw [pyD] at pe <;> first | cases pe | (intros; contradiction)
theorem cd_reprX : CallD c (rReprX c.K) reprXD := by
  intro xs ds d H Q hs e k
  unfold reprXD at e
  split at e
  · obtain ⟨v, rfl, h⟩ := dvs1 hs
    obtain ⟨e', h1, h2⟩ := Option.bind_eq_some_iff.mp e
    unfold reprX at h2
    split at h2
    · rename_i hc
      cases h2
      exact ⟨c.S, c.B, v, _, e', rfl, h, h1, hc.1, hc.2.1, hc.2.2, k _ _ (.of (.str _)) (same_refl H)⟩
    · cases h2
  · cases e
end
/-! == and != of texts by themselves -/
section
variable {X : Cx} {c : Cc}
def eqX : D → D → Option D
  | .str a, .str b => some (.bl (a == b))
  | x, y => eqD x y
def neX : D → D → Option D
  | .str a, .str b => some (.bl (!(a == b)))
  | x, y => neD x y
abbrev rEqX (K : PySem.W.Frag) : R2 := fun x y H Q => rEq x y H Q ∨ rEqD K x y H Q
abbrev rNeX (K : PySem.W.Frag) : R2 := fun x y H Q => rNe x y H Q ∨ rNeD K x y H Q
theorem oo_eqX (hu : X.A.units + 64 < cLine) : OpR X (compareOp .Eq) (rEqX X.K) := OpR.or op_eq (op_eqD hu)
theorem oo_neX (hu : X.A.units + 64 < cLine) : OpR X (compareOp .NotEq) (rNeX X.K) := OpR.or op_ne (op_neD hu)
theorem od_eqX : OpD c (rEqX c.K) eqX := by
  intro x y dx dy d H Q hx hy e k
  unfold eqX at e
  split at e
  · cases e
    cases opd_str hx; cases opd_str hy
    exact .inl ⟨rfl, by rw [dec_str]; exact k _ _ (.of (.bl _)) (same_refl H)⟩
  · exact .inr (od_eq _ _ _ _ _ H _ hx hy e k)
theorem od_neX : OpD c (rNeX c.K) neX := by
  intro x y dx dy d H Q hx hy e k
  unfold neX at e
  split at e
  · cases e
    cases opd_str hx; cases opd_str hy
    exact .inl ⟨rfl, by rw [dec_str]; exact k _ _ (.of (.bl _)) (same_refl H)⟩
  · exact .inr (od_ne _ _ _ _ _ H _ hx hy e k)
theorem ek_eqS {k : D → Prop} {z : Str} (h : k (.bl true)) : optK (eqX (.str z) (.str z)) k := by
  show k (.bl (z == z))
  rw [show (z == z) = true by simp]; exact h
theorem ek_neS {k : D → Prop} {z : Str} (h : k (.bl false)) : optK (neX (.str z) (.str z)) k := by
  show k (.bl (!(z == z)))
  rw [show (z == z) = true by simp]; exact h
end
end DS
namespace DS
open PySem PySem.Spec PyProof.Rows L2
/-! ### plain: the box's start -/
theorem sIx_le {n : Nat} {d : Nat} {i : Int} (h : 0 ≤ i) : HT.sIx n d (some i) ≤ i.toNat := by
  unfold HT.sIx
  simp only
  split <;> omega
theorem cut_ints (ns : List Int) (lo hi : Option Int) : ∃ cells : List Int, cutD (ns.map D.int) lo hi = cells.map D.int := by
  unfold cutD
  refine ⟨(ns.drop (HT.sIx (ns.map D.int).length 0 lo)).take (HT.sIx (ns.map D.int).length (ns.map D.int).length hi - HT.sIx (ns.map D.int).length 0 lo), ?_⟩
  rw [List.map_take, List.map_drop]
theorem comp_map {st : D → Nat → (Option D → Nat → Prop) → Prop} (f : D → D) (n : Nat) : ∀ (ds : List D) (k : List D → Nat → Prop), (∀ d ∈ ds, ∀ k : Option D → Nat → Prop, k (some (f d)) n → st d n k) → k (ds.map f) n → compD st ds n k
  | [], k, _, h => h
  | d :: ds, k, hs, h => hs d List.mem_cons_self _ (comp_map f n ds _ (fun d' hd => hs d' (List.mem_cons_of_mem _ hd)) h)
theorem quay_ok {ns : List Int} {kk : DK} (h : ∀ cells : List Int, kk (.lst (cells.map D.int)) 0) : mLc (mIter (mSl (mVar 0) mNoP (mPart (mC (.int 60))))) (gfName 1) [1] mYes (mArgs intD (mCons (mVar 1) mNil)) noX (rho 2 [.lst (ns.map D.int)]) 0 kk := by
  obtain ⟨cells, e⟩ := cut_ints ns none (some 60)
  refine ⟨?_, ?_⟩
  · unfold cutD
    rw [List.length_take]
    have := sIx_le (n := (ns.map D.int).length) (d := (ns.map D.int).length) (i := 60) (by decide)
    have h60 : (60 : Int).toNat = 60 := rfl
    omega
  · rw [e]
    refine comp_map (fun d => d) 0 _ _ (fun d hd k hk => ?_) ?_
    · obtain ⟨i, _, rfl⟩ := List.mem_map.mp hd
      exact hk
    · rw [List.map_id']
      exact h cells
/-! a module's constants -/
theorem dvs_flat {c : Cc} {H : Hp} : ∀ {ds : List D} {vs : List V}, flDs ds = some vs → DVs c H vs ds
  | [], _, e => by cases e; exact .nil
  | d :: ds, _, e => by
    rw [flDs] at e
    split at e
    · rename_i h1 h2
      cases e
      refine .cons ?_ (dvs_flat h2)
      cases d <;> first | (cases h1; first | exact .non | exact .bl _ | exact .int _ | exact .str _) | cases h1
    · cases e
theorem kdat_tup {K : PySem.W.Frag} {mg : Str → Option Value} {x : Str} {a : Addr} {oc : Value} {od : Option Addr} {its : Array Value} {n : Nat} {sl : Array (Option Value)} {ds : List D} {vs : List V} (m : mg x = some (.ref a)) (l : K.lookup a = some ⟨oc, od, .seq its n, sl⟩) (hc : oc = .type "tuple") (hz : its.size ≤ sizeLine)
    (hv : Vals vs its.toList) (hf : flDs ds = some vs) : KDat K mg x (.tup ds) := by
  subst hc
  exact ⟨_, .ref a, m, rfl, fun S B H => .tup (.inr ⟨_, its, n, l, rfl, rfl, hz, hv⟩) (dvs_flat hf)⟩
theorem kdat_flat {K : PySem.W.Frag} {mg : Str → Option Value} {x : Str} {u : Value} {d : D} {v : V} (m : mg x = some u) (hv : RelV v u) (hf : flDs [d] = some [v]) : KDat K mg x d :=
  ⟨u, v, m, hv, fun S B H => by cases dvs_flat (c := ⟨K, S, B⟩) (H := H) hf with | cons a _ => exact a⟩
/-! comprehensions by the places of their names -/
section
variable {X : Cx} {c : Cc} {H0 : Hp} {ε : XD} {tg iter : Expr} {pos : Pos} {mi : MA}
theorem de_lcV {elt : Expr} {ifs : List Expr} {scope : Scope} {own : List (Str × Nat)} {g : GF} {ts vs : List Nat} {tt : MT} {te : ME} (hc : X.calm = true) (hN : X.N.Nodup) (hi : PI X tg iter (tI c H0 ε mi)) (ok : BlkOk X.N X.env.scope scope own) (hvs : own.map (·.2) = vs) (hts : ∀ i ∈ ts, i ∈ vs)
    (hg : ∀ (s : Shared) (H : Hp) (C : Addr) (cl : List (Str × Addr)) (fp : List Addr), PG (X.blk s H scope (compEnvC scope cl C X.env) fp) tg (tG c H0 ts g)) (ht : ∀ (s : Shared) (H : Hp) (C : Addr) (cl : List (Str × Addr)) (fp : List Addr), PTs (X.blk s H scope (compEnvC scope cl C X.env) fp) ifs (tT c H0 noX tt))
    (he : ∀ (s : Shared) (H : Hp) (C : Addr) (cl : List (Str × Addr)) (fp : List Addr), PE (X.blk s H scope (compEnvC scope cl C X.env) fp) elt (tE c H0 noX te)) (hs : ∀ x, foldedSetIterable iter X.env x = pure x := by intro _; rfl) :
    PE X (.ListComp elt [⟨tg, iter, ifs, 0⟩] scope pos) (tE c H0 ε (mLc mi g vs tt te)) := by
  subst hvs
  exact de_lc hc hN hi ok hts hg ht he hs
theorem ds_setLcV (i : Nat) {y : Str} {py : Pos} {spos : Pos} {elt : Expr} {ifs : List Expr} {scope : Scope} {own : List (Str × Nat)} {g : GF} {ts vs : List Nat} {tt : MT} {te : ME} (hc : X.calm = true) (hN : X.N.Nodup) (hy : X.N[i]? = some y) (hyl : X.env.scope.names.lookup y = some .local)
    (hsw : swapsWith (.ListComp elt [⟨tg, iter, ifs, 0⟩] scope pos) (some (.Name y py)) spos.line X.env = pure true) (hi : PI X tg iter (tI c H0 ε mi)) (ok : BlkOk X.N X.env.scope scope own) (hvs : own.map (·.2) = vs) (hts : ∀ i ∈ ts, i ∈ vs)
    (hg : ∀ (s : Shared) (H : Hp) (C : Addr) (cl : List (Str × Addr)) (fp : List Addr), PG (X.blk s H scope (compEnvC scope cl C X.env) fp) tg (tG c H0 ts g)) (ht : ∀ (s : Shared) (H : Hp) (C : Addr) (cl : List (Str × Addr)) (fp : List Addr), PTs (X.blk s H scope (compEnvC scope cl C X.env) fp) ifs (tT c H0 noX tt))
    (he : ∀ (s : Shared) (H : Hp) (C : Addr) (cl : List (Str × Addr)) (fp : List Addr), PE (X.blk s H scope (compEnvC scope cl C X.env) fp) elt (tE c H0 noX te)) (hs : ∀ x, foldedSetIterable iter X.env x = pure x := by intro _; rfl) :
    PS X (.Assign [.Name y py] (.ListComp elt [⟨tg, iter, ifs, 0⟩] scope pos) spos) (tS c H0 ε (mAsg (gfName i) (mLc mi g vs tt te))) := by
  subst hvs
  exact ds_setLc i hc hN hy hyl hsw hi ok hts hg ht he hs
end
end DS
namespace K04
open PySem PySem.Spec PyProof.Rows L2 DS
def top (i : Nat) : Stmt := PySem.Challenge.pw_ropesays_k04_lists_and_tuples_all_the_wa.main.body.getD i (.Pass ⟨0, 0, 0, 0⟩)
abbrev s_fixed : Stmt := top 1
theorem sc_fixed : FnScope [("value" : Str), ("each" : Str)] [("value" : Str)] (defScope s_fixed) := ⟨rfl, rfl, rfl, by decide +kernel, rfl, by decide +kernel, by decide +kernel⟩
def l_fixed : Scope := ⟨.function, [(("value" : Str), .local), (("isinstance" : Str), .globalImplicit), (("list" : Str), .globalImplicit), (("tuple" : Str), .globalImplicit)], false, false, [(("fast" : Str), .str ("value" : Str)), (("fast" : Str), .str ("each" : Str))]⟩
theorem le_fixed : defScope s_fixed = l_fixed := rfl
theorem bk_fixed_0 : BlkOk [("value" : Str), ("each" : Str)] l_fixed ⟨.function, [((".0" : Str), .local), (("each" : Str), .local), (("fixed" : Str), .globalImplicit)], false, false, []⟩ [(("each" : Str), 1)] := ⟨rfl, by decide +kernel, by decide +kernel, by decide +kernel, by decide +kernel⟩
theorem b_fixed : BindA "fixed" s_fixed [("value" : Str)] := fun _ _ _ _ _ _ us hl => match us, hl with | [_], _ => rfl
abbrev s__law_hamper : Stmt := top 3
theorem sc__law_hamper : FnScope [("_law_script" : Str), ("_law_cell" : Str)] [("_law_script" : Str)] (defScope s__law_hamper) := ⟨rfl, rfl, rfl, by decide +kernel, rfl, by decide +kernel, by decide +kernel⟩
def l__law_hamper : Scope := ⟨.function, [(("_law_script" : Str), .local)], false, false, [(("fast" : Str), .str ("_law_script" : Str)), (("fast" : Str), .str ("_law_cell" : Str))]⟩
theorem le__law_hamper : defScope s__law_hamper = l__law_hamper := rfl
theorem bk__law_hamper_0 : BlkOk [("_law_script" : Str), ("_law_cell" : Str)] l__law_hamper ⟨.function, [((".0" : Str), .local), (("_law_cell" : Str), .local), (("int" : Str), .globalImplicit)], false, false, []⟩ [(("_law_cell" : Str), 1)] := ⟨rfl, by decide +kernel, by decide +kernel, by decide +kernel, by decide +kernel⟩
theorem b__law_hamper : BindA "_law_hamper" s__law_hamper [("_law_script" : Str)] := fun _ _ _ _ _ _ us hl => match us, hl with | [_], _ => rfl
abbrev s__law_plait : Stmt := top 4
theorem sc__law_plait : FnScope [("_law_hamper_here" : Str), ("_law_many" : Str), ("_law_rest" : Str), ("_law_lap" : Str), ("_law_cell" : Str), ("_law_mixed" : Str)] [("_law_hamper_here" : Str), ("_law_many" : Str)] (defScope s__law_plait) := ⟨rfl, rfl, rfl, by decide +kernel, rfl, by decide +kernel, by decide +kernel⟩
def l__law_plait : Scope := ⟨.function, [(("_law_hamper_here" : Str), .local), (("_law_many" : Str), .local), (("_law_rest" : Str), .local), (("_law_lap" : Str), .local), (("_law_cell" : Str), .local), (("_law_mixed" : Str), .local), (("int" : Str), .globalImplicit), (("len" : Str), .globalImplicit), (("abs" : Str), .globalImplicit)], false, false, []⟩
theorem le__law_plait : defScope s__law_plait = l__law_plait := rfl
theorem b__law_plait : BindA "_law_plait" s__law_plait [("_law_hamper_here" : Str), ("_law_many" : Str)] := fun _ _ _ _ _ _ us hl => match us, hl with | [_, _], _ => rfl
abbrev s__law_of : Stmt := top 5
theorem sc__law_of : FnScope [("_law_hamper_here" : Str), ("_law_some" : Str)] [("_law_hamper_here" : Str), ("_law_some" : Str)] (defScope s__law_of) := ⟨rfl, rfl, rfl, by decide +kernel, rfl, by decide +kernel, by decide +kernel⟩
def l__law_of : Scope := ⟨.function, [(("_law_hamper_here" : Str), .local), (("_law_some" : Str), .local), (("_law_plait" : Str), .globalImplicit), (("len" : Str), .globalImplicit)], false, false, []⟩
theorem le__law_of : defScope s__law_of = l__law_of := rfl
theorem b__law_of : BindA "_law_of" s__law_of [("_law_hamper_here" : Str), ("_law_some" : Str)] := fun _ _ _ _ _ _ us hl => match us, hl with | [_, _], _ => rfl
abbrev s__law_nested : Stmt := top 6
theorem sc__law_nested : FnScope [("_law_hamper_here" : Str), ("_law_deep" : Str), ("_law_way" : Str), ("_law_found" : Str), ("_law_place" : Str)] [("_law_hamper_here" : Str), ("_law_deep" : Str)] (defScope s__law_nested) := ⟨rfl, rfl, rfl, by decide +kernel, rfl, by decide +kernel, by decide +kernel⟩
def l__law_nested : Scope := ⟨.function, [(("_law_hamper_here" : Str), .cell), (("_law_deep" : Str), .cell), (("_law_way" : Str), .local), (("_law_found" : Str), .local), (("_law_plait" : Str), .globalImplicit), (("_law_of" : Str), .globalImplicit), (("range" : Str), .globalImplicit), (("tuple" : Str), .globalImplicit)], false, false, [(("fast" : Str), .str ("_law_hamper_here" : Str)), (("fast" : Str), .str ("_law_deep" : Str)), (("fast" : Str), .str ("_law_way" : Str)), (("fast" : Str), .str ("_law_place" : Str)), (("fast" : Str), .str ("_law_found" : Str))]⟩
theorem le__law_nested : defScope s__law_nested = l__law_nested := rfl
theorem bk__law_nested_0 : BlkOk [("_law_hamper_here" : Str), ("_law_deep" : Str), ("_law_way" : Str), ("_law_found" : Str), ("_law_place" : Str)] l__law_nested ⟨.function, [((".0" : Str), .local), (("_law_place" : Str), .local), (("_law_nested" : Str), .globalImplicit), (("_law_deep" : Str), .free), (("_law_hamper_here" : Str), .free)], false, false, []⟩ [(("_law_place" : Str), 4)] := ⟨rfl, by decide +kernel, by decide +kernel, by decide +kernel, by decide +kernel⟩
theorem b__law_nested : BindA "_law_nested" s__law_nested [("_law_hamper_here" : Str), ("_law_deep" : Str)] := fun _ _ _ _ _ _ us hl => match us, hl with | [_, _], _ => rfl
abbrev s__law_own : Stmt := top 7
theorem sc__law_own : FnScope [("_law_value" : Str), ("_law_part" : Str)] [("_law_value" : Str)] (defScope s__law_own) := ⟨rfl, rfl, rfl, by decide +kernel, rfl, by decide +kernel, by decide +kernel⟩
def l__law_own : Scope := ⟨.function, [(("_law_value" : Str), .local), (("isinstance" : Str), .globalImplicit), (("list" : Str), .globalImplicit), (("tuple" : Str), .globalImplicit)], false, false, [(("fast" : Str), .str ("_law_value" : Str)), (("fast" : Str), .str ("_law_part" : Str))]⟩
theorem le__law_own : defScope s__law_own = l__law_own := rfl
theorem bk__law_own_0 : BlkOk [("_law_value" : Str), ("_law_part" : Str)] l__law_own ⟨.function, [((".0" : Str), .local), (("_law_part" : Str), .local), (("_law_own" : Str), .globalImplicit)], false, false, []⟩ [(("_law_part" : Str), 1)] := ⟨rfl, by decide +kernel, by decide +kernel, by decide +kernel, by decide +kernel⟩
theorem b__law_own : BindA "_law_own" s__law_own [("_law_value" : Str)] := fun _ _ _ _ _ _ us hl => match us, hl with | [_], _ => rfl
abbrev s_law : Stmt := top 8
theorem sc_law : FnScope [("_law_script" : Str), ("_law_hamper_here" : Str), ("_law_turn" : Str), ("_law_value" : Str), ("_law_before" : Str), ("_law_due" : Str), ("_law_deep" : Str)] [("_law_script" : Str)] (defScope s_law) := ⟨rfl, rfl, rfl, by decide +kernel, rfl, by decide +kernel, by decide +kernel⟩
def l_law : Scope := ⟨.function, [(("_law_script" : Str), .local), (("_law_hamper_here" : Str), .local), (("_law_turn" : Str), .local), (("_law_value" : Str), .local), (("_law_before" : Str), .local), (("_law_due" : Str), .local), (("_law_deep" : Str), .local), (("_law_hamper" : Str), .globalImplicit), (("range" : Str), .globalImplicit), (("_law_nested" : Str), .globalImplicit), (("repr" : Str), .globalImplicit), (("_law_own" : Str), .globalImplicit), (("fixed" : Str), .globalImplicit), (("tuple" : Str), .globalImplicit), (("_law_plait" : Str), .globalImplicit)], false, false, []⟩
theorem le_law : defScope s_law = l_law := rfl
theorem b_law : BindA "law" s_law [("_law_script" : Str)] := fun _ _ _ _ _ _ us hl => match us, hl with | [_], _ => rfl
theorem kb_fixed_0_value : BindK "fixed" s_fixed [("value" : Str)] 0 [("value" : Str)] [0] := fun _ _ _ _ _ _ us ws hl hk => match us, ws, hl, hk with | [], [_], _, _ => rfl
def m_fixed (con_fixed : Con) : MS := mRet (mIfE (mTru (mUn1 (isi2 "list" "tuple") (mVar 0))) (mArgs tupleD (mCons (mLc (mIter (mVar 0)) (gfName 1) [1] (mYes) (mCall con_fixed (mCons (mVar 1) (mNil)))) (mNil))) (mVar 0))
def conF_fixed : Nat → Con
  | 0 => fun _ _ _ _ => False
  | j + 1 => conOf 1 2 (m_fixed (conF_fixed j))
def con_fixed : Con := conF_fixed 45
def m__law_hamper : ME := mLc (mIter (mSl (mVar 0) (mNoP) (mPart (mC (.int 60))))) (gfName 1) [1] (mYes) (mArgs intD (mCons (mVar 1) (mNil)))
def m__law_plait (cells : List Int) : MS := mSeq (mIf (mBl (mOp (cmpI fun i j => decide (j < i)) (mBox2 0) (mC (.int 0)))) (mSeq (mAsg (gfName 2) (mArgs intD (mCons (mBox2 0) (mNil))))
    (mSeq (mPut2 0 (mOp fdivD (mVar 2) (mVar 1)))
    (mRet (mOp modD (mArgs intD (mCons (mVar 2) (mNil))) (mVar 1))))) (mNext))
    (mSeq (mAsg (gfName 3) (mBox1 0))
    (mSeq (mPut1 0 (mOp addD (mVar 3) (mC (.int 1))))
    (mSeq (mAsg (gfName 4) (mOp addD (mOp mulD (mC (.int 81197)) (mVar 3)) (mC (.int 6211))))
    (mSeq (mIf (mBl (mOp neX (mBox0 cells 0) (mArgs lstD (mNil)))) (mAsg (gfName 4) (mOp ixD (mBox0 cells 0) (mOp modD (mArgs intD (mCons (mVar 3) (mNil))) (mArgs lenD (mCons (mBox0 cells 0) (mNil)))))) (mNext))
    (mSeq (mIf (mAnd (mBl (mOp (cmpI fun i j => decide (i < j)) (mVar 3) (mArgs lenD (mCons (mBox0 cells 0) (mNil))))) (mBl (mOp (cmpI fun i j => decide (j ≤ i)) (mArgs absD (mCons (mVar 4) (mNil))) (mOp powD (mC (.int 10)) (mC (.int 18)))))) (mSeq (mAsg (gfName 2) (mOp addD (mOp mulD (mC (.int 2)) (mOp subD (mArgs absD (mCons (mVar 4) (mNil))) (mOp powD (mC (.int 10)) (mC (.int 18))))) (mArgs intD (mCons (mOp (cmpI fun i j => decide (i < j)) (mVar 4) (mC (.int 0))) (mNil)))))
    (mSeq (mPut2 0 (mOp fdivD (mVar 2) (mVar 1)))
    (mRet (mOp modD (mArgs intD (mCons (mVar 2) (mNil))) (mVar 1))))) (mNext))
    (mSeq (mAsg (gfName 5) (mOp modD (mArgs intD (mCons (mOp powD (mOp addD (mOp addD (mOp modD (mArgs intD (mCons (mVar 4) (mNil))) (mC (.int 2147483497))) (mOp mulD (mC (.int 43261)) (mVar 3))) (mC (.int 6211))) (mC (.int 5))) (mNil))) (mC (.int 2147483489))))
    (mSeq (mAsg (gfName 5) (mOp modD (mArgs intD (mCons (mOp powD (mOp addD (mOp addD (mOp mulD (mVar 5) (mOp addD (mOp mulD (mC (.int 2)) (mVar 3)) (mC (.int 5669)))) (mOp mulD (mOp mulD (mC (.int 81197)) (mVar 3)) (mVar 3))) (mC (.int 43261))) (mC (.int 3))) (mNil))) (mC (.int 2147483477))))
    (mRet (mOp modD (mArgs intD (mCons (mOp fdivD (mVar 5) (mC (.int 32))) (mNil))) (mVar 1))))))))))
def con__law_plait : Con := conDraw
def m__law_of : MS := mRet (mOp ixD (mVar 1) (mCall con__law_plait (mCons (mVar 0) (mCons (mArgs lenD (mCons (mVar 1) (mNil))) (mNil)))))
def con__law_of : Con := conOf 2 2 m__law_of
def m__law_nested (con__law_nested : Con) : MS := mSeq (mAsg (gfName 2) (mCall con__law_plait (mCons (mVar 0) (mCons (mC (.int 8)) (mNil)))))
    (mSeq (mIf (mOr (mBl (mOp (cmpI fun i j => decide (j < i)) (mVar 2) (mC (.int 3)))) (mBl (mOp eqX (mVar 1) (mC (.int 0))))) (mRet (mCall con__law_of (mCons (mVar 0) (mCons (mArgs lstD (mCons (mOp subD (mCall con__law_plait (mCons (mVar 0) (mCons (mC (.int 9)) (mNil)))) (mC (.int 4))) (mCons (mC .non) (mCons (mC (.bl true)) (mCons (mC (.str ("" : Str))) (mCons (mC (.str ("join" : Str))) (mCons (mDict (mPcons (mC (.int 1)) (mArgs lstD (mCons (mC (.int 2)) (mNil))) (mPnil))) (mCons (mArgs lstD (mNil)) (mCons (mArgs tupD (mNil)) (mCons (mDict (mPcons (mC (.str ("a" : Str))) (mArgs tupD (mCons (mC (.int 1)) (mCons (mArgs lstD (mCons (mC (.int 2)) (mNil))) (mNil)))) (mPnil))) (mCons (mOp powD (mC (.int 10)) (mC (.int 20))) (mNil)))))))))))) (mNil))))) (mNext))
    (mSeq (mAsg (gfName 3) (mLc (mRange1 (mCall con__law_plait (mCons (mVar 0) (mCons (mC (.int 4)) (mNil))))) (gfName 4) [4] (mYes) (mCall con__law_nested (mCons (mVar 0) (mCons (mOp subD (mVar 1) (mC (.int 1))) (mNil))))))
    (mRet (mIfE (mBl (mOp (cmpI fun i j => decide (i < j)) (mVar 2) (mC (.int 2)))) (mVar 3) (mIfE (mBl (mOp eqX (mVar 2) (mC (.int 2)))) (mArgs tupleD (mCons (mVar 3) (mNil))) (mArgs lstD (mCons (mVar 3) (mNil))))))))
def conF__law_nested : Nat → Con
  | 0 => fun _ _ _ _ => False
  | j + 1 => conOf 2 5 (m__law_nested (conF__law_nested j))
def con__law_nested : Con := conF__law_nested 45
def m__law_own (con__law_own : Con) : MS := mSeq (mIf (mOr (mTru (mArgs isiD (mCons (mVar 0) (mCons (mC (.raw (.ty "list"))) (mNil))))) (mTru (mArgs isiD (mCons (mVar 0) (mCons (mC (.raw (.ty "tuple"))) (mNil)))))) (mRet (mArgs tupleD (mCons (mLc (mIter (mVar 0)) (gfName 1) [1] (mYes) (mCall con__law_own (mCons (mVar 1) (mNil)))) (mNil)))) (mNext))
    (mRet (mVar 0))
def conF__law_own : Nat → Con
  | 0 => fun _ _ _ _ => False
  | j + 1 => conOf 1 2 (m__law_own (conF__law_own j))
def con__law_own : Con := conF__law_own 45
def m_law : MS := mSeq (mFor (mRange1 (mC (.int 8))) (gfName 2) (mSeq (mAsg (gfName 3) (mArgs lstD (mCons (mCall con__law_nested (mCons (mVar 1) (mCons (mC (.int 4)) (mNil)))) (mCons (mCall con__law_nested (mCons (mVar 1) (mCons (mC (.int 3)) (mNil)))) (mNil)))))
    (mSeq (mPar 4 5 (mCons (mArgs reprXD (mCons (mVar 3) (mNil))) (mCons (mCall con__law_own (mCons (mVar 3) (mNil))) (mNil))))
    (mSeq (mIf (mOr (mBl (mOp neX (mArgs reprXD (mCons (mCall con_fixed (mCons (mVar 3) (mNil))) (mNil))) (mArgs reprXD (mCons (mVar 5) (mNil))))) (mOr (mBl (mOp neX (mArgs reprXD (mCons (mCallK con_fixed 0 1 [0] (mNil) (mCons (mArgs tupleD (mCons (mVar 3) (mNil))) (mNil))) (mNil))) (mArgs reprXD (mCons (mVar 5) (mNil))))) (mOr (mBl (mOp neX (mArgs reprXD (mCons (mVar 3) (mNil))) (mVar 4))) (mBl (mOp neX (mArgs reprXD (mCons (mCall con_fixed (mCons (mVar 5) (mNil))) (mNil))) (mArgs reprXD (mCons (mVar 5) (mNil)))))))) (mRet (mC (.bl false))) (mNext))
    (mIf (mBl (mOp neX (mArgs reprXD (mCons (mCall con_fixed (mCons (mOp ixD (mVar 3) (mC (.int 0))) (mNil))) (mNil))) (mArgs reprXD (mCons (mOp ixD (mVar 5) (mC (.int 0))) (mNil))))) (mRet (mC (.bl false))) (mNext))))))
    (mSeq (mAsg (gfName 6) (mCall con__law_plait (mCons (mVar 1) (mCons (mC (.int 5)) (mNil)))))
    (mSeq (mFor (mRange1 (mC (.int 29))) (gfName 2) (mAsg (gfName 6) (mIfE (mBl (mOp eqX (mCall con__law_plait (mCons (mVar 1) (mCons (mC (.int 2)) (mNil)))) (mC (.int 0)))) (mArgs lstD (mCons (mVar 6) (mNil))) (mArgs tupD (mCons (mVar 6) (mNil))))))
    (mRet (mAndV (mOp eqX (mArgs reprXD (mCons (mCall con_fixed (mCons (mVar 6) (mNil))) (mNil))) (mArgs reprXD (mCons (mCall con__law_own (mCons (mVar 6) (mNil))) (mNil)))) (mAndV (mOp eqX (mCall con_fixed (mCons (mC (.str ("over" : Str))) (mNil))) (mC (.str ("over" : Str)))) (mAndV (mOp isD (mCall con_fixed (mCons (mC .non) (mNil))) (mC .non)) (mOp eqX (mArgs reprXD (mCons (mCall con_fixed (mCons (mDict (mPcons (mC (.int 1)) (mArgs lstD (mCons (mC (.int 2)) (mNil))) (mPnil))) (mNil))) (mNil))) (mC (.str ("{1: [2]}" : Str))))))))))
structure Tx (K : PySem.W.Frag) (mg : Str → Option Value) : Prop where
  n_abs : mg "abs" = none
  n_int : mg "int" = none
  n_isinstance : mg "isinstance" = none
  n_len : mg "len" = none
  n_list : mg "list" = none
  n_range : mg "range" = none
  n_repr : mg "repr" = none
  n_tuple : mg "tuple" = none
section
variable {P : Program} {w : World} {K : PySem.W.Frag} {mg : Str → Option Value} {base : Heap} {S : Addr → Prop}
theorem g_fixed {f : Addr} {fd : FuncData} (F : Fun K "fixed" "fixed" s_fixed f fd) (T : Tx K mg)  (hmg : mg "fixed" = some (.ref f)) : ∀ j : Nat, FnG P w K mg base CX0 (1 + j) f fd [("value" : Str)] (spD K S (conF_fixed j))
  | 0 => ⟨fun vs H Q E ⟨_, _, _, _, _, _, h, _⟩ => h.elim, fun _ _ _ _ _ _ _ _ _ _ _ _ _ _ ⟨_, _, _, _, _, _, h, _⟩ => h.elim⟩
  | j + 1 => by
    have C_fixed : Co P w K mg base S "fixed" s_fixed [("value" : Str)] (conF_fixed j) (1 + j) := ⟨f, fd, F, g_fixed F T  hmg j, hmg⟩
    refine fng_con (k := 1 + j) (N := [("value" : Str), ("each" : Str)]) (ms := m_fixed (conF_fixed j)) F sc_fixed rfl (fun _ _ _ h => h) fun cdv A out s H E B hg hr => ?_
    have hu : A.units + 3 + 64 < cLine := by have := hr.un; exact Nat.lt_of_le_of_lt (by show A.units + 3 + 64 ≤ A.units + 3 + 16 * (1 + j) + 200; omega) this
    rw [le_fixed] at hr ⊢
    exact dss_one (ds_ret (de_if (dt_tru (de_isi2 T.n_isinstance T.n_list T.n_tuple bb_list bb_tuple (de_var 0))) (de_callT call_tuple_of cd_tuple T.n_tuple bb_tuple (da_cons (de_lcV rfl sc_fixed.nd (di_seq (de_var 0)) bk_fixed_0 rfl (by decide) (fun _ _ _ _ _ => dg_name 1 sc_fixed.nd) (fun _ _ _ _ _ => dts_nil) (fun _ _ _ _ _ => de_call (cal_of C_fixed (hr.mono (by omega)) b_fixed) hg (da_cons (de_var 1) (da_nil)))) (da_nil))) (de_var 0)))
theorem g__law_hamper {f : Addr} {fd : FuncData} (F : Fun K "_law_hamper" "_law_hamper" s__law_hamper f fd) (T : Tx K mg)  : FnG P w K mg base CX0 1 f fd [("_law_script" : Str)] (spQuay K) := by
  refine fng_quay (k := 0) (me := m__law_hamper) F sc__law_hamper rfl (fun ns kk h => quay_ok h) fun cdv A out s H E hg hr => ?_
  rw [le__law_hamper] at hr ⊢
  exact de_lcV rfl sc__law_hamper.nd (di_seq (de_sl (de_var 0) (do_none) (do_some (de_int)))) bk__law_hamper_0 rfl (by decide) (fun _ _ _ _ _ => dg_name 1 sc__law_hamper.nd) (fun _ _ _ _ _ => dts_nil) (fun _ _ _ _ _ => de_callT call_int1 cd_int T.n_int bb_int (da_cons (de_var 1) (da_nil)))
theorem g__law_plait {f : Addr} {fd : FuncData} (F : Fun K "_law_plait" "_law_plait" s__law_plait f fd) (T : Tx K mg)  (hcon : ∀ cells ds n kk, conDraw noX ds n kk → conOf 2 6 (m__law_plait cells) noX ds n kk) : FnG P w K mg base CX0 1 f fd [("_law_hamper_here" : Str), ("_law_many" : Str)] (spD K S con__law_plait) := by
  refine fng_draw (k := 0) (N := [("_law_hamper_here" : Str), ("_law_many" : Str), ("_law_rest" : Str), ("_law_lap" : Str), ("_law_cell" : Str), ("_law_mixed" : Str)]) (ms := m__law_plait) F sc__law_plait rfl hcon fun cdv A out s H E b cl cells hg hr => ?_
  have hu : A.units + 3 + 64 < cLine := by have := hr.un; show _; exact Nat.lt_of_le_of_lt (by show A.units + 3 + 64 ≤ A.units + 3 + 16 * 0 + 200; omega) this
  rw [le__law_plait] at hr ⊢
  exact dss_cons (ds_if (dt_cmp op_gt od_cmpI (nomark _) (de_box2 0) (de_int)) (dss_cons (ds_set 2 sc__law_plait.nd (de_callT call_int1 cd_int T.n_int bb_int (da_cons (de_box2 0) (da_nil))))
    (dss_cons (ds_box2 0 (de_op op_fdiv od_fdiv (de_var 2) (de_var 1)))
    (dss_one (ds_ret (de_op op_mod od_mod (de_callT call_int1 cd_int T.n_int bb_int (da_cons (de_var 2) (da_nil))) (de_var 1)))))) (dss_nil))
    (dss_cons (ds_set 3 sc__law_plait.nd (de_box1 0))
    (dss_cons (ds_box1 0 (de_op oo_add od_add (de_var 3) (de_int)))
    (dss_cons (ds_set 4 sc__law_plait.nd (de_op oo_add od_add (de_op oo_mul od_mul (de_int) (de_var 3)) (de_int)))
    (dss_cons (ds_if (dt_cmp (oo_neX hu) od_neX (nomark _) (de_box0 0) (de_lst (da_nil))) (dss_one (ds_set 4 sc__law_plait.nd (de_ix (de_box0 0) (de_op op_mod od_mod (de_callT call_int1 cd_int T.n_int bb_int (da_cons (de_var 3) (da_nil))) (de_callB call_len cd_len T.n_len bb_len (da_cons (de_box0 0) (da_nil))))))) (dss_nil))
    (dss_cons (ds_if (PW.pt (dw_and (dt_cmp op_lt od_cmpI (nomark _) (de_var 3) (de_callB call_len cd_len T.n_len bb_len (da_cons (de_box0 0) (da_nil)))) (dw_and1 (dt_cmp op_ge od_cmpI (nomark _) (de_callB call_abs cd_abs T.n_abs bb_abs (da_cons (de_var 4) (da_nil))) (de_op op_pow od_pow (de_int) (de_int)))))) (dss_cons (ds_set 2 sc__law_plait.nd (de_op oo_add od_add (de_op oo_mul od_mul (de_int) (de_op op_sub od_sub (de_callB call_abs cd_abs T.n_abs bb_abs (da_cons (de_var 4) (da_nil))) (de_op op_pow od_pow (de_int) (de_int)))) (de_callT call_int1 cd_int T.n_int bb_int (da_cons (de_cmp op_lt od_cmpI (nomark _) (de_var 4) (de_int)) (da_nil)))))
    (dss_cons (ds_box2 0 (de_op op_fdiv od_fdiv (de_var 2) (de_var 1)))
    (dss_one (ds_ret (de_op op_mod od_mod (de_callT call_int1 cd_int T.n_int bb_int (da_cons (de_var 2) (da_nil))) (de_var 1)))))) (dss_nil))
    (dss_cons (ds_set 5 sc__law_plait.nd (de_op op_mod od_mod (de_callT call_int1 cd_int T.n_int bb_int (da_cons (de_op op_pow od_pow (de_op oo_add od_add (de_op oo_add od_add (de_op op_mod od_mod (de_callT call_int1 cd_int T.n_int bb_int (da_cons (de_var 4) (da_nil))) (de_int)) (de_op oo_mul od_mul (de_int) (de_var 3))) (de_int)) (de_int)) (da_nil))) (de_int)))
    (dss_cons (ds_set 5 sc__law_plait.nd (de_op op_mod od_mod (de_callT call_int1 cd_int T.n_int bb_int (da_cons (de_op op_pow od_pow (de_op oo_add od_add (de_op oo_add od_add (de_op oo_mul od_mul (de_var 5) (de_op oo_add od_add (de_op oo_mul od_mul (de_int) (de_var 3)) (de_int))) (de_op oo_mul od_mul (de_op oo_mul od_mul (de_int) (de_var 3)) (de_var 3))) (de_int)) (de_int)) (da_nil))) (de_int)))
    (dss_one (ds_ret (de_op op_mod od_mod (de_callT call_int1 cd_int T.n_int bb_int (da_cons (de_op op_fdiv od_fdiv (de_var 5) (de_int)) (da_nil))) (de_var 1)))))))))))
theorem g__law_of {f : Addr} {fd : FuncData} (F : Fun K "_law_of" "_law_of" s__law_of f fd) (T : Tx K mg) (C__law_plait : Co P w K mg base S "_law_plait" s__law_plait [("_law_hamper_here" : Str), ("_law_many" : Str)] con__law_plait 1) : FnG P w K mg base CX0 2 f fd [("_law_hamper_here" : Str), ("_law_some" : Str)] (spD K S con__law_of) := by
  refine fng_con (k := 1) (N := [("_law_hamper_here" : Str), ("_law_some" : Str)]) (ms := m__law_of) F sc__law_of rfl (fun _ _ _ h => h) fun cdv A out s H E B hg hr => ?_
  have hu : A.units + 3 + 64 < cLine := by have := hr.un; show _; exact Nat.lt_of_le_of_lt (by show A.units + 3 + 64 ≤ A.units + 3 + 16 * 1 + 200; omega) this
  rw [le__law_of] at hr ⊢
  exact dss_one (ds_ret (de_ix (de_var 1) (de_call (cal_of C__law_plait (hr.mono (by omega)) b__law_plait) hg (da_cons (de_var 0) (da_cons (de_callB call_len cd_len T.n_len bb_len (da_cons (de_var 1) (da_nil))) (da_nil))))))
theorem g__law_nested {f : Addr} {fd : FuncData} (F : Fun K "_law_nested" "_law_nested" s__law_nested f fd) (T : Tx K mg) (C__law_plait : Co P w K mg base S "_law_plait" s__law_plait [("_law_hamper_here" : Str), ("_law_many" : Str)] con__law_plait 1) (C__law_of : Co P w K mg base S "_law_of" s__law_of [("_law_hamper_here" : Str), ("_law_some" : Str)] con__law_of 2) (hmg : mg "_law_nested" = some (.ref f)) : ∀ j : Nat, FnG P w K mg base CX0 (3 + j) f fd [("_law_hamper_here" : Str), ("_law_deep" : Str)] (spD K S (conF__law_nested j))
  | 0 => ⟨fun vs H Q E ⟨_, _, _, _, _, _, h, _⟩ => h.elim, fun _ _ _ _ _ _ _ _ _ _ _ _ _ _ ⟨_, _, _, _, _, _, h, _⟩ => h.elim⟩
  | j + 1 => by
    have C__law_nested : Co P w K mg base S "_law_nested" s__law_nested [("_law_hamper_here" : Str), ("_law_deep" : Str)] (conF__law_nested j) (3 + j) := ⟨f, fd, F, g__law_nested F T C__law_plait C__law_of hmg j, hmg⟩
    refine fng_con (k := 3 + j) (N := [("_law_hamper_here" : Str), ("_law_deep" : Str), ("_law_way" : Str), ("_law_found" : Str), ("_law_place" : Str)]) (ms := m__law_nested (conF__law_nested j)) F sc__law_nested rfl (fun _ _ _ h => h) fun cdv A out s H E B hg hr => ?_
    have hu : A.units + 3 + 64 < cLine := by have := hr.un; exact Nat.lt_of_le_of_lt (by show A.units + 3 + 64 ≤ A.units + 3 + 16 * (3 + j) + 200; omega) this
    rw [le__law_nested] at hr ⊢
    exact dss_cons (ds_set 2 sc__law_nested.nd (de_call (cal_of C__law_plait (hr.mono (by omega)) b__law_plait) hg (da_cons (de_var 0) (da_cons (de_int) (da_nil)))))
      (dss_cons (ds_if (PW.pt (dw_or (dt_cmp op_gt od_cmpI (nomark _) (de_var 2) (de_int)) (dw_or1 (dt_cmp (oo_eqX hu) od_eqX (nomark _) (de_var 1) (de_int))))) (dss_one (ds_ret (de_call (cal_of C__law_of (hr.mono (by omega)) b__law_of) hg (da_cons (de_var 0) (da_cons (de_lst (da_cons (de_op op_sub od_sub (de_call (cal_of C__law_plait (hr.mono (by omega)) b__law_plait) hg (da_cons (de_var 0) (da_cons (de_int) (da_nil)))) (de_int)) (da_cons (de_non) (da_cons (de_bl) (da_cons (de_str) (da_cons (de_str) (da_cons (de_dict (dp_cons (de_int) (de_lst (da_cons (de_int) (da_nil))) (dp_nil))) (da_cons (de_lst (da_nil)) (da_cons (de_tup (da_nil)) (da_cons (de_dict (dp_cons (de_str) (de_tup (da_cons (de_int) (da_cons (de_lst (da_cons (de_int) (da_nil))) (da_nil)))) (dp_nil))) (da_cons (de_op op_pow od_pow (de_int) (de_int)) (da_nil)))))))))))) (da_nil)))))) (dss_nil))
      (dss_cons (ds_setLcV 3 rfl sc__law_nested.nd rfl rfl (sw_true rfl rfl rfl rfl) (di_range1 T.n_range (de_call (cal_of C__law_plait (hr.mono (by omega)) b__law_plait) hg (da_cons (de_var 0) (da_cons (de_int) (da_nil))))) bk__law_nested_0 rfl (by decide) (fun _ _ _ _ _ => dg_name 4 sc__law_nested.nd) (fun _ _ _ _ _ => dts_nil) (fun _ _ _ _ _ => de_call (cal_of C__law_nested (hr.mono (by omega)) b__law_nested) hg (da_cons (de_var 0) (da_cons (de_op op_sub od_sub (de_var 1) (de_int)) (da_nil)))))
      (dss_one (ds_ret (de_if (dt_cmp op_lt od_cmpI (nomark _) (de_var 2) (de_int)) (de_var 3) (de_if (dt_cmp (oo_eqX hu) od_eqX (nomark _) (de_var 2) (de_int)) (de_callT call_tuple_of cd_tuple T.n_tuple bb_tuple (da_cons (de_var 3) (da_nil))) (de_lst (da_cons (de_var 3) (da_nil)))))))))
theorem g__law_own {f : Addr} {fd : FuncData} (F : Fun K "_law_own" "_law_own" s__law_own f fd) (T : Tx K mg)  (hmg : mg "_law_own" = some (.ref f)) : ∀ j : Nat, FnG P w K mg base CX0 (1 + j) f fd [("_law_value" : Str)] (spD K S (conF__law_own j))
  | 0 => ⟨fun vs H Q E ⟨_, _, _, _, _, _, h, _⟩ => h.elim, fun _ _ _ _ _ _ _ _ _ _ _ _ _ _ ⟨_, _, _, _, _, _, h, _⟩ => h.elim⟩
  | j + 1 => by
    have C__law_own : Co P w K mg base S "_law_own" s__law_own [("_law_value" : Str)] (conF__law_own j) (1 + j) := ⟨f, fd, F, g__law_own F T  hmg j, hmg⟩
    refine fng_con (k := 1 + j) (N := [("_law_value" : Str), ("_law_part" : Str)]) (ms := m__law_own (conF__law_own j)) F sc__law_own rfl (fun _ _ _ h => h) fun cdv A out s H E B hg hr => ?_
    have hu : A.units + 3 + 64 < cLine := by have := hr.un; exact Nat.lt_of_le_of_lt (by show A.units + 3 + 64 ≤ A.units + 3 + 16 * (1 + j) + 200; omega) this
    rw [le__law_own] at hr ⊢
    exact dss_cons (ds_if (PW.pt (dw_or (dt_tru (de_callB call_isi cd_isi T.n_isinstance bb_isinstance (da_cons (de_var 0) (da_cons (de_ty rfl T.n_list bb_list) (da_nil))))) (dw_or1 (dt_tru (de_callB call_isi cd_isi T.n_isinstance bb_isinstance (da_cons (de_var 0) (da_cons (de_ty rfl T.n_tuple bb_tuple) (da_nil)))))))) (dss_one (ds_ret (de_callT call_tuple_of cd_tuple T.n_tuple bb_tuple (da_cons (de_lcV rfl sc__law_own.nd (di_seq (de_var 0)) bk__law_own_0 rfl (by decide) (fun _ _ _ _ _ => dg_name 1 sc__law_own.nd) (fun _ _ _ _ _ => dts_nil) (fun _ _ _ _ _ => de_call (cal_of C__law_own (hr.mono (by omega)) b__law_own) hg (da_cons (de_var 1) (da_nil)))) (da_nil))))) (dss_nil))
      (dss_one (ds_ret (de_var 0)))
theorem g_law {f : Addr} {fd : FuncData} (F : Fun K "law" "law" s_law f fd) (T : Tx K mg) (C_fixed : Co P w K mg base S "fixed" s_fixed [("value" : Str)] con_fixed 46) (C__law_plait : Co P w K mg base S "_law_plait" s__law_plait [("_law_hamper_here" : Str), ("_law_many" : Str)] con__law_plait 1) (C__law_nested : Co P w K mg base S "_law_nested" s__law_nested [("_law_hamper_here" : Str), ("_law_deep" : Str)] con__law_nested 48) (C__law_own : Co P w K mg base S "_law_own" s__law_own [("_law_value" : Str)] con__law_own 46) {fq : Addr} {fdq : FuncData} (FQ : FnG P w K mg base CX0 1 fq fdq [("_law_script" : Str)] (spQuay K)) (hmq : mg "_law_hamper" = some (.ref fq)) (hkq : PySem.W.keepIn K (.ref fq) = true) (hbq : Binds K fdq [("_law_script" : Str)] [])
    (hms : m_law noX ((List.replicate 7 Sl.no).set 1 (.val .box)) 0 { nx := fun _ _ => False, rt := fun d _ => d = .bl true }) : FnG P w K mg base CX0 49 f fd [("_law_script" : Str)] (spLaw K) := by
  refine fng_law (S := S) (k := 48) (i := 1) (N := [("_law_script" : Str), ("_law_hamper_here" : Str), ("_law_turn" : Str), ("_law_value" : Str), ("_law_before" : Str), ("_law_due" : Str), ("_law_deep" : Str)]) (ms := m_law) F sc_law FQ (by decide) hmq hkq hbq rfl rfl rfl (by decide) (by decide) (Or.inl rfl) (by first | exact Or.inl rfl | exact Or.inr rfl) rfl (by decide) (by decide) (by decide) (fun _ => rfl) (fun _ => rfl) (fun _ => rfl) hms fun cdv A out s H H1 E b cl cells hg hr => ?_
  have hu : A.units + 3 + 64 < cLine := by have := hr.un; show _; exact Nat.lt_of_le_of_lt (by show A.units + 3 + 64 ≤ A.units + 3 + 16 * 48 + 200; omega) this
  rw [le_law] at hr ⊢
  exact dss_cons (ds_for PassesOwn.never rfl (di_range1 T.n_range (de_int)) (dg_name 2 sc_law.nd) (dss_cons (ds_set 3 sc_law.nd (de_lst (da_cons (de_call (cal_of C__law_nested (hr.mono (by omega)) b__law_nested) hg (da_cons (de_var 1) (da_cons (de_int) (da_nil)))) (da_cons (de_call (cal_of C__law_nested (hr.mono (by omega)) b__law_nested) hg (da_cons (de_var 1) (da_cons (de_int) (da_nil)))) (da_nil)))))
    (dss_cons (ds_par 4 5 rfl sc_law.nd rfl rfl (by decide) rfl rfl (da_cons (de_callB (call_reprX hg hr) cd_reprX T.n_repr bb_repr (da_cons (de_var 3) (da_nil))) (da_cons (de_call (cal_of C__law_own (hr.mono (by omega)) b__law_own) hg (da_cons (de_var 3) (da_nil))) (da_nil))) rfl)
    (dss_cons (ds_if (PW.pt (dw_or (dt_cmp (oo_neX hu) od_neX (nomark _) (de_callB (call_reprX hg hr) cd_reprX T.n_repr bb_repr (da_cons (de_call (cal_of C_fixed (hr.mono (by omega)) b_fixed) hg (da_cons (de_var 3) (da_nil))) (da_nil))) (de_callB (call_reprX hg hr) cd_reprX T.n_repr bb_repr (da_cons (de_var 5) (da_nil)))) (dw_or (dt_cmp (oo_neX hu) od_neX (nomark _) (de_callB (call_reprX hg hr) cd_reprX T.n_repr bb_repr (da_cons (de_callK0 (calK_of C_fixed (hr.mono (by omega)) kb_fixed_0_value) hg (dk_cons (de_callT call_tuple_of cd_tuple T.n_tuple bb_tuple (da_cons (de_var 3) (da_nil))) (dk_nil))) (da_nil))) (de_callB (call_reprX hg hr) cd_reprX T.n_repr bb_repr (da_cons (de_var 5) (da_nil)))) (dw_or (dt_cmp (oo_neX hu) od_neX (nomark _) (de_callB (call_reprX hg hr) cd_reprX T.n_repr bb_repr (da_cons (de_var 3) (da_nil))) (de_var 4)) (dw_or1 (dt_cmp (oo_neX hu) od_neX (nomark _) (de_callB (call_reprX hg hr) cd_reprX T.n_repr bb_repr (da_cons (de_call (cal_of C_fixed (hr.mono (by omega)) b_fixed) hg (da_cons (de_var 5) (da_nil))) (da_nil))) (de_callB (call_reprX hg hr) cd_reprX T.n_repr bb_repr (da_cons (de_var 5) (da_nil))))))))) (dss_one (ds_ret (de_bl))) (dss_nil))
    (dss_one (ds_if (dt_cmp (oo_neX hu) od_neX (nomark _) (de_callB (call_reprX hg hr) cd_reprX T.n_repr bb_repr (da_cons (de_call (cal_of C_fixed (hr.mono (by omega)) b_fixed) hg (da_cons (de_ix (de_var 3) (de_int)) (da_nil))) (da_nil))) (de_callB (call_reprX hg hr) cd_reprX T.n_repr bb_repr (da_cons (de_ix (de_var 5) (de_int)) (da_nil)))) (dss_one (ds_ret (de_bl))) (dss_nil)))))))
    (dss_cons (ds_set 6 sc_law.nd (de_call (cal_of C__law_plait (hr.mono (by omega)) b__law_plait) hg (da_cons (de_var 1) (da_cons (de_int) (da_nil)))))
    (dss_cons (ds_for PassesOwn.never rfl (di_range1 T.n_range (de_int)) (dg_name 2 sc_law.nd) (dss_one (ds_set 6 sc_law.nd (de_if (dt_cmp (oo_eqX hu) od_eqX (nomark _) (de_call (cal_of C__law_plait (hr.mono (by omega)) b__law_plait) hg (da_cons (de_var 1) (da_cons (de_int) (da_nil)))) (de_int)) (de_lst (da_cons (de_var 6) (da_nil))) (de_tup (da_cons (de_var 6) (da_nil)))))))
    (dss_one (ds_ret (de_and (de_cmp (oo_eqX hu) od_eqX (nomark _) (de_callB (call_reprX hg hr) cd_reprX T.n_repr bb_repr (da_cons (de_call (cal_of C_fixed (hr.mono (by omega)) b_fixed) hg (da_cons (de_var 6) (da_nil))) (da_nil))) (de_callB (call_reprX hg hr) cd_reprX T.n_repr bb_repr (da_cons (de_call (cal_of C__law_own (hr.mono (by omega)) b__law_own) hg (da_cons (de_var 6) (da_nil))) (da_nil)))) (de_and (de_cmp (oo_eqX hu) od_eqX (nomark _) (de_call (cal_of C_fixed (hr.mono (by omega)) b_fixed) hg (da_cons (de_str) (da_nil))) (de_str)) (de_and (de_cmp oo_is od_is (nomark _) (de_call (cal_of C_fixed (hr.mono (by omega)) b_fixed) hg (da_cons (de_non) (da_nil))) (de_non)) (de_one (de_cmp (oo_eqX hu) od_eqX (nomark _) (de_callB (call_reprX hg hr) cd_reprX T.n_repr bb_repr (da_cons (de_call (cal_of C_fixed (hr.mono (by omega)) b_fixed) hg (da_cons (de_dict (dp_cons (de_int) (de_lst (da_cons (de_int) (da_nil))) (dp_nil))) (da_nil))) (da_nil))) (de_str))))))))))
end
theorem all_mk {l : PySem.W.OpenLaw} {w : World} {K : PySem.W.Frag} {h : Heap} {mg : Str → Option Value} {fa : Addr} (X : K.In h) (G : h.Ns mainGlobals mg) (hfa : mg "law" = some (.ref fa))
    {f0 : Addr} {od0 an0 : Option Addr} {sl0 : Array (Option Value)} {oc0 kV0 dc0 pm0 cd0 ct0 : Value}
    (a0 : PySem.W.nsIn K mainGlobals "fixed" = some (some (.ref f0)))
    (l0 : K.lookup f0 = some ⟨oc0, od0, .func (PySem.W.fnOf "fixed" "fixed" (defArgs s_fixed) (defBody s_fixed) (defScope s_fixed) .none kV0 dc0 pm0 an0 cd0 ct0), sl0⟩)
    (c0 : PySem.W.codeIn K cd0 "fixed" = true) (k0 : PySem.W.keepIn K (.ref f0) = true)
    {f1 : Addr} {od1 an1 : Option Addr} {sl1 : Array (Option Value)} {oc1 kV1 dc1 pm1 cd1 ct1 : Value}
    (a1 : PySem.W.nsIn K mainGlobals "_law_hamper" = some (some (.ref f1)))
    (l1 : K.lookup f1 = some ⟨oc1, od1, .func (PySem.W.fnOf "_law_hamper" "_law_hamper" (defArgs s__law_hamper) (defBody s__law_hamper) (defScope s__law_hamper) .none kV1 dc1 pm1 an1 cd1 ct1), sl1⟩)
    (c1 : PySem.W.codeIn K cd1 "_law_hamper" = true) (k1 : PySem.W.keepIn K (.ref f1) = true)
    {f2 : Addr} {od2 an2 : Option Addr} {sl2 : Array (Option Value)} {oc2 kV2 dc2 pm2 cd2 ct2 : Value}
    (a2 : PySem.W.nsIn K mainGlobals "_law_plait" = some (some (.ref f2)))
    (l2 : K.lookup f2 = some ⟨oc2, od2, .func (PySem.W.fnOf "_law_plait" "_law_plait" (defArgs s__law_plait) (defBody s__law_plait) (defScope s__law_plait) .none kV2 dc2 pm2 an2 cd2 ct2), sl2⟩)
    (c2 : PySem.W.codeIn K cd2 "_law_plait" = true) (k2 : PySem.W.keepIn K (.ref f2) = true)
    {f3 : Addr} {od3 an3 : Option Addr} {sl3 : Array (Option Value)} {oc3 kV3 dc3 pm3 cd3 ct3 : Value}
    (a3 : PySem.W.nsIn K mainGlobals "_law_of" = some (some (.ref f3)))
    (l3 : K.lookup f3 = some ⟨oc3, od3, .func (PySem.W.fnOf "_law_of" "_law_of" (defArgs s__law_of) (defBody s__law_of) (defScope s__law_of) .none kV3 dc3 pm3 an3 cd3 ct3), sl3⟩)
    (c3 : PySem.W.codeIn K cd3 "_law_of" = true) (k3 : PySem.W.keepIn K (.ref f3) = true)
    {f4 : Addr} {od4 an4 : Option Addr} {sl4 : Array (Option Value)} {oc4 kV4 dc4 pm4 cd4 ct4 : Value}
    (a4 : PySem.W.nsIn K mainGlobals "_law_nested" = some (some (.ref f4)))
    (l4 : K.lookup f4 = some ⟨oc4, od4, .func (PySem.W.fnOf "_law_nested" "_law_nested" (defArgs s__law_nested) (defBody s__law_nested) (defScope s__law_nested) .none kV4 dc4 pm4 an4 cd4 ct4), sl4⟩)
    (c4 : PySem.W.codeIn K cd4 "_law_nested" = true) (k4 : PySem.W.keepIn K (.ref f4) = true)
    {f5 : Addr} {od5 an5 : Option Addr} {sl5 : Array (Option Value)} {oc5 kV5 dc5 pm5 cd5 ct5 : Value}
    (a5 : PySem.W.nsIn K mainGlobals "_law_own" = some (some (.ref f5)))
    (l5 : K.lookup f5 = some ⟨oc5, od5, .func (PySem.W.fnOf "_law_own" "_law_own" (defArgs s__law_own) (defBody s__law_own) (defScope s__law_own) .none kV5 dc5 pm5 an5 cd5 ct5), sl5⟩)
    (c5 : PySem.W.codeIn K cd5 "_law_own" = true) (k5 : PySem.W.keepIn K (.ref f5) = true)
    {f6 : Addr} {od6 an6 : Option Addr} {sl6 : Array (Option Value)} {oc6 kV6 dc6 pm6 cd6 ct6 : Value}
    (a6 : PySem.W.nsIn K mainGlobals "law" = some (some (.ref f6)))
    (l6 : K.lookup f6 = some ⟨oc6, od6, .func (PySem.W.fnOf "law" "law" (defArgs s_law) (defBody s_law) (defScope s_law) .none kV6 dc6 pm6 an6 cd6 ct6), sl6⟩)
    (c6 : PySem.W.codeIn K cd6 "law" = true) (k6 : PySem.W.keepIn K (.ref f6) = true)
    (z_abs : PySem.W.nsIn K mainGlobals "abs" = some none)
    (z_int : PySem.W.nsIn K mainGlobals "int" = some none)
    (z_isinstance : PySem.W.nsIn K mainGlobals "isinstance" = some none)
    (z_len : PySem.W.nsIn K mainGlobals "len" = some none)
    (z_list : PySem.W.nsIn K mainGlobals "list" = some none)
    (z_range : PySem.W.nsIn K mainGlobals "range" = some none)
    (z_repr : PySem.W.nsIn K mainGlobals "repr" = some none)
    (z_tuple : PySem.W.nsIn K mainGlobals "tuple" = some none)
    (hdraw : ∀ cells ds n kk, conDraw noX ds n kk → conOf 2 6 (m__law_plait cells) noX ds n kk) (hms : m_law noX ((List.replicate 7 Sl.no).set 1 (.val .box)) 0 { nx := fun _ _ => False, rt := fun d _ => d = .bl true }) :
    ∃ fd : FuncData, (∀ (s : Shared) (v : Value), BindsTo s fd ⟨[v], []⟩ [(("_law_script" : Str), v)]) ∧ ∀ base : Heap, K.In base → base.Ns mainGlobals mg → FnG l.prog w K mg base CX0 49 fa fd [("_law_script" : Str)] (spLaw K) := by
  have e := hfa.symm.trans (PySem.W.mg_of X G a6)
  cases e
  have T : Tx K mg := ⟨PySem.W.mg_none_of X G z_abs, PySem.W.mg_none_of X G z_int, PySem.W.mg_none_of X G z_isinstance, PySem.W.mg_none_of X G z_len, PySem.W.mg_none_of X G z_list, PySem.W.mg_none_of X G z_range, PySem.W.mg_none_of X G z_repr, PySem.W.mg_none_of X G z_tuple⟩
  have F0 := fun_mk (st := s_fixed) l0 c0 k0
  have M0 := PySem.W.mg_of X G a0
  have F1 := fun_mk (st := s__law_hamper) l1 c1 k1
  have M1 := PySem.W.mg_of X G a1
  have F2 := fun_mk (st := s__law_plait) l2 c2 k2
  have M2 := PySem.W.mg_of X G a2
  have F3 := fun_mk (st := s__law_of) l3 c3 k3
  have M3 := PySem.W.mg_of X G a3
  have F4 := fun_mk (st := s__law_nested) l4 c4 k4
  have M4 := PySem.W.mg_of X G a4
  have F5 := fun_mk (st := s__law_own) l5 c5 k5
  have M5 := PySem.W.mg_of X G a5
  have F6 := fun_mk (st := s_law) l6 c6 k6
  have M6 := PySem.W.mg_of X G a6
  refine ⟨PySem.W.fnOf "law" "law" (defArgs s_law) (defBody s_law) (defScope s_law) .none kV6 dc6 pm6 an6 cd6 ct6, fun s v => .of_eq (b_law kV6 dc6 pm6 an6 cd6 ct6 [v] rfl), fun base _ _ => ?_⟩
  have C_fixed : Co l.prog w K mg base (fun _ => False) "fixed" s_fixed [("value" : Str)] con_fixed 46 := co_mk (N := []) F0 M0 fun F => g_fixed F T  M0 45
  have C__law_plait : Co l.prog w K mg base (fun _ => False) "_law_plait" s__law_plait [("_law_hamper_here" : Str), ("_law_many" : Str)] con__law_plait 1 := co_mk (N := []) F2 M2 fun F => g__law_plait F T  hdraw
  have C__law_of : Co l.prog w K mg base (fun _ => False) "_law_of" s__law_of [("_law_hamper_here" : Str), ("_law_some" : Str)] con__law_of 2 := co_mk (N := []) F3 M3 fun F => g__law_of F T C__law_plait
  have C__law_nested : Co l.prog w K mg base (fun _ => False) "_law_nested" s__law_nested [("_law_hamper_here" : Str), ("_law_deep" : Str)] con__law_nested 48 := co_mk (N := []) F4 M4 fun F => g__law_nested F T C__law_plait C__law_of M4 45
  have C__law_own : Co l.prog w K mg base (fun _ => False) "_law_own" s__law_own [("_law_value" : Str)] con__law_own 46 := co_mk (N := []) F5 M5 fun F => g__law_own F T  M5 45
  exact g_law (S := fun _ => False) F6 T C_fixed C__law_plait C__law_nested C__law_own (g__law_hamper F1 T) M1 F1.kp (F1.binds b__law_hamper) hms
end K04
namespace DS
open PySem PySem.Spec PyProof.Rows L2
/-! ### reading a run in plain terms -/
section
variable {ms mt : MS} {ε : XD} {ρ : Ev} {n : Nat} {P : Pn}
theorem seq_i (h : ∀ R : Ev → Nat → Prop, (∀ ρ' n', mt ε ρ' n' P → R ρ' n') → ms ε ρ n { nx := R, rt := P.rt, bk := P.bk, ct := P.ct }) : mSeq ms mt ε ρ n P := h _ fun _ _ h => h
end
section
variable {k : D → Prop} {a b : Int} {c : Bool}
theorem ek_add : optK (addD (.int a) (.int b)) k = k (.int (a + b)) := rfl
theorem ek_sub : optK (subD (.int a) (.int b)) k = k (.int (a - b)) := rfl
theorem ek_neg : optK (negD (.int a)) k = k (.int (-a)) := rfl
theorem ek_cmp {g : Int → Int → Bool} : optK (cmpI g (.int a) (.int b)) k = k (.bl (g a b)) := rfl
theorem ek_int : optK (intD [.int a]) k = k (.int a) := rfl
theorem ek_intb : optK (intD [.bl c]) k = k (.int (if c then 1 else 0)) := rfl
theorem ek_abs : optK (absD [.int a]) k = k (.int (if a < 0 then -a else a)) := rfl
theorem ek_if {p : Prop} [Decidable p] {d : D} : optK (if p then some d else none) k = (p ∧ k d) := by
  by_cases h : p
  · rw [if_pos h]; exact propext ⟨fun z => ⟨h, z⟩, fun z => z.2⟩
  · rw [if_neg h]; exact propext ⟨fun z => z.elim, fun z => absurd z.1 h⟩
theorem ek_mul : optK (mulD (.int a) (.int b)) k = (((-(2 ^ 64) < a ∧ a < 2 ^ 64) ∨ (-(2 ^ 64) < b ∧ b < 2 ^ 64)) ∧ k (.int (a * b))) := ek_if
theorem ek_fdiv : optK (fdivD (.int a) (.int b)) k = ((0 < b ∧ b < 1073741824) ∧ k (.int (a / b))) := ek_if
theorem ek_mod : optK (modD (.int a) (.int b)) k = (0 < b ∧ k (.int (a % b))) := ek_if
theorem ek_pow : optK (powD (.int a) (.int b)) k = ((0 ≤ b ∧ b ≤ 1000000 ∧ a.natAbs < 2 ^ 64) ∧ k (.int (a ^ b.toNat))) := ek_if
theorem ek_str : optK (strD [.int a]) k = (a.natAbs.log2 < 1920 ∧ k (.str (toString a))) := ek_if
theorem ek_len {xs : List D} : optK (lenD [.lst xs]) k = k (.int xs.length) := rfl
theorem ek_lenT {xs : List D} : optK (lenD [.tup xs]) k = k (.int xs.length) := rfl
theorem ek_lst {xs : List D} : optK (lstD xs) k = (xs.length ≤ 1000 ∧ k (.lst xs)) := ek_if
theorem ek_tup {xs : List D} : optK (tupD xs) k = (xs.length ≤ 1000 ∧ k (.tup xs)) := ek_if
theorem ek_addL {xs ys : List D} : optK (addD (.lst xs) (.lst ys)) k = (xs.length + ys.length ≤ sizeLine ∧ k (.lst (xs ++ ys))) := ek_if
theorem ek_addT {xs ys : List D} : optK (addD (.tup xs) (.tup ys)) k = (xs.length + ys.length ≤ sizeLine ∧ k (.tup (xs ++ ys))) := ek_if
theorem ek_rep {xs : List D} : optK (mulD (.lst xs) (.int a)) k = ((-(2 ^ 63) ≤ a ∧ a < 2 ^ 63 ∧ xs.length * a.toNat ≤ sizeLine) ∧ k (.lst (List.replicate a.toNat xs).flatten)) := ek_if
theorem ek_tupl {xs : List D} : optK (tupleD [.lst xs]) k = k (.tup xs) := rfl
theorem ek_slL {xs : List D} {lo hi : Option Int} : optK (slD (.lst xs) lo hi) k = k (.lst (cutD xs lo hi)) := rfl
theorem ek_some {α : Type} {x : α} {q : α → Prop} : optK (some x) q = q x := rfl
end
theorem shaped_ints (l : List Int) : SeqAt.shaped (PyData.list (l.map PyData.int)) = true := by
  have h1 : ∀ l : List Int, PyData.canLayAll0 (l.map PyData.int) = true := fun l => by
    induction l with
    | nil => rfl
    | cons a b ih => rw [List.map_cons]; simp [PyData.canLayAll0, PyData.canLay0, ih]
  have h2 : ∀ l : List Int, PyData.depthAll (l.map PyData.int) = 0 := fun l => by
    induction l with
    | nil => rfl
    | cons a b ih => rw [List.map_cons]; simp [PyData.depthAll, PyData.depth, ih]
  simp [SeqAt.shaped, PyData.canLay0, PyData.depth, h1, h2]
theorem at_ints {l : List Int} {i : Int} (h1 : 0 ≤ i) (h2 : i < l.length) : ∃ c : Int, ixD (.lst (l.map D.int)) (.int i) = some (.int c) := by
  obtain ⟨m, rfl⟩ := Int.eq_ofNat_of_zero_le h1
  have hm : m < l.length := by omega
  refine ⟨l[m], ?_⟩
  show L2.atI (l.map D.int) (m : Int) = _
  have e : L2.ixN (l.map D.int).length (m : Int) = some m := by
    unfold L2.ixN
    rw [List.length_map]
    simp [hm]
  unfold L2.atI
  rw [e]
  simp [hm]
theorem ite_i {p A B : Prop} [Decidable p] (h : p → A) (g : ¬ p → B) : if p then A else B := by
  by_cases z : p
  · rw [if_pos z]; exact h z
  · rw [if_neg z]; exact g z
theorem nb_add {a b : Int} {A B : Nat} (h : a.natAbs ≤ A) (g : b.natAbs ≤ B) : (a + b).natAbs ≤ A + B := by omega
theorem nb_mul {a b : Int} {A B : Nat} (h : a.natAbs ≤ A) (g : b.natAbs ≤ B) : (a * b).natAbs ≤ A * B := by rw [Int.natAbs_mul]; exact Nat.mul_le_mul h g
theorem cut_len (xs : List D) (lo hi : Option Int) : (cutD xs lo hi).length ≤ xs.length := by
  unfold cutD
  rw [List.length_take, List.length_drop]
  omega
theorem cut_mem {xs : List D} {lo hi : Option Int} {x : D} (h : x ∈ cutD xs lo hi) : x ∈ xs := List.mem_of_mem_drop (List.mem_of_mem_take h)
/-! in the draw: the cells against [], a cell by its place -/
theorem ne_nil {k : D → Prop} (cells : List Int) : (k (.bl (!cells.isEmpty))) → optK (neD (.lst (cells.map D.int)) (.lst [])) k := by
  intro h
  cases cells with
  | nil => exact h
  | cons i r =>
    have hp : ∀ l : List Int, pyDs (l.map D.int) = some (l.map PyData.int) := fun l => by
      induction l with
      | nil => rfl
      | cons a b ih => rw [List.map_cons, pyDs, ih]; rfl
    have hs : SeqAt.shaped (PyData.list ((i :: r).map PyData.int)) = true := shaped_ints _
    have e : pyD (.lst ((i :: r).map D.int)) = some (.list ((i :: r).map PyData.int)) := by rw [pyD, hp]; rfl
    unfold neD
    rw [e]
    show optK (if _ ∧ _ then _ else none) k
    rw [if_pos ⟨hs, rfl⟩]
    exact h
end DS
namespace DS
open PySem PySem.Spec PyProof.Rows L2
/-! ### step by step, each step once -/
section
variable {ma mb : ME} {mr : MA} {ε : XD} {ρ : Ev} {n : Nat} {k : DK} {P : Pn} {i j : Nat}
theorem i_ret (h : ma ε ρ n P.rt) : mRet ma ε ρ n P := h
theorem i_asg {g : GF} (h : ma ε ρ n fun d n1 => optK (g d ρ) fun ρ' => P.nx ρ' n1) : mAsg g ma ε ρ n P := h
theorem i_par (h : mr ε ρ n fun ds n1 => match ds with | [x, y] => P.nx ((ρ.set i (.val x)).set j (.val y)) n1 | _ => False) : mPar i j mr ε ρ n P := h
theorem i_cons {q : List D → Nat → Prop} (h : ma ε ρ n fun d n1 => mr ε ρ n1 fun ds n2 => q (d :: ds) n2) : mCons ma mr ε ρ n q := h
theorem i_nil {q : List D → Nat → Prop} (h : q [] n) : mNil ε ρ n q := h
theorem i_args {g : List D → Option D} (h : mr ε ρ n fun ds n1 => optK (g ds) fun d => k d n1) : mArgs g mr ε ρ n k := h
theorem i_c {d : D} (h : k d n) : mC d ε ρ n k := h
theorem i_var {d : D} (e : ρ[i]? = some (.val d)) (h : k d n) : mVar i ε ρ n k := by unfold mVar; rw [e]; exact h
theorem i_op {g : D → D → Option D} (h : ma ε ρ n fun x n1 => mb ε ρ n1 fun y n2 => optK (g x y) fun d => k d n2) : mOp g ma mb ε ρ n k := h
theorem i_un {g : D → Option D} (h : ma ε ρ n fun x n1 => optK (g x) fun d => k d n1) : mUn g ma ε ρ n k := h
theorem i_call {con : Con} (h : mr ε ρ n fun ds n1 => con noX ds n1 k) : mCall con mr ε ρ n k := h
theorem i_sl {ml mh : MO} (h : ma ε ρ n fun x n1 => ml ε ρ n1 fun lo n2 => mh ε ρ n2 fun hi n3 => optK (slD x lo hi) fun d => k d n3) : mSl ma ml mh ε ρ n k := h
theorem i_noP {q : Option Int → Nat → Prop} (h : q none n) : mNoP ε ρ n q := h
theorem i_part {q : Option Int → Nat → Prop} (h : ma ε ρ n fun d n1 => match d with | .int i => q (some i) n1 | _ => False) : mPart ma ε ρ n q := h
theorem i_andV (h : ma ε ρ n fun d n1 => optK (truthD d) fun b => if b = true then mb ε ρ n1 k else k d n1) : mAndV ma mb ε ρ n k := h
theorem i_if {t : MT} {ms mt : MS} (h : t ε ρ n fun b n1 => if b = true then ms ε ρ n1 P else mt ε ρ n1 P) : mIf t ms mt ε ρ n P := h
theorem i_or {ta tb : MT} {q : Bool → Nat → Prop} (h : ta ε ρ n fun b n1 => if b = true then q true n1 else tb ε ρ n1 q) : mOr ta tb ε ρ n q := h
theorem i_bl {q : Bool → Nat → Prop} (h : ma ε ρ n fun d n1 => match d with | .bl b => q b n1 | _ => False) : mBl ma ε ρ n q := h
theorem i_ifE {t : MT} (h : t ε ρ n fun b n1 => if b = true then ma ε ρ n1 k else mb ε ρ n1 k) : mIfE t ma mb ε ρ n k := h
theorem i_tru {q : Bool → Nat → Prop} (h : ma ε ρ n fun d n1 => optK (truthD d) fun b => q b n1) : mTru ma ε ρ n q := h
theorem i_for {mi : MA} {g : GF} {ms : MS} (h : mi ε ρ n fun ds n1 => forD (fun d ρ n P => optK (g d ρ) fun ρ' => ms ε ρ' n P) ds ρ n1 P) : mFor mi g ms ε ρ n P := h
theorem i_iterL {i : Nat} {q : List D → Nat → Prop} {xs : List D} (e : ρ[i]? = some (.val (.lst xs))) (h : q xs n) : mIter (mVar i) ε ρ n q := by
  show mVar i ε ρ n _
  exact i_var e h
theorem i_partV {q : Option Int → Nat → Prop} {x : Int} {i : Nat} (e : ρ[i]? = some (.val (.int x))) (h : q (some x) n) : mPart (mVar i) ε ρ n q := by
  show mVar i ε ρ n _
  exact i_var e h
end
section
variable {k : D → Prop} {a b : Int} {xs ys : List D} {lo hi : Option Int}
theorem o_isB {x y : Bool} (h : k (.bl (decide (x = y)))) : optK (isD (.bl x) (.bl y)) k := h
theorem o_truth {x : Bool} {q : Bool → Prop} (h : q x) : optK (truthD (.bl x)) q := h
theorem o_some {α : Type} {x : α} {q : α → Prop} (h : q x) : optK (some x) q := h
theorem o_add (h : k (.int (a + b))) : optK (addD (.int a) (.int b)) k := h
theorem o_sub (h : k (.int (a - b))) : optK (subD (.int a) (.int b)) k := h
theorem o_neg (h : k (.int (-a))) : optK (negD (.int a)) k := h
theorem o_lst (c : Nat.ble xs.length 1000 = true) (h : k (.lst xs)) : optK (lstD xs) k := by rw [ek_lst]; exact ⟨Nat.le_of_ble_eq_true c, h⟩
theorem o_tup (c : Nat.ble xs.length 1000 = true) (h : k (.tup xs)) : optK (tupD xs) k := by rw [ek_tup]; exact ⟨Nat.le_of_ble_eq_true c, h⟩
theorem o_pow (c : 0 ≤ b ∧ b ≤ 1000000 ∧ a.natAbs < 2 ^ 64) (h : k (.int (a ^ b.toNat))) : optK (powD (.int a) (.int b)) k := by rw [ek_pow]; exact ⟨c, h⟩
theorem o_tupl (h : k (.tup xs)) : optK (tupleD [.lst xs]) k := h
theorem o_slL (h : k (.lst (cutD xs lo hi))) : optK (slD (.lst xs) lo hi) k := h
theorem o_addL (c : xs.length + ys.length ≤ sizeLine) (h : k (.lst (xs ++ ys))) : optK (addD (.lst xs) (.lst ys)) k := by rw [ek_addL]; exact ⟨c, h⟩
theorem o_addT (c : xs.length + ys.length ≤ sizeLine) (h : k (.tup (xs ++ ys))) : optK (addD (.tup xs) (.tup ys)) k := by rw [ek_addT]; exact ⟨c, h⟩
theorem o_rep (c : -(2 ^ 63) ≤ a ∧ a < 2 ^ 63 ∧ xs.length * a.toNat ≤ sizeLine) (h : k (.lst (List.replicate a.toNat xs).flatten)) : optK (mulD (.lst xs) (.int a)) k := by rw [ek_rep]; exact ⟨c, h⟩
theorem o_name {i : Nat} {d : D} {ρ : Ev} {q : Ev → Prop} (h : q (ρ.set i (.val d))) : optK (gfName i d ρ) q := h
end
end DS
namespace K04
open PySem PySem.Spec PyProof.Rows L2 DS
theorem draw_ok : ∀ cells ds n kk, conDraw noX ds n kk → conOf 2 6 (m__law_plait cells) noX ds n kk := by
  intro cells ds n kk h
  unfold conDraw at h
  split at h
  · rename_i many
    obtain ⟨⟨h1, h2⟩, hn, hk⟩ := h
    have hm : ∀ (x : Int) (n2 : Nat), n ≤ n2 → n2 ≤ n + 1 → kk (.int (x % many)) n2 := fun x n2 g1 g2 => hk _ _ (Int.emod_nonneg x (by omega)) (Int.emod_lt_of_pos x h1) g1 g2
    have hd : ∀ x : Int, 0 ≤ x → 0 ≤ x / many := fun x hx => Int.ediv_nonneg hx (by omega)
    refine ⟨rfl, ?_⟩
    show m__law_plait cells noX [.val .box, .val (.int many), .no, .no, .no, .no] n _
    unfold m__law_plait
    refine seq_i fun R hR => ?_
    simp only [↓mSeq, ↓mIf, ↓mBl, ↓mOp, ↓mUn, ↓mTru, ↓mNot, ↓mAnd, ↓mOr, ↓mBox0, ↓mBox1, ↓mBox2, ↓mPut1, ↓mPut2, ↓mAsg, ↓mPar, ↓mRet, ↓mRetN, ↓mCall, ↓mCallK, ↓mAndV, ↓mOrV, ↓mNotV, ↓mUn1, ↓mChain, ↓mIfE, wipeE, ↓mDrop, ↓mNext, ↓mYes, ↓gfName, ↓gfTup, ↓gsCons, ↓gsNil, Option.bind_some, ↓mC, ↓mVar, ↓mNil, ↓mCons, ↓mArgs, List.getElem?_cons_zero, List.getElem?_cons_succ, List.set_cons_zero, List.set_cons_succ, ↓ek_add, ↓ek_sub, ↓ek_neg, ↓ek_cmp, ↓ek_int, ↓ek_intb, ↓ek_abs, ↓ek_mul, ↓ek_fdiv, ↓ek_mod, ↓ek_pow, ↓ek_str, ↓ek_len, ↓ek_lenT, ↓ek_lst, ↓ek_tup, ↓ek_some, ↓ek_addL, ↓ek_addT, ↓ek_rep, ↓ek_tupl, ↓ek_slL, ↓mSl, ↓mNoP, ↓mPart, List.length_map, decide_eq_true_eq]
    intro r hr
    refine ite_i (fun _ r2 h3 => ⟨⟨h1, h2⟩, hd _ h3, h1, hm _ _ (by omega) (by omega)⟩) fun _ => hR _ _ ?_
    clear hR
    refine seq_i fun R hR => ?_
    simp only [↓mSeq, ↓mIf, ↓mBl, ↓mOp, ↓mUn, ↓mTru, ↓mNot, ↓mAnd, ↓mOr, ↓mBox0, ↓mBox1, ↓mBox2, ↓mPut1, ↓mPut2, ↓mAsg, ↓mPar, ↓mRet, ↓mRetN, ↓mCall, ↓mCallK, ↓mAndV, ↓mOrV, ↓mNotV, ↓mUn1, ↓mChain, ↓mIfE, wipeE, ↓mDrop, ↓mNext, ↓mYes, ↓gfName, ↓gfTup, ↓gsCons, ↓gsNil, Option.bind_some, ↓mC, ↓mVar, ↓mNil, ↓mCons, ↓mArgs, List.getElem?_cons_zero, List.getElem?_cons_succ, List.set_cons_zero, List.set_cons_succ, ↓ek_add, ↓ek_sub, ↓ek_neg, ↓ek_cmp, ↓ek_int, ↓ek_intb, ↓ek_abs, ↓ek_mul, ↓ek_fdiv, ↓ek_mod, ↓ek_pow, ↓ek_str, ↓ek_len, ↓ek_lenT, ↓ek_lst, ↓ek_tup, ↓ek_some, ↓ek_addL, ↓ek_addT, ↓ek_rep, ↓ek_tupl, ↓ek_slL, ↓mSl, ↓mNoP, ↓mPart, List.length_map, decide_eq_true_eq]
    intro lap l0 l1
    refine hR _ _ ?_
    clear hR
    refine seq_i fun R hR => ?_
    simp only [↓mSeq, ↓mIf, ↓mBl, ↓mOp, ↓mUn, ↓mTru, ↓mNot, ↓mAnd, ↓mOr, ↓mBox0, ↓mBox1, ↓mBox2, ↓mPut1, ↓mPut2, ↓mAsg, ↓mPar, ↓mRet, ↓mRetN, ↓mCall, ↓mCallK, ↓mAndV, ↓mOrV, ↓mNotV, ↓mUn1, ↓mChain, ↓mIfE, wipeE, ↓mDrop, ↓mNext, ↓mYes, ↓gfName, ↓gfTup, ↓gsCons, ↓gsNil, Option.bind_some, ↓mC, ↓mVar, ↓mNil, ↓mCons, ↓mArgs, List.getElem?_cons_zero, List.getElem?_cons_succ, List.set_cons_zero, List.set_cons_succ, ↓ek_add, ↓ek_sub, ↓ek_neg, ↓ek_cmp, ↓ek_int, ↓ek_intb, ↓ek_abs, ↓ek_mul, ↓ek_fdiv, ↓ek_mod, ↓ek_pow, ↓ek_str, ↓ek_len, ↓ek_lenT, ↓ek_lst, ↓ek_tup, ↓ek_some, ↓ek_addL, ↓ek_addT, ↓ek_rep, ↓ek_tupl, ↓ek_slL, ↓mSl, ↓mNoP, ↓mPart, List.length_map, decide_eq_true_eq]
    refine ⟨⟨by omega, by omega⟩, hR _ _ ?_⟩
    clear hR
    refine seq_i fun R hR => ?_
    simp only [↓mSeq, ↓mIf, ↓mBl, ↓mOp, ↓mUn, ↓mTru, ↓mNot, ↓mAnd, ↓mOr, ↓mBox0, ↓mBox1, ↓mBox2, ↓mPut1, ↓mPut2, ↓mAsg, ↓mPar, ↓mRet, ↓mRetN, ↓mCall, ↓mCallK, ↓mAndV, ↓mOrV, ↓mNotV, ↓mUn1, ↓mChain, ↓mIfE, wipeE, ↓mDrop, ↓mNext, ↓mYes, ↓gfName, ↓gfTup, ↓gsCons, ↓gsNil, Option.bind_some, ↓mC, ↓mVar, ↓mNil, ↓mCons, ↓mArgs, List.getElem?_cons_zero, List.getElem?_cons_succ, List.set_cons_zero, List.set_cons_succ, ↓ek_add, ↓ek_sub, ↓ek_neg, ↓ek_cmp, ↓ek_int, ↓ek_intb, ↓ek_abs, ↓ek_mul, ↓ek_fdiv, ↓ek_mod, ↓ek_pow, ↓ek_str, ↓ek_len, ↓ek_lenT, ↓ek_lst, ↓ek_tup, ↓ek_some, ↓ek_addL, ↓ek_addT, ↓ek_rep, ↓ek_tupl, ↓ek_slL, ↓mSl, ↓mNoP, ↓mPart, List.length_map, decide_eq_true_eq]
    refine ⟨.inl ⟨by decide, by decide⟩, hR _ _ ?_⟩
    clear hR
    refine seq_i fun R hR => ?_
    simp only [↓mSeq, ↓mIf, ↓mBl, ↓mOp, ↓mUn, ↓mTru, ↓mNot, ↓mAnd, ↓mOr, ↓mBox0, ↓mBox1, ↓mBox2, ↓mPut1, ↓mPut2, ↓mAsg, ↓mPar, ↓mRet, ↓mRetN, ↓mCall, ↓mCallK, ↓mAndV, ↓mOrV, ↓mNotV, ↓mUn1, ↓mChain, ↓mIfE, wipeE, ↓mDrop, ↓mNext, ↓mYes, ↓gfName, ↓gfTup, ↓gsCons, ↓gsNil, Option.bind_some, ↓mC, ↓mVar, ↓mNil, ↓mCons, ↓mArgs, List.getElem?_cons_zero, List.getElem?_cons_succ, List.set_cons_zero, List.set_cons_succ, ↓ek_add, ↓ek_sub, ↓ek_neg, ↓ek_cmp, ↓ek_int, ↓ek_intb, ↓ek_abs, ↓ek_mul, ↓ek_fdiv, ↓ek_mod, ↓ek_pow, ↓ek_str, ↓ek_len, ↓ek_lenT, ↓ek_lst, ↓ek_tup, ↓ek_some, ↓ek_addL, ↓ek_addT, ↓ek_rep, ↓ek_tupl, ↓ek_slL, ↓mSl, ↓mNoP, ↓mPart, List.length_map, decide_eq_true_eq]
    have tail : ∀ c : Int, R [.val .box, .val (.int many), .no, .val (.int lap), .val (.int c), .no] (n + 1) := fun c => by
      refine hR _ _ ?_
      clear hR
      refine seq_i fun R hR => ?_
      have tail2 : R [.val .box, .val (.int many), .no, .val (.int lap), .val (.int c), .no] (n + 1) := by
        refine hR _ _ ?_
        clear hR
        refine seq_i fun R hR => ?_
        simp only [↓mSeq, ↓mIf, ↓mBl, ↓mOp, ↓mUn, ↓mTru, ↓mNot, ↓mAnd, ↓mOr, ↓mBox0, ↓mBox1, ↓mBox2, ↓mPut1, ↓mPut2, ↓mAsg, ↓mPar, ↓mRet, ↓mRetN, ↓mCall, ↓mCallK, ↓mAndV, ↓mOrV, ↓mNotV, ↓mUn1, ↓mChain, ↓mIfE, wipeE, ↓mDrop, ↓mNext, ↓mYes, ↓gfName, ↓gfTup, ↓gsCons, ↓gsNil, Option.bind_some, ↓mC, ↓mVar, ↓mNil, ↓mCons, ↓mArgs, List.getElem?_cons_zero, List.getElem?_cons_succ, List.set_cons_zero, List.set_cons_succ, ↓ek_add, ↓ek_sub, ↓ek_neg, ↓ek_cmp, ↓ek_int, ↓ek_intb, ↓ek_abs, ↓ek_mul, ↓ek_fdiv, ↓ek_mod, ↓ek_pow, ↓ek_str, ↓ek_len, ↓ek_lenT, ↓ek_lst, ↓ek_tup, ↓ek_some, ↓ek_addL, ↓ek_addT, ↓ek_rep, ↓ek_tupl, ↓ek_slL, ↓mSl, ↓mNoP, ↓mPart, List.length_map, decide_eq_true_eq]
        refine ⟨by decide, .inl ⟨by decide, by decide⟩, ⟨by decide, by decide, by omega⟩, by decide, hR _ _ ?_⟩
        clear hR
        have y0 := Int.emod_nonneg ((c % 2147483497 + 43261 * lap + 6211) ^ (5 : Int).toNat) (show (2147483489 : Int) ≠ 0 by decide)
        have y1 := Int.emod_lt_of_pos ((c % 2147483497 + 43261 * lap + 6211) ^ (5 : Int).toNat) (show (0 : Int) < 2147483489 by decide)
        generalize (c % 2147483497 + 43261 * lap + 6211) ^ (5 : Int).toNat % 2147483489 = y at y0 y1 ⊢
        refine seq_i fun R hR => ?_
        simp only [↓mSeq, ↓mIf, ↓mBl, ↓mOp, ↓mUn, ↓mTru, ↓mNot, ↓mAnd, ↓mOr, ↓mBox0, ↓mBox1, ↓mBox2, ↓mPut1, ↓mPut2, ↓mAsg, ↓mPar, ↓mRet, ↓mRetN, ↓mCall, ↓mCallK, ↓mAndV, ↓mOrV, ↓mNotV, ↓mUn1, ↓mChain, ↓mIfE, wipeE, ↓mDrop, ↓mNext, ↓mYes, ↓gfName, ↓gfTup, ↓gsCons, ↓gsNil, Option.bind_some, ↓mC, ↓mVar, ↓mNil, ↓mCons, ↓mArgs, List.getElem?_cons_zero, List.getElem?_cons_succ, List.set_cons_zero, List.set_cons_succ, ↓ek_add, ↓ek_sub, ↓ek_neg, ↓ek_cmp, ↓ek_int, ↓ek_intb, ↓ek_abs, ↓ek_mul, ↓ek_fdiv, ↓ek_mod, ↓ek_pow, ↓ek_str, ↓ek_len, ↓ek_lenT, ↓ek_lst, ↓ek_tup, ↓ek_some, ↓ek_addL, ↓ek_addT, ↓ek_rep, ↓ek_tupl, ↓ek_slL, ↓mSl, ↓mNoP, ↓mPart, List.length_map, decide_eq_true_eq]
        refine ⟨.inl ⟨by decide, by decide⟩, .inl ⟨by omega, by omega⟩, .inl ⟨by decide, by decide⟩, .inr ⟨by omega, by omega⟩, ⟨by decide, by decide, ?_⟩, by decide, hR _ _ ?_⟩
        · refine Nat.lt_of_le_of_lt (nb_add (nb_add (nb_mul (A := 4294967296) (B := 4000000) ?_ ?_) (nb_mul (A := 200000000000) (B := 1000000) ?_ ?_)) (B := 1000000) ?_) (by decide) <;> omega
        · simp only [↓mSeq, ↓mIf, ↓mBl, ↓mOp, ↓mUn, ↓mTru, ↓mNot, ↓mAnd, ↓mOr, ↓mBox0, ↓mBox1, ↓mBox2, ↓mPut1, ↓mPut2, ↓mAsg, ↓mPar, ↓mRet, ↓mRetN, ↓mCall, ↓mCallK, ↓mAndV, ↓mOrV, ↓mNotV, ↓mUn1, ↓mChain, ↓mIfE, wipeE, ↓mDrop, ↓mNext, ↓mYes, ↓gfName, ↓gfTup, ↓gsCons, ↓gsNil, Option.bind_some, ↓mC, ↓mVar, ↓mNil, ↓mCons, ↓mArgs, List.getElem?_cons_zero, List.getElem?_cons_succ, List.set_cons_zero, List.set_cons_succ, ↓ek_add, ↓ek_sub, ↓ek_neg, ↓ek_cmp, ↓ek_int, ↓ek_intb, ↓ek_abs, ↓ek_mul, ↓ek_fdiv, ↓ek_mod, ↓ek_pow, ↓ek_str, ↓ek_len, ↓ek_lenT, ↓ek_lst, ↓ek_tup, ↓ek_some, ↓ek_addL, ↓ek_addT, ↓ek_rep, ↓ek_tupl, ↓ek_slL, ↓mSl, ↓mNoP, ↓mPart, List.length_map, decide_eq_true_eq]
          refine ⟨by decide, h1, hm _ _ (by omega) (by omega)⟩
      simp only [↓mSeq, ↓mIf, ↓mBl, ↓mOp, ↓mUn, ↓mTru, ↓mNot, ↓mAnd, ↓mOr, ↓mBox0, ↓mBox1, ↓mBox2, ↓mPut1, ↓mPut2, ↓mAsg, ↓mPar, ↓mRet, ↓mRetN, ↓mCall, ↓mCallK, ↓mAndV, ↓mOrV, ↓mNotV, ↓mUn1, ↓mChain, ↓mIfE, wipeE, ↓mDrop, ↓mNext, ↓mYes, ↓gfName, ↓gfTup, ↓gsCons, ↓gsNil, Option.bind_some, ↓mC, ↓mVar, ↓mNil, ↓mCons, ↓mArgs, List.getElem?_cons_zero, List.getElem?_cons_succ, List.set_cons_zero, List.set_cons_succ, ↓ek_add, ↓ek_sub, ↓ek_neg, ↓ek_cmp, ↓ek_int, ↓ek_intb, ↓ek_abs, ↓ek_mul, ↓ek_fdiv, ↓ek_mod, ↓ek_pow, ↓ek_str, ↓ek_len, ↓ek_lenT, ↓ek_lst, ↓ek_tup, ↓ek_some, ↓ek_addL, ↓ek_addT, ↓ek_rep, ↓ek_tupl, ↓ek_slL, ↓mSl, ↓mNoP, ↓mPart, List.length_map, decide_eq_true_eq]
      refine ite_i (fun _ => ⟨by decide, ite_i (fun g => ⟨by decide, .inl ⟨by decide, by decide⟩, ⟨h1, h2⟩, hd _ ?_, h1, hm _ _ (by omega) (by omega)⟩) fun _ => tail2⟩) fun _ => tail2
      have h0 : (0 : Int) ≤ if decide (c < 0) = true then 1 else 0 := by split <;> decide
      omega
    refine ⟨by decide, ne_nil cells ?_⟩
    cases e : cells.isEmpty with
    | true => exact tail _
    | false =>
      have hl : 0 < (cells.length : Int) := by
        cases cells with
        | nil => cases e
        | cons a b => simp only [List.length_cons]; omega
      obtain ⟨c, ec⟩ := at_ints (l := cells) (Int.emod_nonneg lap (by omega)) (Int.emod_lt_of_pos lap hl)
      show if true = true then _ else _
      rw [if_pos rfl, ec]
      exact ⟨hl, tail c⟩
  · exact h.elim
end K04
namespace K04
open PySem PySem.Spec PyProof.Rows L2 DS
mutual
def fx : D → D
  | .lst xs => .tup (fxs xs)
  | .tup xs => .tup (fxs xs)
  | d => d
def fxs : List D → List D
  | [] => []
  | x :: xs => fx x :: fxs xs
end
theorem fxs_map : ∀ xs : List D, fxs xs = xs.map fx
  | [] => by rw [fxs]; rfl
  | x :: xs => by rw [fxs, fxs_map xs]; rfl
inductive Gd : Nat → Nat → D → Prop
  | int {j w : Nat} (i : Int) (h : i.natAbs < 10 ^ 12 ∨ i = 100000000000000000000) (hw : 80 ≤ w) : Gd j w (.int i)
  | non {j w : Nat} : Gd j w .non
  | bl {j w : Nat} (b : Bool) : Gd j w (.bl b)
  | str {j w : Nat} (x : Str) (h : (PyData.str x).leavesShort 30 = true) (hw : x.cps.size ≤ w) : Gd j w (.str x)
  | d1 {j w : Nat} (hj : 3 ≤ j) (hw : 80 ≤ w) : Gd j w (.dct [(.inl 1, .lst [.int 2])])
  | d2 {j w : Nat} (hj : 3 ≤ j) (hw : 80 ≤ w) : Gd j w (.dct [(.inr ("a" : Str), .tup [.int 1, .lst [.int 2]])])
  | lst {j w k v : Nat} (xs : List D) (hj : j < k) (hw : xs.length * (w + 1) ≤ v) (hl : xs.length ≤ 1000) (h : ∀ x ∈ xs, Gd j w x) : Gd k v (.lst xs)
  | tup {j w k v : Nat} (xs : List D) (hj : j < k) (hw : xs.length * (w + 1) ≤ v) (hl : xs.length ≤ 1000) (h : ∀ x ∈ xs, Gd j w x) : Gd k v (.tup xs)
theorem Gd.fix {j w : Nat} {d : D} (h : Gd j w d) : Gd j w (fx d) := by
  induction h with
  | int i h hw => exact .int i h hw
  | non => exact .non
  | bl b => exact .bl b
  | str x h hw => exact .str x h hw
  | d1 hj hw => exact .d1 hj hw
  | d2 hj hw => exact .d2 hj hw
  | lst xs hj hw hl h ih =>
    rw [fx, fxs_map]
    exact .tup _ hj (by rw [List.length_map]; exact hw) (by rw [List.length_map]; exact hl) fun x hx => by obtain ⟨y, hy, rfl⟩ := List.mem_map.mp hx; exact ih y hy
  | tup xs hj hw hl h ih =>
    rw [fx, fxs_map]
    exact .tup _ hj (by rw [List.length_map]; exact hw) (by rw [List.length_map]; exact hl) fun x hx => by obtain ⟨y, hy, rfl⟩ := List.mem_map.mp hx; exact ih y hy
theorem fx_fx {j w : Nat} {d : D} (h : Gd j w d) : fx (fx d) = fx d := by
  induction h with
  | lst xs hj hw hl h ih =>
    rw [fx, fxs_map, fx, fxs_map, List.map_map]
    congr 1
    exact List.map_congr_left fun x hx => ih x hx
  | tup xs hj hw hl h ih =>
    rw [fx, fxs_map, fx, fxs_map, List.map_map]
    congr 1
    exact List.map_congr_left fun x hx => ih x hx
  | _ => rfl
structure Ok (j w : Nat) (d : D) (e : PyData) : Prop where
  py : pyD d = some e
  sh : e.showable = true
  dp : e.depth ≤ j
  lv : e.leavesShort 30 = true
  wt : e.weight ≤ w
theorem oks {j w : Nat} : ∀ xs : List D, (∀ x ∈ xs, ∃ e, Ok j w x e) → ∃ es, pyDs xs = some es ∧ PyData.showableAll es = true ∧ PyData.depthAll es ≤ j ∧ PyData.leavesShortAll 30 es = true ∧ PyData.weightAll es ≤ xs.length * (w + 1)
  | [], _ => ⟨[], by rw [pyDs], rfl, Nat.zero_le _, rfl, Nat.zero_le _⟩
  | x :: xs, h => by
    obtain ⟨e, o⟩ := h x List.mem_cons_self
    obtain ⟨es, h1, h2, h3, h4, h5⟩ := oks xs fun y hy => h y (List.mem_cons_of_mem _ hy)
    refine ⟨e :: es, by rw [pyDs, o.py, h1], by rw [PyData.showableAll, o.sh, h2]; rfl, ?_, by rw [PyData.leavesShortAll, o.lv, h4]; rfl, ?_⟩
    · rw [PyData.depthAll]; exact Nat.max_le.mpr ⟨o.dp, h3⟩
    · rw [PyData.weightAll, List.length_cons, Nat.succ_mul]
      have := o.wt
      omega
theorem ok_of {j w : Nat} {d : D} (h : Gd j w d) : ∃ e, Ok j w d e := by
  induction h with
  | int i h hw =>
    refine ⟨.int i, rfl, ?_, Nat.zero_le _, ?_, ?_⟩
    · rcases h with h | rfl
      · have : i.natAbs.log2 < 1920 := by
          by_cases z : i.natAbs = 0
          · rw [z]; decide
          · exact (Nat.log2_lt z).mpr (Nat.lt_trans h (by decide))
        simp [PyData.showable, this]
      · decide +kernel
    · rcases h with h | rfl
      · have := PyData.shown_int_le h
        rw [PyData.leavesShort]
        exact decide_eq_true (Nat.le_trans this (by decide))
      · decide +kernel
    · rcases h with h | rfl
      · rw [PyData.weight]
        split
        · exact Nat.zero_le _
        · have : i.natAbs.log2 < 40 := by
            by_cases z : i.natAbs = 0
            · rw [z]; decide
            · exact (Nat.log2_lt z).mpr (Nat.lt_trans h (by decide))
          omega
      · exact Nat.le_trans (by decide +kernel) hw
  | non => exact ⟨.none, rfl, rfl, Nat.zero_le _, rfl, Nat.zero_le _⟩
  | bl b => exact ⟨.bool b, rfl, rfl, Nat.zero_le _, rfl, Nat.zero_le _⟩
  | str x h hw => exact ⟨.str x, rfl, rfl, Nat.zero_le _, h, hw⟩
  | d1 hj hw => exact ⟨.dict [(.int 1, .list [.int 2])], rfl, by decide +kernel, Nat.le_trans (by decide +kernel) hj, by decide +kernel, Nat.le_trans (by decide +kernel) hw⟩
  | d2 hj hw => exact ⟨.dict [(.str ("a" : Str), .tuple [.int 1, .list [.int 2]])], rfl, by decide +kernel, Nat.le_trans (by decide +kernel) hj, by decide +kernel, Nat.le_trans (by decide +kernel) hw⟩
  | lst xs hj hw hl h ih =>
    obtain ⟨es, h1, h2, h3, h4, h5⟩ := oks xs ih
    exact ⟨.list es, by rw [pyD, h1]; rfl, h2, by show PyData.depthAll es + 1 ≤ _; omega, h4, Nat.le_trans h5 hw⟩
  | tup xs hj hw hl h ih =>
    obtain ⟨es, h1, h2, h3, h4, h5⟩ := oks xs ih
    exact ⟨.tuple es, by rw [pyD, h1]; rfl, h2, by show PyData.depthAll es + 1 ≤ _; omega, h4, Nat.le_trans h5 hw⟩
theorem rep_of {j w : Nat} {d : D} (h : Gd j w d) (hj : j ≤ 60) (hw : 32 * w + 30 ≤ 2 ^ 24) : ∃ z : Str, reprXD [d] = some (.str z) := by
  obtain ⟨e, o⟩ := ok_of h
  refine ⟨e.shown, ?_⟩
  show (pyD d).bind reprX = _
  rw [o.py]
  have h1 := PyData.shown_le 30 (by decide) e o.lv
  have h2 : (30 + 2) * e.weight ≤ 32 * w := Nat.mul_le_mul (Nat.le_refl 32) o.wt
  exact if_pos ⟨o.sh, Nat.le_trans o.dp hj, Nat.le_trans h1 (by show _ ≤ 2 ^ 24; omega)⟩
end K04
namespace K04
open PySem PySem.Spec PyProof.Rows L2 DS
theorem c_fixed {j w : Nat} {d : D} (h : Gd j w d) : ∀ (f n : Nat) (k : DK), j < f → k (fx d) n → conF_fixed f noX [d] n k := by
  have leaf : ∀ (d : D) (f n j : Nat) (k : DK), j < f → (∀ g n k, k (fx d) n → conOf 1 2 (m_fixed g) noX [d] n k) → k (fx d) n → conF_fixed f noX [d] n k := fun d f n j k hf hc hk => by
    obtain ⟨g, rfl⟩ : ∃ g, f = g + 1 := ⟨f - 1, by omega⟩
    exact hc _ n k hk
  have seq : ∀ (d : D) (xs : List D) (j f n : Nat) (k : DK), (d = .lst xs ∨ d = .tup xs) → (∀ x ∈ xs, ∀ (f n : Nat) (k : DK), j < f → k (fx x) n → conF_fixed f noX [x] n k) → xs.length ≤ 1000 → j + 1 < f → k (fx d) n → conF_fixed f noX [d] n k := by
    intro d xs j f n k hd ih hl hf hk
    obtain ⟨g, rfl⟩ : ∃ g, f = g + 1 := ⟨f - 1, by omega⟩
    have e : fx d = .tup (xs.map fx) := by rcases hd with rfl | rfl <;> rw [fx, fxs_map]
    rw [e] at hk
    have hb : ∀ q : List D → Nat → Prop, mIter (mVar 0) noX [.val d, .no] n q = q xs n := fun q => by rcases hd with rfl | rfl <;> rfl
    refine ⟨rfl, ?_⟩
    have go : mLc (mIter (mVar 0)) (gfName 1) [1] mYes (mCall (conF_fixed g) (mCons (mVar 1) mNil)) noX [.val d, .no] n fun d1 n1 => optK (tupleD [d1]) fun d2 => k d2 n1 := by
      unfold mLc
      rw [hb]
      refine ⟨by omega, comp_map fx n xs _ (fun x hx q hq => ?_) ?_⟩
      · simp only [↓mSeq, ↓mIf, ↓mBl, ↓mOp, ↓mUn, ↓mTru, ↓mNot, ↓mAnd, ↓mOr, ↓mBox0, ↓mBox1, ↓mBox2, ↓mPut1, ↓mPut2, ↓mAsg, ↓mPar, ↓mRet, ↓mRetN, ↓mCall, ↓mCallK, ↓mAndV, ↓mOrV, ↓mNotV, ↓mUn1, ↓mChain, ↓mIfE, wipeE, ↓mDrop, ↓mNext, ↓mYes, ↓gfName, ↓gfTup, ↓gsCons, ↓gsNil, Option.bind_some, ↓mC, ↓mVar, ↓mNil, ↓mCons, ↓mArgs, List.getElem?_cons_zero, List.getElem?_cons_succ, List.set_cons_zero, List.set_cons_succ, ↓ek_add, ↓ek_sub, ↓ek_neg, ↓ek_cmp, ↓ek_int, ↓ek_intb, ↓ek_abs, ↓ek_mul, ↓ek_fdiv, ↓ek_mod, ↓ek_pow, ↓ek_str, ↓ek_len, ↓ek_lenT, ↓ek_lst, ↓ek_tup, ↓ek_some, ↓ek_addL, ↓ek_addT, ↓ek_rep, ↓ek_tupl, ↓ek_slL, ↓mSl, ↓mNoP, ↓mPart, List.length_map, decide_eq_true_eq]
        rw [if_pos True.intro]
        exact ih x hx g n _ (by omega) hq
      · exact hk
    rcases hd with rfl | rfl <;> exact go
  induction h with
  | int i h hw => intro f n k hf hk; exact leaf _ f n _ k hf (fun g n k hk => ⟨rfl, hk⟩) hk
  | non => intro f n k hf hk; exact leaf _ f n _ k hf (fun g n k hk => ⟨rfl, hk⟩) hk
  | bl b => intro f n k hf hk; exact leaf _ f n _ k hf (fun g n k hk => ⟨rfl, hk⟩) hk
  | str x h hw => intro f n k hf hk; exact leaf _ f n _ k hf (fun g n k hk => ⟨rfl, hk⟩) hk
  | d1 hj hw => intro f n k hf hk; exact leaf _ f n _ k hf (fun g n k hk => ⟨rfl, hk⟩) hk
  | d2 hj hw => intro f n k hf hk; exact leaf _ f n _ k hf (fun g n k hk => ⟨rfl, hk⟩) hk
  | lst xs hj hw hl h ih => intro f n k hf hk; exact seq _ xs _ f n k (.inl rfl) ih hl (by omega) hk
  | tup xs hj hw hl h ih => intro f n k hf hk; exact seq _ xs _ f n k (.inr rfl) ih hl (by omega) hk
theorem c_own {j w : Nat} {d : D} (h : Gd j w d) : ∀ (f n : Nat) (k : DK), j < f → k (fx d) n → conF__law_own f noX [d] n k := by
  have leaf : ∀ (d : D) (f n j : Nat) (k : DK), j < f → (∀ g n k, k (fx d) n → conOf 1 2 (m__law_own g) noX [d] n k) → k (fx d) n → conF__law_own f noX [d] n k := fun d f n j k hf hc hk => by
    obtain ⟨g, rfl⟩ : ∃ g, f = g + 1 := ⟨f - 1, by omega⟩
    exact hc _ n k hk
  have seq : ∀ (d : D) (xs : List D) (j f n : Nat) (k : DK), (d = .lst xs ∨ d = .tup xs) → (∀ x ∈ xs, ∀ (f n : Nat) (k : DK), j < f → k (fx x) n → conF__law_own f noX [x] n k) → xs.length ≤ 1000 → j + 1 < f → k (fx d) n → conF__law_own f noX [d] n k := by
    intro d xs j f n k hd ih hl hf hk
    obtain ⟨g, rfl⟩ : ∃ g, f = g + 1 := ⟨f - 1, by omega⟩
    have e : fx d = .tup (xs.map fx) := by rcases hd with rfl | rfl <;> rw [fx, fxs_map]
    rw [e] at hk
    have hb : ∀ q : List D → Nat → Prop, mIter (mVar 0) noX [.val d, .no] n q = q xs n := fun q => by rcases hd with rfl | rfl <;> rfl
    refine ⟨rfl, ?_⟩
    have go : mLc (mIter (mVar 0)) (gfName 1) [1] mYes (mCall (conF__law_own g) (mCons (mVar 1) mNil)) noX [.val d, .no] n fun d1 n1 => optK (tupleD [d1]) fun d2 => k d2 n1 := by
      unfold mLc
      rw [hb]
      refine ⟨by omega, comp_map fx n xs _ (fun x hx q hq => ?_) ?_⟩
      · simp only [↓mSeq, ↓mIf, ↓mBl, ↓mOp, ↓mUn, ↓mTru, ↓mNot, ↓mAnd, ↓mOr, ↓mBox0, ↓mBox1, ↓mBox2, ↓mPut1, ↓mPut2, ↓mAsg, ↓mPar, ↓mRet, ↓mRetN, ↓mCall, ↓mCallK, ↓mAndV, ↓mOrV, ↓mNotV, ↓mUn1, ↓mChain, ↓mIfE, wipeE, ↓mDrop, ↓mNext, ↓mYes, ↓gfName, ↓gfTup, ↓gsCons, ↓gsNil, Option.bind_some, ↓mC, ↓mVar, ↓mNil, ↓mCons, ↓mArgs, List.getElem?_cons_zero, List.getElem?_cons_succ, List.set_cons_zero, List.set_cons_succ, ↓ek_add, ↓ek_sub, ↓ek_neg, ↓ek_cmp, ↓ek_int, ↓ek_intb, ↓ek_abs, ↓ek_mul, ↓ek_fdiv, ↓ek_mod, ↓ek_pow, ↓ek_str, ↓ek_len, ↓ek_lenT, ↓ek_lst, ↓ek_tup, ↓ek_some, ↓ek_addL, ↓ek_addT, ↓ek_rep, ↓ek_tupl, ↓ek_slL, ↓mSl, ↓mNoP, ↓mPart, List.length_map, decide_eq_true_eq]
        rw [if_pos True.intro]
        exact ih x hx g n _ (by omega) hq
      · exact hk
    rcases hd with rfl | rfl <;> exact go
  induction h with
  | int i h hw => intro f n k hf hk; exact leaf _ f n _ k hf (fun g n k hk => ⟨rfl, hk⟩) hk
  | non => intro f n k hf hk; exact leaf _ f n _ k hf (fun g n k hk => ⟨rfl, hk⟩) hk
  | bl b => intro f n k hf hk; exact leaf _ f n _ k hf (fun g n k hk => ⟨rfl, hk⟩) hk
  | str x h hw => intro f n k hf hk; exact leaf _ f n _ k hf (fun g n k hk => ⟨rfl, hk⟩) hk
  | d1 hj hw => intro f n k hf hk; exact leaf _ f n _ k hf (fun g n k hk => ⟨rfl, hk⟩) hk
  | d2 hj hw => intro f n k hf hk; exact leaf _ f n _ k hf (fun g n k hk => ⟨rfl, hk⟩) hk
  | lst xs hj hw hl h ih => intro f n k hf hk; exact seq _ xs _ f n k (.inl rfl) ih hl (by omega) hk
  | tup xs hj hw hl h ih => intro f n k hf hk; exact seq _ xs _ f n k (.inr rfl) ih hl (by omega) hk
end K04
namespace K04
open PySem PySem.Spec PyProof.Rows L2 DS
theorem at_lst {l : List D} {i : Int} (h1 : 0 ≤ i) (h2 : i < l.length) : ∃ x, x ∈ l ∧ ixD (.lst l) (.int i) = some x := by
  obtain ⟨m, rfl⟩ := Int.eq_ofNat_of_zero_le h1
  have hm : m < l.length := by omega
  refine ⟨l[m], List.getElem_mem hm, ?_⟩
  show L2.atI l (m : Int) = _
  have e : L2.ixN l.length (m : Int) = some m := by
    unfold L2.ixN
    simp [hm]
  unfold L2.atI
  rw [e]
  simp [hm]
theorem le_lit {a b : Nat} (h : Nat.ble a b = true) : a ≤ b := Nat.le_of_ble_eq_true h
theorem c_draw {m : Int} {n : Nat} {k : DK} (h : 0 < m ∧ m < 1073741824) (hn : n < 1000000) (hk : ∀ (r : Int) (n2 : Nat), 0 ≤ r → r < m → n ≤ n2 → n2 ≤ n + 1 → k (.int r) n2) : con__law_plait noX [.box, .int m] n k := ⟨h, hn, hk⟩
theorem c_of {xs : List D} {n : Nat} {k : DK} (h0 : 0 < xs.length) (h1 : xs.length ≤ 1000) (hn : n < 1000000) (hk : ∀ x ∈ xs, ∀ n2, n ≤ n2 → n2 ≤ n + 1 → k x n2) : con__law_of noX [.box, .lst xs] n k := by
  refine ⟨rfl, ?_⟩
  show m__law_of noX [.val .box, .val (.lst xs)] n _
  unfold m__law_of
  simp only [↓mSeq, ↓mIf, ↓mBl, ↓mOp, ↓mUn, ↓mTru, ↓mNot, ↓mAnd, ↓mOr, ↓mBox0, ↓mBox1, ↓mBox2, ↓mPut1, ↓mPut2, ↓mAsg, ↓mPar, ↓mRet, ↓mRetN, ↓mCall, ↓mCallK, ↓mAndV, ↓mOrV, ↓mNotV, ↓mUn1, ↓mChain, ↓mIfE, wipeE, ↓mDrop, ↓mNext, ↓mYes, ↓gfName, ↓gfTup, ↓gsCons, ↓gsNil, Option.bind_some, ↓mC, ↓mVar, ↓mNil, ↓mCons, ↓mArgs, List.getElem?_cons_zero, List.getElem?_cons_succ, List.set_cons_zero, List.set_cons_succ, ↓ek_add, ↓ek_sub, ↓ek_neg, ↓ek_cmp, ↓ek_int, ↓ek_intb, ↓ek_abs, ↓ek_mul, ↓ek_fdiv, ↓ek_mod, ↓ek_pow, ↓ek_str, ↓ek_len, ↓ek_lenT, ↓ek_lst, ↓ek_tup, ↓ek_some, ↓ek_addL, ↓ek_addT, ↓ek_rep, ↓ek_tupl, ↓ek_slL, ↓mSl, ↓mNoP, ↓mPart, List.length_map, decide_eq_true_eq]
  refine c_draw ⟨by omega, by omega⟩ hn fun r n2 r0 r1 n0 n1 => ?_
  obtain ⟨x, hx, e⟩ := at_lst r0 r1
  show optK (ixD (.lst xs) (.int r)) _
  rw [e]
  exact hk x hx n2 n0 n1
theorem dict_1 {ε : XD} {ρ : Ev} {n : Nat} {k : DK} (h : k (.dct [(.inl 1, .lst [.int 2])]) n) : mDict (mPcons (mC (.int 1)) (mArgs lstD (mCons (mC (.int 2)) (mNil))) (mPnil)) ε ρ n k := h
theorem dict_a {ε : XD} {ρ : Ev} {n : Nat} {k : DK} {a : Str} (h : k (.dct [(.inr a, .tup [.int 1, .lst [.int 2]])]) n) : mDict (mPcons (mC (.str a)) (mArgs tupD (mCons (mC (.int 1)) (mCons (mArgs lstD (mCons (mC (.int 2)) (mNil))) (mNil)))) (mPnil)) ε ρ n k := h
def m_leaf : MS := (mRet (mCall con__law_of (mCons (mVar 0) (mCons (mArgs lstD (mCons (mOp subD (mCall con__law_plait (mCons (mVar 0) (mCons (mC (.int 9)) (mNil)))) (mC (.int 4))) (mCons (mC .non) (mCons (mC (.bl true)) (mCons (mC (.str ("" : Str))) (mCons (mC (.str ("join" : Str))) (mCons (mDict (mPcons (mC (.int 1)) (mArgs lstD (mCons (mC (.int 2)) (mNil))) (mPnil))) (mCons (mArgs lstD (mNil)) (mCons (mArgs tupD (mNil)) (mCons (mDict (mPcons (mC (.str ("a" : Str))) (mArgs tupD (mCons (mC (.int 1)) (mCons (mArgs lstD (mCons (mC (.int 2)) (mNil))) (mNil)))) (mPnil))) (mCons (mOp powD (mC (.int 10)) (mC (.int 20))) (mNil)))))))))))) (mNil)))))
theorem c_leaf {m way : Int} {n : Nat} {P : Pn} (hn : n < 900000) (hk : ∀ v n2, Gd 4 100 v → n ≤ n2 → n2 ≤ n + 2 → P.rt v n2) : m_leaf noX [.val .box, .val (.int m), .val (.int way), .no, .no] n P := by
  unfold m_leaf
  repeat first | (with_reducible refine i_cons ?_) | (with_reducible refine i_nil ?_) | (with_reducible refine i_args ?_) | (with_reducible refine i_c ?_) | ((with_reducible apply i_var); exact rfl) | (with_reducible refine i_op ?_) | (with_reducible refine i_un ?_) | (with_reducible refine i_call ?_) | (with_reducible refine i_sl ?_) | (with_reducible refine i_noP ?_) | ((with_reducible apply i_partV); exact rfl) | (with_reducible refine i_ret ?_) | (with_reducible refine i_asg ?_) | (with_reducible refine i_par ?_) | (with_reducible refine i_if ?_) | (with_reducible refine i_or ?_) | (with_reducible refine i_bl ?_) | (with_reducible refine i_ifE ?_) | (with_reducible refine i_tru ?_) | (with_reducible refine o_add ?_) | (with_reducible refine o_sub ?_) | (with_reducible refine o_neg ?_) | ((with_reducible refine o_lst ?_ ?_); · exact rfl) | ((with_reducible refine o_tup ?_ ?_); · exact rfl) | (with_reducible refine o_tupl ?_) | (with_reducible refine o_slL ?_) | (with_reducible refine o_name ?_) | (with_reducible refine o_some ?_)
  refine c_draw ⟨by decide, by decide⟩ (by omega) fun r n1 r0 r1 a0 a1 => ?_
  repeat first | (with_reducible refine i_cons ?_) | (with_reducible refine i_nil ?_) | (with_reducible refine i_args ?_) | (with_reducible refine i_c ?_) | ((with_reducible apply i_var); exact rfl) | (with_reducible refine i_op ?_) | (with_reducible refine i_un ?_) | (with_reducible refine i_call ?_) | (with_reducible refine i_sl ?_) | (with_reducible refine i_noP ?_) | ((with_reducible apply i_partV); exact rfl) | (with_reducible refine i_ret ?_) | (with_reducible refine i_asg ?_) | (with_reducible refine i_par ?_) | (with_reducible refine i_if ?_) | (with_reducible refine i_or ?_) | (with_reducible refine i_bl ?_) | (with_reducible refine i_ifE ?_) | (with_reducible refine i_tru ?_) | (with_reducible refine o_add ?_) | (with_reducible refine o_sub ?_) | (with_reducible refine o_neg ?_) | ((with_reducible refine o_lst ?_ ?_); · exact rfl) | ((with_reducible refine o_tup ?_ ?_); · exact rfl) | (with_reducible refine o_tupl ?_) | (with_reducible refine o_slL ?_) | (with_reducible refine o_name ?_) | (with_reducible refine o_some ?_)
  refine dict_1 ?_
  repeat first | (with_reducible refine i_cons ?_) | (with_reducible refine i_nil ?_) | (with_reducible refine i_args ?_) | (with_reducible refine i_c ?_) | ((with_reducible apply i_var); exact rfl) | (with_reducible refine i_op ?_) | (with_reducible refine i_un ?_) | (with_reducible refine i_call ?_) | (with_reducible refine i_sl ?_) | (with_reducible refine i_noP ?_) | ((with_reducible apply i_partV); exact rfl) | (with_reducible refine i_ret ?_) | (with_reducible refine i_asg ?_) | (with_reducible refine i_par ?_) | (with_reducible refine i_if ?_) | (with_reducible refine i_or ?_) | (with_reducible refine i_bl ?_) | (with_reducible refine i_ifE ?_) | (with_reducible refine i_tru ?_) | (with_reducible refine o_add ?_) | (with_reducible refine o_sub ?_) | (with_reducible refine o_neg ?_) | ((with_reducible refine o_lst ?_ ?_); · exact rfl) | ((with_reducible refine o_tup ?_ ?_); · exact rfl) | (with_reducible refine o_tupl ?_) | (with_reducible refine o_slL ?_) | (with_reducible refine o_name ?_) | (with_reducible refine o_some ?_)
  refine dict_a ?_
  repeat first | (with_reducible refine i_cons ?_) | (with_reducible refine i_nil ?_) | (with_reducible refine i_args ?_) | (with_reducible refine i_c ?_) | ((with_reducible apply i_var); exact rfl) | (with_reducible refine i_op ?_) | (with_reducible refine i_un ?_) | (with_reducible refine i_call ?_) | (with_reducible refine i_sl ?_) | (with_reducible refine i_noP ?_) | ((with_reducible apply i_partV); exact rfl) | (with_reducible refine i_ret ?_) | (with_reducible refine i_asg ?_) | (with_reducible refine i_par ?_) | (with_reducible refine i_if ?_) | (with_reducible refine i_or ?_) | (with_reducible refine i_bl ?_) | (with_reducible refine i_ifE ?_) | (with_reducible refine i_tru ?_) | (with_reducible refine o_add ?_) | (with_reducible refine o_sub ?_) | (with_reducible refine o_neg ?_) | ((with_reducible refine o_lst ?_ ?_); · exact rfl) | ((with_reducible refine o_tup ?_ ?_); · exact rfl) | (with_reducible refine o_tupl ?_) | (with_reducible refine o_slL ?_) | (with_reducible refine o_name ?_) | (with_reducible refine o_some ?_)
  refine o_pow ⟨by decide, by decide, by decide⟩ ?_
  repeat first | (with_reducible refine i_cons ?_) | (with_reducible refine i_nil ?_) | (with_reducible refine i_args ?_) | (with_reducible refine i_c ?_) | ((with_reducible apply i_var); exact rfl) | (with_reducible refine i_op ?_) | (with_reducible refine i_un ?_) | (with_reducible refine i_call ?_) | (with_reducible refine i_sl ?_) | (with_reducible refine i_noP ?_) | ((with_reducible apply i_partV); exact rfl) | (with_reducible refine i_ret ?_) | (with_reducible refine i_asg ?_) | (with_reducible refine i_par ?_) | (with_reducible refine i_if ?_) | (with_reducible refine i_or ?_) | (with_reducible refine i_bl ?_) | (with_reducible refine i_ifE ?_) | (with_reducible refine i_tru ?_) | (with_reducible refine o_add ?_) | (with_reducible refine o_sub ?_) | (with_reducible refine o_neg ?_) | ((with_reducible refine o_lst ?_ ?_); · exact rfl) | ((with_reducible refine o_tup ?_ ?_); · exact rfl) | (with_reducible refine o_tupl ?_) | (with_reducible refine o_slL ?_) | (with_reducible refine o_name ?_) | (with_reducible refine o_some ?_)
  refine c_of (le_lit rfl) (le_lit rfl) (by omega) fun v hv n2 b0 b1 => ?_
  refine hk v n2 ?_ (by omega) (by omega)
  simp only [List.mem_cons, List.not_mem_nil, or_false] at hv
  rcases hv with rfl | rfl | rfl | rfl | rfl | rfl | rfl | rfl | rfl | rfl
  · exact .int _ (.inl (by omega)) (by decide)
  · exact .non
  · exact .bl _
  · exact .str _ (by decide +kernel) (by decide +kernel)
  · exact .str _ (by decide +kernel) (by decide +kernel)
  · exact .d1 (by decide) (by decide)
  · exact .lst (j := 0) (w := 0) [] (by decide) (by decide) (by decide) (fun _ z => nomatch z)
  · exact .tup (j := 0) (w := 0) [] (by decide) (by decide) (by decide) (fun _ z => nomatch z)
  · exact .d2 (by decide) (by decide)
  · exact .int _ (.inr (by decide)) (by decide)
end K04
namespace K04
open PySem PySem.Spec PyProof.Rows L2 DS
theorem Gd.mono {j w : Nat} {d : D} (h : Gd j w d) {j2 w2 : Nat} (hj2 : j ≤ j2) (hw2 : w ≤ w2) : Gd j2 w2 d := by
  cases h with
  | int i h hw => exact .int i h (Nat.le_trans hw hw2)
  | non => exact .non
  | bl b => exact .bl b
  | str x h hw => exact .str x h (Nat.le_trans hw hw2)
  | d1 hj hw => exact .d1 (Nat.le_trans hj hj2) (Nat.le_trans hw hw2)
  | d2 hj hw => exact .d2 (Nat.le_trans hj hj2) (Nat.le_trans hw hw2)
  | lst xs hj hw hl h => exact .lst xs (Nat.lt_of_lt_of_le hj hj2) (Nat.le_trans hw hw2) hl h
  | tup xs hj hw hl h => exact .tup xs (Nat.lt_of_lt_of_le hj hj2) (Nat.le_trans hw hw2) hl h
def Wt : Nat → Nat
  | 0 => 100
  | m + 1 => 3 * (Wt m + 1) + 1
def Ct : Nat → Nat
  | 0 => 3
  | m + 1 => 3 * Ct m + 3
theorem Wt_ge : ∀ m, 100 ≤ Wt m
  | 0 => Nat.le_refl _
  | m + 1 => by have := Wt_ge m; show 100 ≤ 3 * (Wt m + 1) + 1; omega
theorem Ct_ge : ∀ m, 3 ≤ Ct m
  | 0 => Nat.le_refl _
  | m + 1 => by show 3 ≤ 3 * Ct m + 3; omega
theorem comp_gd {st : D → Nat → (Option D → Nat → Prop) → Prop} (G : D → Prop) (c N : Nat) : ∀ (ds : List D) (n : Nat) (k : List D → Nat → Prop), n + ds.length * c < N →
    (∀ d ∈ ds, ∀ (n : Nat) (k : Option D → Nat → Prop), n + c < N → (∀ (v : D) (n2 : Nat), G v → n ≤ n2 → n2 ≤ n + c → k (some v) n2) → st d n k) →
    (∀ vs : List D, vs.length = ds.length → (∀ v ∈ vs, G v) → ∀ n2, n ≤ n2 → n2 ≤ n + ds.length * c → k vs n2) → compD st ds n k
  | [], n, k, _, _, h => h [] rfl (fun _ z => nomatch z) n (Nat.le_refl _) (Nat.le_add_right _ _)
  | d :: ds, n, k, hN, hs, h => by
    rw [List.length_cons, Nat.succ_mul] at hN
    refine hs d List.mem_cons_self n _ (by omega) fun v n2 gv a0 a1 => ?_
    refine comp_gd G c N ds n2 _ (by omega) (fun d' hd => hs d' (List.mem_cons_of_mem _ hd)) fun vs hl hv n3 b0 b1 => ?_
    refine h (v :: vs) (by simp [hl]) (fun x hx => ?_) n3 (by omega) (by rw [List.length_cons, Nat.succ_mul]; omega)
    rcases List.mem_cons.mp hx with rfl | hx
    · exact gv
    · exact hv x hx
theorem o_cmp {g : Int → Int → Bool} {a b : Int} {k : D → Prop} (h : k (.bl (g a b))) : optK (cmpI g (.int a) (.int b)) k := h
theorem o_eqI {a b : Int} {k : D → Prop} (h : k (.bl (a == b))) : optK (eqX (.int a) (.int b)) k := h
theorem i_rng {ma : ME} {ε : XD} {ρ : Ev} {n : Nat} {q : List D → Nat → Prop} (h : ma ε ρ n fun d n1 => match d with | .int j => (-(2 ^ 62) ≤ j ∧ j < 2 ^ 62) ∧ q (range1D j) n1 | _ => False) : mRange1 ma ε ρ n q := h
theorem i_lc {mi : MA} {g : GF} {vs : List Nat} {tt : MT} {te : ME} {ε : XD} {ρ : Ev} {n : Nat} {k : DK} (h : mi ε ρ n fun ds n1 => ds.length ≤ 1000000 ∧
  compD (fun d n k => optK (g d (wipeE ρ vs)) fun ρ' => tt noX ρ' n fun b n2 => if b = true then te noX ρ' n2 fun y n3 => k (some y) n3 else k none n2) ds n1 fun xs n2 => k (.lst xs) n2) : mLc mi g vs tt te ε ρ n k := h
theorem len_range1 (z : Int) : (range1D z).length = z.toNat := by unfold range1D; rw [List.length_map, List.length_range]
theorem c_nested : ∀ (m f n : Nat) (k : DK), m < f → n + Ct m < 900000 → (∀ v n2, Gd (4 + 2 * m) (Wt m) v → n ≤ n2 → n2 ≤ n + Ct m → k v n2) → conF__law_nested f noX [.box, .int (m : Nat)] n k
  | 0, f, n, k, hf, hn, hk => by
    obtain ⟨g, rfl⟩ : ∃ g, f = g + 1 := ⟨f - 1, by omega⟩
    have hn' : n + 3 < 900000 := hn
    have hk' : ∀ v n2, Gd 4 100 v → n ≤ n2 → n2 ≤ n + 3 → k v n2 := hk
    refine ⟨rfl, ?_⟩
    show m__law_nested (conF__law_nested g) noX [.val .box, .val (.int 0), .no, .no, .no] n _
    unfold m__law_nested
    refine seq_i fun R hR => ?_
    repeat first | (with_reducible refine i_cons ?_) | (with_reducible refine i_nil ?_) | (with_reducible refine i_args ?_) | (with_reducible refine i_c ?_) | ((with_reducible apply i_var); exact rfl) | (with_reducible refine i_op ?_) | (with_reducible refine i_un ?_) | (with_reducible refine i_call ?_) | (with_reducible refine i_sl ?_) | (with_reducible refine i_noP ?_) | ((with_reducible apply i_partV); exact rfl) | (with_reducible refine i_ret ?_) | (with_reducible refine i_asg ?_) | (with_reducible refine i_par ?_) | (with_reducible refine i_if ?_) | (with_reducible refine i_or ?_) | (with_reducible refine i_bl ?_) | (with_reducible refine i_ifE ?_) | (with_reducible refine i_tru ?_) | (with_reducible refine o_add ?_) | (with_reducible refine o_sub ?_) | (with_reducible refine o_neg ?_) | ((with_reducible refine o_lst ?_ ?_); · exact rfl) | ((with_reducible refine o_tup ?_ ?_); · exact rfl) | (with_reducible refine o_tupl ?_) | (with_reducible refine o_slL ?_) | (with_reducible refine o_name ?_) | (with_reducible refine o_some ?_)
    refine c_draw ⟨by decide, by decide⟩ (by omega) fun way n1 r0 r1 a0 a1 => ?_
    repeat first | (with_reducible refine i_cons ?_) | (with_reducible refine i_nil ?_) | (with_reducible refine i_args ?_) | (with_reducible refine i_c ?_) | ((with_reducible apply i_var); exact rfl) | (with_reducible refine i_op ?_) | (with_reducible refine i_un ?_) | (with_reducible refine i_call ?_) | (with_reducible refine i_sl ?_) | (with_reducible refine i_noP ?_) | ((with_reducible apply i_partV); exact rfl) | (with_reducible refine i_ret ?_) | (with_reducible refine i_asg ?_) | (with_reducible refine i_par ?_) | (with_reducible refine i_if ?_) | (with_reducible refine i_or ?_) | (with_reducible refine i_bl ?_) | (with_reducible refine i_ifE ?_) | (with_reducible refine i_tru ?_) | (with_reducible refine o_add ?_) | (with_reducible refine o_sub ?_) | (with_reducible refine o_neg ?_) | ((with_reducible refine o_lst ?_ ?_); · exact rfl) | ((with_reducible refine o_tup ?_ ?_); · exact rfl) | (with_reducible refine o_tupl ?_) | (with_reducible refine o_slL ?_) | (with_reducible refine o_name ?_) | (with_reducible refine o_some ?_)
    refine hR _ _ ?_
    clear hR
    refine seq_i fun R hR => ?_
    repeat first | (with_reducible refine i_cons ?_) | (with_reducible refine i_nil ?_) | (with_reducible refine i_args ?_) | (with_reducible refine i_c ?_) | ((with_reducible apply i_var); exact rfl) | (with_reducible refine i_op ?_) | (with_reducible refine i_un ?_) | (with_reducible refine i_call ?_) | (with_reducible refine i_sl ?_) | (with_reducible refine i_noP ?_) | ((with_reducible apply i_partV); exact rfl) | (with_reducible refine i_ret ?_) | (with_reducible refine i_asg ?_) | (with_reducible refine i_par ?_) | (with_reducible refine i_if ?_) | (with_reducible refine i_or ?_) | (with_reducible refine i_bl ?_) | (with_reducible refine i_ifE ?_) | (with_reducible refine i_tru ?_) | (with_reducible refine o_add ?_) | (with_reducible refine o_sub ?_) | (with_reducible refine o_neg ?_) | ((with_reducible refine o_lst ?_ ?_); · exact rfl) | ((with_reducible refine o_tup ?_ ?_); · exact rfl) | (with_reducible refine o_tupl ?_) | (with_reducible refine o_slL ?_) | (with_reducible refine o_name ?_) | (with_reducible refine o_some ?_)
    refine o_cmp ?_
    show if decide (3 < way) = true then _ else _
    refine ite_i (fun _ => ?_) fun _ => ?_
    · show m_leaf noX [.val .box, .val (.int 0), .val (.int way), .no, .no] n1 _
      exact c_leaf (by omega) fun v n2 gv b0 b1 => hk' v n2 gv (by omega) (by omega)
    · show m_leaf noX [.val .box, .val (.int 0), .val (.int way), .no, .no] n1 _
      exact c_leaf (by omega) fun v n2 gv b0 b1 => hk' v n2 gv (by omega) (by omega)
  | m + 1, f, n, k, hf, hn, hk => by
    obtain ⟨g, rfl⟩ : ∃ g, f = g + 1 := ⟨f - 1, by omega⟩
    have hn' : n + (3 * Ct m + 3) < 900000 := hn
    have hk' : ∀ v n2, Gd (4 + 2 * (m + 1)) (3 * (Wt m + 1) + 1) v → n ≤ n2 → n2 ≤ n + (3 * Ct m + 3) → k v n2 := hk
    have wg := Wt_ge m
    refine ⟨rfl, ?_⟩
    show m__law_nested (conF__law_nested g) noX [.val .box, .val (.int ((m + 1 : Nat) : Int)), .no, .no, .no] n _
    unfold m__law_nested
    refine seq_i fun R hR => ?_
    repeat first | (with_reducible refine i_cons ?_) | (with_reducible refine i_nil ?_) | (with_reducible refine i_args ?_) | (with_reducible refine i_c ?_) | ((with_reducible apply i_var); exact rfl) | (with_reducible refine i_op ?_) | (with_reducible refine i_un ?_) | (with_reducible refine i_call ?_) | (with_reducible refine i_sl ?_) | (with_reducible refine i_noP ?_) | ((with_reducible apply i_partV); exact rfl) | (with_reducible refine i_ret ?_) | (with_reducible refine i_asg ?_) | (with_reducible refine i_par ?_) | (with_reducible refine i_if ?_) | (with_reducible refine i_or ?_) | (with_reducible refine i_bl ?_) | (with_reducible refine i_ifE ?_) | (with_reducible refine i_tru ?_) | (with_reducible refine o_add ?_) | (with_reducible refine o_sub ?_) | (with_reducible refine o_neg ?_) | ((with_reducible refine o_lst ?_ ?_); · exact rfl) | ((with_reducible refine o_tup ?_ ?_); · exact rfl) | (with_reducible refine o_tupl ?_) | (with_reducible refine o_slL ?_) | (with_reducible refine o_name ?_) | (with_reducible refine o_some ?_)
    refine c_draw ⟨by decide, by decide⟩ (by omega) fun way n1 r0 r1 a0 a1 => ?_
    repeat first | (with_reducible refine i_cons ?_) | (with_reducible refine i_nil ?_) | (with_reducible refine i_args ?_) | (with_reducible refine i_c ?_) | ((with_reducible apply i_var); exact rfl) | (with_reducible refine i_op ?_) | (with_reducible refine i_un ?_) | (with_reducible refine i_call ?_) | (with_reducible refine i_sl ?_) | (with_reducible refine i_noP ?_) | ((with_reducible apply i_partV); exact rfl) | (with_reducible refine i_ret ?_) | (with_reducible refine i_asg ?_) | (with_reducible refine i_par ?_) | (with_reducible refine i_if ?_) | (with_reducible refine i_or ?_) | (with_reducible refine i_bl ?_) | (with_reducible refine i_ifE ?_) | (with_reducible refine i_tru ?_) | (with_reducible refine o_add ?_) | (with_reducible refine o_sub ?_) | (with_reducible refine o_neg ?_) | ((with_reducible refine o_lst ?_ ?_); · exact rfl) | ((with_reducible refine o_tup ?_ ?_); · exact rfl) | (with_reducible refine o_tupl ?_) | (with_reducible refine o_slL ?_) | (with_reducible refine o_name ?_) | (with_reducible refine o_some ?_)
    refine hR _ _ ?_
    clear hR
    refine seq_i fun R hR => ?_
    repeat first | (with_reducible refine i_cons ?_) | (with_reducible refine i_nil ?_) | (with_reducible refine i_args ?_) | (with_reducible refine i_c ?_) | ((with_reducible apply i_var); exact rfl) | (with_reducible refine i_op ?_) | (with_reducible refine i_un ?_) | (with_reducible refine i_call ?_) | (with_reducible refine i_sl ?_) | (with_reducible refine i_noP ?_) | ((with_reducible apply i_partV); exact rfl) | (with_reducible refine i_ret ?_) | (with_reducible refine i_asg ?_) | (with_reducible refine i_par ?_) | (with_reducible refine i_if ?_) | (with_reducible refine i_or ?_) | (with_reducible refine i_bl ?_) | (with_reducible refine i_ifE ?_) | (with_reducible refine i_tru ?_) | (with_reducible refine o_add ?_) | (with_reducible refine o_sub ?_) | (with_reducible refine o_neg ?_) | ((with_reducible refine o_lst ?_ ?_); · exact rfl) | ((with_reducible refine o_tup ?_ ?_); · exact rfl) | (with_reducible refine o_tupl ?_) | (with_reducible refine o_slL ?_) | (with_reducible refine o_name ?_) | (with_reducible refine o_some ?_)
    refine o_cmp ?_
    show if decide (3 < way) = true then _ else _
    refine ite_i (fun _ => ?_) fun _ => ?_
    · show m_leaf noX [.val .box, .val (.int ((m + 1 : Nat) : Int)), .val (.int way), .no, .no] n1 _
      exact c_leaf (by omega) fun v n2 gv b0 b1 => hk' v n2 (gv.mono (by omega) (by omega)) (by omega) (by omega)
    · repeat first | (with_reducible refine i_cons ?_) | (with_reducible refine i_nil ?_) | (with_reducible refine i_args ?_) | (with_reducible refine i_c ?_) | ((with_reducible apply i_var); exact rfl) | (with_reducible refine i_op ?_) | (with_reducible refine i_un ?_) | (with_reducible refine i_call ?_) | (with_reducible refine i_sl ?_) | (with_reducible refine i_noP ?_) | ((with_reducible apply i_partV); exact rfl) | (with_reducible refine i_ret ?_) | (with_reducible refine i_asg ?_) | (with_reducible refine i_par ?_) | (with_reducible refine i_if ?_) | (with_reducible refine i_or ?_) | (with_reducible refine i_bl ?_) | (with_reducible refine i_ifE ?_) | (with_reducible refine i_tru ?_) | (with_reducible refine o_add ?_) | (with_reducible refine o_sub ?_) | (with_reducible refine o_neg ?_) | ((with_reducible refine o_lst ?_ ?_); · exact rfl) | ((with_reducible refine o_tup ?_ ?_); · exact rfl) | (with_reducible refine o_tupl ?_) | (with_reducible refine o_slL ?_) | (with_reducible refine o_name ?_) | (with_reducible refine o_some ?_)
      refine o_eqI ?_
      have e : ((((m + 1 : Nat) : Int)) == 0) = false := by
        rw [beq_eq_false_iff_ne]; omega
      rw [e]
      refine hR _ _ ?_
      clear hR
      refine seq_i fun R hR => ?_
      refine i_asg (i_lc (i_rng ?_))
      repeat first | (with_reducible refine i_cons ?_) | (with_reducible refine i_nil ?_) | (with_reducible refine i_args ?_) | (with_reducible refine i_c ?_) | ((with_reducible apply i_var); exact rfl) | (with_reducible refine i_op ?_) | (with_reducible refine i_un ?_) | (with_reducible refine i_call ?_) | (with_reducible refine i_sl ?_) | (with_reducible refine i_noP ?_) | ((with_reducible apply i_partV); exact rfl) | (with_reducible refine i_ret ?_) | (with_reducible refine i_asg ?_) | (with_reducible refine i_par ?_) | (with_reducible refine i_if ?_) | (with_reducible refine i_or ?_) | (with_reducible refine i_bl ?_) | (with_reducible refine i_ifE ?_) | (with_reducible refine i_tru ?_) | (with_reducible refine o_add ?_) | (with_reducible refine o_sub ?_) | (with_reducible refine o_neg ?_) | ((with_reducible refine o_lst ?_ ?_); · exact rfl) | ((with_reducible refine o_tup ?_ ?_); · exact rfl) | (with_reducible refine o_tupl ?_) | (with_reducible refine o_slL ?_) | (with_reducible refine o_name ?_) | (with_reducible refine o_some ?_)
      refine c_draw ⟨by decide, by decide⟩ (by omega) fun cnt n2 s0 s1 b0 b1 => ?_
      refine ⟨⟨by omega, by omega⟩, by rw [len_range1]; omega, ?_⟩
      have lz := len_range1 cnt
      have l3 : (range1D cnt).length ≤ 3 := by omega
      have lc : (range1D cnt).length * Ct m ≤ 3 * Ct m := Nat.mul_le_mul_right _ l3
      refine comp_gd (Gd (4 + 2 * m) (Wt m)) (Ct m) 900000 _ _ _ (by omega) (fun d _ n' k' hn'' hq => ?_) fun vs hl hv n3 d0 d1 => ?_
      · simp only [↓mSeq, ↓mIf, ↓mBl, ↓mOp, ↓mUn, ↓mTru, ↓mNot, ↓mAnd, ↓mOr, ↓mBox0, ↓mBox1, ↓mBox2, ↓mPut1, ↓mPut2, ↓mAsg, ↓mPar, ↓mRet, ↓mRetN, ↓mCall, ↓mCallK, ↓mAndV, ↓mOrV, ↓mNotV, ↓mUn1, ↓mChain, ↓mIfE, wipeE, ↓mDrop, ↓mNext, ↓mYes, ↓gfName, ↓gfTup, ↓gsCons, ↓gsNil, Option.bind_some, ↓mC, ↓mVar, ↓mNil, ↓mCons, ↓mArgs, List.getElem?_cons_zero, List.getElem?_cons_succ, List.set_cons_zero, List.set_cons_succ, ↓ek_add, ↓ek_sub, ↓ek_neg, ↓ek_cmp, ↓ek_int, ↓ek_intb, ↓ek_abs, ↓ek_mul, ↓ek_fdiv, ↓ek_mod, ↓ek_pow, ↓ek_str, ↓ek_len, ↓ek_lenT, ↓ek_lst, ↓ek_tup, ↓ek_some, ↓ek_addL, ↓ek_addT, ↓ek_rep, ↓ek_tupl, ↓ek_slL, ↓mSl, ↓mNoP, ↓mPart, List.length_map, decide_eq_true_eq]
        rw [if_pos True.intro]
        have e2 : (((m + 1 : Nat) : Int)) - 1 = (m : Int) := by omega
        rw [e2]
        exact c_nested m g n' _ (by omega) hn'' hq
      · rw [hl.symm] at l3
        have ll : vs.length * (Wt m + 1) ≤ 3 * (Wt m + 1) := Nat.mul_le_mul_right _ l3
        refine hR _ _ ?_
        clear hR
        repeat first | (with_reducible refine i_cons ?_) | (with_reducible refine i_nil ?_) | (with_reducible refine i_args ?_) | (with_reducible refine i_c ?_) | ((with_reducible apply i_var); exact rfl) | (with_reducible refine i_op ?_) | (with_reducible refine i_un ?_) | (with_reducible refine i_call ?_) | (with_reducible refine i_sl ?_) | (with_reducible refine i_noP ?_) | ((with_reducible apply i_partV); exact rfl) | (with_reducible refine i_ret ?_) | (with_reducible refine i_asg ?_) | (with_reducible refine i_par ?_) | (with_reducible refine i_if ?_) | (with_reducible refine i_or ?_) | (with_reducible refine i_bl ?_) | (with_reducible refine i_ifE ?_) | (with_reducible refine i_tru ?_) | (with_reducible refine o_add ?_) | (with_reducible refine o_sub ?_) | (with_reducible refine o_neg ?_) | ((with_reducible refine o_lst ?_ ?_); · exact rfl) | ((with_reducible refine o_tup ?_ ?_); · exact rfl) | (with_reducible refine o_tupl ?_) | (with_reducible refine o_slL ?_) | (with_reducible refine o_name ?_) | (with_reducible refine o_some ?_)
        refine o_cmp ?_
        show if decide (way < 2) = true then _ else _
        refine ite_i (fun _ => ?_) fun _ => ?_
        · repeat first | (with_reducible refine i_cons ?_) | (with_reducible refine i_nil ?_) | (with_reducible refine i_args ?_) | (with_reducible refine i_c ?_) | ((with_reducible apply i_var); exact rfl) | (with_reducible refine i_op ?_) | (with_reducible refine i_un ?_) | (with_reducible refine i_call ?_) | (with_reducible refine i_sl ?_) | (with_reducible refine i_noP ?_) | ((with_reducible apply i_partV); exact rfl) | (with_reducible refine i_ret ?_) | (with_reducible refine i_asg ?_) | (with_reducible refine i_par ?_) | (with_reducible refine i_if ?_) | (with_reducible refine i_or ?_) | (with_reducible refine i_bl ?_) | (with_reducible refine i_ifE ?_) | (with_reducible refine i_tru ?_) | (with_reducible refine o_add ?_) | (with_reducible refine o_sub ?_) | (with_reducible refine o_neg ?_) | ((with_reducible refine o_lst ?_ ?_); · exact rfl) | ((with_reducible refine o_tup ?_ ?_); · exact rfl) | (with_reducible refine o_tupl ?_) | (with_reducible refine o_slL ?_) | (with_reducible refine o_name ?_) | (with_reducible refine o_some ?_)
          exact hk' _ n3 (.lst (j := 4 + 2 * m) (w := Wt m) vs (by omega) (by omega) (by omega) hv) (by omega) (by omega)
        · repeat first | (with_reducible refine i_cons ?_) | (with_reducible refine i_nil ?_) | (with_reducible refine i_args ?_) | (with_reducible refine i_c ?_) | ((with_reducible apply i_var); exact rfl) | (with_reducible refine i_op ?_) | (with_reducible refine i_un ?_) | (with_reducible refine i_call ?_) | (with_reducible refine i_sl ?_) | (with_reducible refine i_noP ?_) | ((with_reducible apply i_partV); exact rfl) | (with_reducible refine i_ret ?_) | (with_reducible refine i_asg ?_) | (with_reducible refine i_par ?_) | (with_reducible refine i_if ?_) | (with_reducible refine i_or ?_) | (with_reducible refine i_bl ?_) | (with_reducible refine i_ifE ?_) | (with_reducible refine i_tru ?_) | (with_reducible refine o_add ?_) | (with_reducible refine o_sub ?_) | (with_reducible refine o_neg ?_) | ((with_reducible refine o_lst ?_ ?_); · exact rfl) | ((with_reducible refine o_tup ?_ ?_); · exact rfl) | (with_reducible refine o_tupl ?_) | (with_reducible refine o_slL ?_) | (with_reducible refine o_name ?_) | (with_reducible refine o_some ?_)
          refine o_eqI ?_
          show if (way == 2) = true then _ else _
          refine ite_i (fun _ => ?_) fun _ => ?_
          · repeat first | (with_reducible refine i_cons ?_) | (with_reducible refine i_nil ?_) | (with_reducible refine i_args ?_) | (with_reducible refine i_c ?_) | ((with_reducible apply i_var); exact rfl) | (with_reducible refine i_op ?_) | (with_reducible refine i_un ?_) | (with_reducible refine i_call ?_) | (with_reducible refine i_sl ?_) | (with_reducible refine i_noP ?_) | ((with_reducible apply i_partV); exact rfl) | (with_reducible refine i_ret ?_) | (with_reducible refine i_asg ?_) | (with_reducible refine i_par ?_) | (with_reducible refine i_if ?_) | (with_reducible refine i_or ?_) | (with_reducible refine i_bl ?_) | (with_reducible refine i_ifE ?_) | (with_reducible refine i_tru ?_) | (with_reducible refine o_add ?_) | (with_reducible refine o_sub ?_) | (with_reducible refine o_neg ?_) | ((with_reducible refine o_lst ?_ ?_); · exact rfl) | ((with_reducible refine o_tup ?_ ?_); · exact rfl) | (with_reducible refine o_tupl ?_) | (with_reducible refine o_slL ?_) | (with_reducible refine o_name ?_) | (with_reducible refine o_some ?_)
            exact hk' _ n3 (.tup (j := 4 + 2 * m) (w := Wt m) vs (by omega) (by omega) (by omega) hv) (by omega) (by omega)
          · repeat first | (with_reducible refine i_cons ?_) | (with_reducible refine i_nil ?_) | (with_reducible refine i_args ?_) | (with_reducible refine i_c ?_) | ((with_reducible apply i_var); exact rfl) | (with_reducible refine i_op ?_) | (with_reducible refine i_un ?_) | (with_reducible refine i_call ?_) | (with_reducible refine i_sl ?_) | (with_reducible refine i_noP ?_) | ((with_reducible apply i_partV); exact rfl) | (with_reducible refine i_ret ?_) | (with_reducible refine i_asg ?_) | (with_reducible refine i_par ?_) | (with_reducible refine i_if ?_) | (with_reducible refine i_or ?_) | (with_reducible refine i_bl ?_) | (with_reducible refine i_ifE ?_) | (with_reducible refine i_tru ?_) | (with_reducible refine o_add ?_) | (with_reducible refine o_sub ?_) | (with_reducible refine o_neg ?_) | ((with_reducible refine o_lst ?_ ?_); · exact rfl) | ((with_reducible refine o_tup ?_ ?_); · exact rfl) | (with_reducible refine o_tupl ?_) | (with_reducible refine o_slL ?_) | (with_reducible refine o_name ?_) | (with_reducible refine o_some ?_)
            refine hk' _ n3 (.lst (j := 4 + 2 * m + 1) (w := 3 * (Wt m + 1)) [.lst vs] (by omega) (by show 1 * _ ≤ _; omega) (le_lit rfl) (fun x hx => ?_)) (by omega) (by omega)
            rw [List.mem_singleton.mp hx]
            exact .lst (j := 4 + 2 * m) (w := Wt m) vs (by omega) (by omega) (by omega) hv
end K04
namespace K04
open PySem PySem.Spec PyProof.Rows L2 DS
theorem i_callK {con : Con} {a b : Nat} {ix : List Nat} {ma mk : MA} {ε : XD} {ρ : Ev} {n : Nat} {k : DK} (h : ma ε ρ n fun ds n1 => mk ε ρ n1 fun es n2 => ds.length = a ∧ es.length = b ∧ con noX (pick ix (ds ++ es)) n2 k) : mCallK con a b ix ma mk ε ρ n k := h
theorem o_ixL {x : D} {xs : List D} {k : D → Prop} (h : k x) : optK (ixD (.lst (x :: xs)) (.int 0)) k := by
  have e : ixD (.lst (x :: xs)) (.int 0) = some x := by
    show L2.atI (x :: xs) 0 = _
    simp [L2.atI, L2.ixN]
  rw [e]; exact h
theorem o_ixT {x : D} {xs : List D} {k : D → Prop} (h : k x) : optK (ixD (.tup (x :: xs)) (.int 0)) k := by
  have e : ixD (.tup (x :: xs)) (.int 0) = some x := by
    show L2.atI (x :: xs) 0 = _
    simp [L2.atI, L2.ixN]
  rw [e]; exact h
theorem for_i {st : D → Ev → Nat → Pn → Prop} {d : D} {ds : List D} {ρ : Ev} {n : Nat} {P : Pn} (h : ∀ R : Ev → Nat → Prop, (∀ ρ' n', forD st ds ρ' n' P → R ρ' n') → st d ρ n { nx := R, rt := P.rt, bk := P.nx, ct := R }) : forD st (d :: ds) ρ n P := h _ fun _ _ h => h
def m_turn : MS := (mSeq (mAsg (gfName 3) (mArgs lstD (mCons (mCall con__law_nested (mCons (mVar 1) (mCons (mC (.int 4)) (mNil)))) (mCons (mCall con__law_nested (mCons (mVar 1) (mCons (mC (.int 3)) (mNil)))) (mNil)))))
    (mSeq (mPar 4 5 (mCons (mArgs reprXD (mCons (mVar 3) (mNil))) (mCons (mCall con__law_own (mCons (mVar 3) (mNil))) (mNil))))
    (mSeq (mIf (mOr (mBl (mOp neX (mArgs reprXD (mCons (mCall con_fixed (mCons (mVar 3) (mNil))) (mNil))) (mArgs reprXD (mCons (mVar 5) (mNil))))) (mOr (mBl (mOp neX (mArgs reprXD (mCons (mCallK con_fixed 0 1 [0] (mNil) (mCons (mArgs tupleD (mCons (mVar 3) (mNil))) (mNil))) (mNil))) (mArgs reprXD (mCons (mVar 5) (mNil))))) (mOr (mBl (mOp neX (mArgs reprXD (mCons (mVar 3) (mNil))) (mVar 4))) (mBl (mOp neX (mArgs reprXD (mCons (mCall con_fixed (mCons (mVar 5) (mNil))) (mNil))) (mArgs reprXD (mCons (mVar 5) (mNil)))))))) (mRet (mC (.bl false))) (mNext))
    (mIf (mBl (mOp neX (mArgs reprXD (mCons (mCall con_fixed (mCons (mOp ixD (mVar 3) (mC (.int 0))) (mNil))) (mNil))) (mArgs reprXD (mCons (mOp ixD (mVar 5) (mC (.int 0))) (mNil))))) (mRet (mC (.bl false))) (mNext)))))
theorem fx_two (a b : D) : fx (.lst [a, b]) = .tup [fx a, fx b] := by rw [fx, fxs_map]; rfl
theorem fx_tup (xs : List D) : fx (.tup xs) = fx (.lst xs) := by rw [fx, fx]
theorem c_turn {a b c d e : Sl} {n : Nat} {P : Pn} (hn : n < 800000) (hk : ∀ b c d n2, n ≤ n2 → n2 ≤ n + 500 → P.nx [.no, .val .box, a, b, c, d, e] n2) : m_turn noX [.no, .val .box, a, b, c, d, e] n P := by
  unfold m_turn
  refine seq_i fun R hR => ?_
  repeat first | (with_reducible refine i_cons ?_) | (with_reducible refine i_nil ?_) | (with_reducible refine i_args ?_) | (with_reducible refine i_c ?_) | ((with_reducible apply i_var); exact rfl) | (with_reducible refine i_op ?_) | (with_reducible refine i_un ?_) | (with_reducible refine i_call ?_) | (with_reducible refine i_sl ?_) | (with_reducible refine i_noP ?_) | ((with_reducible apply i_partV); exact rfl) | (with_reducible refine i_ret ?_) | (with_reducible refine i_asg ?_) | (with_reducible refine i_par ?_) | (with_reducible refine i_if ?_) | (with_reducible refine i_or ?_) | (with_reducible refine i_bl ?_) | (with_reducible refine i_ifE ?_) | (with_reducible refine i_tru ?_) | (with_reducible refine o_add ?_) | (with_reducible refine o_sub ?_) | (with_reducible refine o_neg ?_) | ((with_reducible refine o_lst ?_ ?_); · exact rfl) | ((with_reducible refine o_tup ?_ ?_); · exact rfl) | (with_reducible refine o_tupl ?_) | (with_reducible refine o_slL ?_) | (with_reducible refine o_name ?_) | (with_reducible refine o_some ?_)
  refine c_nested 4 45 _ _ (by decide) (by show n + 363 < 900000; omega) fun v1 n1 g1 a0 a1 => ?_
  have a1' : n1 ≤ n + 363 := a1
  repeat first | (with_reducible refine i_cons ?_) | (with_reducible refine i_nil ?_) | (with_reducible refine i_args ?_) | (with_reducible refine i_c ?_) | ((with_reducible apply i_var); exact rfl) | (with_reducible refine i_op ?_) | (with_reducible refine i_un ?_) | (with_reducible refine i_call ?_) | (with_reducible refine i_sl ?_) | (with_reducible refine i_noP ?_) | ((with_reducible apply i_partV); exact rfl) | (with_reducible refine i_ret ?_) | (with_reducible refine i_asg ?_) | (with_reducible refine i_par ?_) | (with_reducible refine i_if ?_) | (with_reducible refine i_or ?_) | (with_reducible refine i_bl ?_) | (with_reducible refine i_ifE ?_) | (with_reducible refine i_tru ?_) | (with_reducible refine o_add ?_) | (with_reducible refine o_sub ?_) | (with_reducible refine o_neg ?_) | ((with_reducible refine o_lst ?_ ?_); · exact rfl) | ((with_reducible refine o_tup ?_ ?_); · exact rfl) | (with_reducible refine o_tupl ?_) | (with_reducible refine o_slL ?_) | (with_reducible refine o_name ?_) | (with_reducible refine o_some ?_)
  refine c_nested 3 45 _ _ (by decide) (by show n1 + 120 < 900000; omega) fun v2 n2 g2 b0 b1 => ?_
  have b1' : n2 ≤ n1 + 120 := b1
  have gv : Gd 13 17000 (.lst [v1, v2]) := .lst (j := 12) (w := 8260) [v1, v2] (by decide) (le_lit rfl) (le_lit rfl) fun x hx => by
    simp only [List.mem_cons, List.not_mem_nil, or_false] at hx
    rcases hx with rfl | rfl
    · exact g1.mono (by decide) (by decide)
    · exact g2.mono (by decide) (by decide)
  have gt : Gd 13 17000 (.tup [v1, v2]) := .tup (j := 12) (w := 8260) [v1, v2] (by decide) (le_lit rfl) (le_lit rfl) fun x hx => by
    simp only [List.mem_cons, List.not_mem_nil, or_false] at hx
    rcases hx with rfl | rfl
    · exact g1.mono (by decide) (by decide)
    · exact g2.mono (by decide) (by decide)
  obtain ⟨z, ez⟩ := rep_of gv (by decide) (by decide)
  obtain ⟨y, ey⟩ := rep_of gv.fix (by decide) (by decide)
  obtain ⟨x, ex⟩ := rep_of g1.fix (by decide) (by decide)
  repeat first | (with_reducible refine i_cons ?_) | (with_reducible refine i_nil ?_) | (with_reducible refine i_args ?_) | (with_reducible refine i_c ?_) | ((with_reducible apply i_var); exact rfl) | (with_reducible refine i_op ?_) | (with_reducible refine i_un ?_) | (with_reducible refine i_call ?_) | (with_reducible refine i_sl ?_) | (with_reducible refine i_noP ?_) | ((with_reducible apply i_partV); exact rfl) | (with_reducible refine i_ret ?_) | (with_reducible refine i_asg ?_) | (with_reducible refine i_par ?_) | (with_reducible refine i_if ?_) | (with_reducible refine i_or ?_) | (with_reducible refine i_bl ?_) | (with_reducible refine i_ifE ?_) | (with_reducible refine i_tru ?_) | (with_reducible refine o_add ?_) | (with_reducible refine o_sub ?_) | (with_reducible refine o_neg ?_) | ((with_reducible refine o_lst ?_ ?_); · exact rfl) | ((with_reducible refine o_tup ?_ ?_); · exact rfl) | (with_reducible refine o_tupl ?_) | (with_reducible refine o_slL ?_) | (with_reducible refine o_name ?_) | (with_reducible refine o_some ?_)
  refine hR _ _ ?_
  clear hR
  refine seq_i fun R hR => ?_
  repeat first | (with_reducible refine i_cons ?_) | (with_reducible refine i_nil ?_) | (with_reducible refine i_args ?_) | (with_reducible refine i_c ?_) | ((with_reducible apply i_var); exact rfl) | (with_reducible refine i_op ?_) | (with_reducible refine i_un ?_) | (with_reducible refine i_call ?_) | (with_reducible refine i_sl ?_) | (with_reducible refine i_noP ?_) | ((with_reducible apply i_partV); exact rfl) | (with_reducible refine i_ret ?_) | (with_reducible refine i_asg ?_) | (with_reducible refine i_par ?_) | (with_reducible refine i_if ?_) | (with_reducible refine i_or ?_) | (with_reducible refine i_bl ?_) | (with_reducible refine i_ifE ?_) | (with_reducible refine i_tru ?_) | (with_reducible refine o_add ?_) | (with_reducible refine o_sub ?_) | (with_reducible refine o_neg ?_) | ((with_reducible refine o_lst ?_ ?_); · exact rfl) | ((with_reducible refine o_tup ?_ ?_); · exact rfl) | (with_reducible refine o_tupl ?_) | (with_reducible refine o_slL ?_) | (with_reducible refine o_name ?_) | (with_reducible refine o_some ?_)
  rw [ez]
  repeat first | (with_reducible refine i_cons ?_) | (with_reducible refine i_nil ?_) | (with_reducible refine i_args ?_) | (with_reducible refine i_c ?_) | ((with_reducible apply i_var); exact rfl) | (with_reducible refine i_op ?_) | (with_reducible refine i_un ?_) | (with_reducible refine i_call ?_) | (with_reducible refine i_sl ?_) | (with_reducible refine i_noP ?_) | ((with_reducible apply i_partV); exact rfl) | (with_reducible refine i_ret ?_) | (with_reducible refine i_asg ?_) | (with_reducible refine i_par ?_) | (with_reducible refine i_if ?_) | (with_reducible refine i_or ?_) | (with_reducible refine i_bl ?_) | (with_reducible refine i_ifE ?_) | (with_reducible refine i_tru ?_) | (with_reducible refine o_add ?_) | (with_reducible refine o_sub ?_) | (with_reducible refine o_neg ?_) | ((with_reducible refine o_lst ?_ ?_); · exact rfl) | ((with_reducible refine o_tup ?_ ?_); · exact rfl) | (with_reducible refine o_tupl ?_) | (with_reducible refine o_slL ?_) | (with_reducible refine o_name ?_) | (with_reducible refine o_some ?_)
  refine c_own gv 45 _ _ (by decide) ?_
  repeat first | (with_reducible refine i_cons ?_) | (with_reducible refine i_nil ?_) | (with_reducible refine i_args ?_) | (with_reducible refine i_c ?_) | ((with_reducible apply i_var); exact rfl) | (with_reducible refine i_op ?_) | (with_reducible refine i_un ?_) | (with_reducible refine i_call ?_) | (with_reducible refine i_sl ?_) | (with_reducible refine i_noP ?_) | ((with_reducible apply i_partV); exact rfl) | (with_reducible refine i_ret ?_) | (with_reducible refine i_asg ?_) | (with_reducible refine i_par ?_) | (with_reducible refine i_if ?_) | (with_reducible refine i_or ?_) | (with_reducible refine i_bl ?_) | (with_reducible refine i_ifE ?_) | (with_reducible refine i_tru ?_) | (with_reducible refine o_add ?_) | (with_reducible refine o_sub ?_) | (with_reducible refine o_neg ?_) | ((with_reducible refine o_lst ?_ ?_); · exact rfl) | ((with_reducible refine o_tup ?_ ?_); · exact rfl) | (with_reducible refine o_tupl ?_) | (with_reducible refine o_slL ?_) | (with_reducible refine o_name ?_) | (with_reducible refine o_some ?_)
  refine hR _ _ ?_
  clear hR
  refine seq_i fun R hR => ?_
  repeat first | (with_reducible refine i_cons ?_) | (with_reducible refine i_nil ?_) | (with_reducible refine i_args ?_) | (with_reducible refine i_c ?_) | ((with_reducible apply i_var); exact rfl) | (with_reducible refine i_op ?_) | (with_reducible refine i_un ?_) | (with_reducible refine i_call ?_) | (with_reducible refine i_sl ?_) | (with_reducible refine i_noP ?_) | ((with_reducible apply i_partV); exact rfl) | (with_reducible refine i_ret ?_) | (with_reducible refine i_asg ?_) | (with_reducible refine i_par ?_) | (with_reducible refine i_if ?_) | (with_reducible refine i_or ?_) | (with_reducible refine i_bl ?_) | (with_reducible refine i_ifE ?_) | (with_reducible refine i_tru ?_) | (with_reducible refine o_add ?_) | (with_reducible refine o_sub ?_) | (with_reducible refine o_neg ?_) | ((with_reducible refine o_lst ?_ ?_); · exact rfl) | ((with_reducible refine o_tup ?_ ?_); · exact rfl) | (with_reducible refine o_tupl ?_) | (with_reducible refine o_slL ?_) | (with_reducible refine o_name ?_) | (with_reducible refine o_some ?_)
  refine c_fixed gv 45 _ _ (by decide) ?_
  repeat first | (with_reducible refine i_cons ?_) | (with_reducible refine i_nil ?_) | (with_reducible refine i_args ?_) | (with_reducible refine i_c ?_) | ((with_reducible apply i_var); exact rfl) | (with_reducible refine i_op ?_) | (with_reducible refine i_un ?_) | (with_reducible refine i_call ?_) | (with_reducible refine i_sl ?_) | (with_reducible refine i_noP ?_) | ((with_reducible apply i_partV); exact rfl) | (with_reducible refine i_ret ?_) | (with_reducible refine i_asg ?_) | (with_reducible refine i_par ?_) | (with_reducible refine i_if ?_) | (with_reducible refine i_or ?_) | (with_reducible refine i_bl ?_) | (with_reducible refine i_ifE ?_) | (with_reducible refine i_tru ?_) | (with_reducible refine o_add ?_) | (with_reducible refine o_sub ?_) | (with_reducible refine o_neg ?_) | ((with_reducible refine o_lst ?_ ?_); · exact rfl) | ((with_reducible refine o_tup ?_ ?_); · exact rfl) | (with_reducible refine o_tupl ?_) | (with_reducible refine o_slL ?_) | (with_reducible refine o_name ?_) | (with_reducible refine o_some ?_)
  rw [ey]
  repeat first | (with_reducible refine i_cons ?_) | (with_reducible refine i_nil ?_) | (with_reducible refine i_args ?_) | (with_reducible refine i_c ?_) | ((with_reducible apply i_var); exact rfl) | (with_reducible refine i_op ?_) | (with_reducible refine i_un ?_) | (with_reducible refine i_call ?_) | (with_reducible refine i_sl ?_) | (with_reducible refine i_noP ?_) | ((with_reducible apply i_partV); exact rfl) | (with_reducible refine i_ret ?_) | (with_reducible refine i_asg ?_) | (with_reducible refine i_par ?_) | (with_reducible refine i_if ?_) | (with_reducible refine i_or ?_) | (with_reducible refine i_bl ?_) | (with_reducible refine i_ifE ?_) | (with_reducible refine i_tru ?_) | (with_reducible refine o_add ?_) | (with_reducible refine o_sub ?_) | (with_reducible refine o_neg ?_) | ((with_reducible refine o_lst ?_ ?_); · exact rfl) | ((with_reducible refine o_tup ?_ ?_); · exact rfl) | (with_reducible refine o_tupl ?_) | (with_reducible refine o_slL ?_) | (with_reducible refine o_name ?_) | (with_reducible refine o_some ?_)
  rw [ey]
  repeat first | (with_reducible refine i_cons ?_) | (with_reducible refine i_nil ?_) | (with_reducible refine i_args ?_) | (with_reducible refine i_c ?_) | ((with_reducible apply i_var); exact rfl) | (with_reducible refine i_op ?_) | (with_reducible refine i_un ?_) | (with_reducible refine i_call ?_) | (with_reducible refine i_sl ?_) | (with_reducible refine i_noP ?_) | ((with_reducible apply i_partV); exact rfl) | (with_reducible refine i_ret ?_) | (with_reducible refine i_asg ?_) | (with_reducible refine i_par ?_) | (with_reducible refine i_if ?_) | (with_reducible refine i_or ?_) | (with_reducible refine i_bl ?_) | (with_reducible refine i_ifE ?_) | (with_reducible refine i_tru ?_) | (with_reducible refine o_add ?_) | (with_reducible refine o_sub ?_) | (with_reducible refine o_neg ?_) | ((with_reducible refine o_lst ?_ ?_); · exact rfl) | ((with_reducible refine o_tup ?_ ?_); · exact rfl) | (with_reducible refine o_tupl ?_) | (with_reducible refine o_slL ?_) | (with_reducible refine o_name ?_) | (with_reducible refine o_some ?_)
  refine ek_neS ?_
  show if false = true then _ else _
  rw [if_neg (by decide)]
  repeat first | (with_reducible refine i_cons ?_) | (with_reducible refine i_nil ?_) | (with_reducible refine i_args ?_) | (with_reducible refine i_c ?_) | ((with_reducible apply i_var); exact rfl) | (with_reducible refine i_op ?_) | (with_reducible refine i_un ?_) | (with_reducible refine i_call ?_) | (with_reducible refine i_sl ?_) | (with_reducible refine i_noP ?_) | ((with_reducible apply i_partV); exact rfl) | (with_reducible refine i_ret ?_) | (with_reducible refine i_asg ?_) | (with_reducible refine i_par ?_) | (with_reducible refine i_if ?_) | (with_reducible refine i_or ?_) | (with_reducible refine i_bl ?_) | (with_reducible refine i_ifE ?_) | (with_reducible refine i_tru ?_) | (with_reducible refine o_add ?_) | (with_reducible refine o_sub ?_) | (with_reducible refine o_neg ?_) | ((with_reducible refine o_lst ?_ ?_); · exact rfl) | ((with_reducible refine o_tup ?_ ?_); · exact rfl) | (with_reducible refine o_tupl ?_) | (with_reducible refine o_slL ?_) | (with_reducible refine o_name ?_) | (with_reducible refine o_some ?_)
  refine i_callK ?_
  repeat first | (with_reducible refine i_cons ?_) | (with_reducible refine i_nil ?_) | (with_reducible refine i_args ?_) | (with_reducible refine i_c ?_) | ((with_reducible apply i_var); exact rfl) | (with_reducible refine i_op ?_) | (with_reducible refine i_un ?_) | (with_reducible refine i_call ?_) | (with_reducible refine i_sl ?_) | (with_reducible refine i_noP ?_) | ((with_reducible apply i_partV); exact rfl) | (with_reducible refine i_ret ?_) | (with_reducible refine i_asg ?_) | (with_reducible refine i_par ?_) | (with_reducible refine i_if ?_) | (with_reducible refine i_or ?_) | (with_reducible refine i_bl ?_) | (with_reducible refine i_ifE ?_) | (with_reducible refine i_tru ?_) | (with_reducible refine o_add ?_) | (with_reducible refine o_sub ?_) | (with_reducible refine o_neg ?_) | ((with_reducible refine o_lst ?_ ?_); · exact rfl) | ((with_reducible refine o_tup ?_ ?_); · exact rfl) | (with_reducible refine o_tupl ?_) | (with_reducible refine o_slL ?_) | (with_reducible refine o_name ?_) | (with_reducible refine o_some ?_)
  refine ⟨rfl, rfl, ?_⟩
  show con_fixed noX [.tup [v1, v2]] _ _
  refine c_fixed gt 45 _ _ (by decide) ?_
  rw [fx_tup]
  repeat first | (with_reducible refine i_cons ?_) | (with_reducible refine i_nil ?_) | (with_reducible refine i_args ?_) | (with_reducible refine i_c ?_) | ((with_reducible apply i_var); exact rfl) | (with_reducible refine i_op ?_) | (with_reducible refine i_un ?_) | (with_reducible refine i_call ?_) | (with_reducible refine i_sl ?_) | (with_reducible refine i_noP ?_) | ((with_reducible apply i_partV); exact rfl) | (with_reducible refine i_ret ?_) | (with_reducible refine i_asg ?_) | (with_reducible refine i_par ?_) | (with_reducible refine i_if ?_) | (with_reducible refine i_or ?_) | (with_reducible refine i_bl ?_) | (with_reducible refine i_ifE ?_) | (with_reducible refine i_tru ?_) | (with_reducible refine o_add ?_) | (with_reducible refine o_sub ?_) | (with_reducible refine o_neg ?_) | ((with_reducible refine o_lst ?_ ?_); · exact rfl) | ((with_reducible refine o_tup ?_ ?_); · exact rfl) | (with_reducible refine o_tupl ?_) | (with_reducible refine o_slL ?_) | (with_reducible refine o_name ?_) | (with_reducible refine o_some ?_)
  rw [ey]
  repeat first | (with_reducible refine i_cons ?_) | (with_reducible refine i_nil ?_) | (with_reducible refine i_args ?_) | (with_reducible refine i_c ?_) | ((with_reducible apply i_var); exact rfl) | (with_reducible refine i_op ?_) | (with_reducible refine i_un ?_) | (with_reducible refine i_call ?_) | (with_reducible refine i_sl ?_) | (with_reducible refine i_noP ?_) | ((with_reducible apply i_partV); exact rfl) | (with_reducible refine i_ret ?_) | (with_reducible refine i_asg ?_) | (with_reducible refine i_par ?_) | (with_reducible refine i_if ?_) | (with_reducible refine i_or ?_) | (with_reducible refine i_bl ?_) | (with_reducible refine i_ifE ?_) | (with_reducible refine i_tru ?_) | (with_reducible refine o_add ?_) | (with_reducible refine o_sub ?_) | (with_reducible refine o_neg ?_) | ((with_reducible refine o_lst ?_ ?_); · exact rfl) | ((with_reducible refine o_tup ?_ ?_); · exact rfl) | (with_reducible refine o_tupl ?_) | (with_reducible refine o_slL ?_) | (with_reducible refine o_name ?_) | (with_reducible refine o_some ?_)
  rw [ey]
  repeat first | (with_reducible refine i_cons ?_) | (with_reducible refine i_nil ?_) | (with_reducible refine i_args ?_) | (with_reducible refine i_c ?_) | ((with_reducible apply i_var); exact rfl) | (with_reducible refine i_op ?_) | (with_reducible refine i_un ?_) | (with_reducible refine i_call ?_) | (with_reducible refine i_sl ?_) | (with_reducible refine i_noP ?_) | ((with_reducible apply i_partV); exact rfl) | (with_reducible refine i_ret ?_) | (with_reducible refine i_asg ?_) | (with_reducible refine i_par ?_) | (with_reducible refine i_if ?_) | (with_reducible refine i_or ?_) | (with_reducible refine i_bl ?_) | (with_reducible refine i_ifE ?_) | (with_reducible refine i_tru ?_) | (with_reducible refine o_add ?_) | (with_reducible refine o_sub ?_) | (with_reducible refine o_neg ?_) | ((with_reducible refine o_lst ?_ ?_); · exact rfl) | ((with_reducible refine o_tup ?_ ?_); · exact rfl) | (with_reducible refine o_tupl ?_) | (with_reducible refine o_slL ?_) | (with_reducible refine o_name ?_) | (with_reducible refine o_some ?_)
  refine ek_neS ?_
  show if false = true then _ else _
  rw [if_neg (by decide)]
  repeat first | (with_reducible refine i_cons ?_) | (with_reducible refine i_nil ?_) | (with_reducible refine i_args ?_) | (with_reducible refine i_c ?_) | ((with_reducible apply i_var); exact rfl) | (with_reducible refine i_op ?_) | (with_reducible refine i_un ?_) | (with_reducible refine i_call ?_) | (with_reducible refine i_sl ?_) | (with_reducible refine i_noP ?_) | ((with_reducible apply i_partV); exact rfl) | (with_reducible refine i_ret ?_) | (with_reducible refine i_asg ?_) | (with_reducible refine i_par ?_) | (with_reducible refine i_if ?_) | (with_reducible refine i_or ?_) | (with_reducible refine i_bl ?_) | (with_reducible refine i_ifE ?_) | (with_reducible refine i_tru ?_) | (with_reducible refine o_add ?_) | (with_reducible refine o_sub ?_) | (with_reducible refine o_neg ?_) | ((with_reducible refine o_lst ?_ ?_); · exact rfl) | ((with_reducible refine o_tup ?_ ?_); · exact rfl) | (with_reducible refine o_tupl ?_) | (with_reducible refine o_slL ?_) | (with_reducible refine o_name ?_) | (with_reducible refine o_some ?_)
  rw [ez]
  repeat first | (with_reducible refine i_cons ?_) | (with_reducible refine i_nil ?_) | (with_reducible refine i_args ?_) | (with_reducible refine i_c ?_) | ((with_reducible apply i_var); exact rfl) | (with_reducible refine i_op ?_) | (with_reducible refine i_un ?_) | (with_reducible refine i_call ?_) | (with_reducible refine i_sl ?_) | (with_reducible refine i_noP ?_) | ((with_reducible apply i_partV); exact rfl) | (with_reducible refine i_ret ?_) | (with_reducible refine i_asg ?_) | (with_reducible refine i_par ?_) | (with_reducible refine i_if ?_) | (with_reducible refine i_or ?_) | (with_reducible refine i_bl ?_) | (with_reducible refine i_ifE ?_) | (with_reducible refine i_tru ?_) | (with_reducible refine o_add ?_) | (with_reducible refine o_sub ?_) | (with_reducible refine o_neg ?_) | ((with_reducible refine o_lst ?_ ?_); · exact rfl) | ((with_reducible refine o_tup ?_ ?_); · exact rfl) | (with_reducible refine o_tupl ?_) | (with_reducible refine o_slL ?_) | (with_reducible refine o_name ?_) | (with_reducible refine o_some ?_)
  refine ek_neS ?_
  show if false = true then _ else _
  rw [if_neg (by decide)]
  repeat first | (with_reducible refine i_cons ?_) | (with_reducible refine i_nil ?_) | (with_reducible refine i_args ?_) | (with_reducible refine i_c ?_) | ((with_reducible apply i_var); exact rfl) | (with_reducible refine i_op ?_) | (with_reducible refine i_un ?_) | (with_reducible refine i_call ?_) | (with_reducible refine i_sl ?_) | (with_reducible refine i_noP ?_) | ((with_reducible apply i_partV); exact rfl) | (with_reducible refine i_ret ?_) | (with_reducible refine i_asg ?_) | (with_reducible refine i_par ?_) | (with_reducible refine i_if ?_) | (with_reducible refine i_or ?_) | (with_reducible refine i_bl ?_) | (with_reducible refine i_ifE ?_) | (with_reducible refine i_tru ?_) | (with_reducible refine o_add ?_) | (with_reducible refine o_sub ?_) | (with_reducible refine o_neg ?_) | ((with_reducible refine o_lst ?_ ?_); · exact rfl) | ((with_reducible refine o_tup ?_ ?_); · exact rfl) | (with_reducible refine o_tupl ?_) | (with_reducible refine o_slL ?_) | (with_reducible refine o_name ?_) | (with_reducible refine o_some ?_)
  refine c_fixed gv.fix 45 _ _ (by decide) ?_
  rw [fx_fx gv]
  repeat first | (with_reducible refine i_cons ?_) | (with_reducible refine i_nil ?_) | (with_reducible refine i_args ?_) | (with_reducible refine i_c ?_) | ((with_reducible apply i_var); exact rfl) | (with_reducible refine i_op ?_) | (with_reducible refine i_un ?_) | (with_reducible refine i_call ?_) | (with_reducible refine i_sl ?_) | (with_reducible refine i_noP ?_) | ((with_reducible apply i_partV); exact rfl) | (with_reducible refine i_ret ?_) | (with_reducible refine i_asg ?_) | (with_reducible refine i_par ?_) | (with_reducible refine i_if ?_) | (with_reducible refine i_or ?_) | (with_reducible refine i_bl ?_) | (with_reducible refine i_ifE ?_) | (with_reducible refine i_tru ?_) | (with_reducible refine o_add ?_) | (with_reducible refine o_sub ?_) | (with_reducible refine o_neg ?_) | ((with_reducible refine o_lst ?_ ?_); · exact rfl) | ((with_reducible refine o_tup ?_ ?_); · exact rfl) | (with_reducible refine o_tupl ?_) | (with_reducible refine o_slL ?_) | (with_reducible refine o_name ?_) | (with_reducible refine o_some ?_)
  rw [ey]
  repeat first | (with_reducible refine i_cons ?_) | (with_reducible refine i_nil ?_) | (with_reducible refine i_args ?_) | (with_reducible refine i_c ?_) | ((with_reducible apply i_var); exact rfl) | (with_reducible refine i_op ?_) | (with_reducible refine i_un ?_) | (with_reducible refine i_call ?_) | (with_reducible refine i_sl ?_) | (with_reducible refine i_noP ?_) | ((with_reducible apply i_partV); exact rfl) | (with_reducible refine i_ret ?_) | (with_reducible refine i_asg ?_) | (with_reducible refine i_par ?_) | (with_reducible refine i_if ?_) | (with_reducible refine i_or ?_) | (with_reducible refine i_bl ?_) | (with_reducible refine i_ifE ?_) | (with_reducible refine i_tru ?_) | (with_reducible refine o_add ?_) | (with_reducible refine o_sub ?_) | (with_reducible refine o_neg ?_) | ((with_reducible refine o_lst ?_ ?_); · exact rfl) | ((with_reducible refine o_tup ?_ ?_); · exact rfl) | (with_reducible refine o_tupl ?_) | (with_reducible refine o_slL ?_) | (with_reducible refine o_name ?_) | (with_reducible refine o_some ?_)
  rw [ey]
  repeat first | (with_reducible refine i_cons ?_) | (with_reducible refine i_nil ?_) | (with_reducible refine i_args ?_) | (with_reducible refine i_c ?_) | ((with_reducible apply i_var); exact rfl) | (with_reducible refine i_op ?_) | (with_reducible refine i_un ?_) | (with_reducible refine i_call ?_) | (with_reducible refine i_sl ?_) | (with_reducible refine i_noP ?_) | ((with_reducible apply i_partV); exact rfl) | (with_reducible refine i_ret ?_) | (with_reducible refine i_asg ?_) | (with_reducible refine i_par ?_) | (with_reducible refine i_if ?_) | (with_reducible refine i_or ?_) | (with_reducible refine i_bl ?_) | (with_reducible refine i_ifE ?_) | (with_reducible refine i_tru ?_) | (with_reducible refine o_add ?_) | (with_reducible refine o_sub ?_) | (with_reducible refine o_neg ?_) | ((with_reducible refine o_lst ?_ ?_); · exact rfl) | ((with_reducible refine o_tup ?_ ?_); · exact rfl) | (with_reducible refine o_tupl ?_) | (with_reducible refine o_slL ?_) | (with_reducible refine o_name ?_) | (with_reducible refine o_some ?_)
  refine ek_neS ?_
  show if false = true then _ else _
  rw [if_neg (by decide)]
  refine hR _ _ ?_
  clear hR
  repeat first | (with_reducible refine i_cons ?_) | (with_reducible refine i_nil ?_) | (with_reducible refine i_args ?_) | (with_reducible refine i_c ?_) | ((with_reducible apply i_var); exact rfl) | (with_reducible refine i_op ?_) | (with_reducible refine i_un ?_) | (with_reducible refine i_call ?_) | (with_reducible refine i_sl ?_) | (with_reducible refine i_noP ?_) | ((with_reducible apply i_partV); exact rfl) | (with_reducible refine i_ret ?_) | (with_reducible refine i_asg ?_) | (with_reducible refine i_par ?_) | (with_reducible refine i_if ?_) | (with_reducible refine i_or ?_) | (with_reducible refine i_bl ?_) | (with_reducible refine i_ifE ?_) | (with_reducible refine i_tru ?_) | (with_reducible refine o_add ?_) | (with_reducible refine o_sub ?_) | (with_reducible refine o_neg ?_) | ((with_reducible refine o_lst ?_ ?_); · exact rfl) | ((with_reducible refine o_tup ?_ ?_); · exact rfl) | (with_reducible refine o_tupl ?_) | (with_reducible refine o_slL ?_) | (with_reducible refine o_name ?_) | (with_reducible refine o_some ?_)
  refine o_ixL ?_
  repeat first | (with_reducible refine i_cons ?_) | (with_reducible refine i_nil ?_) | (with_reducible refine i_args ?_) | (with_reducible refine i_c ?_) | ((with_reducible apply i_var); exact rfl) | (with_reducible refine i_op ?_) | (with_reducible refine i_un ?_) | (with_reducible refine i_call ?_) | (with_reducible refine i_sl ?_) | (with_reducible refine i_noP ?_) | ((with_reducible apply i_partV); exact rfl) | (with_reducible refine i_ret ?_) | (with_reducible refine i_asg ?_) | (with_reducible refine i_par ?_) | (with_reducible refine i_if ?_) | (with_reducible refine i_or ?_) | (with_reducible refine i_bl ?_) | (with_reducible refine i_ifE ?_) | (with_reducible refine i_tru ?_) | (with_reducible refine o_add ?_) | (with_reducible refine o_sub ?_) | (with_reducible refine o_neg ?_) | ((with_reducible refine o_lst ?_ ?_); · exact rfl) | ((with_reducible refine o_tup ?_ ?_); · exact rfl) | (with_reducible refine o_tupl ?_) | (with_reducible refine o_slL ?_) | (with_reducible refine o_name ?_) | (with_reducible refine o_some ?_)
  refine c_fixed g1 45 _ _ (by decide) ?_
  repeat first | (with_reducible refine i_cons ?_) | (with_reducible refine i_nil ?_) | (with_reducible refine i_args ?_) | (with_reducible refine i_c ?_) | ((with_reducible apply i_var); exact rfl) | (with_reducible refine i_op ?_) | (with_reducible refine i_un ?_) | (with_reducible refine i_call ?_) | (with_reducible refine i_sl ?_) | (with_reducible refine i_noP ?_) | ((with_reducible apply i_partV); exact rfl) | (with_reducible refine i_ret ?_) | (with_reducible refine i_asg ?_) | (with_reducible refine i_par ?_) | (with_reducible refine i_if ?_) | (with_reducible refine i_or ?_) | (with_reducible refine i_bl ?_) | (with_reducible refine i_ifE ?_) | (with_reducible refine i_tru ?_) | (with_reducible refine o_add ?_) | (with_reducible refine o_sub ?_) | (with_reducible refine o_neg ?_) | ((with_reducible refine o_lst ?_ ?_); · exact rfl) | ((with_reducible refine o_tup ?_ ?_); · exact rfl) | (with_reducible refine o_tupl ?_) | (with_reducible refine o_slL ?_) | (with_reducible refine o_name ?_) | (with_reducible refine o_some ?_)
  rw [ex]
  repeat first | (with_reducible refine i_cons ?_) | (with_reducible refine i_nil ?_) | (with_reducible refine i_args ?_) | (with_reducible refine i_c ?_) | ((with_reducible apply i_var); exact rfl) | (with_reducible refine i_op ?_) | (with_reducible refine i_un ?_) | (with_reducible refine i_call ?_) | (with_reducible refine i_sl ?_) | (with_reducible refine i_noP ?_) | ((with_reducible apply i_partV); exact rfl) | (with_reducible refine i_ret ?_) | (with_reducible refine i_asg ?_) | (with_reducible refine i_par ?_) | (with_reducible refine i_if ?_) | (with_reducible refine i_or ?_) | (with_reducible refine i_bl ?_) | (with_reducible refine i_ifE ?_) | (with_reducible refine i_tru ?_) | (with_reducible refine o_add ?_) | (with_reducible refine o_sub ?_) | (with_reducible refine o_neg ?_) | ((with_reducible refine o_lst ?_ ?_); · exact rfl) | ((with_reducible refine o_tup ?_ ?_); · exact rfl) | (with_reducible refine o_tupl ?_) | (with_reducible refine o_slL ?_) | (with_reducible refine o_name ?_) | (with_reducible refine o_some ?_)
  rw [fx_two]
  refine o_ixT ?_
  repeat first | (with_reducible refine i_cons ?_) | (with_reducible refine i_nil ?_) | (with_reducible refine i_args ?_) | (with_reducible refine i_c ?_) | ((with_reducible apply i_var); exact rfl) | (with_reducible refine i_op ?_) | (with_reducible refine i_un ?_) | (with_reducible refine i_call ?_) | (with_reducible refine i_sl ?_) | (with_reducible refine i_noP ?_) | ((with_reducible apply i_partV); exact rfl) | (with_reducible refine i_ret ?_) | (with_reducible refine i_asg ?_) | (with_reducible refine i_par ?_) | (with_reducible refine i_if ?_) | (with_reducible refine i_or ?_) | (with_reducible refine i_bl ?_) | (with_reducible refine i_ifE ?_) | (with_reducible refine i_tru ?_) | (with_reducible refine o_add ?_) | (with_reducible refine o_sub ?_) | (with_reducible refine o_neg ?_) | ((with_reducible refine o_lst ?_ ?_); · exact rfl) | ((with_reducible refine o_tup ?_ ?_); · exact rfl) | (with_reducible refine o_tupl ?_) | (with_reducible refine o_slL ?_) | (with_reducible refine o_name ?_) | (with_reducible refine o_some ?_)
  rw [ex]
  repeat first | (with_reducible refine i_cons ?_) | (with_reducible refine i_nil ?_) | (with_reducible refine i_args ?_) | (with_reducible refine i_c ?_) | ((with_reducible apply i_var); exact rfl) | (with_reducible refine i_op ?_) | (with_reducible refine i_un ?_) | (with_reducible refine i_call ?_) | (with_reducible refine i_sl ?_) | (with_reducible refine i_noP ?_) | ((with_reducible apply i_partV); exact rfl) | (with_reducible refine i_ret ?_) | (with_reducible refine i_asg ?_) | (with_reducible refine i_par ?_) | (with_reducible refine i_if ?_) | (with_reducible refine i_or ?_) | (with_reducible refine i_bl ?_) | (with_reducible refine i_ifE ?_) | (with_reducible refine i_tru ?_) | (with_reducible refine o_add ?_) | (with_reducible refine o_sub ?_) | (with_reducible refine o_neg ?_) | ((with_reducible refine o_lst ?_ ?_); · exact rfl) | ((with_reducible refine o_tup ?_ ?_); · exact rfl) | (with_reducible refine o_tupl ?_) | (with_reducible refine o_slL ?_) | (with_reducible refine o_name ?_) | (with_reducible refine o_some ?_)
  refine ek_neS ?_
  show if false = true then _ else _
  rw [if_neg (by decide)]
  exact hk _ _ _ n2 (by omega) (by omega)
end K04
namespace K04
open PySem PySem.Spec PyProof.Rows L2 DS
theorem for_turns {P : Pn} : ∀ (ds : List D) (a b c d e : Sl) (n : Nat), n + 500 * ds.length < 700000 → (∀ a b c d n2, n2 < 700000 → P.nx [.no, .val .box, a, b, c, d, e] n2) → forD (fun d ρ n P => optK (gfName 2 d ρ) fun ρ' => m_turn noX ρ' n P) ds [.no, .val .box, a, b, c, d, e] n P
  | [], a, b, c, d, e, n, hn, h => h a b c d n (by omega)
  | x :: ds, a, b, c, d, e, n, hn, h => by
    rw [List.length_cons] at hn
    refine for_i fun R hR => ?_
    refine o_name ?_
    refine c_turn (by omega) fun b c d n2 h1 h2 => ?_
    exact hR _ _ (for_turns ds (.val x) b c d e n2 (by omega) h)
def m_deep : MS := (mAsg (gfName 6) (mIfE (mBl (mOp eqX (mCall con__law_plait (mCons (mVar 1) (mCons (mC (.int 2)) (mNil)))) (mC (.int 0)))) (mArgs lstD (mCons (mVar 6) (mNil))) (mArgs tupD (mCons (mVar 6) (mNil)))))
theorem c_deep {a b c d : Sl} {v : D} {n : Nat} {P : Pn} (hn : n < 800000) (hk : ∀ v2 n2, (v2 = .lst [v] ∨ v2 = .tup [v]) → n ≤ n2 → n2 ≤ n + 1 → P.nx [.no, .val .box, a, b, c, d, .val v2] n2) : m_deep noX [.no, .val .box, a, b, c, d, .val v] n P := by
  unfold m_deep
  repeat first | (with_reducible refine i_cons ?_) | (with_reducible refine i_nil ?_) | (with_reducible refine i_args ?_) | (with_reducible refine i_c ?_) | ((with_reducible apply i_var); exact rfl) | (with_reducible refine i_op ?_) | (with_reducible refine i_un ?_) | (with_reducible refine i_call ?_) | (with_reducible refine i_sl ?_) | (with_reducible refine i_noP ?_) | ((with_reducible apply i_partV); exact rfl) | (with_reducible refine i_ret ?_) | (with_reducible refine i_asg ?_) | (with_reducible refine i_par ?_) | (with_reducible refine i_if ?_) | (with_reducible refine i_or ?_) | (with_reducible refine i_bl ?_) | (with_reducible refine i_ifE ?_) | (with_reducible refine i_tru ?_) | (with_reducible refine o_add ?_) | (with_reducible refine o_sub ?_) | (with_reducible refine o_neg ?_) | ((with_reducible refine o_lst ?_ ?_); · exact rfl) | ((with_reducible refine o_tup ?_ ?_); · exact rfl) | (with_reducible refine o_tupl ?_) | (with_reducible refine o_slL ?_) | (with_reducible refine o_name ?_) | (with_reducible refine o_some ?_)
  refine c_draw ⟨by decide, by decide⟩ (by omega) fun r n1 r0 r1 a0 a1 => ?_
  repeat first | (with_reducible refine i_cons ?_) | (with_reducible refine i_nil ?_) | (with_reducible refine i_args ?_) | (with_reducible refine i_c ?_) | ((with_reducible apply i_var); exact rfl) | (with_reducible refine i_op ?_) | (with_reducible refine i_un ?_) | (with_reducible refine i_call ?_) | (with_reducible refine i_sl ?_) | (with_reducible refine i_noP ?_) | ((with_reducible apply i_partV); exact rfl) | (with_reducible refine i_ret ?_) | (with_reducible refine i_asg ?_) | (with_reducible refine i_par ?_) | (with_reducible refine i_if ?_) | (with_reducible refine i_or ?_) | (with_reducible refine i_bl ?_) | (with_reducible refine i_ifE ?_) | (with_reducible refine i_tru ?_) | (with_reducible refine o_add ?_) | (with_reducible refine o_sub ?_) | (with_reducible refine o_neg ?_) | ((with_reducible refine o_lst ?_ ?_); · exact rfl) | ((with_reducible refine o_tup ?_ ?_); · exact rfl) | (with_reducible refine o_tupl ?_) | (with_reducible refine o_slL ?_) | (with_reducible refine o_name ?_) | (with_reducible refine o_some ?_)
  refine o_eqI ?_
  show if (r == 0) = true then _ else _
  refine ite_i (fun _ => ?_) fun _ => ?_
  · repeat first | (with_reducible refine i_cons ?_) | (with_reducible refine i_nil ?_) | (with_reducible refine i_args ?_) | (with_reducible refine i_c ?_) | ((with_reducible apply i_var); exact rfl) | (with_reducible refine i_op ?_) | (with_reducible refine i_un ?_) | (with_reducible refine i_call ?_) | (with_reducible refine i_sl ?_) | (with_reducible refine i_noP ?_) | ((with_reducible apply i_partV); exact rfl) | (with_reducible refine i_ret ?_) | (with_reducible refine i_asg ?_) | (with_reducible refine i_par ?_) | (with_reducible refine i_if ?_) | (with_reducible refine i_or ?_) | (with_reducible refine i_bl ?_) | (with_reducible refine i_ifE ?_) | (with_reducible refine i_tru ?_) | (with_reducible refine o_add ?_) | (with_reducible refine o_sub ?_) | (with_reducible refine o_neg ?_) | ((with_reducible refine o_lst ?_ ?_); · exact rfl) | ((with_reducible refine o_tup ?_ ?_); · exact rfl) | (with_reducible refine o_tupl ?_) | (with_reducible refine o_slL ?_) | (with_reducible refine o_name ?_) | (with_reducible refine o_some ?_)
    exact hk _ n1 (.inl rfl) (by omega) (by omega)
  · repeat first | (with_reducible refine i_cons ?_) | (with_reducible refine i_nil ?_) | (with_reducible refine i_args ?_) | (with_reducible refine i_c ?_) | ((with_reducible apply i_var); exact rfl) | (with_reducible refine i_op ?_) | (with_reducible refine i_un ?_) | (with_reducible refine i_call ?_) | (with_reducible refine i_sl ?_) | (with_reducible refine i_noP ?_) | ((with_reducible apply i_partV); exact rfl) | (with_reducible refine i_ret ?_) | (with_reducible refine i_asg ?_) | (with_reducible refine i_par ?_) | (with_reducible refine i_if ?_) | (with_reducible refine i_or ?_) | (with_reducible refine i_bl ?_) | (with_reducible refine i_ifE ?_) | (with_reducible refine i_tru ?_) | (with_reducible refine o_add ?_) | (with_reducible refine o_sub ?_) | (with_reducible refine o_neg ?_) | ((with_reducible refine o_lst ?_ ?_); · exact rfl) | ((with_reducible refine o_tup ?_ ?_); · exact rfl) | (with_reducible refine o_tupl ?_) | (with_reducible refine o_slL ?_) | (with_reducible refine o_name ?_) | (with_reducible refine o_some ?_)
    exact hk _ n1 (.inr rfl) (by omega) (by omega)
theorem for_deep {P : Pn} : ∀ (ds : List D) (a b c d : Sl) (v : D) (j w n : Nat), Gd j w v → j + ds.length ≤ 40 → w + ds.length ≤ 1000 → n + ds.length < 800000 → (∀ a v2 n2, Gd 40 1000 v2 → P.nx [.no, .val .box, a, b, c, d, .val v2] n2) → forD (fun d ρ n P => optK (gfName 2 d ρ) fun ρ' => m_deep noX ρ' n P) ds [.no, .val .box, a, b, c, d, .val v] n P
  | [], a, b, c, d, v, j, w, n, g, hj, hw, hn, h => h a v n (g.mono (by rw [List.length_nil] at hj; omega) (by rw [List.length_nil] at hw; omega))
  | x :: ds, a, b, c, d, v, j, w, n, g, hj, hw, hn, h => by
    rw [List.length_cons] at hj hw hn
    refine for_i fun R hR => ?_
    refine o_name ?_
    refine c_deep (by omega) fun v2 n2 hv h1 h2 => ?_
    have g2 : Gd (j + 1) (w + 1) v2 := by
      rcases hv with rfl | rfl
      · exact .lst (j := j) (w := w) [v] (by omega) (by show 1 * _ ≤ _; omega) (le_lit rfl) fun y hy => by rw [List.mem_singleton.mp hy]; exact g
      · exact .tup (j := j) (w := w) [v] (by omega) (by show 1 * _ ≤ _; omega) (le_lit rfl) fun y hy => by rw [List.mem_singleton.mp hy]; exact g
    exact hR _ _ (for_deep ds (.val x) b c d v2 (j + 1) (w + 1) n2 g2 (by omega) (by omega) (by omega) h)
theorem rep_d1 : reprXD [.dct [(.inl 1, .lst [.int 2])]] = some (.str ("{1: [2]}" : Str)) := by
  show reprX (.dict [(.int 1, .list [.int 2])]) = _
  unfold reprX
  rw [if_pos (by decide +kernel)]
  exact congrArg (fun z => some (D.str z)) (by decide +kernel)
theorem plain : m_law noX ((List.replicate 7 Sl.no).set 1 (.val .box)) 0 { nx := fun _ _ => False, rt := fun d _ => d = .bl true } := by
  show m_law noX [.no, .val .box, .no, .no, .no, .no, .no] 0 _
  unfold m_law
  refine seq_i fun R hR => ?_
  refine i_for ?_
  show (-(2 ^ 62) ≤ (8 : Int) ∧ (8 : Int) < 2 ^ 62) ∧ forD (fun d ρ n P => optK (gfName 2 d ρ) fun ρ' => m_turn noX ρ' n P) (range1D 8) [.no, .val .box, .no, .no, .no, .no, .no] 0 _
  refine ⟨⟨by decide, by decide⟩, for_turns _ _ _ _ _ _ _ (by decide) fun a b c d n hn => hR _ _ ?_⟩
  clear hR
  refine seq_i fun R hR => ?_
  repeat first | (with_reducible refine i_cons ?_) | (with_reducible refine i_nil ?_) | (with_reducible refine i_args ?_) | (with_reducible refine i_c ?_) | ((with_reducible apply i_var); exact rfl) | (with_reducible refine i_op ?_) | (with_reducible refine i_un ?_) | (with_reducible refine i_call ?_) | (with_reducible refine i_sl ?_) | (with_reducible refine i_noP ?_) | ((with_reducible apply i_partV); exact rfl) | (with_reducible refine i_ret ?_) | (with_reducible refine i_asg ?_) | (with_reducible refine i_par ?_) | (with_reducible refine i_if ?_) | (with_reducible refine i_or ?_) | (with_reducible refine i_bl ?_) | (with_reducible refine i_ifE ?_) | (with_reducible refine i_tru ?_) | (with_reducible refine o_add ?_) | (with_reducible refine o_sub ?_) | (with_reducible refine o_neg ?_) | ((with_reducible refine o_lst ?_ ?_); · exact rfl) | ((with_reducible refine o_tup ?_ ?_); · exact rfl) | (with_reducible refine o_tupl ?_) | (with_reducible refine o_slL ?_) | (with_reducible refine o_name ?_) | (with_reducible refine o_some ?_)
  refine c_draw ⟨by decide, by decide⟩ (by omega) fun r n1 r0 r1 a0 a1 => ?_
  repeat first | (with_reducible refine i_cons ?_) | (with_reducible refine i_nil ?_) | (with_reducible refine i_args ?_) | (with_reducible refine i_c ?_) | ((with_reducible apply i_var); exact rfl) | (with_reducible refine i_op ?_) | (with_reducible refine i_un ?_) | (with_reducible refine i_call ?_) | (with_reducible refine i_sl ?_) | (with_reducible refine i_noP ?_) | ((with_reducible apply i_partV); exact rfl) | (with_reducible refine i_ret ?_) | (with_reducible refine i_asg ?_) | (with_reducible refine i_par ?_) | (with_reducible refine i_if ?_) | (with_reducible refine i_or ?_) | (with_reducible refine i_bl ?_) | (with_reducible refine i_ifE ?_) | (with_reducible refine i_tru ?_) | (with_reducible refine o_add ?_) | (with_reducible refine o_sub ?_) | (with_reducible refine o_neg ?_) | ((with_reducible refine o_lst ?_ ?_); · exact rfl) | ((with_reducible refine o_tup ?_ ?_); · exact rfl) | (with_reducible refine o_tupl ?_) | (with_reducible refine o_slL ?_) | (with_reducible refine o_name ?_) | (with_reducible refine o_some ?_)
  refine hR _ _ ?_
  clear hR
  refine seq_i fun R hR => ?_
  refine i_for ?_
  show (-(2 ^ 62) ≤ (29 : Int) ∧ (29 : Int) < 2 ^ 62) ∧ forD (fun d ρ n P => optK (gfName 2 d ρ) fun ρ' => m_deep noX ρ' n P) (range1D 29) [.no, .val .box, a, b, c, d, .val (.int r)] n1 _
  have l29 : (range1D 29).length = 29 := by rw [len_range1]; rfl
  refine ⟨⟨by decide, by decide⟩, for_deep _ _ _ _ _ (.int r) 4 100 n1 (.int r (.inl (by omega)) (by decide)) (by omega) (by omega) (by omega) fun a v n2 gv => hR _ _ ?_⟩
  clear hR
  obtain ⟨y, ey⟩ := rep_of gv.fix (by decide) (by decide)
  refine i_ret (i_andV ?_)
  repeat first | (with_reducible refine i_cons ?_) | (with_reducible refine i_nil ?_) | (with_reducible refine i_args ?_) | (with_reducible refine i_c ?_) | ((with_reducible apply i_var); exact rfl) | (with_reducible refine i_op ?_) | (with_reducible refine i_un ?_) | (with_reducible refine i_call ?_) | (with_reducible refine i_sl ?_) | (with_reducible refine i_noP ?_) | ((with_reducible apply i_partV); exact rfl) | (with_reducible refine i_ret ?_) | (with_reducible refine i_asg ?_) | (with_reducible refine i_par ?_) | (with_reducible refine i_if ?_) | (with_reducible refine i_or ?_) | (with_reducible refine i_bl ?_) | (with_reducible refine i_ifE ?_) | (with_reducible refine i_tru ?_) | (with_reducible refine o_add ?_) | (with_reducible refine o_sub ?_) | (with_reducible refine o_neg ?_) | ((with_reducible refine o_lst ?_ ?_); · exact rfl) | ((with_reducible refine o_tup ?_ ?_); · exact rfl) | (with_reducible refine o_tupl ?_) | (with_reducible refine o_slL ?_) | (with_reducible refine o_name ?_) | (with_reducible refine o_some ?_)
  refine c_fixed gv 45 _ _ (by decide) ?_
  repeat first | (with_reducible refine i_cons ?_) | (with_reducible refine i_nil ?_) | (with_reducible refine i_args ?_) | (with_reducible refine i_c ?_) | ((with_reducible apply i_var); exact rfl) | (with_reducible refine i_op ?_) | (with_reducible refine i_un ?_) | (with_reducible refine i_call ?_) | (with_reducible refine i_sl ?_) | (with_reducible refine i_noP ?_) | ((with_reducible apply i_partV); exact rfl) | (with_reducible refine i_ret ?_) | (with_reducible refine i_asg ?_) | (with_reducible refine i_par ?_) | (with_reducible refine i_if ?_) | (with_reducible refine i_or ?_) | (with_reducible refine i_bl ?_) | (with_reducible refine i_ifE ?_) | (with_reducible refine i_tru ?_) | (with_reducible refine o_add ?_) | (with_reducible refine o_sub ?_) | (with_reducible refine o_neg ?_) | ((with_reducible refine o_lst ?_ ?_); · exact rfl) | ((with_reducible refine o_tup ?_ ?_); · exact rfl) | (with_reducible refine o_tupl ?_) | (with_reducible refine o_slL ?_) | (with_reducible refine o_name ?_) | (with_reducible refine o_some ?_)
  rw [ey]
  repeat first | (with_reducible refine i_cons ?_) | (with_reducible refine i_nil ?_) | (with_reducible refine i_args ?_) | (with_reducible refine i_c ?_) | ((with_reducible apply i_var); exact rfl) | (with_reducible refine i_op ?_) | (with_reducible refine i_un ?_) | (with_reducible refine i_call ?_) | (with_reducible refine i_sl ?_) | (with_reducible refine i_noP ?_) | ((with_reducible apply i_partV); exact rfl) | (with_reducible refine i_ret ?_) | (with_reducible refine i_asg ?_) | (with_reducible refine i_par ?_) | (with_reducible refine i_if ?_) | (with_reducible refine i_or ?_) | (with_reducible refine i_bl ?_) | (with_reducible refine i_ifE ?_) | (with_reducible refine i_tru ?_) | (with_reducible refine o_add ?_) | (with_reducible refine o_sub ?_) | (with_reducible refine o_neg ?_) | ((with_reducible refine o_lst ?_ ?_); · exact rfl) | ((with_reducible refine o_tup ?_ ?_); · exact rfl) | (with_reducible refine o_tupl ?_) | (with_reducible refine o_slL ?_) | (with_reducible refine o_name ?_) | (with_reducible refine o_some ?_)
  refine c_own gv 45 _ _ (by decide) ?_
  repeat first | (with_reducible refine i_cons ?_) | (with_reducible refine i_nil ?_) | (with_reducible refine i_args ?_) | (with_reducible refine i_c ?_) | ((with_reducible apply i_var); exact rfl) | (with_reducible refine i_op ?_) | (with_reducible refine i_un ?_) | (with_reducible refine i_call ?_) | (with_reducible refine i_sl ?_) | (with_reducible refine i_noP ?_) | ((with_reducible apply i_partV); exact rfl) | (with_reducible refine i_ret ?_) | (with_reducible refine i_asg ?_) | (with_reducible refine i_par ?_) | (with_reducible refine i_if ?_) | (with_reducible refine i_or ?_) | (with_reducible refine i_bl ?_) | (with_reducible refine i_ifE ?_) | (with_reducible refine i_tru ?_) | (with_reducible refine o_add ?_) | (with_reducible refine o_sub ?_) | (with_reducible refine o_neg ?_) | ((with_reducible refine o_lst ?_ ?_); · exact rfl) | ((with_reducible refine o_tup ?_ ?_); · exact rfl) | (with_reducible refine o_tupl ?_) | (with_reducible refine o_slL ?_) | (with_reducible refine o_name ?_) | (with_reducible refine o_some ?_)
  rw [ey]
  repeat first | (with_reducible refine i_cons ?_) | (with_reducible refine i_nil ?_) | (with_reducible refine i_args ?_) | (with_reducible refine i_c ?_) | ((with_reducible apply i_var); exact rfl) | (with_reducible refine i_op ?_) | (with_reducible refine i_un ?_) | (with_reducible refine i_call ?_) | (with_reducible refine i_sl ?_) | (with_reducible refine i_noP ?_) | ((with_reducible apply i_partV); exact rfl) | (with_reducible refine i_ret ?_) | (with_reducible refine i_asg ?_) | (with_reducible refine i_par ?_) | (with_reducible refine i_if ?_) | (with_reducible refine i_or ?_) | (with_reducible refine i_bl ?_) | (with_reducible refine i_ifE ?_) | (with_reducible refine i_tru ?_) | (with_reducible refine o_add ?_) | (with_reducible refine o_sub ?_) | (with_reducible refine o_neg ?_) | ((with_reducible refine o_lst ?_ ?_); · exact rfl) | ((with_reducible refine o_tup ?_ ?_); · exact rfl) | (with_reducible refine o_tupl ?_) | (with_reducible refine o_slL ?_) | (with_reducible refine o_name ?_) | (with_reducible refine o_some ?_)
  refine ek_eqS ?_
  refine o_truth ?_
  rw [if_pos rfl]
  refine i_andV ?_
  repeat first | (with_reducible refine i_cons ?_) | (with_reducible refine i_nil ?_) | (with_reducible refine i_args ?_) | (with_reducible refine i_c ?_) | ((with_reducible apply i_var); exact rfl) | (with_reducible refine i_op ?_) | (with_reducible refine i_un ?_) | (with_reducible refine i_call ?_) | (with_reducible refine i_sl ?_) | (with_reducible refine i_noP ?_) | ((with_reducible apply i_partV); exact rfl) | (with_reducible refine i_ret ?_) | (with_reducible refine i_asg ?_) | (with_reducible refine i_par ?_) | (with_reducible refine i_if ?_) | (with_reducible refine i_or ?_) | (with_reducible refine i_bl ?_) | (with_reducible refine i_ifE ?_) | (with_reducible refine i_tru ?_) | (with_reducible refine o_add ?_) | (with_reducible refine o_sub ?_) | (with_reducible refine o_neg ?_) | ((with_reducible refine o_lst ?_ ?_); · exact rfl) | ((with_reducible refine o_tup ?_ ?_); · exact rfl) | (with_reducible refine o_tupl ?_) | (with_reducible refine o_slL ?_) | (with_reducible refine o_name ?_) | (with_reducible refine o_some ?_)
  refine c_fixed (j := 4) (w := 100) (.str ("over" : Str) (by decide +kernel) (by decide +kernel)) 45 _ _ (by decide) ?_
  repeat first | (with_reducible refine i_cons ?_) | (with_reducible refine i_nil ?_) | (with_reducible refine i_args ?_) | (with_reducible refine i_c ?_) | ((with_reducible apply i_var); exact rfl) | (with_reducible refine i_op ?_) | (with_reducible refine i_un ?_) | (with_reducible refine i_call ?_) | (with_reducible refine i_sl ?_) | (with_reducible refine i_noP ?_) | ((with_reducible apply i_partV); exact rfl) | (with_reducible refine i_ret ?_) | (with_reducible refine i_asg ?_) | (with_reducible refine i_par ?_) | (with_reducible refine i_if ?_) | (with_reducible refine i_or ?_) | (with_reducible refine i_bl ?_) | (with_reducible refine i_ifE ?_) | (with_reducible refine i_tru ?_) | (with_reducible refine o_add ?_) | (with_reducible refine o_sub ?_) | (with_reducible refine o_neg ?_) | ((with_reducible refine o_lst ?_ ?_); · exact rfl) | ((with_reducible refine o_tup ?_ ?_); · exact rfl) | (with_reducible refine o_tupl ?_) | (with_reducible refine o_slL ?_) | (with_reducible refine o_name ?_) | (with_reducible refine o_some ?_)
  refine ek_eqS ?_
  refine o_truth ?_
  rw [if_pos rfl]
  refine i_andV ?_
  repeat first | (with_reducible refine i_cons ?_) | (with_reducible refine i_nil ?_) | (with_reducible refine i_args ?_) | (with_reducible refine i_c ?_) | ((with_reducible apply i_var); exact rfl) | (with_reducible refine i_op ?_) | (with_reducible refine i_un ?_) | (with_reducible refine i_call ?_) | (with_reducible refine i_sl ?_) | (with_reducible refine i_noP ?_) | ((with_reducible apply i_partV); exact rfl) | (with_reducible refine i_ret ?_) | (with_reducible refine i_asg ?_) | (with_reducible refine i_par ?_) | (with_reducible refine i_if ?_) | (with_reducible refine i_or ?_) | (with_reducible refine i_bl ?_) | (with_reducible refine i_ifE ?_) | (with_reducible refine i_tru ?_) | (with_reducible refine o_add ?_) | (with_reducible refine o_sub ?_) | (with_reducible refine o_neg ?_) | ((with_reducible refine o_lst ?_ ?_); · exact rfl) | ((with_reducible refine o_tup ?_ ?_); · exact rfl) | (with_reducible refine o_tupl ?_) | (with_reducible refine o_slL ?_) | (with_reducible refine o_name ?_) | (with_reducible refine o_some ?_)
  refine c_fixed (j := 4) (w := 100) .non 45 _ _ (by decide) ?_
  repeat first | (with_reducible refine i_cons ?_) | (with_reducible refine i_nil ?_) | (with_reducible refine i_args ?_) | (with_reducible refine i_c ?_) | ((with_reducible apply i_var); exact rfl) | (with_reducible refine i_op ?_) | (with_reducible refine i_un ?_) | (with_reducible refine i_call ?_) | (with_reducible refine i_sl ?_) | (with_reducible refine i_noP ?_) | ((with_reducible apply i_partV); exact rfl) | (with_reducible refine i_ret ?_) | (with_reducible refine i_asg ?_) | (with_reducible refine i_par ?_) | (with_reducible refine i_if ?_) | (with_reducible refine i_or ?_) | (with_reducible refine i_bl ?_) | (with_reducible refine i_ifE ?_) | (with_reducible refine i_tru ?_) | (with_reducible refine o_add ?_) | (with_reducible refine o_sub ?_) | (with_reducible refine o_neg ?_) | ((with_reducible refine o_lst ?_ ?_); · exact rfl) | ((with_reducible refine o_tup ?_ ?_); · exact rfl) | (with_reducible refine o_tupl ?_) | (with_reducible refine o_slL ?_) | (with_reducible refine o_name ?_) | (with_reducible refine o_some ?_)
  show optK (some (D.bl true)) _
  repeat first | (with_reducible refine i_cons ?_) | (with_reducible refine i_nil ?_) | (with_reducible refine i_args ?_) | (with_reducible refine i_c ?_) | ((with_reducible apply i_var); exact rfl) | (with_reducible refine i_op ?_) | (with_reducible refine i_un ?_) | (with_reducible refine i_call ?_) | (with_reducible refine i_sl ?_) | (with_reducible refine i_noP ?_) | ((with_reducible apply i_partV); exact rfl) | (with_reducible refine i_ret ?_) | (with_reducible refine i_asg ?_) | (with_reducible refine i_par ?_) | (with_reducible refine i_if ?_) | (with_reducible refine i_or ?_) | (with_reducible refine i_bl ?_) | (with_reducible refine i_ifE ?_) | (with_reducible refine i_tru ?_) | (with_reducible refine o_add ?_) | (with_reducible refine o_sub ?_) | (with_reducible refine o_neg ?_) | ((with_reducible refine o_lst ?_ ?_); · exact rfl) | ((with_reducible refine o_tup ?_ ?_); · exact rfl) | (with_reducible refine o_tupl ?_) | (with_reducible refine o_slL ?_) | (with_reducible refine o_name ?_) | (with_reducible refine o_some ?_)
  refine o_truth ?_
  rw [if_pos rfl]
  repeat first | (with_reducible refine i_cons ?_) | (with_reducible refine i_nil ?_) | (with_reducible refine i_args ?_) | (with_reducible refine i_c ?_) | ((with_reducible apply i_var); exact rfl) | (with_reducible refine i_op ?_) | (with_reducible refine i_un ?_) | (with_reducible refine i_call ?_) | (with_reducible refine i_sl ?_) | (with_reducible refine i_noP ?_) | ((with_reducible apply i_partV); exact rfl) | (with_reducible refine i_ret ?_) | (with_reducible refine i_asg ?_) | (with_reducible refine i_par ?_) | (with_reducible refine i_if ?_) | (with_reducible refine i_or ?_) | (with_reducible refine i_bl ?_) | (with_reducible refine i_ifE ?_) | (with_reducible refine i_tru ?_) | (with_reducible refine o_add ?_) | (with_reducible refine o_sub ?_) | (with_reducible refine o_neg ?_) | ((with_reducible refine o_lst ?_ ?_); · exact rfl) | ((with_reducible refine o_tup ?_ ?_); · exact rfl) | (with_reducible refine o_tupl ?_) | (with_reducible refine o_slL ?_) | (with_reducible refine o_name ?_) | (with_reducible refine o_some ?_)
  refine dict_1 ?_
  repeat first | (with_reducible refine i_cons ?_) | (with_reducible refine i_nil ?_) | (with_reducible refine i_args ?_) | (with_reducible refine i_c ?_) | ((with_reducible apply i_var); exact rfl) | (with_reducible refine i_op ?_) | (with_reducible refine i_un ?_) | (with_reducible refine i_call ?_) | (with_reducible refine i_sl ?_) | (with_reducible refine i_noP ?_) | ((with_reducible apply i_partV); exact rfl) | (with_reducible refine i_ret ?_) | (with_reducible refine i_asg ?_) | (with_reducible refine i_par ?_) | (with_reducible refine i_if ?_) | (with_reducible refine i_or ?_) | (with_reducible refine i_bl ?_) | (with_reducible refine i_ifE ?_) | (with_reducible refine i_tru ?_) | (with_reducible refine o_add ?_) | (with_reducible refine o_sub ?_) | (with_reducible refine o_neg ?_) | ((with_reducible refine o_lst ?_ ?_); · exact rfl) | ((with_reducible refine o_tup ?_ ?_); · exact rfl) | (with_reducible refine o_tupl ?_) | (with_reducible refine o_slL ?_) | (with_reducible refine o_name ?_) | (with_reducible refine o_some ?_)
  refine c_fixed (j := 4) (w := 100) (.d1 (by decide) (by decide)) 45 _ _ (by decide) ?_
  repeat first | (with_reducible refine i_cons ?_) | (with_reducible refine i_nil ?_) | (with_reducible refine i_args ?_) | (with_reducible refine i_c ?_) | ((with_reducible apply i_var); exact rfl) | (with_reducible refine i_op ?_) | (with_reducible refine i_un ?_) | (with_reducible refine i_call ?_) | (with_reducible refine i_sl ?_) | (with_reducible refine i_noP ?_) | ((with_reducible apply i_partV); exact rfl) | (with_reducible refine i_ret ?_) | (with_reducible refine i_asg ?_) | (with_reducible refine i_par ?_) | (with_reducible refine i_if ?_) | (with_reducible refine i_or ?_) | (with_reducible refine i_bl ?_) | (with_reducible refine i_ifE ?_) | (with_reducible refine i_tru ?_) | (with_reducible refine o_add ?_) | (with_reducible refine o_sub ?_) | (with_reducible refine o_neg ?_) | ((with_reducible refine o_lst ?_ ?_); · exact rfl) | ((with_reducible refine o_tup ?_ ?_); · exact rfl) | (with_reducible refine o_tupl ?_) | (with_reducible refine o_slL ?_) | (with_reducible refine o_name ?_) | (with_reducible refine o_some ?_)
  rw [show fx (.dct [(.inl 1, .lst [.int 2])]) = .dct [(.inl 1, .lst [.int 2])] from rfl, rep_d1]
  repeat first | (with_reducible refine i_cons ?_) | (with_reducible refine i_nil ?_) | (with_reducible refine i_args ?_) | (with_reducible refine i_c ?_) | ((with_reducible apply i_var); exact rfl) | (with_reducible refine i_op ?_) | (with_reducible refine i_un ?_) | (with_reducible refine i_call ?_) | (with_reducible refine i_sl ?_) | (with_reducible refine i_noP ?_) | ((with_reducible apply i_partV); exact rfl) | (with_reducible refine i_ret ?_) | (with_reducible refine i_asg ?_) | (with_reducible refine i_par ?_) | (with_reducible refine i_if ?_) | (with_reducible refine i_or ?_) | (with_reducible refine i_bl ?_) | (with_reducible refine i_ifE ?_) | (with_reducible refine i_tru ?_) | (with_reducible refine o_add ?_) | (with_reducible refine o_sub ?_) | (with_reducible refine o_neg ?_) | ((with_reducible refine o_lst ?_ ?_); · exact rfl) | ((with_reducible refine o_tup ?_ ?_); · exact rfl) | (with_reducible refine o_tupl ?_) | (with_reducible refine o_slL ?_) | (with_reducible refine o_name ?_) | (with_reducible refine o_some ?_)
  refine ek_eqS ?_
  rfl
end K04
open PySem PySem.W PyProof.Rows
set_option maxRecDepth 100000 in
set_option maxHeartbeats 0 in
theorem PySem.Challenge.cw_ropesays_k04_lists_and_tuples_all_the_wa_holds : PySem.Challenge.rw_ropesays_k04_lists_and_tuples_all_the_wa.Holds := by
  w_on; o_law
  k_head
  (case hw => w_witness2)
  k_fill
  refine DS.law_g (l := PySem.Challenge.rw_ropesays_k04_lists_and_tuples_all_the_wa) (n := 63) (k := 49) (x := ("_law_script" : Str)) (CX := L2.CX0) (sp := DS.spLaw) rfl (by decide) rfl ⟨rfl, by decide, by decide⟩ (fun w h Y => PySem.W.kIn_of Y) ?F (fun _ _ a ns _ hS => ⟨a, ns, rfl, hS, fun _ => rfl⟩) (fun _ _ _ _ z => z)
  case F =>
    intro w mg fa h KX G hmg
    refine' K04.all_mk KX G hmg ?a0 ?l0 ?c0 ?k0 ?a1 ?l1 ?c1 ?k1 ?a2 ?l2 ?c2 ?k2 ?a3 ?l3 ?c3 ?k3 ?a4 ?l4 ?c4 ?k4 ?a5 ?l5 ?c5 ?k5 ?a6 ?l6 ?c6 ?k6 ?z_abs ?z_int ?z_isinstance ?z_len ?z_list ?z_range ?z_repr ?z_tuple K04.draw_ok K04.plain
    (case a0 => k_is)
    (case l0 => k_is)
    (case c0 => k_is)
    (case k0 => k_is)
    (case a1 => k_is)
    (case l1 => k_is)
    (case c1 => k_is)
    (case k1 => k_is)
    (case a2 => k_is)
    (case l2 => k_is)
    (case c2 => k_is)
    (case k2 => k_is)
    (case a3 => k_is)
    (case l3 => k_is)
    (case c3 => k_is)
    (case k3 => k_is)
    (case a4 => k_is)
    (case l4 => k_is)
    (case c4 => k_is)
    (case k4 => k_is)
    (case a5 => k_is)
    (case l5 => k_is)
    (case c5 => k_is)
    (case k5 => k_is)
    (case a6 => k_is)
    (case l6 => k_is)
    (case c6 => k_is)
    (case k6 => k_is)
    (case z_abs => k_is)
    (case z_int => k_is)
    (case z_isinstance => k_is)
    (case z_len => k_is)
    (case z_list => k_is)
    (case z_range => k_is)
    (case z_repr => k_is)
    (case z_tuple => k_is)
