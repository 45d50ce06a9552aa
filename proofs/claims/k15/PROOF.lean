import PyProof.Rows.All
import Wide.All
import OpenK.AllK
import Wide.FinOn
import HandS.ForMost
import HandS.Walk
import HandS.IsInst
import HandS.Flow
import HandS.TupAny
import HandS.Wide
import HandS.Lambda
import HandS.Conv
import HandS.RaiseMore
import HandS.TupMul
import HandS.Zip
import HandS.Dict
import PyProof.ReprRoads
import HandS.Iter
import HandS.Star
import HandS.ExcInit
import HandS.ExcIs
import HandS.ExcField
import HandS.ExcOwn
import HandS.ExcSuper
import KE.KExcSuper
import KE.KTypeName
import KE.KDflt
import KE.KExcIs
import KE.RegKIsAll
import HandS.Sort
import HandS.Defaults
import HandS.MakeKwOnly
import KE.GoesMore
import HandS.SortRule
import PyProof.StrOps2
import HandS.Style
import PySem.Challenge.RW_ropesays_k15_spaces_turned
set_option Elab.async false
set_option linter.all false
set_option maxRecDepth 100000
set_option maxHeartbeats 4000000
/-! # DataS: a calculus on data over the layer: lists and dicts of data are kept locked, so a value is what it holds; what draws is a box -/
namespace DS
open PySem PySem.Spec PyProof.Rows L2

/-! ### data -/
inductive D where
  | non | bl (b : Bool) | int (i : Int) | str (x : Str)
  | lst (xs : List D) | tup (xs : List D)
  | dct (kvs : List (Key × D))
  | ins (nm : Str) (fs : List (Str × D))
  | exc (nm : Str) (fs : List (Str × D))
  | box
  | raw (v : V)

/-- cn: the text's exception classes and their names; tb: the tables of the code objects of lambdas; ci: the classes whose instances never change once they are made, fo: the names of their fields -/
structure Sg where
  cn : Addr → Option Str
  tb : List (Addr × Str)
  ci : Addr → Option Str
  fo : Str → List Str
def sg0 : Sg := ⟨fun _ => none, [], fun _ => none, fun _ => []⟩
/-- K: the written part; B: where the box stands, and its cells -/
structure Cc where
  K : PySem.W.Frag
  S : Sg
  B : Option (Addr × (Addr × List Int))

def FzL (K : PySem.W.Frag) (H : Hp) (a : Addr) (xs : List V) : Prop := (∃ o, H a = some (.frz o (.lst xs))) ∨
  ∃ (its : List Value) (n : Nat), K.lookup a = some { cls := .type "list", data := .seq its.toArray n } ∧ its.length ≤ sizeLine ∧ Vals xs its
theorem FzL.sq {K : PySem.W.Frag} {H : Hp} {a : Addr} {xs : List V} (h : FzL K H a xs) : SqL K H a xs := by
  rcases h with ⟨o, h⟩ | ⟨its, n, h, hz, r⟩
  · exact .inl (.inr ⟨o, h⟩)
  · exact .inr ⟨_, its.toArray, n, h, rfl, rfl, rfl, by simpa using hz, by simpa using r⟩
theorem FzL.at {X : Cx} {pins : List (Addr × Obj)} {σ : L2.St} {H : Hp} {s : Shared} {a : Addr} {xs : List V} (I : Inv X pins σ H s) (h : FzL X.K H a xs) :
    ∃ (its : List Value) (n : Nat), Vals xs its ∧ s.heap.get? a = some { cls := .type "list", data := .seq its.toArray n } ∧ its.length ≤ sizeLine := by
  rcases h with ⟨o, h⟩ | ⟨its, n, h, hz, r⟩
  · obtain ⟨_, z, its, n, r, e⟩ := I.hok a _ h
    exact ⟨its, n, r, e, by rw [← r.length]; exact z⟩
  · exact ⟨its, n, r, I.kIn a _ h, hz⟩

/-- at a: an exception of the class at C, its dict at d -/
def exV (a C d : Addr) : HO := .ext fun h => ∃ oe vs, h.get? a = some oe ∧ oe.cls = .ref C ∧ oe.dict = some d ∧ oe.data = .fields vs
mutual
inductive DV (c : Cc) (H : Hp) : V → D → Prop
  | non : DV c H .non .non
  | bl (b : Bool) : DV c H (.bl b) (.bl b)
  | int (i : Int) : DV c H (.int i) (.int i)
  | str (x : Str) : DV c H (.str x) (.str x)
  | lst {a : Addr} {xs : List V} {ds : List D} : FzL c.K H a xs → DVs c H xs ds → DV c H (.ref a) (.lst ds)
  | tup {a : Addr} {xs : List V} {ds : List D} : SqT c.K H a xs → DVs c H xs ds → DV c H (.ref a) (.tup ds)
  | dct {a : Addr} {o : Obj} {kvs : List (Key × V)} {ds : List (Key × D)} : H a = some (.frz o (.dK kvs)) → DVk c H kvs ds → DV c H (.ref a) (.dct ds)
  | ins {a C dx : Addr} {nm : Str} {fs : List (Str × V)} {ds : List (Str × D)} : c.S.ci C = some nm → c.S.fo nm = fs.map (·.1) → H a = some (.ins C dx fs) → DVf c H fs ds → DV c H (.ref a) (.ins nm ds)
  | exc {a C d : Addr} {nm : Str} {fs : List (Str × V)} {ds : List (Str × D)} : c.S.cn C = some nm → H a = some (exV a C d) → H d = some (.xd fs) → DVf c H fs ds → DV c H (.ref a) (.exc nm ds)
  | box {a : Addr} {cl : Addr × List Int} : c.B = some (a, cl) → DV c H (.ref a) .box
  | raw (v : V) : DV c H v (.raw v)
inductive DVs (c : Cc) (H : Hp) : List V → List D → Prop
  | nil : DVs c H [] []
  | cons {v : V} {vs : List V} {d : D} {ds : List D} : DV c H v d → DVs c H vs ds → DVs c H (v :: vs) (d :: ds)
inductive DVk (c : Cc) (H : Hp) : List (Key × V) → List (Key × D) → Prop
  | nil : DVk c H [] []
  | cons {k : Key} {v : V} {vs : List (Key × V)} {d : D} {ds : List (Key × D)} : DV c H v d → DVk c H vs ds → DVk c H ((k, v) :: vs) ((k, d) :: ds)
inductive DVf (c : Cc) (H : Hp) : List (Str × V) → List (Str × D) → Prop
  | nil : DVf c H [] []
  | cons {k : Str} {v : V} {vs : List (Str × V)} {d : D} {ds : List (Str × D)} : DV c H v d → DVf c H vs ds → DVf c H ((k, v) :: vs) ((k, d) :: ds)
end

/-! ### what stays -/
def Stb (c : Cc) : HO → Prop
  | .frz _ _ => True
  | .tup _ => True
  | .ins C _ fs => ∃ nm, c.S.ci C = some nm ∧ c.S.fo nm = fs.map (·.1)
  | .ext _ => True
  | .xd _ => True
  | _ => False
/-- what never changes stays -/
def Kw (c : Cc) (H H' : Hp) : Prop := ∀ a u, H a = some u → Stb c u → H' a = some u
/-- a is neither the box nor a table -/
def OffB (c : Cc) (a : Addr) : Prop := (∀ cl, c.B ≠ some (a, cl)) ∧ ∀ q ∈ c.S.tb, q.1 ≠ a
/-- all but the box and the tables stays -/
def Ks (c : Cc) (H H' : Hp) : Prop := ∀ a u, H a = some u → (Stb c u ∨ OffB c a) → H' a = some u
section
variable {c : Cc} {H H1 H2 : Hp}
theorem Kw.refl (c : Cc) (H : Hp) : Kw c H H := fun _ _ e _ => e
theorem Kw.trans (h : Kw c H H1) (g : Kw c H1 H2) : Kw c H H2 := fun a u e s => g a u (h a u e s) s
theorem Ks.refl (c : Cc) (H : Hp) : Ks c H H := fun _ _ e _ => e
theorem Ks.trans (h : Ks c H H1) (g : Ks c H1 H2) : Ks c H H2 := fun a u e s => g a u (h a u e s) s
theorem Ks.kw (h : Ks c H H1) : Kw c H H1 := fun a u e s => h a u e (.inl s)
theorem Same.ks (h : Same H H1) : Ks c H H1 := fun a u e _ => h a u e
theorem same_new {p : Addr} {o : HO} (h : H p = none) : Same H (upd H p o) := fun a u e => by
  rw [upd_ne (ne_of_none e h)]; exact e
theorem kw_upd {p : Addr} {o u : HO} (h : H p = some u) (n : ¬ Stb c u) : Kw c H (upd H p o) := fun a w e s => by
  by_cases z : a = p
  · subst z; rw [h] at e; cases e; exact absurd s n
  · rw [upd_ne z]; exact e
end
mutual
theorem DV.kw {c : Cc} {H H' : Hp} (k : Kw c H H') : ∀ {v : V} {d : D}, DV c H v d → DV c H' v d
  | _, _, .non => .non
  | _, _, .bl b => .bl b
  | _, _, .int i => .int i
  | _, _, .str x => .str x
  | _, _, .lst h hs => .lst (by
      rcases h with ⟨o, h⟩ | h
      · exact .inl ⟨o, k _ _ h True.intro⟩
      · exact .inr h) (DVs.kw k hs)
  | _, _, .tup h hs => .tup (by
      rcases h with (h | ⟨o, h⟩) | h
      · exact .inl (.inl (k _ _ h True.intro))
      · exact .inl (.inr ⟨o, k _ _ h True.intro⟩)
      · exact .inr h) (DVs.kw k hs)
  | _, _, .dct h hs => .dct (k _ _ h True.intro) (DVk.kw k hs)
  | _, _, .ins s e h hs => .ins s e (k _ _ h ⟨_, s, e⟩) (DVf.kw k hs)
  | _, _, .exc s h hd hs => .exc s (k _ _ h True.intro) (k _ _ hd True.intro) (DVf.kw k hs)
  | _, _, .box h => .box h
  | _, _, .raw v => .raw v
theorem DVs.kw {c : Cc} {H H' : Hp} (k : Kw c H H') : ∀ {vs : List V} {ds : List D}, DVs c H vs ds → DVs c H' vs ds
  | _, _, .nil => .nil
  | _, _, .cons h t => .cons (DV.kw k h) (DVs.kw k t)
theorem DVk.kw {c : Cc} {H H' : Hp} (k : Kw c H H') : ∀ {vs : List (Key × V)} {ds : List (Key × D)}, DVk c H vs ds → DVk c H' vs ds
  | _, _, .nil => .nil
  | _, _, .cons h t => .cons (DV.kw k h) (DVk.kw k t)
theorem DVf.kw {c : Cc} {H H' : Hp} (k : Kw c H H') : ∀ {vs : List (Str × V)} {ds : List (Str × D)}, DVf c H vs ds → DVf c H' vs ds
  | _, _, .nil => .nil
  | _, _, .cons h t => .cons (DV.kw k h) (DVf.kw k t)
end
section
variable {c : Cc} {H : Hp}
theorem DVs.length {vs : List V} {ds : List D} (h : DVs c H vs ds) : vs.length = ds.length := by
  induction ds generalizing vs with
  | nil => cases h; rfl
  | cons d ds ih => cases h with | cons a b => simp [ih b]
theorem DVs.get {vs : List V} {ds : List D} {i : Nat} {v : V} (h : DVs c H vs ds) (e : vs[i]? = some v) : ∃ d, ds[i]? = some d ∧ DV c H v d := by
  induction i generalizing vs ds with
  | zero => cases h with
    | nil => simp at e
    | cons a b => simp at e; subst e; exact ⟨_, rfl, a⟩
  | succ i ih => cases h with
    | nil => simp at e
    | cons a b =>
      obtain ⟨d, h1, h2⟩ := ih b (by simpa using e)
      exact ⟨d, by simpa using h1, h2⟩
theorem DVs.getD {vs : List V} {ds : List D} {i : Nat} {d : D} (h : DVs c H vs ds) (e : ds[i]? = some d) : ∃ v, vs[i]? = some v ∧ DV c H v d := by
  induction i generalizing vs ds with
  | zero => cases h with
    | nil => simp at e
    | cons a b => simp at e; subst e; exact ⟨_, rfl, a⟩
  | succ i ih => cases h with
    | nil => simp at e
    | cons a b =>
      obtain ⟨d, h1, h2⟩ := ih b (by simpa using e)
      exact ⟨d, by simpa using h1, h2⟩
theorem DVs.append {vs ws : List V} {ds es : List D} (h : DVs c H vs ds) (g : DVs c H ws es) : DVs c H (vs ++ ws) (ds ++ es) := by
  induction ds generalizing vs with
  | nil => cases h; exact g
  | cons d ds ih => cases h with | cons a b => exact .cons a (ih b)
theorem DVs.one {v : V} {d : D} (h : DV c H v d) : DVs c H [v] [d] := .cons h .nil
theorem DVs.take {vs : List V} {ds : List D} (n : Nat) (h : DVs c H vs ds) : DVs c H (vs.take n) (ds.take n) := by
  induction n generalizing vs ds with
  | zero => simp; exact .nil
  | succ n ih => cases h with
    | nil => simp; exact .nil
    | cons a b => simp; exact .cons a (ih b)
theorem DVs.drop {vs : List V} {ds : List D} (n : Nat) (h : DVs c H vs ds) : DVs c H (vs.drop n) (ds.drop n) := by
  induction n generalizing vs ds with
  | zero => simpa using h
  | succ n ih => cases h with
    | nil => simp; exact .nil
    | cons a b => simpa using ih b
theorem DVs.isEmpty {vs : List V} {ds : List D} (h : DVs c H vs ds) : vs.isEmpty = ds.isEmpty := by cases h <;> rfl
end

/-! ### the box and the tables -/
structure BoxAt (c : Cc) (n : Nat) (H : Hp) : Prop where
  bx : ∀ b cl, c.B = some (b, cl) → ∃ (lap rest : Int), H b = some (.lst [.ref cl.1, .int lap, .int rest]) ∧ FzL c.K H cl.1 (cl.2.map V.int) ∧ 0 ≤ lap ∧ lap ≤ n ∧ 0 ≤ rest
  tb : LamX.Tabs c.S.tb H
theorem tabs_kw {c : Cc} {H H1 : Hp} (k : Kw c H H1) {T : List (Addr × Str)} (hP : ∀ P q, (P, q) ∈ T → ∀ ps, H P = some (.tbl ps) → H1 P = some (.tbl ps)) (h : LamX.Tabs T H) : LamX.Tabs T H1 := fun p hp => by
  obtain ⟨ps, h1, h2, h3⟩ := h p hp
  refine ⟨ps, hP p.1 p.2 hp _ h1, h2, fun pos cv hc => ?_⟩
  obtain ⟨a, e1, e2⟩ := h3 pos cv hc
  exact ⟨a, e1, k _ _ e2 True.intro⟩
section
variable {c : Cc} {H H1 : Hp} {n m : Nat}
theorem FzL.kw {a : Addr} {xs : List V} (k : Kw c H H1) (h : FzL c.K H a xs) : FzL c.K H1 a xs := by
  rcases h with ⟨o, h⟩ | h
  · exact .inl ⟨o, k _ _ h True.intro⟩
  · exact .inr h
theorem BoxAt.same (h : BoxAt c n H) (s : Same H H1) : BoxAt c n H1 := ⟨fun b cl e => by
  obtain ⟨lap, rest, h1, h2, h3⟩ := h.bx b cl e
  exact ⟨lap, rest, s _ _ h1, h2.kw (Same.ks s).kw, h3⟩, h.tb.ext s⟩
theorem BoxAt.le (h : BoxAt c n H) (l : n ≤ m) : BoxAt c m H := ⟨fun b cl e => by
  obtain ⟨lap, rest, h1, h2, h3, h4, h5⟩ := h.bx b cl e
  exact ⟨lap, rest, h1, h2, h3, by omega, h5⟩, h.tb⟩
/-- a change at one place that is neither the box nor a table -/
theorem BoxAt.upd {p : Addr} {o : HO} (h : BoxAt c n H) (k : Kw c H (upd H p o)) (hp : OffB c p) : BoxAt c n (L2.upd H p o) := ⟨fun b cl e => by
  obtain ⟨lap, rest, h1, h2, h3⟩ := h.bx b cl e
  have nb : b ≠ p := fun z => hp.1 cl (by rw [← z]; exact e)
  exact ⟨lap, rest, by rw [upd_ne nb]; exact h1, h2.kw k, h3⟩, tabs_kw k (fun P q hq ps e => by
    have nb : P ≠ p := fun z => hp.2 _ hq z
    rw [upd_ne nb]; exact e) h.tb⟩
/-- what is free of tracked things is off -/
theorem BoxAt.off {p : Addr} (h : BoxAt c n H) (hp : H p = none) : OffB c p := by
  refine ⟨fun cl z => ?_, fun q hq z => ?_⟩
  · obtain ⟨_, _, e, _⟩ := h.bx p cl z
    rw [hp] at e; cases e
  · obtain ⟨ps, e, _⟩ := h.tb q hq
    rw [z, hp] at e; cases e
end

/-! ### slots -/
/-- what is one's own: a list; an instance being made, its fields so far; an instance that is made -/
inductive Ow where
  | lst (xs : List D)
  | obj (nm : Str) (fs : List (Str × D))
  | done (d : D)
def OwAt (c : Cc) (H : Hp) (p : Addr) : Ow → Prop
  | .lst xs => ∃ vs, H p = some (.lst vs) ∧ DVs c H vs xs
  | .obj nm fs => ∃ C dx vs, c.S.ci C = some nm ∧ H p = some (.ins C dx vs) ∧ DVf c H vs fs ∧ c.S.fo nm ≠ vs.map (·.1)
  | .done d => DV c H (.ref p) d ∧ ∃ u, H p = some u
theorem OwAt.keep {c : Cc} {H H' : Hp} {p : Addr} : ∀ {w : Ow}, OwAt c H p w → (∀ u, H p = some u → H' p = some u) → Kw c H H' → OwAt c H' p w
  | .lst _, ⟨vs, h, d⟩, e, k => ⟨vs, e _ h, d.kw k⟩
  | .obj _ _, ⟨C, dx, vs, h1, h2, h3, h4⟩, e, k => ⟨C, dx, vs, h1, e _ h2, DVf.kw k h3, h4⟩
  | .done _, ⟨d, u, h⟩, e, k => ⟨d.kw k, u, e _ h⟩
theorem OwAt.at {c : Cc} {H : Hp} {p : Addr} : ∀ {w : Ow}, OwAt c H p w → ∃ u, H p = some u
  | .lst _, ⟨_, h, _⟩ => ⟨_, h⟩
  | .obj _ _, ⟨_, _, _, _, h, _⟩ => ⟨_, h⟩
  | .done _, ⟨_, u, h⟩ => ⟨u, h⟩
inductive Sl where
  | no
  | val (d : D)
  | own (p : Addr) (w : Ow)
abbrev Ev := List Sl
abbrev St := L2.St
structure Rel (c : Cc) (H0 : Hp) (ρ : Ev) (n : Nat) (σ : St) (H : Hp) : Prop where
  len : σ.length = ρ.length
  vals : ∀ (i : Nat) (d : D), ρ[i]? = some (.val d) → ∃ v, σ[i]? = some (some v) ∧ DV c H v d
  owns : ∀ (i : Nat) (p : Addr) (xs : Ow), ρ[i]? = some (.own p xs) → σ[i]? = some (some (.ref p)) ∧ H0 p = none ∧ (OffB c p) ∧ OwAt c H p xs
  uniq : ∀ (i j : Nat) (p : Addr) (xs ys : Ow), ρ[i]? = some (.own p xs) → ρ[j]? = some (.own p ys) → i = j
  box : BoxAt c n H
  k0 : Ks c H0 H
section
variable {c : Cc} {H0 H H1 : Hp} {ρ : Ev} {n m : Nat} {σ : St}
theorem Rel.step (R : Rel c H0 ρ n σ H) (k : Ks c H H1) (b : BoxAt c m H1) : Rel c H0 ρ m σ H1 where
  len := R.len
  vals := fun i d e => let ⟨v, h1, h2⟩ := R.vals i d e; ⟨v, h1, h2.kw k.kw⟩
  owns := fun i p xs e => let ⟨h1, h2, h3, h4⟩ := R.owns i p xs e; ⟨h1, h2, h3, h4.keep (fun u e => k _ _ e (.inr h3)) k.kw⟩
  uniq := R.uniq
  box := b
  k0 := R.k0.trans k
theorem Rel.set {i : Nat} {v : V} {d : D} (R : Rel c H0 ρ n σ H) (h : DV c H v d) : Rel c H0 (ρ.set i (.val d)) n (σ.set i (some v)) H where
  len := by simp [R.len]
  vals := fun j e hj => by
    by_cases z : i = j
    · subst z
      have hl : i < ρ.length := by have := (List.getElem?_eq_some_iff.mp hj).1; simpa using this
      rw [List.getElem?_set_self hl] at hj
      cases hj
      exact ⟨v, List.getElem?_set_self (by rw [R.len]; exact hl), h⟩
    · rw [List.getElem?_set_ne z] at hj
      rw [List.getElem?_set_ne z]
      exact R.vals j e hj
  owns := fun j p xs hj => by
    by_cases z : i = j
    · subst z
      have hl : i < ρ.length := by have := (List.getElem?_eq_some_iff.mp hj).1; simpa using this
      rw [List.getElem?_set_self hl] at hj
      cases hj
    · rw [List.getElem?_set_ne z] at hj
      rw [List.getElem?_set_ne z]
      exact R.owns j p xs hj
  uniq := fun j1 j2 p xs ys h1 h2 => by
    have nz : ∀ (j : Nat) (zs : Ow), (ρ.set i (.val d))[j]? = some (.own p zs) → ρ[j]? = some (.own p zs) := fun j zs hj => by
      by_cases z : i = j
      · subst z
        have hl : i < ρ.length := by have := (List.getElem?_eq_some_iff.mp hj).1; simpa using this
        rw [List.getElem?_set_self hl] at hj
        cases hj
      · rw [List.getElem?_set_ne z] at hj; exact hj
    exact R.uniq j1 j2 p xs ys (nz j1 xs h1) (nz j2 ys h2)
  box := R.box
  k0 := R.k0
end

/-! ### the calculus -/
abbrev DK := D → Nat → Prop
abbrev XD := Str → List (Str × D) → Nat → Prop
abbrev ME := XD → Ev → Nat → DK → Prop
abbrev MT := XD → Ev → Nat → (Bool → Nat → Prop) → Prop
abbrev MA := XD → Ev → Nat → (List D → Nat → Prop) → Prop
structure Pn where
  nx : Ev → Nat → Prop
  rt : DK
  bk : Ev → Nat → Prop := fun _ _ => False
  ct : Ev → Nat → Prop := fun _ _ => False
abbrev MS := XD → Ev → Nat → Pn → Prop
abbrev Con := XD → List D → Nat → DK → Prop

def tE (c : Cc) (H0 : Hp) (ε : XD) (m : ME) : TE := fun σ H Q => ∃ ρ n k, Rel c H0 ρ n σ H ∧ m ε ρ n k ∧ ∀ d n' v H', k d n' → DV c H' v d → Ks c H H' → BoxAt c n' H' → Q v H'
def tT (c : Cc) (H0 : Hp) (ε : XD) (m : MT) : TT := fun σ H Q => ∃ ρ n k, Rel c H0 ρ n σ H ∧ m ε ρ n k ∧ ∀ b n' H', k b n' → Ks c H H' → BoxAt c n' H' → Q b H'
def tA (c : Cc) (H0 : Hp) (ε : XD) (m : MA) : TA := fun σ H Q => ∃ ρ n k, Rel c H0 ρ n σ H ∧ m ε ρ n k ∧ ∀ ds n' vs H', k ds n' → DVs c H' vs ds → Ks c H H' → BoxAt c n' H' → Q vs H'
def tS (c : Cc) (H0 : Hp) (ε : XD) (m : MS) : TS := fun De σ H => ∃ ρ n P, Rel c H0 ρ n σ H ∧ m ε ρ n P ∧
  (∀ ρ' n' σ' H', P.nx ρ' n' → Rel c H0 ρ' n' σ' H' → Kw c H H' → De.nx σ' H') ∧
  (∀ d n' v H', P.rt d n' → DV c H' v d → Ks c H0 H' → BoxAt c n' H' → De.rt v H') ∧
  (∀ ρ' n' σ' H', P.bk ρ' n' → Rel c H0 ρ' n' σ' H' → Kw c H H' → De.bk σ' H') ∧
  (∀ ρ' n' σ' H', P.ct ρ' n' → Rel c H0 ρ' n' σ' H' → Kw c H H' → De.ct σ' H')
end DS
namespace DS
open PySem PySem.Spec PyProof.Rows L2
section
variable {X : Cx} {c : Cc} {H0 : Hp} {ε : XD}

theorem imp_pe {e : Expr} {t t' : TE} (h : PE X e t) (i : ∀ σ H Q, t' σ H Q → t σ H Q) : PE X e t' := ⟨fun pins s σ H Q I w => h.run pins s σ H Q I (i σ H Q w)⟩
theorem imp_pt {e : Expr} {t t' : TT} (h : PT X e t) (i : ∀ σ H Q, t' σ H Q → t σ H Q) : PT X e t' := ⟨fun pins s σ H Q I w => h.run pins s σ H Q I (i σ H Q w)⟩
theorem imp_pw {e : Expr} {t t' : TT} (h : PW X e t) (i : ∀ σ H Q, t' σ H Q → t σ H Q) : PW X e t' := ⟨fun wh pins s σ H Q I w => h.run wh pins s σ H Q I (i σ H Q w)⟩
theorem imp_pa {e : List Expr} {t t' : TA} (h : PA X e t) (i : ∀ σ H Q, t' σ H Q → t σ H Q) : PA X e t' := ⟨fun p pins s σ H Q I w => h.run p pins s σ H Q I (i σ H Q w)⟩
theorem imp_ps {e : Stmt} {t t' : TS} (h : PS X e t) (i : ∀ De σ H, t' De σ H → t De σ H) : PS X e t' := ⟨fun pins s σ H De I w => h.run pins s σ H De I (i De σ H w)⟩
theorem imp_pss {e : List Stmt} {t t' : TS} (h : PSs X e t) (i : ∀ De σ H, t' De σ H → t De σ H) : PSs X e t' := ⟨fun pins s σ H De I w => h.run pins s σ H De I (i De σ H w)⟩

/-- a new thing may be locked behind the expression -/
def tFz (t : TE) : TE := fun σ H Q => t σ H fun v H' => Q v H' ∨ ∃ p u, v = .ref p ∧ H' p = some u ∧ Mut (some u) ∧ ∀ o, Q v (upd H' p (.frz o u))
theorem pe_fz {e : Expr} {t : TE} (h : PE X e t) : PE X e (tFz t) := by
  refine ⟨fun pins s σ H Q I w => ?_⟩
  refine thn (h.run pins s σ H _ I w) fun v s1 ⟨x, H1, I1, r, q⟩ => ?_
  rcases q with q | ⟨p, u, rfl, hp, mu, q⟩
  · exact ⟨x, H1, I1, r, q⟩
  · obtain ⟨o, I2⟩ := I1.lock hp mu
    exact ⟨_, _, I2, r, q o⟩

/-- a value that is data, or a new thing that is once it's locked -/
def DVn (c : Cc) (H0 H : Hp) (v : V) (d : D) : Prop := DV c H v d ∨ ∃ p u, v = .ref p ∧ H0 p = none ∧ H p = some u ∧ Mut (some u) ∧ ¬ Stb c u ∧ ∀ o, DV c (upd H p (.frz o u)) v d
theorem DVn.lst {H H' : Hp} {p : Addr} {xs : List V} {ds : List D} (h0 : H p = none) (h : H' p = some (.lst xs)) (hs : DVs c H' xs ds) : DVn c H H' (.ref p) (.lst ds) :=
  .inr ⟨p, _, rfl, h0, h, True.intro, id, fun o => .lst (.inl ⟨o, upd_same⟩) (hs.kw (kw_upd h id))⟩

/-- the end of a step that laid new things -/
theorem fin_new {ρ : Ev} {n : Nat} {k : DK} {σ : St} {H H1 : Hp} {Q : VK} {v : V} {d : D} (R : BoxAt c n H) (s : Same H H1) (dv : DVn c H H1 v d) (m : k d n)
    (q : ∀ d n' v H', k d n' → DV c H' v d → Ks c H H' → BoxAt c n' H' → Q v H') : Q v H1 ∨ ∃ p u, v = .ref p ∧ H1 p = some u ∧ Mut (some u) ∧ ∀ o, Q v (upd H1 p (.frz o u)) := by
  rcases dv with dv | ⟨p, u, rfl, h0, h1, mu, ns, dv⟩
  · exact .inl (q _ _ _ _ m dv (Same.ks s) (R.same s))
  · refine .inr ⟨p, u, rfl, h1, mu, fun o => q _ _ _ _ m (dv o) (fun a w e z => ?_) ?_⟩
    · rw [upd_ne (ne_of_none e h0)]; exact s _ _ e
    · exact (R.same s).upd (kw_upd h1 ns) (R.off h0)

/-! ### names, constants -/
def mVar (i : Nat) : ME := fun _ ρ n k => match ρ[i]? with
  | some (.val d) => k d n
  | _ => False
def mC (d : D) : ME := fun _ _ n k => k d n
theorem de_var (i : Nat) {x : Str} {pos : Pos} (hN : X.N[i]? = some x := by rfl) (hv : Vis X.env.scope x := by first | exact Or.inl rfl | exact Or.inr (Or.inl rfl) | exact Or.inr (Or.inr rfl))
    (hd : (x == ("__debug__" : Str)) = false := by decide) (hcd : (x == ("__classdict__" : Str)) = false := by decide) : PE X (.Name x pos) (tE c H0 ε (mVar i)) := by
  refine imp_pe (pe_var hN hv hd hcd) fun σ H Q ⟨ρ, n, k, R, m, q⟩ => ?_
  unfold mVar at m
  split at m
  · rename_i d e
    obtain ⟨v, h1, h2⟩ := R.vals i d e
    exact ⟨v, h1, q _ _ _ _ m h2 (Ks.refl _ _) R.box⟩
  · exact m.elim
theorem de_c {e : Expr} {v : V} {d : D} (h : PE X e (tC v)) (hd : ∀ H, DV c H v d) : PE X e (tE c H0 ε (mC d)) :=
  imp_pe h fun σ H Q ⟨ρ, n, k, R, m, q⟩ => q _ _ _ _ m (hd H) (Ks.refl _ _) R.box
theorem de_int {i j pos} : PE X (.Constant (.int i) j pos) (tE c H0 ε (mC (.int i))) := de_c pe_int fun _ => .int i
theorem de_bl {b j pos} : PE X (.Constant (.bool b) j pos) (tE c H0 ε (mC (.bl b))) := de_c pe_bl fun _ => .bl b
theorem de_non {j pos} : PE X (.Constant .none j pos) (tE c H0 ε (mC .non)) := de_c pe_non fun _ => .non
theorem de_str {x j pos} : PE X (.Constant (.str x) j pos) (tE c H0 ε (mC (.str x))) := de_c pe_str fun _ => .str x
/-- a built-in type as a value -/
theorem de_ty {x : Str} {n : String} {pos : Pos} (hg : Gl X x) (hm : X.mg x = none) (hv : bootBuiltins x = some (.type n)) (hn : x ≠ "__name__" := by decide) (hd : (x == ("__debug__" : Str)) = false := by decide) : PE X (.Name x pos) (tE c H0 ε (mC (.raw (.ty n)))) :=
  de_c (pe_bltn hg hm hv (v := .ty n) rfl hn hd) fun _ => .raw _
/-- a module's constant -/
structure KDat (K : PySem.W.Frag) (mg : Str → Option Value) (x : Str) (d : D) : Prop where
  ex : ∃ u v, mg x = some u ∧ RelV v u ∧ ∀ (S : Sg) B H, DV ⟨K, S, B⟩ H v d
theorem de_glob {S : Sg} {B} {x : Str} {d : D} {pos : Pos} (hg : Gl X x) (h : KDat X.K X.mg x d) (hd : (x == ("__debug__" : Str)) = false := by decide) : PE X (.Name x pos) (tE ⟨X.K, S, B⟩ H0 ε (mC d)) := by
  obtain ⟨u, v, h1, h2, h3⟩ := h.ex
  exact de_c (pe_glob hg h1 h2 hd) fun H => h3 S B H

/-! ### operators -/
def optK {α : Type} (o : Option α) (k : α → Prop) : Prop := match o with
  | some a => k a
  | none => False
theorem optK_some {α : Type} {o : Option α} {k : α → Prop} (h : optK o k) : ∃ a, o = some a ∧ k a := by
  cases o with
  | none => exact h.elim
  | some a => exact ⟨a, rfl, h⟩
def mOp (g : D → D → Option D) (ma mb : ME) : ME := fun ε ρ n k => ma ε ρ n fun x n1 => mb ε ρ n1 fun y n2 => optK (g x y) fun d => k d n2
def mUn (g : D → Option D) (ma : ME) : ME := fun ε ρ n k => ma ε ρ n fun x n1 => optK (g x) fun d => k d n1
def OpD (c : Cc) (r : R2) (g : D → D → Option D) : Prop := ∀ x y dx dy d H (Q : VK), DV c H x dx → DV c H y dy → g dx dy = some d → (∀ v H', DVn c H H' v d → Same H H' → Q v H') → r x y H Q
theorem same_refl (H : Hp) : Same H H := fun _ _ e => e
theorem de_bin {f : Value → Value → Sem Value} {r : R2} {g : D → D → Option D} {ma mb : ME} {e a b : Expr} (h : ∀ {ta tb}, PE X a ta → PE X b tb → PE X e (tOp r ta tb)) (hd : OpD c r g)
    (ha : PE X a (tE c H0 ε ma)) (hb : PE X b (tE c H0 ε mb)) : PE X e (tE c H0 ε (mOp g ma mb)) := by
  refine imp_pe (pe_fz (h ha hb)) fun σ H Q ⟨ρ, n, k, R, m, q⟩ => ?_
  refine ⟨ρ, n, _, R, m, fun x n1 v H1 m1 dv k1 b1 => ⟨ρ, n1, _, R.step k1 b1, m1, fun y n2 u H2 m2 du k2 b2 => ?_⟩⟩
  obtain ⟨d, e1, m3⟩ := optK_some m2
  refine hd _ _ _ _ _ H2 _ (dv.kw k2.kw) du e1 fun w H3 dw s3 => ?_
  exact fin_new (ρ := ρ) (σ := σ) b2 s3 dw m3 fun d n' v H' a1 a2 a3 a4 => q d n' v H' a1 a2 ((k1.trans k2).trans a3) a4
theorem de_op {op : Operator} {r : R2} {g : D → D → Option D} {ma mb : ME} {a b : Expr} {pos : Pos} (ho : OpR X (binaryOp op) r) (hd : OpD c r g) (ha : PE X a (tE c H0 ε ma)) (hb : PE X b (tE c H0 ε mb)) : PE X (.BinOp a op b pos) (tE c H0 ε (mOp g ma mb)) :=
  de_bin (f := binaryOp op) (fun h1 h2 => pe_op ho h1 h2) hd ha hb
theorem de_cmp {op : CmpOp} {r : R2} {g : D → D → Option D} {ma mb : ME} {a b : Expr} {pos : Pos} (ho : OpR X (compareOp op) r) (hd : OpD c r g) (hm : behindInMarks op b = false) (ha : PE X a (tE c H0 ε ma)) (hb : PE X b (tE c H0 ε mb)) :
    PE X (.Compare a [op] [b] pos) (tE c H0 ε (mOp g ma mb)) :=
  de_bin (f := compareOp op) (fun h1 h2 => pe_cmpR ho h1 h2 hm) hd ha hb
def UnD (c : Cc) (r : V → Hp → VK → Prop) (g : D → Option D) : Prop := ∀ x dx d H (Q : VK), DV c H x dx → g dx = some d → (∀ v H', DVn c H H' v d → Same H H' → Q v H') → r x H Q
theorem de_un {op : UnaryOp} {r : V → Hp → VK → Prop} {g : D → Option D} {ma : ME} {a : Expr} {pos : Pos} (ho : UnR X (unaryOp op) r) (hd : UnD c r g) (ha : PE X a (tE c H0 ε ma)) : PE X (.UnaryOp op a pos) (tE c H0 ε (mUn g ma)) := by
  refine imp_pe (pe_fz (pe_un ho ha)) fun σ H Q ⟨ρ, n, k, R, m, q⟩ => ?_
  refine ⟨ρ, n, _, R, m, fun x n1 v H1 m1 dv k1 b1 => ?_⟩
  obtain ⟨d, e1, m3⟩ := optK_some m1
  refine hd _ _ _ H1 _ dv e1 fun w H3 dw s3 => ?_
  exact fin_new (ρ := ρ) (σ := σ) b1 s3 dw m3 fun d n' v H' a1 a2 a3 a4 => q d n' v H' a1 a2 (k1.trans a3) a4

/-! the functions of data -/
def addD : D → D → Option D
  | .int a, .int b => some (.int (a + b))
  | .str a, .str b => if a.length + b.length ≤ sizeLine then some (.str (a ++ b)) else none
  | .lst xs, .lst ys => if xs.length + ys.length ≤ sizeLine then some (.lst (xs ++ ys)) else none
  | .tup xs, .tup ys => if xs.length + ys.length ≤ sizeLine then some (.tup (xs ++ ys)) else none
  | _, _ => none
theorem op_catF : OpR X (binaryOp .Add) (fun x y H Q => ∃ l b xs zs, x = .ref l ∧ y = .ref b ∧ FzL X.K H l xs ∧ FzL X.K H b zs ∧ xs.length + zs.length ≤ sizeLine ∧ ∀ p, H p = none → Q (.ref p) (upd H p (.lst (xs ++ zs)))) := by
  intro pins s σ H x y v u Q I rx ry h
  obtain ⟨l, b, xs, zs, rfl, rfl, f1, f2, sz, k⟩ := h
  cases rx
  cases ry
  obtain ⟨i1, n1, r1, g1, _⟩ := f1.at I
  obtain ⟨i2, n2, r2, g2, _⟩ := f2.at I
  have e1 := r1.length
  have e2 := r2.length
  refine PySem.P.add_list g1 g2 ?_ (by simp only [List.size_toArray]; omega)
  simp only [List.append_toArray]
  exact ⟨.ref _, _, I.lnew (t' := s.toks) (r1.append r2) (by rw [List.length_append]; omega), rfl, k _ I.fresh⟩
end
end DS
/-! # DataG: promises of defs that are called where no repr runs (so what repr gives is known in them) -/
namespace DS
open PySem PySem.Spec PyProof.Rows L2
/-- the promise of a def, where no repr is under way -/
structure FnG (P : Program) (w : World) (K : PySem.W.Frag) (mg : Str → Option Value) (base : Heap) (CX : CXT) (k : Nat) (f : Addr) (fd : FuncData) (ps : List Str) (sp : Sp) : Prop where
  len : ∀ vs H Q E, sp vs H Q E → vs.length = ps.length
  run : ∀ (A : Around) (out : List Env) (s : Shared) (H : Hp) (ar : Args) (us : List Value) (vs : List V) (Q : VK) (E : XK), A.guards = some [] → Room k A → Env0 P w K mg base A out s H →
    BindsTo s fd ar (ps.zip us) → Vals vs us → sp vs H Q E → codeAny (model P w) A (.call (.ref f) ar) (CR CX out P w H s Q E) s
section
variable {P : Program} {w : World} {K : PySem.W.Frag} {mg : Str → Option Value} {base : Heap} {CX : CXT} {k : Nat} {f : Addr}
theorem FnG.mono {j : Nat} {fd : FuncData} {ps : List Str} {sp : Sp} (F : FnG P w K mg base CX j f fd ps sp) (h : j ≤ k) : FnG P w K mg base CX k f fd ps sp :=
  ⟨F.len, fun A o s H ar us vs Q E g r => F.run A o s H ar us vs Q E g (r.mono h)⟩
theorem FnG.imp {fd : FuncData} {ps : List Str} {sp sp' : Sp} (F : FnG P w K mg base CX k f fd ps sp) (h : ∀ vs H Q E, sp' vs H Q E → sp vs H Q E) : FnG P w K mg base CX k f fd ps sp' :=
  ⟨fun vs H Q E q => F.len vs H Q E (h _ _ _ _ q), fun A o s H ar us vs Q E g r e b v q => F.run A o s H ar us vs Q E g r e b v (h _ _ _ _ q)⟩
/-- the code object of the function at f -/
def CdOf (K : PySem.W.Frag) (f : Addr) (cdv : Value) : Prop := ∃ oc od fd osl, K.lookup f = some ⟨oc, od, .func fd, osl⟩ ∧ fd.code = cdv
/-- a def of the text by its body -/
theorem fng_of {x qual : Str} {st : Stmt} {fd : FuncData} {N ps : List Str} {sp : Sp} (F : Fun K x qual st f fd) (S : FnScope N ps (defScope st)) (len : ∀ vs H Q E, sp vs H Q E → vs.length = ps.length)
    (hb : ∀ (cdv : Value) (A : Around) (out : List Env) (s : Shared) (H : Hp) (vs : List V) (Q : VK) (E : XK), A.guards = some [] → Room k (A.deeper (envOfC qual (defScope st) s.heap.objs.size f cdv)) → CdOf K f cdv → sp vs H Q E →
      ∃ t, PSs (cxOf CX P w K mg base N qual (defScope st) f cdv A out s H E) (defBody st) t ∧ t { nx := fun _ H' => Q .non H', rt := Q } (start N vs) H) : FnG P w K mg base CX (k + 1) f fd ps sp := by
  obtain ⟨oc, od, kV, doc, pm, an, cdv, ct, osl, rfl, lk, hcd⟩ := F.ex
  refine ⟨len, fun A out s H ar us vs Q E hg hr e0 hbi hv hq => ?_⟩
  have there : ∀ b o, base.get? b = some o → s.heap.get? b = some o := fun b o e => (e0.bs b o e).1
  have inS : K.In s.heap := e0.mod.kin.keeps there
  have kinds : ∀ y ∈ ps.zip us, (defScope st).names.lookup y.1 = some .local ∨ ((defScope st).names.lookup y.1 = some .cell ∧ ((cellsFrom (s.heap.objs.size + 1) (defScope st).names []).lookup y.1).isSome = true) := by
    rintro ⟨y, v⟩ hy
    rcases S.par y (List.of_mem_zip hy).1 with q | q
    · exact .inl q
    · exact .inr ⟨q, PySem.W.cellsFrom_some _ _ _ (.inl q)⟩
  refine codeAny_call_function hr.depth (inS _ _ lk) rfl S.co S.gen rfl (PySem.W.codeRec_of inS hcd) (hbi _ _ _ _ ?_)
  refine wpAny_newFunctionEnv_cells S.kind kinds fun env he s1 ic => ?_
  subst he
  refine ⟨(e0.mod.nolimit.keeps there).keeps ic.toInCall.keep, codeAny_func ?_⟩
  obtain ⟨t, ht, hq'⟩ := hb cdv A out s H vs Q E hg (hr.deeper _) ⟨_, _, _, _, lk, rfl⟩ hq
  have I := inv_start (CX := CX) (E := E) S hr.hd e0 (len _ _ _ _ hq) hv ic
  refine wpAny_mono (ht.run [] s1 (start N vs) H _ I hq') (fun fl s' hs => ?_) (fun _ _ z => z)
  match fl, hs with
  | .ret u, ⟨v, σ', H', J, rv, q⟩ => exact ⟨v, H', J.os, J.bare, J.base, J.hok, rv, q⟩
  | .next, ⟨σ', H', J, q⟩ => exact ⟨V.non, H', J.os, J.bare, J.base, J.hok, rfl, q⟩
  | .brk, ⟨_, _, _, q⟩ => exact q.elim
  | .cont, ⟨_, _, _, q⟩ => exact q.elim
end
section
variable {X : Cx} {CX : CXT} {k : Nat} {f : Addr} {fd : FuncData} {ps : List Str} {sp : Sp} {E : XK}
/-- the def runs: however its arguments came -/
theorem run_g {pins : List (Addr × Obj)} {σ : St} {H : Hp} {s : Shared} {Q : VK} {us ws : List Value} {kw : List (Str × Value)} {vs : List V} (F : FnG X.prog X.w X.K X.mg X.base CX k f fd ps sp) (hg : X.A.guards = some []) (hr : Room k X.A) (hx : Passes CX X E)
    (I : Inv X pins σ H s) (hb : ws.length = ps.length → BindsTo s fd ⟨us, kw⟩ (ps.zip ws)) (r : Vals vs ws) (h : sp vs H Q E) : wpAny (model X.prog X.w) X.A (call (.ref f) us kw) (EP X pins σ Q) X.xe s := by
  have hl : ws.length = ps.length := r.length.symm.trans (F.len _ _ _ _ h)
  refine wpAny_call (codeAny_mono (F.run X.A X.stack s H ⟨us, kw⟩ ws vs Q E hg hr I.env0 (hb hl) r h) ?_)
  rintro (e | fl) s' hq
  · exact hx pins σ H s e s' I hq
  · match fl, hq with
    | .ret u, hq => exact I.after hq
    | .next, hq => exact hq.elim
    | .brk, hq => exact hq.elim
    | .cont, hq => exact hq.elim
variable {x : Str} {p pos : Pos} {e : Expr} {es : List Expr} {t tk : TA} {ds : List Value} {dvs : List V} {ks : List Str} {kws : List Keyword} {g : List Value → List Value → List Value} {gV : List V → List V → List V}
theorem pe_callG (F : FnG X.prog X.w X.K X.mg X.base CX k f fd ps sp) (hgd : X.A.guards = some []) (hr : Room k X.A) (hm : X.mg x = some (.ref f)) (hk : PySem.W.keepIn X.K (.ref f) = true) (hb : Binds X.K fd ps ds) (hd : Vals dvs ds) (hx : Passes CX X E) (hg : Gl X x)
    (ha : PA X (e :: es) t) (hdb : (x == ("__debug__" : Str)) = false := by decide) (he : starEach (e :: es) X.env = (false, eval e X.env) :: starEach es X.env := by rfl) (hpl : (backTo pos (starEach es X.env)).any (·.1) = false := by rfl) :
    PE X (.Call (.Name x p) (e :: es) [] pos) (tCall sp dvs E t) := by
  constructor
  intro pins s σ H Q I hq
  apply wpAny_Call_Name_kw
  refine ld_glob I hg hm (PySem.W.callWith_K (h₀ := X.base) I.ok.mod.kin hk (thn (ha.run pos pins s σ H _ I hq) ?_) he hpl) hdb
  rintro us s1 ⟨vs, H1, I1, r, q⟩
  exact ⟨I1.kIn, run_g F hgd hr hx I1 (fun hl => hb s1 us I1.kIn hl) (r.append hd) q⟩
theorem pe_callG0 (F : FnG X.prog X.w X.K X.mg X.base CX k f fd ps sp) (hgd : X.A.guards = some []) (hr : Room k X.A) (hm : X.mg x = some (.ref f)) (hk : PySem.W.keepIn X.K (.ref f) = true) (hb : Binds X.K fd ps ds) (hd : Vals dvs ds) (hx : Passes CX X E) (hg : Gl X x)
    (hdb : (x == ("__debug__" : Str)) = false := by decide) : PE X (.Call (.Name x p) [] [] pos) (tCall sp dvs E tNil) := by
  constructor
  intro pins s σ H Q I hq
  apply wpAny_Call_Name_kw
  exact ld_glob I hg hm (PySem.W.callWith_K0 I.kIn hk (run_g (us := []) (ws := ds) (vs := dvs) F hgd hr hx I (fun hl => hb s [] I.kIn hl) hd hq)) hdb
theorem pe_callKG (F : FnG X.prog X.w X.K X.mg X.base CX k f fd ps sp) (hgd : X.A.guards = some []) (hr : Room k X.A) (hm : X.mg x = some (.ref f)) (hk : PySem.W.keepIn X.K (.ref f) = true) (hb : KBinds X.K fd ps ks g gV) (hx : Passes CX X E) (hg : Gl X x)
    (ha : PA X (e :: es) t) (hkw : PK X kws tk) (hall : (backToKw pos (keywordEach kws X.env)).all (·.1.isSome) = true := by rfl) (hks : (backToKw pos (keywordEach kws X.env)).filterMap (·.1) = ks := by rfl)
    (hdb : (x == ("__debug__" : Str)) = false := by decide) (he : starEach (e :: es) X.env = (false, eval e X.env) :: starEach es X.env := by rfl)
    (hpl : ((backTo pos (starEach (e :: es) X.env)).any (·.1) || (backToKw pos (keywordEach kws X.env)).any (·.1.isNone)) = false := by rfl) :
    PE X (.Call (.Name x p) (e :: es) kws pos) (tCallK sp gV E t tk) := by
  constructor
  intro pins s σ H Q I hq
  apply wpAny_Call_Name_kw
  refine ld_glob I hg hm (PySem.W.callWith_KW (h₀ := X.base) I.ok.mod.kin hk hall (thn (ha.run pos pins s σ H _ I hq) ?_) hpl he) hdb
  rintro us s1 ⟨vs, H1, I1, r, q⟩
  refine thn (hkw.run pos pins s1 σ H1 _ I1 q) ?_
  rintro ws s2 ⟨zs, H2, I2, rz, q2⟩
  refine ⟨I2.kIn, ?_⟩
  rw [hks]
  exact run_g F hgd hr hx I2 (fun hl => hb.to s2 us ws I2.kIn hl) (hb.rel r rz) q2
theorem pe_callKG0 (F : FnG X.prog X.w X.K X.mg X.base CX k f fd ps sp) (hgd : X.A.guards = some []) (hr : Room k X.A) (hm : X.mg x = some (.ref f)) (hk : PySem.W.keepIn X.K (.ref f) = true) (hb : KBinds X.K fd ps ks g gV) (hx : Passes CX X E) (hg : Gl X x)
    (hkw : PK X kws tk) (hall : (backToKw pos (keywordEach kws X.env)).all (·.1.isSome) = true := by rfl) (hks : (backToKw pos (keywordEach kws X.env)).filterMap (·.1) = ks := by rfl)
    (hdb : (x == ("__debug__" : Str)) = false := by decide)
    (hpl : ((backTo pos (starEach [] X.env)).any (·.1) || (backToKw pos (keywordEach kws X.env)).any (·.1.isNone)) = false := by rfl) :
    PE X (.Call (.Name x p) [] kws pos) (tCallK sp gV E tNil tk) := by
  constructor
  intro pins s σ H Q I hq
  apply wpAny_Call_Name_kw
  refine ld_glob I hg hm (PySem.W.callWith_KW0 (h₀ := X.base) I.ok.mod.kin hk hall ?_ hpl) hdb
  refine thn (hkw.run pos pins s σ H _ I hq) ?_
  rintro ws s2 ⟨zs, H2, I2, rz, q2⟩
  refine ⟨I2.kIn, ?_⟩
  rw [hks]
  exact run_g (us := []) F hgd hr hx I2 (fun hl => hb.to s2 [] ws I2.kIn hl) (hb.rel .nil rz) q2
end
/-! ### the end of a law -/
/-- the law's call from the outermost frame: ob is the script's object, H tracks it or nothing -/
theorem law_core {P : Program} {w : World} {K : PySem.W.Frag} {mg mb : Str → Option Value} {CX : CXT} {k : Nat} {s₁ : Shared} {fa a : Addr} {vs : List Value} {ns : List Int} {fd : FuncData} {sp : Sp} {x : Str} {H : Hp}
    (KX : K.In s₁.heap) (hns : s₁.heap.Ns mainGlobals mg) (hb : s₁.heap.Ns builtinsNs mb) (hbb : ∀ y : Str, y ≠ "__name__" → mb y = bootBuiltins y) (hlim : s₁.heap.NoLimit) (hgen : s₁.gens = #[])
    (ha : s₁.heap.get? a = some { cls := .type "list", data := .seq vs.toArray }) (rv : Vals (ns.map V.int) vs) (hz : (ns.map V.int).length ≤ sizeLine) (hr : Room k callerA)
    (hH : ∀ b u, H b = some u → b = a ∧ u = .frz { cls := .type "list", data := .seq vs.toArray } (.lst (ns.map V.int)) ∧ K.lookup a = none)
    (F : ∀ base : Heap, K.In base → base.Ns mainGlobals mg → FnG P w K mg base CX k fa fd [x] sp) (hbind : ∀ (s : Shared) (u : Value), BindsTo s fd ⟨[u], []⟩ [(x, u)])
    (hq : sp [.ref a] H (fun v _ => v = .bl true) fun _ _ _ => False) (hCX : ∀ e s', CX [] H s₁ (fun _ _ _ => False) e s' → False) :
    codeAny (model P w) callerA (.call (.ref fa) ⟨[.ref a], []⟩) (fun r s' => r = .ok (.ret (.bool true)) ∧ OldK s₁.heap s'.heap ∧ s'.os = s₁.os ∧ AllBare s'.gens) s₁ := by
  have free : ∀ b, b ≠ a → H b = none := fun b hb => by
    cases z : H b with
    | none => rfl
    | some u => exact absurd (hH b u z).1 hb
  have hid : ∀ {b : Addr} {o : Obj}, s₁.heap.get? b = some o → b ≠ a → (hidT s₁.heap H).get? b = some o := fun e n => hidT_get e (free _ n)
  have nsB : ∀ {b : Addr} {m : Str → Option Value}, s₁.heap.Ns b m → (hidT s₁.heap H).Ns b m := fun {b m} ⟨o, es, ep, e, d, r⟩ => by
    refine ⟨o, es, ep, hid e fun z => ?_, d, r⟩
    subst z
    rw [ha] at e
    cases e
    cases d
  have inB : K.In (hidT s₁.heap H) := fun b o e => by
    refine hidT_get (KX b o e) ?_
    cases z : H b with
    | none => rfl
    | some u =>
      obtain ⟨rfl, _, hk⟩ := hH b u z
      rw [hk] at e
      cases e
  have hok : HOk P w H s₁.heap := fun b u e => by
    obtain ⟨rfl, rfl, _⟩ := hH b u e
    exact ⟨ha, hz, vs, _, rv, ha⟩
  have M : Mod K mg (hidT s₁.heap H) := ⟨inB, nsB hns, ⟨mb, nsB hb, hbb⟩, let ⟨mc, h1, h2⟩ := hlim; ⟨mc, nsB h1, h2⟩⟩
  have e0 : Env0 P w K mg (hidT s₁.heap H) callerA [] s₁ H := ⟨rfl, M, fun b o e => of_hidT e, Nat.le_of_eq (hidT_size _ _), trivial, fun b z => absurd z (List.not_mem_nil), hok, .of_eq hgen⟩
  refine codeAny_mono ((F _ inB (nsB hns)).run callerA [] s₁ H ⟨[.ref a], []⟩ [.ref a] [.ref a] _ _ rfl hr e0 (hbind s₁ (.ref a)) (.cons rfl .nil) hq) ?_
  rintro (e | fl) s' h
  · exact (hCX e s' h).elim
  · match fl, h with
    | .next, h => exact h.elim
    | .brk, h => exact h.elim
    | .cont, h => exact h.elim
    | .ret u, ⟨v, H', os, bare, un, hok', r', (q : v = .bl true)⟩ =>
      subst q
      obtain rfl : u = Value.bool true := r'
      refine ⟨rfl, OldK.of_keep fun b o e => ?_, os, bare⟩
      cases z : H b with
      | none => exact un.keep b o e z (List.not_mem_nil) (List.not_mem_nil)
      | some u =>
        obtain ⟨rfl, rfl, _⟩ := hH b u z
        have z2 := un.frzs b _ _ z
        rw [ha] at e
        cases e
        exact (hok' b _ z2).1
theorem law_g {l : PySem.W.OpenLaw} {n k : Nat} {q : Program} {loose : List Str} {XP : (Str → Option Value) → Heap → Prop} {YP : World → Heap → Prop} {d : DefRec} {K : Params → PySem.W.Frag} {CX : CXT} {sp : PySem.W.Frag → Sp} {x : Str}
    (hn : l.most = some n) (hn2 : n ≤ sizeLine) (hdf : d.params.defaults = []) (hr : Room k callerA) (hY : ∀ (w : World) (h : Heap), YP w h → (K w.params).In h)
    (F : ∀ (w : World) (mg : Str → Option Value) (fa : Addr) (h : Heap), (K w.params).In h → h.Ns mainGlobals mg → mg d.name = some (.ref fa) →
      ∃ fd : FuncData, (∀ (s : Shared) (u : Value), BindsTo s fd ⟨[u], []⟩ [(x, u)]) ∧ ∀ base : Heap, (K w.params).In base → base.Ns mainGlobals mg → FnG l.prog w (K w.params) mg base CX k fa fd [x] (sp (K w.params)))
    (hsp : ∀ (K : PySem.W.Frag) (H : Hp) (a : Addr) (ns : List Int), ns.length ≤ n → FzL K H a (ns.map V.int) → sp K [.ref a] H (fun v _ => v = .bl true) fun _ _ _ => False)
    (hCX : ∀ (H : Hp) (s : Shared) (e : Value) (s' : Shared), CX [] H s (fun _ _ _ => False) e s' → False) :
    PySem.W.WalkO q loose XP YP l.row.toRowW d [] (fun f vs => PySem.call f vs) := by
  refine Att.attach_call hn hdf fun w s₀ s₁ mg mb fa o pm cd doc a vs ns G Y ho hd hcd hmg hobj hints hlen hgn => ?_
  have KX := hY w _ Y
  obtain ⟨fd, hb, hF⟩ := F w mg fa _ KX G.T.g hmg
  have rv : Vals (ns.map V.int) vs := by
    clear hobj hlen
    induction hints with
    | nil => exact .nil
    | cons i t _ ih => exact .cons ⟨t, rfl⟩ ih
  have hz : (ns.map V.int).length ≤ sizeLine := by rw [List.length_map]; exact Nat.le_trans hlen hn2
  cases hk : (K w.params).lookup a with
  | some ob =>
    have e := KX a ob hk
    rw [hobj] at e
    cases e
    exact law_core (H := fun _ => none) KX G.T.g G.T.b G.T.builtins G.T.nolimit hgn hobj rv hz hr (fun b u z => nomatch z) hF hb (hsp _ _ _ ns hlen (.inr ⟨vs, _, hk, by rw [← rv.length]; exact hz, rv⟩)) fun e s' => hCX _ _ e s'
  | none =>
    refine law_core (H := fun b => if b = a then some (.frz { cls := .type "list", data := .seq vs.toArray } (.lst (ns.map V.int))) else none) KX G.T.g G.T.b G.T.builtins G.T.nolimit hgn hobj rv hz hr (fun b u z => ?_) hF hb
      (hsp _ _ _ ns hlen (.inl ⟨_, if_pos rfl⟩)) fun e s' => hCX _ _ e s'
    by_cases hba : b = a
    · rw [if_pos hba] at z
      cases z
      exact ⟨hba, rfl, hk⟩
    · rw [if_neg hba] at z
      cases z
end DS
namespace DS
open PySem PySem.Spec PyProof.Rows L2
/-! ### plain data -/
mutual
def pyD : D → Option PyData
  | .non => some .none
  | .bl b => some (.bool b)
  | .int i => some (.int i)
  | .str x => some (.str x)
  | .lst xs => (pyDs xs).map .list
  | .tup xs => (pyDs xs).map .tuple
  | .dct kvs => (pyDk kvs).map .dict
  | _ => none
def pyDs : List D → Option (List PyData)
  | [] => some []
  | x :: xs => match pyD x, pyDs xs with
    | some a, some b => some (a :: b)
    | _, _ => none
def pyDk : List (Key × D) → Option (List (PyData × PyData))
  | [] => some []
  | (k, x) :: xs => match pyD x, pyDk xs with
    | some a, some b => some (((match k with | .inl i => PyData.int i | .inr z => PyData.str z), a) :: b)
    | _, _ => none
end
section
variable {X : Cx} {c : Cc} {H0 : Hp} {ε : XD}
theorem opd_int {H : Hp} {i : Int} {v : V} : DV c H v (.int i) → v = .int i := fun h => by cases h; rfl
theorem opd_bl {H : Hp} {i : Bool} {v : V} : DV c H v (.bl i) → v = .bl i := fun h => by cases h; rfl
theorem opd_str {H : Hp} {i : Str} {v : V} : DV c H v (.str i) → v = .str i := fun h => by cases h; rfl
theorem opd_non {H : Hp} {v : V} : DV c H v .non → v = .non := fun h => by cases h; rfl
theorem opd_lst {H : Hp} {ds : List D} {v : V} : DV c H v (.lst ds) → ∃ a xs, v = .ref a ∧ FzL c.K H a xs ∧ DVs c H xs ds := fun h => by
  cases h with | lst a b => exact ⟨_, _, rfl, a, b⟩
theorem opd_tup {H : Hp} {ds : List D} {v : V} : DV c H v (.tup ds) → ∃ a xs, v = .ref a ∧ SqT c.K H a xs ∧ DVs c H xs ds := fun h => by
  cases h with | tup a b => exact ⟨_, _, rfl, a, b⟩
theorem DVn.of {H H' : Hp} {v : V} {d : D} (h : DV c H' v d) : DVn c H H' v d := .inl h
theorem new_lst {H : Hp} {Q : VK} {xs : List V} {ds : List D} (hs : DVs c H xs ds) (k : ∀ v H', DVn c H H' v (.lst ds) → Same H H' → Q v H') : ∀ p, H p = none → Q (.ref p) (upd H p (.lst xs)) := fun p hp =>
  k _ _ (.lst hp upd_same (hs.kw (Same.ks (same_new hp)).kw)) (same_new hp)
theorem new_tup {H : Hp} {Q : VK} {xs : List V} {ds : List D} (hs : DVs c H xs ds) (k : ∀ v H', DVn c H H' v (.tup ds) → Same H H' → Q v H') : ∀ p, H p = none → Q (.ref p) (upd H p (.tup xs)) := fun p hp =>
  k _ _ (.of (.tup (.inl (.inl upd_same)) (hs.kw (Same.ks (same_new hp)).kw))) (same_new hp)

/-! + -/
abbrev rAddI : R2 := rI0 fun i j => .int (i + j)
abbrev rAddS0 : R2 := fun x y H Q => ∃ i j, x = .str i ∧ y = .str j ∧ i.length + j.length ≤ sizeLine ∧ Q (.str (i ++ j)) H
abbrev rCatF (K : PySem.W.Frag) : R2 := fun x y H Q => ∃ l b xs zs, x = .ref l ∧ y = .ref b ∧ FzL K H l xs ∧ FzL K H b zs ∧ xs.length + zs.length ≤ sizeLine ∧ ∀ p, H p = none → Q (.ref p) (upd H p (.lst (xs ++ zs)))
abbrev rAddA (K : PySem.W.Frag) : R2 := fun x y H Q => (rAddI x y H Q ∨ rAddS0 x y H Q) ∨ (rCatF K x y H Q ∨ rCatA K x y H Q)
theorem oo_add : OpR X (binaryOp .Add) (rAddA X.K) := OpR.or (OpR.or op_add op_add_str) (OpR.or op_catF op_catA)
theorem od_add : OpD c (rAddA c.K) addD := by
  intro x y dx dy d H Q hx hy e k
  unfold addD at e
  split at e
  · cases e
    cases opd_int hx; cases opd_int hy
    exact .inl (.inl ⟨_, _, rfl, rfl, k _ _ (.of (.int _)) (same_refl H)⟩)
  · split at e
    · rename_i h1
      cases e
      cases opd_str hx; cases opd_str hy
      exact .inl (.inr ⟨_, _, rfl, rfl, h1, k _ _ (.of (.str _)) (same_refl H)⟩)
    · cases e
  · split at e
    · rename_i h1
      cases e
      obtain ⟨a, vs, rfl, ha, hs⟩ := opd_lst hx
      obtain ⟨b, ws, rfl, hb, ht⟩ := opd_lst hy
      have l1 := hs.length
      have l2 := ht.length
      exact .inr (.inl ⟨a, b, vs, ws, rfl, rfl, ha, hb, by omega, new_lst (hs.append ht) k⟩)
    · cases e
  · split at e
    · rename_i h1
      cases e
      obtain ⟨a, vs, rfl, ha, hs⟩ := opd_tup hx
      obtain ⟨b, ws, rfl, hb, ht⟩ := opd_tup hy
      have l1 := hs.length
      have l2 := ht.length
      refine .inr (.inr ⟨a, b, vs, ws, rfl, rfl, ha, hb, by omega, fun e => ?_, fun _ e => ?_, fun _ _ => new_tup (hs.append ht) k⟩)
      · subst e
        cases hs
        exact k _ _ (.of (.tup hb ht)) (same_refl H)
      · subst e
        cases ht
        rw [List.append_nil] at k
        exact k _ _ (.of (.tup ha hs)) (same_refl H)
    · cases e
  · cases e

/-! - * // % ** -/
def subD : D → D → Option D
  | .int a, .int b => some (.int (a - b))
  | _, _ => none
theorem od_sub : OpD c (rI0 fun i j => .int (i - j)) subD := by
  intro x y dx dy d H Q hx hy e k
  unfold subD at e
  split at e
  · cases e
    cases opd_int hx; cases opd_int hy
    exact ⟨_, _, rfl, rfl, k _ _ (.of (.int _)) (same_refl H)⟩
  · cases e
def mulD : D → D → Option D
  | .int a, .int b => if (-(2 ^ 64) < a ∧ a < 2 ^ 64) ∨ (-(2 ^ 64) < b ∧ b < 2 ^ 64) then some (.int (a * b)) else none
  | .lst xs, .int k => if -(2 ^ 63) ≤ k ∧ k < 2 ^ 63 ∧ xs.length * k.toNat ≤ sizeLine then some (.lst (List.replicate k.toNat xs).flatten) else none
  | _, _ => none
/-- a list times an int, the list locked or new -/
theorem rep_core {X : Cx} {pins : List (Addr × Obj)} {σ : L2.St} {H : Hp} {s : Shared} {l : Addr} {its : List Value} {n : Nat} {xs : List V} {k : Int} {t : Tok} {Q : VK} (I : Inv X pins σ H s)
    (e : s.heap.get? l = some { cls := .type "list", data := .seq its.toArray n }) (r : Vals xs its) (h1 : -(2 ^ 63) ≤ k) (h2 : k < 2 ^ 63) (hz : xs.length * k.toNat ≤ sizeLine)
    (q : ∀ p, H p = none → Q (.ref p) (upd H p (.lst (List.replicate k.toNat xs).flatten))) : wpAny (model X.prog X.w) X.A (binaryOp .Mult (.ref l) (.int k t)) (EP X pins σ Q) X.xe s := by
  have size : its.toArray.size * k.toNat ≤ sizeLine := by simpa [← r.length] using hz
  have room : (sizeLine : Nat) ≤ (2 ^ 63 - 1) / 8 := by decide
  have fold : ∀ m : Nat, List.foldl (fun x1 x2 => x1 ++ x2) #[] (List.replicate m its.toArray) = (List.replicate m its).flatten.toArray := fun m => by
    simpa using foldl_rep its m []
  have whole : List.foldl (fun x1 x2 => x1 ++ x2) #[] (List.replicate (if its.toArray.isEmpty = true then 0 else k.toNat) its.toArray) = (List.replicate k.toNat its).flatten.toArray := by
    rw [fold]
    cases its <;> simp
  have back : wpAny (model X.prog X.w) X.A (call (.builtin "list.__mul__") [.ref l, .int k t]) (EP X pins σ Q) X.xe s := call_meets PySem.F.slot_list_mul ⟨_, e, rfl⟩ PySem.F.entry_list_mul (PySem.F.args_list_mul_2 (.ref l) (.int k t))
    (AutoListH.list___mul___list_int_3 l its.toArray n k t (by rw [fitsIndex_both h1 h2]; decide) (by omega) (by rw [notLongL size]; decide))
    ⟨e, by rw [whole]; exact ⟨.ref _, _, I.lnew (t' := s.toks) (r.rep k.toNat) (by rw [PyProof.Rows.lm_len_rep_flat, Nat.mul_comm]; exact hz), rfl, q _ I.fresh⟩⟩
  exact wpAny_binaryOp_repeat_ref (by decide) ⟨_, e, rfl⟩ (fun s' => typeIs_int s' k t) noFill_list_mul PySem.F.fills_int_mul PySem.F.slot_int_rmul repeat_list PySem.F.slot_int_index.lookup
    (call_meets PySem.F.slot_int_rmul (typeIs_int s k t) PySem.F.entry_int_rmul (PySem.F.args_int_rmul_2 _ _) (int___rmul___int_list k t l its.toArray n) ⟨e, rfl, ⟨_, e, rfl⟩, back⟩)
abbrev rMulI : R2 := rI CMul fun i j => .int (i * j)
abbrev rRepF (K : PySem.W.Frag) : R2 := fun x y H Q => ∃ l k xs, x = .ref l ∧ y = .int k ∧ FzL K H l xs ∧ -(2 ^ 63) ≤ k ∧ k < 2 ^ 63 ∧ xs.length * k.toNat ≤ sizeLine ∧
  ∀ p, H p = none → Q (.ref p) (upd H p (.lst (List.replicate k.toNat xs).flatten))
theorem op_repF : OpR X (binaryOp .Mult) (rRepF X.K) := by
  rintro pins s σ H x y v u Q I rx ry ⟨l, k, xs, rfl, rfl, f, h1, h2, hz, q⟩
  cases rx
  obtain ⟨t, rfl⟩ := ry
  obtain ⟨its, n, r, e, _⟩ := f.at I
  exact rep_core I e r h1 h2 hz q
theorem DVs.rep {c : Cc} {H : Hp} {xs : List V} {ds : List D} (h : DVs c H xs ds) : ∀ n : Nat, DVs c H (List.replicate n xs).flatten (List.replicate n ds).flatten
  | 0 => .nil
  | n + 1 => by
    rw [List.replicate_succ, List.replicate_succ, List.flatten_cons, List.flatten_cons]
    exact h.append (DVs.rep h n)
abbrev rMulA (K : PySem.W.Frag) : R2 := fun x y H Q => rMulI x y H Q ∨ rRepF K x y H Q
theorem oo_mul : OpR X (binaryOp .Mult) (rMulA X.K) := OpR.or op_mul op_repF
theorem od_mul : OpD c (rMulA c.K) mulD := by
  intro x y dx dy d H Q hx hy e k
  unfold mulD at e
  split at e
  · split at e
    · rename_i h1
      cases e
      cases opd_int hx; cases opd_int hy
      exact .inl ⟨_, _, rfl, rfl, h1, k _ _ (.of (.int _)) (same_refl H)⟩
    · cases e
  · split at e
    · rename_i h1
      cases e
      obtain ⟨a, vs, rfl, ha, hs⟩ := opd_lst hx
      cases opd_int hy
      exact .inr ⟨a, _, vs, rfl, rfl, ha, h1.1, h1.2.1, by rw [hs.length]; exact h1.2.2, new_lst (hs.rep _) k⟩
    · cases e
  · cases e
def fdivD : D → D → Option D
  | .int a, .int b => if 0 < b ∧ b < 1073741824 then some (.int (a / b)) else none
  | _, _ => none
theorem od_fdiv : OpD c (rI CDiv fun i j => .int (i / j)) fdivD := by
  intro x y dx dy d H Q hx hy e k
  unfold fdivD at e
  split at e
  · split at e
    · rename_i h1
      cases e
      cases opd_int hx; cases opd_int hy
      exact ⟨_, _, rfl, rfl, h1, k _ _ (.of (.int _)) (same_refl H)⟩
    · cases e
  · cases e
def modD : D → D → Option D
  | .int a, .int b => if 0 < b then some (.int (a % b)) else none
  | _, _ => none
theorem od_mod : OpD c (rI (fun _ j => 0 < j) fun i j => .int (i % j)) modD := by
  intro x y dx dy d H Q hx hy e k
  unfold modD at e
  split at e
  · split at e
    · rename_i h1
      cases e
      cases opd_int hx; cases opd_int hy
      exact ⟨_, _, rfl, rfl, h1, k _ _ (.of (.int _)) (same_refl H)⟩
    · cases e
  · cases e
def powD : D → D → Option D
  | .int a, .int b => if 0 ≤ b ∧ b ≤ 1000000 ∧ a.natAbs < 2 ^ 64 then some (.int (a ^ b.toNat)) else none
  | _, _ => none
theorem od_pow : OpD c (rI CPow fun i j => .int (i ^ j.toNat)) powD := by
  intro x y dx dy d H Q hx hy e k
  unfold powD at e
  split at e
  · split at e
    · rename_i h1
      cases e
      cases opd_int hx; cases opd_int hy
      exact ⟨_, _, rfl, rfl, h1, k _ _ (.of (.int _)) (same_refl H)⟩
    · cases e
  · cases e
def negD : D → Option D
  | .int a => some (.int (-a))
  | _ => none
theorem ud_neg : UnD c (rU fun i => .int (-i)) negD := by
  intro x dx d H Q hx e k
  unfold negD at e
  split at e
  · cases e
    cases opd_int hx
    exact ⟨_, rfl, k _ _ (.of (.int _)) (same_refl H)⟩
  · cases e

/-! order of ints -/
def cmpI (g : Int → Int → Bool) : D → D → Option D
  | .int a, .int b => some (.bl (g a b))
  | _, _ => none
theorem od_cmpI {g : Int → Int → Bool} : OpD c (rI0 fun i j => .bl (g i j)) (cmpI g) := by
  intro x y dx dy d H Q hx hy e k
  unfold cmpI at e
  split at e
  · cases e
    cases opd_int hx; cases opd_int hy
    exact ⟨_, _, rfl, rfl, k _ _ (.of (.bl _)) (same_refl H)⟩
  · cases e
/-! is -/
def isD : D → D → Option D
  | .raw _, _ => none
  | .non, .non => some (.bl true)
  | .bl a, .bl b => some (.bl (decide (a = b)))
  | _, .non => some (.bl false)
  | _, .bl _ => some (.bl false)
  | _, _ => none
def isnD (x y : D) : Option D := match isD x y with
  | some (.bl b) => some (.bl (!b))
  | _ => none
abbrev rIsP (g : Bool → Bool) : R2 := fun x y H Q => (y = .non ∨ ∃ b, y = .bl b) ∧ Q (.bl (g (decide (x = y)))) H
theorem beqV {x y : V} {u v : Value} (hy : y = .non ∨ ∃ b, y = .bl b) (rx : RelV x u) (ry : RelV y v) : plainIs u v = true ∧ (u == v) = decide (x = y) := by
  rcases hy with rfl | ⟨b, rfl⟩
  · cases (show v = Value.none from ry)
    refine ⟨?_, rx.none_iff⟩
    cases x <;> first | (cases (show u = _ from rx); rfl) | (obtain ⟨t, rfl⟩ := rx; rfl)
  · cases (show v = Value.bool b from ry)
    cases x with
    | bl a =>
      cases (show u = Value.bool a from rx)
      refine ⟨rfl, ?_⟩
      by_cases e : a = b
      · subst e; simp
      · have e2 : ¬ (V.bl a = V.bl b) := fun z => e (V.bl.inj z)
        have e3 : ¬ (Value.bool a = Value.bool b) := fun z => e (Value.bool.inj z)
        rw [decide_eq_false e2]
        exact beq_eq_false_iff_ne.mpr e3
    | non => cases (show u = Value.none from rx); exact ⟨rfl, rfl⟩
    | int i => obtain ⟨t, rfl⟩ := rx; exact ⟨rfl, rfl⟩
    | str i => obtain ⟨t, rfl⟩ := rx; exact ⟨rfl, rfl⟩
    | byt i => obtain ⟨t, rfl⟩ := rx; exact ⟨rfl, rfl⟩
    | flt i => obtain ⟨t, rfl⟩ := rx; exact ⟨rfl, rfl⟩
    | ref a => cases (show u = Value.ref a from rx); exact ⟨rfl, rfl⟩
    | ty n => cases (show u = Value.type n from rx); exact ⟨rfl, rfl⟩
theorem oo_is : OpR X (compareOp .Is) (rIsP id) := by
  rintro pins s σ H x y u v Q I rx ry ⟨hy, q⟩
  obtain ⟨p, e⟩ := beqV hy rx ry
  exact wpAny_is_plain p ⟨.bl _, H, I, by rw [e]; rfl, q⟩
theorem oo_isn : OpR X (compareOp .IsNot) (rIsP not) := by
  rintro pins s σ H x y u v Q I rx ry ⟨hy, q⟩
  obtain ⟨p, e⟩ := beqV hy rx ry
  exact wpAny_isNot_plain p ⟨.bl _, H, I, by rw [e]; rfl, q⟩
theorem isD_ok {H : Hp} {x y : V} {dx dy d : D} (hx : DV c H x dx) (hy : DV c H y dy) (e : isD dx dy = some d) : (y = .non ∨ ∃ b, y = .bl b) ∧ d = .bl (decide (x = y)) := by
  unfold isD at e
  split at e
  · cases e
  · cases e; cases opd_non hx; cases opd_non hy; exact ⟨.inl rfl, by simp⟩
  · cases e; cases opd_bl hx; cases opd_bl hy
    refine ⟨.inr ⟨_, rfl⟩, ?_⟩
    rename_i a b
    by_cases z : a = b
    · subst z; simp
    · have z2 : ¬ (V.bl a = V.bl b) := fun q => z (V.bl.inj q)
      rw [decide_eq_false z, decide_eq_false z2]
  · rename_i h1 h2 h3
    cases e; cases opd_non hy
    refine ⟨.inl rfl, ?_⟩
    cases hx with
    | non => simp_all
    | raw v => simp_all
    | _ => rfl
  · rename_i b h1 h2 h3
    cases e; cases opd_bl hy
    refine ⟨.inr ⟨_, rfl⟩, ?_⟩
    cases hx with
    | bl a => simp_all
    | raw v => simp_all
    | _ => rfl
  · cases e
theorem od_is : OpD c (rIsP id) isD := by
  intro x y dx dy d H Q hx hy e k
  obtain ⟨h1, rfl⟩ := isD_ok hx hy e
  exact ⟨h1, k _ _ (.of (.bl _)) (same_refl H)⟩
theorem od_isn : OpD c (rIsP not) isnD := by
  intro x y dx dy d H Q hx hy e k
  unfold isnD at e
  split at e
  · rename_i b h
    cases e
    obtain ⟨h1, h2⟩ := isD_ok hx hy h
    cases h2
    exact ⟨h1, k _ _ (.of (.bl _)) (same_refl H)⟩
  · cases e

/-! == -/
mutual
theorem dp_of {H : Hp} : ∀ (d : D) (v : V) (e : PyData), DV c H v d → pyD d = some e → e.canLay0 = true → Dp c.K H v e
  | .non, _, _, h, e, _ => by cases h; cases e; exact .non
  | .bl b, _, _, h, e, _ => by cases h; cases e; exact .bl b
  | .int i, _, _, h, e, _ => by cases h; cases e; exact .int i
  | .str x, _, _, h, e, _ => by cases h; cases e; exact .str x
  | .lst xs, _, _, h, e, l => by
    cases h with
    | lst f hs =>
      rw [pyD] at e
      cases z : pyDs xs with
      | none => rw [z] at e; cases e
      | some es =>
        rw [z] at e; cases e
        exact .lst f.sq (dps_of xs _ es hs z (by simpa [PyData.canLay0] using l))
  | .tup xs, _, _, h, e, l => by
    cases h with
    | tup f hs =>
      rw [pyD] at e
      cases z : pyDs xs with
      | none => rw [z] at e; cases e
      | some es =>
        rw [z] at e; cases e
        exact .tup f (dps_of xs _ es hs z (by simpa [PyData.canLay0] using l))
  | .dct xs, _, _, h, e, l => by
    rw [pyD] at e
    cases z : pyDk xs with
    | none => rw [z] at e; cases e
    | some es => rw [z] at e; cases e; simp [PyData.canLay0] at l
  | .ins _ _, _, _, _, e, _ => by rw [pyD] at e <;> first | cases e | (intros; contradiction)
  | .box, _, _, _, e, _ => by rw [pyD] at e <;> first | cases e | (intros; contradiction)
  | .raw _, _, _, _, e, _ => by rw [pyD] at e <;> first | cases e | (intros; contradiction)
theorem dps_of {H : Hp} : ∀ (ds : List D) (vs : List V) (es : List PyData), DVs c H vs ds → pyDs ds = some es → PyData.canLayAll0 es = true → DpAll c.K H vs es
  | [], _, _, h, e, _ => by cases h; rw [pyDs] at e; cases e; exact .nil
  | d :: ds, _, _, h, e, l => by
    cases h with
    | cons a b =>
      rw [pyDs] at e
      split at e
      · rename_i e1 e2 h1 h2
        cases e
        have l' : e1.canLay0 = true ∧ PyData.canLayAll0 e2 = true := by simpa [PyData.canLayAll0] using l
        exact .cons (dp_of d _ e1 a h1 l'.1) (dps_of ds _ e2 b h2 l'.2)
      · cases e
end
def eqD (x y : D) : Option D := match pyD x, pyD y with
  | some a, some b => if SeqAt.shaped a = true ∧ SeqAt.shaped b = true then some (.bl (PyData.eqv a b)) else none
  | _, _ => none
def neD (x y : D) : Option D := match pyD x, pyD y with
  | some a, some b => if SeqAt.shaped a = true ∧ SeqAt.shaped b = true then some (.bl (!PyData.eqv a b)) else none
  | _, _ => none
theorem od_eq : OpD c (rEqD c.K) eqD := by
  intro x y dx dy d H Q hx hy e k
  unfold eqD at e
  split at e
  · rename_i a b h1 h2
    split at e
    · rename_i hs
      cases e
      exact ⟨a, b, dp_of _ _ _ hx h1 (SeqAt.canLay_of_shaped hs.1), dp_of _ _ _ hy h2 (SeqAt.canLay_of_shaped hs.2), hs.1, hs.2, k _ _ (.of (.bl _)) (same_refl H)⟩
    · cases e
  · cases e
theorem od_ne : OpD c (rNeD c.K) neD := by
  intro x y dx dy d H Q hx hy e k
  unfold neD at e
  split at e
  · rename_i a b h1 h2
    split at e
    · rename_i hs
      cases e
      exact ⟨a, b, dp_of _ _ _ hx h1 (SeqAt.canLay_of_shaped hs.1), dp_of _ _ _ hy h2 (SeqAt.canLay_of_shaped hs.2), hs.1, hs.2, k _ _ (.of (.bl _)) (same_refl H)⟩
    · cases e
  · cases e

/-! in, over flat things -/
def flD : D → Option V
  | .non => some .non
  | .bl b => some (.bl b)
  | .int i => some (.int i)
  | .str x => some (.str x)
  | _ => none
def flDs : List D → Option (List V)
  | [] => some []
  | x :: xs => match flD x, flDs xs with
    | some a, some b => some (a :: b)
    | _, _ => none
theorem fl_of {H : Hp} {v w : V} {d : D} (h : DV c H v d) (e : flD d = some w) : v = w ∧ flatV v = true := by
  cases h <;> first | (cases e; exact ⟨rfl, rfl⟩) | cases e
theorem fls_of {H : Hp} {vs ws : List V} {ds : List D} (h : DVs c H vs ds) (e : flDs ds = some ws) : vs = ws ∧ vs.all flatV = true := by
  induction ds generalizing vs ws with
  | nil => cases h; cases e; exact ⟨rfl, rfl⟩
  | cons d ds ih =>
    cases h with
    | cons a b =>
      rw [flDs] at e
      split at e
      · rename_i h1 h2
        cases e
        obtain ⟨rfl, q1⟩ := fl_of a h1
        obtain ⟨rfl, q2⟩ := ih b h2
        exact ⟨rfl, by simp [q1, q2]⟩
      · cases e
def inD (neg : Bool) : D → D → Option D
  | x, .lst ys => (match flD x, flDs ys with
    | some a, some b => some (.bl (if neg then !inV a b else inV a b))
    | _, _ => none)
  | x, .tup ys => (match flD x, flDs ys with
    | some a, some b => some (.bl (if neg then !inV a b else inV a b))
    | _, _ => none)
  | _, _ => none
theorem od_in {neg : Bool} : OpD c (rIn c.K neg) (inD neg) := by
  intro x y dx dy d H Q hx hy e k
  unfold inD at e
  split at e
  · split at e
    · rename_i h1 h2
      cases e
      obtain ⟨a, xs, rfl, f, hs⟩ := opd_lst hy
      obtain ⟨rfl, q1⟩ := fl_of hx h1
      obtain ⟨rfl, q2⟩ := fls_of hs h2
      exact ⟨a, _, rfl, .inl f.sq, q1, q2, k _ _ (.of (.bl _)) (same_refl H)⟩
    · cases e
  · split at e
    · rename_i h1 h2
      cases e
      obtain ⟨a, xs, rfl, f, hs⟩ := opd_tup hy
      obtain ⟨rfl, q1⟩ := fl_of hx h1
      obtain ⟨rfl, q2⟩ := fls_of hs h2
      exact ⟨a, _, rfl, .inr f, q1, q2, k _ _ (.of (.bl _)) (same_refl H)⟩
    · cases e
  · cases e
end
end DS
namespace DS
open PySem PySem.Spec PyProof.Rows L2
section
variable {X : Cx} {c : Cc} {H0 : Hp} {ε : XD}
/-! ### arguments, displays -/
def mNil : MA := fun _ _ n k => k [] n
def mCons (ma : ME) (mr : MA) : MA := fun ε ρ n k => ma ε ρ n fun d n1 => mr ε ρ n1 fun ds n2 => k (d :: ds) n2
theorem da_nil : PA X [] (tA c H0 ε mNil) := imp_pa pa_nil fun σ H Q ⟨ρ, n, k, R, m, q⟩ => q _ _ _ _ m .nil (Ks.refl _ _) R.box
theorem da_cons {e : Expr} {es : List Expr} {ma : ME} {mr : MA} (ha : PE X e (tE c H0 ε ma)) (hr : PA X es (tA c H0 ε mr)) (hs : starEach (e :: es) X.env = (false, eval e X.env) :: starEach es X.env := by rfl) : PA X (e :: es) (tA c H0 ε (mCons ma mr)) :=
  imp_pa (pa_cons ha hr hs) fun σ H Q ⟨ρ, n, k, R, m, q⟩ =>
    ⟨ρ, n, _, R, m, fun d n1 v H1 m1 dv k1 b1 => ⟨ρ, n1, _, R.step k1 b1, m1, fun ds n2 vs H2 m2 dvs k2 b2 => q _ _ _ _ m2 (.cons (dv.kw k2.kw) dvs) (k1.trans k2) b2⟩⟩
def dk_nil : PK X [] (tA c H0 ε mNil) := ⟨fun pos pins s σ H Q I ⟨ρ, n, k, R, m, q⟩ => pk_nil.run pos pins s σ H Q I (q _ _ _ _ m .nil (Ks.refl _ _) R.box)⟩
theorem dk_cons {e : Expr} {kws : List Keyword} {nm : Option Str} {kpos : Pos} {ma : ME} {mr : MA} (ha : PE X e (tE c H0 ε ma)) (hr : PK X kws (tA c H0 ε mr)) : PK X (⟨nm, e, kpos⟩ :: kws) (tA c H0 ε (mCons ma mr)) :=
  ⟨fun pos pins s σ H Q I ⟨ρ, n, k, R, m, q⟩ => (pk_cons ha hr).run pos pins s σ H Q I
    ⟨ρ, n, _, R, m, fun d n1 v H1 m1 dv k1 b1 => ⟨ρ, n1, _, R.step k1 b1, m1, fun ds n2 vs H2 m2 dvs k2 b2 => q _ _ _ _ m2 (.cons (dv.kw k2.kw) dvs) (k1.trans k2) b2⟩⟩⟩
def mArgs (g : List D → Option D) (ma : MA) : ME := fun ε ρ n k => ma ε ρ n fun ds n1 => optK (g ds) fun d => k d n1
def CallD (c : Cc) (r : List V → Hp → VK → Prop) (g : List D → Option D) : Prop := ∀ xs ds d H (Q : VK), DVs c H xs ds → g ds = some d → (∀ v H', DVn c H H' v d → Same H H' → Q v H') → r xs H Q
theorem de_args {e : Expr} {r : List V → Hp → VK → Prop} {g : List D → Option D} {ma : MA} {es : List Expr} (h : ∀ {t}, PA X es t → PE X e (tCB r t)) (hd : CallD c r g) (ha : PA X es (tA c H0 ε ma)) : PE X e (tE c H0 ε (mArgs g ma)) := by
  refine imp_pe (pe_fz (h ha)) fun σ H Q ⟨ρ, n, k, R, m, q⟩ => ?_
  refine ⟨ρ, n, _, R, m, fun ds n1 vs H1 m1 dvs k1 b1 => ?_⟩
  obtain ⟨d, e1, m3⟩ := optK_some m1
  refine hd _ _ _ H1 _ dvs e1 fun w H3 dw s3 => ?_
  exact fin_new (ρ := ρ) (σ := σ) b1 s3 dw m3 fun d n' v H' a1 a2 a3 a4 => q d n' v H' a1 a2 (k1.trans a3) a4
def lstD (ds : List D) : Option D := if ds.length ≤ 1000 then some (.lst ds) else none
def tupD (ds : List D) : Option D := if ds.length ≤ 1000 then some (.tup ds) else none
theorem small_line {n : Nat} (h : n ≤ 1000) : n ≤ sizeLine := Nat.le_trans h (by decide)
theorem de_lst {es : List Expr} {ma : MA} {pos : Pos} (ha : PA X es (tA c H0 ε ma)) : PE X (.List es pos) (tE c H0 ε (mArgs lstD ma)) :=
  de_args (r := fun xs H Q => xs.length ≤ sizeLine ∧ ∀ p, H p = none → Q (.ref p) (upd H p (.lst xs))) (fun h => pe_lst h) (fun xs ds d H Q hs e k => by
    unfold lstD at e
    split at e
    · rename_i h
      cases e
      exact ⟨by rw [hs.length]; exact small_line h, new_lst hs k⟩
    · cases e) ha
theorem de_tup {es : List Expr} {ma : MA} {x1} {pos : Pos} (ha : PA X es (tA c H0 ε ma)) : PE X (.Tuple es x1 pos) (tE c H0 ε (mArgs tupD ma)) :=
  de_args (r := fun xs H Q => xs.length ≤ sizeLine ∧ ∀ p, H p = none → Q (.ref p) (upd H p (.tup xs))) (fun h => pe_tup h) (fun xs ds d H Q hs e k => by
    unfold tupD at e
    split at e
    · rename_i h
      cases e
      exact ⟨by rw [hs.length]; exact small_line h, new_tup hs k⟩
    · cases e) ha

/-! ### built-ins -/
variable {id T x : Str} {p pos : Pos} {e : Expr} {es : List Expr} {ma : MA} {r : List V → Hp → VK → Prop} {g : List D → Option D}
theorem de_callB {id : String} (hc : CallR X (.builtin id) r) (hd : CallD c r g) (hm : X.mg x = none) (hv : bootBuiltins x = some (.builtin id)) (ha : PA X (e :: es) (tA c H0 ε ma)) (hg : Gl X x := by rfl) (hn : x ≠ "__name__" := by decide) (hdb : (x == ("__debug__" : Str)) = false := by decide)
    (he : starEach (e :: es) X.env = (false, eval e X.env) :: starEach es X.env := by rfl) (hpl : (backTo pos (starEach es X.env)).any (·.1) = false := by rfl) : PE X (.Call (.Name x p) (e :: es) [] pos) (tE c H0 ε (mArgs g ma)) :=
  de_args (fun h => pe_callB hc hg hm hv h hn hdb he hpl) hd ha
theorem de_callT {T : String} (hc : CallR X (.type T) r) (hd : CallD c r g) (hm : X.mg x = none) (hv : bootBuiltins x = some (.type T)) (ha : PA X (e :: es) (tA c H0 ε ma)) (hg : Gl X x := by rfl) (hn : x ≠ "__name__" := by decide) (hdb : (x == ("__debug__" : Str)) = false := by decide)
    (he : starEach (e :: es) X.env = (false, eval e X.env) :: starEach es X.env := by rfl) (hpl : (backTo pos (starEach es X.env)).any (·.1) = false := by rfl) : PE X (.Call (.Name x p) (e :: es) [] pos) (tE c H0 ε (mArgs g ma)) :=
  de_args (fun h => pe_callTy hc hg hm hv h hn hdb he hpl) hd ha
theorem dvs1 {H : Hp} {xs : List V} {d : D} (h : DVs c H xs [d]) : ∃ v, xs = [v] ∧ DV c H v d := by
  cases h with | cons a b => cases b; exact ⟨_, rfl, a⟩
theorem dvs2 {H : Hp} {xs : List V} {d d2 : D} (h : DVs c H xs [d, d2]) : ∃ v w, xs = [v, w] ∧ DV c H v d ∧ DV c H w d2 := by
  cases h with | cons a b => cases b with | cons a2 b2 => cases b2; exact ⟨_, _, rfl, a, a2⟩
def lenD : List D → Option D
  | [.lst xs] => some (.int xs.length)
  | [.tup xs] => some (.int xs.length)
  | [.str z] => if z.length ≤ sizeLine then some (.int z.length) else none
  | _ => none
abbrev rLenA (K : PySem.W.Frag) : List V → Hp → VK → Prop := fun xs H Q => ∃ x n, xs = [x] ∧ LenV K x H n ∧ Q (.int n) H
theorem cd_len : CallD c (rLenA c.K) lenD := by
  intro xs ds d H Q hs e k
  unfold lenD at e
  split at e
  · cases e
    obtain ⟨v, rfl, h⟩ := dvs1 hs
    obtain ⟨a, ys, rfl, f, h2⟩ := opd_lst h
    rw [← h2.length] at k
    exact ⟨_, _, rfl, .inl ⟨_, f.sq, rfl⟩, k _ _ (.of (.int _)) (same_refl H)⟩
  · cases e
    obtain ⟨v, rfl, h⟩ := dvs1 hs
    obtain ⟨a, ys, rfl, f, h2⟩ := opd_tup h
    rw [← h2.length] at k
    exact ⟨_, _, rfl, .inr ⟨_, f, rfl⟩, k _ _ (.of (.int _)) (same_refl H)⟩
  · split at e
    · rename_i hz
      cases e
      obtain ⟨v, rfl, h⟩ := dvs1 hs
      cases opd_str h
      exact ⟨_, _, rfl, ⟨hz, rfl⟩, k _ _ (.of (.int _)) (same_refl H)⟩
    · cases e
  · cases e
def intD : List D → Option D
  | [.int i] => some (.int i)
  | [.bl b] => some (.int (if b then 1 else 0))
  | _ => none
theorem cd_int : CallD c (fun xs H Q => (∃ i, xs = [.int i] ∧ Q (.int i) H) ∨ ∃ k, xs = [.bl k] ∧ Q (.int (if k then 1 else 0)) H) intD := by
  intro xs ds d H Q hs e k
  unfold intD at e
  split at e
  · cases e
    obtain ⟨v, rfl, h⟩ := dvs1 hs
    cases opd_int h
    exact .inl ⟨_, rfl, k _ _ (.of (.int _)) (same_refl H)⟩
  · cases e
    obtain ⟨v, rfl, h⟩ := dvs1 hs
    cases opd_bl h
    exact .inr ⟨_, rfl, k _ _ (.of (.int _)) (same_refl H)⟩
  · cases e
def strD : List D → Option D
  | [.int i] => if i.natAbs.log2 < 1920 then some (.str (toString i)) else none
  | _ => none
theorem cd_str : CallD c (fun xs H Q => ∃ i, xs = [.int i] ∧ i.natAbs.log2 < 1920 ∧ Q (.str (toString i)) H) strD := by
  intro xs ds d H Q hs e k
  unfold strD at e
  split at e
  · split at e
    · rename_i hz
      cases e
      obtain ⟨v, rfl, h⟩ := dvs1 hs
      cases opd_int h
      exact ⟨_, rfl, hz, k _ _ (.of (.str _)) (same_refl H)⟩
    · cases e
  · cases e
def absD : List D → Option D
  | [.int i] => some (.int (if i < 0 then -i else i))
  | _ => none
theorem cd_abs : CallD c (fun xs H Q => ∃ i, xs = [.int i] ∧ Q (.int (if i < 0 then -i else i)) H) absD := by
  intro xs ds d H Q hs e k
  unfold absD at e
  split at e
  · cases e
    obtain ⟨v, rfl, h⟩ := dvs1 hs
    cases opd_int h
    exact ⟨_, rfl, k _ _ (.of (.int _)) (same_refl H)⟩
  · cases e
def listD : List D → Option D
  | [.lst xs] => some (.lst xs)
  | [.tup xs] => some (.lst xs)
  | _ => none
theorem cd_list : CallD c (fun xs H Q => ∃ p ys, xs = [.ref p] ∧ (SqL c.K H p ys ∨ SqT c.K H p ys) ∧ ∀ l, H l = none → Q (.ref l) (upd H l (.lst ys))) listD := by
  intro xs ds d H Q hs e k
  unfold listD at e
  split at e
  · cases e
    obtain ⟨v, rfl, h⟩ := dvs1 hs
    obtain ⟨a, ys, rfl, f, h2⟩ := opd_lst h
    exact ⟨_, _, rfl, .inl f.sq, new_lst h2 k⟩
  · cases e
    obtain ⟨v, rfl, h⟩ := dvs1 hs
    obtain ⟨a, ys, rfl, f, h2⟩ := opd_tup h
    exact ⟨_, _, rfl, .inr f, new_lst h2 k⟩
  · cases e
def tupleD : List D → Option D
  | [.lst xs] => some (.tup xs)
  | [.tup xs] => some (.tup xs)
  | _ => none
theorem cd_tuple : CallD c (fun xs H Q => ∃ p ys, xs = [.ref p] ∧ ((SqL c.K H p ys ∧ ∀ l, H l = none → Q (.ref l) (upd H l (.tup ys))) ∨ (SqT c.K H p ys ∧ Q (.ref p) H))) tupleD := by
  intro xs ds d H Q hs e k
  unfold tupleD at e
  split at e
  · cases e
    obtain ⟨v, rfl, h⟩ := dvs1 hs
    obtain ⟨a, ys, rfl, f, h2⟩ := opd_lst h
    exact ⟨_, _, rfl, .inl ⟨f.sq, new_tup h2 k⟩⟩
  · cases e
    obtain ⟨v, rfl, h⟩ := dvs1 hs
    obtain ⟨a, ys, rfl, f, h2⟩ := opd_tup h
    exact ⟨_, _, rfl, .inr ⟨f, k _ _ (.of (.tup f h2)) (same_refl H)⟩⟩
  · cases e
def intsOf : List D → Option (List Int)
  | [] => some []
  | .int i :: r => (intsOf r).map (i :: ·)
  | _ => none
theorem ints_of {H : Hp} {vs : List V} {ds : List D} {ns : List Int} (h : DVs c H vs ds) (e : intsOf ds = some ns) : vs = ns.map V.int := by
  induction ds generalizing vs ns with
  | nil => cases h; cases e; rfl
  | cons d ds ih =>
    cases h with
    | cons a b =>
      cases d <;> try (rw [intsOf] at e <;> first | cases e | (intros; contradiction))
      rw [intsOf] at e
      cases z : intsOf ds with
      | none => rw [z] at e; cases e
      | some ms =>
        rw [z] at e; cases e
        cases opd_int a
        rw [ih b z]; rfl
def blsOf : List D → Option (List Bool)
  | [] => some []
  | .bl i :: r => (blsOf r).map (i :: ·)
  | _ => none
theorem bls_of {H : Hp} {vs : List V} {ds : List D} {ns : List Bool} (h : DVs c H vs ds) (e : blsOf ds = some ns) : vs = ns.map V.bl := by
  induction ds generalizing vs ns with
  | nil => cases h; cases e; rfl
  | cons d ds ih =>
    cases h with
    | cons a b =>
      cases d <;> try (rw [blsOf] at e <;> first | cases e | (intros; contradiction))
      rw [blsOf] at e
      cases z : blsOf ds with
      | none => rw [z] at e; cases e
      | some ms =>
        rw [z] at e; cases e
        cases opd_bl a
        rw [ih b z]; rfl
def sumD : List D → Option D
  | [.lst xs] => (intsOf xs).map fun ns => .int ns.sum
  | _ => none
theorem cd_sum : CallD c (rSum c.K) sumD := by
  intro xs ds d H Q hs e k
  unfold sumD at e
  split at e
  · rename_i ys
    cases z : intsOf ys with
    | none => rw [z] at e; cases e
    | some ns =>
      rw [z] at e; cases e
      obtain ⟨v, rfl, h⟩ := dvs1 hs
      obtain ⟨a, ws, rfl, f, h2⟩ := opd_lst h
      cases ints_of h2 z
      exact ⟨_, _, rfl, f.sq, k _ _ (.of (.int _)) (same_refl H)⟩
  · cases e
def allD : List D → Option D
  | [.lst xs] => (blsOf xs).map fun ns => .bl (ns.all (fun b => b))
  | _ => none
def anyD : List D → Option D
  | [.lst xs] => (blsOf xs).map fun ns => .bl (ns.any (fun b => b))
  | _ => none
theorem cd_all : CallD c (rAll c.K) allD := by
  intro xs ds d H Q hs e k
  unfold allD at e
  split at e
  · rename_i ys
    cases z : blsOf ys with
    | none => rw [z] at e; cases e
    | some ns =>
      rw [z] at e; cases e
      obtain ⟨v, rfl, h⟩ := dvs1 hs
      obtain ⟨a, ws, rfl, f, h2⟩ := opd_lst h
      cases bls_of h2 z
      exact ⟨_, _, rfl, f.sq, k _ _ (.of (.bl _)) (same_refl H)⟩
  · cases e
theorem cd_any : CallD c (rAny c.K) anyD := by
  intro xs ds d H Q hs e k
  unfold anyD at e
  split at e
  · rename_i ys
    cases z : blsOf ys with
    | none => rw [z] at e; cases e
    | some ns =>
      rw [z] at e; cases e
      obtain ⟨v, rfl, h⟩ := dvs1 hs
      obtain ⟨a, ws, rfl, f, h2⟩ := opd_lst h
      cases bls_of h2 z
      exact ⟨_, _, rfl, f.sq, k _ _ (.of (.bl _)) (same_refl H)⟩
  · cases e

/-! isinstance -/
def tyD : D → Option String
  | .non => some "NoneType"
  | .bl _ => some "bool"
  | .int _ => some "int"
  | .str _ => some "str"
  | .lst _ => some "list"
  | .tup _ => some "tuple"
  | .dct _ => some "dict"
  | _ => none
def isT (t n : String) : Bool := t == n || (t == "bool" && n == "int")
def tyNames : List String := ["int", "bool", "str", "list", "tuple", "dict"]
theorem isT_ok : ∀ t ∈ ["NoneType", "bool", "int", "str", "list", "tuple", "dict"], ∀ n ∈ tyNames, kitB t n = some (isT t n) := by decide +kernel
theorem tyx_of {H : Hp} {v : V} {d : D} {t : String} (h : DV c H v d) (e : tyD d = some t) : TyX c.K H v (.type t) ∧ t ∈ ["NoneType", "bool", "int", "str", "list", "tuple", "dict"] := by
  cases h with
  | non => cases e; exact ⟨.base .non, by decide⟩
  | bl b => cases e; exact ⟨.base (.bl b), by decide⟩
  | int i => cases e; exact ⟨.base (.int i), by decide⟩
  | str z => cases e; exact ⟨.base (.str z), by decide⟩
  | lst f hs =>
    cases e
    refine ⟨?_, by decide⟩
    rcases f with ⟨o, f⟩ | ⟨its, n, f, _⟩
    · exact .base (.frz f)
    · exact .kList f rfl
  | tup f hs =>
    cases e
    refine ⟨?_, by decide⟩
    rcases f with (f | ⟨o, f⟩) | ⟨o, its, n, f, hc, _⟩
    · exact .base (.tup f)
    · exact .fTuple f
    · exact .kTuple f hc
  | dct f hs => cases e; exact ⟨.fDict f, by decide⟩
  | ins => cases e
  | exc => cases e
  | box => cases e
  | raw => cases e
def isiD : List D → Option D
  | [x, .raw (.ty n)] => (match tyD x with
    | some t => if n ∈ tyNames then some (.bl (isT t n)) else none
    | none => none)
  | _ => none
theorem cd_isi : CallD c (rIsi c.K) isiD := by
  intro xs ds d H Q hs e k
  unfold isiD at e
  split at e
  · split at e
    · split at e
      · rename_i hn
        cases e
        obtain ⟨v, w, rfl, h1, h2⟩ := dvs2 hs
        obtain ⟨ty, mt⟩ := tyx_of h1 (by assumption)
        cases h2
        exact ⟨_, _, _, _, _, rfl, .ty _, ty, kit_ty (isT_ok _ mt _ hn), k _ _ (.of (.bl _)) (same_refl H)⟩
      · cases e
    · cases e
  · cases e
/-- isinstance(x, (T1, T2)) -/
def isi2 (n1 n2 : String) (x : D) : Option D := match tyD x with
  | some t => some (.bl (isT t n1 || isT t n2))
  | none => none
def mUn1 (g : D → Option D) (ma : ME) : ME := fun ε ρ n k => ma ε ρ n fun x n1 => optK (g x) fun d => k d n1
theorem de_isi2 {a1 a2 : Str} {n1 n2 : String} {ma : ME} {q1 q2 tp : Pos} {k1} (hm : X.mg "isinstance" = none) (hm1 : X.mg a1 = none) (hm2 : X.mg a2 = none) (hv1 : bootBuiltins a1 = some (.type n1)) (hv2 : bootBuiltins a2 = some (.type n2))
    (he : PE X e (tE c H0 ε ma)) (i1 : n1 ∈ tyNames := by decide) (i2 : n2 ∈ tyNames := by decide) (hK : X.K = c.K := by rfl) (hg : Gl X "isinstance" := by rfl) (hg1 : Gl X a1 := by rfl) (hg2 : Gl X a2 := by rfl)
    (m1 : a1 ≠ "__name__" := by decide) (d1 : (a1 == ("__debug__" : Str)) = false := by decide) (m2 : a2 ≠ "__name__" := by decide) (d2 : (a2 == ("__debug__" : Str)) = false := by decide)
    (s0 : starEach [e, .Tuple [.Name a1 q1, .Name a2 q2] k1 tp] X.env = (false, eval e X.env) :: starEach [.Tuple [.Name a1 q1, .Name a2 q2] k1 tp] X.env := by rfl)
    (s1 : starEach [.Tuple [.Name a1 q1, .Name a2 q2] k1 tp] X.env = (false, eval (.Tuple [.Name a1 q1, .Name a2 q2] k1 tp) X.env) :: starEach [] X.env := by rfl)
    (s2 : starEach [.Name a1 q1, .Name a2 q2] X.env = (false, eval (.Name a1 q1) X.env) :: starEach [.Name a2 q2] X.env := by rfl) (s3 : starEach [.Name a2 q2] X.env = (false, eval (.Name a2 q2) X.env) :: starEach [] X.env := by rfl)
    (hpl : (backTo pos (starEach [.Tuple [.Name a1 q1, .Name a2 q2] k1 tp] X.env)).any (·.1) = false := by rfl) :
    PE X (.Call (.Name "isinstance" p) [e, .Tuple [.Name a1 q1, .Name a2 q2] k1 tp] [] pos) (tE c H0 ε (mUn1 (isi2 n1 n2) ma)) := by
  have ht : PE X (.Tuple [.Name a1 q1, .Name a2 q2] k1 tp) (tTup (tCons (tC (.ty n1)) (tCons (tC (.ty n2)) tNil))) :=
    pe_tup (pa_cons (pe_bltn hg1 hm1 hv1 (v := .ty n1) rfl m1 d1) (pa_cons (pe_bltn hg2 hm2 hv2 (v := .ty n2) rfl m2 d2) pa_nil s3) s2)
  refine imp_pe (pe_callB call_isiT hg hm (by decide +kernel) (pa_cons he (pa_cons ht pa_nil s1) s0) (by decide) (by decide) s0 hpl) fun σ H Q ⟨ρ, n, k, R, m, q⟩ => ?_
  refine ⟨ρ, n, _, R, m, fun d n' v H1 m1 dv k1 b1 => ?_⟩
  obtain ⟨b, e1, m3⟩ := optK_some m1
  refine ⟨by show 2 ≤ sizeLine; decide, fun tpl hp => ?_⟩
  unfold isi2 at e1
  split at e1
  · rename_i t ht
    cases e1
    obtain ⟨ty, mt⟩ := tyx_of dv ht
    have sm := same_new (o := .tup [.ty n1, .ty n2]) hp
    have kx := kit_ty (K := X.K) (isT_ok _ mt _ i1)
    have ky := kit_ty (K := X.K) (isT_ok _ mt _ i2)
    have ty2 := (tyx_of (dv.kw (Same.ks sm).kw) ht).1
    rw [← hK] at ty2
    refine ⟨v, tpl, [.ty n1, .ty n2], .type t, [.type n1, .type n2], isT t n1 || isT t n2, rfl, upd_same, .cons (.ty _) (.cons (.ty _) .nil), ty2, ?_, ?_⟩
    · refine kitAny_cons kx (fun h => ?_) (fun h => by rw [h]; rfl)
      rw [h]
      exact kitAny_cons ky (fun h2 => by rw [h2]; rfl) (fun h2 => by rw [h2]; rfl)
    · exact q _ _ _ _ m3 (.bl _) (k1.trans (Same.ks sm)) (b1.same sm)
  · cases e1
end
end DS
namespace DS
open PySem PySem.Spec PyProof.Rows L2
section
variable {X : Cx} {c : Cc} {H0 : Hp} {ε : XD}
/-! ### truth, tests -/
def truthD : D → Option Bool
  | .non => some false
  | .bl b => some b
  | .int i => some (i != 0)
  | .str z => if z.length ≤ sizeLine then some ((z.length : Int) != 0) else none
  | .lst xs => some (!xs.isEmpty)
  | .tup xs => some (!xs.isEmpty)
  | _ => none
theorem tru_of {H : Hp} {v : V} {d : D} {b : Bool} (h : DV c H v d) (e : truthD d = some b) : TruV c.K v H b := by
  cases h with
  | non => cases e; rfl
  | bl x => cases e; rfl
  | int i => cases e; rfl
  | str z =>
    by_cases hz : z.length ≤ sizeLine
    · have e' : some ((z.length : Int) != 0) = some b := by rw [← e]; exact (if_pos hz).symm
      cases e'
      exact ⟨hz, rfl⟩
    · have e' : (none : Option Bool) = some b := by rw [← e]; exact (if_neg hz).symm
      cases e'
  | lst f hs => cases e; exact .inl ⟨_, f.sq, by rw [hs.isEmpty]⟩
  | tup f hs => cases e; exact .inr (.inl ⟨_, f, by rw [hs.isEmpty]⟩)
  | dct f hs => cases e
  | ins => cases e
  | exc => cases e
  | box => cases e
  | raw => cases e
def mTru (ma : ME) : MT := fun ε ρ n k => ma ε ρ n fun d n1 => optK (truthD d) fun b => k b n1
def mBl (ma : ME) : MT := fun ε ρ n k => ma ε ρ n fun d n1 => match d with
  | .bl b => k b n1
  | _ => False
def mNot (ma : MT) : MT := fun ε ρ n k => ma ε ρ n fun b n1 => k (!b) n1
def mAnd (ma mb : MT) : MT := fun ε ρ n k => ma ε ρ n fun b n1 => if b = true then mb ε ρ n1 k else k false n1
def mOr (ma mb : MT) : MT := fun ε ρ n k => ma ε ρ n fun b n1 => if b = true then k true n1 else mb ε ρ n1 k
variable {a b e : Expr} {rest : List Expr} {pos : Pos} {ma mb mc : ME} {ta tb : MT}
theorem dt_tru (h : PE X a (tE c H0 ε ma)) (hK : c.K = X.K := by rfl) (he : ∀ whole, isTrue a X.env whole = (do let v ← whole; standAt a.pos; holding [v] (truthy v)) := by intro _; rfl) : PT X a (tT c H0 ε (mTru ma)) :=
  imp_pt (pt_truth h he) fun σ H Q ⟨ρ, n, k, R, m, q⟩ => ⟨ρ, n, _, R, m, fun d n1 v H1 m1 dv k1 b1 => by
    obtain ⟨b, e1, m2⟩ := optK_some m1
    exact ⟨b, hK ▸ tru_of dv e1, q _ _ _ m2 k1 b1⟩⟩
theorem dt_bl {t : TE} (h : PT X a (tTest t)) (i : ∀ σ H Q, tE c H0 ε ma σ H Q → t σ H Q) : PT X a (tT c H0 ε (mBl ma)) :=
  imp_pt h fun σ H Q ⟨ρ, n, k, R, m, q⟩ => i _ _ _ ⟨ρ, n, _, R, m, fun d n1 v H1 m1 dv k1 b1 => by
    cases dv with
    | bl b => exact ⟨b, rfl, q _ _ _ m1 k1 b1⟩
    | _ => exact m1.elim⟩
theorem dt_not (h : PT X a (tT c H0 ε ta)) : PT X (.UnaryOp .Not a pos) (tT c H0 ε (mNot ta)) :=
  imp_pt (pt_not h) fun σ H Q ⟨ρ, n, k, R, m, q⟩ => ⟨ρ, n, _, R, m, fun b n1 H1 m1 k1 b1 => q _ _ _ m1 k1 b1⟩
theorem dw_and1 (h : PT X a (tT c H0 ε ta)) : PW X (.BoolOp .And [a] pos) (tT c H0 ε ta) := pw_and1 h
theorem dw_or1 (h : PT X a (tT c H0 ε ta)) : PW X (.BoolOp .Or [a] pos) (tT c H0 ε ta) := pw_or1 h
theorem dw_and (h : PT X a (tT c H0 ε ta)) (g : PW X (.BoolOp .And (b :: rest) pos) (tT c H0 ε tb)) : PW X (.BoolOp .And (a :: b :: rest) pos) (tT c H0 ε (mAnd ta tb)) :=
  imp_pw (pw_and h g) fun σ H Q ⟨ρ, n, k, R, m, q⟩ => ⟨ρ, n, _, R, m, fun b n1 H1 m1 k1 b1 => by
    cases b with
    | true => rw [if_pos rfl] at m1 ⊢; exact ⟨ρ, n1, k, R.step k1 b1, m1, fun b2 n2 H2 m2 k2 b3 => q _ _ _ m2 (k1.trans k2) b3⟩
    | false => rw [if_neg (by decide)] at m1 ⊢; exact q _ _ _ m1 k1 b1⟩
theorem dw_or (h : PT X a (tT c H0 ε ta)) (g : PW X (.BoolOp .Or (b :: rest) pos) (tT c H0 ε tb)) : PW X (.BoolOp .Or (a :: b :: rest) pos) (tT c H0 ε (mOr ta tb)) :=
  imp_pw (pw_or h g) fun σ H Q ⟨ρ, n, k, R, m, q⟩ => ⟨ρ, n, _, R, m, fun b n1 H1 m1 k1 b1 => by
    cases b with
    | false => rw [if_neg (by decide)] at m1 ⊢; exact ⟨ρ, n1, k, R.step k1 b1, m1, fun b2 n2 H2 m2 k2 b3 => q _ _ _ m2 (k1.trans k2) b3⟩
    | true => rw [if_pos rfl] at m1 ⊢; exact q _ _ _ m1 k1 b1⟩
/-- a comparison as a test -/
theorem dt_cmp {op : CmpOp} {r : R2} {g : D → D → Option D} (ho : OpR X (compareOp op) r) (hd : OpD c r g) (hm : behindInMarks op b = false) (ha : PE X a (tE c H0 ε ma)) (hb : PE X b (tE c H0 ε mb)) : PT X (.Compare a [op] [b] pos) (tT c H0 ε (mBl (mOp g ma mb))) := by
  refine imp_pt (pt_cmpR ho ha hb hm) fun σ H Q ⟨ρ, n, k, R, m, q⟩ => ?_
  refine ⟨ρ, n, _, R, m, fun x n1 v H1 m1 dv k1 b1 => ⟨ρ, n1, _, R.step k1 b1, m1, fun y n2 u H2 m2 du k2 b2 => ?_⟩⟩
  obtain ⟨d, e1, m3⟩ := optK_some m2
  refine hd _ _ _ _ _ H2 _ (dv.kw k2.kw) du e1 fun w H3 dw s3 => ?_
  rcases dw with dw | ⟨p, u, rfl, _, _, _, _, dw⟩
  · cases dw with
    | bl b => exact ⟨b, rfl, q _ _ _ m3 ((k1.trans k2).trans (Same.ks s3)) (b2.same s3)⟩
    | _ => exact m3.elim
  · have dd := dw { cls := .none, dict := none, data := .fields #[] }
    cases dd <;> exact m3.elim
/-! values of and, or, not; a if t else b; a chain -/
def mAndV (ma mb : ME) : ME := fun ε ρ n k => ma ε ρ n fun d n1 => optK (truthD d) fun b => if b = true then mb ε ρ n1 k else k d n1
def mOrV (ma mb : ME) : ME := fun ε ρ n k => ma ε ρ n fun d n1 => optK (truthD d) fun b => if b = true then k d n1 else mb ε ρ n1 k
def mNotV (ma : ME) : ME := fun ε ρ n k => ma ε ρ n fun d n1 => optK (truthD d) fun b => k (.bl (!b)) n1
def mIfE (t : MT) (ma mb : ME) : ME := fun ε ρ n k => t ε ρ n fun b n1 => if b = true then ma ε ρ n1 k else mb ε ρ n1 k
theorem de_one {op} (h : PE X a (tE c H0 ε ma)) : PE X (.BoolOp op [a] pos) (tE c H0 ε ma) := pe_one h
theorem de_and (h : PE X a (tE c H0 ε ma)) (g : PE X (.BoolOp .And (b :: rest) pos) (tE c H0 ε mb)) (hK : c.K = X.K := by rfl) : PE X (.BoolOp .And (a :: b :: rest) pos) (tE c H0 ε (mAndV ma mb)) :=
  imp_pe (pe_andT h g) fun σ H Q ⟨ρ, n, k, R, m, q⟩ => ⟨ρ, n, _, R, m, fun d n1 v H1 m1 dv k1 b1 => by
    obtain ⟨b, e1, m2⟩ := optK_some m1
    refine ⟨b, hK ▸ tru_of dv e1, ?_⟩
    cases b with
    | true => rw [if_pos rfl] at m2 ⊢; exact ⟨ρ, n1, k, R.step k1 b1, m2, fun d2 n2 v2 H2 m3 dv2 k2 b3 => q _ _ _ _ m3 dv2 (k1.trans k2) b3⟩
    | false => rw [if_neg (by decide)] at m2 ⊢; exact q _ _ _ _ m2 dv k1 b1⟩
theorem de_or (h : PE X a (tE c H0 ε ma)) (g : PE X (.BoolOp .Or (b :: rest) pos) (tE c H0 ε mb)) (hK : c.K = X.K := by rfl) : PE X (.BoolOp .Or (a :: b :: rest) pos) (tE c H0 ε (mOrV ma mb)) :=
  imp_pe (pe_orT h g) fun σ H Q ⟨ρ, n, k, R, m, q⟩ => ⟨ρ, n, _, R, m, fun d n1 v H1 m1 dv k1 b1 => by
    obtain ⟨b, e1, m2⟩ := optK_some m1
    refine ⟨b, hK ▸ tru_of dv e1, ?_⟩
    cases b with
    | false => rw [if_neg (by decide)] at m2 ⊢; exact ⟨ρ, n1, k, R.step k1 b1, m2, fun d2 n2 v2 H2 m3 dv2 k2 b3 => q _ _ _ _ m3 dv2 (k1.trans k2) b3⟩
    | true => rw [if_pos rfl] at m2 ⊢; exact q _ _ _ _ m2 dv k1 b1⟩
theorem de_not (h : PE X a (tE c H0 ε ma)) (hK : c.K = X.K := by rfl) : PE X (.UnaryOp .Not a pos) (tE c H0 ε (mNotV ma)) :=
  imp_pe (pe_notT h) fun σ H Q ⟨ρ, n, k, R, m, q⟩ => ⟨ρ, n, _, R, m, fun d n1 v H1 m1 dv k1 b1 => by
    obtain ⟨b, e1, m2⟩ := optK_some m1
    exact ⟨b, hK ▸ tru_of dv e1, q _ _ _ _ m2 (.bl _) k1 b1⟩⟩
theorem de_if {t : Expr} (ht : PT X t (tT c H0 ε ta)) (h : PE X a (tE c H0 ε ma)) (g : PE X b (tE c H0 ε mb)) : PE X (.IfExp t a b pos) (tE c H0 ε (mIfE ta ma mb)) :=
  imp_pe (pe_ifExp ht h g) fun σ H Q ⟨ρ, n, k, R, m, q⟩ => ⟨ρ, n, _, R, m, fun b n1 H1 m1 k1 b1 => by
    cases b with
    | true => rw [if_pos rfl] at m1 ⊢; exact ⟨ρ, n1, k, R.step k1 b1, m1, fun d2 n2 v2 H2 m3 dv2 k2 b3 => q _ _ _ _ m3 dv2 (k1.trans k2) b3⟩
    | false => rw [if_neg (by decide)] at m1 ⊢; exact ⟨ρ, n1, k, R.step k1 b1, m1, fun d2 n2 v2 H2 m3 dv2 k2 b3 => q _ _ _ _ m3 dv2 (k1.trans k2) b3⟩⟩
/-- a < b < c: both comparisons give truths -/
def mChain (g g' : D → D → Option D) (ma mb mc : ME) : ME := fun ε ρ n k => ma ε ρ n fun x n1 => mb ε ρ n1 fun y n2 => optK (g x y) fun z => match z with
  | .bl true => mc ε ρ n2 fun w n3 => optK (g' y w) fun d => k d n3
  | .bl false => k (.bl false) n2
  | _ => False
theorem de_chain {op op' : CmpOp} {r r' : R2} {g g' : D → D → Option D} {cc : Expr} (ho : OpR X (compareOp op) r) (hd : OpD c r g) (ho' : OpR X (compareOp op') r') (hd' : OpD c r' g') (ha : PE X a (tE c H0 ε ma)) (hb : PE X b (tE c H0 ε mb)) (hc : PE X cc (tE c H0 ε mc))
    (hm : lastMarks [op, op'] [b, cc] = false := by with_unfolding_all rfl) : PE X (.Compare a [op, op'] [b, cc] pos) (tE c H0 ε (mChain g g' ma mb mc)) := by
  refine imp_pe (pe_fz (pe_chain ho ho' ha hb hc hm)) fun σ H Q ⟨ρ, n, k, R, m, q⟩ => ?_
  refine ⟨ρ, n, _, R, m, fun x n1 v H1 m1 dv k1 b1 => ⟨ρ, n1, _, R.step k1 b1, m1, fun y n2 u H2 m2 du k2 b2 => ?_⟩⟩
  obtain ⟨d, e1, m3⟩ := optK_some m2
  refine hd _ _ _ _ _ H2 _ (dv.kw k2.kw) du e1 fun w H3 dw s3 => ?_
  have R3 := (R.step (k1.trans k2) b2).step (Same.ks s3) (b2.same s3)
  have k3 : Ks c H H3 := (k1.trans k2).trans (Same.ks s3)
  have fin : DV c H3 w d → ∃ kk, w = .bl kk ∧ (if kk = true then tE c H0 ε mc σ H3 fun w' H4 => r' u w' H4 fun v H' => Q v H' ∨ ∃ p u, v = .ref p ∧ H' p = some u ∧ Mut (some u) ∧ ∀ o, Q v (upd H' p (.frz o u)) else Q (.bl false) H3 ∨ ∃ p u, V.bl false = .ref p ∧ H3 p = some u ∧ Mut (some u) ∧ ∀ o, Q (.bl false) (upd H3 p (.frz o u))) := by
    intro dv3
    cases dv3 with
    | bl kk =>
      refine ⟨kk, rfl, ?_⟩
      cases kk with
      | true =>
        rw [if_pos rfl]
        refine ⟨ρ, n2, _, R3, m3, fun z n4 vz H4 m4 dz k4 b4 => ?_⟩
        obtain ⟨d5, e5, m5⟩ := optK_some m4
        refine hd' _ _ _ _ _ H4 _ ((du.kw (Same.ks s3).kw).kw k4.kw) dz e5 fun w5 H5 dw5 s5 => ?_
        exact fin_new (ρ := ρ) (σ := σ) b4 s5 dw5 m5 fun d n' v H' a1 a2 a3 a4 => q d n' v H' a1 a2 ((k3.trans k4).trans a3) a4
      | false =>
        rw [if_neg (by decide)]
        exact .inl (q _ _ _ _ m3 (.bl _) k3 (b2.same s3))
    | _ => exact m3.elim
  rcases dw with dw | ⟨p, u', rfl, _, _, _, _, dw⟩
  · exact fin dw
  · have dd := dw { cls := .none, dict := none, data := .fields #[] }
    cases dd <;> exact m3.elim

/-! ### subscripts, slices -/
def ixD : D → D → Option D
  | .lst xs, .int i => atI xs i
  | .tup xs, .int i => atI xs i
  | .str z, .int i => if z.length ≤ sizeLine then (atI z.cps.toList i).map fun cd => .str ⟨#[cd]⟩ else none
  | _, _ => none
theorem DVs.atI {H : Hp} {xs : List V} {ds : List D} {i : Int} {d : D} (h : DVs c H xs ds) (e : L2.atI ds i = some d) : ∃ v, L2.atI xs i = some v ∧ DV c H v d := by
  unfold L2.atI at e ⊢
  rw [h.length]
  cases z : ixN ds.length i with
  | none => rw [z] at e; cases e
  | some j => rw [z] at e; exact h.getD e
theorem od_ix : OpD c (rIx c.K) ixD := by
  intro x y dx dy d H Q hx hy e k
  unfold ixD at e
  split at e
  · obtain ⟨a, xs, rfl, f, hs⟩ := opd_lst hx
    cases opd_int hy
    obtain ⟨v, h1, h2⟩ := hs.atI e
    exact .inl ⟨_, _, _, _, rfl, rfl, f.sq, h1, k _ _ (.of h2) (same_refl H)⟩
  · obtain ⟨a, xs, rfl, f, hs⟩ := opd_tup hx
    cases opd_int hy
    obtain ⟨v, h1, h2⟩ := hs.atI e
    exact .inr (.inl ⟨_, _, _, _, rfl, rfl, f, h1, k _ _ (.of h2) (same_refl H)⟩)
  · split at e
    · rename_i hz
      cases opd_str hx; cases opd_int hy
      obtain ⟨cd, w, rfl⟩ := Option.map_eq_some_iff.mp e
      exact .inr (.inr ⟨_, _, _, rfl, rfl, hz, w, k _ _ (.of (.str _)) (same_refl H)⟩)
    · cases e
  · cases e
theorem de_ix (ha : PE X a (tE c H0 ε ma)) (hb : PE X b (tE c H0 ε mb)) (hK : c.K = X.K := by rfl) (hs : PlainIx b := by intro _ _; rfl) : PE X (.Subscript a b pos) (tE c H0 ε (mOp ixD ma mb)) :=
  de_bin (f := fun _ _ => pure .none) (r := rIx c.K) (fun h1 h2 => hK ▸ pe_ix ix_seq h1 h2 hs) od_ix ha hb
end
end DS
namespace DS
open PySem PySem.Spec PyProof.Rows L2
section
variable {X : Cx} {c : Cc} {H0 : Hp} {ε : XD}
variable {a b e : Expr} {pos : Pos} {ma mb mc : ME} {ta tb : MT}
/-! ### slices -/
abbrev MO := XD → Ev → Nat → (Option Int → Nat → Prop) → Prop
def tO (c : Cc) (H0 : Hp) (ε : XD) (m : MO) : TO := fun σ H Q => ∃ ρ n k, Rel c H0 ρ n σ H ∧ m ε ρ n k ∧ ∀ i n' H', k i n' → Ks c H H' → BoxAt c n' H' → Q i H'
def mNoP : MO := fun _ _ n k => k none n
def mPart (ma : ME) : MO := fun ε ρ n k => ma ε ρ n fun d n1 => match d with
  | .int i => k (some i) n1
  | _ => False
theorem imp_po {eo : Option Expr} {t t' : TO} (h : PO X eo t) (i : ∀ σ H Q, t' σ H Q → t σ H Q) : PO X eo t' := ⟨fun pins s σ H Q I w => h.run pins s σ H Q I (i σ H Q w)⟩
theorem do_none : PO X none (tO c H0 ε mNoP) := imp_po po_none fun σ H Q ⟨ρ, n, k, R, m, q⟩ => q _ _ _ m (Ks.refl _ _) R.box
theorem do_some (h : PE X a (tE c H0 ε ma)) : PO X (some a) (tO c H0 ε (mPart ma)) := imp_po (po_some h) fun σ H Q ⟨ρ, n, k, R, m, q⟩ => ⟨ρ, n, _, R, m, fun d n1 v H1 m1 dv k1 b1 => by
  cases dv with
  | int i => exact ⟨i, rfl, q _ _ _ m1 k1 b1⟩
  | _ => exact m1.elim⟩
def cutD (xs : List D) (lo hi : Option Int) : List D := (xs.drop (HT.sIx xs.length 0 lo)).take (HT.sIx xs.length xs.length hi - HT.sIx xs.length 0 lo)
def slD (x : D) (lo hi : Option Int) : Option D := match x with
  | .lst xs => some (.lst (cutD xs lo hi))
  | .tup xs => some (.tup (cutD xs lo hi))
  | .str z => if z.length ≤ sizeLine then some (.str (cutS z lo hi)) else none
  | _ => none
def mSl (me : ME) (ml mh : MO) : ME := fun ε ρ n k => me ε ρ n fun x n1 => ml ε ρ n1 fun lo n2 => mh ε ρ n2 fun hi n3 => optK (slD x lo hi) fun d => k d n3
abbrev rSlAll (K : PySem.W.Frag) : V → Option Int → Option Int → Hp → VK → Prop := fun x lo hi H Q => (rSlL K x lo hi H Q ∨ rSlA K x lo hi H Q) ∨ rSlS x lo hi H Q
theorem cut_whole {xs : List V} {lo hi : Option Int} (h : HT.sIx xs.length 0 lo = 0 ∧ HT.sIx xs.length xs.length hi = xs.length) {ds : List D} (e : xs.length = ds.length) : cutD ds lo hi = ds := by
  unfold cutD
  rw [← e, h.1, h.2, List.drop_zero, e]
  simp
theorem DVs.cut {H : Hp} {xs : List V} {ds : List D} (h : DVs c H xs ds) (lo hi : Option Int) : DVs c H (cutV xs lo hi) (cutD ds lo hi) := by
  unfold cutV cutD
  rw [h.length]
  exact (h.drop _).take _
theorem de_sl {lo hi : Option Expr} {p2 : Pos} {ml mh : MO} (he : PE X e (tE c H0 ε ma)) (hl : PO X lo (tO c H0 ε ml)) (hh : PO X hi (tO c H0 ε mh)) (hK : c.K = X.K := by rfl) : PE X (.Subscript e (.Slice lo hi none p2) pos) (tE c H0 ε (mSl ma ml mh)) := by
  refine imp_pe (pe_fz (pe_slice (SlR.or (SlR.or sl_list sl_tupA) sl_str) he hl hh)) fun σ H Q ⟨ρ, n, k, R, m, q⟩ => ?_
  refine ⟨ρ, n, _, R, m, fun x n1 v H1 m1 dv k1 b1 => ⟨ρ, n1, _, R.step k1 b1, m1, fun lo n2 H2 m2 k2 b2 => ⟨ρ, n2, _, R.step (k1.trans k2) b2, m2, fun hi n3 H3 m3 k3 b3 => ?_⟩⟩⟩
  obtain ⟨d, e1, m4⟩ := optK_some m3
  have dv3 := dv.kw (k2.trans k3).kw
  have K3 := (k1.trans k2).trans k3
  have fin : ∀ w H4, DVn c H3 H4 w d → Same H3 H4 → Q w H4 ∨ ∃ p u, w = .ref p ∧ H4 p = some u ∧ Mut (some u) ∧ ∀ o, Q w (upd H4 p (.frz o u)) := fun w H4 dw s4 =>
    fin_new (ρ := ρ) (σ := σ) b3 s4 dw m4 fun d n' v H' a1 a2 a3 a4 => q d n' v H' a1 a2 (K3.trans a3) a4
  unfold slD at e1
  split at e1
  · cases e1
    obtain ⟨a, xs, rfl, f, hs⟩ := opd_lst dv3
    exact .inl (.inl ⟨a, xs, rfl, hK ▸ f.sq, new_lst (hs.cut lo hi) fin⟩)
  · cases e1
    obtain ⟨a, xs, rfl, f, hs⟩ := opd_tup dv3
    refine .inl (.inr ⟨a, xs, rfl, hK ▸ f, fun w => ?_, fun _ => new_tup (hs.cut lo hi) fin⟩)
    rw [cut_whole w hs.length] at fin
    exact fin _ _ (.of (.tup f hs)) (same_refl _)
  · split at e1
    · rename_i hz
      cases e1
      cases opd_str dv3
      exact .inr ⟨_, rfl, hz, fin _ _ (.of (.str _)) (same_refl _)⟩
    · cases e1
  · cases e1

/-! ### statements -/
variable {st : Stmt} {sts rest : List Stmt} {ms mt : MS}
def mNext : MS := fun _ ρ n P => P.nx ρ n
def mSeq (ms mt : MS) : MS := fun ε ρ n P => ms ε ρ n { P with nx := fun ρ' n' => mt ε ρ' n' P }
def mDrop (ma : ME) : MS := fun ε ρ n P => ma ε ρ n fun _ n1 => P.nx ρ n1
def mRet (ma : ME) : MS := fun ε ρ n P => ma ε ρ n P.rt
def mRetN : MS := fun _ _ n P => P.rt .non n
def mIf (t : MT) (ms mt : MS) : MS := fun ε ρ n P => t ε ρ n fun b n1 => if b = true then ms ε ρ n1 P else mt ε ρ n1 P
def mBrk : MS := fun _ ρ n P => P.bk ρ n
def mCnt : MS := fun _ ρ n P => P.ct ρ n
def mNever : MS := fun _ _ _ _ => False
theorem ds_never : PS X st (tS c H0 ε mNever) := imp_ps ps_never fun De σ H ⟨_, _, _, _, m, _⟩ => m.elim
theorem dss_nil : PSs X [] (tS c H0 ε mNext) := imp_pss pss_nil fun De σ H ⟨ρ, n, P, R, m, h1, _⟩ => h1 _ _ _ _ m R (Kw.refl _ _)
theorem dss_cons (h : PS X st (tS c H0 ε ms)) (g : PSs X rest (tS c H0 ε mt)) : PSs X (st :: rest) (tS c H0 ε (mSeq ms mt)) :=
  imp_pss (pss_cons h g) fun De σ H ⟨ρ, n, P, R, m, h1, h2, h3, h4⟩ => ⟨ρ, n, _, R, m, fun ρ' n' σ' H' m' R' k' => ⟨ρ', n', P, R', m', fun a1 a2 a3 a4 a5 a6 a7 => h1 a1 a2 a3 a4 a5 a6 (k'.trans a7), h2,
    fun a1 a2 a3 a4 a5 a6 a7 => h3 a1 a2 a3 a4 a5 a6 (k'.trans a7), fun a1 a2 a3 a4 a5 a6 a7 => h4 a1 a2 a3 a4 a5 a6 (k'.trans a7)⟩, h2, h3, h4⟩
theorem dss_one (h : PS X st (tS c H0 ε ms)) : PSs X [st] (tS c H0 ε ms) := pss_one h
theorem ds_doc {x j pos pos'} : PS X (.Expr (.Constant (.str x) j pos) pos') (tS c H0 ε mNext) := imp_ps ps_doc fun De σ H ⟨ρ, n, P, R, m, h1, _⟩ => h1 _ _ _ _ m R (Kw.refl _ _)
theorem ds_pass {pos} : PS X (.Pass pos) (tS c H0 ε mNext) := imp_ps ps_pass fun De σ H ⟨ρ, n, P, R, m, h1, _⟩ => h1 _ _ _ _ m R (Kw.refl _ _)
theorem ds_break {pos} : PS X (.Break pos) (tS c H0 ε mBrk) := imp_ps ps_break fun De σ H ⟨ρ, n, P, R, m, _, _, h1, _⟩ => h1 _ _ _ _ m R (Kw.refl _ _)
theorem ds_cont {pos} : PS X (.Continue pos) (tS c H0 ε mCnt) := imp_ps ps_continue fun De σ H ⟨ρ, n, P, R, m, _, _, _, h1⟩ => h1 _ _ _ _ m R (Kw.refl _ _)
theorem ds_expr (he : PE X e (tE c H0 ε ma)) (hs : swapsWith e none pos.line X.env = pure false := by rfl) : PS X (.Expr e pos) (tS c H0 ε (mDrop ma)) :=
  imp_ps (ps_expr he hs) fun De σ H ⟨ρ, n, P, R, m, h1, _⟩ => ⟨ρ, n, _, R, m, fun d n1 v H1 m1 dv k1 b1 => h1 _ _ _ _ m1 (R.step k1 b1) k1.kw⟩
theorem ds_ret (he : PE X e (tE c H0 ε ma)) : PS X (.Return (some e) pos) (tS c H0 ε (mRet ma)) :=
  imp_ps (ps_ret he) fun De σ H ⟨ρ, n, P, R, m, h1, h2, _⟩ => ⟨ρ, n, _, R, m, fun d n1 v H1 m1 dv k1 b1 => h2 _ _ _ _ m1 dv (R.k0.trans k1) b1⟩
theorem ds_retN : PS X (.Return none pos) (tS c H0 ε mRetN) := imp_ps ps_retN fun De σ H ⟨ρ, n, P, R, m, h1, h2, _⟩ => h2 _ _ _ _ m .non R.k0 R.box
theorem ds_if {t : Expr} {s1 s2 : List Stmt} (ht : PT X t (tT c H0 ε ta)) (h : PSs X s1 (tS c H0 ε ms)) (g : PSs X s2 (tS c H0 ε mt)) : PS X (.If t s1 s2 pos) (tS c H0 ε (mIf ta ms mt)) :=
  imp_ps (ps_if ht h g) fun De σ H ⟨ρ, n, P, R, m, h1, h2, h3, h4⟩ => ⟨ρ, n, _, R, m, fun b n1 H1 m1 k1 b1 => by
    have go : ∀ {mm : MS}, mm ε ρ n1 P → tS c H0 ε mm De σ H1 := fun mm => ⟨ρ, n1, P, R.step k1 b1, mm, fun a1 a2 a3 a4 a5 a6 a7 => h1 a1 a2 a3 a4 a5 a6 (k1.kw.trans a7), h2,
      fun a1 a2 a3 a4 a5 a6 a7 => h3 a1 a2 a3 a4 a5 a6 (k1.kw.trans a7), fun a1 a2 a3 a4 a5 a6 a7 => h4 a1 a2 a3 a4 a5 a6 (k1.kw.trans a7)⟩
    cases b with
    | true => rw [if_pos rfl] at m1; exact iteT (go m1)
    | false => rw [if_neg (by decide)] at m1; exact iteF (go m1)⟩

/-! targets -/
abbrev GF := D → Ev → Option Ev
/-- all slots but those told stay -/
def Off (ts : List Nat) (σ σ' : St) : Prop := σ'.length = σ.length ∧ ∀ j : Nat, j ∉ ts → σ'[j]? = σ[j]?
theorem Off.trans {ts us : List Nat} {σ σ1 σ2 : St} (h : Off ts σ σ1) (g : Off us σ1 σ2) : Off (ts ++ us) σ σ2 :=
  ⟨g.1.trans h.1, fun j hj => (g.2 j fun z => hj (List.mem_append_right _ z)).trans (h.2 j fun z => hj (List.mem_append_left _ z))⟩
def tG (c : Cc) (H0 : Hp) (ts : List Nat) (g : GF) : TG := fun v σ H Q => ∃ ρ n d ρ', Rel c H0 ρ n σ H ∧ DV c H v d ∧ g d ρ = some ρ' ∧ ∀ σ', Rel c H0 ρ' n σ' H → Off ts σ σ' → Q σ' H
theorem imp_pg {t t' : TG} (h : PG X e t) (i : ∀ v σ H Q, t' v σ H Q → t v σ H Q) : PG X e t' := ⟨fun pins s σ H v u Q I r w => h.run pins s σ H v u Q I r (i v σ H Q w)⟩
def gfName (i : Nat) : GF := fun d ρ => some (ρ.set i (.val d))
theorem dg_name (i : Nat) {x : Str} (hN : X.N.Nodup) (hi : X.N[i]? = some x := by rfl) (hx : Loc X.env.scope x := by first | exact Or.inl rfl | exact Or.inr rfl) (hf : X.fn x = true ∨ X.env.scope.names.lookup x = some .local := by first | exact .inl rfl | exact .inr rfl) : PG X (.Name x pos) (tG c H0 [i] (gfName i)) :=
  imp_pg (pg_name hN hi hx hf) fun v σ H Q ⟨ρ, n, d, ρ', R, dv, e, q⟩ => by
    cases e
    exact q _ (R.set dv) ⟨List.length_set, fun j hj => List.getElem?_set_ne (fun z => hj (by simp [z]))⟩
def tGs (c : Cc) (H0 : Hp) (ts : List Nat) (g : List D → Ev → Option Ev) : TGs := fun vs σ H Q => ∃ ρ n ds ρ', Rel c H0 ρ n σ H ∧ DVs c H vs ds ∧ g ds ρ = some ρ' ∧ ∀ σ', Rel c H0 ρ' n σ' H → Off ts σ σ' → Q σ' H
theorem imp_pgs {es : List Expr} {t t' : TGs} (h : PGs X es t) (i : ∀ v σ H Q, t' v σ H Q → t v σ H Q) : PGs X es t' := ⟨fun pins s σ H v u Q I r w => h.run pins s σ H v u Q I r (i v σ H Q w)⟩
def gsNil : List D → Ev → Option Ev := fun ds ρ => match ds with
  | [] => some ρ
  | _ => none
def gsCons (g : GF) (gs : List D → Ev → Option Ev) : List D → Ev → Option Ev := fun ds ρ => match ds with
  | d :: r => (g d ρ).bind fun ρ' => gs r ρ'
  | _ => none
theorem dgs_nil : PGs X [] (tGs c H0 [] gsNil) := imp_pgs pgs_nil fun vs σ H Q ⟨ρ, n, ds, ρ', R, dv, e, q⟩ => by
  cases dv with
  | nil => cases e; exact ⟨rfl, q _ R ⟨rfl, fun _ _ => rfl⟩⟩
  | cons => cases e
theorem dgs_cons {es : List Expr} {ts us : List Nat} {g : GF} {gs : List D → Ev → Option Ev} (h1 : PG X e (tG c H0 ts g)) (h2 : PGs X es (tGs c H0 us gs)) (hs : (assignEach (e :: es) X.env).map (·.2) = assign e X.env :: (assignEach es X.env).map (·.2) := by rfl) :
    PGs X (e :: es) (tGs c H0 (ts ++ us) (gsCons g gs)) :=
  imp_pgs (pgs_cons h1 h2 hs) fun vs σ H Q ⟨ρ, n, ds, ρ', R, dv, e, q⟩ => by
    cases dv with
    | nil => cases e
    | cons a b =>
      obtain ⟨ρ1, e1, e2⟩ := Option.bind_eq_some_iff.mp e
      exact ⟨_, _, rfl, ρ, n, _, ρ1, R, a, e1, fun σ' R' o1 => ⟨ρ1, n, _, ρ', R', b, e2, fun σ2 R2 o2 => q _ R2 (o1.trans o2)⟩⟩
def gfTup (gs : List D → Ev → Option Ev) : GF := fun d ρ => match d with
  | .tup ds => gs ds ρ
  | _ => none
theorem dg_tup {es : List Expr} {k m : Nat} {ts : List Nat} {gs : List D → Ev → Option Ev} (hc : X.calm = true) (h : PGs X es (tGs c H0 ts gs)) (hl : ∀ ds ρ ρ', gs ds ρ = some ρ' → ds.length = m) (hK : c.K = X.K := by rfl)
    (hn : (assignEach es X.env).length = m := by rfl) (hst : (assignEach es X.env).findIdx? (·.1) = none := by rfl) : PG X (.Tuple es k pos) (tG c H0 ts (gfTup gs)) :=
  imp_pg (pg_tup hc h hn hst) fun v σ H Q ⟨ρ, n, d, ρ', R, dv, e, q⟩ => by
    unfold gfTup at e
    split at e
    · obtain ⟨a, xs, rfl, f, hs⟩ := opd_tup dv
      exact ⟨a, xs, rfl, hK ▸ f, by rw [hs.length]; exact hl _ _ _ e, ρ, n, _, ρ', R, hs, e, q⟩
    · cases e
theorem gs_nil_len : ∀ ds ρ ρ', gsNil ds ρ = some ρ' → ds.length = 0 := by
  intro ds ρ ρ' e
  cases ds with
  | nil => rfl
  | cons => cases e
theorem gs_cons_len {g : GF} {gs : List D → Ev → Option Ev} {m : Nat} (h : ∀ ds ρ ρ', gs ds ρ = some ρ' → ds.length = m) : ∀ ds ρ ρ', gsCons g gs ds ρ = some ρ' → ds.length = m + 1 := by
  intro ds ρ ρ' e
  cases ds with
  | nil => cases e
  | cons d r =>
    obtain ⟨ρ1, e1, e2⟩ := Option.bind_eq_some_iff.mp e
    rw [List.length_cons, h _ _ _ e2]
def mAsg (g : GF) (ma : ME) : MS := fun ε ρ n P => ma ε ρ n fun d n1 => optK (g d ρ) fun ρ' => P.nx ρ' n1
theorem ds_asg {tg : Expr} {ts : List Nat} {g : GF} (he : PE X e (tE c H0 ε ma)) (hg : PG X tg (tG c H0 ts g)) (hs : swapsWithSole [tg] e pos.line X.env = pure false := by rfl) (hw : swappedStores [tg] e X.env = pure none := by rfl)
    (h1 : (assignEach [tg] X.env).map (·.2) = [assign tg X.env] := by rfl) : PS X (.Assign [tg] e pos) (tS c H0 ε (mAsg g ma)) :=
  imp_ps (ps_asg he hg hs hw h1) fun De σ H ⟨ρ, n, P, R, m, h1, _⟩ => ⟨ρ, n, _, R, m, fun d n1 v H1 m1 dv k1 b1 => by
    obtain ⟨ρ', e1, m2⟩ := optK_some m1
    exact ⟨ρ, n1, d, ρ', R.step k1 b1, dv, e1, fun σ' R' _ => h1 _ _ _ _ m2 R' k1.kw⟩⟩
theorem ds_set (i : Nat) {x : Str} {pos' : Pos} (hN : X.N.Nodup) (he : PE X e (tE c H0 ε ma)) (hi : X.N[i]? = some x := by rfl) (hx : Loc X.env.scope x := by first | exact Or.inl rfl | exact Or.inr rfl) (hs : swapsWith e (some (.Name x pos')) pos.line X.env = pure false := by rfl)
    (hf : X.fn x = true ∨ X.env.scope.names.lookup x = some .local := by first | exact .inl rfl | exact .inr rfl) : PS X (.Assign [.Name x pos'] e pos) (tS c H0 ε (mAsg (gfName i) ma)) :=
  imp_ps (ps_set hN hi hx he hs hf) fun De σ H ⟨ρ, n, P, R, m, h1, _⟩ => ⟨ρ, n, _, R, m, fun d n1 v H1 m1 dv k1 b1 => h1 _ _ _ _ m1 ((R.step k1 b1).set dv) k1.kw⟩
def mPar (i j : Nat) (ma : MA) : MS := fun ε ρ n P => ma ε ρ n fun ds n1 => match ds with
  | [x, y] => P.nx ((ρ.set i (.val x)).set j (.val y)) n1
  | _ => False
theorem ds_par (i j : Nat) {x y : Str} {ms : MA} {px py pt : Pos} {kt k2 pt2} (hc : X.calm = true) (hN : X.N.Nodup) (hi : X.N[i]? = some x) (hj : X.N[j]? = some y) (hij : i ≠ j) (hx : X.env.scope.names.lookup x = some .local) (hy : X.env.scope.names.lookup y = some .local)
    (ha : PA X [a, b] (tA c H0 ε ms)) (hw : swappedStores [.Tuple [.Name x px, .Name y py] kt pt] (.Tuple [a, b] k2 pt2) X.env = pure (some [x, y])) (hs : swapsWithSole [.Tuple [.Name x px, .Name y py] kt pt] (.Tuple [a, b] k2 pt2) pos.line X.env = pure false := by rfl) :
    PS X (.Assign [.Tuple [.Name x px, .Name y py] kt pt] (.Tuple [a, b] k2 pt2) pos) (tS c H0 ε (mPar i j ms)) :=
  imp_ps (ps_par hc hN hi hj hij hx hy ha hw hs) fun De σ H ⟨ρ, n, P, R, m, h1, _⟩ => ⟨ρ, n, _, R, m, fun ds n1 vs H1 m1 dv k1 b1 => by
    match ds, m1, dv with
    | [d, d'], m1, dv =>
      obtain ⟨v, w, rfl, h2, h3⟩ := dvs2 dv
      exact ⟨v, w, rfl, h1 _ _ _ _ m1 (((R.step k1 b1).set h2).set h3) k1.kw⟩⟩
end
end DS
namespace DS
open PySem PySem.Spec PyProof.Rows L2
/-! ### what is walked -/
inductive Src where
  | one (xs : List V)
  | two (xs ys : List V)
def Src.len : Src → Nat
  | .one xs => xs.length
  | .two xs ys => min xs.length ys.length
def Src.Y : Src → Nat → Hp → V → Hp → Prop
  | .one xs => YAt xs
  | .two xs ys => YPair (fun i => xs[i]?) (fun i => ys[i]?)
def Src.ok (c : Cc) (H : Hp) : Src → List D → Prop
  | .one xs, ds => DVs c H xs ds
  | .two xs ys, ds => ∃ dx dy, DVs c H xs dx ∧ DVs c H ys dy ∧ ds = List.zipWith (fun a b => D.tup [a, b]) dx dy
structure ItOk (c : Cc) (H : Hp) (J : It) (ds : List D) : Prop where
  ex : ∃ (src : Src) (G : Hp → Prop), Walk J src.len G src.Y ∧ (∀ H', Kw c H H' → G H') ∧ src.ok c H ds
section
variable {c : Cc} {H H1 H2 : Hp}
theorem Src.ok_len {src : Src} {ds : List D} (h : src.ok c H ds) : src.len = ds.length := by
  cases src with
  | one xs => exact DVs.length h
  | two xs ys =>
    obtain ⟨dx, dy, h1, h2, rfl⟩ := h
    show min xs.length ys.length = _
    rw [h1.length, h2.length, List.length_zipWith]
theorem Src.step {src : Src} {ds : List D} {i : Nat} {x : V} (h : src.ok c H ds) (k : Kw c H H1) (y : src.Y i H1 x H2) : ∃ d, ds[i]? = some d ∧ DV c H2 x d ∧ Same H1 H2 := by
  cases src with
  | one xs =>
    obtain ⟨rfl, e⟩ := y
    obtain ⟨d, h1, h2⟩ := DVs.get h e
    exact ⟨d, h1, h2.kw k, same_refl _⟩
  | two xs ys =>
    obtain ⟨dx, dy, h1, h2, rfl⟩ := h
    obtain ⟨T, v, w, rfl, hT, rfl, e1, e2⟩ := y
    obtain ⟨d1, f1, g1⟩ := h1.get e1
    obtain ⟨d2, f2, g2⟩ := h2.get e2
    have sm := same_new (o := .tup [v, w]) hT
    refine ⟨.tup [d1, d2], by rw [List.getElem?_zipWith, f1, f2], ?_, sm⟩
    exact .tup (.inl (.inl upd_same)) (.cons ((g1.kw k).kw (Same.ks sm).kw) (.cons ((g2.kw k).kw (Same.ks sm).kw) .nil))
end
section
variable {X : Cx} {c : Cc} {H0 : Hp} {ε : XD}
variable {a b e tg iter : Expr} {pos : Pos} {ma mb mc : ME} {mi mj : MA}
def tI (c : Cc) (H0 : Hp) (ε : XD) (mi : MA) : TI := fun σ H R => ∃ ρ n k, Rel c H0 ρ n σ H ∧ mi ε ρ n k ∧ ∀ ds n' J H', k ds n' → ItOk c H' J ds → Ks c H H' → BoxAt c n' H' → R J H'
/-- .. within a comprehension, where one's own lists stay -/
structure ItOkC (c : Cc) (H : Hp) (J : It) (ds : List D) : Prop where
  ex : ∃ (src : Src) (G : Hp → Prop), Walk J src.len G src.Y ∧ (∀ H', Ks c H H' → G H') ∧ src.ok c H ds
theorem ItOk.toC {c : Cc} {H : Hp} {J : It} {ds : List D} (h : ItOk c H J ds) : ItOkC c H J ds := let ⟨src, G, w, g, o⟩ := h.ex; ⟨src, G, w, fun H' k => g H' k.kw, o⟩
def tIc (c : Cc) (H0 : Hp) (ε : XD) (mi : MA) : TI := fun σ H R => ∃ ρ n k, Rel c H0 ρ n σ H ∧ mi ε ρ n k ∧ ∀ ds n' J H', k ds n' → ItOkC c H' J ds → Ks c H H' → BoxAt c n' H' → R J H'
theorem imp_pi {t t' : TI} (h : PI X tg iter t) (i : ∀ σ H Q, t' σ H Q → t σ H Q) : PI X tg iter t' := ⟨fun pins s σ H R I w => h.run pins s σ H R I (i σ H R w)⟩
theorem pic (h : PI X tg iter (tI c H0 ε mi)) : PI X tg iter (tIc c H0 ε mi) := imp_pi h fun σ H R ⟨ρ, n, k, Rl, m, q⟩ => ⟨ρ, n, k, Rl, m, fun ds n' J H' a1 a2 a3 a4 => q ds n' J H' a1 a2.toC a3 a4⟩
/-- a list or a tuple -/
def mIter (ma : ME) : MA := fun ε ρ n k => ma ε ρ n fun d n1 => match d with
  | .lst xs => k xs n1
  | .tup xs => k xs n1
  | _ => False
theorem it_list {K : PySem.W.Frag} {S : Sg} {B} {H : Hp} {a : Addr} {xs : List V} {ds : List D} (f : FzL K H a xs) (h : DVs ⟨K, S, B⟩ H xs ds) : ItOk ⟨K, S, B⟩ H (Itl K a) ds :=
  ⟨.one xs, fun H' => FzL K H' a xs, walk_list.mono (fun _ z => z.sq) (fun _ _ _ _ _ _ y => y), fun _ k => f.kw k, h⟩
theorem sqt_kw {c : Cc} {H H1 : Hp} {a : Addr} {xs : List V} (k : Kw c H H1) (h : SqT c.K H a xs) : SqT c.K H1 a xs := by
  rcases h with (h | ⟨o, h⟩) | h
  · exact .inl (.inl (k _ _ h True.intro))
  · exact .inl (.inr ⟨o, k _ _ h True.intro⟩)
  · exact .inr h
theorem it_tup {c : Cc} {H : Hp} {a : Addr} {xs : List V} {ds : List D} (f : SqT c.K H a xs) (h : DVs c H xs ds) : ItOk c H (Itt c.K a) ds :=
  ⟨.one xs, fun H' => SqT c.K H' a xs, walk_tup, fun _ k => sqt_kw k f, h⟩
theorem pi_seq {l : Expr} {tl : TE} (hl : PE X l tl) : PI X tg l (fun σ H R => tl σ H fun x H1 => ∃ a, x = .ref a ∧ ((∃ xs, SqL X.K H1 a xs ∧ R (Itl X.K a) H1) ∨ (∃ xs, SqT X.K H1 a xs ∧ R (Itt X.K a) H1))) := by
  constructor
  intro pins s σ H R I h
  refine thn (hl.run pins s σ H _ I h) ?_
  rintro v s1 ⟨x, H1, I1, r1, a, rfl, q⟩
  obtain rfl : v = .ref a := r1
  have fp : ∀ b ∈ [s1.heap.objs.size], FpOk X pins H1 b := fun b hb => by
    obtain rfl := List.mem_singleton.mp hb
    exact I1.fpOk (Nat.le_refl _) (I1.hok.fresh (Nat.le_refl _))
  rcases q with ⟨xs, f, q⟩ | ⟨xs, f, q⟩
  · obtain ⟨its, rv, p, hz⟩ := I1.list f
    exact wpAny_pyIter_list p.isList ⟨_, [s1.heap.objs.size], _, _, H1, rfl, I1.kept (t' := s1.toks) (fun _ _ z => Heap.get?_push_of_some _ z), turn_list a _, ⟨_, Heap.get?_push_size _ rfl, rfl, rfl⟩, fp, q⟩
  · obtain ⟨its, rv, p, hz⟩ := I1.tuple f
    exact wpAny_pyIter_tuple (show s1.heap.IsTuple a its.toArray from p) ⟨_, [s1.heap.objs.size], _, _, H1, rfl, I1.kept (t' := s1.toks) (fun _ _ z => Heap.get?_push_of_some _ z), turn_tuple a _, ⟨_, Heap.get?_push_size _ rfl, rfl, rfl⟩, fp, q⟩
theorem di_seq {S : Sg} {B} (h : PE X a (tE ⟨X.K, S, B⟩ H0 ε ma)) : PI X tg a (tI ⟨X.K, S, B⟩ H0 ε (mIter ma)) :=
  imp_pi (pi_seq h) fun σ H Q ⟨ρ, n, k, R, m, q⟩ => ⟨ρ, n, _, R, m, fun d n1 v H1 m1 dv k1 b1 => by
    cases dv with
    | lst f hs => exact ⟨_, rfl, .inl ⟨_, f.sq, q _ _ _ _ m1 (it_list f hs) k1 b1⟩⟩
    | tup f hs => exact ⟨_, rfl, .inr ⟨_, f, q _ _ _ _ m1 (it_tup f hs) k1 b1⟩⟩
    | _ => exact m1.elim⟩
def range1D (j : Int) : List D := (List.range j.toNat).map fun i => .int (i : Nat)
def range2D (i j : Int) : List D := (List.range (j - i).toNat).map fun t => .int (i + (t : Nat))
def mRange1 (ma : ME) : MA := fun ε ρ n k => ma ε ρ n fun d n1 => match d with
  | .int j => (-(2 ^ 62) ≤ j ∧ j < 2 ^ 62) ∧ k (range1D j) n1
  | _ => False
def mRange2 (ma mb : ME) : MA := fun ε ρ n k => ma ε ρ n fun d n1 => mb ε ρ n1 fun d' n2 => match d, d' with
  | .int i, .int j => (-(2 ^ 62) ≤ i ∧ i < 2 ^ 62 ∧ -(2 ^ 62) ≤ j ∧ j < 2 ^ 62) ∧ k (range2D i j) n2
  | _, _ => False
theorem dvs_ints {c : Cc} {H : Hp} : ∀ ns : List Int, DVs c H (ns.map V.int) (ns.map D.int)
  | [] => .nil
  | i :: r => .cons (.int i) (dvs_ints r)
theorem it_range {c : Cc} {H : Hp} (lo : Int) (n : Nat) : ItOk c H (Itr lo n) ((List.range n).map fun t => .int (lo + (t : Nat))) := by
  have h := dvs_ints (c := c) (H := H) ((List.range n).map fun t => lo + (t : Nat))
  rw [List.map_map, List.map_map] at h
  refine ⟨.one _, fun _ => True, ?_, fun _ _ => True.intro, h⟩
  have w := walk_range (lo := lo) (n := n)
  show Walk _ (List.length _) _ _
  rw [List.length_map, List.length_range]
  refine w.mono (fun _ z => z) fun i H x H' hi _ y => ⟨y.1, ?_⟩
  rw [y.2, List.getElem?_map, List.getElem?_range hi]
  rfl
theorem di_range1 {p : Pos} (hm : X.mg "range" = none) (ha : PE X a (tE c H0 ε ma)) (hg : Gl X "range" := by rfl) (hs : starEach [a] X.env = (false, eval a X.env) :: starEach [] X.env := by rfl) (hs2 : starEach [] X.env = [] := by rfl) : PI X tg (.Call (.Name "range" p) [a] [] pos) (tI c H0 ε (mRange1 ma)) :=
  imp_pi (pi_range1 hg hm (pa_cons ha pa_nil hs) (by rw [hs, hs2])) fun σ H Q ⟨ρ, n, k, R, m, q⟩ => ⟨ρ, n, _, R, m, fun d n1 v H1 m1 dv k1 b1 => by
    cases dv with
    | int j =>
      refine ⟨j, rfl, m1.1.1, m1.1.2, ?_⟩
      have it := it_range (c := c) (H := H1) 0 j.toNat
      simp only [Int.zero_add] at it
      exact q _ _ _ _ m1.2 it k1 b1
    | _ => exact m1.elim⟩
theorem di_range2 {p : Pos} (hm : X.mg "range" = none) (ha : PE X a (tE c H0 ε ma)) (hb : PE X b (tE c H0 ε mb)) (hg : Gl X "range" := by rfl) (hs : starEach [a, b] X.env = (false, eval a X.env) :: starEach [b] X.env := by rfl)
    (hs1 : starEach [b] X.env = (false, eval b X.env) :: starEach [] X.env := by rfl) (hs2 : starEach [] X.env = [] := by rfl) : PI X tg (.Call (.Name "range" p) [a, b] [] pos) (tI c H0 ε (mRange2 ma mb)) :=
  imp_pi (pi_range2 hg hm (pa_cons ha (pa_cons hb pa_nil hs1) hs) (by rw [hs, hs1, hs2]) (by rw [hs1, hs2])) fun σ H Q ⟨ρ, n, k, R, m, q⟩ => ⟨ρ, n, _, R, m, fun d n1 v H1 m1 dv k1 b1 => ⟨ρ, n1, _, R.step k1 b1, m1, fun d' n2 w H2 m2 dw k2 b2 => by
    cases dv with
    | int i =>
      cases dw with
      | int j => exact ⟨i, j, rfl, m2.1, q _ _ _ _ m2.2 (it_range i _) (k1.trans k2) b2⟩
      | _ => exact m2.elim
    | _ => cases dw <;> exact m2.elim⟩⟩
/-- zip of two lists or of two tuples -/
def mZip (ma mb : ME) : MA := fun ε ρ n k => ma ε ρ n fun d n1 => mb ε ρ n1 fun d' n2 => match d, d' with
  | .lst xs, .lst ys => k (List.zipWith (fun a b => D.tup [a, b]) xs ys) n2
  | .tup xs, .tup ys => k (List.zipWith (fun a b => D.tup [a, b]) xs ys) n2
  | _, _ => False

/-! ### for -/
def forD (st : D → Ev → Nat → Pn → Prop) : List D → Ev → Nat → Pn → Prop
  | [], ρ, n, P => P.nx ρ n
  | d :: ds, ρ, n, P => st d ρ n { nx := fun ρ' n' => forD st ds ρ' n' P, rt := P.rt, bk := P.nx, ct := fun ρ' n' => forD st ds ρ' n' P }
def mFor (mi : MA) (g : GF) (ms : MS) : MS := fun ε ρ n P => mi ε ρ n fun ds n1 => forD (fun d ρ n P => optK (g d ρ) fun ρ' => ms ε ρ' n P) ds ρ n1 P
theorem ds_for {body : List Stmt} {ts : List Nat} {g : GF} {ms : MS} (hp : PassesOwn (model X.prog X.w) X.A X.env X.xe) (hc : X.calm = true) (hi : PI X tg iter (tI c H0 ε mi)) (hg : PG X tg (tG c H0 ts g)) (hb : PSs X body (tS c H0 ε ms))
    (hs : ∀ x, foldedSetIterable iter X.env x = pure x := by intro _; rfl) : PS X (.For tg iter body [] pos) (tS c H0 ε (mFor mi g ms)) := by
  refine imp_ps (ps_for hp hc hi hg hb hs) fun De σ H ⟨ρ, n, P, R, m, h1, h2, h3, h4⟩ => ⟨ρ, n, _, R, m, fun ds n1 J H1 m1 it k1 b1 => ?_⟩
  obtain ⟨src, G, w, hG, ok⟩ := it.ex
  have hl := Src.ok_len ok
  refine for_it w (fun i σ' H' => ∃ ρ' n', Rel c H0 ρ' n' σ' H' ∧ Kw c H1 H' ∧ forD (fun d ρ n P => optK (g d ρ) fun ρ' => ms ε ρ' n P) (ds.drop i) ρ' n' P) ⟨ρ, n1, R.step k1 b1, Kw.refl _ _, m1⟩
    (fun i σ' H' _ ⟨_, _, _, k', _⟩ => hG _ k') ?_ ?_
  · rintro i x σ' H' H'' hi ⟨ρ', n', R', k', f⟩ y
    obtain ⟨d, e1, dv, sm⟩ := Src.step ok k' y
    have hi' : i < ds.length := by rw [← hl]; exact hi
    have ed : ds.drop i = d :: ds.drop (i + 1) := by
      rw [List.drop_eq_getElem_cons hi']
      rw [List.getElem?_eq_getElem hi'] at e1
      cases e1
      rfl
    rw [ed] at f
    obtain ⟨ρ2, e2, f2⟩ := optK_some f
    have R2 := R'.step (Same.ks sm) (R'.box.same sm)
    refine ⟨ρ', n', d, ρ2, R2, dv, e2, fun σ2 R3 _ => ⟨ρ2, n', _, R3, f2, fun a1 a2 a3 a4 a5 a6 a7 => ⟨a1, a2, a6, (k'.trans (Same.ks sm).kw).trans a7, a5⟩, h2, fun a1 a2 a3 a4 a5 a6 a7 => h1 a1 a2 a3 a4 a5 a6 (((k1.kw.trans k').trans (Same.ks sm).kw).trans a7),
      fun a1 a2 a3 a4 a5 a6 a7 => ⟨a1, a2, a6, (k'.trans (Same.ks sm).kw).trans a7, a5⟩⟩⟩
  · rintro σ' H' ⟨ρ', n', R', k', f⟩
    rw [hl, List.drop_length] at f
    exact h1 _ _ _ _ f R' (k1.kw.trans k')
end
end DS
namespace DS
open PySem PySem.Spec PyProof.Rows L2
section
variable {X : Cx} {c : Cc} {H0 : Hp} {ε : XD}
variable {a b e tg iter : Expr} {pos : Pos} {ma mb mc : ME} {mi mj : MA}
/-! ### a new list that is being filled, apart from all data -/
theorem Rel.upd {ρ : Ev} {n : Nat} {σ : St} {H : Hp} {p : Addr} {o u : HO} (R : Rel c H0 ρ n σ H) (h0 : H0 p = none) (hb : OffB c p) (ho : ∀ (i : Nat) (q : Addr) (xs : Ow), ρ[i]? = some (.own q xs) → q ≠ p) (hp : H p = some u) (hu : ¬ Stb c u) : Rel c H0 ρ n σ (L2.upd H p o) where
  len := R.len
  vals := fun i d e => let ⟨v, h1, h2⟩ := R.vals i d e; ⟨v, h1, h2.kw (kw_upd hp hu)⟩
  owns := fun i q xs e => by
    obtain ⟨h1, h2, h3, h4⟩ := R.owns i q xs e
    exact ⟨h1, h2, h3, h4.keep (fun u h => by rw [upd_ne (ho i q xs e)]; exact h) (kw_upd hp hu)⟩
  uniq := R.uniq
  box := R.box.upd (kw_upd hp hu) hb
  k0 := fun a w e s => by
    rw [upd_ne (ne_of_none e h0)]
    exact R.k0 a w e s
/-- what is free of tracked things is apart from what was tracked -/
theorem Rel.apart {ρ : Ev} {n : Nat} {σ : St} {H : Hp} {p : Addr} (R : Rel c H0 ρ n σ H) (hp : H p = none) : H0 p = none ∧ (OffB c p) ∧ ∀ (i : Nat) (q : Addr) (xs : Ow), ρ[i]? = some (.own q xs) → q ≠ p := by
  have hb : OffB c p := R.box.off hp
  refine ⟨?_, hb, fun i q xs e z => ?_⟩
  · cases w : H0 p with
    | none => rfl
    | some u =>
      have := R.k0 p u w (.inr hb)
      rw [hp] at this; cases this
  · obtain ⟨_, _, _, h4⟩ := R.owns i q xs e
    obtain ⟨u, h4⟩ := h4.at
    rw [z, hp] at h4; cases h4
/-! ### comprehensions -/
def wipeE (ρ : Ev) : List Nat → Ev
  | [] => ρ
  | v :: vs => (wipeE ρ vs).set v .no
theorem wipeE_get {ρ : Ev} {i : Nat} {s : Sl} : ∀ {vs : List Nat}, (wipeE ρ vs)[i]? = some s → s ≠ .no → ρ[i]? = some s ∧ i ∉ vs
  | [], h, _ => ⟨h, by simp⟩
  | v :: vs, h, hn => by
    unfold wipeE at h
    by_cases hi : v = i
    · subst hi
      by_cases hv : v < (wipeE ρ vs).length
      · rw [List.getElem?_set_self hv] at h; cases h; exact absurd rfl hn
      · rw [List.getElem?_eq_none (by simpa using hv)] at h; cases h
    · rw [List.getElem?_set_ne hi] at h
      obtain ⟨h1, h2⟩ := wipeE_get h hn
      exact ⟨h1, fun z => by rcases List.mem_cons.mp z with z | z; exact hi z.symm; exact h2 z⟩
theorem wipeE_len (ρ : Ev) : ∀ vs : List Nat, (wipeE ρ vs).length = ρ.length
  | [] => rfl
  | v :: vs => by unfold wipeE; rw [List.length_set, wipeE_len ρ vs]
theorem wipe_off {σ : St} {i : Nat} : ∀ {vs : List Nat}, i ∉ vs → (wipe σ vs)[i]? = σ[i]?
  | [], _ => rfl
  | v :: vs, h => by
    unfold wipe
    rw [List.getElem?_set_ne (fun z => h (by simp [z])), wipe_off fun z => h (List.mem_cons_of_mem _ z)]
theorem wipe_in {σ : St} {i : Nat} : ∀ {vs : List Nat}, i ∈ vs → (wipe σ vs)[i]? = if i < σ.length then some none else none
  | v :: vs, h => by
    unfold wipe
    by_cases z : v = i
    · subst z
      by_cases hl : v < σ.length
      · rw [if_pos hl, List.getElem?_set_self (by rw [wipe_length]; exact hl)]
      · rw [if_neg hl, List.getElem?_eq_none (by rw [List.length_set, wipe_length]; omega)]
    · rw [List.getElem?_set_ne z]
      exact wipe_in (by rcases List.mem_cons.mp h with q | q; exact absurd q.symm z; exact q)
theorem wipe_same {σ σ' : St} {vs ts : List Nat} (h : Off ts (wipe σ vs) σ') (hv : ∀ i ∈ ts, i ∈ vs) : wipe σ' vs = wipe σ vs := by
  apply List.ext_getElem?
  intro i
  by_cases z : i ∈ vs
  · rw [wipe_in z, wipe_in z, h.1, wipe_length]
  · rw [wipe_off z, wipe_off z, h.2 i fun q => z (hv i q), wipe_off z]
theorem Rel.wipe {ρ : Ev} {n : Nat} {σ : St} {H : Hp} (R : Rel c H0 ρ n σ H) (vs : List Nat) : Rel c H0 (wipeE ρ vs) n (L2.wipe σ vs) H where
  len := by rw [wipeE_len, wipe_length]; exact R.len
  vals := fun i d e => by
    obtain ⟨h1, h2⟩ := wipeE_get e (by simp)
    obtain ⟨v, h3, h4⟩ := R.vals i d h1
    exact ⟨v, by rw [wipe_off h2]; exact h3, h4⟩
  owns := fun i p xs e => by
    obtain ⟨h1, h2⟩ := wipeE_get e (by simp)
    rw [wipe_off h2]
    exact R.owns i p xs h1
  uniq := fun i j p xs ys e1 e2 => R.uniq i j p xs ys (wipeE_get e1 (by simp)).1 (wipeE_get e2 (by simp)).1
  box := R.box
  k0 := R.k0
/-- the turns: each gives an item or none -/
def compD (st : D → Nat → (Option D → Nat → Prop) → Prop) : List D → Nat → (List D → Nat → Prop) → Prop
  | [], n, k => k [] n
  | d :: ds, n, k => st d n fun o n1 => compD st ds n1 fun xs n2 => k (match o with | some y => y :: xs | none => xs) n2
def noX : XD := fun _ _ _ => False
def mLc (mi : MA) (g : GF) (vs : List Nat) (tt : MT) (te : ME) : ME := fun ε ρ n k => mi ε ρ n fun ds n1 => ds.length ≤ 1000000 ∧
  compD (fun d n k => optK (g d (wipeE ρ vs)) fun ρ' => tt noX ρ' n fun b n2 => if b = true then te noX ρ' n2 fun y n3 => k (some y) n3 else k none n2) ds n1 fun xs n2 => k (.lst xs) n2
def mYes : MT := fun _ _ n k => k true n
theorem line_million : 1000000 < sizeLine := by decide
theorem lc_read {g : GF} {ts vs : List Nat} {tt : MT} {te : ME} (hts : ∀ i ∈ ts, i ∈ vs) (σ : St) (H : Hp) (Q : VK) (h : tE c H0 ε (mLc mi g vs tt te) σ H Q) :
    tLc (tIc c H0 ε mi) (tG c H0 ts g) (tT c H0 noX tt) (tE c H0 noX te) vs σ H fun v H' => Q v H' ∨ ∃ p u, v = .ref p ∧ H' p = some u ∧ Mut (some u) ∧ ∀ o, Q v (L2.upd H' p (.frz o u)) := by
  obtain ⟨ρ, n, k, R, m, q⟩ := h
  refine ⟨ρ, n, _, R, m, fun ds n1 J H1 m1 it k1 b1 D hD => ?_⟩
  obtain ⟨hlen, m1⟩ := m1
  obtain ⟨src, G, w, hG, ok⟩ := it.ex
  have hl := Src.ok_len ok
  have R1 := R.step k1 b1
  obtain ⟨a0, ab, ao⟩ := R1.apart hD
  have s1 : Same H1 (L2.upd H1 D (.lst [])) := same_new hD
  have nst : ∀ xs, ¬ Stb c (.lst xs) := fun _ z => z
  refine lc_it w (fun i H' => ∃ n' acc done, Rel c H0 ρ n' σ H' ∧ Ks c H1 H' ∧ H' D = some (.lst acc) ∧ DVs c H' acc done ∧ acc.length ≤ i ∧
    compD (fun d n k => optK (g d (wipeE ρ vs)) fun ρ' => tt noX ρ' n fun b n2 => if b = true then te noX ρ' n2 fun y n3 => k (some y) n3 else k none n2) (ds.drop i) n' fun xs n2 => k (.lst (done ++ xs)) n2)
    ⟨n1, [], [], R1.step (Same.ks s1) (b1.same s1), Same.ks s1, upd_same, .nil, Nat.le_refl _, m1⟩ (fun i H' _ ⟨_, _, _, _, k', _⟩ => hG _ k') ?_ ?_
  · rintro i x H' H'' hi ⟨n', acc, done, R', k', hD', hacc, la, f⟩ y
    obtain ⟨d, e1, dv, sm⟩ := Src.step ok k'.kw y
    have hi' : i < ds.length := by rw [← hl]; exact hi
    have ed : ds.drop i = d :: ds.drop (i + 1) := by
      rw [List.drop_eq_getElem_cons hi']
      rw [List.getElem?_eq_getElem hi'] at e1
      cases e1
      rfl
    rw [ed] at f
    obtain ⟨ρ2, e2, f2⟩ := optK_some f
    have R2 := R'.step (Same.ks sm) (R'.box.same sm)
    refine ⟨wipeE ρ vs, n', d, ρ2, R2.wipe vs, dv, e2, fun σ2 R3 off => ⟨wipe_same off hts, ρ2, n', _, R3, f2, fun b n2 H3 m3 k3 b3 => ?_⟩⟩
    have kD : Ks c H1 H3 := (k'.trans (Same.ks sm)).trans k3
    have hD3 : H3 D = some (.lst acc) := k3 _ _ (sm _ _ hD') (.inr ab)
    cases b with
    | false =>
      rw [if_neg (by decide)] at m3
      refine iteF ?_
      exact ⟨n2, acc, done, R2.step k3 b3, kD, hD3, (hacc.kw (Same.ks sm).kw).kw k3.kw, by omega, m3⟩
    | true =>
      rw [if_pos rfl] at m3
      refine iteT ?_
      refine ⟨ρ2, n2, _, R3.step k3 b3, m3, fun yd n3 yv H4 m4 dy k4 b4 => ?_⟩
      have hD4 : H4 D = some (.lst acc) := k4 _ _ hD3 (.inr ab)
      refine ⟨acc, hD4, by have := line_million; omega, n3, acc ++ [yv], done ++ [yd], ?_, ?_, upd_same, ?_, by rw [List.length_append]; exact Nat.succ_le_succ la, ?_⟩
      · exact (R2.step (k3.trans k4) b4).upd a0 ab ao hD4 (nst _)
      · intro p u ep s
        rw [upd_ne (ne_of_none ep hD)]
        exact (kD.trans k4) p u ep s
      · exact ((((hacc.kw (Same.ks sm).kw).kw k3.kw).kw k4.kw).append (.one dy)).kw (kw_upd hD4 (nst _))
      · have fe : (fun xs n2 => k (.lst (done ++ [yd] ++ xs)) n2) = fun xs n2 => k (.lst (done ++ (yd :: xs))) n2 := by
          funext xs n2
          rw [List.append_assoc]
          rfl
        rw [fe]
        exact m4
  · rintro H' ⟨n', acc, done, R', k', hD', hacc, la, f⟩
    rw [hl, List.drop_length] at f
    have f' : k (.lst done) n' := by simpa [compD] using f
    refine .inr ⟨D, _, rfl, hD', True.intro, fun o => q _ _ _ _ f' (.lst (.inl ⟨o, upd_same⟩) (hacc.kw (kw_upd hD' (nst _)))) ?_ ?_⟩
    · intro p u ep s
      have e1 := k1 p u ep s
      rw [upd_ne (ne_of_none e1 hD)]
      exact k' p u e1 s
    · exact R'.box.upd (kw_upd hD' (nst _)) ab
theorem de_lc {elt : Expr} {ifs : List Expr} {scope : Scope} {own : List (Str × Nat)} {g : GF} {ts : List Nat} {tt : MT} {te : ME} (hc : X.calm = true) (hN : X.N.Nodup) (hi : PI X tg iter (tIc c H0 ε mi)) (ok : BlkOk X.N X.env.scope scope own) (hts : ∀ i ∈ ts, i ∈ own.map (·.2))
    (hg : ∀ (s : Shared) (H : Hp) (C : Addr) (cl : List (Str × Addr)) (fp : List Addr), PG (X.blk s H scope (compEnvC scope cl C X.env) fp) tg (tG c H0 ts g)) (ht : ∀ (s : Shared) (H : Hp) (C : Addr) (cl : List (Str × Addr)) (fp : List Addr), PTs (X.blk s H scope (compEnvC scope cl C X.env) fp) ifs (tT c H0 noX tt))
    (he : ∀ (s : Shared) (H : Hp) (C : Addr) (cl : List (Str × Addr)) (fp : List Addr), PE (X.blk s H scope (compEnvC scope cl C X.env) fp) elt (tE c H0 noX te)) (hs : ∀ x, foldedSetIterable iter X.env x = pure x := by intro _; rfl) :
    PE X (.ListComp elt [⟨tg, iter, ifs, 0⟩] scope pos) (tE c H0 ε (mLc mi g (own.map (·.2)) tt te)) :=
  imp_pe (pe_fz (pe_lc hc hN hi ok hg ht he hs)) fun σ H Q h => lc_read hts σ H Q h
theorem dts_nil : PTs X [] (tT c H0 ε mYes) := ⟨fun pins s σ H Q I ⟨ρ, n, k, R, m, q⟩ => pts_nil.run pins s σ H Q I (q _ _ _ m (Ks.refl _ _) R.box)⟩
theorem dts_one {tt : MT} (h : PT X a (tT c H0 ε tt)) : PTs X [a] (tT c H0 ε tt) := pts_one h
/-- a new thing may be locked behind a statement -/
theorem ps_fz {st : Stmt} {t : TS} (h : PS X st t) : PS X st (fun De σ H => t { De with nx := fun σ' H' => De.nx σ' H' ∨ ∃ p u, H' p = some u ∧ Mut (some u) ∧ ∀ o, De.nx σ' (L2.upd H' p (.frz o u)) } σ H) := by
  refine ⟨fun pins s σ H De I w => ?_⟩
  refine thn (h.run pins s σ H _ I w) fun f s1 q => ?_
  cases f with
  | next =>
    obtain ⟨σ', H', I1, q | ⟨p, u, hp, mu, q⟩⟩ := q
    · exact ⟨σ', H', I1, q⟩
    · obtain ⟨o, I2⟩ := I1.lock hp mu
      exact ⟨σ', _, I2, q o⟩
  | ret v => exact q
  | brk => exact q
  | cont => exact q
theorem ds_setLc (i : Nat) {y : Str} {py : Pos} {spos : Pos} {elt : Expr} {ifs : List Expr} {scope : Scope} {own : List (Str × Nat)} {g : GF} {ts : List Nat} {tt : MT} {te : ME} (hc : X.calm = true) (hN : X.N.Nodup) (hy : X.N[i]? = some y) (hyl : X.env.scope.names.lookup y = some .local)
    (hsw : swapsWith (.ListComp elt [⟨tg, iter, ifs, 0⟩] scope pos) (some (.Name y py)) spos.line X.env = pure true) (hi : PI X tg iter (tIc c H0 ε mi)) (ok : BlkOk X.N X.env.scope scope own) (hts : ∀ i ∈ ts, i ∈ own.map (·.2))
    (hg : ∀ (s : Shared) (H : Hp) (C : Addr) (cl : List (Str × Addr)) (fp : List Addr), PG (X.blk s H scope (compEnvC scope cl C X.env) fp) tg (tG c H0 ts g)) (ht : ∀ (s : Shared) (H : Hp) (C : Addr) (cl : List (Str × Addr)) (fp : List Addr), PTs (X.blk s H scope (compEnvC scope cl C X.env) fp) ifs (tT c H0 noX tt))
    (he : ∀ (s : Shared) (H : Hp) (C : Addr) (cl : List (Str × Addr)) (fp : List Addr), PE (X.blk s H scope (compEnvC scope cl C X.env) fp) elt (tE c H0 noX te)) (hs : ∀ x, foldedSetIterable iter X.env x = pure x := by intro _; rfl) :
    PS X (.Assign [.Name y py] (.ListComp elt [⟨tg, iter, ifs, 0⟩] scope pos) spos) (tS c H0 ε (mAsg (gfName i) (mLc mi g (own.map (·.2)) tt te))) := by
  refine imp_ps (ps_fz (ps_setLc hc hN hy hyl hsw hi ok hg ht he hs)) fun De σ H ⟨ρ, n, P, R, m, h1, _⟩ => ?_
  have h := lc_read (c := c) (H0 := H0) (ε := ε) (mi := mi) (g := g) (ts := ts) (vs := own.map (fun p : Str × Nat => p.2)) (tt := tt) (te := te) hts σ H
    (fun v H' => De.nx (σ.set i (some v)) H') ⟨ρ, n, fun d n1 => P.nx (ρ.set i (.val d)) n1, R, m, fun d n1 v H1 m1 dv k1 b1 => h1 _ _ _ _ m1 ((R.step k1 b1).set dv) k1.kw⟩
  obtain ⟨ρ1, n1, k1, R1, mm, h⟩ := h
  refine ⟨ρ1, n1, k1, R1, mm, fun ds n' J H' a1 a2 a3 a4 => ?_⟩
  intro D hD
  obtain ⟨W, w0, w⟩ := h ds n' J H' a1 a2 a3 a4 D hD
  refine ⟨W, w0, fun i m H hw => ?_⟩
  rcases w i m H hw with ⟨st, q⟩ | q
  · refine .inl ⟨st, ?_⟩
    rcases q with q | ⟨p, u, e, hp, mu, q⟩
    · exact .inl q
    · exact .inr ⟨p, u, hp, mu, q⟩
  · exact .inr q
end
end DS
namespace DS
open PySem PySem.Spec PyProof.Rows L2
/-! ### defs by their runs -/
/-- what an exception that leaves may be: an own class, its fields data -/
def XKD (c : Cc) (H0 : Hp) (ε : XD) : XK := fun cls dd H => ∃ (C d : Addr) (nm : Str) (fs : List (Str × V)) (ds : List (Str × D)) (n : Nat), cls = .ref C ∧ dd = some d ∧ H d = some (.xd fs) ∧ c.S.cn C = some nm ∧ DVf c H fs ds ∧ ε nm ds n ∧ Ks c H0 H ∧ BoxAt c n H
/-- such exceptions are taken -/
def XL (X : Cx) (c : Cc) (H0 : Hp) (ε : XD) : Prop := Takes X fun cls d _ H => XKD c H0 ε cls d H
theorem xl0 {X : Cx} {c : Cc} {H0 : Hp} : XL X c H0 noX := fun _ _ x => by
  obtain ⟨_, _, _, _, _, _, _, _, _, _, _, _, _, _, _, _, _, _, _, _, _, _, _, _, _, _, _, z, _⟩ := x
  exact z.elim
theorem XKD.trans {c : Cc} {H0 H1 : Hp} {ε : XD} {cls : Value} {d : Option Addr} {H' : Hp} (h : XKD c H1 ε cls d H') (k : Ks c H0 H1) : XKD c H0 ε cls d H' := by
  obtain ⟨C, d, nm, fs, ds, n, h1, h2, h3, h4, h5, h6, h7, h8⟩ := h
  exact ⟨C, d, nm, fs, ds, n, h1, h2, h3, h4, h5, h6, k.trans h7, h8⟩
theorem XL.pass {X : Cx} {c : Cc} {H0 : Hp} {ε : XD} (x : XL X c H0 ε) : Passes (L2.CX X.prog X.w) X (XKD c H0 ε) := passes_call x fun _ _ _ _ h => h
def spD (K : PySem.W.Frag) (S : Sg) (con : Con) : Sp := fun vs H Q E => ∃ B n ds ε k, DVs ⟨K, S, B⟩ H vs ds ∧ BoxAt ⟨K, S, B⟩ n H ∧ con ε ds n k ∧ (∀ d n' v H', k d n' → DV ⟨K, S, B⟩ H' v d → Ks ⟨K, S, B⟩ H H' → BoxAt ⟨K, S, B⟩ n' H' → Q v H') ∧ ∀ cls d H', XKD ⟨K, S, B⟩ H ε cls d H' → E cls d H'
def rho (N : Nat) (ds : List D) : Ev := ds.map .val ++ List.replicate (N - ds.length) .no
def conOf (m N : Nat) (ms : MS) : Con := fun _ ds n k => ds.length = m ∧ ms noX (rho N ds) n { nx := fun _ n' => k .non n', rt := k }
/-- .. of a def that may raise -/
def conX (m N : Nat) (ms : MS) : Con := fun ε ds n k => ds.length = m ∧ ms ε (rho N ds) n { nx := fun _ n' => k .non n', rt := k }
theorem rel_start {c : Cc} {H : Hp} {N : List Str} {vs : List V} {ds : List D} {n : Nat} (h : DVs c H vs ds) (b : BoxAt c n H) : Rel c H (rho N.length ds) n (L2.start N vs) H where
  len := by
    unfold L2.start rho
    simp only [List.length_append, List.length_map, List.length_replicate, h.length]
  vals := fun i d e => by
    unfold rho at e
    by_cases hi : i < ds.length
    · rw [List.getElem?_append_left (by simpa using hi), List.getElem?_map] at e
      obtain ⟨d', e1, e2⟩ := Option.map_eq_some_iff.mp e
      cases e2
      obtain ⟨v, h1, h2⟩ := h.getD e1
      refine ⟨v, ?_, h2⟩
      unfold L2.start
      rw [List.getElem?_append_left (by simpa [h.length] using hi), List.getElem?_map, h1]
      rfl
    · rw [List.getElem?_append_right (by simpa using hi), List.getElem?_replicate] at e
      split at e <;> cases e
  owns := fun i p xs e => by
    unfold rho at e
    by_cases hi : i < ds.length
    · rw [List.getElem?_append_left (by simpa using hi), List.getElem?_map] at e
      obtain ⟨d', e1, e2⟩ := Option.map_eq_some_iff.mp e
      cases e2
    · rw [List.getElem?_append_right (by simpa using hi), List.getElem?_replicate] at e
      split at e <;> cases e
  uniq := fun i j p xs ys e => by
    unfold rho at e
    by_cases hi : i < ds.length
    · rw [List.getElem?_append_left (by simpa using hi), List.getElem?_map] at e
      obtain ⟨d', e1, e2⟩ := Option.map_eq_some_iff.mp e
      cases e2
    · rw [List.getElem?_append_right (by simpa using hi), List.getElem?_replicate] at e
      split at e <;> cases e
  box := b
  k0 := Ks.refl _ _
section
variable {P : Program} {w : World} {K : PySem.W.Frag} {mg : Str → Option Value} {base : Heap} {k : Nat} {f : Addr} {S : Sg}
theorem fng_con {x qual : Str} {st : Stmt} {fd : FuncData} {N ps : List Str} {con : Con} {m : Nat} {ms : MS} (F : Fun K x qual st f fd) (Sc : FnScope N ps (defScope st)) (hps : ps.length = m) (hcon : ∀ ε ds n kk, con ε ds n kk → conOf m N.length ms noX ds n kk)
    (hb : ∀ (cdv : Value) (A : Around) (out : List Env) (s : Shared) (H : Hp) (E : XK) (B : Option (Addr × (Addr × List Int))), A.guards = some [] → Room k (A.deeper (envOfC qual (defScope st) s.heap.objs.size f cdv)) → CdOf K f cdv →
      PSs (cxOf (L2.CX P w) P w K mg base N qual (defScope st) f cdv A out s H E).nox (defBody st) (tS ⟨K, S, B⟩ H noX ms)) : FnG P w K mg base (L2.CX P w) (k + 1) f fd ps (spD K S con) := by
  refine fng_of F Sc (fun vs H Q E ⟨B, n, ds, ε, kk, h1, _, h3, _⟩ => ?_) fun cdv A out s H vs Q E hg hr hcd ⟨B, n, ds, ε, kk, h1, h2, h3, h4, _⟩ => ?_
  · rw [h1.length, (hcon _ _ _ _ h3).1, hps]
  · refine ⟨_, (hb cdv A out s H E B hg hr hcd).nox, rho N.length ds, n, _, rel_start h1 h2, (hcon _ _ _ _ h3).2, fun ρ' n' σ' H' a1 a2 _ => ?_, fun d n' v H' a1 a2 a3 a4 => h4 _ _ _ _ a1 a2 a3 a4, fun _ _ _ _ z => z.elim, fun _ _ _ _ z => z.elim⟩
    exact h4 _ _ _ _ a1 .non a2.k0 a2.box
/-- a def that may raise -/
theorem fng_conX {x qual : Str} {st : Stmt} {fd : FuncData} {N ps : List Str} {con : Con} {m : Nat} {ms : MS} (F : Fun K x qual st f fd) (Sc : FnScope N ps (defScope st)) (hps : ps.length = m) (hcon : ∀ ε ds n kk, con ε ds n kk → conX m N.length ms ε ds n kk)
    (hb : ∀ (cdv : Value) (A : Around) (out : List Env) (s : Shared) (H : Hp) (E : XK) (B : Option (Addr × (Addr × List Int))) (ε : XD), A.guards = some [] → Room k (A.deeper (envOfC qual (defScope st) s.heap.objs.size f cdv)) → CdOf K f cdv → XL (cxOf (L2.CX P w) P w K mg base N qual (defScope st) f cdv A out s H E) ⟨K, S, B⟩ H ε →
      PSs (cxOf (L2.CX P w) P w K mg base N qual (defScope st) f cdv A out s H E) (defBody st) (tS ⟨K, S, B⟩ H ε ms)) : FnG P w K mg base (L2.CX P w) (k + 1) f fd ps (spD K S con) := by
  refine fng_of F Sc (fun vs H Q E ⟨B, n, ds, ε, kk, h1, _, h3, _⟩ => ?_) fun cdv A out s H vs Q E hg hr hcd ⟨B, n, ds, ε, kk, h1, h2, h3, h4, h5⟩ => ?_
  · rw [h1.length, (hcon _ _ _ _ h3).1, hps]
  · refine ⟨_, hb cdv A out s H E B ε hg hr hcd ?_, rho N.length ds, n, _, rel_start h1 h2, (hcon _ _ _ _ h3).2, fun ρ' n' σ' H' a1 a2 _ => ?_, fun d n' v H' a1 a2 a3 a4 => h4 _ _ _ _ a1 a2 a3 a4, fun _ _ _ _ z => z.elim, fun _ _ _ _ z => z.elim⟩
    · exact (takes_of (E := E) rfl rfl rfl rfl).imp fun cls d σ' H' h => h5 cls d H' h
    · exact h4 _ _ _ _ a1 .non a2.k0 a2.box
end
section
variable {X : Cx} {S : Sg} {B : Option (Addr × (Addr × List Int))} {H0 : Hp} {ε : XD} {con : Con} {k : Nat} {f : Addr} {fd : FuncData} {ps ks : List Str} {x : Str} {p pos : Pos} {e : Expr} {es : List Expr} {kws : List Keyword} {ma mk : MA}
def mCall (con : Con) (ma : MA) : ME := fun ε ρ n k => ma ε ρ n fun ds n1 => con ε ds n1 k
/-- a def of the text, and how it is called -/
structure Cal (X : Cx) (S : Sg) (x : Str) (con : Con) : Prop where
  ex : ∃ (k : Nat) (f : Addr) (fd : FuncData) (ps : List Str), FnG X.prog X.w X.K X.mg X.base (L2.CX X.prog X.w) k f fd ps (spD X.K S con) ∧ Room k X.A ∧ X.mg x = some (.ref f) ∧ PySem.W.keepIn X.K (.ref f) = true ∧ Binds X.K fd ps []
theorem de_call (C : Cal X S x con) (hgd : X.A.guards = some []) (hx : XL X ⟨X.K, S, B⟩ H0 ε) (ha : PA X (e :: es) (tA ⟨X.K, S, B⟩ H0 ε ma)) (hg : Gl X x := by rfl) (hdb : (x == ("__debug__" : Str)) = false := by decide)
    (he : starEach (e :: es) X.env = (false, eval e X.env) :: starEach es X.env := by rfl) (hpl : (backTo pos (starEach es X.env)).any (·.1) = false := by rfl) : PE X (.Call (.Name x p) (e :: es) [] pos) (tE ⟨X.K, S, B⟩ H0 ε (mCall con ma)) := by
  obtain ⟨k, f, fd, ps, F, hr, hm, hk, hb⟩ := C.ex
  refine imp_pe (pe_callG F hgd hr hm hk hb .nil hx.pass hg ha hdb he hpl) fun σ H Q ⟨ρ, n, kk, R, m, q⟩ => ⟨ρ, n, _, R, m, fun ds n1 vs H1 m1 dvs k1 b1 => ?_⟩
  show spD X.K S con (vs ++ []) H1 Q (XKD ⟨X.K, S, B⟩ H0 ε)
  rw [List.append_nil]
  exact ⟨B, n1, ds, ε, kk, dvs, b1, m1, fun d n' v H' a1 a2 a3 a4 => q _ _ _ _ a1 a2 (k1.trans a3) a4, fun cls d H' h => h.trans (R.k0.trans k1)⟩
theorem de_call0 (C : Cal X S x con) (hgd : X.A.guards = some []) (hx : XL X ⟨X.K, S, B⟩ H0 ε) (hg : Gl X x := by rfl) (hdb : (x == ("__debug__" : Str)) = false := by decide) : PE X (.Call (.Name x p) [] [] pos) (tE ⟨X.K, S, B⟩ H0 ε (mCall con mNil)) := by
  obtain ⟨k, f, fd, ps, F, hr, hm, hk, hb⟩ := C.ex
  exact imp_pe (pe_callG0 F hgd hr hm hk hb .nil hx.pass hg hdb) fun σ H Q ⟨ρ, n, kk, R, m, q⟩ => ⟨B, n, [], ε, kk, .nil, R.box, m, q, fun cls d H' h => h.trans R.k0⟩
/-! keywords: the values by places -/
def pick {α : Type} (ix : List Nat) (l : List α) : List α := ix.filterMap fun i => l[i]?
theorem pick_vals {vs : List V} {us : List Value} (r : Vals vs us) : ∀ ix : List Nat, Vals (pick ix vs) (pick ix us)
  | [] => .nil
  | i :: ix => by
    unfold pick
    rw [List.filterMap_cons, List.filterMap_cons]
    cases e : vs[i]? with
    | none => rw [Vals.none_of r e]; exact pick_vals r ix
    | some v =>
      obtain ⟨u, h1, h2⟩ := r.get e
      rw [h1]
      exact .cons h2 (pick_vals r ix)
theorem pick_dvs {c : Cc} {H : Hp} {vs : List V} {ds : List D} (r : DVs c H vs ds) : ∀ ix : List Nat, DVs c H (pick ix vs) (pick ix ds)
  | [] => .nil
  | i :: ix => by
    unfold pick
    rw [List.filterMap_cons, List.filterMap_cons]
    cases e : vs[i]? with
    | none =>
      have hi : ds[i]? = none := by
        rw [List.getElem?_eq_none_iff] at e ⊢
        rw [← r.length]; exact e
      rw [hi]; exact pick_dvs r ix
    | some v =>
      obtain ⟨d, h1, h2⟩ := r.get e
      rw [h1]
      exact .cons h2 (pick_dvs r ix)
structure KB (K : PySem.W.Frag) (fd : FuncData) (ps : List Str) (n : Nat) (ks : List Str) (ix : List Nat) : Prop where
  to : ∀ (s : Shared) (us ws : List Value), K.In s.heap → us.length = n → ws.length = ks.length → BindsTo s fd ⟨us, ks.zip ws⟩ (ps.zip (pick ix (us ++ ws)))
structure CalK (X : Cx) (S : Sg) (x : Str) (con : Con) (n : Nat) (ks : List Str) (ix : List Nat) : Prop where
  ex : ∃ (k : Nat) (f : Addr) (fd : FuncData) (ps : List Str), FnG X.prog X.w X.K X.mg X.base (L2.CX X.prog X.w) k f fd ps (spD X.K S con) ∧ Room k X.A ∧ X.mg x = some (.ref f) ∧ PySem.W.keepIn X.K (.ref f) = true ∧ KB X.K fd ps n ks ix
def mCallK (con : Con) (n m : Nat) (ix : List Nat) (ma mk : MA) : ME := fun ε ρ n0 k => ma ε ρ n0 fun ds n1 => mk ε ρ n1 fun es n2 => ds.length = n ∧ es.length = m ∧ con ε (pick ix (ds ++ es)) n2 k
theorem de_callK {n : Nat} {ix : List Nat} (C : CalK X S x con n ks ix) (hgd : X.A.guards = some []) (hx : XL X ⟨X.K, S, B⟩ H0 ε) (ha : PA X (e :: es) (tA ⟨X.K, S, B⟩ H0 ε ma)) (hkw : PK X kws (tA ⟨X.K, S, B⟩ H0 ε mk)) (hg : Gl X x := by rfl) (hall : (backToKw pos (keywordEach kws X.env)).all (·.1.isSome) = true := by rfl)
    (hks : (backToKw pos (keywordEach kws X.env)).filterMap (·.1) = ks := by rfl) (hdb : (x == ("__debug__" : Str)) = false := by decide) (he : starEach (e :: es) X.env = (false, eval e X.env) :: starEach es X.env := by rfl)
    (hpl : ((backTo pos (starEach (e :: es) X.env)).any (·.1) || (backToKw pos (keywordEach kws X.env)).any (·.1.isNone)) = false := by rfl) : PE X (.Call (.Name x p) (e :: es) kws pos) (tE ⟨X.K, S, B⟩ H0 ε (mCallK con n ks.length ix ma mk)) := by
  obtain ⟨k, f, fd, ps, F, hr, hm, hk, hb⟩ := C.ex
  constructor
  rintro pins s σ H Q I ⟨ρ, n0, kk, R, m, q⟩
  apply wpAny_Call_Name_kw
  refine ld_glob I hg hm (PySem.W.callWith_KW (h₀ := X.base) I.ok.mod.kin hk hall (thn (ha.run pos pins s σ H (fun vs H1 => tA ⟨X.K, S, B⟩ H0 ε mk σ H1 fun zs H2 => vs.length = n ∧ zs.length = ks.length ∧ spD X.K S con (pick ix (vs ++ zs)) H2 Q (XKD ⟨X.K, S, B⟩ H0 ε)) I ?_) ?_) hpl he) hdb
  · refine ⟨ρ, n0, _, R, m, fun ds n1 vs H1 m1 dvs k1 b1 => ⟨ρ, n1, _, R.step k1 b1, m1, fun es' n2 zs H2 m2 dzs k2 b2 => ?_⟩⟩
    refine ⟨dvs.length.trans m2.1, dzs.length.trans m2.2.1, B, n2, _, ε, kk, pick_dvs ((dvs.kw k2.kw).append dzs) ix, b2, m2.2.2, fun d n' v H' a1 a2 a3 a4 => q _ _ _ _ a1 a2 ((k1.trans k2).trans a3) a4, fun cls d H' h => h.trans (R.k0.trans (k1.trans k2))⟩
  · rintro us s1 ⟨vs, H1, I1, r, q1⟩
    refine thn (hkw.run pos pins s1 σ H1 _ I1 q1) ?_
    rintro ws s2 ⟨zs, H2, I2, rz, l1, l2, q2⟩
    refine ⟨I2.kIn, ?_⟩
    rw [hks]
    exact run_g F hgd hr hx.pass I2 (fun _ => hb.to s2 us ws I2.kIn (r.length.symm.trans l1) (rz.length.symm.trans l2)) (pick_vals (r.append rz) ix) q2
theorem de_callK0 {ix : List Nat} (C : CalK X S x con 0 ks ix) (hgd : X.A.guards = some []) (hx : XL X ⟨X.K, S, B⟩ H0 ε) (hkw : PK X kws (tA ⟨X.K, S, B⟩ H0 ε mk)) (hg : Gl X x := by rfl) (hall : (backToKw pos (keywordEach kws X.env)).all (·.1.isSome) = true := by rfl)
    (hks : (backToKw pos (keywordEach kws X.env)).filterMap (·.1) = ks := by rfl) (hdb : (x == ("__debug__" : Str)) = false := by decide)
    (hpl : ((backTo pos (starEach [] X.env)).any (·.1) || (backToKw pos (keywordEach kws X.env)).any (·.1.isNone)) = false := by rfl) : PE X (.Call (.Name x p) [] kws pos) (tE ⟨X.K, S, B⟩ H0 ε (mCallK con 0 ks.length ix mNil mk)) := by
  obtain ⟨k, f, fd, ps, F, hr, hm, hk, hb⟩ := C.ex
  constructor
  rintro pins s σ H Q I ⟨ρ, n0, kk, R, m, q⟩
  apply wpAny_Call_Name_kw
  refine ld_glob I hg hm (PySem.W.callWith_KW0 (h₀ := X.base) I.ok.mod.kin hk hall ?_ hpl) hdb
  refine thn (hkw.run pos pins s σ H (fun zs H2 => zs.length = ks.length ∧ spD X.K S con (pick ix zs) H2 Q (XKD ⟨X.K, S, B⟩ H0 ε)) I ?_) ?_
  · refine ⟨ρ, n0, _, R, m, fun es' n2 zs H2 m2 dzs k2 b2 => ?_⟩
    refine ⟨dzs.length.trans m2.2.1, B, n2, _, ε, kk, pick_dvs dzs ix, b2, m2.2.2, fun d n' v H' a1 a2 a3 a4 => q _ _ _ _ a1 a2 (k2.trans a3) a4, fun cls d H' h => h.trans (R.k0.trans k2)⟩
  · rintro ws s2 ⟨zs, H2, I2, rz, l2, q2⟩
    refine ⟨I2.kIn, ?_⟩
    rw [hks]
    exact run_g (us := []) F hgd hr hx.pass I2 (fun _ => hb.to s2 [] ws I2.kIn rfl (rz.length.symm.trans l2)) (pick_vals rz ix) q2
end
/-! ### the box -/
/-- a draw below many: any number -/
def conDraw : Con := fun _ ds n k => match ds with
  | [.box, .int many] => (0 < many ∧ many < 1073741824) ∧ n < 1000000 ∧ ∀ (r : Int) (n2 : Nat), 0 ≤ r → r < many → n ≤ n2 → n2 ≤ n + 1 → k (.int r) n2
  | _ => False
end DS
namespace DS
open PySem PySem.Spec PyProof.Rows L2
/-! ### the box within its own def; the law's own start -/
section
variable {X : Cx} {S : Sg} {b : Addr} {cl : Addr} {cells : List Int} {H0 : Hp} {ε : XD} {x : Str} {p q pos spos : Pos} {j : Nat}
def mBox0 (cells : List Int) (i : Nat) : ME := fun _ ρ n k => match ρ[i]? with
  | some (.val .box) => k (.lst (cells.map D.int)) n
  | _ => False
def mBox1 (i : Nat) : ME := fun _ ρ n k => match ρ[i]? with
  | some (.val .box) => ∀ lap : Int, 0 ≤ lap → lap ≤ n → k (.int lap) n
  | _ => False
def mBox2 (i : Nat) : ME := fun _ ρ n k => match ρ[i]? with
  | some (.val .box) => ∀ r : Int, 0 ≤ r → k (.int r) n
  | _ => False
theorem box_slot {c : Cc} {ρ : Ev} {n : Nat} {σ : St} {H : Hp} {i : Nat} (R : Rel c H0 ρ n σ H) (e : ρ[i]? = some (.val .box)) : ∃ b cl lap rest, c.B = some (b, cl) ∧ σ[i]? = some (some (.ref b)) ∧ H b = some (.lst [.ref cl.1, .int lap, .int rest]) ∧ FzL c.K H cl.1 (cl.2.map V.int) ∧ 0 ≤ lap ∧ lap ≤ n ∧ 0 ≤ rest := by
  obtain ⟨v, h1, h2⟩ := R.vals i _ e
  cases h2 with
  | box hb =>
    obtain ⟨lap, rest, h3⟩ := R.box.bx _ _ hb
    exact ⟨_, _, lap, rest, hb, h1, h3⟩
theorem de_box0 (i : Nat) (hN : X.N[i]? = some x := by rfl) (hv : Vis X.env.scope x := by first | exact Or.inl rfl | exact Or.inr (Or.inl rfl) | exact Or.inr (Or.inr rfl)) (hd : (x == ("__debug__" : Str)) = false := by decide) (hcd : (x == ("__classdict__" : Str)) = false := by decide) (hs : PlainIx (.Constant (.int 0) j q) := by intro _ _; rfl) :
    PE X (.Subscript (.Name x p) (.Constant (.int 0) j q) pos) (tE ⟨X.K, S, some (b, (cl, cells))⟩ H0 ε (mBox0 cells i)) :=
  imp_pe (pe_ix ix_list (pe_var hN hv hd hcd) pe_int hs) fun σ H Q ⟨ρ, n, k, R, m, q⟩ => by
    unfold mBox0 at m
    split at m
    · obtain ⟨b', cl', lap, rest, e1, e2, e3, e4, e5⟩ := box_slot R (by assumption)
      cases e1
      exact ⟨_, e2, _, _, _, _, rfl, rfl, SqL.of e3, rfl, q _ _ _ _ m (.lst e4 (dvs_ints _)) (Ks.refl _ _) R.box⟩
    · exact m.elim
theorem de_box1 (i : Nat) (hN : X.N[i]? = some x := by rfl) (hv : Vis X.env.scope x := by first | exact Or.inl rfl | exact Or.inr (Or.inl rfl) | exact Or.inr (Or.inr rfl)) (hd : (x == ("__debug__" : Str)) = false := by decide) (hcd : (x == ("__classdict__" : Str)) = false := by decide) (hs : PlainIx (.Constant (.int 1) j q) := by intro _ _; rfl) :
    PE X (.Subscript (.Name x p) (.Constant (.int 1) j q) pos) (tE ⟨X.K, S, some (b, (cl, cells))⟩ H0 ε (mBox1 i)) :=
  imp_pe (pe_ix ix_list (pe_var hN hv hd hcd) pe_int hs) fun σ H Q ⟨ρ, n, k, R, m, q⟩ => by
    unfold mBox1 at m
    split at m
    · obtain ⟨b', cl', lap, rest, e1, e2, e3, e4, e5, e6, e7⟩ := box_slot R (by assumption)
      cases e1
      exact ⟨_, e2, _, _, _, _, rfl, rfl, SqL.of e3, rfl, q _ _ _ _ (m lap e5 e6) (.int _) (Ks.refl _ _) R.box⟩
    · exact m.elim
theorem de_box2 (i : Nat) (hN : X.N[i]? = some x := by rfl) (hv : Vis X.env.scope x := by first | exact Or.inl rfl | exact Or.inr (Or.inl rfl) | exact Or.inr (Or.inr rfl)) (hd : (x == ("__debug__" : Str)) = false := by decide) (hcd : (x == ("__classdict__" : Str)) = false := by decide) (hs : PlainIx (.Constant (.int 2) j q) := by intro _ _; rfl) :
    PE X (.Subscript (.Name x p) (.Constant (.int 2) j q) pos) (tE ⟨X.K, S, some (b, (cl, cells))⟩ H0 ε (mBox2 i)) :=
  imp_pe (pe_ix ix_list (pe_var hN hv hd hcd) pe_int hs) fun σ H Q ⟨ρ, n, k, R, m, q⟩ => by
    unfold mBox2 at m
    split at m
    · obtain ⟨b', cl', lap, rest, e1, e2, e3, e4, e5, e6, e7⟩ := box_slot R (by assumption)
      cases e1
      exact ⟨_, e2, _, _, _, _, rfl, rfl, SqL.of e3, rfl, q _ _ _ _ (m rest e7) (.int _) (Ks.refl _ _) R.box⟩
    · exact m.elim
/-- the box's places 1 and 2 are stored -/
def mPut1 (i : Nat) (ma : ME) : MS := fun ε ρ n P => ma ε ρ n fun d n1 => match d, ρ[i]? with
  | .int v, some (.val .box) => (0 ≤ v ∧ v ≤ (n1 : Int) + 1) ∧ P.nx ρ (n1 + 1)
  | _, _ => False
def mPut2 (i : Nat) (ma : ME) : MS := fun ε ρ n P => ma ε ρ n fun d n1 => match d, ρ[i]? with
  | .int v, some (.val .box) => 0 ≤ v ∧ P.nx ρ n1
  | _, _ => False
theorem rel_put {c : Cc} {ρ : Ev} {n m : Nat} {σ : St} {H : Hp} {b : Addr} {cl : Addr × List Int} {xs : List V} {lap rest : Int} (R : Rel c H0 ρ n σ H) (hb : c.B = some (b, cl)) (e3 : H b = some (.lst xs)) (e5 : 0 ≤ lap) (e6 : lap ≤ m) (e7 : 0 ≤ rest) :
    Rel c H0 ρ m σ (upd H b (.lst [.ref cl.1, .int lap, .int rest])) ∧ Ks c H (upd H b (.lst [.ref cl.1, .int lap, .int rest])) := by
  have kw : Kw c H (upd H b (.lst [.ref cl.1, .int lap, .int rest])) := kw_upd e3 (fun z => z)
  have ks : Ks c H (upd H b (.lst [.ref cl.1, .int lap, .int rest])) := fun a u ea s => by
    by_cases z : a = b
    · subst z
      rcases s with s | s
      · rw [e3] at ea; cases ea; exact s.elim
      · exact absurd hb (s.1 cl)
    · rw [upd_ne z]; exact ea
  have bx : BoxAt c m (upd H b (.lst [.ref cl.1, .int lap, .int rest])) := ⟨fun b' cl' e => by
    rw [hb] at e
    cases e
    obtain ⟨_, _, _, f, _⟩ := R.box.bx _ _ hb
    exact ⟨lap, rest, upd_same, f.kw kw, e5, e6, e7⟩, tabs_kw kw (fun P q hq ps e => by
    have nb : P ≠ b := fun z => by rw [z, e3] at e; cases e
    rw [upd_ne nb]; exact e) R.box.tb⟩
  exact ⟨R.step ks bx, ks⟩
theorem ds_box1 {e : Expr} {ma : ME} (i : Nat) (he : PE X e (tE ⟨X.K, S, some (b, (cl, cells))⟩ H0 ε ma)) (hN : X.N[i]? = some x := by rfl) (hv : Vis X.env.scope x := by first | exact Or.inl rfl | exact Or.inr (Or.inl rfl) | exact Or.inr (Or.inr rfl)) (hd : (x == ("__debug__" : Str)) = false := by decide) (hcd : (x == ("__classdict__" : Str)) = false := by decide)
    (hs : swapsWithSole [.Subscript (.Name x p) (.Constant (.int 1) j q) pos] e spos.line X.env = pure false := by rfl) (hw : swappedStores [.Subscript (.Name x p) (.Constant (.int 1) j q) pos] e X.env = pure none := by rfl)
    (h1 : (assignEach [.Subscript (.Name x p) (.Constant (.int 1) j q) pos] X.env).map (·.2) = [assign (.Subscript (.Name x p) (.Constant (.int 1) j q) pos) X.env] := by rfl)
    (ha : ∀ v, assign (.Subscript (.Name x p) (.Constant (.int 1) j q) pos) X.env v = (do
      let ov ← holding [v] (eval (.Name x p) X.env)
      let iv ← holding [v, ov] (eval (.Constant (.int 1) j q) X.env)
      standAt pos
      holding [v, ov, iv] (setItem ov iv v)
      release [v, ov, iv] []) := by intro _; rfl) :
    PS X (.Assign [.Subscript (.Name x p) (.Constant (.int 1) j q) pos] e spos) (tS ⟨X.K, S, some (b, (cl, cells))⟩ H0 ε (mPut1 i ma)) :=
  imp_ps (ps_asg he (pg_sub (pe_var hN hv hd hcd) pe_int set_list ha) hs hw h1) fun De σ H ⟨ρ, n, P, R, m, h1, _⟩ => ⟨ρ, n, _, R, m, fun d n1 v H1 m1 dv k1 b1 => by
    split at m1
    · have R1 := R.step k1 b1
      obtain ⟨b', cl', lap, rest, e1, e2, e3, e4, e5, e6, e7⟩ := box_slot R1 (by assumption)
      cases opd_int dv
      obtain ⟨hv, m2⟩ := m1
      obtain ⟨R2, ks⟩ := rel_put (m := n1 + 1) R1 e1 e3 hv.1 (by have := hv.2; omega) e7
      exact ⟨_, e2, b', _, 1, 1, rfl, rfl, e3, rfl, h1 _ _ _ _ m2 R2 (k1.trans ks).kw⟩
    · exact m1.elim⟩
theorem ds_box2 {e : Expr} {ma : ME} (i : Nat) (he : PE X e (tE ⟨X.K, S, some (b, (cl, cells))⟩ H0 ε ma)) (hN : X.N[i]? = some x := by rfl) (hv : Vis X.env.scope x := by first | exact Or.inl rfl | exact Or.inr (Or.inl rfl) | exact Or.inr (Or.inr rfl)) (hd : (x == ("__debug__" : Str)) = false := by decide) (hcd : (x == ("__classdict__" : Str)) = false := by decide)
    (hs : swapsWithSole [.Subscript (.Name x p) (.Constant (.int 2) j q) pos] e spos.line X.env = pure false := by rfl) (hw : swappedStores [.Subscript (.Name x p) (.Constant (.int 2) j q) pos] e X.env = pure none := by rfl)
    (h1 : (assignEach [.Subscript (.Name x p) (.Constant (.int 2) j q) pos] X.env).map (·.2) = [assign (.Subscript (.Name x p) (.Constant (.int 2) j q) pos) X.env] := by rfl)
    (ha : ∀ v, assign (.Subscript (.Name x p) (.Constant (.int 2) j q) pos) X.env v = (do
      let ov ← holding [v] (eval (.Name x p) X.env)
      let iv ← holding [v, ov] (eval (.Constant (.int 2) j q) X.env)
      standAt pos
      holding [v, ov, iv] (setItem ov iv v)
      release [v, ov, iv] []) := by intro _; rfl) :
    PS X (.Assign [.Subscript (.Name x p) (.Constant (.int 2) j q) pos] e spos) (tS ⟨X.K, S, some (b, (cl, cells))⟩ H0 ε (mPut2 i ma)) :=
  imp_ps (ps_asg he (pg_sub (pe_var hN hv hd hcd) pe_int set_list ha) hs hw h1) fun De σ H ⟨ρ, n, P, R, m, h1, _⟩ => ⟨ρ, n, _, R, m, fun d n1 v H1 m1 dv k1 b1 => by
    split at m1
    · have R1 := R.step k1 b1
      obtain ⟨b', cl', lap, rest, e1, e2, e3, e4, e5, e6, e7⟩ := box_slot R1 (by assumption)
      cases opd_int dv
      obtain ⟨hv, m2⟩ := m1
      obtain ⟨R2, ks⟩ := rel_put (m := n1) R1 e1 e3 e5 e6 hv
      exact ⟨_, e2, b', _, 2, 2, rfl, rfl, e3, rfl, h1 _ _ _ _ m2 R2 (k1.trans ks).kw⟩
    · exact m1.elim⟩
end
/-- the def that draws -/
theorem fng_draw {P : Program} {w : World} {K : PySem.W.Frag} {mg : Str → Option Value} {base : Heap} {k : Nat} {f : Addr} {S : Sg} {x qual : Str} {st : Stmt} {fd : FuncData} {N ps : List Str} {ms : List Int → MS} (F : Fun K x qual st f fd) (Sc : FnScope N ps (defScope st)) (hps : ps.length = 2)
    (hcon : ∀ cells ds n kk, conDraw noX ds n kk → conOf 2 N.length (ms cells) noX ds n kk)
    (hb : ∀ (cdv : Value) (A : Around) (out : List Env) (s : Shared) (H : Hp) (E : XK) (b cl : Addr) (cells : List Int), A.guards = some [] → Room k (A.deeper (envOfC qual (defScope st) s.heap.objs.size f cdv)) → CdOf K f cdv →
      PSs (cxOf (L2.CX P w) P w K mg base N qual (defScope st) f cdv A out s H E).nox (defBody st) (tS ⟨K, S, some (b, (cl, cells))⟩ H noX (ms cells))) : FnG P w K mg base (L2.CX P w) (k + 1) f fd ps (spD K S conDraw) := by
  refine fng_of F Sc (fun vs H Q E ⟨B, n, ds, ε, kk, h1, _, h3, _⟩ => ?_) fun cdv A out s H vs Q E hg hr hcd ⟨B, n, ds, ε, kk, h1, h2, h3, h4, _⟩ => ?_
  · rw [h1.length, (hcon [] _ _ _ h3).1, hps]
  · have hB : ∃ b cl cells, B = some (b, (cl, cells)) := by
      unfold conDraw at h3
      split at h3
      · cases h1 with
        | cons a _ => cases a with | box hb => exact ⟨_, _, _, hb⟩
      · exact h3.elim
    obtain ⟨b, cl, cells, rfl⟩ := hB
    refine ⟨_, (hb cdv A out s H E b cl cells hg hr hcd).nox, rho N.length ds, n, _, rel_start h1 h2, (hcon cells _ _ _ h3).2, fun ρ' n' σ' H' a1 a2 _ => ?_, fun d n' v H' a1 a2 a3 a4 => h4 _ _ _ _ a1 a2 a3 a4, fun _ _ _ _ z => z.elim, fun _ _ _ _ z => z.elim⟩
    exact h4 _ _ _ _ a1 .non a2.k0 a2.box
/-! the def that makes the box: return [[int(c) for c in script[:60]], 0, 0] -/
def spQuay (K : PySem.W.Frag) (S : Sg) : Sp := fun vs H Q _ => ∃ (a : Addr) (ns : List Int), vs = [.ref a] ∧ FzL K H a (ns.map V.int) ∧ LamX.Tabs S.tb H ∧ ∀ b cl (cells : List Int) H', H b = none → H' b = some (.lst [.ref cl, .int 0, .int 0]) → FzL K H' cl (cells.map V.int) → LamX.Tabs S.tb H' → Q (.ref b) H'
theorem dvs_int_inv {c : Cc} {H : Hp} : ∀ {vs : List V} {ns : List Int}, DVs c H vs (ns.map D.int) → vs = ns.map V.int
  | _, [], h => by cases h; rfl
  | _, i :: r, h => by
    cases h with
    | cons a b => cases opd_int a; rw [dvs_int_inv b]; rfl
theorem dvs_of_ints {c : Cc} {H : Hp} (ns : List Int) : DVs c H (ns.map V.int) (ns.map D.int) := dvs_ints ns
theorem fng_quay {S : Sg} {P : Program} {w : World} {K : PySem.W.Frag} {mg : Str → Option Value} {base : Heap} {k : Nat} {f : Addr} {x qual : Str} {st : Stmt} {fd : FuncData} {N : List Str} {xs : Str} {e : Expr} {pos lp p0 p1 : Pos} {j0 j1 : Nat} {me : ME} (F : Fun K x qual st f fd) (Sc : FnScope N [xs] (defScope st))
    (hbody : defBody st = [.Return (some (.List [e, .Constant (.int 0) j0 p0, .Constant (.int 0) j1 p1] lp)) pos])
    (hm : ∀ (ns : List Int) kk, (∀ cells : List Int, kk (.lst (cells.map D.int)) 0) → me noX (rho N.length [.lst (ns.map D.int)]) 0 kk)
    (hb : ∀ (cdv : Value) (A : Around) (out : List Env) (s : Shared) (H : Hp) (E : XK), A.guards = some [] → Room k (A.deeper (envOfC qual (defScope st) s.heap.objs.size f cdv)) → CdOf K f cdv →
      PE (cxOf (L2.CX P w) P w K mg base N qual (defScope st) f cdv A out s H E).nox e (tE ⟨K, S, none⟩ H noX me))
    (hst : ∀ env : Env, starEach [e, .Constant (.int 0) j0 p0, .Constant (.int 0) j1 p1] env = (false, eval e env) :: starEach [.Constant (.int 0) j0 p0, .Constant (.int 0) j1 p1] env := by intro _; rfl) :
    FnG P w K mg base (L2.CX P w) (k + 1) f fd [xs] (spQuay K S) := by
  refine fng_of F Sc (fun vs H Q E ⟨a, ns, h, _⟩ => by rw [h]; rfl) fun cdv A out s H vs Q E hg hr hcd ⟨a, ns, h1, h2, ht, h3⟩ => ?_
  subst h1
  have hE := hb cdv A out s H E hg hr hcd
  have s0 := pss_one (ps_ret (pos := pos) (pe_lst (pos := lp) (pa_cons hE (pa_cons (pe_int (i := 0) (j := j0) (pos := p0)) (pa_cons (pe_int (i := 0) (j := j1) (pos := p1)) pa_nil)) (hst _))))
  rw [← hbody] at s0
  refine ⟨_, PSs.nox s0, ?_⟩
  · have R : Rel ⟨K, S, none⟩ H (rho N.length [.lst (ns.map D.int)]) 0 (L2.start N [.ref a]) H := rel_start (.one (.lst h2 (dvs_ints ns))) ⟨(fun _ _ z => by cases z), ht⟩
    refine ⟨_, 0, _, R, hm ns (fun d n' => ∃ cells : List Int, d = .lst (cells.map D.int)) (fun cells => ⟨cells, rfl⟩), fun d n' v H' ⟨cells, e⟩ dv ks bx => ?_⟩
    subst e
    refine ⟨by show 3 ≤ sizeLine; decide, fun b hbn => ?_⟩
    obtain ⟨cl, ws, rfl, f, hs⟩ := opd_lst dv
    obtain rfl := dvs_int_inv hs
    have sm2 : Same H' (upd H' b (.lst [.ref cl, .int 0, .int 0])) := same_new hbn
    have hb0 : H b = none := by
      cases z : H b with
      | none => rfl
      | some u =>
        have nt : OffB ⟨K, S, none⟩ b := bx.off hbn
        rw [ks b u z (.inr nt)] at hbn; cases hbn
    exact h3 b cl cells _ hb0 upd_same (f.kw (c := ⟨K, S, none⟩) (Same.ks sm2).kw) (bx.same sm2).tb
/-! the law: box = quay(script), then the rest -/
def spLaw (K : PySem.W.Frag) (S : Sg) : Sp := fun vs H Q _ => ∃ (a : Addr) (ns : List Int), vs = [.ref a] ∧ FzL K H a (ns.map V.int) ∧ LamX.Tabs S.tb H ∧ ∀ H', Q (.bl true) H'
theorem passF {X : Cx} : Passes (L2.CX X.prog X.w) X E0 := passes_call (W := fun _ _ _ _ => False) LamX.takes0 fun _ _ _ _ h => h
theorem fng_law {P : Program} {w : World} {K : PySem.W.Frag} {mg : Str → Option Value} {base : Heap} {k kq : Nat} {f fq : Addr} {S : Sg} {x qual y bx xs : Str} {st : Stmt} {fd fdq : FuncData} {N psq : List Str} {pb py ps pc spos : Pos} {rest : List Stmt} {i : Nat} {ms : MS}
    (F : Fun K x qual st f fd) (Sc : FnScope N [xs] (defScope st)) (FQ : FnG P w K mg base (L2.CX P w) kq fq fdq psq (spQuay K S)) (hkq : kq ≤ k) (hmq : mg y = some (.ref fq)) (hkeep : PySem.W.keepIn K (.ref fq) = true) (hbq : Binds K fdq psq [])
    (hbody : defBody st = .Assign [.Name bx pb] (.Call (.Name y py) [.Name xs ps] [] pc) spos :: rest) (h0 : N[0]? = some xs) (hi : N[i]? = some bx) (hN : 0 < N.length) (hi0 : i ≠ 0)
    (hvx : Vis (defScope st) xs) (hlb : Loc (defScope st) bx) (hgy : (defScope st).names.lookup y = some .globalImplicit)
    (hd1 : (xs == ("__debug__" : Str)) = false) (hd2 : (xs == ("__classdict__" : Str)) = false) (hd3 : (y == ("__debug__" : Str)) = false)
    (hsw : ∀ env : Env, swapsWith (.Call (.Name y py) [.Name xs ps] [] pc) (some (.Name bx pb)) spos.line env = pure false) (hst : ∀ env : Env, starEach [.Name xs ps] env = (false, eval (.Name xs ps) env) :: starEach [] env) (hst0 : ∀ env : Env, (backTo pc (starEach [] env)).any (·.1) = false)
    (hms : ms noX ((List.replicate N.length Sl.no).set i (.val .box)) 0 { nx := fun _ _ => False, rt := fun d _ => d = .bl true })
    (hb : ∀ (cdv : Value) (A : Around) (out : List Env) (s : Shared) (H H1 : Hp) (E : XK) (b cl : Addr) (cells : List Int), A.guards = some [] → Room k (A.deeper (envOfC qual (defScope st) s.heap.objs.size f cdv)) → CdOf K f cdv →
      PSs (cxOf (L2.CX P w) P w K mg base N qual (defScope st) f cdv A out s H E).nox rest (tS ⟨K, S, some (b, (cl, cells))⟩ H1 noX ms)) : FnG P w K mg base (L2.CX P w) (k + 1) f fd [xs] (spLaw K S) := by
  refine fng_of F Sc (fun vs H Q E ⟨a, ns, h, _⟩ => by rw [h]; rfl) fun cdv A out s H vs Q E hg hr hcd ⟨a, ns, h1, h2, ht, h3⟩ => ?_
  subst h1
  let Y := (cxOf (L2.CX P w) P w K mg base N qual (defScope st) f cdv A out s H E).nox
  have hrest : PSs Y rest (fun De σ H' => ∃ b cl cells, tS ⟨K, S, some (b, (cl, cells))⟩ H' noX ms De σ H') := ⟨fun pins s' σ H' De I ⟨b, cl, cells, w'⟩ => (hb cdv A out s H H' E b cl cells hg hr hcd).run pins s' σ H' De I w'⟩
  have e1 : PE Y (.Call (.Name y py) [.Name xs ps] [] pc) (tCall (spQuay K S) [] E0 (tCons (tVar 0) tNil)) :=
    pe_callG (X := Y) FQ hg (hr.mono hkq) hmq hkeep hbq .nil passF hgy (pa_cons (pe_var h0 hvx hd1 hd2) pa_nil (hst _)) hd3 (hst _) (hst0 _)
  have s1 : PS Y (.Assign [.Name bx pb] (.Call (.Name y py) [.Name xs ps] [] pc) spos) (tAsg (tCall (spQuay K S) [] E0 (tCons (tVar 0) tNil)) (gName i)) := ps_set Sc.nd hi hlb e1 (hsw _) (.inl rfl)
  have s0 := pss_cons s1 hrest
  rw [← hbody] at s0
  refine ⟨_, PSs.nox (X := cxOf (L2.CX P w) P w K mg base N qual (defScope st) f cdv A out s H E) s0, ?_⟩
  · have z0 : (L2.start N [V.ref a])[0]? = some (some (.ref a)) := rfl
    refine ⟨_, z0, a, ns, rfl, h2, ht, fun b cl cells H' hbn hb1 hcl sm => ?_⟩
    refine ⟨b, cl, cells, _, 0, _, ?_, hms, fun _ _ _ _ z => z.elim, fun d n' v H2 e dv _ _ => ?_, fun _ _ _ _ z => z.elim, fun _ _ _ _ z => z.elim⟩
    · have hl : (L2.start N [V.ref a]).length = N.length := by
        unfold L2.start
        simp only [List.length_append, List.length_map, List.length_replicate, List.length_cons, List.length_nil]
        omega
      have lt : i < N.length := (List.getElem?_eq_some_iff.mp hi).1
      refine ⟨by simp [hl], fun j d e => ?_, fun j p xs e => ?_, fun j j' p xs ys e => ?_, ⟨fun b' cl' e => ?_, sm⟩, Ks.refl _ _⟩
      · by_cases z : i = j
        · subst z
          rw [List.getElem?_set_self (by simpa using lt)] at e
          cases e
          exact ⟨.ref b, List.getElem?_set_self (by rw [hl]; exact lt), .box rfl⟩
        · rw [List.getElem?_set_ne z, List.getElem?_replicate] at e
          split at e <;> cases e
      · by_cases z : i = j
        · subst z
          rw [List.getElem?_set_self (by simpa using lt)] at e
          cases e
        · rw [List.getElem?_set_ne z, List.getElem?_replicate] at e
          split at e <;> cases e
      · by_cases z : i = j
        · subst z
          rw [List.getElem?_set_self (by simpa using lt)] at e
          cases e
        · rw [List.getElem?_set_ne z, List.getElem?_replicate] at e
          split at e <;> cases e
      · cases e
        exact ⟨0, 0, hb1, hcl, Int.le_refl _, Int.le_refl _, Int.le_refl _⟩
    · subst e
      cases opd_bl dv
      exact h3 H2
end DS
namespace DS
open PySem PySem.Spec PyProof.Rows L2
/-! ### a def of the text with its promise; how it binds -/
structure Co (P : Program) (w : World) (K : PySem.W.Frag) (mg : Str → Option Value) (base : Heap) (S : Sg) (x : Str) (st : Stmt) (ps : List Str) (con : Con) (k : Nat) : Prop where
  ex : ∃ f fd, Fun K x x st f fd ∧ FnG P w K mg base (L2.CX P w) k f fd ps (spD K S con) ∧ mg x = some (.ref f)
def BindA (x : Str) (st : Stmt) (ps : List Str) : Prop := ∀ (kV doc pm : Value) (an : Option Addr) (cdv ct : Value) (us : List Value), us.length = ps.length →
  bindArgs (PySem.W.fnOf x x (defArgs st) (defBody st) (defScope st) .none kV doc pm an cdv ct) ⟨us, []⟩ = pure (ps.zip us)
def BindK (x : Str) (st : Stmt) (ps : List Str) (n : Nat) (ks : List Str) (ix : List Nat) : Prop := ∀ (kV doc pm : Value) (an : Option Addr) (cdv ct : Value) (us ws : List Value), us.length = n → ws.length = ks.length →
  bindArgs (PySem.W.fnOf x x (defArgs st) (defBody st) (defScope st) .none kV doc pm an cdv ct) ⟨us, ks.zip ws⟩ = pure (ps.zip (pick ix (us ++ ws)))
theorem cal_of {X : Cx} {S : Sg} {x : Str} {st : Stmt} {ps : List Str} {con : Con} {k : Nat} (C : Co X.prog X.w X.K X.mg X.base S x st ps con k) (hr : Room k X.A) (hb : BindA x st ps) : Cal X S x con := by
  obtain ⟨f, fd, F, G, hm⟩ := C.ex
  exact ⟨k, f, fd, ps, G, hr, hm, F.kp, F.binds hb⟩
theorem calK_of {X : Cx} {S : Sg} {x : Str} {st : Stmt} {ps ks : List Str} {con : Con} {k n : Nat} {ix : List Nat} (C : Co X.prog X.w X.K X.mg X.base S x st ps con k) (hr : Room k X.A) (hb : BindK x st ps n ks ix) : CalK X S x con n ks ix := by
  obtain ⟨f, fd, F, G, hm⟩ := C.ex
  refine ⟨k, f, fd, ps, G, hr, hm, F.kp, ⟨fun s us ws _ h1 h2 => ?_⟩⟩
  obtain ⟨oc, od, kV, doc, pm, an, cdv, ct, osl, rfl, lk, hcd⟩ := F.ex
  exact .of_eq (hb kV doc pm an cdv ct us ws h1 h2)
theorem co_mk {P : Program} {w : World} {K : PySem.W.Frag} {mg : Str → Option Value} {base : Heap} {S : Sg} {x : Str} {st : Stmt} {ps N : List Str} {con : Con} {k : Nat} {f : Addr} {fd : FuncData} (F : Fun K x x st f fd) (hm : mg x = some (.ref f))
    (h : Fun K x x st f fd → FnG P w K mg base (L2.CX P w) k f fd ps (spD K S con)) : Co P w K mg base S x st ps con k := ⟨f, fd, F, h F, hm⟩
/-! ### displays of dicts -/
section
variable {X : Cx} {c : Cc} {H0 : Hp} {ε : XD}
variable {a b e : Expr} {pos : Pos} {ma mb mc : ME}
inductive DVp (c : Cc) (H : Hp) : List (V × V) → List (D × D) → Prop
  | nil : DVp c H [] []
  | cons {v w : V} {vs : List (V × V)} {d f : D} {ds : List (D × D)} : DV c H v d → DV c H w f → DVp c H vs ds → DVp c H ((v, w) :: vs) ((d, f) :: ds)
abbrev MP := List (ME × ME)
def mPnil : MP := []
def mPcons (ma mb : ME) (mp : MP) : MP := (ma, mb) :: mp
def mPairs : MP → XD → Ev → Nat → (List (D × D) → Nat → Prop) → Prop
  | [], _, _, n, k => k [] n
  | (ma, mb) :: r, ε, ρ, n, k => ma ε ρ n fun d n1 => mb ε ρ n1 fun f n2 => mPairs r ε ρ n2 fun ds n3 => k ((d, f) :: ds) n3
def tPr (c : Cc) (H0 : Hp) (ε : XD) (mp : MP) : List (TE × TE) := mp.map fun p => (tE c H0 ε p.1, tE c H0 ε p.2)
theorem dp_nil : PPs X pos [] [] (tPr c H0 ε mPnil) := pps_nil
theorem dp_cons {ks : List (Option Expr)} {vs : List Expr} {mp : MP} (ha : PE X a (tE c H0 ε ma)) (hb : PE X b (tE c H0 ε mb)) (h : PPs X pos ks vs (tPr c H0 ε mp)) : PPs X pos (some a :: ks) (b :: vs) (tPr c H0 ε (mPcons ma mb mp)) := pps_cons ha hb h
theorem tpairs_of : ∀ (mp : MP) (σ : St) (H : Hp) (Q : List (V × V) → Hp → Prop) (ρ : Ev) (n : Nat) (k : List (D × D) → Nat → Prop), Rel c H0 ρ n σ H → mPairs mp ε ρ n k → (∀ ds n' vs H', k ds n' → DVp c H' vs ds → Ks c H H' → BoxAt c n' H' → Q vs H') → tPairs (tPr c H0 ε mp) σ H Q
  | [], σ, H, Q, ρ, n, k, R, m, q => q _ _ _ _ m .nil (Ks.refl _ _) R.box
  | (ma, mb) :: r, σ, H, Q, ρ, n, k, R, m, q => by
    refine ⟨ρ, n, _, R, m, fun d n1 v H1 m1 dv k1 b1 => ⟨ρ, n1, _, R.step k1 b1, m1, fun f n2 u H2 m2 du k2 b2 => ?_⟩⟩
    refine tpairs_of r σ H2 _ ρ n2 _ (R.step (k1.trans k2) b2) m2 fun ds n3 vs H3 m3 dvs k3 b3 => ?_
    exact q _ _ _ _ m3 (.cons (dv.kw (k2.trans k3).kw) (du.kw k3.kw) dvs) ((k1.trans k2).trans k3) b3
def keyD : D → Option Key
  | .int i => some (.inl i)
  | .str x => some (.inr x)
  | _ => none
def keysD : List (D × D) → Option (List (Key × D))
  | [] => some []
  | (a, b) :: r => match keyD a, keysD r with
    | some k, some l => some ((k, b) :: l)
    | _, _ => none
theorem keys_of {H : Hp} : ∀ {ps : List (V × V)} {ds : List (D × D)} {l : List (Key × D)}, DVp c H ps ds → keysD ds = some l → ∃ kvs : List (Key × V), ps = kvs.map (fun kv => (kV kv.1, kv.2)) ∧ DVk c H kvs l ∧ kvs.map (·.1) = l.map (·.1)
  | _, _, _, .nil, e => by cases e; exact ⟨[], rfl, .nil, rfl⟩
  | _, _, _, .cons (v := v) (w := w) (d := d) (f := f) h1 h2 t, e => by
    rw [keysD] at e
    split at e
    · rename_i k l e1 e2
      cases e
      obtain ⟨kvs, q1, q2, q3⟩ := keys_of t e2
      refine ⟨(k, w) :: kvs, ?_, .cons h2 q2, by simp [q3]⟩
      rw [q1, List.map_cons]
      congr 2
      cases d <;> first | (cases e1; first | (cases opd_int h1; rfl) | (cases opd_str h1; rfl)) | cases e1
    · cases e
theorem merge_nd : ∀ (kvs acc : List (Key × V)), ((acc ++ kvs).map (·.1)).Nodup → mergeK acc kvs = acc ++ kvs
  | [], acc, _ => by simp [mergeK]
  | p :: r, acc, h => by
    have e : (acc.any fun kv => decide (kv.1 = p.1)) = false := by
      rw [List.any_eq_false]
      intro kv hk
      simp only [decide_eq_true_eq]
      intro z
      rw [List.map_append, List.nodup_append] at h
      exact h.2.2 _ (List.mem_map_of_mem hk) _ (List.mem_map_of_mem (List.mem_cons_self)) z
    have e2 : putK acc p.1 p.2 = acc ++ [p] := by
      unfold putK
      rw [e]
      rfl
    show mergeK (putK acc p.1 p.2) r = _
    rw [e2, merge_nd r (acc ++ [p]) (by simpa using h)]
    simp
def dctD (ds : List (D × D)) : Option D := match keysD ds with
  | some l => if (l.map (·.1)).Nodup ∧ l.length ≤ 15 then some (.dct l) else none
  | none => none
def mDict (mp : MP) : ME := fun ε ρ n k => mPairs mp ε ρ n fun ds n1 => optK (dctD ds) fun d => k d n1
def mDict0 : ME := mC (.dct [])
theorem DVk.length {H : Hp} : ∀ {vs : List (Key × V)} {ds : List (Key × D)}, DVk c H vs ds → vs.length = ds.length
  | _, _, .nil => rfl
  | _, _, .cons _ t => by simp [DVk.length t]
theorem de_dict {keys : List (Option Expr)} {values : List Expr} {mp : MP} (h : PPs X pos keys values (tPr c H0 ε mp)) (hall : keys.all (·.isSome) = true := by rfl) (hl : keys.length = values.length := by rfl) (h0 : keys ≠ [] := by simp) (h15 : keys.length ≤ 15 := by decide) : PE X (.Dict keys values pos) (tE c H0 ε (mDict mp)) := by
  refine imp_pe (pe_fz (pe_disp h hall hl h0 h15)) fun σ H Q ⟨ρ, n, k, R, m, q⟩ => fun p hp => ?_
  have sm := same_new (o := .dK []) hp
  have hb : OffB c p := (R.apart hp).2.1
  refine tpairs_of mp σ _ _ ρ n _ (R.step (Same.ks sm) (R.box.same sm)) m fun ds n1 vs H1 m1 dvs k1 b1 => ?_
  obtain ⟨d, e1, m2⟩ := optK_some m1
  unfold dctD at e1
  split at e1
  · rename_i l el
    split at e1
    · rename_i hnd
      cases e1
      obtain ⟨kvs, q1, q2, q3⟩ := keys_of dvs el
      have hp1 : H1 p = some (.dK []) := k1 _ _ upd_same (.inr hb)
      refine ⟨hp1, kvs, q1, by rw [q2.length]; exact hnd.2, .inr ⟨p, _, rfl, upd_same, True.intro, fun o => ?_⟩⟩
      have em : mergeK [] kvs = kvs := merge_nd kvs [] (by rw [List.nil_append, q3]; exact hnd.1)
      rw [em]
      have kw1 : Kw c H1 (L2.upd H1 p (.dK kvs)) := kw_upd hp1 (fun z => z)
      have kw2 : Kw c (L2.upd H1 p (.dK kvs)) (L2.upd (L2.upd H1 p (.dK kvs)) p (.frz o (.dK kvs))) := kw_upd upd_same (fun z => z)
      refine q _ _ _ _ m2 (.dct upd_same (DVk.kw (kw1.trans kw2) q2)) (fun a w ea s => ?_) ((b1.upd kw1 hb).upd kw2 hb)
      have ne := ne_of_none ea hp
      rw [upd_ne ne, upd_ne ne]
      exact k1 a w (by rw [upd_ne ne]; exact ea) s
    · cases e1
  · cases e1
theorem de_dict0 : PE X (.Dict [] [] pos) (tE c H0 ε mDict0) :=
  imp_pe (pe_fz pe_dnewK) fun σ H Q ⟨ρ, n, k, R, m, q⟩ => fun p hp => .inr ⟨p, _, rfl, upd_same, True.intro, fun o => by
    have hb : OffB c p := (R.apart hp).2.1
    have sm := same_new (o := .dK []) hp
    have kw2 : Kw c (L2.upd H p (.dK [])) (L2.upd (L2.upd H p (.dK [])) p (.frz o (.dK []))) := kw_upd upd_same (fun z => z)
    refine q _ _ _ _ m (.dct upd_same .nil) (fun a w ea s => ?_) ((R.box.same sm).upd kw2 hb)
    have ne := ne_of_none ea hp
    rw [upd_ne ne, upd_ne ne]; exact ea⟩
end
theorem bb_len : bootBuiltins "len" = some (.builtin "len") := by decide +kernel
theorem bb_abs : bootBuiltins "abs" = some (.builtin "abs") := by decide +kernel
theorem bb_isinstance : bootBuiltins "isinstance" = some (.builtin "isinstance") := by decide +kernel
theorem bb_sum : bootBuiltins "sum" = some (.builtin "sum") := by decide +kernel
theorem bb_all : bootBuiltins "all" = some (.builtin "all") := by decide +kernel
theorem bb_any : bootBuiltins "any" = some (.builtin "any") := by decide +kernel
theorem bb_repr : bootBuiltins "repr" = some (.builtin "repr") := by decide +kernel
theorem bb_int : bootBuiltins "int" = some (.type "int") := by decide +kernel
theorem bb_bool : bootBuiltins "bool" = some (.type "bool") := by decide +kernel
theorem bb_str : bootBuiltins "str" = some (.type "str") := by decide +kernel
theorem bb_list : bootBuiltins "list" = some (.type "list") := by decide +kernel
theorem bb_tuple : bootBuiltins "tuple" = some (.type "tuple") := by decide +kernel
theorem bb_dict : bootBuiltins "dict" = some (.type "dict") := by decide +kernel
end DS
namespace DS
open PySem PySem.Spec PyProof.Rows L2
/-! ### repr of lists and tuples of data without dicts -/
section
variable {X : Cx} {S : Sg} {B : Option (Addr × (Addr × List Int))} {pins : List (Addr × Obj)} {σ : L2.St} {H : Hp} {s : Shared}
mutual
theorem rd_of (I : Inv X pins σ H s) : ∀ (d : D) (v : V) (u : Value) (e : PyData), DV ⟨X.K, S, B⟩ H v d → RelV v u → pyD d = some e → e.hasDict = false → ∃ as, Reads s.heap u e as
  | .non, _, _, _, h, r, e, _ => by cases h; cases e; cases (show _ = Value.none from r); exact ⟨_, .none⟩
  | .bl b, _, _, _, h, r, e, _ => by cases h; cases e; cases (show _ = Value.bool b from r); exact ⟨_, .bool b⟩
  | .int i, _, _, _, h, r, e, _ => by cases h; cases e; obtain ⟨t, rfl⟩ := r; exact ⟨_, .int i t⟩
  | .str x, _, _, _, h, r, e, _ => by cases h; cases e; obtain ⟨t, rfl⟩ := r; exact ⟨_, .str x t⟩
  | .lst xs, _, _, _, h, r, e, l => by
    cases h with
    | lst f hs =>
      cases r
      rw [pyD] at e
      obtain ⟨es, z, rfl⟩ := Option.map_eq_some_iff.mp e
      obtain ⟨its, n, rv, g, _⟩ := f.at I
      obtain ⟨as, ra⟩ := rds_of I xs _ its es hs rv z (by simpa [PyData.hasDict] using l)
      exact ⟨_, .list g rfl rfl (by simpa using ra)⟩
  | .tup xs, _, _, _, h, r, e, l => by
    cases h with
    | tup f hs =>
      cases r
      rw [pyD] at e
      obtain ⟨es, z, rfl⟩ := Option.map_eq_some_iff.mp e
      obtain ⟨its, rv, ⟨o, g, hc, n, hd⟩, _⟩ := I.tuple f
      obtain ⟨as, ra⟩ := rds_of I xs _ its es hs rv z (by simpa [PyData.hasDict] using l)
      exact ⟨_, .tuple g hc hd (by simpa using ra)⟩
  | .dct kvs, _, _, _, h, r, e, l => by
    rw [pyD] at e
    obtain ⟨es, z, rfl⟩ := Option.map_eq_some_iff.mp e
    simp [PyData.hasDict] at l
  | .ins _ _, _, _, _, _, _, e, _ => by rw [pyD] at e <;> first | cases e | (intros; contradiction)
  | .box, _, _, _, _, _, e, _ => by rw [pyD] at e <;> first | cases e | (intros; contradiction)
  | .raw _, _, _, _, _, _, e, _ => by rw [pyD] at e <;> first | cases e | (intros; contradiction)
theorem rds_of (I : Inv X pins σ H s) : ∀ (ds : List D) (vs : List V) (us : List Value) (es : List PyData), DVs ⟨X.K, S, B⟩ H vs ds → Vals vs us → pyDs ds = some es → PyData.hasDictAll es = false → ∃ as, ReadsAll s.heap us es as
  | [], _, _, _, h, r, e, _ => by cases h; cases r; rw [pyDs] at e; cases e; exact ⟨_, .nil⟩
  | d :: ds, _, _, _, h, r, e, l => by
    cases h with
    | cons a b =>
      cases r with
      | cons r1 r2 =>
        rw [pyDs] at e
        split at e
        · rename_i e1 e2 h1 h2
          cases e
          have l' : e1.hasDict = false ∧ PyData.hasDictAll e2 = false := by simpa [PyData.hasDictAll] using l
          obtain ⟨as, q1⟩ := rd_of I d _ _ e1 a r1 h1 l'.1
          obtain ⟨bs, q2⟩ := rds_of I ds _ _ e2 b r2 h2 l'.2
          exact ⟨_, .cons q1 q2⟩
        · cases e
end
end
section
variable {X : Cx} {c : Cc}
def reprE (e : PyData) : Option D := if e.hasDict = false ∧ e.showable = true ∧ e.depth ≤ 60 ∧ e.shown.length ≤ sizeLine then some (.str e.shown) else none
def reprD : List D → Option D
  | [.lst xs] => (pyD (.lst xs)).bind reprE
  | [.tup xs] => (pyD (.tup xs)).bind reprE
  | _ => none
abbrev rRepr (K : PySem.W.Frag) : List V → Hp → VK → Prop := fun xs H Q => ∃ (S : Sg) (B : Option (Addr × (Addr × List Int))) (a : Addr) (d : D) (e : PyData), xs = [.ref a] ∧ DV ⟨K, S, B⟩ H (.ref a) d ∧ pyD d = some e ∧
  e.hasDict = false ∧ e.showable = true ∧ e.depth ≤ 60 ∧ e.shown.length ≤ sizeLine ∧ Q (.str e.shown) H
theorem call_reprD {k : Nat} (hg : X.A.guards = some []) (hr : Room k X.A) : CallR X (.builtin "repr") (rRepr X.K) := by
  intro pins s σ H xs us Q I r ⟨S, B, a, d, e, ex, dv, pe, h1, h2, h3, h4, q⟩
  subst ex
  obtain ⟨u, rfl, ru⟩ := vals1 r
  cases (show u = Value.ref a from ru)
  obtain ⟨as, rd⟩ := rd_of I d _ _ e dv rfl pe h1
  have hu := hr.un
  exact repr_of_reads' rd h2 (fun z => by rw [h1] at z; cases z) hg (by omega) (fun _ _ z => z) (fun h' u tk hk => ⟨.str _, H, I.kept (t' := tk) hk, ⟨_, rfl⟩, q⟩) h4
theorem cd_repr : CallD c (rRepr c.K) reprD := by
  intro xs ds d H Q hs e k
  have go : ∀ {x : D} {d : D} {v : V}, DV c H v x → (∃ a, v = .ref a) → (pyD x).bind reprE = some d → (∀ v H', DVn c H H' v d → Same H H' → Q v H') → rRepr c.K [v] H Q := by
    rintro x d v hv ⟨a, rfl⟩ e k
    obtain ⟨e', h1, h2⟩ := Option.bind_eq_some_iff.mp e
    unfold reprE at h2
    split at h2
    · rename_i hc
      cases h2
      exact ⟨c.S, c.B, a, x, e', rfl, hv, h1, hc.1, hc.2.1, hc.2.2.1, hc.2.2.2, k _ _ (.of (.str _)) (same_refl H)⟩
    · cases h2
  unfold reprD at e
  split at e
  · obtain ⟨v, rfl, h⟩ := dvs1 hs
    obtain ⟨a, ys, rfl, _⟩ := opd_lst h
    exact go h ⟨a, rfl⟩ e k
  · obtain ⟨v, rfl, h⟩ := dvs1 hs
    obtain ⟨a, ys, rfl, _⟩ := opd_tup h
    exact go h ⟨a, rfl⟩ e k
  · cases e
end
end DS
namespace DS
open PySem PySem.Spec PyProof.Rows L2
/-! ### repr of all data, dicts too -/
section
variable {X : Cx} {S : Sg} {B : Option (Addr × (Addr × List Int))} {pins : List (Addr × Obj)} {σ : L2.St} {H : Hp} {s : Shared}
def keyP : Key → PyData
  | .inl i => .int i
  | .inr z => .str z
theorem keys_read {h : Heap} {P : Program} {w : World} : ∀ {es : List DictEntry} {kvs : List (Key × V)} {vs : List (Key × Value)}, Pairs (mixKind P w) es vs → KV kvs vs → ReadsAll h (es.map (·.key)) (kvs.map fun kv => keyP kv.1) []
  | [], _, _, .nil, r => by unfold KV at r; cases r; exact .nil
  | e :: es, _, _, .cons (kv := q) hk hv t, r => by
    unfold KV at r
    cases r with
    | @cons p _ ps _ h1 h2 =>
      refine .cons (as := []) (bs := []) ?_ (keys_read t h2)
      obtain ⟨k, v⟩ := p
      obtain ⟨k2, v2⟩ := q
      obtain ⟨rfl, _⟩ := h1
      rcases keyIs_shape hk with ⟨i, u, rfl, e1⟩ | ⟨x, u, rfl, e1⟩
      · show Reads h e.key (.int i) []
        rw [e1]; exact .int i u
      · show Reads h e.key (.str x) []
        rw [e1]; exact .str x u
theorem vals_entries {P : Program} {w : World} : ∀ {es : List DictEntry} {kvs : List (Key × V)} {vs : List (Key × Value)}, Pairs (mixKind P w) es vs → KV kvs vs → Vals (kvs.map (·.2)) (es.map (·.val))
  | [], _, _, .nil, r => by unfold KV at r; cases r; exact .nil
  | e :: es, _, _, .cons hk hv t, r => by
    unfold KV at r
    cases r with
    | cons h1 h2 => exact .cons (by show L2.RelV _ e.val; rw [hv]; exact h1.2) (vals_entries t h2)
mutual
theorem rdS_of (I : Inv X pins σ H s) : ∀ (d : D) (v : V) (u : Value) (e : PyData), DV ⟨X.K, S, B⟩ H v d → RelV v u → pyD d = some e → ∃ as, Reads s.heap u e as
  | .non, _, _, _, h, r, e => by cases h; cases e; cases (show _ = Value.none from r); exact ⟨_, .none⟩
  | .bl b, _, _, _, h, r, e => by cases h; cases e; cases (show _ = Value.bool b from r); exact ⟨_, .bool b⟩
  | .int i, _, _, _, h, r, e => by cases h; cases e; obtain ⟨t, rfl⟩ := r; exact ⟨_, .int i t⟩
  | .str x, _, _, _, h, r, e => by cases h; cases e; obtain ⟨t, rfl⟩ := r; exact ⟨_, .str x t⟩
  | .lst xs, _, _, _, h, r, e => by
    cases h with
    | lst f hs =>
      cases r
      rw [pyD] at e
      obtain ⟨es, z, rfl⟩ := Option.map_eq_some_iff.mp e
      obtain ⟨its, n, rv, g, _⟩ := f.at I
      obtain ⟨as, ra⟩ := rdsS_of I xs _ its es hs rv z
      exact ⟨_, .list g rfl rfl (by simpa using ra)⟩
  | .tup xs, _, _, _, h, r, e => by
    cases h with
    | tup f hs =>
      cases r
      rw [pyD] at e
      obtain ⟨es, z, rfl⟩ := Option.map_eq_some_iff.mp e
      obtain ⟨its, rv, ⟨o, g, hc, n, hd⟩, _⟩ := I.tuple f
      obtain ⟨as, ra⟩ := rdsS_of I xs _ its es hs rv z
      exact ⟨_, .tuple g hc hd (by simpa using ra)⟩
  | .dct kvs, _, _, _, h, r, e => by
    cases h with
    | dct f hs =>
      cases r
      rw [pyD] at e
      obtain ⟨es, z, rfl⟩ := Option.map_eq_some_iff.mp e
      obtain ⟨_, _, hsys, vs, rkv, ob, ents, ep, eg, exd, ed, ko, prs, nd⟩ := I.hok _ _ f
      have rv := vals_entries prs rkv
      have rk := keys_read (h := s.heap) prs rkv
      obtain ⟨as, ra, hk⟩ := rdkS_of I kvs _ _ es hs rv z
      exact ⟨_, .dict (as := []) (bs := as) eg exd.1 ed (by rw [← hk]; simpa using rk) (by simpa using ra)⟩
  | .ins _ _, _, _, _, _, _, e => by rw [pyD] at e <;> first | cases e | (intros; contradiction)
  | .box, _, _, _, _, _, e => by rw [pyD] at e <;> first | cases e | (intros; contradiction)
  | .raw _, _, _, _, _, _, e => by rw [pyD] at e <;> first | cases e | (intros; contradiction)
theorem rdsS_of (I : Inv X pins σ H s) : ∀ (ds : List D) (vs : List V) (us : List Value) (es : List PyData), DVs ⟨X.K, S, B⟩ H vs ds → Vals vs us → pyDs ds = some es → ∃ as, ReadsAll s.heap us es as
  | [], _, _, _, h, r, e => by cases h; cases r; rw [pyDs] at e; cases e; exact ⟨_, .nil⟩
  | d :: ds, _, _, _, h, r, e => by
    cases h with
    | cons a b =>
      cases r with
      | cons r1 r2 =>
        rw [pyDs] at e
        split at e
        · rename_i e1 e2 h1 h2
          cases e
          obtain ⟨as, q1⟩ := rdS_of I d _ _ e1 a r1 h1
          obtain ⟨bs, q2⟩ := rdsS_of I ds _ _ e2 b r2 h2
          exact ⟨_, .cons q1 q2⟩
        · cases e
theorem rdkS_of (I : Inv X pins σ H s) : ∀ (ds : List (Key × D)) (vs : List (Key × V)) (us : List Value) (es : List (PyData × PyData)), DVk ⟨X.K, S, B⟩ H vs ds → Vals (vs.map (·.2)) us → pyDk ds = some es →
    ∃ as, ReadsAll s.heap us (es.map (·.2)) as ∧ (vs.map fun kv => keyP kv.1) = es.map (·.1)
  | [], _, _, _, h, r, e => by cases h; cases r; rw [pyDk] at e; cases e; exact ⟨_, .nil, rfl⟩
  | (k, d) :: ds, _, _, _, h, r, e => by
    cases h with
    | cons a b =>
      rw [List.map_cons] at r
      cases r with
      | cons r1 r2 =>
        unfold pyDk at e
        split at e
        · rename_i e1 e2 h1 h2
          cases e
          obtain ⟨as, q1⟩ := rdS_of I d _ _ e1 a r1 h1
          obtain ⟨bs, q2, hk⟩ := rdkS_of I ds _ _ e2 b r2 h2
          refine ⟨_, .cons q1 q2, ?_⟩
          rw [List.map_cons, List.map_cons, hk]
          cases k <;> rfl
        · cases e
end
end
/-! what repr says of each part -/
section
variable {X : Cx} {S : Sg} {B : Option (Addr × (Addr × List Int))} {pins : List (Addr × Obj)} {σ : L2.St} {H : Hp} {s : Shared}
abbrev Sho (X : Cx) (s : Shared) (u : Value) (e : PyData) : Prop := ∃ bs, ReadAtMost s.heap e.depth bs ∧ ReprK X.prog X.w bs s.heap e.depth u e.shown
abbrev ShoA (X : Cx) (s : Shared) (us : List Value) (es : List PyData) : Prop := ∃ bs, ReadAtMost s.heap (PyData.depthAll es) bs ∧ ReprAllK X.prog X.w bs s.heap (PyData.depthAll es) us (PyData.shownAll es)
theorem sho_cons {u : Value} {us : List Value} {e : PyData} {es : List PyData} (h : Sho X s u e) (g : ShoA X s us es) : ShoA X s (u :: us) (e :: es) := by
  obtain ⟨b1, p1, q1⟩ := h
  obtain ⟨b2, p2, q2⟩ := g
  refine ⟨b1 ++ b2, ?_, ?_⟩
  · rw [PyData.depthAll]
    exact (p1.mono (Nat.le_max_left _ _)).append (p2.mono (Nat.le_max_right _ _))
  · rw [PyData.depthAll, PyData.shownAll]
    exact .cons ((q1.more fun _ z => List.mem_append_left b2 z).level_le (Nat.le_max_left _ _)) (q2.more_le (fun _ z => List.mem_append_right b1 z) (Nat.le_max_right _ _))
theorem sho_lst {a : Addr} {its : List Value} {n : Nat} {es : List PyData} {as : List Addr} (g : s.heap.get? a = some { cls := .type "list", data := .seq its.toArray n }) (r : Reads s.heap (.ref a) (.list es) as) (h : ShoA X s its es) : Sho X s (.ref a) (.list es) := by
  obtain ⟨bs, p, q⟩ := h
  have out : a ∉ bs := not_mem_of_deeper r (Nat.lt_succ_self _) p
  refine ⟨a :: bs, ReadAtMost.cons r (Nat.le_succ _) p, ?_⟩
  cases its with
  | nil =>
    cases es with
    | nil =>
      show ReprK _ _ _ _ _ _ (listText [])
      rw [listText_nil]
      exact ReprK.listEmpty g rfl rfl
    | cons e es => rw [PyData.shownAll] at q; cases q
  | cons x l => exact ReprK.list g rfl rfl out (by simpa using q.length_eq) fun i y z => q.item i y (by simpa using z)
theorem sho_tup {a : Addr} {o : Obj} {its : List Value} {n : Nat} {es : List PyData} {as : List Addr} (g : s.heap.get? a = some o) (hc : o.cls = .type "tuple") (hd : o.data = .seq its.toArray n) (r : Reads s.heap (.ref a) (.tuple es) as) (h : ShoA X s its es) : Sho X s (.ref a) (.tuple es) := by
  obtain ⟨bs, p, q⟩ := h
  exact ⟨a :: bs, ReadAtMost.cons r (Nat.le_succ _) p, ReprK.tuple g hc hd (not_mem_of_deeper r (Nat.lt_succ_self _) p) (by simpa using q)⟩
/-- the parts of a dict -/
theorem sho_dct {a : Addr} {ents : Array DictEntry} {kvs : List (PyData × PyData)} {as : List Addr} (r : Reads s.heap (.ref a) (.dict kvs) as) (hk : ReadsAll s.heap (ents.toList.map (·.key)) (kvs.map (·.1)) []) (hs : PyData.showableAll (kvs.map (·.1)) = true)
    (hz : ∀ t ∈ PyData.shownAll (kvs.map (·.1)), t.length ≤ sizeLine) (h : ShoA X s (ents.toList.map (·.val)) (kvs.map (·.2))) : ∃ bs, ReadAtMost s.heap (PyData.depthKv kvs) bs ∧ a ∉ bs ∧
      ReprEntriesK X.prog X.w bs s.heap (PyData.depthKv kvs) ents.toList (List.zipWith (fun k v : Str => k ++ ": " ++ v) (PyData.shownAll (kvs.map (·.1))) (PyData.shownAll (kvs.map (·.2)))) := by
  obtain ⟨b2, p2, q2⟩ := h
  obtain ⟨b1, p1, q1⟩ := ReprAllK.of_readsAll (prog := X.prog) (w := X.w) hk hs (fun _ z => nomatch z) hz
  have pp := (p1.mono (PyData.depthAll_keys_le kvs)).append (p2.mono (PyData.depthAll_vals_le kvs))
  exact ⟨b1 ++ b2, pp, not_mem_of_deeper r (Nat.lt_succ_self _) pp, ReprEntriesK.of_two _ _ _ (q1.more_le (fun _ z => List.mem_append_left b2 z) (PyData.depthAll_keys_le kvs)) (q2.more_le (fun _ z => List.mem_append_right b1 z) (PyData.depthAll_vals_le kvs))⟩
mutual
theorem sho_of (I : Inv X pins σ H s) : ∀ (d : D) (v : V) (u : Value) (e : PyData), DV ⟨X.K, S, B⟩ H v d → RelV v u → pyD d = some e → e.showable = true → e.shown.length ≤ sizeLine → Sho X s u e
  | .non, _, _, _, h, r, e, _, _ => by cases h; cases e; cases (show _ = Value.none from r); exact ⟨[], fun _ z => (nomatch z), .of_is ReprIs.none _ _ _⟩
  | .bl b, _, _, _, h, r, e, _, _ => by cases h; cases e; cases (show _ = Value.bool b from r); exact ⟨[], fun _ z => (nomatch z), .of_is (ReprIs.bool b) _ _ _⟩
  | .int i, _, _, _, h, r, e, q, _ => by cases h; cases e; obtain ⟨t, rfl⟩ := r; exact ⟨[], fun _ z => (nomatch z), .of_is (ReprIs.int t (by simpa [PyData.showable] using q)) _ _ _⟩
  | .str x, _, _, _, h, r, e, _, q => by cases h; cases e; obtain ⟨t, rfl⟩ := r; exact ⟨[], fun _ z => (nomatch z), .of_is (ReprIs.str x t q) _ _ _⟩
  | .lst xs, v, u, _, h, r, e, q, z => by
    obtain ⟨as, rd⟩ := rdS_of I _ _ _ _ h r e
    cases h with
    | lst f hs =>
      cases r
      rw [pyD] at e
      obtain ⟨es, w, rfl⟩ := Option.map_eq_some_iff.mp e
      obtain ⟨its, n, rv, g, _⟩ := f.at I
      exact sho_lst g rd (shos_of I xs _ its es hs rv w (by simpa [PyData.showable] using q) fun t ht => Nat.le_trans (listText_mem_le ht) z)
  | .tup xs, v, u, _, h, r, e, q, z => by
    obtain ⟨as, rd⟩ := rdS_of I _ _ _ _ h r e
    cases h with
    | tup f hs =>
      cases r
      rw [pyD] at e
      obtain ⟨es, w, rfl⟩ := Option.map_eq_some_iff.mp e
      obtain ⟨its, rv, ⟨o, g, hc, n, hd⟩, _⟩ := I.tuple f
      exact sho_tup g hc hd rd (shos_of I xs _ its es hs rv w (by simpa [PyData.showable] using q) fun t ht => Nat.le_trans (tupleText_mem_le ht) z)
  | .dct kvs, v, u, _, h, r, e, q, z => by
    obtain ⟨as, rd⟩ := rdS_of I _ _ _ _ h r e
    cases h with
    | dct f hs =>
      cases r
      rw [pyD] at e
      obtain ⟨es, w, rfl⟩ := Option.map_eq_some_iff.mp e
      obtain ⟨_, _, hsys, vs, rkv, ob, ents, ep, eg, exd, ed, ko, prs, nd⟩ := I.hok _ _ f
      have rv := vals_entries prs rkv
      have rk := keys_read (h := s.heap) prs rkv
      obtain ⟨_, _, hk⟩ := rdkS_of I kvs _ _ es hs rv w
      obtain ⟨s1, s2⟩ := PyData.showableKv_split es (by simpa [PyData.showable] using q)
      have z' : (dictText (PyData.shownKv es)).length ≤ sizeLine := z
      obtain ⟨bs, p, out, re⟩ := sho_dct (X := X) rd (by rw [← hk]; simpa using rk) s1 (fun t ht => let ⟨y, hy, hl⟩ := PyData.shownKv_key_le es t ht; Nat.le_trans hl (Nat.le_trans (dictText_mem_le hy) z'))
        (shok_of I kvs _ _ es hs rv w s2 fun t ht => let ⟨y, hy, hl⟩ := PyData.shownKv_val_le es t ht; Nat.le_trans hl (Nat.le_trans (dictText_mem_le hy) z'))
      refine ⟨_ :: bs, ReadAtMost.cons rd (Nat.le_succ _) p, ?_⟩
      show ReprK _ _ _ _ _ _ (dictText (PyData.shownKv es))
      rw [PyData.shownKv_eq]
      exact ReprK.dict eg exd.1 ed hsys out re
  | .ins _ _, _, _, _, _, _, e, _, _ => by rw [pyD] at e <;> first | cases e | (intros; contradiction)
  | .box, _, _, _, _, _, e, _, _ => by rw [pyD] at e <;> first | cases e | (intros; contradiction)
  | .raw _, _, _, _, _, _, e, _, _ => by rw [pyD] at e <;> first | cases e | (intros; contradiction)
theorem shos_of (I : Inv X pins σ H s) : ∀ (ds : List D) (vs : List V) (us : List Value) (es : List PyData), DVs ⟨X.K, S, B⟩ H vs ds → Vals vs us → pyDs ds = some es → PyData.showableAll es = true → (∀ t ∈ PyData.shownAll es, t.length ≤ sizeLine) → ShoA X s us es
  | [], _, _, _, h, r, e, _, _ => by cases h; cases r; rw [pyDs] at e; cases e; exact ⟨[], fun _ z => (nomatch z), .nil⟩
  | d :: ds, _, _, _, h, r, e, q, z => by
    cases h with
    | cons a b =>
      cases r with
      | cons r1 r2 =>
        rw [pyDs] at e
        split at e
        · rename_i e1 e2 h1 h2
          cases e
          have q' : e1.showable = true ∧ PyData.showableAll e2 = true := by simpa [PyData.showableAll] using q
          exact sho_cons (sho_of I d _ _ e1 a r1 h1 q'.1 (z _ List.mem_cons_self)) (shos_of I ds _ _ e2 b r2 h2 q'.2 fun t ht => z t (List.mem_cons_of_mem _ ht))
        · cases e
theorem shok_of (I : Inv X pins σ H s) : ∀ (ds : List (Key × D)) (vs : List (Key × V)) (us : List Value) (es : List (PyData × PyData)), DVk ⟨X.K, S, B⟩ H vs ds → Vals (vs.map (·.2)) us → pyDk ds = some es → PyData.showableAll (es.map (·.2)) = true →
    (∀ t ∈ PyData.shownAll (es.map (·.2)), t.length ≤ sizeLine) → ShoA X s us (es.map (·.2))
  | [], _, _, _, h, r, e, _, _ => by cases h; cases r; rw [pyDk] at e; cases e; exact ⟨[], fun _ z => (nomatch z), .nil⟩
  | (k, d) :: ds, _, _, _, h, r, e, q, z => by
    cases h with
    | cons a b =>
      rw [List.map_cons] at r
      cases r with
      | cons r1 r2 =>
        unfold pyDk at e
        split at e
        · rename_i e1 e2 h1 h2
          cases e
          have q' : e1.showable = true ∧ PyData.showableAll (e2.map (·.2)) = true := by simpa [PyData.showableAll] using q
          exact sho_cons (sho_of I d _ _ e1 a r1 h1 q'.1 (z _ List.mem_cons_self)) (shok_of I ds _ _ e2 b r2 h2 q'.2 fun t ht => z t (List.mem_cons_of_mem _ ht))
        · cases e
end
end
section
variable {X : Cx} {c : Cc}
def reprX (e : PyData) : Option D := if e.showable = true ∧ e.depth ≤ 60 ∧ e.shown.length ≤ sizeLine then some (.str e.shown) else none
def reprXD : List D → Option D
  | [d] => (pyD d).bind reprX
  | _ => none
abbrev rReprX (K : PySem.W.Frag) : List V → Hp → VK → Prop := fun xs H Q => ∃ (S : Sg) (B : Option (Addr × (Addr × List Int))) (v : V) (d : D) (e : PyData), xs = [v] ∧ DV ⟨K, S, B⟩ H v d ∧ pyD d = some e ∧
  e.showable = true ∧ e.depth ≤ 60 ∧ e.shown.length ≤ sizeLine ∧ Q (.str e.shown) H
theorem call_reprX {k : Nat} (hg : X.A.guards = some []) (hr : Room k X.A) : CallR X (.builtin "repr") (rReprX X.K) := by
  intro pins s σ H xs us Q I r ⟨S, B, v, d, e, ex, dv, pe, h2, h3, h4, q⟩
  subst ex
  obtain ⟨u, rfl, ru⟩ := vals1 r
  have hu := hr.un
  cases dv with
  | non => cases pe; cases (show u = Value.none from ru); exact PySem.P.repr_of_none ⟨.str _, H, I.tok _, ⟨_, rfl⟩, q⟩
  | bl b => cases pe; cases (show u = Value.bool b from ru); exact PySem.P.repr_of_bool ⟨.str _, H, I.tok _, ⟨_, rfl⟩, q⟩
  | int i => cases pe; obtain ⟨t, rfl⟩ := ru; exact PySem.P.repr_of_int (by simpa [PyData.showable] using h2) ⟨.str _, H, I.tok _, ⟨_, rfl⟩, q⟩
  | str x => cases pe; obtain ⟨t, rfl⟩ := ru; exact PySem.P.repr_of_str ⟨.str _, H, I.tok _, ⟨_, rfl⟩, q⟩ h4
  | lst f hs =>
    obtain ⟨as, rd⟩ := rdS_of (S := S) (B := B) I _ _ _ _ (.lst f hs) ru pe
    cases (show u = _ from ru)
    rw [pyD] at pe
    obtain ⟨es, w, rfl⟩ := Option.map_eq_some_iff.mp pe
    obtain ⟨its, n, rv, g, _⟩ := f.at I
    have h3' : PyData.depthAll es + 1 ≤ 60 := h3
    have h4' : (listText (PyData.shownAll es)).length ≤ sizeLine := h4
    obtain ⟨bs, p, q'⟩ := shos_of I _ _ its es hs rv w (by simpa [PyData.showable] using h2) fun t ht => Nat.le_trans (listText_mem_le ht) h4'
    have out := not_mem_of_deeper rd (Nat.lt_succ_self _) p
    refine call_repr_slot (by omega) ⟨_, g, rfl⟩ F.slot_list_repr.toG ?_
    cases its with
    | nil =>
      cases es with
      | nil => exact call_list_repr_empty ⟨_, g, rfl⟩ g rfl ⟨_, _, rfl, ⟨.str _, H, I.tok _, ⟨_, rfl⟩, by
          have := q
          rw [show (PyData.list []).shown = listText [] from rfl, listText_nil] at this
          exact this⟩⟩
      | cons e es => rw [PyData.shownAll] at q'; cases q'
    | cons x l => exact call_list_reprK g rfl rfl out (by simpa using q'.length_eq) (fun i y z => q'.item i y (by simpa using z)) hg (fun b _ => Clear.nil b) (by show X.A.units + 1 + _ < _; omega) (fun _ _ z => z) (fun h' u tk hk => ⟨_, _, rfl, ⟨.str _, H, I.kept (t' := tk) hk, ⟨_, rfl⟩, q⟩⟩) h4'
  | tup f hs =>
    obtain ⟨as, rd⟩ := rdS_of (S := S) (B := B) I _ _ _ _ (.tup f hs) ru pe
    cases (show u = _ from ru)
    rw [pyD] at pe
    obtain ⟨es, w, rfl⟩ := Option.map_eq_some_iff.mp pe
    obtain ⟨its, rv, ⟨o, g, hc, n, hd⟩, _⟩ := I.tuple f
    have h3' : PyData.depthAll es + 1 ≤ 60 := h3
    have h4' : (tupleText (PyData.shownAll es)).length ≤ sizeLine := h4
    obtain ⟨bs, p, q'⟩ := shos_of I _ _ its es hs rv w (by simpa [PyData.showable] using h2) fun t ht => Nat.le_trans (tupleText_mem_le ht) h4'
    refine call_repr_slot (by omega) ⟨o, g, hc⟩ F.slot_tuple_repr ?_
    exact call_tuple_reprK g hc hd (not_mem_of_deeper rd (Nat.lt_succ_self _) p) (by simpa using q') hg (fun b _ => Clear.nil b) (by show X.A.units + 1 + _ < _; omega) (fun _ _ z => z) (fun h' u tk hk => ⟨_, _, rfl, ⟨.str _, H, I.kept (t' := tk) hk, ⟨_, rfl⟩, q⟩⟩) h4'
  | dct f hs =>
    obtain ⟨as, rd⟩ := rdS_of (S := S) (B := B) I _ _ _ _ (.dct f hs) ru pe
    cases (show u = _ from ru)
    rw [pyD] at pe
    obtain ⟨es, w, rfl⟩ := Option.map_eq_some_iff.mp pe
    obtain ⟨_, _, hsys, vs, rkv, ob, ents, ep, eg, exd, ed, ko, prs, nd⟩ := I.hok _ _ f
    have rv := vals_entries prs rkv
    have rk := keys_read (h := s.heap) prs rkv
    obtain ⟨_, _, hk⟩ := rdkS_of I _ _ _ es hs rv w
    obtain ⟨s1, s2⟩ := PyData.showableKv_split es (by simpa [PyData.showable] using h2)
    have h3' : PyData.depthKv es + 1 ≤ 60 := h3
    have h4' : (dictText (PyData.shownKv es)).length ≤ sizeLine := h4
    obtain ⟨bs, p, out, re⟩ := sho_dct (X := X) rd (by rw [← hk]; simpa using rk) s1 (fun t ht => let ⟨y, hy, hl⟩ := PyData.shownKv_key_le es t ht; Nat.le_trans hl (Nat.le_trans (dictText_mem_le hy) h4'))
      (shok_of I _ _ _ es hs rv w s2 fun t ht => let ⟨y, hy, hl⟩ := PyData.shownKv_val_le es t ht; Nat.le_trans hl (Nat.le_trans (dictText_mem_le hy) h4'))
    refine call_repr_slot (by omega) ⟨ob, eg, exd.1⟩ F.slot_dict_repr ?_
    exact call_dict_reprK eg exd.1 ed hsys out re hg (fun b _ => Clear.nil b) (by show X.A.units + 1 + _ < _; omega) (fun _ _ z => z) (fun h' u tk hk => ⟨_, _, rfl, ⟨.str _, H, I.kept (t' := tk) hk, ⟨_, rfl⟩, by
      have := q
      rw [show (PyData.dict es).shown = dictText (PyData.shownKv es) from rfl, PyData.shownKv_eq] at this
      exact this⟩⟩) (by rw [← PyData.shownKv_eq]; exact h4')
  | ins => rw [pyD] at pe <;> first | cases pe | (intros; contradiction)
  | exc => rw [pyD] at pe <;> first | cases pe | (intros; contradiction)
  | box => rw [pyD] at pe <;> first | cases pe | (intros; contradiction)
  | raw => rw [pyD] at pe <;> first | cases pe | (intros; contradiction)
theorem cd_reprX : CallD c (rReprX c.K) reprXD := by
  intro xs ds d H Q hs e k
  unfold reprXD at e
  split at e
  · obtain ⟨v, rfl, h⟩ := dvs1 hs
    obtain ⟨e', h1, h2⟩ := Option.bind_eq_some_iff.mp e
    unfold reprX at h2
    split at h2
    · rename_i hc
      cases h2
      exact ⟨c.S, c.B, v, _, e', rfl, h, h1, hc.1, hc.2.1, hc.2.2, k _ _ (.of (.str _)) (same_refl H)⟩
    · cases h2
  · cases e
end
/-! == and != of texts by themselves -/
section
variable {X : Cx} {c : Cc}
def eqX : D → D → Option D
  | .str a, .str b => some (.bl (a == b))
  | x, y => eqD x y
def neX : D → D → Option D
  | .str a, .str b => some (.bl (!(a == b)))
  | x, y => neD x y
abbrev rEqX (K : PySem.W.Frag) : R2 := fun x y H Q => rEq x y H Q ∨ rEqD K x y H Q
abbrev rNeX (K : PySem.W.Frag) : R2 := fun x y H Q => rNe x y H Q ∨ rNeD K x y H Q
theorem oo_eqX (hu : X.A.units + 64 < cLine) : OpR X (compareOp .Eq) (rEqX X.K) := OpR.or op_eq (op_eqD hu)
theorem oo_neX (hu : X.A.units + 64 < cLine) : OpR X (compareOp .NotEq) (rNeX X.K) := OpR.or op_ne (op_neD hu)
theorem od_eqX : OpD c (rEqX c.K) eqX := by
  intro x y dx dy d H Q hx hy e k
  unfold eqX at e
  split at e
  · cases e
    cases opd_str hx; cases opd_str hy
    exact .inl ⟨rfl, by rw [dec_str]; exact k _ _ (.of (.bl _)) (same_refl H)⟩
  · exact .inr (od_eq _ _ _ _ _ H _ hx hy e k)
theorem od_neX : OpD c (rNeX c.K) neX := by
  intro x y dx dy d H Q hx hy e k
  unfold neX at e
  split at e
  · cases e
    cases opd_str hx; cases opd_str hy
    exact .inl ⟨rfl, by rw [dec_str]; exact k _ _ (.of (.bl _)) (same_refl H)⟩
  · exact .inr (od_ne _ _ _ _ _ H _ hx hy e k)
theorem ek_eqS {k : D → Prop} {z : Str} (h : k (.bl true)) : optK (eqX (.str z) (.str z)) k := by
  show k (.bl (z == z))
  rw [show (z == z) = true by simp]; exact h
theorem ek_neS {k : D → Prop} {z : Str} (h : k (.bl false)) : optK (neX (.str z) (.str z)) k := by
  show k (.bl (!(z == z)))
  rw [show (z == z) = true by simp]; exact h
end
end DS
namespace DS
open PySem PySem.Spec PyProof.Rows L2
section
variable {X : Cx} {c : Cc} {H0 : Hp} {ε : XD} {a b e : Expr} {pos : Pos} {ma mb : ME}
/-! ### zip and enumerate, with a tuple as target -/
theorem it_two {J : It} {H : Hp} {n : Nat} {G : Hp → Prop} {xs ys : List V} {dx dy : List D} (w : Walk J n G (YPair (fun i => xs[i]?) (fun i => ys[i]?))) (hn : n = min xs.length ys.length) (hG : ∀ H', Kw c H H' → G H') (h1 : DVs c H xs dx) (h2 : DVs c H ys dy) :
    ItOk c H J (List.zipWith (fun a b => D.tup [a, b]) dx dy) := by
  subst hn
  exact ⟨.two xs ys, G, w, hG, dx, dy, h1, h2, rfl⟩
theorem walk_zt {K : PySem.W.Frag} {p q : Addr} {xs ys : List V} {n : Nat} (hn : n = min xs.length ys.length) : Walk (RZ.ItzT K p q) n (fun H => SqT K H p xs ∧ SqT K H q ys) (YPair (fun i => xs[i]?) (fun i => ys[i]?)) := by
  subst hn
  refine ⟨fun i _ hi z => ?_, fun _ z => ⟨xs, ys, z.1, z.2, ?_⟩, fun i H v H' _ z y => ?_⟩
  · exact ⟨xs, ys, xs[i]'(by omega), ys[i]'(by omega), z.1, z.2, List.getElem?_eq_getElem _, List.getElem?_eq_getElem _⟩
  · rcases Nat.le_total xs.length ys.length with l | l
    · exact .inl (by omega)
    · exact .inr (by omega)
  · obtain ⟨T, x, w, h1, h2, h3, h4, h5⟩ := y
    exact ⟨T, x, w, h1, h2, h3, h4 _ z.1, h5 _ z.2⟩
theorem di_zip {S : Sg} {B : Option (Addr × (Addr × List Int))} {elts : List Expr} {kk : Nat} {tpos p : Pos} (hm : X.mg "zip" = none) (ha : PE X a (tE ⟨X.K, S, B⟩ H0 ε ma)) (hb : PE X b (tE ⟨X.K, S, B⟩ H0 ε mb)) (hg : Gl X "zip" := by rfl)
    (hs : starEach [a, b] X.env = (false, eval a X.env) :: starEach [b] X.env := by rfl) (hs1 : starEach [b] X.env = (false, eval b X.env) :: starEach [] X.env := by rfl) (hpl : (backTo pos (starEach [b] X.env)).any (·.1) = false := by rfl) :
    PI X (.Tuple elts kk tpos) (.Call (.Name "zip" p) [a, b] [] pos) (tI ⟨X.K, S, B⟩ H0 ε (mZip ma mb)) :=
  imp_pi (RZ.pi_zipA hg hm (pa_cons ha (pa_cons hb pa_nil hs1) hs) hs hpl) fun σ H Q ⟨ρ, n, k, R, m, q⟩ => ⟨ρ, n, _, R, m, fun d n1 v H1 m1 dv k1 b1 => ⟨ρ, n1, _, R.step k1 b1, m1, fun d' n2 w H2 m2 dw k2 b2 => by
    have dv2 := dv.kw k2.kw
    cases dv2 with
    | lst f hf =>
      cases dw with
      | lst g hg => exact ⟨_, _, _, _, rfl, .inl ⟨f.sq, g.sq, q _ _ _ _ m2 (it_two (walk_zip rfl) rfl (fun _ z => ⟨(f.kw z).sq, (g.kw z).sq⟩) hf hg) (k1.trans k2) b2⟩⟩
      | _ => exact m2.elim
    | tup f hf =>
      cases dw with
      | tup g hg => exact ⟨_, _, _, _, rfl, .inr ⟨f, g, q _ _ _ _ m2 (it_two (walk_zt rfl) rfl (fun _ z => ⟨sqt_kw z f, sqt_kw z g⟩) hf hg) (k1.trans k2) b2⟩⟩
      | _ => exact m2.elim
    | _ => cases dw <;> exact m2.elim⟩⟩
def enumD (xs : List D) : List D := List.zipWith (fun a b => D.tup [a, b]) ((List.range xs.length).map fun i => D.int (i : Nat)) xs
def mEnum (ma : ME) : MA := fun ε ρ n k => ma ε ρ n fun d n1 => match d with
  | .lst xs => k (enumD xs) n1
  | _ => False
theorem di_enum {S : Sg} {B : Option (Addr × (Addr × List Int))} {elts : List Expr} {kk : Nat} {tpos p : Pos} (hm : X.mg "enumerate" = none) (ha : PE X a (tE ⟨X.K, S, B⟩ H0 ε ma)) (hg : Gl X "enumerate" := by rfl)
    (hs : starEach [a] X.env = (false, eval a X.env) :: starEach [] X.env := by rfl) (hs2 : starEach [a] X.env = [(false, eval a X.env)] := by rfl) :
    PI X (.Tuple elts kk tpos) (.Call (.Name "enumerate" p) [a] [] pos) (tI ⟨X.K, S, B⟩ H0 ε (mEnum ma)) :=
  imp_pi (pi_enum hg hm (pa_cons ha pa_nil hs) hs2) fun σ H Q ⟨ρ, n, k, R, m, q⟩ => ⟨ρ, n, _, R, m, fun d n1 v H1 m1 dv k1 b1 => by
    cases dv with
    | lst f hf =>
      rename_i a xs ds
      refine ⟨_, _, rfl, f.sq, q _ _ _ _ m1 ?_ k1 b1⟩
      have e : ∀ i : Nat, i < xs.length → (((List.range xs.length).map fun i => V.int (i : Nat))[i]?) = some (.int (i : Nat)) := fun i hi => by rw [List.getElem?_map, List.getElem?_range hi]; rfl
      have w := (walk_enum (K := X.K) (a := a) (xs := xs)).mono (Y' := YPair (fun i => ((List.range xs.length).map fun i => V.int (i : Nat))[i]?) (fun i => xs[i]?)) (fun _ z => z) fun i H x H' hi _ y => by
        obtain ⟨T, x1, y1, h1, h2, h3, h4, h5⟩ := y
        exact ⟨T, x1, y1, h1, h2, h3, (e i hi).trans h4, h5⟩
      have hd : DVs ⟨X.K, S, B⟩ H1 ((List.range xs.length).map fun i => V.int (i : Nat)) ((List.range ds.length).map fun i => D.int (i : Nat)) := by
        rw [hf.length]
        have := dvs_ints (c := ⟨X.K, S, B⟩) (H := H1) ((List.range ds.length).map fun (i : Nat) => (i : Int))
        rw [List.map_map, List.map_map] at this
        exact this
      exact it_two w (by simp) (fun _ z => (f.kw z).sq) hd hf
    | _ => exact m1.elim⟩
/-! ### range with a step -/
def range3D (i s : Int) (n : Nat) : List D := (List.range n).map fun t => .int (i + ((t : Nat) : Int) * s)
def mRange3 (ma mb mc : ME) : MA := fun ε ρ n k => ma ε ρ n fun d n1 => mb ε ρ n1 fun d' n2 => mc ε ρ n2 fun d3 n3 => match d, d', d3 with
  | .int i, .int j, .int s => ∃ z : Nat, RgC i j s z ∧ k (range3D i s z) n3
  | _, _, _ => False
theorem it_rangeC {c : Cc} {H : Hp} (lo s : Int) (n : Nat) : ItOk c H (Itc lo s n) (range3D lo s n) := by
  have h := dvs_ints (c := c) (H := H) ((List.range n).map fun t => lo + (t : Nat) * s)
  rw [List.map_map, List.map_map] at h
  refine ⟨.one _, fun _ => True, ?_, fun _ _ => True.intro, h⟩
  have w := walk_rangeC (lo := lo) (c := s) (n := n)
  show Walk _ (List.length _) _ _
  rw [List.length_map, List.length_range]
  refine w.mono (fun _ z => z) fun i H x H' hi _ y => ⟨y.1, ?_⟩
  rw [y.2, List.getElem?_map, List.getElem?_range hi]
  rfl
theorem di_range3 {tg e3 : Expr} {m3 : ME} {p : Pos} (hm : X.mg "range" = none) (ha : PE X a (tE c H0 ε ma)) (hb : PE X b (tE c H0 ε mb)) (hc : PE X e3 (tE c H0 ε m3)) (hg : Gl X "range" := by rfl) (hs : starEach [a, b, e3] X.env = (false, eval a X.env) :: starEach [b, e3] X.env := by rfl)
    (hs1 : starEach [b, e3] X.env = (false, eval b X.env) :: starEach [e3] X.env := by rfl) (hs2 : starEach [e3] X.env = (false, eval e3 X.env) :: starEach [] X.env := by rfl) (hpl : (backTo pos (starEach [b, e3] X.env)).any (·.1) = false := by rfl) :
    PI X tg (.Call (.Name "range" p) [a, b, e3] [] pos) (tI c H0 ε (mRange3 ma mb m3)) :=
  imp_pi (pi_range3 hg hm (pa_cons ha (pa_cons hb (pa_cons hc pa_nil hs2) hs1) hs) hs hpl) fun σ H Q ⟨ρ, n, k, R, m, q⟩ => ⟨ρ, n, _, R, m, fun d n1 v H1 m1 dv k1 b1 => ⟨ρ, n1, _, R.step k1 b1, m1, fun d' n2 w H2 m2 dw k2 b2 =>
    ⟨ρ, n2, _, R.step (k1.trans k2) b2, m2, fun d3 n3 u H3 m3 du k3 b3 => by
      match d, d', d3, m3 with
      | .int i, .int j, .int s, ⟨z, rg, mk⟩ =>
        cases opd_int dv; cases opd_int dw; cases opd_int du
        exact ⟨i, j, s, z, rfl, rg, q _ _ _ _ mk (it_rangeC i s z) ((k1.trans k2).trans k3) b3⟩⟩⟩⟩
/-! ### a starred item of a display or a call -/
def mStar (ma : ME) (mr : MA) : MA := fun ε ρ n k => ma ε ρ n fun d n1 => match d with
  | .lst xs => mr ε ρ n1 fun ds n2 => k (xs ++ ds) n2
  | .tup xs => mr ε ρ n1 fun ds n2 => k (xs ++ ds) n2
  | _ => False
theorem da_star {S : Sg} {B : Option (Addr × (Addr × List Int))} {es : List Expr} {p : Pos} {mr : MA} (ha : PE X a (tE ⟨X.K, S, B⟩ H0 ε ma)) (hr : PA X es (tA ⟨X.K, S, B⟩ H0 ε mr)) (hs : starEach (.Starred a p :: es) X.env = (true, eval a X.env) :: starEach es X.env := by rfl) : PA X (.Starred a p :: es) (tA ⟨X.K, S, B⟩ H0 ε (mStar ma mr)) :=
  imp_pa (StX.pa_star ha hr hs) fun σ H Q ⟨ρ, n, k, R, m, q⟩ => ⟨ρ, n, _, R, m, fun d n1 v H1 m1 dv k1 b1 => by
    cases dv with
    | lst f hf => exact ⟨_, _, rfl, .inr f.sq, ρ, n1, _, R.step k1 b1, m1, fun ds n2 vs H2 m2 dvs k2 b2 => q _ _ _ _ m2 ((hf.kw k2.kw).append dvs) (k1.trans k2) b2⟩
    | tup f hf => exact ⟨_, _, rfl, .inl f, ρ, n1, _, R.step k1 b1, m1, fun ds n2 vs H2 m2 dvs k2 b2 => q _ _ _ _ m2 ((hf.kw k2.kw).append dvs) (k1.trans k2) b2⟩
    | _ => exact m1.elim⟩
/-! ### while: by any number of turns -/
def whD (t : MT) (ms : MS) (ε : XD) : Nat → Ev → Nat → Pn → Prop
  | 0, _, _, _ => False
  | f + 1, ρ, n, P => t ε ρ n fun b n1 => if b = true then ms ε ρ n1 { nx := fun ρ' n' => whD t ms ε f ρ' n' P, rt := P.rt, bk := P.nx, ct := fun ρ' n' => whD t ms ε f ρ' n' P } else P.nx ρ n1
def mWhile (t : MT) (ms : MS) : MS := fun ε ρ n P => ∃ f, whD t ms ε f ρ n P
theorem ds_while {t : Expr} {body : List Stmt} {ta : MT} {ms : MS} (hp : PassesOwn (model X.prog X.w) X.A X.env X.xe) (ht : PT X t (tT c H0 ε ta)) (hb : PSs X body (tS c H0 ε ms)) : PS X (.While t body [] pos) (tS c H0 ε (mWhile ta ms)) := by
  refine imp_ps (ps_while hp ht hb) fun De σ H ⟨ρ, n, P, R, ⟨f, m⟩, h1, h2, h3, h4⟩ => ?_
  refine ⟨fun i σ' H' => ∃ ρ' n', Rel c H0 ρ' n' σ' H' ∧ Kw c H H' ∧ whD ta ms ε i ρ' n' P, ⟨f, ρ, n, R, Kw.refl _ _, m⟩, ?_⟩
  rintro i σ' H' ⟨ρ', n', R', k', w⟩
  cases i with
  | zero => exact w.elim
  | succ i =>
    refine ⟨ρ', n', _, R', w, fun b n2 H2 m2 k2 b2 => ?_⟩
    cases b with
    | false =>
      rw [if_neg (by decide)] at m2 ⊢
      exact h1 _ _ _ _ m2 (R'.step k2 b2) (k'.trans k2.kw)
    | true =>
      rw [if_pos rfl] at m2 ⊢
      refine ⟨fun σ3 H3 => ∃ ρ3 n3, Rel c H0 ρ3 n3 σ3 H3 ∧ Kw c H H3 ∧ whD ta ms ε i ρ3 n3 P, fun σ3 H3 z => ⟨i, Nat.lt_succ_self _, z⟩, ?_⟩
      refine ⟨ρ', n2, _, R'.step k2 b2, m2, ?_, ?_, ?_, ?_⟩
      · exact fun ρ3 n3 σ3 H3 a1 a2 a3 => ⟨ρ3, n3, a2, (k'.trans k2.kw).trans a3, a1⟩
      · exact h2
      · exact fun ρ3 n3 σ3 H3 a1 a2 a3 => h1 _ _ _ _ a1 a2 ((k'.trans k2.kw).trans a3)
      · exact fun ρ3 n3 σ3 H3 a1 a2 a3 => ⟨ρ3, n3, a2, (k'.trans k2.kw).trans a3, a1⟩
/-! ### max, min, & of two ints -/
def maxD : List D → Option D
  | [.int i, .int j] => some (.int (if j > i then j else i))
  | _ => none
def minD : List D → Option D
  | [.int i, .int j] => some (.int (if j < i then j else i))
  | _ => none
theorem cd_max : CallD c (fun xs H Q => ∃ i j, xs = [.int i, .int j] ∧ Q (.int (if j > i then j else i)) H) maxD := by
  intro xs ds d H Q hs e k
  unfold maxD at e
  split at e
  · cases e
    obtain ⟨v, w, rfl, h1, h2⟩ := dvs2 hs
    cases opd_int h1; cases opd_int h2
    exact ⟨_, _, rfl, k _ _ (.of (.int _)) (same_refl H)⟩
  · cases e
theorem cd_min : CallD c (fun xs H Q => ∃ i j, xs = [.int i, .int j] ∧ Q (.int (if j < i then j else i)) H) minD := by
  intro xs ds d H Q hs e k
  unfold minD at e
  split at e
  · cases e
    obtain ⟨v, w, rfl, h1, h2⟩ := dvs2 hs
    cases opd_int h1; cases opd_int h2
    exact ⟨_, _, rfl, k _ _ (.of (.int _)) (same_refl H)⟩
  · cases e
def bandD : D → D → Option D
  | .int a, .int b => some (.int (Builtin.bitAnd a b))
  | _, _ => none
theorem od_band : OpD c (rI0 fun i j => .int (Builtin.bitAnd i j)) bandD := by
  intro x y dx dy d H Q hx hy e k
  unfold bandD at e
  split at e
  · cases e
    cases opd_int hx; cases opd_int hy
    exact ⟨_, _, rfl, rfl, k _ _ (.of (.int _)) (same_refl H)⟩
  · cases e
theorem bb_max : bootBuiltins "max" = some (.builtin "max") := by decide +kernel
theorem bb_min : bootBuiltins "min" = some (.builtin "min") := by decide +kernel
end
end DS
namespace DS
open PySem PySem.Spec PyProof.Rows L2
/-! ### plain: the box's start -/
theorem sIx_le {n : Nat} {d : Nat} {i : Int} (h : 0 ≤ i) : HT.sIx n d (some i) ≤ i.toNat := by
  unfold HT.sIx
  simp only
  split <;> omega
theorem cut_ints (ns : List Int) (lo hi : Option Int) : ∃ cells : List Int, cutD (ns.map D.int) lo hi = cells.map D.int := by
  unfold cutD
  refine ⟨(ns.drop (HT.sIx (ns.map D.int).length 0 lo)).take (HT.sIx (ns.map D.int).length (ns.map D.int).length hi - HT.sIx (ns.map D.int).length 0 lo), ?_⟩
  rw [List.map_take, List.map_drop]
theorem comp_map {st : D → Nat → (Option D → Nat → Prop) → Prop} (f : D → D) (n : Nat) : ∀ (ds : List D) (k : List D → Nat → Prop), (∀ d ∈ ds, ∀ k : Option D → Nat → Prop, k (some (f d)) n → st d n k) → k (ds.map f) n → compD st ds n k
  | [], k, _, h => h
  | d :: ds, k, hs, h => hs d List.mem_cons_self _ (comp_map f n ds _ (fun d' hd => hs d' (List.mem_cons_of_mem _ hd)) h)
theorem quay_ok {ns : List Int} {kk : DK} (h : ∀ cells : List Int, kk (.lst (cells.map D.int)) 0) : mLc (mIter (mSl (mVar 0) mNoP (mPart (mC (.int 60))))) (gfName 1) [1] mYes (mArgs intD (mCons (mVar 1) mNil)) noX (rho 2 [.lst (ns.map D.int)]) 0 kk := by
  obtain ⟨cells, e⟩ := cut_ints ns none (some 60)
  refine ⟨?_, ?_⟩
  · unfold cutD
    rw [List.length_take]
    have := sIx_le (n := (ns.map D.int).length) (d := (ns.map D.int).length) (i := 60) (by decide)
    have h60 : (60 : Int).toNat = 60 := rfl
    omega
  · rw [e]
    refine comp_map (fun d => d) 0 _ _ (fun d hd k hk => ?_) ?_
    · obtain ⟨i, _, rfl⟩ := List.mem_map.mp hd
      exact hk
    · rw [List.map_id']
      exact h cells
/-! a module's constants -/
theorem dvs_flat {c : Cc} {H : Hp} : ∀ {ds : List D} {vs : List V}, flDs ds = some vs → DVs c H vs ds
  | [], _, e => by cases e; exact .nil
  | d :: ds, _, e => by
    rw [flDs] at e
    split at e
    · rename_i h1 h2
      cases e
      refine .cons ?_ (dvs_flat h2)
      cases d <;> first | (cases h1; first | exact .non | exact .bl _ | exact .int _ | exact .str _) | cases h1
    · cases e
theorem kdat_tup {K : PySem.W.Frag} {mg : Str → Option Value} {x : Str} {a : Addr} {oc : Value} {od : Option Addr} {its : Array Value} {n : Nat} {sl : Array (Option Value)} {ds : List D} {vs : List V} (m : mg x = some (.ref a)) (l : K.lookup a = some ⟨oc, od, .seq its n, sl⟩) (hc : oc = .type "tuple") (hz : its.size ≤ sizeLine)
    (hv : Vals vs its.toList) (hf : flDs ds = some vs) : KDat K mg x (.tup ds) := by
  subst hc
  exact ⟨_, .ref a, m, rfl, fun S B H => .tup (.inr ⟨_, its, n, l, rfl, rfl, hz, hv⟩) (dvs_flat hf)⟩
theorem kdat_flat {K : PySem.W.Frag} {mg : Str → Option Value} {x : Str} {u : Value} {d : D} {v : V} (m : mg x = some u) (hv : RelV v u) (hf : flDs [d] = some [v]) : KDat K mg x d :=
  ⟨u, v, m, hv, fun S B H => by cases dvs_flat (c := ⟨K, S, B⟩) (H := H) hf with | cons a _ => exact a⟩
/-! comprehensions by the places of their names -/
section
variable {X : Cx} {c : Cc} {H0 : Hp} {ε : XD} {tg iter : Expr} {pos : Pos} {mi : MA}
theorem de_lcV {elt : Expr} {ifs : List Expr} {scope : Scope} {own : List (Str × Nat)} {g : GF} {ts vs : List Nat} {tt : MT} {te : ME} (hc : X.calm = true) (hN : X.N.Nodup) (hi : PI X tg iter (tIc c H0 ε mi)) (ok : BlkOk X.N X.env.scope scope own) (hvs : own.map (·.2) = vs) (hts : ∀ i ∈ ts, i ∈ vs)
    (hg : ∀ (s : Shared) (H : Hp) (C : Addr) (cl : List (Str × Addr)) (fp : List Addr), PG (X.blk s H scope (compEnvC scope cl C X.env) fp) tg (tG c H0 ts g)) (ht : ∀ (s : Shared) (H : Hp) (C : Addr) (cl : List (Str × Addr)) (fp : List Addr), PTs (X.blk s H scope (compEnvC scope cl C X.env) fp) ifs (tT c H0 noX tt))
    (he : ∀ (s : Shared) (H : Hp) (C : Addr) (cl : List (Str × Addr)) (fp : List Addr), PE (X.blk s H scope (compEnvC scope cl C X.env) fp) elt (tE c H0 noX te)) (hs : ∀ x, foldedSetIterable iter X.env x = pure x := by intro _; rfl) :
    PE X (.ListComp elt [⟨tg, iter, ifs, 0⟩] scope pos) (tE c H0 ε (mLc mi g vs tt te)) := by
  subst hvs
  exact de_lc hc hN hi ok hts hg ht he hs
theorem ds_setLcV (i : Nat) {y : Str} {py : Pos} {spos : Pos} {elt : Expr} {ifs : List Expr} {scope : Scope} {own : List (Str × Nat)} {g : GF} {ts vs : List Nat} {tt : MT} {te : ME} (hc : X.calm = true) (hN : X.N.Nodup) (hy : X.N[i]? = some y) (hyl : X.env.scope.names.lookup y = some .local)
    (hsw : swapsWith (.ListComp elt [⟨tg, iter, ifs, 0⟩] scope pos) (some (.Name y py)) spos.line X.env = pure true) (hi : PI X tg iter (tIc c H0 ε mi)) (ok : BlkOk X.N X.env.scope scope own) (hvs : own.map (·.2) = vs) (hts : ∀ i ∈ ts, i ∈ vs)
    (hg : ∀ (s : Shared) (H : Hp) (C : Addr) (cl : List (Str × Addr)) (fp : List Addr), PG (X.blk s H scope (compEnvC scope cl C X.env) fp) tg (tG c H0 ts g)) (ht : ∀ (s : Shared) (H : Hp) (C : Addr) (cl : List (Str × Addr)) (fp : List Addr), PTs (X.blk s H scope (compEnvC scope cl C X.env) fp) ifs (tT c H0 noX tt))
    (he : ∀ (s : Shared) (H : Hp) (C : Addr) (cl : List (Str × Addr)) (fp : List Addr), PE (X.blk s H scope (compEnvC scope cl C X.env) fp) elt (tE c H0 noX te)) (hs : ∀ x, foldedSetIterable iter X.env x = pure x := by intro _; rfl) :
    PS X (.Assign [.Name y py] (.ListComp elt [⟨tg, iter, ifs, 0⟩] scope pos) spos) (tS c H0 ε (mAsg (gfName i) (mLc mi g vs tt te))) := by
  subst hvs
  exact ds_setLc i hc hN hy hyl hsw hi ok hts hg ht he hs
end
end DS
/-! # DataX1: own exceptions whose __init__ says super().__init__(..) and stores fields -/
namespace PySem
namespace DSX
open PySem.W PySem.Calls PyProof.Rows Builtin Builtin.ObjectAttr Builtin.Getset_descriptor
section
variable {prog : Program} {w : World} {A : Around} {E : Value → Shared → Prop} {s : Shared} {K : Frag} {R : Result → Shared → Prop} {C x : Addr} {oC : Obj} {v : Value}
/-- C.__name__, C a class of the text: the name that the class keeps -/
theorem cn_get {tp : Value} (X : K.In s.heap) (hC : K.lookup C = some oC) (ht : oC.cls = .type "type") (hs : oC.slots[2]? = some (some v)) (h : R (.ok (.ret v)) s) :
    codeAny (model prog w) A (.call (.builtin "getset_descriptor.__get__") ⟨[.builtin "type.__name__", .ref C, tp], []⟩) R s := by
  obtain ⟨hh, g, dr, t, os⟩ := s
  have hget : hh.get? C = some oC := X _ _ hC
  have L0 : Looks (model prog w) hh (typeOf (.ref C)) (.type "type") := fun A Q E s k q => wpAny_typeOf_ref (k _ _ hget) (by rw [ht]; exact q)
  have L1 : Looks (model prog w) hh (isSubtype (.type "type") (.type "type")) true := Looks.of_pure (by rw [isSubtype_type]; kernel_rfl)
  refine codeAny_call_builtin KF.slot_gs.plain KF.entry_gs (KF.slot_gs.check _ _ _ _ _ _ _ _ ktyn_type (KF.args_gs _ _ _) ?_)
  unfold Builtin.«getset_descriptor.__get__» descrGet
  rw [dga_obj]
  refine wpAny_bind (wpAny_pure ?_)
  unfold descrGetter descrCheckInstance descrNameAndClass isInstance
  simp only [ktyn_owner]
  repeat lk
  refine ⟨Code.quiet_builtin _ (by decide +kernel), codeAny_builtin ktyn_entry ?_⟩
  unfold Builtin.«type.__name__»
  dsimp only
  unfold Builtin.keptObject slotAt
  dsimp only
  refine wpAny_bind (wpAny_bind (wpAny_loadPart hget (wpAny_pure ?_)))
  rw [hs]
  show wpAny _ _ (ret v) _ _ _
  exact wpAny_pure h
/-- C.__name__ -/
theorem cls_name {nm : Str} {tk : Tok} {expr : Bool} {Q : Value → Shared → Prop} (X : K.In s.heap) (ho : nsIn K cStatics "thirdparty.any" = some none) (hC : K.lookup C = some oC) (ht : oC.cls = .type "type")
    (e : findCls K (.ref C) (.type "type") "__name__" = some (.get (.builtin "getset_descriptor.__get__") (.builtin "type.__name__") (.ref C) (.type "type"))) (hs : oC.slots[2]? = some (some (.str nm tk))) (h : Q (.str nm tk) { s with toks := s.toks + 1 }) :
    wpAny (model prog w) A (getAttr (.ref C) "__name__" expr) Q E s := by
  have hg : findIn K (.type "type") "__getattribute__" = some (some (.builtin "type.__getattribute__")) := type_tga
  have htt : typeIn K (.ref C) = some (.type "type") := by unfold typeIn; simp only [hC, Option.map_some, ht]
  refine cls_open X (looks_opaque X ho) (looks_typeIn X htt) hg (looks_hook X (r := none) (by rfl)) (by show subIn K _ _ = _; rfl) e ?_
  show wpAny _ _ (do ret (← holding [Value.builtin "type.__name__"] (call (.builtin "getset_descriptor.__get__") [.builtin "type.__name__", .ref C, .type "type"]))) _ _ _
  refine wpAny_bind (wpAny_holding (wpAny_call (cn_get (s := { s with toks := s.toks + 1 }) X hC ht hs ?_)))
  exact wpAny_pure (handed_on rfl h)
/-- e.__class__, e an exception without a dict -/
theorem exc_class {ox : Obj} {expr : Bool} {Q : Value → Shared → Prop} (X : K.In s.heap) (I : PySem.W.InstAt s.heap x ox C none) (T : L2.ExcC K C) (h : Q (.ref C) { s with toks := s.toks + 1 }) :
    wpAny (model prog w) A (getAttr (.ref x) "__class__" expr) Q E s := by
  have hf : findObj K C none "__class__" = some (.bind (.builtin "getset_descriptor.__get__") (.builtin "object.__class__")) := findObj_dataN (by obtain ⟨cd, hc, _⟩ := any_some T.hd; rw [hc]; rfl) T.ha T.hn T.ht
  obtain ⟨hp, g, d, t, os⟩ := s
  have L0 := I.type (M := model prog w)
  have L1 := looks_findIn (M := model prog w) X T.hg
  have L2 := looks_findIn (M := model prog w) X T.hk
  have L3 := looks_find (M := model prog w) X I hf
  have sub : Looks (model prog w) hp (isInstance (.ref x) (.type "BaseException")) true := L0.andThen (looks_subIn X T.hs)
  have hx0 : (expr && onTheHeap (Value.builtin "BaseException.__getattribute__")) = false := by cases expr <;> rfl
  have hx2 : (Value.builtin "BaseException.__getattribute__" == Value.builtin "object.__getattribute__") = false := by decide +kernel
  have hx1 : (onTheHeap (Value.ref C) && Value.builtin "BaseException.__getattribute__" == Value.builtin "object.__getattribute__") = false := by rw [hx2]; rfl
  unfold getAttr getAttrBy
  refine wpAny_bind (wpAny_mkText (wpAny_holding (wpAny_bind (L0.at (wpAny_bind (L1.at ?_))))))
  show wpAny _ _ (if (onTheHeap (Value.ref C) && Value.builtin "BaseException.__getattribute__" == Value.builtin "object.__getattribute__") = true then _ else _) _ _ _
  rw [hx1, if_neg Bool.false_ne_true]
  unfold getAttrByItsOwn hookBefore
  refine wpAny_bind ?_
  rw [if_pos (show onTheHeap (Value.ref C) = true from rfl)]
  refine L2.at ?_
  refine wpAny_bind (wpAny_attempt (wpAny_holding ?_))
  unfold callGetattribute
  rw [hx0, if_neg Bool.false_ne_true]
  unfold boundAndCalled
  rw [PySem.F.excAttr_ValueError.ga.bind (.ref x)]
  refine wpAny_bind (wpAny_pure ?_)
  show wpAny _ _ (call (.builtin "BaseException.__getattribute__") [.ref x, .str "__class__" t]) _ _ _
  refine wpAny_call (codeAny_call_builtin PySem.F.excAttr_ValueError.ga.plain PySem.F.entry_bexc_ga ?_)
  refine @check_slot (model prog w) _ _ ⟨hp, g, d, t + 1, os⟩ "BaseException.__getattribute__" "BaseException" "__getattribute__" (.ref x) [.str "__class__" t] [] _ (by decide +kernel) (by decide +kernel) sub (PySem.F.args_bexc_ga (.ref x) (.str "__class__" t)) ?_
  unfold Builtin.«object.__getattribute__»
  refine wpAny_bind (wpAny_of_eq (a := ((Value.ref x : Value), [Value.str "__class__" t])) (by first | rfl | (simp only [slotArgs]; rfl)) ?_)
  refine wpAny_bind (wpAny_pure (wpAny_bind (L0.at (wpAny_bind (L3.at ?_)))))
  show wpAny _ _ (holding [Value.builtin "object.__class__"] (call (.builtin "getset_descriptor.__get__") [.builtin "object.__class__", .ref x, .ref C]) >>= ret) _ _ _
  refine wpAny_bind (wpAny_holding (wpAny_call (class_get (s := ⟨hp, g, d, t + 1, os⟩) (ox := ox) (od := none) X I T.hm ?_)))
  refine wpAny_pure ?_
  show wpAny _ _ (handedOut (.ref C)) _ _ _
  rw [handedOut_of (v := .ref C) rfl]
  first
    | exact wpAny_pure h
    | exact wpAny_pure (wpAny_pure h)
end
section
variable {prog : Program} {w : World} {A : Around} {E : Value → Shared → Prop} {h : Heap} {g : Array GenState} {d : Drawn} {t : Nat} {os : OsState}
variable {nm q : Str} {C N : Addr} {bs bm : List Value} {hdct : Bool} {sn : List Str} {sub : List Value} {ab : Bool} {col : Option Bool} {dd : Option Addr} {k0 k1 k2 k3 k5 : Option Value}
/-- ValueError.__init__ bound to e, called -/
theorem call_mw {u e t0 : Addr} {rest : List Value} {Q : Value → Shared → Prop} (hbm : HandSPX.refsVE bm = true)
    (hC : h.get? C = some (excClassObj nm q C N bs bm hdct sn sub ab col dd k0 k1 k2 k3 k5 "ValueError.__new__")) (he : h.get? e = some (HandSPX.excO C t0)) (hu : h.get? u = some (kxs_mw "ValueError.__init__" e)) (hrest : rest.length ≤ sizeLine)
    (hq : ∀ h' t1, (∀ b o, b ≠ e → h.get? b = some o → h'.get? b = some o) → h'.get? e = some (HandSPX.excO C t1) → Q .none ⟨h', g, d, t, os⟩) :
    wpAny (model prog w) A (call (.ref u) rest) Q E ⟨h, g, d, t, os⟩ := by
  refine wpAny_call (codeAny_of_tree ?_)
  show wpAny _ A.in1 (callAny (.ref u) ⟨rest, []⟩) _ _ _
  simp only [callAny]
  refine wpAny_bind (wpAny_load hu ?_)
  simp only [kxs_mw, show (Value.type "method-wrapper" == Value.type "method" || Value.type "method-wrapper" == Value.type "builtin_function_or_method" || Value.type "method-wrapper" == Value.type "method-wrapper") = true by decide, if_true]
  refine KFB.if_so (by decide) ?_
  refine wpAny_bind (ESX.check_bound F.excBase_ValueError hC he rfl ?_)
  refine wpAny_bind (wpAny_pure (wpAny_pure ?_))
  refine ⟨Code.quiet_builtin _ (by decide +kernel), codeAny_builtin F.excBase_ValueError.initEntry ?_⟩
  rw [Around.under_plainId F.excBase_ValueError.init.plain _]
  wp_walk
  refine hq _ h.objs.size (fun b o hb ho => ?_) ?_
  · rw [Heap.get?_update_other _ _ (Ne.symm hb)]
    exact Heap.get?_push_of_some _ ho
  · rw [Heap.get?_update_self _ (Heap.get?_push_of_some _ he) rfl]
    rfl
end
end DSX
end PySem
/-! # DataX2: the __init__ of an own exception, run -/
namespace DS
open PySem PySem.Spec PyProof.Rows L2
/-- where super() stands -/
structure EnvI (X : Cx) (f cda cc : Addr) (slf : Str) : Prop where
  fu : X.env.func = some f
  co : X.env.code = .ref cda
  ce : X.env.cells.lookup ("__class__" : Str) = some cc
  ks : X.env.kindOf "super" = some .globalImplicit
  kc : X.env.kindOf "__class__" = some .free
  ka : X.env.kindOf slf = some .local
/-- what is written of an __init__ that says super() -/
structure IniC (P : Program) (K : PySem.W.Frag) (mg : Str → Option Value) (C D f cda cc : Addr) (fd : FuncData) (qual slf : Str) : Prop where
  fn : ∃ oc od osl, K.lookup f = some ⟨oc, od, .func fd, osl⟩
  ar : ∃ ar : Arg, (fd.params.posonlyargs ++ fd.params.args).head? = some ar ∧ ar.arg = slf
  rcd : PySem.W.codeIn K (.ref cda) qual = true
  code : ∃ ccl cdd vs ccs file tf, K.lookup cda = some ⟨ccl, cdd, .fields vs, ccs⟩ ∧ vs[2]? = some (.str file tf) ∧ ((P.main.file : Str) == file) = true
  cell : ∃ cl cld csl, K.lookup cc = some ⟨cl, cld, .cell (some (.ref D)), csl⟩
  clsD : (PySem.W.clsIn K D).isSome = true
  sub : PySem.W.mroIn K C (.ref D) = some true
  sup : mg "super" = none
  top : (P.main.scope.names.lookup ("super" : Str)).isSome = false
  opq : PySem.W.nsIn K cStatics "thirdparty.any" = some none
  ini : PySem.W.ks_superIn K C D "__init__" = some (some (.builtin "ValueError.__init__"))
  subV : PySem.W.subIn K (.ref C) (.type "ValueError") = some true
  oex : OexC K C
section
variable {X : Cx} {pins : List (Addr × Obj)} {σ : L2.St} {H : Hp} {s : Shared} {a C D f cda cc : Addr} {fd : FuncData} {qual slf : Str} {e : Expr} {te : TE} {p0 p1 p2 p3 p4 : Pos} {body : List Stmt} {pl : Sem Bool}
theorem pin_add {p : Addr × Obj} (I : Inv X pins σ H s) (h : s.heap.get? p.1 = some p.2 ∧ H p.1 = none ∧ p.1 ≠ X.env.locals ∧ p.1 ∉ X.fs ∧ ∀ v, p.2.data ≠ .cell v) : Inv X (p :: pins) σ H s :=
  ⟨I.ok, I.os, I.bare, I.base, I.loc, I.cell, I.free, I.freeC, fun q hq => by
    rcases List.mem_append.mp hq with hq | hq
    · exact I.pin q (List.mem_append_left _ hq)
    · rcases List.mem_cons.mp hq with e | hq
      · rw [e]; exact h
      · exact I.pin q (List.mem_append_right _ hq), I.hok, I.len⟩
theorem pin_drop {p : Addr × Obj} (I : Inv X (p :: pins) σ H s) : Inv X pins σ H s :=
  ⟨I.ok, I.os, I.bare, I.base, I.loc, I.cell, I.free, I.freeC, fun q hq => I.pin q (by
    rcases List.mem_append.mp hq with hq | hq
    · exact List.mem_append_left _ hq
    · exact List.mem_append_right _ (List.mem_cons_of_mem _ hq)), I.hok, I.len⟩
/-- super().__init__(e), the first statement -/
theorem super_first {Q : Flow → Shared → Prop} (S : IniC X.prog X.K X.mg C D f cda cc fd qual slf) (V : EnvI X f cda cc slf) (hN : X.N[0]? = some slf) (h0 : σ[0]? = some (some (.ref a))) (I : Inv X pins σ H s) (ea : H a = some (exo a C none))
    (ha : PE X e te) (hte : te σ H fun v H1 => 1 = 1 ∧ H1 = H) (hq : ∀ s', Inv X pins σ H s' → Q .next s')
    (hev : eval (.Call (.Attribute (.Call (.Name "super" p0) [] [] p1) "__init__" p2) [e] [] p3) X.env = (do
      let ov ← attributeBase (.Call (.Name "super" p0) [] [] p1) "__init__" X.env (eval (.Call (.Name "super" p0) [] [] p1) X.env)
      standAt p2.atName
      let (f, first) ← holding [ov] (getMethod ov "__init__" pl)
      callWith p3 f first (backTo p3 (starEach [e] X.env)) []))
    (he : starEach [e] X.env = [(false, eval e X.env)] := by rfl) :
    _root_.PySem.wpAt (model X.prog X.w) X.A (.func body X.env) (exec (.Expr (.Call (.Attribute (.Call (.Name "super" p0) [] [] p1) "__init__" p2) [e] [] p3) p4) X.env) Q X.xe s := by
  have KX := I.kIn
  obtain ⟨t1, ho⟩ := exo_at I.hok ea
  obtain ⟨nm, q, N, bs, bm, sn, sub, ab, col, dd, k0, k1, k2, k3, k5, hC, hbm⟩ := S.oex.cls
  obtain ⟨oc, od, osl, lf⟩ := S.fn
  obtain ⟨ar, har, rfl⟩ := S.ar
  obtain ⟨ccl, cdd, vs, ccs, file, tf, lc, hvs, hfile⟩ := S.code
  obtain ⟨cl, cld, csl, lcc⟩ := S.cell
  have J : PySem.W.InstAt s.heap a { cls := .ref C, dict := none, data := .fields #[.ref t1, .none, .none, .none, .bool false, .none] } C none := ⟨ho, rfl, rfl, trivial⟩
  obtain ⟨cdD, hcD⟩ := Option.isSome_iff_exists.mp S.clsD
  obtain ⟨oD, hD1, hD2⟩ : ∃ oD, s.heap.get? D = some oD ∧ oD.data = .cls cdD := by
    have hcD' := hcD
    unfold PySem.W.clsIn at hcD'
    split at hcD'
    · rename_i c d cd' sl ho'
      cases hcD'
      exact ⟨_, KX _ _ ho', rfl⟩
    · cases hcD'
  have hxC : a ≠ C := fun z => by
    have h1 := KX _ _ hC
    rw [← z, ho] at h1
    cases h1
  refine PySem.ks_wpAt_Expr_any (PySem.ks_wpAt_MethodCall (pl := pl) ?_ hev) I.quiet (by rfl)
  refine PySem.ks_wpAt_super_base V.ks V.kc (by decide) V.fu (KX _ _ lf) rfl har V.co (KX _ _ lc) rfl hvs hfile S.top ?_
  obtain ⟨mb, hb1, hb2⟩ := I.mod.blt
  refine PySem.W.ks_loadName_global I.ok.kind V.ks (Calls.loadGlobal_builtin (by rw [I.ok.glob]; exact I.mod.glob.keeps I.bk) S.sup (by rw [I.ok.blt]; exact hb1.keeps I.bk) (show mb "super" = some (.type "super") from (hb2 "super" (by decide +kernel)).trans (by first | exact PyProof.Rows.Boot.super | rfl | kernel_rfl)) ⟨rfl, ?_⟩)
  refine wpAny_loadName_free I.ok.kind V.kc V.ce ⟨_, KX _ _ lcc, rfl⟩ ?_
  obtain ⟨m, hns, hl⟩ := id I.loc
  obtain ⟨u, ru, lk⟩ := hl 0 _ (.ref a) hN h0 (.inl V.ka)
  obtain rfl : u = Value.ref a := ru
  have hm : m ar.arg = some (.ref a) := by
    rcases lk with ⟨_, h⟩ | ⟨h, _⟩
    · exact h
    · rw [V.ka] at h
      rcases h with h | h <;> cases h
  refine wpAny_loadName_local I.ok.kind V.ka hns hm ?_
  refine PySem.ks_wpAny_isType_cls hD1 hD2 ⟨rfl, ?_⟩
  obtain ⟨hp, g, d, t, os⟩ := s
  refine PySem.ks_wpAny_call_super hD1 hD2 ho rfl (fun c z => by cases z) (PySem.W.looks_mroIn KX S.sub) (fun h' eso k => ?_)
  have I1 : Inv X pins σ H ⟨h', g, d, t, os⟩ := I.kept (t' := t) k
  have hsI := S.ini
  unfold PySem.W.ks_superIn at hsI
  obtain ⟨cd, hc, hal⟩ := Option.bind_eq_some_iff.mp hsI
  have J1 : PySem.W.InstAt h' a { cls := .ref C, dict := none, data := .fields #[.ref t1, .none, .none, .none, .bool false, .none] } C none := ⟨k _ _ ho, rfl, rfl, trivial⟩
  refine PySem.W.kxs_getMethod PySem.W.kxs_ValueError eso (PySem.W.looks_opaque I1.kIn S.opq) (l₀ := cd.mro) (fun A Q E s k q => wpAny_bind ((PySem.W.looks_clsIn I1.kIn hc) A _ E s k (wpAny_pure q))) rfl I1.kIn hal (J1.type.andThen (PySem.W.looks_subIn I1.kIn S.subV)) hxC (by decide) ?_
  have I2 : Inv X pins σ H ⟨h'.push (PySem.W.kxs_mw "ValueError.__init__" a), g, d, t + 1, os⟩ := I1.kept (t' := t + 1) fun b o z => Heap.get?_push_of_some _ z
  have hu : (h'.push (PySem.W.kxs_mw "ValueError.__init__" a)).get? h'.objs.size = some (PySem.W.kxs_mw "ValueError.__init__" a) := Heap.get?_push_at rfl rfl
  have I2p : Inv X ((h'.objs.size, PySem.W.kxs_mw "ValueError.__init__" a) :: pins) σ H ⟨h'.push (PySem.W.kxs_mw "ValueError.__init__" a), g, d, t + 1, os⟩ :=
    pin_add I2 ⟨hu, I1.hok.fresh (Nat.le_refl _), Nat.ne_of_gt I1.lt, I1.nofs (Nat.le_refl _), fun v z => by cases z⟩
  show wpAny _ _ (callWith p3 (.ref h'.objs.size) [] (backTo p3 (starEach [e] X.env)) []) _ _ _
  rw [he]
  refine PySem.W.kxs_callWith (i := "ValueError.__init__") (x := a) (by rfl) (Calls.evalArgs_plain ?_)
  have pa : PA X [e] (tCons te tNil) := pa_cons ha pa_nil (hs := by rw [he]; rfl)
  have run := pa.run p3 _ _ σ H (fun vs H1 => vs.length = 1 ∧ H1 = H) I2p hte
  rw [he] at run
  refine wpAny_mono run (fun us s3 ⟨vs3, H3, I3, r3, l3, e3⟩ => ?_) fun _ _ z => z
  subst e3
  have hu3 := (I3.pin (h'.objs.size, PySem.W.kxs_mw "ValueError.__init__" a) (List.mem_append_right _ List.mem_cons_self)).1
  obtain ⟨t3, ho3⟩ := exo_at I3.hok ea
  obtain ⟨hp3, g3, d3, tk3, os3⟩ := s3
  refine ⟨hu3, ?_⟩
  refine PySem.DSX.call_mw hbm (I3.kIn _ _ hC) ho3 hu3 (by show us.length ≤ _; rw [← r3.length, l3, sizeLine_eq]; omega) fun h4 t4 k4 e4 => ?_
  have J4 := I3.write (t' := tk3) (x := a) (e := a) (o := exo a C none) (by rw [ea]; exact True.intro) (.inl rfl) k4 ⟨_, e4⟩ (exo_ok e4)
  have eu : upd H3 a (exo a C none) = H3 := by
    funext b
    by_cases hb : b = a
    · rw [hb, upd_same, ea]
    · rw [upd_ne hb]
  rw [eu] at J4
  exact hq _ (pin_drop J4)
end
end DS
/-! # DataX3: the promise of such an __init__ -/
namespace DS
open PySem PySem.Spec PyProof.Rows L2
abbrev ienv (qual : Str) (scope : Scope) (L f : Addr) (cd : Value) (cc : Addr) : Env := PySem.W.envX qual scope L f cd [("__class__", cc)]
/-- the context of a method that says super(): its one cell is the class's -/
def icx (CX : CXT) (P : Program) (w : World) (K : PySem.W.Frag) (mg : Str → Option Value) (base : Heap) (N : List Str) (qual : Str) (scope : Scope) (f : Addr) (cd : Value) (cc : Addr) (A : Around) (outer : List Env) (s : Shared) (H : Hp) (E : XK) : Cx where
  prog := P
  w := w
  K := K
  mg := mg
  base := base
  A := A.deeper (ienv qual scope s.heap.objs.size f cd cc)
  N := N
  s_0 := s
  H_0 := H
  env := ienv qual scope s.heap.objs.size f cd cc
  outer := outer
  stack := ienv qual scope s.heap.objs.size f cd cc :: outer
  ex := []
  calm := true
  fn := fun _ => false
  pn := []
  xe := fun e s' => wpAny (model P w) (A.deeper (ienv qual scope s.heap.objs.size f cd cc)) (leaving (ienv qual scope s.heap.objs.size f cd cc) e) (fun _ s'' => CX outer H s E e s'') (fun e' s'' => CX outer H s E e' s'') s'
theorem lookup_nodup {α β : Type} [BEq α] [LawfulBEq α] {l : List (α × β)} {x : α} {v : β} (nd : (l.map (·.1)).Nodup) (h : (x, v) ∈ l) : l.lookup x = some v := by
  induction l with
  | nil => cases h
  | cons p l ih =>
    obtain ⟨y, u⟩ := p
    rw [List.map_cons, List.nodup_cons] at nd
    rcases List.mem_cons.mp h with e | h
    · cases e
      simp [List.lookup]
    · have ne : x ≠ y := fun z => nd.1 (by rw [← z]; exact List.mem_map.mpr ⟨_, h, rfl⟩)
      have : (x == y) = false := by simpa using ne
      rw [List.lookup_cons, this]
      exact ih nd.2 h
theorem zip_at {α β : Type} {xs : List α} {ys : List β} {i : Nat} {x : α} {y : β} (h1 : xs[i]? = some x) (h2 : ys[i]? = some y) : (x, y) ∈ xs.zip ys := by
  have : (xs.zip ys)[i]? = some (x, y) := by rw [List.getElem?_zip_eq_some]; exact ⟨h1, h2⟩
  exact List.mem_of_getElem? this
theorem zip_keys {α β : Type} {xs : List α} {ys : List β} (nd : xs.Nodup) : ((xs.zip ys).map (·.1)).Nodup := by
  refine List.Nodup.sublist ?_ nd
  induction xs generalizing ys with
  | nil => simp
  | cons x xs ih => cases ys with
    | nil => simp
    | cons y ys => simpa using ih (List.nodup_cons.mp nd).2
/-- what the names of such a method are -/
structure ISc (N ps : List Str) (sc : Scope) (slf : Str) : Prop where
  kind : sc.kind = .function
  co : sc.isCoroutine = false
  gen : sc.isGenerator = false
  nd : N.Nodup
  pre : N.take ps.length = ps
  par : ∀ x ∈ ps, sc.names.lookup x = some .local
  nocell : ∀ y ∈ sc.names, y.2 ≠ .cell
  free : ∀ y ∈ sc.names, y.2 = .free → y.1 = ("__class__" : Str)
  ks : sc.names.lookup ("super" : Str) = some .globalImplicit
  kc : sc.names.lookup ("__class__" : Str) = some .free
  ka : sc.names.lookup slf = some .local
  s0 : N[0]? = some slf
theorem icx_start {CX : CXT} {P : Program} {w : World} {K : PySem.W.Frag} {mg : Str → Option Value} {base : Heap} {N ps : List Str} {qual slf : Str} {scope : Scope} {f cc D : Addr} {cl : Value} {cld : Option Addr} {csl : Array (Option Value)} {cd : Value} {A : Around} {outer : List Env} {s : Shared} {H : Hp} {E : XK} {us : List Value} {vs : List V}
    {h₀ : Heap} {tk : Nat} (S : ISc N ps scope slf) (hd : A.handled = none) (e0 : Env0 P w K mg base A outer s H) (hl : vs.length = ps.length) (r : Vals vs us) (lcc : K.lookup cc = some ⟨cl, cld, .cell (some (.ref D)), csl⟩)
    (hns : h₀.Ns s.heap.objs.size fun x => (ps.zip us).reverse.lookup x) (kp : ∀ b o, s.heap.get? b = some o → h₀.get? b = some o) :
    Inv (icx CX P w K mg base N qual scope f cd cc A outer s H E) [] (start N vs) H { s with heap := h₀, toks := tk } := by
  have hpl : ps.length ≤ N.length := by have := congrArg List.length S.pre; rw [List.length_take] at this; omega
  have noA : ∀ b : Addr, b ∉ (icx CX P w K mg base N qual scope f cd cc A outer s H E).ex := fun b z => absurd (show b ∈ ([] : List Addr) from z) (by simp)
  have one : ∀ {y : Str} {c : Addr}, [(("__class__" : Str), cc)].lookup y = some c → y = "__class__" ∧ c = cc := fun {y c} h => by
    have hm := PySem.mem_of_lookup h
    rcases List.mem_cons.mp hm with e | e
    · cases e; exact ⟨rfl, rfl⟩
    · cases e
  have bcc := e0.mod.kin cc _ lcc
  have hcc : s.heap.get? cc = some ⟨cl, cld, .cell (some (.ref D)), csl⟩ := (e0.bs _ _ bcc).1
  have ndP : ps.Nodup := by rw [← S.pre]; exact S.nd.sublist (List.take_sublist _ _)
  refine ⟨⟨e0.mod, S.kind, rfl, rfl, Nat.le_refl _, fun y z c h1 h2 => ?_, fun y hy => ?_, fun y c z _ => ?_, fun _ => hd, Around.frames_deeper e0.frames, .inr ⟨rfl, rfl⟩, fun b z => absurd z (noA b), e0.bs, e0.bsz, fun b _ _ => noA b, fun b z => absurd z (noA b), e0.funs, e0.frf⟩,
    rfl, e0.bare, Un.kept kp, ⟨_, hns, fun i y v h1 h2 h3 => ?_⟩, fun y c h => ?_, e0.hok.fresh (Nat.le_refl _), fun y c h => ?_, fun p hp => absurd (show p ∈ ([] : List (Addr × Obj)) from hp) (by simp), e0.hok.kept kp, ?_⟩
  · rw [(one h1).1, (one h2).1]
  · have hy : scope.names.lookup y = some .cell ∨ scope.names.lookup y = some .free := hy
    rcases hy with hy | hy
    · exact absurd rfl (S.nocell _ (PySem.mem_of_lookup hy))
    · have := S.free _ (PySem.mem_of_lookup hy) rfl
      dsimp only at this
      subst this
      exact ⟨cc, by simp [icx, List.lookup]⟩
  · have z : false = true := z
    cases z
  · have hi : i < vs.length := by
      unfold L2.start at h2
      by_cases hi : i < vs.length
      · exact hi
      · rw [List.getElem?_append_right (by simpa using hi)] at h2
        rw [List.getElem?_replicate] at h2
        split at h2 <;> cases h2
    have ha : vs[i]? = some v := by
      unfold L2.start at h2
      rw [List.getElem?_append_left (by simpa using hi), List.getElem?_map] at h2
      cases e : vs[i]? with
      | none => rw [e] at h2; cases h2
      | some a => rw [e] at h2; cases h2; rfl
    obtain ⟨u, hu, rv⟩ := r.get ha
    have hp : ps[i]? = some y := by
      rw [← S.pre, List.getElem?_take_of_lt (by omega)]; exact h1
    refine ⟨u, rv, .inl ⟨S.par y (List.mem_of_getElem? hp), ?_⟩⟩
    refine lookup_nodup ?_ (List.mem_reverse.mpr (zip_at hp hu))
    rw [List.map_reverse]
    exact List.pairwise_reverse.mpr ((zip_keys ndP).imp fun h => Ne.symm h)
  · rw [(one h).2]
    exact ⟨_, _, kp _ _ hcc, rfl⟩
  · rw [(one h).2]
    exact (e0.bs _ _ bcc).2
  · unfold L2.start
    show _ = N.length
    rw [List.length_append, List.length_map, List.length_replicate]
    omega
theorem fn_super {CX : CXT} {P : Program} {w : World} {K : PySem.W.Frag} {mg : Str → Option Value} {base : Heap} {k : Nat} {C D f cda cc : Addr} {qual slf : Str} {params : Arguments} {rest : List Stmt} {scope : Scope} {dV kV doc pm ct oc : Value} {an od : Option Addr} {osl : Array (Option Value)}
    {N ps : List Str} {sp : Sp} {e : Expr} {te : TE} {t : TS} {p0 p1 p2 p3 p4 : Pos} {pl : Sem Bool}
    (lk : K.lookup f = some ⟨oc, od, .func (PySem.W.ksFn "__init__" qual params (.Expr (.Call (.Attribute (.Call (.Name "super" p0) [] [] p1) "__init__" p2) [e] [] p3) p4 :: rest) scope dV kV doc pm an (.ref cda) ct cc), osl⟩)
    (S : IniC P K mg C D f cda cc (PySem.W.ksFn "__init__" qual params (.Expr (.Call (.Attribute (.Call (.Name "super" p0) [] [] p1) "__init__" p2) [e] [] p3) p4 :: rest) scope dV kV doc pm an (.ref cda) ct cc) qual slf) (Sc : ISc N ps scope slf)
    (ha : ∀ (A : Around) (out : List Env) (s : Shared) (H : Hp) (E : XK), PE (icx CX P w K mg base N qual scope f (.ref cda) cc A out s H E) e te)
    (hr : ∀ (A : Around) (out : List Env) (s : Shared) (H : Hp) (E : XK), PSs (icx CX P w K mg base N qual scope f (.ref cda) cc A out s H E) rest t)
    (hsp : ∀ vs H Q E, sp vs H Q E → vs.length = ps.length ∧ ∃ a ws, vs = .ref a :: ws ∧ H a = some (exo a C none) ∧ te (start N vs) H (fun _ H1 => 1 = 1 ∧ H1 = H) ∧ t { nx := fun _ H' => Q .non H', rt := Q } (start N vs) H)
    (hev : ∀ L, eval (.Call (.Attribute (.Call (.Name "super" p0) [] [] p1) "__init__" p2) [e] [] p3) (ienv qual scope L f (.ref cda) cc) = (do
      let ov ← attributeBase (.Call (.Name "super" p0) [] [] p1) "__init__" (ienv qual scope L f (.ref cda) cc) (eval (.Call (.Name "super" p0) [] [] p1) (ienv qual scope L f (.ref cda) cc))
      standAt p2.atName
      let (g, first) ← holding [ov] (getMethod ov "__init__" pl)
      callWith p3 g first (backTo p3 (starEach [e] (ienv qual scope L f (.ref cda) cc))) []))
    (he : ∀ L, starEach [e] (ienv qual scope L f (.ref cda) cc) = [(false, eval e (ienv qual scope L f (.ref cda) cc))]) :
    FnOk P w K mg base CX (k + 1) f (PySem.W.ksFn "__init__" qual params (.Expr (.Call (.Attribute (.Call (.Name "super" p0) [] [] p1) "__init__" p2) [e] [] p3) p4 :: rest) scope dV kV doc pm an (.ref cda) ct cc) ps sp := by
  refine ⟨fun vs H Q E q => (hsp vs H Q E q).1, fun A outer s H args us vs Q E hrm e0 hb r q => ?_⟩
  obtain ⟨hl, a, ws, ev, ea, q1, q2⟩ := hsp vs H Q E q
  have there : ∀ b o, base.get? b = some o → s.heap.get? b = some o := fun b o e => (e0.bs b o e).1
  have inS : K.In s.heap := e0.mod.kin.keeps there
  obtain ⟨cl, cld, csl, lcc⟩ := S.cell
  refine PySem.ks_codeAny_call_defAt hrm.depth (inS _ _ lk) rfl (e0.mod.nolimit.keeps there) (PySem.W.codeRec_of inS S.rcd) rfl hb Sc.nocell (fun y hy => Sc.par y.1 (List.of_mem_zip hy).1) (fun h₀ hns kp => ?_) Sc.co Sc.gen Sc.kind
  have I : Inv (icx CX P w K mg base N qual scope f (.ref cda) cc A outer s H E) [] (start N vs) H { s with heap := h₀, toks := s.toks + (ps.zip us).length } := icx_start Sc hrm.hd e0 hl r lcc hns kp
  have VI : EnvI (icx CX P w K mg base N qual scope f (.ref cda) cc A outer s H E) f cda cc slf := ⟨rfl, rfl, by simp [icx, List.lookup], Sc.ks, Sc.kc, Sc.ka⟩
  have h0 : (start N vs)[0]? = some (some (.ref a)) := by rw [ev]; rfl
  refine PySem.ks_wpAt_execs_cons (super_first (X := icx CX P w K mg base N qual scope f (.ref cda) cc A outer s H E) S VI Sc.s0 h0 I ea (ha A outer s H E) q1 (fun s' I' => ?_) (hev _) (he _))
  refine wpAt_of_wpAny (wpAny_mono ((hr A outer s H E).run [] s' (start N vs) H _ I' q2) (fun fl s'' hs => ?_) (fun _ _ z => z))
  match fl, hs with
  | .ret u, ⟨v, σ', H', J, rv, q⟩ => exact ⟨v, H', J.os, J.bare, J.base, J.hok, rv, q⟩
  | .next, ⟨σ', H', J, q⟩ => exact ⟨V.non, H', J.os, J.bare, J.base, J.hok, rfl, q⟩
  | .brk, ⟨_, _, _, q⟩ => exact q.elim
  | .cont, ⟨_, _, _, q⟩ => exact q.elim
end DS
/-! # DataX4: raise C(x), C an own exception whose __init__ names the class to super() and keeps x -/
namespace DS
open PySem PySem.Spec PyProof.Rows L2
/-- what is written of the name of an exception's class -/
structure NmC (K : PySem.W.Frag) (C : Addr) (nm : Str) : Prop where
  opq : PySem.W.nsIn K cStatics "thirdparty.any" = some none
  ex : ExcC K C
  cls : ∃ oC tk, K.lookup C = some oC ∧ oC.cls = .type "type" ∧ oC.slots[2]? = some (some (.str nm tk))
  fc : PySem.W.findCls K (.ref C) (.type "type") "__name__" = some (.get (.builtin "getset_descriptor.__get__") (.builtin "type.__name__") (.ref C) (.type "type"))
def tNm (K : PySem.W.Frag) : TE := fun σ H Q => ∃ a C nm, σ[0]? = some (some (.ref a)) ∧ H a = some (exo a C none) ∧ NmC K C nm ∧ Q (.str nm) H
/-- self.__class__.__name__, self an exception that is being made -/
theorem pe_nm {X : Cx} {slf : Str} {q0 q1 q2 : Pos} (hN : X.N[0]? = some slf) (hv : Vis X.env.scope slf) (hd : (slf == ("__debug__" : Str)) = false) (hcd : (slf == ("__classdict__" : Str)) = false)
    (h1 : attributeBase (.Name slf q0) "__class__" X.env (eval (.Name slf q0) X.env) = eval (.Name slf q0) X.env)
    (h2 : attributeBase (.Attribute (.Name slf q0) "__class__" q1) "__name__" X.env (eval (.Attribute (.Name slf q0) "__class__" q1) X.env) = eval (.Attribute (.Name slf q0) "__class__" q1) X.env) :
    PE X (.Attribute (.Attribute (.Name slf q0) "__class__" q1) "__name__" q2) (tNm X.K) := by
  refine ⟨fun pins s σ H Q I ⟨a, C, nm, h0, ea, T, q⟩ => ?_⟩
  refine attr_of h2 (attr_of h1 (thn ((pe_var (pos := q0) hN hv hd hcd).run pins s σ H (fun v H1 => v = .ref a ∧ H1 = H) I ⟨.ref a, h0, rfl, rfl⟩) fun u s1 ⟨v, H1, I1, r1, q1⟩ => ?_))
  obtain ⟨rfl, rfl⟩ := q1
  obtain rfl : u = Value.ref a := r1
  obtain ⟨t1, ho⟩ := exo_at I1.hok ea
  obtain ⟨oC, tk, c1, c2, c3⟩ := T.cls
  refine PySem.DSX.exc_class I1.kIn ⟨ho, rfl, rfl, trivial⟩ T.ex ?_
  exact PySem.DSX.cls_name (I1.tok _).kIn T.opq c1 c2 T.fc c3 ⟨.str nm, H1, (I1.tok _).tok _, ⟨tk, rfl⟩, q⟩
/-- what such an __init__ keeps: self.f = x -/
def spI (C : Addr) (f : Str) : Sp := fun vs H Q _ => ∃ a y, vs = [.ref a, y] ∧ H a = some (exo a C none) ∧ ∀ dx, H dx = none → dx ≠ a → Q .non (upd (upd H dx (exd dx [(f, y)])) a (exo a C (some dx)))
theorem fn_ini1 {CX : CXT} {P : Program} {w : World} {K : PySem.W.Frag} {mg : Str → Option Value} {base : Heap} {k : Nat} {C D f cda cc : Addr} {qual slf px fld nm : Str} {params : Arguments} {scope : Scope} {dV kV doc pm ct oc : Value} {an od : Option Addr} {osl : Array (Option Value)}
    {N : List Str} {p0 p1 p2 p3 p4 q0 q1 q2 r0 r1 r2 r3 : Pos} {pl : Sem Bool}
    (lk : K.lookup f = some ⟨oc, od, .func (PySem.W.ksFn "__init__" qual params [.Expr (.Call (.Attribute (.Call (.Name "super" p0) [] [] p1) "__init__" p2) [.Attribute (.Attribute (.Name slf q0) "__class__" q1) "__name__" q2] [] p3) p4, .Assign [.Attribute (.Name slf r0) fld r1] (.Name px r2) r3] scope dV kV doc pm an (.ref cda) ct cc), osl⟩)
    (S : IniC P K mg C D f cda cc (PySem.W.ksFn "__init__" qual params [.Expr (.Call (.Attribute (.Call (.Name "super" p0) [] [] p1) "__init__" p2) [.Attribute (.Attribute (.Name slf q0) "__class__" q1) "__name__" q2] [] p3) p4, .Assign [.Attribute (.Name slf r0) fld r1] (.Name px r2) r3] scope dV kV doc pm an (.ref cda) ct cc) qual slf)
    (Sc : ISc N [slf, px] scope slf) (T : NmC K C nm) (hno : PySem.W.findIn K (.ref C) fld = some none) (h1 : N[1]? = some px)
    (d0 : (slf == ("__debug__" : Str)) = false) (d1 : (slf == ("__classdict__" : Str)) = false) (d2 : (px == ("__debug__" : Str)) = false) (d3 : (px == ("__classdict__" : Str)) = false)
    (a1 : ∀ L, attributeBase (.Name slf q0) "__class__" (ienv qual scope L f (.ref cda) cc) (eval (.Name slf q0) (ienv qual scope L f (.ref cda) cc)) = eval (.Name slf q0) (ienv qual scope L f (.ref cda) cc))
    (a2 : ∀ L, attributeBase (.Attribute (.Name slf q0) "__class__" q1) "__name__" (ienv qual scope L f (.ref cda) cc) (eval (.Attribute (.Name slf q0) "__class__" q1) (ienv qual scope L f (.ref cda) cc)) = eval (.Attribute (.Name slf q0) "__class__" q1) (ienv qual scope L f (.ref cda) cc))
    (hsw : ∀ L, swapsWith (.Name px r2) (some (.Attribute (.Name slf r0) fld r1)) r3.line (ienv qual scope L f (.ref cda) cc) = pure false)
    (hev : ∀ L, eval (.Call (.Attribute (.Call (.Name "super" p0) [] [] p1) "__init__" p2) [.Attribute (.Attribute (.Name slf q0) "__class__" q1) "__name__" q2] [] p3) (ienv qual scope L f (.ref cda) cc) = (do
      let ov ← attributeBase (.Call (.Name "super" p0) [] [] p1) "__init__" (ienv qual scope L f (.ref cda) cc) (eval (.Call (.Name "super" p0) [] [] p1) (ienv qual scope L f (.ref cda) cc))
      standAt p2.atName
      let (g, first) ← holding [ov] (getMethod ov "__init__" pl)
      callWith p3 g first (backTo p3 (starEach [.Attribute (.Attribute (.Name slf q0) "__class__" q1) "__name__" q2] (ienv qual scope L f (.ref cda) cc))) []))
    (he : ∀ L, starEach [.Attribute (.Attribute (.Name slf q0) "__class__" q1) "__name__" q2] (ienv qual scope L f (.ref cda) cc) = [(false, eval (.Attribute (.Attribute (.Name slf q0) "__class__" q1) "__name__" q2) (ienv qual scope L f (.ref cda) cc))]) :
    FnOk P w K mg base CX (k + 1) f (PySem.W.ksFn "__init__" qual params [.Expr (.Call (.Attribute (.Call (.Name "super" p0) [] [] p1) "__init__" p2) [.Attribute (.Attribute (.Name slf q0) "__class__" q1) "__name__" q2] [] p3) p4, .Assign [.Attribute (.Name slf r0) fld r1] (.Name px r2) r3] scope dV kV doc pm an (.ref cda) ct cc) [slf, px] (spI C fld) :=
  fn_super (te := tNm K) (t := tOst K fld (tVar 0) (tVar 1)) lk S Sc (fun A out s H E => pe_nm Sc.s0 (.inl Sc.ka) d0 d1 (a1 _) (a2 _))
    (fun A out s H E => pss_one (ps_ost (X := icx CX P w K mg base N qual scope f (.ref cda) cc A out s H E) (to := tVar 0) (te := tVar 1) (pe_var Sc.s0 (.inl Sc.ka) d0 d1) (pe_var h1 (.inl (Sc.par px (by simp))) d2 d3) (hsw _)))
    (fun vs H Q E ⟨a, y, ev, ea, q⟩ => ⟨by rw [ev]; rfl, a, [y], ev, ea, ⟨a, C, nm, by rw [ev]; rfl, ea, T, rfl, rfl⟩, y, by rw [ev]; rfl, .ref a, by rw [ev]; rfl, a, C, rfl, S.oex, hno, .inl ⟨ea, q⟩⟩) hev he
/-- an own exception class that the text raises with one value -/
structure Exn (P : Program) (w : World) (K : PySem.W.Frag) (mg : Str → Option Value) (base : Heap) (S : Sg) (x fld : Str) (k : Nat) : Prop where
  ex : ∃ C fI fd ps, OexC K C ∧ PySem.W.findIn K (.ref C) "__init__" = some (some (.ref fI)) ∧ PySem.W.typeIn K (.ref fI) = some (.type "function") ∧ FnOk P w K mg base (L2.CX P w) k fI fd ps (spI C fld) ∧ L2.Binds K fd ps [] ∧ mg x = some (.ref C) ∧ S.cn C = some x
def mRaise (nm fld : Str) (ma : ME) : MS := fun ε ρ n _ => ma ε ρ n fun d n1 => ε nm [(fld, d)] n1
theorem ds_raise {X : Cx} {S : Sg} {B : Option (Addr × (Addr × List Int))} {H0 : Hp} {ε : XD} {ma : ME} {x fld : Str} {k : Nat} {e : Expr} {p pos rpos : Pos} (N : Exn X.prog X.w X.K X.mg X.base S x fld k) (hr : Room (k + 1) X.A) (hc : X.calm = true) (hx : XL X ⟨X.K, S, B⟩ H0 ε)
    (he : PE X e (tE ⟨X.K, S, B⟩ H0 ε ma)) (hg : Gl X x := by rfl) (hdb : (x == ("__debug__" : Str)) = false := by decide) (s0 : starEach [e] X.env = (false, eval e X.env) :: starEach [] X.env := by rfl) (hpl : (backTo pos (starEach [] X.env)).any (·.1) = false := by rfl) :
    PS X (.Raise (some (.Call (.Name x p) [e] [] pos)) none rpos) (tS ⟨X.K, S, B⟩ H0 ε (mRaise x fld ma)) := by
  obtain ⟨C, fI, fd, ps, T, iC, tI, F1, hb, hm, hcn⟩ := N.ex
  refine imp_ps (ps_raise hc hx (pmk_oex T iC tI F1 hr hb .nil passF hg hm (pa_cons he pa_nil s0) hdb s0 hpl)) fun De σ H ⟨ρ, n, P, R, m, _⟩ => ?_
  refine ⟨ρ, n, _, R, m, fun d n1 v H1 m1 dv k1 b1 => ⟨by show 1 ≤ 1000; decide, fun a ha => ?_⟩⟩
  refine ⟨a, v, rfl, upd_same, fun dx hdx nda => ⟨rfl, dx, [(fld, v)], upd_same, ?_, ?_, ?_⟩⟩
  · rw [upd_ne nda, upd_same]
  · rw [upd_ne nda] at hdx; exact hdx
  · rw [upd_ne nda] at hdx
    have eH : upd (del (upd (upd (upd H1 a (exo a C none)) dx (exd dx [(fld, v)])) a (exo a C (some dx))) a) dx (.xd [(fld, v)]) = upd H1 dx (.xd [(fld, v)]) := by
      funext b
      by_cases h1 : b = dx
      · subst h1; rw [upd_same, upd_same]
      · rw [upd_ne h1, upd_ne h1]
        by_cases h2 : b = a
        · subst h2; rw [del_same, ha]
        · rw [del_ne h2, upd_ne h2, upd_ne h1, upd_ne h2]
    rw [eH]
    have sm : Same H1 (upd H1 dx (.xd [(fld, v)])) := same_new hdx
    exact ⟨C, dx, x, _, _, n1, rfl, rfl, upd_same, hcn, .cons (dv.kw (Same.ks sm).kw) .nil, m1, (R.k0.trans k1).trans (Same.ks sm), b1.same sm⟩
end DS
/-! # DataX5: a lambda (no parameter, or one with a default) handed to a def that calls it within a try -/
namespace DS
open PySem PySem.Spec PyProof.Rows L2
/-- the names of such a lambda -/
structure LSc (N : List Str) (sc scope : Scope) : Prop where
  kind : scope.kind = .function
  co : scope.isCoroutine = false
  gen : scope.isGenerator = false
  own : ∀ y ∈ scope.names, y.2 ≠ .cell ∧ (y.2 = .local → y.1 ∉ N)
  free : ∀ y ∈ scope.names, y.2 = .free → sc.names.lookup y.1 = some .cell ∨ sc.names.lookup y.1 = some .free
abbrev lq (X : Cx) : Str := X.env.qual ++ "<lambda>"
abbrev lclo (X : Cx) (scope : Scope) : List (Str × Addr) := cloFrom X.env.cells scope.names []
section
variable {X : Cx} {pins : List (Addr × Obj)} {σ : L2.St} {H : Hp} {s : Shared}
theorem LSc.has {scope : Scope} (L : LSc X.N X.env.scope scope) (ok : X.Ok) : ∀ y ∈ scope.names, y.2 = .free → ∃ c, X.env.cells.lookup y.1 = some c := fun y hy e =>
  (L.free y hy e).elim (fun k => ok.has _ (.inl k)) fun k => ok.has _ (.inr k)
/-- the lambda's default, if it has one -/
def DefOk (X : Cx) (H : Hp) (s : Shared) (b : Bool) (dV : Value) : Prop := (b = false ∧ dV = .none) ∨ b = true ∧ ∃ t u, dV = .ref t ∧ s.heap.get? t = some (PySem.W.kdv_tup [u]) ∧ H t = none ∧ t ∉ frs X.stack
/-- how the lambda is made: its defaults, then the function -/
def LamEv (X : Cx) (b : Bool) (params : Arguments) (body : Expr) (scope : Scope) (lpos : Pos) : Prop := ∀ (pins : List (Addr × Obj)) (σ : L2.St) (H : Hp) (s : Shared) (Q : Value → Shared → Prop), Inv X pins σ H s →
  (∀ dV s', Inv X pins σ H s' → DefOk X H s' b dV → wpAny (model X.prog X.w) X.A (makeTail "<lambda>" (lq X) params (.expr body) scope X.env dV .none none lpos lpos.line) Q X.xe s') → wpAny (model X.prog X.w) X.A (eval (.Lambda params body scope lpos) X.env) Q X.xe s
theorem lamEv0 {params : Arguments} {body : Expr} {scope : Scope} {lpos : Pos} (hdef : defaultsOf params X.env = ([], [])) : LamEv X false params body scope lpos := fun pins σ H s Q I h => by
  refine PySem.W.kla_eval hdef ?_
  rw [makeFunction_eq]
  simp only [List.zip_nil_right, List.filterMap_nil, List.isEmpty_nil, if_true, pure_bind]
  exact h .none s I (.inl ⟨rfl, rfl⟩)
theorem stk_fresh (I : Inv X pins σ H s) {f : Addr} (hf : s.heap.objs.size ≤ f) : f ∉ frs X.stack := fun z => by
  rcases List.mem_cons.mp (I.stkSub _ z) with e | e
  · have h1 := I.lt
    rw [← e] at h1
    exact absurd (Nat.lt_of_lt_of_le h1 hf) (Nat.lt_irrefl _)
  · exact I.nofs hf e
theorem lamEv1 {params : Arguments} {body : Expr} {scope : Scope} {lpos dp : Pos} {z : Int} {j : Nat} (hdef : defaultsOf params X.env = ([eval (.Constant (.int z) j dp) X.env], [])) (hkw : params.kwonlyargs = []) : LamEv X true params body scope lpos := fun pins σ H s Q I h => by
  have ev : ∀ e : Env, eval (.Lambda params body scope lpos) e = (do
      let (d, kd) := defaultsOf params e
      let dv ← evalAll d
      let kdv ← holding dv (evalAllOpt kd)
      makeFunction "<lambda>" (e.qual ++ "<lambda>") params (.expr body) scope e dv kdv [] lpos lpos.line) := fun e => arm_eval_Lambda ..
  rw [ev, hdef]
  show wpAny _ _ (do let dv ← (do let v ← eval (.Constant (.int z) j dp) X.env; return v :: (← holding [v] (evalAll []))); let kdv ← holding dv (evalAllOpt []); makeFunction "<lambda>" (lq X) params (.expr body) scope X.env dv kdv [] lpos lpos.line) _ _ _
  refine wpAny_bind (wpAny_bind (thn ((pe_int (pos := dp) (j := j)).run pins s σ H (fun v H1 => H1 = H) I rfl) fun u s1 ⟨v, H1, I1, r1, q1⟩ => ?_))
  subst q1
  refine wpAny_bind (wpAny_holding (wpAny_pure (wpAny_pure (wpAny_bind (wpAny_holding (wpAny_pure ?_))))))
  rw [makeFunction_eq]
  simp only [hkw, List.zip_nil_left, List.filterMap_nil, List.isEmpty_nil, List.isEmpty_cons, if_true, Bool.false_eq_true, if_false, pure_bind]
  refine wpAny_bind (wpAny_newTextTuple ?_)
  obtain ⟨hp, g, d, t, os⟩ := s1
  refine h _ _ (I1.kept (t' := t) fun b o e => Heap.get?_push_of_some _ e) (.inr ⟨rfl, hp.objs.size, u, rfl, Heap.get?_push_at rfl rfl, I1.hok.fresh (Nat.le_refl _), stk_fresh I1 (Nat.le_refl _)⟩)
/-- the tables after a lambda was made -/
structure LamH (c : Cc) (H H1 : Hp) : Prop where
  ks : Ks c H H1
  kw : Kw c H H1
  bx : ∀ n, BoxAt c n H → BoxAt c n H1
theorem lam_new {b : Bool} {S : Sg} {B : Option (Addr × (Addr × List Int))} {c P : Addr} {params : Arguments} {body : Expr} {scope : Scope} {lpos : Pos} {dV : Value} {Q : Value → Shared → Prop} (I : Inv X pins σ H s) (TB : LamX.TabB X.base X.mg c P) (hcode : X.env.code = .ref c)
    (hm : (P, lq X) ∈ S.tb) (hu : ∀ p ∈ S.tb, p.1 = P → p.2 = lq X) (hT : LamX.Tabs S.tb H) (L : LSc X.N X.env.scope scope) (dk : DefOk X H s b dV)
    (h : ∀ (f c' : Addr) (doc pm ctv : Value) (H1 : Hp) (s' : Shared), Inv X pins σ H1 s' → LamH ⟨X.K, S, B⟩ H H1 →
      s'.heap.get? f = some (PySem.W.kdv_obj "<lambda>" (lq X) params (.expr body) scope (lclo X scope) dV doc pm c' ctv) → H1 f = none → f ∉ frs X.stack → H1 c' = some (LamX.CodeO c' (lq X)) → DefOk X H1 s' b dV → Q (.ref f) s') :
    wpAny (model X.prog X.w) X.A (makeTail "<lambda>" (lq X) params (.expr body) scope X.env dV .none none lpos lpos.line) Q X.xe s := by
  obtain ⟨ps, hP, ht, ha⟩ := hT _ hm
  have hP' : s.heap.get? P = some { cls := .none, data := .fields ps } := I.hok P _ hP
  cases hc : codeAmong lpos ps.toList with
  | none =>
    refine PySem.W.kdv_makeTail (mg := X.mg) (c := c) (P := P) (ps := ps) (closure_ok (L.has I.ok)) I.ok.glob (I.mod.glob.keeps I.bk) hcode (TB.code.keeps I.bk) hP' ht hc TB.gP (TB.bm.keeps I.bk) fun c' ctv doc h' tk hx hge hlt hrec htb => ?_
    obtain ⟨c2, oc, vs, t, e2, hoc, hd, hv⟩ := hrec
    cases e2
    have hsz : s.heap.objs.size ≤ h'.objs.size := Nat.le_trans hge (Nat.le_of_lt hlt)
    have nC : H c' = none := I.hok.fresh hge
    have nCP : c' ≠ P := fun z => by rw [z, hP] at nC; cases nC
    have I1 := LamX.inv_table (t' := tk) (more := #[rawInt lpos.line, rawInt lpos.col, .ref c']) (h' := h'.push (PySem.W.kdv_obj "<lambda>" (lq X) params (.expr body) scope (lclo X scope) dV doc ((X.mg "__name__").getD .none) c' ctv)) (q := lq X) I hP
      (fun b o hb e => Heap.get?_push_of_some _ (hx b o hb e)) (Heap.get?_push_of_some _ htb) hge ⟨oc, vs, t, Heap.get?_push_of_some _ hoc, hd, hv⟩
    have at_ : ∀ b o, b ≠ P → H b = some o → upd (upd H P (.tbl (ps ++ #[rawInt lpos.line, rawInt lpos.col, .ref c']))) c' (LamX.CodeO c' (lq X)) b = some o := fun b o hb e => by
      rw [upd_ne (ne_of_none e nC), upd_ne hb]; exact e
    have ks : Ks ⟨X.K, S, B⟩ H (upd (upd H P (.tbl (ps ++ #[rawInt lpos.line, rawInt lpos.col, .ref c']))) c' (LamX.CodeO c' (lq X))) := fun b u e st => at_ b u (fun z => by
      rcases st with st | st
      · rw [z, hP] at e; cases e; exact st
      · exact st.2 _ hm z.symm) e
    have tabs : LamX.Tabs S.tb (upd (upd H P (.tbl (ps ++ #[rawInt lpos.line, rawInt lpos.col, .ref c']))) c' (LamX.CodeO c' (lq X))) := fun p hp => by
      by_cases hb : p.1 = P
      · rw [hu p hp hb, hb]
        have eL : (ps ++ #[rawInt lpos.line, rawInt lpos.col, .ref c']).toList = ps.toList ++ [rawInt lpos.line, rawInt lpos.col, .ref c'] := by simp
        refine ⟨_, by rw [upd_ne (Ne.symm nCP), upd_same], by rw [eL]; exact PySem.TriplesOk_snoc _ _ _ _ ht, fun p' cv hcv => ?_⟩
        rw [eL] at hcv
        rcases LamX.among_app _ ht hcv with z | z
        · obtain ⟨c0, e1, e2⟩ := ha p' cv z
          exact ⟨c0, e1, at_ _ _ (fun y => by rw [y, hP] at e2; exact LamX.codeO_ne ps (Option.some.inj e2).symm) e2⟩
        · exact ⟨c', z, upd_same⟩
      · obtain ⟨qs, a1, a2, a3⟩ := hT p hp
        refine ⟨qs, at_ _ _ hb a1, a2, fun p' cv hcv => ?_⟩
        obtain ⟨c0, e1, e2⟩ := a3 p' cv hcv
        exact ⟨c0, e1, at_ _ _ (fun y => by rw [y, hP] at e2; exact LamX.codeO_ne ps (Option.some.inj e2).symm) e2⟩
    have nf : upd (upd H P (.tbl (ps ++ #[rawInt lpos.line, rawInt lpos.col, .ref c']))) c' (LamX.CodeO c' (lq X)) h'.objs.size = none := by
      have n2 : h'.objs.size ≠ P := Nat.ne_of_gt (Nat.lt_of_lt_of_le (Heap.lt_size hP') hsz)
      rw [upd_ne (Nat.ne_of_gt hlt), upd_ne n2]
      exact I.hok.fresh hsz
    refine h h'.objs.size c' doc ((X.mg "__name__").getD .none) ctv _ _ I1 ⟨ks, fun b u e st => ks b u e (.inl st), fun n b => ⟨fun b' cl e => ?_, tabs⟩⟩ (Heap.get?_push_size _ rfl) nf (stk_fresh I hsz) upd_same ?_
    · obtain ⟨lap, rest, h1, h2⟩ := b.bx b' cl e
      exact ⟨lap, rest, at_ _ _ (fun z => by rw [z, hP] at h1; cases h1) h1, h2.1.kw (c := ⟨X.K, S, B⟩) (fun b u e st => ks b u e (.inl st)), h2.2⟩
    · rcases dk with e | ⟨eb, t, u, e, h1, h2, h3⟩
      · exact .inl e
      · have tP : t ≠ P := fun z => by rw [z, hP] at h2; cases h2
        have tc : t ≠ c' := Nat.ne_of_lt (Nat.lt_of_lt_of_le (Heap.lt_size h1) hge)
        exact .inr ⟨eb, t, u, e, Heap.get?_push_of_some _ (hx _ _ tP h1), by rw [upd_ne tc, upd_ne tP]; exact h2, h3⟩
  | some cv =>
    obtain ⟨c', e, hco⟩ := ha lpos cv hc
    subst e
    refine PySem.W.kdv_makeTailHit (mg := X.mg) (c := c) (P := P) (ps := ps) (closure_ok (L.has I.ok)) I.ok.glob (I.mod.glob.keeps I.bk) hcode (TB.code.keeps I.bk) hP' ht hc (TB.bm.keeps I.bk) fun ctv doc h' tk hx hsz => ?_
    have I1 : Inv X pins σ H { s with heap := h'.push (PySem.W.kdv_obj "<lambda>" (lq X) params (.expr body) scope (lclo X scope) dV doc ((X.mg "__name__").getD .none) c' ctv), toks := tk } := I.kept fun b o e => Heap.get?_push_of_some _ (hx b o e)
    refine h h'.objs.size c' doc ((X.mg "__name__").getD .none) ctv H _ I1 ⟨Ks.refl _ _, Kw.refl _ _, fun _ b => b⟩ (Heap.get?_push_size _ rfl) (I.hok.fresh hsz) (stk_fresh I hsz) hco ?_
    rcases dk with e | ⟨eb, t, u, e, h1, h2, h3⟩
    · exact .inl e
    · exact .inr ⟨eb, t, u, e, Heap.get?_push_of_some _ (hx _ _ h1), h2, h3⟩
end
end DS
/-! # DataX6: the lambda called; the def that gets it -/
namespace DS
open PySem PySem.Spec PyProof.Rows L2
section
variable {X : Cx} {pins : List (Addr × Obj)} {σ : L2.St} {H HZ : Hp} {s sZ : Shared}
theorem lcx_start {A : Around} {out : List Env} {E : XK} {scope : Scope} {f c' : Addr} {h₁ : Heap} {tk : Nat} {binds : List (Str × Value)} (I : Inv X pins σ H s) (L : LSc X.N X.env.scope scope) (e0 : Env0 X.prog X.w X.K X.mg X.base A out sZ HZ) (hd : A.handled = none)
    (un : Un (frs X.stack) [] H HZ s.heap sZ.heap) (hns : h₁.Ns sZ.heap.objs.size fun y => binds.reverse.lookup y) (kp : ∀ b o, sZ.heap.get? b = some o → h₁.get? b = some o) :
    Inv (LamX.lamCx X A out sZ HZ E scope f c') [] σ HZ { sZ with heap := h₁, toks := tk } := by
  have hfree := L.has I.ok
  have back : ∀ {y c}, (lclo X scope).lookup y = some c → X.env.cells.lookup y = some c := fun {y c} e => by
    rcases cloFrom_mem (PySem.mem_of_lookup e) with hm | ⟨h1, h2⟩
    · cases hm
    · obtain ⟨c1, hc⟩ := hfree _ h1 rfl
      have hc : X.env.cells.lookup y = some c1 := hc
      have e2 : c = c1 := by rw [h2, hc]; rfl
      rw [e2]; exact hc
  have there : ∀ {y}, scope.names.lookup y = some .free → ∃ c, (lclo X scope).lookup y = some c := fun {y} hl => mem_lookup (cloFrom_has (cells := X.env.cells) (acc := []) (PySem.mem_of_lookup hl))
  have cellK : ∀ {c : Addr} {v : Option Value}, H c = none → s.heap.IsCell c v → h₁.IsCell c v := fun {c v} n ⟨o, ho, hd⟩ => by
    obtain ⟨sl, q⟩ := un.any ho n (by simp)
    exact ⟨_, kp _ _ q, hd⟩
  have noA : ∀ b : Addr, b ∉ (LamX.lamCx X A out sZ HZ E scope f c').ex := fun b z => nomatch (show b ∈ ([] : List Addr) from z)
  have okX : (LamX.lamCx X A out sZ HZ E scope f c').Ok := {
    mod := e0.mod
    kind := L.kind
    glob := rfl
    blt := rfl
    above := Nat.le_refl _
    inj := fun y z c e1 e2 => I.ok.inj y z c (back e1) (back e2)
    has := fun y hy => by
      have hy : scope.names.lookup y = some .cell ∨ scope.names.lookup y = some .free := hy
      rcases hy with hy | hy
      · exact absurd rfl (L.own _ (PySem.mem_of_lookup hy)).1
      · exact there hy
    cab := fun y c z _ => absurd (show false = true from z) Bool.false_ne_true
    hd := fun _ => hd
    frames := Around.frames_deeper e0.frames
    stk := .inr ⟨rfl, rfl⟩
    exf := fun b z => absurd z (noA b)
    bs := e0.bs
    bsz := e0.bsz
    noex := fun b _ _ => noA b
    exfs := fun b z => absurd z (noA b)
    funs := e0.funs
    frf := e0.frf }
  refine ⟨okX, rfl, e0.bare, Un.kept kp, ⟨_, hns, fun i y v e1 e2 e3 => ?_⟩, fun y c e => ?_, e0.hok.fresh (Nat.le_refl _), fun y c e => ?_, (fun q hq => by cases (show q ∈ ([] : List (Addr × Obj)) from hq)), e0.hok.kept kp, I.len⟩
  · have e3 : Vis scope y := e3
    rcases e3 with k | k | k
    · exact absurd (List.mem_of_getElem? e1) ((L.own _ (PySem.mem_of_lookup k)).2 rfl)
    · exact absurd rfl (L.own _ (PySem.mem_of_lookup k)).1
    · obtain ⟨m, hn, hl⟩ := I.loc
      have hvis : Vis X.env.scope y := (L.free _ (PySem.mem_of_lookup k) rfl).elim (fun k => .inr (.inl k)) fun k => .inr (.inr k)
      obtain ⟨w', r, q⟩ := hl i y v e1 e2 hvis
      obtain ⟨c2, h2⟩ := there k
      have c1 := back h2
      refine ⟨w', r, .inr ⟨.inr k, c2, h2, ?_⟩⟩
      rcases q with ⟨k', _⟩ | ⟨_, c3, e', z⟩
      · have k' : X.env.scope.names.lookup y = some .local := k'
        rcases L.free _ (PySem.mem_of_lookup k) rfl with k2 | k2 <;> rw [show X.env.scope.names.lookup y = _ from k2] at k' <;> cases k'
      · rw [c1] at e'
        cases e'
        exact cellK (I.freeC y _ c1) z
  · obtain ⟨w', z⟩ := I.cell y c (back e)
    exact ⟨w', cellK (I.freeC y c (back e)) z⟩
  · obtain ⟨v, o, ho, hd⟩ := I.cell y c (back e)
    exact un.free c o ho (I.freeC y c (back e)) (by simp)
/-- how the lambda binds: nothing is passed -/
def LamBi (b : Bool) (params : Arguments) (scope : Scope) : Prop := ∀ (q : Str) (body : Expr) (cl : List (Str × Addr)) (dV doc pm cv ctv : Value) (s : Shared), (b = false ∧ dV = .none) ∨ (b = true ∧ ∃ t u, dV = .ref t ∧ s.heap.get? t = some (PySem.W.kdv_tup [u])) →
  ∃ binds : List (Str × Value), BindsTo s (PySem.W.kdv_fn "<lambda>" q params (.expr body) scope cl dV doc pm cv ctv) ⟨[], []⟩ binds ∧ ∀ y ∈ binds, scope.names.lookup y.1 = some .local
theorem lam_run {A : Around} {out : List Env} {E : XK} {Q : VK} {scope : Scope} {f c' : Addr} {params : Arguments} {body : Expr} {dV doc pm ctv : Value} {k : Nat} {tb : TE} {binds : List (Str × Value)} (I : Inv X pins σ H s) (L : LSc X.N X.env.scope scope) (e0 : Env0 X.prog X.w X.K X.mg X.base A out sZ HZ)
    (un : Un (frs X.stack) [] H HZ s.heap sZ.heap) (hf : s.heap.get? f = some (PySem.W.kdv_obj "<lambda>" (lq X) params (.expr body) scope (lclo X scope) dV doc pm c' ctv)) (hfn : H f = none) (hfr : f ∉ frs X.stack)
    (hbi : BindsTo sZ (PySem.W.kdv_fn "<lambda>" (lq X) params (.expr body) scope (lclo X scope) dV doc pm (.ref c') ctv) ⟨[], []⟩ binds) (hbl : ∀ y ∈ binds, scope.names.lookup y.1 = some .local)
    (hc : HZ c' = some (LamX.CodeO c' (lq X))) (hr : Room (k + 1) A) (hb : PE (LamX.lamCx X A out sZ HZ E scope f c') body tb) (ht : tb σ HZ Q) :
    codeAny (model X.prog X.w) A (.call (.ref f) ⟨[], []⟩) (CR (L2.CX X.prog X.w) out X.prog X.w HZ sZ Q E) sZ := by
  have of1 : sZ.heap.get? f = some (PySem.W.kdv_obj "<lambda>" (lq X) params (.expr body) scope (lclo X scope) dV doc pm c' ctv) := un.keep f _ hf hfn hfr (by simp)
  obtain ⟨⟨oc, vs, t, hoc, hdc, hvc⟩, _, _⟩ := e0.hok c' _ hc
  have lim : sZ.heap.NoLimit := e0.mod.nolimit.keeps fun b o e => (e0.bs b o e).1
  refine PySem.W.kla_callFunE hr.depth of1 rfl L.co L.gen rfl ⟨c', oc, vs, t, rfl, hoc, hdc, hvc⟩ (hbi _ _ _ _ (wpAny_newFunctionEnv (fun y hy => (L.own y hy).1) hbl (fun h₁ hns hsb => ⟨lim.fresh _ hsb, ?_⟩) L.kind))
  have kp : ∀ b o, sZ.heap.get? b = some o → h₁.get? b = some o := fun b o e => hsb.extBut b o (Nat.ne_of_lt (Heap.lt_size e)) (Heap.get?_push_of_some _ e)
  have J : Inv (LamX.lamCx X A out sZ HZ E scope f c') [] σ HZ { sZ with heap := h₁, toks := sZ.toks + binds.length } := lcx_start I L e0 hr.hd un hns kp
  show codeAny _ _ (.expr body (LamX.lamEnv X scope sZ.heap.objs.size f c')) _ _
  refine PySem.W.kla_codeExpr (wpAny_mono (hb.run [] _ _ HZ Q J ht) (fun v s' ⟨w', H', J', rv, q⟩ => ?_) fun e s' hq => hq)
  exact ⟨w', H', J'.os, J'.bare, J'.base, J'.hok, rv, q⟩
end
/-! ### ask() within the def that got it -/
abbrev ML := XD → Nat → DK → Prop
def tAsk (c : Cc) (H1 : Hp) (i : Nat) (f : Addr) (ml : ML) (W : WX) : TE := fun σZ HZ Q => σZ[i]? = some (some (.ref f)) ∧ ∃ n ε k, Ks c H1 HZ ∧ BoxAt c n HZ ∧ ml ε n k ∧ (∀ d n' v H', k d n' → DV c H' v d → Ks c HZ H' → BoxAt c n' H' → Q v H') ∧ ∀ cls d H', XKD c HZ ε cls d H' → W cls d σZ H'
/-- a is the lambda in the frame Z -/
def AskOk (Z : Cx) (c : Cc) (H1 : Hp) (a : Str) (i : Nat) (f : Addr) (ml : ML) : Prop := ∀ (W : WX) (pn : List (Addr × Obj)) (xe : Value → Shared → Prop) (p1 p2 : Pos), Takes (Z.tr pn xe) W → PE (Z.tr pn xe) (.Call (.Name a p1) [] [] p2) (tAsk c H1 i f ml W)
/-- a def that gets a lambda and calls it: what it makes of the lambda's meaning -/
structure HFn (P : Program) (w : World) (K : PySem.W.Frag) (mg : Str → Option Value) (base : Heap) (S : Sg) (x a : Str) (ms : Addr → ML → MS) (N : Nat) (k : Nat) : Prop where
  ex : ∃ (g : Addr) (fd : FuncData) (st : Stmt) (Nn : List Str), Nn.length = N ∧ 0 < N ∧ Nn[0]? = some a ∧ Vis (defScope st) a ∧ (a == ("__debug__" : Str)) = false ∧ (a == ("__classdict__" : Str)) = false ∧ Fun K x x st g fd ∧ L2.Binds K fd [a] [] ∧ mg x = some (.ref g) ∧ PySem.W.keepIn K (.ref g) = true ∧ FnScope Nn [a] (defScope st) ∧
    ∀ (cdv : Value) (A : Around) (out : List Env) (s : Shared) (H : Hp) (B : Option (Addr × (Addr × List Int))) (f : Addr) (ml : ML), A.guards = some [] → Room k (A.deeper (envOfC x (defScope st) s.heap.objs.size g cdv)) → AskOk (cxOf (L2.CX P w) P w K mg base Nn x (defScope st) g cdv A out s H E0).nox ⟨K, S, B⟩ H a 0 f ml →
      PSs (cxOf (L2.CX P w) P w K mg base Nn x (defScope st) g cdv A out s H E0).nox (defBody st) (tS ⟨K, S, B⟩ H noX (ms f ml))
/-- the promise of such a def -/
def hOf (N : Nat) (ms : Addr → ML → MS) : ML → Nat → DK → Prop := fun ml n k => ∀ f : Addr, ms f ml noX (rho N [.raw (.ref f)]) n { nx := fun _ n' => k .non n', rt := k }
def noOwn (ρ : Ev) : Bool := ρ.all fun
  | .own _ _ => false
  | _ => true
theorem noOwn_at {ρ : Ev} (h : noOwn ρ = true) {i : Nat} {p : Addr} {xs : Ow} (e : ρ[i]? = some (.own p xs)) : False := by
  have := List.all_eq_true.mp h _ (List.mem_of_getElem? e)
  cases this
/-- what a lambda sees of the slots: things of one's own are hidden -/
def hideO (ρ : Ev) : Ev := ρ.map fun
  | .own _ _ => .no
  | z => z
theorem hide_val {ρ : Ev} {i : Nat} {d : D} (e : (hideO ρ)[i]? = some (.val d)) : ρ[i]? = some (.val d) := by
  unfold hideO at e
  rw [List.getElem?_map] at e
  obtain ⟨z, e1, e2⟩ := Option.map_eq_some_iff.mp e
  cases z with
  | val d' => cases e2; exact e1
  | no => cases e2
  | own p w => cases e2
theorem hide_own {ρ : Ev} {i : Nat} {p : Addr} {w : Ow} (e : (hideO ρ)[i]? = some (.own p w)) : False := by
  unfold hideO at e
  rw [List.getElem?_map] at e
  obtain ⟨z, e1, e2⟩ := Option.map_eq_some_iff.mp e
  cases z <;> cases e2
def mHeard (con : ML → Nat → DK → Prop) (me : ME) : ME := fun _ ρ n k => con (fun ε' n' k' => me ε' (hideO ρ) n' k') n k
/-- the lambda, seen from the frame of the def that got it -/
theorem ask_ok {b : Bool} {X : Cx} {S : Sg} {B : Option (Addr × (Addr × List Int))} {H0 : Hp} {x a : Str} {k n : Nat} {pins : List (Addr × Obj)} {σ : L2.St} {H1 : Hp} {s1 : Shared} {ρ : Ev} {params : Arguments} {body : Expr} {scope : Scope} {me : ME}
    {g f c' : Addr} {sg : Scope} {cdv dV doc pm ctv : Value} {Nn : List Str} (hgd : X.A.guards = some []) (L : LSc X.N X.env.scope scope) (hbi : LamBi b params scope)
    (hbody : ∀ (A : Around) (out : List Env) (sZ : Shared) (HZ : Hp) (E : XK) (f c' : Addr) (ε' : XD), A.guards = some [] → Room k (A.deeper (LamX.lamEnv X scope sZ.heap.objs.size f c')) → XL (LamX.lamCx X A out sZ HZ E scope f c') ⟨X.K, S, B⟩ HZ ε' → PE (LamX.lamCx X A out sZ HZ E scope f c') body (tE ⟨X.K, S, B⟩ HZ ε' me))
    (I1 : Inv X pins σ H1 s1) (R1 : Rel ⟨X.K, S, B⟩ H0 ρ n σ H1) (hf : s1.heap.get? f = some (PySem.W.kdv_obj "<lambda>" (lq X) params (.expr body) scope (lclo X scope) dV doc pm c' ctv)) (hfn : H1 f = none) (hfr : f ∉ frs X.stack) (hco : H1 c' = some (LamX.CodeO c' (lq X))) (dk1 : DefOk X H1 s1 b dV)
    (ha0 : Nn[0]? = some a) (hva : Vis sg a) (hda : (a == ("__debug__" : Str)) = false) (hdc : (a == ("__classdict__" : Str)) = false) (hr : Room (k + 1) (X.A.deeper (envOfC x sg s1.heap.objs.size g cdv))) :
    AskOk (cxOf (L2.CX X.prog X.w) X.prog X.w X.K X.mg X.base Nn x sg g cdv X.A X.stack s1 H1 E0).nox ⟨X.K, S, B⟩ H1 a 0 f (fun ε' n' k' => me ε' (hideO ρ) n' k') := by
  intro W pn xe p1 p2 tk
  refine ⟨fun pinsZ sZ σZ HZ QZ IZ ⟨h0, n', ε', k', ks, bx, hml, hq, hx⟩ => ?_⟩
  refine wpAny_Call_Name_kw (thn ((pe_var (X := (cxOf (L2.CX X.prog X.w) X.prog X.w X.K X.mg X.base Nn x sg g cdv X.A X.stack s1 H1 E0).nox.tr pn xe) (pos := p1) (i := 0) ha0 hva hda hdc).run pinsZ sZ σZ HZ (fun v H2 => v = .ref f ∧ H2 = HZ) IZ ⟨.ref f, h0, rfl, rfl⟩) fun u s2 ⟨v, H2, I3, r1, q1⟩ => ?_)
  obtain ⟨ev, eH⟩ := q1
  subst ev eH
  obtain rfl : u = Value.ref f := r1
  have un : Un (frs X.stack) [] H1 H2 s1.heap s2.heap := I3.base
  have of1 := un.keep f _ hf hfn hfr (by simp)
  refine PySem.W.callWith_F0 ⟨_, _, _, _, of1⟩ ?_
  have hc2 : H2 c' = some (LamX.CodeO c' (lq X)) := ks _ _ hco (.inl True.intro)
  obtain ⟨binds, bi1, bi2⟩ := hbi (lq X) body (lclo X scope) dV doc pm (.ref c') ctv s2 (by
    rcases dk1 with e | ⟨eb, t, u, e, h1, h2, h3⟩
    · exact .inl e
    · exact .inr ⟨eb, t, u, e, un.keep t _ h1 h2 h3 (by simp)⟩)
  have Rz : Rel ⟨X.K, S, B⟩ H2 (hideO ρ) n' σ H2 := {
    len := R1.len.trans (by unfold hideO; rw [List.length_map])
    vals := fun i d e => let ⟨v, h1, h2⟩ := R1.vals i d (hide_val e); ⟨v, h1, h2.kw ks.kw⟩
    owns := fun i p xs e => (hide_own e).elim
    uniq := fun i j p xs ys e => (hide_own e).elim
    box := bx
    k0 := Ks.refl _ _ }
  have e0 : Env0 X.prog X.w X.K X.mg X.base (X.A.deeper (envOfC x sg s1.heap.objs.size g cdv)) (envOfC x sg s1.heap.objs.size g cdv :: X.stack) s2 H2 := I3.env0
  have xl : XL (LamX.lamCx X (X.A.deeper (envOfC x sg s1.heap.objs.size g cdv)) (envOfC x sg s1.heap.objs.size g cdv :: X.stack) s2 H2 (fun cls d H' => W cls d σZ H') scope f c') ⟨X.K, S, B⟩ H2 ε' :=
    (takes_of (E := fun cls d H' => W cls d σZ H') rfl rfl rfl rfl).imp fun cls d σ' H' h => hx cls d H' h
  have rL := lam_run (X := X) (E := fun cls d H' => W cls d σZ H') (tb := tE ⟨X.K, S, B⟩ H2 ε' me) (Q := QZ) I1 L e0 un hf hfn hfr bi1 bi2 hc2 hr (hbody _ _ s2 H2 _ f c' ε' hgd (hr.deeper _) xl) ⟨hideO ρ, n', k', Rz, hml, hq⟩
  refine wpAny_call (codeAny_mono rL fun r s3 hr3 => ?_)
  cases r with
  | error e => exact passAt tk σZ pinsZ H2 s2 e s3 I3 hr3
  | ok fl =>
    cases fl with
    | ret u => exact I3.after hr3
    | next => exact False.elim hr3
    | brk => exact False.elim hr3
    | cont => exact False.elim hr3
theorem de_heard {b : Bool} {X : Cx} {S : Sg} {B : Option (Addr × (Addr × List Int))} {H0 : Hp} {ε : XD} {x a : Str} {N k : Nat} {ms : Addr → ML → MS} {c P : Addr} {params : Arguments} {body : Expr} {scope : Scope} {me : ME} {p lpos pos : Pos}
    (F : HFn X.prog X.w X.K X.mg X.base S x a ms N k) (hgd : X.A.guards = some []) (hr : Room (k + 1) X.A) (TB : LamX.TabB X.base X.mg c P) (hcode : X.env.code = .ref c) (hm : (P, lq X) ∈ S.tb) (hu : ∀ p ∈ S.tb, p.1 = P → p.2 = lq X) (L : LSc X.N X.env.scope scope)
    (hev : LamEv X b params body scope lpos) (hbi : LamBi b params scope)
    (hbody : ∀ (A : Around) (out : List Env) (sZ : Shared) (HZ : Hp) (E : XK) (f c' : Addr) (ε' : XD), A.guards = some [] → Room (k - 1) (A.deeper (LamX.lamEnv X scope sZ.heap.objs.size f c')) → XL (LamX.lamCx X A out sZ HZ E scope f c') ⟨X.K, S, B⟩ HZ ε' → PE (LamX.lamCx X A out sZ HZ E scope f c') body (tE ⟨X.K, S, B⟩ HZ ε' me))
    (hk : 1 ≤ k) (hg : Gl X x := by rfl) (hdb : (x == ("__debug__" : Str)) = false := by decide) (hpl : (backTo pos (starEach [] X.env)).any (·.1) = false := by rfl)
    (s0 : starEach [.Lambda params body scope lpos] X.env = (false, eval (.Lambda params body scope lpos) X.env) :: starEach [] X.env := by rfl) :
    PE X (.Call (.Name x p) [.Lambda params body scope lpos] [] pos) (tE ⟨X.K, S, B⟩ H0 ε (mHeard (hOf N ms) me)) := by
  obtain ⟨g, fd, st, Nn, hNl, hN0, ha0, hva, hda, hdc, Fu, hbg, hmg, hkg, Sc, hG⟩ := F.ex
  obtain ⟨oc, od, kV, doc0, pm0, an, cdv, ct, osl, efd, lk, hcd⟩ := Fu.ex
  subst efd
  refine ⟨fun pins s σ H Q I ⟨ρ, n, kk, R, m, q⟩ => ?_⟩
  refine wpAny_Call_Name_kw (ld_glob I hg hmg ?_ hdb)
  refine PySem.W.callWith_K (h₀ := X.base) I.ok.mod.kin hkg ?_ s0 hpl
  rw [s0]
  show wpAny _ _ (spliced ((false, eval (.Lambda params body scope lpos) X.env) :: backTo pos (starEach [] X.env))) _ _ s
  refine Calls.spliced_cons (hev pins σ H s _ I fun dV s2 I2 dk => lam_new (B := B) I2 TB hcode hm hu R.box.tb L dk fun f c' doc pm ctv H1 s1 I1 lh hf hfn hfr hco dk1 => ?_)
  refine Calls.spliced_nil ⟨I1.kIn, ?_⟩
  have R1 : Rel ⟨X.K, S, B⟩ H0 ρ n σ H1 := R.step lh.ks (lh.bx _ R.box)
  have rc : codeAny (model X.prog X.w) X.A (.call (.ref g) ⟨[.ref f], []⟩) (CR (L2.CX X.prog X.w) X.stack X.prog X.w H1 s1 Q E0) s1 := by
    refine LamX.run_ofS (N := Nn) (ps := [a]) (us := [.ref f]) (vs := [.ref f]) lk hcd Sc hr I1.env0 (hbg s1 [.ref f] I1.kIn rfl) (.cons rfl .nil) rfl fun hr' => ?_
    have hA : AskOk (cxOf (L2.CX X.prog X.w) X.prog X.w X.K X.mg X.base Nn x (defScope st) g cdv X.A X.stack s1 H1 E0).nox ⟨X.K, S, B⟩ H1 a 0 f (fun ε' n' k' => me ε' (hideO ρ) n' k') :=
      ask_ok (k := k - 1) hgd L hbi hbody I1 R1 hf hfn hfr hco dk1 ha0 hva hda hdc (by rw [Nat.sub_add_cancel hk]; exact hr')
    refine ⟨_, (hG cdv X.A X.stack s1 H1 B f (fun ε' n' k' => me ε' (hideO ρ) n' k') hgd hr' hA).nox, rho Nn.length [.raw (.ref f)], n, { nx := fun _ n' => kk .non n', rt := kk }, rel_start (.one (.raw _)) R1.box, (by rw [hNl]; exact m f), ?_, ?_, ?_, ?_⟩
    · exact fun ρ' n' σ' H' a1 a2 _ => q _ _ _ _ a1 .non (lh.ks.trans a2.k0) a2.box
    · exact fun d n' v H' a1 a2 a3 a4 => q _ _ _ _ a1 a2 (lh.ks.trans a3) a4
    · exact fun _ _ _ _ z => False.elim z
    · exact fun _ _ _ _ z => False.elim z
  refine wpAny_call (codeAny_mono rc fun r s2 hq => ?_)
  cases r with
  | error e => exact (passF (X := X) pins σ H1 s1 e s2 I1 hq)
  | ok fl =>
    cases fl with
    | ret u => exact I1.after hq
    | next => exact False.elim hq
    | brk => exact False.elim hq
    | cont => exact False.elim hq
end DS
/-! # DataX7: try: ask() / except R as e: m = e, the exception kept as a value -/
namespace DS
open PySem PySem.Spec PyProof.Rows L2
theorem exV_ok {P : Program} {w : World} {H : Hp} {h : Heap} {a C d : Addr} {oe : Obj} {vs : Array Value} (he : h.get? a = some oe) (hz : Zc (.ref C) (some d) oe) (hd : oe.data = .fields vs) : ObjOk P w H h a (exV a C d) :=
  ⟨⟨oe, vs, he, hz.1, hz.2, hd⟩, ⟨oe, he⟩, fun _ _ ⟨o, v, q, r⟩ k => ⟨o, v, k o q, r⟩⟩
theorem exV_at {P : Program} {w : World} {H : Hp} {h : Heap} {a C d : Addr} (ok : HOk P w H h) (e : H a = some (exV a C d)) : ∃ oe vs, h.get? a = some oe ∧ oe.cls = .ref C ∧ oe.dict = some d ∧ oe.data = .fields vs := by
  have x : ObjOk P w H h a (.ext fun h => ∃ oe vs, h.get? a = some oe ∧ oe.cls = .ref C ∧ oe.dict = some d ∧ oe.data = .fields vs) := ok a _ e
  exact x.1
section
variable {X : Cx} {pins : List (Addr × Obj)} {σ : L2.St} {H : Hp} {s : Shared}
/-- an object of fields that stands there since the entry is tracked from now on -/
theorem inv_track {a : Addr} {o : HO} {oe : Obj} {vs : Array Value} (I : Inv X pins σ H s) (n : H a = none) (h0 : X.s_0.heap.get? a = none) (he : s.heap.get? a = some oe) (hd : oe.data = .fields vs) (nL : a ≠ X.env.locals) (nP : ∀ p ∈ X.pn ++ pins, p.1 ≠ a) (ok : ObjOk X.prog X.w (upd H a o) s.heap a o) : Inv X pins σ (upd H a o) s := by
  have nc : ∀ x c, X.env.cells.lookup x = some c → c ≠ a := fun x c e z => by
    obtain ⟨v, o', ho, hc⟩ := I.cell x c e
    rw [z, he] at ho
    cases ho
    rw [hd] at hc
    cases hc
  refine ⟨I.ok, I.os, I.bare, ⟨I.base.keep, I.base.slot, fun b u e q hx => ?_, I.base.there, fun b xs e => ?_, fun b u w e => ?_, fun b ps e => ?_⟩, I.loc, I.cell, ?_, fun x c e => ?_, fun p hp => ?_, fun b u e => ?_, I.len⟩
  · have hb : b ≠ a := fun z => by rw [z, h0] at e; cases e
    rw [upd_ne hb]; exact I.base.free b u e q hx
  · have q := I.base.tups b xs e
    rw [upd_ne (ne_of_none q n)]; exact q
  · have q := I.base.frzs b u w e
    rw [upd_ne (ne_of_none q n)]; exact q
  · obtain ⟨m, q⟩ := I.base.tbls b ps e
    exact ⟨m, by rw [upd_ne (ne_of_none q n)]; exact q⟩
  · rw [upd_ne nL.symm]; exact I.free
  · rw [upd_ne (nc x c e)]; exact I.freeC x c e
  · obtain ⟨e, q, r⟩ := I.pin p hp
    exact ⟨e, by rw [upd_ne (nP p hp)]; exact q, r⟩
  · by_cases hb : b = a
    · subst hb
      rw [upd_same] at e
      cases e
      exact ok
    · rw [upd_ne hb] at e
      exact (I.hok b u e).stay (fun c v _ q => q) (fun c q => by rw [upd_ne (ne_of_none q n)]; exact q) fun c xs q => by rw [upd_ne (ne_of_none q n)]; exact q
/-- into the suite, the exception tracked -/
theorem inv_suite {a : Addr} (I : Inv X pins σ H s) : Inv (X.suite a (X.pn ++ pins)) [] σ H s :=
  ⟨I.ok.suite _ _, I.os, I.bare, I.base, I.loc, I.cell, I.free, I.freeC, fun p hp => I.pin p (by rw [List.append_nil] at hp; exact hp), I.hok, I.len⟩
theorem inv_unsuite {a : Addr} {pn' : List (Addr × Obj)} (I : Inv (X.suite a (X.pn ++ pins)) pn' σ H s) (ok : X.Ok) : Inv X pins σ H s :=
  ⟨ok, I.os, I.bare, I.base, I.loc, I.cell, I.free, I.freeC, fun p hp => I.pin p (List.mem_append_left _ hp), I.hok, I.len⟩
end
/-- what the clause wishes: the exception is a value -/
def wVal (K : PySem.W.Frag) (c : Value) (i : Nat) (ts : TS) (D : Ends) : WX := fun cls dd σ H => PySem.W.exmOne K cls c = some true ∧ ∃ C d, cls = .ref C ∧ dd = some d ∧ ∀ a, H a = none →
  ts { nx := fun σ' H' => D.nx (σ'.set i none) H', rt := fun _ _ => False } (σ.set i (some (.ref a))) (upd H a (exV a C d))
theorem ps_try_val {X : Cx} {x en : Str} {c : Value} {i : Nat} {body suite : List Stmt} {b₀ : Stmt} {np pos pos' : Pos} {tb : WX → TS} {ts : TS} (hs : X.stack = X.env :: X.outer) (hf : X.env.frame = some X.env.locals) (hex : X.ex = []) (hN : X.N.Nodup) (hi : X.N[i]? = some en) (hln : X.env.kindOf en = some .local) (hc : Names X x c)
    (hb : ∀ (W : WX) (pn : List (Addr × Obj)) (xe : Value → Shared → Prop), Takes (X.tr pn xe) W → PassesOwn (model X.prog X.w) X.A X.env xe → PSs (X.tr pn xe) body (tb W))
    (hsu : ∀ (a : Addr) (pn : List (Addr × Obj)), PSs (X.suite a pn) (b₀ :: suite) ts) :
    PS X (.Try body [.ExceptHandler (some (.Name x np)) (some en) (b₀ :: suite) pos'] [] [] pos) (fun D σ H => tb (wVal X.K c i ts D) D σ H) := by
  refine ⟨fun pins s σ H D I h => ?_⟩
  have ok := I.ok
  have hfr : X.A.frames = some (X.env :: X.outer) := by rw [ok.frames, hs]
  have tkn : Takes (X.tr (X.pn ++ pins) fun e s₁ => wpAny (model X.prog X.w) X.A (noteFrame e X.env) (fun _ s₂ => wpAny (model X.prog X.w) X.A (setFlight e none) (fun _ s₃ =>
      wpAny (model X.prog X.w) X.A (handleBy e X.env [.ExceptHandler (some (.Name x np)) (some en) (b₀ :: suite) pos']) (SP X pins D) X.xe s₃) X.xe s₂) X.xe s₁) (wVal X.K c i ts D) := by
    intro u s' xx
    obtain ⟨a, B, sI, pins', σ', H', cls, dd, rfl, J', nb, up, sky, na, os, ag, hyes, C, d, rfl, rfl, hw⟩ := xx
    have J : Inv X pins σ' H' sI := J'.ofTry ok
    have sky' : Sky B (X.env :: X.outer) a (Zc (.ref C) (some d)) X.env.locals s'.heap := by rw [← hs]; exact sky
    show wpAny (model X.prog X.w) X.A (noteFrame (.ref a) X.env) _ _ _
    refine Sky.land Zc.steady hfr hf sky' fun h3 fl3 up3 => ?_
    have J3 : Inv X pins σ' H' { s' with heap := h3 } := J.landed nb fl3.1 (up.trans up3) os ag
    obtain ⟨oe3, vs3, he3, hz3, hd3⟩ := fl3.there
    have nfr : a ∉ frs (X.env :: X.outer) := fun hm => by
      obtain ⟨_, o', e', hnf⟩ := fl3.2.2.1.mem hm
      rw [he3] at e'; cases e'
      exact hnf _ hd3
    have nL : a ≠ X.env.locals := fun z => nfr (List.mem_filterMap.mpr ⟨X.env, List.mem_cons_self, by rw [hf, z]⟩)
    have nI : sI.heap.get? a = none := by
      cases q : sI.heap.get? a with
      | none => rfl
      | some o =>
        have z := nb a o q (by show a ∉ frs X.stack; rw [hs]; exact nfr)
        rw [fl3.2.1] at z; cases z
    have n0 : X.s_0.heap.get? a = none := by
      cases q : X.s_0.heap.get? a with
      | none => rfl
      | some o =>
        have hx : a ∉ X.ex := fun hx => by rw [hex] at hx; cases hx
        obtain ⟨o', z⟩ := J.base.there a o q hx
        rw [nI] at z; cases z
    have nP : ∀ p ∈ X.pn ++ pins, p.1 ≠ a := fun p hp z => by
      have q := (J.pin p hp).1
      rw [z, nI] at q; cases q
    refine wpAny_handleBy_cons (codeAny_handlers_test ?_) (by intro q; cases q)
    have S3 := inv_suite (a := a) J3
    have LT : PySem.W.Looks (model X.prog X.w) h3 (typeOf (.ref a)) (.ref C) := fun A Q E s k q => wpAny_typeOf_ref (k _ _ he3) (by rw [hz3.1]; exact q)
    have LM := PySem.W.exm_one (M := model X.prog X.w) (J3.kIn) LT hyes
    have test : ∀ {Q : Value → Shared → Prop} {E : Value → Shared → Prop}, Q c { s' with heap := h3 } → wpAny (model X.prog X.w) (X.A.mark (some (.ref a))) (eval (.Name x np) X.env) Q E { s' with heap := h3 } := fun {Q E} q => by
      obtain ⟨hg, hdbg, hm | ⟨hm, hv, hnn⟩⟩ := hc
      · exact ld_glob (X := X.suite a (X.pn ++ pins)) S3 hg hm q hdbg
      · exact ld_blt (X := X.suite a (X.pn ++ pins)) S3 hg hm hv q hnn hdbg
    refine test (LM.here ?_)
    refine codeAny_handlers_suite_as ?_
    refine HandSPX.lands_againZ fl3 fun h4 fl4 up4 => ?_
    have J4 : Inv X pins σ' H' { s' with heap := h4 } := J.landed nb fl4.1 ((up.trans up3).trans up4) os ag
    obtain ⟨oe4, vs4, he4, hz4, hd4⟩ := fl4.there
    have T4 : Inv X pins σ' (upd H' a (exV a C d)) { s' with heap := h4 } := inv_track J4 na n0 he4 hd4 nL nP (exV_ok he4 hz4 hd4)
    refine store_ok (X := X.suite a (X.pn ++ pins)) (v := .ref a) (inv_suite T4) hN hi (.inl hln) rfl (fun s5 S5 => ?_) (.inr hln)
    refine wpAny_mono ((hsu a (X.pn ++ pins)).run [] s5 _ _ _ S5 (hw a na)) (fun f s6 hsp => ?_) (fun _ _ z => False.elim z)
    cases f with
    | next =>
      obtain ⟨σ6, H6, S6, q6⟩ := hsp
      exact gone_ok (inv_unsuite S6 ok) hN hi hln fun s7 J7 => ⟨_, _, J7, q6⟩
    | brk =>
      obtain ⟨σ6, H6, S6, q6⟩ := hsp
      exact False.elim q6
    | cont =>
      obtain ⟨σ6, H6, S6, q6⟩ := hsp
      exact False.elim q6
    | ret u =>
      obtain ⟨v6, σ6, H6, S6, r6, q6⟩ := hsp
      exact False.elim q6
  refine wpAny_Try_except ?_
  refine wpAny_mono ((hb (wVal X.K c i ts D) (X.pn ++ pins) _ tkn PassesOwn.looking).run [] s σ H D (I.toTry _) h) (fun f s1 hsp => ?_) (fun e s1 he => he)
  cases f with
  | next =>
    obtain ⟨σ', H', J', q⟩ := hsp
    exact wpAny_execs_nil ⟨σ', H', J'.ofTry ok, q⟩
  | brk =>
    obtain ⟨σ', H', J', q⟩ := hsp
    exact ⟨σ', H', J'.ofTry ok, q⟩
  | cont =>
    obtain ⟨σ', H', J', q⟩ := hsp
    exact ⟨σ', H', J'.ofTry ok, q⟩
  | ret u =>
    obtain ⟨v, σ', H', J', r, q⟩ := hsp
    exact ⟨v, σ', H', J'.ofTry ok, r, q⟩
end DS
/-! # DataX8: the rules about caught exceptions -/
namespace DS
open PySem PySem.Spec PyProof.Rows L2
theorem Rel.no {c : Cc} {H0 H : Hp} {ρ : Ev} {n : Nat} {σ : St} (R : Rel c H0 ρ n σ H) (i : Nat) : Rel c H0 (ρ.set i .no) n (σ.set i none) H where
  len := by simp [R.len]
  vals := fun j d hj => by
    by_cases z : i = j
    · subst z
      have hl : i < ρ.length := by have := (List.getElem?_eq_some_iff.mp hj).1; simpa using this
      rw [List.getElem?_set_self hl] at hj
      cases hj
    · rw [List.getElem?_set_ne z] at hj
      rw [List.getElem?_set_ne z]
      exact R.vals j d hj
  owns := fun j p xs hj => by
    by_cases z : i = j
    · subst z
      have hl : i < ρ.length := by have := (List.getElem?_eq_some_iff.mp hj).1; simpa using this
      rw [List.getElem?_set_self hl] at hj
      cases hj
    · rw [List.getElem?_set_ne z] at hj
      rw [List.getElem?_set_ne z]
      exact R.owns j p xs hj
  uniq := fun j1 j2 p xs ys h1 h2 => by
    have nz : ∀ (j : Nat) (zs : Ow), (ρ.set i .no)[j]? = some (.own p zs) → ρ[j]? = some (.own p zs) := fun j zs hj => by
      by_cases z : i = j
      · subst z
        have hl : i < ρ.length := by have := (List.getElem?_eq_some_iff.mp hj).1; simpa using this
        rw [List.getElem?_set_self hl] at hj
        cases hj
      · rw [List.getElem?_set_ne z] at hj; exact hj
    exact R.uniq j1 j2 p xs ys (nz j1 xs h1) (nz j2 ys h2)
  box := R.box
  k0 := R.k0
/-- try: ask() / except R as e: m = e; slots: i of e, j of m -/
def mTry (ok : Str → Bool) (i j : Nat) (f : Addr) (ml : ML) : MS := fun _ ρ n P => ρ[0]? = some (.val (.raw (.ref f))) ∧ i < ρ.length ∧
  ml (fun nm fs n' => ok nm = true ∧ P.nx (((ρ.set i (.val (.exc nm fs))).set j (.val (.exc nm fs))).set i .no) n') n fun _ n' => P.nx ρ n'
theorem ds_try {X : Cx} {S : Sg} {B : Option (Addr × (Addr × List Int))} {H0 : Hp} {a x en m : Str} {f : Addr} {ml : ML} {cR : Value} {ok : Str → Bool} {p1 p2 p3 np mp ep ap hp pos : Pos} (i j : Nat) (hA : AskOk X ⟨X.K, S, B⟩ H0 a 0 f ml) (Nm : Names X x cR)
    (hsub : ∀ C nm, S.cn C = some nm → ok nm = true → PySem.W.exmOne X.K (.ref C) cR = some true) (hN : X.N.Nodup) (hs : X.stack = X.env :: X.outer := by rfl) (hf : X.env.frame = some X.env.locals := by rfl) (hex : X.ex = [] := by rfl)
    (hi : X.N[i]? = some en := by rfl) (hj : X.N[j]? = some m := by rfl) (hln : X.env.scope.names.lookup en = some .local := by rfl) (hlm : X.env.scope.names.lookup m = some .local := by rfl)
    (hd : (en == ("__debug__" : Str)) = false := by decide) (hcd : (en == ("__classdict__" : Str)) = false := by decide) (hsw : swapsWith (.Call (.Name a p1) [] [] p2) none p3.line X.env = pure false := by rfl) (hsw2 : swapsWith (.Name en ep) (some (.Name m mp)) ap.line X.env = pure false := by rfl) :
    PS X (.Try [.Expr (.Call (.Name a p1) [] [] p2) p3] [.ExceptHandler (some (.Name x np)) (some en) [.Assign [.Name m mp] (.Name en ep) ap] hp] [] [] pos) (tS ⟨X.K, S, B⟩ H0 noX (mTry ok i j f ml)) := by
  refine imp_ps (ps_try_val (tb := fun W => tDrop (tAsk ⟨X.K, S, B⟩ H0 0 f ml W)) (ts := tAsg (tVar i) (gName j)) hs hf hex hN hi hln Nm (fun W pn xe tk _ => pss_one (ps_expr (hA W pn xe p1 p2 tk) hsw))
    (fun e pn => pss_one (ps_set (X := X.suite e pn) hN hj (.inl hlm) (pe_var hi (.inl hln) hd hcd) hsw2 (.inr hlm)))) fun De σ H ⟨ρ, n, P, R, ⟨h0, hlt, hml⟩, h1, _⟩ => ?_
  obtain ⟨v, hv, dv⟩ := R.vals 0 _ h0
  cases dv
  refine ⟨hv, n, _, _, R.k0, R.box, hml, fun d n' v H' a1 a2 a3 a4 => h1 _ _ _ _ a1 (R.step a3 a4) a3.kw, fun cls d H' hx => ?_⟩
  obtain ⟨C, dd, nm, fs, ds, n', e1, e2, e3, e4, e5, ⟨e6, e6'⟩, e7, e8⟩ := hx
  subst e1
  refine ⟨hsub C nm e4 e6, C, dd, rfl, e2, fun b hb => ?_⟩
  have sm : Same H' (upd H' b (exV b C dd)) := same_new hb
  have R1 := (R.step e7 e8).step (Same.ks sm) (e8.same sm)
  have hdv : DV ⟨X.K, S, B⟩ (upd H' b (exV b C dd)) (.ref b) (.exc nm ds) := .exc e4 upd_same (sm _ _ e3) (e5.kw (Same.ks sm).kw)
  have R2 := ((R1.set (i := i) hdv).set (i := j) hdv).no i
  refine ⟨.ref b, List.getElem?_set_self (by rw [R.len]; exact hlt), ?_⟩
  exact h1 _ _ _ _ e6' R2 (e7.trans (Same.ks sm)).kw
/-! isinstance(e, C), e None or a caught exception -/
def rIsX (K : PySem.W.Frag) (C : Addr) : List V → Hp → VK → Prop := fun xs H Q => ∃ (x : V) (b : Bool), xs = [x, .ref C] ∧ ((x = .non ∧ b = false) ∨ ∃ a D d fs, x = .ref a ∧ H a = some (exV a D d) ∧ H d = some (.xd fs) ∧ ExcC K D ∧ (PySem.W.clsIn K D).isSome = true ∧ PySem.W.kitOne K (.ref D) (.ref C) = some b) ∧ Q (.bl b) H
theorem exc_inst {X : Cx} {pins : List (Addr × Obj)} {σ : L2.St} {H : Hp} {s : Shared} {a D d : Addr} {fs : List (Str × V)} (I : Inv X pins σ H s) (h1 : H a = some (exV a D d)) (h2 : H d = some (.xd fs)) :
    ∃ (oe od : Obj) (mA : Str → Option Value), PySem.W.InstAt s.heap a oe D (some od) ∧ (∀ n, PySem.W.lookIn n od = some (mA n)) ∧ ∀ n, RelO (fs.lookup n) (mA n) := by
  obtain ⟨oe, vs, he, hc, hd, hv⟩ := exV_at I.hok h1
  have hx : ObjOk X.prog X.w H s.heap d (.xd fs) := I.hok d _ h2
  obtain ⟨mA, hns, hr⟩ := hx
  obtain ⟨od, ho, hl⟩ := lookIn_ns hns
  exact ⟨oe, od, mA, ⟨he, hc, by unfold PySem.W.notCls; rw [hv], by rw [hd]; exact ho⟩, hl, hr⟩
theorem call_isX {X : Cx} {C : Addr} (hnon : PySem.W.kitOne X.K (.type "NoneType") (.ref C) = some false) : CallR X (.builtin "isinstance") (rIsX X.K C) := by
  intro pins s σ H xs us Q I r h
  obtain ⟨x, b, rfl, h, q⟩ := h
  obtain ⟨u1, u2, rfl, r1, r2⟩ := vals2 r
  obtain rfl : u2 = Value.ref C := r2
  rcases h with ⟨rfl, rfl⟩ | ⟨a, D, d, fs, rfl, h1, h2, T, hcl, e⟩
  · obtain rfl : u1 = Value.none := r1
    exact PySem.W.kia_one PySem.W.kitx_none I.kIn True.intro hnon (fun z => nomatch z) fun tk => ⟨.bl false, H, I.tok tk, rfl, q⟩
  · obtain rfl : u1 = Value.ref a := r1
    obtain ⟨oe, od, mA, J, _⟩ := exc_inst I h1 h2
    exact PySem.W.kia_one (PySem.W.kitx_exc hcl T.hg T.hk T.hs T.ha T.hn T.ht T.hm) I.kIn J e (fun z => nomatch z) fun tk => ⟨.bl b, H, I.tok tk, rfl, q⟩
def mIsX (g : Str → Option Bool) (ma : ME) : ME := fun ε ρ n k => ma ε ρ n fun d n1 => match d with
  | .non => k (.bl false) n1
  | .exc nm _ => (match g nm with
    | some b => k (.bl b) n1
    | none => False)
  | _ => False
theorem de_isX {X : Cx} {S : Sg} {B : Option (Addr × (Addr × List Int))} {H0 : Hp} {ε : XD} {C : Addr} {x : Str} {g : Str → Option Bool} {ma : ME} {e : Expr} {p q pos : Pos} (hm : X.mg "isinstance" = none) (hx : X.mg x = some (.ref C)) (hnon : PySem.W.kitOne X.K (.type "NoneType") (.ref C) = some false)
    (hcl : ∀ D nm b, S.cn D = some nm → g nm = some b → ExcC X.K D ∧ (PySem.W.clsIn X.K D).isSome = true ∧ PySem.W.kitOne X.K (.ref D) (.ref C) = some b) (he : PE X e (tE ⟨X.K, S, B⟩ H0 ε ma)) (hg : Gl X "isinstance" := by rfl) (hgx : Gl X x := by rfl) (hdx : (x == ("__debug__" : Str)) = false := by decide)
    (s0 : starEach [e, .Name x q] X.env = (false, eval e X.env) :: starEach [.Name x q] X.env := by rfl) (s1 : starEach [.Name x q] X.env = (false, eval (.Name x q) X.env) :: starEach [] X.env := by rfl) (hpl : (backTo pos (starEach [.Name x q] X.env)).any (·.1) = false := by rfl) :
    PE X (.Call (.Name "isinstance" p) [e, .Name x q] [] pos) (tE ⟨X.K, S, B⟩ H0 ε (mIsX g ma)) := by
  refine imp_pe (pe_callB (call_isX hnon) hg hm (by decide +kernel) (pa_cons he (pa_cons (pe_glob (pos := q) hgx hx (v := .ref C) rfl hdx) pa_nil s1) s0) (by decide) (by decide) s0 hpl) fun σ H Q ⟨ρ, n, k, R, m, q⟩ => ?_
  refine ⟨ρ, n, _, R, m, fun d n1 v H1 m1 dv k1 b1 => ?_⟩
  cases dv with
  | non => exact ⟨.non, false, rfl, .inl ⟨rfl, rfl⟩, q _ _ _ _ m1 (.bl _) k1 b1⟩
  | exc s h1 h2 h3 =>
    dsimp only at m1
    split at m1
    · rename_i b hb
      obtain ⟨c1, c2, c3⟩ := hcl _ _ _ s hb
      exact ⟨_, b, rfl, .inr ⟨_, _, _, _, rfl, h1, h2, c1, c2, c3⟩, q _ _ _ _ m1 (.bl _) k1 b1⟩
    · exact m1.elim
  | _ => exact m1.elim
/-! e.f, e a caught exception -/
def mXf (ok : Str → Bool) (f : Str) (ma : ME) : ME := fun ε ρ n k => ma ε ρ n fun d n1 => match d with
  | .exc nm fs => ok nm = true ∧ optK (fs.lookup f) fun d' => k d' n1
  | _ => False
theorem dvf_lookup {c : Cc} {H : Hp} {f : Str} {d : D} : ∀ {fs : List (Str × V)} {ds : List (Str × D)}, DVf c H fs ds → ds.lookup f = some d → ∃ v, fs.lookup f = some v ∧ DV c H v d
  | _, _, .nil, e => by cases e
  | (k, v) :: _, (_, d') :: _, .cons h t, e => by
    rw [List.lookup_cons] at e ⊢
    cases hb : f == k with
    | true => rw [hb] at e; cases e; exact ⟨v, rfl, h⟩
    | false => rw [hb] at e; exact dvf_lookup t e
theorem de_xf {X : Cx} {S : Sg} {B : Option (Addr × (Addr × List Int))} {H0 : Hp} {ε : XD} {ok : Str → Bool} {f : Str} {ma : ME} {e : Expr} {pos : Pos} (hcl : ∀ C nm, S.cn C = some nm → ok nm = true → XfC X.K C ∧ PySem.W.findIn X.K (.ref C) f = some none)
    (he : PE X e (tE ⟨X.K, S, B⟩ H0 ε ma)) (hb : attributeBase e f X.env (eval e X.env) = eval e X.env := by rfl) : PE X (.Attribute e f pos) (tE ⟨X.K, S, B⟩ H0 ε (mXf ok f ma)) := by
  refine ⟨fun pins s σ H Q I ⟨ρ, n, k, R, m, q⟩ => ?_⟩
  refine attr_of hb (thn (he.run pins s σ H (fun v H1 => ∃ a C d nm fs ds w dd n1, v = .ref a ∧ S.cn C = some nm ∧ H1 a = some (exV a C d) ∧ H1 d = some (.xd fs) ∧ ok nm = true ∧ fs.lookup f = some w ∧ DVf ⟨X.K, S, B⟩ H1 fs ds ∧ k dd n1 ∧ DV ⟨X.K, S, B⟩ H1 w dd ∧ Ks ⟨X.K, S, B⟩ H H1 ∧ BoxAt ⟨X.K, S, B⟩ n1 H1) I ⟨ρ, n, _, R, m, fun d n1 v H1 m1 dv k1 b1 => ?_⟩) fun u s1 ⟨v, H1, I1, r1, q1⟩ => ?_)
  · cases dv with
    | exc s h1 h2 h3 =>
      dsimp only at m1
      obtain ⟨hk, m2⟩ := m1
      obtain ⟨d', e1, m3⟩ := optK_some m2
      obtain ⟨w, e2, dw⟩ := dvf_lookup h3 e1
      exact ⟨_, _, _, _, _, _, w, d', n1, rfl, s, h1, h2, hk, e2, h3, m3, dw, k1, b1⟩
    | _ => exact m1.elim
  · obtain ⟨a, C, d, nm, fs, ds, w, dd, n1, rfl, hs, h1, h2, hk, e2, h3, m3, dw, k1, b1⟩ := q1
    obtain rfl : u = Value.ref a := r1
    obtain ⟨T, hno⟩ := hcl C nm hs hk
    obtain ⟨oe, od, mA, J, hl, hr⟩ := exc_inst I1 h1 h2
    obtain ⟨u, hu, ru⟩ := RelO.some_of (v := w) (o := mA f) (by rw [← e2]; exact hr f)
    exact HandSPX.exc_get I1.kIn J T.ga T.gg T.exC (PySem.W.findObj_own T.hdC hno rfl (by rw [hl, hu])) (handed_of ru) ⟨w, H1, I1.tok _, ru, q _ _ _ _ m3 dw k1 b1⟩
end DS
/-! # DataX9: the law's end with tables of code objects; defs that make lambdas -/
namespace DS
open PySem PySem.Spec PyProof.Rows L2
theorem tab_at {p : Program} {loose : List Str} {mean : ExcName → Option Value} {mg mb : Str → Option Value} {h : Heap} {K : PySem.W.Frag} {x : Str} {f c P : Addr} {oc ccl : Value} {od cdd : Option Addr} {osl ccs : Array (Option Value)} {fd : FuncData} {vs : Array Value}
    (T : Top p loose mean mg mb h) (X : K.In h) (hr : ((recsOf p).find? (fun e => e.name == x)).isSome = true) (hm : PySem.W.nsIn K mainGlobals x = some (some (.ref f))) (lf : K.lookup f = some ⟨oc, od, .func fd, osl⟩) (hcd : fd.code = .ref c) (lc : K.lookup c = some ⟨ccl, cdd, .fields vs, ccs⟩) (hv : vs[11]? = some (.ref P)) :
    PySem.W.CodeHd h c P ∧ h.get? P = some { cls := .none, data := .fields #[] } := by
  obtain ⟨d, hd⟩ := Option.isSome_iff_exists.mp hr
  refine PySem.W.tab_of T X hd ?_
  unfold PySem.W.tabIn
  rw [hm]
  dsimp only
  rw [lf]
  dsimp only
  rw [hcd]
  dsimp only
  rw [lc]
  dsimp only
  rw [hv]
theorem no_tab {K : PySem.W.Frag} {h : Heap} {P : Addr} (X : K.In h) (hn : PySem.W.noTabs K = true) (hP : h.get? P = some { cls := .none, data := .fields #[] }) : K.lookup P = none := by
  cases e : K.lookup P with
  | none => rfl
  | some o =>
    have q := X _ _ e
    rw [hP] at q
    cases q
    have h2 := List.all_eq_true.mp hn (P, _) (PySem.W.mem_of_lookupK e)
    exact absurd (show false = true from h2) Bool.false_ne_true
/-- what is known of the law's promise at the head's heap h -/
structure LawG (P : Program) (w : World) (K : PySem.W.Frag) (mg : Str → Option Value) (k : Nat) (x : Str) (fa : Addr) (h : Heap) : Prop where
  ex : ∃ (fd : FuncData) (cs : List (Addr × Addr)) (S : Sg), (∀ (s : Shared) (u : Value), BindsTo s fd ⟨[u], []⟩ [(x, u)]) ∧ (∀ p ∈ cs, PySem.W.CodeHd h p.1 p.2 ∧ h.get? p.2 = some { cls := .none, data := .fields #[] } ∧ K.lookup p.2 = none) ∧ (∀ p ∈ S.tb, ∃ c, (c, p.1) ∈ cs) ∧
    ∀ base : Heap, K.In base → base.Ns mainGlobals mg → (∀ p ∈ cs, LamX.TabB base mg p.1 p.2) → FnG P w K mg base (L2.CX P w) k fa fd [x] (spLaw K S)
/-- the law's call from the outermost frame -/
theorem law_coreT {P : Program} {w : World} {K : PySem.W.Frag} {mg mb : Str → Option Value} {k : Nat} {s₁ : Shared} {fa a : Addr} {vs : List Value} {ns : List Int} {fd : FuncData} {x : Str} {H : Hp} {cs : List (Addr × Addr)} {S : Sg}
    (KX : K.In s₁.heap) (hns : s₁.heap.Ns mainGlobals mg) (hb : s₁.heap.Ns builtinsNs mb) (hbb : ∀ y : Str, y ≠ "__name__" → mb y = bootBuiltins y) (hlim : s₁.heap.NoLimit) (hgen : s₁.gens = #[])
    (hbm : ∃ (bm : Addr) (ob : Obj), mg "__builtins__" = some (.ref bm) ∧ bm ≠ builtinsNs ∧ s₁.heap.get? bm = some ob ∧ ob.cls = .type "module" ∧ ob.dict = some builtinsNs ∧ ob.data = .plain)
    (ha : s₁.heap.get? a = some { cls := .type "list", data := .seq vs.toArray }) (rv : Vals (ns.map V.int) vs) (hz : (ns.map V.int).length ≤ sizeLine) (hr : Room k callerA)
    (hcs : ∀ p ∈ cs, PySem.W.CodeHd s₁.heap p.1 p.2 ∧ s₁.heap.get? p.2 = some { cls := .none, data := .fields #[] } ∧ K.lookup p.2 = none) (hS : ∀ p ∈ S.tb, ∃ c, (c, p.1) ∈ cs)
    (hH : ∀ b u, H b = some u → (b = a ∧ u = .frz { cls := .type "list", data := .seq vs.toArray } (.lst (ns.map V.int)) ∧ K.lookup a = none) ∨ ∃ p ∈ cs, b = p.2 ∧ u = .tbl #[]) (hT : ∀ p ∈ cs, H p.2 = some (.tbl #[]))
    (F : ∀ base : Heap, K.In base → base.Ns mainGlobals mg → (∀ p ∈ cs, LamX.TabB base mg p.1 p.2) → FnG P w K mg base (L2.CX P w) k fa fd [x] (spLaw K S)) (hbind : ∀ (s : Shared) (u : Value), BindsTo s fd ⟨[u], []⟩ [(x, u)])
    (hfz : FzL K H a (ns.map V.int)) :
    codeAny (model P w) callerA (.call (.ref fa) ⟨[.ref a], []⟩) (fun r s' => r = .ok (.ret (.bool true)) ∧ OldK s₁.heap s'.heap ∧ s'.os = s₁.os ∧ AllBare s'.gens) s₁ := by
  have isT : ∀ {b : Addr}, (∃ p ∈ cs, b = p.2) → s₁.heap.get? b = some { cls := .none, data := .fields #[] } := fun {b} ⟨p, hp, e⟩ => by rw [e]; exact (hcs p hp).2.1
  have free : ∀ {b : Addr} {o : Obj}, s₁.heap.get? b = some o → (∀ vs n, o.data ≠ .seq vs n) → o.data ≠ .fields #[] → H b = none := fun {b o} e h1 h2 => by
    cases z : H b with
    | none => rfl
    | some u =>
      rcases hH b u z with ⟨rfl, _⟩ | ⟨p, hp, eb, _⟩
      · rw [ha] at e
        cases e
        exact (h1 _ _ rfl).elim
      · have y := isT ⟨p, hp, eb⟩
        rw [y] at e
        cases e
        exact (h2 rfl).elim
  have hid : ∀ {b : Addr} {o : Obj}, s₁.heap.get? b = some o → (∀ vs n, o.data ≠ .seq vs n) → o.data ≠ .fields #[] → (hidT s₁.heap H).get? b = some o := fun e h1 h2 => hidT_get e (free e h1 h2)
  have nsB : ∀ {b : Addr} {m : Str → Option Value}, s₁.heap.Ns b m → (hidT s₁.heap H).Ns b m := fun {b m} ⟨o, es, ep, e, d, r⟩ => ⟨o, es, ep, hid e (fun vs n z => by rw [d] at z; cases z) (fun z => by rw [d] at z; cases z), d, r⟩
  have inB : K.In (hidT s₁.heap H) := fun b o e => by
    refine hidT_get (KX b o e) ?_
    cases z : H b with
    | none => rfl
    | some u =>
      rcases hH b u z with ⟨rfl, _, hk⟩ | ⟨p, hp, eb, _⟩
      · rw [hk] at e; cases e
      · rw [eb, (hcs p hp).2.2] at e; cases e
  have hok : HOk P w H s₁.heap := fun b u e => by
    rcases hH b u e with ⟨rfl, rfl, _⟩ | ⟨p, hp, eb, rfl⟩
    · exact ⟨ha, hz, vs, _, rv, ha⟩
    · exact isT ⟨p, hp, eb⟩
  have M : Mod K mg (hidT s₁.heap H) := ⟨inB, nsB hns, ⟨mb, nsB hb, hbb⟩, let ⟨mc, h1, h2⟩ := hlim; ⟨mc, nsB h1, h2⟩⟩
  have TB : ∀ p ∈ cs, LamX.TabB (hidT s₁.heap H) mg p.1 p.2 := fun p hp => by
    obtain ⟨hc, hP, _⟩ := hcs p hp
    have nG : mainGlobals ≠ p.2 := fun z => by
      obtain ⟨o, es, ep, e, hd, _⟩ := hns
      rw [z, hP] at e
      cases e
      cases hd
    refine ⟨?_, ?_, nG⟩
    · obtain ⟨o, us, file, tf, flags, tg, inF, text, tt, e1, r1, r2, r3, r⟩ := hc
      refine ⟨o, us, file, tf, flags, tg, inF, text, tt, hid e1 (fun vs n z => by rw [r2] at z; cases z) (fun z => ?_), r1, r2, r3, r⟩
      rw [r2] at z
      cases z
      simp at r3
    · obtain ⟨bm, ob, b1, b2, b3, b4, b5, b6⟩ := hbm
      refine ⟨bm, ob, b1, b2, fun q => ?_, fun q => ?_, hid b3 (fun vs n z => by rw [b6] at z; cases z) (fun z => by rw [b6] at z; cases z), b4, b5, b6⟩
      · obtain ⟨o, es, ep, e, hd, _⟩ := hns
        rw [q, e] at b3
        cases b3
        rw [hd] at b6
        cases b6
      · rw [q, hP] at b3
        cases b3
        cases b6
  have e0 : Env0 P w K mg (hidT s₁.heap H) callerA [] s₁ H := ⟨rfl, M, fun b o e => of_hidT e, Nat.le_of_eq (hidT_size _ _), trivial, fun b z => absurd z (List.not_mem_nil), hok, .of_eq hgen⟩
  have tabs : LamX.Tabs S.tb H := fun p hp => by
    obtain ⟨c, hc⟩ := hS p hp
    exact .nil (hT _ hc)
  refine codeAny_mono ((F _ inB (nsB hns) TB).run callerA [] s₁ H ⟨[.ref a], []⟩ [.ref a] [.ref a] (fun v _ => v = .bl true) (fun _ _ _ => False) rfl hr e0 (hbind s₁ (.ref a)) (.cons rfl .nil) ⟨a, ns, rfl, hfz, tabs, fun _ => rfl⟩) ?_
  rintro (e | fl) s' h
  · obtain ⟨_, _, _, _, _, _, _, _, _, _, _, _, z⟩ := h
    exact z.elim
  · match fl, h with
    | .next, h => exact h.elim
    | .brk, h => exact h.elim
    | .cont, h => exact h.elim
    | .ret u, ⟨v, H', os, bare, un, hok', r', (q : v = .bl true)⟩ =>
      subst q
      obtain rfl : u = Value.bool true := r'
      have key : ∀ b o, (∀ p ∈ cs, b ≠ p.2) → s₁.heap.get? b = some o → s'.heap.get? b = some o := fun b o nb e => by
        cases z : H b with
        | none => exact un.keep b o e z (List.not_mem_nil) (List.not_mem_nil)
        | some u =>
          rcases hH b u z with ⟨rfl, rfl, _⟩ | ⟨p, hp, eb, _⟩
          · have z2 := un.frzs b _ _ z
            rw [ha] at e
            cases e
            exact (hok' b _ z2).1
          · exact absurd eb (nb p hp)
      have grown : ∀ p ∈ cs, ∃ more : Array Value, s'.heap.get? p.2 = some { cls := .none, data := .fields more } := fun p hp => by
        obtain ⟨more, z⟩ := un.tbls p.2 #[] (hT p hp)
        exact ⟨_, hok' p.2 _ z⟩
      have dec : ∀ b, (∃ p ∈ cs, b = p.2) ∨ ∀ p ∈ cs, b ≠ p.2 := fun b => by
        by_cases hq : ∃ p ∈ cs, b = p.2
        · exact .inl hq
        · exact .inr fun p hp e => hq ⟨p, hp, e⟩
      refine ⟨rfl, ⟨fun b o e => ?_, fun b o e => ?_⟩, os, bare⟩
      · rcases dec b with ⟨p, hp, eb⟩ | nb
        · obtain ⟨more, hm⟩ := grown p hp
          have hP := (hcs p hp).2.1
          rw [eb] at e ⊢
          rw [hP] at e
          cases e
          exact .inr (.inl ⟨((hcs p hp).1.tab hP).isCodeTable, rfl, #[], more, rfl, by rw [Array.empty_append]; exact hm⟩)
        · exact .inl (key b o nb e)
      · rcases dec b with ⟨p, hp, eb⟩ | nb
        · obtain ⟨more, hm⟩ := grown p hp
          rw [eb]
          exact ⟨_, hm⟩
        · exact ⟨o, key b o nb e⟩
theorem law_gT {l : PySem.W.OpenLaw} {n k : Nat} {q : Program} {loose : List Str} {XP : (Str → Option Value) → Heap → Prop} {YP : World → Heap → Prop} {d : DefRec} {K : Params → PySem.W.Frag} {x : Str}
    (hn : l.most = some n) (hn2 : n ≤ sizeLine) (hdf : d.params.defaults = []) (hr : Room k callerA) (hY : ∀ (w : World) (h : Heap), YP w h → (K w.params).In h)
    (F : ∀ (w : World) (mg : Str → Option Value) (fa : Addr) (h : Heap), (∃ loose' mean mb, Top q loose' mean mg mb h) → (K w.params).In h → h.Ns mainGlobals mg → mg d.name = some (.ref fa) → LawG l.prog w (K w.params) mg k x fa h) :
    PySem.W.WalkO q loose XP YP l.row.toRowW d [] (fun f vs => PySem.call f vs) := by
  refine Att.attach_call hn hdf fun w s₀ s₁ mg mb fa o pm cd doc a vs ns G Y ho hd hcd hmg hobj hints hlen hgn => ?_
  have KX := hY w _ Y
  obtain ⟨fd, cs, S, hb, hcs, hS, hF⟩ := (F w mg fa _ ⟨_, _, _, G.T⟩ KX G.T.g hmg).ex
  have rv : Vals (ns.map V.int) vs := by
    clear hobj hlen
    induction hints with
    | nil => exact .nil
    | cons i t _ ih => exact .cons ⟨t, rfl⟩ ih
  have hz : (ns.map V.int).length ≤ sizeLine := by rw [List.length_map]; exact Nat.le_trans hlen hn2
  have aT : ∀ p ∈ cs, p.2 ≠ a := fun p hp z => by
    have e := (hcs p hp).2.1
    rw [z, hobj] at e
    cases e
  have pick : ∀ b, (∃ p ∈ cs, b = p.2) ∨ ¬ ∃ p ∈ cs, b = p.2 := fun b => Classical.em _
  cases hk : (K w.params).lookup a with
  | some ob =>
    have e := KX a ob hk
    rw [hobj] at e
    cases e
    refine law_coreT (H := fun b => @ite _ (∃ p ∈ cs, b = p.2) (Classical.propDecidable _) (some (.tbl #[])) none) KX G.T.g G.T.b G.T.builtins G.T.nolimit hgn G.T.bmain hobj rv hz hr hcs hS (fun b u z => ?_) (fun p hp => if_pos ⟨p, hp, rfl⟩) hF hb (.inr ⟨vs, _, hk, by rw [← rv.length]; exact hz, rv⟩)
    rcases pick b with ⟨p, hp, e⟩ | nb
    · rw [if_pos ⟨p, hp, e⟩] at z
      cases z
      exact .inr ⟨p, hp, e, rfl⟩
    · rw [if_neg nb] at z
      cases z
  | none =>
    refine law_coreT (H := fun b => if b = a then some (.frz { cls := .type "list", data := .seq vs.toArray } (.lst (ns.map V.int))) else @ite _ (∃ p ∈ cs, b = p.2) (Classical.propDecidable _) (some (.tbl #[])) none) KX G.T.g G.T.b G.T.builtins G.T.nolimit hgn G.T.bmain hobj rv hz hr hcs hS (fun b u z => ?_)
      (fun p hp => by rw [if_neg (aT p hp)]; exact if_pos ⟨p, hp, rfl⟩) hF hb (.inl ⟨_, if_pos rfl⟩)
    by_cases hba : b = a
    · rw [if_pos hba] at z
      cases z
      exact .inl ⟨hba, rfl, hk⟩
    · rw [if_neg hba] at z
      rcases pick b with ⟨p, hp, e⟩ | nb
      · rw [if_pos ⟨p, hp, e⟩] at z
        cases z
        exact .inr ⟨p, hp, e, rfl⟩
      · rw [if_neg nb] at z
        cases z
end DS
/-! # DataX10: what is read off the written part for exceptions and lambdas -/
namespace DS
open PySem PySem.Spec PyProof.Rows L2
def sgOf (tab : List (Addr × Str)) (tb : List (Addr × Str)) (ti : List (Addr × Str) := []) (fo : Str → List Str := fun _ => []) : Sg := ⟨fun C => tab.lookup C, tb, fun C => ti.lookup C, fo⟩
theorem lk_mem {α β : Type} [BEq α] [LawfulBEq α] {x : α} {v : β} : ∀ {l : List (α × β)}, l.lookup x = some v → (x, v) ∈ l
  | [], e => by cases e
  | (y, u) :: l, e => by
    rw [List.lookup_cons] at e
    cases h : x == y with
    | true => rw [h] at e; cases e; rw [eq_of_beq h]; exact .head _
    | false => rw [h] at e; exact .tail _ (lk_mem e)
theorem sg_all {tab tb ti : List (Addr × Str)} {fo : Str → List Str} {Pr : Addr → Str → Prop} (h : ∀ p ∈ tab, Pr p.1 p.2) : ∀ C nm, (sgOf tab tb ti fo).cn C = some nm → Pr C nm := fun C nm e => h _ (lk_mem e)
theorem sg_allI {tab tb ti : List (Addr × Str)} {fo : Str → List Str} {Pr : Addr → Str → Prop} (h : ∀ p ∈ ti, Pr p.1 p.2) : ∀ C nm, (sgOf tab tb ti fo).ci C = some nm → Pr C nm := fun C nm e => h _ (lk_mem e)
/-- all that is read of an own exception class with one field -/
structure ExAll (K : PySem.W.Frag) (C : Addr) (fld : Str) : Prop where
  ex : ExcC K C
  cl : (PySem.W.clsIn K C).isSome = true
  no : PySem.W.findIn K (.ref C) fld = some none
theorem ExAll.xf {K : PySem.W.Frag} {C : Addr} {fld : Str} (h : ExAll K C fld) : XfC K C := ⟨h.ex.hg, h.ex.hk, h.ex.hs, h.ex.hd⟩
theorem ExAll.x3 {K : PySem.W.Frag} {C D : Addr} {fld : Str} {b b' : Bool} (h : ExAll K D fld) (e : PySem.W.kitOne K (.ref D) (.ref C) = some b) (eb : b = b') : ExcC K D ∧ (PySem.W.clsIn K D).isSome = true ∧ PySem.W.kitOne K (.ref D) (.ref C) = some b' := ⟨h.ex, h.cl, eb ▸ e⟩
theorem exn_mk {P : Program} {w : World} {K : PySem.W.Frag} {mg : Str → Option Value} {base : Heap} {S : Sg} {C fI cda cc N0 : Addr} {x qual slf px fld nm nm2 q2 : Str} {tk tf : Tok} {params : Arguments} {scope : Scope} {kV doc pm ct oc ccl cl : Value} {an od cdd cld dd : Option Addr} {osl ccs csl : Array (Option Value)} {vs : Array Value} {file : Str}
    {bs bm : List Value} {sn : List Str} {sub : List Value} {ab : Bool} {col : Option Bool} {k0 k1 k3 k5 : Option Value} {ar : Arg}
    {p0 p1 p2 p3 p4 q0 q1 qq2 r0 r1 r2 r3 : Pos} {pl : Sem Bool}
    (hx : mg x = some (.ref C)) (hcn : S.cn C = some x) (sup : mg "super" = none)
    (hC : K.lookup C = some (excClassObj nm2 q2 C N0 bs bm true sn sub ab col dd k0 k1 (some (.str nm tk)) k3 k5 "ValueError.__new__")) (hbm : PySem.HandSPX.refsVE bm = true)
    (sa : PySem.W.findIn K (.ref C) "__setattr__" = some (some (.builtin "object.__setattr__"))) (exC : PySem.W.subIn K (.ref C) (.type "BaseException") = some true) (tyC : PySem.W.typeIn K (.ref C) = some (.type "type")) (kC : PySem.W.keepIn K (.ref C) = true)
    (opq : PySem.W.nsIn K cStatics "thirdparty.any" = some none) (all : ExAll K C fld)
    (fc : PySem.W.findCls K (.ref C) (.type "type") "__name__" = some (.get (.builtin "getset_descriptor.__get__") (.builtin "type.__name__") (.ref C) (.type "type")))
    (iC : PySem.W.findIn K (.ref C) "__init__" = some (some (.ref fI))) (tI : PySem.W.typeIn K (.ref fI) = some (.type "function"))
    (lk : K.lookup fI = some ⟨oc, od, .func (PySem.W.ksFn "__init__" qual params [.Expr (.Call (.Attribute (.Call (.Name "super" p0) [] [] p1) "__init__" p2) [.Attribute (.Attribute (.Name slf q0) "__class__" q1) "__name__" qq2] [] p3) p4, .Assign [.Attribute (.Name slf r0) fld r1] (.Name px r2) r3] scope .none kV doc pm an (.ref cda) ct cc), osl⟩)
    (hcd : PySem.W.codeIn K (.ref cda) qual = true) (lc : K.lookup cda = some ⟨ccl, cdd, .fields vs, ccs⟩) (hvs : vs[2]? = some (.str file tf)) (hfile : ((P.main.file : Str) == file) = true)
    (lcc : K.lookup cc = some ⟨cl, cld, .cell (some (.ref C)), csl⟩) (hsub : PySem.W.mroIn K C (.ref C) = some true) (top : (P.main.scope.names.lookup ("super" : Str)).isSome = false)
    (ini : PySem.W.ks_superIn K C C "__init__" = some (some (.builtin "ValueError.__init__"))) (subV : PySem.W.subIn K (.ref C) (.type "ValueError") = some true)
    (har : (params.posonlyargs ++ params.args).head? = some ar) (har2 : ar.arg = slf) (Sc : ISc [slf, px] [slf, px] scope slf)
    (hbi : ∀ us : List Value, us.length = 2 → bindArgs (PySem.W.ksFn "__init__" qual params [.Expr (.Call (.Attribute (.Call (.Name "super" p0) [] [] p1) "__init__" p2) [.Attribute (.Attribute (.Name slf q0) "__class__" q1) "__name__" qq2] [] p3) p4, .Assign [.Attribute (.Name slf r0) fld r1] (.Name px r2) r3] scope .none kV doc pm an (.ref cda) ct cc) ⟨us, []⟩ = pure ([slf, px].zip us))
    (d0 : (slf == ("__debug__" : Str)) = false) (d1 : (slf == ("__classdict__" : Str)) = false) (d2 : (px == ("__debug__" : Str)) = false) (d3 : (px == ("__classdict__" : Str)) = false)
    (a1 : ∀ L, attributeBase (.Name slf q0) "__class__" (ienv qual scope L fI (.ref cda) cc) (eval (.Name slf q0) (ienv qual scope L fI (.ref cda) cc)) = eval (.Name slf q0) (ienv qual scope L fI (.ref cda) cc))
    (a2 : ∀ L, attributeBase (.Attribute (.Name slf q0) "__class__" q1) "__name__" (ienv qual scope L fI (.ref cda) cc) (eval (.Attribute (.Name slf q0) "__class__" q1) (ienv qual scope L fI (.ref cda) cc)) = eval (.Attribute (.Name slf q0) "__class__" q1) (ienv qual scope L fI (.ref cda) cc))
    (hsw : ∀ L, swapsWith (.Name px r2) (some (.Attribute (.Name slf r0) fld r1)) r3.line (ienv qual scope L fI (.ref cda) cc) = pure false)
    (hev : ∀ L, eval (.Call (.Attribute (.Call (.Name "super" p0) [] [] p1) "__init__" p2) [.Attribute (.Attribute (.Name slf q0) "__class__" q1) "__name__" qq2] [] p3) (ienv qual scope L fI (.ref cda) cc) = (do
      let ov ← attributeBase (.Call (.Name "super" p0) [] [] p1) "__init__" (ienv qual scope L fI (.ref cda) cc) (eval (.Call (.Name "super" p0) [] [] p1) (ienv qual scope L fI (.ref cda) cc))
      standAt p2.atName
      let (g, first) ← holding [ov] (getMethod ov "__init__" pl)
      callWith p3 g first (backTo p3 (starEach [.Attribute (.Attribute (.Name slf q0) "__class__" q1) "__name__" qq2] (ienv qual scope L fI (.ref cda) cc))) []))
    (he : ∀ L, starEach [.Attribute (.Attribute (.Name slf q0) "__class__" q1) "__name__" qq2] (ienv qual scope L fI (.ref cda) cc) = [(false, eval (.Attribute (.Attribute (.Name slf q0) "__class__" q1) "__name__" qq2) (ienv qual scope L fI (.ref cda) cc))]) :
    Exn P w K mg base S x fld 1 := by
  have T : OexC K C := ⟨⟨_, _, _, _, _, _, _, _, _, _, _, _, _, _, _, hC, hbm⟩, sa, exC, tyC, kC⟩
  have NM : NmC K C nm := ⟨opq, all.ex, ⟨_, tk, hC, rfl, rfl⟩, fc⟩
  have I : IniC P K mg C C fI cda cc _ qual slf := ⟨⟨_, _, _, lk⟩, ⟨ar, har, har2⟩, hcd, ⟨_, _, _, _, _, _, lc, hvs, hfile⟩, ⟨_, _, _, lcc⟩, all.cl, hsub, sup, top, opq, ini, subV, T⟩
  exact ⟨C, fI, _, _, T, iC, tI, fn_ini1 (k := 0) lk I Sc NM all.no rfl d0 d1 d2 d3 a1 a2 hsw hev he, L2.Binds.all hbi, hx, hcn⟩
def okT : Str → Bool := fun _ => true
/-- isinstance against an own class x -/
structure IsE (K : PySem.W.Frag) (mg : Str → Option Value) (S : Sg) (x : Str) (g : Str → Option Bool) : Prop where
  ex : ∃ C, mg x = some (.ref C) ∧ PySem.W.kitOne K (.type "NoneType") (.ref C) = some false ∧ ∀ D nm b, S.cn D = some nm → g nm = some b → ExcC K D ∧ (PySem.W.clsIn K D).isSome = true ∧ PySem.W.kitOne K (.ref D) (.ref C) = some b
theorem de_isE {X : Cx} {S : Sg} {B : Option (Addr × (Addr × List Int))} {H0 : Hp} {ε : XD} {x : Str} {g : Str → Option Bool} {ma : ME} {e : Expr} {p q pos : Pos} (hm : X.mg "isinstance" = none) (E : IsE X.K X.mg S x g) (he : PE X e (tE ⟨X.K, S, B⟩ H0 ε ma)) (hg : Gl X "isinstance" := by rfl) (hgx : Gl X x := by rfl) (hdx : (x == ("__debug__" : Str)) = false := by decide)
    (s0 : starEach [e, .Name x q] X.env = (false, eval e X.env) :: starEach [.Name x q] X.env := by rfl) (s1 : starEach [.Name x q] X.env = (false, eval (.Name x q) X.env) :: starEach [] X.env := by rfl) (hpl : (backTo pos (starEach [.Name x q] X.env)).any (·.1) = false := by rfl) :
    PE X (.Call (.Name "isinstance" p) [e, .Name x q] [] pos) (tE ⟨X.K, S, B⟩ H0 ε (mIsX g ma)) := by
  obtain ⟨C, h1, h2, h3⟩ := E.ex
  exact de_isX hm h1 h2 h3 he hg hgx hdx s0 s1 hpl
/-- except x -/
structure TrE (K : PySem.W.Frag) (mg : Str → Option Value) (S : Sg) (x : Str) (ok : Str → Bool) : Prop where
  ex : ∃ C, mg x = some (.ref C) ∧ ∀ D nm, S.cn D = some nm → ok nm = true → PySem.W.exmOne K (.ref D) (.ref C) = some true
theorem ds_tryE {X : Cx} {S : Sg} {B : Option (Addr × (Addr × List Int))} {H0 : Hp} {a x en m : Str} {f : Addr} {ml : ML} {ok : Str → Bool} {p1 p2 p3 np mp ep ap hp pos : Pos} (i j : Nat) (hA : AskOk X ⟨X.K, S, B⟩ H0 a 0 f ml) (T : TrE X.K X.mg S x ok) (hN : X.N.Nodup)
    (hgx : Gl X x := by rfl) (hdx : (x == ("__debug__" : Str)) = false := by decide) (hs : X.stack = X.env :: X.outer := by rfl) (hf : X.env.frame = some X.env.locals := by rfl) (hex : X.ex = [] := by rfl)
    (hi : X.N[i]? = some en := by rfl) (hj : X.N[j]? = some m := by rfl) (hln : X.env.scope.names.lookup en = some .local := by rfl) (hlm : X.env.scope.names.lookup m = some .local := by rfl)
    (hd : (en == ("__debug__" : Str)) = false := by decide) (hcd : (en == ("__classdict__" : Str)) = false := by decide) (hsw : swapsWith (.Call (.Name a p1) [] [] p2) none p3.line X.env = pure false := by rfl) (hsw2 : swapsWith (.Name en ep) (some (.Name m mp)) ap.line X.env = pure false := by rfl) :
    PS X (.Try [.Expr (.Call (.Name a p1) [] [] p2) p3] [.ExceptHandler (some (.Name x np)) (some en) [.Assign [.Name m mp] (.Name en ep) ap] hp] [] [] pos) (tS ⟨X.K, S, B⟩ H0 noX (mTry ok i j f ml)) := by
  obtain ⟨C, h1, h2⟩ := T.ex
  exact ds_try i j hA ⟨hgx, hdx, .inl h1⟩ h2 hN hs hf hex hi hj hln hlm hd hcd hsw hsw2
theorem exm_of {K : PySem.W.Frag} {R D : Addr} (h1 : PySem.W.subIn K (.ref R) (.type "BaseException") = some true) (hd : PySem.W.hasDictIn K R = true) (ht : PySem.W.typeIn K (.ref R) = some (.type "type")) (h4 : PySem.W.subIn K (.ref D) (.ref R) = some true) : PySem.W.exmOne K (.ref D) (.ref R) = some true := PySem.W.exm_ref h1 hd ht h4
/-! the def that makes lambdas -/
structure Maker (K : PySem.W.Frag) (mg : Str → Option Value) (base : Heap) (S : Sg) (x : Str) (f : Addr) : Prop where
  ex : ∃ c P, (∀ cdv, CdOf K f cdv → cdv = .ref c) ∧ LamX.TabB base mg c P ∧ (P, x ++ ".<locals>." ++ "<lambda>") ∈ S.tb ∧ ∀ p ∈ S.tb, p.1 = P → p.2 = x ++ ".<locals>." ++ "<lambda>"
theorem cd_of {K : PySem.W.Frag} {f : Addr} {oc : Value} {od : Option Addr} {fd : FuncData} {osl : Array (Option Value)} {c : Addr} (lk : K.lookup f = some ⟨oc, od, .func fd, osl⟩) (h : fd.code = .ref c) : ∀ cdv, CdOf K f cdv → cdv = .ref c := fun cdv ⟨_, _, _, _, l, e⟩ => by
  rw [lk] at l
  cases l
  rw [← e, h]
theorem lamBi0 {params : Arguments} {scope : Scope} (h : ∀ (q : Str) (body : Expr) (cl : List (Str × Addr)) (doc pm cv ctv : Value), bindArgs (PySem.W.kdv_fn "<lambda>" q params (.expr body) scope cl .none doc pm cv ctv) ⟨[], []⟩ = pure []) : LamBi false params scope := fun q body cl dV doc pm cv ctv s hd => by
  rcases hd with ⟨_, rfl⟩ | ⟨z, _⟩
  · exact ⟨[], .of_eq (h q body cl doc pm cv ctv), fun y hy => nomatch hy⟩
  · cases z
theorem lamBi1 {params : Arguments} {scope : Scope} {y : Str} (hl : scope.names.lookup y = some .local) (h : ∀ (q : Str) (body : Expr) (cl : List (Str × Addr)) (t : Addr) (doc pm cv ctv u : Value), ∃ k : Option (Array Value) → Sem (List (Str × Value)),
    bindArgs (PySem.W.kdv_fn "<lambda>" q params (.expr body) scope cl (.ref t) doc pm cv ctv) ⟨[], []⟩ = seqItems? (.ref t) >>= k ∧ k (some #[u]) = pure [(y, u)]) : LamBi true params scope := fun q body cl dV doc pm cv ctv s hd => by
  rcases hd with ⟨z, _⟩ | ⟨_, t, u, rfl, ht⟩
  · cases z
  · obtain ⟨k, h1, h2⟩ := h q body cl t doc pm cv ctv u
    refine ⟨[(y, u)], .of_defaults rfl ht rfl h1 h2, fun z hz => ?_⟩
    rcases List.mem_cons.mp hz with e | e
    · rw [e]; exact hl
    · cases e
end DS
/-! # DataX11: x in range(a, b, c); defs with defaults -/
namespace DS
open PySem PySem.Spec PyProof.Rows L2
/-! ### x in range(a, b, c) -/
/-- at a: a range -/
def RgO (a : Addr) (i j c : Int) : HO := .ext fun h => ∃ t u v, h.get? a = some ({ cls := .type "range", data := .fields #[.int i t, .int j u, .int c v] } : Obj)
theorem rgO_ok {P : Program} {w : World} {H : Hp} {h : Heap} {a : Addr} {i j c : Int} {t u v : Tok} (e : h.get? a = some ({ cls := .type "range", data := .fields #[.int i t, .int j u, .int c v] } : Obj)) : ObjOk P w H h a (RgO a i j c) :=
  ⟨⟨t, u, v, e⟩, ⟨_, e⟩, fun _ _ ⟨t, u, v, q⟩ k => ⟨t, u, v, k _ q⟩⟩
theorem rgO_at {P : Program} {w : World} {H : Hp} {h : Heap} {a : Addr} {i j c : Int} (ok : HOk P w H h) (e : H a = some (RgO a i j c)) : ∃ t u v, h.get? a = some ({ cls := .type "range", data := .fields #[.int i t, .int j u, .int c v] } : Obj) := by
  have x : ObjOk P w H h a (.ext fun h => ∃ t u v, h.get? a = some ({ cls := .type "range", data := .fields #[.int i t, .int j u, .int c v] } : Obj)) := ok a _ e
  exact x.1
/-- what a range may be here -/
def RgS (i j c : Int) : Prop := 0 < c ∧ c < 1073741824 ∧ -(1073741824) < i ∧ i < 1073741824 ∧ -(1073741824) < j ∧ j < 1073741824
abbrev rRg3 : List V → Hp → VK → Prop := fun vs H Q => ∃ i j c, vs = [V.int i, V.int j, V.int c] ∧ RgS i j c ∧ ∀ p, H p = none → Q (.ref p) (upd H p (RgO p i j c))
section
variable {X : Cx}
theorem cr_rg3 : CallR X (.type "range") rRg3 := by
  intro pins s σ H vs us Q I r h
  obtain ⟨i, j, c, rfl, hc, q⟩ := h
  cases r with
  | cons r1 r =>
    cases r with
    | cons r2 r =>
      cases r with
      | cons r3 r =>
        cases r
        obtain ⟨t, rfl⟩ := r1
        obtain ⟨u, rfl⟩ := r2
        obtain ⟨v, rfl⟩ := r3
        obtain ⟨c1, c2, c3, c4, c5, c6⟩ := hc
        refine call_range_3 (by omega) ⟨.ref s.heap.objs.size, upd H s.heap.objs.size (RgO s.heap.objs.size i j c), I.laid (t' := s.toks) (fun b o e => Heap.get?_push_of_some _ e) (Nat.le_refl _) ?_, rfl, q _ (I.hok.fresh (Nat.le_refl _))⟩ (.inl (PyProof.noPylong_small (by omega)))
        exact rgO_ok (Heap.get?_push_size _ rfl)
theorem q_rgIn (r : Addr) (a b c i : Int) (t u v k : Tok) :
    Meets (Builtin.«range.__contains__» ⟨[.ref r, .int i k], []⟩) (fun _ R s => s.heap.get? r = some { cls := .type "range", dict := none, data := .fields #[.int a t, .int b u, .int c v], slots := #[] } ∧ R (.ok (.ret (.bool (Builtin.Range.rangePlace? a b c i).isSome))) s) :=
  .of_wp fun prog w A R s h => by obtain ⟨hp, g, d, tk, os⟩ := s; obtain ⟨hl, h⟩ := h; wp_walk; exact ⟨_, rfl, h⟩
abbrev rInR (neg : Bool) : R2 := fun x y H Q => ∃ i a lo hi c, x = V.int i ∧ y = V.ref a ∧ H a = some (RgO a lo hi c) ∧ Q (.bl (neg != (Builtin.Range.rangePlace? lo hi c i).isSome)) H
theorem op_inR : OpR X (compareOp .In) (rInR false) := by
  intro pins s σ H x y v u Q I rx ry h
  obtain ⟨i, a, lo, hi, c, rfl, rfl, ha, q⟩ := h
  obtain ⟨k, rfl⟩ := rx
  obtain rfl : u = Value.ref a := ry
  obtain ⟨t1, t2, t3, ho⟩ := rgO_at I.hok ha
  show wpAny _ _ (do return Value.bool (← contains (Value.ref a) (Value.int i k))) _ _ s
  exact wpAny_bind (wpAny_contains_slot (T := "range") ⟨_, ho, rfl⟩ F.slot_range_contains (call_meets F.slot_range_contains ⟨_, ho, rfl⟩ F.entry_range_contains (F.args_range_contains_2 _ _) (q_rgIn a lo hi c i t1 t2 t3 k)
    ⟨ho, wpAny_truthy_bool (wpAny_pure ⟨.bl _, H, I, rfl, by simpa using q⟩)⟩))
theorem op_niR : OpR X (compareOp .NotIn) (rInR true) := by
  intro pins s σ H x y v u Q I rx ry h
  obtain ⟨i, a, lo, hi, c, rfl, rfl, ha, q⟩ := h
  obtain ⟨k, rfl⟩ := rx
  obtain rfl : u = Value.ref a := ry
  obtain ⟨t1, t2, t3, ho⟩ := rgO_at I.hok ha
  show wpAny _ _ (do return Value.bool (!(← contains (Value.ref a) (Value.int i k)))) _ _ s
  exact wpAny_bind (wpAny_contains_slot (T := "range") ⟨_, ho, rfl⟩ F.slot_range_contains (call_meets F.slot_range_contains ⟨_, ho, rfl⟩ F.entry_range_contains (F.args_range_contains_2 _ _) (q_rgIn a lo hi c i t1 t2 t3 k)
    ⟨ho, wpAny_truthy_bool (wpAny_pure ⟨.bl _, H, I, rfl, by simpa using q⟩)⟩))
variable {c : Cc} {H0 : Hp} {ε : XD}
/-- x (not) in range(a, b, s) -/
def mInR (neg : Bool) (me : ME) (mr : MA) : ME := fun ε ρ n k => me ε ρ n fun d n1 => mr ε ρ n1 fun ds n2 => match d, ds with
  | .int x, [.int i, .int j, .int s] => RgS i j s ∧ k (.bl (neg != (Builtin.Range.rangePlace? i j s x).isSome)) n2
  | _, _ => False
theorem inR_core {neg : Bool} {me : ME} {mr : MA} {σ : L2.St} {H : Hp} {Q : VK} (h : tE c H0 ε (mInR neg me mr) σ H Q) : tOp (rInR neg) (tE c H0 ε me) (tCB rRg3 (tA c H0 ε mr)) σ H Q := by
  obtain ⟨ρ, n, k, R, m, q⟩ := h
  refine ⟨ρ, n, _, R, m, fun d n1 v H1 m1 dv k1 b1 => ⟨ρ, n1, _, R.step k1 b1, m1, fun ds n2 vs H2 m2 dvs k2 b2 => ?_⟩⟩
  split at m2
  · obtain ⟨rs, m3⟩ := m2
    cases opd_int dv
    cases dvs with
    | cons d1 dvs =>
      cases dvs with
      | cons d2 dvs =>
        cases dvs with
        | cons d3 dvs =>
          cases dvs
          cases opd_int d1; cases opd_int d2; cases opd_int d3
          refine ⟨_, _, _, rfl, rs, fun p hp => ⟨_, p, _, _, _, rfl, rfl, upd_same, ?_⟩⟩
          exact q _ _ _ _ m3 (.bl _) ((k1.trans k2).trans (Same.ks (same_new hp))) (b2.same (same_new hp))
  · exact m2.elim
variable {e x1 x2 x3 : Expr} {p q pos : Pos} {me : ME} {mr : MA}
theorem de_inR (hm : X.mg "range" = none) (he : PE X e (tE c H0 ε me)) (ha : PA X [x1, x2, x3] (tA c H0 ε mr)) (hg : Gl X "range" := by rfl)
    (s0 : starEach [x1, x2, x3] X.env = (false, eval x1 X.env) :: starEach [x2, x3] X.env := by rfl) (hpl : (backTo pos (starEach [x2, x3] X.env)).any (·.1) = false := by rfl) (hb : behindInMarks .In (.Call (.Name "range" p) [x1, x2, x3] [] pos) = false := by rfl) :
    PE X (.Compare e [.In] [.Call (.Name "range" p) [x1, x2, x3] [] pos] q) (tE c H0 ε (mInR false me mr)) :=
  imp_pe (pe_cmpR op_inR he (pe_callTy cr_rg3 hg hm (show bootBuiltins "range" = some (.type "range") from by decide +kernel) ha (by decide) (by decide) s0 hpl) hb) fun σ H Q h => inR_core h
theorem de_niR (hm : X.mg "range" = none) (he : PE X e (tE c H0 ε me)) (ha : PA X [x1, x2, x3] (tA c H0 ε mr)) (hg : Gl X "range" := by rfl)
    (s0 : starEach [x1, x2, x3] X.env = (false, eval x1 X.env) :: starEach [x2, x3] X.env := by rfl) (hpl : (backTo pos (starEach [x2, x3] X.env)).any (·.1) = false := by rfl) (hb : behindInMarks .NotIn (.Call (.Name "range" p) [x1, x2, x3] [] pos) = false := by rfl) :
    PE X (.Compare e [.NotIn] [.Call (.Name "range" p) [x1, x2, x3] [] pos] q) (tE c H0 ε (mInR true me mr)) :=
  imp_pe (pe_cmpR op_niR he (pe_callTy cr_rg3 hg hm (show bootBuiltins "range" = some (.type "range") from by decide +kernel) ha (by decide) (by decide) s0 hpl) hb) fun σ H Q h => inR_core h
theorem dt_niR (hm : X.mg "range" = none) (he : PE X e (tE c H0 ε me)) (ha : PA X [x1, x2, x3] (tA c H0 ε mr)) (hg : Gl X "range" := by rfl)
    (s0 : starEach [x1, x2, x3] X.env = (false, eval x1 X.env) :: starEach [x2, x3] X.env := by rfl) (hpl : (backTo pos (starEach [x2, x3] X.env)).any (·.1) = false := by rfl) (hb : behindInMarks .NotIn (.Call (.Name "range" p) [x1, x2, x3] [] pos) = false := by rfl) :
    PT X (.Compare e [.NotIn] [.Call (.Name "range" p) [x1, x2, x3] [] pos] q) (tT c H0 ε (mBl (mInR true me mr))) :=
  dt_bl (pt_cmpR op_niR he (pe_callTy cr_rg3 hg hm (show bootBuiltins "range" = some (.type "range") from by decide +kernel) ha (by decide) (by decide) s0 hpl) hb) fun σ H Q h => inR_core h
theorem dt_inR (hm : X.mg "range" = none) (he : PE X e (tE c H0 ε me)) (ha : PA X [x1, x2, x3] (tA c H0 ε mr)) (hg : Gl X "range" := by rfl)
    (s0 : starEach [x1, x2, x3] X.env = (false, eval x1 X.env) :: starEach [x2, x3] X.env := by rfl) (hpl : (backTo pos (starEach [x2, x3] X.env)).any (·.1) = false := by rfl) (hb : behindInMarks .In (.Call (.Name "range" p) [x1, x2, x3] [] pos) = false := by rfl) :
    PT X (.Compare e [.In] [.Call (.Name "range" p) [x1, x2, x3] [] pos] q) (tT c H0 ε (mBl (mInR false me mr))) :=
  dt_bl (pt_cmpR op_inR he (pe_callTy cr_rg3 hg hm (show bootBuiltins "range" = some (.type "range") from by decide +kernel) ha (by decide) (by decide) s0 hpl) hb) fun σ H Q h => inR_core h
end
/-- with step 1 -/
theorem place_1 (a b x : Int) : (Builtin.Range.rangePlace? a b 1 x).isSome = decide (a ≤ x ∧ x < b) := L2.place1 a b x
/-! ### defs with defaults (flat data) -/
structure FunV (K : PySem.W.Frag) (x : Str) (st : Stmt) (f : Addr) (fd : FuncData) (dds : List D) : Prop where
  ex : ∃ (oc : Value) (od : Option Addr) (T : Addr) (kV doc pm : Value) (an : Option Addr) (cdv ct : Value) (osl : Array (Option Value)) (o : Obj) (its : List Value) (m : Nat) (vs : List V),
    fd = PySem.W.fnOf x x (defArgs st) (defBody st) (defScope st) (.ref T) kV doc pm an cdv ct ∧ K.lookup f = some ⟨oc, od, .func fd, osl⟩ ∧ PySem.W.codeIn K cdv x = true ∧ K.lookup T = some o ∧ o.data = .seq its.toArray m ∧ Vals vs its ∧ flDs dds = some vs
  kp : PySem.W.keepIn K (.ref f) = true
theorem fng_conXV {P : Program} {w : World} {K : PySem.W.Frag} {mg : Str → Option Value} {base : Heap} {k : Nat} {f : Addr} {S : Sg} {x : Str} {st : Stmt} {fd : FuncData} {N ps : List Str} {con : Con} {m : Nat} {ms : MS} {dds : List D} (F : FunV K x st f fd dds) (Sc : FnScope N ps (defScope st)) (hps : ps.length = m) (hcon : ∀ ε ds n kk, con ε ds n kk → conX m N.length ms ε ds n kk)
    (hb : ∀ (cdv : Value) (A : Around) (out : List Env) (s : Shared) (H : Hp) (E : XK) (B : Option (Addr × (Addr × List Int))) (ε : XD), A.guards = some [] → Room k (A.deeper (envOfC x (defScope st) s.heap.objs.size f cdv)) → CdOf K f cdv → XL (cxOf (L2.CX P w) P w K mg base N x (defScope st) f cdv A out s H E) ⟨K, S, B⟩ H ε →
      PSs (cxOf (L2.CX P w) P w K mg base N x (defScope st) f cdv A out s H E) (defBody st) (tS ⟨K, S, B⟩ H ε ms)) : FnG P w K mg base (L2.CX P w) (k + 1) f fd ps (spD K S con) := by
  obtain ⟨oc, od, T, kV, doc, pm, an, cdv, ct, osl, o, its, mm, vs0, rfl, lk, hcd, _⟩ := F.ex
  refine ⟨fun vs H Q E ⟨B, n, ds, ε, kk, h1, _, h3, _⟩ => by rw [h1.length, (hcon _ _ _ _ h3).1, hps], fun A out s H ar us vs Q E hg hr e0 hbi hv ⟨B, n, ds, ε, kk, h1, h2, h3, h4, h5⟩ => ?_⟩
  have hlen : vs.length = ps.length := by rw [h1.length, (hcon _ _ _ _ h3).1, hps]
  have there : ∀ b o, base.get? b = some o → s.heap.get? b = some o := fun b o e => (e0.bs b o e).1
  have inS : K.In s.heap := e0.mod.kin.keeps there
  have kinds : ∀ y ∈ ps.zip us, (defScope st).names.lookup y.1 = some .local ∨ ((defScope st).names.lookup y.1 = some .cell ∧ ((cellsFrom (s.heap.objs.size + 1) (defScope st).names []).lookup y.1).isSome = true) := by
    rintro ⟨y, v⟩ hy
    rcases Sc.par y (List.of_mem_zip hy).1 with q | q
    · exact .inl q
    · exact .inr ⟨q, PySem.W.cellsFrom_some _ _ _ (.inl q)⟩
  refine codeAny_call_function hr.depth (inS _ _ lk) rfl Sc.co Sc.gen rfl (PySem.W.codeRec_of inS hcd) (hbi _ _ _ _ ?_)
  refine wpAny_newFunctionEnv_cells Sc.kind kinds fun env he s1 ic => ?_
  subst he
  refine ⟨(e0.mod.nolimit.keeps there).keeps ic.toInCall.keep, codeAny_func ?_⟩
  have hx : XL (cxOf (L2.CX P w) P w K mg base N x (defScope st) f cdv A out s H E) ⟨K, S, B⟩ H ε := (takes_of (E := E) rfl rfl rfl rfl).imp fun cls d σ' H' h => h5 cls d H' h
  have ht := hb cdv A out s H E B ε hg (hr.deeper _) ⟨_, _, _, _, lk, rfl⟩ hx
  have I := inv_start (CX := L2.CX P w) (E := E) Sc hr.hd e0 hlen hv ic
  refine wpAny_mono (ht.run [] s1 (L2.start N vs) H { nx := fun _ H' => Q .non H', rt := Q } I ⟨rho N.length ds, n, _, rel_start h1 h2, (hcon _ _ _ _ h3).2, fun ρ' n' σ' H' a1 a2 _ => h4 _ _ _ _ a1 .non a2.k0 a2.box, fun d n' v H' a1 a2 a3 a4 => h4 _ _ _ _ a1 a2 a3 a4, fun _ _ _ _ z => z.elim, fun _ _ _ _ z => z.elim⟩) (fun fl s' hs => ?_) (fun _ _ z => z)
  match fl, hs with
  | .ret u, ⟨v, σ', H', J, rv, q⟩ => exact ⟨v, H', J.os, J.bare, J.base, J.hok, rv, q⟩
  | .next, ⟨σ', H', J, q⟩ => exact ⟨V.non, H', J.os, J.bare, J.base, J.hok, rfl, q⟩
  | .brk, ⟨_, _, _, q⟩ => exact q.elim
  | .cont, ⟨_, _, _, q⟩ => exact q.elim
structure CoV (P : Program) (w : World) (K : PySem.W.Frag) (mg : Str → Option Value) (base : Heap) (S : Sg) (x : Str) (st : Stmt) (ps : List Str) (dds : List D) (con : Con) (k : Nat) : Prop where
  ex : ∃ f fd, FunV K x st f fd dds ∧ FnG P w K mg base (L2.CX P w) k f fd ps (spD K S con) ∧ mg x = some (.ref f)
/-- n values are written; the defaults behind the first j fill up -/
def BindV (x : Str) (st : Stmt) (ps : List Str) (n m j : Nat) : Prop := ∀ (T : Addr) (kV doc pm : Value) (an : Option Addr) (cdv ct : Value) (us its : List Value), us.length = n → its.length = m →
  ∃ k, bindArgs (PySem.W.fnOf x x (defArgs st) (defBody st) (defScope st) (.ref T) kV doc pm an cdv ct) ⟨us, []⟩ = seqItems? (.ref T) >>= k ∧ k (some its.toArray) = pure (ps.zip (us ++ its.drop j))
def mCallV (con : Con) (dds : List D) (ma : MA) : ME := fun ε ρ n k => ma ε ρ n fun ds n1 => con ε (ds ++ dds) n1 k
theorem de_callV {X : Cx} {S : Sg} {B : Option (Addr × (Addr × List Int))} {H0 : Hp} {ε : XD} {con : Con} {x : Str} {st : Stmt} {ps : List Str} {dds : List D} {k n j : Nat} {e : Expr} {es : List Expr} {ma : MA} {p pos : Pos} (C : CoV X.prog X.w X.K X.mg X.base S x st ps dds con k) (hr : Room k X.A) (hb : BindV x st ps n dds.length j) (hn : n + (dds.length - j) = ps.length)
    (hgd : X.A.guards = some []) (hx : XL X ⟨X.K, S, B⟩ H0 ε) (ha : PA X (e :: es) (tA ⟨X.K, S, B⟩ H0 ε ma)) (hg : Gl X x := by rfl) (hdb : (x == ("__debug__" : Str)) = false := by decide)
    (he : starEach (e :: es) X.env = (false, eval e X.env) :: starEach es X.env := by rfl) (hpl : (backTo pos (starEach es X.env)).any (·.1) = false := by rfl) : PE X (.Call (.Name x p) (e :: es) [] pos) (tE ⟨X.K, S, B⟩ H0 ε (mCallV con (dds.drop j) ma)) := by
  obtain ⟨f, fd, Fu, F, hm⟩ := C.ex
  obtain ⟨oc, od, T, kV, doc, pm, an, cdv, ct, osl, o, its, mm, vs0, rfl, lk, hcd, lT, oT, rT, fl⟩ := Fu.ex
  have dv0 : ∀ (c : Cc) (H : Hp), DVs c H vs0 dds := fun c H => dvs_flat fl
  have l1 : its.length = dds.length := by rw [← rT.length]; exact (dv0 ⟨X.K, S, B⟩ H0).length
  have hB : L2.Binds X.K (PySem.W.fnOf x x (defArgs st) (defBody st) (defScope st) (.ref T) kV doc pm an cdv ct) ps (its.drop j) := fun s us X' hl => by
    have l2 : us.length = n := by
      rw [List.length_append, List.length_drop, l1] at hl
      omega
    obtain ⟨k, e1, e2⟩ := hb T kV doc pm an cdv ct us its l2 l1
    refine L2.BindsTo.of_looks fun M => ?_
    rw [e1]
    exact L2.looks_items X' lT oT (by rw [e2]; exact .now)
  refine imp_pe (pe_callG F hgd hr hm Fu.kp hB (rT.drop j) hx.pass hg ha hdb he hpl) fun σ H Q ⟨ρ, n, kk, R, m, q⟩ => ⟨ρ, n, _, R, m, fun ds n1 vs H1 m1 dvs k1 b1 => ?_⟩
  exact ⟨B, n1, _, ε, kk, dvs.append ((dv0 _ _).drop j), b1, m1, fun d n' v H' a1 a2 a3 a4 => q _ _ _ _ a1 a2 (k1.trans a3) a4, fun cls d H' h => h.trans (R.k0.trans k1)⟩
end DS
namespace DS
open PySem PySem.Spec PyProof.Rows L2
theorem funv_mk {K : PySem.W.Frag} {x : Str} {st : Stmt} {f T : Addr} {oc kV doc pm cdv ct ot : Value} {od an qt : Option Addr} {osl sl : Array (Option Value)} {its : Array Value} {n : Nat} {vs : List V} {dds : List D}
    (l : K.lookup f = some ⟨oc, od, .func (PySem.W.fnOf x x (defArgs st) (defBody st) (defScope st) (.ref T) kV doc pm an cdv ct), osl⟩) (c : PySem.W.codeIn K cdv x = true) (k : PySem.W.keepIn K (.ref f) = true) (lT : K.lookup T = some ⟨ot, qt, .seq its n, sl⟩) (hv : Vals vs its.toList) (hf : flDs dds = some vs) :
    FunV K x st f (PySem.W.fnOf x x (defArgs st) (defBody st) (defScope st) (.ref T) kV doc pm an cdv ct) dds := ⟨⟨_, _, T, _, _, _, _, _, _, _, _, its.toList, n, vs, rfl, l, c, lT, by simp, hv, hf⟩, k⟩
end DS
/-! # DataX12: lists of one's own: made, stored into, appended to, read, and locked at last -/
namespace DS
open PySem PySem.Spec PyProof.Rows L2
theorem DVs.set {c : Cc} {H : Hp} : ∀ {vs : List V} {ds : List D} {v : V} {d : D} (j : Nat), DVs c H vs ds → DV c H v d → DVs c H (vs.set j v) (ds.set j d)
  | _, _, _, _, _, .nil, _ => .nil
  | _, _, _, _, 0, .cons a b, h => .cons h b
  | _, _, _, _, j + 1, .cons a b, h => .cons a (DVs.set j b h)
section
variable {c : Cc} {H0 H H' : Hp} {ρ : Ev} {n n' : Nat} {σ : St}
/-- what a new list is apart from -/
def Apart (c : Cc) (H0 : Hp) (ρ : Ev) (p : Addr) : Prop := H0 p = none ∧ OffB c p ∧ ∀ (i : Nat) (q : Addr) (xs : Ow), ρ[i]? = some (.own q xs) → q ≠ p
theorem Rel.setO {p : Addr} {xs : Ow} (i : Nat) (R : Rel c H0 ρ n σ H) (a : Apart c H0 ρ p) (d : OwAt c H p xs) : Rel c H0 (ρ.set i (.own p xs)) n (σ.set i (some (.ref p))) H where
  len := by simp [R.len]
  vals := fun j d hj => by
    by_cases z : i = j
    · subst z
      have hl : i < ρ.length := by have := (List.getElem?_eq_some_iff.mp hj).1; simpa using this
      rw [List.getElem?_set_self hl] at hj
      cases hj
    · rw [List.getElem?_set_ne z] at hj
      rw [List.getElem?_set_ne z]
      exact R.vals j d hj
  owns := fun j q zs hj => by
    by_cases z : i = j
    · subst z
      have hl : i < ρ.length := by have := (List.getElem?_eq_some_iff.mp hj).1; simpa using this
      rw [List.getElem?_set_self hl] at hj
      cases hj
      exact ⟨List.getElem?_set_self (by rw [R.len]; exact hl), a.1, a.2.1, d⟩
    · rw [List.getElem?_set_ne z] at hj
      rw [List.getElem?_set_ne z]
      exact R.owns j q zs hj
  uniq := fun j1 j2 q ys zs h1 h2 => by
    have nz : ∀ (j : Nat) (zs : Ow), (ρ.set i (.own p xs))[j]? = some (.own q zs) → (i = j ∧ q = p) ∨ ρ[j]? = some (.own q zs) := fun j zs hj => by
      by_cases z : i = j
      · subst z
        have hl : i < ρ.length := by have := (List.getElem?_eq_some_iff.mp hj).1; simpa using this
        rw [List.getElem?_set_self hl] at hj
        cases hj
        exact .inl ⟨rfl, rfl⟩
      · rw [List.getElem?_set_ne z] at hj; exact .inr hj
    rcases nz j1 ys h1 with ⟨z1, q1⟩ | z1 <;> rcases nz j2 zs h2 with ⟨z2, q2⟩ | z2
    · exact z1.symm.trans z2
    · exact absurd q1 (a.2.2 _ _ _ z2)
    · exact absurd q2 (a.2.2 _ _ _ z1)
    · exact R.uniq j1 j2 q ys zs z1 z2
  box := R.box
  k0 := R.k0
/-- what slot i owns is rewritten -/
theorem Rel.rew {p : Addr} {o u : HO} {w y : Ow} {i : Nat} (R : Rel c H0 ρ n σ H) (e : ρ[i]? = some (.own p w)) (hp : H p = some u) (hu : ¬ Stb c u) (d : OwAt c (L2.upd H p o) p y) : Rel c H0 (ρ.set i (.own p y)) n σ (L2.upd H p o) ∧ Kw c H (L2.upd H p o) := by
  obtain ⟨s1, h0, hb, _⟩ := R.owns i p w e
  have kw : Kw c H (L2.upd H p o) := kw_upd hp hu
  have hl : i < ρ.length := (List.getElem?_eq_some_iff.mp e).1
  refine ⟨⟨by simp [R.len], fun j d hj => ?_, fun j q zs hj => ?_, fun j1 j2 q y1 z1 h1 h2 => ?_, R.box.upd kw hb, fun a w e s => ?_⟩, kw⟩
  · by_cases z : i = j
    · subst z
      rw [List.getElem?_set_self hl] at hj
      cases hj
    · rw [List.getElem?_set_ne z] at hj
      obtain ⟨v, h1, h2⟩ := R.vals j d hj
      exact ⟨v, h1, h2.kw kw⟩
  · by_cases z : i = j
    · subst z
      rw [List.getElem?_set_self hl] at hj
      cases hj
      exact ⟨s1, h0, hb, d⟩
    · rw [List.getElem?_set_ne z] at hj
      obtain ⟨g1, g2, g3, g4⟩ := R.owns j q zs hj
      have nq : q ≠ p := fun y => z (R.uniq i j p w zs e (y ▸ hj))
      exact ⟨g1, g2, g3, g4.keep (fun u h => by rw [upd_ne nq]; exact h) kw⟩
  · have nz : ∀ (j : Nat) (zs : Ow), (ρ.set i (.own p y))[j]? = some (.own q zs) → ∃ ws, ρ[j]? = some (.own q ws) := fun j zs hj => by
      by_cases z : i = j
      · subst z
        rw [List.getElem?_set_self hl] at hj
        cases hj
        exact ⟨_, e⟩
      · rw [List.getElem?_set_ne z] at hj; exact ⟨_, hj⟩
    obtain ⟨_, g1⟩ := nz _ _ h1
    obtain ⟨_, g2⟩ := nz _ _ h2
    exact R.uniq j1 j2 q _ _ g1 g2
  · rw [upd_ne (ne_of_none e h0)]
    exact R.k0 a w e s
/-- the own list of slot i is rewritten -/
theorem Rel.reown {p : Addr} {ws : List V} {xs ys : List D} {i : Nat} (R : Rel c H0 ρ n σ H) (e : ρ[i]? = some (.own p (.lst xs))) (d : DVs c H ws ys) : Rel c H0 (ρ.set i (.own p (.lst ys))) n σ (L2.upd H p (.lst ws)) ∧ Kw c H (L2.upd H p (.lst ws)) := by
  obtain ⟨_, _, _, vs, hp, _⟩ := R.owns i p _ e
  have hu : ¬ Stb c (.lst vs) := id
  exact R.rew (o := .lst ws) (y := .lst ys) e hp hu ⟨ws, upd_same, d.kw (kw_upd hp hu)⟩
/-- the own list of slot i is locked: data from here on -/
theorem Rel.lockO {p : Addr} {vs : List V} {xs : List D} {o : Obj} {i : Nat} (R : Rel c H0 ρ n σ H) (e : ρ[i]? = some (.own p (.lst xs))) (hp : H p = some (.lst vs)) (d : DVs c H vs xs) : Rel c H0 (ρ.set i (.val (.lst xs))) n σ (L2.upd H p (.frz o (.lst vs))) ∧ Kw c H (L2.upd H p (.frz o (.lst vs))) := by
  obtain ⟨s1, h0, hb, _, _, _⟩ := R.owns i p _ e
  have hu : ¬ Stb c (.lst vs) := id
  have kw : Kw c H (L2.upd H p (.frz o (.lst vs))) := kw_upd hp hu
  have hl : i < ρ.length := (List.getElem?_eq_some_iff.mp e).1
  have nz : ∀ (j : Nat) (q : Addr) (zs : Ow), (ρ.set i (.val (.lst xs)))[j]? = some (.own q zs) → i ≠ j ∧ ρ[j]? = some (.own q zs) := fun j q zs hj => by
    by_cases z : i = j
    · subst z
      rw [List.getElem?_set_self hl] at hj
      cases hj
    · rw [List.getElem?_set_ne z] at hj; exact ⟨z, hj⟩
  refine ⟨⟨by simp [R.len], fun j d' hj => ?_, fun j q zs hj => ?_, fun j1 j2 q y1 z1 h1 h2 => R.uniq j1 j2 q _ _ (nz _ _ _ h1).2 (nz _ _ _ h2).2, R.box.upd kw hb, fun a w e s => ?_⟩, kw⟩
  · by_cases z : i = j
    · subst z
      rw [List.getElem?_set_self hl] at hj
      cases hj
      exact ⟨_, s1, .lst (.inl ⟨o, upd_same⟩) (d.kw kw)⟩
    · rw [List.getElem?_set_ne z] at hj
      obtain ⟨v, h1, h2⟩ := R.vals j d' hj
      exact ⟨v, h1, h2.kw kw⟩
  · obtain ⟨z, hj⟩ := nz _ _ _ hj
    obtain ⟨g1, g2, g3, g4⟩ := R.owns j q zs hj
    have nq : q ≠ p := fun y => z (R.uniq i j p _ zs e (y ▸ hj))
    exact ⟨g1, g2, g3, g4.keep (fun u h => by rw [upd_ne nq]; exact h) kw⟩
  · rw [upd_ne (ne_of_none e h0)]
    exact R.k0 a w e s
end
/-- an expression that makes a new list -/
def tNew (c : Cc) (H0 : Hp) (ε : XD) (m : ME) : TE := fun σ H Q => ∃ ρ n k, Rel c H0 ρ n σ H ∧ m ε ρ n k ∧ ∀ xs n' p vs H', k (.lst xs) n' → Apart c H0 ρ p → H' p = some (.lst vs) → DVs c H' vs xs → Ks c H H' → BoxAt c n' H' → Q (.ref p) H'
/-- x = a new list, kept as one's own -/
def mAsgO (i : Nat) (me : ME) : MS := fun ε ρ n P => me ε ρ n fun d n1 => match d with
  | .lst xs => ∀ p, P.nx (ρ.set i (.own p (.lst xs))) n1
  | _ => False
section
variable {X : Cx} {c : Cc} {H0 : Hp} {ε : XD} {e a b : Expr} {es : List Expr} {pos : Pos} {ma mb me : ME} {mr mi : MA} {tg iter : Expr}
theorem lc_readO {g : GF} {ts vs : List Nat} {tt : MT} {te : ME} (hts : ∀ i ∈ ts, i ∈ vs) (σ : St) (H : Hp) (Q : VK) (h : tNew c H0 ε (mLc mi g vs tt te) σ H Q) :
    tLc (tIc c H0 ε mi) (tG c H0 ts g) (tT c H0 noX tt) (tE c H0 noX te) vs σ H Q := by
  obtain ⟨ρ, n, k, R, m, q⟩ := h
  refine ⟨ρ, n, _, R, m, fun ds n1 J H1 m1 it k1 b1 D hD => ?_⟩
  obtain ⟨hlen, m1⟩ := m1
  obtain ⟨src, G, w, hG, ok⟩ := it.ex
  have hl := Src.ok_len ok
  have R1 := R.step k1 b1
  obtain ⟨a0, ab, ao⟩ := R1.apart hD
  have s1 : Same H1 (L2.upd H1 D (.lst [])) := same_new hD
  have nst : ∀ xs, ¬ Stb c (.lst xs) := fun _ z => z
  refine lc_it w (fun i H' => ∃ n' acc done, Rel c H0 ρ n' σ H' ∧ Ks c H1 H' ∧ H' D = some (.lst acc) ∧ DVs c H' acc done ∧ acc.length ≤ i ∧
    compD (fun d n k => optK (g d (wipeE ρ vs)) fun ρ' => tt noX ρ' n fun b n2 => if b = true then te noX ρ' n2 fun y n3 => k (some y) n3 else k none n2) (ds.drop i) n' fun xs n2 => k (.lst (done ++ xs)) n2)
    ⟨n1, [], [], R1.step (Same.ks s1) (b1.same s1), Same.ks s1, upd_same, .nil, Nat.le_refl _, m1⟩ (fun i H' _ ⟨_, _, _, _, k', _⟩ => hG _ k') ?_ ?_
  · rintro i x H' H'' hi ⟨n', acc, done, R', k', hD', hacc, la, f⟩ y
    obtain ⟨d, e1, dv, sm⟩ := Src.step ok k'.kw y
    have hi' : i < ds.length := by rw [← hl]; exact hi
    have ed : ds.drop i = d :: ds.drop (i + 1) := by
      rw [List.drop_eq_getElem_cons hi']
      rw [List.getElem?_eq_getElem hi'] at e1
      cases e1
      rfl
    rw [ed] at f
    obtain ⟨ρ2, e2, f2⟩ := optK_some f
    have R2 := R'.step (Same.ks sm) (R'.box.same sm)
    refine ⟨wipeE ρ vs, n', d, ρ2, R2.wipe vs, dv, e2, fun σ2 R3 off => ⟨wipe_same off hts, ρ2, n', _, R3, f2, fun b n2 H3 m3 k3 b3 => ?_⟩⟩
    have kD : Ks c H1 H3 := (k'.trans (Same.ks sm)).trans k3
    have hD3 : H3 D = some (.lst acc) := k3 _ _ (sm _ _ hD') (.inr ab)
    cases b with
    | false =>
      rw [if_neg (by decide)] at m3
      refine iteF ?_
      exact ⟨n2, acc, done, R2.step k3 b3, kD, hD3, (hacc.kw (Same.ks sm).kw).kw k3.kw, by omega, m3⟩
    | true =>
      rw [if_pos rfl] at m3
      refine iteT ?_
      refine ⟨ρ2, n2, _, R3.step k3 b3, m3, fun yd n3 yv H4 m4 dy k4 b4 => ?_⟩
      have hD4 : H4 D = some (.lst acc) := k4 _ _ hD3 (.inr ab)
      refine ⟨acc, hD4, by have := line_million; omega, n3, acc ++ [yv], done ++ [yd], ?_, ?_, upd_same, ?_, by rw [List.length_append]; exact Nat.succ_le_succ la, ?_⟩
      · exact (R2.step (k3.trans k4) b4).upd a0 ab ao hD4 (nst _)
      · intro p u ep s
        rw [upd_ne (ne_of_none ep hD)]
        exact (kD.trans k4) p u ep s
      · exact ((((hacc.kw (Same.ks sm).kw).kw k3.kw).kw k4.kw).append (.one dy)).kw (kw_upd hD4 (nst _))
      · have fe : (fun xs n2 => k (.lst (done ++ [yd] ++ xs)) n2) = fun xs n2 => k (.lst (done ++ (yd :: xs))) n2 := by
          funext xs n2
          rw [List.append_assoc]
          rfl
        rw [fe]
        exact m4
  · rintro H' ⟨n', acc, done, R', k', hD', hacc, la, f⟩
    rw [hl, List.drop_length] at f
    have f' : k (.lst done) n' := by simpa [compD] using f
    exact q _ _ _ _ _ f' ⟨a0, ab, ao⟩ hD' hacc (k1.trans k') R'.box
theorem ds_setLcO (i : Nat) {y : Str} {py : Pos} {spos : Pos} {elt : Expr} {ifs : List Expr} {scope : Scope} {own : List (Str × Nat)} {g : GF} {ts vs : List Nat} {tt : MT} {te : ME} (hc : X.calm = true) (hN : X.N.Nodup) (hy : X.N[i]? = some y) (hyl : X.env.scope.names.lookup y = some .local)
    (hsw : swapsWith (.ListComp elt [⟨tg, iter, ifs, 0⟩] scope pos) (some (.Name y py)) spos.line X.env = pure true) (hi : PI X tg iter (tIc c H0 ε mi)) (ok : BlkOk X.N X.env.scope scope own) (hvs : own.map (·.2) = vs) (hts : ∀ i ∈ ts, i ∈ vs)
    (hg : ∀ (s : Shared) (H : Hp) (C : Addr) (cl : List (Str × Addr)) (fp : List Addr), PG (X.blk s H scope (compEnvC scope cl C X.env) fp) tg (tG c H0 ts g)) (ht : ∀ (s : Shared) (H : Hp) (C : Addr) (cl : List (Str × Addr)) (fp : List Addr), PTs (X.blk s H scope (compEnvC scope cl C X.env) fp) ifs (tT c H0 noX tt))
    (he : ∀ (s : Shared) (H : Hp) (C : Addr) (cl : List (Str × Addr)) (fp : List Addr), PE (X.blk s H scope (compEnvC scope cl C X.env) fp) elt (tE c H0 noX te)) (hs : ∀ x, foldedSetIterable iter X.env x = pure x := by intro _; rfl) :
    PS X (.Assign [.Name y py] (.ListComp elt [⟨tg, iter, ifs, 0⟩] scope pos) spos) (tS c H0 ε (mAsgO i (mLc mi g vs tt te))) := by
  subst hvs
  refine imp_ps (ps_setLc hc hN hy hyl hsw hi ok hg ht he hs) fun De σ H ⟨ρ, n, P, R, m, h1, _⟩ => ?_
  exact lc_readO (c := c) (H0 := H0) (ε := ε) (mi := mi) (g := g) (ts := ts) (vs := own.map (fun p : Str × Nat => p.2)) (tt := tt) (te := te) hts σ H
    (fun v H' => De.nx (σ.set i (some v)) H') ⟨ρ, n, _, R, m, fun xs n1 p vs H1 m1 ap e1 dv k1 b1 => h1 _ _ _ _ (m1 p) ((R.step k1 b1).setO i (xs := .lst xs) ap ⟨_, e1, dv⟩) k1.kw⟩
/-- a call or a display that makes a new list -/
def CallO (c : Cc) (r : List V → Hp → VK → Prop) (g : List D → Option D) : Prop := ∀ xs ds zs H (Q : VK), DVs c H xs ds → g ds = some (.lst zs) → (∀ p vs H', H p = none → H' p = some (.lst vs) → DVs c H' vs zs → Same H H' → Q (.ref p) H') → r xs H Q
theorem ds_setO (i : Nat) {x : Str} {pos' : Pos} {r : List V → Hp → VK → Prop} {g : List D → Option D} (hN : X.N.Nodup) (h : ∀ {t}, PA X es t → PE X e (tCB r t)) (hd : CallO c r g) (ha : PA X es (tA c H0 ε mr)) (hi : X.N[i]? = some x := by rfl) (hx : Loc X.env.scope x := by first | exact Or.inl rfl | exact Or.inr rfl) (hs : swapsWith e (some (.Name x pos')) pos.line X.env = pure false := by rfl)
    (hf : X.fn x = true ∨ X.env.scope.names.lookup x = some .local := by first | exact .inl rfl | exact .inr rfl) : PS X (.Assign [.Name x pos'] e pos) (tS c H0 ε (mAsgO i (mArgs g mr))) :=
  imp_ps (ps_set hN hi hx (h ha) hs hf) fun De σ H ⟨ρ, n, P, R, m, h1, _⟩ => ⟨ρ, n, _, R, m, fun ds n1 vs H1 m1 dvs k1 b1 => by
    obtain ⟨d, e1, m2⟩ := optK_some m1
    cases d with
    | lst zs =>
      refine hd _ _ _ _ _ dvs e1 fun p ws H2 hp e2 dw sm => ?_
      have R1 := R.step k1 b1
      exact h1 _ _ _ _ (m2 p) ((R1.step (Same.ks sm) (b1.same sm)).setO i (xs := .lst zs) (R1.apart hp) ⟨_, e2, dw⟩) (k1.trans (Same.ks sm)).kw
    | _ => exact m2.elim⟩
theorem co_lst : CallO c (fun xs H Q => xs.length ≤ sizeLine ∧ ∀ p, H p = none → Q (.ref p) (L2.upd H p (.lst xs))) lstD := by
  intro xs ds zs H Q hs e k
  unfold lstD at e
  split at e
  · rename_i h
    cases e
    exact ⟨by rw [hs.length]; exact small_line h, fun p hp => k p xs _ hp upd_same (hs.kw (Same.ks (same_new hp)).kw) (same_new hp)⟩
  · cases e
theorem co_list : CallO c (fun xs H Q => ∃ p ys, xs = [.ref p] ∧ (SqL c.K H p ys ∨ SqT c.K H p ys) ∧ ∀ l, H l = none → Q (.ref l) (upd H l (.lst ys))) listD := by
  intro xs ds zs H Q hs e k
  unfold listD at e
  split at e
  · cases e
    obtain ⟨v, rfl, h⟩ := dvs1 hs
    obtain ⟨a, ys, rfl, f, h2⟩ := opd_lst h
    exact ⟨_, _, rfl, .inl f.sq, fun p hp => k p ys _ hp upd_same (h2.kw (Same.ks (same_new hp)).kw) (same_new hp)⟩
  · cases e
    obtain ⟨v, rfl, h⟩ := dvs1 hs
    obtain ⟨a, ys, rfl, f, h2⟩ := opd_tup h
    exact ⟨_, _, rfl, .inr f, fun p hp => k p ys _ hp upd_same (h2.kw (Same.ks (same_new hp)).kw) (same_new hp)⟩
  · cases e
def catD (x y : D) : Option D := match x, y with
  | .lst xs, .lst ys => if xs.length + ys.length ≤ sizeLine then some (.lst (xs ++ ys)) else none
  | _, _ => none
/-- x = a + b, lists -/
theorem ds_setCatO (i : Nat) {x : Str} {pos' bpos : Pos} (hN : X.N.Nodup) (ha : PE X a (tE c H0 ε ma)) (hb : PE X b (tE c H0 ε mb)) (hK : c.K = X.K := by rfl) (hi : X.N[i]? = some x := by rfl) (hx : Loc X.env.scope x := by first | exact Or.inl rfl | exact Or.inr rfl) (hs : swapsWith (.BinOp a .Add b bpos) (some (.Name x pos')) pos.line X.env = pure false := by rfl)
    (hf : X.fn x = true ∨ X.env.scope.names.lookup x = some .local := by first | exact .inl rfl | exact .inr rfl) : PS X (.Assign [.Name x pos'] (.BinOp a .Add b bpos) pos) (tS c H0 ε (mAsgO i (mOp catD ma mb))) :=
  imp_ps (ps_set hN hi hx (pe_op op_catF ha hb) hs hf) fun De σ H ⟨ρ, n, P, R, m, h1, _⟩ => ⟨ρ, n, _, R, m, fun x n1 v H1 m1 dv k1 b1 => ⟨ρ, n1, _, R.step k1 b1, m1, fun y n2 u H2 m2 du k2 b2 => by
    obtain ⟨d, e1, m3⟩ := optK_some m2
    have dv2 := dv.kw k2.kw
    unfold catD at e1
    split at e1
    · rename_i xs ys
      obtain ⟨l, vs, rfl, f, hf⟩ := opd_lst dv2
      obtain ⟨l2, ws, rfl, g, hg⟩ := opd_lst du
      by_cases hz : xs.length + ys.length ≤ sizeLine
      · rw [if_pos hz] at e1
        cases e1
        refine ⟨_, _, _, _, rfl, rfl, hK ▸ f, hK ▸ g, by rw [hf.length, hg.length]; exact hz, fun p hp => ?_⟩
        have sm : Same H2 (L2.upd H2 p (.lst (vs ++ ws))) := same_new hp
        have R2 := (R.step k1 b1).step k2 b2
        exact h1 _ _ _ _ (m3 p) ((R2.step (Same.ks sm) (b2.same sm)).setO i (xs := .lst (xs ++ ys)) (R2.apart hp) ⟨_, upd_same, (hf.append hg).kw (Same.ks sm).kw⟩) ((k1.trans k2).trans (Same.ks sm)).kw
      · rw [if_neg hz] at e1; cases e1
    · cases e1⟩⟩
/-! ### stores, appends, reads, the lock -/
def mStoreO (i : Nat) (ma mb : ME) : MS := fun ε ρ n P => match ρ[i]? with
  | some (.own p (.lst xs)) => ma ε ρ n fun d n1 => mb ε ρ n1 fun j n2 => match j with
    | .int j => optK (ixN xs.length j) fun k => P.nx (ρ.set i (.own p (.lst (xs.set k d)))) n2
    | _ => False
  | _ => False
theorem ds_storeO (i : Nat) {x : Str} {p spos : Pos} (he : PE X e (tE c H0 ε ma)) (hb : PE X b (tE c H0 ε mb)) (hN : X.N[i]? = some x := by rfl) (hv : Vis X.env.scope x := by first | exact Or.inl rfl | exact Or.inr (Or.inl rfl) | exact Or.inr (Or.inr rfl)) (hd : (x == ("__debug__" : Str)) = false := by decide) (hcd : (x == ("__classdict__" : Str)) = false := by decide)
    (hs : swapsWithSole [.Subscript (.Name x p) b pos] e spos.line X.env = pure false := by rfl) (hw : swappedStores [.Subscript (.Name x p) b pos] e X.env = pure none := by rfl)
    (h1 : (assignEach [.Subscript (.Name x p) b pos] X.env).map (·.2) = [assign (.Subscript (.Name x p) b pos) X.env] := by rfl)
    (ha : ∀ v, assign (.Subscript (.Name x p) b pos) X.env v = (do
      let ov ← holding [v] (eval (.Name x p) X.env)
      let iv ← holding [v, ov] (eval b X.env)
      standAt pos
      holding [v, ov, iv] (setItem ov iv v)
      release [v, ov, iv] []) := by intro _; rfl) :
    PS X (.Assign [.Subscript (.Name x p) b pos] e spos) (tS c H0 ε (mStoreO i ma mb)) :=
  imp_ps (ps_asg he (pg_sub (pe_var hN hv hd hcd) hb set_list ha) hs hw h1) fun De σ H ⟨ρ, n, P, R, m, h1, _⟩ => by
    unfold mStoreO at m
    split at m
    · rename_i p xs hi
      refine ⟨ρ, n, _, R, m, fun d n1 v H1 m1 dv k1 b1 => ?_⟩
      have R1 := R.step k1 b1
      obtain ⟨s1, _⟩ := R1.owns i p _ hi
      refine ⟨_, s1, ρ, n1, _, R1, m1, fun j n2 w H2 m2 dw k2 b2 => ?_⟩
      have R2 := R1.step k2 b2
      cases j with
      | int j =>
        obtain ⟨k, e1, m3⟩ := optK_some m2
        cases opd_int dw
        obtain ⟨_, _, _, vs, hp, dvs⟩ := R2.owns i p _ hi
        obtain ⟨R3, kw⟩ := R2.reown hi (dvs.set k (dv.kw k2.kw))
        exact ⟨p, vs, j, k, rfl, rfl, hp, by rw [dvs.length]; exact e1, h1 _ _ _ _ m3 R3 (((k1.trans k2).kw).trans kw)⟩
      | _ => exact m2.elim
    · exact m.elim
def mAppO (i : Nat) (ma : ME) : MS := fun ε ρ n P => match ρ[i]? with
  | some (.own p (.lst xs)) => ma ε ρ n fun d n1 => xs.length < 1000000 ∧ P.nx (ρ.set i (.own p (.lst (xs ++ [d])))) n1
  | _ => False
theorem ds_appO (i : Nat) {x : Str} {p apos cpos spos : Pos} (he : PE X e (tE c H0 ε ma)) (hN : X.N[i]? = some x := by rfl) (hv : Vis X.env.scope x := by first | exact Or.inl rfl | exact Or.inr (Or.inl rfl) | exact Or.inr (Or.inr rfl)) (hd : (x == ("__debug__" : Str)) = false := by decide) (hcd : (x == ("__classdict__" : Str)) = false := by decide)
    (hbase : attributeBase (.Name x p) "append" X.env (eval (.Name x p) X.env) = eval (.Name x p) X.env := by rfl)
    (hfew : ((backTo cpos (starEach [e] X.env)).all (fun x => !x.1) && (backToKw cpos (keywordEach [] X.env)).all (fun x => x.1.isSome)
      && decide ([e].length + ([] : List Keyword).length + (if ([] : List Keyword).isEmpty then 0 else 1) < 30)) = true := by rfl)
    (hline : (apos.endLine == cpos.line) = true := by rfl) (hs0 : starEach [e] X.env = (false, eval e X.env) :: starEach [] X.env := by rfl) (hplain : (backTo cpos (starEach [] X.env)).any (·.1) = false := by rfl)
    (hs : swapsWith (.Call (.Attribute (.Name x p) "append" apos) [e] [] cpos) none spos.line X.env = pure false := by rfl) :
    PS X (.Expr (.Call (.Attribute (.Name x p) "append" apos) [e] [] cpos) spos) (tS c H0 ε (mAppO i ma)) :=
  imp_ps (ps_expr (pe_bm PySem.F.plainAttrs_list PySem.F.slot_list_append PySem.F.type_list_append mt_append (pe_var hN hv hd hcd) (pa_cons he pa_nil hs0) hbase hfew hline hs0 hplain) hs) fun De σ H ⟨ρ, n, P, R, m, h1, _⟩ => by
    unfold mAppO at m
    split at m
    · rename_i p xs hi
      obtain ⟨s1, _, _, vs0, hp0, _⟩ := R.owns i p _ hi
      refine ⟨_, s1, .inl ⟨rfl, _, .inl (.inl hp0)⟩, ρ, n, _, R, m, fun d n1 v H1 m1 dv k1 b1 => ?_⟩
      have R1 := R.step k1 b1
      obtain ⟨_, _, _, vs, hp, dvs⟩ := R1.owns i p _ hi
      obtain ⟨R3, kw⟩ := R1.reown hi (dvs.append (.one dv))
      exact ⟨p, vs, v, rfl, rfl, hp, by rw [dvs.length]; exact Nat.lt_trans m1.1 line_million, h1 _ _ _ _ m1.2 R3 (k1.kw.trans kw)⟩
    · exact m.elim
/-- from here on the list of slot i is data -/
def mLock (i : Nat) (ms : MS) : MS := fun ε ρ n P => match ρ[i]? with
  | some (.own _ (.lst xs)) => ms ε (ρ.set i (.val (.lst xs))) n P
  | _ => ms ε ρ n P
theorem ds_lock (i : Nat) {st : Stmt} {ms : MS} (h : PS X st (tS c H0 ε ms)) : PS X st (tS c H0 ε (mLock i ms)) := by
  refine ⟨fun pins s σ H De I ⟨ρ, n, P, R, m, h1, h2, h3, h4⟩ => ?_⟩
  unfold mLock at m
  split at m
  · rename_i p xs hi
    obtain ⟨_, _, _, vs, hp, dvs⟩ := R.owns i p _ hi
    obtain ⟨o, I2⟩ := I.lock hp True.intro
    obtain ⟨R2, kw⟩ := R.lockO (o := o) hi hp dvs
    exact h.run pins s σ _ De I2 ⟨_, n, P, R2, m, fun a b c d e f g => h1 a b c d e f (kw.trans g), h2, fun a b c d e f g => h3 a b c d e f (kw.trans g), fun a b c d e f g => h4 a b c d e f (kw.trans g)⟩
  · exact h.run pins s σ H De I ⟨ρ, n, P, R, m, h1, h2, h3, h4⟩
/-- x[b], len(x) of one's own list -/
def mIxO (i : Nat) (mb : ME) : ME := fun ε ρ n k => match ρ[i]? with
  | some (.own _ (.lst xs)) => mb ε ρ n fun d n1 => match d with
    | .int j => optK (atI xs j) fun d => k d n1
    | _ => False
  | _ => False
theorem de_ixO (i : Nat) {x : Str} {p : Pos} (hb : PE X b (tE c H0 ε mb)) (hK : c.K = X.K := by rfl) (hN : X.N[i]? = some x := by rfl) (hv : Vis X.env.scope x := by first | exact Or.inl rfl | exact Or.inr (Or.inl rfl) | exact Or.inr (Or.inr rfl)) (hd : (x == ("__debug__" : Str)) = false := by decide) (hcd : (x == ("__classdict__" : Str)) = false := by decide)
    (hs : PlainIx b := by intro _ _; rfl) : PE X (.Subscript (.Name x p) b pos) (tE c H0 ε (mIxO i mb)) :=
  imp_pe (pe_ix ix_list (pe_var hN hv hd hcd) hb hs) fun σ H Q ⟨ρ, n, k, R, m, q⟩ => by
    unfold mIxO at m
    split at m
    · rename_i p xs hi
      obtain ⟨s1, _⟩ := R.owns i p _ hi
      refine ⟨_, s1, ρ, n, _, R, m, fun d n1 v H1 m1 dv k1 b1 => ?_⟩
      cases d with
      | int j =>
        obtain ⟨d, e1, m2⟩ := optK_some m1
        cases opd_int dv
        obtain ⟨_, _, _, vs, hp, dvs⟩ := (R.step k1 b1).owns i p _ hi
        obtain ⟨v, e2, dv⟩ := dvs.atI e1
        exact ⟨p, vs, j, v, rfl, rfl, .inl (.inl hp), e2, q _ _ _ _ m2 dv k1 b1⟩
      | _ => exact m1.elim
    · exact m.elim
def mLenO (i : Nat) : ME := fun ε ρ n k => match ρ[i]? with
  | some (.own _ (.lst xs)) => k (.int xs.length) n
  | _ => False
theorem de_lenO (i : Nat) {x : Str} {p p2 : Pos} (hm : X.mg "len" = none) (hN : X.N[i]? = some x := by rfl) (hv : Vis X.env.scope x := by first | exact Or.inl rfl | exact Or.inr (Or.inl rfl) | exact Or.inr (Or.inr rfl)) (hd : (x == ("__debug__" : Str)) = false := by decide) (hcd : (x == ("__classdict__" : Str)) = false := by decide)
    (hg : Gl X "len" := by rfl) (he : starEach [.Name x p2] X.env = (false, eval (.Name x p2) X.env) :: starEach [] X.env := by rfl) (hpl : (backTo pos (starEach [] X.env)).any (·.1) = false := by rfl) : PE X (.Call (.Name "len" p) [.Name x p2] [] pos) (tE c H0 ε (mLenO i)) :=
  imp_pe (pe_callB call_len hg hm (show bootBuiltins "len" = some (.builtin "len") from by decide +kernel) (pa_cons (pe_var hN hv hd hcd) pa_nil he) (by decide) (by decide) he hpl) fun σ H Q ⟨ρ, n, k, R, m, q⟩ => by
    unfold mLenO at m
    split at m
    · rename_i p xs hi
      obtain ⟨s1, _, _, vs, hp, dvs⟩ := R.owns i p _ hi
      exact ⟨_, s1, _, _, rfl, .inl ⟨vs, .inl (.inl hp), rfl⟩, by rw [dvs.length]; exact q _ _ _ _ m (.int _) (Ks.refl _ _) R.box⟩
    · exact m.elim
end
end DS
/-! # DataX13: instances of own classes that never change once they are made -/
namespace DS
open PySem PySem.Spec PyProof.Rows L2
section
variable {X : Cx} {CX : CXT} {k : Nat} {f C : Addr} {fd : FuncData} {ps : List Str} {sp : Sp} {E : XK}
theorem under_make {A : Around} (hg : A.guards = some []) (C : Addr) (us : List Value) (kw : List (Str × Value)) : (A.under (.builtin "type.__call__" ⟨.ref C :: us, kw⟩)).guards = some [] := by
  simp [Around.under, hg, pushGuards, Code.guards, Code.isGuard, guardIds]
/-- a new instance and its dict, then __init__ -/
theorem run_makeG {pins : List (Addr × Obj)} {σ : St} {H : Hp} {s : Shared} {Q : VK} {us ws : List Value} {kw : List (Str × Value)} {vs : List V} (M : Mk X.K C f) (F : FnG X.prog X.w X.K X.mg X.base CX k f fd ps sp) (hgd : X.A.guards = some []) (hr : Room (k + 1) X.A) (hx : Passes CX X E)
    (hb : ∀ (s' : Shared) (x : Value), X.K.In s'.heap → (x :: ws).length = ps.length → BindsTo s' fd ⟨x :: us, kw⟩ (ps.zip (x :: ws))) (I : Inv X pins σ H s) (r : Vals vs ws)
    (h : ∀ x dx, H x = none → H dx = none → dx ≠ x → sp (.ref x :: vs) (upd (upd H dx (.own x)) x (.ins C dx [])) (fun v H2 => v = .non ∧ Q (.ref x) H2) E) :
    wpAny (model X.prog X.w) X.A (call (.ref C) us kw) (EP X pins σ Q) X.xe s := by
  have hq := h (s.heap.objs.size + 1) s.heap.objs.size (I.hok.fresh (Nat.le_succ _)) (I.hok.fresh (Nat.le_refl _)) (Nat.ne_of_lt (Nat.lt_succ_self _))
  have I2 := Inv.made (C := C) I
  have r2 : Vals (V.ref (s.heap.objs.size + 1) :: vs) (Value.ref (s.heap.objs.size + 1) :: ws) := .cons rfl r
  have hl : (Value.ref (s.heap.objs.size + 1) :: ws).length = ps.length := by
    have e := r2.length
    rw [F.len _ _ _ _ hq] at e
    exact e.symm
  refine wpAny_call (make_map (f := f) I.kIn M.makes M.init (beq_iff_eq.mp M.fn) (codeAny_mono (F.run _ X.stack _ _ ⟨Value.ref (s.heap.objs.size + 1) :: us, kw⟩ (Value.ref (s.heap.objs.size + 1) :: ws) _ _ E (under_make hgd C us kw) (hr.make C us kw)
    (I2.env0.make C us kw) (hb _ _ I2.kIn hl) r2 hq) fun r s' hq' => ?_))
  cases r with
  | error e => exact hx pins σ _ _ e s' I2 hq'
  | ok fl =>
    cases fl with
    | ret u =>
      obtain ⟨v, H', I3, rv, ev, q3⟩ := I2.after hq'
      subst ev
      exact ⟨rv, ⟨V.ref (s.heap.objs.size + 1), H', I3, rfl, q3⟩⟩
    | next => exact False.elim hq'
    | brk => exact False.elim hq'
    | cont => exact False.elim hq'
end
/-- the promise of an __init__: the instance new at x, then it is data -/
def spMk (K : PySem.W.Frag) (S : Sg) (nm : Str) (con : Con) : Sp := fun vs H Q E => ∃ C x dx ws H0 B n ds ε k, S.ci C = some nm ∧ vs = .ref x :: ws ∧ H0 x = none ∧ H0 dx = none ∧ dx ≠ x ∧ H = upd (upd H0 dx (.own x)) x (.ins C dx []) ∧ DVs ⟨K, S, B⟩ H0 ws ds ∧ BoxAt ⟨K, S, B⟩ n H0 ∧ con ε ds n k ∧
  (∀ d n' H', k d n' → DV ⟨K, S, B⟩ H' (.ref x) d → Ks ⟨K, S, B⟩ H0 H' → BoxAt ⟨K, S, B⟩ n' H' → Q .non H') ∧ ∀ cls d H', XKD ⟨K, S, B⟩ H0 ε cls d H' → E cls d H'
/-- what an __init__ of m parameters (but self) and N names promises: its body makes the instance -/
def conI (nm : Str) (m N : Nat) (ms : MS) : Con := fun ε ds n k => ds.length = m ∧ ∀ p, ms ε (.own p (.obj nm []) :: rho (N - 1) ds) n { nx := fun ρ' n' => ∃ d, ρ'[0]? = some (.own p (.done d)) ∧ k d n', rt := fun _ _ => False }
theorem stb_own {c : Cc} {x : Addr} : True := True.intro
theorem rel_startI {c : Cc} {H0 : Hp} {N : List Str} {vs : List V} {ds : List D} {n : Nat} {nm : Str} {C x dx : Addr} (h : DVs c H0 vs ds) (b : BoxAt c n H0) (hC : c.S.ci C = some nm) (hf : c.S.fo nm ≠ []) (hx : H0 x = none) (hd : H0 dx = none) (ne : dx ≠ x) (hN : 0 < N.length) :
    Rel c H0 (.own x (.obj nm []) :: rho (N.length - 1) ds) n (L2.start N (.ref x :: vs)) (upd (upd H0 dx (.own x)) x (.ins C dx [])) := by
  have s1 : Same H0 (upd H0 dx (.own x)) := same_new hd
  have hx1 : (upd H0 dx (.own x)) x = none := by rw [upd_ne ne.symm]; exact hx
  have s2 : Same H0 (upd (upd H0 dx (.own x)) x (.ins C dx [])) := fun a u e => same_new hx1 _ _ (s1 _ _ e)
  have e0 : L2.start N (.ref x :: vs) = some (V.ref x) :: (vs.map some ++ List.replicate (N.length - 1 - vs.length) none) := by
    unfold L2.start
    rw [List.map_cons, List.cons_append, List.length_cons]
    congr 3
    omega
  rw [e0]
  refine ⟨?_, fun i d e => ?_, fun i p w e => ?_, fun i j p w w2 e1 e2 => ?_, b.same s2, Same.ks s2⟩
  · unfold rho
    simp only [List.length_cons, List.length_append, List.length_map, List.length_replicate, h.length]
  · cases i with
    | zero => cases e
    | succ i =>
      rw [List.getElem?_cons_succ] at e ⊢
      unfold rho at e
      by_cases hi : i < ds.length
      · rw [List.getElem?_append_left (by simpa using hi), List.getElem?_map] at e
        obtain ⟨d', e1, e2⟩ := Option.map_eq_some_iff.mp e
        cases e2
        obtain ⟨v, h1, h2⟩ := h.getD e1
        refine ⟨v, ?_, h2.kw (Same.ks s2).kw⟩
        rw [List.getElem?_append_left (by simpa [h.length] using hi), List.getElem?_map, h1]
        rfl
      · rw [List.getElem?_append_right (by simpa using hi), List.getElem?_replicate] at e
        split at e <;> cases e
  · cases i with
    | zero =>
      cases e
      exact ⟨rfl, hx, b.off hx, C, dx, [], hC, upd_same, .nil, hf⟩
    | succ i =>
      rw [List.getElem?_cons_succ] at e
      unfold rho at e
      by_cases hi : i < ds.length
      · rw [List.getElem?_append_left (by simpa using hi), List.getElem?_map] at e
        obtain ⟨d', e1, e2⟩ := Option.map_eq_some_iff.mp e
        cases e2
      · rw [List.getElem?_append_right (by simpa using hi), List.getElem?_replicate] at e
        split at e <;> cases e
  · have z : ∀ (i : Nat) (w : Ow), (Sl.own x (.obj nm []) :: rho (N.length - 1) ds)[i]? = some (.own p w) → i = 0 := fun i w e => by
      cases i with
      | zero => rfl
      | succ i =>
        rw [List.getElem?_cons_succ] at e
        unfold rho at e
        by_cases hi : i < ds.length
        · rw [List.getElem?_append_left (by simpa using hi), List.getElem?_map] at e
          obtain ⟨d', e1, e2⟩ := Option.map_eq_some_iff.mp e
          cases e2
        · rw [List.getElem?_append_right (by simpa using hi), List.getElem?_replicate] at e
          split at e <;> cases e
    rw [z i w e1, z j w2 e2]
section
variable {P : Program} {w : World} {K : PySem.W.Frag} {mg : Str → Option Value} {base : Heap} {k : Nat} {f : Addr} {S : Sg}
/-- an __init__ by its run -/
theorem fng_conI {x qual nm : Str} {st : Stmt} {fd : FuncData} {N ps : List Str} {con : Con} {m : Nat} {ms : MS} (F : Fun K x qual st f fd) (Sc : FnScope N ps (defScope st)) (hps : ps.length = m + 1) (hN : 0 < N.length) (hf : S.fo nm ≠ []) (hcon : ∀ ε ds n kk, con ε ds n kk → conI nm m N.length ms ε ds n kk)
    (hb : ∀ (cdv : Value) (A : Around) (out : List Env) (s : Shared) (H H0 : Hp) (E : XK) (B : Option (Addr × (Addr × List Int))) (ε : XD), A.guards = some [] → Room k (A.deeper (envOfC qual (defScope st) s.heap.objs.size f cdv)) → CdOf K f cdv → XL (cxOf (L2.CX P w) P w K mg base N qual (defScope st) f cdv A out s H E) ⟨K, S, B⟩ H0 ε →
      PSs (cxOf (L2.CX P w) P w K mg base N qual (defScope st) f cdv A out s H E) (defBody st) (tS ⟨K, S, B⟩ H0 ε ms)) : FnG P w K mg base (L2.CX P w) (k + 1) f fd ps (spMk K S nm con) := by
  refine fng_of F Sc (fun vs H Q E ⟨C, x, dx, ws, H0, B, n, ds, ε, kk, h0, h1, h2, h3, h4, h5, h6, h7, h8, _⟩ => ?_) fun cdv A out s H vs Q E hg hr hcd ⟨C, x, dx, ws, H0, B, n, ds, ε, kk, h0, h1, h2, h3, h4, h5, h6, h7, h8, h9, h10⟩ => ?_
  · rw [h1, List.length_cons, h6.length, (hcon _ _ _ _ h8).1, hps]
  · subst h1
    subst h5
    refine ⟨_, hb cdv A out s _ H0 E B ε hg hr hcd ?_, .own x (.obj nm []) :: rho (N.length - 1) ds, n, _, rel_startI h6 h7 h0 hf h2 h3 h4 hN, (hcon _ _ _ _ h8).2 x, fun ρ' n' σ' H' a1 a2 _ => ?_, fun d n' v H' a1 _ _ _ => a1.elim, fun _ _ _ _ z => z.elim, fun _ _ _ _ z => z.elim⟩
    · exact (takes_of (E := E) rfl rfl rfl rfl).imp fun cls d σ' H' h => h10 cls d H' h
    · obtain ⟨d, e, kd⟩ := a1
      obtain ⟨_, _, _, dv, _⟩ := a2.owns 0 x _ e
      exact h9 _ _ _ kd dv a2.k0 a2.box
end
/-- a class of the text, and how it is made -/
structure Mkc (P : Program) (w : World) (K : PySem.W.Frag) (mg : Str → Option Value) (base : Heap) (S : Sg) (x nm qual : Str) (st : Stmt) (ps : List Str) (con : Con) (k : Nat) : Prop where
  ex : ∃ C f fd, S.ci C = some nm ∧ Mk K C f ∧ Fun K "__init__" qual st f fd ∧ FnG P w K mg base (L2.CX P w) k f fd ps (spMk K S nm con) ∧ mg x = some (.ref C)
def BindI (qual : Str) (st : Stmt) (ps : List Str) (n : Nat) (ks : List Str) (ix : List Nat) : Prop := ∀ (kV doc pm : Value) (an : Option Addr) (cdv ct : Value) (x : Value) (us ws : List Value), us.length = n → ws.length = ks.length →
  bindArgs (PySem.W.fnOf "__init__" qual (defArgs st) (defBody st) (defScope st) .none kV doc pm an cdv ct) ⟨x :: us, ks.zip ws⟩ = pure (ps.zip (x :: pick ix (us ++ ws)))
section
variable {X : Cx} {S : Sg} {B : Option (Addr × (Addr × List Int))} {H0 : Hp} {ε : XD} {con : Con} {k : Nat} {ps ks : List Str} {x nm qual : Str} {st : Stmt} {p pos : Pos} {e : Expr} {es : List Expr} {kws : List Keyword} {ma mk : MA}
theorem pick_all {α : Type} (l : List α) : pick (List.range l.length) l = l := by
  unfold pick
  apply List.ext_getElem?
  intro i
  by_cases hi : i < l.length
  · rw [show List.filterMap (fun i => l[i]?) (List.range l.length) = l from ?_]
    have : ∀ l : List α, List.filterMap (fun i => l[i]?) (List.range l.length) = l := fun l => by
      induction l with
      | nil => rfl
      | cons a l ih =>
        rw [List.length_cons, List.range_succ_eq_map, List.filterMap_cons]
        show a :: _ = _
        rw [List.filterMap_map]
        congr 1
    exact this l
  · rw [show List.filterMap (fun i => l[i]?) (List.range l.length) = l from ?_]
    have : ∀ l : List α, List.filterMap (fun i => l[i]?) (List.range l.length) = l := fun l => by
      induction l with
      | nil => rfl
      | cons a l ih =>
        rw [List.length_cons, List.range_succ_eq_map, List.filterMap_cons]
        show a :: _ = _
        rw [List.filterMap_map]
        congr 1
    exact this l
/-- C(e, ..): positional values -/
theorem de_make {n : Nat} (M : Mkc X.prog X.w X.K X.mg X.base S x nm qual st ps con k) (hr : Room (k + 1) X.A) (hbI : BindI qual st ps n [] (List.range n)) (hgd : X.A.guards = some []) (hx : XL X ⟨X.K, S, B⟩ H0 ε) (ha : PA X (e :: es) (tA ⟨X.K, S, B⟩ H0 ε ma)) (hn : ps.length = n + 1) (hg : Gl X x := by rfl) (hdb : (x == ("__debug__" : Str)) = false := by decide)
    (he : starEach (e :: es) X.env = (false, eval e X.env) :: starEach es X.env := by rfl) (hpl : (backTo pos (starEach es X.env)).any (·.1) = false := by rfl) : PE X (.Call (.Name x p) (e :: es) [] pos) (tE ⟨X.K, S, B⟩ H0 ε (mCall con ma)) := by
  obtain ⟨C, f, fd, hC, Mk0, F, G, hm⟩ := M.ex
  obtain ⟨oc, od, kV, doc, pm, an, cdv, ct, osl, rfl, lk, hcd⟩ := F.ex
  constructor
  rintro pins s σ H Q I ⟨ρ, n0, kk, R, m, q⟩
  apply wpAny_Call_Name_kw
  refine ld_glob I hg hm (PySem.W.callWith_K (h₀ := X.base) I.ok.mod.kin Mk0.kp (thn (ha.run pos pins s σ H (fun vs H1 => ∃ ds n1, DVs ⟨X.K, S, B⟩ H1 vs ds ∧ BoxAt ⟨X.K, S, B⟩ n1 H1 ∧ Ks ⟨X.K, S, B⟩ H H1 ∧ con ε ds n1 kk) I ⟨ρ, n0, _, R, m, fun ds n1 vs H1 m1 dvs k1 b1 => ⟨ds, n1, dvs, b1, k1, m1⟩⟩) ?_) he hpl) hdb
  rintro us s1 ⟨vs, H1, I1, r, ds, n1, dvs, b1, k1, cc⟩
  refine ⟨I1.kIn, run_makeG (ws := us) (vs := vs) Mk0 G hgd hr hx.pass (fun s' x' _ hl => ?_) I1 r fun x dx h1 h2 h3 => ?_⟩
  · have hl2 : us.length = n := by rw [List.length_cons, hn] at hl; omega
    have := hbI kV doc pm an cdv ct x' us [] hl2 rfl
    rw [List.append_nil, show List.range n = List.range us.length by rw [hl2], pick_all] at this
    exact .of_eq this
  · exact ⟨C, x, dx, vs, H1, B, n1, ds, ε, kk, hC, rfl, h1, h2, h3, rfl, dvs, b1, cc, fun d n' H' a1 a2 a3 a4 => ⟨rfl, q _ _ _ _ a1 a2 (k1.trans a3) a4⟩, fun cls d H' h => h.trans (R.k0.trans k1)⟩
/-- C(k = e, ..): by names -/
theorem de_makeK0 {ix : List Nat} (M : Mkc X.prog X.w X.K X.mg X.base S x nm qual st ps con k) (hr : Room (k + 1) X.A) (hbI : BindI qual st ps 0 ks ix) (hgd : X.A.guards = some []) (hx : XL X ⟨X.K, S, B⟩ H0 ε) (hkw : PK X kws (tA ⟨X.K, S, B⟩ H0 ε mk)) (hg : Gl X x := by rfl) (hall : (backToKw pos (keywordEach kws X.env)).all (·.1.isSome) = true := by rfl)
    (hks : (backToKw pos (keywordEach kws X.env)).filterMap (·.1) = ks := by rfl) (hdb : (x == ("__debug__" : Str)) = false := by decide)
    (hpl : ((backTo pos (starEach [] X.env)).any (·.1) || (backToKw pos (keywordEach kws X.env)).any (·.1.isNone)) = false := by rfl) : PE X (.Call (.Name x p) [] kws pos) (tE ⟨X.K, S, B⟩ H0 ε (mCallK con 0 ks.length ix mNil mk)) := by
  obtain ⟨C, f, fd, hC, Mk0, F, G, hm⟩ := M.ex
  obtain ⟨oc, od, kV, doc, pm, an, cdv, ct, osl, rfl, lk, hcd⟩ := F.ex
  constructor
  rintro pins s σ H Q I ⟨ρ, n0, kk, R, m, q⟩
  apply wpAny_Call_Name_kw
  refine ld_glob I hg hm (PySem.W.callWith_KW0 (h₀ := X.base) I.ok.mod.kin Mk0.kp hall ?_ hpl) hdb
  refine thn (hkw.run pos pins s σ H (fun zs H1 => ∃ ds n1, DVs ⟨X.K, S, B⟩ H1 zs ds ∧ BoxAt ⟨X.K, S, B⟩ n1 H1 ∧ Ks ⟨X.K, S, B⟩ H H1 ∧ ds.length = ks.length ∧ con ε (pick ix ds) n1 kk) I ⟨ρ, n0, _, R, m, fun ds n1 vs H1 m1 dvs k1 b1 => ⟨ds, n1, dvs, b1, k1, m1.2.1, m1.2.2⟩⟩) ?_
  rintro ws s2 ⟨zs, H2, I2, rz, ds, n1, dvs, b1, k1, l2, cc⟩
  refine ⟨I2.kIn, ?_⟩
  rw [hks]
  refine run_makeG (us := []) (ws := pick ix ws) (vs := pick ix zs) Mk0 G hgd hr hx.pass (fun s' x' _ hl => ?_) I2 (pick_vals rz ix) fun x dx h1 h2 h3 => ?_
  · exact .of_eq (hbI kV doc pm an cdv ct x' [] ws rfl (rz.length.symm.trans (dvs.length.trans l2)))
  · exact ⟨C, x, dx, _, H2, B, n1, _, ε, kk, hC, rfl, h1, h2, h3, rfl, pick_dvs dvs ix, b1, cc, fun d n' H' a1 a2 a3 a4 => ⟨rfl, q _ _ _ _ a1 a2 (k1.trans a3) a4⟩, fun cls d H' h => h.trans (R.k0.trans k1)⟩
end
/-! ### fields -/
/-- the classes named by ok, and a name that none of them has as an attribute of the class -/
def FldOk (K : PySem.W.Frag) (S : Sg) (ok : Str → Bool) (f : Str) : Prop := ∀ C nm, S.ci C = some nm → ok nm = true → Cls K C ∧ NoAttr K C f
theorem dvf_look {c : Cc} {H : Hp} {f : Str} : ∀ {vs : List (Str × V)} {ds : List (Str × D)} {d : D}, DVf c H vs ds → ds.lookup f = some d → ∃ v, vs.lookup f = some v ∧ DV c H v d
  | _, _, _, .nil, e => nomatch e
  | _, _, _, .cons (k := k) h t, e => by
    rw [List.lookup_cons] at e ⊢
    cases z : f == k with
    | true => rw [z] at e; cases e; exact ⟨_, rfl, h⟩
    | false => rw [z] at e; exact dvf_look t e
theorem dvf_none {c : Cc} {H : Hp} {f : Str} : ∀ {vs : List (Str × V)} {ds : List (Str × D)}, DVf c H vs ds → ds.lookup f = none → vs.lookup f = none
  | _, _, .nil, _ => rfl
  | _, _, .cons (k := k) h t, e => by
    rw [List.lookup_cons] at e ⊢
    cases z : f == k with
    | true => rw [z] at e; cases e
    | false => rw [z] at e; exact dvf_none t e
theorem dvf_names {c : Cc} {H : Hp} : ∀ {vs : List (Str × V)} {ds : List (Str × D)}, DVf c H vs ds → vs.map (·.1) = ds.map (·.1)
  | _, _, .nil => rfl
  | _, _, .cons _ t => by rw [List.map_cons, List.map_cons, dvf_names t]
theorem dvf_snoc {c : Cc} {H : Hp} {f : Str} {v : V} {d : D} : ∀ {vs : List (Str × V)} {ds : List (Str × D)}, DVf c H vs ds → DV c H v d → DVf c H (vs ++ [(f, v)]) (ds ++ [(f, d)])
  | _, _, .nil, h => .cons h .nil
  | _, _, .cons a t, h => .cons a (dvf_snoc t h)
theorem put_new {f : Str} {v : V} : ∀ {vs : List (Str × V)}, vs.lookup f = none → putF f v vs = vs ++ [(f, v)]
  | [], _ => rfl
  | (g, x) :: r, e => by
    rw [List.lookup_cons] at e
    cases z : f == g with
    | true => rw [z] at e; cases e
    | false =>
      rw [z] at e
      have hne : ¬ g = f := fun y => by subst y; simp at z
      show (if g = f then _ else _) = _
      rw [if_neg hne, put_new e]
      rfl
section
variable {X : Cx} {S : Sg} {B : Option (Addr × (Addr × List Int))} {H0 : Hp} {ε : XD} {e : Expr} {ma : ME} {pos : Pos} {f : Str} {ok : Str → Bool}
/-- e.f of an instance -/
def mFld (ok : Str → Bool) (f : Str) (ma : ME) : ME := fun ε ρ n k => ma ε ρ n fun d n1 => match d with
  | .ins nm fs => ok nm = true ∧ optK (fs.lookup f) fun y => k y n1
  | _ => False
theorem de_fld (hF : FldOk X.K S ok f) (he : PE X e (tE ⟨X.K, S, B⟩ H0 ε ma)) (hb : attributeBase e f X.env (eval e X.env) = eval e X.env := by rfl) : PE X (.Attribute e f pos) (tE ⟨X.K, S, B⟩ H0 ε (mFld ok f ma)) :=
  imp_pe (pe_fld he hb) fun σ H Q ⟨ρ, n, k, R, m, q⟩ => ⟨ρ, n, _, R, m, fun d n1 v H1 m1 dv k1 b1 => by
    cases dv with
    | ins s e1 h hs =>
      obtain ⟨y, e2, m2⟩ := optK_some m1.2
      obtain ⟨v, e3, dv⟩ := dvf_look hs e2
      obtain ⟨c1, c2⟩ := hF _ _ s m1.1
      exact ⟨_, _, _, _, v, rfl, h, c1, c2, e3, q _ _ _ _ m2 dv k1 b1⟩
    | _ => exact m1.elim⟩
/-- self.f within __init__ -/
def mSelf (i : Nat) (ok : Str → Bool) (f : Str) : ME := fun ε ρ n k => match ρ[i]? with
  | some (.own _ (.obj nm fs)) => ok nm = true ∧ optK (fs.lookup f) fun y => k y n
  | _ => False
theorem de_self (i : Nat) {x : Str} {p : Pos} (hF : FldOk X.K S ok f) (hN : X.N[i]? = some x := by rfl) (hv : Vis X.env.scope x := by first | exact Or.inl rfl | exact Or.inr (Or.inl rfl) | exact Or.inr (Or.inr rfl)) (hd : (x == ("__debug__" : Str)) = false := by decide) (hcd : (x == ("__classdict__" : Str)) = false := by decide)
    (hb : attributeBase (.Name x p) f X.env (eval (.Name x p) X.env) = eval (.Name x p) X.env := by rfl) : PE X (.Attribute (.Name x p) f pos) (tE ⟨X.K, S, B⟩ H0 ε (mSelf i ok f)) :=
  imp_pe (pe_fld (pe_var hN hv hd hcd) hb) fun σ H Q ⟨ρ, n, k, R, m, q⟩ => by
    unfold mSelf at m
    split at m
    · rename_i p nm fs hi
      obtain ⟨s1, h0, hb, C, dx, vs, hC, hp, dvf, hne⟩ := R.owns i p _ hi
      obtain ⟨y, e2, m2⟩ := optK_some m.2
      obtain ⟨v, e3, dv⟩ := dvf_look dvf e2
      obtain ⟨c1, c2⟩ := hF _ _ hC m.1
      exact ⟨_, s1, _, _, _, _, v, rfl, hp, c1, c2, e3, q _ _ _ _ m2 dv (Ks.refl _ _) R.box⟩
    · exact m.elim
/-- self.f = e within __init__; fo: the names of all fields -/
def mSet (i : Nat) (ok : Str → Bool) (fo : Str → List Str) (f : Str) (ma : ME) : MS := fun ε ρ n P => match ρ[i]? with
  | some (.own p (.obj nm fs)) => ma ε ρ n fun d n1 => ok nm = true ∧ fs.lookup f = none ∧ fs.length < 100 ∧
    (if fo nm = (fs ++ [(f, d)]).map (·.1) then P.nx (ρ.set i (.own p (.done (.ins nm (fs ++ [(f, d)]))))) n1 else P.nx (ρ.set i (.own p (.obj nm (fs ++ [(f, d)])))) n1)
  | _ => False
theorem ds_setF (i : Nat) {x : Str} {p p2 spos : Pos} {fo : Str → List Str} (hfo : S.fo = fo) (hF : FldOk X.K S ok f) (he : PE X e (tE ⟨X.K, S, B⟩ H0 ε ma)) (hN : X.N[i]? = some x := by rfl) (hv : Vis X.env.scope x := by first | exact Or.inl rfl | exact Or.inr (Or.inl rfl) | exact Or.inr (Or.inr rfl)) (hd : (x == ("__debug__" : Str)) = false := by decide) (hcd : (x == ("__classdict__" : Str)) = false := by decide)
    (hs : swapsWith e (some (.Attribute (.Name x p) f p2)) spos.line X.env = pure false := by rfl) : PS X (.Assign [.Attribute (.Name x p) f p2] e spos) (tS ⟨X.K, S, B⟩ H0 ε (mSet i ok fo f ma)) := by
  subst hfo
  refine imp_ps (ps_fld (pe_var hN hv hd hcd) he hs) fun De σ H ⟨ρ, n, P, R, m, h1, _⟩ => by
    unfold mSet at m
    split at m
    · rename_i p nm fs hi
      refine ⟨ρ, n, _, R, m, fun d n1 v H1 m1 dv k1 b1 => ?_⟩
      have R1 := R.step k1 b1
      obtain ⟨s1, h0, hb, C, dx, vs, hC, hp, dvf, hne⟩ := R1.owns i p _ hi
      obtain ⟨m2, m3, m4, m5⟩ := m1
      obtain ⟨c1, c2⟩ := hF _ _ hC m2
      have hl : vs.length = fs.length := by have := congrArg List.length (dvf_names dvf); simpa using this
      have hput : putF f v vs = vs ++ [(f, v)] := put_new (dvf_none dvf m3)
      have hu : ¬ Stb ⟨X.K, S, B⟩ (.ins C dx vs) := fun ⟨nm', h1, h2⟩ => by
        have : nm' = nm := by have := hC.symm.trans h1; cases this; rfl
        subst this
        exact hne h2
      refine ⟨_, s1, p, C, dx, vs, rfl, hp, c1, c2, by omega, ?_⟩
      rw [hput]
      have kw : Kw ⟨X.K, S, B⟩ H1 (upd H1 p (.ins C dx (vs ++ [(f, v)]))) := kw_upd hp hu
      have dv2 : DVf ⟨X.K, S, B⟩ (upd H1 p (.ins C dx (vs ++ [(f, v)]))) (vs ++ [(f, v)]) (fs ++ [(f, d)]) := DVf.kw kw (dvf_snoc dvf dv)
      split at m5
      · rename_i hfo
        obtain ⟨R2, kw2⟩ := R1.rew (o := .ins C dx (vs ++ [(f, v)])) (y := .done (.ins nm (fs ++ [(f, d)]))) hi hp hu ⟨.ins hC (hfo.trans (dvf_names dv2).symm) upd_same dv2, _, upd_same⟩
        exact h1 _ _ _ _ m5 R2 (k1.kw.trans kw2)
      · rename_i hfo
        obtain ⟨R2, kw2⟩ := R1.rew (o := .ins C dx (vs ++ [(f, v)])) (y := .obj nm (fs ++ [(f, d)])) hi hp hu ⟨C, dx, _, hC, upd_same, dv2, fun z => hfo (z.trans (dvf_names dv2))⟩
        exact h1 _ _ _ _ m5 R2 (k1.kw.trans kw2)
    · exact m.elim
end
end DS
/-! # DataX14: enumerate over a tuple -/
namespace DS
open PySem PySem.Spec PyProof.Rows L2
open AutoSeq1 (wpAny_loadPart')
/-- enumerate(t): its iterator and itself are new -/
theorem enum_newT (l : Addr) (items : Array Value) (n : Nat) (dct : Option Addr) (sl : Array (Option Value)) :
    Meets (Builtin.«enumerate.__new__» ⟨[.type "enumerate", .ref l], []⟩) (fun _ R s => s.heap.get? l = some { cls := .type "tuple", dict := dct, data := .seq items n, slots := sl } ∧
      R (.ok (.ret (.ref (s.heap.push { cls := .type "tuple_iterator", data := .fields #[.ref l, .int 0 0] }).objs.size)))
        { s with heap := (s.heap.push { cls := .type "tuple_iterator", data := .fields #[.ref l, .int 0 0] }).push { cls := .type "enumerate", data := .fields #[.none, .bool false, .ref s.heap.objs.size, rawInt 0, .none, .none] } }) :=
  .of_wp fun prog w A R s ⟨hl, h⟩ => by
    obtain ⟨hp, g, d, tk, os⟩ := s
    have hsub := sub_enumerate
    have hT : Heap.IsTuple (Shared.heap ⟨hp, g, d, tk, os⟩) l items := ⟨_, hl, rfl, n, rfl⟩
    wp_walk using wpAny_loadPart' hl
    refine wpAny_stack_any fun st => wpAny_pure ?_
    split
    · rename_i c _ _ _ _ _
      cases (c == Value.type "enumerate") <;>
      · wp_walk using wpAny_loadPart' hl, wpAny_pyIter_tuple hT
        exact ⟨_, rfl, h⟩
    · wp_walk using wpAny_loadPart' hl, wpAny_pyIter_tuple hT
      exact ⟨_, rfl, h⟩
theorem call_enumT {prog : Program} {w : World} {A : Around} {E : Value → Shared → Prop} {s : Shared} {l : Addr} {items : Array Value} {Q : Value → Shared → Prop} (hL : s.heap.IsTuple l items)
    (h : ∀ h', IsEnum h' (s.heap.objs.size + 1) s.heap.objs.size 0 .none → h'.IsTupleIter s.heap.objs.size l 0 → (∀ b o, s.heap.get? b = some o → h'.get? b = some o) → Q (.ref (s.heap.objs.size + 1)) { s with heap := h' }) :
    wpAny (model prog w) A (call (.type "enumerate") [.ref l]) Q E s := by
  obtain ⟨⟨c, dct, dt, sl⟩, hl, hc, n, hd⟩ := hL
  obtain rfl : c = .type "tuple" := hc
  obtain rfl : dt = .seq items n := hd
  refine callType_new F.called_enumerate (by decide) (F.typeCall_enumerate_1 _) (F.newCall_enumerate_1 _) (fun obj => F.args_object_init_2 obj _) F.entry_enumerate_new (enum_newT l items n dct sl) ⟨hl, ?_⟩
  have hz : (s.heap.push { cls := .type "tuple_iterator", data := .fields #[.ref l, .int 0 0] }).objs.size = s.heap.objs.size + 1 := Heap.size_push ..
  show _ ∧ _
  rw [hz]
  have he := Heap.get?_push_size (s.heap.push { cls := .type "tuple_iterator", data := .fields #[.ref l, .int 0 0] }) (o := { cls := .type "enumerate", data := .fields #[.none, .bool false, .ref s.heap.objs.size, rawInt 0, .none, .none] }) rfl
  rw [hz] at he
  exact ⟨⟨_, he, rfl⟩, h _ he ⟨_, Heap.get?_push_of_some _ (Heap.get?_push_size _ rfl), rfl, rfl⟩ fun b o x => Heap.get?_push_of_some _ (Heap.get?_push_of_some _ x)⟩
/-- the items of the tuple at a, each in a new pair -/
def IteT (K : PySem.W.Frag) (a : Addr) : It :=
  ⟨fun i H => ∃ (xs : List V) (x : V), SqT K H a xs ∧ xs[i]? = some x, fun i H v H' => ∃ T x, v = .ref T ∧ H T = none ∧ H' = upd H T (.tup [.int (i : Nat), x]) ∧ ∀ xs, SqT K H a xs → xs[i]? = some x, fun i H => ∃ xs : List V, SqT K H a xs ∧ xs.length ≤ i⟩
theorem sqt_inj {X : Cx} {pins : List (Addr × Obj)} {σ : L2.St} {H : Hp} {s : Shared} {a : Addr} {xs ys : List V} (I : Inv X pins σ H s) (h : SqT X.K H a xs) (g : SqT X.K H a ys) : xs = ys := I.tuple_inj h g
theorem turn_enumT {P : Program} {w : World} {K : PySem.W.Frag} {elts : List Expr} {kk : Nat} {tpos : Pos} (a e it : Addr) :
    Turn P w K (.Tuple elts kk tpos) (IteT K a) [e, it] e (fun i h => (∃ old, IsEnum h e it ((i : Nat) : Int) old) ∧ h.IsTupleIter it a i ∧ e ≠ it) where
  mem := by simp
  obj := fun i h ⟨⟨old, he⟩, ⟨o, ho, hc, hd⟩, _⟩ b hb => by
    rcases (show b = e ∨ b = it by simpa using hb) with rfl | rfl
    · exact ⟨_, he, fun v q => nomatch q⟩
    · exact ⟨o, ho, fun v q => by rw [hd] at q; cases q⟩
  keep := fun i h h' ⟨⟨old, he⟩, hi, hne⟩ k => ⟨⟨old, k e (by simp) _ he⟩, hi.at fun o q => k it (by simp) o q, hne⟩
  item := by
    intro X hP hw hK hc i pins s σ H E I hf ⟨⟨old, he⟩, hit, hne⟩ ⟨xs, x, hq, hx⟩
    subst hP hw hK
    obtain ⟨its, rv, p, hz⟩ := I.tuple hq
    obtain ⟨u, hu, ru⟩ := rv.get hx
    have hel : e < s.heap.objs.size := Heap.lt_size he
    have hil : it < s.heap.objs.size := by obtain ⟨_, q, _⟩ := hit; exact Heap.lt_size q
    have ea : e ≠ a := fun z => by
      obtain ⟨o, ho, hc, _⟩ := p
      rw [← z, he] at ho
      cases ho
      injection hc with hc
      exact absurd hc (by decide)
    have ia : a ≠ it := fun z => by
      obtain ⟨o, ho, hc, _⟩ := p
      obtain ⟨o2, ho2, hc2, _⟩ := hit
      rw [z, ho2] at ho
      cases ho
      rw [hc2] at hc
      injection hc with hc
      exact absurd hc (by decide)
    have hd : (X.A.in1).handled = none := I.ok.hd hc
    refine wpAny_pyNext_enum_itemD (Draws.tuple (prog := X.prog) (w := X.w) hd it a ia its.toArray) he ⟨hit, p⟩ (by have := (List.getElem?_eq_some_iff.mp hu).1; simpa using this) hne (by simp [hne, ea]) fun y h' tk hy ho st hT hsz hk => ?_
    obtain rfl : y = u := by
      have : its.toArray[i]? = some u := by simpa using hu
      exact Option.some.inj (hy.symm.trans this)
    refine ⟨_, rfl, wpAny_letOwnedTupleGo_enum (s := { s with heap := h', toks := tk + 1 }) ho fun h'' he' sb => ?_⟩
    have hT2 : h''.get? s.heap.objs.size = some { cls := .type "tuple", data := .seq #[.int i tk, y] } := (sb.2 _ (Nat.ne_of_gt hel)).trans hT
    have new : ObjOk X.prog X.w (upd H s.heap.objs.size (.tup [.int (i : Nat), x])) h'' s.heap.objs.size (.tup [.int (i : Nat), x]) :=
      ⟨by show 2 ≤ sizeLine; decide, [.int i tk, y], .cons ⟨_, rfl⟩ (.cons ru .nil), ⟨_, hT2, rfl, _, rfl⟩⟩
    have I1 : Inv X pins σ (upd H s.heap.objs.size (.tup [.int (i : Nat), x])) { s with heap := h'', toks := tk + 1 } :=
      I.turnedNew (ch := [e, it]) (fun b ob hb q => (sb.2 b (fun z => hb (by simp [z]))).trans (hk b ob (fun z => hb (by simp [z])) (fun z => hb (by simp [z])) q)) hf (Nat.le_refl _) new
    refine ⟨.ref s.heap.objs.size, _, I1, rfl, ⟨_, x, rfl, I.hok.fresh (Nat.le_refl _), rfl, fun ys hy => by rw [sqt_inj I hy hq]; exact hx⟩, ⟨⟨y, ?_⟩, st.1.at fun o q => (sb.2 it (Ne.symm hne)).trans q, hne⟩, fun b hb => ?_⟩
    · have e1 : ((i + 1 : Nat) : Int) = (i : Int) + 1 := by omega
      rw [e1]; exact he'
    · have hb' : b < s.heap.objs.size := by
        rcases (show b = e ∨ b = it by simpa using hb) with rfl | rfl
        · exact hel
        · exact hil
      rw [upd_ne (Nat.ne_of_lt hb')]
      exact (hf b hb).1
  done := by
    intro X hP hw hK hc i pins s σ H E I hf ⟨⟨old, he⟩, hit, hne⟩ ⟨xs, hq, hx⟩
    subst hP hw hK
    obtain ⟨its, rv, p, hz⟩ := I.tuple hq
    obtain ⟨f0, f1, f2, f3, f4, f5⟩ := hf it (by simp)
    have hl := rv.length
    have ia : a ≠ it := fun z => by
      obtain ⟨o, ho, hc, _⟩ := p
      obtain ⟨o2, ho2, hc2, _⟩ := hit
      rw [z, ho2] at ho
      cases ho
      rw [hc2] at hc
      injection hc with hc
      exact absurd hc (by decide)
    have hd : (X.A.in1).handled = none := I.ok.hd hc
    have D : Draws X.prog X.w X.A.in1 it [it, a] i (fun _ _ => True) (fun j h => (h.IsTupleIter it a j ∧ h.IsTuple a its.toArray) ∧ j = i) := {
      live := fun _ _ st => let ⟨o, ho, _⟩ := st.1.1; ⟨o, ho⟩
      frame := fun _ _ _ st hk => ⟨⟨st.1.1.at fun o e => hk it (by simp) o e, st.1.2.at fun o e => hk a (by simp) o e⟩, st.2⟩
      item := fun j s Q E hj st _ => absurd hj (by rw [st.2]; exact Nat.lt_irrefl _)
      done := fun s Q E st hE => wpAny_nextOf_tuple_end hd st.1.1 st.1.2 (by simp; omega) hE }
    exact wpAny_pyNext_enum_endD D he ⟨⟨hit, p⟩, rfl⟩ fun h' eb => ⟨rfl, I.turned (t' := s.toks) (fun b o hb q => eb b o hb q) f0 f1 f3 f4 f5⟩
  self := fun A i s Q E ⟨⟨_, he⟩, _⟩ h => wpAny_pyIter_enum he h
def iEnumA (K : PySem.W.Frag) (ta : TA) : TI := fun σ H R => ta σ H fun vs H1 => ∃ a xs, vs = [.ref a] ∧ ((SqL K H1 a xs ∧ R (Ite K a) H1) ∨ (SqT K H1 a xs ∧ R (IteT K a) H1))
section
theorem pi_enumA {X : Cx} {e : Expr} {ta : TA} {p pos tpos : Pos} {elts : List Expr} {kk : Nat} (hg : Gl X "enumerate") (hm : X.mg "enumerate" = none) (ha : PA X [e] ta) (hs : starEach [e] X.env = [(false, eval e X.env)] := by rfl) :
    PI X (.Tuple elts kk tpos) (.Call (.Name "enumerate" p) [e] [] pos) (iEnumA X.K ta) := by
  refine ⟨fun pins s σ H R I h => ?_⟩
  refine Call_ (ld_blt I hg hm boot_enumerate (PyProof.Rows.callWith_type1 (thn (ha.run pos pins s σ H _ I h) fun us s1 ⟨vs, H1, I1, r1, q1⟩ => ?_) hs rfl))
  obtain ⟨a, xs, ex, hq⟩ := q1
  subst ex
  cases r1 with
  | cons r rr =>
    cases rr
    cases r
    have fp : ∀ b, b ∈ [s1.heap.objs.size + 1, s1.heap.objs.size] → s1.heap.objs.size ≤ b := fun b hb => by
      rcases (show b = s1.heap.objs.size + 1 ∨ b = s1.heap.objs.size by simpa using hb) with z | z <;> omega
    rcases hq with ⟨hq, q⟩ | ⟨hq, q⟩
    · obtain ⟨its, rv, p', hz⟩ := I1.list hq
      refine call_enumerate_list p'.isList fun h' he hit hsz hk => wpAny_pyIter_enum he ?_
      exact ⟨s1.heap.objs.size + 1, [s1.heap.objs.size + 1, s1.heap.objs.size], _, _, H1, rfl, I1.kept (t' := s1.toks) hk, turn_enum a (s1.heap.objs.size + 1) s1.heap.objs.size, ⟨⟨.none, he⟩, hit, Nat.succ_ne_self _⟩, fun b hb => I1.fpOk (fp b hb) (I1.hok.fresh (fp b hb)), q⟩
    · obtain ⟨its, rv, p', hz⟩ := I1.tuple hq
      refine call_enumT p' fun h' he hit hk => wpAny_pyIter_enum he ?_
      exact ⟨s1.heap.objs.size + 1, [s1.heap.objs.size + 1, s1.heap.objs.size], _, _, H1, rfl, I1.kept (t' := s1.toks) hk, turn_enumT a (s1.heap.objs.size + 1) s1.heap.objs.size, ⟨⟨.none, he⟩, hit, Nat.succ_ne_self _⟩, fun b hb => I1.fpOk (fp b hb) (I1.hok.fresh (fp b hb)), q⟩
theorem walk_enumT {K : PySem.W.Frag} {a : Addr} {xs : List V} : Walk (IteT K a) xs.length (fun H => SqT K H a xs) (YPair (fun i => ((List.range xs.length).map fun i => V.int (i : Nat))[i]?) (fun i => xs[i]?)) := by
  refine ⟨fun i H hi z => ⟨xs, _, z, List.getElem?_eq_getElem hi⟩, fun H z => ⟨xs, z, Nat.le_refl _⟩, fun i H v H' hi z y => ?_⟩
  obtain ⟨T, x, h1, h2, h3, h4⟩ := y
  refine ⟨T, .int (i : Nat), x, h1, h2, h3, ?_, h4 _ z⟩
  show ((List.range xs.length).map fun i => V.int (i : Nat))[i]? = _
  rw [List.getElem?_map, List.getElem?_range hi]; rfl
def mEnumA (ma : ME) : MA := fun ε ρ n k => ma ε ρ n fun d n1 => match d with
  | .lst xs => k (enumD xs) n1
  | .tup xs => k (enumD xs) n1
  | _ => False
variable {X : Cx} {H0 : Hp} {ε : XD} {a : Expr} {pos : Pos} {ma : ME}
theorem di_enumA {S : Sg} {B : Option (Addr × (Addr × List Int))} {elts : List Expr} {kk : Nat} {tpos p : Pos} (hm : X.mg "enumerate" = none) (ha : PE X a (tE ⟨X.K, S, B⟩ H0 ε ma)) (hg : Gl X "enumerate" := by rfl)
    (hs : starEach [a] X.env = (false, eval a X.env) :: starEach [] X.env := by rfl) (hs2 : starEach [a] X.env = [(false, eval a X.env)] := by rfl) :
    PI X (.Tuple elts kk tpos) (.Call (.Name "enumerate" p) [a] [] pos) (tI ⟨X.K, S, B⟩ H0 ε (mEnumA ma)) :=
  imp_pi (pi_enumA hg hm (pa_cons ha pa_nil hs) hs2) fun σ H Q ⟨ρ, n, k, R, m, q⟩ => ⟨ρ, n, _, R, m, fun d n1 v H1 m1 dv k1 b1 => by
    have hd : ∀ {xs : List V} {ds : List D}, DVs ⟨X.K, S, B⟩ H1 xs ds → DVs ⟨X.K, S, B⟩ H1 ((List.range xs.length).map fun i => V.int (i : Nat)) ((List.range ds.length).map fun i => D.int (i : Nat)) := fun {xs ds} hf => by
      rw [hf.length]
      have := dvs_ints (c := ⟨X.K, S, B⟩) (H := H1) ((List.range ds.length).map fun (i : Nat) => (i : Int))
      rw [List.map_map, List.map_map] at this
      exact this
    cases dv with
    | lst f hf =>
      rename_i a xs ds
      refine ⟨_, _, rfl, .inl ⟨f.sq, q _ _ _ _ m1 ?_ k1 b1⟩⟩
      have e : ∀ i : Nat, i < xs.length → (((List.range xs.length).map fun i => V.int (i : Nat))[i]?) = some (.int (i : Nat)) := fun i hi => by rw [List.getElem?_map, List.getElem?_range hi]; rfl
      have w := (walk_enum (K := X.K) (a := a) (xs := xs)).mono (Y' := YPair (fun i => ((List.range xs.length).map fun i => V.int (i : Nat))[i]?) (fun i => xs[i]?)) (fun _ z => z) fun i H x H' hi _ y => by
        obtain ⟨T, x1, y1, h1, h2, h3, h4, h5⟩ := y
        exact ⟨T, x1, y1, h1, h2, h3, (e i hi).trans h4, h5⟩
      exact it_two w (by simp) (fun _ z => (f.kw z).sq) (hd hf) hf
    | tup f hf =>
      rename_i a xs ds
      refine ⟨_, _, rfl, .inr ⟨f, q _ _ _ _ m1 ?_ k1 b1⟩⟩
      exact it_two walk_enumT (by simp) (fun _ z => sqt_kw z f) (hd hf) hf
    | _ => exact m1.elim⟩
end
end DS
/-! # DataX15: sorted(xs), xs a list of pairs whose first items are unlike ints -/
namespace DS
open PySem PySem.Spec PyProof.Rows L2 SrtO Srt
/-- at v: a pair, its first item an int -/
def IsHd (h : Heap) (v : Value) (x : Int) : Prop := ∃ a o t u n, v = .ref a ∧ h.get? a = some o ∧ o.cls = .type "tuple" ∧ o.data = .seq #[.int x t, u] n
theorem IsHd.keeps {h h' : Heap} {v : Value} {x : Int} (p : IsHd h v x) (k : ∀ b o, h.get? b = some o → o.cls = .type "tuple" → h'.get? b = some o) : IsHd h' v x := by
  obtain ⟨a, o, t, u, n, e, ho, hc, hd⟩ := p
  exact ⟨a, o, t, u, n, e, k _ _ ho hc, hc, hd⟩
/-- the first item's int -/
def keyOf (h : Heap) (v : Value) : Int := match v with
  | .ref a => match h.get? a with
    | some o => match o.data with
      | .seq its _ => match its[0]? with
        | some (Value.int i _) => i
        | _ => 0
      | _ => 0
    | none => 0
  | _ => 0
theorem IsHd.key {h : Heap} {v : Value} {x : Int} (p : IsHd h v x) : keyOf h v = x := by
  obtain ⟨a, o, t, u, n, rfl, ho, hc, hd⟩ := p
  unfold keyOf
  simp only [ho, hd]
  rfl
theorem hd_firsts {h : Heap} : ∀ {vs : List Value}, (∀ v ∈ vs, ∃ x, IsHd h v x) → ∃ fs : List Value, PySem.W.KatTups h vs fs ∧ fs.length = vs.length ∧ ∀ f ∈ fs, ∃ x t, f = Value.int x t
  | [], _ => ⟨[], .nil, rfl, fun _ hm => nomatch hm⟩
  | v :: vs, hp => by
    obtain ⟨fs, h1, h2, h3⟩ := hd_firsts (vs := vs) fun v' hm => hp v' (List.mem_cons_of_mem _ hm)
    obtain ⟨x, a, o, t, u, n, rfl, ho, hc, hd⟩ := hp v List.mem_cons_self
    refine ⟨.int x t :: fs, .cons ho hc hd rfl h1, by rw [List.length_cons, List.length_cons, h2], fun f hm => ?_⟩
    rcases List.mem_cons.mp hm with rfl | hm
    · exact ⟨x, t, rfl⟩
    · exact h3 f hm
section
variable {prog : Program} {w : World} {A : Around} {E : Value → Shared → Prop} {s : Shared}
theorem hd_cmp {vs : List Value} {k : Value → Int} (hp : ∀ v ∈ vs, IsHd s.heap v (k v)) (inj : ∀ v ∈ vs, ∀ u ∈ vs, k v = k u → v = u) : SrtO.Cmp prog w A s (tuples' true) (fun p => p.1 ∈ vs) (lt2 fun v u => decide (k v < k u)) := by
  intro p q hm hm'
  show wpAny (model prog w) A (keyLt' (tuples' true) p.1 q.1) (fun r s' => s' = s ∧ r = decide (k p.1 < k q.1)) (fun _ _ => False) s
  have h1 := hp _ hm
  have h2 := hp _ hm'
  by_cases e : k p.1 = k q.1
  · have e2 := inj _ hm _ hm' e
    rw [← e2] at h2 ⊢
    obtain ⟨a, o, t, u, n, e3, ho, hc, hd⟩ := h1
    rw [show decide (k p.1 < k p.1) = false from decide_eq_false (Int.lt_irrefl _)]
    rw [e3]
    refine PySem.W.kat_lt ho hd ho hd ?_
    refine PySem.W.kat_cons (SeqAt.EqAt.same _ prog w _ _ (PySem.W.kat_yes ?_))
    refine PySem.W.kat_cons (SeqAt.EqAt.same _ prog w _ _ (PySem.W.kat_yes ?_))
    exact PySem.W.kat_nil ⟨rfl, rfl⟩
  · generalize k p.1 = x at h1 e ⊢
    generalize k q.1 = y at h2 e ⊢
    obtain ⟨a, o, t, u, n, e3, ho, hc, hd⟩ := h1
    obtain ⟨a', o', t', u', n', e4, ho', hc', hd'⟩ := h2
    rw [e3, e4]
    refine PySem.W.kat_lt ho hd ho' hd' ?_
    refine PySem.W.kat_cons (SeqAt.EqAt.int_int x t y t' prog w _ _ ?_)
    refine PySem.W.kat_go (fun e1 => absurd (by simpa using e1) e) fun _ => PySem.W.kat_no ?_
    exact oneLt_int ⟨rfl, rfl⟩
theorem swo_key (k : Value → Int) : Swo fun v u => decide (k v < k u) := by
  refine ⟨fun x y h => ?_, fun x y z h1 h2 => ?_⟩
  · have := of_decide_eq_true h
    exact decide_eq_false (by omega)
  · have := of_decide_eq_false h1
    have := of_decide_eq_false h2
    exact decide_eq_false (by omega)
theorem sorted_hd {l : Addr} {vs : List Value} {k : Value → Int} {Q : Value → Shared → Prop} (hl : s.heap.IsList l vs.toArray) (hz : vs.length ≤ sizeLine) (hp : ∀ v ∈ vs, IsHd s.heap v (k v)) (inj : ∀ v ∈ vs, ∀ u ∈ vs, k v = k u → v = u)
    (h : ∀ (h' : Heap) (d : Addr) (out : List Value), Srtd (fun v u => decide (k v < k u)) out → out.Perm vs → (∀ b o, s.heap.get? b = some o → h'.get? b = some o) → s.heap.objs.size ≤ d → (∃ n, h'.get? d = some (seqObj "list" out.toArray n)) → Q (.ref d) { s with heap := h' }) :
    wpAny (model prog w) A (call (.builtin "sorted") [.ref l]) Q E s := by
  refine sorted_ord (swo_key k) hl hz (fun h2 h₁ a ha kk h' keep => ?_) fun out hs hb => h _ _ out hs hb.perm (fun b o e => sortedAll_old e) (Nat.le_succ _) (sortedAll_at s.heap vs out.toArray)
  have hp' : ∀ v ∈ vs, IsHd h' v (k v) := fun v hm => (hp v hm).keeps fun b o e c => keep b o (fun z => by
    subst z
    have e2 : some o = some (seqObj "list" vs.toArray 0) := ((kk b o e).2).symm.trans ha
    cases e2
    exact absurd (Value.type.inj c) (by decide)) (kk b o e).2
  obtain ⟨fs, h1, h3, h4⟩ := hd_firsts fun v hm => ⟨_, hp' v hm⟩
  refine ⟨tuples' true, fun Q E hq => ?_, hd_cmp hp' inj⟩
  refine PySem.W.kat_kind (T := .type "int") h1 (by omega) (fun f hm => ?_) (by rfl) ?_
  · obtain ⟨x, t, rfl⟩ := h4 f hm
    exact PySem.W.Looks.now
  · have e : (Value.type "int" != Value.type "tuple") = true := by first | decide +kernel | rfl | decide
    rw [e]
    exact hq
end
/-- the items are pairs with these ints ahead -/
inductive Hds (K : PySem.W.Frag) (H : Hp) : List V → List Int → Prop
  | nil : Hds K H [] []
  | cons {t : Addr} {k : Int} {y : V} {xs : List V} {ks : List Int} : SqT K H t [.int k, y] → Hds K H xs ks → Hds K H (.ref t :: xs) (k :: ks)
def rSortH (K : PySem.W.Frag) : List V → Hp → VK → Prop := fun vs H Q => ∃ (a : Addr) (xs : List V) (ks : List Int), vs = [.ref a] ∧ SqL K H a xs ∧ Hds K H xs ks ∧ ks.Nodup ∧
  ∀ (ys : List V) (js : List Int) (p : Addr), (ys.zip js).Perm (xs.zip ks) → ys.length = js.length → js.Pairwise (· ≤ ·) → H p = none → Q (.ref p) (upd H p (.lst ys))
section
variable {X : Cx} {pins : List (Addr × Obj)} {σ : L2.St} {H : Hp} {s : Shared}
theorem hds_at (I : Inv X pins σ H s) : ∀ {xs : List V} {ks : List Int} {us : List Value}, Hds X.K H xs ks → Vals xs us → (∀ u ∈ us, ∃ k, IsHd s.heap u k) ∧ us.map (keyOf s.heap) = ks ∧ us.map backV = xs ∧ ∀ u ∈ us, ∃ a, u = Value.ref a
  | _, _, _, .nil, .nil => ⟨fun _ h => (nomatch h), rfl, rfl, fun _ h => (nomatch h)⟩
  | _, _, _, .cons (t := t) (k := k) h hs, .cons r rs => by
    obtain ⟨h1, h2, h3, h4⟩ := hds_at I hs rs
    cases r
    obtain ⟨its, rv, p, hz⟩ := I.tuple h
    obtain ⟨u1, u2, rfl, r1, r2⟩ := vals2 rv
    obtain ⟨t1, rfl⟩ := r1
    obtain ⟨o, ho, hc, n, hd⟩ := p
    have hh : IsHd s.heap (.ref t) k := ⟨t, o, t1, u2, n, rfl, ho, hc, hd⟩
    refine ⟨fun u hu => ?_, ?_, ?_, fun u hu => ?_⟩
    · rcases List.mem_cons.mp hu with rfl | hu
      · exact ⟨k, hh⟩
      · exact h1 u hu
    · rw [List.map_cons, h2, hh.key]
    · rw [List.map_cons, h3]; rfl
    · rcases List.mem_cons.mp hu with rfl | hu
      · exact ⟨t, rfl⟩
      · exact h4 u hu
theorem zip_maps {α β γ : Type} (f : α → β) (g : α → γ) : ∀ l : List α, (l.map f).zip (l.map g) = l.map fun x => (f x, g x)
  | [] => rfl
  | a :: l => by rw [List.map_cons, List.map_cons, List.zip_cons_cons, zip_maps f g l, List.map_cons]
theorem inj_nodup {α β : Type} {f : α → β} : ∀ {l : List α}, (l.map f).Nodup → ∀ {x y : α}, x ∈ l → y ∈ l → f x = f y → x = y
  | a :: l, nd, x, y, hx, hy, e => by
    rw [List.map_cons, List.nodup_cons] at nd
    rcases List.mem_cons.mp hx with hx | hx <;> rcases List.mem_cons.mp hy with hy | hy
    · rw [hx, hy]
    · refine absurd (List.mem_map_of_mem (f := f) hy) ?_
      rw [← e, hx]; exact nd.1
    · refine absurd (List.mem_map_of_mem (f := f) hx) ?_
      rw [e, hy]; exact nd.1
    · exact inj_nodup nd.2 hx hy e
theorem cr_sortH : CallR X (.builtin "sorted") (rSortH X.K) := by
  intro pins s σ H vs us Q I r h
  obtain ⟨a, xs, ks, rfl, hs, hh, nd, q⟩ := h
  obtain ⟨its, rv, hl, hz⟩ := I.list hs
  obtain ⟨u, rfl, ru⟩ := vals1 r
  obtain rfl : u = Value.ref a := ru
  obtain ⟨h1, h2, h3, h4⟩ := hds_at I hh rv
  refine sorted_hd (k := keyOf s.heap) hl.isList (by rw [← rv.length]; exact hz) (fun v hv => ?_) (fun v hv u hu e => ?_) fun h' d out hs1 hp kp hd hn => ?_
  · obtain ⟨k, hk⟩ := h1 v hv
    rw [hk.key]; exact hk
  · rw [← h2] at nd
    exact inj_nodup nd hv hu e
  · obtain ⟨n, hn⟩ := hn
    have h5 : ∀ u ∈ out, ∃ a, u = Value.ref a := fun u hu => h4 u (hp.mem_iff.mp hu)
    have e1 : (out.map backV).zip (out.map (keyOf s.heap)) = out.map fun x => (backV x, keyOf s.heap x) := zip_maps _ _ _
    have e2 : xs.zip ks = its.map fun x => (backV x, keyOf s.heap x) := by rw [← h2, ← h3]; exact zip_maps _ _ _
    refine ⟨.ref d, upd H d (.lst (out.map backV)), I.laid (t' := s.toks) kp hd ⟨?_, out, n, vals_back h5, hn⟩, rfl, q _ (out.map (keyOf s.heap)) d (by rw [e1, e2]; exact hp.map _) (by rw [List.length_map, List.length_map]) (List.pairwise_map.mpr (hs1.imp fun {x y} h => by have := of_decide_eq_false h; omega)) (I.hok.fresh hd)⟩
    rw [List.length_map, hp.length_eq, ← rv.length]
    exact hz
end
/-! ### as data -/
def headsD : List D → Option (List Int)
  | [] => some []
  | .tup [.int i, _] :: r => (headsD r).map (i :: ·)
  | _ => none
theorem heads_of {c : Cc} {H : Hp} : ∀ {ds : List D} {vs : List V} {ks : List Int}, DVs c H vs ds → headsD ds = some ks → Hds c.K H vs ks
  | [], _, _, .nil, e => by cases e; exact .nil
  | d :: ds, _, ks, .cons h t, e => by
    unfold headsD at e
    split at e
    · rename_i e1; cases e1
    · rename_i i y r e1
      cases e1
      cases z : headsD ds with
      | none => rw [z] at e; cases e
      | some js =>
        rw [z] at e; cases e
        cases h with
        | tup f hf =>
          obtain ⟨v1, v2, rfl, q1, q2⟩ := dvs2 hf
          cases opd_int q1
          exact .cons f (heads_of t z)
    · cases e
theorem heads_len : ∀ {ds : List D} {ks : List Int}, headsD ds = some ks → ks.length = ds.length
  | [], _, e => by cases e; rfl
  | d :: ds, ks, e => by
    unfold headsD at e
    split at e
    · rename_i e1; cases e1
    · rename_i i y r e1
      cases e1
      cases z : headsD ds with
      | none => rw [z] at e; cases e
      | some js =>
        rw [z] at e; cases e
        rw [List.length_cons, List.length_cons, heads_len z]
    · cases e
inductive DVz (c : Cc) (H : Hp) : List (V × Int) → List (D × Int) → Prop
  | nil : DVz c H [] []
  | cons {v : V} {d : D} {k : Int} {vs : List (V × Int)} {ds : List (D × Int)} : DV c H v d → DVz c H vs ds → DVz c H ((v, k) :: vs) ((d, k) :: ds)
theorem dvz_perm {c : Cc} {H : Hp} {l m : List (V × Int)} (p : l.Perm m) : ∀ {es : List (D × Int)}, DVz c H l es → ∃ es', es'.Perm es ∧ DVz c H m es' := by
  induction p with
  | nil => intro es h; exact ⟨es, List.Perm.refl _, h⟩
  | cons x _ ih =>
    intro es h
    cases h with
    | cons a t =>
      obtain ⟨es', h1, h2⟩ := ih t
      exact ⟨_ :: es', h1.cons _, .cons a h2⟩
  | swap x y l =>
    intro es h
    cases h with
    | cons a t =>
      cases t with
      | cons b t => exact ⟨_, List.Perm.swap _ _ _, .cons b (.cons a t)⟩
  | trans _ _ ih1 ih2 =>
    intro es h
    obtain ⟨e1, h1, h2⟩ := ih1 h
    obtain ⟨e2, h3, h4⟩ := ih2 h2
    exact ⟨e2, h3.trans h1, h4⟩
theorem dvz_of {c : Cc} {H : Hp} : ∀ {vs : List V} {ds : List D} {ks : List Int}, DVs c H vs ds → ks.length = ds.length → DVz c H (vs.zip ks) (ds.zip ks)
  | _, _, [], .nil, _ => .nil
  | _, _, k :: ks, .cons h t, e => .cons h (dvz_of t (by simpa using e))
theorem dvz_to {c : Cc} {H : Hp} : ∀ {ys : List V} {js : List Int} {es : List (D × Int)}, DVz c H (ys.zip js) es → ys.length = js.length → ∃ ds : List D, DVs c H ys ds ∧ es = ds.zip js ∧ ds.length = js.length
  | [], [], _, .nil, _ => ⟨[], .nil, rfl, rfl⟩
  | y :: ys, j :: js, _, .cons h t, e => by
    obtain ⟨ds, h1, h2, h3⟩ := dvz_to t (by simpa using e)
    exact ⟨_ :: ds, .cons h h1, by rw [h2]; rfl, by rw [List.length_cons, List.length_cons, h3]⟩
/-- sorted(xs): pairs with unlike ints ahead; for every sorted permutation (there is just one) -/
def mSort (ma : ME) : ME := fun ε ρ n k => ma ε ρ n fun d n1 => match d with
  | .lst xs => ∃ ks, headsD xs = some ks ∧ ks.Nodup ∧ ∀ (ys : List D) (js : List Int), (ys.zip js).Perm (xs.zip ks) → ys.length = js.length → js.Pairwise (· ≤ ·) → k (.lst ys) n1
  | _ => False
section
variable {X : Cx} {S : Sg} {B : Option (Addr × (Addr × List Int))} {H0 : Hp} {ε : XD} {e : Expr} {p pos : Pos} {ma : ME}
theorem de_sort (hm : X.mg "sorted" = none) (he : PE X e (tE ⟨X.K, S, B⟩ H0 ε ma)) (hg : Gl X "sorted" := by rfl) (s0 : starEach [e] X.env = (false, eval e X.env) :: starEach [] X.env := by rfl) (hpl : (backTo pos (starEach [] X.env)).any (·.1) = false := by rfl) :
    PE X (.Call (.Name "sorted" p) [e] [] pos) (tE ⟨X.K, S, B⟩ H0 ε (mSort ma)) := by
  refine imp_pe (pe_fz (pe_callB cr_sortH hg hm (show bootBuiltins "sorted" = some (.builtin "sorted") from by decide +kernel) (pa_cons he pa_nil s0) (by decide) (by decide) s0 hpl)) fun σ H Q ⟨ρ, n, k, R, m, q⟩ => ?_
  refine ⟨ρ, n, _, R, m, fun d n1 v H1 m1 dv k1 b1 => ?_⟩
  cases dv with
  | lst f hf =>
    rename_i a vs xs
    obtain ⟨ks, e1, nd, m2⟩ := m1
    refine ⟨a, vs, ks, rfl, f.sq, heads_of hf e1, nd, fun ys js p hp hl hs h0 => ?_⟩
    obtain ⟨es, h1, h2⟩ := dvz_perm hp.symm (dvz_of hf (heads_len e1))
    obtain ⟨ds, h3, h4, h5⟩ := dvz_to h2 hl
    rw [h4] at h1
    have sm : Same H1 (upd H1 p (.lst ys)) := same_new h0
    have h6 : DVn ⟨X.K, S, B⟩ H1 (upd H1 p (.lst ys)) (.ref p) (.lst ds) := DVn.lst h0 upd_same (h3.kw (Same.ks sm).kw)
    exact fin_new (ρ := ρ) (σ := σ) b1 sm h6 (m2 ds js h1 h5 hs) fun d n' v H' a1 a2 a3 a4 => q d n' v H' a1 a2 (k1.trans a3) a4
  | _ => exact m1.elim
end
end DS
/-! # DataX16: a text times an int -/
namespace DS
open PySem PySem.Spec PyProof.Rows L2
def repS (x : Str) (k : Int) : Str := if (k == 1 || x.length == 0) = true then x else ⟨(List.replicate k.toNat x.cps).foldl (· ++ ·) #[]⟩
abbrev rMulS : R2 := fun x y H Q => ∃ z k, x = .str z ∧ y = .int k ∧ (1 ≤ k ∧ k ≤ 1000 ∧ z.length ≤ 1000) ∧ Q (.str (repS z k)) H
theorem fold_size {α : Type} (a : Array α) : ∀ (m : Nat) (acc : Array α), ((List.replicate m a).foldl (fun x1 x2 => x1 ++ x2) acc).size = acc.size + m * a.size
  | 0, acc => by rw [List.replicate_zero, List.foldl_nil, Nat.zero_mul, Nat.add_zero]
  | m + 1, acc => by rw [List.replicate_succ, List.foldl_cons, fold_size a m, Array.size_append, Nat.succ_mul]; omega
theorem op_mulS {X : Cx} : OpR X (binaryOp .Mult) rMulS := by
  intro pins s σ H x y v u Q I rx ry h
  obtain ⟨z, k, rfl, rfl, ⟨h1, h2, h3⟩, q⟩ := h
  obtain ⟨t, rfl⟩ := rx
  obtain ⟨t2, rfl⟩ := ry
  have hp : (z.length : Int) * k ≤ 1000 * 1000 := Int.mul_le_mul (by omega) h2 (by omega) (by omega)
  have hpn : z.length * k.toNat ≤ 1000 * 1000 := Nat.mul_le_mul h3 (by omega)
  refine PySem.P.mul_str (by rw [decide_eq_false (by omega), decide_eq_false (by omega)]; rfl) (fun _ _ => ?_) (fun _ _ => ?_) ?_
  · have : k * 1000 ≤ 2 ^ 63 - 1 := by omega
    have h4 : (1000 : Int) ≤ (2 ^ 63 - 1) / k := Int.le_ediv_of_mul_le (by omega) (by omega)
    omega
  · unfold Builtin.Str.tooLong
    exact decide_eq_false (by have : (1000 : Nat) * 1000 < sizeLine := by decide
                              omega)
  · rw [if_neg (by omega)]
    unfold repS at q
    split
    · rename_i e
      rw [if_pos e] at q
      exact ⟨.str z, H, I, ⟨_, rfl⟩, q⟩
    · rename_i e
      rw [if_neg e] at q
      refine ⟨?_, .str _, H, I.tok _, ⟨_, rfl⟩, q⟩
      show ((List.replicate k.toNat z.cps).foldl (fun x1 x2 => x1 ++ x2) #[]).size ≤ sizeLine
      rw [fold_size]
      have e1 : k.toNat * z.cps.size ≤ 1000 * 1000 := Nat.mul_le_mul (by omega) h3
      have e2 : (1000 : Nat) * 1000 < sizeLine := by decide
      show 0 + _ ≤ _
      omega
def mulS (x y : D) : Option D := match x, y with
  | .str z, .int k => if 1 ≤ k ∧ k ≤ 1000 ∧ z.length ≤ 1000 then some (.str (repS z k)) else none
  | _, _ => none
theorem od_mulS {c : Cc} : OpD c rMulS mulS := by
  intro x y dx dy d H Q hx hy e k
  unfold mulS at e
  split at e
  · rename_i z i
    cases opd_str hx; cases opd_int hy
    by_cases h : 1 ≤ i ∧ i ≤ 1000 ∧ z.length ≤ 1000
    · rw [if_pos h] at e
      cases e
      exact ⟨z, i, rfl, rfl, h, k _ _ (.of (.str _)) (same_refl H)⟩
    · rw [if_neg h] at e; cases e
  · cases e
end DS
/-! # DataX17: == and != by an own __eq__; isinstance of own classes -/
namespace DS
open PySem PySem.Spec PySem.Calls PyProof.Rows L2
/-! ### != by object.__ne__ and an own __eq__ -/
theorem ne_slot : Slot "object" "__ne__" "object.__ne__" := Slot.of (T := "object") (name := "__ne__") (owner := "object") (n := "__ne__") (by rw [typeLookup_type, builtinLookup_eq_fast]; kernel_rfl) (by decide +kernel) (by decide +kernel) (by decide +kernel)
    (.inl (by decide +kernel)) (by rw [isSubtype_type]; kernel_rfl)
section
variable {prog : Program} {w : World} {A : Around} {E : Value → Shared → Prop} {s : Shared} {K : PySem.W.Frag} {x C L f : Addr} {h₀ : Heap} {m : Str → Option Value} {ox : Obj} {od : Option Obj} {b tb : Value}
theorem ifBound_ne {M : Model} {A : Around} {args : List Value} {Q : Option Value → Shared → Prop} (X : K.In s.heap) (I : PySem.W.InstAt s.heap x ox C od) (hs : PySem.W.findIn K (.ref C) "__ne__" = some (some (.builtin "object.__ne__")))
    (h : wpAny M A (call (.builtin "object.__ne__") (.ref x :: args)) (fun v => Q (some v)) E s) : wpAny M A (callSpecialIfBound? (.ref x) "__ne__" args) Q E s := by
  simp only [callSpecialIfBound?, bindSpecialIfBound?]
  refine wpAny_holding (wpAny_bind (wpAny_bind (wpAny_bind (I.type.here ((PySem.W.looks_findIn X hs).here ?_)))))
  refine wpAny_bind (wpAny_askSetting (wpAny_ite ?_))
  have fin : wpAny M A (call (.builtin "object.__ne__") ([.ref x] ++ args) >>= fun v => pure (some v)) Q E s := wpAny_bind (wpAny_mono h (fun v s' h' => wpAny_pure h') fun _ _ h' => h')
  split
  · refine wpAny_bind ?_
    rw [ne_slot.bind]
    exact wpAny_pure (wpAny_pure (by exact fin))
  · refine wpAny_tryCatch (wpAny_bind ?_)
    rw [ne_slot.bind]
    exact wpAny_pure (wpAny_pure (by exact fin))
theorem ne_entry {Q : Fin → Shared → Prop} (X : K.In s.heap) (I : PySem.W.InstAt s.heap x ox C od) (hu : A.units < cLine) (hs : PySem.W.findIn K (.ref C) "__eq__" = some (some (.ref f))) (hf : PySem.W.isFn K (.ref f) = true)
    (h : wpAny (model prog w) A (call (.ref f) [.ref x, b]) (fun v s' => ∃ r, v = .bool r ∧ Q (.done (.ret (.bool (!r)))) s') E s) : wpAny (model prog w) A (Builtin.«object.__ne__» ⟨[.ref x, b], []⟩) Q E s := by
  unfold Builtin.«object.__ne__»
  repeat (first
    | with_reducible refine wpAny_cRoomFor hu ?_
    | (refine wpAny_bind (m := callSpecialIfBound? (.ref x) (Str.ofString "__eq__") [b])
        (PySem.W.ifBound_K X I hs hf (wpAny_mono h (fun r s' hr => by
          obtain ⟨b, rfl, hq⟩ := hr
          repeat (first | exact hq | exact wpAny_pure hq | exact wpAny_truthy_bool hq | (refine wpAny_bind (m := truthy (.bool _)) (wpAny_truthy_bool ?_)) | wp_step)) fun _ _ e => e)))
    | wp_step)
theorem ne_K {Q : Value → Shared → Prop} (hu : A.units + 1 < cLine) (F : Fr h₀ L s.heap m) (X₀ : K.In h₀) (I : PySem.W.InstAt s.heap x ox C od) (hb : PySem.W.Looks (model prog w) s.heap (typeOf b) tb) (hn : PySem.W.notFirst K C tb = true)
    (hne : PySem.W.findIn K (.ref C) "__ne__" = some (some (.builtin "object.__ne__"))) (hob : PySem.W.mroIn K C (.type "object") = some true) (hs : PySem.W.findIn K (.ref C) "__eq__" = some (some (.ref f))) (hf : PySem.W.isFn K (.ref f) = true)
    (h : wpAny (model prog w) A.in1 (call (.ref f) [.ref x, b]) (fun v s' => ∃ r, v = .bool r ∧ Q (.bool (!r)) s') E s) : wpAny (model prog w) A (richCompare .NotEq (.ref x) b) Q E s := by
  have X := X₀.keeps F.keep
  have one : wpAny (model prog w) A (tryCompare (.ref x) (cmpInfo .NotEq).2.1 b) (fun r s' => ∃ v, r = some v ∧ Q v s') E s := by
    show wpAny (model prog w) A (tryCompare (.ref x) "__ne__" b) _ E s
    unfold tryCompare
    refine wpAny_bind (ifBound_ne X I hne (wpAny_call (codeAny_call_builtin ne_slot.plain PySem.F.cmpEntry_ne (PySem.W.check_slot PySem.F.cmpKind_ne PySem.F.cmpSplit_ne (I.type.andThen (PySem.W.looks_mroIn X hob)) (PySem.F.cmpArgs_ne _ _) (ne_entry (A := A.in1) X I hu hs hf (wpAny_mono h (fun v s' hv => ?_) fun _ _ e => e))))))
    obtain ⟨r, rfl, hq⟩ := hv
    first | exact ⟨r, rfl, wpAny_pure ⟨_, rfl, hq⟩⟩ | exact ⟨r, rfl, wpAny_pure (wpAny_pure ⟨_, rfl, hq⟩)⟩ | exact ⟨r, rfl, ⟨_, rfl, hq⟩⟩
  unfold richCompare
  simp only [oneThing_ref]
  refine wpAny_holding (wpAny_bind (wpAny_cRoomFor (Nat.lt_of_succ_lt hu) ?_))
  refine wpAny_bind (I.type.here (wpAny_bind (hb.here ?_)))
  split
  · rename_i q
    have e : PySem.W.subIn K tb (.ref C) = some false := by
      rcases Bool.or_eq_true_iff.mp hn with e | e
      · rw [beq_iff_eq.mp e] at q; simp at q
      · exact beq_iff_eq.mp e
    refine wpAny_bind ((PySem.W.looks_subIn X e).here ?_)
    simp only [Bool.false_eq_true, if_false]
    refine wpAny_bind (wpAny_mono one (fun r s' z => ?_) fun _ _ e => e)
    obtain ⟨v, rfl, hq⟩ := z
    exact wpAny_pure hq
  · refine wpAny_bind (wpAny_pure ?_)
    simp only [Bool.false_eq_true, if_false]
    refine wpAny_bind (wpAny_mono one (fun r s' z => ?_) fun _ _ e => e)
    obtain ⟨v, rfl, hq⟩ := z
    exact wpAny_pure hq
end
/-! ### the own __eq__ of classes by their names -/
/-- the own == of the class named nm -/
structure EqO (P : Program) (w : World) (K : PySem.W.Frag) (mg : Str → Option Value) (base : Heap) (S : Sg) (nm : Str) (con : Con) (k : Nat) : Prop where
  ex : ∀ C, S.ci C = some nm → ∃ f fd ps, PySem.W.findIn K (.ref C) "__eq__" = some (some (.ref f)) ∧ PySem.W.isFn K (.ref f) = true ∧ PySem.W.findIn K (.ref C) "__ne__" = some (some (.builtin "object.__ne__")) ∧ PySem.W.mroIn K C (.type "object") = some true ∧
    FnG P w K mg base (L2.CX P w) k f fd ps (spD K S con) ∧ Binds K fd ps [] ∧ (∀ D nm2, S.ci D = some nm2 → PySem.W.notFirst K C (.ref D) = true) ∧ ∀ t ∈ ["NoneType", "bool", "int", "str", "list", "tuple", "dict"], PySem.W.notFirst K C (.type t) = true
structure EqAll (P : Program) (w : World) (K : PySem.W.Frag) (mg : Str → Option Value) (base : Heap) (S : Sg) (cons : Str → Option Con) (k : Nat) : Prop where
  ex : ∀ nm con, cons nm = some con → EqO P w K mg base S nm con k
def okY : D → Bool
  | .ins _ _ => true
  | d => (tyD d).isSome
def rEqI (K : PySem.W.Frag) (S : Sg) (neg : Bool) (cons : Str → Option Con) : R2 := fun x y H Q => ∃ B n nm fs dy con kk, cons nm = some con ∧ DV ⟨K, S, B⟩ H x (.ins nm fs) ∧ DV ⟨K, S, B⟩ H y dy ∧ okY dy = true ∧ BoxAt ⟨K, S, B⟩ n H ∧ con noX [.ins nm fs, dy] n kk ∧
  ∀ d n' H', kk d n' → Ks ⟨K, S, B⟩ H H' → BoxAt ⟨K, S, B⟩ n' H' → ∃ b, d = .bl b ∧ Q (.bl (neg != b)) H'
section
variable {X : Cx} {S : Sg} {cons : Str → Option Con} {k : Nat}
theorem op_eqI {op : CmpOp} {neg : Bool} (hop : op = .Eq ∧ neg = false ∨ op = .NotEq ∧ neg = true) (E : EqAll X.prog X.w X.K X.mg X.base S cons k) (hgd : X.A.guards = some []) (hr : Room (k + 1) X.A) : OpR X (compareOp op) (rEqI X.K S neg cons) := by
  intro pins s σ H x y v u Q I rx ry ⟨B, n, nm, fs, dy, con, kk, hc, dx, dvy, hy, bx, hcon, q⟩
  cases dx with
  | @ins a C ddx _ fsv _ hci hfo hHa hfs =>
  obtain ⟨f, fd, ps, h1, h2, h3, h4, F, hb, hn, hn2⟩ := (E.ex nm con hc).ex C hci
  obtain rfl : v = Value.ref a := rx
  obtain ⟨mA, J, _⟩ := ins_get I.hok hHa
  obtain ⟨od, J, _⟩ := J.look
  obtain ⟨m, hF⟩ := I.fr
  have dx2 : DV ⟨X.K, S, B⟩ H (.ref a) (.ins nm fs) := .ins hci hfo hHa hfs
  have hty : ∃ tb, PySem.W.Looks (model X.prog X.w) s.heap (typeOf u) tb ∧ PySem.W.notFirst X.K C tb = true := by
    cases ht : tyD dy with
    | some t =>
      obtain ⟨ty, mt⟩ := tyx_of dvy ht
      obtain ⟨P, Z, p, _⟩ := kit_of I ry ty
      exact ⟨_, Z.ty _ _ I.kIn p, hn2 _ mt⟩
    | none =>
      cases dvy with
      | @ins b D ddy nm2 gsv _ gci gfo gHa gfs =>
        obtain rfl : u = Value.ref b := ry
        obtain ⟨mB, J', _⟩ := ins_get I.hok gHa
        obtain ⟨od', J', _⟩ := J'.look
        exact ⟨_, J'.type, hn _ _ gci⟩
      | _ => first | (cases ht; done) | cases hy
  obtain ⟨tb, L, hnf⟩ := hty
  have hsp : spD X.K S con [.ref a, y] H (fun v H' => ∃ b, v = .bl b ∧ Q (.bl (neg != b)) H') (XKD ⟨X.K, S, B⟩ H noX) := ⟨B, n, [.ins nm fs, dy], noX, kk, .cons dx2 (.cons dvy .nil), bx, hcon, fun d n' v H' a1 a2 a3 a4 => by
    obtain ⟨b, rfl, q1⟩ := q _ _ _ a1 a3 a4
    cases a2
    exact ⟨b, rfl, q1⟩, fun _ _ _ h => h⟩
  have hl := F.len _ _ _ _ hsp
  have run : ∀ A : Around, A.guards = some [] → Room k A → Env0 X.prog X.w X.K X.mg X.base A X.stack s H → wpAny (model X.prog X.w) A (call (.ref f) [.ref a, u]) (fun v s' => ∃ b H', v = .bool b ∧ Inv X pins σ H' s' ∧ Q (.bl (neg != b)) H') X.xe s := fun A hg hrA e0 => by
    refine wpAny_call (codeAny_mono (F.run A X.stack s H ⟨[.ref a, u], []⟩ [.ref a, u] [.ref a, y] _ _ hg hrA e0 (by
      have := hb s [.ref a, u] I.kIn (by simpa using hl)
      simpa using this) (.cons rfl (.cons ry .nil)) hsp) fun r s' hq => ?_)
    cases r with
    | error e => exact (xl0 (X := X) (c := ⟨X.K, S, B⟩) (H0 := H)).pass pins σ H s e s' I hq
    | ok fl =>
      cases fl with
      | ret w =>
        obtain ⟨z, H', I', rz, b, ez, q1⟩ := I.after hq
        subst ez
        exact ⟨b, H', rz, I', q1⟩
      | next => exact False.elim hq
      | brk => exact False.elim hq
      | cont => exact False.elim hq
  rcases hop with ⟨rfl, rfl⟩ | ⟨rfl, rfl⟩
  · show wpAny (model X.prog X.w) X.A (richCompare .Eq (.ref a) u) (EP X pins σ Q) X.xe s
    refine PySem.W.cmp_K (op := .Eq) hr.units0 hF I.ok.mod.kin J L hnf h1 h2 (wpAny_mono (run X.A hgd (hr.mono (by omega)) I.env0) (fun v s' hv => ?_) fun _ _ e => e)
    obtain ⟨b, H', rfl, I', q1⟩ := hv
    exact ⟨.bl b, H', I', rfl, by simpa using q1⟩
  · show wpAny (model X.prog X.w) X.A (richCompare .NotEq (.ref a) u) (EP X pins σ Q) X.xe s
    refine ne_K (by have := hr.un; omega) hF I.ok.mod.kin J L hnf h3 h4 h1 h2 (wpAny_mono (run X.A.in1 hgd hr.in1 I.env0.in1) (fun v s' hv => ?_) fun _ _ e => e)
    obtain ⟨b, H', rfl, I', q1⟩ := hv
    exact ⟨b, rfl, .bl (!b), H', I', rfl, by simpa using q1⟩
end
/-- x == y, x != y where x may be an instance with an own == -/
def eqIK (neg : Bool) (cons : Str → Option Con) (g : D → D → Option D) (x y : D) (n2 : Nat) (k : DK) : Prop := match x with
  | .ins nm _ => (match cons nm with
    | some con => okY y = true ∧ con noX [x, y] n2 fun d n3 => ∃ b, d = .bl b ∧ k (.bl (neg != b)) n3
    | none => False)
  | _ => optK (g x y) fun d => k d n2
def mEqI (neg : Bool) (cons : Str → Option Con) (g : D → D → Option D) (ma mb : ME) : ME := fun ε ρ n k => ma ε ρ n fun x n1 => mb ε ρ n1 fun y n2 => eqIK neg cons g x y n2 k
theorem i_eqI {neg : Bool} {cons : Str → Option Con} {g : D → D → Option D} {ma mb : ME} {ε : XD} {ρ : Ev} {n : Nat} {k : DK} (h : ma ε ρ n fun x n1 => mb ε ρ n1 fun y n2 => eqIK neg cons g x y n2 k) : mEqI neg cons g ma mb ε ρ n k := h
theorem o_eqIK {neg : Bool} {cons : Str → Option Con} {g : D → D → Option D} {nm : Str} {fs : List (Str × D)} {y : D} {con : Con} {n2 : Nat} {k : DK} (e : cons nm = some con) (hy : okY y = true) (h : con noX [.ins nm fs, y] n2 fun d n3 => ∃ b, d = .bl b ∧ k (.bl (neg != b)) n3) : eqIK neg cons g (.ins nm fs) y n2 k := by
  unfold eqIK
  dsimp only
  rw [e]
  exact ⟨hy, h⟩
section
variable {X : Cx} {S : Sg} {B : Option (Addr × (Addr × List Int))} {H0 : Hp} {ε : XD} {cons : Str → Option Con} {k : Nat} {a b : Expr} {pos : Pos} {ma mb : ME} {op : CmpOp} {neg : Bool} {r : R2} {g : D → D → Option D}
theorem de_cmpI (hop : op = .Eq ∧ neg = false ∨ op = .NotEq ∧ neg = true) (E : EqAll X.prog X.w X.K X.mg X.base S cons k) (hgd : X.A.guards = some []) (hr : Room (k + 1) X.A) (ho : OpR X (compareOp op) r) (hd : OpD ⟨X.K, S, B⟩ r g) (hm : behindInMarks op b = false)
    (ha : PE X a (tE ⟨X.K, S, B⟩ H0 ε ma)) (hb : PE X b (tE ⟨X.K, S, B⟩ H0 ε mb)) : PE X (.Compare a [op] [b] pos) (tE ⟨X.K, S, B⟩ H0 ε (mEqI neg cons g ma mb)) := by
  refine imp_pe (pe_fz (pe_cmpR (OpR.or (op_eqI hop E hgd hr) ho) ha hb hm)) fun σ H Q ⟨ρ, n, kk, R, m, q⟩ => ?_
  refine ⟨ρ, n, _, R, m, fun x n1 v H1 m1 dv k1 b1 => ⟨ρ, n1, _, R.step k1 b1, m1, fun y n2 u H2 m2 du k2 b2 => ?_⟩⟩
  have dv2 := dv.kw k2.kw
  by_cases hx : ∃ nm fs, x = .ins nm fs
  · obtain ⟨nm, fs, rfl⟩ := hx
    unfold eqIK at m2
    dsimp only at m2
    split at m2
    · rename_i con hc
      obtain ⟨hy, m2⟩ := m2
      refine .inl ⟨B, n2, nm, fs, y, con, _, hc, dv2, du, hy, b2, m2, fun d n' H' ⟨b', e, m3⟩ k3 b3 => ⟨b', e, .inl ?_⟩⟩
      exact q _ _ _ _ m3 (.bl _) ((k1.trans k2).trans k3) b3
    · exact m2.elim
  · have m2' : optK (g x y) fun d => kk d n2 := by
      cases x with
      | ins nm fs => exact absurd ⟨nm, fs, rfl⟩ hx
      | _ => exact m2
    obtain ⟨d, e1, m3⟩ := optK_some m2'
    refine .inr (hd _ _ _ _ _ H2 _ dv2 du e1 fun w H3 dw s3 => ?_)
    exact fin_new (ρ := ρ) (σ := σ) b2 s3 dw m3 fun d n' v H' a1 a2 a3 a4 => q d n' v H' a1 a2 ((k1.trans k2).trans a3) a4
theorem dt_cmpI (hop : op = .Eq ∧ neg = false ∨ op = .NotEq ∧ neg = true) (E : EqAll X.prog X.w X.K X.mg X.base S cons k) (hgd : X.A.guards = some []) (hr : Room (k + 1) X.A) (ho : OpR X (compareOp op) r) (hd : OpD ⟨X.K, S, B⟩ r g) (hm : behindInMarks op b = false)
    (ha : PE X a (tE ⟨X.K, S, B⟩ H0 ε ma)) (hb : PE X b (tE ⟨X.K, S, B⟩ H0 ε mb)) : PT X (.Compare a [op] [b] pos) (tT ⟨X.K, S, B⟩ H0 ε (mBl (mEqI neg cons g ma mb))) := by
  refine imp_pt (pt_cmpR (OpR.or (op_eqI hop E hgd hr) ho) ha hb hm) fun σ H Q ⟨ρ, n, kk, R, m, q⟩ => ?_
  refine ⟨ρ, n, _, R, m, fun x n1 v H1 m1 dv k1 b1 => ⟨ρ, n1, _, R.step k1 b1, m1, fun y n2 u H2 m2 du k2 b2 => ?_⟩⟩
  have dv2 := dv.kw k2.kw
  by_cases hx : ∃ nm fs, x = .ins nm fs
  · obtain ⟨nm, fs, rfl⟩ := hx
    unfold eqIK at m2
    dsimp only at m2
    split at m2
    · rename_i con hc
      obtain ⟨hy, m2⟩ := m2
      refine .inl ⟨B, n2, nm, fs, y, con, _, hc, dv2, du, hy, b2, m2, fun d n' H' ⟨b', e, m3⟩ k3 b3 => ⟨b', e, _, rfl, ?_⟩⟩
      exact q _ _ _ m3 ((k1.trans k2).trans k3) b3
    · exact m2.elim
  · have m2' : optK (g x y) fun d => (match d with | .bl b => kk b n2 | _ => False : Prop) := by
      cases x with
      | ins nm fs => exact absurd ⟨nm, fs, rfl⟩ hx
      | _ => exact m2
    obtain ⟨d, e1, m3⟩ := optK_some m2'
    refine .inr (hd _ _ _ _ _ H2 _ dv2 du e1 fun w H3 dw s3 => ?_)
    rcases dw with dw | ⟨p, u, rfl, _, _, _, _, dw⟩
    · cases dw with
      | bl b => exact ⟨b, rfl, q _ _ _ m3 ((k1.trans k2).trans (Same.ks s3)) (b2.same s3)⟩
      | _ => exact m3.elim
    · cases d with
      | bl b => cases dw default
      | _ => exact m3.elim
end
/-! ### isinstance(e, C), C an own class that is no exception -/
structure IsiC (K : PySem.W.Frag) (C : Addr) : Prop where
  ca : PySem.W.findIn K (.ref C) "__class__" = some (some (.builtin "object.__class__"))
  cn : PySem.W.specialIn K (.builtin "object.__class__") "__get__" = some (some (.builtin "getset_descriptor.__get__"))
  ct : PySem.W.takesIn K (.builtin "object.__class__") = some true
  cm : PySem.W.mroIn K C (.type "object") = some true
structure IsI (K : PySem.W.Frag) (mg : Str → Option Value) (S : Sg) (x : Str) (g : Str → Option Bool) : Prop where
  ex : ∃ C, mg x = some (.ref C) ∧ (∀ t ∈ ["NoneType", "bool", "int", "str", "list", "tuple", "dict"], PySem.W.kitOne K (.type t) (.ref C) = some false) ∧ ∀ D nm b, S.ci D = some nm → g nm = some b → Cls K D ∧ IsiC K D ∧ PySem.W.kitOne K (.ref D) (.ref C) = some b
def mIsI (g : Str → Option Bool) (ma : ME) : ME := fun ε ρ n k => ma ε ρ n fun d n1 => match d with
  | .ins nm _ => (match g nm with
    | some b => k (.bl b) n1
    | none => False)
  | d => (tyD d).isSome = true ∧ k (.bl false) n1
theorem de_isI {X : Cx} {S : Sg} {B : Option (Addr × (Addr × List Int))} {H0 : Hp} {ε : XD} {x : Str} {g : Str → Option Bool} {ma : ME} {e : Expr} {p q pos : Pos} (hm : X.mg "isinstance" = none) (E : IsI X.K X.mg S x g) (he : PE X e (tE ⟨X.K, S, B⟩ H0 ε ma)) (hg : Gl X "isinstance" := by rfl) (hgx : Gl X x := by rfl) (hdx : (x == ("__debug__" : Str)) = false := by decide)
    (s0 : starEach [e, .Name x q] X.env = (false, eval e X.env) :: starEach [.Name x q] X.env := by rfl) (s1 : starEach [.Name x q] X.env = (false, eval (.Name x q) X.env) :: starEach [] X.env := by rfl) (hpl : (backTo pos (starEach [.Name x q] X.env)).any (·.1) = false := by rfl) :
    PE X (.Call (.Name "isinstance" p) [e, .Name x q] [] pos) (tE ⟨X.K, S, B⟩ H0 ε (mIsI g ma)) := by
  obtain ⟨C, h1, h2, h3⟩ := E.ex
  refine imp_pe (pe_callB call_isi hg hm (show bootBuiltins "isinstance" = some (.builtin "isinstance") from by decide +kernel) (pa_cons he (pa_cons (pe_glob (pos := q) hgx h1 (v := .ref C) rfl hdx) pa_nil s1) s0) (by decide) (by decide) s0 hpl) fun σ H Q ⟨ρ, n, k, R, m, q⟩ => ?_
  refine ⟨ρ, n, _, R, m, fun d n1 v H1 m1 dv k1 b1 => ?_⟩
  cases ht : tyD d with
  | some t =>
    obtain ⟨ty, mt⟩ := tyx_of dv ht
    have m2 : k (.bl false) n1 := by
      cases d with
      | ins => cases ht
      | _ => exact m1.2
    exact ⟨_, _, _, _, _, rfl, .own C, ty, h2 _ mt, q _ _ _ _ m2 (.bl _) k1 b1⟩
  | none =>
    cases dv with
    | ins hci hfo hHa hfs =>
      dsimp only at m1
      split at m1
      · rename_i b hb
        obtain ⟨c1, c2, c3⟩ := h3 _ _ _ hci hb
        exact ⟨_, _, _, _, b, rfl, .own C, .base (.ins hHa c1 c2.ca c2.cn c2.ct c2.cm), c3, q _ _ _ _ m1 (.bl _) k1 b1⟩
      · exact m1.elim
    | _ => first | (cases ht; done) | (have z : (none : Option String).isSome = true := m1.1; cases z)
/-- how a method binds -/
def BindM (x qual : Str) (st : Stmt) (ps : List Str) : Prop := ∀ (kV doc pm : Value) (an : Option Addr) (cdv ct : Value) (us : List Value), us.length = ps.length →
  bindArgs (PySem.W.fnOf x qual (defArgs st) (defBody st) (defScope st) .none kV doc pm an cdv ct) ⟨us, []⟩ = pure (ps.zip us)
theorem bindsM {K : PySem.W.Frag} {x qual : Str} {st : Stmt} {ps : List Str} (h : BindM x qual st ps) {kV doc pm : Value} {an : Option Addr} {cdv ct : Value} : Binds K (PySem.W.fnOf x qual (defArgs st) (defBody st) (defScope st) .none kV doc pm an cdv ct) ps [] := L2.Binds.all (h kV doc pm an cdv ct)
end DS
/-! # DataX18: own lists walked in comprehensions, popped, made in pairs; three at once -/
namespace DS
open PySem PySem.Spec PyProof.Rows L2
/-! ### an own list walked in a comprehension -/
def mIterO (i : Nat) : MA := fun _ ρ n k => match ρ[i]? with
  | some (.own _ (.lst xs)) => k xs n
  | some (.val (.lst xs)) => k xs n
  | some (.val (.tup xs)) => k xs n
  | _ => False
def mEnumO (i : Nat) : MA := fun _ ρ n k => match ρ[i]? with
  | some (.own _ (.lst xs)) => k (enumD xs) n
  | some (.val (.lst xs)) => k (enumD xs) n
  | some (.val (.tup xs)) => k (enumD xs) n
  | _ => False
section
variable {X : Cx} {S : Sg} {B : Option (Addr × (Addr × List Int))} {H0 : Hp} {ε : XD} {tg : Expr} {x : Str} {p pos : Pos}
theorem di_seqO (i : Nat) (hN : X.N[i]? = some x := by rfl) (hv : Vis X.env.scope x := by first | exact Or.inl rfl | exact Or.inr (Or.inl rfl) | exact Or.inr (Or.inr rfl)) (hd : (x == ("__debug__" : Str)) = false := by decide) (hcd : (x == ("__classdict__" : Str)) = false := by decide) :
    PI X tg (.Name x p) (tIc ⟨X.K, S, B⟩ H0 ε (mIterO i)) :=
  imp_pi (pi_seq (pe_var hN hv hd hcd)) fun σ H Q ⟨ρ, n, k, R, m, q⟩ => by
    unfold mIterO at m
    split at m
    · rename_i p xs hi
      obtain ⟨s1, _, _, vs, hp, dvs⟩ := R.owns i p _ hi
      exact ⟨_, s1, p, rfl, .inl ⟨vs, .inl (.inl hp), q _ _ _ _ m ⟨.one vs, fun H' => SqL X.K H' p vs, walk_list, fun H' ks => .inl (.inl (ks _ _ hp (.inr (R.owns i p _ hi).2.2.1))), dvs⟩ (Ks.refl _ _) R.box⟩⟩
    · rename_i xs hi
      obtain ⟨v, s1, dv⟩ := R.vals i _ hi
      cases dv with
      | lst f hs => exact ⟨_, s1, _, rfl, .inl ⟨_, f.sq, q _ _ _ _ m (it_list f hs).toC (Ks.refl _ _) R.box⟩⟩
    · rename_i xs hi
      obtain ⟨v, s1, dv⟩ := R.vals i _ hi
      cases dv with
      | tup f hs => exact ⟨_, s1, _, rfl, .inr ⟨_, f, q _ _ _ _ m (it_tup f hs).toC (Ks.refl _ _) R.box⟩⟩
    · exact m.elim
theorem it_twoC {c : Cc} {H : Hp} {J : It} {xs ys : List V} {dx dy : List D} {G : Hp → Prop} {N : Nat} (w : Walk J N G (YPair (fun i => xs[i]?) (fun i => ys[i]?))) (hN : N = min xs.length ys.length) (hG : ∀ H', Ks c H H' → G H') (h1 : DVs c H xs dx) (h2 : DVs c H ys dy) :
    ItOkC c H J (List.zipWith (fun a b => D.tup [a, b]) dx dy) := by
  subst hN
  exact ⟨.two xs ys, G, w, hG, dx, dy, h1, h2, rfl⟩
theorem di_enumO (i : Nat) {elts : List Expr} {kk : Nat} {tpos p2 : Pos} (hm : X.mg "enumerate" = none) (hN : X.N[i]? = some x := by rfl) (hv : Vis X.env.scope x := by first | exact Or.inl rfl | exact Or.inr (Or.inl rfl) | exact Or.inr (Or.inr rfl)) (hd : (x == ("__debug__" : Str)) = false := by decide) (hcd : (x == ("__classdict__" : Str)) = false := by decide)
    (hg : Gl X "enumerate" := by rfl) (hs : starEach [.Name x p2] X.env = (false, eval (.Name x p2) X.env) :: starEach [] X.env := by rfl) (hs2 : starEach [.Name x p2] X.env = [(false, eval (.Name x p2) X.env)] := by rfl) :
    PI X (.Tuple elts kk tpos) (.Call (.Name "enumerate" p) [.Name x p2] [] pos) (tIc ⟨X.K, S, B⟩ H0 ε (mEnumO i)) :=
  imp_pi (pi_enumA hg hm (pa_cons (pe_var hN hv hd hcd) pa_nil hs) hs2) fun σ H Q ⟨ρ, n, k, R, m, q⟩ => by
    have hd : ∀ {xs : List V} {ds : List D}, DVs ⟨X.K, S, B⟩ H xs ds → DVs ⟨X.K, S, B⟩ H ((List.range xs.length).map fun i => V.int (i : Nat)) ((List.range ds.length).map fun i => D.int (i : Nat)) := fun {xs ds} hf => by
      rw [hf.length]
      have := dvs_ints (c := ⟨X.K, S, B⟩) (H := H) ((List.range ds.length).map fun (i : Nat) => (i : Int))
      rw [List.map_map, List.map_map] at this
      exact this
    have wl : ∀ {a : Addr} {xs : List V}, Walk (Ite X.K a) xs.length (fun H => SqL X.K H a xs) (YPair (fun i => ((List.range xs.length).map fun i => V.int (i : Nat))[i]?) (fun i => xs[i]?)) := fun {a xs} => by
      have e : ∀ i : Nat, i < xs.length → (((List.range xs.length).map fun i => V.int (i : Nat))[i]?) = some (.int (i : Nat)) := fun i hi => by rw [List.getElem?_map, List.getElem?_range hi]; rfl
      exact (walk_enum (K := X.K) (a := a) (xs := xs)).mono (Y' := YPair (fun i => ((List.range xs.length).map fun i => V.int (i : Nat))[i]?) (fun i => xs[i]?)) (fun _ z => z) fun i H x H' hi _ y => by
        obtain ⟨T, x1, y1, h1, h2, h3, h4, h5⟩ := y
        exact ⟨T, x1, y1, h1, h2, h3, (e i hi).trans h4, h5⟩
    unfold mEnumO at m
    split at m
    · rename_i p xs hi
      obtain ⟨s1, _, _, vs, hp, dvs⟩ := R.owns i p _ hi
      exact ⟨_, s1, p, vs, rfl, .inl ⟨.inl (.inl hp), q _ _ _ _ m (it_twoC wl (by simp) (fun H' ks => .inl (.inl (ks _ _ hp (.inr (R.owns i p _ hi).2.2.1)))) (hd dvs) dvs) (Ks.refl _ _) R.box⟩⟩
    · rename_i xs hi
      obtain ⟨v, s1, dv⟩ := R.vals i _ hi
      cases dv with
      | lst f hs => exact ⟨_, s1, _, _, rfl, .inl ⟨f.sq, q _ _ _ _ m (it_twoC wl (by simp) (fun H' ks => (f.kw ks.kw).sq) (hd hs) hs) (Ks.refl _ _) R.box⟩⟩
    · rename_i xs hi
      obtain ⟨v, s1, dv⟩ := R.vals i _ hi
      cases dv with
      | tup f hs => exact ⟨_, s1, _, _, rfl, .inr ⟨f, q _ _ _ _ m (it_twoC walk_enumT (by simp) (fun H' ks => sqt_kw ks.kw f) (hd hs) hs) (Ks.refl _ _) R.box⟩⟩
    · exact m.elim
end
/-! ### y = x.pop(e), x one's own -/
def mPopO (j i : Nat) (ma : ME) : MS := fun ε ρ n P => match ρ[i]? with
  | some (.own p (.lst xs)) => ma ε ρ n fun d n1 => match d with
    | .int a => (-(2 ^ 63) ≤ a ∧ a < 2 ^ 63) ∧ optK (ixN xs.length a) fun k => optK xs[k]? fun y => P.nx ((ρ.set i (.own p (.lst (xs.eraseIdx k)))).set j (.val y)) n1
    | _ => False
  | _ => False
theorem DVs.eraseIdx {c : Cc} {H : Hp} : ∀ {vs : List V} {ds : List D} (k : Nat), DVs c H vs ds → DVs c H (vs.eraseIdx k) (ds.eraseIdx k)
  | _, _, _, .nil => .nil
  | _, _, 0, .cons _ h => h
  | _, _, k + 1, .cons a h => .cons a (DVs.eraseIdx k h)
section
variable {X : Cx} {c : Cc} {H0 : Hp} {ε : XD} {e : Expr} {ma : ME}
theorem ds_popO (j i : Nat) {x y : Str} {p apos cpos spos pos' : Pos} (hnd : X.N.Nodup) (he : PE X e (tE c H0 ε ma)) (hN : X.N[i]? = some x := by rfl) (hv : Vis X.env.scope x := by first | exact Or.inl rfl | exact Or.inr (Or.inl rfl) | exact Or.inr (Or.inr rfl)) (hd : (x == ("__debug__" : Str)) = false := by decide) (hcd : (x == ("__classdict__" : Str)) = false := by decide)
    (hj : X.N[j]? = some y := by rfl) (hy : Loc X.env.scope y := by first | exact Or.inl rfl | exact Or.inr rfl)
    (hbase : attributeBase (.Name x p) "pop" X.env (eval (.Name x p) X.env) = eval (.Name x p) X.env := by rfl)
    (hfew : ((backTo cpos (starEach [e] X.env)).all (fun x => !x.1) && (backToKw cpos (keywordEach [] X.env)).all (fun x => x.1.isSome)
      && decide ([e].length + ([] : List Keyword).length + (if ([] : List Keyword).isEmpty then 0 else 1) < 30)) = true := by rfl)
    (hline : (apos.endLine == cpos.line) = true := by rfl) (hs0 : starEach [e] X.env = (false, eval e X.env) :: starEach [] X.env := by rfl) (hplain : (backTo cpos (starEach [] X.env)).any (·.1) = false := by rfl)
    (hs : swapsWith (.Call (.Attribute (.Name x p) "pop" apos) [e] [] cpos) (some (.Name y pos')) spos.line X.env = pure false := by rfl) (hf : X.fn y = true ∨ X.env.scope.names.lookup y = some .local := by first | exact .inl rfl | exact .inr rfl) :
    PS X (.Assign [.Name y pos'] (.Call (.Attribute (.Name x p) "pop" apos) [e] [] cpos) spos) (tS c H0 ε (mPopO j i ma)) :=
  imp_ps (ps_set hnd hj hy (pe_bm PySem.F.plainAttrs_list PySem.F.slot_list_pop PySem.F.type_list_pop mt_popAt (pe_var hN hv hd hcd) (pa_cons he pa_nil hs0) hbase hfew hline hs0 hplain) hs hf) fun De σ H ⟨ρ, n, P, R, m, h1, _⟩ => by
    unfold mPopO at m
    split at m
    · rename_i p xs hi
      obtain ⟨s1, _, _, vs0, hp0, _⟩ := R.owns i p _ hi
      refine ⟨_, s1, .inl ⟨rfl, _, .inl (.inl hp0)⟩, ρ, n, _, R, m, fun d n1 v H1 m1 dv k1 b1 => ?_⟩
      have R1 := R.step k1 b1
      obtain ⟨_, _, _, vs, hp, dvs⟩ := R1.owns i p _ hi
      cases d with
      | int a =>
        cases opd_int dv
        obtain ⟨⟨a0, a1⟩, m2⟩ := m1
        obtain ⟨k, e1, m3⟩ := optK_some m2
        obtain ⟨y, e2, m4⟩ := optK_some m3
        obtain ⟨v, e3, dy⟩ := dvs.getD e2
        obtain ⟨R3, kw⟩ := R1.reown hi (DVs.eraseIdx k dvs)
        refine ⟨p, vs, a, k, v, rfl, rfl, hp, a0, a1, (ixN_seq (by rw [dvs.length]; exact e1)).1, e3, ?_⟩
        exact h1 _ _ _ _ m4 (R3.set (dy.kw kw)) (k1.kw.trans kw)
      | _ => exact m1.elim
    · exact m.elim
/-! ### pairs, three at once -/
def mPar3 (i j l : Nat) (ma : MA) : MS := fun ε ρ n P => ma ε ρ n fun ds n1 => match ds with
  | [x, y, z] => P.nx (((ρ.set i (.val x)).set j (.val y)).set l (.val z)) n1
  | _ => False
theorem ds_par3 (i j l : Nat) {x y z : Str} {a b e : Expr} {ms : MA} {px py pz pt pos : Pos} {kt k2 pt2} (hc : X.calm = true) (hN : X.N.Nodup) (hi : X.N[i]? = some x) (hj : X.N[j]? = some y) (hl : X.N[l]? = some z) (hij : i ≠ j) (hil : i ≠ l) (hjl : j ≠ l)
    (hx : X.env.scope.names.lookup x = some .local) (hy : X.env.scope.names.lookup y = some .local) (hz : X.env.scope.names.lookup z = some .local) (ha : PA X [a, b, e] (tA c H0 ε ms))
    (hw : swappedStores [.Tuple [.Name x px, .Name y py, .Name z pz] kt pt] (.Tuple [a, b, e] k2 pt2) X.env = pure (some [x, y, z]))
    (hs : swapsWithSole [.Tuple [.Name x px, .Name y py, .Name z pz] kt pt] (.Tuple [a, b, e] k2 pt2) pos.line X.env = pure false := by rfl) :
    PS X (.Assign [.Tuple [.Name x px, .Name y py, .Name z pz] kt pt] (.Tuple [a, b, e] k2 pt2) pos) (tS c H0 ε (mPar3 i j l ms)) :=
  imp_ps (ps_par3 hc hN hi hj hl hij hil hjl hx hy hz ha hw hs) fun De σ H ⟨ρ, n, P, R, m, h1, _⟩ => ⟨ρ, n, _, R, m, fun ds n1 vs H1 m1 dv k1 b1 => by
    match ds, m1, dv with
    | [d, d', d2], m1, .cons h2 (.cons h3 (.cons h4 .nil)) => exact ⟨_, _, _, rfl, h1 _ _ _ _ m1 ((((R.step k1 b1).set h2).set h3).set h4) k1.kw⟩⟩
/-- an expression whose value is a new list -/
theorem dn_args {es : List Expr} {mr : MA} {r : List V → Hp → VK → Prop} {g : List D → Option D} (h : ∀ {t}, PA X es t → PE X e (tCB r t)) (hd : CallO c r g) (hz : ∀ ds d, g ds = some d → ∃ zs, d = .lst zs) (ha : PA X es (tA c H0 ε mr)) : PE X e (tNew c H0 ε (mArgs g mr)) :=
  imp_pe (h ha) fun σ H Q ⟨ρ, n, k, R, m, q⟩ => ⟨ρ, n, _, R, m, fun ds n1 vs H1 m1 dvs k1 b1 => by
    obtain ⟨d, e1, m2⟩ := optK_some m1
    obtain ⟨zs, rfl⟩ := hz _ _ e1
    refine hd _ _ _ _ _ dvs e1 fun p ws H2 hp e2 dw sm => ?_
    have R1 := R.step k1 b1
    exact q _ _ _ _ _ m2 (R1.apart hp) e2 dw (k1.trans (Same.ks sm)) (b1.same sm)⟩
theorem z_lst : ∀ ds d, lstD ds = some d → ∃ zs, d = .lst zs := fun ds d e => by
  unfold lstD at e
  split at e
  · cases e; exact ⟨_, rfl⟩
  · cases e
theorem z_list : ∀ ds d, listD ds = some d → ∃ zs, d = .lst zs := fun ds d e => by
  unfold listD at e
  split at e
  · cases e; exact ⟨_, rfl⟩
  · cases e; exact ⟨_, rfl⟩
  · cases e
theorem dn_lst {es : List Expr} {mr : MA} {pos : Pos} (ha : PA X es (tA c H0 ε mr)) : PE X (.List es pos) (tNew c H0 ε (mArgs lstD mr)) := dn_args (fun h => pe_lst h) co_lst z_lst ha
theorem dn_lc {tg iter elt : Expr} {ifs : List Expr} {scope : Scope} {own : List (Str × Nat)} {pos : Pos} {mi : MA} {g : GF} {ts vs : List Nat} {tt : MT} {te : ME} (hc : X.calm = true) (hN : X.N.Nodup) (hi : PI X tg iter (tIc c H0 ε mi)) (ok : BlkOk X.N X.env.scope scope own) (hvs : own.map (·.2) = vs) (hts : ∀ i ∈ ts, i ∈ vs)
    (hg : ∀ (s : Shared) (H : Hp) (C : Addr) (cl : List (Str × Addr)) (fp : List Addr), PG (X.blk s H scope (compEnvC scope cl C X.env) fp) tg (tG c H0 ts g)) (ht : ∀ (s : Shared) (H : Hp) (C : Addr) (cl : List (Str × Addr)) (fp : List Addr), PTs (X.blk s H scope (compEnvC scope cl C X.env) fp) ifs (tT c H0 noX tt))
    (he : ∀ (s : Shared) (H : Hp) (C : Addr) (cl : List (Str × Addr)) (fp : List Addr), PE (X.blk s H scope (compEnvC scope cl C X.env) fp) elt (tE c H0 noX te)) (hs : ∀ x, foldedSetIterable iter X.env x = pure x := by intro _; rfl) :
    PE X (.ListComp elt [⟨tg, iter, ifs, 0⟩] scope pos) (tNew c H0 ε (mLc mi g vs tt te)) := by
  subst hvs
  exact imp_pe (pe_lc hc hN hi ok hg ht he hs) fun σ H Q h => lc_readO hts σ H Q h
/-- d kept as one's own if b -/
def setK (b : Bool) (i : Nat) (d : D) (ρ : Ev) (q : Ev → Prop) : Prop := match b with
  | true => (match d with
    | .lst xs => ∀ p, q (ρ.set i (.own p (.lst xs)))
    | _ => False)
  | false => q (ρ.set i (.val d))
/-- x, y = a, b: one of them kept as one's own -/
def mParO (b1 b2 : Bool) (i j : Nat) (ma mb : ME) : MS := fun ε ρ n P => ma ε ρ n fun d n1 => mb ε ρ n1 fun d' n2 => setK b1 i d ρ fun ρ1 => setK b2 j d' ρ1 fun ρ2 => P.nx ρ2 n2
theorem ds_parO1 (i j : Nat) {x y : Str} {a b : Expr} {ma mb : ME} {px py pt pos : Pos} {kt k2 pt2} (hc : X.calm = true) (hN : X.N.Nodup) (hi : X.N[i]? = some x) (hj : X.N[j]? = some y) (hij : i ≠ j) (hx : X.env.scope.names.lookup x = some .local) (hy : X.env.scope.names.lookup y = some .local)
    (ha : PE X a (tNew c H0 ε ma)) (hb : PE X b (tE c H0 ε mb)) (hw : swappedStores [.Tuple [.Name x px, .Name y py] kt pt] (.Tuple [a, b] k2 pt2) X.env = pure (some [x, y]))
    (hs : swapsWithSole [.Tuple [.Name x px, .Name y py] kt pt] (.Tuple [a, b] k2 pt2) pos.line X.env = pure false := by rfl)
    (e1 : starEach [a, b] X.env = (false, eval a X.env) :: starEach [b] X.env := by rfl) (e2 : starEach [b] X.env = (false, eval b X.env) :: starEach [] X.env := by rfl) :
    PS X (.Assign [.Tuple [.Name x px, .Name y py] kt pt] (.Tuple [a, b] k2 pt2) pos) (tS c H0 ε (mParO true false i j ma mb)) :=
  imp_ps (ps_par hc hN hi hj hij hx hy (pa_cons ha (pa_cons hb pa_nil e2) e1) hw hs) fun De σ H ⟨ρ, n, P, R, m, h1, _⟩ => by
    refine ⟨ρ, n, _, R, m, fun xs n1 p vs H1 m1 ap hp dvs k1 b1 => ?_⟩
    have R1 := R.step k1 b1
    refine ⟨ρ, n1, _, R1, m1, fun d n2 v H2 m2 dv k2 b2 => ⟨_, _, rfl, ?_⟩⟩
    have hp2 := k2 _ _ hp (.inr ap.2.1)
    exact h1 _ _ _ _ (m2 p) (((R1.step k2 b2).setO i (xs := .lst xs) ap ⟨_, hp2, dvs.kw k2.kw⟩).set dv) (k1.trans k2).kw
theorem ds_parO2 (i j : Nat) {x y : Str} {a b : Expr} {ma mb : ME} {px py pt pos : Pos} {kt k2 pt2} (hc : X.calm = true) (hN : X.N.Nodup) (hi : X.N[i]? = some x) (hj : X.N[j]? = some y) (hij : i ≠ j) (hx : X.env.scope.names.lookup x = some .local) (hy : X.env.scope.names.lookup y = some .local)
    (ha : PE X a (tE c H0 ε ma)) (hb : PE X b (tNew c H0 ε mb)) (hw : swappedStores [.Tuple [.Name x px, .Name y py] kt pt] (.Tuple [a, b] k2 pt2) X.env = pure (some [x, y]))
    (hs : swapsWithSole [.Tuple [.Name x px, .Name y py] kt pt] (.Tuple [a, b] k2 pt2) pos.line X.env = pure false := by rfl)
    (e1 : starEach [a, b] X.env = (false, eval a X.env) :: starEach [b] X.env := by rfl) (e2 : starEach [b] X.env = (false, eval b X.env) :: starEach [] X.env := by rfl) :
    PS X (.Assign [.Tuple [.Name x px, .Name y py] kt pt] (.Tuple [a, b] k2 pt2) pos) (tS c H0 ε (mParO false true i j ma mb)) :=
  imp_ps (ps_par hc hN hi hj hij hx hy (pa_cons ha (pa_cons hb pa_nil e2) e1) hw hs) fun De σ H ⟨ρ, n, P, R, m, h1, _⟩ => by
    refine ⟨ρ, n, _, R, m, fun d n1 v H1 m1 dv k1 b1 => ?_⟩
    have R1 := R.step k1 b1
    refine ⟨ρ, n1, _, R1, m1, fun xs n2 p vs H2 m2 ap hp dvs k2 b2 => ⟨_, _, rfl, ?_⟩⟩
    have R2 := (R1.step k2 b2).set (i := i) (dv.kw k2.kw)
    have ap2 : Apart c H0 (ρ.set i (.val d)) p := ⟨ap.1, ap.2.1, fun l q ys e => by
      by_cases z : i = l
      · subst z
        have hl : i < ρ.length := by have := (List.getElem?_eq_some_iff.mp e).1; simpa using this
        rw [List.getElem?_set_self hl] at e
        cases e
      · rw [List.getElem?_set_ne z] at e
        exact ap.2.2 l q ys e⟩
    exact h1 _ _ _ _ (m2 p) (R2.setO j (xs := .lst xs) ap2 ⟨_, hp, dvs⟩) (k1.trans k2).kw
end
end DS
/-! # DataX19: a tuple times an int from 1 on -/
namespace DS
open PySem PySem.Spec PyProof.Rows L2
theorem tuple_mul1 (l : Addr) (items : Array Value) (n : Nat) (dd : Option Addr) (sl : Array (Option Value)) (u : Tok) :
    Meets (Builtin.«tuple.__mul__» ⟨[.ref l, .int 1 u], []⟩) (fun _ R s => s.heap.get? l = some { cls := .type "tuple", dict := dd, data := .seq items n, slots := sl } ∧ R (.ok (.ret (Value.ref l))) s) :=
  .of_wp fun prog w A R s h => by
    obtain ⟨hp, g, d, tk, os⟩ := s
    obtain ⟨hl, h⟩ := h
    have f1 := AutoSeq1.idx_int
    wp_walk using wpAny_loadPart' hl
    repeat (first
      | (refine wpAny_ite_false (decide_eq_false (by decide)) ?_; wp_walk using wpAny_loadPart' hl)
      | (refine wpAny_ite_true (decide_eq_true (by rw [Bool.or_eq_true]; exact Or.inr rfl)) ?_; wp_walk using wpAny_loadPart' hl))
    all_goals first | exact ⟨_, rfl, h⟩ | skip
def rRepT1 (K : PySem.W.Frag) : R2 := fun x y H Q => ∃ l xs, x = .ref l ∧ y = .int 1 ∧ SqT K H l xs ∧ Q (.ref l) H
theorem op_repT1 {X : Cx} : OpR X (binaryOp .Mult) (rRepT1 X.K) := by
  intro pins s σ H x y v u Q I rx ry h
  obtain ⟨l, xs, rfl, rfl, hT, q⟩ := h
  cases rx
  obtain ⟨t, rfl⟩ := ry
  obtain ⟨its, r, ⟨⟨cls, dd, data, sl⟩, ho, hc, n, hd⟩, hs⟩ := I.tuple hT
  simp only at hc hd
  subst hc hd
  exact wpAny_binaryOp_repeat_ref (T := "tuple") (U := "int") (by decide) ⟨_, ho, rfl⟩ (fun s' => typeIs_int s' 1 t) noFill_tuple_mul PySem.F.fills_int_mul PySem.F.slot_int_rmul repeat_tuple PySem.F.slot_int_index.lookup
    (call_meets PySem.F.slot_int_rmul (typeIs_int s 1 t) PySem.F.entry_int_rmul (PySem.F.args_int_rmul_2 _ _) (int_rmul_tuple 1 t l its.toArray n dd sl)
      ⟨ho, rfl, ⟨_, ho, rfl⟩, call_meets PySem.F.slot_tuple_mul ⟨_, ho, rfl⟩ PySem.F.entry_tuple_mul (PySem.F.args_tuple_mul_2 _ _) (tuple_mul1 l its.toArray n dd sl t) ⟨ho, .ref l, H, I, rfl, q⟩⟩)
def mulT (x y : D) : Option D := match x, y with
  | .tup xs, .int k => if 1 ≤ k ∧ k ≤ 1000 ∧ 1 ≤ xs.length ∧ xs.length ≤ 1000 then some (.tup (List.replicate k.toNat xs).flatten) else none
  | x, y => mulD x y
section
variable {X : Cx} {c : Cc}
theorem oo_mulT : OpR X (binaryOp .Mult) (fun x y H Q => rMulA X.K x y H Q ∨ (rRepT1 X.K x y H Q ∨ rRepT X.K x y H Q)) := OpR.or oo_mul (OpR.or op_repT1 op_repT)
theorem od_mulT : OpD c (fun x y H Q => rMulA c.K x y H Q ∨ (rRepT1 c.K x y H Q ∨ rRepT c.K x y H Q)) mulT := by
  intro x y dx dy d H Q hx hy e k
  unfold mulT at e
  split at e
  · rename_i xs j
    split at e
    · rename_i hc
      cases e
      obtain ⟨a, vs, rfl, f, hs⟩ := opd_tup hx
      cases opd_int hy
      by_cases h1 : j = 1
      · subst h1
        refine .inr (.inl ⟨a, vs, rfl, rfl, f, k _ _ (.inl ?_) (same_refl H)⟩)
        rw [show (List.replicate (Int.toNat 1) xs).flatten = xs by simp]
        exact .tup f hs
      · refine .inr (.inr ⟨a, j, vs, rfl, rfl, f, fun z => ?_, by omega, hc.2.1, by rw [hs.length]; exact hc.2.2.2, fun p hp => ?_⟩)
        · have := hs.length; rw [z] at this; simp at this; omega
        · have sm := same_new (o := .tup (List.replicate j.toNat vs).flatten) hp
          exact k _ _ (.inl (.tup (.inl (.inl upd_same)) ((hs.rep _).kw (Same.ks sm).kw))) sm
    · cases e
  · exact .inl (od_mul _ _ _ _ _ H _ hx hy e k)
end
end DS
/-! # DataX20: an own list read whole in a test -/
namespace DS
open PySem PySem.Spec PyProof.Rows L2
/-- a test that reads the own list of slot i whole -/
def mBorT (i : Nat) (mt : MT) : MT := fun ε ρ n q => match ρ[i]? with
  | some (.own _ (.lst xs)) => mt ε (ρ.set i (.val (.lst xs))) n q
  | _ => mt ε ρ n q
theorem box_unl {c : Cc} {n : Nat} {H' : Hp} {p : Addr} {o : Obj} {vs : List V} (h : BoxAt c n H') (hp : H' p = some (.frz o (.lst vs))) (hb : OffB c p) (hc : ∀ b cl, c.B = some (b, cl) → cl.1 ≠ p) : BoxAt c n (L2.upd H' p (.lst vs)) := ⟨fun b cl e => by
  obtain ⟨lap, rest, h1, h2, h3⟩ := h.bx b cl e
  have nb : b ≠ p := fun z => hb.1 cl (by rw [← z]; exact e)
  refine ⟨lap, rest, by rw [upd_ne nb]; exact h1, ?_, h3⟩
  rcases h2 with ⟨o2, h2⟩ | h2
  · exact .inl ⟨o2, by rw [upd_ne (hc b cl e)]; exact h2⟩
  · exact .inr h2, fun q hq => by
  obtain ⟨ps, h1, h2, h3⟩ := h.tb q hq
  have ne : ∀ {a : Addr} {u : HO}, H' a = some u → (∀ o' u', u ≠ .frz o' u') → a ≠ p := fun e n z => by
    rw [z, hp] at e; cases e; exact n _ _ rfl
  refine ⟨ps, by rw [upd_ne (ne h1 (fun _ _ => nofun))]; exact h1, h2, fun pos cv hcv => ?_⟩
  obtain ⟨a, e1, e2⟩ := h3 pos cv hcv
  exact ⟨a, e1, by rw [upd_ne (ne e2 (fun _ _ => nofun))]; exact e2⟩⟩
section
variable {X : Cx} {c : Cc} {H0 : Hp} {ε : XD} {e : Expr}
theorem dt_bor (i : Nat) {mt : MT} (h : PT X e (tT c H0 ε mt)) (hK : c.K = X.K := by rfl) : PT X e (tT c H0 ε (mBorT i mt)) := by
  refine ⟨fun pins s σ H Q I ⟨ρ, n, k, R, m, q⟩ => ?_⟩
  unfold mBorT at m
  split at m
  · rename_i p xs hi
    obtain ⟨_, h0, hb, vs, hp, dvs⟩ := R.owns i p _ hi
    have hn := I.nofrz hp True.intro
    obtain ⟨o, I2⟩ := I.lock hp True.intro
    obtain ⟨R2, kw⟩ := R.lockO (o := o) hi hp dvs
    have hc : ∀ b cl, c.B = some (b, cl) → cl.1 ≠ p := fun b cl eb z => by
      obtain ⟨_, _, _, h2, _⟩ := R.box.bx b cl eb
      rw [z] at h2
      rcases h2 with ⟨o2, h2⟩ | ⟨its, m2, h2, _⟩
      · rw [hp] at h2; cases h2
      · have b1 := I.ok.mod.kin p _ (hK ▸ h2)
        have := (I.bs p _ b1).2
        rw [hp] at this; cases this
    refine wpAny_mono (h.run pins s σ _ (fun b H' => ∃ n', k b n' ∧ Ks c (L2.upd H p (.frz o (.lst vs))) H' ∧ BoxAt c n' H') I2 ⟨_, n, k, R2, m, fun b n' H' a1 a2 a3 => ⟨n', a1, a2, a3⟩⟩) (fun b s' hq => ?_) fun _ _ z => z
    obtain ⟨H', I3, n', a1, a2, a3⟩ := hq
    have hp' : H' p = some (.frz o (.lst vs)) := a2 p _ upd_same (.inl True.intro)
    refine ⟨L2.upd H' p (.lst vs), I3.unlock hp' hn, q b n' _ a1 (fun a u ha hs => ?_) (box_unl a3 hp' hb hc)⟩
    by_cases z : a = p
    · subst z; rw [upd_same]; rw [hp] at ha; exact ha
    · rw [upd_ne z]; exact a2 a u (by rw [upd_ne z]; exact ha) hs
  · exact h.run pins s σ H Q I ⟨ρ, n, k, R, m, q⟩
end
theorem i_bor {i : Nat} {p : Addr} {xs : List D} {mt : MT} {ε : XD} {ρ : Ev} {n : Nat} {q : Bool → Nat → Prop} (e : ρ[i]? = some (.own p (.lst xs))) (h : mt ε (ρ.set i (.val (.lst xs))) n q) : mBorT i mt ε ρ n q := by
  unfold mBorT; rw [e]; exact h
end DS
namespace K15
open PySem PySem.Spec PyProof.Rows L2 DS
def top (i : Nat) : Stmt := PySem.Challenge.pw_ropesays_k15_spaces_turned.main.body.getD i (.Pass ⟨0, 0, 0, 0⟩)
abbrev s_Space___eq__ : Stmt := inClass (top 35) 2
theorem sc_Space___eq__ : FnScope [("self" : Str), ("other" : Str)] [("self" : Str), ("other" : Str)] (defScope s_Space___eq__) := ⟨rfl, rfl, rfl, by decide +kernel, rfl, by decide +kernel, by decide +kernel⟩
def l_Space___eq__ : Scope := ⟨.function, [(("self" : Str), .local), (("other" : Str), .local), (("isinstance" : Str), .globalImplicit), (("Space" : Str), .globalImplicit)], false, false, []⟩
theorem le_Space___eq__ : defScope s_Space___eq__ = l_Space___eq__ := rfl
theorem b_Space___eq__ : BindM "__eq__" "Space.__eq__" s_Space___eq__ [("self" : Str), ("other" : Str)] := fun _ _ _ _ _ _ us hl => match us, hl with | [_, _], _ => rfl
abbrev s_is_integer : Stmt := top 9
theorem sc_is_integer : FnScope [("value" : Str)] [("value" : Str)] (defScope s_is_integer) := ⟨rfl, rfl, rfl, by decide +kernel, rfl, by decide +kernel, by decide +kernel⟩
def l_is_integer : Scope := ⟨.function, [(("value" : Str), .local), (("isinstance" : Str), .globalImplicit), (("int" : Str), .globalImplicit), (("bool" : Str), .globalImplicit)], false, false, []⟩
theorem le_is_integer : defScope s_is_integer = l_is_integer := rfl
theorem b_is_integer : BindA "is_integer" s_is_integer [("value" : Str)] := fun _ _ _ _ _ _ us hl => match us, hl with | [_], _ => rfl
abbrev s_is_within : Stmt := top 10
theorem sc_is_within : FnScope [("value" : Str), ("least" : Str), ("most" : Str)] [("value" : Str), ("least" : Str), ("most" : Str)] (defScope s_is_within) := ⟨rfl, rfl, rfl, by decide +kernel, rfl, by decide +kernel, by decide +kernel⟩
def l_is_within : Scope := ⟨.function, [(("value" : Str), .local), (("least" : Str), .local), (("most" : Str), .local), (("is_integer" : Str), .globalImplicit)], false, false, []⟩
theorem le_is_within : defScope s_is_within = l_is_within := rfl
theorem b_is_within : BindA "is_within" s_is_within [("value" : Str), ("least" : Str), ("most" : Str)] := fun _ _ _ _ _ _ us hl => match us, hl with | [_, _, _], _ => rfl
abbrev s_is_clock : Stmt := top 11
theorem sc_is_clock : FnScope [("value" : Str)] [("value" : Str)] (defScope s_is_clock) := ⟨rfl, rfl, rfl, by decide +kernel, rfl, by decide +kernel, by decide +kernel⟩
def l_is_clock : Scope := ⟨.function, [(("value" : Str), .local), (("is_integer" : Str), .globalImplicit), (("CLOCKS" : Str), .globalImplicit)], false, false, []⟩
theorem le_is_clock : defScope s_is_clock = l_is_clock := rfl
theorem b_is_clock : BindA "is_clock" s_is_clock [("value" : Str)] := fun _ _ _ _ _ _ us hl => match us, hl with | [_], _ => rfl
abbrev s_is_row : Stmt := top 12
theorem sc_is_row : FnScope [("value" : Str), ("clock" : Str), ("size" : Str), ("each" : Str)] [("value" : Str), ("clock" : Str), ("size" : Str)] (defScope s_is_row) := ⟨rfl, rfl, rfl, by decide +kernel, rfl, by decide +kernel, by decide +kernel⟩
def l_is_row : Scope := ⟨.function, [(("value" : Str), .local), (("clock" : Str), .cell), (("size" : Str), .local), (("isinstance" : Str), .globalImplicit), (("list" : Str), .globalImplicit), (("tuple" : Str), .globalImplicit), (("len" : Str), .globalImplicit), (("all" : Str), .globalImplicit)], false, false, [(("fast" : Str), .str ("value" : Str)), (("fast" : Str), .str ("clock" : Str)), (("fast" : Str), .str ("size" : Str)), (("fast" : Str), .str ("each" : Str))]⟩
theorem le_is_row : defScope s_is_row = l_is_row := rfl
theorem bk_is_row_0 : BlkOk [("value" : Str), ("clock" : Str), ("size" : Str), ("each" : Str)] l_is_row ⟨.function, [((".0" : Str), .local), (("each" : Str), .local), (("is_within" : Str), .globalImplicit), (("clock" : Str), .free)], false, false, []⟩ [(("each" : Str), 3)] := ⟨rfl, by decide +kernel, by decide +kernel, by decide +kernel, by decide +kernel⟩
theorem b_is_row : BindA "is_row" s_is_row [("value" : Str), ("clock" : Str), ("size" : Str)] := fun _ _ _ _ _ _ us hl => match us, hl with | [_, _, _], _ => rfl
abbrev s_need_number : Stmt := top 13
theorem sc_need_number : FnScope [("value" : Str), ("part" : Str), ("least" : Str), ("most" : Str)] [("value" : Str), ("part" : Str), ("least" : Str), ("most" : Str)] (defScope s_need_number) := ⟨rfl, rfl, rfl, by decide +kernel, rfl, by decide +kernel, by decide +kernel⟩
def l_need_number : Scope := ⟨.function, [(("value" : Str), .local), (("part" : Str), .local), (("least" : Str), .local), (("most" : Str), .local), (("is_within" : Str), .globalImplicit), (("BadNumber" : Str), .globalImplicit)], false, false, []⟩
theorem le_need_number : defScope s_need_number = l_need_number := rfl
theorem b_need_number : BindA "need_number" s_need_number [("value" : Str), ("part" : Str), ("least" : Str), ("most" : Str)] := fun _ _ _ _ _ _ us hl => match us, hl with | [_, _, _, _], _ => rfl
abbrev s_need_clock : Stmt := top 14
theorem sc_need_clock : FnScope [("value" : Str)] [("value" : Str)] (defScope s_need_clock) := ⟨rfl, rfl, rfl, by decide +kernel, rfl, by decide +kernel, by decide +kernel⟩
def l_need_clock : Scope := ⟨.function, [(("value" : Str), .local), (("is_clock" : Str), .globalImplicit), (("BadClock" : Str), .globalImplicit)], false, false, []⟩
theorem le_need_clock : defScope s_need_clock = l_need_clock := rfl
theorem b_need_clock : BindA "need_clock" s_need_clock [("value" : Str)] := fun _ _ _ _ _ _ us hl => match us, hl with | [_], _ => rfl
abbrev s_inverse_in : Stmt := top 17
theorem sc_inverse_in : FnScope [("clock" : Str), ("number" : Str), ("found" : Str)] [("clock" : Str), ("number" : Str)] (defScope s_inverse_in) := ⟨rfl, rfl, rfl, by decide +kernel, rfl, by decide +kernel, by decide +kernel⟩
def l_inverse_in : Scope := ⟨.function, [(("clock" : Str), .local), (("number" : Str), .local), (("found" : Str), .local)], false, false, []⟩
theorem le_inverse_in : defScope s_inverse_in = l_inverse_in := rfl
theorem b_inverse_in : BindA "inverse_in" s_inverse_in [("clock" : Str), ("number" : Str)] := fun _ _ _ _ _ _ us hl => match us, hl with | [_, _], _ => rfl
abbrev s_times_in : Stmt := top 18
theorem sc_times_in : FnScope [("clock" : Str), ("number" : Str), ("row" : Str), ("each" : Str)] [("clock" : Str), ("number" : Str), ("row" : Str)] (defScope s_times_in) := ⟨rfl, rfl, rfl, by decide +kernel, rfl, by decide +kernel, by decide +kernel⟩
def l_times_in : Scope := ⟨.function, [(("clock" : Str), .cell), (("number" : Str), .cell), (("row" : Str), .local), (("tuple" : Str), .globalImplicit)], false, false, [(("fast" : Str), .str ("clock" : Str)), (("fast" : Str), .str ("number" : Str)), (("fast" : Str), .str ("row" : Str)), (("fast" : Str), .str ("each" : Str))]⟩
theorem le_times_in : defScope s_times_in = l_times_in := rfl
theorem bk_times_in_0 : BlkOk [("clock" : Str), ("number" : Str), ("row" : Str), ("each" : Str)] l_times_in ⟨.function, [((".0" : Str), .local), (("each" : Str), .local), (("clock" : Str), .free), (("number" : Str), .free)], false, false, []⟩ [(("each" : Str), 3)] := ⟨rfl, by decide +kernel, by decide +kernel, by decide +kernel, by decide +kernel⟩
theorem b_times_in : BindA "times_in" s_times_in [("clock" : Str), ("number" : Str), ("row" : Str)] := fun _ _ _ _ _ _ us hl => match us, hl with | [_, _, _], _ => rfl
abbrev s_lead_of : Stmt := top 27
theorem sc_lead_of : FnScope [("row" : Str), ("at" : Str), ("number" : Str)] [("row" : Str)] (defScope s_lead_of) := ⟨rfl, rfl, rfl, by decide +kernel, rfl, by decide +kernel, by decide +kernel⟩
def l_lead_of : Scope := ⟨.function, [(("row" : Str), .local), (("at" : Str), .local), (("number" : Str), .local), (("enumerate" : Str), .globalImplicit)], false, false, []⟩
theorem le_lead_of : defScope s_lead_of = l_lead_of := rfl
theorem b_lead_of : BindA "lead_of" s_lead_of [("row" : Str)] := fun _ _ _ _ _ _ us hl => match us, hl with | [_], _ => rfl
abbrev s_cleared : Stmt := top 28
theorem sc_cleared : FnScope [("clock" : Str), ("row" : Str), ("by" : Str), ("at" : Str), ("many" : Str), ("each" : Str), ("less" : Str)] [("clock" : Str), ("row" : Str), ("by" : Str), ("at" : Str)] (defScope s_cleared) := ⟨rfl, rfl, rfl, by decide +kernel, rfl, by decide +kernel, by decide +kernel⟩
def l_cleared : Scope := ⟨.function, [(("clock" : Str), .cell), (("row" : Str), .local), (("by" : Str), .local), (("at" : Str), .local), (("many" : Str), .cell), (("tuple" : Str), .globalImplicit), (("zip" : Str), .globalImplicit)], false, false, [(("fast" : Str), .str ("clock" : Str)), (("fast" : Str), .str ("row" : Str)), (("fast" : Str), .str ("by" : Str)), (("fast" : Str), .str ("at" : Str)), (("fast" : Str), .str ("many" : Str)), (("fast" : Str), .str ("each" : Str)), (("fast" : Str), .str ("less" : Str))]⟩
theorem le_cleared : defScope s_cleared = l_cleared := rfl
theorem bk_cleared_0 : BlkOk [("clock" : Str), ("row" : Str), ("by" : Str), ("at" : Str), ("many" : Str), ("each" : Str), ("less" : Str)] l_cleared ⟨.function, [((".0" : Str), .local), (("each" : Str), .local), (("less" : Str), .local), (("clock" : Str), .free), (("many" : Str), .free)], false, false, []⟩ [(("each" : Str), 5), (("less" : Str), 6)] := ⟨rfl, by decide +kernel, by decide +kernel, by decide +kernel, by decide +kernel⟩
theorem b_cleared : BindA "cleared" s_cleared [("clock" : Str), ("row" : Str), ("by" : Str), ("at" : Str)] := fun _ _ _ _ _ _ us hl => match us, hl with | [_, _, _, _], _ => rfl
abbrev s_cleared_by : Stmt := top 29
theorem sc_cleared_by : FnScope [("clock" : Str), ("row" : Str), ("form" : Str), ("lead" : Str), ("each" : Str)] [("clock" : Str), ("row" : Str), ("form" : Str)] (defScope s_cleared_by) := ⟨rfl, rfl, rfl, by decide +kernel, rfl, by decide +kernel, by decide +kernel⟩
def l_cleared_by : Scope := ⟨.function, [(("clock" : Str), .local), (("row" : Str), .local), (("form" : Str), .local), (("lead" : Str), .local), (("each" : Str), .local), (("cleared" : Str), .globalImplicit)], false, false, []⟩
theorem le_cleared_by : defScope s_cleared_by = l_cleared_by := rfl
theorem b_cleared_by : BindA "cleared_by" s_cleared_by [("clock" : Str), ("row" : Str), ("form" : Str)] := fun _ _ _ _ _ _ us hl => match us, hl with | [_, _, _], _ => rfl
abbrev s_with_row : Stmt := top 30
theorem sc_with_row : FnScope [("clock" : Str), ("form" : Str), ("row" : Str), ("left" : Str), ("lead" : Str), ("new" : Str), ("at" : Str), ("each" : Str)] [("clock" : Str), ("form" : Str), ("row" : Str)] (defScope s_with_row) := ⟨rfl, rfl, rfl, by decide +kernel, rfl, by decide +kernel, by decide +kernel⟩
def l_with_row : Scope := ⟨.function, [(("clock" : Str), .cell), (("form" : Str), .local), (("row" : Str), .local), (("left" : Str), .local), (("lead" : Str), .cell), (("new" : Str), .cell), (("cleared_by" : Str), .globalImplicit), (("lead_of" : Str), .globalImplicit), (("times_in" : Str), .globalImplicit), (("inverse_in" : Str), .globalImplicit), (("sorted" : Str), .globalImplicit)], false, false, [(("fast" : Str), .str ("clock" : Str)), (("fast" : Str), .str ("form" : Str)), (("fast" : Str), .str ("row" : Str)), (("fast" : Str), .str ("left" : Str)), (("fast" : Str), .str ("lead" : Str)), (("fast" : Str), .str ("new" : Str)), (("fast" : Str), .str ("at" : Str)), (("fast" : Str), .str ("each" : Str))]⟩
theorem le_with_row : defScope s_with_row = l_with_row := rfl
theorem bk_with_row_0 : BlkOk [("clock" : Str), ("form" : Str), ("row" : Str), ("left" : Str), ("lead" : Str), ("new" : Str), ("at" : Str), ("each" : Str)] l_with_row ⟨.function, [((".0" : Str), .local), (("at" : Str), .local), (("each" : Str), .local), (("cleared" : Str), .globalImplicit), (("clock" : Str), .free), (("lead" : Str), .free), (("new" : Str), .free)], false, false, []⟩ [(("at" : Str), 6), (("each" : Str), 7)] := ⟨rfl, by decide +kernel, by decide +kernel, by decide +kernel, by decide +kernel⟩
theorem b_with_row : BindA "with_row" s_with_row [("clock" : Str), ("form" : Str), ("row" : Str)] := fun _ _ _ _ _ _ us hl => match us, hl with | [_, _, _], _ => rfl
abbrev s_least_in : Stmt := top 31
theorem sc_least_in : FnScope [("clock" : Str), ("rows" : Str), ("form" : Str), ("row" : Str), ("_" : Str)] [("clock" : Str), ("rows" : Str)] (defScope s_least_in) := ⟨rfl, rfl, rfl, by decide +kernel, rfl, by decide +kernel, by decide +kernel⟩
def l_least_in : Scope := ⟨.function, [(("clock" : Str), .local), (("rows" : Str), .local), (("form" : Str), .local), (("row" : Str), .local), (("with_row" : Str), .globalImplicit), (("tuple" : Str), .globalImplicit)], false, false, [(("fast" : Str), .str ("clock" : Str)), (("fast" : Str), .str ("rows" : Str)), (("fast" : Str), .str ("form" : Str)), (("fast" : Str), .str ("row" : Str)), (("fast" : Str), .str ("_" : Str))]⟩
theorem le_least_in : defScope s_least_in = l_least_in := rfl
theorem bk_least_in_0 : BlkOk [("clock" : Str), ("rows" : Str), ("form" : Str), ("row" : Str), ("_" : Str)] l_least_in ⟨.function, [((".0" : Str), .local), (("_" : Str), .local), (("row" : Str), .local)], false, false, []⟩ [(("_" : Str), 4), (("row" : Str), 3)] := ⟨rfl, by decide +kernel, by decide +kernel, by decide +kernel, by decide +kernel⟩
theorem b_least_in : BindA "least_in" s_least_in [("clock" : Str), ("rows" : Str)] := fun _ _ _ _ _ _ us hl => match us, hl with | [_, _], _ => rfl
abbrev s_need_rows : Stmt := top 34
theorem sc_need_rows : FnScope [("value" : Str), ("clock" : Str), ("size" : Str), ("row" : Str)] [("value" : Str), ("clock" : Str), ("size" : Str)] (defScope s_need_rows) := ⟨rfl, rfl, rfl, by decide +kernel, rfl, by decide +kernel, by decide +kernel⟩
def l_need_rows : Scope := ⟨.function, [(("value" : Str), .local), (("clock" : Str), .cell), (("size" : Str), .cell), (("isinstance" : Str), .globalImplicit), (("list" : Str), .globalImplicit), (("tuple" : Str), .globalImplicit), (("len" : Str), .globalImplicit), (("MOST_GIVEN" : Str), .globalImplicit), (("BadRow" : Str), .globalImplicit), (("all" : Str), .globalImplicit)], false, false, [(("fast" : Str), .str ("value" : Str)), (("fast" : Str), .str ("clock" : Str)), (("fast" : Str), .str ("size" : Str)), (("fast" : Str), .str ("row" : Str))]⟩
theorem le_need_rows : defScope s_need_rows = l_need_rows := rfl
theorem bk_need_rows_0 : BlkOk [("value" : Str), ("clock" : Str), ("size" : Str), ("row" : Str)] l_need_rows ⟨.function, [((".0" : Str), .local), (("row" : Str), .local), (("is_row" : Str), .globalImplicit), (("clock" : Str), .free), (("size" : Str), .free)], false, false, []⟩ [(("row" : Str), 3)] := ⟨rfl, by decide +kernel, by decide +kernel, by decide +kernel, by decide +kernel⟩
theorem bk_need_rows_1 : BlkOk [("value" : Str), ("clock" : Str), ("size" : Str), ("row" : Str)] l_need_rows ⟨.function, [((".0" : Str), .local), (("row" : Str), .local), (("tuple" : Str), .globalImplicit)], false, false, []⟩ [(("row" : Str), 3)] := ⟨rfl, by decide +kernel, by decide +kernel, by decide +kernel, by decide +kernel⟩
theorem b_need_rows : BindA "need_rows" s_need_rows [("value" : Str), ("clock" : Str), ("size" : Str)] := fun _ _ _ _ _ _ us hl => match us, hl with | [_, _, _], _ => rfl
abbrev s_Space : Stmt := inClass (top 35) 0
theorem sc_Space : FnScope [("self" : Str), ("clock" : Str), ("size" : Str), ("rows" : Str)] [("self" : Str), ("clock" : Str), ("size" : Str), ("rows" : Str)] (defScope s_Space) := ⟨rfl, rfl, rfl, by decide +kernel, rfl, by decide +kernel, by decide +kernel⟩
def l_Space : Scope := ⟨.function, [(("self" : Str), .local), (("clock" : Str), .local), (("size" : Str), .local), (("rows" : Str), .local), (("need_clock" : Str), .globalImplicit), (("need_number" : Str), .globalImplicit), (("MOST_SIZE" : Str), .globalImplicit), (("least_in" : Str), .globalImplicit), (("need_rows" : Str), .globalImplicit), (("len" : Str), .globalImplicit)], false, false, []⟩
theorem le_Space : defScope s_Space = l_Space := rfl
theorem b_Space : BindI "Space.__init__" s_Space [("self" : Str), ("clock" : Str), ("size" : Str), ("rows" : Str)] 3 [] (List.range 3) := fun _ _ _ _ _ _ _ us ws hl hk => match us, ws, hl, hk with | [_, _, _], [], _, _ => rfl
abbrev s_space_in : Stmt := top 32
theorem sc_space_in : FnScope [("clock" : Str), ("size" : Str), ("rows" : Str)] [("clock" : Str), ("size" : Str), ("rows" : Str)] (defScope s_space_in) := ⟨rfl, rfl, rfl, by decide +kernel, rfl, by decide +kernel, by decide +kernel⟩
def l_space_in : Scope := ⟨.function, [(("clock" : Str), .local), (("size" : Str), .local), (("rows" : Str), .local), (("Space" : Str), .globalImplicit), (("least_in" : Str), .globalImplicit)], false, false, []⟩
theorem le_space_in : defScope s_space_in = l_space_in := rfl
theorem b_space_in : BindA "space_in" s_space_in [("clock" : Str), ("size" : Str), ("rows" : Str)] := fun _ _ _ _ _ _ us hl => match us, hl with | [_, _, _], _ => rfl
abbrev s_need_space : Stmt := top 36
theorem sc_need_space : FnScope [("value" : Str), ("part" : Str)] [("value" : Str), ("part" : Str)] (defScope s_need_space) := ⟨rfl, rfl, rfl, by decide +kernel, rfl, by decide +kernel, by decide +kernel⟩
def l_need_space : Scope := ⟨.function, [(("value" : Str), .local), (("part" : Str), .local), (("isinstance" : Str), .globalImplicit), (("Space" : Str), .globalImplicit), (("BadSpace" : Str), .globalImplicit)], false, false, []⟩
theorem le_need_space : defScope s_need_space = l_need_space := rfl
abbrev s_turned_rows : Stmt := top 38
theorem sc_turned_rows : FnScope [("rows" : Str), ("gap" : Str), ("row" : Str)] [("rows" : Str), ("gap" : Str)] (defScope s_turned_rows) := ⟨rfl, rfl, rfl, by decide +kernel, rfl, by decide +kernel, by decide +kernel⟩
def l_turned_rows : Scope := ⟨.function, [(("rows" : Str), .local), (("gap" : Str), .cell)], false, false, [(("fast" : Str), .str ("rows" : Str)), (("fast" : Str), .str ("gap" : Str)), (("fast" : Str), .str ("row" : Str))]⟩
theorem le_turned_rows : defScope s_turned_rows = l_turned_rows := rfl
theorem bk_turned_rows_0 : BlkOk [("rows" : Str), ("gap" : Str), ("row" : Str)] l_turned_rows ⟨.function, [((".0" : Str), .local), (("row" : Str), .local), (("gap" : Str), .free)], false, false, []⟩ [(("row" : Str), 2)] := ⟨rfl, by decide +kernel, by decide +kernel, by decide +kernel, by decide +kernel⟩
theorem b_turned_rows : BindA "turned_rows" s_turned_rows [("rows" : Str), ("gap" : Str)] := fun _ _ _ _ _ _ us hl => match us, hl with | [_, _], _ => rfl
abbrev s_turned_space : Stmt := top 39
theorem sc_turned_space : FnScope [("space" : Str), ("gap" : Str)] [("space" : Str), ("gap" : Str)] (defScope s_turned_space) := ⟨rfl, rfl, rfl, by decide +kernel, rfl, by decide +kernel, by decide +kernel⟩
def l_turned_space : Scope := ⟨.function, [(("space" : Str), .local), (("gap" : Str), .local), (("need_space" : Str), .globalImplicit), (("need_number" : Str), .globalImplicit), (("space_in" : Str), .globalImplicit), (("turned_rows" : Str), .globalImplicit)], false, false, []⟩
theorem le_turned_space : defScope s_turned_space = l_turned_space := rfl
theorem b_turned_space : BindA "turned_space" s_turned_space [("space" : Str), ("gap" : Str)] := fun _ _ _ _ _ _ us hl => match us, hl with | [_, _], _ => rfl
abbrev s__law_carousel : Stmt := top 41
theorem sc__law_carousel : FnScope [("_law_script" : Str), ("_law_cell" : Str)] [("_law_script" : Str)] (defScope s__law_carousel) := ⟨rfl, rfl, rfl, by decide +kernel, rfl, by decide +kernel, by decide +kernel⟩
def l__law_carousel : Scope := ⟨.function, [(("_law_script" : Str), .local)], false, false, [(("fast" : Str), .str ("_law_script" : Str)), (("fast" : Str), .str ("_law_cell" : Str))]⟩
theorem le__law_carousel : defScope s__law_carousel = l__law_carousel := rfl
theorem bk__law_carousel_0 : BlkOk [("_law_script" : Str), ("_law_cell" : Str)] l__law_carousel ⟨.function, [((".0" : Str), .local), (("_law_cell" : Str), .local), (("int" : Str), .globalImplicit)], false, false, []⟩ [(("_law_cell" : Str), 1)] := ⟨rfl, by decide +kernel, by decide +kernel, by decide +kernel, by decide +kernel⟩
theorem b__law_carousel : BindA "_law_carousel" s__law_carousel [("_law_script" : Str)] := fun _ _ _ _ _ _ us hl => match us, hl with | [_], _ => rfl
abbrev s__law_horse : Stmt := top 42
theorem sc__law_horse : FnScope [("_law_carousel_here" : Str), ("_law_many" : Str), ("_law_left" : Str), ("_law_turn" : Str), ("_law_cell" : Str), ("_law_mixed" : Str)] [("_law_carousel_here" : Str), ("_law_many" : Str)] (defScope s__law_horse) := ⟨rfl, rfl, rfl, by decide +kernel, rfl, by decide +kernel, by decide +kernel⟩
def l__law_horse : Scope := ⟨.function, [(("_law_carousel_here" : Str), .local), (("_law_many" : Str), .local), (("_law_left" : Str), .local), (("_law_turn" : Str), .local), (("_law_cell" : Str), .local), (("_law_mixed" : Str), .local), (("int" : Str), .globalImplicit), (("len" : Str), .globalImplicit), (("abs" : Str), .globalImplicit)], false, false, []⟩
theorem le__law_horse : defScope s__law_horse = l__law_horse := rfl
theorem b__law_horse : BindA "_law_horse" s__law_horse [("_law_carousel_here" : Str), ("_law_many" : Str)] := fun _ _ _ _ _ _ us hl => match us, hl with | [_, _], _ => rfl
abbrev s__law_one : Stmt := top 43
theorem sc__law_one : FnScope [("_law_carousel_here" : Str), ("_law_some" : Str)] [("_law_carousel_here" : Str), ("_law_some" : Str)] (defScope s__law_one) := ⟨rfl, rfl, rfl, by decide +kernel, rfl, by decide +kernel, by decide +kernel⟩
def l__law_one : Scope := ⟨.function, [(("_law_carousel_here" : Str), .local), (("_law_some" : Str), .local), (("_law_horse" : Str), .globalImplicit), (("len" : Str), .globalImplicit)], false, false, []⟩
theorem le__law_one : defScope s__law_one = l__law_one := rfl
theorem b__law_one : BindA "_law_one" s__law_one [("_law_carousel_here" : Str), ("_law_some" : Str)] := fun _ _ _ _ _ _ us hl => match us, hl with | [_, _], _ => rfl
abbrev s__law_clock : Stmt := top 44
theorem sc__law_clock : FnScope [("_law_carousel_here" : Str)] [("_law_carousel_here" : Str)] (defScope s__law_clock) := ⟨rfl, rfl, rfl, by decide +kernel, rfl, by decide +kernel, by decide +kernel⟩
def l__law_clock : Scope := ⟨.function, [(("_law_carousel_here" : Str), .local), (("_law_one" : Str), .globalImplicit)], false, false, []⟩
theorem le__law_clock : defScope s__law_clock = l__law_clock := rfl
theorem b__law_clock : BindA "_law_clock" s__law_clock [("_law_carousel_here" : Str)] := fun _ _ _ _ _ _ us hl => match us, hl with | [_], _ => rfl
abbrev s__law_least : Stmt := top 45
theorem sc__law_least : FnScope [("_law_clock_here" : Str), ("_law_rows" : Str), ("_law_left" : Str), ("_law_found" : Str), ("_law_at" : Str), ("_law_spots" : Str), ("_law_first" : Str), ("_law_by" : Str), ("_law_lead" : Str), ("_law_row" : Str), ("_law_spot" : Str), ("_law_number" : Str), ("_law_each" : Str), ("_law_its" : Str)] [("_law_clock_here" : Str), ("_law_rows" : Str)] (defScope s__law_least) := ⟨rfl, rfl, rfl, by decide +kernel, rfl, by decide +kernel, by decide +kernel⟩
def l__law_least : Scope := ⟨.function, [(("_law_clock_here" : Str), .cell), (("_law_rows" : Str), .local), (("_law_left" : Str), .local), (("_law_found" : Str), .local), (("_law_at" : Str), .cell), (("_law_spots" : Str), .local), (("_law_first" : Str), .cell), (("_law_by" : Str), .cell), (("_law_lead" : Str), .cell), (("range" : Str), .globalImplicit), (("len" : Str), .globalImplicit), (("enumerate" : Str), .globalImplicit), (("tuple" : Str), .globalImplicit)], false, false, [(("fast" : Str), .str ("_law_clock_here" : Str)), (("fast" : Str), .str ("_law_rows" : Str)), (("fast" : Str), .str ("_law_row" : Str)), (("fast" : Str), .str ("_law_left" : Str)), (("fast" : Str), .str ("_law_found" : Str)), (("fast" : Str), .str ("_law_at" : Str)), (("fast" : Str), .str ("_law_spot" : Str)), (("fast" : Str), .str ("_law_spots" : Str)), (("fast" : Str), .str ("_law_first" : Str)), (("fast" : Str), .str ("_law_number" : Str)), (("fast" : Str), .str ("_law_by" : Str)), (("fast" : Str), .str ("_law_each" : Str)), (("fast" : Str), .str ("_law_lead" : Str)), (("fast" : Str), .str ("_law_its" : Str))]⟩
theorem le__law_least : defScope s__law_least = l__law_least := rfl
theorem bk__law_least_0 : BlkOk [("_law_clock_here" : Str), ("_law_rows" : Str), ("_law_left" : Str), ("_law_found" : Str), ("_law_at" : Str), ("_law_spots" : Str), ("_law_first" : Str), ("_law_by" : Str), ("_law_lead" : Str), ("_law_row" : Str), ("_law_spot" : Str), ("_law_number" : Str), ("_law_each" : Str), ("_law_its" : Str)] l__law_least ⟨.function, [((".0" : Str), .local), (("_law_row" : Str), .local), (("list" : Str), .globalImplicit)], false, false, []⟩ [(("_law_row" : Str), 9)] := ⟨rfl, by decide +kernel, by decide +kernel, by decide +kernel, by decide +kernel⟩
theorem bk__law_least_1 : BlkOk [("_law_clock_here" : Str), ("_law_rows" : Str), ("_law_left" : Str), ("_law_found" : Str), ("_law_at" : Str), ("_law_spots" : Str), ("_law_first" : Str), ("_law_by" : Str), ("_law_lead" : Str), ("_law_row" : Str), ("_law_spot" : Str), ("_law_number" : Str), ("_law_each" : Str), ("_law_its" : Str)] l__law_least ⟨.function, [((".0" : Str), .local), (("_law_spot" : Str), .local), (("_law_row" : Str), .local), (("_law_at" : Str), .free)], false, false, []⟩ [(("_law_spot" : Str), 10), (("_law_row" : Str), 9)] := ⟨rfl, by decide +kernel, by decide +kernel, by decide +kernel, by decide +kernel⟩
theorem bk__law_least_2 : BlkOk [("_law_clock_here" : Str), ("_law_rows" : Str), ("_law_left" : Str), ("_law_found" : Str), ("_law_at" : Str), ("_law_spots" : Str), ("_law_first" : Str), ("_law_by" : Str), ("_law_lead" : Str), ("_law_row" : Str), ("_law_spot" : Str), ("_law_number" : Str), ("_law_each" : Str), ("_law_its" : Str)] l__law_least ⟨.function, [((".0" : Str), .local), (("_law_number" : Str), .local), (("int" : Str), .globalImplicit), (("_law_at" : Str), .free), (("_law_clock_here" : Str), .free), (("_law_first" : Str), .free)], false, false, []⟩ [(("_law_number" : Str), 11)] := ⟨rfl, by decide +kernel, by decide +kernel, by decide +kernel, by decide +kernel⟩
theorem bk__law_least_3 : BlkOk [("_law_clock_here" : Str), ("_law_rows" : Str), ("_law_left" : Str), ("_law_found" : Str), ("_law_at" : Str), ("_law_spots" : Str), ("_law_first" : Str), ("_law_by" : Str), ("_law_lead" : Str), ("_law_row" : Str), ("_law_spot" : Str), ("_law_number" : Str), ("_law_each" : Str), ("_law_its" : Str)] l__law_least ⟨.function, [((".0" : Str), .local), (("_law_each" : Str), .local), (("int" : Str), .globalImplicit), (("_law_by" : Str), .free), (("_law_clock_here" : Str), .free)], false, false, []⟩ [(("_law_each" : Str), 12)] := ⟨rfl, by decide +kernel, by decide +kernel, by decide +kernel, by decide +kernel⟩
theorem bk__law_least_4 : BlkOk [("_law_clock_here" : Str), ("_law_rows" : Str), ("_law_left" : Str), ("_law_found" : Str), ("_law_at" : Str), ("_law_spots" : Str), ("_law_first" : Str), ("_law_by" : Str), ("_law_lead" : Str), ("_law_row" : Str), ("_law_spot" : Str), ("_law_number" : Str), ("_law_each" : Str), ("_law_its" : Str)] l__law_least ⟨.function, [((".0" : Str), .local), (("_law_row" : Str), .cell), (("zip" : Str), .globalImplicit), (("_law_at" : Str), .free), (("_law_clock_here" : Str), .free), (("_law_lead" : Str), .free)], false, false, []⟩ [(("_law_row" : Str), 9)] := ⟨rfl, by decide +kernel, by decide +kernel, by decide +kernel, by decide +kernel⟩
theorem bk__law_least_5 : BlkOk [("_law_clock_here" : Str), ("_law_rows" : Str), ("_law_left" : Str), ("_law_found" : Str), ("_law_at" : Str), ("_law_spots" : Str), ("_law_first" : Str), ("_law_by" : Str), ("_law_lead" : Str), ("_law_row" : Str), ("_law_spot" : Str), ("_law_number" : Str), ("_law_each" : Str), ("_law_its" : Str)] (⟨.function, [((".0" : Str), .local), (("_law_row" : Str), .cell), (("zip" : Str), .globalImplicit), (("_law_at" : Str), .cell), (("_law_clock_here" : Str), .cell), (("_law_lead" : Str), .cell)], false, false, []⟩ : Scope) ⟨.function, [((".0" : Str), .local), (("_law_each" : Str), .local), (("_law_its" : Str), .local), (("int" : Str), .globalImplicit), (("_law_at" : Str), .free), (("_law_clock_here" : Str), .free), (("_law_row" : Str), .free)], false, false, []⟩ [(("_law_each" : Str), 12), (("_law_its" : Str), 13)] := ⟨rfl, by decide +kernel, by decide +kernel, by decide +kernel, by decide +kernel⟩
theorem bk__law_least_6 : BlkOk [("_law_clock_here" : Str), ("_law_rows" : Str), ("_law_left" : Str), ("_law_found" : Str), ("_law_at" : Str), ("_law_spots" : Str), ("_law_first" : Str), ("_law_by" : Str), ("_law_lead" : Str), ("_law_row" : Str), ("_law_spot" : Str), ("_law_number" : Str), ("_law_each" : Str), ("_law_its" : Str)] l__law_least ⟨.function, [((".0" : Str), .local), (("_law_row" : Str), .cell), (("zip" : Str), .globalImplicit), (("_law_at" : Str), .free), (("_law_clock_here" : Str), .free), (("_law_lead" : Str), .free)], false, false, []⟩ [(("_law_row" : Str), 9)] := ⟨rfl, by decide +kernel, by decide +kernel, by decide +kernel, by decide +kernel⟩
theorem bk__law_least_7 : BlkOk [("_law_clock_here" : Str), ("_law_rows" : Str), ("_law_left" : Str), ("_law_found" : Str), ("_law_at" : Str), ("_law_spots" : Str), ("_law_first" : Str), ("_law_by" : Str), ("_law_lead" : Str), ("_law_row" : Str), ("_law_spot" : Str), ("_law_number" : Str), ("_law_each" : Str), ("_law_its" : Str)] (⟨.function, [((".0" : Str), .local), (("_law_row" : Str), .cell), (("zip" : Str), .globalImplicit), (("_law_at" : Str), .cell), (("_law_clock_here" : Str), .cell), (("_law_lead" : Str), .cell)], false, false, []⟩ : Scope) ⟨.function, [((".0" : Str), .local), (("_law_each" : Str), .local), (("_law_its" : Str), .local), (("int" : Str), .globalImplicit), (("_law_at" : Str), .free), (("_law_clock_here" : Str), .free), (("_law_row" : Str), .free)], false, false, []⟩ [(("_law_each" : Str), 12), (("_law_its" : Str), 13)] := ⟨rfl, by decide +kernel, by decide +kernel, by decide +kernel, by decide +kernel⟩
theorem bk__law_least_8 : BlkOk [("_law_clock_here" : Str), ("_law_rows" : Str), ("_law_left" : Str), ("_law_found" : Str), ("_law_at" : Str), ("_law_spots" : Str), ("_law_first" : Str), ("_law_by" : Str), ("_law_lead" : Str), ("_law_row" : Str), ("_law_spot" : Str), ("_law_number" : Str), ("_law_each" : Str), ("_law_its" : Str)] l__law_least ⟨.function, [((".0" : Str), .local), (("_law_row" : Str), .local), (("tuple" : Str), .globalImplicit)], false, false, []⟩ [(("_law_row" : Str), 9)] := ⟨rfl, by decide +kernel, by decide +kernel, by decide +kernel, by decide +kernel⟩
theorem b__law_least : BindA "_law_least" s__law_least [("_law_clock_here" : Str), ("_law_rows" : Str)] := fun _ _ _ _ _ _ us hl => match us, hl with | [_, _], _ => rfl
abbrev s_law : Stmt := top 46
theorem sc_law : FnScope [("_law_script" : Str), ("_law_carousel_here" : Str), ("_law_turn" : Str), ("_law_clock_here" : Str), ("_law_size" : Str), ("_law_gap" : Str), ("_law_rows" : Str), ("_law_space" : Str), ("_law_due" : Str), ("_law_told" : Str), ("_law_more" : Str), ("_law_row" : Str)] [("_law_script" : Str)] (defScope s_law) := ⟨rfl, rfl, rfl, by decide +kernel, rfl, by decide +kernel, by decide +kernel⟩
def l_law : Scope := ⟨.function, [(("_law_script" : Str), .local), (("_law_carousel_here" : Str), .cell), (("_law_turn" : Str), .local), (("_law_clock_here" : Str), .cell), (("_law_size" : Str), .cell), (("_law_gap" : Str), .cell), (("_law_rows" : Str), .local), (("_law_space" : Str), .local), (("_law_due" : Str), .local), (("_law_told" : Str), .local), (("_law_more" : Str), .local), (("_law_carousel" : Str), .globalImplicit), (("range" : Str), .globalImplicit), (("_law_clock" : Str), .globalImplicit), (("_law_one" : Str), .globalImplicit), (("_law_horse" : Str), .globalImplicit), (("Space" : Str), .globalImplicit), (("_law_least" : Str), .globalImplicit), (("turned_space" : Str), .globalImplicit), (("repr" : Str), .globalImplicit), (("len" : Str), .globalImplicit), (("int" : Str), .globalImplicit)], false, false, [(("fast" : Str), .str ("_law_script" : Str)), (("fast" : Str), .str ("_law_carousel_here" : Str)), (("fast" : Str), .str ("_law_turn" : Str)), (("fast" : Str), .str ("_law_clock_here" : Str)), (("fast" : Str), .str ("_law_size" : Str)), (("fast" : Str), .str ("_law_row" : Str)), (("fast" : Str), .str ("_law_gap" : Str)), (("fast" : Str), .str ("_law_rows" : Str)), (("fast" : Str), .str ("_law_space" : Str)), (("fast" : Str), .str ("_law_due" : Str)), (("fast" : Str), .str ("_law_told" : Str)), (("fast" : Str), .str ("_law_more" : Str))]⟩
theorem le_law : defScope s_law = l_law := rfl
theorem bk_law_0 : BlkOk [("_law_script" : Str), ("_law_carousel_here" : Str), ("_law_turn" : Str), ("_law_clock_here" : Str), ("_law_size" : Str), ("_law_gap" : Str), ("_law_rows" : Str), ("_law_space" : Str), ("_law_due" : Str), ("_law_told" : Str), ("_law_more" : Str), ("_law_row" : Str)] l_law ⟨.function, [((".0" : Str), .local), (("_law_row" : Str), .local), (("tuple" : Str), .globalImplicit), (("range" : Str), .globalImplicit), (("_law_carousel_here" : Str), .free), (("_law_clock_here" : Str), .free), (("_law_size" : Str), .free)], false, false, []⟩ [(("_law_row" : Str), 11)] := ⟨rfl, by decide +kernel, by decide +kernel, by decide +kernel, by decide +kernel⟩
theorem bk_law_1 : BlkOk [("_law_script" : Str), ("_law_carousel_here" : Str), ("_law_turn" : Str), ("_law_clock_here" : Str), ("_law_size" : Str), ("_law_gap" : Str), ("_law_rows" : Str), ("_law_space" : Str), ("_law_due" : Str), ("_law_told" : Str), ("_law_more" : Str), ("_law_row" : Str)] (⟨.function, [((".0" : Str), .local), (("_law_row" : Str), .local), (("tuple" : Str), .globalImplicit), (("range" : Str), .globalImplicit), (("_law_carousel_here" : Str), .cell), (("_law_clock_here" : Str), .cell), (("_law_size" : Str), .cell)], false, false, []⟩ : Scope) ⟨.function, [((".0" : Str), .local), (("_law_gap" : Str), .local), (("_law_horse" : Str), .globalImplicit), (("_law_carousel_here" : Str), .free), (("_law_clock_here" : Str), .free)], false, false, []⟩ [(("_law_gap" : Str), 5)] := ⟨rfl, by decide +kernel, by decide +kernel, by decide +kernel, by decide +kernel⟩
theorem bk_law_2 : BlkOk [("_law_script" : Str), ("_law_carousel_here" : Str), ("_law_turn" : Str), ("_law_clock_here" : Str), ("_law_size" : Str), ("_law_gap" : Str), ("_law_rows" : Str), ("_law_space" : Str), ("_law_due" : Str), ("_law_told" : Str), ("_law_more" : Str), ("_law_row" : Str)] l_law ⟨.function, [((".0" : Str), .local), (("_law_row" : Str), .local), (("_law_gap" : Str), .free)], false, false, []⟩ [(("_law_row" : Str), 11)] := ⟨rfl, by decide +kernel, by decide +kernel, by decide +kernel, by decide +kernel⟩
theorem b_law : BindA "law" s_law [("_law_script" : Str)] := fun _ _ _ _ _ _ us hl => match us, hl with | [_], _ => rfl
theorem kb_turned_space_0_gap_space : BindK "turned_space" s_turned_space [("space" : Str), ("gap" : Str)] 0 [("gap" : Str), ("space" : Str)] [1, 0] := fun _ _ _ _ _ _ us ws hl hk => match us, ws, hl, hk with | [], [_, _], _, _ => rfl
theorem bv_need_space_1 : BindV "need_space" s_need_space [("value" : Str), ("part" : Str)] 1 1 0 := fun _ _ _ _ _ _ _ us its hl hk => match us, its, hl, hk with | [_], [_], _, _ => ⟨_, rfl, rfl⟩
def c_CLOCKS : D := .tup [.int (3), .int (5), .int (7), .int (11), .int (13), .int (17), .int (19), .int (23), .int (29), .int (31)]
def c_FIGURES : D := .str ("0123456789" : Str)
def c_MOST_FIGURES : D := .int (60)
def c_MOST_GIVEN : D := .int (400)
def c_MOST_SIZE : D := .int (400)
def dd_need_space : List D := [.str ("space" : Str)]
def okI : Str → Bool := fun nm => nm == ("Space" : Str)
def foN : Str → List Str := fun nm => if nm == ("Space" : Str) then [("clock" : Str), ("size" : Str), ("rows" : Str), ("depth" : Str)] else []
def isi_Space : Str → Option Bool := fun nm => some (decide (nm = ("Space" : Str)))
def m_Space___eq__ : MS := mSeq (mIf (mNot (mTru (mIsI isi_Space (mVar 1)))) (mRet (mC (.bl false))) (mNext))
    (mRet (mOp eqX (mArgs tupD (mCons (mFld okI ("clock" : Str) (mVar 0)) (mCons (mFld okI ("size" : Str) (mVar 0)) (mCons (mFld okI ("rows" : Str) (mVar 0)) (mNil))))) (mArgs tupD (mCons (mFld okI ("clock" : Str) (mVar 1)) (mCons (mFld okI ("size" : Str) (mVar 1)) (mCons (mFld okI ("rows" : Str) (mVar 1)) (mNil)))))))
def con_Space___eq__ : Con := conOf 2 2 m_Space___eq__
def eqC : Str → Option Con := fun nm => if nm == ("Space" : Str) then some con_Space___eq__ else none
def m_is_integer : MS := mRet (mAndV (mArgs isiD (mCons (mVar 0) (mCons (mC (.raw (.ty "int"))) (mNil)))) (mNotV (mArgs isiD (mCons (mVar 0) (mCons (mC (.raw (.ty "bool"))) (mNil))))))
def con_is_integer : Con := conOf 1 1 m_is_integer
def m_is_within : MS := mSeq (mIf (mNot (mTru (mCall con_is_integer (mCons (mVar 0) (mNil))))) (mRet (mC (.bl false))) (mNext))
    (mRet (mAndV (mOrV (mOp isD (mVar 1) (mC .non)) (mOp (cmpI fun i j => decide (i ≤ j)) (mVar 1) (mVar 0))) (mOrV (mOp isD (mVar 2) (mC .non)) (mOp (cmpI fun i j => decide (i ≤ j)) (mVar 0) (mVar 2)))))
def con_is_within : Con := conOf 3 3 m_is_within
def m_is_clock : MS := mRet (mAndV (mCall con_is_integer (mCons (mVar 0) (mNil))) (mOp (inD false) (mVar 0) (mC c_CLOCKS)))
def con_is_clock : Con := conOf 1 1 m_is_clock
def m_is_row : MS := mSeq (mIf (mOr (mNot (mTru (mUn1 (isi2 "list" "tuple") (mVar 0)))) (mBl (mOp neX (mArgs lenD (mCons (mVar 0) (mNil))) (mVar 2)))) (mRet (mC (.bl false))) (mNext))
    (mRet (mArgs allD (mCons (mLc (mIter (mVar 0)) (gfName 3) [3] (mYes) (mCall con_is_within (mCons (mVar 3) (mCons (mC (.int 0)) (mCons (mOp subD (mVar 1) (mC (.int 1))) (mNil)))))) (mNil))))
def con_is_row : Con := conOf 3 4 m_is_row
def m_need_number : MS := mIf (mNot (mTru (mCall con_is_within (mCons (mVar 0) (mCons (mVar 2) (mCons (mVar 3) (mNil))))))) (mRaise ("BadNumber" : Str) "part" (mVar 1)) (mNext)
def con_need_number : Con := conX 4 4 m_need_number
def m_need_clock : MS := mIf (mNot (mTru (mCall con_is_clock (mCons (mVar 0) (mNil))))) (mRaise ("BadClock" : Str) "part" (mC (.str ("clock" : Str)))) (mNext)
def con_need_clock : Con := conX 1 1 m_need_clock
def m_inverse_in : MS := mSeq (mAsg (gfName 2) (mC (.int 1)))
    (mSeq (mWhile (mBl (mOp neX (mOp modD (mOp mulD (mVar 1) (mVar 2)) (mVar 0)) (mC (.int 1)))) (mAsg (gfName 2) (mOp addD (mVar 2) (mC (.int 1)))))
    (mRet (mVar 2)))
def con_inverse_in : Con := conOf 2 3 m_inverse_in
def m_times_in : MS := mRet (mArgs tupleD (mCons (mLc (mIter (mVar 2)) (gfName 3) [3] (mYes) (mOp modD (mOp mulD (mVar 1) (mVar 3)) (mVar 0))) (mNil)))
def con_times_in : Con := conOf 3 4 m_times_in
def m_lead_of : MS := mSeq (mFor (mEnumA (mVar 0)) (gfTup (gsCons (gfName 1) (gsCons (gfName 2) (gsNil)))) (mIf (mBl (mOp neX (mVar 2) (mC (.int 0)))) (mRet (mVar 1)) (mNext)))
    (mRet (mC .non))
def con_lead_of : Con := conOf 1 3 m_lead_of
def m_cleared : MS := mSeq (mAsg (gfName 4) (mOp ixD (mVar 1) (mVar 3)))
    (mRet (mIfE (mBl (mOp eqX (mVar 4) (mC (.int 0)))) (mVar 1) (mArgs tupleD (mCons (mLc (mZip (mVar 1) (mVar 2)) (gfTup (gsCons (gfName 5) (gsCons (gfName 6) (gsNil)))) [5, 6] (mYes) (mOp modD (mOp subD (mVar 5) (mOp mulD (mVar 4) (mVar 6))) (mVar 0))) (mNil)))))
def con_cleared : Con := conOf 4 7 m_cleared
def m_cleared_by : MS := mSeq (mFor (mIter (mVar 2)) (gfTup (gsCons (gfName 3) (gsCons (gfName 4) (gsNil)))) (mAsg (gfName 1) (mCall con_cleared (mCons (mVar 0) (mCons (mVar 1) (mCons (mVar 4) (mCons (mVar 3) (mNil))))))))
    (mRet (mVar 1))
def con_cleared_by : Con := conOf 3 5 m_cleared_by
def m_with_row : MS := mSeq (mAsg (gfName 3) (mCall con_cleared_by (mCons (mVar 0) (mCons (mVar 2) (mCons (mVar 1) (mNil))))))
    (mSeq (mAsg (gfName 4) (mCall con_lead_of (mCons (mVar 3) (mNil))))
    (mSeq (mIf (mBl (mOp isD (mVar 4) (mC .non))) (mRet (mVar 1)) (mNext))
    (mSeq (mAsg (gfName 5) (mCall con_times_in (mCons (mVar 0) (mCons (mCall con_inverse_in (mCons (mVar 0) (mCons (mOp ixD (mVar 3) (mVar 4)) (mNil)))) (mCons (mVar 3) (mNil))))))
    (mRet (mSort (mArgs lstD (mStar (mLc (mIter (mVar 1)) (gfTup (gsCons (gfName 6) (gsCons (gfName 7) (gsNil)))) [6, 7] (mYes) (mArgs tupD (mCons (mVar 6) (mCons (mCall con_cleared (mCons (mVar 0) (mCons (mVar 7) (mCons (mVar 5) (mCons (mVar 4) (mNil)))))) (mNil))))) (mCons (mArgs tupD (mCons (mVar 4) (mCons (mVar 5) (mNil)))) (mNil)))))))))
def con_with_row : Con := conOf 3 8 m_with_row
def m_least_in : MS := mSeq (mAsg (gfName 2) (mArgs lstD (mNil)))
    (mSeq (mFor (mIter (mVar 1)) (gfName 3) (mAsg (gfName 2) (mCall con_with_row (mCons (mVar 0) (mCons (mVar 2) (mCons (mVar 3) (mNil)))))))
    (mRet (mArgs tupleD (mCons (mLc (mIter (mVar 2)) (gfTup (gsCons (gfName 4) (gsCons (gfName 3) (gsNil)))) [4, 3] (mYes) (mVar 3)) (mNil)))))
def con_least_in : Con := conOf 2 5 m_least_in
def m_need_rows : MS := mSeq (mIf (mOr (mNot (mTru (mUn1 (isi2 "list" "tuple") (mVar 0)))) (mBl (mOp (cmpI fun i j => decide (j < i)) (mArgs lenD (mCons (mVar 0) (mNil))) (mC c_MOST_GIVEN)))) (mRaise ("BadRow" : Str) "part" (mC (.str ("rows" : Str)))) (mNext))
    (mSeq (mIf (mNot (mTru (mArgs allD (mCons (mLc (mIter (mVar 0)) (gfName 3) [3] (mYes) (mCall con_is_row (mCons (mVar 3) (mCons (mVar 1) (mCons (mVar 2) (mNil)))))) (mNil))))) (mRaise ("BadRow" : Str) "part" (mC (.str ("rows" : Str)))) (mNext))
    (mRet (mLc (mIter (mVar 0)) (gfName 3) [3] (mYes) (mArgs tupleD (mCons (mVar 3) (mNil))))))
def con_need_rows : Con := conX 3 4 m_need_rows
def m_Space : MS := mSeq (mDrop (mCall con_need_clock (mCons (mVar 1) (mNil))))
    (mSeq (mDrop (mCall con_need_number (mCons (mVar 2) (mCons (mC (.str ("size" : Str))) (mCons (mC (.int 1)) (mCons (mC c_MOST_SIZE) (mNil)))))))
    (mSeq (mSet 0 okI foN ("clock" : Str) (mVar 1))
    (mSeq (mSet 0 okI foN ("size" : Str) (mVar 2))
    (mSeq (mSet 0 okI foN ("rows" : Str) (mCall con_least_in (mCons (mVar 1) (mCons (mCall con_need_rows (mCons (mVar 3) (mCons (mVar 1) (mCons (mVar 2) (mNil))))) (mNil)))))
    (mSet 0 okI foN ("depth" : Str) (mArgs lenD (mCons (mSelf 0 okI ("rows" : Str)) (mNil))))))))
def con_Space : Con := conI ("Space" : Str) 3 4 m_Space
def m_space_in : MS := mRet (mCall con_Space (mCons (mVar 0) (mCons (mVar 1) (mCons (mCall con_least_in (mCons (mVar 0) (mCons (mVar 2) (mNil)))) (mNil)))))
def con_space_in : Con := conX 3 3 m_space_in
def m_need_space : MS := mIf (mNot (mTru (mIsI isi_Space (mVar 0)))) (mRaise ("BadSpace" : Str) "part" (mVar 1)) (mNext)
def con_need_space : Con := conX 2 2 m_need_space
def m_turned_rows : MS := mRet (mLc (mIter (mVar 0)) (gfName 2) [2] (mYes) (mArgs tupD (mStar (mSl (mVar 2) (mPart (mVar 1)) (mNoP)) (mStar (mSl (mVar 2) (mNoP) (mPart (mVar 1))) (mNil)))))
def con_turned_rows : Con := conOf 2 3 m_turned_rows
def m_turned_space : MS := mSeq (mDrop (mCallV con_need_space (dd_need_space.drop 0) (mCons (mVar 0) (mNil))))
    (mSeq (mDrop (mCall con_need_number (mCons (mVar 1) (mCons (mC (.str ("gap" : Str))) (mCons (mC (.int 0)) (mCons (mOp subD (mFld okI ("size" : Str) (mVar 0)) (mC (.int 1))) (mNil)))))))
    (mRet (mCall con_space_in (mCons (mFld okI ("clock" : Str) (mVar 0)) (mCons (mFld okI ("size" : Str) (mVar 0)) (mCons (mCall con_turned_rows (mCons (mFld okI ("rows" : Str) (mVar 0)) (mCons (mVar 1) (mNil)))) (mNil)))))))
def con_turned_space : Con := conX 2 2 m_turned_space
def m__law_carousel : ME := mLc (mIter (mSl (mVar 0) (mNoP) (mPart (mC (.int 60))))) (gfName 1) [1] (mYes) (mArgs intD (mCons (mVar 1) (mNil)))
def m__law_horse (cells : List Int) : MS := mSeq (mIf (mBl (mOp (cmpI fun i j => decide (j < i)) (mBox2 0) (mC (.int 0)))) (mSeq (mAsg (gfName 2) (mArgs intD (mCons (mBox2 0) (mNil))))
    (mSeq (mPut2 0 (mOp fdivD (mVar 2) (mVar 1)))
    (mRet (mOp modD (mArgs intD (mCons (mVar 2) (mNil))) (mVar 1))))) (mNext))
    (mSeq (mAsg (gfName 3) (mBox1 0))
    (mSeq (mPut1 0 (mOp addD (mVar 3) (mC (.int 1))))
    (mSeq (mAsg (gfName 4) (mOp addD (mOp mulD (mC (.int 71069)) (mVar 3)) (mC (.int 5099))))
    (mSeq (mIf (mBl (mOp neX (mBox0 cells 0) (mArgs lstD (mNil)))) (mAsg (gfName 4) (mOp ixD (mBox0 cells 0) (mOp modD (mArgs intD (mCons (mVar 3) (mNil))) (mArgs lenD (mCons (mBox0 cells 0) (mNil)))))) (mNext))
    (mSeq (mIf (mAnd (mBl (mOp (cmpI fun i j => decide (i < j)) (mVar 3) (mArgs lenD (mCons (mBox0 cells 0) (mNil))))) (mBl (mOp (cmpI fun i j => decide (j ≤ i)) (mArgs absD (mCons (mVar 4) (mNil))) (mOp powD (mC (.int 10)) (mC (.int 18)))))) (mSeq (mAsg (gfName 2) (mOp addD (mOp mulD (mC (.int 2)) (mOp subD (mArgs absD (mCons (mArgs intD (mCons (mVar 4) (mNil))) (mNil))) (mOp powD (mC (.int 10)) (mC (.int 18))))) (mArgs intD (mCons (mOp (cmpI fun i j => decide (i < j)) (mVar 4) (mC (.int 0))) (mNil)))))
    (mSeq (mPut2 0 (mOp fdivD (mVar 2) (mVar 1)))
    (mRet (mOp modD (mArgs intD (mCons (mVar 2) (mNil))) (mVar 1))))) (mNext))
    (mSeq (mAsg (gfName 5) (mOp modD (mArgs intD (mCons (mOp powD (mOp addD (mOp addD (mOp modD (mArgs intD (mCons (mVar 4) (mNil))) (mC (.int 2147483549))) (mOp mulD (mC (.int 61031)) (mVar 3))) (mC (.int 5099))) (mC (.int 5))) (mNil))) (mC (.int 2147483563))))
    (mSeq (mAsg (gfName 5) (mOp modD (mArgs intD (mCons (mOp powD (mOp addD (mOp addD (mOp mulD (mVar 5) (mOp addD (mOp mulD (mC (.int 2)) (mVar 3)) (mC (.int 4441)))) (mOp mulD (mOp mulD (mC (.int 71069)) (mVar 3)) (mVar 3))) (mC (.int 88037))) (mC (.int 3))) (mNil))) (mC (.int 2147483587))))
    (mRet (mOp modD (mArgs intD (mCons (mOp fdivD (mVar 5) (mC (.int 64))) (mNil))) (mVar 1))))))))))
def con__law_horse : Con := conDraw
def m__law_one : MS := mRet (mOp ixD (mVar 1) (mCall con__law_horse (mCons (mVar 0) (mCons (mArgs lenD (mCons (mVar 1) (mNil))) (mNil)))))
def con__law_one : Con := conOf 2 2 m__law_one
def m__law_clock : MS := mRet (mCall con__law_one (mCons (mVar 0) (mCons (mArgs lstD (mCons (mC (.int 3)) (mCons (mC (.int 5)) (mCons (mC (.int 7)) (mCons (mC (.int 3)) (mCons (mC (.int 5)) (mCons (mC (.int 11)) (mCons (mC (.int 13)) (mCons (mC (.int 17)) (mCons (mC (.int 19)) (mCons (mC (.int 23)) (mCons (mC (.int 29)) (mCons (mC (.int 31)) (mNil)))))))))))))) (mNil))))
def con__law_clock : Con := conOf 1 1 m__law_clock
def m__law_least : MS := mSeq (mParO true false 2 3 (mLc (mIter (mVar 1)) (gfName 9) [9] (mYes) (mArgs listD (mCons (mVar 9) (mNil)))) (mArgs lstD (mNil)))
    (mSeq (mFor (mRange1 (mIfE (mBorT 2 (mBl (mOp neX (mVar 2) (mArgs lstD (mNil))))) (mArgs lenD (mCons (mIxO 2 (mC (.int 0))) (mNil))) (mC (.int 0)))) (gfName 4) (mSeq (mAsg (gfName 5) (mLc (mEnumO 2) (gfTup (gsCons (gfName 10) (gsCons (gfName 9) (gsNil)))) [10, 9] (mBl (mOp neX (mOp ixD (mVar 9) (mVar 4)) (mC (.int 0)))) (mVar 10)))
    (mIf (mBl (mOp neX (mVar 5) (mArgs lstD (mNil)))) (mSeq (mPopO 6 2 (mOp ixD (mVar 5) (mC (.int 0))))
    (mSeq (mAsg (gfName 7) (mOp ixD (mLc (mRange1 (mVar 0)) (gfName 11) [11] (mBl (mOp eqX (mOp modD (mArgs intD (mCons (mOp mulD (mVar 11) (mOp ixD (mVar 6) (mVar 4))) (mNil))) (mVar 0)) (mC (.int 1)))) (mVar 11)) (mC (.int 0))))
    (mSeq (mAsg (gfName 8) (mLc (mIter (mVar 6)) (gfName 12) [12] (mYes) (mOp modD (mArgs intD (mCons (mOp mulD (mVar 7) (mVar 12)) (mNil))) (mVar 0))))
    (mSeq (mAsgO 2 (mLc (mIterO 2) (gfName 9) [9] (mYes) (mLc (mZip (mVar 9) (mVar 8)) (gfTup (gsCons (gfName 12) (gsCons (gfName 13) (gsNil)))) [12, 13] (mYes) (mOp modD (mArgs intD (mCons (mOp subD (mVar 12) (mOp mulD (mOp ixD (mVar 9) (mVar 4)) (mVar 13))) (mNil))) (mVar 0)))))
    (mAsg (gfName 3) (mOp addD (mLc (mIter (mVar 3)) (gfName 9) [9] (mYes) (mLc (mZip (mVar 9) (mVar 8)) (gfTup (gsCons (gfName 12) (gsCons (gfName 13) (gsNil)))) [12, 13] (mYes) (mOp modD (mArgs intD (mCons (mOp subD (mVar 12) (mOp mulD (mOp ixD (mVar 9) (mVar 4)) (mVar 13))) (mNil))) (mVar 0)))) (mArgs lstD (mCons (mVar 8) (mNil))))))))) (mNext))))
    (mRet (mArgs tupleD (mCons (mLc (mIter (mVar 3)) (gfName 9) [9] (mYes) (mArgs tupleD (mCons (mVar 9) (mNil)))) (mNil)))))
def con__law_least : Con := conOf 2 14 m__law_least
def m_law : MS := mSeq (mFor (mRange1 (mC (.int 3))) (gfName 2) (mSeq (mAsg (gfTup (gsCons (gfName 3) (gsCons (gfName 4) (gsNil)))) (mArgs tupD (mCons (mCall con__law_clock (mCons (mVar 1) (mNil))) (mCons (mCall con__law_one (mCons (mVar 1) (mCons (mArgs lstD (mCons (mOp addD (mC (.int 1)) (mCall con__law_horse (mCons (mVar 1) (mCons (mC (.int 16)) (mNil))))) (mCons (mC (.int 4)) (mCons (mC (.int 6)) (mCons (mC (.int 3)) (mCons (mC (.int 40)) (mNil))))))) (mNil)))) (mNil)))))
    (mSeq (mAsg (gfName 6) (mLc (mRange1 (mCall con__law_horse (mCons (mVar 1) (mCons (mC (.int 6)) (mNil))))) (gfName 11) [11] (mYes) (mArgs tupleD (mCons (mLc (mRange1 (mVar 4)) (gfName 5) [5] (mYes) (mCall con__law_horse (mCons (mVar 1) (mCons (mVar 3) (mNil))))) (mNil)))))
    (mSeq (mAsg (gfTup (gsCons (gfName 7) (gsCons (gfName 5) (gsNil)))) (mArgs tupD (mCons (mCall con_Space (mCons (mVar 3) (mCons (mVar 4) (mCons (mVar 6) (mNil))))) (mCons (mCall con__law_horse (mCons (mVar 1) (mCons (mVar 4) (mNil)))) (mNil)))))
    (mSeq (mAsg (gfName 8) (mCall con__law_least (mCons (mVar 3) (mCons (mLc (mIter (mVar 6)) (gfName 11) [11] (mYes) (mOp addD (mSl (mVar 11) (mPart (mVar 5)) (mNoP)) (mSl (mVar 11) (mNoP) (mPart (mVar 5))))) (mNil)))))
    (mSeq (mAsg (gfName 9) (mCall con_turned_space (mCons (mVar 7) (mCons (mVar 5) (mNil)))))
    (mSeq (mIf (mOr (mBl (mOp neX (mArgs reprXD (mCons (mArgs lstD (mCons (mFld okI ("clock" : Str) (mVar 9)) (mCons (mFld okI ("size" : Str) (mVar 9)) (mCons (mFld okI ("rows" : Str) (mVar 9)) (mCons (mFld okI ("depth" : Str) (mVar 9)) (mNil)))))) (mNil))) (mArgs reprXD (mCons (mArgs lstD (mCons (mVar 3) (mCons (mVar 4) (mCons (mVar 8) (mCons (mArgs lenD (mCons (mVar 8) (mNil))) (mNil)))))) (mNil))))) (mBl (mEqI true eqC neX (mCallK con_turned_space 0 2 [1, 0] (mNil) (mCons (mVar 5) (mCons (mVar 7) (mNil)))) (mVar 9)))) (mRet (mC (.bl false))) (mNext))
    (mSeq (mAsg (gfName 10) (mCall con__law_horse (mCons (mVar 1) (mCons (mVar 4) (mNil)))))
    (mSeq (mIf (mOr (mBl (mEqI true eqC neX (mCall con_turned_space (mCons (mVar 9) (mCons (mVar 10) (mNil)))) (mCall con_turned_space (mCons (mVar 7) (mCons (mOp modD (mArgs intD (mCons (mOp addD (mVar 5) (mVar 10)) (mNil))) (mVar 4)) (mNil)))))) (mBl (mEqI true eqC neX (mCall con_turned_space (mCons (mVar 9) (mCons (mOp modD (mArgs intD (mCons (mOp subD (mVar 4) (mVar 5)) (mNil))) (mVar 4)) (mNil)))) (mVar 7)))) (mRet (mC (.bl false))) (mNext))
    (mIf (mOr (mBl (mEqI true eqC neX (mCall con_turned_space (mCons (mVar 7) (mCons (mC (.int 0)) (mNil)))) (mVar 7))) (mBl (mOp neX (mFld okI ("rows" : Str) (mVar 7)) (mCall con__law_least (mCons (mVar 3) (mCons (mVar 6) (mNil))))))) (mRet (mC (.bl false))) (mNext)))))))))))
    (mRet (mC (.bl true)))
structure Tx (K : PySem.W.Frag) (mg : Str → Option Value) : Prop where
  n_abs : mg "abs" = none
  n_all : mg "all" = none
  n_bool : mg "bool" = none
  n_enumerate : mg "enumerate" = none
  n_int : mg "int" = none
  n_isinstance : mg "isinstance" = none
  n_len : mg "len" = none
  n_list : mg "list" = none
  n_range : mg "range" = none
  n_repr : mg "repr" = none
  n_sorted : mg "sorted" = none
  n_str : mg "str" = none
  n_tuple : mg "tuple" = none
  n_zip : mg "zip" = none
  k_CLOCKS : KDat K mg "CLOCKS" c_CLOCKS
  k_FIGURES : KDat K mg "FIGURES" c_FIGURES
  k_MOST_FIGURES : KDat K mg "MOST_FIGURES" c_MOST_FIGURES
  k_MOST_GIVEN : KDat K mg "MOST_GIVEN" c_MOST_GIVEN
  k_MOST_SIZE : KDat K mg "MOST_SIZE" c_MOST_SIZE
structure Ex (K : PySem.W.Frag) (mg : Str → Option Value) (S : Sg) : Prop where
  xf : ∀ C nm, S.cn C = some nm → okT nm = true → XfC K C ∧ PySem.W.findIn K (.ref C) "part" = some none
structure Fl (K : PySem.W.Frag) (S : Sg) : Prop where
  fo : S.fo = foN
  f_clock : FldOk K S okI ("clock" : Str)
  f_depth : FldOk K S okI ("depth" : Str)
  f_rows : FldOk K S okI ("rows" : Str)
  f_size : FldOk K S okI ("size" : Str)
  f_words : FldOk K S okI ("words" : Str)
section
variable {P : Program} {w : World} {K : PySem.W.Frag} {mg : Str → Option Value} {base : Heap} {S : Sg}
theorem g_Space___eq__ {f : Addr} {fd : FuncData} (F : Fun K "__eq__" "Space.__eq__" s_Space___eq__ f fd) (T : Tx K mg) (L : Fl K S) (II_Space : IsI K mg S "Space" isi_Space) : FnG P w K mg base (L2.CX P w) 1 f fd [("self" : Str), ("other" : Str)] (spD K S con_Space___eq__) := by
  refine fng_con (k := 0) (N := [("self" : Str), ("other" : Str)]) (ms := m_Space___eq__) F sc_Space___eq__ rfl (fun _ _ _ _ h => h) fun cdv A out s H E B hg hr hcd => ?_
  have hu : A.units + 3 + 64 < cLine := by have := hr.un; show _; exact Nat.lt_of_le_of_lt (by show A.units + 3 + 64 ≤ A.units + 3 + 16 * 0 + 200; omega) this
  rw [le_Space___eq__] at hr ⊢
  exact dss_cons (ds_if (dt_not (dt_tru (de_isI T.n_isinstance II_Space (de_var 1)))) (dss_one (ds_ret (de_bl))) (dss_nil))
    (dss_one (ds_ret (de_cmp (oo_eqX hu) od_eqX (nomark _) (de_tup (da_cons (de_fld L.f_clock (de_var 0)) (da_cons (de_fld L.f_size (de_var 0)) (da_cons (de_fld L.f_rows (de_var 0)) (da_nil))))) (de_tup (da_cons (de_fld L.f_clock (de_var 1)) (da_cons (de_fld L.f_size (de_var 1)) (da_cons (de_fld L.f_rows (de_var 1)) (da_nil))))))))
theorem g_is_integer {f : Addr} {fd : FuncData} (F : Fun K "is_integer" "is_integer" s_is_integer f fd) (T : Tx K mg) (L : Fl K S) : FnG P w K mg base (L2.CX P w) 1 f fd [("value" : Str)] (spD K S con_is_integer) := by
  refine fng_con (k := 0) (N := [("value" : Str)]) (ms := m_is_integer) F sc_is_integer rfl (fun _ _ _ _ h => h) fun cdv A out s H E B hg hr hcd => ?_
  have hu : A.units + 3 + 64 < cLine := by have := hr.un; show _; exact Nat.lt_of_le_of_lt (by show A.units + 3 + 64 ≤ A.units + 3 + 16 * 0 + 200; omega) this
  rw [le_is_integer] at hr ⊢
  exact dss_one (ds_ret (de_and (de_callB call_isi cd_isi T.n_isinstance bb_isinstance (da_cons (de_var 0) (da_cons (de_ty rfl T.n_int bb_int) (da_nil)))) (de_one (de_not (de_callB call_isi cd_isi T.n_isinstance bb_isinstance (da_cons (de_var 0) (da_cons (de_ty rfl T.n_bool bb_bool) (da_nil))))))))
theorem g_is_within {f : Addr} {fd : FuncData} (F : Fun K "is_within" "is_within" s_is_within f fd) (T : Tx K mg) (L : Fl K S) (C_is_integer : Co P w K mg base S "is_integer" s_is_integer [("value" : Str)] con_is_integer 1) : FnG P w K mg base (L2.CX P w) 2 f fd [("value" : Str), ("least" : Str), ("most" : Str)] (spD K S con_is_within) := by
  refine fng_con (k := 1) (N := [("value" : Str), ("least" : Str), ("most" : Str)]) (ms := m_is_within) F sc_is_within rfl (fun _ _ _ _ h => h) fun cdv A out s H E B hg hr hcd => ?_
  have hu : A.units + 3 + 64 < cLine := by have := hr.un; show _; exact Nat.lt_of_le_of_lt (by show A.units + 3 + 64 ≤ A.units + 3 + 16 * 1 + 200; omega) this
  rw [le_is_within] at hr ⊢
  exact dss_cons (ds_if (dt_not (dt_tru (de_call (cal_of C_is_integer (hr.mono (by omega)) b_is_integer) hg xl0 (da_cons (de_var 0) (da_nil))))) (dss_one (ds_ret (de_bl))) (dss_nil))
    (dss_one (ds_ret (de_and (de_or (de_cmp oo_is od_is (nomark _) (de_var 1) (de_non)) (de_one (de_cmp op_le od_cmpI (nomark _) (de_var 1) (de_var 0)))) (de_one (de_or (de_cmp oo_is od_is (nomark _) (de_var 2) (de_non)) (de_one (de_cmp op_le od_cmpI (nomark _) (de_var 0) (de_var 2))))))))
theorem g_is_clock {f : Addr} {fd : FuncData} (F : Fun K "is_clock" "is_clock" s_is_clock f fd) (T : Tx K mg) (L : Fl K S) (C_is_integer : Co P w K mg base S "is_integer" s_is_integer [("value" : Str)] con_is_integer 1) : FnG P w K mg base (L2.CX P w) 2 f fd [("value" : Str)] (spD K S con_is_clock) := by
  refine fng_con (k := 1) (N := [("value" : Str)]) (ms := m_is_clock) F sc_is_clock rfl (fun _ _ _ _ h => h) fun cdv A out s H E B hg hr hcd => ?_
  have hu : A.units + 3 + 64 < cLine := by have := hr.un; show _; exact Nat.lt_of_le_of_lt (by show A.units + 3 + 64 ≤ A.units + 3 + 16 * 1 + 200; omega) this
  rw [le_is_clock] at hr ⊢
  exact dss_one (ds_ret (de_and (de_call (cal_of C_is_integer (hr.mono (by omega)) b_is_integer) hg xl0 (da_cons (de_var 0) (da_nil))) (de_one (de_cmp op_in_seq od_in (rfl) (de_var 0) (de_glob rfl T.k_CLOCKS)))))
theorem g_is_row {f : Addr} {fd : FuncData} (F : Fun K "is_row" "is_row" s_is_row f fd) (T : Tx K mg) (L : Fl K S) (C_is_within : Co P w K mg base S "is_within" s_is_within [("value" : Str), ("least" : Str), ("most" : Str)] con_is_within 2) : FnG P w K mg base (L2.CX P w) 3 f fd [("value" : Str), ("clock" : Str), ("size" : Str)] (spD K S con_is_row) := by
  refine fng_con (k := 2) (N := [("value" : Str), ("clock" : Str), ("size" : Str), ("each" : Str)]) (ms := m_is_row) F sc_is_row rfl (fun _ _ _ _ h => h) fun cdv A out s H E B hg hr hcd => ?_
  have hu : A.units + 3 + 64 < cLine := by have := hr.un; show _; exact Nat.lt_of_le_of_lt (by show A.units + 3 + 64 ≤ A.units + 3 + 16 * 2 + 200; omega) this
  rw [le_is_row] at hr ⊢
  exact dss_cons (ds_if (PW.pt (dw_or (dt_not (dt_tru (de_isi2 T.n_isinstance T.n_list T.n_tuple bb_list bb_tuple (de_var 0)))) (dw_or1 (dt_cmp (oo_neX hu) od_neX (nomark _) (de_callB call_len cd_len T.n_len bb_len (da_cons (de_var 0) (da_nil))) (de_var 2))))) (dss_one (ds_ret (de_bl))) (dss_nil))
    (dss_one (ds_ret (de_callB (cr_all rfl) cd_all T.n_all bb_all (da_cons (de_lcV rfl sc_is_row.nd (pic (di_seq (de_var 0))) bk_is_row_0 rfl (by decide) (fun _ _ _ _ _ => dg_name 3 sc_is_row.nd) (fun _ _ _ _ _ => dts_nil) (fun _ _ _ _ _ => de_call (cal_of C_is_within (hr.mono (by omega)) b_is_within) hg xl0 (da_cons (de_var 3) (da_cons (de_int) (da_cons (de_op op_sub od_sub (de_var 1) (de_int)) (da_nil)))))) (da_nil)))))
theorem g_need_number {f : Addr} {fd : FuncData} (F : Fun K "need_number" "need_number" s_need_number f fd) (T : Tx K mg) (L : Fl K S) (C_is_within : Co P w K mg base S "is_within" s_is_within [("value" : Str), ("least" : Str), ("most" : Str)] con_is_within 2) (N_BadNumber : Exn P w K mg base S "BadNumber" "part" 1) : FnG P w K mg base (L2.CX P w) 3 f fd [("value" : Str), ("part" : Str), ("least" : Str), ("most" : Str)] (spD K S con_need_number) := by
  refine fng_conX (k := 2) (N := [("value" : Str), ("part" : Str), ("least" : Str), ("most" : Str)]) (ms := m_need_number) F sc_need_number rfl (fun _ _ _ _ h => h) fun cdv A out s H E B ε hg hr hcd hx => ?_
  have hu : A.units + 3 + 64 < cLine := by have := hr.un; show _; exact Nat.lt_of_le_of_lt (by show A.units + 3 + 64 ≤ A.units + 3 + 16 * 2 + 200; omega) this
  rw [le_need_number] at hr hx ⊢
  exact dss_one (ds_if (dt_not (dt_tru (de_call (cal_of C_is_within (hr.mono (by omega)) b_is_within) hg hx (da_cons (de_var 0) (da_cons (de_var 2) (da_cons (de_var 3) (da_nil))))))) (dss_one (ds_raise N_BadNumber (hr.mono (by omega)) rfl hx (de_var 1))) (dss_nil))
theorem g_need_clock {f : Addr} {fd : FuncData} (F : Fun K "need_clock" "need_clock" s_need_clock f fd) (T : Tx K mg) (L : Fl K S) (C_is_clock : Co P w K mg base S "is_clock" s_is_clock [("value" : Str)] con_is_clock 2) (N_BadClock : Exn P w K mg base S "BadClock" "part" 1) : FnG P w K mg base (L2.CX P w) 3 f fd [("value" : Str)] (spD K S con_need_clock) := by
  refine fng_conX (k := 2) (N := [("value" : Str)]) (ms := m_need_clock) F sc_need_clock rfl (fun _ _ _ _ h => h) fun cdv A out s H E B ε hg hr hcd hx => ?_
  have hu : A.units + 3 + 64 < cLine := by have := hr.un; show _; exact Nat.lt_of_le_of_lt (by show A.units + 3 + 64 ≤ A.units + 3 + 16 * 2 + 200; omega) this
  rw [le_need_clock] at hr hx ⊢
  exact dss_one (ds_if (dt_not (dt_tru (de_call (cal_of C_is_clock (hr.mono (by omega)) b_is_clock) hg hx (da_cons (de_var 0) (da_nil))))) (dss_one (ds_raise N_BadClock (hr.mono (by omega)) rfl hx (de_str))) (dss_nil))
theorem g_inverse_in {f : Addr} {fd : FuncData} (F : Fun K "inverse_in" "inverse_in" s_inverse_in f fd) (T : Tx K mg) (L : Fl K S) : FnG P w K mg base (L2.CX P w) 1 f fd [("clock" : Str), ("number" : Str)] (spD K S con_inverse_in) := by
  refine fng_con (k := 0) (N := [("clock" : Str), ("number" : Str), ("found" : Str)]) (ms := m_inverse_in) F sc_inverse_in rfl (fun _ _ _ _ h => h) fun cdv A out s H E B hg hr hcd => ?_
  have hu : A.units + 3 + 64 < cLine := by have := hr.un; show _; exact Nat.lt_of_le_of_lt (by show A.units + 3 + 64 ≤ A.units + 3 + 16 * 0 + 200; omega) this
  rw [le_inverse_in] at hr ⊢
  exact dss_cons (ds_set 2 sc_inverse_in.nd (de_int))
    (dss_cons (ds_while PassesOwn.never (dt_cmp (oo_neX hu) od_neX (nomark _) (de_op op_mod od_mod (de_op oo_mul od_mul (de_var 1) (de_var 2)) (de_var 0)) (de_int)) (dss_one (ds_set 2 sc_inverse_in.nd (de_op oo_add od_add (de_var 2) (de_int)))))
    (dss_one (ds_ret (de_var 2))))
theorem g_times_in {f : Addr} {fd : FuncData} (F : Fun K "times_in" "times_in" s_times_in f fd) (T : Tx K mg) (L : Fl K S) : FnG P w K mg base (L2.CX P w) 1 f fd [("clock" : Str), ("number" : Str), ("row" : Str)] (spD K S con_times_in) := by
  refine fng_con (k := 0) (N := [("clock" : Str), ("number" : Str), ("row" : Str), ("each" : Str)]) (ms := m_times_in) F sc_times_in rfl (fun _ _ _ _ h => h) fun cdv A out s H E B hg hr hcd => ?_
  have hu : A.units + 3 + 64 < cLine := by have := hr.un; show _; exact Nat.lt_of_le_of_lt (by show A.units + 3 + 64 ≤ A.units + 3 + 16 * 0 + 200; omega) this
  rw [le_times_in] at hr ⊢
  exact dss_one (ds_ret (de_callT call_tuple_of cd_tuple T.n_tuple bb_tuple (da_cons (de_lcV rfl sc_times_in.nd (pic (di_seq (de_var 2))) bk_times_in_0 rfl (by decide) (fun _ _ _ _ _ => dg_name 3 sc_times_in.nd) (fun _ _ _ _ _ => dts_nil) (fun _ _ _ _ _ => de_op op_mod od_mod (de_op oo_mul od_mul (de_var 1) (de_var 3)) (de_var 0))) (da_nil))))
theorem g_lead_of {f : Addr} {fd : FuncData} (F : Fun K "lead_of" "lead_of" s_lead_of f fd) (T : Tx K mg) (L : Fl K S) : FnG P w K mg base (L2.CX P w) 1 f fd [("row" : Str)] (spD K S con_lead_of) := by
  refine fng_con (k := 0) (N := [("row" : Str), ("at" : Str), ("number" : Str)]) (ms := m_lead_of) F sc_lead_of rfl (fun _ _ _ _ h => h) fun cdv A out s H E B hg hr hcd => ?_
  have hu : A.units + 3 + 64 < cLine := by have := hr.un; show _; exact Nat.lt_of_le_of_lt (by show A.units + 3 + 64 ≤ A.units + 3 + 16 * 0 + 200; omega) this
  rw [le_lead_of] at hr ⊢
  exact dss_cons (ds_for PassesOwn.never rfl (di_enumA T.n_enumerate (de_var 0)) (dg_tup rfl (dgs_cons (dg_name 1 sc_lead_of.nd) (dgs_cons (dg_name 2 sc_lead_of.nd) (dgs_nil))) (gs_cons_len (gs_cons_len (gs_nil_len)))) (dss_one (ds_if (dt_cmp (oo_neX hu) od_neX (nomark _) (de_var 2) (de_int)) (dss_one (ds_ret (de_var 1))) (dss_nil))))
    (dss_one (ds_ret (de_non)))
theorem g_cleared {f : Addr} {fd : FuncData} (F : Fun K "cleared" "cleared" s_cleared f fd) (T : Tx K mg) (L : Fl K S) : FnG P w K mg base (L2.CX P w) 1 f fd [("clock" : Str), ("row" : Str), ("by" : Str), ("at" : Str)] (spD K S con_cleared) := by
  refine fng_con (k := 0) (N := [("clock" : Str), ("row" : Str), ("by" : Str), ("at" : Str), ("many" : Str), ("each" : Str), ("less" : Str)]) (ms := m_cleared) F sc_cleared rfl (fun _ _ _ _ h => h) fun cdv A out s H E B hg hr hcd => ?_
  have hu : A.units + 3 + 64 < cLine := by have := hr.un; show _; exact Nat.lt_of_le_of_lt (by show A.units + 3 + 64 ≤ A.units + 3 + 16 * 0 + 200; omega) this
  rw [le_cleared] at hr ⊢
  exact dss_cons (ds_set 4 sc_cleared.nd (de_ix (de_var 1) (de_var 3)))
    (dss_one (ds_ret (de_if (dt_cmp (oo_eqX hu) od_eqX (nomark _) (de_var 4) (de_int)) (de_var 1) (de_callT call_tuple_of cd_tuple T.n_tuple bb_tuple (da_cons (de_lcV rfl sc_cleared.nd (pic (di_zip T.n_zip (de_var 1) (de_var 2))) bk_cleared_0 rfl (by decide) (fun _ _ _ _ _ => dg_tup rfl (dgs_cons (dg_name 5 sc_cleared.nd) (dgs_cons (dg_name 6 sc_cleared.nd) (dgs_nil))) (gs_cons_len (gs_cons_len (gs_nil_len)))) (fun _ _ _ _ _ => dts_nil) (fun _ _ _ _ _ => de_op op_mod od_mod (de_op op_sub od_sub (de_var 5) (de_op oo_mul od_mul (de_var 4) (de_var 6))) (de_var 0))) (da_nil))))))
theorem g_cleared_by {f : Addr} {fd : FuncData} (F : Fun K "cleared_by" "cleared_by" s_cleared_by f fd) (T : Tx K mg) (L : Fl K S) (C_cleared : Co P w K mg base S "cleared" s_cleared [("clock" : Str), ("row" : Str), ("by" : Str), ("at" : Str)] con_cleared 1) : FnG P w K mg base (L2.CX P w) 2 f fd [("clock" : Str), ("row" : Str), ("form" : Str)] (spD K S con_cleared_by) := by
  refine fng_con (k := 1) (N := [("clock" : Str), ("row" : Str), ("form" : Str), ("lead" : Str), ("each" : Str)]) (ms := m_cleared_by) F sc_cleared_by rfl (fun _ _ _ _ h => h) fun cdv A out s H E B hg hr hcd => ?_
  have hu : A.units + 3 + 64 < cLine := by have := hr.un; show _; exact Nat.lt_of_le_of_lt (by show A.units + 3 + 64 ≤ A.units + 3 + 16 * 1 + 200; omega) this
  rw [le_cleared_by] at hr ⊢
  exact dss_cons (ds_for PassesOwn.never rfl (di_seq (de_var 2)) (dg_tup rfl (dgs_cons (dg_name 3 sc_cleared_by.nd) (dgs_cons (dg_name 4 sc_cleared_by.nd) (dgs_nil))) (gs_cons_len (gs_cons_len (gs_nil_len)))) (dss_one (ds_set 1 sc_cleared_by.nd (de_call (cal_of C_cleared (hr.mono (by omega)) b_cleared) hg xl0 (da_cons (de_var 0) (da_cons (de_var 1) (da_cons (de_var 4) (da_cons (de_var 3) (da_nil)))))))))
    (dss_one (ds_ret (de_var 1)))
theorem g_with_row {f : Addr} {fd : FuncData} (F : Fun K "with_row" "with_row" s_with_row f fd) (T : Tx K mg) (L : Fl K S) (C_inverse_in : Co P w K mg base S "inverse_in" s_inverse_in [("clock" : Str), ("number" : Str)] con_inverse_in 1) (C_times_in : Co P w K mg base S "times_in" s_times_in [("clock" : Str), ("number" : Str), ("row" : Str)] con_times_in 1) (C_lead_of : Co P w K mg base S "lead_of" s_lead_of [("row" : Str)] con_lead_of 1) (C_cleared : Co P w K mg base S "cleared" s_cleared [("clock" : Str), ("row" : Str), ("by" : Str), ("at" : Str)] con_cleared 1) (C_cleared_by : Co P w K mg base S "cleared_by" s_cleared_by [("clock" : Str), ("row" : Str), ("form" : Str)] con_cleared_by 2) : FnG P w K mg base (L2.CX P w) 3 f fd [("clock" : Str), ("form" : Str), ("row" : Str)] (spD K S con_with_row) := by
  refine fng_con (k := 2) (N := [("clock" : Str), ("form" : Str), ("row" : Str), ("left" : Str), ("lead" : Str), ("new" : Str), ("at" : Str), ("each" : Str)]) (ms := m_with_row) F sc_with_row rfl (fun _ _ _ _ h => h) fun cdv A out s H E B hg hr hcd => ?_
  have hu : A.units + 3 + 64 < cLine := by have := hr.un; show _; exact Nat.lt_of_le_of_lt (by show A.units + 3 + 64 ≤ A.units + 3 + 16 * 2 + 200; omega) this
  rw [le_with_row] at hr ⊢
  exact dss_cons (ds_set 3 sc_with_row.nd (de_call (cal_of C_cleared_by (hr.mono (by omega)) b_cleared_by) hg xl0 (da_cons (de_var 0) (da_cons (de_var 2) (da_cons (de_var 1) (da_nil))))))
    (dss_cons (ds_set 4 sc_with_row.nd (de_call (cal_of C_lead_of (hr.mono (by omega)) b_lead_of) hg xl0 (da_cons (de_var 3) (da_nil))))
    (dss_cons (ds_if (dt_cmp oo_is od_is (nomark _) (de_var 4) (de_non)) (dss_one (ds_ret (de_var 1))) (dss_nil))
    (dss_cons (ds_set 5 sc_with_row.nd (de_call (cal_of C_times_in (hr.mono (by omega)) b_times_in) hg xl0 (da_cons (de_var 0) (da_cons (de_call (cal_of C_inverse_in (hr.mono (by omega)) b_inverse_in) hg xl0 (da_cons (de_var 0) (da_cons (de_ix (de_var 3) (de_var 4)) (da_nil)))) (da_cons (de_var 3) (da_nil))))))
    (dss_one (ds_ret (de_sort T.n_sorted (de_lst (da_star (de_lcV rfl sc_with_row.nd (pic (di_seq (de_var 1))) bk_with_row_0 rfl (by decide) (fun _ _ _ _ _ => dg_tup rfl (dgs_cons (dg_name 6 sc_with_row.nd) (dgs_cons (dg_name 7 sc_with_row.nd) (dgs_nil))) (gs_cons_len (gs_cons_len (gs_nil_len)))) (fun _ _ _ _ _ => dts_nil) (fun _ _ _ _ _ => de_tup (da_cons (de_var 6) (da_cons (de_call (cal_of C_cleared (hr.mono (by omega)) b_cleared) hg xl0 (da_cons (de_var 0) (da_cons (de_var 7) (da_cons (de_var 5) (da_cons (de_var 4) (da_nil)))))) (da_nil))))) (da_cons (de_tup (da_cons (de_var 4) (da_cons (de_var 5) (da_nil)))) (da_nil))))))))))
theorem g_least_in {f : Addr} {fd : FuncData} (F : Fun K "least_in" "least_in" s_least_in f fd) (T : Tx K mg) (L : Fl K S) (C_with_row : Co P w K mg base S "with_row" s_with_row [("clock" : Str), ("form" : Str), ("row" : Str)] con_with_row 3) : FnG P w K mg base (L2.CX P w) 4 f fd [("clock" : Str), ("rows" : Str)] (spD K S con_least_in) := by
  refine fng_con (k := 3) (N := [("clock" : Str), ("rows" : Str), ("form" : Str), ("row" : Str), ("_" : Str)]) (ms := m_least_in) F sc_least_in rfl (fun _ _ _ _ h => h) fun cdv A out s H E B hg hr hcd => ?_
  have hu : A.units + 3 + 64 < cLine := by have := hr.un; show _; exact Nat.lt_of_le_of_lt (by show A.units + 3 + 64 ≤ A.units + 3 + 16 * 3 + 200; omega) this
  rw [le_least_in] at hr ⊢
  exact dss_cons (ds_set 2 sc_least_in.nd (de_lst (da_nil)))
    (dss_cons (ds_for PassesOwn.never rfl (di_seq (de_var 1)) (dg_name 3 sc_least_in.nd) (dss_one (ds_set 2 sc_least_in.nd (de_call (cal_of C_with_row (hr.mono (by omega)) b_with_row) hg xl0 (da_cons (de_var 0) (da_cons (de_var 2) (da_cons (de_var 3) (da_nil))))))))
    (dss_one (ds_ret (de_callT call_tuple_of cd_tuple T.n_tuple bb_tuple (da_cons (de_lcV rfl sc_least_in.nd (pic (di_seq (de_var 2))) bk_least_in_0 rfl (by decide) (fun _ _ _ _ _ => dg_tup rfl (dgs_cons (dg_name 4 sc_least_in.nd) (dgs_cons (dg_name 3 sc_least_in.nd) (dgs_nil))) (gs_cons_len (gs_cons_len (gs_nil_len)))) (fun _ _ _ _ _ => dts_nil) (fun _ _ _ _ _ => de_var 3)) (da_nil))))))
theorem g_need_rows {f : Addr} {fd : FuncData} (F : Fun K "need_rows" "need_rows" s_need_rows f fd) (T : Tx K mg) (L : Fl K S) (C_is_row : Co P w K mg base S "is_row" s_is_row [("value" : Str), ("clock" : Str), ("size" : Str)] con_is_row 3) (N_BadRow : Exn P w K mg base S "BadRow" "part" 1) : FnG P w K mg base (L2.CX P w) 4 f fd [("value" : Str), ("clock" : Str), ("size" : Str)] (spD K S con_need_rows) := by
  refine fng_conX (k := 3) (N := [("value" : Str), ("clock" : Str), ("size" : Str), ("row" : Str)]) (ms := m_need_rows) F sc_need_rows rfl (fun _ _ _ _ h => h) fun cdv A out s H E B ε hg hr hcd hx => ?_
  have hu : A.units + 3 + 64 < cLine := by have := hr.un; show _; exact Nat.lt_of_le_of_lt (by show A.units + 3 + 64 ≤ A.units + 3 + 16 * 3 + 200; omega) this
  rw [le_need_rows] at hr hx ⊢
  exact dss_cons (ds_if (PW.pt (dw_or (dt_not (dt_tru (de_isi2 T.n_isinstance T.n_list T.n_tuple bb_list bb_tuple (de_var 0)))) (dw_or1 (dt_cmp op_gt od_cmpI (nomark _) (de_callB call_len cd_len T.n_len bb_len (da_cons (de_var 0) (da_nil))) (de_glob rfl T.k_MOST_GIVEN))))) (dss_one (ds_raise N_BadRow (hr.mono (by omega)) rfl hx (de_str))) (dss_nil))
    (dss_cons (ds_if (dt_not (dt_tru (de_callB (cr_all rfl) cd_all T.n_all bb_all (da_cons (de_lcV rfl sc_need_rows.nd (pic (di_seq (de_var 0))) bk_need_rows_0 rfl (by decide) (fun _ _ _ _ _ => dg_name 3 sc_need_rows.nd) (fun _ _ _ _ _ => dts_nil) (fun _ _ _ _ _ => de_call (cal_of C_is_row (hr.mono (by omega)) b_is_row) hg xl0 (da_cons (de_var 3) (da_cons (de_var 1) (da_cons (de_var 2) (da_nil)))))) (da_nil))))) (dss_one (ds_raise N_BadRow (hr.mono (by omega)) rfl hx (de_str))) (dss_nil))
    (dss_one (ds_ret (de_lcV rfl sc_need_rows.nd (pic (di_seq (de_var 0))) bk_need_rows_1 rfl (by decide) (fun _ _ _ _ _ => dg_name 3 sc_need_rows.nd) (fun _ _ _ _ _ => dts_nil) (fun _ _ _ _ _ => de_callT call_tuple_of cd_tuple T.n_tuple bb_tuple (da_cons (de_var 3) (da_nil)))))))
theorem g_Space {f : Addr} {fd : FuncData} (F : Fun K "__init__" "Space.__init__" s_Space f fd) (T : Tx K mg) (L : Fl K S) (C_need_number : Co P w K mg base S "need_number" s_need_number [("value" : Str), ("part" : Str), ("least" : Str), ("most" : Str)] con_need_number 3) (C_need_clock : Co P w K mg base S "need_clock" s_need_clock [("value" : Str)] con_need_clock 3) (C_least_in : Co P w K mg base S "least_in" s_least_in [("clock" : Str), ("rows" : Str)] con_least_in 4) (C_need_rows : Co P w K mg base S "need_rows" s_need_rows [("value" : Str), ("clock" : Str), ("size" : Str)] con_need_rows 4) : FnG P w K mg base (L2.CX P w) 5 f fd [("self" : Str), ("clock" : Str), ("size" : Str), ("rows" : Str)] (spMk K S ("Space" : Str) con_Space) := by
  refine fng_conI (k := 4) (N := [("self" : Str), ("clock" : Str), ("size" : Str), ("rows" : Str)]) (ms := m_Space) F sc_Space rfl (by decide) (by rw [L.fo]; decide) (fun _ _ _ _ h => h) fun cdv A out s H H0 E B ε hg hr hcd hx => ?_
  have hu : A.units + 3 + 64 < cLine := by have := hr.un; show _; exact Nat.lt_of_le_of_lt (by show A.units + 3 + 64 ≤ A.units + 3 + 16 * 4 + 200; omega) this
  rw [le_Space] at hr hx ⊢
  exact dss_cons (ds_expr (de_call (cal_of C_need_clock (hr.mono (by omega)) b_need_clock) hg hx (da_cons (de_var 1) (da_nil))))
    (dss_cons (ds_expr (de_call (cal_of C_need_number (hr.mono (by omega)) b_need_number) hg hx (da_cons (de_var 2) (da_cons (de_str) (da_cons (de_int) (da_cons (de_glob rfl T.k_MOST_SIZE) (da_nil)))))))
    (dss_cons (ds_setF 0 L.fo L.f_clock (de_var 1))
    (dss_cons (ds_setF 0 L.fo L.f_size (de_var 2))
    (dss_cons (ds_setF 0 L.fo L.f_rows (de_call (cal_of C_least_in (hr.mono (by omega)) b_least_in) hg hx (da_cons (de_var 1) (da_cons (de_call (cal_of C_need_rows (hr.mono (by omega)) b_need_rows) hg hx (da_cons (de_var 3) (da_cons (de_var 1) (da_cons (de_var 2) (da_nil))))) (da_nil)))))
    (dss_one (ds_setF 0 L.fo L.f_depth (de_callB call_len cd_len T.n_len bb_len (da_cons (de_self 0 L.f_rows) (da_nil)))))))))
theorem g_space_in {f : Addr} {fd : FuncData} (F : Fun K "space_in" "space_in" s_space_in f fd) (T : Tx K mg) (L : Fl K S) (C_least_in : Co P w K mg base S "least_in" s_least_in [("clock" : Str), ("rows" : Str)] con_least_in 4) (IN_Space : Mkc P w K mg base S ("Space" : Str) ("Space" : Str) "Space.__init__" s_Space [("self" : Str), ("clock" : Str), ("size" : Str), ("rows" : Str)] con_Space 5) : FnG P w K mg base (L2.CX P w) 7 f fd [("clock" : Str), ("size" : Str), ("rows" : Str)] (spD K S con_space_in) := by
  refine fng_conX (k := 6) (N := [("clock" : Str), ("size" : Str), ("rows" : Str)]) (ms := m_space_in) F sc_space_in rfl (fun _ _ _ _ h => h) fun cdv A out s H E B ε hg hr hcd hx => ?_
  have hu : A.units + 3 + 64 < cLine := by have := hr.un; show _; exact Nat.lt_of_le_of_lt (by show A.units + 3 + 64 ≤ A.units + 3 + 16 * 6 + 200; omega) this
  rw [le_space_in] at hr hx ⊢
  exact dss_one (ds_ret (de_make IN_Space (hr.mono (by omega)) b_Space hg hx (da_cons (de_var 0) (da_cons (de_var 1) (da_cons (de_call (cal_of C_least_in (hr.mono (by omega)) b_least_in) hg hx (da_cons (de_var 0) (da_cons (de_var 2) (da_nil)))) (da_nil)))) rfl))
theorem g_need_space {f : Addr} {fd : FuncData} (F : FunV K "need_space" s_need_space f fd dd_need_space) (T : Tx K mg) (L : Fl K S) (II_Space : IsI K mg S "Space" isi_Space) (N_BadSpace : Exn P w K mg base S "BadSpace" "part" 1) : FnG P w K mg base (L2.CX P w) 3 f fd [("value" : Str), ("part" : Str)] (spD K S con_need_space) := by
  refine fng_conXV (k := 2) (N := [("value" : Str), ("part" : Str)]) (ms := m_need_space) F sc_need_space rfl (fun _ _ _ _ h => h) fun cdv A out s H E B ε hg hr hcd hx => ?_
  have hu : A.units + 3 + 64 < cLine := by have := hr.un; show _; exact Nat.lt_of_le_of_lt (by show A.units + 3 + 64 ≤ A.units + 3 + 16 * 2 + 200; omega) this
  rw [le_need_space] at hr hx ⊢
  exact dss_one (ds_if (dt_not (dt_tru (de_isI T.n_isinstance II_Space (de_var 0)))) (dss_one (ds_raise N_BadSpace (hr.mono (by omega)) rfl hx (de_var 1))) (dss_nil))
theorem g_turned_rows {f : Addr} {fd : FuncData} (F : Fun K "turned_rows" "turned_rows" s_turned_rows f fd) (T : Tx K mg) (L : Fl K S) : FnG P w K mg base (L2.CX P w) 1 f fd [("rows" : Str), ("gap" : Str)] (spD K S con_turned_rows) := by
  refine fng_con (k := 0) (N := [("rows" : Str), ("gap" : Str), ("row" : Str)]) (ms := m_turned_rows) F sc_turned_rows rfl (fun _ _ _ _ h => h) fun cdv A out s H E B hg hr hcd => ?_
  have hu : A.units + 3 + 64 < cLine := by have := hr.un; show _; exact Nat.lt_of_le_of_lt (by show A.units + 3 + 64 ≤ A.units + 3 + 16 * 0 + 200; omega) this
  rw [le_turned_rows] at hr ⊢
  exact dss_one (ds_ret (de_lcV rfl sc_turned_rows.nd (pic (di_seq (de_var 0))) bk_turned_rows_0 rfl (by decide) (fun _ _ _ _ _ => dg_name 2 sc_turned_rows.nd) (fun _ _ _ _ _ => dts_nil) (fun _ _ _ _ _ => de_tup (da_star (de_sl (de_var 2) (do_some (de_var 1)) (do_none)) (da_star (de_sl (de_var 2) (do_none) (do_some (de_var 1))) (da_nil))))))
theorem g_turned_space {f : Addr} {fd : FuncData} (F : Fun K "turned_space" "turned_space" s_turned_space f fd) (T : Tx K mg) (L : Fl K S) (C_need_number : Co P w K mg base S "need_number" s_need_number [("value" : Str), ("part" : Str), ("least" : Str), ("most" : Str)] con_need_number 3) (C_space_in : Co P w K mg base S "space_in" s_space_in [("clock" : Str), ("size" : Str), ("rows" : Str)] con_space_in 7) (C_need_space : CoV P w K mg base S "need_space" s_need_space [("value" : Str), ("part" : Str)] dd_need_space con_need_space 3) (C_turned_rows : Co P w K mg base S "turned_rows" s_turned_rows [("rows" : Str), ("gap" : Str)] con_turned_rows 1) : FnG P w K mg base (L2.CX P w) 8 f fd [("space" : Str), ("gap" : Str)] (spD K S con_turned_space) := by
  refine fng_conX (k := 7) (N := [("space" : Str), ("gap" : Str)]) (ms := m_turned_space) F sc_turned_space rfl (fun _ _ _ _ h => h) fun cdv A out s H E B ε hg hr hcd hx => ?_
  have hu : A.units + 3 + 64 < cLine := by have := hr.un; show _; exact Nat.lt_of_le_of_lt (by show A.units + 3 + 64 ≤ A.units + 3 + 16 * 7 + 200; omega) this
  rw [le_turned_space] at hr hx ⊢
  exact dss_cons (ds_expr (de_callV C_need_space (hr.mono (by omega)) bv_need_space_1 (by decide) hg hx (da_cons (de_var 0) (da_nil))))
    (dss_cons (ds_expr (de_call (cal_of C_need_number (hr.mono (by omega)) b_need_number) hg hx (da_cons (de_var 1) (da_cons (de_str) (da_cons (de_int) (da_cons (de_op op_sub od_sub (de_fld L.f_size (de_var 0)) (de_int)) (da_nil)))))))
    (dss_one (ds_ret (de_call (cal_of C_space_in (hr.mono (by omega)) b_space_in) hg hx (da_cons (de_fld L.f_clock (de_var 0)) (da_cons (de_fld L.f_size (de_var 0)) (da_cons (de_call (cal_of C_turned_rows (hr.mono (by omega)) b_turned_rows) hg hx (da_cons (de_fld L.f_rows (de_var 0)) (da_cons (de_var 1) (da_nil)))) (da_nil))))))))
theorem g__law_carousel {f : Addr} {fd : FuncData} (F : Fun K "_law_carousel" "_law_carousel" s__law_carousel f fd) (T : Tx K mg) (L : Fl K S) : FnG P w K mg base (L2.CX P w) 1 f fd [("_law_script" : Str)] (spQuay K S) := by
  refine fng_quay (k := 0) (me := m__law_carousel) F sc__law_carousel rfl (fun ns kk h => quay_ok h) fun cdv A out s H E hg hr hcd => ?_
  rw [le__law_carousel] at hr ⊢
  exact de_lcV rfl sc__law_carousel.nd (pic (di_seq (de_sl (de_var 0) (do_none) (do_some (de_int))))) bk__law_carousel_0 rfl (by decide) (fun _ _ _ _ _ => dg_name 1 sc__law_carousel.nd) (fun _ _ _ _ _ => dts_nil) (fun _ _ _ _ _ => de_callT call_int1 cd_int T.n_int bb_int (da_cons (de_var 1) (da_nil)))
theorem g__law_horse {f : Addr} {fd : FuncData} (F : Fun K "_law_horse" "_law_horse" s__law_horse f fd) (T : Tx K mg) (L : Fl K S) (hcon : ∀ cells ds n kk, conDraw noX ds n kk → conOf 2 6 (m__law_horse cells) noX ds n kk) : FnG P w K mg base (L2.CX P w) 1 f fd [("_law_carousel_here" : Str), ("_law_many" : Str)] (spD K S con__law_horse) := by
  refine fng_draw (k := 0) (N := [("_law_carousel_here" : Str), ("_law_many" : Str), ("_law_left" : Str), ("_law_turn" : Str), ("_law_cell" : Str), ("_law_mixed" : Str)]) (ms := m__law_horse) F sc__law_horse rfl hcon fun cdv A out s H E b cl cells hg hr hcd => ?_
  have hu : A.units + 3 + 64 < cLine := by have := hr.un; show _; exact Nat.lt_of_le_of_lt (by show A.units + 3 + 64 ≤ A.units + 3 + 16 * 0 + 200; omega) this
  rw [le__law_horse] at hr ⊢
  exact dss_cons (ds_if (dt_cmp op_gt od_cmpI (nomark _) (de_box2 0) (de_int)) (dss_cons (ds_set 2 sc__law_horse.nd (de_callT call_int1 cd_int T.n_int bb_int (da_cons (de_box2 0) (da_nil))))
    (dss_cons (ds_box2 0 (de_op op_fdiv od_fdiv (de_var 2) (de_var 1)))
    (dss_one (ds_ret (de_op op_mod od_mod (de_callT call_int1 cd_int T.n_int bb_int (da_cons (de_var 2) (da_nil))) (de_var 1)))))) (dss_nil))
    (dss_cons (ds_set 3 sc__law_horse.nd (de_box1 0))
    (dss_cons (ds_box1 0 (de_op oo_add od_add (de_var 3) (de_int)))
    (dss_cons (ds_set 4 sc__law_horse.nd (de_op oo_add od_add (de_op oo_mul od_mul (de_int) (de_var 3)) (de_int)))
    (dss_cons (ds_if (dt_cmp (oo_neX hu) od_neX (nomark _) (de_box0 0) (de_lst (da_nil))) (dss_one (ds_set 4 sc__law_horse.nd (de_ix (de_box0 0) (de_op op_mod od_mod (de_callT call_int1 cd_int T.n_int bb_int (da_cons (de_var 3) (da_nil))) (de_callB call_len cd_len T.n_len bb_len (da_cons (de_box0 0) (da_nil))))))) (dss_nil))
    (dss_cons (ds_if (PW.pt (dw_and (dt_cmp op_lt od_cmpI (nomark _) (de_var 3) (de_callB call_len cd_len T.n_len bb_len (da_cons (de_box0 0) (da_nil)))) (dw_and1 (dt_cmp op_ge od_cmpI (nomark _) (de_callB call_abs cd_abs T.n_abs bb_abs (da_cons (de_var 4) (da_nil))) (de_op op_pow od_pow (de_int) (de_int)))))) (dss_cons (ds_set 2 sc__law_horse.nd (de_op oo_add od_add (de_op oo_mul od_mul (de_int) (de_op op_sub od_sub (de_callB call_abs cd_abs T.n_abs bb_abs (da_cons (de_callT call_int1 cd_int T.n_int bb_int (da_cons (de_var 4) (da_nil))) (da_nil))) (de_op op_pow od_pow (de_int) (de_int)))) (de_callT call_int1 cd_int T.n_int bb_int (da_cons (de_cmp op_lt od_cmpI (nomark _) (de_var 4) (de_int)) (da_nil)))))
    (dss_cons (ds_box2 0 (de_op op_fdiv od_fdiv (de_var 2) (de_var 1)))
    (dss_one (ds_ret (de_op op_mod od_mod (de_callT call_int1 cd_int T.n_int bb_int (da_cons (de_var 2) (da_nil))) (de_var 1)))))) (dss_nil))
    (dss_cons (ds_set 5 sc__law_horse.nd (de_op op_mod od_mod (de_callT call_int1 cd_int T.n_int bb_int (da_cons (de_op op_pow od_pow (de_op oo_add od_add (de_op oo_add od_add (de_op op_mod od_mod (de_callT call_int1 cd_int T.n_int bb_int (da_cons (de_var 4) (da_nil))) (de_int)) (de_op oo_mul od_mul (de_int) (de_var 3))) (de_int)) (de_int)) (da_nil))) (de_int)))
    (dss_cons (ds_set 5 sc__law_horse.nd (de_op op_mod od_mod (de_callT call_int1 cd_int T.n_int bb_int (da_cons (de_op op_pow od_pow (de_op oo_add od_add (de_op oo_add od_add (de_op oo_mul od_mul (de_var 5) (de_op oo_add od_add (de_op oo_mul od_mul (de_int) (de_var 3)) (de_int))) (de_op oo_mul od_mul (de_op oo_mul od_mul (de_int) (de_var 3)) (de_var 3))) (de_int)) (de_int)) (da_nil))) (de_int)))
    (dss_one (ds_ret (de_op op_mod od_mod (de_callT call_int1 cd_int T.n_int bb_int (da_cons (de_op op_fdiv od_fdiv (de_var 5) (de_int)) (da_nil))) (de_var 1)))))))))))
theorem g__law_one {f : Addr} {fd : FuncData} (F : Fun K "_law_one" "_law_one" s__law_one f fd) (T : Tx K mg) (L : Fl K S) (C__law_horse : Co P w K mg base S "_law_horse" s__law_horse [("_law_carousel_here" : Str), ("_law_many" : Str)] con__law_horse 1) : FnG P w K mg base (L2.CX P w) 2 f fd [("_law_carousel_here" : Str), ("_law_some" : Str)] (spD K S con__law_one) := by
  refine fng_con (k := 1) (N := [("_law_carousel_here" : Str), ("_law_some" : Str)]) (ms := m__law_one) F sc__law_one rfl (fun _ _ _ _ h => h) fun cdv A out s H E B hg hr hcd => ?_
  have hu : A.units + 3 + 64 < cLine := by have := hr.un; show _; exact Nat.lt_of_le_of_lt (by show A.units + 3 + 64 ≤ A.units + 3 + 16 * 1 + 200; omega) this
  rw [le__law_one] at hr ⊢
  exact dss_one (ds_ret (de_ix (de_var 1) (de_call (cal_of C__law_horse (hr.mono (by omega)) b__law_horse) hg xl0 (da_cons (de_var 0) (da_cons (de_callB call_len cd_len T.n_len bb_len (da_cons (de_var 1) (da_nil))) (da_nil))))))
theorem g__law_clock {f : Addr} {fd : FuncData} (F : Fun K "_law_clock" "_law_clock" s__law_clock f fd) (T : Tx K mg) (L : Fl K S) (C__law_one : Co P w K mg base S "_law_one" s__law_one [("_law_carousel_here" : Str), ("_law_some" : Str)] con__law_one 2) : FnG P w K mg base (L2.CX P w) 3 f fd [("_law_carousel_here" : Str)] (spD K S con__law_clock) := by
  refine fng_con (k := 2) (N := [("_law_carousel_here" : Str)]) (ms := m__law_clock) F sc__law_clock rfl (fun _ _ _ _ h => h) fun cdv A out s H E B hg hr hcd => ?_
  have hu : A.units + 3 + 64 < cLine := by have := hr.un; show _; exact Nat.lt_of_le_of_lt (by show A.units + 3 + 64 ≤ A.units + 3 + 16 * 2 + 200; omega) this
  rw [le__law_clock] at hr ⊢
  exact dss_one (ds_ret (de_call (cal_of C__law_one (hr.mono (by omega)) b__law_one) hg xl0 (da_cons (de_var 0) (da_cons (de_lst (da_cons (de_int) (da_cons (de_int) (da_cons (de_int) (da_cons (de_int) (da_cons (de_int) (da_cons (de_int) (da_cons (de_int) (da_cons (de_int) (da_cons (de_int) (da_cons (de_int) (da_cons (de_int) (da_cons (de_int) (da_nil)))))))))))))) (da_nil)))))
theorem g__law_least {f : Addr} {fd : FuncData} (F : Fun K "_law_least" "_law_least" s__law_least f fd) (T : Tx K mg) (L : Fl K S) : FnG P w K mg base (L2.CX P w) 1 f fd [("_law_clock_here" : Str), ("_law_rows" : Str)] (spD K S con__law_least) := by
  refine fng_con (k := 0) (N := [("_law_clock_here" : Str), ("_law_rows" : Str), ("_law_left" : Str), ("_law_found" : Str), ("_law_at" : Str), ("_law_spots" : Str), ("_law_first" : Str), ("_law_by" : Str), ("_law_lead" : Str), ("_law_row" : Str), ("_law_spot" : Str), ("_law_number" : Str), ("_law_each" : Str), ("_law_its" : Str)]) (ms := m__law_least) F sc__law_least rfl (fun _ _ _ _ h => h) fun cdv A out s H E B hg hr hcd => ?_
  have hu : A.units + 3 + 64 < cLine := by have := hr.un; show _; exact Nat.lt_of_le_of_lt (by show A.units + 3 + 64 ≤ A.units + 3 + 16 * 0 + 200; omega) this
  rw [le__law_least] at hr ⊢
  exact dss_cons (ds_parO1 2 3 rfl sc__law_least.nd rfl rfl (by decide) rfl rfl (dn_lc rfl sc__law_least.nd (pic (di_seq (de_var 1))) bk__law_least_0 rfl (by decide) (fun _ _ _ _ _ => dg_name 9 sc__law_least.nd) (fun _ _ _ _ _ => dts_nil) (fun _ _ _ _ _ => de_callT call_list_of cd_list T.n_list bb_list (da_cons (de_var 9) (da_nil)))) (de_lst (da_nil)) rfl)
    (dss_cons (ds_for PassesOwn.never rfl (di_range1 T.n_range (de_if (dt_bor 2 (dt_cmp (oo_neX hu) od_neX (nomark _) (de_var 2) (de_lst (da_nil)))) (de_callB call_len cd_len T.n_len bb_len (da_cons (de_ixO 2 (de_int)) (da_nil))) (de_int))) (dg_name 4 sc__law_least.nd) (dss_cons (ds_setLcV 5 rfl sc__law_least.nd rfl rfl (sw_true rfl rfl rfl rfl) (di_enumO 2 T.n_enumerate) bk__law_least_1 rfl (by decide) (fun _ _ _ _ _ => dg_tup rfl (dgs_cons (dg_name 10 sc__law_least.nd) (dgs_cons (dg_name 9 sc__law_least.nd) (dgs_nil))) (gs_cons_len (gs_cons_len (gs_nil_len)))) (fun _ _ _ _ _ => dts_one (dt_cmp (oo_neX hu) od_neX (nomark _) (de_ix (de_var 9) (de_var 4)) (de_int))) (fun _ _ _ _ _ => de_var 10))
    (dss_one (ds_if (dt_cmp (oo_neX hu) od_neX (nomark _) (de_var 5) (de_lst (da_nil))) (dss_cons (ds_popO 6 2 sc__law_least.nd (de_ix (de_var 5) (de_int)))
    (dss_cons (ds_set 7 sc__law_least.nd (de_ix (de_lcV rfl sc__law_least.nd (pic (di_range1 T.n_range (de_var 0))) bk__law_least_2 rfl (by decide) (fun _ _ _ _ _ => dg_name 11 sc__law_least.nd) (fun _ _ _ _ _ => dts_one (dt_cmp (oo_eqX hu) od_eqX (nomark _) (de_op op_mod od_mod (de_callT call_int1 cd_int T.n_int bb_int (da_cons (de_op oo_mul od_mul (de_var 11) (de_ix (de_var 6) (de_var 4))) (da_nil))) (de_var 0)) (de_int))) (fun _ _ _ _ _ => de_var 11)) (de_int)))
    (dss_cons (ds_set 8 sc__law_least.nd (de_lcV rfl sc__law_least.nd (pic (di_seq (de_var 6))) bk__law_least_3 rfl (by decide) (fun _ _ _ _ _ => dg_name 12 sc__law_least.nd) (fun _ _ _ _ _ => dts_nil) (fun _ _ _ _ _ => de_op op_mod od_mod (de_callT call_int1 cd_int T.n_int bb_int (da_cons (de_op oo_mul od_mul (de_var 7) (de_var 12)) (da_nil))) (de_var 0))))
    (dss_cons (ds_setLcO 2 rfl sc__law_least.nd rfl rfl (sw_true rfl rfl rfl rfl) (di_seqO 2) bk__law_least_4 rfl (by decide) (fun _ _ _ _ _ => dg_name 9 sc__law_least.nd) (fun _ _ _ _ _ => dts_nil) (fun _ _ _ _ _ => de_lcV rfl sc__law_least.nd (pic (di_zip T.n_zip (de_var 9) (de_var 8))) bk__law_least_5 rfl (by decide) (fun _ _ _ _ _ => dg_tup rfl (dgs_cons (dg_name 12 sc__law_least.nd) (dgs_cons (dg_name 13 sc__law_least.nd) (dgs_nil))) (gs_cons_len (gs_cons_len (gs_nil_len)))) (fun _ _ _ _ _ => dts_nil) (fun _ _ _ _ _ => de_op op_mod od_mod (de_callT call_int1 cd_int T.n_int bb_int (da_cons (de_op op_sub od_sub (de_var 12) (de_op oo_mul od_mul (de_ix (de_var 9) (de_var 4)) (de_var 13))) (da_nil))) (de_var 0))))
    (dss_one (ds_set 3 sc__law_least.nd (de_op oo_add od_add (de_lcV rfl sc__law_least.nd (pic (di_seq (de_var 3))) bk__law_least_6 rfl (by decide) (fun _ _ _ _ _ => dg_name 9 sc__law_least.nd) (fun _ _ _ _ _ => dts_nil) (fun _ _ _ _ _ => de_lcV rfl sc__law_least.nd (pic (di_zip T.n_zip (de_var 9) (de_var 8))) bk__law_least_7 rfl (by decide) (fun _ _ _ _ _ => dg_tup rfl (dgs_cons (dg_name 12 sc__law_least.nd) (dgs_cons (dg_name 13 sc__law_least.nd) (dgs_nil))) (gs_cons_len (gs_cons_len (gs_nil_len)))) (fun _ _ _ _ _ => dts_nil) (fun _ _ _ _ _ => de_op op_mod od_mod (de_callT call_int1 cd_int T.n_int bb_int (da_cons (de_op op_sub od_sub (de_var 12) (de_op oo_mul od_mul (de_ix (de_var 9) (de_var 4)) (de_var 13))) (da_nil))) (de_var 0)))) (de_lst (da_cons (de_var 8) (da_nil)))))))))) (dss_nil)))))
    (dss_one (ds_ret (de_callT call_tuple_of cd_tuple T.n_tuple bb_tuple (da_cons (de_lcV rfl sc__law_least.nd (pic (di_seq (de_var 3))) bk__law_least_8 rfl (by decide) (fun _ _ _ _ _ => dg_name 9 sc__law_least.nd) (fun _ _ _ _ _ => dts_nil) (fun _ _ _ _ _ => de_callT call_tuple_of cd_tuple T.n_tuple bb_tuple (da_cons (de_var 9) (da_nil)))) (da_nil))))))
theorem g_law {f : Addr} {fd : FuncData} (F : Fun K "law" "law" s_law f fd) (T : Tx K mg) (L : Fl K S) (EQ : EqAll P w K mg base S eqC 1) (IN_Space : Mkc P w K mg base S ("Space" : Str) ("Space" : Str) "Space.__init__" s_Space [("self" : Str), ("clock" : Str), ("size" : Str), ("rows" : Str)] con_Space 5) (C_turned_space : Co P w K mg base S "turned_space" s_turned_space [("space" : Str), ("gap" : Str)] con_turned_space 8) (C__law_horse : Co P w K mg base S "_law_horse" s__law_horse [("_law_carousel_here" : Str), ("_law_many" : Str)] con__law_horse 1) (C__law_one : Co P w K mg base S "_law_one" s__law_one [("_law_carousel_here" : Str), ("_law_some" : Str)] con__law_one 2) (C__law_clock : Co P w K mg base S "_law_clock" s__law_clock [("_law_carousel_here" : Str)] con__law_clock 3) (C__law_least : Co P w K mg base S "_law_least" s__law_least [("_law_clock_here" : Str), ("_law_rows" : Str)] con__law_least 1) {fq : Addr} {fdq : FuncData} (FQ : FnG P w K mg base (L2.CX P w) 1 fq fdq [("_law_script" : Str)] (spQuay K S)) (hmq : mg "_law_carousel" = some (.ref fq)) (hkq : PySem.W.keepIn K (.ref fq) = true) (hbq : Binds K fdq [("_law_script" : Str)] [])
    (hms : m_law noX ((List.replicate 12 Sl.no).set 1 (.val .box)) 0 { nx := fun _ _ => False, rt := fun d _ => d = .bl true }) : FnG P w K mg base (L2.CX P w) 9 f fd [("_law_script" : Str)] (spLaw K S) := by
  refine fng_law (S := S) (k := 8) (i := 1) (N := [("_law_script" : Str), ("_law_carousel_here" : Str), ("_law_turn" : Str), ("_law_clock_here" : Str), ("_law_size" : Str), ("_law_gap" : Str), ("_law_rows" : Str), ("_law_space" : Str), ("_law_due" : Str), ("_law_told" : Str), ("_law_more" : Str), ("_law_row" : Str)]) (ms := m_law) F sc_law FQ (by decide) hmq hkq hbq rfl rfl rfl (by decide) (by decide) (Or.inl rfl) (by first | exact Or.inl rfl | exact Or.inr rfl) rfl (by decide) (by decide) (by decide) (fun _ => rfl) (fun _ => rfl) (fun _ => rfl) hms fun cdv A out s H H1 E b cl cells hg hr hcd => ?_
  have hu : A.units + 3 + 64 < cLine := by have := hr.un; show _; exact Nat.lt_of_le_of_lt (by show A.units + 3 + 64 ≤ A.units + 3 + 16 * 8 + 200; omega) this
  rw [le_law] at hr ⊢
  exact dss_cons (ds_for PassesOwn.never rfl (di_range1 T.n_range (de_int)) (dg_name 2 sc_law.nd) (dss_cons (ds_asg (de_tup (da_cons (de_call (cal_of C__law_clock (hr.mono (by omega)) b__law_clock) hg xl0 (da_cons (de_var 1) (da_nil))) (da_cons (de_call (cal_of C__law_one (hr.mono (by omega)) b__law_one) hg xl0 (da_cons (de_var 1) (da_cons (de_lst (da_cons (de_op oo_add od_add (de_int) (de_call (cal_of C__law_horse (hr.mono (by omega)) b__law_horse) hg xl0 (da_cons (de_var 1) (da_cons (de_int) (da_nil))))) (da_cons (de_int) (da_cons (de_int) (da_cons (de_int) (da_cons (de_int) (da_nil))))))) (da_nil)))) (da_nil)))) (dg_tup rfl (dgs_cons (dg_name 3 sc_law.nd) (dgs_cons (dg_name 4 sc_law.nd) (dgs_nil))) (gs_cons_len (gs_cons_len (gs_nil_len)))))
    (dss_cons (ds_setLcV 6 rfl sc_law.nd rfl rfl (sw_true rfl rfl rfl rfl) (pic (di_range1 T.n_range (de_call (cal_of C__law_horse (hr.mono (by omega)) b__law_horse) hg xl0 (da_cons (de_var 1) (da_cons (de_int) (da_nil)))))) bk_law_0 rfl (by decide) (fun _ _ _ _ _ => dg_name 11 sc_law.nd) (fun _ _ _ _ _ => dts_nil) (fun _ _ _ _ _ => de_callT call_tuple_of cd_tuple T.n_tuple bb_tuple (da_cons (de_lcV rfl sc_law.nd (pic (di_range1 T.n_range (de_var 4))) bk_law_1 rfl (by decide) (fun _ _ _ _ _ => dg_name 5 sc_law.nd) (fun _ _ _ _ _ => dts_nil) (fun _ _ _ _ _ => de_call (cal_of C__law_horse (hr.mono (by omega)) b__law_horse) hg xl0 (da_cons (de_var 1) (da_cons (de_var 3) (da_nil))))) (da_nil))))
    (dss_cons (ds_asg (de_tup (da_cons (de_make IN_Space (hr.mono (by omega)) b_Space hg xl0 (da_cons (de_var 3) (da_cons (de_var 4) (da_cons (de_var 6) (da_nil)))) rfl) (da_cons (de_call (cal_of C__law_horse (hr.mono (by omega)) b__law_horse) hg xl0 (da_cons (de_var 1) (da_cons (de_var 4) (da_nil)))) (da_nil)))) (dg_tup rfl (dgs_cons (dg_name 7 sc_law.nd) (dgs_cons (dg_name 5 sc_law.nd) (dgs_nil))) (gs_cons_len (gs_cons_len (gs_nil_len)))))
    (dss_cons (ds_set 8 sc_law.nd (de_call (cal_of C__law_least (hr.mono (by omega)) b__law_least) hg xl0 (da_cons (de_var 3) (da_cons (de_lcV rfl sc_law.nd (pic (di_seq (de_var 6))) bk_law_2 rfl (by decide) (fun _ _ _ _ _ => dg_name 11 sc_law.nd) (fun _ _ _ _ _ => dts_nil) (fun _ _ _ _ _ => de_op oo_add od_add (de_sl (de_var 11) (do_some (de_var 5)) (do_none)) (de_sl (de_var 11) (do_none) (do_some (de_var 5))))) (da_nil)))))
    (dss_cons (ds_set 9 sc_law.nd (de_call (cal_of C_turned_space (hr.mono (by omega)) b_turned_space) hg xl0 (da_cons (de_var 7) (da_cons (de_var 5) (da_nil)))))
    (dss_cons (ds_if (PW.pt (dw_or (dt_cmp (oo_neX hu) od_neX (nomark _) (de_callB (call_reprX hg hr) cd_reprX T.n_repr bb_repr (da_cons (de_lst (da_cons (de_fld L.f_clock (de_var 9)) (da_cons (de_fld L.f_size (de_var 9)) (da_cons (de_fld L.f_rows (de_var 9)) (da_cons (de_fld L.f_depth (de_var 9)) (da_nil)))))) (da_nil))) (de_callB (call_reprX hg hr) cd_reprX T.n_repr bb_repr (da_cons (de_lst (da_cons (de_var 3) (da_cons (de_var 4) (da_cons (de_var 8) (da_cons (de_callB call_len cd_len T.n_len bb_len (da_cons (de_var 8) (da_nil))) (da_nil)))))) (da_nil)))) (dw_or1 (dt_cmpI (.inr ⟨rfl, rfl⟩) EQ hg (hr.mono (by omega)) (oo_neX hu) od_neX (nomark _) (de_callK0 (calK_of C_turned_space (hr.mono (by omega)) kb_turned_space_0_gap_space) hg xl0 (dk_cons (de_var 5) (dk_cons (de_var 7) (dk_nil)))) (de_var 9))))) (dss_one (ds_ret (de_bl))) (dss_nil))
    (dss_cons (ds_set 10 sc_law.nd (de_call (cal_of C__law_horse (hr.mono (by omega)) b__law_horse) hg xl0 (da_cons (de_var 1) (da_cons (de_var 4) (da_nil)))))
    (dss_cons (ds_if (PW.pt (dw_or (dt_cmpI (.inr ⟨rfl, rfl⟩) EQ hg (hr.mono (by omega)) (oo_neX hu) od_neX (nomark _) (de_call (cal_of C_turned_space (hr.mono (by omega)) b_turned_space) hg xl0 (da_cons (de_var 9) (da_cons (de_var 10) (da_nil)))) (de_call (cal_of C_turned_space (hr.mono (by omega)) b_turned_space) hg xl0 (da_cons (de_var 7) (da_cons (de_op op_mod od_mod (de_callT call_int1 cd_int T.n_int bb_int (da_cons (de_op oo_add od_add (de_var 5) (de_var 10)) (da_nil))) (de_var 4)) (da_nil))))) (dw_or1 (dt_cmpI (.inr ⟨rfl, rfl⟩) EQ hg (hr.mono (by omega)) (oo_neX hu) od_neX (nomark _) (de_call (cal_of C_turned_space (hr.mono (by omega)) b_turned_space) hg xl0 (da_cons (de_var 9) (da_cons (de_op op_mod od_mod (de_callT call_int1 cd_int T.n_int bb_int (da_cons (de_op op_sub od_sub (de_var 4) (de_var 5)) (da_nil))) (de_var 4)) (da_nil)))) (de_var 7))))) (dss_one (ds_ret (de_bl))) (dss_nil))
    (dss_one (ds_if (PW.pt (dw_or (dt_cmpI (.inr ⟨rfl, rfl⟩) EQ hg (hr.mono (by omega)) (oo_neX hu) od_neX (nomark _) (de_call (cal_of C_turned_space (hr.mono (by omega)) b_turned_space) hg xl0 (da_cons (de_var 7) (da_cons (de_int) (da_nil)))) (de_var 7)) (dw_or1 (dt_cmp (oo_neX hu) od_neX (nomark _) (de_fld L.f_rows (de_var 7)) (de_call (cal_of C__law_least (hr.mono (by omega)) b__law_least) hg xl0 (da_cons (de_var 3) (da_cons (de_var 6) (da_nil)))))))) (dss_one (ds_ret (de_bl))) (dss_nil))))))))))))
    (dss_one (ds_ret (de_bl)))
end
theorem all_mk {l : PySem.W.OpenLaw} {q : Program} {w : World} {K : PySem.W.Frag} {h : Heap} {mg : Str → Option Value} {fa : Addr} (TT : ∃ loose mean mb, Top q loose mean mg mb h) (X : K.In h) (G : h.Ns mainGlobals mg) (hfa : mg "law" = some (.ref fa))
    {C_Space : Addr}
    {f0 : Addr} {od0 an0 : Option Addr} {sl0 : Array (Option Value)} {oc0 kV0 dc0 pm0 cd0 ct0 : Value}
    (e1_Space___eq__ : PySem.W.findIn K (.ref C_Space) "__eq__" = some (some (.ref f0))) (e2_Space___eq__ : PySem.W.isFn K (.ref f0) = true) (e3_Space___eq__ : PySem.W.findIn K (.ref C_Space) "__ne__" = some (some (.builtin "object.__ne__")))
    (en_Space___eq___Space : PySem.W.notFirst K C_Space (.ref C_Space) = true)
    (et_Space___eq___NoneType : PySem.W.notFirst K C_Space (.type "NoneType") = true)
    (et_Space___eq___bool : PySem.W.notFirst K C_Space (.type "bool") = true)
    (et_Space___eq___int : PySem.W.notFirst K C_Space (.type "int") = true)
    (et_Space___eq___str : PySem.W.notFirst K C_Space (.type "str") = true)
    (et_Space___eq___list : PySem.W.notFirst K C_Space (.type "list") = true)
    (et_Space___eq___tuple : PySem.W.notFirst K C_Space (.type "tuple") = true)
    (et_Space___eq___dict : PySem.W.notFirst K C_Space (.type "dict") = true)
    (l0 : K.lookup f0 = some ⟨oc0, od0, .func (PySem.W.fnOf "__eq__" "Space.__eq__" (defArgs s_Space___eq__) (defBody s_Space___eq__) (defScope s_Space___eq__) .none kV0 dc0 pm0 an0 (cd0) ct0), sl0⟩)
    (c0 : PySem.W.codeIn K (cd0) "Space.__eq__" = true) (k0 : PySem.W.keepIn K (.ref f0) = true)
    {f1 : Addr} {od1 an1 : Option Addr} {sl1 : Array (Option Value)} {oc1 kV1 dc1 pm1 cd1 ct1 : Value}
    (a1 : PySem.W.nsIn K mainGlobals "is_integer" = some (some (.ref f1)))
    (l1 : K.lookup f1 = some ⟨oc1, od1, .func (PySem.W.fnOf "is_integer" "is_integer" (defArgs s_is_integer) (defBody s_is_integer) (defScope s_is_integer) .none kV1 dc1 pm1 an1 (cd1) ct1), sl1⟩)
    (c1 : PySem.W.codeIn K (cd1) "is_integer" = true) (k1 : PySem.W.keepIn K (.ref f1) = true)
    {f2 : Addr} {od2 an2 : Option Addr} {sl2 : Array (Option Value)} {oc2 kV2 dc2 pm2 cd2 ct2 : Value}
    (a2 : PySem.W.nsIn K mainGlobals "is_within" = some (some (.ref f2)))
    (l2 : K.lookup f2 = some ⟨oc2, od2, .func (PySem.W.fnOf "is_within" "is_within" (defArgs s_is_within) (defBody s_is_within) (defScope s_is_within) .none kV2 dc2 pm2 an2 (cd2) ct2), sl2⟩)
    (c2 : PySem.W.codeIn K (cd2) "is_within" = true) (k2 : PySem.W.keepIn K (.ref f2) = true)
    {f3 : Addr} {od3 an3 : Option Addr} {sl3 : Array (Option Value)} {oc3 kV3 dc3 pm3 cd3 ct3 : Value}
    (a3 : PySem.W.nsIn K mainGlobals "is_clock" = some (some (.ref f3)))
    (l3 : K.lookup f3 = some ⟨oc3, od3, .func (PySem.W.fnOf "is_clock" "is_clock" (defArgs s_is_clock) (defBody s_is_clock) (defScope s_is_clock) .none kV3 dc3 pm3 an3 (cd3) ct3), sl3⟩)
    (c3 : PySem.W.codeIn K (cd3) "is_clock" = true) (k3 : PySem.W.keepIn K (.ref f3) = true)
    {f4 : Addr} {od4 an4 : Option Addr} {sl4 : Array (Option Value)} {oc4 kV4 dc4 pm4 cd4 ct4 : Value}
    (a4 : PySem.W.nsIn K mainGlobals "is_row" = some (some (.ref f4)))
    (l4 : K.lookup f4 = some ⟨oc4, od4, .func (PySem.W.fnOf "is_row" "is_row" (defArgs s_is_row) (defBody s_is_row) (defScope s_is_row) .none kV4 dc4 pm4 an4 (cd4) ct4), sl4⟩)
    (c4 : PySem.W.codeIn K (cd4) "is_row" = true) (k4 : PySem.W.keepIn K (.ref f4) = true)
    {f5 : Addr} {od5 an5 : Option Addr} {sl5 : Array (Option Value)} {oc5 kV5 dc5 pm5 cd5 ct5 : Value}
    (a5 : PySem.W.nsIn K mainGlobals "need_number" = some (some (.ref f5)))
    (l5 : K.lookup f5 = some ⟨oc5, od5, .func (PySem.W.fnOf "need_number" "need_number" (defArgs s_need_number) (defBody s_need_number) (defScope s_need_number) .none kV5 dc5 pm5 an5 (cd5) ct5), sl5⟩)
    (c5 : PySem.W.codeIn K (cd5) "need_number" = true) (k5 : PySem.W.keepIn K (.ref f5) = true)
    {f6 : Addr} {od6 an6 : Option Addr} {sl6 : Array (Option Value)} {oc6 kV6 dc6 pm6 cd6 ct6 : Value}
    (a6 : PySem.W.nsIn K mainGlobals "need_clock" = some (some (.ref f6)))
    (l6 : K.lookup f6 = some ⟨oc6, od6, .func (PySem.W.fnOf "need_clock" "need_clock" (defArgs s_need_clock) (defBody s_need_clock) (defScope s_need_clock) .none kV6 dc6 pm6 an6 (cd6) ct6), sl6⟩)
    (c6 : PySem.W.codeIn K (cd6) "need_clock" = true) (k6 : PySem.W.keepIn K (.ref f6) = true)
    {f7 : Addr} {od7 an7 : Option Addr} {sl7 : Array (Option Value)} {oc7 kV7 dc7 pm7 cd7 ct7 : Value}
    (a7 : PySem.W.nsIn K mainGlobals "inverse_in" = some (some (.ref f7)))
    (l7 : K.lookup f7 = some ⟨oc7, od7, .func (PySem.W.fnOf "inverse_in" "inverse_in" (defArgs s_inverse_in) (defBody s_inverse_in) (defScope s_inverse_in) .none kV7 dc7 pm7 an7 (cd7) ct7), sl7⟩)
    (c7 : PySem.W.codeIn K (cd7) "inverse_in" = true) (k7 : PySem.W.keepIn K (.ref f7) = true)
    {f8 : Addr} {od8 an8 : Option Addr} {sl8 : Array (Option Value)} {oc8 kV8 dc8 pm8 cd8 ct8 : Value}
    (a8 : PySem.W.nsIn K mainGlobals "times_in" = some (some (.ref f8)))
    (l8 : K.lookup f8 = some ⟨oc8, od8, .func (PySem.W.fnOf "times_in" "times_in" (defArgs s_times_in) (defBody s_times_in) (defScope s_times_in) .none kV8 dc8 pm8 an8 (cd8) ct8), sl8⟩)
    (c8 : PySem.W.codeIn K (cd8) "times_in" = true) (k8 : PySem.W.keepIn K (.ref f8) = true)
    {f9 : Addr} {od9 an9 : Option Addr} {sl9 : Array (Option Value)} {oc9 kV9 dc9 pm9 cd9 ct9 : Value}
    (a9 : PySem.W.nsIn K mainGlobals "lead_of" = some (some (.ref f9)))
    (l9 : K.lookup f9 = some ⟨oc9, od9, .func (PySem.W.fnOf "lead_of" "lead_of" (defArgs s_lead_of) (defBody s_lead_of) (defScope s_lead_of) .none kV9 dc9 pm9 an9 (cd9) ct9), sl9⟩)
    (c9 : PySem.W.codeIn K (cd9) "lead_of" = true) (k9 : PySem.W.keepIn K (.ref f9) = true)
    {f10 : Addr} {od10 an10 : Option Addr} {sl10 : Array (Option Value)} {oc10 kV10 dc10 pm10 cd10 ct10 : Value}
    (a10 : PySem.W.nsIn K mainGlobals "cleared" = some (some (.ref f10)))
    (l10 : K.lookup f10 = some ⟨oc10, od10, .func (PySem.W.fnOf "cleared" "cleared" (defArgs s_cleared) (defBody s_cleared) (defScope s_cleared) .none kV10 dc10 pm10 an10 (cd10) ct10), sl10⟩)
    (c10 : PySem.W.codeIn K (cd10) "cleared" = true) (k10 : PySem.W.keepIn K (.ref f10) = true)
    {f11 : Addr} {od11 an11 : Option Addr} {sl11 : Array (Option Value)} {oc11 kV11 dc11 pm11 cd11 ct11 : Value}
    (a11 : PySem.W.nsIn K mainGlobals "cleared_by" = some (some (.ref f11)))
    (l11 : K.lookup f11 = some ⟨oc11, od11, .func (PySem.W.fnOf "cleared_by" "cleared_by" (defArgs s_cleared_by) (defBody s_cleared_by) (defScope s_cleared_by) .none kV11 dc11 pm11 an11 (cd11) ct11), sl11⟩)
    (c11 : PySem.W.codeIn K (cd11) "cleared_by" = true) (k11 : PySem.W.keepIn K (.ref f11) = true)
    {f12 : Addr} {od12 an12 : Option Addr} {sl12 : Array (Option Value)} {oc12 kV12 dc12 pm12 cd12 ct12 : Value}
    (a12 : PySem.W.nsIn K mainGlobals "with_row" = some (some (.ref f12)))
    (l12 : K.lookup f12 = some ⟨oc12, od12, .func (PySem.W.fnOf "with_row" "with_row" (defArgs s_with_row) (defBody s_with_row) (defScope s_with_row) .none kV12 dc12 pm12 an12 (cd12) ct12), sl12⟩)
    (c12 : PySem.W.codeIn K (cd12) "with_row" = true) (k12 : PySem.W.keepIn K (.ref f12) = true)
    {f13 : Addr} {od13 an13 : Option Addr} {sl13 : Array (Option Value)} {oc13 kV13 dc13 pm13 cd13 ct13 : Value}
    (a13 : PySem.W.nsIn K mainGlobals "least_in" = some (some (.ref f13)))
    (l13 : K.lookup f13 = some ⟨oc13, od13, .func (PySem.W.fnOf "least_in" "least_in" (defArgs s_least_in) (defBody s_least_in) (defScope s_least_in) .none kV13 dc13 pm13 an13 (cd13) ct13), sl13⟩)
    (c13 : PySem.W.codeIn K (cd13) "least_in" = true) (k13 : PySem.W.keepIn K (.ref f13) = true)
    {f14 : Addr} {od14 an14 : Option Addr} {sl14 : Array (Option Value)} {oc14 kV14 dc14 pm14 cd14 ct14 : Value}
    (a14 : PySem.W.nsIn K mainGlobals "need_rows" = some (some (.ref f14)))
    (l14 : K.lookup f14 = some ⟨oc14, od14, .func (PySem.W.fnOf "need_rows" "need_rows" (defArgs s_need_rows) (defBody s_need_rows) (defScope s_need_rows) .none kV14 dc14 pm14 an14 (cd14) ct14), sl14⟩)
    (c14 : PySem.W.codeIn K (cd14) "need_rows" = true) (k14 : PySem.W.keepIn K (.ref f14) = true)
    {f15 : Addr} {od15 an15 : Option Addr} {sl15 : Array (Option Value)} {oc15 kV15 dc15 pm15 cd15 ct15 : Value}
    (ag_Space : PySem.W.nsIn K mainGlobals "Space" = some (some (.ref C_Space))) (am_Space : PySem.W.makesIn K C_Space = true) (ai_Space : PySem.W.findIn K (.ref C_Space) "__init__" = some (some (.ref f15))) (af_Space : PySem.W.isFn K (.ref f15) = true) (ak_Space : PySem.W.keepIn K (.ref C_Space) = true)
    (ap_Space : PySem.W.plainGet K C_Space Str.empty = true) (ah_Space : PySem.W.hasDictIn K C_Space = true) (ao_Space : PySem.W.plainOver K C_Space = true) (as_Space : PySem.W.findIn K (.ref C_Space) "__setattr__" = some (some (.builtin "object.__setattr__")))
    (an_Space_clock : PySem.W.findIn K (.ref C_Space) "clock" = some none)
    (an_Space_depth : PySem.W.findIn K (.ref C_Space) "depth" = some none)
    (an_Space_rows : PySem.W.findIn K (.ref C_Space) "rows" = some none)
    (an_Space_size : PySem.W.findIn K (.ref C_Space) "size" = some none)
    (an_Space_words : PySem.W.findIn K (.ref C_Space) "words" = some none)
    (l15 : K.lookup f15 = some ⟨oc15, od15, .func (PySem.W.fnOf "__init__" "Space.__init__" (defArgs s_Space) (defBody s_Space) (defScope s_Space) .none kV15 dc15 pm15 an15 (cd15) ct15), sl15⟩)
    (c15 : PySem.W.codeIn K (cd15) "Space.__init__" = true) (k15 : PySem.W.keepIn K (.ref f15) = true)
    {f16 : Addr} {od16 an16 : Option Addr} {sl16 : Array (Option Value)} {oc16 kV16 dc16 pm16 cd16 ct16 : Value}
    (a16 : PySem.W.nsIn K mainGlobals "space_in" = some (some (.ref f16)))
    (l16 : K.lookup f16 = some ⟨oc16, od16, .func (PySem.W.fnOf "space_in" "space_in" (defArgs s_space_in) (defBody s_space_in) (defScope s_space_in) .none kV16 dc16 pm16 an16 (cd16) ct16), sl16⟩)
    (c16 : PySem.W.codeIn K (cd16) "space_in" = true) (k16 : PySem.W.keepIn K (.ref f16) = true)
    {f17 : Addr} {od17 an17 : Option Addr} {sl17 : Array (Option Value)} {oc17 kV17 dc17 pm17 cd17 ct17 : Value}
    (a17 : PySem.W.nsIn K mainGlobals "need_space" = some (some (.ref f17)))
    {T17 : Addr} {ot17 : Value} {qt17 : Option Addr} {it17 : Array Value} {mt17 : Nat} {rt17 : Array (Option Value)}
    (l17 : K.lookup f17 = some ⟨oc17, od17, .func (PySem.W.fnOf "need_space" "need_space" (defArgs s_need_space) (defBody s_need_space) (defScope s_need_space) (.ref T17) kV17 dc17 pm17 an17 (cd17) ct17), sl17⟩)
    (c17 : PySem.W.codeIn K (cd17) "need_space" = true) (k17 : PySem.W.keepIn K (.ref f17) = true)
    (ld17 : K.lookup T17 = some ⟨ot17, qt17, .seq it17 mt17, rt17⟩) (vd17 : Vals [.str ("space" : Str)] it17.toList)
    {f18 : Addr} {od18 an18 : Option Addr} {sl18 : Array (Option Value)} {oc18 kV18 dc18 pm18 cd18 ct18 : Value}
    (a18 : PySem.W.nsIn K mainGlobals "turned_rows" = some (some (.ref f18)))
    (l18 : K.lookup f18 = some ⟨oc18, od18, .func (PySem.W.fnOf "turned_rows" "turned_rows" (defArgs s_turned_rows) (defBody s_turned_rows) (defScope s_turned_rows) .none kV18 dc18 pm18 an18 (cd18) ct18), sl18⟩)
    (c18 : PySem.W.codeIn K (cd18) "turned_rows" = true) (k18 : PySem.W.keepIn K (.ref f18) = true)
    {f19 : Addr} {od19 an19 : Option Addr} {sl19 : Array (Option Value)} {oc19 kV19 dc19 pm19 cd19 ct19 : Value}
    (a19 : PySem.W.nsIn K mainGlobals "turned_space" = some (some (.ref f19)))
    (l19 : K.lookup f19 = some ⟨oc19, od19, .func (PySem.W.fnOf "turned_space" "turned_space" (defArgs s_turned_space) (defBody s_turned_space) (defScope s_turned_space) .none kV19 dc19 pm19 an19 (cd19) ct19), sl19⟩)
    (c19 : PySem.W.codeIn K (cd19) "turned_space" = true) (k19 : PySem.W.keepIn K (.ref f19) = true)
    {f20 : Addr} {od20 an20 : Option Addr} {sl20 : Array (Option Value)} {oc20 kV20 dc20 pm20 cd20 ct20 : Value}
    (a20 : PySem.W.nsIn K mainGlobals "_law_carousel" = some (some (.ref f20)))
    (l20 : K.lookup f20 = some ⟨oc20, od20, .func (PySem.W.fnOf "_law_carousel" "_law_carousel" (defArgs s__law_carousel) (defBody s__law_carousel) (defScope s__law_carousel) .none kV20 dc20 pm20 an20 (cd20) ct20), sl20⟩)
    (c20 : PySem.W.codeIn K (cd20) "_law_carousel" = true) (k20 : PySem.W.keepIn K (.ref f20) = true)
    {f21 : Addr} {od21 an21 : Option Addr} {sl21 : Array (Option Value)} {oc21 kV21 dc21 pm21 cd21 ct21 : Value}
    (a21 : PySem.W.nsIn K mainGlobals "_law_horse" = some (some (.ref f21)))
    (l21 : K.lookup f21 = some ⟨oc21, od21, .func (PySem.W.fnOf "_law_horse" "_law_horse" (defArgs s__law_horse) (defBody s__law_horse) (defScope s__law_horse) .none kV21 dc21 pm21 an21 (cd21) ct21), sl21⟩)
    (c21 : PySem.W.codeIn K (cd21) "_law_horse" = true) (k21 : PySem.W.keepIn K (.ref f21) = true)
    {f22 : Addr} {od22 an22 : Option Addr} {sl22 : Array (Option Value)} {oc22 kV22 dc22 pm22 cd22 ct22 : Value}
    (a22 : PySem.W.nsIn K mainGlobals "_law_one" = some (some (.ref f22)))
    (l22 : K.lookup f22 = some ⟨oc22, od22, .func (PySem.W.fnOf "_law_one" "_law_one" (defArgs s__law_one) (defBody s__law_one) (defScope s__law_one) .none kV22 dc22 pm22 an22 (cd22) ct22), sl22⟩)
    (c22 : PySem.W.codeIn K (cd22) "_law_one" = true) (k22 : PySem.W.keepIn K (.ref f22) = true)
    {f23 : Addr} {od23 an23 : Option Addr} {sl23 : Array (Option Value)} {oc23 kV23 dc23 pm23 cd23 ct23 : Value}
    (a23 : PySem.W.nsIn K mainGlobals "_law_clock" = some (some (.ref f23)))
    (l23 : K.lookup f23 = some ⟨oc23, od23, .func (PySem.W.fnOf "_law_clock" "_law_clock" (defArgs s__law_clock) (defBody s__law_clock) (defScope s__law_clock) .none kV23 dc23 pm23 an23 (cd23) ct23), sl23⟩)
    (c23 : PySem.W.codeIn K (cd23) "_law_clock" = true) (k23 : PySem.W.keepIn K (.ref f23) = true)
    {f24 : Addr} {od24 an24 : Option Addr} {sl24 : Array (Option Value)} {oc24 kV24 dc24 pm24 cd24 ct24 : Value}
    (a24 : PySem.W.nsIn K mainGlobals "_law_least" = some (some (.ref f24)))
    (l24 : K.lookup f24 = some ⟨oc24, od24, .func (PySem.W.fnOf "_law_least" "_law_least" (defArgs s__law_least) (defBody s__law_least) (defScope s__law_least) .none kV24 dc24 pm24 an24 (cd24) ct24), sl24⟩)
    (c24 : PySem.W.codeIn K (cd24) "_law_least" = true) (k24 : PySem.W.keepIn K (.ref f24) = true)
    {f25 : Addr} {od25 an25 : Option Addr} {sl25 : Array (Option Value)} {oc25 kV25 dc25 pm25 cd25 ct25 : Value}
    (a25 : PySem.W.nsIn K mainGlobals "law" = some (some (.ref f25)))
    (l25 : K.lookup f25 = some ⟨oc25, od25, .func (PySem.W.fnOf "law" "law" (defArgs s_law) (defBody s_law) (defScope s_law) .none kV25 dc25 pm25 an25 (cd25) ct25), sl25⟩)
    (c25 : PySem.W.codeIn K (cd25) "law" = true) (k25 : PySem.W.keepIn K (.ref f25) = true)
    (kt_Space_NoneType : PySem.W.kitOne K (.type "NoneType") (.ref C_Space) = some false)
    (kt_Space_bool : PySem.W.kitOne K (.type "bool") (.ref C_Space) = some false)
    (kt_Space_int : PySem.W.kitOne K (.type "int") (.ref C_Space) = some false)
    (kt_Space_str : PySem.W.kitOne K (.type "str") (.ref C_Space) = some false)
    (kt_Space_list : PySem.W.kitOne K (.type "list") (.ref C_Space) = some false)
    (kt_Space_tuple : PySem.W.kitOne K (.type "tuple") (.ref C_Space) = some false)
    (kt_Space_dict : PySem.W.kitOne K (.type "dict") (.ref C_Space) = some false)
    (ki_Space_Space : PySem.W.kitOne K (.ref C_Space) (.ref C_Space) = some true)
    (ic_Space : IsiC K C_Space)
    (z_abs : PySem.W.nsIn K mainGlobals "abs" = some none)
    (z_all : PySem.W.nsIn K mainGlobals "all" = some none)
    (z_bool : PySem.W.nsIn K mainGlobals "bool" = some none)
    (z_enumerate : PySem.W.nsIn K mainGlobals "enumerate" = some none)
    (z_int : PySem.W.nsIn K mainGlobals "int" = some none)
    (z_isinstance : PySem.W.nsIn K mainGlobals "isinstance" = some none)
    (z_len : PySem.W.nsIn K mainGlobals "len" = some none)
    (z_list : PySem.W.nsIn K mainGlobals "list" = some none)
    (z_range : PySem.W.nsIn K mainGlobals "range" = some none)
    (z_repr : PySem.W.nsIn K mainGlobals "repr" = some none)
    (z_sorted : PySem.W.nsIn K mainGlobals "sorted" = some none)
    (z_str : PySem.W.nsIn K mainGlobals "str" = some none)
    (z_tuple : PySem.W.nsIn K mainGlobals "tuple" = some none)
    (z_zip : PySem.W.nsIn K mainGlobals "zip" = some none)
    {p_CLOCKS : Addr} {o_CLOCKS : Value} {q_CLOCKS : Option Addr} {i_CLOCKS : Array Value} {m_CLOCKS : Nat} {r_CLOCKS : Array (Option Value)}
    (y_CLOCKS : PySem.W.nsIn K mainGlobals "CLOCKS" = some (some (.ref p_CLOCKS))) (x_CLOCKS : K.lookup p_CLOCKS = some ⟨o_CLOCKS, q_CLOCKS, .seq i_CLOCKS m_CLOCKS, r_CLOCKS⟩) (t_CLOCKS : o_CLOCKS = .type "tuple") (v_CLOCKS : Vals [.int (3), .int (5), .int (7), .int (11), .int (13), .int (17), .int (19), .int (23), .int (29), .int (31)] i_CLOCKS.toList) (u_CLOCKS : i_CLOCKS.size ≤ sizeLine)
    {p_FIGURES : Value} (y_FIGURES : PySem.W.nsIn K mainGlobals "FIGURES" = some (some p_FIGURES)) (v_FIGURES : RelV (.str ("0123456789" : Str)) p_FIGURES)
    {p_MOST_FIGURES : Value} (y_MOST_FIGURES : PySem.W.nsIn K mainGlobals "MOST_FIGURES" = some (some p_MOST_FIGURES)) (v_MOST_FIGURES : RelV (.int (60)) p_MOST_FIGURES)
    {p_MOST_GIVEN : Value} (y_MOST_GIVEN : PySem.W.nsIn K mainGlobals "MOST_GIVEN" = some (some p_MOST_GIVEN)) (v_MOST_GIVEN : RelV (.int (400)) p_MOST_GIVEN)
    {p_MOST_SIZE : Value} (y_MOST_SIZE : PySem.W.nsIn K mainGlobals "MOST_SIZE" = some (some p_MOST_SIZE)) (v_MOST_SIZE : RelV (.int (400)) p_MOST_SIZE)
    {C_BadClock : Addr} (g_BadClock : PySem.W.nsIn K mainGlobals "BadClock" = some (some (.ref C_BadClock)))
    {C_BadNumber : Addr} (g_BadNumber : PySem.W.nsIn K mainGlobals "BadNumber" = some (some (.ref C_BadNumber)))
    {C_BadRow : Addr} (g_BadRow : PySem.W.nsIn K mainGlobals "BadRow" = some (some (.ref C_BadRow)))
    {C_BadSpace : Addr} (g_BadSpace : PySem.W.nsIn K mainGlobals "BadSpace" = some (some (.ref C_BadSpace)))
    (x_BadClock : ExAll K C_BadClock "part")
    (n_BadClock : ∀ (base : Heap) (S : Sg), mg "BadClock" = some (.ref C_BadClock) → S.cn C_BadClock = some "BadClock" → mg "super" = none → Exn l.prog w K mg base S "BadClock" "part" 1)
    (x_BadNumber : ExAll K C_BadNumber "part")
    (n_BadNumber : ∀ (base : Heap) (S : Sg), mg "BadNumber" = some (.ref C_BadNumber) → S.cn C_BadNumber = some "BadNumber" → mg "super" = none → Exn l.prog w K mg base S "BadNumber" "part" 1)
    (x_BadRow : ExAll K C_BadRow "part")
    (n_BadRow : ∀ (base : Heap) (S : Sg), mg "BadRow" = some (.ref C_BadRow) → S.cn C_BadRow = some "BadRow" → mg "super" = none → Exn l.prog w K mg base S "BadRow" "part" 1)
    (x_BadSpace : ExAll K C_BadSpace "part")
    (n_BadSpace : ∀ (base : Heap) (S : Sg), mg "BadSpace" = some (.ref C_BadSpace) → S.cn C_BadSpace = some "BadSpace" → mg "super" = none → Exn l.prog w K mg base S "BadSpace" "part" 1)
    (z_super : PySem.W.nsIn K mainGlobals "super" = some none)
    (e_BadNumber_BadClock : (C_BadNumber == C_BadClock) = false)
    (e_BadRow_BadClock : (C_BadRow == C_BadClock) = false)
    (e_BadRow_BadNumber : (C_BadRow == C_BadNumber) = false)
    (e_BadSpace_BadClock : (C_BadSpace == C_BadClock) = false)
    (e_BadSpace_BadNumber : (C_BadSpace == C_BadNumber) = false)
    (e_BadSpace_BadRow : (C_BadSpace == C_BadRow) = false)
    (noT : PySem.W.noTabs K = true)
    (hdraw : ∀ cells ds n kk, conDraw noX ds n kk → conOf 2 6 (m__law_horse cells) noX ds n kk) (hms : m_law noX ((List.replicate 12 Sl.no).set 1 (.val .box)) 0 { nx := fun _ _ => False, rt := fun d _ => d = .bl true }) :
    LawG l.prog w K mg 9 ("_law_script" : Str) fa h := by
  have e := hfa.symm.trans (PySem.W.mg_of X G a25)
  cases e
  have T : Tx K mg := ⟨PySem.W.mg_none_of X G z_abs, PySem.W.mg_none_of X G z_all, PySem.W.mg_none_of X G z_bool, PySem.W.mg_none_of X G z_enumerate, PySem.W.mg_none_of X G z_int, PySem.W.mg_none_of X G z_isinstance, PySem.W.mg_none_of X G z_len, PySem.W.mg_none_of X G z_list, PySem.W.mg_none_of X G z_range, PySem.W.mg_none_of X G z_repr, PySem.W.mg_none_of X G z_sorted, PySem.W.mg_none_of X G z_str, PySem.W.mg_none_of X G z_tuple, PySem.W.mg_none_of X G z_zip, kdat_tup (PySem.W.mg_of X G y_CLOCKS) x_CLOCKS t_CLOCKS u_CLOCKS v_CLOCKS rfl, kdat_flat (PySem.W.mg_of X G y_FIGURES) v_FIGURES rfl, kdat_flat (PySem.W.mg_of X G y_MOST_FIGURES) v_MOST_FIGURES rfl, kdat_flat (PySem.W.mg_of X G y_MOST_GIVEN) v_MOST_GIVEN rfl, kdat_flat (PySem.W.mg_of X G y_MOST_SIZE) v_MOST_SIZE rfl⟩
  have F0 := fun_mk (st := s_Space___eq__) l0 c0 k0
  have F1 := fun_mk (st := s_is_integer) l1 c1 k1
  have M1 := PySem.W.mg_of X G a1
  have F2 := fun_mk (st := s_is_within) l2 c2 k2
  have M2 := PySem.W.mg_of X G a2
  have F3 := fun_mk (st := s_is_clock) l3 c3 k3
  have M3 := PySem.W.mg_of X G a3
  have F4 := fun_mk (st := s_is_row) l4 c4 k4
  have M4 := PySem.W.mg_of X G a4
  have F5 := fun_mk (st := s_need_number) l5 c5 k5
  have M5 := PySem.W.mg_of X G a5
  have F6 := fun_mk (st := s_need_clock) l6 c6 k6
  have M6 := PySem.W.mg_of X G a6
  have F7 := fun_mk (st := s_inverse_in) l7 c7 k7
  have M7 := PySem.W.mg_of X G a7
  have F8 := fun_mk (st := s_times_in) l8 c8 k8
  have M8 := PySem.W.mg_of X G a8
  have F9 := fun_mk (st := s_lead_of) l9 c9 k9
  have M9 := PySem.W.mg_of X G a9
  have F10 := fun_mk (st := s_cleared) l10 c10 k10
  have M10 := PySem.W.mg_of X G a10
  have F11 := fun_mk (st := s_cleared_by) l11 c11 k11
  have M11 := PySem.W.mg_of X G a11
  have F12 := fun_mk (st := s_with_row) l12 c12 k12
  have M12 := PySem.W.mg_of X G a12
  have F13 := fun_mk (st := s_least_in) l13 c13 k13
  have M13 := PySem.W.mg_of X G a13
  have F14 := fun_mk (st := s_need_rows) l14 c14 k14
  have M14 := PySem.W.mg_of X G a14
  have F15 := fun_mk (st := s_Space) l15 c15 k15
  have M15 := PySem.W.mg_of X G ag_Space
  have F16 := fun_mk (st := s_space_in) l16 c16 k16
  have M16 := PySem.W.mg_of X G a16
  have F17 := funv_mk (st := s_need_space) (dds := dd_need_space) l17 c17 k17 ld17 vd17 rfl
  have M17 := PySem.W.mg_of X G a17
  have F18 := fun_mk (st := s_turned_rows) l18 c18 k18
  have M18 := PySem.W.mg_of X G a18
  have F19 := fun_mk (st := s_turned_space) l19 c19 k19
  have M19 := PySem.W.mg_of X G a19
  have F20 := fun_mk (st := s__law_carousel) l20 c20 k20
  have M20 := PySem.W.mg_of X G a20
  have F21 := fun_mk (st := s__law_horse) l21 c21 k21
  have M21 := PySem.W.mg_of X G a21
  have F22 := fun_mk (st := s__law_one) l22 c22 k22
  have M22 := PySem.W.mg_of X G a22
  have F23 := fun_mk (st := s__law_clock) l23 c23 k23
  have M23 := PySem.W.mg_of X G a23
  have F24 := fun_mk (st := s__law_least) l24 c24 k24
  have M24 := PySem.W.mg_of X G a24
  have F25 := fun_mk (st := s_law) l25 c25 k25
  have M25 := PySem.W.mg_of X G a25
  have mC_BadClock := PySem.W.mg_of X G g_BadClock
  have mC_BadNumber := PySem.W.mg_of X G g_BadNumber
  have mC_BadRow := PySem.W.mg_of X G g_BadRow
  have mC_BadSpace := PySem.W.mg_of X G g_BadSpace
  have Lf : Fl K (sgOf [(C_BadClock, "BadClock"), (C_BadNumber, "BadNumber"), (C_BadRow, "BadRow"), (C_BadSpace, "BadSpace")] [] [(C_Space, ("Space" : Str))] foN) := by
    refine ⟨rfl, sg_allI fun p hp => ?_, sg_allI fun p hp => ?_, sg_allI fun p hp => ?_, sg_allI fun p hp => ?_, sg_allI fun p hp => ?_⟩
    · rcases List.mem_cons.mp hp with e | hp
      · subst e; exact fun _ => ⟨⟨ap_Space, ah_Space, ao_Space, as_Space⟩, an_Space_clock⟩
      cases hp
    · rcases List.mem_cons.mp hp with e | hp
      · subst e; exact fun _ => ⟨⟨ap_Space, ah_Space, ao_Space, as_Space⟩, an_Space_depth⟩
      cases hp
    · rcases List.mem_cons.mp hp with e | hp
      · subst e; exact fun _ => ⟨⟨ap_Space, ah_Space, ao_Space, as_Space⟩, an_Space_rows⟩
      cases hp
    · rcases List.mem_cons.mp hp with e | hp
      · subst e; exact fun _ => ⟨⟨ap_Space, ah_Space, ao_Space, as_Space⟩, an_Space_size⟩
      cases hp
    · rcases List.mem_cons.mp hp with e | hp
      · subst e; exact fun _ => ⟨⟨ap_Space, ah_Space, ao_Space, as_Space⟩, an_Space_words⟩
      cases hp
  have E : Ex K mg (sgOf [(C_BadClock, "BadClock"), (C_BadNumber, "BadNumber"), (C_BadRow, "BadRow"), (C_BadSpace, "BadSpace")] [] [(C_Space, ("Space" : Str))] foN) := by
    refine ⟨sg_all (fun p hp => ?_), ⟩
    · rcases List.mem_cons.mp hp with e | hp
      · subst e; exact fun _ => ⟨x_BadClock.xf, x_BadClock.no⟩
      rcases List.mem_cons.mp hp with e | hp
      · subst e; exact fun _ => ⟨x_BadNumber.xf, x_BadNumber.no⟩
      rcases List.mem_cons.mp hp with e | hp
      · subst e; exact fun _ => ⟨x_BadRow.xf, x_BadRow.no⟩
      rcases List.mem_cons.mp hp with e | hp
      · subst e; exact fun _ => ⟨x_BadSpace.xf, x_BadSpace.no⟩
      · cases hp
  have II_Space : IsI K mg (sgOf [(C_BadClock, "BadClock"), (C_BadNumber, "BadNumber"), (C_BadRow, "BadRow"), (C_BadSpace, "BadSpace")] [] [(C_Space, ("Space" : Str))] foN) "Space" isi_Space := by
    refine ⟨C_Space, PySem.W.mg_of X G ag_Space, fun t ht => ?_, fun D nm b e => sg_allI (Pr := fun D nm => ∀ b, isi_Space nm = some b → Cls K D ∧ IsiC K D ∧ PySem.W.kitOne K (.ref D) (.ref C_Space) = some b) (fun p hp => ?_) D nm e b⟩
    · skip
      rcases List.mem_cons.mp ht with rfl | ht; exact kt_Space_NoneType
      rcases List.mem_cons.mp ht with rfl | ht; exact kt_Space_bool
      rcases List.mem_cons.mp ht with rfl | ht; exact kt_Space_int
      rcases List.mem_cons.mp ht with rfl | ht; exact kt_Space_str
      rcases List.mem_cons.mp ht with rfl | ht; exact kt_Space_list
      rcases List.mem_cons.mp ht with rfl | ht; exact kt_Space_tuple
      rcases List.mem_cons.mp ht with rfl | ht; exact kt_Space_dict
      cases ht
    · skip
      rcases List.mem_cons.mp hp with e | hp
      · subst e; exact fun b hb => ⟨⟨ap_Space, ah_Space, ao_Space, as_Space⟩, ic_Space, by have z := Option.some.inj hb; rw [← z]; exact (by decide : true = decide (("Space" : Str) = ("Space" : Str))) ▸ ki_Space_Space⟩
      cases hp
  refine ⟨PySem.W.fnOf "law" "law" (defArgs s_law) (defBody s_law) (defScope s_law) .none kV25 dc25 pm25 an25 (cd25) ct25, [], sgOf [(C_BadClock, "BadClock"), (C_BadNumber, "BadNumber"), (C_BadRow, "BadRow"), (C_BadSpace, "BadSpace")] [] [(C_Space, ("Space" : Str))] foN, fun s v => .of_eq (b_law kV25 dc25 pm25 an25 (cd25) ct25 [v] rfl), fun p hp => ?_, fun p hp => ?_, fun base KB GB TBs => ?_⟩
  · cases hp
  · cases hp
  · skip
    have N_BadClock : Exn l.prog w K mg base (sgOf [(C_BadClock, "BadClock"), (C_BadNumber, "BadNumber"), (C_BadRow, "BadRow"), (C_BadSpace, "BadSpace")] [] [(C_Space, ("Space" : Str))] foN) "BadClock" "part" 1 := n_BadClock base _ mC_BadClock (by simp [sgOf, List.lookup]) (PySem.W.mg_none_of X G z_super)
    have N_BadNumber : Exn l.prog w K mg base (sgOf [(C_BadClock, "BadClock"), (C_BadNumber, "BadNumber"), (C_BadRow, "BadRow"), (C_BadSpace, "BadSpace")] [] [(C_Space, ("Space" : Str))] foN) "BadNumber" "part" 1 := n_BadNumber base _ mC_BadNumber (by simp [sgOf, List.lookup, e_BadNumber_BadClock]) (PySem.W.mg_none_of X G z_super)
    have N_BadRow : Exn l.prog w K mg base (sgOf [(C_BadClock, "BadClock"), (C_BadNumber, "BadNumber"), (C_BadRow, "BadRow"), (C_BadSpace, "BadSpace")] [] [(C_Space, ("Space" : Str))] foN) "BadRow" "part" 1 := n_BadRow base _ mC_BadRow (by simp [sgOf, List.lookup, e_BadRow_BadClock, e_BadRow_BadNumber]) (PySem.W.mg_none_of X G z_super)
    have N_BadSpace : Exn l.prog w K mg base (sgOf [(C_BadClock, "BadClock"), (C_BadNumber, "BadNumber"), (C_BadRow, "BadRow"), (C_BadSpace, "BadSpace")] [] [(C_Space, ("Space" : Str))] foN) "BadSpace" "part" 1 := n_BadSpace base _ mC_BadSpace (by simp [sgOf, List.lookup, e_BadSpace_BadClock, e_BadSpace_BadNumber, e_BadSpace_BadRow]) (PySem.W.mg_none_of X G z_super)
    have G_Space___eq__ : FnG l.prog w K mg base (L2.CX l.prog w) 1 f0 _ [("self" : Str), ("other" : Str)] (spD K (sgOf [(C_BadClock, "BadClock"), (C_BadNumber, "BadNumber"), (C_BadRow, "BadRow"), (C_BadSpace, "BadSpace")] [] [(C_Space, ("Space" : Str))] foN) con_Space___eq__) := g_Space___eq__ F0 T Lf II_Space
    have EQ : EqAll l.prog w K mg base (sgOf [(C_BadClock, "BadClock"), (C_BadNumber, "BadNumber"), (C_BadRow, "BadRow"), (C_BadSpace, "BadSpace")] [] [(C_Space, ("Space" : Str))] foN) eqC 1 := by
      refine ⟨fun nm con h => ?_⟩
      unfold eqC at h
      by_cases z : (nm == ("Space" : Str)) = true
      · rw [if_pos z] at h; cases h; obtain rfl := beq_iff_eq.mp z
        refine ⟨fun C hC => ?_⟩
        have hCC := sg_allI (Pr := fun C nm2 => nm2 = ("Space" : Str) → C = C_Space) (fun p hp => by
          rcases List.mem_cons.mp hp with e | hp
          · subst e; exact fun h => rfl
          cases hp) C _ hC rfl
        rw [hCC]
        refine ⟨f0, _, [("self" : Str), ("other" : Str)], e1_Space___eq__, e2_Space___eq__, e3_Space___eq__, ic_Space.cm, G_Space___eq__.mono (by decide), bindsM b_Space___eq__, sg_allI (Pr := fun D nm2 => PySem.W.notFirst K _ (.ref D) = true) (fun p hp => ?_), fun t ht => ?_⟩
        · skip
          rcases List.mem_cons.mp hp with e | hp
          · subst e; exact en_Space___eq___Space
          cases hp
        · skip
          rcases List.mem_cons.mp ht with rfl | ht; exact et_Space___eq___NoneType
          rcases List.mem_cons.mp ht with rfl | ht; exact et_Space___eq___bool
          rcases List.mem_cons.mp ht with rfl | ht; exact et_Space___eq___int
          rcases List.mem_cons.mp ht with rfl | ht; exact et_Space___eq___str
          rcases List.mem_cons.mp ht with rfl | ht; exact et_Space___eq___list
          rcases List.mem_cons.mp ht with rfl | ht; exact et_Space___eq___tuple
          rcases List.mem_cons.mp ht with rfl | ht; exact et_Space___eq___dict
          cases ht
      rw [if_neg z] at h
      cases h
    have C_is_integer : Co l.prog w K mg base (sgOf [(C_BadClock, "BadClock"), (C_BadNumber, "BadNumber"), (C_BadRow, "BadRow"), (C_BadSpace, "BadSpace")] [] [(C_Space, ("Space" : Str))] foN) "is_integer" s_is_integer [("value" : Str)] con_is_integer 1 := co_mk (N := []) F1 M1 fun F => g_is_integer F T Lf
    have C_is_within : Co l.prog w K mg base (sgOf [(C_BadClock, "BadClock"), (C_BadNumber, "BadNumber"), (C_BadRow, "BadRow"), (C_BadSpace, "BadSpace")] [] [(C_Space, ("Space" : Str))] foN) "is_within" s_is_within [("value" : Str), ("least" : Str), ("most" : Str)] con_is_within 2 := co_mk (N := []) F2 M2 fun F => g_is_within F T Lf C_is_integer
    have C_is_clock : Co l.prog w K mg base (sgOf [(C_BadClock, "BadClock"), (C_BadNumber, "BadNumber"), (C_BadRow, "BadRow"), (C_BadSpace, "BadSpace")] [] [(C_Space, ("Space" : Str))] foN) "is_clock" s_is_clock [("value" : Str)] con_is_clock 2 := co_mk (N := []) F3 M3 fun F => g_is_clock F T Lf C_is_integer
    have C_is_row : Co l.prog w K mg base (sgOf [(C_BadClock, "BadClock"), (C_BadNumber, "BadNumber"), (C_BadRow, "BadRow"), (C_BadSpace, "BadSpace")] [] [(C_Space, ("Space" : Str))] foN) "is_row" s_is_row [("value" : Str), ("clock" : Str), ("size" : Str)] con_is_row 3 := co_mk (N := []) F4 M4 fun F => g_is_row F T Lf C_is_within
    have C_need_number : Co l.prog w K mg base (sgOf [(C_BadClock, "BadClock"), (C_BadNumber, "BadNumber"), (C_BadRow, "BadRow"), (C_BadSpace, "BadSpace")] [] [(C_Space, ("Space" : Str))] foN) "need_number" s_need_number [("value" : Str), ("part" : Str), ("least" : Str), ("most" : Str)] con_need_number 3 := co_mk (N := []) F5 M5 fun F => g_need_number F T Lf C_is_within N_BadNumber
    have C_need_clock : Co l.prog w K mg base (sgOf [(C_BadClock, "BadClock"), (C_BadNumber, "BadNumber"), (C_BadRow, "BadRow"), (C_BadSpace, "BadSpace")] [] [(C_Space, ("Space" : Str))] foN) "need_clock" s_need_clock [("value" : Str)] con_need_clock 3 := co_mk (N := []) F6 M6 fun F => g_need_clock F T Lf C_is_clock N_BadClock
    have C_inverse_in : Co l.prog w K mg base (sgOf [(C_BadClock, "BadClock"), (C_BadNumber, "BadNumber"), (C_BadRow, "BadRow"), (C_BadSpace, "BadSpace")] [] [(C_Space, ("Space" : Str))] foN) "inverse_in" s_inverse_in [("clock" : Str), ("number" : Str)] con_inverse_in 1 := co_mk (N := []) F7 M7 fun F => g_inverse_in F T Lf
    have C_times_in : Co l.prog w K mg base (sgOf [(C_BadClock, "BadClock"), (C_BadNumber, "BadNumber"), (C_BadRow, "BadRow"), (C_BadSpace, "BadSpace")] [] [(C_Space, ("Space" : Str))] foN) "times_in" s_times_in [("clock" : Str), ("number" : Str), ("row" : Str)] con_times_in 1 := co_mk (N := []) F8 M8 fun F => g_times_in F T Lf
    have C_lead_of : Co l.prog w K mg base (sgOf [(C_BadClock, "BadClock"), (C_BadNumber, "BadNumber"), (C_BadRow, "BadRow"), (C_BadSpace, "BadSpace")] [] [(C_Space, ("Space" : Str))] foN) "lead_of" s_lead_of [("row" : Str)] con_lead_of 1 := co_mk (N := []) F9 M9 fun F => g_lead_of F T Lf
    have C_cleared : Co l.prog w K mg base (sgOf [(C_BadClock, "BadClock"), (C_BadNumber, "BadNumber"), (C_BadRow, "BadRow"), (C_BadSpace, "BadSpace")] [] [(C_Space, ("Space" : Str))] foN) "cleared" s_cleared [("clock" : Str), ("row" : Str), ("by" : Str), ("at" : Str)] con_cleared 1 := co_mk (N := []) F10 M10 fun F => g_cleared F T Lf
    have C_cleared_by : Co l.prog w K mg base (sgOf [(C_BadClock, "BadClock"), (C_BadNumber, "BadNumber"), (C_BadRow, "BadRow"), (C_BadSpace, "BadSpace")] [] [(C_Space, ("Space" : Str))] foN) "cleared_by" s_cleared_by [("clock" : Str), ("row" : Str), ("form" : Str)] con_cleared_by 2 := co_mk (N := []) F11 M11 fun F => g_cleared_by F T Lf C_cleared
    have C_with_row : Co l.prog w K mg base (sgOf [(C_BadClock, "BadClock"), (C_BadNumber, "BadNumber"), (C_BadRow, "BadRow"), (C_BadSpace, "BadSpace")] [] [(C_Space, ("Space" : Str))] foN) "with_row" s_with_row [("clock" : Str), ("form" : Str), ("row" : Str)] con_with_row 3 := co_mk (N := []) F12 M12 fun F => g_with_row F T Lf C_inverse_in C_times_in C_lead_of C_cleared C_cleared_by
    have C_least_in : Co l.prog w K mg base (sgOf [(C_BadClock, "BadClock"), (C_BadNumber, "BadNumber"), (C_BadRow, "BadRow"), (C_BadSpace, "BadSpace")] [] [(C_Space, ("Space" : Str))] foN) "least_in" s_least_in [("clock" : Str), ("rows" : Str)] con_least_in 4 := co_mk (N := []) F13 M13 fun F => g_least_in F T Lf C_with_row
    have C_need_rows : Co l.prog w K mg base (sgOf [(C_BadClock, "BadClock"), (C_BadNumber, "BadNumber"), (C_BadRow, "BadRow"), (C_BadSpace, "BadSpace")] [] [(C_Space, ("Space" : Str))] foN) "need_rows" s_need_rows [("value" : Str), ("clock" : Str), ("size" : Str)] con_need_rows 4 := co_mk (N := []) F14 M14 fun F => g_need_rows F T Lf C_is_row N_BadRow
    have IN_Space : Mkc l.prog w K mg base (sgOf [(C_BadClock, "BadClock"), (C_BadNumber, "BadNumber"), (C_BadRow, "BadRow"), (C_BadSpace, "BadSpace")] [] [(C_Space, ("Space" : Str))] foN) ("Space" : Str) ("Space" : Str) "Space.__init__" s_Space [("self" : Str), ("clock" : Str), ("size" : Str), ("rows" : Str)] con_Space 5 := ⟨C_Space, f15, _, by simp [sgOf, List.lookup], ⟨am_Space, ai_Space, af_Space, ak_Space⟩, F15, g_Space F15 T Lf C_need_number C_need_clock C_least_in C_need_rows, M15⟩
    have C_space_in : Co l.prog w K mg base (sgOf [(C_BadClock, "BadClock"), (C_BadNumber, "BadNumber"), (C_BadRow, "BadRow"), (C_BadSpace, "BadSpace")] [] [(C_Space, ("Space" : Str))] foN) "space_in" s_space_in [("clock" : Str), ("size" : Str), ("rows" : Str)] con_space_in 7 := co_mk (N := []) F16 M16 fun F => g_space_in F T Lf C_least_in IN_Space
    have C_need_space : CoV l.prog w K mg base (sgOf [(C_BadClock, "BadClock"), (C_BadNumber, "BadNumber"), (C_BadRow, "BadRow"), (C_BadSpace, "BadSpace")] [] [(C_Space, ("Space" : Str))] foN) "need_space" s_need_space [("value" : Str), ("part" : Str)] dd_need_space con_need_space 3 := ⟨f17, _, F17, g_need_space F17 T Lf II_Space N_BadSpace, M17⟩
    have C_turned_rows : Co l.prog w K mg base (sgOf [(C_BadClock, "BadClock"), (C_BadNumber, "BadNumber"), (C_BadRow, "BadRow"), (C_BadSpace, "BadSpace")] [] [(C_Space, ("Space" : Str))] foN) "turned_rows" s_turned_rows [("rows" : Str), ("gap" : Str)] con_turned_rows 1 := co_mk (N := []) F18 M18 fun F => g_turned_rows F T Lf
    have C_turned_space : Co l.prog w K mg base (sgOf [(C_BadClock, "BadClock"), (C_BadNumber, "BadNumber"), (C_BadRow, "BadRow"), (C_BadSpace, "BadSpace")] [] [(C_Space, ("Space" : Str))] foN) "turned_space" s_turned_space [("space" : Str), ("gap" : Str)] con_turned_space 8 := co_mk (N := []) F19 M19 fun F => g_turned_space F T Lf C_need_number C_space_in C_need_space C_turned_rows
    have C__law_horse : Co l.prog w K mg base (sgOf [(C_BadClock, "BadClock"), (C_BadNumber, "BadNumber"), (C_BadRow, "BadRow"), (C_BadSpace, "BadSpace")] [] [(C_Space, ("Space" : Str))] foN) "_law_horse" s__law_horse [("_law_carousel_here" : Str), ("_law_many" : Str)] con__law_horse 1 := co_mk (N := []) F21 M21 fun F => g__law_horse F T Lf hdraw
    have C__law_one : Co l.prog w K mg base (sgOf [(C_BadClock, "BadClock"), (C_BadNumber, "BadNumber"), (C_BadRow, "BadRow"), (C_BadSpace, "BadSpace")] [] [(C_Space, ("Space" : Str))] foN) "_law_one" s__law_one [("_law_carousel_here" : Str), ("_law_some" : Str)] con__law_one 2 := co_mk (N := []) F22 M22 fun F => g__law_one F T Lf C__law_horse
    have C__law_clock : Co l.prog w K mg base (sgOf [(C_BadClock, "BadClock"), (C_BadNumber, "BadNumber"), (C_BadRow, "BadRow"), (C_BadSpace, "BadSpace")] [] [(C_Space, ("Space" : Str))] foN) "_law_clock" s__law_clock [("_law_carousel_here" : Str)] con__law_clock 3 := co_mk (N := []) F23 M23 fun F => g__law_clock F T Lf C__law_one
    have C__law_least : Co l.prog w K mg base (sgOf [(C_BadClock, "BadClock"), (C_BadNumber, "BadNumber"), (C_BadRow, "BadRow"), (C_BadSpace, "BadSpace")] [] [(C_Space, ("Space" : Str))] foN) "_law_least" s__law_least [("_law_clock_here" : Str), ("_law_rows" : Str)] con__law_least 1 := co_mk (N := []) F24 M24 fun F => g__law_least F T Lf
    exact g_law (S := sgOf [(C_BadClock, "BadClock"), (C_BadNumber, "BadNumber"), (C_BadRow, "BadRow"), (C_BadSpace, "BadSpace")] [] [(C_Space, ("Space" : Str))] foN) F25 T Lf EQ IN_Space C_turned_space C__law_horse C__law_one C__law_clock C__law_least (g__law_carousel F20 T Lf) M20 F20.kp (F20.binds b__law_carousel) hms
end K15
namespace DS
open PySem PySem.Spec PyProof.Rows L2
/-! ### reading a run in plain terms -/
section
variable {ms mt : MS} {ε : XD} {ρ : Ev} {n : Nat} {P : Pn}
theorem seq_i (h : ∀ R : Ev → Nat → Prop, (∀ ρ' n', mt ε ρ' n' P → R ρ' n') → ms ε ρ n { nx := R, rt := P.rt, bk := P.bk, ct := P.ct }) : mSeq ms mt ε ρ n P := h _ fun _ _ h => h
end
section
variable {k : D → Prop} {a b : Int} {c : Bool}
theorem ek_add : optK (addD (.int a) (.int b)) k = k (.int (a + b)) := rfl
theorem ek_sub : optK (subD (.int a) (.int b)) k = k (.int (a - b)) := rfl
theorem ek_neg : optK (negD (.int a)) k = k (.int (-a)) := rfl
theorem ek_cmp {g : Int → Int → Bool} : optK (cmpI g (.int a) (.int b)) k = k (.bl (g a b)) := rfl
theorem ek_int : optK (intD [.int a]) k = k (.int a) := rfl
theorem ek_intb : optK (intD [.bl c]) k = k (.int (if c then 1 else 0)) := rfl
theorem ek_abs : optK (absD [.int a]) k = k (.int (if a < 0 then -a else a)) := rfl
theorem ek_if {p : Prop} [Decidable p] {d : D} : optK (if p then some d else none) k = (p ∧ k d) := by
  by_cases h : p
  · rw [if_pos h]; exact propext ⟨fun z => ⟨h, z⟩, fun z => z.2⟩
  · rw [if_neg h]; exact propext ⟨fun z => z.elim, fun z => absurd z.1 h⟩
theorem ek_mul : optK (mulD (.int a) (.int b)) k = (((-(2 ^ 64) < a ∧ a < 2 ^ 64) ∨ (-(2 ^ 64) < b ∧ b < 2 ^ 64)) ∧ k (.int (a * b))) := ek_if
theorem ek_fdiv : optK (fdivD (.int a) (.int b)) k = ((0 < b ∧ b < 1073741824) ∧ k (.int (a / b))) := ek_if
theorem ek_mod : optK (modD (.int a) (.int b)) k = (0 < b ∧ k (.int (a % b))) := ek_if
theorem ek_pow : optK (powD (.int a) (.int b)) k = ((0 ≤ b ∧ b ≤ 1000000 ∧ a.natAbs < 2 ^ 64) ∧ k (.int (a ^ b.toNat))) := ek_if
theorem ek_str : optK (strD [.int a]) k = (a.natAbs.log2 < 1920 ∧ k (.str (toString a))) := ek_if
theorem ek_len {xs : List D} : optK (lenD [.lst xs]) k = k (.int xs.length) := rfl
theorem ek_lenT {xs : List D} : optK (lenD [.tup xs]) k = k (.int xs.length) := rfl
theorem ek_lst {xs : List D} : optK (lstD xs) k = (xs.length ≤ 1000 ∧ k (.lst xs)) := ek_if
theorem ek_tup {xs : List D} : optK (tupD xs) k = (xs.length ≤ 1000 ∧ k (.tup xs)) := ek_if
theorem ek_addL {xs ys : List D} : optK (addD (.lst xs) (.lst ys)) k = (xs.length + ys.length ≤ sizeLine ∧ k (.lst (xs ++ ys))) := ek_if
theorem ek_addT {xs ys : List D} : optK (addD (.tup xs) (.tup ys)) k = (xs.length + ys.length ≤ sizeLine ∧ k (.tup (xs ++ ys))) := ek_if
theorem ek_rep {xs : List D} : optK (mulD (.lst xs) (.int a)) k = ((-(2 ^ 63) ≤ a ∧ a < 2 ^ 63 ∧ xs.length * a.toNat ≤ sizeLine) ∧ k (.lst (List.replicate a.toNat xs).flatten)) := ek_if
theorem ek_tupl {xs : List D} : optK (tupleD [.lst xs]) k = k (.tup xs) := rfl
theorem ek_slL {xs : List D} {lo hi : Option Int} : optK (slD (.lst xs) lo hi) k = k (.lst (cutD xs lo hi)) := rfl
theorem ek_some {α : Type} {x : α} {q : α → Prop} : optK (some x) q = q x := rfl
end
theorem shaped_ints (l : List Int) : SeqAt.shaped (PyData.list (l.map PyData.int)) = true := by
  have h1 : ∀ l : List Int, PyData.canLayAll0 (l.map PyData.int) = true := fun l => by
    induction l with
    | nil => rfl
    | cons a b ih => rw [List.map_cons]; simp [PyData.canLayAll0, PyData.canLay0, ih]
  have h2 : ∀ l : List Int, PyData.depthAll (l.map PyData.int) = 0 := fun l => by
    induction l with
    | nil => rfl
    | cons a b ih => rw [List.map_cons]; simp [PyData.depthAll, PyData.depth, ih]
  simp [SeqAt.shaped, PyData.canLay0, PyData.depth, h1, h2]
theorem at_ints {l : List Int} {i : Int} (h1 : 0 ≤ i) (h2 : i < l.length) : ∃ c : Int, ixD (.lst (l.map D.int)) (.int i) = some (.int c) := by
  obtain ⟨m, rfl⟩ := Int.eq_ofNat_of_zero_le h1
  have hm : m < l.length := by omega
  refine ⟨l[m], ?_⟩
  show L2.atI (l.map D.int) (m : Int) = _
  have e : L2.ixN (l.map D.int).length (m : Int) = some m := by
    unfold L2.ixN
    rw [List.length_map]
    simp [hm]
  unfold L2.atI
  rw [e]
  simp [hm]
theorem ite_i {p A B : Prop} [Decidable p] (h : p → A) (g : ¬ p → B) : if p then A else B := by
  by_cases z : p
  · rw [if_pos z]; exact h z
  · rw [if_neg z]; exact g z
theorem nb_add {a b : Int} {A B : Nat} (h : a.natAbs ≤ A) (g : b.natAbs ≤ B) : (a + b).natAbs ≤ A + B := by omega
theorem nb_mul {a b : Int} {A B : Nat} (h : a.natAbs ≤ A) (g : b.natAbs ≤ B) : (a * b).natAbs ≤ A * B := by rw [Int.natAbs_mul]; exact Nat.mul_le_mul h g
theorem cut_len (xs : List D) (lo hi : Option Int) : (cutD xs lo hi).length ≤ xs.length := by
  unfold cutD
  rw [List.length_take, List.length_drop]
  omega
theorem cut_mem {xs : List D} {lo hi : Option Int} {x : D} (h : x ∈ cutD xs lo hi) : x ∈ xs := List.mem_of_mem_drop (List.mem_of_mem_take h)
/-! in the draw: the cells against [], a cell by its place -/
theorem ne_nil {k : D → Prop} (cells : List Int) : (k (.bl (!cells.isEmpty))) → optK (neD (.lst (cells.map D.int)) (.lst [])) k := by
  intro h
  cases cells with
  | nil => exact h
  | cons i r =>
    have hp : ∀ l : List Int, pyDs (l.map D.int) = some (l.map PyData.int) := fun l => by
      induction l with
      | nil => rfl
      | cons a b ih => rw [List.map_cons, pyDs, ih]; rfl
    have hs : SeqAt.shaped (PyData.list ((i :: r).map PyData.int)) = true := shaped_ints _
    have e : pyD (.lst ((i :: r).map D.int)) = some (.list ((i :: r).map PyData.int)) := by rw [pyD, hp]; rfl
    unfold neD
    rw [e]
    show optK (if _ ∧ _ then _ else none) k
    rw [if_pos ⟨hs, rfl⟩]
    exact h
end DS
namespace DS
open PySem PySem.Spec PyProof.Rows L2
/-! ### step by step, each step once -/
section
variable {ma mb : ME} {mr : MA} {ε : XD} {ρ : Ev} {n : Nat} {k : DK} {P : Pn} {i j : Nat}
theorem i_ret (h : ma ε ρ n P.rt) : mRet ma ε ρ n P := h
theorem i_asg {g : GF} (h : ma ε ρ n fun d n1 => optK (g d ρ) fun ρ' => P.nx ρ' n1) : mAsg g ma ε ρ n P := h
theorem i_par (h : mr ε ρ n fun ds n1 => match ds with | [x, y] => P.nx ((ρ.set i (.val x)).set j (.val y)) n1 | _ => False) : mPar i j mr ε ρ n P := h
theorem i_cons {q : List D → Nat → Prop} (h : ma ε ρ n fun d n1 => mr ε ρ n1 fun ds n2 => q (d :: ds) n2) : mCons ma mr ε ρ n q := h
theorem i_nil {q : List D → Nat → Prop} (h : q [] n) : mNil ε ρ n q := h
theorem i_args {g : List D → Option D} (h : mr ε ρ n fun ds n1 => optK (g ds) fun d => k d n1) : mArgs g mr ε ρ n k := h
theorem i_c {d : D} (h : k d n) : mC d ε ρ n k := h
theorem i_var {d : D} (e : ρ[i]? = some (.val d)) (h : k d n) : mVar i ε ρ n k := by unfold mVar; rw [e]; exact h
theorem i_op {g : D → D → Option D} (h : ma ε ρ n fun x n1 => mb ε ρ n1 fun y n2 => optK (g x y) fun d => k d n2) : mOp g ma mb ε ρ n k := h
theorem i_un {g : D → Option D} (h : ma ε ρ n fun x n1 => optK (g x) fun d => k d n1) : mUn g ma ε ρ n k := h
theorem i_call {con : Con} (h : mr ε ρ n fun ds n1 => con ε ds n1 k) : mCall con mr ε ρ n k := h
theorem i_sl {ml mh : MO} (h : ma ε ρ n fun x n1 => ml ε ρ n1 fun lo n2 => mh ε ρ n2 fun hi n3 => optK (slD x lo hi) fun d => k d n3) : mSl ma ml mh ε ρ n k := h
theorem i_noP {q : Option Int → Nat → Prop} (h : q none n) : mNoP ε ρ n q := h
theorem i_part {q : Option Int → Nat → Prop} (h : ma ε ρ n fun d n1 => match d with | .int i => q (some i) n1 | _ => False) : mPart ma ε ρ n q := h
theorem i_andV (h : ma ε ρ n fun d n1 => optK (truthD d) fun b => if b = true then mb ε ρ n1 k else k d n1) : mAndV ma mb ε ρ n k := h
theorem i_if {t : MT} {ms mt : MS} (h : t ε ρ n fun b n1 => if b = true then ms ε ρ n1 P else mt ε ρ n1 P) : mIf t ms mt ε ρ n P := h
theorem i_or {ta tb : MT} {q : Bool → Nat → Prop} (h : ta ε ρ n fun b n1 => if b = true then q true n1 else tb ε ρ n1 q) : mOr ta tb ε ρ n q := h
theorem i_bl {q : Bool → Nat → Prop} (h : ma ε ρ n fun d n1 => match d with | .bl b => q b n1 | _ => False) : mBl ma ε ρ n q := h
theorem i_ifE {t : MT} (h : t ε ρ n fun b n1 => if b = true then ma ε ρ n1 k else mb ε ρ n1 k) : mIfE t ma mb ε ρ n k := h
theorem i_tru {q : Bool → Nat → Prop} (h : ma ε ρ n fun d n1 => optK (truthD d) fun b => q b n1) : mTru ma ε ρ n q := h
theorem i_drop (h : ma ε ρ n fun _ n1 => P.nx ρ n1) : mDrop ma ε ρ n P := h
theorem i_not {t : MT} {q : Bool → Nat → Prop} (h : t ε ρ n fun b n1 => q (!b) n1) : mNot t ε ρ n q := h
theorem i_and {ta tb : MT} {q : Bool → Nat → Prop} (h : ta ε ρ n fun b n1 => if b = true then tb ε ρ n1 q else q false n1) : mAnd ta tb ε ρ n q := h
theorem i_heard {con : ML → Nat → DK → Prop} (h : con (fun ε' n' k' => ma ε' (hideO ρ) n' k') n k) : mHeard con ma ε ρ n k := h
theorem i_callK {con : Con} {a b : Nat} {ix : List Nat} {mk : MA} (h : mr ε ρ n fun ds n1 => mk ε ρ n1 fun es n2 => ds.length = a ∧ es.length = b ∧ con ε (pick ix (ds ++ es)) n2 k) : mCallK con a b ix mr mk ε ρ n k := h
theorem i_for {mi : MA} {g : GF} {ms : MS} (h : mi ε ρ n fun ds n1 => forD (fun d ρ n P => optK (g d ρ) fun ρ' => ms ε ρ' n P) ds ρ n1 P) : mFor mi g ms ε ρ n P := h
theorem i_iterL {i : Nat} {q : List D → Nat → Prop} {xs : List D} (e : ρ[i]? = some (.val (.lst xs))) (h : q xs n) : mIter (mVar i) ε ρ n q := by
  show mVar i ε ρ n _
  exact i_var e h
theorem i_partV {q : Option Int → Nat → Prop} {x : Int} {i : Nat} (e : ρ[i]? = some (.val (.int x))) (h : q (some x) n) : mPart (mVar i) ε ρ n q := by
  show mVar i ε ρ n _
  exact i_var e h
theorem i_storeO {i : Nat} {p : Addr} {xs : List D} (e : ρ[i]? = some (.own p (.lst xs))) (h : ma ε ρ n fun d n1 => mb ε ρ n1 fun j n2 => match j with | .int j => optK (ixN xs.length j) fun k => P.nx (ρ.set i (.own p (.lst (xs.set k d)))) n2 | _ => False) : mStoreO i ma mb ε ρ n P := by
  unfold mStoreO; rw [e]; exact h
theorem i_appO {i : Nat} {p : Addr} {xs : List D} (e : ρ[i]? = some (.own p (.lst xs))) (h : ma ε ρ n fun d n1 => xs.length < 1000000 ∧ P.nx (ρ.set i (.own p (.lst (xs ++ [d])))) n1) : mAppO i ma ε ρ n P := by
  unfold mAppO; rw [e]; exact h
theorem i_lock {i : Nat} {p : Addr} {xs : List D} {ms : MS} (e : ρ[i]? = some (.own p (.lst xs))) (h : ms ε (ρ.set i (.val (.lst xs))) n P) : mLock i ms ε ρ n P := by
  unfold mLock; rw [e]; exact h
theorem i_lockV {i : Nat} {d : D} {ms : MS} (e : ρ[i]? = some (.val d)) (h : ms ε ρ n P) : mLock i ms ε ρ n P := by
  unfold mLock; rw [e]; exact h
theorem i_ixO {i : Nat} {p : Addr} {xs : List D} (e : ρ[i]? = some (.own p (.lst xs))) (h : mb ε ρ n fun d n1 => match d with | .int j => optK (atI xs j) fun d => k d n1 | _ => False) : mIxO i mb ε ρ n k := by
  unfold mIxO; rw [e]; exact h
theorem i_lenO {i : Nat} {p : Addr} {xs : List D} (e : ρ[i]? = some (.own p (.lst xs))) (h : k (.int xs.length) n) : mLenO i ε ρ n k := by
  unfold mLenO; rw [e]; exact h
theorem i_asgO {i : Nat} (h : ma ε ρ n fun d n1 => match d with | .lst xs => ∀ p, P.nx (ρ.set i (.own p (.lst xs))) n1 | _ => False) : mAsgO i ma ε ρ n P := h
theorem i_lcR {i : Nat} {z : Int} {g : GF} {vs : List Nat} {tt : MT} {te : ME} (e : ρ[i]? = some (.val (.int z))) (hz : -(2 ^ 62) ≤ z ∧ z < 2 ^ 62) (hl : (range1D z).length ≤ 1000000)
    (h : compD (fun d n k => optK (g d (wipeE ρ vs)) fun ρ' => tt noX ρ' n fun b n2 => if b = true then te noX ρ' n2 fun y n3 => k (some y) n3 else k none n2) (range1D z) n fun xs n2 => k (.lst xs) n2) : mLc (mRange1 (mVar i)) g vs tt te ε ρ n k := by
  unfold mLc mRange1 mVar
  rw [e]
  exact ⟨hz, hl, h⟩
theorem i_yes {te : ME} {ρ : Ev} {n : Nat} {k : Option D → Nat → Prop} (h : te noX ρ n fun y n3 => k (some y) n3) : mYes noX ρ n (fun b n2 => if b = true then te noX ρ n2 (fun y n3 => k (some y) n3) else k none n2) := h
end
section
variable {k : D → Prop} {a b : Int} {xs ys : List D} {lo hi : Option Int}
theorem o_eqX {a b : Int} {k : D → Prop} (h : k (.bl (a == b))) : optK (eqX (.int a) (.int b)) k := h
theorem o_neX {a b : Int} {k : D → Prop} (h : k (.bl (!(a == b)))) : optK (neX (.int a) (.int b)) k := h
theorem o_band {a b : Int} {k : D → Prop} (h : k (.int (Builtin.bitAnd a b))) : optK (bandD (.int a) (.int b)) k := h
theorem o_isB {x y : Bool} (h : k (.bl (decide (x = y)))) : optK (isD (.bl x) (.bl y)) k := h
theorem o_truth {x : Bool} {q : Bool → Prop} (h : q x) : optK (truthD (.bl x)) q := h
theorem o_some {α : Type} {x : α} {q : α → Prop} (h : q x) : optK (some x) q := h
theorem o_add (h : k (.int (a + b))) : optK (addD (.int a) (.int b)) k := h
theorem o_sub (h : k (.int (a - b))) : optK (subD (.int a) (.int b)) k := h
theorem o_neg (h : k (.int (-a))) : optK (negD (.int a)) k := h
theorem o_lst (c : Nat.ble xs.length 1000 = true) (h : k (.lst xs)) : optK (lstD xs) k := by rw [ek_lst]; exact ⟨Nat.le_of_ble_eq_true c, h⟩
theorem o_tup (c : Nat.ble xs.length 1000 = true) (h : k (.tup xs)) : optK (tupD xs) k := by rw [ek_tup]; exact ⟨Nat.le_of_ble_eq_true c, h⟩
theorem o_pow (c : 0 ≤ b ∧ b ≤ 1000000 ∧ a.natAbs < 2 ^ 64) (h : k (.int (a ^ b.toNat))) : optK (powD (.int a) (.int b)) k := by rw [ek_pow]; exact ⟨c, h⟩
theorem o_tupl (h : k (.tup xs)) : optK (tupleD [.lst xs]) k := h
theorem o_slL (h : k (.lst (cutD xs lo hi))) : optK (slD (.lst xs) lo hi) k := h
theorem o_addL (c : xs.length + ys.length ≤ sizeLine) (h : k (.lst (xs ++ ys))) : optK (addD (.lst xs) (.lst ys)) k := by rw [ek_addL]; exact ⟨c, h⟩
theorem o_addT (c : xs.length + ys.length ≤ sizeLine) (h : k (.tup (xs ++ ys))) : optK (addD (.tup xs) (.tup ys)) k := by rw [ek_addT]; exact ⟨c, h⟩
theorem o_rep (c : -(2 ^ 63) ≤ a ∧ a < 2 ^ 63 ∧ xs.length * a.toNat ≤ sizeLine) (h : k (.lst (List.replicate a.toNat xs).flatten)) : optK (mulD (.lst xs) (.int a)) k := by rw [ek_rep]; exact ⟨c, h⟩
theorem o_name {i : Nat} {d : D} {ρ : Ev} {q : Ev → Prop} (h : q (ρ.set i (.val d))) : optK (gfName i d ρ) q := h
end
end DS
/-! # DataP: plain facts that many laws want -/
namespace DS
open PySem PySem.Spec PyProof.Rows L2
theorem ek_truth {b : Bool} {q : Bool → Prop} : optK (truthD (.bl b)) q = q b := rfl
def Pl (d : D) : Prop := ∃ t, tyD d = some t
theorem pl_int (i : Int) : Pl (.int i) := ⟨_, rfl⟩
theorem pl_lst (xs : List D) : Pl (.lst xs) := ⟨_, rfl⟩
theorem pl_tup (xs : List D) : Pl (.tup xs) := ⟨_, rfl⟩
def isI : D → Bool
  | .int _ => true
  | _ => false
def loB : D → Int → Bool
  | .int a, i => decide (a ≤ i)
  | _, _ => true
def hiB : Int → D → Bool
  | i, .int a => decide (i ≤ a)
  | _, _ => true
def isW (d lo hi : D) : Bool := match d with
  | .int i => loB lo i && hiB i hi
  | _ => false
def CL : List Int := [3, 5, 7, 11, 13, 17, 19, 23, 29, 31]
def isC : D → Bool
  | .int i => CL.any fun j => j == i
  | _ => false
theorem le_lit {a b : Nat} (h : Nat.ble a b = true) : a ≤ b := Nat.le_of_ble_eq_true h
theorem at_lst {l : List D} {i : Int} (h1 : 0 ≤ i) (h2 : i < l.length) : ∃ x, x ∈ l ∧ ixD (.lst l) (.int i) = some x := by
  obtain ⟨m, rfl⟩ := Int.eq_ofNat_of_zero_le h1
  have hm : m < l.length := by omega
  refine ⟨l[m], List.getElem_mem hm, ?_⟩
  show L2.atI l (m : Int) = _
  have e : L2.ixN l.length (m : Int) = some m := by
    unfold L2.ixN
    simp [hm]
  unfold L2.atI
  rw [e]
  simp [hm]
theorem for_i {st : D → Ev → Nat → Pn → Prop} {d : D} {ds : List D} {ρ : Ev} {n : Nat} {P : Pn} (h : ∀ R : Ev → Nat → Prop, (∀ ρ' n', forD st ds ρ' n' P → R ρ' n') → st d ρ n { nx := R, rt := P.rt, bk := P.nx, ct := R }) : forD st (d :: ds) ρ n P := h _ fun _ _ z => z
theorem for_nil {st : D → Ev → Nat → Pn → Prop} {ρ : Ev} {n : Nat} {P : Pn} (h : P.nx ρ n) : forD st [] ρ n P := h
theorem o_tg2 {i j : Nat} {a b : D} {ρ : Ev} {q : Ev → Prop} (h : q ((ρ.set i (.val a)).set j (.val b))) : optK (gfTup (gsCons (gfName i) (gsCons (gfName j) gsNil)) (.tup [a, b]) ρ) q := h
theorem i_isX {g : Str → Option Bool} {i : Nat} {nm : Str} {fs : List (Str × D)} {b : Bool} {ε : XD} {ρ : Ev} {n : Nat} {k : DK} (e : ρ[i]? = some (.val (.exc nm fs))) (hg : g nm = some b) (h : k (.bl b) n) : mIsX g (mVar i) ε ρ n k := by
  refine i_var e ?_
  show match g nm with | some b => k (.bl b) n | none => False
  rw [hg]; exact h
theorem i_isXn {g : Str → Option Bool} {i : Nat} {ε : XD} {ρ : Ev} {n : Nat} {k : DK} (e : ρ[i]? = some (.val .non)) (h : k (.bl false) n) : mIsX g (mVar i) ε ρ n k := i_var e h
theorem i_xf {f : Str} {i : Nat} {nm : Str} {d : D} {ε : XD} {ρ : Ev} {n : Nat} {k : DK} (e : ρ[i]? = some (.val (.exc nm [(f, d)]))) (h : k d n) : mXf okT f (mVar i) ε ρ n k := by
  refine i_var e ⟨rfl, ?_⟩
  show optK (List.lookup f [(f, d)]) _
  rw [show List.lookup f [(f, d)] = some d by simp [List.lookup]]
  exact h
theorem range1_ints (j : Int) : range1D j = ((List.range j.toNat).map fun t => ((t : Nat) : Int)).map D.int := by
  unfold range1D
  rw [List.map_map]; rfl
theorem range2_ints (i j : Int) : range2D i j = ((List.range (j - i).toNat).map fun t => i + ((t : Nat) : Int)).map D.int := by
  unfold range2D
  rw [List.map_map]; rfl
theorem comp_ints {st : D → Nat → (Option D → Nat → Prop) → Prop} (g : Int → Int) (n : Nat) : ∀ (ns : List Int) (k : List D → Nat → Prop), (∀ i ∈ ns, ∀ k : Option D → Nat → Prop, k (some (.int (g i))) n → st (.int i) n k) → k ((ns.map g).map D.int) n → compD st (ns.map D.int) n k
  | [], k, _, h => h
  | i :: ns, k, hs, h => hs i List.mem_cons_self _ (comp_ints g n ns _ (fun d' hd => hs d' (List.mem_cons_of_mem _ hd)) h)
theorem ints_map : ∀ ns : List Int, intsOf (ns.map D.int) = some ns
  | [] => rfl
  | i :: ns => by rw [List.map_cons, intsOf, ints_map ns]; rfl
theorem o_sum {ns : List Int} {k : D → Prop} (h : k (.int ns.sum)) : optK (sumD [.lst (ns.map D.int)]) k := by
  show optK ((intsOf _).map _) k
  rw [ints_map]; exact h
theorem len_range1 (z : Int) : (range1D z).length = z.toNat := by unfold range1D; rw [List.length_map, List.length_range]
/-! what repr shows -/
structure Ok (j w : Nat) (d : D) (e : PyData) : Prop where
  py : pyD d = some e
  sh : e.showable = true
  dp : e.depth ≤ j
  lv : e.leavesShort 30 = true
  wt : e.weight ≤ w
theorem oks {j w : Nat} : ∀ xs : List D, (∀ x ∈ xs, ∃ e, Ok j w x e) → ∃ es, pyDs xs = some es ∧ PyData.showableAll es = true ∧ PyData.depthAll es ≤ j ∧ PyData.leavesShortAll 30 es = true ∧ PyData.weightAll es ≤ xs.length * (w + 1)
  | [], _ => ⟨[], by rw [pyDs], rfl, Nat.zero_le _, rfl, Nat.zero_le _⟩
  | x :: xs, h => by
    obtain ⟨e, o⟩ := h x List.mem_cons_self
    obtain ⟨es, h1, h2, h3, h4, h5⟩ := oks xs fun y hy => h y (List.mem_cons_of_mem _ hy)
    refine ⟨e :: es, by rw [pyDs, o.py, h1], by rw [PyData.showableAll, o.sh, h2]; rfl, ?_, by rw [PyData.leavesShortAll, o.lv, h4]; rfl, ?_⟩
    · rw [PyData.depthAll]; exact Nat.max_le.mpr ⟨o.dp, h3⟩
    · rw [PyData.weightAll, List.length_cons, Nat.succ_mul]
      have := o.wt
      omega
theorem ok_int {i : Int} (h : i.natAbs < 10 ^ 12) : ∃ e, Ok 0 80 (.int i) e := by
  have l1 : i.natAbs.log2 < 1920 := by
    by_cases z : i.natAbs = 0
    · rw [z]; decide
    · exact (Nat.log2_lt z).mpr (Nat.lt_trans h (by decide))
  have l2 : i.natAbs.log2 < 40 := by
    by_cases z : i.natAbs = 0
    · rw [z]; decide
    · exact (Nat.log2_lt z).mpr (Nat.lt_trans h (by decide))
  refine ⟨.int i, rfl, by simp [PyData.showable, l1], Nat.zero_le _, ?_, ?_⟩
  · have := PyData.shown_int_le h
    rw [PyData.leavesShort]
    exact decide_eq_true (Nat.le_trans this (by decide))
  · rw [PyData.weight]
    split
    · exact Nat.zero_le _
    · omega
theorem ok_lst {j w : Nat} {xs : List D} (h : ∀ x ∈ xs, ∃ e, Ok j w x e) : ∃ e, Ok (j + 1) (xs.length * (w + 1)) (.lst xs) e := by
  obtain ⟨es, h1, h2, h3, h4, h5⟩ := oks xs h
  exact ⟨.list es, by rw [pyD, h1]; rfl, h2, by show PyData.depthAll es + 1 ≤ _; omega, h4, h5⟩
theorem ok_tup {j w : Nat} {xs : List D} (h : ∀ x ∈ xs, ∃ e, Ok j w x e) : ∃ e, Ok (j + 1) (xs.length * (w + 1)) (.tup xs) e := by
  obtain ⟨es, h1, h2, h3, h4, h5⟩ := oks xs h
  exact ⟨.tuple es, by rw [pyD, h1]; rfl, h2, by show PyData.depthAll es + 1 ≤ _; omega, h4, h5⟩
theorem rep_ok {j w : Nat} {d : D} (h : ∃ e, Ok j w d e) (hj : j ≤ 60) (hw : 32 * w + 30 ≤ 2 ^ 24) : ∃ z : Str, reprXD [d] = some (.str z) := by
  obtain ⟨e, o⟩ := h
  refine ⟨e.shown, ?_⟩
  show (pyD d).bind reprX = _
  rw [o.py]
  have h1 := PyData.shown_le 30 (by decide) e o.lv
  have h2 : (30 + 2) * e.weight ≤ 32 * w := Nat.mul_le_mul (Nat.le_refl 32) o.wt
  exact if_pos ⟨o.sh, Nat.le_trans o.dp hj, Nat.le_trans h1 (by show _ ≤ 2 ^ 24; omega)⟩
end DS
/-! # DataQ: more steps, for longer runs of STQ -/
namespace DS
open PySem PySem.Spec PyProof.Rows L2
section
variable {ma mb : ME} {mr : MA} {ε : XD} {ρ ρ' : Ev} {n : Nat} {k : DK} {P : Pn} {i j : Nat} {ms mt : MS}
theorem i_seq (h : ms ε ρ n { nx := fun ρ' n' => mt ε ρ' n' P, rt := P.rt, bk := P.bk, ct := P.ct }) : mSeq ms mt ε ρ n P := h
theorem i_next (h : P.nx ρ n) : mNext ε ρ n P := h
theorem i_brk (h : P.bk ρ n) : mBrk ε ρ n P := h
theorem i_cnt (h : P.ct ρ n) : mCnt ε ρ n P := h
theorem i_retN (h : P.rt .non n) : mRetN ε ρ n P := h
theorem i_orV (h : ma ε ρ n fun d n1 => optK (truthD d) fun b => if b = true then k d n1 else mb ε ρ n1 k) : mOrV ma mb ε ρ n k := h
theorem i_notV (h : ma ε ρ n fun d n1 => optK (truthD d) fun b => k (.bl (!b)) n1) : mNotV ma ε ρ n k := h
theorem i_un1 {g : D → Option D} (h : ma ε ρ n fun x n1 => optK (g x) fun d => k d n1) : mUn1 g ma ε ρ n k := h
theorem i_dict0 (h : k (.dct []) n) : mDict0 ε ρ n k := h
theorem i_partA {q : Option Int → Nat → Prop} (h : ma ε ρ n fun d n1 => match d with | .int i => q (some i) n1 | _ => False) : mPart ma ε ρ n q := h
theorem i_par3 {l : Nat} (h : mr ε ρ n fun ds n1 => match ds with | [x, y, z] => P.nx (((ρ.set i (.val x)).set j (.val y)).set l (.val z)) n1 | _ => False) : mPar3 i j l mr ε ρ n P := h
theorem i_callV {con : Con} {dds : List D} (h : mr ε ρ n fun ds n1 => con ε (ds ++ dds) n1 k) : mCallV con dds mr ε ρ n k := h
theorem i_lc {mi : MA} {g : GF} {vs : List Nat} {tt : MT} {te : ME} (h : mi ε ρ n fun ds n1 => ds.length ≤ 1000000 ∧ compD (fun d n k => optK (g d (wipeE ρ vs)) fun ρ' => tt noX ρ' n fun b n2 => if b = true then te noX ρ' n2 fun y n3 => k (some y) n3 else k none n2) ds n1 fun xs n2 => k (.lst xs) n2) : mLc mi g vs tt te ε ρ n k := h
theorem i_iter {q : List D → Nat → Prop} (h : ma ε ρ n fun d n1 => match d with | .lst xs => q xs n1 | .tup xs => q xs n1 | _ => False) : mIter ma ε ρ n q := h
theorem i_rg1 {q : List D → Nat → Prop} {z : Int} (hz : -(2 ^ 62) ≤ z ∧ z < 2 ^ 62) (h : q (range1D z) n) : (fun d n1 => match d with | .int j => (-(2 ^ 62) ≤ j ∧ j < 2 ^ 62) ∧ q (range1D j) n1 | _ => False : DK) (.int z) n := ⟨hz, h⟩
theorem o_nm (e : ρ.set i (.val d) = ρ') {q : Ev → Prop} (h : q ρ') : optK (gfName i d ρ) q := by
  show q (ρ.set i (.val d)); rw [e]; exact h
theorem o_tg2' {a b : D} {q : Ev → Prop} (e : (ρ.set i (.val a)).set j (.val b) = ρ') (h : q ρ') : optK (gfTup (gsCons (gfName i) (gsCons (gfName j) gsNil)) (.tup [a, b]) ρ) q := by
  show q ((ρ.set i (.val a)).set j (.val b)); rw [e]; exact h
theorem nx_set {x : Sl} (e : ρ.set i x = ρ') (h : P.nx ρ' n) : P.nx (ρ.set i x) n := by rw [e]; exact h
end
theorem ite_T {b : Bool} {A B : Prop} (e : b = true) (h : A) : if b = true then A else B := by rw [if_pos e]; exact h
theorem ite_F {b : Bool} {A B : Prop} (e : b = false) (h : B) : if b = true then A else B := by rw [e, if_neg (by decide)]; exact h
section
variable {k : D → Prop} {a b : Int} {xs ys : List D}
theorem o_mul (c : (-(2 ^ 64) < a ∧ a < 2 ^ 64) ∨ (-(2 ^ 64) < b ∧ b < 2 ^ 64)) (h : k (.int (a * b))) : optK (mulD (.int a) (.int b)) k := by rw [ek_mul]; exact ⟨c, h⟩
theorem o_fdiv (c : 0 < b ∧ b < 1073741824) (h : k (.int (a / b))) : optK (fdivD (.int a) (.int b)) k := by rw [ek_fdiv]; exact ⟨c, h⟩
theorem o_mod (c : 0 < b) (h : k (.int (a % b))) : optK (modD (.int a) (.int b)) k := by rw [ek_mod]; exact ⟨c, h⟩
theorem o_cmp {g : Int → Int → Bool} (h : k (.bl (g a b))) : optK (cmpI g (.int a) (.int b)) k := h
theorem o_len (h : k (.int xs.length)) : optK (lenD [.lst xs]) k := h
theorem o_lenT (h : k (.int xs.length)) : optK (lenD [.tup xs]) k := h
theorem o_int (h : k (.int a)) : optK (intD [.int a]) k := h
theorem o_list (h : k (.lst xs)) : optK (listD [.tup xs]) k := h
theorem o_tupT (h : k (.tup xs)) : optK (tupleD [.tup xs]) k := h
theorem ff {b : Bool} {p : Prop} (h : b = true) (h' : b = false) : p := absurd (h.symm.trans h') (by decide)
end
end DS
/-! # LinA: rows round a clock, spaces, least forms; plain Lean -/
namespace LA
def gt (xs : List Int) (j : Nat) : Int := xs.getD j 0
def Ro (a : Int) (z : Nat) (xs : List Int) : Prop := xs.length = z ∧ ∀ x ∈ xs, 0 ≤ x ∧ x < a
/-- v and c times r -/
def ax (a c : Int) (r v : List Int) : List Int := List.zipWith (fun x y => (x + c * y) % a) v r
def zr (z : Nat) : List Int := List.replicate z 0
theorem gt_of {xs : List Int} {j : Nat} (h : j < xs.length) : gt xs j = xs[j] := by
  unfold gt; rw [List.getD_eq_getElem?_getD, List.getElem?_eq_getElem h]; rfl
theorem gt_out {xs : List Int} {j : Nat} (h : xs.length ≤ j) : gt xs j = 0 := by
  unfold gt; rw [List.getD_eq_getElem?_getD, List.getElem?_eq_none h]; rfl
theorem gt_map {xs : List Int} {g : Int → Int} {j : Nat} (h : j < xs.length) : gt (xs.map g) j = g (gt xs j) := by
  rw [gt_of h, gt_of (by rw [List.length_map]; exact h), List.getElem_map]
section
variable {a c d : Int} {z : Nat} {u v w r : List Int}
theorem Ro.len (h : Ro a z v) : v.length = z := h.1
theorem Ro.bd (h : Ro a z v) {j : Nat} (hj : j < z) : 0 ≤ gt v j ∧ gt v j < a := by
  have hl : j < v.length := by rw [h.1]; exact hj
  rw [gt_of hl]; exact h.2 _ (List.getElem_mem hl)
theorem ro_of (hl : v.length = z) (h : ∀ j, j < z → 0 ≤ gt v j ∧ gt v j < a) : Ro a z v := ⟨hl, fun x hx => by
  obtain ⟨j, hj, rfl⟩ := List.getElem_of_mem hx
  have := h j (by omega)
  rw [gt_of hj] at this; exact this⟩
theorem ext_gt (h1 : u.length = z) (h2 : v.length = z) (h : ∀ j, j < z → gt u j = gt v j) : u = v := by
  apply List.ext_getElem (by omega)
  intro j h3 h4
  have := h j (by omega)
  rwa [gt_of h3, gt_of h4] at this
theorem len_ax (h1 : v.length = z) (h2 : r.length = z) : (ax a c r v).length = z := by unfold ax; rw [List.length_zipWith]; omega
theorem gt_ax (h1 : v.length = z) (h2 : r.length = z) {j : Nat} (hj : j < z) : gt (ax a c r v) j = (gt v j + c * gt r j) % a := by
  rw [gt_of (by rw [len_ax h1 h2]; exact hj), gt_of (by omega), gt_of (by omega)]
  unfold ax
  rw [List.getElem_zipWith]
theorem ro_ax (ha : 0 < a) (h1 : v.length = z) (h2 : r.length = z) : Ro a z (ax a c r v) := ro_of (len_ax h1 h2) fun j hj => by
  rw [gt_ax h1 h2 hj]
  exact ⟨Int.emod_nonneg _ (by omega), Int.emod_lt_of_pos _ ha⟩
theorem len_zr : (zr z).length = z := List.length_replicate
theorem gt_zr {j : Nat} : gt (zr z) j = 0 := by
  by_cases h : j < z
  · rw [gt_of (by rw [len_zr]; exact h)]; unfold zr; rw [List.getElem_replicate]
  · exact gt_out (by rw [len_zr]; omega)
theorem ro_zr (ha : 0 < a) : Ro a z (zr z) := ro_of len_zr fun j _ => by rw [gt_zr]; omega
/-- equal round the clock -/
theorem ro_ext (h1 : Ro a z u) (h2 : Ro a z v) (h : ∀ j, j < z → gt u j % a = gt v j % a) : u = v := ext_gt h1.1 h2.1 fun j hj => by
  have := h j hj
  have b1 := h1.bd hj
  have b2 := h2.bd hj
  rwa [Int.emod_eq_of_lt b1.1 b1.2, Int.emod_eq_of_lt b2.1 b2.2] at this
theorem ax_zero (h : Ro a z v) (hr : r.length = z) : ax a 0 r v = v := ext_gt (len_ax h.1 hr) h.1 fun j hj => by
  rw [gt_ax h.1 hr hj, Int.zero_mul, Int.add_zero]
  exact Int.emod_eq_of_lt (h.bd hj).1 (h.bd hj).2
theorem ax_zr (h : Ro a z v) : ax a c (zr z) v = v := ext_gt (len_ax h.1 len_zr) h.1 fun j hj => by
  rw [gt_ax h.1 len_zr hj, gt_zr, Int.mul_zero, Int.add_zero]
  exact Int.emod_eq_of_lt (h.bd hj).1 (h.bd hj).2
theorem ax_one (h : Ro a z v) : ax a 1 v (zr z) = v := ext_gt (len_ax len_zr h.1) h.1 fun j hj => by
  rw [gt_ax len_zr h.1 hj, gt_zr, Int.one_mul, Int.zero_add]
  exact Int.emod_eq_of_lt (h.bd hj).1 (h.bd hj).2
theorem mod_ax {x y : Int} : (x % a + c * (y % a)) % a = (x + c * y) % a := by
  rw [Int.add_emod, Int.emod_emod_of_dvd _ (Int.dvd_refl a), Int.mul_emod c, Int.emod_emod_of_dvd _ (Int.dvd_refl a), ← Int.mul_emod, ← Int.add_emod]
/-- v and c times (w and d times r) -/
theorem ax_ax (ha : 0 < a) (hv : v.length = z) (hw : w.length = z) (hr : r.length = z) : ax a c (ax a d r w) v = ax a (c * d) r (ax a c w v) := by
  refine ext_gt (len_ax hv (len_ax hw hr)) (len_ax (len_ax hv hw) hr) fun j hj => ?_
  rw [gt_ax hv (len_ax hw hr) hj, gt_ax hw hr hj, gt_ax (len_ax hv hw) hr hj, gt_ax hv hw hj]
  have e1 : (gt v j + c * ((gt w j + d * gt r j) % a)) % a = (gt v j + c * (gt w j + d * gt r j)) % a := by
    rw [Int.add_emod, Int.mul_emod, Int.emod_emod_of_dvd _ (Int.dvd_refl a), ← Int.mul_emod, ← Int.add_emod]
  have e2 : ((gt v j + c * gt w j) % a + c * d * gt r j) % a = (gt v j + c * gt w j + c * d * gt r j) % a := by
    rw [Int.add_emod, Int.emod_emod_of_dvd _ (Int.dvd_refl a), ← Int.add_emod]
  rw [e1, e2]
  congr 1
  rw [Int.mul_add, ← Int.mul_assoc, Int.add_assoc]
end
/-! ### spaces -/
inductive Sp (a : Int) (z : Nat) (R : List (List Int)) : List Int → Prop
  | zero : Sp a z R (zr z)
  | add {v r : List Int} (c : Int) : Sp a z R v → r ∈ R → Sp a z R (ax a c r v)
section
variable {a c : Int} {z : Nat} {R R' : List (List Int)} {u v w r : List Int}
theorem Sp.ro (ha : 0 < a) (hR : ∀ r ∈ R, Ro a z r) (h : Sp a z R v) : Ro a z v := by
  induction h with
  | zero => exact ro_zr ha
  | add c h hr ih => exact ro_ax ha ih.1 (hR _ hr).1
theorem Sp.comb (ha : 0 < a) (hR : ∀ r ∈ R, Ro a z r) (c : Int) (hv : Sp a z R v) (hw : Sp a z R w) : Sp a z R (ax a c w v) := by
  induction hw with
  | zero => rw [ax_zr (hv.ro ha hR)]; exact hv
  | add d h hr ih =>
    rw [ax_ax ha (hv.ro ha hR).1 (h.ro ha hR).1 (hR _ hr).1]
    exact .add _ ih hr
theorem Sp.mem (hR : ∀ r ∈ R, Ro a z r) (h : r ∈ R) : Sp a z R r := by
  have := Sp.add (a := a) (z := z) 1 .zero h
  rwa [ax_one (hR _ h)] at this
theorem Sp.sub (ha : 0 < a) (hR' : ∀ r ∈ R', Ro a z r) (h : ∀ r ∈ R, Sp a z R' r) (hv : Sp a z R v) : Sp a z R' v := by
  induction hv with
  | zero => exact .zero
  | add c _ hr ih => exact ih.comb ha hR' c (h _ hr)
theorem Sp.sub' (h : ∀ r ∈ R, r ∈ R') (hv : Sp a z R v) : Sp a z R' v := by
  induction hv with
  | zero => exact .zero
  | add c _ hr ih => exact .add c ih (h _ hr)
/-- the same space -/
def Eqs (a : Int) (z : Nat) (R R' : List (List Int)) : Prop := ∀ v, Sp a z R v ↔ Sp a z R' v
theorem eqs_of (ha : 0 < a) (hR : ∀ r ∈ R, Ro a z r) (hR' : ∀ r ∈ R', Ro a z r) (h : ∀ r ∈ R, Sp a z R' r) (h' : ∀ r ∈ R', Sp a z R r) : Eqs a z R R' := fun v => ⟨fun q => q.sub ha hR' h, fun q => q.sub ha hR h'⟩
theorem Eqs.refl : Eqs a z R R := fun _ => Iff.rfl
theorem Eqs.symm (h : Eqs a z R R') : Eqs a z R' R := fun v => (h v).symm
theorem Eqs.trans {R2 : List (List Int)} (h : Eqs a z R R') (g : Eqs a z R' R2) : Eqs a z R R2 := fun v => (h v).trans (g v)
end
/-! ### forms -/
abbrev Fm := List (Nat × List Int)
structure Red (a : Int) (z : Nat) (f : Fm) : Prop where
  asc : f.Pairwise fun p q => p.1 < q.1
  ro : ∀ p ∈ f, p.1 < z ∧ Ro a z p.2
  one : ∀ p ∈ f, gt p.2 p.1 = 1
  zer : ∀ p ∈ f, ∀ q ∈ f, p.1 ≠ q.1 → gt q.2 p.1 = 0
  low : ∀ p ∈ f, ∀ j, j < p.1 → gt p.2 j = 0
def rowsF (f : Fm) : List (List Int) := f.map (·.2)
theorem red_nil {a : Int} {z : Nat} : Red a z [] := ⟨.nil, (fun _ h => nomatch h), (fun _ h => nomatch h), (fun _ h => nomatch h), (fun _ h => nomatch h)⟩
section
variable {a c : Int} {z : Nat} {f f' : Fm} {u v w r : List Int}
theorem Red.rr (h : Red a z f) : ∀ r ∈ rowsF f, Ro a z r := fun r hr => by
  obtain ⟨p, hp, rfl⟩ := List.mem_map.mp hr
  exact (h.ro p hp).2
theorem Red.inj (h : Red a z f) {p q : Nat × List Int} (hp : p ∈ f) (hq : q ∈ f) (e : p.1 = q.1) : p = q := by
  have := h.asc
  clear h
  induction f with
  | nil => cases hp
  | cons x f ih =>
    rw [List.pairwise_cons] at this
    rcases List.mem_cons.mp hp with e1 | hp1 <;> rcases List.mem_cons.mp hq with e2 | hq1
    · rw [e1, e2]
    · subst e1; have := this.1 _ hq1; omega
    · subst e2; have := this.1 _ hp1; omega
    · exact ih hp1 hq1 this.2
/-- the sum over a form of x's numbers at the leads, times the rows, at place j -/
def sm (f : Fm) (x : List Int) (j : Nat) : Int := (f.map fun p => gt x p.1 * gt p.2 j).sum
theorem sm_zr {j : Nat} : sm f (zr z) j = 0 := by
  unfold sm
  induction f with
  | nil => rfl
  | cons p f ih => rw [List.map_cons, List.sum_cons, ih, gt_zr, Int.zero_mul, Int.zero_add]
theorem sm_ax (hf : ∀ p ∈ f, p.1 < z) (hv : v.length = z) (hr : r.length = z) {j : Nat} : sm f (ax a c r v) j % a = (sm f v j + c * sm f r j) % a := by
  unfold sm
  induction f with
  | nil => simp
  | cons p f ih =>
    have ih := ih fun q hq => hf q (List.mem_cons_of_mem _ hq)
    rw [List.map_cons, List.sum_cons, List.map_cons, List.sum_cons, List.map_cons, List.sum_cons, gt_ax hv hr (hf p List.mem_cons_self)]
    rw [Int.add_emod, ih, Int.mul_emod, Int.emod_emod_of_dvd _ (Int.dvd_refl a), ← Int.mul_emod, ← Int.add_emod]
    congr 1
    rw [Int.add_mul, Int.mul_add, Int.mul_assoc]
    omega
/-- of rows of the form itself -/
theorem sm_none (h : ∀ p ∈ f, gt r p.1 = 0 ∨ gt p.2 j = 0) : sm f r j = 0 := by
  unfold sm
  induction f with
  | nil => rfl
  | cons p f ih =>
    rw [List.map_cons, List.sum_cons, ih fun q hq => h q (List.mem_cons_of_mem _ hq)]
    rcases h p List.mem_cons_self with e | e
    · rw [e, Int.zero_mul]; rfl
    · rw [e, Int.mul_zero]; rfl
theorem sm_row (h : Red a z f) {q : Nat × List Int} (hq : q ∈ f) {j : Nat} : sm f q.2 j = gt q.2 j := by
  have one := h.one q hq
  have zer : ∀ p ∈ f, p.1 ≠ q.1 → gt q.2 p.1 = 0 := fun p hp => h.zer p hp q hq
  have asc := h.asc
  have inj : ∀ p ∈ f, p.1 = q.1 → p = q := fun p hp e => h.inj hp hq e
  clear h
  induction f with
  | nil => cases hq
  | cons x f ih =>
    rw [List.pairwise_cons] at asc
    unfold sm
    rw [List.map_cons, List.sum_cons]
    by_cases e : x.1 = q.1
    · have := inj x List.mem_cons_self e
      subst this
      have e2 : sm f x.2 j = 0 := sm_none fun p hp => .inl (zer p (List.mem_cons_of_mem _ hp) (by have := asc.1 p hp; omega))
      unfold sm at e2
      rw [e2, one, Int.one_mul, Int.add_zero]
    · have hq' : q ∈ f := by
        rcases List.mem_cons.mp hq with rfl | h
        · exact absurd rfl e
        · exact h
      have := ih hq' (fun p hp => zer p (List.mem_cons_of_mem _ hp)) asc.2 fun p hp => inj p (List.mem_cons_of_mem _ hp)
      unfold sm at this
      rw [this, zer x List.mem_cons_self e, Int.zero_mul, Int.zero_add]
theorem Red.sum (ha : 0 < a) (h : Red a z f) (hv : Sp a z (rowsF f) v) {j : Nat} (hj : j < z) : gt v j % a = sm f v j % a := by
  induction hv with
  | zero => rw [sm_zr, gt_zr]
  | @add v r c hv hr ih =>
    obtain ⟨q, hq, rfl⟩ := List.mem_map.mp hr
    have lv := (hv.ro ha h.rr).1
    have lr := (h.ro q hq).2.1
    rw [sm_ax (fun p hp => (h.ro p hp).1) lv lr, gt_ax lv lr hj, sm_row h hq, Int.emod_emod_of_dvd _ (Int.dvd_refl a), Int.add_emod, ih, ← Int.add_emod]
/-- a row of the space with 0 at all leads is 0 -/
theorem Red.nil (ha : 0 < a) (h : Red a z f) (hv : Sp a z (rowsF f) v) (h0 : ∀ p ∈ f, gt v p.1 = 0) : v = zr z := ro_ext (hv.ro ha h.rr) (ro_zr ha) fun j hj => by
  rw [h.sum ha hv hj, sm_none fun p hp => .inl (h0 p hp), gt_zr]
/-- the lead of a row of the space is one of the form's leads -/
theorem Red.lead (ha : 0 < a) (h : Red a z f) (hv : Sp a z (rowsF f) v) {l : Nat} (hl : l < z) (hn : gt v l ≠ 0) (h0 : ∀ j, j < l → gt v j = 0) : ∃ p ∈ f, p.1 = l := by
  refine Classical.byContradiction fun no => hn ?_
  have e : sm f v l = 0 := sm_none fun p hp => by
    rcases Nat.lt_trichotomy p.1 l with e | e | e
    · exact .inl (h0 _ e)
    · exact absurd ⟨p, hp, e⟩ no
    · exact .inr (h.low p hp l e)
  have := h.sum ha hv hl
  rw [e, Int.zero_emod] at this
  have b := (hv.ro ha h.rr).bd hl
  rwa [Int.emod_eq_of_lt b.1 b.2] at this
theorem Red.sub (ha : 1 < a) (h : Red a z f) (h' : Red a z f') (e : Eqs a z (rowsF f) (rowsF f')) {p : Nat × List Int} (hp : p ∈ f) : p ∈ f' := by
  have ha0 : 0 < a := by omega
  have key : ∀ {f f' : Fm}, Red a z f → Red a z f' → Eqs a z (rowsF f) (rowsF f') → ∀ p ∈ f, ∃ q ∈ f', q.1 = p.1 := fun {f f'} h h' e p hp => by
    have s1 : Sp a z (rowsF f') p.2 := (e _).mp (.mem h.rr (List.mem_map_of_mem hp))
    exact h'.lead ha0 s1 (h.ro p hp).1 (by rw [h.one p hp]; decide) (h.low p hp)
  obtain ⟨q, hq, eq⟩ := key h h' e p hp
  have lp := (h.ro p hp).2.1
  have lq := (h'.ro q hq).2.1
  have s1 : Sp a z (rowsF f) p.2 := .mem h.rr (List.mem_map_of_mem hp)
  have s2 : Sp a z (rowsF f) q.2 := (e _).mpr (.mem h'.rr (List.mem_map_of_mem hq))
  have s3 := s1.comb ha0 h.rr (-1) s2
  have n := h.nil ha0 s3 fun x hx => by
    rw [gt_ax lp lq (h.ro x hx).1]
    by_cases ex : x.1 = p.1
    · have := h.inj hx hp ex
      subst this
      rw [h.one x hx, ← eq, h'.one q hq]; rfl
    · obtain ⟨y, hy, ey⟩ := key h h' e x hx
      rw [h.zer x hx p hp ex, ← ey, h'.zer y hy q hq (by omega)]; rfl
  have e2 : p.2 = q.2 := ro_ext (h.ro p hp).2 (h'.ro q hq).2 fun j hj => by
    have z1 : gt (ax a (-1) q.2 p.2) j = 0 := by rw [n, gt_zr]
    rw [gt_ax lp lq hj] at z1
    have z2 : (gt p.2 j - gt q.2 j) % a = 0 := by rw [← z1]; congr 1; omega
    exact Int.emod_eq_emod_iff_emod_sub_eq_zero.mpr z2
  have : p = q := Prod.ext eq.symm e2
  rw [this]; exact hq
theorem asc_ext : ∀ {f f' : Fm}, f.Pairwise (fun p q => p.1 < q.1) → f'.Pairwise (fun p q => p.1 < q.1) → (∀ p, p ∈ f ↔ p ∈ f') → f = f'
  | [], [], _, _, _ => rfl
  | [], q :: _, _, _, h => absurd ((h q).mpr List.mem_cons_self) (fun h => nomatch h)
  | p :: _, [], _, _, h => absurd ((h p).mp List.mem_cons_self) (fun h => nomatch h)
  | p :: f, q :: f', h1, h2, h => by
    rw [List.pairwise_cons] at h1 h2
    have e : p = q := by
      rcases List.mem_cons.mp ((h p).mp List.mem_cons_self) with e | e
      · exact e
      · rcases List.mem_cons.mp ((h q).mpr List.mem_cons_self) with e' | e'
        · exact e'.symm
        · have := h1.1 _ e'; have := h2.1 _ e; omega
    subst e
    congr 1
    refine asc_ext h1.2 h2.2 fun x => ?_
    have hx := h x
    constructor
    · intro m
      rcases List.mem_cons.mp (hx.mp (List.mem_cons_of_mem _ m)) with e | e
      · subst e; have := h1.1 _ m; omega
      · exact e
    · intro m
      rcases List.mem_cons.mp (hx.mpr (List.mem_cons_of_mem _ m)) with e | e
      · subst e; have := h2.1 _ m; omega
      · exact e
/-- a space has just one least form -/
theorem Red.uniq (ha : 1 < a) (h : Red a z f) (h' : Red a z f') (e : Eqs a z (rowsF f) (rowsF f')) : f = f' :=
  asc_ext h.asc h'.asc fun p => ⟨fun m => h.sub ha h' e m, fun m => h'.sub ha h e.symm m⟩
end
/-! ### the least form, row by row -/
def leadOf : List Int → Option Nat
  | [] => none
  | x :: xs => if x = 0 then (leadOf xs).map (· + 1) else some 0
theorem lead_none : ∀ {xs : List Int}, leadOf xs = none → ∀ j, gt xs j = 0
  | [], _, j => gt_out (Nat.zero_le _)
  | x :: xs, h, j => by
    unfold leadOf at h
    split at h
    · rename_i e
      have h2 : leadOf xs = none := by cases q : leadOf xs with
        | none => rfl
        | some l => rw [q] at h; cases h
      cases j with
      | zero => exact e
      | succ j => exact lead_none h2 j
    · cases h
theorem lead_some : ∀ {xs : List Int} {l : Nat}, leadOf xs = some l → l < xs.length ∧ gt xs l ≠ 0 ∧ ∀ j, j < l → gt xs j = 0
  | [], l, h => nomatch h
  | x :: xs, l, h => by
    unfold leadOf at h
    split at h
    · rename_i e
      obtain ⟨m, h1, rfl⟩ := Option.map_eq_some_iff.mp h
      obtain ⟨g1, g2, g3⟩ := lead_some h1
      refine ⟨by rw [List.length_cons]; omega, g2, fun j hj => ?_⟩
      cases j with
      | zero => exact e
      | succ j => exact g3 j (by omega)
    · rename_i e
      cases h
      exact ⟨by rw [List.length_cons]; omega, e, fun j hj => absurd hj (Nat.not_lt_zero j)⟩
def cby (a : Int) (v : List Int) (f : Fm) : List Int := f.foldl (fun v p => ax a (-(gt v p.1)) p.2 v) v
section
variable {a c : Int} {z : Nat} {f f' : Fm} {u v w r : List Int} {R : List (List Int)}
/-- v is c times r more than v + c r, so they give the same with r -/
theorem sp_ax (ha : 0 < a) (hR : ∀ r ∈ R, Ro a z r) (hv : Ro a z v) (hr : Sp a z R r) : Sp a z R (ax a c r v) ↔ Sp a z R v := by
  refine ⟨fun h => ?_, fun h => h.comb ha hR c hr⟩
  have := h.comb ha hR (-c) hr
  have lr := (hr.ro ha hR).1
  have e : ax a (-c) r (ax a c r v) = v := ext_gt (len_ax (len_ax hv.1 lr) lr) hv.1 fun j hj => by
    rw [gt_ax (len_ax hv.1 lr) lr hj, gt_ax hv.1 lr hj, Int.add_emod, Int.emod_emod_of_dvd _ (Int.dvd_refl a), ← Int.add_emod]
    have b := hv.bd hj
    rw [show gt v j + c * gt r j + -c * gt r j = gt v j by rw [Int.neg_mul]; omega]
    exact Int.emod_eq_of_lt b.1 b.2
  rwa [e] at this
theorem cby_ro (ha : 0 < a) (hf : ∀ p ∈ f, Ro a z p.2) (hv : Ro a z v) : Ro a z (cby a v f) := by
  unfold cby
  induction f generalizing v with
  | nil => exact hv
  | cons p f ih => exact ih (fun q hq => hf q (List.mem_cons_of_mem _ hq)) (ro_ax ha hv.1 (hf p List.mem_cons_self).1)
theorem cby_sp (ha : 0 < a) (hR : ∀ r ∈ R, Ro a z r) (hf : ∀ p ∈ f, Sp a z R p.2) (hv : Ro a z v) : Sp a z R (cby a v f) ↔ Sp a z R v := by
  unfold cby
  induction f generalizing v with
  | nil => exact Iff.rfl
  | cons p f ih =>
    have hp := hf p List.mem_cons_self
    exact (ih (fun q hq => hf q (List.mem_cons_of_mem _ hq)) (ro_ax ha hv.1 (hp.ro ha hR).1)).trans (sp_ax ha hR hv hp)
/-- what is 0 stays 0 -/
theorem cby_keep (ha : 0 < a) (hf : ∀ p ∈ f, Ro a z p.2) (hv : Ro a z v) {j : Nat} (hj : j < z) (h0 : gt v j = 0) (hz : ∀ p ∈ f, gt p.2 j = 0) : gt (cby a v f) j = 0 := by
  unfold cby
  induction f generalizing v with
  | nil => exact h0
  | cons p f ih =>
    have hp := hf p List.mem_cons_self
    refine ih (fun q hq => hf q (List.mem_cons_of_mem _ hq)) (ro_ax ha hv.1 hp.1) ?_ fun q hq => hz q (List.mem_cons_of_mem _ hq)
    rw [gt_ax hv.1 hp.1 hj, h0, hz p List.mem_cons_self, Int.mul_zero]; rfl
theorem cby_zero (ha : 0 < a) (h : Red a z f) (hv : Ro a z v) : ∀ p ∈ f, gt (cby a v f) p.1 = 0 := by
  have ro := h.ro
  have one := h.one
  have asc := h.asc
  have zer := h.zer
  clear h
  unfold cby
  induction f generalizing v with
  | nil => exact fun _ h => nomatch h
  | cons p f ih =>
    rw [List.pairwise_cons] at asc
    have hp := (ro p List.mem_cons_self).2
    have hv2 : Ro a z (ax a (-(gt v p.1)) p.2 v) := ro_ax ha hv.1 hp.1
    intro q hq
    rcases List.mem_cons.mp hq with e | hq
    · subst e
      refine cby_keep ha (fun q hq => (ro q (List.mem_cons_of_mem _ hq)).2) hv2 (ro q List.mem_cons_self).1 ?_ fun x hx => zer q List.mem_cons_self x (List.mem_cons_of_mem _ hx) (by have := asc.1 x hx; omega)
      rw [gt_ax hv.1 hp.1 (ro q List.mem_cons_self).1, one q List.mem_cons_self, Int.mul_one, Int.add_right_neg]; rfl
    · exact ih hv2 (fun q hq => ro q (List.mem_cons_of_mem _ hq)) (fun q hq => one q (List.mem_cons_of_mem _ hq)) asc.2 (fun x hx y hy => zer x (List.mem_cons_of_mem _ hx) y (List.mem_cons_of_mem _ hy)) q hq
end
def insF (p : Nat × List Int) : Fm → Fm
  | [] => [p]
  | q :: f => if p.1 < q.1 then p :: q :: f else q :: insF p f
theorem mem_insF {p x : Nat × List Int} : ∀ {f : Fm}, x ∈ insF p f ↔ x = p ∨ x ∈ f
  | [] => by simp [insF]
  | q :: f => by
    unfold insF
    split
    · simp
    · rw [List.mem_cons, mem_insF, List.mem_cons]
      constructor
      · rintro (h | h | h)
        · exact .inr (.inl h)
        · exact .inl h
        · exact .inr (.inr h)
      · rintro (h | h | h)
        · exact .inr (.inl h)
        · exact .inl h
        · exact .inr (.inr h)
theorem insF_perm {p : Nat × List Int} : ∀ {f : Fm}, (insF p f).Perm (p :: f)
  | [] => .refl _
  | q :: f => by
    unfold insF
    split
    · exact .refl _
    · exact (List.Perm.cons q insF_perm).trans (List.Perm.swap p q f)
theorem insF_asc {p : Nat × List Int} : ∀ {f : Fm}, f.Pairwise (fun p q => p.1 < q.1) → (∀ q ∈ f, q.1 ≠ p.1) → (insF p f).Pairwise fun p q => p.1 < q.1
  | [], _, _ => by simp [insF]
  | q :: f, h, hn => by
    rw [List.pairwise_cons] at h
    unfold insF
    split
    · rename_i e
      rw [List.pairwise_cons]
      refine ⟨fun x hx => ?_, List.pairwise_cons.mpr h⟩
      rcases List.mem_cons.mp hx with e2 | hx
      · rw [e2]; exact e
      · exact Nat.lt_trans e (h.1 x hx)
    · rename_i e
      have := hn q List.mem_cons_self
      rw [List.pairwise_cons]
      refine ⟨fun x hx => ?_, insF_asc h.2 fun x hx => hn x (List.mem_cons_of_mem _ hx)⟩
      rcases mem_insF.mp hx with e2 | hx
      · rw [e2]; omega
      · exact h.1 x hx
/-- w times what makes its number at l one -/
def nrm (a i : Int) (w : List Int) : List Int := w.map fun x => i * x % a
/-- one row more: iv tells the inverses -/
def wrow (a : Int) (iv : Int → Int) (f : Fm) (v : List Int) : Fm := match leadOf (cby a v f) with
  | none => f
  | some l => insF (l, nrm a (iv (gt (cby a v f) l)) (cby a v f)) (f.map fun p => (p.1, ax a (-(gt p.2 l)) (nrm a (iv (gt (cby a v f) l)) (cby a v f)) p.2))
def leastF (a : Int) (iv : Int → Int) (rows : List (List Int)) : Fm := rows.foldl (wrow a iv) []
def least (a : Int) (iv : Int → Int) (rows : List (List Int)) : List (List Int) := rowsF (leastF a iv rows)
/-- iv is right -/
def Iv (a : Int) (iv : Int → Int) : Prop := ∀ b, 0 < b → b < a → iv b * b % a = 1
section
variable {a c : Int} {z : Nat} {f f' : Fm} {u v w r : List Int} {R : List (List Int)} {iv : Int → Int}
theorem nrm_ro (ha : 0 < a) (hw : w.length = z) : Ro a z (nrm a c w) := ro_of (by unfold nrm; rw [List.length_map]; exact hw) fun j hj => by
  unfold nrm
  rw [gt_map (by rw [hw]; exact hj)]
  exact ⟨Int.emod_nonneg _ (by omega), Int.emod_lt_of_pos _ ha⟩
theorem gt_nrm (hw : w.length = z) {j : Nat} (hj : j < z) : gt (nrm a c w) j = c * gt w j % a := by unfold nrm; rw [gt_map (by rw [hw]; exact hj)]
theorem nrm_ax (hw : w.length = z) : nrm a c w = ax a c w (zr z) := ext_gt (by unfold nrm; rw [List.length_map]; exact hw) (len_ax len_zr hw) fun j hj => by
  rw [gt_nrm hw hj, gt_ax len_zr hw hj, gt_zr, Int.zero_add]
/-- what a form becomes when a new row (l, n) comes in, that is 0 at all leads -/
theorem red_new (ha : 1 < a) (h : Red a z f) {l : Nat} {n : List Int} (hl : l < z) (hn : Ro a z n) (h1 : gt n l = 1) (h0 : ∀ j, j < l → gt n j = 0) (hk : ∀ p ∈ f, gt n p.1 = 0) :
    Red a z (insF (l, n) (f.map fun p => (p.1, ax a (-(gt p.2 l)) n p.2))) := by
  have ha0 : 0 < a := by omega
  have ne : ∀ p ∈ f, p.1 ≠ l := fun p hp e => by
    have := hk p hp
    rw [e, h1] at this
    cases this
  have ga : ∀ p ∈ f, ∀ j, j < z → gt (ax a (-(gt p.2 l)) n p.2) j = (gt p.2 j + -(gt p.2 l) * gt n j) % a := fun p hp j hj => gt_ax (h.ro p hp).2.1 hn.1 hj
  have g1 : (1 : Int) % a = 1 := Int.emod_eq_of_lt (by omega) ha
  refine ⟨insF_asc ?_ ?_, fun p hp => ?_, fun p hp => ?_, fun p hp q hq e => ?_, fun p hp j hj => ?_⟩
  · rw [List.pairwise_map]; exact h.asc
  · intro q hq
    obtain ⟨p, hp, rfl⟩ := List.mem_map.mp hq
    exact ne p hp
  · rcases mem_insF.mp hp with e | hp
    · rw [e]; exact ⟨hl, hn⟩
    · obtain ⟨p, hp2, rfl⟩ := List.mem_map.mp hp; have hp := hp2
      exact ⟨(h.ro p hp).1, ro_ax ha0 (h.ro p hp).2.1 hn.1⟩
  · rcases mem_insF.mp hp with e | hp
    · rw [e]; exact h1
    · obtain ⟨p, hp2, rfl⟩ := List.mem_map.mp hp; have hp := hp2
      show gt (ax a (-(gt p.2 l)) n p.2) p.1 = 1
      rw [ga p hp _ (h.ro p hp).1, h.one p hp, hk p hp, Int.mul_zero, Int.add_zero, g1]
  · rcases mem_insF.mp hp with ep | hp <;> rcases mem_insF.mp hq with eq | hq
    · rw [ep, eq] at e; exact absurd rfl e
    · obtain ⟨q, hq2, rfl⟩ := List.mem_map.mp hq; have hq := hq2
      rw [ep]
      show gt (ax a (-(gt q.2 l)) n q.2) l = 0
      rw [ga q hq l hl, h1, Int.mul_one, Int.add_right_neg]; rfl
    · obtain ⟨p, hp2, rfl⟩ := List.mem_map.mp hp; have hp := hp2
      rw [eq]
      exact hk p hp
    · obtain ⟨p, hp2, rfl⟩ := List.mem_map.mp hp; have hp := hp2
      obtain ⟨q, hq2, rfl⟩ := List.mem_map.mp hq; have hq := hq2
      show gt (ax a (-(gt q.2 l)) n q.2) p.1 = 0
      rw [ga q hq _ (h.ro p hp).1, hk p hp, Int.mul_zero, Int.add_zero, h.zer p hp q hq e]; rfl
  · rcases mem_insF.mp hp with e | hp
    · rw [e] at hj ⊢; exact h0 j hj
    · obtain ⟨p, hp2, rfl⟩ := List.mem_map.mp hp; have hp := hp2
      show gt (ax a (-(gt p.2 l)) n p.2) j = 0
      have hj : j < p.1 := hj
      rw [ga p hp j (by have := (h.ro p hp).1; omega), h.low p hp j hj]
      by_cases e : l < p.1
      · rw [h.low p hp l e]; simp
      · rw [h0 j (by omega)]; simp
theorem new_eqs (ha : 0 < a) (h : Red a z f) {l : Nat} {n : List Int} (hn : Ro a z n) : Eqs a z (rowsF (insF (l, n) (f.map fun p => (p.1, ax a (-(gt p.2 l)) n p.2)))) (n :: rowsF f) := by
  have r1 : ∀ r ∈ n :: rowsF f, Ro a z r := fun r hr => by
    rcases List.mem_cons.mp hr with e | hr
    · rw [e]; exact hn
    · exact h.rr r hr
  have r2 : ∀ r ∈ rowsF (insF (l, n) (f.map fun p => (p.1, ax a (-(gt p.2 l)) n p.2))), Ro a z r := fun r hr => by
    obtain ⟨p, hp, rfl⟩ := List.mem_map.mp hr
    rcases mem_insF.mp hp with e | hp
    · rw [e]; exact hn
    · obtain ⟨p, hp2, rfl⟩ := List.mem_map.mp hp; have hp := hp2
      exact ro_ax ha (h.ro p hp).2.1 hn.1
  have mn : n ∈ rowsF (insF (l, n) (f.map fun p => (p.1, ax a (-(gt p.2 l)) n p.2))) := List.mem_map.mpr ⟨(l, n), mem_insF.mpr (.inl rfl), rfl⟩
  refine eqs_of ha r2 r1 (fun r hr => ?_) fun r hr => ?_
  · obtain ⟨p, hp, rfl⟩ := List.mem_map.mp hr
    rcases mem_insF.mp hp with e | hp
    · rw [e]; exact .mem r1 List.mem_cons_self
    · obtain ⟨p, hp2, rfl⟩ := List.mem_map.mp hp; have hp := hp2
      exact (Sp.mem r1 (List.mem_cons_of_mem _ (List.mem_map_of_mem hp))).comb ha r1 _ (.mem r1 List.mem_cons_self)
  · rcases List.mem_cons.mp hr with e | hr
    · rw [e]; exact .mem r2 mn
    · obtain ⟨p, hp, rfl⟩ := List.mem_map.mp hr
      refine (sp_ax (c := -(gt p.2 l)) ha r2 (h.ro p hp).2 (.mem r2 mn)).mp (.mem r2 ?_)
      exact List.mem_map.mpr ⟨(p.1, ax a (-(gt p.2 l)) n p.2), mem_insF.mpr (.inr (List.mem_map.mpr ⟨p, hp, rfl⟩)), rfl⟩
theorem wrow_ok (ha : 1 < a) (hi : Iv a iv) (h : Red a z f) (hv : Ro a z v) : Red a z (wrow a iv f v) ∧ Eqs a z (rowsF (wrow a iv f v)) (v :: rowsF f) := by
  have ha0 : 0 < a := by omega
  have hw := cby_ro ha0 (fun p hp => (h.ro p hp).2) hv
  have hz := cby_zero ha0 h hv
  have hvr : ∀ r ∈ v :: rowsF f, Ro a z r := fun r hr => by
    rcases List.mem_cons.mp hr with e | hr
    · rw [e]; exact hv
    · exact h.rr r hr
  have sw : ∀ {R : List (List Int)}, (∀ r ∈ R, Ro a z r) → (∀ r ∈ rowsF f, Sp a z R r) → (Sp a z R (cby a v f) ↔ Sp a z R v) := fun hR hf => cby_sp ha0 hR (fun p hp => hf _ (List.mem_map_of_mem hp)) hv
  unfold wrow
  split
  · rename_i e
    have n := lead_none e
    refine ⟨h, eqs_of ha0 h.rr hvr (fun r hr => .mem hvr (List.mem_cons_of_mem _ hr)) fun r hr => ?_⟩
    rcases List.mem_cons.mp hr with e | hr
    · rw [e]
      refine (sw h.rr fun r hr => .mem h.rr hr).mp ?_
      rw [show cby a v f = zr z from ext_gt hw.1 len_zr fun j hj => by rw [n, gt_zr]]
      exact .zero
    · exact .mem h.rr hr
  · rename_i l e
    obtain ⟨l1, l2, l3⟩ := lead_some e
    generalize cby a v f = w at *
    have lz : l < z := by rw [← hw.1]; exact l1
    have b := hw.bd lz
    have iv1 := hi (gt w l) (by omega) b.2
    have nr : Ro a z (nrm a (iv (gt w l)) w) := nrm_ro ha0 hw.1
    refine ⟨red_new ha h lz nr (by rw [gt_nrm hw.1 lz]; exact iv1) (fun j hj => by rw [gt_nrm hw.1 (by omega), l3 j hj, Int.mul_zero]; rfl) (fun p hp => by rw [gt_nrm hw.1 (h.ro p hp).1, hz p hp, Int.mul_zero]; rfl), (new_eqs ha0 h nr).trans ?_⟩
    have hnr : ∀ r ∈ nrm a (iv (gt w l)) w :: rowsF f, Ro a z r := fun r hr => by
      rcases List.mem_cons.mp hr with e | hr
      · rw [e]; exact nr
      · exact h.rr r hr
    refine eqs_of ha0 hnr hvr (fun r hr => ?_) fun r hr => ?_
    · rcases List.mem_cons.mp hr with e | hr
      · rw [e, nrm_ax hw.1]
        exact Sp.zero.comb ha0 hvr _ ((sw hvr fun r hr => .mem hvr (List.mem_cons_of_mem _ hr)).mpr (.mem hvr List.mem_cons_self))
      · exact .mem hvr (List.mem_cons_of_mem _ hr)
    · rcases List.mem_cons.mp hr with e | hr
      · rw [e]
        refine (sw hnr fun r hr => .mem hnr (List.mem_cons_of_mem _ hr)).mp ?_
        have s1 : Sp a z (nrm a (iv (gt w l)) w :: rowsF f) (nrm a (iv (gt w l)) w) := .mem hnr List.mem_cons_self
        have s2 := Sp.zero.comb ha0 hnr (gt w l) s1
        rwa [show ax a (gt w l) (nrm a (iv (gt w l)) w) (zr z) = w from ext_gt (len_ax len_zr nr.1) hw.1 fun j hj => by
          rw [gt_ax len_zr nr.1 hj, gt_zr, Int.zero_add, gt_nrm hw.1 hj, Int.mul_emod, Int.emod_emod_of_dvd _ (Int.dvd_refl a), ← Int.mul_emod, ← Int.mul_assoc, Int.mul_comm (gt w l), Int.mul_emod, iv1, Int.one_mul, Int.emod_emod_of_dvd _ (Int.dvd_refl a)]
          exact Int.emod_eq_of_lt (hw.bd hj).1 (hw.bd hj).2] at s2
      · exact .mem hnr (List.mem_cons_of_mem _ hr)
theorem fold_ok (ha : 1 < a) (hi : Iv a iv) : ∀ {rows : List (List Int)} {f : Fm}, (∀ r ∈ rows, Ro a z r) → Red a z f → Red a z (rows.foldl (wrow a iv) f) ∧ Eqs a z (rowsF (rows.foldl (wrow a iv) f)) (rows ++ rowsF f)
  | [], f, _, h => ⟨h, .refl⟩
  | v :: rows, f, hr, h => by
    have ha0 : 0 < a := by omega
    obtain ⟨h1, e1⟩ := wrow_ok ha hi h (hr v List.mem_cons_self)
    obtain ⟨h2, e2⟩ := fold_ok ha hi (fun r h => hr r (List.mem_cons_of_mem _ h)) h1
    refine ⟨h2, e2.trans ?_⟩
    have hrows : ∀ r ∈ rows, Ro a z r := fun r h => hr r (List.mem_cons_of_mem _ h)
    have q1 : ∀ r ∈ rows ++ rowsF (wrow a iv f v), Ro a z r := fun r hr => by
      rcases List.mem_append.mp hr with h | h
      · exact hrows r h
      · exact h1.rr r h
    have q2 : ∀ r ∈ v :: rows ++ rowsF f, Ro a z r := fun r hr2 => by
      rcases List.mem_append.mp hr2 with g | g
      · exact hr r g
      · exact h.rr r g
    have hr0 := hr
    refine eqs_of ha0 q1 q2 (fun r hr => ?_) fun r hr => ?_
    · rcases List.mem_append.mp hr with h | g
      · exact .mem q2 (List.mem_append_left _ (List.mem_cons_of_mem _ h))
      · refine ((e1 r).mp (.mem h1.rr g)).sub' fun x hx => ?_
        rcases List.mem_cons.mp hx with e | hx
        · rw [e]; exact List.mem_append_left _ List.mem_cons_self
        · exact List.mem_append_right _ hx
    · have up : ∀ x, Sp a z (v :: rowsF f) x → Sp a z (rows ++ rowsF (wrow a iv f v)) x := fun x hx => ((e1 x).mpr hx).sub' fun y hy => List.mem_append_right _ hy
      have q3 : ∀ r ∈ v :: rowsF f, Ro a z r := fun r hx => by
        rcases List.mem_cons.mp hx with e | hx
        · rw [e]; exact hr0 v List.mem_cons_self
        · exact h.rr r hx
      rcases List.mem_append.mp hr with g | g
      · rcases List.mem_cons.mp g with e | g
        · rw [e]; exact up _ (.mem q3 List.mem_cons_self)
        · exact .mem q1 (List.mem_append_left _ g)
      · exact up _ (.mem q3 (List.mem_cons_of_mem _ g))
theorem least_red (ha : 1 < a) (hi : Iv a iv) {rows : List (List Int)} (hr : ∀ r ∈ rows, Ro a z r) : Red a z (leastF a iv rows) := (fold_ok ha hi hr red_nil).1
theorem least_eqs (ha : 1 < a) (hi : Iv a iv) {rows : List (List Int)} (hr : ∀ r ∈ rows, Ro a z r) : Eqs a z (least a iv rows) rows := by
  have := (fold_ok ha hi hr red_nil).2
  rwa [show rows ++ rowsF [] = rows from List.append_nil rows] at this
theorem least_ro (ha : 1 < a) (hi : Iv a iv) {rows : List (List Int)} (hr : ∀ r ∈ rows, Ro a z r) : ∀ r ∈ least a iv rows, Ro a z r := (least_red ha hi hr).rr
/-- the same space, the same least form -/
theorem least_uniq (ha : 1 < a) (hi : Iv a iv) {rows : List (List Int)} (hr : ∀ r ∈ rows, Ro a z r) (h : Red a z f) (e : Eqs a z (rowsF f) rows) : leastF a iv rows = f :=
  (least_red ha hi hr).uniq ha h ((least_eqs ha hi hr).trans e.symm)
theorem least_same (ha : 1 < a) (hi : Iv a iv) {rows rows' : List (List Int)} (hr : ∀ r ∈ rows, Ro a z r) (hr' : ∀ r ∈ rows', Ro a z r) (e : Eqs a z rows rows') : leastF a iv rows = leastF a iv rows' :=
  least_uniq ha hi hr (least_red ha hi hr') ((least_eqs ha hi hr').trans e.symm)
theorem least_least (ha : 1 < a) (hi : Iv a iv) {rows : List (List Int)} (hr : ∀ r ∈ rows, Ro a z r) : leastF a iv (least a iv rows) = leastF a iv rows :=
  least_same ha hi (least_ro ha hi hr) hr (least_eqs ha hi hr)
end
end LA
/-! # LinB: sums round a ring, swings -/
namespace LA
def sR (n : Nat) (f : Nat → Int) : Int := ((List.range n).map f).sum
theorem sR_zero {f : Nat → Int} : sR 0 f = 0 := rfl
theorem sR_succ {n : Nat} {f : Nat → Int} : sR (n + 1) f = sR n f + f n := by
  unfold sR; rw [List.range_succ, List.map_append, List.sum_append]; simp
theorem sR_congr {n : Nat} {f g : Nat → Int} (h : ∀ i, i < n → f i = g i) : sR n f = sR n g := by
  induction n with
  | zero => rfl
  | succ n ih => rw [sR_succ, sR_succ, ih fun i hi => h i (by omega), h n (by omega)]
theorem sR_add {n : Nat} {f g : Nat → Int} : sR n (fun i => f i + g i) = sR n f + sR n g := by
  induction n with
  | zero => rfl
  | succ n ih => rw [sR_succ, sR_succ, sR_succ, ih]; omega
theorem sR_mul {n : Nat} {c : Int} {f : Nat → Int} : sR n (fun i => c * f i) = c * sR n f := by
  induction n with
  | zero => simp [sR_zero]
  | succ n ih => rw [sR_succ, sR_succ, ih, Int.mul_add]
theorem sR_neg {n : Nat} {f : Nat → Int} : sR n (fun i => -f i) = -sR n f := by
  induction n with
  | zero => rfl
  | succ n ih => rw [sR_succ, sR_succ, ih]; omega
theorem sR_sub {n : Nat} {f g : Nat → Int} : sR n (fun i => f i - g i) = sR n f - sR n g := by
  induction n with
  | zero => rfl
  | succ n ih => rw [sR_succ, sR_succ, sR_succ, ih]; omega
theorem sR_head {n : Nat} {f : Nat → Int} : sR (n + 1) f = f 0 + sR n fun i => f (i + 1) := by
  induction n with
  | zero => rw [sR_succ, sR_zero, sR_zero]; omega
  | succ n ih => rw [sR_succ, ih, sR_succ]; omega
theorem sR_mod {n : Nat} {a : Int} {f g : Nat → Int} (h : ∀ i, i < n → f i % a = g i % a) : sR n f % a = sR n g % a := by
  induction n with
  | zero => rfl
  | succ n ih => rw [sR_succ, sR_succ, Int.add_emod, ih fun i hi => h i (by omega), h n (by omega), ← Int.add_emod]
theorem sR_none {n : Nat} {f : Nat → Int} (h : ∀ i, i < n → f i = 0) : sR n f = 0 := by
  rw [sR_congr (g := fun _ => 0) h]
  induction n with
  | zero => rfl
  | succ n ih => rw [sR_succ, ih fun i hi => h i (by omega)]; rfl
/-- round the ring -/
theorem sR_rot {n : Nat} {f : Nat → Int} : sR n (fun i => f ((i + 1) % n)) = sR n f := by
  cases n with
  | zero => rfl
  | succ n =>
    rw [sR_succ, sR_head, Nat.mod_self, sR_congr (g := fun i => f (i + 1)) fun i hi => by rw [Nat.mod_eq_of_lt (by omega)]]
    omega
theorem sum_zip {α : Type} {xs ys : List Int} {n : Nat} (h1 : xs.length = n) (h2 : ys.length = n) : ((xs.zip ys).map fun p => p.1 * p.2).sum = sR n fun i => gt xs i * gt ys i := by
  induction n generalizing xs ys with
  | zero =>
    have : xs = [] := List.eq_nil_of_length_eq_zero h1
    subst this; rfl
  | succ n ih =>
    cases xs with
    | nil => cases h1
    | cons x xs =>
      cases ys with
      | nil => cases h2
      | cons y ys =>
        rw [List.zip_cons_cons, List.map_cons, List.sum_cons, ih (by simpa using h1) (by simpa using h2), sR_head]
        rfl
/-- the number ahead less the one behind -/
def dif (a : Int) (xs : List Int) : List Int := (List.range xs.length).map fun g => (gt xs ((g + xs.length - 1) % xs.length) - gt xs ((g + 1) % xs.length)) % a
theorem len_dif {a : Int} {xs : List Int} : (dif a xs).length = xs.length := by unfold dif; rw [List.length_map, List.length_range]
theorem gt_dif {a : Int} {xs : List Int} {g : Nat} (h : g < xs.length) : gt (dif a xs) g = (gt xs ((g + xs.length - 1) % xs.length) - gt xs ((g + 1) % xs.length)) % a := by
  rw [gt_of (by rw [len_dif]; exact h)]
  unfold dif
  rw [List.getElem_map, List.getElem_range]
theorem ro_dif {a : Int} {z : Nat} {xs : List Int} (ha : 0 < a) (h : xs.length = z) : Ro a z (dif a xs) := ro_of (by rw [len_dif, h]) fun j hj => by
  rw [gt_dif (by omega)]; exact ⟨Int.emod_nonneg _ (by omega), Int.emod_lt_of_pos _ ha⟩
/-- the swing, gap by gap, not yet round the clock -/
def swg (z : Nat) (x y : List Int) : Int := sR z fun g => gt x g * gt y ((g + 1) % z) - gt x ((g + 1) % z) * gt y g
def swp (a : Int) (x y : List Int) : Int := (((dif a x).zip y).map fun p => p.1 * p.2).sum % a
theorem swp_swg {a : Int} {z : Nat} {x y : List Int} (hx : x.length = z) (hy : y.length = z) : swp a x y = swg z x y % a := by
  unfold swp swg
  rw [sum_zip (α := Int) (n := z) (by rw [len_dif, hx]) hy]
  rw [sR_mod (g := fun i => gt x ((i + z - 1) % z) * gt y i - gt x ((i + 1) % z) * gt y i) fun i hi => by
    rw [gt_dif (by omega), hx, Int.mul_emod, Int.emod_emod_of_dvd _ (Int.dvd_refl a), ← Int.mul_emod, Int.sub_mul]]
  rw [sR_sub, sR_sub]
  congr 2
  rw [← sR_rot (f := fun i => gt x ((i + z - 1) % z) * gt y i)]
  refine sR_congr fun i hi => ?_
  congr 2
  by_cases e : i + 1 < z
  · rw [Nat.mod_eq_of_lt e, show i + 1 + z - 1 = i + z by omega, Nat.add_mod_right, Nat.mod_eq_of_lt hi]
  · have e2 : i + 1 = z := by omega
    rw [e2, Nat.mod_self, show 0 + z - 1 = i by omega, Nat.mod_eq_of_lt hi]
theorem swg_anti {z : Nat} {x y : List Int} : swg z y x = -swg z x y := by
  unfold swg
  rw [← sR_neg]
  refine sR_congr fun i _ => ?_
  rw [Int.mul_comm (gt y i), Int.mul_comm (gt y ((i + 1) % z))]
  omega
theorem swg_self {z : Nat} {x : List Int} : swg z x x = 0 := sR_none fun i _ => by rw [Int.mul_comm]; omega
theorem swg_ax {a c : Int} {z : Nat} {v r y : List Int} (hv : v.length = z) (hr : r.length = z) : swg z (ax a c r v) y % a = (swg z v y + c * swg z r y) % a := by
  unfold swg
  rw [← sR_mul, ← sR_add]
  refine sR_mod fun i hi => ?_
  have hj : (i + 1) % z < z := Nat.mod_lt _ (by omega)
  rw [gt_ax hv hr hi, gt_ax hv hr hj]
  have m : ∀ p q : Int, p % a * q % a = p * q % a := fun p q => by rw [Int.mul_emod, Int.emod_emod_of_dvd _ (Int.dvd_refl a), ← Int.mul_emod]
  rw [Int.sub_emod, m, m, ← Int.sub_emod]
  congr 1
  rw [Int.add_mul, Int.add_mul, Int.mul_sub, Int.mul_assoc, Int.mul_assoc]
  omega
end LA
/-! # LinC: the least form, place by place -/
namespace LA
section
variable {a c : Int} {z t i : Nat} {f : Fm} {v r w : List Int} {L R rows : List (List Int)} {iv : Int → Int}
/-- places ahead of t are done -/
structure Jt (a : Int) (z : Nat) (rows : List (List Int)) (t : Nat) (L : List (List Int)) (f : Fm) : Prop where
  red : Red a z f
  key : ∀ p ∈ f, p.1 < t
  ro : ∀ r ∈ L, Ro a z r
  nul : ∀ r ∈ L, ∀ j, j < t → gt r j = 0
  eq : Eqs a z (L ++ rowsF f) rows
theorem jt_start (hr : ∀ r ∈ rows, Ro a z r) : Jt a z rows 0 rows [] := ⟨red_nil, (fun _ h => nomatch h), hr, fun _ _ j hj => absurd hj (Nat.not_lt_zero j), by rw [show rows ++ rowsF [] = rows from List.append_nil rows]; exact .refl⟩
theorem jt_none (h : Jt a z rows t L f) (h0 : ∀ r ∈ L, gt r t = 0) : Jt a z rows (t + 1) L f := ⟨h.red, fun p hp => Nat.lt_succ_of_lt (h.key p hp), h.ro, fun r hr j hj => by
  rcases Nat.lt_succ_iff_lt_or_eq.mp hj with e | e
  · exact h.nul r hr j e
  · rw [e]; exact h0 r hr, h.eq⟩
theorem insF_last {p : Nat × List Int} : ∀ {f : Fm}, (∀ q ∈ f, q.1 < p.1) → insF p f = f ++ [p]
  | [], _ => rfl
  | q :: f, h => by
    unfold insF
    rw [if_neg (by have := h q List.mem_cons_self; omega), insF_last fun x hx => h x (List.mem_cons_of_mem _ hx)]; rfl
theorem all_ro (h : Jt a z rows t L f) : ∀ r ∈ L ++ rowsF f, Ro a z r := fun r hr => by
  rcases List.mem_append.mp hr with g | g
  · exact h.ro r g
  · exact h.red.rr r g
theorem mem_erase {x y : List Int} : ∀ {L : List (List Int)} {i : Nat}, L[i]? = some x → (y ∈ L ↔ y = x ∨ y ∈ L.eraseIdx i)
  | [], i, h => by simp at h
  | u :: L, 0, h => by simp at h; subst h; simp
  | u :: L, i + 1, h => by
    have := mem_erase (y := y) (L := L) (i := i) (by simpa using h)
    rw [List.mem_cons, this, List.eraseIdx_cons_succ, List.mem_cons]
    constructor
    · rintro (h | h | h)
      · exact .inr (.inl h)
      · exact .inl h
      · exact .inr (.inr h)
    · rintro (h | h | h)
      · exact .inr (.inl h)
      · exact .inl h
      · exact .inr (.inr h)
theorem jt_some (ha : 1 < a) (hi : Iv a iv) (h : Jt a z rows t L f) (ht : t < z) (hx : L[i]? = some v) (hn : gt v t ≠ 0) :
    Jt a z rows (t + 1) ((L.eraseIdx i).map fun r => ax a (-(gt r t)) (nrm a (iv (gt v t)) v) r) ((f.map fun p => (p.1, ax a (-(gt p.2 t)) (nrm a (iv (gt v t)) v) p.2)) ++ [(t, nrm a (iv (gt v t)) v)]) := by
  have ha0 : 0 < a := by omega
  have mv : v ∈ L := List.mem_of_getElem? hx
  have rv := h.ro v mv
  have b := rv.bd ht
  have i1 := hi (gt v t) (by omega) b.2
  have nr : Ro a z (nrm a (iv (gt v t)) v) := nrm_ro ha0 rv.1
  have n1 : gt (nrm a (iv (gt v t)) v) t = 1 := by rw [gt_nrm rv.1 ht]; exact i1
  have n0 : ∀ j, j < t → gt (nrm a (iv (gt v t)) v) j = 0 := fun j hj => by rw [gt_nrm rv.1 (by omega), h.nul v mv j hj, Int.mul_zero]; rfl
  have red := red_new ha h.red ht nr n1 n0 fun p hp => n0 _ (h.key p hp)
  have eqn := new_eqs (l := t) ha0 h.red nr
  have last : insF (t, nrm a (iv (gt v t)) v) (f.map fun p => (p.1, ax a (-(gt p.2 t)) (nrm a (iv (gt v t)) v) p.2)) = (f.map fun p => (p.1, ax a (-(gt p.2 t)) (nrm a (iv (gt v t)) v) p.2)) ++ [(t, nrm a (iv (gt v t)) v)] := insF_last fun q hq => by
    obtain ⟨p, hp, rfl⟩ := List.mem_map.mp hq
    exact h.key p hp
  rw [last] at red eqn
  have vn : ∀ {R : List (List Int)}, (∀ r ∈ R, Ro a z r) → (Sp a z R v ↔ Sp a z R (nrm a (iv (gt v t)) v)) := fun {R} hR => by
    constructor
    · intro s
      rw [nrm_ax rv.1]
      exact Sp.zero.comb ha0 hR _ s
    · intro s
      have s2 := Sp.zero.comb ha0 hR (gt v t) s
      rwa [show ax a (gt v t) (nrm a (iv (gt v t)) v) (zr z) = v from ext_gt (len_ax len_zr nr.1) rv.1 fun j hj => by
        rw [gt_ax len_zr nr.1 hj, gt_zr, Int.zero_add, gt_nrm rv.1 hj, Int.mul_emod, Int.emod_emod_of_dvd _ (Int.dvd_refl a), ← Int.mul_emod, ← Int.mul_assoc, Int.mul_comm (gt v t), Int.mul_emod, i1, Int.one_mul, Int.emod_emod_of_dvd _ (Int.dvd_refl a)]
        exact Int.emod_eq_of_lt (rv.bd hj).1 (rv.bd hj).2] at s2
  generalize nrm a (iv (gt v t)) v = n at *
  have re : ∀ r ∈ L.eraseIdx i, Ro a z r := fun r hr => h.ro r (List.mem_of_mem_eraseIdx hr)
  have rL : ∀ r ∈ (L.eraseIdx i).map (fun r => ax a (-(gt r t)) n r), Ro a z r := fun r hr => by
    obtain ⟨q, hq, rfl⟩ := List.mem_map.mp hr
    exact ro_ax ha0 (re q hq).1 nr.1
  refine ⟨red, fun p hp => ?_, rL, fun r hr j hj => ?_, ?_⟩
  · rcases List.mem_append.mp hp with g | g
    · obtain ⟨q, hq, rfl⟩ := List.mem_map.mp g
      exact Nat.lt_succ_of_lt (h.key q hq)
    · rcases List.mem_singleton.mp g with rfl; exact Nat.lt_succ_self t
  · obtain ⟨q, hq, rfl⟩ := List.mem_map.mp hr
    rw [gt_ax (re q hq).1 nr.1 (by omega)]
    rcases Nat.lt_succ_iff_lt_or_eq.mp hj with e | e
    · rw [h.nul q (List.mem_of_mem_eraseIdx hq) j e, n0 j e, Int.mul_zero]; rfl
    · rw [e, n1, Int.mul_one, Int.add_right_neg]; rfl
  · refine Eqs.trans ?_ h.eq
    have q1 : ∀ r ∈ (L.eraseIdx i).map (fun r => ax a (-(gt r t)) n r) ++ rowsF ((f.map fun p => (p.1, ax a (-(gt p.2 t)) n p.2)) ++ [(t, n)]), Ro a z r := fun r hr => by
      rcases List.mem_append.mp hr with g | g
      · exact rL r g
      · exact red.rr r g
    have q2 := all_ro h
    have s1 : Sp a z (L ++ rowsF f) n := (vn q2).mp (.mem q2 (List.mem_append_left _ mv))
    have s2 : Sp a z ((L.eraseIdx i).map (fun r => ax a (-(gt r t)) n r) ++ rowsF ((f.map fun p => (p.1, ax a (-(gt p.2 t)) n p.2)) ++ [(t, n)])) n :=
      .mem q1 (List.mem_append_right _ (List.mem_map.mpr ⟨(t, n), List.mem_append_right _ (List.mem_singleton.mpr rfl), rfl⟩))
    refine eqs_of ha0 q1 q2 (fun r hr => ?_) fun r hr => ?_
    · rcases List.mem_append.mp hr with g | g
      · obtain ⟨q, hq, rfl⟩ := List.mem_map.mp g
        exact (Sp.mem q2 (List.mem_append_left _ (List.mem_of_mem_eraseIdx hq))).comb ha0 q2 _ s1
      · refine ((eqn r).mp (.mem red.rr g)).sub ha0 q2 fun x hx => ?_
        rcases List.mem_cons.mp hx with e | hx
        · rw [e]; exact s1
        · exact .mem q2 (List.mem_append_right _ hx)
    · rcases List.mem_append.mp hr with g | g
      · rcases (mem_erase hx).mp g with e | g
        · rw [e]; exact (vn q1).mpr s2
        · refine (sp_ax (c := -(gt r t)) ha0 q1 (re r g) s2).mp (.mem q1 (List.mem_append_left _ ?_))
          exact List.mem_map.mpr ⟨r, g, rfl⟩
      · refine ((eqn r).mpr (.mem (fun x hx => ?_) (List.mem_cons_of_mem _ g))).sub' fun x hx => List.mem_append_right _ hx
        rcases List.mem_cons.mp hx with e | hx
        · rw [e]; exact nr
        · exact h.red.rr x hx
theorem jt_fin (ha : 1 < a) (hi : Iv a iv) (hr : ∀ r ∈ rows, Ro a z r) (h : Jt a z rows z L f) : leastF a iv rows = f := by
  have ha0 : 0 < a := by omega
  refine least_uniq ha hi hr h.red (Eqs.trans ?_ h.eq)
  refine eqs_of ha0 h.red.rr (all_ro h) (fun r g => .mem (all_ro h) (List.mem_append_right _ g)) fun r g => ?_
  rcases List.mem_append.mp g with g | g
  · rw [show r = zr z from ext_gt (h.ro r g).1 len_zr fun j hj => by rw [h.nul r g j hj, gt_zr]]
    exact .zero
  · exact .mem h.red.rr g
end
end LA
/-! # DataT: typed data: what is written down, compared, walked -/
namespace DS
open PySem PySem.Spec PyProof.Rows L2
/-- values of a type as data, equal as data just if they are equal -/
structure En (α : Type) [DecidableEq α] where
  e : α → D
  py : α → PyData
  dp : Nat
  h1 : ∀ x, pyD (e x) = some (py x)
  h2 : ∀ x, (py x).canLay0 = true
  h3 : ∀ x, (py x).depth ≤ dp
  h4 : ∀ x y, PyData.eqv (py x) (py y) = decide (x = y)
theorem pyDs_map {α : Type} {e : α → D} {py : α → PyData} (h : ∀ x, pyD (e x) = some (py x)) : ∀ xs : List α, pyDs (xs.map e) = some (xs.map py)
  | [] => by simp [pyDs]
  | x :: xs => by rw [List.map_cons, pyDs, h, pyDs_map h xs]; rfl
theorem lay_all {α : Type} {py : α → PyData} (h : ∀ x, (py x).canLay0 = true) : ∀ xs : List α, PyData.canLayAll0 (xs.map py) = true
  | [] => rfl
  | x :: xs => by rw [List.map_cons]; simp [PyData.canLayAll0, h, lay_all h xs]
theorem dep_all {α : Type} {py : α → PyData} {k : Nat} (h : ∀ x, (py x).depth ≤ k) : ∀ xs : List α, PyData.depthAll (xs.map py) ≤ k
  | [] => Nat.zero_le _
  | x :: xs => by rw [List.map_cons, PyData.depthAll]; exact Nat.max_le.mpr ⟨h x, dep_all h xs⟩
theorem eqv_all {α : Type} [DecidableEq α] {py : α → PyData} (h : ∀ x y, PyData.eqv (py x) (py y) = decide (x = y)) : ∀ xs ys : List α, PyData.eqvAll (xs.map py) (ys.map py) = decide (xs = ys)
  | [], [] => by simp [PyData.eqvAll]
  | [], _ :: _ => by simp [PyData.eqvAll]
  | _ :: _, [] => by simp [PyData.eqvAll]
  | x :: xs, y :: ys => by
    rw [List.map_cons, List.map_cons, PyData.eqvAll, h, eqv_all h xs ys]
    simp
def nI : En Int := ⟨.int, .int, 0, fun _ => rfl, fun _ => rfl, fun _ => Nat.le_refl _, fun x y => by rw [PyData.eqv]; by_cases h : x = y <;> simp [h]⟩
def nB : En Bool := ⟨.bl, .bool, 0, fun _ => rfl, fun _ => rfl, fun _ => Nat.le_refl _, fun x y => by rw [PyData.eqv]; cases x <;> cases y <;> rfl⟩
def nL {α : Type} [DecidableEq α] (E : En α) : En (List α) := ⟨fun xs => .lst (xs.map E.e), fun xs => .list (xs.map E.py), E.dp + 1, fun xs => by rw [pyD, pyDs_map E.h1]; rfl, fun xs => by rw [PyData.canLay0]; exact lay_all E.h2 xs, fun xs => by
  rw [PyData.depth]; exact Nat.succ_le_succ (dep_all E.h3 xs), fun xs ys => by rw [PyData.eqv]; exact eqv_all E.h4 xs ys⟩
def nT {α : Type} [DecidableEq α] (E : En α) : En (List α) := ⟨fun xs => .tup (xs.map E.e), fun xs => .tuple (xs.map E.py), E.dp + 1, fun xs => by rw [pyD, pyDs_map E.h1]; rfl, fun xs => by rw [PyData.canLay0]; exact lay_all E.h2 xs, fun xs => by
  rw [PyData.depth]; exact Nat.succ_le_succ (dep_all E.h3 xs), fun xs ys => by rw [PyData.eqv]; exact eqv_all E.h4 xs ys⟩
def nP {α β : Type} [DecidableEq α] [DecidableEq β] (E : En α) (F : En β) : En (α × β) := ⟨fun p => .tup [E.e p.1, F.e p.2], fun p => .tuple [E.py p.1, F.py p.2], max E.dp F.dp + 1, fun p => by simp [pyD, pyDs, E.h1, F.h1], fun p => by simp [PyData.canLay0, PyData.canLayAll0, E.h2, F.h2], fun p => by
  simp only [PyData.depth, PyData.depthAll]
  have := E.h3 p.1; have := F.h3 p.2
  omega, fun p q => by
  simp only [PyData.eqv, PyData.eqvAll, E.h4, F.h4, Bool.and_true]
  by_cases h1 : p.1 = q.1 <;> by_cases h2 : p.2 = q.2 <;> simp [h1, h2, Prod.ext_iff]⟩
theorem En.eqD {α : Type} [DecidableEq α] (E : En α) (hd : E.dp ≤ 64) (x y : α) : eqD (E.e x) (E.e y) = some (.bl (decide (x = y))) := by
  unfold DS.eqD
  rw [E.h1, E.h1]
  have s : ∀ x, SeqAt.shaped (E.py x) = true := fun x => by unfold SeqAt.shaped; rw [E.h2, decide_eq_true (Nat.le_trans (E.h3 x) hd)]; rfl
  show (if _ ∧ _ then _ else _) = _
  rw [if_pos ⟨s x, s y⟩, E.h4]
theorem En.neD {α : Type} [DecidableEq α] (E : En α) (hd : E.dp ≤ 64) (x y : α) : neD (E.e x) (E.e y) = some (.bl (!decide (x = y))) := by
  unfold DS.neD
  rw [E.h1, E.h1]
  have s : ∀ x, SeqAt.shaped (E.py x) = true := fun x => by unfold SeqAt.shaped; rw [E.h2, decide_eq_true (Nat.le_trans (E.h3 x) hd)]; rfl
  show (if _ ∧ _ then _ else _) = _
  rw [if_pos ⟨s x, s y⟩, E.h4]
theorem eqX_of {x y : D} {r : Bool} (h : eqD x y = some (.bl r)) : eqX x y = some (.bl r) ∨ ∃ a b, x = .str a ∧ y = .str b := by
  unfold eqX
  split
  · exact .inr ⟨_, _, rfl, rfl⟩
  · exact .inl h
/-- ints in a list or a tuple -/
theorem o_eqE {α : Type} [DecidableEq α] (E : En α) (hd : E.dp ≤ 64) (hs : ∀ x a, E.e x ≠ .str a) {x y : α} {k : D → Prop} (h : k (.bl (decide (x = y)))) : optK (eqX (E.e x) (E.e y)) k := by
  rcases eqX_of (E.eqD hd x y) with e | ⟨a, _, e, _⟩
  · rw [e]; exact h
  · exact absurd e (hs x a)
theorem o_neE {α : Type} [DecidableEq α] (E : En α) (hd : E.dp ≤ 64) (hs : ∀ x a, E.e x ≠ .str a) {x y : α} {k : D → Prop} (h : k (.bl (!decide (x = y)))) : optK (neX (E.e x) (E.e y)) k := by
  have e : neX (E.e x) (E.e y) = some (.bl (!decide (x = y))) := by
    unfold neX
    split
    · rename_i a _ e1 _; exact absurd e1 (hs x a)
    · exact E.neD hd x y
  rw [e]; exact h
abbrev eT (xs : List Int) : D := .tup (xs.map D.int)
abbrev eL (xs : List Int) : D := .lst (xs.map D.int)
abbrev eR (rows : List (List Int)) : List D := rows.map eT
/-! ### walks -/
theorem for_inv {st : D → Ev → Nat → Pn → Prop} {P : Pn} {ds : List D} {ρ : Ev} {n : Nat} (I : Nat → Ev → Nat → Prop) (h : ∀ i d ρ n (R : Ev → Nat → Prop), ds[i]? = some d → I i ρ n → (∀ ρ' n', I (i + 1) ρ' n' → R ρ' n') → st d ρ n { nx := R, rt := P.rt, bk := P.nx, ct := R })
    (h0 : I 0 ρ n) (h1 : ∀ ρ n, I ds.length ρ n → P.nx ρ n) : forD st ds ρ n P := by
  have go : ∀ (m i : Nat) (ρ : Ev) (n : Nat), i + m = ds.length → I i ρ n → forD st (ds.drop i) ρ n P := fun m => by
    induction m with
    | zero =>
      intro i ρ n e hi
      rw [List.drop_eq_nil_of_le (by omega)]
      exact for_nil (h1 _ _ (by rw [← e]; exact hi))
    | succ m ih =>
      intro i ρ n e hi
      have hl : i < ds.length := by omega
      rw [List.drop_eq_getElem_cons hl]
      exact for_i fun R hR => h i _ ρ n R (List.getElem?_eq_getElem hl) hi fun ρ' n' hi' => hR _ _ (ih (i + 1) ρ' n' (by omega) hi')
  have := go ds.length 0 ρ n (by omega) h0
  rwa [List.drop_zero] at this
theorem comp_A {α : Type} {enc g : α → D} {st : D → Nat → (Option D → Nat → Prop) → Prop} {n : Nat} : ∀ {xs : List α} {k : List D → Nat → Prop}, (∀ x ∈ xs, ∀ k : Option D → Nat → Prop, k (some (g x)) n → st (enc x) n k) → k (xs.map g) n → compD st (xs.map enc) n k
  | [], k, _, h => h
  | x :: xs, k, hs, h => hs x List.mem_cons_self _ (comp_A (fun y hy => hs y (List.mem_cons_of_mem _ hy)) h)
theorem comp_F {α : Type} {enc g : α → D} {st : D → Nat → (Option D → Nat → Prop) → Prop} {n : Nat} (p : α → Bool) : ∀ {xs : List α} {k : List D → Nat → Prop}, (∀ x ∈ xs, ∀ k : Option D → Nat → Prop, k (if p x = true then some (g x) else none) n → st (enc x) n k) → k ((xs.filter p).map g) n → compD st (xs.map enc) n k
  | [], k, _, h => h
  | x :: xs, k, hs, h => by
    refine hs x List.mem_cons_self _ (comp_F p (fun y hy => hs y (List.mem_cons_of_mem _ hy)) ?_)
    rw [List.filter_cons] at h
    cases e : p x with
    | true => rw [e, if_pos rfl] at h; exact h
    | false => rw [e, if_neg (by decide)] at h; exact h
/-- a and b are drawn numbers, one for each item -/
theorem comp_dr {st : D → Nat → (Option D → Nat → Prop) → Prop} {a : Int} : ∀ (ds : List D) (n : Nat) (k : List D → Nat → Prop), (∀ d n k, n < 900000 → (∀ (r : Int) (n2 : Nat), 0 ≤ r → r < a → n ≤ n2 → n2 ≤ n + 1 → k (some (.int r)) n2) → st d n k) → n + ds.length < 900000 →
    (∀ (xs : List Int) n2, xs.length = ds.length → (∀ x ∈ xs, 0 ≤ x ∧ x < a) → n ≤ n2 → n2 ≤ n + ds.length → k (xs.map D.int) n2) → compD st ds n k
  | [], n, k, _, _, h => h [] n rfl (fun _ h => nomatch h) (Nat.le_refl _) (Nat.le_add_right _ _)
  | d :: ds, n, k, hs, hn, h => by
    rw [List.length_cons] at hn
    refine hs d n _ (by omega) fun r n2 r0 r1 g1 g2 => ?_
    refine comp_dr ds n2 _ hs (by omega) fun xs n3 e q g3 g4 => ?_
    refine h (r :: xs) n3 (by rw [List.length_cons, List.length_cons, e]) (fun y hy => ?_) (by omega) (by rw [List.length_cons]; omega)
    rcases List.mem_cons.mp hy with rfl | hy
    · exact ⟨r0, r1⟩
    · exact q y hy
theorem zip_enc {α β : Type} {e1 : α → D} {e2 : β → D} : ∀ {xs : List α} {ys : List β}, List.zipWith (fun a b => D.tup [a, b]) (xs.map e1) (ys.map e2) = (xs.zip ys).map fun p => .tup [e1 p.1, e2 p.2]
  | [], _ => by simp
  | _ :: _, [] => by simp
  | x :: xs, y :: ys => by
    rw [List.map_cons, List.map_cons, List.zipWith_cons_cons, zip_enc, List.zip_cons_cons, List.map_cons]
theorem enum_enc {α : Type} {e : α → D} {xs : List α} : enumD (xs.map e) = xs.zipIdx.map fun p => .tup [.int (p.2 : Nat), e p.1] := by
  unfold enumD
  rw [List.length_map, List.range_eq_range']
  have : ∀ (as : List α) (k : Nat), List.zipWith (fun a b => D.tup [a, b]) ((List.range' k as.length).map fun i => D.int (i : Nat)) (as.map e) = (as.zipIdx k).map fun p => .tup [.int (p.2 : Nat), e p.1] := fun as => by
    induction as with
    | nil => intro k; rfl
    | cons a as ih => intro k; rw [List.length_cons, List.range'_succ, List.map_cons, List.map_cons, List.zipWith_cons_cons, ih, List.zipIdx_cons, List.map_cons]
  exact this xs 0
theorem range1_nat (m : Nat) : range1D (m : Int) = (List.range m).map fun i => D.int (i : Nat) := rfl
/-! ### places -/
theorem ixN_nat {l m : Nat} (h : m < l) : ixN l (m : Int) = some m := by
  unfold ixN; rw [if_pos (by omega), if_pos (by omega)]; rfl
theorem ix_T {xs : List D} {m : Nat} {d : D} (h : xs[m]? = some d) : ixD (.tup xs) (.int m) = some d := by
  show atI xs (m : Int) = _
  unfold atI
  rw [ixN_nat (List.getElem?_eq_some_iff.mp h).1]; exact h
theorem ix_L {xs : List D} {m : Nat} {d : D} (h : xs[m]? = some d) : ixD (.lst xs) (.int m) = some d := by
  show atI xs (m : Int) = _
  unfold atI
  rw [ixN_nat (List.getElem?_eq_some_iff.mp h).1]; exact h
theorem ints_at {xs : List Int} {m : Nat} (h : m < xs.length) : (xs.map D.int)[m]? = some (.int (LA.gt xs m)) := by
  rw [List.getElem?_map, List.getElem?_eq_getElem h, LA.gt_of h]; rfl
theorem ix_iT {xs : List Int} {m : Nat} (h : m < xs.length) : ixD (eT xs) (.int m) = some (.int (LA.gt xs m)) := ix_T (ints_at h)
theorem ix_iL {xs : List Int} {m : Nat} (h : m < xs.length) : ixD (eL xs) (.int m) = some (.int (LA.gt xs m)) := ix_L (ints_at h)
theorem ix_m1 {xs : List D} {d : D} (h0 : 0 < xs.length) (h : xs[xs.length - 1]? = some d) : ixD (.tup xs) (.int (-1)) = some d := by
  show atI xs (-1) = _
  unfold atI ixN
  rw [if_neg (by decide), if_pos (by omega)]
  show xs[((-1 : Int) + xs.length).toNat]? = _
  rw [show ((-1 : Int) + xs.length).toNat = xs.length - 1 by omega]; exact h
/-- the place ahead, round -/
theorem ix_prev {xs : List Int} {m : Nat} (h : m < xs.length) : ixD (eT xs) (.int ((m : Int) - 1)) = some (.int (LA.gt xs ((m + xs.length - 1) % xs.length))) := by
  cases m with
  | zero =>
    rw [show ((0 : Nat) : Int) - 1 = -1 by rfl]
    refine ix_m1 (by rw [List.length_map]; exact h) ?_
    rw [List.length_map, Nat.zero_add, Nat.mod_eq_of_lt (by omega)]
    exact ints_at (by omega)
  | succ m =>
    rw [show ((m + 1 : Nat) : Int) - 1 = (m : Int) by omega, show m + 1 + xs.length - 1 = m + xs.length by omega, Nat.add_mod_right, Nat.mod_eq_of_lt (by omega)]
    exact ix_iT (by omega)
theorem bls_map (bs : List Bool) : blsOf (bs.map D.bl) = some bs := by
  induction bs with
  | nil => rfl
  | cons b r ih => rw [List.map_cons, blsOf, ih]; rfl
theorem o_all {bs : List Bool} {k : D → Prop} (h : k (.bl (bs.all id))) : optK (allD [.lst (bs.map D.bl)]) k := by
  show optK ((blsOf _).map _) k
  rw [bls_map]; exact h
theorem o_neS {z : Str} {q : D → Prop} (h : q (.bl false)) : optK (neX (.str z) (.str z)) q := by
  have e : neX (.str z) (.str z) = some (.bl false) := by
    unfold neX; simp
  rw [e]; exact h
theorem o_isNN {k : D → Prop} (h : k (.bl true)) : optK (isD .non .non) k := h
theorem o_isIN {i : Int} {k : D → Prop} (h : k (.bl false)) : optK (isD (.int i) .non) k := h
theorem i_rangeV {i z : Nat} {ε : XD} {ρ : Ev} {n : Nat} {q : List D → Nat → Prop} (e : ρ[i]? = some (.val (.int (z : Nat)))) (hz : z < 1000000) (h : q ((List.range z).map fun i => D.int (i : Nat)) n) : mRange1 (mVar i) ε ρ n q := by
  unfold mRange1
  refine i_var e ?_
  exact ⟨⟨by omega, by omega⟩, h⟩
theorem range_at {z i : Nat} {d : D} (h : ((List.range z).map fun i => D.int (i : Nat))[i]? = some d) : d = .int (i : Nat) ∧ i < z := by
  rw [List.getElem?_map] at h
  obtain ⟨j, h1, h2⟩ := Option.map_eq_some_iff.mp h
  obtain ⟨h3, h4⟩ := List.getElem?_eq_some_iff.mp h1
  rw [List.length_range] at h3
  rw [List.getElem_range] at h4
  subst h4
  exact ⟨h2.symm, h3⟩
theorem zip_ax2 {a c : Int} : ∀ {xs ys : List Int}, (xs.zip ys).map (fun p => D.int ((p.1 + c * p.2) % a)) = (LA.ax a c ys xs).map D.int
  | [], _ => by simp [LA.ax]
  | _ :: _, [] => by simp [LA.ax]
  | x :: xs, y :: ys => by
    have := zip_ax2 (a := a) (c := c) (xs := xs) (ys := ys)
    unfold LA.ax at this ⊢
    rw [List.zip_cons_cons, List.map_cons, this, List.zipWith_cons_cons, List.map_cons]
/-! ### repr -/
theorem ok_le {j w w2 : Nat} {d : D} {e : PyData} (o : Ok j w d e) (h : w ≤ w2) : Ok j w2 d e := ⟨o.py, o.sh, o.dp, o.lv, Nat.le_trans o.wt h⟩
theorem ok_up {j j2 w w2 : Nat} {d : D} (o : ∃ e, Ok j w d e) (h : j ≤ j2) (h2 : w ≤ w2) : ∃ e, Ok j2 w2 d e := let ⟨e, o⟩ := o; ⟨e, o.py, o.sh, Nat.le_trans o.dp h, o.lv, Nat.le_trans o.wt h2⟩
theorem ok_bl {b : Bool} : ∃ e, Ok 0 80 (.bl b) e := ⟨.bool b, rfl, rfl, Nat.le_refl _, by cases b <;> decide +kernel, Nat.zero_le _⟩
theorem ok_non : ∃ e, Ok 0 80 .non e := ⟨.none, rfl, rfl, Nat.le_refl _, by decide +kernel, Nat.zero_le _⟩
theorem ok_smallT {xs : List Int} (h : ∀ i ∈ xs, i.natAbs < 10 ^ 12) : ∃ e, Ok 1 (xs.length * 81) (eT xs) e := by
  have := ok_tup (j := 0) (w := 80) (xs := xs.map D.int) fun x hx => by
    obtain ⟨i, hi, rfl⟩ := List.mem_map.mp hx
    exact ok_int (h i hi)
  rwa [List.length_map] at this
theorem ok_rows {rows : List (List Int)} {l : Nat} (h : ∀ r ∈ rows, r.length ≤ l ∧ ∀ i ∈ r, i.natAbs < 10 ^ 12) : ∃ e, Ok 2 (rows.length * (l * 81 + 1)) (.tup (eR rows)) e := by
  have := ok_tup (j := 1) (w := l * 81) (xs := eR rows) fun x hx => by
    obtain ⟨r, hr, rfl⟩ := List.mem_map.mp hx
    obtain ⟨e, o⟩ := ok_smallT (h r hr).2
    exact ⟨e, ok_le o (Nat.mul_le_mul_right _ (h r hr).1)⟩
  rwa [eR, List.length_map] at this
/-! ### own lists -/
section
variable {ε : XD} {ρ : Ev} {n i j : Nat} {p : Addr} {xs : List D} {ma mb : ME}
theorem i_iterO {q : List D → Nat → Prop} (e : ρ[i]? = some (.own p (.lst xs))) (h : q xs n) : mIterO i ε ρ n q := by unfold mIterO; rw [e]; exact h
theorem i_enumO {q : List D → Nat → Prop} (e : ρ[i]? = some (.own p (.lst xs))) (h : q (enumD xs) n) : mEnumO i ε ρ n q := by unfold mEnumO; rw [e]; exact h
theorem i_popO {P : Pn} (e : ρ[i]? = some (.own p (.lst xs))) (h : ma ε ρ n fun d n1 => match d with | .int a => (-(2 ^ 63) ≤ a ∧ a < 2 ^ 63) ∧ optK (ixN xs.length a) fun k => optK xs[k]? fun y => P.nx ((ρ.set i (.own p (.lst (xs.eraseIdx k)))).set j (.val y)) n1 | _ => False) : mPopO j i ma ε ρ n P := by
  unfold mPopO; rw [e]; exact h
theorem o_setK1 {d : List D} {q : Ev → Prop} (h : ∀ p, q (ρ.set i (.own p (.lst d)))) : setK true i (.lst d) ρ q := h
theorem o_setK0 {d : D} {q : Ev → Prop} (h : q (ρ.set i (.val d))) : setK false i d ρ q := h
theorem i_parO {b1 b2 : Bool} {P : Pn} (h : ma ε ρ n fun d n1 => mb ε ρ n1 fun d' n2 => setK b1 i d ρ fun ρ1 => setK b2 j d' ρ1 fun ρ2 => P.nx ρ2 n2) : mParO b1 b2 i j ma mb ε ρ n P := h
end
theorem o_ixL0 {xs : List D} {d : D} {q : D → Prop} (e : xs[0]? = some d) (h : q d) : optK (ixD (.lst xs) (.int 0)) q := by
  rw [show ixD (.lst xs) (.int 0) = some d from ix_L (m := 0) e]; exact h
theorem o_ixT0 {xs : List D} {d : D} {q : D → Prop} (e : xs[0]? = some d) (h : q d) : optK (ixD (.tup xs) (.int 0)) q := by
  rw [show ixD (.tup xs) (.int 0) = some d from ix_T (m := 0) e]; exact h
theorem erase_map {α β : Type} {f : α → β} : ∀ {l : List α} {i : Nat}, (l.map f).eraseIdx i = (l.eraseIdx i).map f
  | [], _ => rfl
  | _ :: _, 0 => rfl
  | x :: l, i + 1 => by rw [List.map_cons, List.eraseIdx_cons_succ, List.eraseIdx_cons_succ, List.map_cons, erase_map]
end DS
/-! # LinD: rows told from another gap on -/
namespace LA
def rot (g : Nat) (xs : List Int) : List Int := xs.drop g ++ xs.take g
section
variable {a c : Int} {z g h : Nat} {u v w r : List Int} {R R' : List (List Int)}
theorem len_rot : (rot g v).length = v.length := by unfold rot; rw [List.length_append, List.length_drop, List.length_take]; omega
theorem gt_rot {j : Nat} (hg : g ≤ v.length) (hj : j < v.length) : gt (rot g v) j = gt v ((j + g) % v.length) := by
  rw [gt_of (by rw [len_rot]; exact hj), gt_of (Nat.mod_lt _ (by omega))]
  unfold rot
  by_cases e : j + g < v.length
  · rw [List.getElem_append_left (by rw [List.length_drop]; omega), List.getElem_drop]
    congr 1
    rw [Nat.mod_eq_of_lt e]; omega
  · rw [List.getElem_append_right (by rw [List.length_drop]; omega), List.getElem_take]
    congr 1
    rw [List.length_drop, Nat.mod_eq_sub_mod (by omega), Nat.mod_eq_of_lt (by omega)]; omega
theorem ro_rot (h : Ro a z v) : Ro a z (rot g v) := ⟨by rw [len_rot]; exact h.1, fun x hx => h.2 x (by
  unfold rot at hx
  rcases List.mem_append.mp hx with h | h
  · exact List.mem_of_mem_drop h
  · exact List.mem_of_mem_take h)⟩
theorem ro_rots (h : ∀ r ∈ R, Ro a z r) : ∀ r ∈ R.map (rot g), Ro a z r := fun r hr => by
  obtain ⟨x, hx, rfl⟩ := List.mem_map.mp hr
  exact ro_rot (h x hx)
theorem rot_ax (hv : v.length = z) (hr : r.length = z) (hg : g ≤ z) : rot g (ax a c r v) = ax a c (rot g r) (rot g v) := by
  refine ext_gt (z := z) (by rw [len_rot, len_ax hv hr]) (len_ax (by rw [len_rot, hv]) (by rw [len_rot, hr])) fun j hj => ?_
  have hm : (j + g) % z < z := Nat.mod_lt _ (by omega)
  rw [gt_rot (by rw [len_ax hv hr]; exact hg) (by rw [len_ax hv hr]; exact hj), len_ax hv hr, gt_ax hv hr hm, gt_ax (by rw [len_rot, hv]) (by rw [len_rot, hr]) hj, gt_rot (by omega) (by omega), gt_rot (by omega) (by omega), hv, hr]
theorem rot_zr (hg : g ≤ z) : rot g (zr z) = zr z := ext_gt (z := z) (by rw [len_rot, len_zr]) len_zr fun j hj => by
  rw [gt_rot (by rw [len_zr]; exact hg) (by rw [len_zr]; exact hj), gt_zr, gt_zr]
theorem rot_zero : rot 0 v = v := by unfold rot; simp
theorem rot_rot (hv : v.length = z) (hg : g < z) (hh : h < z) : rot h (rot g v) = rot ((g + h) % z) v := by
  have hm : (g + h) % z < z := Nat.mod_lt _ (by omega)
  refine ext_gt (z := z) (by rw [len_rot, len_rot, hv]) (by rw [len_rot, hv]) fun j hj => ?_
  have hk : (j + h) % z < z := Nat.mod_lt _ (by omega)
  rw [gt_rot (by rw [len_rot]; omega) (by rw [len_rot]; omega), len_rot, hv, gt_rot (by omega) (by omega), hv, gt_rot (by omega) (by omega), hv]
  congr 1
  rw [Nat.mod_add_mod, Nat.add_mod_mod]
  congr 1
  omega
theorem sp_rot (ha : 0 < a) (hR : ∀ r ∈ R, Ro a z r) (hg : g ≤ z) (h : Sp a z R v) : Sp a z (R.map (rot g)) (rot g v) := by
  induction h with
  | zero => rw [rot_zr hg]; exact .zero
  | add c hv hr ih =>
    rw [rot_ax (hv.ro ha hR).1 (hR _ hr).1 hg]
    exact .add c ih (List.mem_map_of_mem hr)
theorem eqs_rot (ha : 0 < a) (hR : ∀ r ∈ R, Ro a z r) (hR' : ∀ r ∈ R', Ro a z r) (hg : g ≤ z) (e : Eqs a z R R') : Eqs a z (R.map (rot g)) (R'.map (rot g)) := by
  refine eqs_of ha (ro_rots hR) (ro_rots hR') (fun r hr => ?_) fun r hr => ?_
  · obtain ⟨x, hx, rfl⟩ := List.mem_map.mp hr
    exact sp_rot ha hR' hg ((e x).mp (.mem hR hx))
  · obtain ⟨x, hx, rfl⟩ := List.mem_map.mp hr
    exact sp_rot ha hR hg ((e x).mpr (.mem hR' hx))
theorem least_rot {iv : Int → Int} (ha : 1 < a) (hi : Iv a iv) (hR : ∀ r ∈ R, Ro a z r) (hg : g ≤ z) : least a iv ((least a iv R).map (rot g)) = least a iv (R.map (rot g)) := by
  have hl := least_ro ha hi hR
  show rowsF _ = rowsF _
  rw [least_same ha hi (ro_rots hl) (ro_rots hR) (eqs_rot (by omega) hl hR hg (least_eqs ha hi hR))]
theorem rots_rots (hR : ∀ r ∈ R, Ro a z r) (hg : g < z) (hh : h < z) : (R.map (rot g)).map (rot h) = R.map (rot ((g + h) % z)) := by
  rw [List.map_map]
  exact List.map_congr_left fun r hr => rot_rot (hR r hr).1 hg hh
theorem rots_zero : R.map (rot 0) = R := by
  conv => rhs; rw [← List.map_id R]
  exact List.map_congr_left fun r _ => rot_zero
end
end LA
namespace K15
open PySem PySem.Spec PyProof.Rows L2 DS
theorem draw_ok : ∀ cells ds n kk, conDraw noX ds n kk → conOf 2 6 (m__law_horse cells) noX ds n kk := by
  intro cells ds n kk h
  unfold conDraw at h
  split at h
  · rename_i many
    obtain ⟨⟨h1, h2⟩, hn, hk⟩ := h
    have hm : ∀ (x : Int) (n2 : Nat), n ≤ n2 → n2 ≤ n + 1 → kk (.int (x % many)) n2 := fun x n2 g1 g2 => hk _ _ (Int.emod_nonneg x (by omega)) (Int.emod_lt_of_pos x h1) g1 g2
    have hd : ∀ x : Int, 0 ≤ x → 0 ≤ x / many := fun x hx => Int.ediv_nonneg hx (by omega)
    refine ⟨rfl, ?_⟩
    show m__law_horse cells noX [.val .box, .val (.int many), .no, .no, .no, .no] n _
    unfold m__law_horse
    refine seq_i fun R hR => ?_
    simp only [↓mSeq, ↓mIf, ↓mBl, ↓mOp, ↓mUn, ↓mTru, ↓mNot, ↓mAnd, ↓mOr, ↓mBox0, ↓mBox1, ↓mBox2, ↓mPut1, ↓mPut2, ↓mAsg, ↓mPar, ↓mRet, ↓mRetN, ↓mCall, ↓mCallK, ↓mAndV, ↓mOrV, ↓mNotV, ↓mUn1, ↓mChain, ↓mIfE, wipeE, ↓mDrop, ↓mNext, ↓mYes, ↓gfName, ↓gfTup, ↓gsCons, ↓gsNil, Option.bind_some, ↓mC, ↓mVar, ↓mNil, ↓mCons, ↓mArgs, List.getElem?_cons_zero, List.getElem?_cons_succ, List.set_cons_zero, List.set_cons_succ, ↓ek_add, ↓ek_sub, ↓ek_neg, ↓ek_cmp, ↓ek_int, ↓ek_intb, ↓ek_abs, ↓ek_mul, ↓ek_fdiv, ↓ek_mod, ↓ek_pow, ↓ek_str, ↓ek_len, ↓ek_lenT, ↓ek_lst, ↓ek_tup, ↓ek_some, ↓ek_addL, ↓ek_addT, ↓ek_rep, ↓ek_tupl, ↓ek_slL, ↓mSl, ↓mNoP, ↓mPart, List.length_map, decide_eq_true_eq]
    intro r hr
    refine ite_i (fun _ r2 h3 => ⟨⟨h1, h2⟩, hd _ h3, h1, hm _ _ (by omega) (by omega)⟩) fun _ => hR _ _ ?_
    clear hR
    refine seq_i fun R hR => ?_
    simp only [↓mSeq, ↓mIf, ↓mBl, ↓mOp, ↓mUn, ↓mTru, ↓mNot, ↓mAnd, ↓mOr, ↓mBox0, ↓mBox1, ↓mBox2, ↓mPut1, ↓mPut2, ↓mAsg, ↓mPar, ↓mRet, ↓mRetN, ↓mCall, ↓mCallK, ↓mAndV, ↓mOrV, ↓mNotV, ↓mUn1, ↓mChain, ↓mIfE, wipeE, ↓mDrop, ↓mNext, ↓mYes, ↓gfName, ↓gfTup, ↓gsCons, ↓gsNil, Option.bind_some, ↓mC, ↓mVar, ↓mNil, ↓mCons, ↓mArgs, List.getElem?_cons_zero, List.getElem?_cons_succ, List.set_cons_zero, List.set_cons_succ, ↓ek_add, ↓ek_sub, ↓ek_neg, ↓ek_cmp, ↓ek_int, ↓ek_intb, ↓ek_abs, ↓ek_mul, ↓ek_fdiv, ↓ek_mod, ↓ek_pow, ↓ek_str, ↓ek_len, ↓ek_lenT, ↓ek_lst, ↓ek_tup, ↓ek_some, ↓ek_addL, ↓ek_addT, ↓ek_rep, ↓ek_tupl, ↓ek_slL, ↓mSl, ↓mNoP, ↓mPart, List.length_map, decide_eq_true_eq]
    intro lap l0 l1
    refine hR _ _ ?_
    clear hR
    refine seq_i fun R hR => ?_
    simp only [↓mSeq, ↓mIf, ↓mBl, ↓mOp, ↓mUn, ↓mTru, ↓mNot, ↓mAnd, ↓mOr, ↓mBox0, ↓mBox1, ↓mBox2, ↓mPut1, ↓mPut2, ↓mAsg, ↓mPar, ↓mRet, ↓mRetN, ↓mCall, ↓mCallK, ↓mAndV, ↓mOrV, ↓mNotV, ↓mUn1, ↓mChain, ↓mIfE, wipeE, ↓mDrop, ↓mNext, ↓mYes, ↓gfName, ↓gfTup, ↓gsCons, ↓gsNil, Option.bind_some, ↓mC, ↓mVar, ↓mNil, ↓mCons, ↓mArgs, List.getElem?_cons_zero, List.getElem?_cons_succ, List.set_cons_zero, List.set_cons_succ, ↓ek_add, ↓ek_sub, ↓ek_neg, ↓ek_cmp, ↓ek_int, ↓ek_intb, ↓ek_abs, ↓ek_mul, ↓ek_fdiv, ↓ek_mod, ↓ek_pow, ↓ek_str, ↓ek_len, ↓ek_lenT, ↓ek_lst, ↓ek_tup, ↓ek_some, ↓ek_addL, ↓ek_addT, ↓ek_rep, ↓ek_tupl, ↓ek_slL, ↓mSl, ↓mNoP, ↓mPart, List.length_map, decide_eq_true_eq]
    refine ⟨⟨by omega, by omega⟩, hR _ _ ?_⟩
    clear hR
    refine seq_i fun R hR => ?_
    simp only [↓mSeq, ↓mIf, ↓mBl, ↓mOp, ↓mUn, ↓mTru, ↓mNot, ↓mAnd, ↓mOr, ↓mBox0, ↓mBox1, ↓mBox2, ↓mPut1, ↓mPut2, ↓mAsg, ↓mPar, ↓mRet, ↓mRetN, ↓mCall, ↓mCallK, ↓mAndV, ↓mOrV, ↓mNotV, ↓mUn1, ↓mChain, ↓mIfE, wipeE, ↓mDrop, ↓mNext, ↓mYes, ↓gfName, ↓gfTup, ↓gsCons, ↓gsNil, Option.bind_some, ↓mC, ↓mVar, ↓mNil, ↓mCons, ↓mArgs, List.getElem?_cons_zero, List.getElem?_cons_succ, List.set_cons_zero, List.set_cons_succ, ↓ek_add, ↓ek_sub, ↓ek_neg, ↓ek_cmp, ↓ek_int, ↓ek_intb, ↓ek_abs, ↓ek_mul, ↓ek_fdiv, ↓ek_mod, ↓ek_pow, ↓ek_str, ↓ek_len, ↓ek_lenT, ↓ek_lst, ↓ek_tup, ↓ek_some, ↓ek_addL, ↓ek_addT, ↓ek_rep, ↓ek_tupl, ↓ek_slL, ↓mSl, ↓mNoP, ↓mPart, List.length_map, decide_eq_true_eq]
    refine ⟨.inl ⟨by decide, by decide⟩, hR _ _ ?_⟩
    clear hR
    refine seq_i fun R hR => ?_
    simp only [↓mSeq, ↓mIf, ↓mBl, ↓mOp, ↓mUn, ↓mTru, ↓mNot, ↓mAnd, ↓mOr, ↓mBox0, ↓mBox1, ↓mBox2, ↓mPut1, ↓mPut2, ↓mAsg, ↓mPar, ↓mRet, ↓mRetN, ↓mCall, ↓mCallK, ↓mAndV, ↓mOrV, ↓mNotV, ↓mUn1, ↓mChain, ↓mIfE, wipeE, ↓mDrop, ↓mNext, ↓mYes, ↓gfName, ↓gfTup, ↓gsCons, ↓gsNil, Option.bind_some, ↓mC, ↓mVar, ↓mNil, ↓mCons, ↓mArgs, List.getElem?_cons_zero, List.getElem?_cons_succ, List.set_cons_zero, List.set_cons_succ, ↓ek_add, ↓ek_sub, ↓ek_neg, ↓ek_cmp, ↓ek_int, ↓ek_intb, ↓ek_abs, ↓ek_mul, ↓ek_fdiv, ↓ek_mod, ↓ek_pow, ↓ek_str, ↓ek_len, ↓ek_lenT, ↓ek_lst, ↓ek_tup, ↓ek_some, ↓ek_addL, ↓ek_addT, ↓ek_rep, ↓ek_tupl, ↓ek_slL, ↓mSl, ↓mNoP, ↓mPart, List.length_map, decide_eq_true_eq]
    have tail : ∀ c : Int, R [.val .box, .val (.int many), .no, .val (.int lap), .val (.int c), .no] (n + 1) := fun c => by
      refine hR _ _ ?_
      clear hR
      refine seq_i fun R hR => ?_
      have tail2 : R [.val .box, .val (.int many), .no, .val (.int lap), .val (.int c), .no] (n + 1) := by
        refine hR _ _ ?_
        clear hR
        refine seq_i fun R hR => ?_
        simp only [↓mSeq, ↓mIf, ↓mBl, ↓mOp, ↓mUn, ↓mTru, ↓mNot, ↓mAnd, ↓mOr, ↓mBox0, ↓mBox1, ↓mBox2, ↓mPut1, ↓mPut2, ↓mAsg, ↓mPar, ↓mRet, ↓mRetN, ↓mCall, ↓mCallK, ↓mAndV, ↓mOrV, ↓mNotV, ↓mUn1, ↓mChain, ↓mIfE, wipeE, ↓mDrop, ↓mNext, ↓mYes, ↓gfName, ↓gfTup, ↓gsCons, ↓gsNil, Option.bind_some, ↓mC, ↓mVar, ↓mNil, ↓mCons, ↓mArgs, List.getElem?_cons_zero, List.getElem?_cons_succ, List.set_cons_zero, List.set_cons_succ, ↓ek_add, ↓ek_sub, ↓ek_neg, ↓ek_cmp, ↓ek_int, ↓ek_intb, ↓ek_abs, ↓ek_mul, ↓ek_fdiv, ↓ek_mod, ↓ek_pow, ↓ek_str, ↓ek_len, ↓ek_lenT, ↓ek_lst, ↓ek_tup, ↓ek_some, ↓ek_addL, ↓ek_addT, ↓ek_rep, ↓ek_tupl, ↓ek_slL, ↓mSl, ↓mNoP, ↓mPart, List.length_map, decide_eq_true_eq]
        refine ⟨by decide, .inl ⟨by decide, by decide⟩, ⟨by decide, by decide, by omega⟩, by decide, hR _ _ ?_⟩
        clear hR
        have y0 := Int.emod_nonneg ((c % 2147483549 + 61031 * lap + 5099) ^ (5 : Int).toNat) (show (2147483563 : Int) ≠ 0 by decide)
        have y1 := Int.emod_lt_of_pos ((c % 2147483549 + 61031 * lap + 5099) ^ (5 : Int).toNat) (show (0 : Int) < 2147483563 by decide)
        generalize (c % 2147483549 + 61031 * lap + 5099) ^ (5 : Int).toNat % 2147483563 = y at y0 y1 ⊢
        refine seq_i fun R hR => ?_
        simp only [↓mSeq, ↓mIf, ↓mBl, ↓mOp, ↓mUn, ↓mTru, ↓mNot, ↓mAnd, ↓mOr, ↓mBox0, ↓mBox1, ↓mBox2, ↓mPut1, ↓mPut2, ↓mAsg, ↓mPar, ↓mRet, ↓mRetN, ↓mCall, ↓mCallK, ↓mAndV, ↓mOrV, ↓mNotV, ↓mUn1, ↓mChain, ↓mIfE, wipeE, ↓mDrop, ↓mNext, ↓mYes, ↓gfName, ↓gfTup, ↓gsCons, ↓gsNil, Option.bind_some, ↓mC, ↓mVar, ↓mNil, ↓mCons, ↓mArgs, List.getElem?_cons_zero, List.getElem?_cons_succ, List.set_cons_zero, List.set_cons_succ, ↓ek_add, ↓ek_sub, ↓ek_neg, ↓ek_cmp, ↓ek_int, ↓ek_intb, ↓ek_abs, ↓ek_mul, ↓ek_fdiv, ↓ek_mod, ↓ek_pow, ↓ek_str, ↓ek_len, ↓ek_lenT, ↓ek_lst, ↓ek_tup, ↓ek_some, ↓ek_addL, ↓ek_addT, ↓ek_rep, ↓ek_tupl, ↓ek_slL, ↓mSl, ↓mNoP, ↓mPart, List.length_map, decide_eq_true_eq]
        refine ⟨.inl ⟨by decide, by decide⟩, .inl ⟨by omega, by omega⟩, .inl ⟨by decide, by decide⟩, .inr ⟨by omega, by omega⟩, ⟨by decide, by decide, ?_⟩, by decide, hR _ _ ?_⟩
        · refine Nat.lt_of_le_of_lt (nb_add (nb_add (nb_mul (A := 4294967296) (B := 4000000) ?_ ?_) (nb_mul (A := 200000000000) (B := 1000000) ?_ ?_)) (B := 1000000) ?_) (by decide) <;> omega
        · simp only [↓mSeq, ↓mIf, ↓mBl, ↓mOp, ↓mUn, ↓mTru, ↓mNot, ↓mAnd, ↓mOr, ↓mBox0, ↓mBox1, ↓mBox2, ↓mPut1, ↓mPut2, ↓mAsg, ↓mPar, ↓mRet, ↓mRetN, ↓mCall, ↓mCallK, ↓mAndV, ↓mOrV, ↓mNotV, ↓mUn1, ↓mChain, ↓mIfE, wipeE, ↓mDrop, ↓mNext, ↓mYes, ↓gfName, ↓gfTup, ↓gsCons, ↓gsNil, Option.bind_some, ↓mC, ↓mVar, ↓mNil, ↓mCons, ↓mArgs, List.getElem?_cons_zero, List.getElem?_cons_succ, List.set_cons_zero, List.set_cons_succ, ↓ek_add, ↓ek_sub, ↓ek_neg, ↓ek_cmp, ↓ek_int, ↓ek_intb, ↓ek_abs, ↓ek_mul, ↓ek_fdiv, ↓ek_mod, ↓ek_pow, ↓ek_str, ↓ek_len, ↓ek_lenT, ↓ek_lst, ↓ek_tup, ↓ek_some, ↓ek_addL, ↓ek_addT, ↓ek_rep, ↓ek_tupl, ↓ek_slL, ↓mSl, ↓mNoP, ↓mPart, List.length_map, decide_eq_true_eq]
          refine ⟨by decide, h1, hm _ _ (by omega) (by omega)⟩
      simp only [↓mSeq, ↓mIf, ↓mBl, ↓mOp, ↓mUn, ↓mTru, ↓mNot, ↓mAnd, ↓mOr, ↓mBox0, ↓mBox1, ↓mBox2, ↓mPut1, ↓mPut2, ↓mAsg, ↓mPar, ↓mRet, ↓mRetN, ↓mCall, ↓mCallK, ↓mAndV, ↓mOrV, ↓mNotV, ↓mUn1, ↓mChain, ↓mIfE, wipeE, ↓mDrop, ↓mNext, ↓mYes, ↓gfName, ↓gfTup, ↓gsCons, ↓gsNil, Option.bind_some, ↓mC, ↓mVar, ↓mNil, ↓mCons, ↓mArgs, List.getElem?_cons_zero, List.getElem?_cons_succ, List.set_cons_zero, List.set_cons_succ, ↓ek_add, ↓ek_sub, ↓ek_neg, ↓ek_cmp, ↓ek_int, ↓ek_intb, ↓ek_abs, ↓ek_mul, ↓ek_fdiv, ↓ek_mod, ↓ek_pow, ↓ek_str, ↓ek_len, ↓ek_lenT, ↓ek_lst, ↓ek_tup, ↓ek_some, ↓ek_addL, ↓ek_addT, ↓ek_rep, ↓ek_tupl, ↓ek_slL, ↓mSl, ↓mNoP, ↓mPart, List.length_map, decide_eq_true_eq]
      refine ite_i (fun _ => ⟨by decide, ite_i (fun g => ⟨by decide, .inl ⟨by decide, by decide⟩, ⟨h1, h2⟩, hd _ ?_, h1, hm _ _ (by omega) (by omega)⟩) fun _ => tail2⟩) fun _ => tail2
      have h0 : (0 : Int) ≤ if decide (c < 0) = true then 1 else 0 := by split <;> decide
      omega
    refine ⟨by decide, ne_nil cells ?_⟩
    cases e : cells.isEmpty with
    | true => exact tail _
    | false =>
      have hl : 0 < (cells.length : Int) := by
        cases cells with
        | nil => cases e
        | cons a b => simp only [List.length_cons]; omega
      obtain ⟨c, ec⟩ := at_ints (l := cells) (Int.emod_nonneg lap (by omega)) (Int.emod_lt_of_pos lap hl)
      show if true = true then _ else _
      rw [if_pos rfl, ec]
      exact ⟨hl, tail c⟩
  · exact h.elim
end K15
namespace K15
open PySem PySem.Spec PyProof.Rows L2 DS
theorem c_is_integer {ε : XD} {d : D} {n : Nat} {k : DK} (h : Pl d) (hk : k (.bl (isI d)) n) : con_is_integer ε [d] n k := by
  obtain ⟨t, ht⟩ := h
  refine ⟨rfl, ?_⟩
  cases d <;> first | (cases ht; done) | exact hk
theorem c_is_within {ε : XD} {d lo hi : D} {n : Nat} {k : DK} (h : Pl d) (hl : lo = .non ∨ ∃ a, lo = .int a) (hh : hi = .non ∨ ∃ a, hi = .int a) (hk : k (.bl (isW d lo hi)) n) : con_is_within ε [d, lo, hi] n k := by
  refine ⟨rfl, ?_⟩
  show m_is_within noX [.val d, .val lo, .val hi] n _
  unfold m_is_within
  refine seq_i fun R hR => ?_
  simp only [↓mSeq, ↓mIf, ↓mBl, ↓mOp, ↓mUn, ↓mTru, ↓mNot, ↓mAnd, ↓mOr, ↓mBox0, ↓mBox1, ↓mBox2, ↓mPut1, ↓mPut2, ↓mAsg, ↓mPar, ↓mRet, ↓mRetN, ↓mCall, ↓mCallK, ↓mAndV, ↓mOrV, ↓mNotV, ↓mUn1, ↓mChain, ↓mIfE, wipeE, ↓mDrop, ↓mNext, ↓mYes, ↓gfName, ↓gfTup, ↓gsCons, ↓gsNil, Option.bind_some, ↓mC, ↓mVar, ↓mNil, ↓mCons, ↓mArgs, List.getElem?_cons_zero, List.getElem?_cons_succ, List.set_cons_zero, List.set_cons_succ, ↓ek_add, ↓ek_sub, ↓ek_neg, ↓ek_cmp, ↓ek_int, ↓ek_intb, ↓ek_abs, ↓ek_mul, ↓ek_fdiv, ↓ek_mod, ↓ek_pow, ↓ek_str, ↓ek_len, ↓ek_lenT, ↓ek_lst, ↓ek_tup, ↓ek_some, ↓ek_addL, ↓ek_addT, ↓ek_rep, ↓ek_tupl, ↓ek_slL, ↓mSl, ↓mNoP, ↓mPart, List.length_map, decide_eq_true_eq]
  refine c_is_integer h ?_
  rw [ek_truth]
  cases d <;> try exact hk
  rename_i i
  refine hR _ _ ?_
  have fin : ∀ b c : Bool, k (.bl (b && c)) n → optK (truthD (.bl b)) (fun b' => if b' = true then k (.bl c) n else k (.bl b) n) := fun b c h => by cases b <;> exact h
  rcases hl with rfl | ⟨a, rfl⟩ <;> rcases hh with rfl | ⟨b, rfl⟩
  · exact hk
  · exact hk
  · refine fin (decide (a ≤ i)) true ?_
    exact hk
  · refine fin (decide (a ≤ i)) (decide (i ≤ b)) ?_
    exact hk
theorem c_is_clock {ε : XD} {d : D} {n : Nat} {k : DK} (h : Pl d) (hk : k (.bl (isC d)) n) : con_is_clock ε [d] n k := by
  refine ⟨rfl, ?_⟩
  show m_is_clock noX [.val d] n _
  unfold m_is_clock
  simp only [↓mSeq, ↓mIf, ↓mBl, ↓mOp, ↓mUn, ↓mTru, ↓mNot, ↓mAnd, ↓mOr, ↓mBox0, ↓mBox1, ↓mBox2, ↓mPut1, ↓mPut2, ↓mAsg, ↓mPar, ↓mRet, ↓mRetN, ↓mCall, ↓mCallK, ↓mAndV, ↓mOrV, ↓mNotV, ↓mUn1, ↓mChain, ↓mIfE, wipeE, ↓mDrop, ↓mNext, ↓mYes, ↓gfName, ↓gfTup, ↓gsCons, ↓gsNil, Option.bind_some, ↓mC, ↓mVar, ↓mNil, ↓mCons, ↓mArgs, List.getElem?_cons_zero, List.getElem?_cons_succ, List.set_cons_zero, List.set_cons_succ, ↓ek_add, ↓ek_sub, ↓ek_neg, ↓ek_cmp, ↓ek_int, ↓ek_intb, ↓ek_abs, ↓ek_mul, ↓ek_fdiv, ↓ek_mod, ↓ek_pow, ↓ek_str, ↓ek_len, ↓ek_lenT, ↓ek_lst, ↓ek_tup, ↓ek_some, ↓ek_addL, ↓ek_addT, ↓ek_rep, ↓ek_tupl, ↓ek_slL, ↓mSl, ↓mNoP, ↓mPart, List.length_map, decide_eq_true_eq]
  refine c_is_integer h ?_
  rw [ek_truth]
  cases d <;> exact hk
theorem c_draw {ε : XD} {m : Int} {n : Nat} {k : DK} (h : 0 < m ∧ m < 1073741824) (hn : n < 1000000) (hk : ∀ (r : Int) (n2 : Nat), 0 ≤ r → r < m → n ≤ n2 → n2 ≤ n + 1 → k (.int r) n2) : con__law_horse ε [.box, .int m] n k := ⟨h, hn, hk⟩
theorem c_one {ε : XD} {xs : List D} {n : Nat} {k : DK} (h0 : 0 < xs.length) (h1 : xs.length ≤ 1000) (hn : n < 1000000) (hk : ∀ x ∈ xs, ∀ n2, n ≤ n2 → n2 ≤ n + 1 → k x n2) : con__law_one ε [.box, .lst xs] n k := by
  refine ⟨rfl, ?_⟩
  show m__law_one noX [.val .box, .val (.lst xs)] n _
  unfold m__law_one
  simp only [↓mSeq, ↓mIf, ↓mBl, ↓mOp, ↓mUn, ↓mTru, ↓mNot, ↓mAnd, ↓mOr, ↓mBox0, ↓mBox1, ↓mBox2, ↓mPut1, ↓mPut2, ↓mAsg, ↓mPar, ↓mRet, ↓mRetN, ↓mCall, ↓mCallK, ↓mAndV, ↓mOrV, ↓mNotV, ↓mUn1, ↓mChain, ↓mIfE, wipeE, ↓mDrop, ↓mNext, ↓mYes, ↓gfName, ↓gfTup, ↓gsCons, ↓gsNil, Option.bind_some, ↓mC, ↓mVar, ↓mNil, ↓mCons, ↓mArgs, List.getElem?_cons_zero, List.getElem?_cons_succ, List.set_cons_zero, List.set_cons_succ, ↓ek_add, ↓ek_sub, ↓ek_neg, ↓ek_cmp, ↓ek_int, ↓ek_intb, ↓ek_abs, ↓ek_mul, ↓ek_fdiv, ↓ek_mod, ↓ek_pow, ↓ek_str, ↓ek_len, ↓ek_lenT, ↓ek_lst, ↓ek_tup, ↓ek_some, ↓ek_addL, ↓ek_addT, ↓ek_rep, ↓ek_tupl, ↓ek_slL, ↓mSl, ↓mNoP, ↓mPart, List.length_map, decide_eq_true_eq]
  refine c_draw ⟨by omega, by omega⟩ hn fun r n2 r0 r1 a0 a1 => ?_
  obtain ⟨x, hx, e⟩ := at_lst r0 r1
  rw [e]
  exact hk x hx n2 a0 a1
theorem c_need_clock {ε : XD} {d : D} {n : Nat} {k : DK} (h : Pl d) (h0 : isC d = false → ε "BadClock" [("part", .str "clock")] n) (h1 : isC d = true → k .non n) : con_need_clock ε [d] n k := by
  refine ⟨rfl, ?_⟩
  show m_need_clock ε [.val d] n _
  unfold m_need_clock
  repeat first | (with_reducible first | refine i_cons ?_ | refine i_nil ?_ | refine i_args ?_ | refine i_c ?_ | refine i_op ?_ | refine i_un ?_ | refine i_call ?_ | refine i_sl ?_ | refine i_noP ?_ | refine i_ret ?_ | refine i_asg ?_ | refine i_par ?_ | refine i_if ?_ | refine i_or ?_ | refine i_bl ?_ | refine i_ifE ?_ | refine i_tru ?_ | refine i_drop ?_ | refine i_not ?_ | refine i_and ?_ | refine o_add ?_ | refine o_sub ?_ | refine o_neg ?_ | refine o_tupl ?_ | refine o_slL ?_ | refine o_name ?_ | refine o_some ?_) | ((with_reducible apply i_var); exact rfl) | ((with_reducible apply i_partV); exact rfl) | ((with_reducible refine o_lst ?_ ?_); · exact rfl) | ((with_reducible refine o_tup ?_ ?_); · exact rfl)
  refine c_is_clock h ?_
  rw [ek_truth]
  cases e : isC d with
  | false => exact h0 e
  | true => exact h1 e
def rowB : D → Int → Int → Bool
  | .lst xs, c, z => ((xs.length : Int) == z) && xs.all fun x => isW x (.int 0) (.int (c - 1))
  | .tup xs, c, z => ((xs.length : Int) == z) && xs.all fun x => isW x (.int 0) (.int (c - 1))
  | _, _, _ => false
def elems : D → List D
  | .lst xs => xs
  | .tup xs => xs
  | _ => []
theorem c_is_row {ε : XD} {d : D} {c z : Int} {n : Nat} {k : DK} (h : Pl d) (hx : ∀ x ∈ elems d, Pl x) (hl : (elems d).length ≤ 1000) (hk : k (.bl (rowB d c z)) n) : con_is_row ε [d, .int c, .int z] n k := by
  refine ⟨rfl, ?_⟩
  show m_is_row noX [.val d, .val (.int c), .val (.int z), .no] n _
  unfold m_is_row
  obtain ⟨t, ht⟩ := h
  refine seq_i fun R hR => ?_
  simp only [↓mSeq, ↓mIf, ↓mBl, ↓mOp, ↓mUn, ↓mTru, ↓mNot, ↓mAnd, ↓mOr, ↓mBox0, ↓mBox1, ↓mBox2, ↓mPut1, ↓mPut2, ↓mAsg, ↓mPar, ↓mRet, ↓mRetN, ↓mCall, ↓mCallK, ↓mAndV, ↓mOrV, ↓mNotV, ↓mUn1, ↓mChain, ↓mIfE, wipeE, ↓mDrop, ↓mNext, ↓mYes, ↓gfName, ↓gfTup, ↓gsCons, ↓gsNil, Option.bind_some, ↓mC, ↓mVar, ↓mNil, ↓mCons, ↓mArgs, List.getElem?_cons_zero, List.getElem?_cons_succ, List.set_cons_zero, List.set_cons_succ, ↓ek_add, ↓ek_sub, ↓ek_neg, ↓ek_cmp, ↓ek_int, ↓ek_intb, ↓ek_abs, ↓ek_mul, ↓ek_fdiv, ↓ek_mod, ↓ek_pow, ↓ek_str, ↓ek_len, ↓ek_lenT, ↓ek_lst, ↓ek_tup, ↓ek_some, ↓ek_addL, ↓ek_addT, ↓ek_rep, ↓ek_tupl, ↓ek_slL, ↓mSl, ↓mNoP, ↓mPart, List.length_map, decide_eq_true_eq]
  have two : ∀ xs : List D, (d = .lst xs ∨ d = .tup xs) → R [.val d, .val (.int c), .val (.int z), .no] n = R [.val d, .val (.int c), .val (.int z), .no] n → ((xs.length : Int) = z) → R [.val d, .val (.int c), .val (.int z), .no] n := by
    intro xs hd _ hz
    refine hR _ _ ?_
    clear hR
    have he : elems d = xs := by rcases hd with rfl | rfl <;> rfl
    rw [he] at hx hl
    have hcomp : mLc (mIter (mVar 0)) (gfName 3) [3] mYes (mCall con_is_within (mCons (mVar 3) (mCons (mC (.int 0)) (mCons (mOp subD (mVar 1) (mC (.int 1))) mNil)))) noX [.val d, .val (.int c), .val (.int z), .no] n fun d' n' => optK (allD [d']) fun d => k d n' := by
      have body : mIter (mVar 0) noX [.val d, .val (.int c), .val (.int z), .no] n = fun q => q xs n := by rcases hd with rfl | rfl <;> rfl
      show mIter (mVar 0) noX _ n _
      rw [body]
      refine ⟨by omega, comp_map (fun x => .bl (isW x (.int 0) (.int (c - 1)))) n xs _ (fun x hm q hq => ?_) ?_⟩
      · show con_is_within noX [x, .int 0, .int (c - 1)] n _
        exact c_is_within (hx x hm) (.inr ⟨_, rfl⟩) (.inr ⟨_, rfl⟩) hq
      · have e : (xs.map fun x => D.bl (isW x (.int 0) (.int (c - 1)))) = (xs.map fun x => isW x (.int 0) (.int (c - 1))).map D.bl := by rw [List.map_map]; rfl
        show optK ((blsOf _).map _) _
        rw [e, bls_map]
        show k (.bl _) n
        rw [List.all_map]
        have e2 : rowB d c z = (xs.all fun x => isW x (.int 0) (.int (c - 1))) := by
          rcases hd with rfl | rfl <;> simp [rowB, hz]
        rw [e2] at hk
        exact hk
    exact hcomp
  cases d with
  | lst xs =>
    by_cases hz : (xs.length : Int) = z
    · have := two xs (.inl rfl) rfl hz
      have e : ((xs.length : Int) == z) = true := by simp [hz]
      show if (!((xs.length : Int) == z)) = true then _ else _
      rw [e]; exact this
    · have e : ((xs.length : Int) == z) = false := by simp [hz]
      show if (!((xs.length : Int) == z)) = true then _ else _
      rw [e]
      have e2 : rowB (.lst xs) c z = false := by simp [rowB, hz]
      rw [e2] at hk; exact hk
  | tup xs =>
    by_cases hz : (xs.length : Int) = z
    · have := two xs (.inr rfl) rfl hz
      have e : ((xs.length : Int) == z) = true := by simp [hz]
      show if (!((xs.length : Int) == z)) = true then _ else _
      rw [e]; exact this
    · have e : ((xs.length : Int) == z) = false := by simp [hz]
      show if (!((xs.length : Int) == z)) = true then _ else _
      rw [e]
      have e2 : rowB (.tup xs) c z = false := by simp [rowB, hz]
      rw [e2] at hk; exact hk
  | _ => first | (cases ht; done) | exact hk
theorem isC_int {c : D} (h : isC c = true) : ∃ a, c = .int a := by
  cases c <;> first | exact ⟨_, rfl⟩ | cases h
theorem isC_rng {a : Int} (h : isC (.int a) = true) : 3 ≤ a ∧ a ≤ 31 := by
  have h : (CL.any fun j => j == a) = true := h
  simp [CL] at h
  omega
theorem c_need_number {ε : XD} {d : D} {p : Str} {lo b : Int} {n : Nat} {k : DK} (h : Pl d) (h0 : isW d (.int lo) (.int b) = false → ε "BadNumber" [("part", .str p)] n) (h1 : isW d (.int lo) (.int b) = true → k .non n) : con_need_number ε [d, .str p, .int lo, .int b] n k := by
  refine ⟨rfl, ?_⟩
  show m_need_number ε [.val d, .val (.str p), .val (.int lo), .val (.int b)] n _
  unfold m_need_number
  repeat first | (with_reducible first | refine i_cons ?_ | refine i_nil ?_ | refine i_args ?_ | refine i_c ?_ | refine i_op ?_ | refine i_un ?_ | refine i_call ?_ | refine i_sl ?_ | refine i_noP ?_ | refine i_ret ?_ | refine i_asg ?_ | refine i_par ?_ | refine i_if ?_ | refine i_or ?_ | refine i_bl ?_ | refine i_ifE ?_ | refine i_tru ?_ | refine i_drop ?_ | refine i_not ?_ | refine i_and ?_ | refine o_add ?_ | refine o_sub ?_ | refine o_neg ?_ | refine o_tupl ?_ | refine o_slL ?_ | refine o_name ?_ | refine o_some ?_) | ((with_reducible apply i_var); exact rfl) | ((with_reducible apply i_partV); exact rfl) | ((with_reducible refine o_lst ?_ ?_); · exact rfl) | ((with_reducible refine o_tup ?_ ?_); · exact rfl)
  refine c_is_within h (.inr ⟨_, rfl⟩) (.inr ⟨_, rfl⟩) ?_
  rw [ek_truth]
  cases e : isW d (.int lo) (.int b) with
  | false => exact h0 e
  | true => exact h1 e
/-! inverses: of ten clocks, by trial -/
def rng (a : Int) : List Int := (List.range a.toNat).map Int.ofNat
def inv (a b : Int) : Int := ((rng a).find? fun f => b * f % a == 1).getD 0
def inv1 (a b : Int) : Bool := decide (0 < inv a b) && (decide (inv a b < a) && ((inv a (inv a b) == b) && ((b * inv a b % a == 1) && (((rng a).all fun f => !decide (f < inv a b) || !(b * f % a == 1)) &&
  ((((List.range (a - 1).toNat).map fun t => 1 + Int.ofNat t).filter fun f => b * f % a == 1) == [inv a b])))))
theorem inv_all : (CL.all fun a => (rng a).all fun b => b == 0 || inv1 a b) = true := by decide +kernel
theorem rng_mem {a b : Int} (h0 : 0 ≤ b) (h1 : b < a) : b ∈ rng a := by
  obtain ⟨m, rfl⟩ := Int.eq_ofNat_of_zero_le h0
  exact List.mem_map.mpr ⟨m, List.mem_range.mpr (by omega), rfl⟩
structure Inv1 (a b : Int) : Prop where
  p0 : 0 < inv a b
  p1 : inv a b < a
  p2 : inv a (inv a b) = b
  p3 : b * inv a b % a = 1
  p4 : ∀ f, 0 ≤ f → f < inv a b → b * f % a ≠ 1
  p5 : (((List.range (a - 1).toNat).map fun t => 1 + ((t : Nat) : Int)).filter fun f => b * f % a == 1) = [inv a b]
theorem isC_mem {a : Int} (h : isC (.int a) = true) : a ∈ CL := by
  have h : (CL.any fun j => j == a) = true := h
  obtain ⟨j, hj, e⟩ := List.any_eq_true.mp h
  rw [beq_iff_eq] at e
  exact e ▸ hj
theorem inv_ok {a b : Int} (ha : isC (.int a) = true) (h0 : 0 < b) (h1 : b < a) : Inv1 a b := by
  have h := List.all_eq_true.mp (List.all_eq_true.mp inv_all a (isC_mem ha)) b (rng_mem (by omega) h1)
  have hb : (b == 0) = false := by simp; omega
  rw [hb, Bool.false_or] at h
  unfold inv1 at h
  simp only [Bool.and_eq_true, decide_eq_true_eq, beq_iff_eq, List.all_eq_true, Bool.or_eq_true, Bool.not_eq_true', decide_eq_false_iff_not] at h
  obtain ⟨p0, p1, p2, p3, p4, p5⟩ := h
  refine ⟨p0, p1, p2, p3, fun f f0 f1 e => ?_, p5⟩
  rcases p4 f (rng_mem f0 (by omega)) with g | g
  · exact g f1
  · rw [e] at g; cases g
theorem c_inverse_in {ε : XD} {a b : Int} {n : Nat} {k : DK} (ha : isC (.int a) = true) (h0 : 0 < b) (h1 : b < a) (hk : k (.int (inv a b)) n) : con_inverse_in ε [.int a, .int b] n k := by
  have I := inv_ok ha h0 h1
  have hr := isC_rng ha
  refine ⟨rfl, ?_⟩
  show m_inverse_in noX [.val (.int a), .val (.int b), .no] n _
  unfold m_inverse_in
  refine seq_i fun R hR => ?_
  simp only [↓mSeq, ↓mIf, ↓mBl, ↓mOp, ↓mUn, ↓mTru, ↓mNot, ↓mAnd, ↓mOr, ↓mBox0, ↓mBox1, ↓mBox2, ↓mPut1, ↓mPut2, ↓mAsg, ↓mPar, ↓mRet, ↓mRetN, ↓mCall, ↓mCallK, ↓mAndV, ↓mOrV, ↓mNotV, ↓mUn1, ↓mChain, ↓mIfE, wipeE, ↓mDrop, ↓mNext, ↓mYes, ↓gfName, ↓gfTup, ↓gsCons, ↓gsNil, Option.bind_some, ↓mC, ↓mVar, ↓mNil, ↓mCons, ↓mArgs, List.getElem?_cons_zero, List.getElem?_cons_succ, List.set_cons_zero, List.set_cons_succ, ↓ek_add, ↓ek_sub, ↓ek_neg, ↓ek_cmp, ↓ek_int, ↓ek_intb, ↓ek_abs, ↓ek_mul, ↓ek_fdiv, ↓ek_mod, ↓ek_pow, ↓ek_str, ↓ek_len, ↓ek_lenT, ↓ek_lst, ↓ek_tup, ↓ek_some, ↓ek_addL, ↓ek_addT, ↓ek_rep, ↓ek_tupl, ↓ek_slL, ↓mSl, ↓mNoP, ↓mPart, List.length_map, decide_eq_true_eq]
  refine hR _ _ ?_
  clear hR
  refine seq_i fun R hR => ?_
  have loop : ∀ (i : Nat) (f : Int), f + i = inv a b → 1 ≤ f → whD (mBl (mOp neX (mOp modD (mOp mulD (mVar 1) (mVar 2)) (mVar 0)) (mC (.int 1)))) (mAsg (gfName 2) (mOp addD (mVar 2) (mC (.int 1)))) noX (i + 1) [.val (.int a), .val (.int b), .val (.int f)] n { nx := R, rt := k, bk := fun _ _ => False, ct := fun _ _ => False } := by
    intro i
    induction i with
    | zero =>
      intro f e _
      have e : f = inv a b := by omega
      subst e
      unfold whD
      simp only [↓mSeq, ↓mIf, ↓mBl, ↓mOp, ↓mUn, ↓mTru, ↓mNot, ↓mAnd, ↓mOr, ↓mBox0, ↓mBox1, ↓mBox2, ↓mPut1, ↓mPut2, ↓mAsg, ↓mPar, ↓mRet, ↓mRetN, ↓mCall, ↓mCallK, ↓mAndV, ↓mOrV, ↓mNotV, ↓mUn1, ↓mChain, ↓mIfE, wipeE, ↓mDrop, ↓mNext, ↓mYes, ↓gfName, ↓gfTup, ↓gsCons, ↓gsNil, Option.bind_some, ↓mC, ↓mVar, ↓mNil, ↓mCons, ↓mArgs, List.getElem?_cons_zero, List.getElem?_cons_succ, List.set_cons_zero, List.set_cons_succ, ↓ek_add, ↓ek_sub, ↓ek_neg, ↓ek_cmp, ↓ek_int, ↓ek_intb, ↓ek_abs, ↓ek_mul, ↓ek_fdiv, ↓ek_mod, ↓ek_pow, ↓ek_str, ↓ek_len, ↓ek_lenT, ↓ek_lst, ↓ek_tup, ↓ek_some, ↓ek_addL, ↓ek_addT, ↓ek_rep, ↓ek_tupl, ↓ek_slL, ↓mSl, ↓mNoP, ↓mPart, List.length_map, decide_eq_true_eq]
      refine ⟨.inl ⟨by omega, by omega⟩, by omega, ?_⟩
      rw [I.p3]
      refine hR _ _ ?_
      simp only [↓mSeq, ↓mIf, ↓mBl, ↓mOp, ↓mUn, ↓mTru, ↓mNot, ↓mAnd, ↓mOr, ↓mBox0, ↓mBox1, ↓mBox2, ↓mPut1, ↓mPut2, ↓mAsg, ↓mPar, ↓mRet, ↓mRetN, ↓mCall, ↓mCallK, ↓mAndV, ↓mOrV, ↓mNotV, ↓mUn1, ↓mChain, ↓mIfE, wipeE, ↓mDrop, ↓mNext, ↓mYes, ↓gfName, ↓gfTup, ↓gsCons, ↓gsNil, Option.bind_some, ↓mC, ↓mVar, ↓mNil, ↓mCons, ↓mArgs, List.getElem?_cons_zero, List.getElem?_cons_succ, List.set_cons_zero, List.set_cons_succ, ↓ek_add, ↓ek_sub, ↓ek_neg, ↓ek_cmp, ↓ek_int, ↓ek_intb, ↓ek_abs, ↓ek_mul, ↓ek_fdiv, ↓ek_mod, ↓ek_pow, ↓ek_str, ↓ek_len, ↓ek_lenT, ↓ek_lst, ↓ek_tup, ↓ek_some, ↓ek_addL, ↓ek_addT, ↓ek_rep, ↓ek_tupl, ↓ek_slL, ↓mSl, ↓mNoP, ↓mPart, List.length_map, decide_eq_true_eq]
      exact hk
    | succ i ih =>
      intro f e f1
      unfold whD
      simp only [↓mSeq, ↓mIf, ↓mBl, ↓mOp, ↓mUn, ↓mTru, ↓mNot, ↓mAnd, ↓mOr, ↓mBox0, ↓mBox1, ↓mBox2, ↓mPut1, ↓mPut2, ↓mAsg, ↓mPar, ↓mRet, ↓mRetN, ↓mCall, ↓mCallK, ↓mAndV, ↓mOrV, ↓mNotV, ↓mUn1, ↓mChain, ↓mIfE, wipeE, ↓mDrop, ↓mNext, ↓mYes, ↓gfName, ↓gfTup, ↓gsCons, ↓gsNil, Option.bind_some, ↓mC, ↓mVar, ↓mNil, ↓mCons, ↓mArgs, List.getElem?_cons_zero, List.getElem?_cons_succ, List.set_cons_zero, List.set_cons_succ, ↓ek_add, ↓ek_sub, ↓ek_neg, ↓ek_cmp, ↓ek_int, ↓ek_intb, ↓ek_abs, ↓ek_mul, ↓ek_fdiv, ↓ek_mod, ↓ek_pow, ↓ek_str, ↓ek_len, ↓ek_lenT, ↓ek_lst, ↓ek_tup, ↓ek_some, ↓ek_addL, ↓ek_addT, ↓ek_rep, ↓ek_tupl, ↓ek_slL, ↓mSl, ↓mNoP, ↓mPart, List.length_map, decide_eq_true_eq]
      refine ⟨.inl ⟨by omega, by omega⟩, by omega, ?_⟩
      have z := I.p4 f (by omega) (by omega)
      show if (!(b * f % a == 1)) = true then _ else _
      have z2 : (b * f % a == 1) = false := by simp [z]
      rw [z2, if_pos (by decide)]
      exact ih (f + 1) (by omega) (by omega)
  have p0 := I.p0
  exact ⟨_, loop (inv a b - 1).toNat 1 (by omega) (by omega)⟩
theorem ints_of {p : Int → Prop} : ∀ xs : List D, (∀ x ∈ xs, ∃ i, x = .int i ∧ p i) → ∃ is : List Int, xs = is.map D.int ∧ ∀ i ∈ is, p i
  | [], _ => ⟨[], rfl, fun _ h => nomatch h⟩
  | x :: xs, h => by
    obtain ⟨i, rfl, hi⟩ := h x List.mem_cons_self
    obtain ⟨is, rfl, hs⟩ := ints_of xs fun y hy => h y (List.mem_cons_of_mem _ hy)
    refine ⟨i :: is, rfl, fun j hj => ?_⟩
    rcases List.mem_cons.mp hj with rfl | hj
    · exact hi
    · exact hs j hj
theorem isW_int {d : D} {a b : Int} (h : isW d (.int a) (.int b) = true) : ∃ i, d = .int i ∧ a ≤ i ∧ i ≤ b := by
  cases d with
  | int i =>
    have h : (decide (a ≤ i) && decide (i ≤ b)) = true := h
    simp only [Bool.and_eq_true, decide_eq_true_eq] at h
    exact ⟨i, rfl, h⟩
  | _ => cases h
/-! spaces -/
def isSeq : D → Bool
  | .lst _ => true
  | .tup _ => true
  | _ => false
theorem comp_map (g : D → D) (n : Nat) {st : D → Nat → (Option D → Nat → Prop) → Prop} : ∀ (xs : List D) (k : List D → Nat → Prop), (∀ x ∈ xs, ∀ k : Option D → Nat → Prop, k (some (g x)) n → st x n k) → k (xs.map g) n → compD st xs n k
  | [], k, _, h => h
  | x :: xs, k, hs, h => hs x List.mem_cons_self _ (comp_map g n xs _ (fun y hy => hs y (List.mem_cons_of_mem _ hy)) h)
def eP (p : Nat × List Int) : D := .tup [.int p.1, eT p.2]
def ldD (xs : List Int) : D := match LA.leadOf xs with
  | none => .non
  | some l => .int (l : Nat)
theorem iv_inv {a : Int} (ha : isC (.int a) = true) : LA.Iv a (inv a) := fun b h0 h1 => by rw [Int.mul_comm]; exact (inv_ok ha h0 h1).p3
theorem for_lead {R : Ev → Nat → Prop} {k : DK} {n : Nat} {d0 : D} : ∀ (xs : List Int) (s : Nat) (a1 a2 : Sl), (LA.leadOf xs = none → ∀ b1 b2, R [.val d0, b1, b2] n) → (∀ l, LA.leadOf xs = some l → k (.int ((s + l : Nat) : Int)) n) →
    forD (fun d ρ n P => optK (gfTup (gsCons (gfName 1) (gsCons (gfName 2) (gsNil))) d ρ) fun ρ' => (mIf (mBl (mOp neX (mVar 2) (mC (.int 0)))) (mRet (mVar 1)) (mNext)) noX ρ' n P) ((xs.zipIdx s).map fun p => D.tup [.int (p.2 : Nat), .int p.1]) [.val d0, a1, a2] n { nx := R, rt := k, bk := fun _ _ => False, ct := fun _ _ => False }
  | [], s, a1, a2, h, _ => for_nil (h rfl _ _)
  | x :: xs, s, a1, a2, h, g => by
    rw [List.zipIdx_cons, List.map_cons]
    refine for_i fun R2 hR2 => ?_
    refine o_tg2 ?_
    repeat first | (with_reducible first | refine i_cons ?_ | refine i_nil ?_ | refine i_args ?_ | refine i_c ?_ | refine i_op ?_ | refine i_un ?_ | refine i_call ?_ | refine i_sl ?_ | refine i_noP ?_ | refine i_ret ?_ | refine i_asg ?_ | refine i_par ?_ | refine i_if ?_ | refine i_or ?_ | refine i_bl ?_ | refine i_ifE ?_ | refine i_tru ?_ | refine i_drop ?_ | refine i_not ?_ | refine i_and ?_ | refine o_add ?_ | refine o_sub ?_ | refine o_neg ?_ | refine o_tupl ?_ | refine o_slL ?_ | refine o_name ?_ | refine o_some ?_ | refine i_seq ?_ | refine i_next ?_ | refine i_retN ?_ | refine i_callV ?_ | refine i_parO ?_ | refine o_setK0 ?_ | refine i_eqI ?_ | refine i_par3 ?_ | refine i_notV ?_ | refine i_andV ?_ | refine i_orV ?_ | refine i_un1 ?_ | refine i_dict0 ?_ | refine i_partA ?_ | refine o_len ?_ | refine o_lenT ?_ | refine o_int ?_ | refine o_cmp ?_ | refine o_eqX ?_ | refine o_neX ?_ | refine o_list ?_ | refine o_tupT ?_ | refine o_truth ?_ | refine o_tg2 ?_) | ((with_reducible apply i_var); exact rfl) | ((with_reducible apply i_partV); exact rfl) | ((with_reducible refine o_lst ?_ ?_); · exact rfl) | ((with_reducible refine o_tup ?_ ?_); · exact rfl) | ((with_reducible refine o_mul ?_ ?_); · (first | exact .inl ⟨by omega, by omega⟩ | exact .inr ⟨by omega, by omega⟩)) | ((with_reducible refine o_mod ?_ ?_); · omega) | ((with_reducible refine o_fdiv ?_ ?_); · exact ⟨by omega, by omega⟩)
    by_cases hx : x = 0
    · refine ite_F (by simp [hx]) ?_
      refine i_next ?_
      refine hR2 _ _ (for_lead xs (s + 1) _ _ (fun z => h (by simp [LA.leadOf, hx, z])) fun l e => ?_)
      have := g (l + 1) (by simp [LA.leadOf, hx, e])
      rwa [show s + (l + 1) = s + 1 + l by omega] at this
    · refine ite_T (by simp [hx]) ?_
      repeat first | (with_reducible first | refine i_cons ?_ | refine i_nil ?_ | refine i_args ?_ | refine i_c ?_ | refine i_op ?_ | refine i_un ?_ | refine i_call ?_ | refine i_sl ?_ | refine i_noP ?_ | refine i_ret ?_ | refine i_asg ?_ | refine i_par ?_ | refine i_if ?_ | refine i_or ?_ | refine i_bl ?_ | refine i_ifE ?_ | refine i_tru ?_ | refine i_drop ?_ | refine i_not ?_ | refine i_and ?_ | refine o_add ?_ | refine o_sub ?_ | refine o_neg ?_ | refine o_tupl ?_ | refine o_slL ?_ | refine o_name ?_ | refine o_some ?_ | refine i_seq ?_ | refine i_next ?_ | refine i_retN ?_ | refine i_callV ?_ | refine i_parO ?_ | refine o_setK0 ?_ | refine i_eqI ?_ | refine i_par3 ?_ | refine i_notV ?_ | refine i_andV ?_ | refine i_orV ?_ | refine i_un1 ?_ | refine i_dict0 ?_ | refine i_partA ?_ | refine o_len ?_ | refine o_lenT ?_ | refine o_int ?_ | refine o_cmp ?_ | refine o_eqX ?_ | refine o_neX ?_ | refine o_list ?_ | refine o_tupT ?_ | refine o_truth ?_ | refine o_tg2 ?_) | ((with_reducible apply i_var); exact rfl) | ((with_reducible apply i_partV); exact rfl) | ((with_reducible refine o_lst ?_ ?_); · exact rfl) | ((with_reducible refine o_tup ?_ ?_); · exact rfl) | ((with_reducible refine o_mul ?_ ?_); · (first | exact .inl ⟨by omega, by omega⟩ | exact .inr ⟨by omega, by omega⟩)) | ((with_reducible refine o_mod ?_ ?_); · omega) | ((with_reducible refine o_fdiv ?_ ?_); · exact ⟨by omega, by omega⟩)
      exact g 0 (by simp [LA.leadOf, hx])
theorem c_lead_of {ε : XD} {xs : List Int} {n : Nat} {k : DK} (h : k (ldD xs) n) : con_lead_of ε [eT xs] n k := by
  refine ⟨rfl, ?_⟩
  show m_lead_of noX [.val (eT xs), .no, .no] n _
  unfold m_lead_of
  refine seq_i fun R hR => ?_
  refine i_for ?_
  show forD _ (enumD (xs.map D.int)) _ _ _
  rw [enum_enc]
  refine for_lead xs 0 _ _ (fun z b1 b2 => hR _ _ ?_) fun l e => ?_
  · repeat first | (with_reducible first | refine i_cons ?_ | refine i_nil ?_ | refine i_args ?_ | refine i_c ?_ | refine i_op ?_ | refine i_un ?_ | refine i_call ?_ | refine i_sl ?_ | refine i_noP ?_ | refine i_ret ?_ | refine i_asg ?_ | refine i_par ?_ | refine i_if ?_ | refine i_or ?_ | refine i_bl ?_ | refine i_ifE ?_ | refine i_tru ?_ | refine i_drop ?_ | refine i_not ?_ | refine i_and ?_ | refine o_add ?_ | refine o_sub ?_ | refine o_neg ?_ | refine o_tupl ?_ | refine o_slL ?_ | refine o_name ?_ | refine o_some ?_ | refine i_seq ?_ | refine i_next ?_ | refine i_retN ?_ | refine i_callV ?_ | refine i_parO ?_ | refine o_setK0 ?_ | refine i_eqI ?_ | refine i_par3 ?_ | refine i_notV ?_ | refine i_andV ?_ | refine i_orV ?_ | refine i_un1 ?_ | refine i_dict0 ?_ | refine i_partA ?_ | refine o_len ?_ | refine o_lenT ?_ | refine o_int ?_ | refine o_cmp ?_ | refine o_eqX ?_ | refine o_neX ?_ | refine o_list ?_ | refine o_tupT ?_ | refine o_truth ?_ | refine o_tg2 ?_) | ((with_reducible apply i_var); exact rfl) | ((with_reducible apply i_partV); exact rfl) | ((with_reducible refine o_lst ?_ ?_); · exact rfl) | ((with_reducible refine o_tup ?_ ?_); · exact rfl) | ((with_reducible refine o_mul ?_ ?_); · (first | exact .inl ⟨by omega, by omega⟩ | exact .inr ⟨by omega, by omega⟩)) | ((with_reducible refine o_mod ?_ ?_); · omega) | ((with_reducible refine o_fdiv ?_ ?_); · exact ⟨by omega, by omega⟩)
    unfold ldD at h; rw [z] at h; exact h
  · unfold ldD at h; rw [e] at h; rw [Nat.zero_add]; exact h
theorem zip_ax {a c : Int} : ∀ {xs ys : List Int}, (xs.zip ys).map (fun p => D.int ((p.1 - c * p.2) % a)) = (LA.ax a (-c) ys xs).map D.int
  | [], _ => by simp [LA.ax]
  | _ :: _, [] => by simp [LA.ax]
  | x :: xs, y :: ys => by
    have := zip_ax (a := a) (c := c) (xs := xs) (ys := ys)
    unfold LA.ax at this ⊢
    rw [List.zip_cons_cons, List.map_cons, this, List.zipWith_cons_cons, List.map_cons, Int.neg_mul]; rfl
theorem c_cleared {ε : XD} {a : Int} {z : Nat} {xs ys : List Int} {m : Nat} {n : Nat} {k : DK} (ha : 0 < a ∧ a ≤ 31) (hx : LA.Ro a z xs) (hy : LA.Ro a z ys) (hm : m < z) (hz : z ≤ 1000) (hk : k (eT (LA.ax a (-(LA.gt xs m)) ys xs)) n) :
    con_cleared ε [.int a, eT xs, eT ys, .int m] n k := by
  refine ⟨rfl, ?_⟩
  show m_cleared noX [.val (.int a), .val (eT xs), .val (eT ys), .val (.int m), .no, .no, .no] n _
  unfold m_cleared
  have hl : m < xs.length := by rw [hx.1]; exact hm
  have hb := hx.bd hm
  repeat first | (with_reducible first | refine i_cons ?_ | refine i_nil ?_ | refine i_args ?_ | refine i_c ?_ | refine i_op ?_ | refine i_un ?_ | refine i_call ?_ | refine i_sl ?_ | refine i_noP ?_ | refine i_ret ?_ | refine i_asg ?_ | refine i_par ?_ | refine i_if ?_ | refine i_or ?_ | refine i_bl ?_ | refine i_ifE ?_ | refine i_tru ?_ | refine i_drop ?_ | refine i_not ?_ | refine i_and ?_ | refine o_add ?_ | refine o_sub ?_ | refine o_neg ?_ | refine o_tupl ?_ | refine o_slL ?_ | refine o_name ?_ | refine o_some ?_ | refine i_seq ?_ | refine i_next ?_ | refine i_retN ?_ | refine i_callV ?_ | refine i_parO ?_ | refine o_setK0 ?_ | refine i_eqI ?_ | refine i_par3 ?_ | refine i_notV ?_ | refine i_andV ?_ | refine i_orV ?_ | refine i_un1 ?_ | refine i_dict0 ?_ | refine i_partA ?_ | refine o_len ?_ | refine o_lenT ?_ | refine o_int ?_ | refine o_cmp ?_ | refine o_eqX ?_ | refine o_neX ?_ | refine o_list ?_ | refine o_tupT ?_ | refine o_truth ?_ | refine o_tg2 ?_) | ((with_reducible apply i_var); exact rfl) | ((with_reducible apply i_partV); exact rfl) | ((with_reducible refine o_lst ?_ ?_); · exact rfl) | ((with_reducible refine o_tup ?_ ?_); · exact rfl) | ((with_reducible refine o_mul ?_ ?_); · (first | exact .inl ⟨by omega, by omega⟩ | exact .inr ⟨by omega, by omega⟩)) | ((with_reducible refine o_mod ?_ ?_); · omega) | ((with_reducible refine o_fdiv ?_ ?_); · exact ⟨by omega, by omega⟩)
  rw [ix_iT hl]
  repeat first | (with_reducible first | refine i_cons ?_ | refine i_nil ?_ | refine i_args ?_ | refine i_c ?_ | refine i_op ?_ | refine i_un ?_ | refine i_call ?_ | refine i_sl ?_ | refine i_noP ?_ | refine i_ret ?_ | refine i_asg ?_ | refine i_par ?_ | refine i_if ?_ | refine i_or ?_ | refine i_bl ?_ | refine i_ifE ?_ | refine i_tru ?_ | refine i_drop ?_ | refine i_not ?_ | refine i_and ?_ | refine o_add ?_ | refine o_sub ?_ | refine o_neg ?_ | refine o_tupl ?_ | refine o_slL ?_ | refine o_name ?_ | refine o_some ?_ | refine i_seq ?_ | refine i_next ?_ | refine i_retN ?_ | refine i_callV ?_ | refine i_parO ?_ | refine o_setK0 ?_ | refine i_eqI ?_ | refine i_par3 ?_ | refine i_notV ?_ | refine i_andV ?_ | refine i_orV ?_ | refine i_un1 ?_ | refine i_dict0 ?_ | refine i_partA ?_ | refine o_len ?_ | refine o_lenT ?_ | refine o_int ?_ | refine o_cmp ?_ | refine o_eqX ?_ | refine o_neX ?_ | refine o_list ?_ | refine o_tupT ?_ | refine o_truth ?_ | refine o_tg2 ?_) | ((with_reducible apply i_var); exact rfl) | ((with_reducible apply i_partV); exact rfl) | ((with_reducible refine o_lst ?_ ?_); · exact rfl) | ((with_reducible refine o_tup ?_ ?_); · exact rfl) | ((with_reducible refine o_mul ?_ ?_); · (first | exact .inl ⟨by omega, by omega⟩ | exact .inr ⟨by omega, by omega⟩)) | ((with_reducible refine o_mod ?_ ?_); · omega) | ((with_reducible refine o_fdiv ?_ ?_); · exact ⟨by omega, by omega⟩)
  by_cases h0 : LA.gt xs m = 0
  · refine ite_T (by simp [h0]) ?_
    repeat first | (with_reducible first | refine i_cons ?_ | refine i_nil ?_ | refine i_args ?_ | refine i_c ?_ | refine i_op ?_ | refine i_un ?_ | refine i_call ?_ | refine i_sl ?_ | refine i_noP ?_ | refine i_ret ?_ | refine i_asg ?_ | refine i_par ?_ | refine i_if ?_ | refine i_or ?_ | refine i_bl ?_ | refine i_ifE ?_ | refine i_tru ?_ | refine i_drop ?_ | refine i_not ?_ | refine i_and ?_ | refine o_add ?_ | refine o_sub ?_ | refine o_neg ?_ | refine o_tupl ?_ | refine o_slL ?_ | refine o_name ?_ | refine o_some ?_ | refine i_seq ?_ | refine i_next ?_ | refine i_retN ?_ | refine i_callV ?_ | refine i_parO ?_ | refine o_setK0 ?_ | refine i_eqI ?_ | refine i_par3 ?_ | refine i_notV ?_ | refine i_andV ?_ | refine i_orV ?_ | refine i_un1 ?_ | refine i_dict0 ?_ | refine i_partA ?_ | refine o_len ?_ | refine o_lenT ?_ | refine o_int ?_ | refine o_cmp ?_ | refine o_eqX ?_ | refine o_neX ?_ | refine o_list ?_ | refine o_tupT ?_ | refine o_truth ?_ | refine o_tg2 ?_) | ((with_reducible apply i_var); exact rfl) | ((with_reducible apply i_partV); exact rfl) | ((with_reducible refine o_lst ?_ ?_); · exact rfl) | ((with_reducible refine o_tup ?_ ?_); · exact rfl) | ((with_reducible refine o_mul ?_ ?_); · (first | exact .inl ⟨by omega, by omega⟩ | exact .inr ⟨by omega, by omega⟩)) | ((with_reducible refine o_mod ?_ ?_); · omega) | ((with_reducible refine o_fdiv ?_ ?_); · exact ⟨by omega, by omega⟩)
    rw [h0, Int.neg_zero, LA.ax_zero hx hy.1] at hk
    exact hk
  · refine ite_F (by simp [h0]) ?_
    refine i_args (i_cons (i_lc ?_))
    show (List.zipWith (fun a b => D.tup [a, b]) (xs.map D.int) (ys.map D.int)).length ≤ 1000000 ∧ _
    rw [zip_enc]
    refine ⟨by rw [List.length_map, List.length_zip, hx.1, hy.1]; omega, comp_A (g := fun p => .int ((p.1 - LA.gt xs m * p.2) % a)) (fun p hp q hq => ?_) ?_⟩
    · refine o_tg2 (i_yes ?_)
      repeat first | (with_reducible first | refine i_cons ?_ | refine i_nil ?_ | refine i_args ?_ | refine i_c ?_ | refine i_op ?_ | refine i_un ?_ | refine i_call ?_ | refine i_sl ?_ | refine i_noP ?_ | refine i_ret ?_ | refine i_asg ?_ | refine i_par ?_ | refine i_if ?_ | refine i_or ?_ | refine i_bl ?_ | refine i_ifE ?_ | refine i_tru ?_ | refine i_drop ?_ | refine i_not ?_ | refine i_and ?_ | refine o_add ?_ | refine o_sub ?_ | refine o_neg ?_ | refine o_tupl ?_ | refine o_slL ?_ | refine o_name ?_ | refine o_some ?_ | refine i_seq ?_ | refine i_next ?_ | refine i_retN ?_ | refine i_callV ?_ | refine i_parO ?_ | refine o_setK0 ?_ | refine i_eqI ?_ | refine i_par3 ?_ | refine i_notV ?_ | refine i_andV ?_ | refine i_orV ?_ | refine i_un1 ?_ | refine i_dict0 ?_ | refine i_partA ?_ | refine o_len ?_ | refine o_lenT ?_ | refine o_int ?_ | refine o_cmp ?_ | refine o_eqX ?_ | refine o_neX ?_ | refine o_list ?_ | refine o_tupT ?_ | refine o_truth ?_ | refine o_tg2 ?_) | ((with_reducible apply i_var); exact rfl) | ((with_reducible apply i_partV); exact rfl) | ((with_reducible refine o_lst ?_ ?_); · exact rfl) | ((with_reducible refine o_tup ?_ ?_); · exact rfl) | ((with_reducible refine o_mul ?_ ?_); · (first | exact .inl ⟨by omega, by omega⟩ | exact .inr ⟨by omega, by omega⟩)) | ((with_reducible refine o_mod ?_ ?_); · omega) | ((with_reducible refine o_fdiv ?_ ?_); · exact ⟨by omega, by omega⟩)
      exact hq
    · repeat first | (with_reducible first | refine i_cons ?_ | refine i_nil ?_ | refine i_args ?_ | refine i_c ?_ | refine i_op ?_ | refine i_un ?_ | refine i_call ?_ | refine i_sl ?_ | refine i_noP ?_ | refine i_ret ?_ | refine i_asg ?_ | refine i_par ?_ | refine i_if ?_ | refine i_or ?_ | refine i_bl ?_ | refine i_ifE ?_ | refine i_tru ?_ | refine i_drop ?_ | refine i_not ?_ | refine i_and ?_ | refine o_add ?_ | refine o_sub ?_ | refine o_neg ?_ | refine o_tupl ?_ | refine o_slL ?_ | refine o_name ?_ | refine o_some ?_ | refine i_seq ?_ | refine i_next ?_ | refine i_retN ?_ | refine i_callV ?_ | refine i_parO ?_ | refine o_setK0 ?_ | refine i_eqI ?_ | refine i_par3 ?_ | refine i_notV ?_ | refine i_andV ?_ | refine i_orV ?_ | refine i_un1 ?_ | refine i_dict0 ?_ | refine i_partA ?_ | refine o_len ?_ | refine o_lenT ?_ | refine o_int ?_ | refine o_cmp ?_ | refine o_eqX ?_ | refine o_neX ?_ | refine o_list ?_ | refine o_tupT ?_ | refine o_truth ?_ | refine o_tg2 ?_) | ((with_reducible apply i_var); exact rfl) | ((with_reducible apply i_partV); exact rfl) | ((with_reducible refine o_lst ?_ ?_); · exact rfl) | ((with_reducible refine o_tup ?_ ?_); · exact rfl) | ((with_reducible refine o_mul ?_ ?_); · (first | exact .inl ⟨by omega, by omega⟩ | exact .inr ⟨by omega, by omega⟩)) | ((with_reducible refine o_mod ?_ ?_); · omega) | ((with_reducible refine o_fdiv ?_ ?_); · exact ⟨by omega, by omega⟩)
      rw [zip_ax]
      exact hk
theorem for_cby {P : Pn} {a : Int} {z : Nat} {n : Nat} {d2 : D} (ha : 0 < a ∧ a ≤ 31) (hz : z ≤ 1000) : ∀ (f : LA.Fm) (v : List Int) (a3 a4 : Sl), (∀ p ∈ f, p.1 < z ∧ LA.Ro a z p.2) → LA.Ro a z v → (∀ b3 b4, P.nx [.val (.int a), .val (eT (LA.cby a v f)), .val d2, b3, b4] n) →
    forD (fun d ρ n P => optK (gfTup (gsCons (gfName 3) (gsCons (gfName 4) (gsNil))) d ρ) fun ρ' => (mAsg (gfName 1) (mCall con_cleared (mCons (mVar 0) (mCons (mVar 1) (mCons (mVar 4) (mCons (mVar 3) (mNil))))))) noX ρ' n P) (f.map eP) [.val (.int a), .val (eT v), .val d2, a3, a4] n P
  | [], v, a3, a4, _, _, h => for_nil (h _ _)
  | p :: f, v, a3, a4, hf, hv, h => by
    obtain ⟨p1, p2⟩ := hf p List.mem_cons_self
    rw [List.map_cons]
    refine for_i fun R hR => ?_
    refine o_tg2 ?_
    repeat first | (with_reducible first | refine i_cons ?_ | refine i_nil ?_ | refine i_args ?_ | refine i_c ?_ | refine i_op ?_ | refine i_un ?_ | refine i_call ?_ | refine i_sl ?_ | refine i_noP ?_ | refine i_ret ?_ | refine i_asg ?_ | refine i_par ?_ | refine i_if ?_ | refine i_or ?_ | refine i_bl ?_ | refine i_ifE ?_ | refine i_tru ?_ | refine i_drop ?_ | refine i_not ?_ | refine i_and ?_ | refine o_add ?_ | refine o_sub ?_ | refine o_neg ?_ | refine o_tupl ?_ | refine o_slL ?_ | refine o_name ?_ | refine o_some ?_ | refine i_seq ?_ | refine i_next ?_ | refine i_retN ?_ | refine i_callV ?_ | refine i_parO ?_ | refine o_setK0 ?_ | refine i_eqI ?_ | refine i_par3 ?_ | refine i_notV ?_ | refine i_andV ?_ | refine i_orV ?_ | refine i_un1 ?_ | refine i_dict0 ?_ | refine i_partA ?_ | refine o_len ?_ | refine o_lenT ?_ | refine o_int ?_ | refine o_cmp ?_ | refine o_eqX ?_ | refine o_neX ?_ | refine o_list ?_ | refine o_tupT ?_ | refine o_truth ?_ | refine o_tg2 ?_) | ((with_reducible apply i_var); exact rfl) | ((with_reducible apply i_partV); exact rfl) | ((with_reducible refine o_lst ?_ ?_); · exact rfl) | ((with_reducible refine o_tup ?_ ?_); · exact rfl) | ((with_reducible refine o_mul ?_ ?_); · (first | exact .inl ⟨by omega, by omega⟩ | exact .inr ⟨by omega, by omega⟩)) | ((with_reducible refine o_mod ?_ ?_); · omega) | ((with_reducible refine o_fdiv ?_ ?_); · exact ⟨by omega, by omega⟩)
    refine c_cleared ha hv p2 p1 hz ?_
    repeat first | (with_reducible first | refine i_cons ?_ | refine i_nil ?_ | refine i_args ?_ | refine i_c ?_ | refine i_op ?_ | refine i_un ?_ | refine i_call ?_ | refine i_sl ?_ | refine i_noP ?_ | refine i_ret ?_ | refine i_asg ?_ | refine i_par ?_ | refine i_if ?_ | refine i_or ?_ | refine i_bl ?_ | refine i_ifE ?_ | refine i_tru ?_ | refine i_drop ?_ | refine i_not ?_ | refine i_and ?_ | refine o_add ?_ | refine o_sub ?_ | refine o_neg ?_ | refine o_tupl ?_ | refine o_slL ?_ | refine o_name ?_ | refine o_some ?_ | refine i_seq ?_ | refine i_next ?_ | refine i_retN ?_ | refine i_callV ?_ | refine i_parO ?_ | refine o_setK0 ?_ | refine i_eqI ?_ | refine i_par3 ?_ | refine i_notV ?_ | refine i_andV ?_ | refine i_orV ?_ | refine i_un1 ?_ | refine i_dict0 ?_ | refine i_partA ?_ | refine o_len ?_ | refine o_lenT ?_ | refine o_int ?_ | refine o_cmp ?_ | refine o_eqX ?_ | refine o_neX ?_ | refine o_list ?_ | refine o_tupT ?_ | refine o_truth ?_ | refine o_tg2 ?_) | ((with_reducible apply i_var); exact rfl) | ((with_reducible apply i_partV); exact rfl) | ((with_reducible refine o_lst ?_ ?_); · exact rfl) | ((with_reducible refine o_tup ?_ ?_); · exact rfl) | ((with_reducible refine o_mul ?_ ?_); · (first | exact .inl ⟨by omega, by omega⟩ | exact .inr ⟨by omega, by omega⟩)) | ((with_reducible refine o_mod ?_ ?_); · omega) | ((with_reducible refine o_fdiv ?_ ?_); · exact ⟨by omega, by omega⟩)
    refine hR _ _ ?_
    exact for_cby ha hz f (LA.ax a (-(LA.gt v p.1)) p.2 v) _ _ (fun q hq => hf q (List.mem_cons_of_mem _ hq)) (LA.ro_ax ha.1 hv.1 p2.1) h
theorem c_cleared_by {ε : XD} {a : Int} {z : Nat} {v : List Int} {f : LA.Fm} {n : Nat} {k : DK} (ha : 0 < a ∧ a ≤ 31) (hz : z ≤ 1000) (hf : ∀ p ∈ f, p.1 < z ∧ LA.Ro a z p.2) (hv : LA.Ro a z v) (hk : k (eT (LA.cby a v f)) n) :
    con_cleared_by ε [.int a, eT v, .lst (f.map eP)] n k := by
  refine ⟨rfl, ?_⟩
  show m_cleared_by noX [.val (.int a), .val (eT v), .val (.lst (f.map eP)), .no, .no] n _
  unfold m_cleared_by
  refine i_seq (i_for (i_iterL rfl (for_cby ha hz f v _ _ hf hv fun b3 b4 => ?_)))
  repeat first | (with_reducible first | refine i_cons ?_ | refine i_nil ?_ | refine i_args ?_ | refine i_c ?_ | refine i_op ?_ | refine i_un ?_ | refine i_call ?_ | refine i_sl ?_ | refine i_noP ?_ | refine i_ret ?_ | refine i_asg ?_ | refine i_par ?_ | refine i_if ?_ | refine i_or ?_ | refine i_bl ?_ | refine i_ifE ?_ | refine i_tru ?_ | refine i_drop ?_ | refine i_not ?_ | refine i_and ?_ | refine o_add ?_ | refine o_sub ?_ | refine o_neg ?_ | refine o_tupl ?_ | refine o_slL ?_ | refine o_name ?_ | refine o_some ?_ | refine i_seq ?_ | refine i_next ?_ | refine i_retN ?_ | refine i_callV ?_ | refine i_parO ?_ | refine o_setK0 ?_ | refine i_eqI ?_ | refine i_par3 ?_ | refine i_notV ?_ | refine i_andV ?_ | refine i_orV ?_ | refine i_un1 ?_ | refine i_dict0 ?_ | refine i_partA ?_ | refine o_len ?_ | refine o_lenT ?_ | refine o_int ?_ | refine o_cmp ?_ | refine o_eqX ?_ | refine o_neX ?_ | refine o_list ?_ | refine o_tupT ?_ | refine o_truth ?_ | refine o_tg2 ?_) | ((with_reducible apply i_var); exact rfl) | ((with_reducible apply i_partV); exact rfl) | ((with_reducible refine o_lst ?_ ?_); · exact rfl) | ((with_reducible refine o_tup ?_ ?_); · exact rfl) | ((with_reducible refine o_mul ?_ ?_); · (first | exact .inl ⟨by omega, by omega⟩ | exact .inr ⟨by omega, by omega⟩)) | ((with_reducible refine o_mod ?_ ?_); · omega) | ((with_reducible refine o_fdiv ?_ ?_); · exact ⟨by omega, by omega⟩)
  exact hk
theorem i_sort {ma : ME} {ε : XD} {ρ : Ev} {n : Nat} {k : DK} (h : ma ε ρ n fun d n1 => match d with | .lst xs => ∃ ks, headsD xs = some ks ∧ ks.Nodup ∧ ∀ (ys : List D) (js : List Int), (ys.zip js).Perm (xs.zip ks) → ys.length = js.length → js.Pairwise (· ≤ ·) → k (.lst ys) n1 | _ => False) : mSort ma ε ρ n k := h
theorem i_star {ma : ME} {mr : MA} {ε : XD} {ρ : Ev} {n : Nat} {q : List D → Nat → Prop} (h : ma ε ρ n fun d n1 => match d with | .lst xs => mr ε ρ n1 fun ds n2 => q (xs ++ ds) n2 | .tup xs => mr ε ρ n1 fun ds n2 => q (xs ++ ds) n2 | _ => False) : mStar ma mr ε ρ n q := h
theorem sort_uniq : ∀ {us vs : List (D × Int)}, us.Perm vs → us.Pairwise (fun p q => p.2 ≤ q.2) → vs.Pairwise (fun p q => p.2 < q.2) → us = vs
  | [], vs, h, _, _ => (List.nil_perm.mp h).symm
  | u :: us, vs, h, hu, hv => by
    cases vs with
    | nil => exact absurd (List.perm_nil.mp h) (fun h => nomatch h)
    | cons v vs =>
      rw [List.pairwise_cons] at hu hv
      have e : u = v := by
        rcases List.mem_cons.mp (h.mem_iff.mp List.mem_cons_self) with e | e
        · exact e
        · rcases List.mem_cons.mp (h.mem_iff.mpr List.mem_cons_self) with e' | e'
          · exact e'.symm
          · have := hv.1 _ e; have := hu.1 _ e'; omega
      subst e
      rw [sort_uniq (List.Perm.cons_inv h) hu.2 hv.2]
theorem heads_eP : ∀ f : LA.Fm, headsD (f.map eP) = some (f.map fun p => (p.1 : Int))
  | [] => rfl
  | p :: f => by rw [List.map_cons, List.map_cons]; show (headsD (f.map eP)).map _ = _; rw [heads_eP f]; rfl
theorem sort_form {f g : LA.Fm} (hp : g.Perm f) (ha : g.Pairwise fun p q => p.1 < q.1) {ys : List D} {js : List Int} (h : (ys.zip js).Perm ((f.map eP).zip (f.map fun p => (p.1 : Int)))) (hl : ys.length = js.length) (hj : js.Pairwise (· ≤ ·)) : ys = g.map eP := by
  have z : ∀ f : LA.Fm, (f.map eP).zip (f.map fun p => (p.1 : Int)) = f.map fun p => (eP p, (p.1 : Int)) := fun f => by
    induction f with
    | nil => rfl
    | cons p f ih => rw [List.map_cons, List.map_cons, List.map_cons, List.zip_cons_cons, ih]
  rw [z] at h
  have h2 : (ys.zip js).Perm (g.map fun p => (eP p, (p.1 : Int))) := h.trans (hp.symm.map _)
  have h3 : (ys.zip js).Pairwise fun p q => p.2 ≤ q.2 := by
    have : ((ys.zip js).map Prod.snd).Pairwise (· ≤ ·) := by rw [List.map_snd_zip (by omega)]; exact hj
    exact List.pairwise_map.mp this
  have e := sort_uniq h2 h3 (List.pairwise_map.mpr (ha.imp fun h => by show (_ : Int) < _; omega))
  have : (ys.zip js).map Prod.fst = ys := List.map_fst_zip (by omega)
  rw [← this, e, List.map_map]; rfl
theorem c_times_in {ε : XD} {a b : Int} {xs : List Int} {n : Nat} {k : DK} (ha : 0 < a) (hb : -(2 ^ 64) < b ∧ b < 2 ^ 64) (hl : xs.length ≤ 1000) (hk : k (.tup ((xs.map fun i => b * i % a).map D.int)) n) : con_times_in ε [.int a, .int b, .tup (xs.map D.int)] n k := by
  refine ⟨rfl, ?_⟩
  show m_times_in noX [.val (.int a), .val (.int b), .val (.tup (xs.map D.int)), .no] n _
  unfold m_times_in
  refine i_ret (i_args (i_cons ?_))
  show (xs.map D.int).length ≤ 1000000 ∧ _
  refine ⟨by rw [List.length_map]; omega, ?_⟩
  refine comp_ints (fun i => b * i % a) n xs _ (fun i hi q hq => ?_) ?_
  · simp only [↓mSeq, ↓mIf, ↓mBl, ↓mOp, ↓mUn, ↓mTru, ↓mNot, ↓mAnd, ↓mOr, ↓mBox0, ↓mBox1, ↓mBox2, ↓mPut1, ↓mPut2, ↓mAsg, ↓mPar, ↓mRet, ↓mRetN, ↓mCall, ↓mCallK, ↓mAndV, ↓mOrV, ↓mNotV, ↓mUn1, ↓mChain, ↓mIfE, wipeE, ↓mDrop, ↓mNext, ↓mYes, ↓gfName, ↓gfTup, ↓gsCons, ↓gsNil, Option.bind_some, ↓mC, ↓mVar, ↓mNil, ↓mCons, ↓mArgs, List.getElem?_cons_zero, List.getElem?_cons_succ, List.set_cons_zero, List.set_cons_succ, ↓ek_add, ↓ek_sub, ↓ek_neg, ↓ek_cmp, ↓ek_int, ↓ek_intb, ↓ek_abs, ↓ek_mul, ↓ek_fdiv, ↓ek_mod, ↓ek_pow, ↓ek_str, ↓ek_len, ↓ek_lenT, ↓ek_lst, ↓ek_tup, ↓ek_some, ↓ek_addL, ↓ek_addT, ↓ek_rep, ↓ek_tupl, ↓ek_slL, ↓mSl, ↓mNoP, ↓mPart, List.length_map, decide_eq_true_eq]
    rw [if_pos True.intro]
    exact ⟨.inl hb, ha, hq⟩
  · repeat first | (with_reducible first | refine i_cons ?_ | refine i_nil ?_ | refine i_args ?_ | refine i_c ?_ | refine i_op ?_ | refine i_un ?_ | refine i_call ?_ | refine i_sl ?_ | refine i_noP ?_ | refine i_ret ?_ | refine i_asg ?_ | refine i_par ?_ | refine i_if ?_ | refine i_or ?_ | refine i_bl ?_ | refine i_ifE ?_ | refine i_tru ?_ | refine i_drop ?_ | refine i_not ?_ | refine i_and ?_ | refine o_add ?_ | refine o_sub ?_ | refine o_neg ?_ | refine o_tupl ?_ | refine o_slL ?_ | refine o_name ?_ | refine o_some ?_) | ((with_reducible apply i_var); exact rfl) | ((with_reducible apply i_partV); exact rfl) | ((with_reducible refine o_lst ?_ ?_); · exact rfl) | ((with_reducible refine o_tup ?_ ?_); · exact rfl)
    exact hk
theorem c_with_row {ε : XD} {a : Int} {z : Nat} {f : LA.Fm} {v : List Int} {n : Nat} {k : DK} (ha : isC (.int a) = true) (hz : z ≤ 400) (hf : LA.Red a z f) (hl : f.length ≤ z) (hv : LA.Ro a z v) (hk : k (.lst ((LA.wrow a (inv a) f v).map eP)) n) :
    con_with_row ε [.int a, .lst (f.map eP), eT v] n k := by
  have hr := isC_rng ha
  have ha0 : 0 < a ∧ a ≤ 31 := by omega
  refine ⟨rfl, ?_⟩
  show m_with_row noX [.val (.int a), .val (.lst (f.map eP)), .val (eT v), .no, .no, .no, .no, .no] n _
  unfold m_with_row
  repeat first | (with_reducible first | refine i_cons ?_ | refine i_nil ?_ | refine i_args ?_ | refine i_c ?_ | refine i_op ?_ | refine i_un ?_ | refine i_call ?_ | refine i_sl ?_ | refine i_noP ?_ | refine i_ret ?_ | refine i_asg ?_ | refine i_par ?_ | refine i_if ?_ | refine i_or ?_ | refine i_bl ?_ | refine i_ifE ?_ | refine i_tru ?_ | refine i_drop ?_ | refine i_not ?_ | refine i_and ?_ | refine o_add ?_ | refine o_sub ?_ | refine o_neg ?_ | refine o_tupl ?_ | refine o_slL ?_ | refine o_name ?_ | refine o_some ?_ | refine i_seq ?_ | refine i_next ?_ | refine i_retN ?_ | refine i_callV ?_ | refine i_parO ?_ | refine o_setK0 ?_ | refine i_eqI ?_ | refine i_par3 ?_ | refine i_notV ?_ | refine i_andV ?_ | refine i_orV ?_ | refine i_un1 ?_ | refine i_dict0 ?_ | refine i_partA ?_ | refine o_len ?_ | refine o_lenT ?_ | refine o_int ?_ | refine o_cmp ?_ | refine o_eqX ?_ | refine o_neX ?_ | refine o_list ?_ | refine o_tupT ?_ | refine o_truth ?_ | refine o_tg2 ?_) | ((with_reducible apply i_var); exact rfl) | ((with_reducible apply i_partV); exact rfl) | ((with_reducible refine o_lst ?_ ?_); · exact rfl) | ((with_reducible refine o_tup ?_ ?_); · exact rfl) | ((with_reducible refine o_mul ?_ ?_); · (first | exact .inl ⟨by omega, by omega⟩ | exact .inr ⟨by omega, by omega⟩)) | ((with_reducible refine o_mod ?_ ?_); · omega) | ((with_reducible refine o_fdiv ?_ ?_); · exact ⟨by omega, by omega⟩)
  refine c_cleared_by ha0 (by omega) hf.ro hv ?_
  repeat first | (with_reducible first | refine i_cons ?_ | refine i_nil ?_ | refine i_args ?_ | refine i_c ?_ | refine i_op ?_ | refine i_un ?_ | refine i_call ?_ | refine i_sl ?_ | refine i_noP ?_ | refine i_ret ?_ | refine i_asg ?_ | refine i_par ?_ | refine i_if ?_ | refine i_or ?_ | refine i_bl ?_ | refine i_ifE ?_ | refine i_tru ?_ | refine i_drop ?_ | refine i_not ?_ | refine i_and ?_ | refine o_add ?_ | refine o_sub ?_ | refine o_neg ?_ | refine o_tupl ?_ | refine o_slL ?_ | refine o_name ?_ | refine o_some ?_ | refine i_seq ?_ | refine i_next ?_ | refine i_retN ?_ | refine i_callV ?_ | refine i_parO ?_ | refine o_setK0 ?_ | refine i_eqI ?_ | refine i_par3 ?_ | refine i_notV ?_ | refine i_andV ?_ | refine i_orV ?_ | refine i_un1 ?_ | refine i_dict0 ?_ | refine i_partA ?_ | refine o_len ?_ | refine o_lenT ?_ | refine o_int ?_ | refine o_cmp ?_ | refine o_eqX ?_ | refine o_neX ?_ | refine o_list ?_ | refine o_tupT ?_ | refine o_truth ?_ | refine o_tg2 ?_) | ((with_reducible apply i_var); exact rfl) | ((with_reducible apply i_partV); exact rfl) | ((with_reducible refine o_lst ?_ ?_); · exact rfl) | ((with_reducible refine o_tup ?_ ?_); · exact rfl) | ((with_reducible refine o_mul ?_ ?_); · (first | exact .inl ⟨by omega, by omega⟩ | exact .inr ⟨by omega, by omega⟩)) | ((with_reducible refine o_mod ?_ ?_); · omega) | ((with_reducible refine o_fdiv ?_ ?_); · exact ⟨by omega, by omega⟩)
  refine c_lead_of ?_
  repeat first | (with_reducible first | refine i_cons ?_ | refine i_nil ?_ | refine i_args ?_ | refine i_c ?_ | refine i_op ?_ | refine i_un ?_ | refine i_call ?_ | refine i_sl ?_ | refine i_noP ?_ | refine i_ret ?_ | refine i_asg ?_ | refine i_par ?_ | refine i_if ?_ | refine i_or ?_ | refine i_bl ?_ | refine i_ifE ?_ | refine i_tru ?_ | refine i_drop ?_ | refine i_not ?_ | refine i_and ?_ | refine o_add ?_ | refine o_sub ?_ | refine o_neg ?_ | refine o_tupl ?_ | refine o_slL ?_ | refine o_name ?_ | refine o_some ?_ | refine i_seq ?_ | refine i_next ?_ | refine i_retN ?_ | refine i_callV ?_ | refine i_parO ?_ | refine o_setK0 ?_ | refine i_eqI ?_ | refine i_par3 ?_ | refine i_notV ?_ | refine i_andV ?_ | refine i_orV ?_ | refine i_un1 ?_ | refine i_dict0 ?_ | refine i_partA ?_ | refine o_len ?_ | refine o_lenT ?_ | refine o_int ?_ | refine o_cmp ?_ | refine o_eqX ?_ | refine o_neX ?_ | refine o_list ?_ | refine o_tupT ?_ | refine o_truth ?_ | refine o_tg2 ?_) | ((with_reducible apply i_var); exact rfl) | ((with_reducible apply i_partV); exact rfl) | ((with_reducible refine o_lst ?_ ?_); · exact rfl) | ((with_reducible refine o_tup ?_ ?_); · exact rfl) | ((with_reducible refine o_mul ?_ ?_); · (first | exact .inl ⟨by omega, by omega⟩ | exact .inr ⟨by omega, by omega⟩)) | ((with_reducible refine o_mod ?_ ?_); · omega) | ((with_reducible refine o_fdiv ?_ ?_); · exact ⟨by omega, by omega⟩)
  have hw : LA.Ro a z (LA.cby a v f) := LA.cby_ro ha0.1 (fun p hp => (hf.ro p hp).2) hv
  have hz0 := LA.cby_zero ha0.1 hf hv
  unfold LA.wrow at hk
  cases e : LA.leadOf (LA.cby a v f) with
  | none =>
    rw [e] at hk
    rw [show ldD (LA.cby a v f) = .non by unfold ldD; rw [e]]
    refine o_isNN ?_
    refine ite_T rfl ?_
    repeat first | (with_reducible first | refine i_cons ?_ | refine i_nil ?_ | refine i_args ?_ | refine i_c ?_ | refine i_op ?_ | refine i_un ?_ | refine i_call ?_ | refine i_sl ?_ | refine i_noP ?_ | refine i_ret ?_ | refine i_asg ?_ | refine i_par ?_ | refine i_if ?_ | refine i_or ?_ | refine i_bl ?_ | refine i_ifE ?_ | refine i_tru ?_ | refine i_drop ?_ | refine i_not ?_ | refine i_and ?_ | refine o_add ?_ | refine o_sub ?_ | refine o_neg ?_ | refine o_tupl ?_ | refine o_slL ?_ | refine o_name ?_ | refine o_some ?_ | refine i_seq ?_ | refine i_next ?_ | refine i_retN ?_ | refine i_callV ?_ | refine i_parO ?_ | refine o_setK0 ?_ | refine i_eqI ?_ | refine i_par3 ?_ | refine i_notV ?_ | refine i_andV ?_ | refine i_orV ?_ | refine i_un1 ?_ | refine i_dict0 ?_ | refine i_partA ?_ | refine o_len ?_ | refine o_lenT ?_ | refine o_int ?_ | refine o_cmp ?_ | refine o_eqX ?_ | refine o_neX ?_ | refine o_list ?_ | refine o_tupT ?_ | refine o_truth ?_ | refine o_tg2 ?_) | ((with_reducible apply i_var); exact rfl) | ((with_reducible apply i_partV); exact rfl) | ((with_reducible refine o_lst ?_ ?_); · exact rfl) | ((with_reducible refine o_tup ?_ ?_); · exact rfl) | ((with_reducible refine o_mul ?_ ?_); · (first | exact .inl ⟨by omega, by omega⟩ | exact .inr ⟨by omega, by omega⟩)) | ((with_reducible refine o_mod ?_ ?_); · omega) | ((with_reducible refine o_fdiv ?_ ?_); · exact ⟨by omega, by omega⟩)
    exact hk
  | some l =>
    rw [e] at hk
    dsimp only at hk
    obtain ⟨l1, l2, l3⟩ := LA.lead_some e
    rw [show ldD (LA.cby a v f) = .int (l : Nat) by unfold ldD; rw [e]]
    generalize LA.cby a v f = w at *
    have lz : l < z := by rw [← hw.1]; exact l1
    have hb := hw.bd lz
    have I := inv_ok ha (show 0 < LA.gt w l by omega) hb.2
    have p0 := I.p0
    have p1 := I.p1
    refine o_isIN ?_
    refine ite_F rfl ?_
    repeat first | (with_reducible first | refine i_cons ?_ | refine i_nil ?_ | refine i_args ?_ | refine i_c ?_ | refine i_op ?_ | refine i_un ?_ | refine i_call ?_ | refine i_sl ?_ | refine i_noP ?_ | refine i_ret ?_ | refine i_asg ?_ | refine i_par ?_ | refine i_if ?_ | refine i_or ?_ | refine i_bl ?_ | refine i_ifE ?_ | refine i_tru ?_ | refine i_drop ?_ | refine i_not ?_ | refine i_and ?_ | refine o_add ?_ | refine o_sub ?_ | refine o_neg ?_ | refine o_tupl ?_ | refine o_slL ?_ | refine o_name ?_ | refine o_some ?_ | refine i_seq ?_ | refine i_next ?_ | refine i_retN ?_ | refine i_callV ?_ | refine i_parO ?_ | refine o_setK0 ?_ | refine i_eqI ?_ | refine i_par3 ?_ | refine i_notV ?_ | refine i_andV ?_ | refine i_orV ?_ | refine i_un1 ?_ | refine i_dict0 ?_ | refine i_partA ?_ | refine o_len ?_ | refine o_lenT ?_ | refine o_int ?_ | refine o_cmp ?_ | refine o_eqX ?_ | refine o_neX ?_ | refine o_list ?_ | refine o_tupT ?_ | refine o_truth ?_ | refine o_tg2 ?_) | ((with_reducible apply i_var); exact rfl) | ((with_reducible apply i_partV); exact rfl) | ((with_reducible refine o_lst ?_ ?_); · exact rfl) | ((with_reducible refine o_tup ?_ ?_); · exact rfl) | ((with_reducible refine o_mul ?_ ?_); · (first | exact .inl ⟨by omega, by omega⟩ | exact .inr ⟨by omega, by omega⟩)) | ((with_reducible refine o_mod ?_ ?_); · omega) | ((with_reducible refine o_fdiv ?_ ?_); · exact ⟨by omega, by omega⟩)
    rw [ix_iT l1]
    repeat first | (with_reducible first | refine i_cons ?_ | refine i_nil ?_ | refine i_args ?_ | refine i_c ?_ | refine i_op ?_ | refine i_un ?_ | refine i_call ?_ | refine i_sl ?_ | refine i_noP ?_ | refine i_ret ?_ | refine i_asg ?_ | refine i_par ?_ | refine i_if ?_ | refine i_or ?_ | refine i_bl ?_ | refine i_ifE ?_ | refine i_tru ?_ | refine i_drop ?_ | refine i_not ?_ | refine i_and ?_ | refine o_add ?_ | refine o_sub ?_ | refine o_neg ?_ | refine o_tupl ?_ | refine o_slL ?_ | refine o_name ?_ | refine o_some ?_ | refine i_seq ?_ | refine i_next ?_ | refine i_retN ?_ | refine i_callV ?_ | refine i_parO ?_ | refine o_setK0 ?_ | refine i_eqI ?_ | refine i_par3 ?_ | refine i_notV ?_ | refine i_andV ?_ | refine i_orV ?_ | refine i_un1 ?_ | refine i_dict0 ?_ | refine i_partA ?_ | refine o_len ?_ | refine o_lenT ?_ | refine o_int ?_ | refine o_cmp ?_ | refine o_eqX ?_ | refine o_neX ?_ | refine o_list ?_ | refine o_tupT ?_ | refine o_truth ?_ | refine o_tg2 ?_) | ((with_reducible apply i_var); exact rfl) | ((with_reducible apply i_partV); exact rfl) | ((with_reducible refine o_lst ?_ ?_); · exact rfl) | ((with_reducible refine o_tup ?_ ?_); · exact rfl) | ((with_reducible refine o_mul ?_ ?_); · (first | exact .inl ⟨by omega, by omega⟩ | exact .inr ⟨by omega, by omega⟩)) | ((with_reducible refine o_mod ?_ ?_); · omega) | ((with_reducible refine o_fdiv ?_ ?_); · exact ⟨by omega, by omega⟩)
    refine c_inverse_in ha (by omega) hb.2 ?_
    repeat first | (with_reducible first | refine i_cons ?_ | refine i_nil ?_ | refine i_args ?_ | refine i_c ?_ | refine i_op ?_ | refine i_un ?_ | refine i_call ?_ | refine i_sl ?_ | refine i_noP ?_ | refine i_ret ?_ | refine i_asg ?_ | refine i_par ?_ | refine i_if ?_ | refine i_or ?_ | refine i_bl ?_ | refine i_ifE ?_ | refine i_tru ?_ | refine i_drop ?_ | refine i_not ?_ | refine i_and ?_ | refine o_add ?_ | refine o_sub ?_ | refine o_neg ?_ | refine o_tupl ?_ | refine o_slL ?_ | refine o_name ?_ | refine o_some ?_ | refine i_seq ?_ | refine i_next ?_ | refine i_retN ?_ | refine i_callV ?_ | refine i_parO ?_ | refine o_setK0 ?_ | refine i_eqI ?_ | refine i_par3 ?_ | refine i_notV ?_ | refine i_andV ?_ | refine i_orV ?_ | refine i_un1 ?_ | refine i_dict0 ?_ | refine i_partA ?_ | refine o_len ?_ | refine o_lenT ?_ | refine o_int ?_ | refine o_cmp ?_ | refine o_eqX ?_ | refine o_neX ?_ | refine o_list ?_ | refine o_tupT ?_ | refine o_truth ?_ | refine o_tg2 ?_) | ((with_reducible apply i_var); exact rfl) | ((with_reducible apply i_partV); exact rfl) | ((with_reducible refine o_lst ?_ ?_); · exact rfl) | ((with_reducible refine o_tup ?_ ?_); · exact rfl) | ((with_reducible refine o_mul ?_ ?_); · (first | exact .inl ⟨by omega, by omega⟩ | exact .inr ⟨by omega, by omega⟩)) | ((with_reducible refine o_mod ?_ ?_); · omega) | ((with_reducible refine o_fdiv ?_ ?_); · exact ⟨by omega, by omega⟩)
    refine c_times_in (by omega) ⟨by omega, by omega⟩ (by rw [hw.1]; omega) ?_
    repeat first | (with_reducible first | refine i_cons ?_ | refine i_nil ?_ | refine i_args ?_ | refine i_c ?_ | refine i_op ?_ | refine i_un ?_ | refine i_call ?_ | refine i_sl ?_ | refine i_noP ?_ | refine i_ret ?_ | refine i_asg ?_ | refine i_par ?_ | refine i_if ?_ | refine i_or ?_ | refine i_bl ?_ | refine i_ifE ?_ | refine i_tru ?_ | refine i_drop ?_ | refine i_not ?_ | refine i_and ?_ | refine o_add ?_ | refine o_sub ?_ | refine o_neg ?_ | refine o_tupl ?_ | refine o_slL ?_ | refine o_name ?_ | refine o_some ?_ | refine i_seq ?_ | refine i_next ?_ | refine i_retN ?_ | refine i_callV ?_ | refine i_parO ?_ | refine o_setK0 ?_ | refine i_eqI ?_ | refine i_par3 ?_ | refine i_notV ?_ | refine i_andV ?_ | refine i_orV ?_ | refine i_un1 ?_ | refine i_dict0 ?_ | refine i_partA ?_ | refine o_len ?_ | refine o_lenT ?_ | refine o_int ?_ | refine o_cmp ?_ | refine o_eqX ?_ | refine o_neX ?_ | refine o_list ?_ | refine o_tupT ?_ | refine o_truth ?_ | refine o_tg2 ?_) | ((with_reducible apply i_var); exact rfl) | ((with_reducible apply i_partV); exact rfl) | ((with_reducible refine o_lst ?_ ?_); · exact rfl) | ((with_reducible refine o_tup ?_ ?_); · exact rfl) | ((with_reducible refine o_mul ?_ ?_); · (first | exact .inl ⟨by omega, by omega⟩ | exact .inr ⟨by omega, by omega⟩)) | ((with_reducible refine o_mod ?_ ?_); · omega) | ((with_reducible refine o_fdiv ?_ ?_); · exact ⟨by omega, by omega⟩)
    have nr : LA.Ro a z (LA.nrm a (inv a (LA.gt w l)) w) := LA.nrm_ro ha0.1 hw.1
    have red := LA.red_new (by omega) hf lz nr (by rw [LA.gt_nrm hw.1 lz]; exact iv_inv ha _ (by omega) hb.2) (fun j hj => by rw [LA.gt_nrm hw.1 (by omega), l3 j hj, Int.mul_zero]; rfl) (fun p hp => by rw [LA.gt_nrm hw.1 (hf.ro p hp).1, hz0 p hp, Int.mul_zero]; rfl)
    rw [show (w.map fun i => inv a (LA.gt w l) * i % a) = LA.nrm a (inv a (LA.gt w l)) w from rfl]
    generalize LA.nrm a (inv a (LA.gt w l)) w = nw at *
    refine i_sort (i_args (i_star (i_lc (i_iterL rfl ⟨by rw [List.length_map]; omega, ?_⟩))))
    refine comp_A (enc := eP) (g := fun p => eP (p.1, LA.ax a (-(LA.gt p.2 l)) nw p.2)) (fun p hp q hq => ?_) ?_
    · refine o_tg2 (i_yes ?_)
      repeat first | (with_reducible first | refine i_cons ?_ | refine i_nil ?_ | refine i_args ?_ | refine i_c ?_ | refine i_op ?_ | refine i_un ?_ | refine i_call ?_ | refine i_sl ?_ | refine i_noP ?_ | refine i_ret ?_ | refine i_asg ?_ | refine i_par ?_ | refine i_if ?_ | refine i_or ?_ | refine i_bl ?_ | refine i_ifE ?_ | refine i_tru ?_ | refine i_drop ?_ | refine i_not ?_ | refine i_and ?_ | refine o_add ?_ | refine o_sub ?_ | refine o_neg ?_ | refine o_tupl ?_ | refine o_slL ?_ | refine o_name ?_ | refine o_some ?_ | refine i_seq ?_ | refine i_next ?_ | refine i_retN ?_ | refine i_callV ?_ | refine i_parO ?_ | refine o_setK0 ?_ | refine i_eqI ?_ | refine i_par3 ?_ | refine i_notV ?_ | refine i_andV ?_ | refine i_orV ?_ | refine i_un1 ?_ | refine i_dict0 ?_ | refine i_partA ?_ | refine o_len ?_ | refine o_lenT ?_ | refine o_int ?_ | refine o_cmp ?_ | refine o_eqX ?_ | refine o_neX ?_ | refine o_list ?_ | refine o_tupT ?_ | refine o_truth ?_ | refine o_tg2 ?_) | ((with_reducible apply i_var); exact rfl) | ((with_reducible apply i_partV); exact rfl) | ((with_reducible refine o_lst ?_ ?_); · exact rfl) | ((with_reducible refine o_tup ?_ ?_); · exact rfl) | ((with_reducible refine o_mul ?_ ?_); · (first | exact .inl ⟨by omega, by omega⟩ | exact .inr ⟨by omega, by omega⟩)) | ((with_reducible refine o_mod ?_ ?_); · omega) | ((with_reducible refine o_fdiv ?_ ?_); · exact ⟨by omega, by omega⟩)
      refine c_cleared ha0 (hf.ro p hp).2 nr lz (by omega) ?_
      repeat first | (with_reducible first | refine i_cons ?_ | refine i_nil ?_ | refine i_args ?_ | refine i_c ?_ | refine i_op ?_ | refine i_un ?_ | refine i_call ?_ | refine i_sl ?_ | refine i_noP ?_ | refine i_ret ?_ | refine i_asg ?_ | refine i_par ?_ | refine i_if ?_ | refine i_or ?_ | refine i_bl ?_ | refine i_ifE ?_ | refine i_tru ?_ | refine i_drop ?_ | refine i_not ?_ | refine i_and ?_ | refine o_add ?_ | refine o_sub ?_ | refine o_neg ?_ | refine o_tupl ?_ | refine o_slL ?_ | refine o_name ?_ | refine o_some ?_ | refine i_seq ?_ | refine i_next ?_ | refine i_retN ?_ | refine i_callV ?_ | refine i_parO ?_ | refine o_setK0 ?_ | refine i_eqI ?_ | refine i_par3 ?_ | refine i_notV ?_ | refine i_andV ?_ | refine i_orV ?_ | refine i_un1 ?_ | refine i_dict0 ?_ | refine i_partA ?_ | refine o_len ?_ | refine o_lenT ?_ | refine o_int ?_ | refine o_cmp ?_ | refine o_eqX ?_ | refine o_neX ?_ | refine o_list ?_ | refine o_tupT ?_ | refine o_truth ?_ | refine o_tg2 ?_) | ((with_reducible apply i_var); exact rfl) | ((with_reducible apply i_partV); exact rfl) | ((with_reducible refine o_lst ?_ ?_); · exact rfl) | ((with_reducible refine o_tup ?_ ?_); · exact rfl) | ((with_reducible refine o_mul ?_ ?_); · (first | exact .inl ⟨by omega, by omega⟩ | exact .inr ⟨by omega, by omega⟩)) | ((with_reducible refine o_mod ?_ ?_); · omega) | ((with_reducible refine o_fdiv ?_ ?_); · exact ⟨by omega, by omega⟩)
      exact hq
    · repeat first | (with_reducible first | refine i_cons ?_ | refine i_nil ?_ | refine i_args ?_ | refine i_c ?_ | refine i_op ?_ | refine i_un ?_ | refine i_call ?_ | refine i_sl ?_ | refine i_noP ?_ | refine i_ret ?_ | refine i_asg ?_ | refine i_par ?_ | refine i_if ?_ | refine i_or ?_ | refine i_bl ?_ | refine i_ifE ?_ | refine i_tru ?_ | refine i_drop ?_ | refine i_not ?_ | refine i_and ?_ | refine o_add ?_ | refine o_sub ?_ | refine o_neg ?_ | refine o_tupl ?_ | refine o_slL ?_ | refine o_name ?_ | refine o_some ?_ | refine i_seq ?_ | refine i_next ?_ | refine i_retN ?_ | refine i_callV ?_ | refine i_parO ?_ | refine o_setK0 ?_ | refine i_eqI ?_ | refine i_par3 ?_ | refine i_notV ?_ | refine i_andV ?_ | refine i_orV ?_ | refine i_un1 ?_ | refine i_dict0 ?_ | refine i_partA ?_ | refine o_len ?_ | refine o_lenT ?_ | refine o_int ?_ | refine o_cmp ?_ | refine o_eqX ?_ | refine o_neX ?_ | refine o_list ?_ | refine o_tupT ?_ | refine o_truth ?_ | refine o_tg2 ?_) | ((with_reducible apply i_var); exact rfl) | ((with_reducible apply i_partV); exact rfl) | ((with_reducible refine o_lst ?_ ?_); · exact rfl) | ((with_reducible refine o_tup ?_ ?_); · exact rfl) | ((with_reducible refine o_mul ?_ ?_); · (first | exact .inl ⟨by omega, by omega⟩ | exact .inr ⟨by omega, by omega⟩)) | ((with_reducible refine o_mod ?_ ?_); · omega) | ((with_reducible refine o_fdiv ?_ ?_); · exact ⟨by omega, by omega⟩)
      rw [ek_lst]
      have e2 : (f.map fun p => eP (p.1, LA.ax a (-(LA.gt p.2 l)) nw p.2)) ++ [D.tup [.int (l : Nat), eT nw]] = ((f.map fun p => (p.1, LA.ax a (-(LA.gt p.2 l)) nw p.2)) ++ [(l, nw)]).map eP := by rw [List.map_append, List.map_map]; rfl
      refine ⟨by rw [List.length_append, List.length_map]; show f.length + 1 ≤ 1000; omega, ?_⟩
      rw [e2]
      have pm : (LA.insF (l, nw) (f.map fun p => (p.1, LA.ax a (-(LA.gt p.2 l)) nw p.2))).Perm ((f.map fun p => (p.1, LA.ax a (-(LA.gt p.2 l)) nw p.2)) ++ [(l, nw)]) := LA.insF_perm.trans (List.perm_append_comm (l₁ := [(l, nw)]))
      refine ⟨_, heads_eP _, ?_, fun ys js h1 h2 h3 => ?_⟩
      · refine ((pm.map fun p => (p.1 : Int)).nodup_iff).mp ?_
        exact List.pairwise_map.mpr (red.asc.imp fun h => by show (_ : Int) ≠ _; omega)
      · rw [sort_form pm red.asc h1 h2 h3]; exact hk
theorem asc_len : ∀ {f : LA.Fm} {s z : Nat}, f.Pairwise (fun p q => p.1 < q.1) → (∀ p ∈ f, s ≤ p.1 ∧ p.1 < s + z) → f.length ≤ z
  | [], s, z, _, _ => Nat.zero_le _
  | p :: f, s, z, h, hs => by
    rw [List.pairwise_cons] at h
    have h0 := hs p List.mem_cons_self
    cases z with
    | zero => omega
    | succ z =>
      have := asc_len (f := f) (s := s + 1) (z := z) h.2 fun q hq => by have := h.1 q hq; have := hs q (List.mem_cons_of_mem _ hq); omega
      rw [List.length_cons]; omega
theorem red_len {a : Int} {z : Nat} {f : LA.Fm} (h : LA.Red a z f) : f.length ≤ z := asc_len (s := 0) h.asc fun p hp => ⟨Nat.zero_le _, by have := (h.ro p hp).1; omega⟩
theorem for_rows {P : Pn} {a : Int} {z : Nat} {n : Nat} {d1 : D} (ha : isC (.int a) = true) (hz : z ≤ 400) : ∀ (rows : List (List Int)) (f : LA.Fm) (a3 a4 : Sl), (∀ r ∈ rows, LA.Ro a z r) → LA.Red a z f → (∀ b3, P.nx [.val (.int a), .val d1, .val (.lst ((rows.foldl (LA.wrow a (inv a)) f).map eP)), b3, a4] n) →
    forD (fun d ρ n P => optK (gfName 3 d ρ) fun ρ' => (mAsg (gfName 2) (mCall con_with_row (mCons (mVar 0) (mCons (mVar 2) (mCons (mVar 3) (mNil)))))) noX ρ' n P) (eR rows) [.val (.int a), .val d1, .val (.lst (f.map eP)), a3, a4] n P
  | [], f, a3, a4, _, _, h => for_nil (h _)
  | r :: rows, f, a3, a4, hr, hf, h => by
    have hrn := isC_rng ha
    rw [eR, List.map_cons]
    refine for_i fun R hR => ?_
    refine o_name ?_
    repeat first | (with_reducible first | refine i_cons ?_ | refine i_nil ?_ | refine i_args ?_ | refine i_c ?_ | refine i_op ?_ | refine i_un ?_ | refine i_call ?_ | refine i_sl ?_ | refine i_noP ?_ | refine i_ret ?_ | refine i_asg ?_ | refine i_par ?_ | refine i_if ?_ | refine i_or ?_ | refine i_bl ?_ | refine i_ifE ?_ | refine i_tru ?_ | refine i_drop ?_ | refine i_not ?_ | refine i_and ?_ | refine o_add ?_ | refine o_sub ?_ | refine o_neg ?_ | refine o_tupl ?_ | refine o_slL ?_ | refine o_name ?_ | refine o_some ?_ | refine i_seq ?_ | refine i_next ?_ | refine i_retN ?_ | refine i_callV ?_ | refine i_parO ?_ | refine o_setK0 ?_ | refine i_eqI ?_ | refine i_par3 ?_ | refine i_notV ?_ | refine i_andV ?_ | refine i_orV ?_ | refine i_un1 ?_ | refine i_dict0 ?_ | refine i_partA ?_ | refine o_len ?_ | refine o_lenT ?_ | refine o_int ?_ | refine o_cmp ?_ | refine o_eqX ?_ | refine o_neX ?_ | refine o_list ?_ | refine o_tupT ?_ | refine o_truth ?_ | refine o_tg2 ?_) | ((with_reducible apply i_var); exact rfl) | ((with_reducible apply i_partV); exact rfl) | ((with_reducible refine o_lst ?_ ?_); · exact rfl) | ((with_reducible refine o_tup ?_ ?_); · exact rfl) | ((with_reducible refine o_mul ?_ ?_); · (first | exact .inl ⟨by omega, by omega⟩ | exact .inr ⟨by omega, by omega⟩)) | ((with_reducible refine o_mod ?_ ?_); · omega) | ((with_reducible refine o_fdiv ?_ ?_); · exact ⟨by omega, by omega⟩)
    refine c_with_row ha hz hf (red_len hf) (hr r List.mem_cons_self) ?_
    repeat first | (with_reducible first | refine i_cons ?_ | refine i_nil ?_ | refine i_args ?_ | refine i_c ?_ | refine i_op ?_ | refine i_un ?_ | refine i_call ?_ | refine i_sl ?_ | refine i_noP ?_ | refine i_ret ?_ | refine i_asg ?_ | refine i_par ?_ | refine i_if ?_ | refine i_or ?_ | refine i_bl ?_ | refine i_ifE ?_ | refine i_tru ?_ | refine i_drop ?_ | refine i_not ?_ | refine i_and ?_ | refine o_add ?_ | refine o_sub ?_ | refine o_neg ?_ | refine o_tupl ?_ | refine o_slL ?_ | refine o_name ?_ | refine o_some ?_ | refine i_seq ?_ | refine i_next ?_ | refine i_retN ?_ | refine i_callV ?_ | refine i_parO ?_ | refine o_setK0 ?_ | refine i_eqI ?_ | refine i_par3 ?_ | refine i_notV ?_ | refine i_andV ?_ | refine i_orV ?_ | refine i_un1 ?_ | refine i_dict0 ?_ | refine i_partA ?_ | refine o_len ?_ | refine o_lenT ?_ | refine o_int ?_ | refine o_cmp ?_ | refine o_eqX ?_ | refine o_neX ?_ | refine o_list ?_ | refine o_tupT ?_ | refine o_truth ?_ | refine o_tg2 ?_) | ((with_reducible apply i_var); exact rfl) | ((with_reducible apply i_partV); exact rfl) | ((with_reducible refine o_lst ?_ ?_); · exact rfl) | ((with_reducible refine o_tup ?_ ?_); · exact rfl) | ((with_reducible refine o_mul ?_ ?_); · (first | exact .inl ⟨by omega, by omega⟩ | exact .inr ⟨by omega, by omega⟩)) | ((with_reducible refine o_mod ?_ ?_); · omega) | ((with_reducible refine o_fdiv ?_ ?_); · exact ⟨by omega, by omega⟩)
    refine hR _ _ ?_
    exact for_rows ha hz rows (LA.wrow a (inv a) f r) _ _ (fun x hx => hr x (List.mem_cons_of_mem _ hx)) (LA.wrow_ok (by omega) (iv_inv ha) hf (hr r List.mem_cons_self)).1 h
theorem c_least_in {ε : XD} {a : Int} {z : Nat} {rows : List (List Int)} {X : D} {n : Nat} {k : DK} (ha : isC (.int a) = true) (hz : z ≤ 400) (hX : X = .lst (eR rows) ∨ X = .tup (eR rows)) (hr : ∀ r ∈ rows, LA.Ro a z r) (hk : k (.tup (eR (LA.least a (inv a) rows))) n) : con_least_in ε [.int a, X] n k := by
  have hrn := isC_rng ha
  refine ⟨rfl, ?_⟩
  show m_least_in noX [.val (.int a), .val X, .no, .no, .no] n _
  unfold m_least_in
  repeat first | (with_reducible first | refine i_cons ?_ | refine i_nil ?_ | refine i_args ?_ | refine i_c ?_ | refine i_op ?_ | refine i_un ?_ | refine i_call ?_ | refine i_sl ?_ | refine i_noP ?_ | refine i_ret ?_ | refine i_asg ?_ | refine i_par ?_ | refine i_if ?_ | refine i_or ?_ | refine i_bl ?_ | refine i_ifE ?_ | refine i_tru ?_ | refine i_drop ?_ | refine i_not ?_ | refine i_and ?_ | refine o_add ?_ | refine o_sub ?_ | refine o_neg ?_ | refine o_tupl ?_ | refine o_slL ?_ | refine o_name ?_ | refine o_some ?_ | refine i_seq ?_ | refine i_next ?_ | refine i_retN ?_ | refine i_callV ?_ | refine i_parO ?_ | refine o_setK0 ?_ | refine i_eqI ?_ | refine i_par3 ?_ | refine i_notV ?_ | refine i_andV ?_ | refine i_orV ?_ | refine i_un1 ?_ | refine i_dict0 ?_ | refine i_partA ?_ | refine o_len ?_ | refine o_lenT ?_ | refine o_int ?_ | refine o_cmp ?_ | refine o_eqX ?_ | refine o_neX ?_ | refine o_list ?_ | refine o_tupT ?_ | refine o_truth ?_ | refine o_tg2 ?_) | ((with_reducible apply i_var); exact rfl) | ((with_reducible apply i_partV); exact rfl) | ((with_reducible refine o_lst ?_ ?_); · exact rfl) | ((with_reducible refine o_tup ?_ ?_); · exact rfl) | ((with_reducible refine o_mul ?_ ?_); · (first | exact .inl ⟨by omega, by omega⟩ | exact .inr ⟨by omega, by omega⟩)) | ((with_reducible refine o_mod ?_ ?_); · omega) | ((with_reducible refine o_fdiv ?_ ?_); · exact ⟨by omega, by omega⟩)
  have it : ∀ (q : List D → Nat → Prop), q (eR rows) n → mIter (mVar 1) noX ([.val (.int a), .val X, .no, .no, .no].set 2 (.val (.lst []))) n q := fun q hq => by
    rcases hX with rfl | rfl <;> exact hq
  refine i_for (it _ ?_)
  show forD _ _ [.val (.int a), .val X, .val (.lst (([] : LA.Fm).map eP)), .no, .no] n _
  refine for_rows ha hz rows [] _ _ hr LA.red_nil fun b3 => ?_
  have red := LA.least_red (iv := inv a) (by omega) (iv_inv ha) hr
  with_reducible refine i_ret ?_
  refine i_args (i_cons (i_lc ?_))
  refine i_iterL (xs := (LA.leastF a (inv a) rows).map eP) rfl ⟨by rw [List.length_map]; have := red_len red; omega, ?_⟩
  refine comp_A (enc := eP) (g := fun p => eT p.2) (fun p hp q hq => ?_) ?_
  · refine o_tg2 (i_yes ?_)
    repeat first | (with_reducible first | refine i_cons ?_ | refine i_nil ?_ | refine i_args ?_ | refine i_c ?_ | refine i_op ?_ | refine i_un ?_ | refine i_call ?_ | refine i_sl ?_ | refine i_noP ?_ | refine i_ret ?_ | refine i_asg ?_ | refine i_par ?_ | refine i_if ?_ | refine i_or ?_ | refine i_bl ?_ | refine i_ifE ?_ | refine i_tru ?_ | refine i_drop ?_ | refine i_not ?_ | refine i_and ?_ | refine o_add ?_ | refine o_sub ?_ | refine o_neg ?_ | refine o_tupl ?_ | refine o_slL ?_ | refine o_name ?_ | refine o_some ?_ | refine i_seq ?_ | refine i_next ?_ | refine i_retN ?_ | refine i_callV ?_ | refine i_parO ?_ | refine o_setK0 ?_ | refine i_eqI ?_ | refine i_par3 ?_ | refine i_notV ?_ | refine i_andV ?_ | refine i_orV ?_ | refine i_un1 ?_ | refine i_dict0 ?_ | refine i_partA ?_ | refine o_len ?_ | refine o_lenT ?_ | refine o_int ?_ | refine o_cmp ?_ | refine o_eqX ?_ | refine o_neX ?_ | refine o_list ?_ | refine o_tupT ?_ | refine o_truth ?_ | refine o_tg2 ?_) | ((with_reducible apply i_var); exact rfl) | ((with_reducible apply i_partV); exact rfl) | ((with_reducible refine o_lst ?_ ?_); · exact rfl) | ((with_reducible refine o_tup ?_ ?_); · exact rfl) | ((with_reducible refine o_mul ?_ ?_); · (first | exact .inl ⟨by omega, by omega⟩ | exact .inr ⟨by omega, by omega⟩)) | ((with_reducible refine o_mod ?_ ?_); · omega) | ((with_reducible refine o_fdiv ?_ ?_); · exact ⟨by omega, by omega⟩)
    exact hq
  · repeat first | (with_reducible first | refine i_cons ?_ | refine i_nil ?_ | refine i_args ?_ | refine i_c ?_ | refine i_op ?_ | refine i_un ?_ | refine i_call ?_ | refine i_sl ?_ | refine i_noP ?_ | refine i_ret ?_ | refine i_asg ?_ | refine i_par ?_ | refine i_if ?_ | refine i_or ?_ | refine i_bl ?_ | refine i_ifE ?_ | refine i_tru ?_ | refine i_drop ?_ | refine i_not ?_ | refine i_and ?_ | refine o_add ?_ | refine o_sub ?_ | refine o_neg ?_ | refine o_tupl ?_ | refine o_slL ?_ | refine o_name ?_ | refine o_some ?_ | refine i_seq ?_ | refine i_next ?_ | refine i_retN ?_ | refine i_callV ?_ | refine i_parO ?_ | refine o_setK0 ?_ | refine i_eqI ?_ | refine i_par3 ?_ | refine i_notV ?_ | refine i_andV ?_ | refine i_orV ?_ | refine i_un1 ?_ | refine i_dict0 ?_ | refine i_partA ?_ | refine o_len ?_ | refine o_lenT ?_ | refine o_int ?_ | refine o_cmp ?_ | refine o_eqX ?_ | refine o_neX ?_ | refine o_list ?_ | refine o_tupT ?_ | refine o_truth ?_ | refine o_tg2 ?_) | ((with_reducible apply i_var); exact rfl) | ((with_reducible apply i_partV); exact rfl) | ((with_reducible refine o_lst ?_ ?_); · exact rfl) | ((with_reducible refine o_tup ?_ ?_); · exact rfl) | ((with_reducible refine o_mul ?_ ?_); · (first | exact .inl ⟨by omega, by omega⟩ | exact .inr ⟨by omega, by omega⟩)) | ((with_reducible refine o_mod ?_ ?_); · omega) | ((with_reducible refine o_fdiv ?_ ?_); · exact ⟨by omega, by omega⟩)
    have e : (LA.leastF a (inv a) rows).map (fun p => eT p.2) = eR (LA.least a (inv a) rows) := by unfold eR LA.least LA.rowsF; rw [List.map_map]; rfl
    rw [e]; exact hk
/-- a list of rows of a clock and a size, none to 400 -/
def rowsB (v : D) (a z : Int) : Bool := isSeq v && (!decide (400 < ((elems v).length : Int)) && (elems v).all fun r => rowB r a z)
structure Pl2 (v : D) : Prop where
  pl : Pl v
  ln : (elems v).length ≤ 1000
  el : ∀ r ∈ elems v, Pl r ∧ (∀ x ∈ elems r, Pl x) ∧ (elems r).length ≤ 1000
theorem c_need_rows {ε : XD} {v : D} {a z : Int} {n : Nat} {k : DK} (h : Pl2 v) (h0 : rowsB v a z = false → ε "BadRow" [("part", .str "rows")] n) (h1 : rowsB v a z = true → k (.lst ((elems v).map fun r => .tup (elems r))) n) : con_need_rows ε [v, .int a, .int z] n k := by
  refine ⟨rfl, ?_⟩
  show m_need_rows ε [.val v, .val (.int a), .val (.int z), .no] n _
  unfold m_need_rows
  refine seq_i fun R hR => ?_
  obtain ⟨⟨t, ht⟩, ln, el⟩ := h
  have two : ∀ xs : List D, elems v = xs → isSeq v = true → (∀ (ε : XD) (b : Sl) (q : List D → Nat → Prop), q xs n → mIter (mVar 0) ε [.val v, .val (.int a), .val (.int z), b] n q) →
      (if decide (400 < (xs.length : Int)) = true then mRaise ("BadRow" : Str) "part" (mC (.str ("rows" : Str))) ε [.val v, .val (.int a), .val (.int z), .no] n { nx := R, rt := k, bk := fun _ _ => False, ct := fun _ _ => False } else R [.val v, .val (.int a), .val (.int z), .no] n) := by
    intro xs hxs hs it
    rw [hxs] at ln el
    cases e : decide (400 < (xs.length : Int)) with
    | true =>
      rw [if_pos rfl]
      exact h0 (by unfold rowsB; rw [hs, hxs, e]; rfl)
    | false =>
      rw [if_neg (by decide)]
      refine hR _ _ ?_
      clear hR
      refine seq_i fun R hR => ?_
      repeat first | (with_reducible first | refine i_cons ?_ | refine i_nil ?_ | refine i_args ?_ | refine i_c ?_ | refine i_op ?_ | refine i_un ?_ | refine i_call ?_ | refine i_sl ?_ | refine i_noP ?_ | refine i_ret ?_ | refine i_asg ?_ | refine i_par ?_ | refine i_if ?_ | refine i_or ?_ | refine i_bl ?_ | refine i_ifE ?_ | refine i_tru ?_ | refine i_drop ?_ | refine i_not ?_ | refine i_and ?_ | refine o_add ?_ | refine o_sub ?_ | refine o_neg ?_ | refine o_tupl ?_ | refine o_slL ?_ | refine o_name ?_ | refine o_some ?_) | ((with_reducible apply i_var); exact rfl) | ((with_reducible apply i_partV); exact rfl) | ((with_reducible refine o_lst ?_ ?_); · exact rfl) | ((with_reducible refine o_tup ?_ ?_); · exact rfl)
      refine it _ _ _ ⟨by omega, comp_map (fun r => .bl (rowB r a z)) n xs _ (fun r hr q hq => ?_) ?_⟩
      · refine o_name (i_yes ?_)
        repeat first | (with_reducible first | refine i_cons ?_ | refine i_nil ?_ | refine i_args ?_ | refine i_c ?_ | refine i_op ?_ | refine i_un ?_ | refine i_call ?_ | refine i_sl ?_ | refine i_noP ?_ | refine i_ret ?_ | refine i_asg ?_ | refine i_par ?_ | refine i_if ?_ | refine i_or ?_ | refine i_bl ?_ | refine i_ifE ?_ | refine i_tru ?_ | refine i_drop ?_ | refine i_not ?_ | refine i_and ?_ | refine o_add ?_ | refine o_sub ?_ | refine o_neg ?_ | refine o_tupl ?_ | refine o_slL ?_ | refine o_name ?_ | refine o_some ?_) | ((with_reducible apply i_var); exact rfl) | ((with_reducible apply i_partV); exact rfl) | ((with_reducible refine o_lst ?_ ?_); · exact rfl) | ((with_reducible refine o_tup ?_ ?_); · exact rfl)
        exact c_is_row (el r hr).1 (el r hr).2.1 (el r hr).2.2 hq
      · repeat first | (with_reducible first | refine i_cons ?_ | refine i_nil ?_ | refine i_args ?_ | refine i_c ?_ | refine i_op ?_ | refine i_un ?_ | refine i_call ?_ | refine i_sl ?_ | refine i_noP ?_ | refine i_ret ?_ | refine i_asg ?_ | refine i_par ?_ | refine i_if ?_ | refine i_or ?_ | refine i_bl ?_ | refine i_ifE ?_ | refine i_tru ?_ | refine i_drop ?_ | refine i_not ?_ | refine i_and ?_ | refine o_add ?_ | refine o_sub ?_ | refine o_neg ?_ | refine o_tupl ?_ | refine o_slL ?_ | refine o_name ?_ | refine o_some ?_) | ((with_reducible apply i_var); exact rfl) | ((with_reducible apply i_partV); exact rfl) | ((with_reducible refine o_lst ?_ ?_); · exact rfl) | ((with_reducible refine o_tup ?_ ?_); · exact rfl)
        have e2 : (xs.map fun x => D.bl (rowB x a z)) = (xs.map fun x => rowB x a z).map D.bl := by rw [List.map_map]; rfl
        show optK ((blsOf _).map _) _
        rw [e2, bls_map]
        rw [Option.map_some, List.all_map]
        refine o_some ?_
        rw [show (xs.all ((fun b => b) ∘ fun x => rowB x a z)) = (xs.all fun x => rowB x a z) from rfl]
        rw [ek_truth]
        cases e3 : (xs.all fun x => rowB x a z) with
        | false =>
          exact h0 (by unfold rowsB; rw [hs, hxs, e, e3]; rfl)
        | true =>
          refine hR _ _ ?_
          clear hR
          refine i_ret (it _ _ _ ⟨by omega, comp_map (fun r => .tup (elems r)) n xs _ (fun r hr q hq => ?_) ?_⟩)
          · refine o_name (i_yes ?_)
            repeat first | (with_reducible first | refine i_cons ?_ | refine i_nil ?_ | refine i_args ?_ | refine i_c ?_ | refine i_op ?_ | refine i_un ?_ | refine i_call ?_ | refine i_sl ?_ | refine i_noP ?_ | refine i_ret ?_ | refine i_asg ?_ | refine i_par ?_ | refine i_if ?_ | refine i_or ?_ | refine i_bl ?_ | refine i_ifE ?_ | refine i_tru ?_ | refine i_drop ?_ | refine i_not ?_ | refine i_and ?_ | refine o_add ?_ | refine o_sub ?_ | refine o_neg ?_ | refine o_tupl ?_ | refine o_slL ?_ | refine o_name ?_ | refine o_some ?_) | ((with_reducible apply i_var); exact rfl) | ((with_reducible apply i_partV); exact rfl) | ((with_reducible refine o_lst ?_ ?_); · exact rfl) | ((with_reducible refine o_tup ?_ ?_); · exact rfl)
            have hb := List.all_eq_true.mp e3 r hr
            cases r with
            | lst ys => exact hq
            | tup ys => exact hq
            | _ => cases hb
          · have := h1 (by unfold rowsB; rw [hs, hxs, e, e3]; rfl)
            rw [hxs] at this
            exact this
  cases v with
  | lst xs => exact two xs rfl rfl fun ε b q hq => hq
  | tup xs => exact two xs rfl rfl fun ε b q hq => hq
  | _ => first | (cases ht; done) | exact h0 rfl
theorem i_set {i : Nat} {ok : Str → Bool} {fo : Str → List Str} {f nm : Str} {fs : List (Str × D)} {p : Addr} {ma : ME} {ε : XD} {ρ : Ev} {n : Nat} {P : Pn} (e : ρ[i]? = some (.own p (.obj nm fs)))
    (h : ma ε ρ n fun d n1 => ok nm = true ∧ fs.lookup f = none ∧ fs.length < 100 ∧ (if fo nm = (fs ++ [(f, d)]).map (·.1) then P.nx (ρ.set i (.own p (.done (.ins nm (fs ++ [(f, d)]))))) n1 else P.nx (ρ.set i (.own p (.obj nm (fs ++ [(f, d)])))) n1)) : mSet i ok fo f ma ε ρ n P := by
  unfold mSet; rw [e]; exact h
theorem i_self {i : Nat} {ok : Str → Bool} {f nm : Str} {fs : List (Str × D)} {p : Addr} {ε : XD} {ρ : Ev} {n : Nat} {k : DK} {d : D} (e : ρ[i]? = some (.own p (.obj nm fs))) (ho : ok nm = true) (hl : fs.lookup f = some d) (h : k d n) : mSelf i ok f ε ρ n k := by
  unfold mSelf; rw [e]
  show ok nm = true ∧ optK (fs.lookup f) _
  rw [hl]
  exact ⟨ho, h⟩
def mkS (c z : D) (ds : List D) : D := .ins "Space" [("clock", c), ("size", z), ("rows", .tup ds), ("depth", .int ds.length)]
end K15
namespace K15
open PySem PySem.Spec PyProof.Rows L2 DS
/-! Space, made of rows -/
/-- the Space of rows -/
def mkSp (a : Int) (z : Nat) (rows : List (List Int)) : D := mkS (.int a) (.int z) (eR (LA.least a (inv a) rows))
theorem rows_typed {r : D} {a : Int} {z : Nat} (h : rowsB r a z = true) : ∃ rows : List (List Int), ((elems r).map fun y => D.tup (elems y)) = eR rows ∧ ∀ x ∈ rows, LA.Ro a z x := by
  unfold rowsB at h
  rw [Bool.and_eq_true, Bool.and_eq_true] at h
  have h := h.2.2
  generalize elems r = xs at h
  induction xs with
  | nil => exact ⟨[], rfl, fun _ h => nomatch h⟩
  | cons x xs ih =>
    rw [List.all_cons, Bool.and_eq_true] at h
    obtain ⟨rows, e, hr⟩ := ih h.2
    have one : ∃ is : List Int, elems x = is.map D.int ∧ LA.Ro a z is := by
      have go : ∀ ys : List D, elems x = ys → (((ys.length : Int) == z) && ys.all fun x => isW x (.int 0) (.int (a - 1))) = true → ∃ is : List Int, elems x = is.map D.int ∧ LA.Ro a z is := fun ys e1 e2 => by
        rw [Bool.and_eq_true, List.all_eq_true] at e2
        obtain ⟨is, e3, e4⟩ := ints_of (p := fun i => 0 ≤ i ∧ i < a) ys fun y hy => by
          obtain ⟨i, e5, e6, e7⟩ := isW_int (e2.2 y hy)
          exact ⟨i, e5, e6, by omega⟩
        refine ⟨is, e1.trans e3, ?_, e4⟩
        have := beq_iff_eq.mp e2.1
        rw [e3, List.length_map] at this
        omega
      cases x with
      | lst ys => exact go ys rfl h.1
      | tup ys => exact go ys rfl h.1
      | _ => exact absurd h.1 (by intro h; cases h)
    obtain ⟨is, e1, h1⟩ := one
    refine ⟨is :: rows, ?_, fun y hy => ?_⟩
    · rw [List.map_cons, e, e1]; rfl
    · rcases List.mem_cons.mp hy with rfl | hy
      · exact h1
      · exact hr y hy
theorem c_Space {ε : XD} {c z r : D} {n : Nat} {k : DK} (hc : Pl c) (hz : Pl z) (hr : Pl2 r) (h0 : isC c = false → ε "BadClock" [("part", .str "clock")] n) (h1 : isC c = true → isW z (.int 1) (.int 400) = false → ε "BadNumber" [("part", .str "size")] n)
    (h2 : ∀ a zz : Int, c = .int a → z = .int zz → isC c = true → isW z (.int 1) (.int 400) = true → rowsB r a zz = false → ε "BadRow" [("part", .str "rows")] n)
    (h3 : ∀ (a : Int) (zz : Nat) (rows : List (List Int)), c = .int a → z = .int zz → isC c = true → 1 ≤ zz → zz ≤ 400 → ((elems r).map fun y => D.tup (elems y)) = eR rows → (∀ x ∈ rows, LA.Ro a zz x) → k (mkSp a zz rows) n) : con_Space ε [c, z, r] n k := by
  refine ⟨rfl, fun p => ?_⟩
  show m_Space ε [.own p (.obj "Space" []), .val c, .val z, .val r] n _
  unfold m_Space
  have hok : okI "Space" = true := by decide +kernel
  have hfo : foN "Space" = ([("clock" : Str), ("size" : Str), ("rows" : Str), ("depth" : Str)] : List Str) := by decide +kernel
  have e1 : (("size" : Str) == "clock") = false := by decide +kernel
  have e2 : (("rows" : Str) == "clock") = false := by decide +kernel
  have e3 : (("rows" : Str) == "size") = false := by decide +kernel
  have e4 : (("depth" : Str) == "clock") = false := by decide +kernel
  have e5 : (("depth" : Str) == "size") = false := by decide +kernel
  have e6 : (("depth" : Str) == "rows") = false := by decide +kernel
  have e7 : (("rows" : Str) == "rows") = true := by decide +kernel
  unfold mkSp mkS at h3
  refine seq_i fun R hR => ?_
  repeat first | (with_reducible first | refine i_cons ?_ | refine i_nil ?_ | refine i_args ?_ | refine i_c ?_ | refine i_op ?_ | refine i_un ?_ | refine i_call ?_ | refine i_sl ?_ | refine i_noP ?_ | refine i_ret ?_ | refine i_asg ?_ | refine i_par ?_ | refine i_if ?_ | refine i_or ?_ | refine i_bl ?_ | refine i_ifE ?_ | refine i_tru ?_ | refine i_drop ?_ | refine i_not ?_ | refine i_and ?_ | refine o_add ?_ | refine o_sub ?_ | refine o_neg ?_ | refine o_tupl ?_ | refine o_slL ?_ | refine o_name ?_ | refine o_some ?_) | ((with_reducible apply i_var); exact rfl) | ((with_reducible apply i_partV); exact rfl) | ((with_reducible refine o_lst ?_ ?_); · exact rfl) | ((with_reducible refine o_tup ?_ ?_); · exact rfl)
  refine c_need_clock hc h0 fun ec => hR _ _ ?_
  clear hR
  obtain ⟨a, rfl⟩ := isC_int ec
  refine seq_i fun R hR => ?_
  repeat first | (with_reducible first | refine i_cons ?_ | refine i_nil ?_ | refine i_args ?_ | refine i_c ?_ | refine i_op ?_ | refine i_un ?_ | refine i_call ?_ | refine i_sl ?_ | refine i_noP ?_ | refine i_ret ?_ | refine i_asg ?_ | refine i_par ?_ | refine i_if ?_ | refine i_or ?_ | refine i_bl ?_ | refine i_ifE ?_ | refine i_tru ?_ | refine i_drop ?_ | refine i_not ?_ | refine i_and ?_ | refine o_add ?_ | refine o_sub ?_ | refine o_neg ?_ | refine o_tupl ?_ | refine o_slL ?_ | refine o_name ?_ | refine o_some ?_) | ((with_reducible apply i_var); exact rfl) | ((with_reducible apply i_partV); exact rfl) | ((with_reducible refine o_lst ?_ ?_); · exact rfl) | ((with_reducible refine o_tup ?_ ?_); · exact rfl)
  rw [show c_MOST_SIZE = D.int 400 from rfl]
  refine c_need_number hz (h1 ec) fun ew => hR _ _ ?_
  clear hR
  obtain ⟨zz, rfl, z0, z1⟩ := isW_int ew
  obtain ⟨zz, rfl⟩ := Int.eq_ofNat_of_zero_le (show 0 ≤ zz by omega)
  have nr : ∀ k : DK, (∀ rows : List (List Int), ((elems r).map fun y => D.tup (elems y)) = eR rows → (∀ x ∈ rows, LA.Ro a zz x) → k (.lst (eR rows)) n) → con_need_rows ε [r, .int a, .int zz] n k := fun k hk => c_need_rows hr (h2 a zz rfl rfl ec ew) fun hb => by
    obtain ⟨rows, er, hrr⟩ := rows_typed hb
    rw [er]; exact hk rows er hrr
  have h3' := fun rows => h3 a zz rows rfl rfl ec (by omega) (by omega)
  clear h0 h1 h2 h3
  generalize ("Space" : Str) = s0 at *
  generalize ("clock" : Str) = s1 at *
  generalize ("size" : Str) = s2 at *
  generalize ("rows" : Str) = s3 at *
  generalize ("depth" : Str) = s4 at *
  refine seq_i fun R hR => i_set rfl ?_
  repeat first | (with_reducible first | refine i_cons ?_ | refine i_nil ?_ | refine i_args ?_ | refine i_c ?_ | refine i_op ?_ | refine i_un ?_ | refine i_call ?_ | refine i_sl ?_ | refine i_noP ?_ | refine i_ret ?_ | refine i_asg ?_ | refine i_par ?_ | refine i_if ?_ | refine i_or ?_ | refine i_bl ?_ | refine i_ifE ?_ | refine i_tru ?_ | refine i_drop ?_ | refine i_not ?_ | refine i_and ?_ | refine o_add ?_ | refine o_sub ?_ | refine o_neg ?_ | refine o_tupl ?_ | refine o_slL ?_ | refine o_name ?_ | refine o_some ?_) | ((with_reducible apply i_var); exact rfl) | ((with_reducible apply i_partV); exact rfl) | ((with_reducible refine o_lst ?_ ?_); · exact rfl) | ((with_reducible refine o_tup ?_ ?_); · exact rfl)
  refine ⟨hok, rfl, by decide, ?_⟩
  rw [if_neg (by rw [hfo]; intro h; exact absurd (congrArg List.length h) (by simp))]
  refine hR _ _ ?_
  clear hR
  refine seq_i fun R hR => i_set rfl ?_
  repeat first | (with_reducible first | refine i_cons ?_ | refine i_nil ?_ | refine i_args ?_ | refine i_c ?_ | refine i_op ?_ | refine i_un ?_ | refine i_call ?_ | refine i_sl ?_ | refine i_noP ?_ | refine i_ret ?_ | refine i_asg ?_ | refine i_par ?_ | refine i_if ?_ | refine i_or ?_ | refine i_bl ?_ | refine i_ifE ?_ | refine i_tru ?_ | refine i_drop ?_ | refine i_not ?_ | refine i_and ?_ | refine o_add ?_ | refine o_sub ?_ | refine o_neg ?_ | refine o_tupl ?_ | refine o_slL ?_ | refine o_name ?_ | refine o_some ?_) | ((with_reducible apply i_var); exact rfl) | ((with_reducible apply i_partV); exact rfl) | ((with_reducible refine o_lst ?_ ?_); · exact rfl) | ((with_reducible refine o_tup ?_ ?_); · exact rfl)
  refine ⟨hok, by rw [List.nil_append, List.lookup_cons, e1]; rfl, (by show 1 < 100; decide), ?_⟩
  rw [if_neg (by rw [hfo]; intro h; exact absurd (congrArg List.length h) (by simp))]
  refine hR _ _ ?_
  clear hR
  refine seq_i fun R hR => i_set rfl ?_
  repeat first | (with_reducible first | refine i_cons ?_ | refine i_nil ?_ | refine i_args ?_ | refine i_c ?_ | refine i_op ?_ | refine i_un ?_ | refine i_call ?_ | refine i_sl ?_ | refine i_noP ?_ | refine i_ret ?_ | refine i_asg ?_ | refine i_par ?_ | refine i_if ?_ | refine i_or ?_ | refine i_bl ?_ | refine i_ifE ?_ | refine i_tru ?_ | refine i_drop ?_ | refine i_not ?_ | refine i_and ?_ | refine o_add ?_ | refine o_sub ?_ | refine o_neg ?_ | refine o_tupl ?_ | refine o_slL ?_ | refine o_name ?_ | refine o_some ?_) | ((with_reducible apply i_var); exact rfl) | ((with_reducible apply i_partV); exact rfl) | ((with_reducible refine o_lst ?_ ?_); · exact rfl) | ((with_reducible refine o_tup ?_ ?_); · exact rfl)
  refine nr _ fun rows er hrr => ?_
  repeat first | (with_reducible first | refine i_cons ?_ | refine i_nil ?_ | refine i_args ?_ | refine i_c ?_ | refine i_op ?_ | refine i_un ?_ | refine i_call ?_ | refine i_sl ?_ | refine i_noP ?_ | refine i_ret ?_ | refine i_asg ?_ | refine i_par ?_ | refine i_if ?_ | refine i_or ?_ | refine i_bl ?_ | refine i_ifE ?_ | refine i_tru ?_ | refine i_drop ?_ | refine i_not ?_ | refine i_and ?_ | refine o_add ?_ | refine o_sub ?_ | refine o_neg ?_ | refine o_tupl ?_ | refine o_slL ?_ | refine o_name ?_ | refine o_some ?_) | ((with_reducible apply i_var); exact rfl) | ((with_reducible apply i_partV); exact rfl) | ((with_reducible refine o_lst ?_ ?_); · exact rfl) | ((with_reducible refine o_tup ?_ ?_); · exact rfl)
  refine c_least_in ec (z := zz) (by omega) (.inl rfl) hrr ?_
  have hk := h3' rows er hrr
  generalize eR (LA.least a (inv a) rows) = ds at hk ⊢
  refine ⟨hok, by rw [List.nil_append, List.singleton_append, List.lookup_cons, e2, List.lookup_cons, e3]; rfl, (by show 2 < 100; decide), ?_⟩
  rw [if_neg (by rw [hfo]; intro h; exact absurd (congrArg List.length h) (by simp))]
  refine hR _ _ ?_
  clear hR
  refine i_set rfl (i_args (i_cons (i_self (d := .tup ds) rfl hok (by rw [List.nil_append, List.singleton_append, List.cons_append, List.singleton_append, List.lookup_cons, e2, List.lookup_cons, e3, List.lookup_cons, e7]) ?_)))
  repeat first | (with_reducible first | refine i_cons ?_ | refine i_nil ?_ | refine i_args ?_ | refine i_c ?_ | refine i_op ?_ | refine i_un ?_ | refine i_call ?_ | refine i_sl ?_ | refine i_noP ?_ | refine i_ret ?_ | refine i_asg ?_ | refine i_par ?_ | refine i_if ?_ | refine i_or ?_ | refine i_bl ?_ | refine i_ifE ?_ | refine i_tru ?_ | refine i_drop ?_ | refine i_not ?_ | refine i_and ?_ | refine o_add ?_ | refine o_sub ?_ | refine o_neg ?_ | refine o_tupl ?_ | refine o_slL ?_ | refine o_name ?_ | refine o_some ?_) | ((with_reducible apply i_var); exact rfl) | ((with_reducible apply i_partV); exact rfl) | ((with_reducible refine o_lst ?_ ?_); · exact rfl) | ((with_reducible refine o_tup ?_ ?_); · exact rfl)
  rw [ek_lenT]
  refine ⟨hok, by rw [List.nil_append, List.singleton_append, List.cons_append, List.singleton_append, List.lookup_cons, e4, List.lookup_cons, e5, List.lookup_cons, e6]; rfl, by simp, ?_⟩
  rw [if_pos (by rw [hfo]; rfl)]
  exact ⟨_, rfl, hk⟩
theorem isW_of {i a b : Int} (h0 : a ≤ i) (h1 : i ≤ b) : isW (.int i) (.int a) (.int b) = true := by
  show (decide (a ≤ i) && decide (i ≤ b)) = true
  rw [decide_eq_true h0, decide_eq_true h1]; rfl
theorem rowB_T {a : Int} {z : Nat} {xs : List Int} (h : LA.Ro a z xs) : rowB (eT xs) a z = true := by
  show (((xs.map D.int).length : Int) == z && _) = true
  rw [List.length_map, h.1, show ((z : Int) == z) = true from beq_self_eq_true _, Bool.true_and, List.all_map]
  exact List.all_eq_true.mpr fun x hx => isW_of (h.2 x hx).1 (by have := (h.2 x hx).2; omega)
theorem pl_ints {is : List Int} : ∀ x ∈ is.map D.int, Pl x := fun x hx => by
  obtain ⟨i, _, rfl⟩ := List.mem_map.mp hx
  exact pl_int i
/-- rows as tuples in a list or a tuple -/
theorem sp_new {ε : XD} {a : Int} {z : Nat} {rows : List (List Int)} {X : D} {n : Nat} {k : DK} (ha : isC (.int a) = true) (hz : 1 ≤ z ∧ z ≤ 400) (hX : X = .lst (eR rows) ∨ X = .tup (eR rows)) (hl : rows.length ≤ 400) (hr : ∀ r ∈ rows, LA.Ro a z r) (hk : k (mkSp a z rows) n) :
    con_Space ε [.int a, .int z, X] n k := by
  have ex : elems X = eR rows := by rcases hX with rfl | rfl <;> rfl
  have le : (eR rows).length = rows.length := List.length_map _
  have em : ((elems X).map fun y => D.tup (elems y)) = eR rows := by
    rw [ex, List.map_map]; rfl
  have pl : Pl2 X := ⟨by rcases hX with rfl | rfl <;> exact ⟨_, rfl⟩, by rw [ex, le]; omega, fun r h => by
    rw [ex] at h
    obtain ⟨x, hx, rfl⟩ := List.mem_map.mp h
    exact ⟨pl_tup _, pl_ints, by show (x.map D.int).length ≤ 1000; rw [List.length_map, (hr x hx).1]; omega⟩⟩
  have rb : rowsB X a z = true := by
    unfold rowsB
    rw [ex, le, show isSeq X = true by rcases hX with rfl | rfl <;> rfl, decide_eq_false (by omega)]
    show (eR rows).all (fun r => rowB r a z) = true
    exact List.all_eq_true.mpr fun r h => by
      obtain ⟨x, hx, rfl⟩ := List.mem_map.mp h
      exact rowB_T (hr x hx)
  refine c_Space (pl_int _) (pl_int _) pl (fun e => ff ha e) (fun _ e => ff (isW_of (by omega) (by omega)) e) (fun a' z' h1 h2 _ _ e3 => by cases h1; cases h2; exact ff rb e3) fun a' z' rows' h1 h2 _ _ _ e4 h5 => ?_
  cases h1
  have : z' = z := by injection h2 with h2; omega
  subst this
  have er : eR rows' = eR rows := e4.symm.trans em
  have : rows' = rows := by
    have inj : ∀ xs ys : List (List Int), eR xs = eR ys → xs = ys := fun xs => by
      induction xs with
      | nil => intro ys h; cases ys with
        | nil => rfl
        | cons y ys => cases h
      | cons x xs ih => intro ys h; cases ys with
        | nil => cases h
        | cons y ys =>
          rw [eR, eR, List.map_cons, List.map_cons] at h
          injection h with h1 h2
          have h1 : x.map D.int = y.map D.int := by injection h1
          have : x = y := by
            have := congrArg intsOf h1
            rw [DS.ints_map, DS.ints_map] at this
            exact Option.some.inj this
          rw [this, ih ys h2]
    exact inj _ _ er
  subst this
  exact hk
theorem le_red {a : Int} {z : Nat} {rows : List (List Int)} (ha : isC (.int a) = true) (hr : ∀ r ∈ rows, LA.Ro a z r) : LA.Red a z (LA.leastF a (inv a) rows) := by
  have := isC_rng ha
  exact LA.least_red (by omega) (iv_inv ha) hr
theorem le_ro {a : Int} {z : Nat} {rows : List (List Int)} (ha : isC (.int a) = true) (hr : ∀ r ∈ rows, LA.Ro a z r) : ∀ r ∈ LA.least a (inv a) rows, LA.Ro a z r := (le_red ha hr).rr
theorem le_len {a : Int} {z : Nat} {rows : List (List Int)} (ha : isC (.int a) = true) (hr : ∀ r ∈ rows, LA.Ro a z r) : (LA.least a (inv a) rows).length ≤ z := by
  unfold LA.least LA.rowsF; rw [List.length_map]; exact red_len (le_red ha hr)
theorem le_le {a : Int} {z : Nat} {rows : List (List Int)} (ha : isC (.int a) = true) (hr : ∀ r ∈ rows, LA.Ro a z r) : LA.least a (inv a) (LA.least a (inv a) rows) = LA.least a (inv a) rows := by
  have := isC_rng ha
  show LA.rowsF _ = LA.rowsF _
  rw [LA.least_least (by omega) (iv_inv ha) hr]
/-- space_in: rows as tuples in a list -/
theorem c_space_in {ε : XD} {a : Int} {z : Nat} {rows : List (List Int)} {X : D} {n : Nat} {k : DK} (ha : isC (.int a) = true) (hz : 1 ≤ z ∧ z ≤ 400) (hX : X = .lst (eR rows) ∨ X = .tup (eR rows)) (hr : ∀ r ∈ rows, LA.Ro a z r) (hk : k (mkSp a z rows) n) :
    con_space_in ε [.int a, .int z, X] n k := by
  refine ⟨rfl, ?_⟩
  show m_space_in ε [.val (.int a), .val (.int z), .val X] n _
  unfold m_space_in
  repeat first | (with_reducible first | refine i_cons ?_ | refine i_nil ?_ | refine i_args ?_ | refine i_c ?_ | refine i_op ?_ | refine i_un ?_ | refine i_call ?_ | refine i_sl ?_ | refine i_noP ?_ | refine i_ret ?_ | refine i_asg ?_ | refine i_par ?_ | refine i_if ?_ | refine i_or ?_ | refine i_bl ?_ | refine i_ifE ?_ | refine i_tru ?_ | refine i_drop ?_ | refine i_not ?_ | refine i_and ?_ | refine o_add ?_ | refine o_sub ?_ | refine o_neg ?_ | refine o_tupl ?_ | refine o_slL ?_ | refine o_name ?_ | refine o_some ?_ | refine i_seq ?_ | refine i_next ?_ | refine i_retN ?_ | refine i_callV ?_ | refine i_parO ?_ | refine o_setK0 ?_ | refine i_eqI ?_ | refine i_par3 ?_ | refine i_notV ?_ | refine i_andV ?_ | refine i_orV ?_ | refine i_un1 ?_ | refine i_dict0 ?_ | refine i_partA ?_ | refine o_len ?_ | refine o_lenT ?_ | refine o_int ?_ | refine o_cmp ?_ | refine o_eqX ?_ | refine o_neX ?_ | refine o_list ?_ | refine o_tupT ?_ | refine o_truth ?_ | refine o_tg2 ?_) | ((with_reducible apply i_var); exact rfl) | ((with_reducible apply i_partV); exact rfl) | ((with_reducible refine o_lst ?_ ?_); · exact rfl) | ((with_reducible refine o_tup ?_ ?_); · exact rfl) | ((with_reducible refine o_mul ?_ ?_); · (first | exact .inl ⟨by omega, by omega⟩ | exact .inr ⟨by omega, by omega⟩)) | ((with_reducible refine o_mod ?_ ?_); · omega) | ((with_reducible refine o_fdiv ?_ ?_); · exact ⟨by omega, by omega⟩)
  refine c_least_in ha hz.2 hX hr ?_
  repeat first | (with_reducible first | refine i_cons ?_ | refine i_nil ?_ | refine i_args ?_ | refine i_c ?_ | refine i_op ?_ | refine i_un ?_ | refine i_call ?_ | refine i_sl ?_ | refine i_noP ?_ | refine i_ret ?_ | refine i_asg ?_ | refine i_par ?_ | refine i_if ?_ | refine i_or ?_ | refine i_bl ?_ | refine i_ifE ?_ | refine i_tru ?_ | refine i_drop ?_ | refine i_not ?_ | refine i_and ?_ | refine o_add ?_ | refine o_sub ?_ | refine o_neg ?_ | refine o_tupl ?_ | refine o_slL ?_ | refine o_name ?_ | refine o_some ?_ | refine i_seq ?_ | refine i_next ?_ | refine i_retN ?_ | refine i_callV ?_ | refine i_parO ?_ | refine o_setK0 ?_ | refine i_eqI ?_ | refine i_par3 ?_ | refine i_notV ?_ | refine i_andV ?_ | refine i_orV ?_ | refine i_un1 ?_ | refine i_dict0 ?_ | refine i_partA ?_ | refine o_len ?_ | refine o_lenT ?_ | refine o_int ?_ | refine o_cmp ?_ | refine o_eqX ?_ | refine o_neX ?_ | refine o_list ?_ | refine o_tupT ?_ | refine o_truth ?_ | refine o_tg2 ?_) | ((with_reducible apply i_var); exact rfl) | ((with_reducible apply i_partV); exact rfl) | ((with_reducible refine o_lst ?_ ?_); · exact rfl) | ((with_reducible refine o_tup ?_ ?_); · exact rfl) | ((with_reducible refine o_mul ?_ ?_); · (first | exact .inl ⟨by omega, by omega⟩ | exact .inr ⟨by omega, by omega⟩)) | ((with_reducible refine o_mod ?_ ?_); · omega) | ((with_reducible refine o_fdiv ?_ ?_); · exact ⟨by omega, by omega⟩)
  refine sp_new ha hz (.inr rfl) (Nat.le_trans (le_len ha hr) hz.2) (le_ro ha hr) ?_
  unfold mkSp
  rw [le_le ha hr]
  exact hk
theorem fld_clock {c z : D} {ds : List D} {q : D → Prop} (h : q c) : okI "Space" = true ∧ optK (List.lookup ("clock" : Str) [(("clock" : Str), c), ("size", z), ("rows", .tup ds), ("depth", .int ds.length)]) q := by
  refine ⟨by decide +kernel, ?_⟩
  rw [List.lookup_cons, show (("clock" : Str) == "clock") = true by decide +kernel]
  exact h
theorem fld_size {c z : D} {ds : List D} {q : D → Prop} (h : q z) : okI "Space" = true ∧ optK (List.lookup ("size" : Str) [(("clock" : Str), c), ("size", z), ("rows", .tup ds), ("depth", .int ds.length)]) q := by
  refine ⟨by decide +kernel, ?_⟩
  rw [List.lookup_cons, show (("size" : Str) == "clock") = false by decide +kernel, List.lookup_cons, show (("size" : Str) == "size") = true by decide +kernel]
  exact h
theorem fld_rows {c z : D} {ds : List D} {q : D → Prop} (h : q (.tup ds)) : okI "Space" = true ∧ optK (List.lookup ("rows" : Str) [(("clock" : Str), c), ("size", z), ("rows", .tup ds), ("depth", .int ds.length)]) q := by
  refine ⟨by decide +kernel, ?_⟩
  rw [List.lookup_cons, show (("rows" : Str) == "clock") = false by decide +kernel, List.lookup_cons, show (("rows" : Str) == "size") = false by decide +kernel, List.lookup_cons, show (("rows" : Str) == "rows") = true by decide +kernel]
  exact h
theorem fld_depth {c z : D} {ds : List D} {q : D → Prop} (h : q (.int ds.length)) : okI "Space" = true ∧ optK (List.lookup ("depth" : Str) [(("clock" : Str), c), ("size", z), ("rows", .tup ds), ("depth", .int ds.length)]) q := by
  refine ⟨by decide +kernel, ?_⟩
  rw [List.lookup_cons, show (("depth" : Str) == "clock") = false by decide +kernel, List.lookup_cons, show (("depth" : Str) == "size") = false by decide +kernel, List.lookup_cons, show (("depth" : Str) == "rows") = false by decide +kernel, List.lookup_cons, show (("depth" : Str) == "depth") = true by decide +kernel]
  exact h
theorem i_fld {ok : Str → Bool} {f : Str} {i : Nat} {nm : Str} {fs : List (Str × D)} {ε : XD} {ρ : Ev} {n : Nat} {k : DK} (e : ρ[i]? = some (.val (.ins nm fs))) (h : ok nm = true ∧ optK (fs.lookup f) fun y => k y n) : mFld ok f (mVar i) ε ρ n k := by
  unfold mFld
  exact i_var e h
/-! == of Spaces -/
def nS : En (Int × (Nat × List (List Int))) := ⟨fun p => .tup [.int p.1, .int p.2.1, .tup (p.2.2.map (nT nI).e)], fun p => .tuple [.int p.1, .int p.2.1, .tuple (p.2.2.map (nT nI).py)], 3,
  fun p => by simp only [pyD, pyDs]; rw [pyDs_map (nT nI).h1]; rfl,
  fun p => by simp only [PyData.canLay0, PyData.canLayAll0]; rw [lay_all (nT nI).h2]; rfl,
  fun p => by
    simp only [PyData.depth, PyData.depthAll]
    have := dep_all (nT nI).h3 p.2.2
    have h : (nT nI).dp = 1 := rfl
    rw [h] at this
    omega,
  fun p q => by
    simp only [PyData.eqv, PyData.eqvAll, Bool.and_true]
    rw [eqv_all (nT nI).h4]
    obtain ⟨p1, p2, p3⟩ := p
    obtain ⟨q1, q2, q3⟩ := q
    by_cases h1 : p1 = q1 <;> by_cases h2 : p2 = q2 <;> by_cases h3 : p3 = q3 <;> simp [h1, h2, h3]
    all_goals (intro h; exact absurd (by omega) h2)⟩
theorem c_eqS {ε : XD} {a b : Int} {z y : Nat} {R Q : List (List Int)} {n : Nat} {k : DK} (hk : k (.bl (decide ((a, z, R) = (b, y, Q)))) n) : con_Space___eq__ ε [mkS (.int a) (.int z) (eR R), mkS (.int b) (.int y) (eR Q)] n k := by
  refine ⟨rfl, ?_⟩
  show m_Space___eq__ noX [.val (mkS (.int a) (.int z) (eR R)), .val (mkS (.int b) (.int y) (eR Q))] n _
  unfold m_Space___eq__
  have is1 : ∀ (ε : XD) (q : DK), q (.bl true) n → mIsI isi_Space (mVar 1) ε [.val (mkS (.int a) (.int z) (eR R)), .val (mkS (.int b) (.int y) (eR Q))] n q := fun ε q h => by
    unfold mIsI
    refine i_var rfl ?_
    show match isi_Space "Space" with | some b => q (.bl b) n | none => False
    rw [show isi_Space "Space" = some true by decide +kernel]
    exact h
  repeat first | (with_reducible first | refine i_cons ?_ | refine i_nil ?_ | refine i_args ?_ | refine i_c ?_ | refine i_op ?_ | refine i_un ?_ | refine i_call ?_ | refine i_sl ?_ | refine i_noP ?_ | refine i_ret ?_ | refine i_asg ?_ | refine i_par ?_ | refine i_if ?_ | refine i_or ?_ | refine i_bl ?_ | refine i_ifE ?_ | refine i_tru ?_ | refine i_drop ?_ | refine i_not ?_ | refine i_and ?_ | refine o_add ?_ | refine o_sub ?_ | refine o_neg ?_ | refine o_tupl ?_ | refine o_slL ?_ | refine o_name ?_ | refine o_some ?_ | refine i_seq ?_ | refine i_next ?_ | refine i_retN ?_ | refine i_callV ?_ | refine i_parO ?_ | refine o_setK0 ?_ | refine i_eqI ?_ | refine i_par3 ?_ | refine i_notV ?_ | refine i_andV ?_ | refine i_orV ?_ | refine i_un1 ?_ | refine i_dict0 ?_ | refine i_partA ?_ | refine o_len ?_ | refine o_lenT ?_ | refine o_int ?_ | refine o_cmp ?_ | refine o_eqX ?_ | refine o_neX ?_ | refine o_list ?_ | refine o_tupT ?_ | refine o_truth ?_ | refine o_tg2 ?_) | ((with_reducible apply i_var); exact rfl) | ((with_reducible apply i_partV); exact rfl) | ((with_reducible refine o_lst ?_ ?_); · exact rfl) | ((with_reducible refine o_tup ?_ ?_); · exact rfl) | ((with_reducible refine o_mul ?_ ?_); · (first | exact .inl ⟨by omega, by omega⟩ | exact .inr ⟨by omega, by omega⟩)) | ((with_reducible refine o_mod ?_ ?_); · omega) | ((with_reducible refine o_fdiv ?_ ?_); · exact ⟨by omega, by omega⟩)
  refine is1 _ _ ?_
  repeat first | (with_reducible first | refine i_cons ?_ | refine i_nil ?_ | refine i_args ?_ | refine i_c ?_ | refine i_op ?_ | refine i_un ?_ | refine i_call ?_ | refine i_sl ?_ | refine i_noP ?_ | refine i_ret ?_ | refine i_asg ?_ | refine i_par ?_ | refine i_if ?_ | refine i_or ?_ | refine i_bl ?_ | refine i_ifE ?_ | refine i_tru ?_ | refine i_drop ?_ | refine i_not ?_ | refine i_and ?_ | refine o_add ?_ | refine o_sub ?_ | refine o_neg ?_ | refine o_tupl ?_ | refine o_slL ?_ | refine o_name ?_ | refine o_some ?_ | refine i_seq ?_ | refine i_next ?_ | refine i_retN ?_ | refine i_callV ?_ | refine i_parO ?_ | refine o_setK0 ?_ | refine i_eqI ?_ | refine i_par3 ?_ | refine i_notV ?_ | refine i_andV ?_ | refine i_orV ?_ | refine i_un1 ?_ | refine i_dict0 ?_ | refine i_partA ?_ | refine o_len ?_ | refine o_lenT ?_ | refine o_int ?_ | refine o_cmp ?_ | refine o_eqX ?_ | refine o_neX ?_ | refine o_list ?_ | refine o_tupT ?_ | refine o_truth ?_ | refine o_tg2 ?_) | ((with_reducible apply i_var); exact rfl) | ((with_reducible apply i_partV); exact rfl) | ((with_reducible refine o_lst ?_ ?_); · exact rfl) | ((with_reducible refine o_tup ?_ ?_); · exact rfl) | ((with_reducible refine o_mul ?_ ?_); · (first | exact .inl ⟨by omega, by omega⟩ | exact .inr ⟨by omega, by omega⟩)) | ((with_reducible refine o_mod ?_ ?_); · omega) | ((with_reducible refine o_fdiv ?_ ?_); · exact ⟨by omega, by omega⟩)
  refine ite_F rfl ?_
  repeat first | (with_reducible first | refine i_cons ?_ | refine i_nil ?_ | refine i_args ?_ | refine i_c ?_ | refine i_op ?_ | refine i_un ?_ | refine i_call ?_ | refine i_sl ?_ | refine i_noP ?_ | refine i_ret ?_ | refine i_asg ?_ | refine i_par ?_ | refine i_if ?_ | refine i_or ?_ | refine i_bl ?_ | refine i_ifE ?_ | refine i_tru ?_ | refine i_drop ?_ | refine i_not ?_ | refine i_and ?_ | refine o_add ?_ | refine o_sub ?_ | refine o_neg ?_ | refine o_tupl ?_ | refine o_slL ?_ | refine o_name ?_ | refine o_some ?_ | refine i_seq ?_ | refine i_next ?_ | refine i_retN ?_ | refine i_callV ?_ | refine i_parO ?_ | refine o_setK0 ?_ | refine i_eqI ?_ | refine i_par3 ?_ | refine i_notV ?_ | refine i_andV ?_ | refine i_orV ?_ | refine i_un1 ?_ | refine i_dict0 ?_ | refine i_partA ?_ | refine o_len ?_ | refine o_lenT ?_ | refine o_int ?_ | refine o_cmp ?_ | refine o_eqX ?_ | refine o_neX ?_ | refine o_list ?_ | refine o_tupT ?_ | refine o_truth ?_ | refine o_tg2 ?_) | ((with_reducible apply i_var); exact rfl) | ((with_reducible apply i_partV); exact rfl) | ((with_reducible refine o_lst ?_ ?_); · exact rfl) | ((with_reducible refine o_tup ?_ ?_); · exact rfl) | ((with_reducible refine o_mul ?_ ?_); · (first | exact .inl ⟨by omega, by omega⟩ | exact .inr ⟨by omega, by omega⟩)) | ((with_reducible refine o_mod ?_ ?_); · omega) | ((with_reducible refine o_fdiv ?_ ?_); · exact ⟨by omega, by omega⟩)
  refine i_fld rfl (fld_clock ?_)
  repeat first | (with_reducible first | refine i_cons ?_ | refine i_nil ?_ | refine i_args ?_ | refine i_c ?_ | refine i_op ?_ | refine i_un ?_ | refine i_call ?_ | refine i_sl ?_ | refine i_noP ?_ | refine i_ret ?_ | refine i_asg ?_ | refine i_par ?_ | refine i_if ?_ | refine i_or ?_ | refine i_bl ?_ | refine i_ifE ?_ | refine i_tru ?_ | refine i_drop ?_ | refine i_not ?_ | refine i_and ?_ | refine o_add ?_ | refine o_sub ?_ | refine o_neg ?_ | refine o_tupl ?_ | refine o_slL ?_ | refine o_name ?_ | refine o_some ?_ | refine i_seq ?_ | refine i_next ?_ | refine i_retN ?_ | refine i_callV ?_ | refine i_parO ?_ | refine o_setK0 ?_ | refine i_eqI ?_ | refine i_par3 ?_ | refine i_notV ?_ | refine i_andV ?_ | refine i_orV ?_ | refine i_un1 ?_ | refine i_dict0 ?_ | refine i_partA ?_ | refine o_len ?_ | refine o_lenT ?_ | refine o_int ?_ | refine o_cmp ?_ | refine o_eqX ?_ | refine o_neX ?_ | refine o_list ?_ | refine o_tupT ?_ | refine o_truth ?_ | refine o_tg2 ?_) | ((with_reducible apply i_var); exact rfl) | ((with_reducible apply i_partV); exact rfl) | ((with_reducible refine o_lst ?_ ?_); · exact rfl) | ((with_reducible refine o_tup ?_ ?_); · exact rfl) | ((with_reducible refine o_mul ?_ ?_); · (first | exact .inl ⟨by omega, by omega⟩ | exact .inr ⟨by omega, by omega⟩)) | ((with_reducible refine o_mod ?_ ?_); · omega) | ((with_reducible refine o_fdiv ?_ ?_); · exact ⟨by omega, by omega⟩)
  refine i_fld rfl (fld_size ?_)
  repeat first | (with_reducible first | refine i_cons ?_ | refine i_nil ?_ | refine i_args ?_ | refine i_c ?_ | refine i_op ?_ | refine i_un ?_ | refine i_call ?_ | refine i_sl ?_ | refine i_noP ?_ | refine i_ret ?_ | refine i_asg ?_ | refine i_par ?_ | refine i_if ?_ | refine i_or ?_ | refine i_bl ?_ | refine i_ifE ?_ | refine i_tru ?_ | refine i_drop ?_ | refine i_not ?_ | refine i_and ?_ | refine o_add ?_ | refine o_sub ?_ | refine o_neg ?_ | refine o_tupl ?_ | refine o_slL ?_ | refine o_name ?_ | refine o_some ?_ | refine i_seq ?_ | refine i_next ?_ | refine i_retN ?_ | refine i_callV ?_ | refine i_parO ?_ | refine o_setK0 ?_ | refine i_eqI ?_ | refine i_par3 ?_ | refine i_notV ?_ | refine i_andV ?_ | refine i_orV ?_ | refine i_un1 ?_ | refine i_dict0 ?_ | refine i_partA ?_ | refine o_len ?_ | refine o_lenT ?_ | refine o_int ?_ | refine o_cmp ?_ | refine o_eqX ?_ | refine o_neX ?_ | refine o_list ?_ | refine o_tupT ?_ | refine o_truth ?_ | refine o_tg2 ?_) | ((with_reducible apply i_var); exact rfl) | ((with_reducible apply i_partV); exact rfl) | ((with_reducible refine o_lst ?_ ?_); · exact rfl) | ((with_reducible refine o_tup ?_ ?_); · exact rfl) | ((with_reducible refine o_mul ?_ ?_); · (first | exact .inl ⟨by omega, by omega⟩ | exact .inr ⟨by omega, by omega⟩)) | ((with_reducible refine o_mod ?_ ?_); · omega) | ((with_reducible refine o_fdiv ?_ ?_); · exact ⟨by omega, by omega⟩)
  refine i_fld rfl (fld_rows ?_)
  repeat first | (with_reducible first | refine i_cons ?_ | refine i_nil ?_ | refine i_args ?_ | refine i_c ?_ | refine i_op ?_ | refine i_un ?_ | refine i_call ?_ | refine i_sl ?_ | refine i_noP ?_ | refine i_ret ?_ | refine i_asg ?_ | refine i_par ?_ | refine i_if ?_ | refine i_or ?_ | refine i_bl ?_ | refine i_ifE ?_ | refine i_tru ?_ | refine i_drop ?_ | refine i_not ?_ | refine i_and ?_ | refine o_add ?_ | refine o_sub ?_ | refine o_neg ?_ | refine o_tupl ?_ | refine o_slL ?_ | refine o_name ?_ | refine o_some ?_ | refine i_seq ?_ | refine i_next ?_ | refine i_retN ?_ | refine i_callV ?_ | refine i_parO ?_ | refine o_setK0 ?_ | refine i_eqI ?_ | refine i_par3 ?_ | refine i_notV ?_ | refine i_andV ?_ | refine i_orV ?_ | refine i_un1 ?_ | refine i_dict0 ?_ | refine i_partA ?_ | refine o_len ?_ | refine o_lenT ?_ | refine o_int ?_ | refine o_cmp ?_ | refine o_eqX ?_ | refine o_neX ?_ | refine o_list ?_ | refine o_tupT ?_ | refine o_truth ?_ | refine o_tg2 ?_) | ((with_reducible apply i_var); exact rfl) | ((with_reducible apply i_partV); exact rfl) | ((with_reducible refine o_lst ?_ ?_); · exact rfl) | ((with_reducible refine o_tup ?_ ?_); · exact rfl) | ((with_reducible refine o_mul ?_ ?_); · (first | exact .inl ⟨by omega, by omega⟩ | exact .inr ⟨by omega, by omega⟩)) | ((with_reducible refine o_mod ?_ ?_); · omega) | ((with_reducible refine o_fdiv ?_ ?_); · exact ⟨by omega, by omega⟩)
  refine i_fld rfl (fld_clock ?_)
  repeat first | (with_reducible first | refine i_cons ?_ | refine i_nil ?_ | refine i_args ?_ | refine i_c ?_ | refine i_op ?_ | refine i_un ?_ | refine i_call ?_ | refine i_sl ?_ | refine i_noP ?_ | refine i_ret ?_ | refine i_asg ?_ | refine i_par ?_ | refine i_if ?_ | refine i_or ?_ | refine i_bl ?_ | refine i_ifE ?_ | refine i_tru ?_ | refine i_drop ?_ | refine i_not ?_ | refine i_and ?_ | refine o_add ?_ | refine o_sub ?_ | refine o_neg ?_ | refine o_tupl ?_ | refine o_slL ?_ | refine o_name ?_ | refine o_some ?_ | refine i_seq ?_ | refine i_next ?_ | refine i_retN ?_ | refine i_callV ?_ | refine i_parO ?_ | refine o_setK0 ?_ | refine i_eqI ?_ | refine i_par3 ?_ | refine i_notV ?_ | refine i_andV ?_ | refine i_orV ?_ | refine i_un1 ?_ | refine i_dict0 ?_ | refine i_partA ?_ | refine o_len ?_ | refine o_lenT ?_ | refine o_int ?_ | refine o_cmp ?_ | refine o_eqX ?_ | refine o_neX ?_ | refine o_list ?_ | refine o_tupT ?_ | refine o_truth ?_ | refine o_tg2 ?_) | ((with_reducible apply i_var); exact rfl) | ((with_reducible apply i_partV); exact rfl) | ((with_reducible refine o_lst ?_ ?_); · exact rfl) | ((with_reducible refine o_tup ?_ ?_); · exact rfl) | ((with_reducible refine o_mul ?_ ?_); · (first | exact .inl ⟨by omega, by omega⟩ | exact .inr ⟨by omega, by omega⟩)) | ((with_reducible refine o_mod ?_ ?_); · omega) | ((with_reducible refine o_fdiv ?_ ?_); · exact ⟨by omega, by omega⟩)
  refine i_fld rfl (fld_size ?_)
  repeat first | (with_reducible first | refine i_cons ?_ | refine i_nil ?_ | refine i_args ?_ | refine i_c ?_ | refine i_op ?_ | refine i_un ?_ | refine i_call ?_ | refine i_sl ?_ | refine i_noP ?_ | refine i_ret ?_ | refine i_asg ?_ | refine i_par ?_ | refine i_if ?_ | refine i_or ?_ | refine i_bl ?_ | refine i_ifE ?_ | refine i_tru ?_ | refine i_drop ?_ | refine i_not ?_ | refine i_and ?_ | refine o_add ?_ | refine o_sub ?_ | refine o_neg ?_ | refine o_tupl ?_ | refine o_slL ?_ | refine o_name ?_ | refine o_some ?_ | refine i_seq ?_ | refine i_next ?_ | refine i_retN ?_ | refine i_callV ?_ | refine i_parO ?_ | refine o_setK0 ?_ | refine i_eqI ?_ | refine i_par3 ?_ | refine i_notV ?_ | refine i_andV ?_ | refine i_orV ?_ | refine i_un1 ?_ | refine i_dict0 ?_ | refine i_partA ?_ | refine o_len ?_ | refine o_lenT ?_ | refine o_int ?_ | refine o_cmp ?_ | refine o_eqX ?_ | refine o_neX ?_ | refine o_list ?_ | refine o_tupT ?_ | refine o_truth ?_ | refine o_tg2 ?_) | ((with_reducible apply i_var); exact rfl) | ((with_reducible apply i_partV); exact rfl) | ((with_reducible refine o_lst ?_ ?_); · exact rfl) | ((with_reducible refine o_tup ?_ ?_); · exact rfl) | ((with_reducible refine o_mul ?_ ?_); · (first | exact .inl ⟨by omega, by omega⟩ | exact .inr ⟨by omega, by omega⟩)) | ((with_reducible refine o_mod ?_ ?_); · omega) | ((with_reducible refine o_fdiv ?_ ?_); · exact ⟨by omega, by omega⟩)
  refine i_fld rfl (fld_rows ?_)
  repeat first | (with_reducible first | refine i_cons ?_ | refine i_nil ?_ | refine i_args ?_ | refine i_c ?_ | refine i_op ?_ | refine i_un ?_ | refine i_call ?_ | refine i_sl ?_ | refine i_noP ?_ | refine i_ret ?_ | refine i_asg ?_ | refine i_par ?_ | refine i_if ?_ | refine i_or ?_ | refine i_bl ?_ | refine i_ifE ?_ | refine i_tru ?_ | refine i_drop ?_ | refine i_not ?_ | refine i_and ?_ | refine o_add ?_ | refine o_sub ?_ | refine o_neg ?_ | refine o_tupl ?_ | refine o_slL ?_ | refine o_name ?_ | refine o_some ?_ | refine i_seq ?_ | refine i_next ?_ | refine i_retN ?_ | refine i_callV ?_ | refine i_parO ?_ | refine o_setK0 ?_ | refine i_eqI ?_ | refine i_par3 ?_ | refine i_notV ?_ | refine i_andV ?_ | refine i_orV ?_ | refine i_un1 ?_ | refine i_dict0 ?_ | refine i_partA ?_ | refine o_len ?_ | refine o_lenT ?_ | refine o_int ?_ | refine o_cmp ?_ | refine o_eqX ?_ | refine o_neX ?_ | refine o_list ?_ | refine o_tupT ?_ | refine o_truth ?_ | refine o_tg2 ?_) | ((with_reducible apply i_var); exact rfl) | ((with_reducible apply i_partV); exact rfl) | ((with_reducible refine o_lst ?_ ?_); · exact rfl) | ((with_reducible refine o_tup ?_ ?_); · exact rfl) | ((with_reducible refine o_mul ?_ ?_); · (first | exact .inl ⟨by omega, by omega⟩ | exact .inr ⟨by omega, by omega⟩)) | ((with_reducible refine o_mod ?_ ?_); · omega) | ((with_reducible refine o_fdiv ?_ ?_); · exact ⟨by omega, by omega⟩)
  exact o_eqE nS (by decide) (fun x s h => by cases h) (x := (a, z, R)) (y := (b, y, Q)) hk
/-- the end of x == y, x != y -/
theorem o_eqI {neg : Bool} {g : D → D → Option D} {a b : Int} {z w n2 : Nat} {R Q : List (List Int)} {k : DK} (h : k (.bl (neg != decide ((a, z, R) = (b, w, Q)))) n2) : eqIK neg eqC g (mkS (.int a) (.int (z : Nat)) (eR R)) (mkS (.int b) (.int (w : Nat)) (eR Q)) n2 k :=
  o_eqIK (by unfold eqC; rw [if_pos (by decide +kernel)]) rfl (c_eqS ⟨_, rfl, h⟩)
end K15
namespace K15
open PySem PySem.Spec PyProof.Rows L2 DS
theorem c_clock {ε : XD} {n : Nat} {k : DK} (hn : n < 900000) (hk : ∀ a n2, isC (.int a) = true → n ≤ n2 → n2 ≤ n + 1 → k (.int a) n2) : con__law_clock ε [.box] n k := by
  refine ⟨rfl, ?_⟩
  show m__law_clock noX [.val .box] n _
  unfold m__law_clock
  repeat first | (with_reducible first | refine i_cons ?_ | refine i_nil ?_ | refine i_args ?_ | refine i_c ?_ | refine i_op ?_ | refine i_un ?_ | refine i_call ?_ | refine i_sl ?_ | refine i_noP ?_ | refine i_ret ?_ | refine i_asg ?_ | refine i_par ?_ | refine i_if ?_ | refine i_or ?_ | refine i_bl ?_ | refine i_ifE ?_ | refine i_tru ?_ | refine i_drop ?_ | refine i_not ?_ | refine i_and ?_ | refine o_add ?_ | refine o_sub ?_ | refine o_neg ?_ | refine o_tupl ?_ | refine o_slL ?_ | refine o_name ?_ | refine o_some ?_ | refine i_seq ?_ | refine i_next ?_ | refine i_retN ?_ | refine i_callV ?_ | refine i_parO ?_ | refine o_setK0 ?_ | refine i_eqI ?_ | refine i_par3 ?_ | refine i_notV ?_ | refine i_andV ?_ | refine i_orV ?_ | refine i_un1 ?_ | refine i_dict0 ?_ | refine i_partA ?_ | refine o_len ?_ | refine o_lenT ?_ | refine o_int ?_ | refine o_cmp ?_ | refine o_eqX ?_ | refine o_neX ?_ | refine o_list ?_ | refine o_tupT ?_ | refine o_truth ?_ | refine o_tg2 ?_) | ((with_reducible apply i_var); exact rfl) | ((with_reducible apply i_partV); exact rfl) | ((with_reducible refine o_lst ?_ ?_); · exact rfl) | ((with_reducible refine o_tup ?_ ?_); · exact rfl) | ((with_reducible refine o_mul ?_ ?_); · (first | exact .inl ⟨by omega, by omega⟩ | exact .inr ⟨by omega, by omega⟩)) | ((with_reducible refine o_mod ?_ ?_); · omega) | ((with_reducible refine o_fdiv ?_ ?_); · exact ⟨by omega, by omega⟩)
  refine c_one (le_lit rfl) (le_lit rfl) (by omega) fun x hx n2 g0 g1 => ?_
  have hx : ∃ a, x = .int a ∧ isC (.int a) = true := by
    simp only [List.mem_cons, List.not_mem_nil, or_false] at hx
    rcases hx with rfl | rfl | rfl | rfl | rfl | rfl | rfl | rfl | rfl | rfl | rfl | rfl <;> exact ⟨_, rfl, rfl⟩
  obtain ⟨a, rfl, ha⟩ := hx
  exact hk a n2 ha g0 g1
/-! the law's own least form, place by place -/
theorem inv2_all : (CL.all fun a => (rng a).all fun b => b == 0 || ((rng a).filter (fun f => f * b % a == 1) == [inv a b])) = true := by decide +kernel
theorem inv2 {a b : Int} (ha : isC (.int a) = true) (h0 : 0 < b) (h1 : b < a) : (rng a).filter (fun f => f * b % a == 1) = [inv a b] := by
  have h := List.all_eq_true.mp (List.all_eq_true.mp inv2_all a (isC_mem ha)) b (rng_mem (by omega) h1)
  have hb : (b == 0) = false := by simp; omega
  rw [hb, Bool.false_or] at h
  exact beq_iff_eq.mp h
theorem rng_D {a : Int} : range1D a = (rng a).map D.int := by
  unfold range1D rng; rw [List.map_map]; rfl
def fD (f : LA.Fm) : List D := f.map fun q => eL q.2
/-- a row less so many times the lead -/
theorem c_less {a : Int} {z t n : Nat} {r w : List Int} {k : DK} {d1 d2 d3 a5 a6 a7 a10 a11 a12 a13 : Sl} (ha : 0 < a ∧ a ≤ 31) (hz : z ≤ 400) (hr : LA.Ro a z r) (hw : LA.Ro a z w) (ht : t < z) (hk : k (eL (LA.ax a (-(LA.gt r t)) w r)) n) :
    mLc (mZip (mVar 9) (mVar 8)) (gfTup (gsCons (gfName 12) (gsCons (gfName 13) (gsNil)))) [12, 13] (mYes) (mOp modD (mArgs intD (mCons (mOp subD (mVar 12) (mOp mulD (mOp ixD (mVar 9) (mVar 4)) (mVar 13))) (mNil))) (mVar 0)) noX
      [.val (.int a), d1, d2, d3, .val (.int t), a5, a6, a7, .val (eL w), .val (eL r), a10, a11, a12, a13] n k := by
  refine i_lc ?_
  unfold mZip
  repeat first | (with_reducible first | refine i_cons ?_ | refine i_nil ?_ | refine i_args ?_ | refine i_c ?_ | refine i_op ?_ | refine i_un ?_ | refine i_call ?_ | refine i_sl ?_ | refine i_noP ?_ | refine i_ret ?_ | refine i_asg ?_ | refine i_par ?_ | refine i_if ?_ | refine i_or ?_ | refine i_bl ?_ | refine i_ifE ?_ | refine i_tru ?_ | refine i_drop ?_ | refine i_not ?_ | refine i_and ?_ | refine o_add ?_ | refine o_sub ?_ | refine o_neg ?_ | refine o_tupl ?_ | refine o_slL ?_ | refine o_name ?_ | refine o_some ?_ | refine i_seq ?_ | refine i_next ?_ | refine i_retN ?_ | refine i_callV ?_ | refine i_parO ?_ | refine o_setK0 ?_ | refine i_eqI ?_ | refine i_par3 ?_ | refine i_notV ?_ | refine i_andV ?_ | refine i_orV ?_ | refine i_un1 ?_ | refine i_dict0 ?_ | refine i_partA ?_ | refine o_len ?_ | refine o_lenT ?_ | refine o_int ?_ | refine o_cmp ?_ | refine o_eqX ?_ | refine o_neX ?_ | refine o_list ?_ | refine o_tupT ?_ | refine o_truth ?_ | refine o_tg2 ?_) | ((with_reducible apply i_var); exact rfl) | ((with_reducible apply i_partV); exact rfl) | ((with_reducible refine o_lst ?_ ?_); · exact rfl) | ((with_reducible refine o_tup ?_ ?_); · exact rfl) | ((with_reducible refine o_mul ?_ ?_); · (first | exact .inl ⟨by omega, by omega⟩ | exact .inr ⟨by omega, by omega⟩)) | ((with_reducible refine o_mod ?_ ?_); · omega) | ((with_reducible refine o_fdiv ?_ ?_); · exact ⟨by omega, by omega⟩)
  show (List.zipWith (fun a b => D.tup [a, b]) (r.map D.int) (w.map D.int)).length ≤ 1000000 ∧ _
  rw [zip_enc]
  have b := hr.bd ht
  refine ⟨by rw [List.length_map, List.length_zip, hr.1, hw.1]; omega, comp_A (g := fun p => .int ((p.1 - LA.gt r t * p.2) % a)) (fun p hp q hq => ?_) ?_⟩
  · refine o_tg2 (i_yes ?_)
    repeat first | (with_reducible first | refine i_cons ?_ | refine i_nil ?_ | refine i_args ?_ | refine i_c ?_ | refine i_op ?_ | refine i_un ?_ | refine i_call ?_ | refine i_sl ?_ | refine i_noP ?_ | refine i_ret ?_ | refine i_asg ?_ | refine i_par ?_ | refine i_if ?_ | refine i_or ?_ | refine i_bl ?_ | refine i_ifE ?_ | refine i_tru ?_ | refine i_drop ?_ | refine i_not ?_ | refine i_and ?_ | refine o_add ?_ | refine o_sub ?_ | refine o_neg ?_ | refine o_tupl ?_ | refine o_slL ?_ | refine o_name ?_ | refine o_some ?_ | refine i_seq ?_ | refine i_next ?_ | refine i_retN ?_ | refine i_callV ?_ | refine i_parO ?_ | refine o_setK0 ?_ | refine i_eqI ?_ | refine i_par3 ?_ | refine i_notV ?_ | refine i_andV ?_ | refine i_orV ?_ | refine i_un1 ?_ | refine i_dict0 ?_ | refine i_partA ?_ | refine o_len ?_ | refine o_lenT ?_ | refine o_int ?_ | refine o_cmp ?_ | refine o_eqX ?_ | refine o_neX ?_ | refine o_list ?_ | refine o_tupT ?_ | refine o_truth ?_ | refine o_tg2 ?_) | ((with_reducible apply i_var); exact rfl) | ((with_reducible apply i_partV); exact rfl) | ((with_reducible refine o_lst ?_ ?_); · exact rfl) | ((with_reducible refine o_tup ?_ ?_); · exact rfl) | ((with_reducible refine o_mul ?_ ?_); · (first | exact .inl ⟨by omega, by omega⟩ | exact .inr ⟨by omega, by omega⟩)) | ((with_reducible refine o_mod ?_ ?_); · omega) | ((with_reducible refine o_fdiv ?_ ?_); · exact ⟨by omega, by omega⟩)
    rw [ix_iL (by rw [hr.1]; exact ht)]
    repeat first | (with_reducible first | refine i_cons ?_ | refine i_nil ?_ | refine i_args ?_ | refine i_c ?_ | refine i_op ?_ | refine i_un ?_ | refine i_call ?_ | refine i_sl ?_ | refine i_noP ?_ | refine i_ret ?_ | refine i_asg ?_ | refine i_par ?_ | refine i_if ?_ | refine i_or ?_ | refine i_bl ?_ | refine i_ifE ?_ | refine i_tru ?_ | refine i_drop ?_ | refine i_not ?_ | refine i_and ?_ | refine o_add ?_ | refine o_sub ?_ | refine o_neg ?_ | refine o_tupl ?_ | refine o_slL ?_ | refine o_name ?_ | refine o_some ?_ | refine i_seq ?_ | refine i_next ?_ | refine i_retN ?_ | refine i_callV ?_ | refine i_parO ?_ | refine o_setK0 ?_ | refine i_eqI ?_ | refine i_par3 ?_ | refine i_notV ?_ | refine i_andV ?_ | refine i_orV ?_ | refine i_un1 ?_ | refine i_dict0 ?_ | refine i_partA ?_ | refine o_len ?_ | refine o_lenT ?_ | refine o_int ?_ | refine o_cmp ?_ | refine o_eqX ?_ | refine o_neX ?_ | refine o_list ?_ | refine o_tupT ?_ | refine o_truth ?_ | refine o_tg2 ?_) | ((with_reducible apply i_var); exact rfl) | ((with_reducible apply i_partV); exact rfl) | ((with_reducible refine o_lst ?_ ?_); · exact rfl) | ((with_reducible refine o_tup ?_ ?_); · exact rfl) | ((with_reducible refine o_mul ?_ ?_); · (first | exact .inl ⟨by omega, by omega⟩ | exact .inr ⟨by omega, by omega⟩)) | ((with_reducible refine o_mod ?_ ?_); · omega) | ((with_reducible refine o_fdiv ?_ ?_); · exact ⟨by omega, by omega⟩)
    exact hq
  · rw [zip_ax]; exact hk
theorem zip_idx {α : Type} {xs : List α} {p : α × Nat} (h : p ∈ xs.zipIdx) : xs[p.2]? = some p.1 := by
  obtain ⟨x, i⟩ := p
  exact (List.mem_zipIdx_iff_getElem?).mp h
theorem c_oleast {ε : XD} {a : Int} {z : Nat} {rows : List (List Int)} {ds : List D} {X : D} {n : Nat} {k : DK} (ha : isC (.int a) = true) (hz : z ≤ 400) (hX : X = .lst ds ∨ X = .tup ds) (hs : ∀ d ∈ ds, isSeq d = true) (he : (ds.map fun d => D.lst (elems d)) = rows.map eL) (hl : rows.length ≤ 400) (hr : ∀ r ∈ rows, LA.Ro a z r)
    (hk : k (.tup (eR (LA.least a (inv a) rows))) n) : con__law_least ε [.int a, X] n k := by
  have hrn := isC_rng ha
  have ha0 : 0 < a ∧ a ≤ 31 := by omega
  refine ⟨rfl, ?_⟩
  show m__law_least noX [.val (.int a), .val X, .no, .no, .no, .no, .no, .no, .no, .no, .no, .no, .no, .no] n _
  unfold m__law_least
  have lds : ds.length = rows.length := by have := congrArg List.length he; rwa [List.length_map, List.length_map] at this
  repeat first | (with_reducible first | refine i_cons ?_ | refine i_nil ?_ | refine i_args ?_ | refine i_c ?_ | refine i_op ?_ | refine i_un ?_ | refine i_call ?_ | refine i_sl ?_ | refine i_noP ?_ | refine i_ret ?_ | refine i_asg ?_ | refine i_par ?_ | refine i_if ?_ | refine i_or ?_ | refine i_bl ?_ | refine i_ifE ?_ | refine i_tru ?_ | refine i_drop ?_ | refine i_not ?_ | refine i_and ?_ | refine o_add ?_ | refine o_sub ?_ | refine o_neg ?_ | refine o_tupl ?_ | refine o_slL ?_ | refine o_name ?_ | refine o_some ?_ | refine i_seq ?_ | refine i_next ?_ | refine i_retN ?_ | refine i_callV ?_ | refine i_parO ?_ | refine o_setK0 ?_ | refine i_eqI ?_ | refine i_par3 ?_ | refine i_notV ?_ | refine i_andV ?_ | refine i_orV ?_ | refine i_un1 ?_ | refine i_dict0 ?_ | refine i_partA ?_ | refine o_len ?_ | refine o_lenT ?_ | refine o_int ?_ | refine o_cmp ?_ | refine o_eqX ?_ | refine o_neX ?_ | refine o_list ?_ | refine o_tupT ?_ | refine o_truth ?_ | refine o_tg2 ?_) | ((with_reducible apply i_var); exact rfl) | ((with_reducible apply i_partV); exact rfl) | ((with_reducible refine o_lst ?_ ?_); · exact rfl) | ((with_reducible refine o_tup ?_ ?_); · exact rfl) | ((with_reducible refine o_mul ?_ ?_); · (first | exact .inl ⟨by omega, by omega⟩ | exact .inr ⟨by omega, by omega⟩)) | ((with_reducible refine o_mod ?_ ?_); · omega) | ((with_reducible refine o_fdiv ?_ ?_); · exact ⟨by omega, by omega⟩)
  refine i_lc ?_
  have it : ∀ (q : List D → Nat → Prop), q ds n → mIter (mVar 1) noX [.val (.int a), .val X, .no, .no, .no, .no, .no, .no, .no, .no, .no, .no, .no, .no] n q := fun q hq => by
    rcases hX with rfl | rfl <;> exact hq
  refine it _ ⟨by omega, comp_map (fun d => .lst (elems d)) n ds _ (fun d hd q hq => ?_) ?_⟩
  · refine o_name (i_yes ?_)
    repeat first | (with_reducible first | refine i_cons ?_ | refine i_nil ?_ | refine i_args ?_ | refine i_c ?_ | refine i_op ?_ | refine i_un ?_ | refine i_call ?_ | refine i_sl ?_ | refine i_noP ?_ | refine i_ret ?_ | refine i_asg ?_ | refine i_par ?_ | refine i_if ?_ | refine i_or ?_ | refine i_bl ?_ | refine i_ifE ?_ | refine i_tru ?_ | refine i_drop ?_ | refine i_not ?_ | refine i_and ?_ | refine o_add ?_ | refine o_sub ?_ | refine o_neg ?_ | refine o_tupl ?_ | refine o_slL ?_ | refine o_name ?_ | refine o_some ?_ | refine i_seq ?_ | refine i_next ?_ | refine i_retN ?_ | refine i_callV ?_ | refine i_parO ?_ | refine o_setK0 ?_ | refine i_eqI ?_ | refine i_par3 ?_ | refine i_notV ?_ | refine i_andV ?_ | refine i_orV ?_ | refine i_un1 ?_ | refine i_dict0 ?_ | refine i_partA ?_ | refine o_len ?_ | refine o_lenT ?_ | refine o_int ?_ | refine o_cmp ?_ | refine o_eqX ?_ | refine o_neX ?_ | refine o_list ?_ | refine o_tupT ?_ | refine o_truth ?_ | refine o_tg2 ?_) | ((with_reducible apply i_var); exact rfl) | ((with_reducible apply i_partV); exact rfl) | ((with_reducible refine o_lst ?_ ?_); · exact rfl) | ((with_reducible refine o_tup ?_ ?_); · exact rfl) | ((with_reducible refine o_mul ?_ ?_); · (first | exact .inl ⟨by omega, by omega⟩ | exact .inr ⟨by omega, by omega⟩)) | ((with_reducible refine o_mod ?_ ?_); · omega) | ((with_reducible refine o_fdiv ?_ ?_); · exact ⟨by omega, by omega⟩)
    have := hs d hd
    cases d with
    | lst xs => exact hq
    | tup xs => exact hq
    | _ => cases this
  rw [he]
  repeat first | (with_reducible first | refine i_cons ?_ | refine i_nil ?_ | refine i_args ?_ | refine i_c ?_ | refine i_op ?_ | refine i_un ?_ | refine i_call ?_ | refine i_sl ?_ | refine i_noP ?_ | refine i_ret ?_ | refine i_asg ?_ | refine i_par ?_ | refine i_if ?_ | refine i_or ?_ | refine i_bl ?_ | refine i_ifE ?_ | refine i_tru ?_ | refine i_drop ?_ | refine i_not ?_ | refine i_and ?_ | refine o_add ?_ | refine o_sub ?_ | refine o_neg ?_ | refine o_tupl ?_ | refine o_slL ?_ | refine o_name ?_ | refine o_some ?_ | refine i_seq ?_ | refine i_next ?_ | refine i_retN ?_ | refine i_callV ?_ | refine i_parO ?_ | refine o_setK0 ?_ | refine i_eqI ?_ | refine i_par3 ?_ | refine i_notV ?_ | refine i_andV ?_ | refine i_orV ?_ | refine i_un1 ?_ | refine i_dict0 ?_ | refine i_partA ?_ | refine o_len ?_ | refine o_lenT ?_ | refine o_int ?_ | refine o_cmp ?_ | refine o_eqX ?_ | refine o_neX ?_ | refine o_list ?_ | refine o_tupT ?_ | refine o_truth ?_ | refine o_tg2 ?_) | ((with_reducible apply i_var); exact rfl) | ((with_reducible apply i_partV); exact rfl) | ((with_reducible refine o_lst ?_ ?_); · exact rfl) | ((with_reducible refine o_tup ?_ ?_); · exact rfl) | ((with_reducible refine o_mul ?_ ?_); · (first | exact .inl ⟨by omega, by omega⟩ | exact .inr ⟨by omega, by omega⟩)) | ((with_reducible refine o_mod ?_ ?_); · omega) | ((with_reducible refine o_fdiv ?_ ?_); · exact ⟨by omega, by omega⟩)
  refine o_setK1 fun p => ?_
  repeat first | (with_reducible first | refine i_cons ?_ | refine i_nil ?_ | refine i_args ?_ | refine i_c ?_ | refine i_op ?_ | refine i_un ?_ | refine i_call ?_ | refine i_sl ?_ | refine i_noP ?_ | refine i_ret ?_ | refine i_asg ?_ | refine i_par ?_ | refine i_if ?_ | refine i_or ?_ | refine i_bl ?_ | refine i_ifE ?_ | refine i_tru ?_ | refine i_drop ?_ | refine i_not ?_ | refine i_and ?_ | refine o_add ?_ | refine o_sub ?_ | refine o_neg ?_ | refine o_tupl ?_ | refine o_slL ?_ | refine o_name ?_ | refine o_some ?_ | refine i_seq ?_ | refine i_next ?_ | refine i_retN ?_ | refine i_callV ?_ | refine i_parO ?_ | refine o_setK0 ?_ | refine i_eqI ?_ | refine i_par3 ?_ | refine i_notV ?_ | refine i_andV ?_ | refine i_orV ?_ | refine i_un1 ?_ | refine i_dict0 ?_ | refine i_partA ?_ | refine o_len ?_ | refine o_lenT ?_ | refine o_int ?_ | refine o_cmp ?_ | refine o_eqX ?_ | refine o_neX ?_ | refine o_list ?_ | refine o_tupT ?_ | refine o_truth ?_ | refine o_tg2 ?_) | ((with_reducible apply i_var); exact rfl) | ((with_reducible apply i_partV); exact rfl) | ((with_reducible refine o_lst ?_ ?_); · exact rfl) | ((with_reducible refine o_tup ?_ ?_); · exact rfl) | ((with_reducible refine o_mul ?_ ?_); · (first | exact .inl ⟨by omega, by omega⟩ | exact .inr ⟨by omega, by omega⟩)) | ((with_reducible refine o_mod ?_ ?_); · omega) | ((with_reducible refine o_fdiv ?_ ?_); · exact ⟨by omega, by omega⟩)
  dsimp only [List.set_cons_zero, List.set_cons_succ]
  refine i_for ?_
  have hdr : ∀ (q : List D → Nat → Prop), q ((List.range (if rows = [] then 0 else z)).map fun i => D.int (i : Nat)) n → mRange1 (mIfE (mBorT 2 (mBl (mOp neX (mVar 2) (mArgs lstD mNil)))) (mArgs lenD (mCons (mIxO 2 (mC (.int 0))) mNil)) (mC (.int 0))) noX
      [.val (.int a), .val X, .own p (.lst (rows.map eL)), .val (.lst []), .no, .no, .no, .no, .no, .no, .no, .no, .no, .no] n q := fun q hq => by
    unfold mRange1
    refine i_ifE (i_bor rfl ?_)
    repeat first | (with_reducible first | refine i_cons ?_ | refine i_nil ?_ | refine i_args ?_ | refine i_c ?_ | refine i_op ?_ | refine i_un ?_ | refine i_call ?_ | refine i_sl ?_ | refine i_noP ?_ | refine i_ret ?_ | refine i_asg ?_ | refine i_par ?_ | refine i_if ?_ | refine i_or ?_ | refine i_bl ?_ | refine i_ifE ?_ | refine i_tru ?_ | refine i_drop ?_ | refine i_not ?_ | refine i_and ?_ | refine o_add ?_ | refine o_sub ?_ | refine o_neg ?_ | refine o_tupl ?_ | refine o_slL ?_ | refine o_name ?_ | refine o_some ?_ | refine i_seq ?_ | refine i_next ?_ | refine i_retN ?_ | refine i_callV ?_ | refine i_parO ?_ | refine o_setK0 ?_ | refine i_eqI ?_ | refine i_par3 ?_ | refine i_notV ?_ | refine i_andV ?_ | refine i_orV ?_ | refine i_un1 ?_ | refine i_dict0 ?_ | refine i_partA ?_ | refine o_len ?_ | refine o_lenT ?_ | refine o_int ?_ | refine o_cmp ?_ | refine o_eqX ?_ | refine o_neX ?_ | refine o_list ?_ | refine o_tupT ?_ | refine o_truth ?_ | refine o_tg2 ?_) | ((with_reducible apply i_var); exact rfl) | ((with_reducible apply i_partV); exact rfl) | ((with_reducible refine o_lst ?_ ?_); · exact rfl) | ((with_reducible refine o_tup ?_ ?_); · exact rfl) | ((with_reducible refine o_mul ?_ ?_); · (first | exact .inl ⟨by omega, by omega⟩ | exact .inr ⟨by omega, by omega⟩)) | ((with_reducible refine o_mod ?_ ?_); · omega) | ((with_reducible refine o_fdiv ?_ ?_); · exact ⟨by omega, by omega⟩)
    refine o_neE (nL (nL nI)) (by decide) (fun x s h => by cases h) (x := rows) (y := []) ?_
    cases rows with
    | nil =>
      refine ite_F (by simp) ?_
      repeat first | (with_reducible first | refine i_cons ?_ | refine i_nil ?_ | refine i_args ?_ | refine i_c ?_ | refine i_op ?_ | refine i_un ?_ | refine i_call ?_ | refine i_sl ?_ | refine i_noP ?_ | refine i_ret ?_ | refine i_asg ?_ | refine i_par ?_ | refine i_if ?_ | refine i_or ?_ | refine i_bl ?_ | refine i_ifE ?_ | refine i_tru ?_ | refine i_drop ?_ | refine i_not ?_ | refine i_and ?_ | refine o_add ?_ | refine o_sub ?_ | refine o_neg ?_ | refine o_tupl ?_ | refine o_slL ?_ | refine o_name ?_ | refine o_some ?_ | refine i_seq ?_ | refine i_next ?_ | refine i_retN ?_ | refine i_callV ?_ | refine i_parO ?_ | refine o_setK0 ?_ | refine i_eqI ?_ | refine i_par3 ?_ | refine i_notV ?_ | refine i_andV ?_ | refine i_orV ?_ | refine i_un1 ?_ | refine i_dict0 ?_ | refine i_partA ?_ | refine o_len ?_ | refine o_lenT ?_ | refine o_int ?_ | refine o_cmp ?_ | refine o_eqX ?_ | refine o_neX ?_ | refine o_list ?_ | refine o_tupT ?_ | refine o_truth ?_ | refine o_tg2 ?_) | ((with_reducible apply i_var); exact rfl) | ((with_reducible apply i_partV); exact rfl) | ((with_reducible refine o_lst ?_ ?_); · exact rfl) | ((with_reducible refine o_tup ?_ ?_); · exact rfl) | ((with_reducible refine o_mul ?_ ?_); · (first | exact .inl ⟨by omega, by omega⟩ | exact .inr ⟨by omega, by omega⟩)) | ((with_reducible refine o_mod ?_ ?_); · omega) | ((with_reducible refine o_fdiv ?_ ?_); · exact ⟨by omega, by omega⟩)
      exact ⟨⟨by decide, by decide⟩, hq⟩
    | cons r rows =>
      refine ite_T (by simp) ?_
      repeat first | (with_reducible first | refine i_cons ?_ | refine i_nil ?_ | refine i_args ?_ | refine i_c ?_ | refine i_op ?_ | refine i_un ?_ | refine i_call ?_ | refine i_sl ?_ | refine i_noP ?_ | refine i_ret ?_ | refine i_asg ?_ | refine i_par ?_ | refine i_if ?_ | refine i_or ?_ | refine i_bl ?_ | refine i_ifE ?_ | refine i_tru ?_ | refine i_drop ?_ | refine i_not ?_ | refine i_and ?_ | refine o_add ?_ | refine o_sub ?_ | refine o_neg ?_ | refine o_tupl ?_ | refine o_slL ?_ | refine o_name ?_ | refine o_some ?_ | refine i_seq ?_ | refine i_next ?_ | refine i_retN ?_ | refine i_callV ?_ | refine i_parO ?_ | refine o_setK0 ?_ | refine i_eqI ?_ | refine i_par3 ?_ | refine i_notV ?_ | refine i_andV ?_ | refine i_orV ?_ | refine i_un1 ?_ | refine i_dict0 ?_ | refine i_partA ?_ | refine o_len ?_ | refine o_lenT ?_ | refine o_int ?_ | refine o_cmp ?_ | refine o_eqX ?_ | refine o_neX ?_ | refine o_list ?_ | refine o_tupT ?_ | refine o_truth ?_ | refine o_tg2 ?_) | ((with_reducible apply i_var); exact rfl) | ((with_reducible apply i_partV); exact rfl) | ((with_reducible refine o_lst ?_ ?_); · exact rfl) | ((with_reducible refine o_tup ?_ ?_); · exact rfl) | ((with_reducible refine o_mul ?_ ?_); · (first | exact .inl ⟨by omega, by omega⟩ | exact .inr ⟨by omega, by omega⟩)) | ((with_reducible refine o_mod ?_ ?_); · omega) | ((with_reducible refine o_fdiv ?_ ?_); · exact ⟨by omega, by omega⟩)
      refine i_ixO rfl ?_
      repeat first | (with_reducible first | refine i_cons ?_ | refine i_nil ?_ | refine i_args ?_ | refine i_c ?_ | refine i_op ?_ | refine i_un ?_ | refine i_call ?_ | refine i_sl ?_ | refine i_noP ?_ | refine i_ret ?_ | refine i_asg ?_ | refine i_par ?_ | refine i_if ?_ | refine i_or ?_ | refine i_bl ?_ | refine i_ifE ?_ | refine i_tru ?_ | refine i_drop ?_ | refine i_not ?_ | refine i_and ?_ | refine o_add ?_ | refine o_sub ?_ | refine o_neg ?_ | refine o_tupl ?_ | refine o_slL ?_ | refine o_name ?_ | refine o_some ?_ | refine i_seq ?_ | refine i_next ?_ | refine i_retN ?_ | refine i_callV ?_ | refine i_parO ?_ | refine o_setK0 ?_ | refine i_eqI ?_ | refine i_par3 ?_ | refine i_notV ?_ | refine i_andV ?_ | refine i_orV ?_ | refine i_un1 ?_ | refine i_dict0 ?_ | refine i_partA ?_ | refine o_len ?_ | refine o_lenT ?_ | refine o_int ?_ | refine o_cmp ?_ | refine o_eqX ?_ | refine o_neX ?_ | refine o_list ?_ | refine o_tupT ?_ | refine o_truth ?_ | refine o_tg2 ?_) | ((with_reducible apply i_var); exact rfl) | ((with_reducible apply i_partV); exact rfl) | ((with_reducible refine o_lst ?_ ?_); · exact rfl) | ((with_reducible refine o_tup ?_ ?_); · exact rfl) | ((with_reducible refine o_mul ?_ ?_); · (first | exact .inl ⟨by omega, by omega⟩ | exact .inr ⟨by omega, by omega⟩)) | ((with_reducible refine o_mod ?_ ?_); · omega) | ((with_reducible refine o_fdiv ?_ ?_); · exact ⟨by omega, by omega⟩)
      show optK (atI ((r :: rows).map eL) 0) _
      rw [show atI ((r :: rows).map eL) 0 = some (eL r) from ix_L (m := 0) rfl]
      repeat first | (with_reducible first | refine i_cons ?_ | refine i_nil ?_ | refine i_args ?_ | refine i_c ?_ | refine i_op ?_ | refine i_un ?_ | refine i_call ?_ | refine i_sl ?_ | refine i_noP ?_ | refine i_ret ?_ | refine i_asg ?_ | refine i_par ?_ | refine i_if ?_ | refine i_or ?_ | refine i_bl ?_ | refine i_ifE ?_ | refine i_tru ?_ | refine i_drop ?_ | refine i_not ?_ | refine i_and ?_ | refine o_add ?_ | refine o_sub ?_ | refine o_neg ?_ | refine o_tupl ?_ | refine o_slL ?_ | refine o_name ?_ | refine o_some ?_ | refine i_seq ?_ | refine i_next ?_ | refine i_retN ?_ | refine i_callV ?_ | refine i_parO ?_ | refine o_setK0 ?_ | refine i_eqI ?_ | refine i_par3 ?_ | refine i_notV ?_ | refine i_andV ?_ | refine i_orV ?_ | refine i_un1 ?_ | refine i_dict0 ?_ | refine i_partA ?_ | refine o_len ?_ | refine o_lenT ?_ | refine o_int ?_ | refine o_cmp ?_ | refine o_eqX ?_ | refine o_neX ?_ | refine o_list ?_ | refine o_tupT ?_ | refine o_truth ?_ | refine o_tg2 ?_) | ((with_reducible apply i_var); exact rfl) | ((with_reducible apply i_partV); exact rfl) | ((with_reducible refine o_lst ?_ ?_); · exact rfl) | ((with_reducible refine o_tup ?_ ?_); · exact rfl) | ((with_reducible refine o_mul ?_ ?_); · (first | exact .inl ⟨by omega, by omega⟩ | exact .inr ⟨by omega, by omega⟩)) | ((with_reducible refine o_mod ?_ ?_); · omega) | ((with_reducible refine o_fdiv ?_ ?_); · exact ⟨by omega, by omega⟩)
      rw [List.length_map, (hr r List.mem_cons_self).1]
      exact ⟨⟨by omega, by omega⟩, hq⟩
  refine hdr _ ?_
  clear hdr
  have zl : (if rows = [] then 0 else z) ≤ z := by split <;> omega
  refine for_inv (fun t ρ n' => n' = n ∧ ∃ L f p b4 b5 b6 b7 b8 b9 b10 b11 b12 b13, LA.Jt a z rows t L f ∧ L.length ≤ 400 ∧ ρ = [.val (.int a), .val X, .own p (.lst (L.map eL)), .val (.lst (fD f)), b4, b5, b6, b7, b8, b9, b10, b11, b12, b13]) (fun t d ρ n' R hd hi hR => ?_)
    ⟨rfl, rows, [], p, _, _, _, _, _, _, _, _, _, _, LA.jt_start hr, hl, rfl⟩ fun ρ n' hi => ?_
  · obtain ⟨rfl, L, f, p, b4, b5, b6, b7, b8, b9, b10, b11, b12, b13, J, lL, rfl⟩ := hi
    obtain ⟨rfl, ht⟩ := range_at hd
    have ht : t < z := by omega
    have lf := red_len J.red
    refine o_name ?_
    repeat first | (with_reducible first | refine i_cons ?_ | refine i_nil ?_ | refine i_args ?_ | refine i_c ?_ | refine i_op ?_ | refine i_un ?_ | refine i_call ?_ | refine i_sl ?_ | refine i_noP ?_ | refine i_ret ?_ | refine i_asg ?_ | refine i_par ?_ | refine i_if ?_ | refine i_or ?_ | refine i_bl ?_ | refine i_ifE ?_ | refine i_tru ?_ | refine i_drop ?_ | refine i_not ?_ | refine i_and ?_ | refine o_add ?_ | refine o_sub ?_ | refine o_neg ?_ | refine o_tupl ?_ | refine o_slL ?_ | refine o_name ?_ | refine o_some ?_ | refine i_seq ?_ | refine i_next ?_ | refine i_retN ?_ | refine i_callV ?_ | refine i_parO ?_ | refine o_setK0 ?_ | refine i_eqI ?_ | refine i_par3 ?_ | refine i_notV ?_ | refine i_andV ?_ | refine i_orV ?_ | refine i_un1 ?_ | refine i_dict0 ?_ | refine i_partA ?_ | refine o_len ?_ | refine o_lenT ?_ | refine o_int ?_ | refine o_cmp ?_ | refine o_eqX ?_ | refine o_neX ?_ | refine o_list ?_ | refine o_tupT ?_ | refine o_truth ?_ | refine o_tg2 ?_) | ((with_reducible apply i_var); exact rfl) | ((with_reducible apply i_partV); exact rfl) | ((with_reducible refine o_lst ?_ ?_); · exact rfl) | ((with_reducible refine o_tup ?_ ?_); · exact rfl) | ((with_reducible refine o_mul ?_ ?_); · (first | exact .inl ⟨by omega, by omega⟩ | exact .inr ⟨by omega, by omega⟩)) | ((with_reducible refine o_mod ?_ ?_); · omega) | ((with_reducible refine o_fdiv ?_ ?_); · exact ⟨by omega, by omega⟩)
    refine i_lc (i_enumO rfl ?_)
    rw [enum_enc]
    refine ⟨by rw [List.length_map, List.length_zipIdx]; omega, comp_F (fun p => !(LA.gt p.1 t == 0)) (g := fun p => .int (p.2 : Nat)) (fun p hp q hq => ?_) ?_⟩
    · refine o_tg2 ?_
      have hm := List.mem_of_getElem? (zip_idx hp)
      repeat first | (with_reducible first | refine i_cons ?_ | refine i_nil ?_ | refine i_args ?_ | refine i_c ?_ | refine i_op ?_ | refine i_un ?_ | refine i_call ?_ | refine i_sl ?_ | refine i_noP ?_ | refine i_ret ?_ | refine i_asg ?_ | refine i_par ?_ | refine i_if ?_ | refine i_or ?_ | refine i_bl ?_ | refine i_ifE ?_ | refine i_tru ?_ | refine i_drop ?_ | refine i_not ?_ | refine i_and ?_ | refine o_add ?_ | refine o_sub ?_ | refine o_neg ?_ | refine o_tupl ?_ | refine o_slL ?_ | refine o_name ?_ | refine o_some ?_ | refine i_seq ?_ | refine i_next ?_ | refine i_retN ?_ | refine i_callV ?_ | refine i_parO ?_ | refine o_setK0 ?_ | refine i_eqI ?_ | refine i_par3 ?_ | refine i_notV ?_ | refine i_andV ?_ | refine i_orV ?_ | refine i_un1 ?_ | refine i_dict0 ?_ | refine i_partA ?_ | refine o_len ?_ | refine o_lenT ?_ | refine o_int ?_ | refine o_cmp ?_ | refine o_eqX ?_ | refine o_neX ?_ | refine o_list ?_ | refine o_tupT ?_ | refine o_truth ?_ | refine o_tg2 ?_) | ((with_reducible apply i_var); exact rfl) | ((with_reducible apply i_partV); exact rfl) | ((with_reducible refine o_lst ?_ ?_); · exact rfl) | ((with_reducible refine o_tup ?_ ?_); · exact rfl) | ((with_reducible refine o_mul ?_ ?_); · (first | exact .inl ⟨by omega, by omega⟩ | exact .inr ⟨by omega, by omega⟩)) | ((with_reducible refine o_mod ?_ ?_); · omega) | ((with_reducible refine o_fdiv ?_ ?_); · exact ⟨by omega, by omega⟩)
      rw [ix_iL (by rw [(J.ro _ hm).1]; exact ht)]
      repeat first | (with_reducible first | refine i_cons ?_ | refine i_nil ?_ | refine i_args ?_ | refine i_c ?_ | refine i_op ?_ | refine i_un ?_ | refine i_call ?_ | refine i_sl ?_ | refine i_noP ?_ | refine i_ret ?_ | refine i_asg ?_ | refine i_par ?_ | refine i_if ?_ | refine i_or ?_ | refine i_bl ?_ | refine i_ifE ?_ | refine i_tru ?_ | refine i_drop ?_ | refine i_not ?_ | refine i_and ?_ | refine o_add ?_ | refine o_sub ?_ | refine o_neg ?_ | refine o_tupl ?_ | refine o_slL ?_ | refine o_name ?_ | refine o_some ?_ | refine i_seq ?_ | refine i_next ?_ | refine i_retN ?_ | refine i_callV ?_ | refine i_parO ?_ | refine o_setK0 ?_ | refine i_eqI ?_ | refine i_par3 ?_ | refine i_notV ?_ | refine i_andV ?_ | refine i_orV ?_ | refine i_un1 ?_ | refine i_dict0 ?_ | refine i_partA ?_ | refine o_len ?_ | refine o_lenT ?_ | refine o_int ?_ | refine o_cmp ?_ | refine o_eqX ?_ | refine o_neX ?_ | refine o_list ?_ | refine o_tupT ?_ | refine o_truth ?_ | refine o_tg2 ?_) | ((with_reducible apply i_var); exact rfl) | ((with_reducible apply i_partV); exact rfl) | ((with_reducible refine o_lst ?_ ?_); · exact rfl) | ((with_reducible refine o_tup ?_ ?_); · exact rfl) | ((with_reducible refine o_mul ?_ ?_); · (first | exact .inl ⟨by omega, by omega⟩ | exact .inr ⟨by omega, by omega⟩)) | ((with_reducible refine o_mod ?_ ?_); · omega) | ((with_reducible refine o_fdiv ?_ ?_); · exact ⟨by omega, by omega⟩)
      cases e : LA.gt p.1 t == 0 with
      | true =>
        rw [e] at hq
        refine ite_F rfl ?_
        exact hq
      | false =>
        rw [e] at hq
        refine ite_T rfl ?_
        repeat first | (with_reducible first | refine i_cons ?_ | refine i_nil ?_ | refine i_args ?_ | refine i_c ?_ | refine i_op ?_ | refine i_un ?_ | refine i_call ?_ | refine i_sl ?_ | refine i_noP ?_ | refine i_ret ?_ | refine i_asg ?_ | refine i_par ?_ | refine i_if ?_ | refine i_or ?_ | refine i_bl ?_ | refine i_ifE ?_ | refine i_tru ?_ | refine i_drop ?_ | refine i_not ?_ | refine i_and ?_ | refine o_add ?_ | refine o_sub ?_ | refine o_neg ?_ | refine o_tupl ?_ | refine o_slL ?_ | refine o_name ?_ | refine o_some ?_ | refine i_seq ?_ | refine i_next ?_ | refine i_retN ?_ | refine i_callV ?_ | refine i_parO ?_ | refine o_setK0 ?_ | refine i_eqI ?_ | refine i_par3 ?_ | refine i_notV ?_ | refine i_andV ?_ | refine i_orV ?_ | refine i_un1 ?_ | refine i_dict0 ?_ | refine i_partA ?_ | refine o_len ?_ | refine o_lenT ?_ | refine o_int ?_ | refine o_cmp ?_ | refine o_eqX ?_ | refine o_neX ?_ | refine o_list ?_ | refine o_tupT ?_ | refine o_truth ?_ | refine o_tg2 ?_) | ((with_reducible apply i_var); exact rfl) | ((with_reducible apply i_partV); exact rfl) | ((with_reducible refine o_lst ?_ ?_); · exact rfl) | ((with_reducible refine o_tup ?_ ?_); · exact rfl) | ((with_reducible refine o_mul ?_ ?_); · (first | exact .inl ⟨by omega, by omega⟩ | exact .inr ⟨by omega, by omega⟩)) | ((with_reducible refine o_mod ?_ ?_); · omega) | ((with_reducible refine o_fdiv ?_ ?_); · exact ⟨by omega, by omega⟩)
        exact hq
    have esp : (L.zipIdx.filter fun p => !(LA.gt p.1 t == 0)).map (fun p => D.int (p.2 : Nat)) = ((L.zipIdx.filter fun p => !(LA.gt p.1 t == 0)).map fun p => (p.2 : Int)).map D.int := by rw [List.map_map]; rfl
    rw [esp]
    repeat first | (with_reducible first | refine i_cons ?_ | refine i_nil ?_ | refine i_args ?_ | refine i_c ?_ | refine i_op ?_ | refine i_un ?_ | refine i_call ?_ | refine i_sl ?_ | refine i_noP ?_ | refine i_ret ?_ | refine i_asg ?_ | refine i_par ?_ | refine i_if ?_ | refine i_or ?_ | refine i_bl ?_ | refine i_ifE ?_ | refine i_tru ?_ | refine i_drop ?_ | refine i_not ?_ | refine i_and ?_ | refine o_add ?_ | refine o_sub ?_ | refine o_neg ?_ | refine o_tupl ?_ | refine o_slL ?_ | refine o_name ?_ | refine o_some ?_ | refine i_seq ?_ | refine i_next ?_ | refine i_retN ?_ | refine i_callV ?_ | refine i_parO ?_ | refine o_setK0 ?_ | refine i_eqI ?_ | refine i_par3 ?_ | refine i_notV ?_ | refine i_andV ?_ | refine i_orV ?_ | refine i_un1 ?_ | refine i_dict0 ?_ | refine i_partA ?_ | refine o_len ?_ | refine o_lenT ?_ | refine o_int ?_ | refine o_cmp ?_ | refine o_eqX ?_ | refine o_neX ?_ | refine o_list ?_ | refine o_tupT ?_ | refine o_truth ?_ | refine o_tg2 ?_) | ((with_reducible apply i_var); exact rfl) | ((with_reducible apply i_partV); exact rfl) | ((with_reducible refine o_lst ?_ ?_); · exact rfl) | ((with_reducible refine o_tup ?_ ?_); · exact rfl) | ((with_reducible refine o_mul ?_ ?_); · (first | exact .inl ⟨by omega, by omega⟩ | exact .inr ⟨by omega, by omega⟩)) | ((with_reducible refine o_mod ?_ ?_); · omega) | ((with_reducible refine o_fdiv ?_ ?_); · exact ⟨by omega, by omega⟩)
    refine o_neE (nL nI) (by decide) (fun x s h => by cases h) (x := (L.zipIdx.filter fun p => !(LA.gt p.1 t == 0)).map fun p => (p.2 : Int)) (y := []) ?_
    cases esf : L.zipIdx.filter fun p => !(LA.gt p.1 t == 0) with
    | nil =>
      refine ite_F (by simp) ?_
      repeat first | (with_reducible first | refine i_cons ?_ | refine i_nil ?_ | refine i_args ?_ | refine i_c ?_ | refine i_op ?_ | refine i_un ?_ | refine i_call ?_ | refine i_sl ?_ | refine i_noP ?_ | refine i_ret ?_ | refine i_asg ?_ | refine i_par ?_ | refine i_if ?_ | refine i_or ?_ | refine i_bl ?_ | refine i_ifE ?_ | refine i_tru ?_ | refine i_drop ?_ | refine i_not ?_ | refine i_and ?_ | refine o_add ?_ | refine o_sub ?_ | refine o_neg ?_ | refine o_tupl ?_ | refine o_slL ?_ | refine o_name ?_ | refine o_some ?_ | refine i_seq ?_ | refine i_next ?_ | refine i_retN ?_ | refine i_callV ?_ | refine i_parO ?_ | refine o_setK0 ?_ | refine i_eqI ?_ | refine i_par3 ?_ | refine i_notV ?_ | refine i_andV ?_ | refine i_orV ?_ | refine i_un1 ?_ | refine i_dict0 ?_ | refine i_partA ?_ | refine o_len ?_ | refine o_lenT ?_ | refine o_int ?_ | refine o_cmp ?_ | refine o_eqX ?_ | refine o_neX ?_ | refine o_list ?_ | refine o_tupT ?_ | refine o_truth ?_ | refine o_tg2 ?_) | ((with_reducible apply i_var); exact rfl) | ((with_reducible apply i_partV); exact rfl) | ((with_reducible refine o_lst ?_ ?_); · exact rfl) | ((with_reducible refine o_tup ?_ ?_); · exact rfl) | ((with_reducible refine o_mul ?_ ?_); · (first | exact .inl ⟨by omega, by omega⟩ | exact .inr ⟨by omega, by omega⟩)) | ((with_reducible refine o_mod ?_ ?_); · omega) | ((with_reducible refine o_fdiv ?_ ?_); · exact ⟨by omega, by omega⟩)
      refine hR _ _ ⟨rfl, L, f, p, _, _, _, _, _, _, _, _, _, _, LA.jt_none J fun r hr => ?_, lL, rfl⟩
      have := List.filter_eq_nil_iff.mp esf
      obtain ⟨i, hi, rfl⟩ := List.getElem_of_mem hr
      have := this (L[i], i) (List.mem_zipIdx_iff_getElem?.mpr (List.getElem?_eq_getElem hi))
      simpa using this
    | cons p0 rest =>
      have hp0 : p0 ∈ L.zipIdx.filter fun p => !(LA.gt p.1 t == 0) := by rw [esf]; exact List.mem_cons_self
      obtain ⟨hp1, hp2⟩ := List.mem_filter.mp hp0
      have hx := zip_idx hp1
      have hn : LA.gt p0.1 t ≠ 0 := by simpa using hp2
      obtain ⟨v, i⟩ := p0
      dsimp only at hx hn
      have il : i < L.length := (List.getElem?_eq_some_iff.mp hx).1
      have rv := J.ro v (List.mem_of_getElem? hx)
      have bv := rv.bd ht
      have step := LA.jt_some (by omega) (iv_inv ha) J ht hx hn
      have iv := inv_ok ha (show 0 < LA.gt v t by omega) bv.2
      have p0 := iv.p0
      have p1 := iv.p1
      refine ite_T (by simp) ?_
      repeat first | (with_reducible first | refine i_cons ?_ | refine i_nil ?_ | refine i_args ?_ | refine i_c ?_ | refine i_op ?_ | refine i_un ?_ | refine i_call ?_ | refine i_sl ?_ | refine i_noP ?_ | refine i_ret ?_ | refine i_asg ?_ | refine i_par ?_ | refine i_if ?_ | refine i_or ?_ | refine i_bl ?_ | refine i_ifE ?_ | refine i_tru ?_ | refine i_drop ?_ | refine i_not ?_ | refine i_and ?_ | refine o_add ?_ | refine o_sub ?_ | refine o_neg ?_ | refine o_tupl ?_ | refine o_slL ?_ | refine o_name ?_ | refine o_some ?_ | refine i_seq ?_ | refine i_next ?_ | refine i_retN ?_ | refine i_callV ?_ | refine i_parO ?_ | refine o_setK0 ?_ | refine i_eqI ?_ | refine i_par3 ?_ | refine i_notV ?_ | refine i_andV ?_ | refine i_orV ?_ | refine i_un1 ?_ | refine i_dict0 ?_ | refine i_partA ?_ | refine o_len ?_ | refine o_lenT ?_ | refine o_int ?_ | refine o_cmp ?_ | refine o_eqX ?_ | refine o_neX ?_ | refine o_list ?_ | refine o_tupT ?_ | refine o_truth ?_ | refine o_tg2 ?_) | ((with_reducible apply i_var); exact rfl) | ((with_reducible apply i_partV); exact rfl) | ((with_reducible refine o_lst ?_ ?_); · exact rfl) | ((with_reducible refine o_tup ?_ ?_); · exact rfl) | ((with_reducible refine o_mul ?_ ?_); · (first | exact .inl ⟨by omega, by omega⟩ | exact .inr ⟨by omega, by omega⟩)) | ((with_reducible refine o_mod ?_ ?_); · omega) | ((with_reducible refine o_fdiv ?_ ?_); · exact ⟨by omega, by omega⟩)
      refine i_popO rfl ?_
      repeat first | (with_reducible first | refine i_cons ?_ | refine i_nil ?_ | refine i_args ?_ | refine i_c ?_ | refine i_op ?_ | refine i_un ?_ | refine i_call ?_ | refine i_sl ?_ | refine i_noP ?_ | refine i_ret ?_ | refine i_asg ?_ | refine i_par ?_ | refine i_if ?_ | refine i_or ?_ | refine i_bl ?_ | refine i_ifE ?_ | refine i_tru ?_ | refine i_drop ?_ | refine i_not ?_ | refine i_and ?_ | refine o_add ?_ | refine o_sub ?_ | refine o_neg ?_ | refine o_tupl ?_ | refine o_slL ?_ | refine o_name ?_ | refine o_some ?_ | refine i_seq ?_ | refine i_next ?_ | refine i_retN ?_ | refine i_callV ?_ | refine i_parO ?_ | refine o_setK0 ?_ | refine i_eqI ?_ | refine i_par3 ?_ | refine i_notV ?_ | refine i_andV ?_ | refine i_orV ?_ | refine i_un1 ?_ | refine i_dict0 ?_ | refine i_partA ?_ | refine o_len ?_ | refine o_lenT ?_ | refine o_int ?_ | refine o_cmp ?_ | refine o_eqX ?_ | refine o_neX ?_ | refine o_list ?_ | refine o_tupT ?_ | refine o_truth ?_ | refine o_tg2 ?_) | ((with_reducible apply i_var); exact rfl) | ((with_reducible apply i_partV); exact rfl) | ((with_reducible refine o_lst ?_ ?_); · exact rfl) | ((with_reducible refine o_tup ?_ ?_); · exact rfl) | ((with_reducible refine o_mul ?_ ?_); · (first | exact .inl ⟨by omega, by omega⟩ | exact .inr ⟨by omega, by omega⟩)) | ((with_reducible refine o_mod ?_ ?_); · omega) | ((with_reducible refine o_fdiv ?_ ?_); · exact ⟨by omega, by omega⟩)
      refine o_ixL0 (d := D.int ((i : Nat) : Int)) rfl ?_
      repeat first | (with_reducible first | refine i_cons ?_ | refine i_nil ?_ | refine i_args ?_ | refine i_c ?_ | refine i_op ?_ | refine i_un ?_ | refine i_call ?_ | refine i_sl ?_ | refine i_noP ?_ | refine i_ret ?_ | refine i_asg ?_ | refine i_par ?_ | refine i_if ?_ | refine i_or ?_ | refine i_bl ?_ | refine i_ifE ?_ | refine i_tru ?_ | refine i_drop ?_ | refine i_not ?_ | refine i_and ?_ | refine o_add ?_ | refine o_sub ?_ | refine o_neg ?_ | refine o_tupl ?_ | refine o_slL ?_ | refine o_name ?_ | refine o_some ?_ | refine i_seq ?_ | refine i_next ?_ | refine i_retN ?_ | refine i_callV ?_ | refine i_parO ?_ | refine o_setK0 ?_ | refine i_eqI ?_ | refine i_par3 ?_ | refine i_notV ?_ | refine i_andV ?_ | refine i_orV ?_ | refine i_un1 ?_ | refine i_dict0 ?_ | refine i_partA ?_ | refine o_len ?_ | refine o_lenT ?_ | refine o_int ?_ | refine o_cmp ?_ | refine o_eqX ?_ | refine o_neX ?_ | refine o_list ?_ | refine o_tupT ?_ | refine o_truth ?_ | refine o_tg2 ?_) | ((with_reducible apply i_var); exact rfl) | ((with_reducible apply i_partV); exact rfl) | ((with_reducible refine o_lst ?_ ?_); · exact rfl) | ((with_reducible refine o_tup ?_ ?_); · exact rfl) | ((with_reducible refine o_mul ?_ ?_); · (first | exact .inl ⟨by omega, by omega⟩ | exact .inr ⟨by omega, by omega⟩)) | ((with_reducible refine o_mod ?_ ?_); · omega) | ((with_reducible refine o_fdiv ?_ ?_); · exact ⟨by omega, by omega⟩)
      refine ⟨⟨by omega, by omega⟩, ?_⟩
      rw [ixN_nat (by rw [List.length_map]; exact il)]
      repeat first | (with_reducible first | refine i_cons ?_ | refine i_nil ?_ | refine i_args ?_ | refine i_c ?_ | refine i_op ?_ | refine i_un ?_ | refine i_call ?_ | refine i_sl ?_ | refine i_noP ?_ | refine i_ret ?_ | refine i_asg ?_ | refine i_par ?_ | refine i_if ?_ | refine i_or ?_ | refine i_bl ?_ | refine i_ifE ?_ | refine i_tru ?_ | refine i_drop ?_ | refine i_not ?_ | refine i_and ?_ | refine o_add ?_ | refine o_sub ?_ | refine o_neg ?_ | refine o_tupl ?_ | refine o_slL ?_ | refine o_name ?_ | refine o_some ?_ | refine i_seq ?_ | refine i_next ?_ | refine i_retN ?_ | refine i_callV ?_ | refine i_parO ?_ | refine o_setK0 ?_ | refine i_eqI ?_ | refine i_par3 ?_ | refine i_notV ?_ | refine i_andV ?_ | refine i_orV ?_ | refine i_un1 ?_ | refine i_dict0 ?_ | refine i_partA ?_ | refine o_len ?_ | refine o_lenT ?_ | refine o_int ?_ | refine o_cmp ?_ | refine o_eqX ?_ | refine o_neX ?_ | refine o_list ?_ | refine o_tupT ?_ | refine o_truth ?_ | refine o_tg2 ?_) | ((with_reducible apply i_var); exact rfl) | ((with_reducible apply i_partV); exact rfl) | ((with_reducible refine o_lst ?_ ?_); · exact rfl) | ((with_reducible refine o_tup ?_ ?_); · exact rfl) | ((with_reducible refine o_mul ?_ ?_); · (first | exact .inl ⟨by omega, by omega⟩ | exact .inr ⟨by omega, by omega⟩)) | ((with_reducible refine o_mod ?_ ?_); · omega) | ((with_reducible refine o_fdiv ?_ ?_); · exact ⟨by omega, by omega⟩)
      rw [show (L.map eL)[i]? = some (eL v) by rw [List.getElem?_map, hx]; rfl]
      repeat first | (with_reducible first | refine i_cons ?_ | refine i_nil ?_ | refine i_args ?_ | refine i_c ?_ | refine i_op ?_ | refine i_un ?_ | refine i_call ?_ | refine i_sl ?_ | refine i_noP ?_ | refine i_ret ?_ | refine i_asg ?_ | refine i_par ?_ | refine i_if ?_ | refine i_or ?_ | refine i_bl ?_ | refine i_ifE ?_ | refine i_tru ?_ | refine i_drop ?_ | refine i_not ?_ | refine i_and ?_ | refine o_add ?_ | refine o_sub ?_ | refine o_neg ?_ | refine o_tupl ?_ | refine o_slL ?_ | refine o_name ?_ | refine o_some ?_ | refine i_seq ?_ | refine i_next ?_ | refine i_retN ?_ | refine i_callV ?_ | refine i_parO ?_ | refine o_setK0 ?_ | refine i_eqI ?_ | refine i_par3 ?_ | refine i_notV ?_ | refine i_andV ?_ | refine i_orV ?_ | refine i_un1 ?_ | refine i_dict0 ?_ | refine i_partA ?_ | refine o_len ?_ | refine o_lenT ?_ | refine o_int ?_ | refine o_cmp ?_ | refine o_eqX ?_ | refine o_neX ?_ | refine o_list ?_ | refine o_tupT ?_ | refine o_truth ?_ | refine o_tg2 ?_) | ((with_reducible apply i_var); exact rfl) | ((with_reducible apply i_partV); exact rfl) | ((with_reducible refine o_lst ?_ ?_); · exact rfl) | ((with_reducible refine o_tup ?_ ?_); · exact rfl) | ((with_reducible refine o_mul ?_ ?_); · (first | exact .inl ⟨by omega, by omega⟩ | exact .inr ⟨by omega, by omega⟩)) | ((with_reducible refine o_mod ?_ ?_); · omega) | ((with_reducible refine o_fdiv ?_ ?_); · exact ⟨by omega, by omega⟩)
      dsimp only [List.set_cons_zero, List.set_cons_succ]
      repeat first | (with_reducible first | refine i_cons ?_ | refine i_nil ?_ | refine i_args ?_ | refine i_c ?_ | refine i_op ?_ | refine i_un ?_ | refine i_call ?_ | refine i_sl ?_ | refine i_noP ?_ | refine i_ret ?_ | refine i_asg ?_ | refine i_par ?_ | refine i_if ?_ | refine i_or ?_ | refine i_bl ?_ | refine i_ifE ?_ | refine i_tru ?_ | refine i_drop ?_ | refine i_not ?_ | refine i_and ?_ | refine o_add ?_ | refine o_sub ?_ | refine o_neg ?_ | refine o_tupl ?_ | refine o_slL ?_ | refine o_name ?_ | refine o_some ?_ | refine i_seq ?_ | refine i_next ?_ | refine i_retN ?_ | refine i_callV ?_ | refine i_parO ?_ | refine o_setK0 ?_ | refine i_eqI ?_ | refine i_par3 ?_ | refine i_notV ?_ | refine i_andV ?_ | refine i_orV ?_ | refine i_un1 ?_ | refine i_dict0 ?_ | refine i_partA ?_ | refine o_len ?_ | refine o_lenT ?_ | refine o_int ?_ | refine o_cmp ?_ | refine o_eqX ?_ | refine o_neX ?_ | refine o_list ?_ | refine o_tupT ?_ | refine o_truth ?_ | refine o_tg2 ?_) | ((with_reducible apply i_var); exact rfl) | ((with_reducible apply i_partV); exact rfl) | ((with_reducible refine o_lst ?_ ?_); · exact rfl) | ((with_reducible refine o_tup ?_ ?_); · exact rfl) | ((with_reducible refine o_mul ?_ ?_); · (first | exact .inl ⟨by omega, by omega⟩ | exact .inr ⟨by omega, by omega⟩)) | ((with_reducible refine o_mod ?_ ?_); · omega) | ((with_reducible refine o_fdiv ?_ ?_); · exact ⟨by omega, by omega⟩)
      refine i_lcR rfl ⟨by omega, by omega⟩ (by rw [len_range1]; omega) ?_
      rw [rng_D]
      refine comp_F (fun f => f * LA.gt v t % a == 1) (g := fun f => .int f) (fun f hf q hq => ?_) ?_
      · refine o_name ?_
        repeat first | (with_reducible first | refine i_cons ?_ | refine i_nil ?_ | refine i_args ?_ | refine i_c ?_ | refine i_op ?_ | refine i_un ?_ | refine i_call ?_ | refine i_sl ?_ | refine i_noP ?_ | refine i_ret ?_ | refine i_asg ?_ | refine i_par ?_ | refine i_if ?_ | refine i_or ?_ | refine i_bl ?_ | refine i_ifE ?_ | refine i_tru ?_ | refine i_drop ?_ | refine i_not ?_ | refine i_and ?_ | refine o_add ?_ | refine o_sub ?_ | refine o_neg ?_ | refine o_tupl ?_ | refine o_slL ?_ | refine o_name ?_ | refine o_some ?_ | refine i_seq ?_ | refine i_next ?_ | refine i_retN ?_ | refine i_callV ?_ | refine i_parO ?_ | refine o_setK0 ?_ | refine i_eqI ?_ | refine i_par3 ?_ | refine i_notV ?_ | refine i_andV ?_ | refine i_orV ?_ | refine i_un1 ?_ | refine i_dict0 ?_ | refine i_partA ?_ | refine o_len ?_ | refine o_lenT ?_ | refine o_int ?_ | refine o_cmp ?_ | refine o_eqX ?_ | refine o_neX ?_ | refine o_list ?_ | refine o_tupT ?_ | refine o_truth ?_ | refine o_tg2 ?_) | ((with_reducible apply i_var); exact rfl) | ((with_reducible apply i_partV); exact rfl) | ((with_reducible refine o_lst ?_ ?_); · exact rfl) | ((with_reducible refine o_tup ?_ ?_); · exact rfl) | ((with_reducible refine o_mul ?_ ?_); · (first | exact .inl ⟨by omega, by omega⟩ | exact .inr ⟨by omega, by omega⟩)) | ((with_reducible refine o_mod ?_ ?_); · omega) | ((with_reducible refine o_fdiv ?_ ?_); · exact ⟨by omega, by omega⟩)
        rw [ix_iL (by rw [rv.1]; exact ht)]
        repeat first | (with_reducible first | refine i_cons ?_ | refine i_nil ?_ | refine i_args ?_ | refine i_c ?_ | refine i_op ?_ | refine i_un ?_ | refine i_call ?_ | refine i_sl ?_ | refine i_noP ?_ | refine i_ret ?_ | refine i_asg ?_ | refine i_par ?_ | refine i_if ?_ | refine i_or ?_ | refine i_bl ?_ | refine i_ifE ?_ | refine i_tru ?_ | refine i_drop ?_ | refine i_not ?_ | refine i_and ?_ | refine o_add ?_ | refine o_sub ?_ | refine o_neg ?_ | refine o_tupl ?_ | refine o_slL ?_ | refine o_name ?_ | refine o_some ?_ | refine i_seq ?_ | refine i_next ?_ | refine i_retN ?_ | refine i_callV ?_ | refine i_parO ?_ | refine o_setK0 ?_ | refine i_eqI ?_ | refine i_par3 ?_ | refine i_notV ?_ | refine i_andV ?_ | refine i_orV ?_ | refine i_un1 ?_ | refine i_dict0 ?_ | refine i_partA ?_ | refine o_len ?_ | refine o_lenT ?_ | refine o_int ?_ | refine o_cmp ?_ | refine o_eqX ?_ | refine o_neX ?_ | refine o_list ?_ | refine o_tupT ?_ | refine o_truth ?_ | refine o_tg2 ?_) | ((with_reducible apply i_var); exact rfl) | ((with_reducible apply i_partV); exact rfl) | ((with_reducible refine o_lst ?_ ?_); · exact rfl) | ((with_reducible refine o_tup ?_ ?_); · exact rfl) | ((with_reducible refine o_mul ?_ ?_); · (first | exact .inl ⟨by omega, by omega⟩ | exact .inr ⟨by omega, by omega⟩)) | ((with_reducible refine o_mod ?_ ?_); · omega) | ((with_reducible refine o_fdiv ?_ ?_); · exact ⟨by omega, by omega⟩)
        cases e : f * LA.gt v t % a == 1 with
        | true =>
          rw [e] at hq
          refine ite_T rfl ?_
          repeat first | (with_reducible first | refine i_cons ?_ | refine i_nil ?_ | refine i_args ?_ | refine i_c ?_ | refine i_op ?_ | refine i_un ?_ | refine i_call ?_ | refine i_sl ?_ | refine i_noP ?_ | refine i_ret ?_ | refine i_asg ?_ | refine i_par ?_ | refine i_if ?_ | refine i_or ?_ | refine i_bl ?_ | refine i_ifE ?_ | refine i_tru ?_ | refine i_drop ?_ | refine i_not ?_ | refine i_and ?_ | refine o_add ?_ | refine o_sub ?_ | refine o_neg ?_ | refine o_tupl ?_ | refine o_slL ?_ | refine o_name ?_ | refine o_some ?_ | refine i_seq ?_ | refine i_next ?_ | refine i_retN ?_ | refine i_callV ?_ | refine i_parO ?_ | refine o_setK0 ?_ | refine i_eqI ?_ | refine i_par3 ?_ | refine i_notV ?_ | refine i_andV ?_ | refine i_orV ?_ | refine i_un1 ?_ | refine i_dict0 ?_ | refine i_partA ?_ | refine o_len ?_ | refine o_lenT ?_ | refine o_int ?_ | refine o_cmp ?_ | refine o_eqX ?_ | refine o_neX ?_ | refine o_list ?_ | refine o_tupT ?_ | refine o_truth ?_ | refine o_tg2 ?_) | ((with_reducible apply i_var); exact rfl) | ((with_reducible apply i_partV); exact rfl) | ((with_reducible refine o_lst ?_ ?_); · exact rfl) | ((with_reducible refine o_tup ?_ ?_); · exact rfl) | ((with_reducible refine o_mul ?_ ?_); · (first | exact .inl ⟨by omega, by omega⟩ | exact .inr ⟨by omega, by omega⟩)) | ((with_reducible refine o_mod ?_ ?_); · omega) | ((with_reducible refine o_fdiv ?_ ?_); · exact ⟨by omega, by omega⟩)
          exact hq
        | false =>
          rw [e] at hq
          refine ite_F rfl ?_
          exact hq
      rw [inv2 ha (by omega) bv.2]
      repeat first | (with_reducible first | refine i_cons ?_ | refine i_nil ?_ | refine i_args ?_ | refine i_c ?_ | refine i_op ?_ | refine i_un ?_ | refine i_call ?_ | refine i_sl ?_ | refine i_noP ?_ | refine i_ret ?_ | refine i_asg ?_ | refine i_par ?_ | refine i_if ?_ | refine i_or ?_ | refine i_bl ?_ | refine i_ifE ?_ | refine i_tru ?_ | refine i_drop ?_ | refine i_not ?_ | refine i_and ?_ | refine o_add ?_ | refine o_sub ?_ | refine o_neg ?_ | refine o_tupl ?_ | refine o_slL ?_ | refine o_name ?_ | refine o_some ?_ | refine i_seq ?_ | refine i_next ?_ | refine i_retN ?_ | refine i_callV ?_ | refine i_parO ?_ | refine o_setK0 ?_ | refine i_eqI ?_ | refine i_par3 ?_ | refine i_notV ?_ | refine i_andV ?_ | refine i_orV ?_ | refine i_un1 ?_ | refine i_dict0 ?_ | refine i_partA ?_ | refine o_len ?_ | refine o_lenT ?_ | refine o_int ?_ | refine o_cmp ?_ | refine o_eqX ?_ | refine o_neX ?_ | refine o_list ?_ | refine o_tupT ?_ | refine o_truth ?_ | refine o_tg2 ?_) | ((with_reducible apply i_var); exact rfl) | ((with_reducible apply i_partV); exact rfl) | ((with_reducible refine o_lst ?_ ?_); · exact rfl) | ((with_reducible refine o_tup ?_ ?_); · exact rfl) | ((with_reducible refine o_mul ?_ ?_); · (first | exact .inl ⟨by omega, by omega⟩ | exact .inr ⟨by omega, by omega⟩)) | ((with_reducible refine o_mod ?_ ?_); · omega) | ((with_reducible refine o_fdiv ?_ ?_); · exact ⟨by omega, by omega⟩)
      refine o_ixL0 (d := D.int (inv a (LA.gt v t))) rfl ?_
      repeat first | (with_reducible first | refine i_cons ?_ | refine i_nil ?_ | refine i_args ?_ | refine i_c ?_ | refine i_op ?_ | refine i_un ?_ | refine i_call ?_ | refine i_sl ?_ | refine i_noP ?_ | refine i_ret ?_ | refine i_asg ?_ | refine i_par ?_ | refine i_if ?_ | refine i_or ?_ | refine i_bl ?_ | refine i_ifE ?_ | refine i_tru ?_ | refine i_drop ?_ | refine i_not ?_ | refine i_and ?_ | refine o_add ?_ | refine o_sub ?_ | refine o_neg ?_ | refine o_tupl ?_ | refine o_slL ?_ | refine o_name ?_ | refine o_some ?_ | refine i_seq ?_ | refine i_next ?_ | refine i_retN ?_ | refine i_callV ?_ | refine i_parO ?_ | refine o_setK0 ?_ | refine i_eqI ?_ | refine i_par3 ?_ | refine i_notV ?_ | refine i_andV ?_ | refine i_orV ?_ | refine i_un1 ?_ | refine i_dict0 ?_ | refine i_partA ?_ | refine o_len ?_ | refine o_lenT ?_ | refine o_int ?_ | refine o_cmp ?_ | refine o_eqX ?_ | refine o_neX ?_ | refine o_list ?_ | refine o_tupT ?_ | refine o_truth ?_ | refine o_tg2 ?_) | ((with_reducible apply i_var); exact rfl) | ((with_reducible apply i_partV); exact rfl) | ((with_reducible refine o_lst ?_ ?_); · exact rfl) | ((with_reducible refine o_tup ?_ ?_); · exact rfl) | ((with_reducible refine o_mul ?_ ?_); · (first | exact .inl ⟨by omega, by omega⟩ | exact .inr ⟨by omega, by omega⟩)) | ((with_reducible refine o_mod ?_ ?_); · omega) | ((with_reducible refine o_fdiv ?_ ?_); · exact ⟨by omega, by omega⟩)
      dsimp only [List.set_cons_zero, List.set_cons_succ]
      repeat first | (with_reducible first | refine i_cons ?_ | refine i_nil ?_ | refine i_args ?_ | refine i_c ?_ | refine i_op ?_ | refine i_un ?_ | refine i_call ?_ | refine i_sl ?_ | refine i_noP ?_ | refine i_ret ?_ | refine i_asg ?_ | refine i_par ?_ | refine i_if ?_ | refine i_or ?_ | refine i_bl ?_ | refine i_ifE ?_ | refine i_tru ?_ | refine i_drop ?_ | refine i_not ?_ | refine i_and ?_ | refine o_add ?_ | refine o_sub ?_ | refine o_neg ?_ | refine o_tupl ?_ | refine o_slL ?_ | refine o_name ?_ | refine o_some ?_ | refine i_seq ?_ | refine i_next ?_ | refine i_retN ?_ | refine i_callV ?_ | refine i_parO ?_ | refine o_setK0 ?_ | refine i_eqI ?_ | refine i_par3 ?_ | refine i_notV ?_ | refine i_andV ?_ | refine i_orV ?_ | refine i_un1 ?_ | refine i_dict0 ?_ | refine i_partA ?_ | refine o_len ?_ | refine o_lenT ?_ | refine o_int ?_ | refine o_cmp ?_ | refine o_eqX ?_ | refine o_neX ?_ | refine o_list ?_ | refine o_tupT ?_ | refine o_truth ?_ | refine o_tg2 ?_) | ((with_reducible apply i_var); exact rfl) | ((with_reducible apply i_partV); exact rfl) | ((with_reducible refine o_lst ?_ ?_); · exact rfl) | ((with_reducible refine o_tup ?_ ?_); · exact rfl) | ((with_reducible refine o_mul ?_ ?_); · (first | exact .inl ⟨by omega, by omega⟩ | exact .inr ⟨by omega, by omega⟩)) | ((with_reducible refine o_mod ?_ ?_); · omega) | ((with_reducible refine o_fdiv ?_ ?_); · exact ⟨by omega, by omega⟩)
      refine i_lc (i_iterL rfl ⟨by rw [List.length_map, rv.1]; omega, ?_⟩)
      refine comp_A (g := fun x => .int (inv a (LA.gt v t) * x % a)) (fun x hx q hq => ?_) ?_
      · refine o_name (i_yes ?_)
        repeat first | (with_reducible first | refine i_cons ?_ | refine i_nil ?_ | refine i_args ?_ | refine i_c ?_ | refine i_op ?_ | refine i_un ?_ | refine i_call ?_ | refine i_sl ?_ | refine i_noP ?_ | refine i_ret ?_ | refine i_asg ?_ | refine i_par ?_ | refine i_if ?_ | refine i_or ?_ | refine i_bl ?_ | refine i_ifE ?_ | refine i_tru ?_ | refine i_drop ?_ | refine i_not ?_ | refine i_and ?_ | refine o_add ?_ | refine o_sub ?_ | refine o_neg ?_ | refine o_tupl ?_ | refine o_slL ?_ | refine o_name ?_ | refine o_some ?_ | refine i_seq ?_ | refine i_next ?_ | refine i_retN ?_ | refine i_callV ?_ | refine i_parO ?_ | refine o_setK0 ?_ | refine i_eqI ?_ | refine i_par3 ?_ | refine i_notV ?_ | refine i_andV ?_ | refine i_orV ?_ | refine i_un1 ?_ | refine i_dict0 ?_ | refine i_partA ?_ | refine o_len ?_ | refine o_lenT ?_ | refine o_int ?_ | refine o_cmp ?_ | refine o_eqX ?_ | refine o_neX ?_ | refine o_list ?_ | refine o_tupT ?_ | refine o_truth ?_ | refine o_tg2 ?_) | ((with_reducible apply i_var); exact rfl) | ((with_reducible apply i_partV); exact rfl) | ((with_reducible refine o_lst ?_ ?_); · exact rfl) | ((with_reducible refine o_tup ?_ ?_); · exact rfl) | ((with_reducible refine o_mul ?_ ?_); · (first | exact .inl ⟨by omega, by omega⟩ | exact .inr ⟨by omega, by omega⟩)) | ((with_reducible refine o_mod ?_ ?_); · omega) | ((with_reducible refine o_fdiv ?_ ?_); · exact ⟨by omega, by omega⟩)
        exact hq
      rw [show v.map (fun x => D.int (inv a (LA.gt v t) * x % a)) = (LA.nrm a (inv a (LA.gt v t)) v).map D.int by unfold LA.nrm; rw [List.map_map]; rfl]
      have nr : LA.Ro a z (LA.nrm a (inv a (LA.gt v t)) v) := LA.nrm_ro ha0.1 rv.1
      generalize LA.nrm a (inv a (LA.gt v t)) v = w at *
      repeat first | (with_reducible first | refine i_cons ?_ | refine i_nil ?_ | refine i_args ?_ | refine i_c ?_ | refine i_op ?_ | refine i_un ?_ | refine i_call ?_ | refine i_sl ?_ | refine i_noP ?_ | refine i_ret ?_ | refine i_asg ?_ | refine i_par ?_ | refine i_if ?_ | refine i_or ?_ | refine i_bl ?_ | refine i_ifE ?_ | refine i_tru ?_ | refine i_drop ?_ | refine i_not ?_ | refine i_and ?_ | refine o_add ?_ | refine o_sub ?_ | refine o_neg ?_ | refine o_tupl ?_ | refine o_slL ?_ | refine o_name ?_ | refine o_some ?_ | refine i_seq ?_ | refine i_next ?_ | refine i_retN ?_ | refine i_callV ?_ | refine i_parO ?_ | refine o_setK0 ?_ | refine i_eqI ?_ | refine i_par3 ?_ | refine i_notV ?_ | refine i_andV ?_ | refine i_orV ?_ | refine i_un1 ?_ | refine i_dict0 ?_ | refine i_partA ?_ | refine o_len ?_ | refine o_lenT ?_ | refine o_int ?_ | refine o_cmp ?_ | refine o_eqX ?_ | refine o_neX ?_ | refine o_list ?_ | refine o_tupT ?_ | refine o_truth ?_ | refine o_tg2 ?_) | ((with_reducible apply i_var); exact rfl) | ((with_reducible apply i_partV); exact rfl) | ((with_reducible refine o_lst ?_ ?_); · exact rfl) | ((with_reducible refine o_tup ?_ ?_); · exact rfl) | ((with_reducible refine o_mul ?_ ?_); · (first | exact .inl ⟨by omega, by omega⟩ | exact .inr ⟨by omega, by omega⟩)) | ((with_reducible refine o_mod ?_ ?_); · omega) | ((with_reducible refine o_fdiv ?_ ?_); · exact ⟨by omega, by omega⟩)
      dsimp only [List.set_cons_zero, List.set_cons_succ]
      have er : (L.map eL).eraseIdx i = (L.eraseIdx i).map eL := erase_map
      rw [er]
      refine i_asgO ?_
      refine i_lc (i_iterO rfl ⟨by rw [List.length_map]; have := List.length_eraseIdx_le L i; omega, ?_⟩)
      refine comp_A (g := fun r => eL (LA.ax a (-(LA.gt r t)) w r)) (fun r hr q hq => ?_) ?_
      · refine o_name (i_yes ?_)
        exact c_less ha0 hz (J.ro r (List.mem_of_mem_eraseIdx hr)) nr ht hq
      intro p2
      repeat first | (with_reducible first | refine i_cons ?_ | refine i_nil ?_ | refine i_args ?_ | refine i_c ?_ | refine i_op ?_ | refine i_un ?_ | refine i_call ?_ | refine i_sl ?_ | refine i_noP ?_ | refine i_ret ?_ | refine i_asg ?_ | refine i_par ?_ | refine i_if ?_ | refine i_or ?_ | refine i_bl ?_ | refine i_ifE ?_ | refine i_tru ?_ | refine i_drop ?_ | refine i_not ?_ | refine i_and ?_ | refine o_add ?_ | refine o_sub ?_ | refine o_neg ?_ | refine o_tupl ?_ | refine o_slL ?_ | refine o_name ?_ | refine o_some ?_ | refine i_seq ?_ | refine i_next ?_ | refine i_retN ?_ | refine i_callV ?_ | refine i_parO ?_ | refine o_setK0 ?_ | refine i_eqI ?_ | refine i_par3 ?_ | refine i_notV ?_ | refine i_andV ?_ | refine i_orV ?_ | refine i_un1 ?_ | refine i_dict0 ?_ | refine i_partA ?_ | refine o_len ?_ | refine o_lenT ?_ | refine o_int ?_ | refine o_cmp ?_ | refine o_eqX ?_ | refine o_neX ?_ | refine o_list ?_ | refine o_tupT ?_ | refine o_truth ?_ | refine o_tg2 ?_) | ((with_reducible apply i_var); exact rfl) | ((with_reducible apply i_partV); exact rfl) | ((with_reducible refine o_lst ?_ ?_); · exact rfl) | ((with_reducible refine o_tup ?_ ?_); · exact rfl) | ((with_reducible refine o_mul ?_ ?_); · (first | exact .inl ⟨by omega, by omega⟩ | exact .inr ⟨by omega, by omega⟩)) | ((with_reducible refine o_mod ?_ ?_); · omega) | ((with_reducible refine o_fdiv ?_ ?_); · exact ⟨by omega, by omega⟩)
      dsimp only [List.set_cons_zero, List.set_cons_succ]
      refine i_lc (i_iterL rfl ⟨by unfold fD; rw [List.length_map]; omega, ?_⟩)
      refine comp_A (enc := fun q : Nat × List Int => eL q.2) (g := fun q => eL (LA.ax a (-(LA.gt q.2 t)) w q.2)) (fun q hq k hk => ?_) ?_
      · refine o_name (i_yes ?_)
        exact c_less ha0 hz (J.red.ro q hq).2 nr ht hk
      repeat first | (with_reducible first | refine i_cons ?_ | refine i_nil ?_ | refine i_args ?_ | refine i_c ?_ | refine i_op ?_ | refine i_un ?_ | refine i_call ?_ | refine i_sl ?_ | refine i_noP ?_ | refine i_ret ?_ | refine i_asg ?_ | refine i_par ?_ | refine i_if ?_ | refine i_or ?_ | refine i_bl ?_ | refine i_ifE ?_ | refine i_tru ?_ | refine i_drop ?_ | refine i_not ?_ | refine i_and ?_ | refine o_add ?_ | refine o_sub ?_ | refine o_neg ?_ | refine o_tupl ?_ | refine o_slL ?_ | refine o_name ?_ | refine o_some ?_ | refine i_seq ?_ | refine i_next ?_ | refine i_retN ?_ | refine i_callV ?_ | refine i_parO ?_ | refine o_setK0 ?_ | refine i_eqI ?_ | refine i_par3 ?_ | refine i_notV ?_ | refine i_andV ?_ | refine i_orV ?_ | refine i_un1 ?_ | refine i_dict0 ?_ | refine i_partA ?_ | refine o_len ?_ | refine o_lenT ?_ | refine o_int ?_ | refine o_cmp ?_ | refine o_eqX ?_ | refine o_neX ?_ | refine o_list ?_ | refine o_tupT ?_ | refine o_truth ?_ | refine o_tg2 ?_) | ((with_reducible apply i_var); exact rfl) | ((with_reducible apply i_partV); exact rfl) | ((with_reducible refine o_lst ?_ ?_); · exact rfl) | ((with_reducible refine o_tup ?_ ?_); · exact rfl) | ((with_reducible refine o_mul ?_ ?_); · (first | exact .inl ⟨by omega, by omega⟩ | exact .inr ⟨by omega, by omega⟩)) | ((with_reducible refine o_mod ?_ ?_); · omega) | ((with_reducible refine o_fdiv ?_ ?_); · exact ⟨by omega, by omega⟩)
      refine o_addL (by rw [List.length_map]; show f.length + 1 ≤ sizeLine; have : (1000 : Nat) ≤ sizeLine := by decide
                        omega) ?_
      repeat first | (with_reducible first | refine i_cons ?_ | refine i_nil ?_ | refine i_args ?_ | refine i_c ?_ | refine i_op ?_ | refine i_un ?_ | refine i_call ?_ | refine i_sl ?_ | refine i_noP ?_ | refine i_ret ?_ | refine i_asg ?_ | refine i_par ?_ | refine i_if ?_ | refine i_or ?_ | refine i_bl ?_ | refine i_ifE ?_ | refine i_tru ?_ | refine i_drop ?_ | refine i_not ?_ | refine i_and ?_ | refine o_add ?_ | refine o_sub ?_ | refine o_neg ?_ | refine o_tupl ?_ | refine o_slL ?_ | refine o_name ?_ | refine o_some ?_ | refine i_seq ?_ | refine i_next ?_ | refine i_retN ?_ | refine i_callV ?_ | refine i_parO ?_ | refine o_setK0 ?_ | refine i_eqI ?_ | refine i_par3 ?_ | refine i_notV ?_ | refine i_andV ?_ | refine i_orV ?_ | refine i_un1 ?_ | refine i_dict0 ?_ | refine i_partA ?_ | refine o_len ?_ | refine o_lenT ?_ | refine o_int ?_ | refine o_cmp ?_ | refine o_eqX ?_ | refine o_neX ?_ | refine o_list ?_ | refine o_tupT ?_ | refine o_truth ?_ | refine o_tg2 ?_) | ((with_reducible apply i_var); exact rfl) | ((with_reducible apply i_partV); exact rfl) | ((with_reducible refine o_lst ?_ ?_); · exact rfl) | ((with_reducible refine o_tup ?_ ?_); · exact rfl) | ((with_reducible refine o_mul ?_ ?_); · (first | exact .inl ⟨by omega, by omega⟩ | exact .inr ⟨by omega, by omega⟩)) | ((with_reducible refine o_mod ?_ ?_); · omega) | ((with_reducible refine o_fdiv ?_ ?_); · exact ⟨by omega, by omega⟩)
      refine hR _ _ ⟨rfl, (L.eraseIdx i).map fun r => LA.ax a (-(LA.gt r t)) w r, (f.map fun p => (p.1, LA.ax a (-(LA.gt p.2 t)) w p.2)) ++ [(t, w)], p2, .val (.int t), .val (.lst (((((v, i) :: rest).map fun p => (p.2 : Int))).map D.int)), .val (eL v), .val (.int (inv a (LA.gt v t))), .val (eL w), b9, b10, b11, b12, b13, step, by rw [List.length_map]; have := List.length_eraseIdx_le L i; omega, ?_⟩
      have e1 : fD ((f.map fun p => (p.1, LA.ax a (-(LA.gt p.2 t)) w p.2)) ++ [(t, w)]) = (f.map fun q => eL (LA.ax a (-(LA.gt q.2 t)) w q.2)) ++ [eL w] := by
        unfold fD; rw [List.map_append, List.map_map]; rfl
      have e2 : ((L.eraseIdx i).map fun r => LA.ax a (-(LA.gt r t)) w r).map eL = (L.eraseIdx i).map fun r => eL (LA.ax a (-(LA.gt r t)) w r) := by
        rw [List.map_map]; rfl
      rw [e1, e2]
      rfl
  · obtain ⟨rfl, L, f, p, b4, b5, b6, b7, b8, b9, b10, b11, b12, b13, J, lL, rfl⟩ := hi
    rw [List.length_map, List.length_range] at J
    have fin : LA.leastF a (inv a) rows = f := by
      by_cases e : rows = []
      · subst e
        have : LA.Red a z f := J.red
        have k0 : f = [] := by
          cases f with
          | nil => rfl
          | cons q f => exact absurd (J.key q List.mem_cons_self) (by simp)
        rw [k0]; rfl
      · rw [if_neg e] at J
        exact LA.jt_fin (by omega) (iv_inv ha) hr J
    have lf := red_len J.red
    repeat first | (with_reducible first | refine i_cons ?_ | refine i_nil ?_ | refine i_args ?_ | refine i_c ?_ | refine i_op ?_ | refine i_un ?_ | refine i_call ?_ | refine i_sl ?_ | refine i_noP ?_ | refine i_ret ?_ | refine i_asg ?_ | refine i_par ?_ | refine i_if ?_ | refine i_or ?_ | refine i_bl ?_ | refine i_ifE ?_ | refine i_tru ?_ | refine i_drop ?_ | refine i_not ?_ | refine i_and ?_ | refine o_add ?_ | refine o_sub ?_ | refine o_neg ?_ | refine o_tupl ?_ | refine o_slL ?_ | refine o_name ?_ | refine o_some ?_ | refine i_seq ?_ | refine i_next ?_ | refine i_retN ?_ | refine i_callV ?_ | refine i_parO ?_ | refine o_setK0 ?_ | refine i_eqI ?_ | refine i_par3 ?_ | refine i_notV ?_ | refine i_andV ?_ | refine i_orV ?_ | refine i_un1 ?_ | refine i_dict0 ?_ | refine i_partA ?_ | refine o_len ?_ | refine o_lenT ?_ | refine o_int ?_ | refine o_cmp ?_ | refine o_eqX ?_ | refine o_neX ?_ | refine o_list ?_ | refine o_tupT ?_ | refine o_truth ?_ | refine o_tg2 ?_) | ((with_reducible apply i_var); exact rfl) | ((with_reducible apply i_partV); exact rfl) | ((with_reducible refine o_lst ?_ ?_); · exact rfl) | ((with_reducible refine o_tup ?_ ?_); · exact rfl) | ((with_reducible refine o_mul ?_ ?_); · (first | exact .inl ⟨by omega, by omega⟩ | exact .inr ⟨by omega, by omega⟩)) | ((with_reducible refine o_mod ?_ ?_); · omega) | ((with_reducible refine o_fdiv ?_ ?_); · exact ⟨by omega, by omega⟩)
    refine i_lc (i_iterL rfl ⟨by unfold fD; rw [List.length_map]; omega, ?_⟩)
    refine comp_A (enc := fun q : Nat × List Int => eL q.2) (g := fun q => eT q.2) (fun q hq k hk => ?_) ?_
    · refine o_name (i_yes ?_)
      repeat first | (with_reducible first | refine i_cons ?_ | refine i_nil ?_ | refine i_args ?_ | refine i_c ?_ | refine i_op ?_ | refine i_un ?_ | refine i_call ?_ | refine i_sl ?_ | refine i_noP ?_ | refine i_ret ?_ | refine i_asg ?_ | refine i_par ?_ | refine i_if ?_ | refine i_or ?_ | refine i_bl ?_ | refine i_ifE ?_ | refine i_tru ?_ | refine i_drop ?_ | refine i_not ?_ | refine i_and ?_ | refine o_add ?_ | refine o_sub ?_ | refine o_neg ?_ | refine o_tupl ?_ | refine o_slL ?_ | refine o_name ?_ | refine o_some ?_ | refine i_seq ?_ | refine i_next ?_ | refine i_retN ?_ | refine i_callV ?_ | refine i_parO ?_ | refine o_setK0 ?_ | refine i_eqI ?_ | refine i_par3 ?_ | refine i_notV ?_ | refine i_andV ?_ | refine i_orV ?_ | refine i_un1 ?_ | refine i_dict0 ?_ | refine i_partA ?_ | refine o_len ?_ | refine o_lenT ?_ | refine o_int ?_ | refine o_cmp ?_ | refine o_eqX ?_ | refine o_neX ?_ | refine o_list ?_ | refine o_tupT ?_ | refine o_truth ?_ | refine o_tg2 ?_) | ((with_reducible apply i_var); exact rfl) | ((with_reducible apply i_partV); exact rfl) | ((with_reducible refine o_lst ?_ ?_); · exact rfl) | ((with_reducible refine o_tup ?_ ?_); · exact rfl) | ((with_reducible refine o_mul ?_ ?_); · (first | exact .inl ⟨by omega, by omega⟩ | exact .inr ⟨by omega, by omega⟩)) | ((with_reducible refine o_mod ?_ ?_); · omega) | ((with_reducible refine o_fdiv ?_ ?_); · exact ⟨by omega, by omega⟩)
      exact hk
    · repeat first | (with_reducible first | refine i_cons ?_ | refine i_nil ?_ | refine i_args ?_ | refine i_c ?_ | refine i_op ?_ | refine i_un ?_ | refine i_call ?_ | refine i_sl ?_ | refine i_noP ?_ | refine i_ret ?_ | refine i_asg ?_ | refine i_par ?_ | refine i_if ?_ | refine i_or ?_ | refine i_bl ?_ | refine i_ifE ?_ | refine i_tru ?_ | refine i_drop ?_ | refine i_not ?_ | refine i_and ?_ | refine o_add ?_ | refine o_sub ?_ | refine o_neg ?_ | refine o_tupl ?_ | refine o_slL ?_ | refine o_name ?_ | refine o_some ?_ | refine i_seq ?_ | refine i_next ?_ | refine i_retN ?_ | refine i_callV ?_ | refine i_parO ?_ | refine o_setK0 ?_ | refine i_eqI ?_ | refine i_par3 ?_ | refine i_notV ?_ | refine i_andV ?_ | refine i_orV ?_ | refine i_un1 ?_ | refine i_dict0 ?_ | refine i_partA ?_ | refine o_len ?_ | refine o_lenT ?_ | refine o_int ?_ | refine o_cmp ?_ | refine o_eqX ?_ | refine o_neX ?_ | refine o_list ?_ | refine o_tupT ?_ | refine o_truth ?_ | refine o_tg2 ?_) | ((with_reducible apply i_var); exact rfl) | ((with_reducible apply i_partV); exact rfl) | ((with_reducible refine o_lst ?_ ?_); · exact rfl) | ((with_reducible refine o_tup ?_ ?_); · exact rfl) | ((with_reducible refine o_mul ?_ ?_); · (first | exact .inl ⟨by omega, by omega⟩ | exact .inr ⟨by omega, by omega⟩)) | ((with_reducible refine o_mod ?_ ?_); · omega) | ((with_reducible refine o_fdiv ?_ ?_); · exact ⟨by omega, by omega⟩)
      have e : f.map (fun q => eT q.2) = eR (LA.least a (inv a) rows) := by unfold eR LA.least LA.rowsF; rw [fin, List.map_map]; rfl
      rw [e]; exact hk
end K15
namespace K15
open PySem PySem.Spec PyProof.Rows L2 DS
/-! spaces told from another gap on -/
theorem is_space {i : Nat} {c z : D} {ds : List D} {ε : XD} {ρ : Ev} {n : Nat} {q : DK} (e : ρ[i]? = some (.val (mkS c z ds))) (h : q (.bl true) n) : mIsI isi_Space (mVar i) ε ρ n q := by
  unfold mIsI
  refine i_var e ?_
  show match isi_Space "Space" with | some b => q (.bl b) n | none => False
  rw [show isi_Space "Space" = some true by decide +kernel]
  exact h
theorem c_need_space {ε : XD} {c z : D} {ds : List D} {p : D} {n : Nat} {k : DK} (h : k .non n) : con_need_space ε [mkS c z ds, p] n k := by
  refine ⟨rfl, ?_⟩
  show m_need_space ε [.val (mkS c z ds), .val p] n _
  unfold m_need_space
  repeat first | (with_reducible first | refine i_cons ?_ | refine i_nil ?_ | refine i_args ?_ | refine i_c ?_ | refine i_op ?_ | refine i_un ?_ | refine i_call ?_ | refine i_sl ?_ | refine i_noP ?_ | refine i_ret ?_ | refine i_asg ?_ | refine i_par ?_ | refine i_if ?_ | refine i_or ?_ | refine i_bl ?_ | refine i_ifE ?_ | refine i_tru ?_ | refine i_drop ?_ | refine i_not ?_ | refine i_and ?_ | refine o_add ?_ | refine o_sub ?_ | refine o_neg ?_ | refine o_tupl ?_ | refine o_slL ?_ | refine o_name ?_ | refine o_some ?_ | refine i_seq ?_ | refine i_next ?_ | refine i_retN ?_ | refine i_callV ?_ | refine i_parO ?_ | refine o_setK0 ?_ | refine i_eqI ?_ | refine i_par3 ?_ | refine i_notV ?_ | refine i_andV ?_ | refine i_orV ?_ | refine i_un1 ?_ | refine i_dict0 ?_ | refine i_partA ?_ | refine o_len ?_ | refine o_lenT ?_ | refine o_int ?_ | refine o_cmp ?_ | refine o_eqX ?_ | refine o_neX ?_ | refine o_list ?_ | refine o_tupT ?_ | refine o_truth ?_ | refine o_tg2 ?_) | ((with_reducible apply i_var); exact rfl) | ((with_reducible apply i_partV); exact rfl) | ((with_reducible refine o_lst ?_ ?_); · exact rfl) | ((with_reducible refine o_tup ?_ ?_); · exact rfl) | ((with_reducible refine o_mul ?_ ?_); · (first | exact .inl ⟨by omega, by omega⟩ | exact .inr ⟨by omega, by omega⟩)) | ((with_reducible refine o_mod ?_ ?_); · omega) | ((with_reducible refine o_fdiv ?_ ?_); · exact ⟨by omega, by omega⟩)
  refine is_space rfl ?_
  repeat first | (with_reducible first | refine i_cons ?_ | refine i_nil ?_ | refine i_args ?_ | refine i_c ?_ | refine i_op ?_ | refine i_un ?_ | refine i_call ?_ | refine i_sl ?_ | refine i_noP ?_ | refine i_ret ?_ | refine i_asg ?_ | refine i_par ?_ | refine i_if ?_ | refine i_or ?_ | refine i_bl ?_ | refine i_ifE ?_ | refine i_tru ?_ | refine i_drop ?_ | refine i_not ?_ | refine i_and ?_ | refine o_add ?_ | refine o_sub ?_ | refine o_neg ?_ | refine o_tupl ?_ | refine o_slL ?_ | refine o_name ?_ | refine o_some ?_ | refine i_seq ?_ | refine i_next ?_ | refine i_retN ?_ | refine i_callV ?_ | refine i_parO ?_ | refine o_setK0 ?_ | refine i_eqI ?_ | refine i_par3 ?_ | refine i_notV ?_ | refine i_andV ?_ | refine i_orV ?_ | refine i_un1 ?_ | refine i_dict0 ?_ | refine i_partA ?_ | refine o_len ?_ | refine o_lenT ?_ | refine o_int ?_ | refine o_cmp ?_ | refine o_eqX ?_ | refine o_neX ?_ | refine o_list ?_ | refine o_tupT ?_ | refine o_truth ?_ | refine o_tg2 ?_) | ((with_reducible apply i_var); exact rfl) | ((with_reducible apply i_partV); exact rfl) | ((with_reducible refine o_lst ?_ ?_); · exact rfl) | ((with_reducible refine o_tup ?_ ?_); · exact rfl) | ((with_reducible refine o_mul ?_ ?_); · (first | exact .inl ⟨by omega, by omega⟩ | exact .inr ⟨by omega, by omega⟩)) | ((with_reducible refine o_mod ?_ ?_); · omega) | ((with_reducible refine o_fdiv ?_ ?_); · exact ⟨by omega, by omega⟩)
  refine ite_F rfl ?_
  exact h
theorem cut_from {xs : List Int} {g : Nat} (h : g ≤ xs.length) : cutD (xs.map D.int) (some (g : Int)) none = (xs.drop g).map D.int := by
  unfold DS.cutD
  rw [HT.sIx_none, HT.sIx_nat, List.length_map, List.map_drop, Nat.min_eq_left h]
  apply List.take_of_length_le
  rw [List.length_drop, List.length_map]
  omega
theorem cut_to {xs : List Int} {g : Nat} (h : g ≤ xs.length) : cutD (xs.map D.int) none (some (g : Int)) = (xs.take g).map D.int := by
  unfold DS.cutD
  rw [HT.sIx_none, HT.sIx_nat, List.length_map, List.drop_zero, List.map_take, Nat.min_eq_left h, Nat.sub_zero]
theorem i_iterT {i : Nat} {ε : XD} {ρ : Ev} {n : Nat} {q : List D → Nat → Prop} {xs : List D} (e : ρ[i]? = some (.val (.tup xs))) (h : q xs n) : mIter (mVar i) ε ρ n q := by
  refine i_iter (i_var e ?_)
  exact h
theorem c_turned_rows {ε : XD} {a : Int} {z g : Nat} {rows : List (List Int)} {n : Nat} {k : DK} (hl : rows.length ≤ 400) (hz : z ≤ 400) (hr : ∀ r ∈ rows, LA.Ro a z r) (hg : g ≤ z) (hk : k (.lst (eR (rows.map (LA.rot g)))) n) :
    con_turned_rows ε [.tup (eR rows), .int (g : Nat)] n k := by
  refine ⟨rfl, ?_⟩
  show m_turned_rows noX [.val (.tup (eR rows)), .val (.int (g : Nat)), .no] n _
  unfold m_turned_rows
  repeat first | (with_reducible first | refine i_cons ?_ | refine i_nil ?_ | refine i_args ?_ | refine i_c ?_ | refine i_op ?_ | refine i_un ?_ | refine i_call ?_ | refine i_sl ?_ | refine i_noP ?_ | refine i_ret ?_ | refine i_asg ?_ | refine i_par ?_ | refine i_if ?_ | refine i_or ?_ | refine i_bl ?_ | refine i_ifE ?_ | refine i_tru ?_ | refine i_drop ?_ | refine i_not ?_ | refine i_and ?_ | refine o_add ?_ | refine o_sub ?_ | refine o_neg ?_ | refine o_tupl ?_ | refine o_slL ?_ | refine o_name ?_ | refine o_some ?_ | refine i_seq ?_ | refine i_next ?_ | refine i_retN ?_ | refine i_callV ?_ | refine i_parO ?_ | refine o_setK0 ?_ | refine i_eqI ?_ | refine i_par3 ?_ | refine i_notV ?_ | refine i_andV ?_ | refine i_orV ?_ | refine i_un1 ?_ | refine i_dict0 ?_ | refine i_partA ?_ | refine o_len ?_ | refine o_lenT ?_ | refine o_int ?_ | refine o_cmp ?_ | refine o_eqX ?_ | refine o_neX ?_ | refine o_list ?_ | refine o_tupT ?_ | refine o_truth ?_ | refine o_tg2 ?_) | ((with_reducible apply i_var); exact rfl) | ((with_reducible apply i_partV); exact rfl) | ((with_reducible refine o_lst ?_ ?_); · exact rfl) | ((with_reducible refine o_tup ?_ ?_); · exact rfl) | ((with_reducible refine o_mul ?_ ?_); · (first | exact .inl ⟨by omega, by omega⟩ | exact .inr ⟨by omega, by omega⟩)) | ((with_reducible refine o_mod ?_ ?_); · omega) | ((with_reducible refine o_fdiv ?_ ?_); · exact ⟨by omega, by omega⟩)
  refine i_lc (i_iterT rfl ⟨by rw [List.length_map]; omega, ?_⟩)
  refine comp_A (enc := fun r => eT r) (g := fun r => eT (LA.rot g r)) (fun r hr2 q hq => ?_) ?_
  · have l : g ≤ r.length := by rw [(hr r hr2).1]; exact hg
    refine o_name (i_yes ?_)
    repeat first | (with_reducible first | refine i_cons ?_ | refine i_nil ?_ | refine i_args ?_ | refine i_c ?_ | refine i_op ?_ | refine i_un ?_ | refine i_call ?_ | refine i_sl ?_ | refine i_noP ?_ | refine i_ret ?_ | refine i_asg ?_ | refine i_par ?_ | refine i_if ?_ | refine i_or ?_ | refine i_bl ?_ | refine i_ifE ?_ | refine i_tru ?_ | refine i_drop ?_ | refine i_not ?_ | refine i_and ?_ | refine o_add ?_ | refine o_sub ?_ | refine o_neg ?_ | refine o_tupl ?_ | refine o_slL ?_ | refine o_name ?_ | refine o_some ?_ | refine i_seq ?_ | refine i_next ?_ | refine i_retN ?_ | refine i_callV ?_ | refine i_parO ?_ | refine o_setK0 ?_ | refine i_eqI ?_ | refine i_par3 ?_ | refine i_notV ?_ | refine i_andV ?_ | refine i_orV ?_ | refine i_un1 ?_ | refine i_dict0 ?_ | refine i_partA ?_ | refine o_len ?_ | refine o_lenT ?_ | refine o_int ?_ | refine o_cmp ?_ | refine o_eqX ?_ | refine o_neX ?_ | refine o_list ?_ | refine o_tupT ?_ | refine o_truth ?_ | refine o_tg2 ?_) | ((with_reducible apply i_var); exact rfl) | ((with_reducible apply i_partV); exact rfl) | ((with_reducible refine o_lst ?_ ?_); · exact rfl) | ((with_reducible refine o_tup ?_ ?_); · exact rfl) | ((with_reducible refine o_mul ?_ ?_); · (first | exact .inl ⟨by omega, by omega⟩ | exact .inr ⟨by omega, by omega⟩)) | ((with_reducible refine o_mod ?_ ?_); · omega) | ((with_reducible refine o_fdiv ?_ ?_); · exact ⟨by omega, by omega⟩)
    refine i_star ?_
    repeat first | (with_reducible first | refine i_cons ?_ | refine i_nil ?_ | refine i_args ?_ | refine i_c ?_ | refine i_op ?_ | refine i_un ?_ | refine i_call ?_ | refine i_sl ?_ | refine i_noP ?_ | refine i_ret ?_ | refine i_asg ?_ | refine i_par ?_ | refine i_if ?_ | refine i_or ?_ | refine i_bl ?_ | refine i_ifE ?_ | refine i_tru ?_ | refine i_drop ?_ | refine i_not ?_ | refine i_and ?_ | refine o_add ?_ | refine o_sub ?_ | refine o_neg ?_ | refine o_tupl ?_ | refine o_slL ?_ | refine o_name ?_ | refine o_some ?_ | refine i_seq ?_ | refine i_next ?_ | refine i_retN ?_ | refine i_callV ?_ | refine i_parO ?_ | refine o_setK0 ?_ | refine i_eqI ?_ | refine i_par3 ?_ | refine i_notV ?_ | refine i_andV ?_ | refine i_orV ?_ | refine i_un1 ?_ | refine i_dict0 ?_ | refine i_partA ?_ | refine o_len ?_ | refine o_lenT ?_ | refine o_int ?_ | refine o_cmp ?_ | refine o_eqX ?_ | refine o_neX ?_ | refine o_list ?_ | refine o_tupT ?_ | refine o_truth ?_ | refine o_tg2 ?_) | ((with_reducible apply i_var); exact rfl) | ((with_reducible apply i_partV); exact rfl) | ((with_reducible refine o_lst ?_ ?_); · exact rfl) | ((with_reducible refine o_tup ?_ ?_); · exact rfl) | ((with_reducible refine o_mul ?_ ?_); · (first | exact .inl ⟨by omega, by omega⟩ | exact .inr ⟨by omega, by omega⟩)) | ((with_reducible refine o_mod ?_ ?_); · omega) | ((with_reducible refine o_fdiv ?_ ?_); · exact ⟨by omega, by omega⟩)
    show optK (some (D.tup (cutD (r.map D.int) (some (g : Int)) none))) _
    rw [cut_from l]
    repeat first | (with_reducible first | refine i_cons ?_ | refine i_nil ?_ | refine i_args ?_ | refine i_c ?_ | refine i_op ?_ | refine i_un ?_ | refine i_call ?_ | refine i_sl ?_ | refine i_noP ?_ | refine i_ret ?_ | refine i_asg ?_ | refine i_par ?_ | refine i_if ?_ | refine i_or ?_ | refine i_bl ?_ | refine i_ifE ?_ | refine i_tru ?_ | refine i_drop ?_ | refine i_not ?_ | refine i_and ?_ | refine o_add ?_ | refine o_sub ?_ | refine o_neg ?_ | refine o_tupl ?_ | refine o_slL ?_ | refine o_name ?_ | refine o_some ?_ | refine i_seq ?_ | refine i_next ?_ | refine i_retN ?_ | refine i_callV ?_ | refine i_parO ?_ | refine o_setK0 ?_ | refine i_eqI ?_ | refine i_par3 ?_ | refine i_notV ?_ | refine i_andV ?_ | refine i_orV ?_ | refine i_un1 ?_ | refine i_dict0 ?_ | refine i_partA ?_ | refine o_len ?_ | refine o_lenT ?_ | refine o_int ?_ | refine o_cmp ?_ | refine o_eqX ?_ | refine o_neX ?_ | refine o_list ?_ | refine o_tupT ?_ | refine o_truth ?_ | refine o_tg2 ?_) | ((with_reducible apply i_var); exact rfl) | ((with_reducible apply i_partV); exact rfl) | ((with_reducible refine o_lst ?_ ?_); · exact rfl) | ((with_reducible refine o_tup ?_ ?_); · exact rfl) | ((with_reducible refine o_mul ?_ ?_); · (first | exact .inl ⟨by omega, by omega⟩ | exact .inr ⟨by omega, by omega⟩)) | ((with_reducible refine o_mod ?_ ?_); · omega) | ((with_reducible refine o_fdiv ?_ ?_); · exact ⟨by omega, by omega⟩)
    refine i_star ?_
    repeat first | (with_reducible first | refine i_cons ?_ | refine i_nil ?_ | refine i_args ?_ | refine i_c ?_ | refine i_op ?_ | refine i_un ?_ | refine i_call ?_ | refine i_sl ?_ | refine i_noP ?_ | refine i_ret ?_ | refine i_asg ?_ | refine i_par ?_ | refine i_if ?_ | refine i_or ?_ | refine i_bl ?_ | refine i_ifE ?_ | refine i_tru ?_ | refine i_drop ?_ | refine i_not ?_ | refine i_and ?_ | refine o_add ?_ | refine o_sub ?_ | refine o_neg ?_ | refine o_tupl ?_ | refine o_slL ?_ | refine o_name ?_ | refine o_some ?_ | refine i_seq ?_ | refine i_next ?_ | refine i_retN ?_ | refine i_callV ?_ | refine i_parO ?_ | refine o_setK0 ?_ | refine i_eqI ?_ | refine i_par3 ?_ | refine i_notV ?_ | refine i_andV ?_ | refine i_orV ?_ | refine i_un1 ?_ | refine i_dict0 ?_ | refine i_partA ?_ | refine o_len ?_ | refine o_lenT ?_ | refine o_int ?_ | refine o_cmp ?_ | refine o_eqX ?_ | refine o_neX ?_ | refine o_list ?_ | refine o_tupT ?_ | refine o_truth ?_ | refine o_tg2 ?_) | ((with_reducible apply i_var); exact rfl) | ((with_reducible apply i_partV); exact rfl) | ((with_reducible refine o_lst ?_ ?_); · exact rfl) | ((with_reducible refine o_tup ?_ ?_); · exact rfl) | ((with_reducible refine o_mul ?_ ?_); · (first | exact .inl ⟨by omega, by omega⟩ | exact .inr ⟨by omega, by omega⟩)) | ((with_reducible refine o_mod ?_ ?_); · omega) | ((with_reducible refine o_fdiv ?_ ?_); · exact ⟨by omega, by omega⟩)
    show optK (some (D.tup (cutD (r.map D.int) none (some (g : Int))))) _
    rw [cut_to l]
    repeat first | (with_reducible first | refine i_cons ?_ | refine i_nil ?_ | refine i_args ?_ | refine i_c ?_ | refine i_op ?_ | refine i_un ?_ | refine i_call ?_ | refine i_sl ?_ | refine i_noP ?_ | refine i_ret ?_ | refine i_asg ?_ | refine i_par ?_ | refine i_if ?_ | refine i_or ?_ | refine i_bl ?_ | refine i_ifE ?_ | refine i_tru ?_ | refine i_drop ?_ | refine i_not ?_ | refine i_and ?_ | refine o_add ?_ | refine o_sub ?_ | refine o_neg ?_ | refine o_tupl ?_ | refine o_slL ?_ | refine o_name ?_ | refine o_some ?_ | refine i_seq ?_ | refine i_next ?_ | refine i_retN ?_ | refine i_callV ?_ | refine i_parO ?_ | refine o_setK0 ?_ | refine i_eqI ?_ | refine i_par3 ?_ | refine i_notV ?_ | refine i_andV ?_ | refine i_orV ?_ | refine i_un1 ?_ | refine i_dict0 ?_ | refine i_partA ?_ | refine o_len ?_ | refine o_lenT ?_ | refine o_int ?_ | refine o_cmp ?_ | refine o_eqX ?_ | refine o_neX ?_ | refine o_list ?_ | refine o_tupT ?_ | refine o_truth ?_ | refine o_tg2 ?_) | ((with_reducible apply i_var); exact rfl) | ((with_reducible apply i_partV); exact rfl) | ((with_reducible refine o_lst ?_ ?_); · exact rfl) | ((with_reducible refine o_tup ?_ ?_); · exact rfl) | ((with_reducible refine o_mul ?_ ?_); · (first | exact .inl ⟨by omega, by omega⟩ | exact .inr ⟨by omega, by omega⟩)) | ((with_reducible refine o_mod ?_ ?_); · omega) | ((with_reducible refine o_fdiv ?_ ?_); · exact ⟨by omega, by omega⟩)
    show optK (tupD ((r.drop g).map D.int ++ ((r.take g).map D.int ++ []))) _
    rw [ek_tup, List.append_nil, ← List.map_append]
    exact ⟨by rw [List.length_map]; show (LA.rot g r).length ≤ 1000; rw [LA.len_rot, (hr r hr2).1]; omega, hq⟩
  · have e : rows.map (fun r => eT (LA.rot g r)) = eR (rows.map (LA.rot g)) := by unfold eR; rw [List.map_map]; rfl
    rw [e]; exact hk
theorem c_turned_space {ε : XD} {a : Int} {z g : Nat} {rows : List (List Int)} {n : Nat} {k : DK} (ha : isC (.int a) = true) (hz : 1 ≤ z ∧ z ≤ 400) (hr : ∀ r ∈ rows, LA.Ro a z r) (hg : g < z) (hk : k (mkSp a z (rows.map (LA.rot g))) n) :
    con_turned_space ε [mkSp a z rows, .int (g : Nat)] n k := by
  have hrn := isC_rng ha
  have hl := le_ro ha hr
  refine ⟨rfl, ?_⟩
  show m_turned_space ε [.val (mkSp a z rows), .val (.int (g : Nat))] n _
  unfold m_turned_space
  repeat first | (with_reducible first | refine i_cons ?_ | refine i_nil ?_ | refine i_args ?_ | refine i_c ?_ | refine i_op ?_ | refine i_un ?_ | refine i_call ?_ | refine i_sl ?_ | refine i_noP ?_ | refine i_ret ?_ | refine i_asg ?_ | refine i_par ?_ | refine i_if ?_ | refine i_or ?_ | refine i_bl ?_ | refine i_ifE ?_ | refine i_tru ?_ | refine i_drop ?_ | refine i_not ?_ | refine i_and ?_ | refine o_add ?_ | refine o_sub ?_ | refine o_neg ?_ | refine o_tupl ?_ | refine o_slL ?_ | refine o_name ?_ | refine o_some ?_ | refine i_seq ?_ | refine i_next ?_ | refine i_retN ?_ | refine i_callV ?_ | refine i_parO ?_ | refine o_setK0 ?_ | refine i_eqI ?_ | refine i_par3 ?_ | refine i_notV ?_ | refine i_andV ?_ | refine i_orV ?_ | refine i_un1 ?_ | refine i_dict0 ?_ | refine i_partA ?_ | refine o_len ?_ | refine o_lenT ?_ | refine o_int ?_ | refine o_cmp ?_ | refine o_eqX ?_ | refine o_neX ?_ | refine o_list ?_ | refine o_tupT ?_ | refine o_truth ?_ | refine o_tg2 ?_) | ((with_reducible apply i_var); exact rfl) | ((with_reducible apply i_partV); exact rfl) | ((with_reducible refine o_lst ?_ ?_); · exact rfl) | ((with_reducible refine o_tup ?_ ?_); · exact rfl) | ((with_reducible refine o_mul ?_ ?_); · (first | exact .inl ⟨by omega, by omega⟩ | exact .inr ⟨by omega, by omega⟩)) | ((with_reducible refine o_mod ?_ ?_); · omega) | ((with_reducible refine o_fdiv ?_ ?_); · exact ⟨by omega, by omega⟩)
  refine c_need_space ?_
  repeat first | (with_reducible first | refine i_cons ?_ | refine i_nil ?_ | refine i_args ?_ | refine i_c ?_ | refine i_op ?_ | refine i_un ?_ | refine i_call ?_ | refine i_sl ?_ | refine i_noP ?_ | refine i_ret ?_ | refine i_asg ?_ | refine i_par ?_ | refine i_if ?_ | refine i_or ?_ | refine i_bl ?_ | refine i_ifE ?_ | refine i_tru ?_ | refine i_drop ?_ | refine i_not ?_ | refine i_and ?_ | refine o_add ?_ | refine o_sub ?_ | refine o_neg ?_ | refine o_tupl ?_ | refine o_slL ?_ | refine o_name ?_ | refine o_some ?_ | refine i_seq ?_ | refine i_next ?_ | refine i_retN ?_ | refine i_callV ?_ | refine i_parO ?_ | refine o_setK0 ?_ | refine i_eqI ?_ | refine i_par3 ?_ | refine i_notV ?_ | refine i_andV ?_ | refine i_orV ?_ | refine i_un1 ?_ | refine i_dict0 ?_ | refine i_partA ?_ | refine o_len ?_ | refine o_lenT ?_ | refine o_int ?_ | refine o_cmp ?_ | refine o_eqX ?_ | refine o_neX ?_ | refine o_list ?_ | refine o_tupT ?_ | refine o_truth ?_ | refine o_tg2 ?_) | ((with_reducible apply i_var); exact rfl) | ((with_reducible apply i_partV); exact rfl) | ((with_reducible refine o_lst ?_ ?_); · exact rfl) | ((with_reducible refine o_tup ?_ ?_); · exact rfl) | ((with_reducible refine o_mul ?_ ?_); · (first | exact .inl ⟨by omega, by omega⟩ | exact .inr ⟨by omega, by omega⟩)) | ((with_reducible refine o_mod ?_ ?_); · omega) | ((with_reducible refine o_fdiv ?_ ?_); · exact ⟨by omega, by omega⟩)
  unfold mkSp
  refine i_fld rfl (fld_size ?_)
  repeat first | (with_reducible first | refine i_cons ?_ | refine i_nil ?_ | refine i_args ?_ | refine i_c ?_ | refine i_op ?_ | refine i_un ?_ | refine i_call ?_ | refine i_sl ?_ | refine i_noP ?_ | refine i_ret ?_ | refine i_asg ?_ | refine i_par ?_ | refine i_if ?_ | refine i_or ?_ | refine i_bl ?_ | refine i_ifE ?_ | refine i_tru ?_ | refine i_drop ?_ | refine i_not ?_ | refine i_and ?_ | refine o_add ?_ | refine o_sub ?_ | refine o_neg ?_ | refine o_tupl ?_ | refine o_slL ?_ | refine o_name ?_ | refine o_some ?_ | refine i_seq ?_ | refine i_next ?_ | refine i_retN ?_ | refine i_callV ?_ | refine i_parO ?_ | refine o_setK0 ?_ | refine i_eqI ?_ | refine i_par3 ?_ | refine i_notV ?_ | refine i_andV ?_ | refine i_orV ?_ | refine i_un1 ?_ | refine i_dict0 ?_ | refine i_partA ?_ | refine o_len ?_ | refine o_lenT ?_ | refine o_int ?_ | refine o_cmp ?_ | refine o_eqX ?_ | refine o_neX ?_ | refine o_list ?_ | refine o_tupT ?_ | refine o_truth ?_ | refine o_tg2 ?_) | ((with_reducible apply i_var); exact rfl) | ((with_reducible apply i_partV); exact rfl) | ((with_reducible refine o_lst ?_ ?_); · exact rfl) | ((with_reducible refine o_tup ?_ ?_); · exact rfl) | ((with_reducible refine o_mul ?_ ?_); · (first | exact .inl ⟨by omega, by omega⟩ | exact .inr ⟨by omega, by omega⟩)) | ((with_reducible refine o_mod ?_ ?_); · omega) | ((with_reducible refine o_fdiv ?_ ?_); · exact ⟨by omega, by omega⟩)
  refine c_need_number (pl_int _) (fun e => ff (isW_of (by omega) (by omega)) e) fun _ => ?_
  repeat first | (with_reducible first | refine i_cons ?_ | refine i_nil ?_ | refine i_args ?_ | refine i_c ?_ | refine i_op ?_ | refine i_un ?_ | refine i_call ?_ | refine i_sl ?_ | refine i_noP ?_ | refine i_ret ?_ | refine i_asg ?_ | refine i_par ?_ | refine i_if ?_ | refine i_or ?_ | refine i_bl ?_ | refine i_ifE ?_ | refine i_tru ?_ | refine i_drop ?_ | refine i_not ?_ | refine i_and ?_ | refine o_add ?_ | refine o_sub ?_ | refine o_neg ?_ | refine o_tupl ?_ | refine o_slL ?_ | refine o_name ?_ | refine o_some ?_ | refine i_seq ?_ | refine i_next ?_ | refine i_retN ?_ | refine i_callV ?_ | refine i_parO ?_ | refine o_setK0 ?_ | refine i_eqI ?_ | refine i_par3 ?_ | refine i_notV ?_ | refine i_andV ?_ | refine i_orV ?_ | refine i_un1 ?_ | refine i_dict0 ?_ | refine i_partA ?_ | refine o_len ?_ | refine o_lenT ?_ | refine o_int ?_ | refine o_cmp ?_ | refine o_eqX ?_ | refine o_neX ?_ | refine o_list ?_ | refine o_tupT ?_ | refine o_truth ?_ | refine o_tg2 ?_) | ((with_reducible apply i_var); exact rfl) | ((with_reducible apply i_partV); exact rfl) | ((with_reducible refine o_lst ?_ ?_); · exact rfl) | ((with_reducible refine o_tup ?_ ?_); · exact rfl) | ((with_reducible refine o_mul ?_ ?_); · (first | exact .inl ⟨by omega, by omega⟩ | exact .inr ⟨by omega, by omega⟩)) | ((with_reducible refine o_mod ?_ ?_); · omega) | ((with_reducible refine o_fdiv ?_ ?_); · exact ⟨by omega, by omega⟩)
  refine i_fld rfl (fld_clock ?_)
  repeat first | (with_reducible first | refine i_cons ?_ | refine i_nil ?_ | refine i_args ?_ | refine i_c ?_ | refine i_op ?_ | refine i_un ?_ | refine i_call ?_ | refine i_sl ?_ | refine i_noP ?_ | refine i_ret ?_ | refine i_asg ?_ | refine i_par ?_ | refine i_if ?_ | refine i_or ?_ | refine i_bl ?_ | refine i_ifE ?_ | refine i_tru ?_ | refine i_drop ?_ | refine i_not ?_ | refine i_and ?_ | refine o_add ?_ | refine o_sub ?_ | refine o_neg ?_ | refine o_tupl ?_ | refine o_slL ?_ | refine o_name ?_ | refine o_some ?_ | refine i_seq ?_ | refine i_next ?_ | refine i_retN ?_ | refine i_callV ?_ | refine i_parO ?_ | refine o_setK0 ?_ | refine i_eqI ?_ | refine i_par3 ?_ | refine i_notV ?_ | refine i_andV ?_ | refine i_orV ?_ | refine i_un1 ?_ | refine i_dict0 ?_ | refine i_partA ?_ | refine o_len ?_ | refine o_lenT ?_ | refine o_int ?_ | refine o_cmp ?_ | refine o_eqX ?_ | refine o_neX ?_ | refine o_list ?_ | refine o_tupT ?_ | refine o_truth ?_ | refine o_tg2 ?_) | ((with_reducible apply i_var); exact rfl) | ((with_reducible apply i_partV); exact rfl) | ((with_reducible refine o_lst ?_ ?_); · exact rfl) | ((with_reducible refine o_tup ?_ ?_); · exact rfl) | ((with_reducible refine o_mul ?_ ?_); · (first | exact .inl ⟨by omega, by omega⟩ | exact .inr ⟨by omega, by omega⟩)) | ((with_reducible refine o_mod ?_ ?_); · omega) | ((with_reducible refine o_fdiv ?_ ?_); · exact ⟨by omega, by omega⟩)
  refine i_fld rfl (fld_size ?_)
  repeat first | (with_reducible first | refine i_cons ?_ | refine i_nil ?_ | refine i_args ?_ | refine i_c ?_ | refine i_op ?_ | refine i_un ?_ | refine i_call ?_ | refine i_sl ?_ | refine i_noP ?_ | refine i_ret ?_ | refine i_asg ?_ | refine i_par ?_ | refine i_if ?_ | refine i_or ?_ | refine i_bl ?_ | refine i_ifE ?_ | refine i_tru ?_ | refine i_drop ?_ | refine i_not ?_ | refine i_and ?_ | refine o_add ?_ | refine o_sub ?_ | refine o_neg ?_ | refine o_tupl ?_ | refine o_slL ?_ | refine o_name ?_ | refine o_some ?_ | refine i_seq ?_ | refine i_next ?_ | refine i_retN ?_ | refine i_callV ?_ | refine i_parO ?_ | refine o_setK0 ?_ | refine i_eqI ?_ | refine i_par3 ?_ | refine i_notV ?_ | refine i_andV ?_ | refine i_orV ?_ | refine i_un1 ?_ | refine i_dict0 ?_ | refine i_partA ?_ | refine o_len ?_ | refine o_lenT ?_ | refine o_int ?_ | refine o_cmp ?_ | refine o_eqX ?_ | refine o_neX ?_ | refine o_list ?_ | refine o_tupT ?_ | refine o_truth ?_ | refine o_tg2 ?_) | ((with_reducible apply i_var); exact rfl) | ((with_reducible apply i_partV); exact rfl) | ((with_reducible refine o_lst ?_ ?_); · exact rfl) | ((with_reducible refine o_tup ?_ ?_); · exact rfl) | ((with_reducible refine o_mul ?_ ?_); · (first | exact .inl ⟨by omega, by omega⟩ | exact .inr ⟨by omega, by omega⟩)) | ((with_reducible refine o_mod ?_ ?_); · omega) | ((with_reducible refine o_fdiv ?_ ?_); · exact ⟨by omega, by omega⟩)
  refine i_fld rfl (fld_rows ?_)
  repeat first | (with_reducible first | refine i_cons ?_ | refine i_nil ?_ | refine i_args ?_ | refine i_c ?_ | refine i_op ?_ | refine i_un ?_ | refine i_call ?_ | refine i_sl ?_ | refine i_noP ?_ | refine i_ret ?_ | refine i_asg ?_ | refine i_par ?_ | refine i_if ?_ | refine i_or ?_ | refine i_bl ?_ | refine i_ifE ?_ | refine i_tru ?_ | refine i_drop ?_ | refine i_not ?_ | refine i_and ?_ | refine o_add ?_ | refine o_sub ?_ | refine o_neg ?_ | refine o_tupl ?_ | refine o_slL ?_ | refine o_name ?_ | refine o_some ?_ | refine i_seq ?_ | refine i_next ?_ | refine i_retN ?_ | refine i_callV ?_ | refine i_parO ?_ | refine o_setK0 ?_ | refine i_eqI ?_ | refine i_par3 ?_ | refine i_notV ?_ | refine i_andV ?_ | refine i_orV ?_ | refine i_un1 ?_ | refine i_dict0 ?_ | refine i_partA ?_ | refine o_len ?_ | refine o_lenT ?_ | refine o_int ?_ | refine o_cmp ?_ | refine o_eqX ?_ | refine o_neX ?_ | refine o_list ?_ | refine o_tupT ?_ | refine o_truth ?_ | refine o_tg2 ?_) | ((with_reducible apply i_var); exact rfl) | ((with_reducible apply i_partV); exact rfl) | ((with_reducible refine o_lst ?_ ?_); · exact rfl) | ((with_reducible refine o_tup ?_ ?_); · exact rfl) | ((with_reducible refine o_mul ?_ ?_); · (first | exact .inl ⟨by omega, by omega⟩ | exact .inr ⟨by omega, by omega⟩)) | ((with_reducible refine o_mod ?_ ?_); · omega) | ((with_reducible refine o_fdiv ?_ ?_); · exact ⟨by omega, by omega⟩)
  refine c_turned_rows (Nat.le_trans (le_len ha hr) hz.2) hz.2 hl (by omega) ?_
  repeat first | (with_reducible first | refine i_cons ?_ | refine i_nil ?_ | refine i_args ?_ | refine i_c ?_ | refine i_op ?_ | refine i_un ?_ | refine i_call ?_ | refine i_sl ?_ | refine i_noP ?_ | refine i_ret ?_ | refine i_asg ?_ | refine i_par ?_ | refine i_if ?_ | refine i_or ?_ | refine i_bl ?_ | refine i_ifE ?_ | refine i_tru ?_ | refine i_drop ?_ | refine i_not ?_ | refine i_and ?_ | refine o_add ?_ | refine o_sub ?_ | refine o_neg ?_ | refine o_tupl ?_ | refine o_slL ?_ | refine o_name ?_ | refine o_some ?_ | refine i_seq ?_ | refine i_next ?_ | refine i_retN ?_ | refine i_callV ?_ | refine i_parO ?_ | refine o_setK0 ?_ | refine i_eqI ?_ | refine i_par3 ?_ | refine i_notV ?_ | refine i_andV ?_ | refine i_orV ?_ | refine i_un1 ?_ | refine i_dict0 ?_ | refine i_partA ?_ | refine o_len ?_ | refine o_lenT ?_ | refine o_int ?_ | refine o_cmp ?_ | refine o_eqX ?_ | refine o_neX ?_ | refine o_list ?_ | refine o_tupT ?_ | refine o_truth ?_ | refine o_tg2 ?_) | ((with_reducible apply i_var); exact rfl) | ((with_reducible apply i_partV); exact rfl) | ((with_reducible refine o_lst ?_ ?_); · exact rfl) | ((with_reducible refine o_tup ?_ ?_); · exact rfl) | ((with_reducible refine o_mul ?_ ?_); · (first | exact .inl ⟨by omega, by omega⟩ | exact .inr ⟨by omega, by omega⟩)) | ((with_reducible refine o_mod ?_ ?_); · omega) | ((with_reducible refine o_fdiv ?_ ?_); · exact ⟨by omega, by omega⟩)
  refine c_space_in ha hz (.inl rfl) (LA.ro_rots hl) ?_
  unfold mkSp at hk ⊢
  rw [LA.least_rot (by omega) (iv_inv ha) hr (by omega)]
  exact hk
end K15
namespace K15
open PySem PySem.Spec PyProof.Rows L2 DS
/-! drawn rows -/
theorem comp_rows {a : Int} {z : Nat} {st : D → Nat → (Option D → Nat → Prop) → Prop} : ∀ (ds : List D) (n : Nat) (k : List D → Nat → Prop), (∀ d n k, n < 800000 → (∀ xs n2, LA.Ro a z xs → n ≤ n2 → n2 ≤ n + z → k (some (eT xs)) n2) → st d n k) → n + ds.length * z < 800000 →
    (∀ (rows : List (List Int)) n2, rows.length = ds.length → (∀ r ∈ rows, LA.Ro a z r) → n ≤ n2 → n2 ≤ n + ds.length * z → k (eR rows) n2) → compD st ds n k
  | [], n, k, _, _, h => h [] n rfl (fun _ h => nomatch h) (Nat.le_refl _) (Nat.le_add_right _ _)
  | d :: ds, n, k, hs, hn, h => by
    rw [List.length_cons, Nat.add_mul, Nat.one_mul] at hn
    refine hs d n _ (by omega) fun x n2 hx g1 g2 => ?_
    refine comp_rows ds n2 _ hs (by omega) fun rows n3 e q g3 g4 => ?_
    refine h (x :: rows) n3 (by rw [List.length_cons, List.length_cons, e]) (fun y hy => ?_) (by omega) (by rw [List.length_cons, Nat.add_mul, Nat.one_mul]; omega)
    rcases List.mem_cons.mp hy with rfl | hy
    · exact hx
    · exact q y hy
/-! reprs that there are -/
theorem rep_iL {xs : List Int} (hx : ∀ i ∈ xs, i.natAbs < 10 ^ 12) (hl : xs.length ≤ 1000) : ∃ z : Str, reprXD [eL xs] = some (.str z) := by
  have := ok_lst (j := 0) (w := 80) (xs := xs.map D.int) fun x hx2 => by
    obtain ⟨i, hi, rfl⟩ := List.mem_map.mp hx2
    exact ok_int (hx i hi)
  exact rep_ok (ok_up this (Nat.le_refl _) (w2 := 81000) (by rw [List.length_map]; omega)) (by decide) (by decide)
theorem rep_2b {b c : Bool} : ∃ z : Str, reprXD [.lst [.bl b, .bl c]] = some (.str z) := rep_ok (ok_lst (j := 0) (w := 80) fun x hx => by
  simp only [List.mem_cons, List.not_mem_nil, or_false] at hx
  rcases hx with rfl | rfl <;> exact ok_bl) (by decide) (by show 32 * (2 * 81) + 30 ≤ 2 ^ 24; decide)
theorem rep_sp {a : Int} {z : Nat} {rows : List (List Int)} {d : Int} (ha : a.natAbs < 100) (hz : z ≤ 40) (hd : d.natAbs < 1000) (hl : rows.length ≤ 40) (hr : ∀ r ∈ rows, LA.Ro a z r) : ∃ s : Str, reprXD [.lst [.int a, .int z, .tup (eR rows), .int d]] = some (.str s) := by
  have o := ok_rows (rows := rows) (l := 40) fun r hr2 => ⟨by rw [(hr r hr2).1]; exact hz, fun i hi => by have := (hr r hr2).2 i hi; omega⟩
  have w : rows.length * (40 * 81 + 1) ≤ 40 * 3241 := Nat.mul_le_mul hl (Nat.le_refl _)
  have one := ok_lst (j := 2) (w := 40 * 3241) (xs := [.int a, .int z, .tup (eR rows), .int d]) fun x hx => by
    simp only [List.mem_cons, List.not_mem_nil, or_false] at hx
    rcases hx with rfl | rfl | rfl | rfl
    · exact ok_up (ok_int (by omega)) (by decide) (by decide)
    · exact ok_up (ok_int (by omega)) (by decide) (by decide)
    · exact ok_up o (Nat.le_refl _) w
    · exact ok_up (ok_int (by omega)) (by decide) (by decide)
  refine rep_ok one (by decide) ?_
  show 32 * (4 * (40 * 3241 + 1)) + 30 ≤ 2 ^ 24
  decide
def m_turn : MS := (mSeq (mAsg (gfTup (gsCons (gfName 3) (gsCons (gfName 4) (gsNil)))) (mArgs tupD (mCons (mCall con__law_clock (mCons (mVar 1) (mNil))) (mCons (mCall con__law_one (mCons (mVar 1) (mCons (mArgs lstD (mCons (mOp addD (mC (.int 1)) (mCall con__law_horse (mCons (mVar 1) (mCons (mC (.int 16)) (mNil))))) (mCons (mC (.int 4)) (mCons (mC (.int 6)) (mCons (mC (.int 3)) (mCons (mC (.int 40)) (mNil))))))) (mNil)))) (mNil)))))
    (mSeq (mAsg (gfName 6) (mLc (mRange1 (mCall con__law_horse (mCons (mVar 1) (mCons (mC (.int 6)) (mNil))))) (gfName 11) [11] (mYes) (mArgs tupleD (mCons (mLc (mRange1 (mVar 4)) (gfName 5) [5] (mYes) (mCall con__law_horse (mCons (mVar 1) (mCons (mVar 3) (mNil))))) (mNil)))))
    (mSeq (mAsg (gfTup (gsCons (gfName 7) (gsCons (gfName 5) (gsNil)))) (mArgs tupD (mCons (mCall con_Space (mCons (mVar 3) (mCons (mVar 4) (mCons (mVar 6) (mNil))))) (mCons (mCall con__law_horse (mCons (mVar 1) (mCons (mVar 4) (mNil)))) (mNil)))))
    (mSeq (mAsg (gfName 8) (mCall con__law_least (mCons (mVar 3) (mCons (mLc (mIter (mVar 6)) (gfName 11) [11] (mYes) (mOp addD (mSl (mVar 11) (mPart (mVar 5)) (mNoP)) (mSl (mVar 11) (mNoP) (mPart (mVar 5))))) (mNil)))))
    (mSeq (mAsg (gfName 9) (mCall con_turned_space (mCons (mVar 7) (mCons (mVar 5) (mNil)))))
    (mSeq (mIf (mOr (mBl (mOp neX (mArgs reprXD (mCons (mArgs lstD (mCons (mFld okI ("clock" : Str) (mVar 9)) (mCons (mFld okI ("size" : Str) (mVar 9)) (mCons (mFld okI ("rows" : Str) (mVar 9)) (mCons (mFld okI ("depth" : Str) (mVar 9)) (mNil)))))) (mNil))) (mArgs reprXD (mCons (mArgs lstD (mCons (mVar 3) (mCons (mVar 4) (mCons (mVar 8) (mCons (mArgs lenD (mCons (mVar 8) (mNil))) (mNil)))))) (mNil))))) (mBl (mEqI true eqC neX (mCallK con_turned_space 0 2 [1, 0] (mNil) (mCons (mVar 5) (mCons (mVar 7) (mNil)))) (mVar 9)))) (mRet (mC (.bl false))) (mNext))
    (mSeq (mAsg (gfName 10) (mCall con__law_horse (mCons (mVar 1) (mCons (mVar 4) (mNil)))))
    (mSeq (mIf (mOr (mBl (mEqI true eqC neX (mCall con_turned_space (mCons (mVar 9) (mCons (mVar 10) (mNil)))) (mCall con_turned_space (mCons (mVar 7) (mCons (mOp modD (mArgs intD (mCons (mOp addD (mVar 5) (mVar 10)) (mNil))) (mVar 4)) (mNil)))))) (mBl (mEqI true eqC neX (mCall con_turned_space (mCons (mVar 9) (mCons (mOp modD (mArgs intD (mCons (mOp subD (mVar 4) (mVar 5)) (mNil))) (mVar 4)) (mNil)))) (mVar 7)))) (mRet (mC (.bl false))) (mNext))
    (mIf (mOr (mBl (mEqI true eqC neX (mCall con_turned_space (mCons (mVar 7) (mCons (mC (.int 0)) (mNil)))) (mVar 7))) (mBl (mOp neX (mFld okI ("rows" : Str) (mVar 7)) (mCall con__law_least (mCons (mVar 3) (mCons (mVar 6) (mNil))))))) (mRet (mC (.bl false))) (mNext))))))))))
theorem i_rangeE {ma : ME} {ε : XD} {ρ : Ev} {n : Nat} {q : List D → Nat → Prop} (h : ma ε ρ n fun d n1 => match d with | .int a => (-(2 ^ 62) ≤ a ∧ a < 2 ^ 62) ∧ q (range1D a) n1 | _ => False) : mRange1 ma ε ρ n q := h
theorem seqT (R : List (List Int)) : ∀ d ∈ eR R, isSeq d = true := fun d hd => by
  obtain ⟨x, _, rfl⟩ := List.mem_map.mp hd
  rfl
theorem lstT (R : List (List Int)) : ((eR R).map fun d => D.lst (elems d)) = R.map eL := by
  unfold eR; rw [List.map_map]; rfl
set_option maxHeartbeats 1000000 in
theorem c_turn {P : Pn} {a2 a3 a4 a5 a6 a7 a8 a9 a10 a11 : Sl} {n : Nat} (hn : n < 600000) (hk : ∀ b3 b4 b5 b6 b7 b8 b9 b10 b11 n2, n2 ≤ n + 300 → P.nx [.no, .val .box, a2, b3, b4, b5, b6, b7, b8, b9, b10, b11] n2) :
    m_turn noX [.no, .val .box, a2, a3, a4, a5, a6, a7, a8, a9, a10, a11] n P := by
  unfold m_turn
  repeat first | (with_reducible first | refine i_cons ?_ | refine i_nil ?_ | refine i_args ?_ | refine i_c ?_ | refine i_op ?_ | refine i_un ?_ | refine i_call ?_ | refine i_sl ?_ | refine i_noP ?_ | refine i_ret ?_ | refine i_asg ?_ | refine i_par ?_ | refine i_if ?_ | refine i_or ?_ | refine i_bl ?_ | refine i_ifE ?_ | refine i_tru ?_ | refine i_drop ?_ | refine i_not ?_ | refine i_and ?_ | refine o_add ?_ | refine o_sub ?_ | refine o_neg ?_ | refine o_tupl ?_ | refine o_slL ?_ | refine o_name ?_ | refine o_some ?_ | refine i_seq ?_ | refine i_next ?_ | refine i_retN ?_ | refine i_callV ?_ | refine i_parO ?_ | refine o_setK0 ?_ | refine i_eqI ?_ | refine i_par3 ?_ | refine i_notV ?_ | refine i_andV ?_ | refine i_orV ?_ | refine i_un1 ?_ | refine i_dict0 ?_ | refine i_partA ?_ | refine o_len ?_ | refine o_lenT ?_ | refine o_int ?_ | refine o_cmp ?_ | refine o_eqX ?_ | refine o_neX ?_ | refine o_list ?_ | refine o_tupT ?_ | refine o_truth ?_ | refine o_tg2 ?_) | ((with_reducible apply i_var); exact rfl) | ((with_reducible apply i_partV); exact rfl) | ((with_reducible refine o_lst ?_ ?_); · exact rfl) | ((with_reducible refine o_tup ?_ ?_); · exact rfl) | ((with_reducible refine o_mul ?_ ?_); · (first | exact .inl ⟨by omega, by omega⟩ | exact .inr ⟨by omega, by omega⟩)) | ((with_reducible refine o_mod ?_ ?_); · omega) | ((with_reducible refine o_fdiv ?_ ?_); · exact ⟨by omega, by omega⟩)
  refine c_clock (by omega) fun a n1 ha g0 g1 => ?_
  have hrn := isC_rng ha
  repeat first | (with_reducible first | refine i_cons ?_ | refine i_nil ?_ | refine i_args ?_ | refine i_c ?_ | refine i_op ?_ | refine i_un ?_ | refine i_call ?_ | refine i_sl ?_ | refine i_noP ?_ | refine i_ret ?_ | refine i_asg ?_ | refine i_par ?_ | refine i_if ?_ | refine i_or ?_ | refine i_bl ?_ | refine i_ifE ?_ | refine i_tru ?_ | refine i_drop ?_ | refine i_not ?_ | refine i_and ?_ | refine o_add ?_ | refine o_sub ?_ | refine o_neg ?_ | refine o_tupl ?_ | refine o_slL ?_ | refine o_name ?_ | refine o_some ?_ | refine i_seq ?_ | refine i_next ?_ | refine i_retN ?_ | refine i_callV ?_ | refine i_parO ?_ | refine o_setK0 ?_ | refine i_eqI ?_ | refine i_par3 ?_ | refine i_notV ?_ | refine i_andV ?_ | refine i_orV ?_ | refine i_un1 ?_ | refine i_dict0 ?_ | refine i_partA ?_ | refine o_len ?_ | refine o_lenT ?_ | refine o_int ?_ | refine o_cmp ?_ | refine o_eqX ?_ | refine o_neX ?_ | refine o_list ?_ | refine o_tupT ?_ | refine o_truth ?_ | refine o_tg2 ?_) | ((with_reducible apply i_var); exact rfl) | ((with_reducible apply i_partV); exact rfl) | ((with_reducible refine o_lst ?_ ?_); · exact rfl) | ((with_reducible refine o_tup ?_ ?_); · exact rfl) | ((with_reducible refine o_mul ?_ ?_); · (first | exact .inl ⟨by omega, by omega⟩ | exact .inr ⟨by omega, by omega⟩)) | ((with_reducible refine o_mod ?_ ?_); · omega) | ((with_reducible refine o_fdiv ?_ ?_); · exact ⟨by omega, by omega⟩)
  refine c_draw ⟨by decide, by decide⟩ (by omega) fun t n2 t0 t1 g2 g3 => ?_
  repeat first | (with_reducible first | refine i_cons ?_ | refine i_nil ?_ | refine i_args ?_ | refine i_c ?_ | refine i_op ?_ | refine i_un ?_ | refine i_call ?_ | refine i_sl ?_ | refine i_noP ?_ | refine i_ret ?_ | refine i_asg ?_ | refine i_par ?_ | refine i_if ?_ | refine i_or ?_ | refine i_bl ?_ | refine i_ifE ?_ | refine i_tru ?_ | refine i_drop ?_ | refine i_not ?_ | refine i_and ?_ | refine o_add ?_ | refine o_sub ?_ | refine o_neg ?_ | refine o_tupl ?_ | refine o_slL ?_ | refine o_name ?_ | refine o_some ?_ | refine i_seq ?_ | refine i_next ?_ | refine i_retN ?_ | refine i_callV ?_ | refine i_parO ?_ | refine o_setK0 ?_ | refine i_eqI ?_ | refine i_par3 ?_ | refine i_notV ?_ | refine i_andV ?_ | refine i_orV ?_ | refine i_un1 ?_ | refine i_dict0 ?_ | refine i_partA ?_ | refine o_len ?_ | refine o_lenT ?_ | refine o_int ?_ | refine o_cmp ?_ | refine o_eqX ?_ | refine o_neX ?_ | refine o_list ?_ | refine o_tupT ?_ | refine o_truth ?_ | refine o_tg2 ?_) | ((with_reducible apply i_var); exact rfl) | ((with_reducible apply i_partV); exact rfl) | ((with_reducible refine o_lst ?_ ?_); · exact rfl) | ((with_reducible refine o_tup ?_ ?_); · exact rfl) | ((with_reducible refine o_mul ?_ ?_); · (first | exact .inl ⟨by omega, by omega⟩ | exact .inr ⟨by omega, by omega⟩)) | ((with_reducible refine o_mod ?_ ?_); · omega) | ((with_reducible refine o_fdiv ?_ ?_); · exact ⟨by omega, by omega⟩)
  refine c_one (le_lit rfl) (le_lit rfl) (by omega) fun x hx n3 g4 g5 => ?_
  obtain ⟨z, rfl, hz⟩ : ∃ z : Nat, x = .int (z : Int) ∧ 1 ≤ z ∧ z ≤ 40 := by
    simp only [List.mem_cons, List.not_mem_nil, or_false] at hx
    rcases hx with rfl | rfl | rfl | rfl | rfl
    · exact ⟨(1 + t).toNat, by rw [Int.toNat_of_nonneg (by omega)], by omega, by omega⟩
    · exact ⟨4, rfl, by decide, by decide⟩
    · exact ⟨6, rfl, by decide, by decide⟩
    · exact ⟨3, rfl, by decide, by decide⟩
    · exact ⟨40, rfl, by decide, by decide⟩
  have hz4 : 1 ≤ z ∧ z ≤ 400 := by omega
  repeat first | (with_reducible first | refine i_cons ?_ | refine i_nil ?_ | refine i_args ?_ | refine i_c ?_ | refine i_op ?_ | refine i_un ?_ | refine i_call ?_ | refine i_sl ?_ | refine i_noP ?_ | refine i_ret ?_ | refine i_asg ?_ | refine i_par ?_ | refine i_if ?_ | refine i_or ?_ | refine i_bl ?_ | refine i_ifE ?_ | refine i_tru ?_ | refine i_drop ?_ | refine i_not ?_ | refine i_and ?_ | refine o_add ?_ | refine o_sub ?_ | refine o_neg ?_ | refine o_tupl ?_ | refine o_slL ?_ | refine o_name ?_ | refine o_some ?_ | refine i_seq ?_ | refine i_next ?_ | refine i_retN ?_ | refine i_callV ?_ | refine i_parO ?_ | refine o_setK0 ?_ | refine i_eqI ?_ | refine i_par3 ?_ | refine i_notV ?_ | refine i_andV ?_ | refine i_orV ?_ | refine i_un1 ?_ | refine i_dict0 ?_ | refine i_partA ?_ | refine o_len ?_ | refine o_lenT ?_ | refine o_int ?_ | refine o_cmp ?_ | refine o_eqX ?_ | refine o_neX ?_ | refine o_list ?_ | refine o_tupT ?_ | refine o_truth ?_ | refine o_tg2 ?_) | ((with_reducible apply i_var); exact rfl) | ((with_reducible apply i_partV); exact rfl) | ((with_reducible refine o_lst ?_ ?_); · exact rfl) | ((with_reducible refine o_tup ?_ ?_); · exact rfl) | ((with_reducible refine o_mul ?_ ?_); · (first | exact .inl ⟨by omega, by omega⟩ | exact .inr ⟨by omega, by omega⟩)) | ((with_reducible refine o_mod ?_ ?_); · omega) | ((with_reducible refine o_fdiv ?_ ?_); · exact ⟨by omega, by omega⟩)
  refine i_lc (i_rangeE ?_)
  repeat first | (with_reducible first | refine i_cons ?_ | refine i_nil ?_ | refine i_args ?_ | refine i_c ?_ | refine i_op ?_ | refine i_un ?_ | refine i_call ?_ | refine i_sl ?_ | refine i_noP ?_ | refine i_ret ?_ | refine i_asg ?_ | refine i_par ?_ | refine i_if ?_ | refine i_or ?_ | refine i_bl ?_ | refine i_ifE ?_ | refine i_tru ?_ | refine i_drop ?_ | refine i_not ?_ | refine i_and ?_ | refine o_add ?_ | refine o_sub ?_ | refine o_neg ?_ | refine o_tupl ?_ | refine o_slL ?_ | refine o_name ?_ | refine o_some ?_ | refine i_seq ?_ | refine i_next ?_ | refine i_retN ?_ | refine i_callV ?_ | refine i_parO ?_ | refine o_setK0 ?_ | refine i_eqI ?_ | refine i_par3 ?_ | refine i_notV ?_ | refine i_andV ?_ | refine i_orV ?_ | refine i_un1 ?_ | refine i_dict0 ?_ | refine i_partA ?_ | refine o_len ?_ | refine o_lenT ?_ | refine o_int ?_ | refine o_cmp ?_ | refine o_eqX ?_ | refine o_neX ?_ | refine o_list ?_ | refine o_tupT ?_ | refine o_truth ?_ | refine o_tg2 ?_) | ((with_reducible apply i_var); exact rfl) | ((with_reducible apply i_partV); exact rfl) | ((with_reducible refine o_lst ?_ ?_); · exact rfl) | ((with_reducible refine o_tup ?_ ?_); · exact rfl) | ((with_reducible refine o_mul ?_ ?_); · (first | exact .inl ⟨by omega, by omega⟩ | exact .inr ⟨by omega, by omega⟩)) | ((with_reducible refine o_mod ?_ ?_); · omega) | ((with_reducible refine o_fdiv ?_ ?_); · exact ⟨by omega, by omega⟩)
  refine c_draw ⟨by decide, by decide⟩ (by omega) fun m n4 m0 m1 g6 g7 => ⟨⟨by omega, by omega⟩, ?_⟩
  refine ⟨by rw [len_range1]; omega, ?_⟩
  have bm : m.toNat * z ≤ 5 * 40 := Nat.mul_le_mul (by omega) hz.2
  refine comp_rows (a := a) (z := z) _ n4 _ (fun d n k hn q => ?_) (by rw [len_range1]; omega) fun rows n5 e hr g8 g9 => ?_
  · refine o_name (i_yes ?_)
    repeat first | (with_reducible first | refine i_cons ?_ | refine i_nil ?_ | refine i_args ?_ | refine i_c ?_ | refine i_op ?_ | refine i_un ?_ | refine i_call ?_ | refine i_sl ?_ | refine i_noP ?_ | refine i_ret ?_ | refine i_asg ?_ | refine i_par ?_ | refine i_if ?_ | refine i_or ?_ | refine i_bl ?_ | refine i_ifE ?_ | refine i_tru ?_ | refine i_drop ?_ | refine i_not ?_ | refine i_and ?_ | refine o_add ?_ | refine o_sub ?_ | refine o_neg ?_ | refine o_tupl ?_ | refine o_slL ?_ | refine o_name ?_ | refine o_some ?_ | refine i_seq ?_ | refine i_next ?_ | refine i_retN ?_ | refine i_callV ?_ | refine i_parO ?_ | refine o_setK0 ?_ | refine i_eqI ?_ | refine i_par3 ?_ | refine i_notV ?_ | refine i_andV ?_ | refine i_orV ?_ | refine i_un1 ?_ | refine i_dict0 ?_ | refine i_partA ?_ | refine o_len ?_ | refine o_lenT ?_ | refine o_int ?_ | refine o_cmp ?_ | refine o_eqX ?_ | refine o_neX ?_ | refine o_list ?_ | refine o_tupT ?_ | refine o_truth ?_ | refine o_tg2 ?_) | ((with_reducible apply i_var); exact rfl) | ((with_reducible apply i_partV); exact rfl) | ((with_reducible refine o_lst ?_ ?_); · exact rfl) | ((with_reducible refine o_tup ?_ ?_); · exact rfl) | ((with_reducible refine o_mul ?_ ?_); · (first | exact .inl ⟨by omega, by omega⟩ | exact .inr ⟨by omega, by omega⟩)) | ((with_reducible refine o_mod ?_ ?_); · omega) | ((with_reducible refine o_fdiv ?_ ?_); · exact ⟨by omega, by omega⟩)
    refine i_lc (i_rangeV rfl (by omega) ⟨by rw [List.length_map, List.length_range]; omega, ?_⟩)
    refine comp_dr (a := a) _ n _ (fun d n k hn q => ?_) (by rw [List.length_map, List.length_range]; omega) fun xs n6 e hx g10 g11 => ?_
    · refine o_name (i_yes ?_)
      repeat first | (with_reducible first | refine i_cons ?_ | refine i_nil ?_ | refine i_args ?_ | refine i_c ?_ | refine i_op ?_ | refine i_un ?_ | refine i_call ?_ | refine i_sl ?_ | refine i_noP ?_ | refine i_ret ?_ | refine i_asg ?_ | refine i_par ?_ | refine i_if ?_ | refine i_or ?_ | refine i_bl ?_ | refine i_ifE ?_ | refine i_tru ?_ | refine i_drop ?_ | refine i_not ?_ | refine i_and ?_ | refine o_add ?_ | refine o_sub ?_ | refine o_neg ?_ | refine o_tupl ?_ | refine o_slL ?_ | refine o_name ?_ | refine o_some ?_ | refine i_seq ?_ | refine i_next ?_ | refine i_retN ?_ | refine i_callV ?_ | refine i_parO ?_ | refine o_setK0 ?_ | refine i_eqI ?_ | refine i_par3 ?_ | refine i_notV ?_ | refine i_andV ?_ | refine i_orV ?_ | refine i_un1 ?_ | refine i_dict0 ?_ | refine i_partA ?_ | refine o_len ?_ | refine o_lenT ?_ | refine o_int ?_ | refine o_cmp ?_ | refine o_eqX ?_ | refine o_neX ?_ | refine o_list ?_ | refine o_tupT ?_ | refine o_truth ?_ | refine o_tg2 ?_) | ((with_reducible apply i_var); exact rfl) | ((with_reducible apply i_partV); exact rfl) | ((with_reducible refine o_lst ?_ ?_); · exact rfl) | ((with_reducible refine o_tup ?_ ?_); · exact rfl) | ((with_reducible refine o_mul ?_ ?_); · (first | exact .inl ⟨by omega, by omega⟩ | exact .inr ⟨by omega, by omega⟩)) | ((with_reducible refine o_mod ?_ ?_); · omega) | ((with_reducible refine o_fdiv ?_ ?_); · exact ⟨by omega, by omega⟩)
      exact c_draw ⟨by omega, by omega⟩ (by omega) q
    · rw [List.length_map, List.length_range] at e g11
      repeat first | (with_reducible first | refine i_cons ?_ | refine i_nil ?_ | refine i_args ?_ | refine i_c ?_ | refine i_op ?_ | refine i_un ?_ | refine i_call ?_ | refine i_sl ?_ | refine i_noP ?_ | refine i_ret ?_ | refine i_asg ?_ | refine i_par ?_ | refine i_if ?_ | refine i_or ?_ | refine i_bl ?_ | refine i_ifE ?_ | refine i_tru ?_ | refine i_drop ?_ | refine i_not ?_ | refine i_and ?_ | refine o_add ?_ | refine o_sub ?_ | refine o_neg ?_ | refine o_tupl ?_ | refine o_slL ?_ | refine o_name ?_ | refine o_some ?_ | refine i_seq ?_ | refine i_next ?_ | refine i_retN ?_ | refine i_callV ?_ | refine i_parO ?_ | refine o_setK0 ?_ | refine i_eqI ?_ | refine i_par3 ?_ | refine i_notV ?_ | refine i_andV ?_ | refine i_orV ?_ | refine i_un1 ?_ | refine i_dict0 ?_ | refine i_partA ?_ | refine o_len ?_ | refine o_lenT ?_ | refine o_int ?_ | refine o_cmp ?_ | refine o_eqX ?_ | refine o_neX ?_ | refine o_list ?_ | refine o_tupT ?_ | refine o_truth ?_ | refine o_tg2 ?_) | ((with_reducible apply i_var); exact rfl) | ((with_reducible apply i_partV); exact rfl) | ((with_reducible refine o_lst ?_ ?_); · exact rfl) | ((with_reducible refine o_tup ?_ ?_); · exact rfl) | ((with_reducible refine o_mul ?_ ?_); · (first | exact .inl ⟨by omega, by omega⟩ | exact .inr ⟨by omega, by omega⟩)) | ((with_reducible refine o_mod ?_ ?_); · omega) | ((with_reducible refine o_fdiv ?_ ?_); · exact ⟨by omega, by omega⟩)
      exact q xs n6 ⟨e, hx⟩ (by omega) (by omega)
  rw [len_range1] at e g9
  have lr : rows.length ≤ 5 := by omega
  repeat first | (with_reducible first | refine i_cons ?_ | refine i_nil ?_ | refine i_args ?_ | refine i_c ?_ | refine i_op ?_ | refine i_un ?_ | refine i_call ?_ | refine i_sl ?_ | refine i_noP ?_ | refine i_ret ?_ | refine i_asg ?_ | refine i_par ?_ | refine i_if ?_ | refine i_or ?_ | refine i_bl ?_ | refine i_ifE ?_ | refine i_tru ?_ | refine i_drop ?_ | refine i_not ?_ | refine i_and ?_ | refine o_add ?_ | refine o_sub ?_ | refine o_neg ?_ | refine o_tupl ?_ | refine o_slL ?_ | refine o_name ?_ | refine o_some ?_ | refine i_seq ?_ | refine i_next ?_ | refine i_retN ?_ | refine i_callV ?_ | refine i_parO ?_ | refine o_setK0 ?_ | refine i_eqI ?_ | refine i_par3 ?_ | refine i_notV ?_ | refine i_andV ?_ | refine i_orV ?_ | refine i_un1 ?_ | refine i_dict0 ?_ | refine i_partA ?_ | refine o_len ?_ | refine o_lenT ?_ | refine o_int ?_ | refine o_cmp ?_ | refine o_eqX ?_ | refine o_neX ?_ | refine o_list ?_ | refine o_tupT ?_ | refine o_truth ?_ | refine o_tg2 ?_) | ((with_reducible apply i_var); exact rfl) | ((with_reducible apply i_partV); exact rfl) | ((with_reducible refine o_lst ?_ ?_); · exact rfl) | ((with_reducible refine o_tup ?_ ?_); · exact rfl) | ((with_reducible refine o_mul ?_ ?_); · (first | exact .inl ⟨by omega, by omega⟩ | exact .inr ⟨by omega, by omega⟩)) | ((with_reducible refine o_mod ?_ ?_); · omega) | ((with_reducible refine o_fdiv ?_ ?_); · exact ⟨by omega, by omega⟩)
  refine sp_new ha hz4 (.inl rfl) (by omega) hr ?_
  repeat first | (with_reducible first | refine i_cons ?_ | refine i_nil ?_ | refine i_args ?_ | refine i_c ?_ | refine i_op ?_ | refine i_un ?_ | refine i_call ?_ | refine i_sl ?_ | refine i_noP ?_ | refine i_ret ?_ | refine i_asg ?_ | refine i_par ?_ | refine i_if ?_ | refine i_or ?_ | refine i_bl ?_ | refine i_ifE ?_ | refine i_tru ?_ | refine i_drop ?_ | refine i_not ?_ | refine i_and ?_ | refine o_add ?_ | refine o_sub ?_ | refine o_neg ?_ | refine o_tupl ?_ | refine o_slL ?_ | refine o_name ?_ | refine o_some ?_ | refine i_seq ?_ | refine i_next ?_ | refine i_retN ?_ | refine i_callV ?_ | refine i_parO ?_ | refine o_setK0 ?_ | refine i_eqI ?_ | refine i_par3 ?_ | refine i_notV ?_ | refine i_andV ?_ | refine i_orV ?_ | refine i_un1 ?_ | refine i_dict0 ?_ | refine i_partA ?_ | refine o_len ?_ | refine o_lenT ?_ | refine o_int ?_ | refine o_cmp ?_ | refine o_eqX ?_ | refine o_neX ?_ | refine o_list ?_ | refine o_tupT ?_ | refine o_truth ?_ | refine o_tg2 ?_) | ((with_reducible apply i_var); exact rfl) | ((with_reducible apply i_partV); exact rfl) | ((with_reducible refine o_lst ?_ ?_); · exact rfl) | ((with_reducible refine o_tup ?_ ?_); · exact rfl) | ((with_reducible refine o_mul ?_ ?_); · (first | exact .inl ⟨by omega, by omega⟩ | exact .inr ⟨by omega, by omega⟩)) | ((with_reducible refine o_mod ?_ ?_); · omega) | ((with_reducible refine o_fdiv ?_ ?_); · exact ⟨by omega, by omega⟩)
  refine c_draw ⟨by omega, by omega⟩ (by omega) fun gp n6 p0 p1 g10 g11 => ?_
  obtain ⟨g, rfl⟩ : ∃ g : Nat, gp = (g : Int) := ⟨gp.toNat, by omega⟩
  have hg : g < z := by omega
  repeat first | (with_reducible first | refine i_cons ?_ | refine i_nil ?_ | refine i_args ?_ | refine i_c ?_ | refine i_op ?_ | refine i_un ?_ | refine i_call ?_ | refine i_sl ?_ | refine i_noP ?_ | refine i_ret ?_ | refine i_asg ?_ | refine i_par ?_ | refine i_if ?_ | refine i_or ?_ | refine i_bl ?_ | refine i_ifE ?_ | refine i_tru ?_ | refine i_drop ?_ | refine i_not ?_ | refine i_and ?_ | refine o_add ?_ | refine o_sub ?_ | refine o_neg ?_ | refine o_tupl ?_ | refine o_slL ?_ | refine o_name ?_ | refine o_some ?_ | refine i_seq ?_ | refine i_next ?_ | refine i_retN ?_ | refine i_callV ?_ | refine i_parO ?_ | refine o_setK0 ?_ | refine i_eqI ?_ | refine i_par3 ?_ | refine i_notV ?_ | refine i_andV ?_ | refine i_orV ?_ | refine i_un1 ?_ | refine i_dict0 ?_ | refine i_partA ?_ | refine o_len ?_ | refine o_lenT ?_ | refine o_int ?_ | refine o_cmp ?_ | refine o_eqX ?_ | refine o_neX ?_ | refine o_list ?_ | refine o_tupT ?_ | refine o_truth ?_ | refine o_tg2 ?_) | ((with_reducible apply i_var); exact rfl) | ((with_reducible apply i_partV); exact rfl) | ((with_reducible refine o_lst ?_ ?_); · exact rfl) | ((with_reducible refine o_tup ?_ ?_); · exact rfl) | ((with_reducible refine o_mul ?_ ?_); · (first | exact .inl ⟨by omega, by omega⟩ | exact .inr ⟨by omega, by omega⟩)) | ((with_reducible refine o_mod ?_ ?_); · omega) | ((with_reducible refine o_fdiv ?_ ?_); · exact ⟨by omega, by omega⟩)
  dsimp only [List.set_cons_zero, List.set_cons_succ]
  refine i_lc (i_iterL rfl ⟨by rw [List.length_map]; omega, ?_⟩)
  refine comp_A (enc := fun r => eT r) (g := fun r => eT (LA.rot g r)) (fun r hr2 q hq => ?_) ?_
  · have l : g ≤ r.length := by rw [(hr r hr2).1]; omega
    refine o_name (i_yes ?_)
    repeat first | (with_reducible first | refine i_cons ?_ | refine i_nil ?_ | refine i_args ?_ | refine i_c ?_ | refine i_op ?_ | refine i_un ?_ | refine i_call ?_ | refine i_sl ?_ | refine i_noP ?_ | refine i_ret ?_ | refine i_asg ?_ | refine i_par ?_ | refine i_if ?_ | refine i_or ?_ | refine i_bl ?_ | refine i_ifE ?_ | refine i_tru ?_ | refine i_drop ?_ | refine i_not ?_ | refine i_and ?_ | refine o_add ?_ | refine o_sub ?_ | refine o_neg ?_ | refine o_tupl ?_ | refine o_slL ?_ | refine o_name ?_ | refine o_some ?_ | refine i_seq ?_ | refine i_next ?_ | refine i_retN ?_ | refine i_callV ?_ | refine i_parO ?_ | refine o_setK0 ?_ | refine i_eqI ?_ | refine i_par3 ?_ | refine i_notV ?_ | refine i_andV ?_ | refine i_orV ?_ | refine i_un1 ?_ | refine i_dict0 ?_ | refine i_partA ?_ | refine o_len ?_ | refine o_lenT ?_ | refine o_int ?_ | refine o_cmp ?_ | refine o_eqX ?_ | refine o_neX ?_ | refine o_list ?_ | refine o_tupT ?_ | refine o_truth ?_ | refine o_tg2 ?_) | ((with_reducible apply i_var); exact rfl) | ((with_reducible apply i_partV); exact rfl) | ((with_reducible refine o_lst ?_ ?_); · exact rfl) | ((with_reducible refine o_tup ?_ ?_); · exact rfl) | ((with_reducible refine o_mul ?_ ?_); · (first | exact .inl ⟨by omega, by omega⟩ | exact .inr ⟨by omega, by omega⟩)) | ((with_reducible refine o_mod ?_ ?_); · omega) | ((with_reducible refine o_fdiv ?_ ?_); · exact ⟨by omega, by omega⟩)
    show optK (some (D.tup (cutD (r.map D.int) (some (g : Int)) none))) _
    rw [cut_from l]
    repeat first | (with_reducible first | refine i_cons ?_ | refine i_nil ?_ | refine i_args ?_ | refine i_c ?_ | refine i_op ?_ | refine i_un ?_ | refine i_call ?_ | refine i_sl ?_ | refine i_noP ?_ | refine i_ret ?_ | refine i_asg ?_ | refine i_par ?_ | refine i_if ?_ | refine i_or ?_ | refine i_bl ?_ | refine i_ifE ?_ | refine i_tru ?_ | refine i_drop ?_ | refine i_not ?_ | refine i_and ?_ | refine o_add ?_ | refine o_sub ?_ | refine o_neg ?_ | refine o_tupl ?_ | refine o_slL ?_ | refine o_name ?_ | refine o_some ?_ | refine i_seq ?_ | refine i_next ?_ | refine i_retN ?_ | refine i_callV ?_ | refine i_parO ?_ | refine o_setK0 ?_ | refine i_eqI ?_ | refine i_par3 ?_ | refine i_notV ?_ | refine i_andV ?_ | refine i_orV ?_ | refine i_un1 ?_ | refine i_dict0 ?_ | refine i_partA ?_ | refine o_len ?_ | refine o_lenT ?_ | refine o_int ?_ | refine o_cmp ?_ | refine o_eqX ?_ | refine o_neX ?_ | refine o_list ?_ | refine o_tupT ?_ | refine o_truth ?_ | refine o_tg2 ?_) | ((with_reducible apply i_var); exact rfl) | ((with_reducible apply i_partV); exact rfl) | ((with_reducible refine o_lst ?_ ?_); · exact rfl) | ((with_reducible refine o_tup ?_ ?_); · exact rfl) | ((with_reducible refine o_mul ?_ ?_); · (first | exact .inl ⟨by omega, by omega⟩ | exact .inr ⟨by omega, by omega⟩)) | ((with_reducible refine o_mod ?_ ?_); · omega) | ((with_reducible refine o_fdiv ?_ ?_); · exact ⟨by omega, by omega⟩)
    show optK (some (D.tup (cutD (r.map D.int) none (some (g : Int))))) _
    rw [cut_to l]
    repeat first | (with_reducible first | refine i_cons ?_ | refine i_nil ?_ | refine i_args ?_ | refine i_c ?_ | refine i_op ?_ | refine i_un ?_ | refine i_call ?_ | refine i_sl ?_ | refine i_noP ?_ | refine i_ret ?_ | refine i_asg ?_ | refine i_par ?_ | refine i_if ?_ | refine i_or ?_ | refine i_bl ?_ | refine i_ifE ?_ | refine i_tru ?_ | refine i_drop ?_ | refine i_not ?_ | refine i_and ?_ | refine o_add ?_ | refine o_sub ?_ | refine o_neg ?_ | refine o_tupl ?_ | refine o_slL ?_ | refine o_name ?_ | refine o_some ?_ | refine i_seq ?_ | refine i_next ?_ | refine i_retN ?_ | refine i_callV ?_ | refine i_parO ?_ | refine o_setK0 ?_ | refine i_eqI ?_ | refine i_par3 ?_ | refine i_notV ?_ | refine i_andV ?_ | refine i_orV ?_ | refine i_un1 ?_ | refine i_dict0 ?_ | refine i_partA ?_ | refine o_len ?_ | refine o_lenT ?_ | refine o_int ?_ | refine o_cmp ?_ | refine o_eqX ?_ | refine o_neX ?_ | refine o_list ?_ | refine o_tupT ?_ | refine o_truth ?_ | refine o_tg2 ?_) | ((with_reducible apply i_var); exact rfl) | ((with_reducible apply i_partV); exact rfl) | ((with_reducible refine o_lst ?_ ?_); · exact rfl) | ((with_reducible refine o_tup ?_ ?_); · exact rfl) | ((with_reducible refine o_mul ?_ ?_); · (first | exact .inl ⟨by omega, by omega⟩ | exact .inr ⟨by omega, by omega⟩)) | ((with_reducible refine o_mod ?_ ?_); · omega) | ((with_reducible refine o_fdiv ?_ ?_); · exact ⟨by omega, by omega⟩)
    refine o_addT (by rw [List.length_map, List.length_map, List.length_drop, List.length_take, (hr r hr2).1]; show _ ≤ sizeLine; have : (400 : Nat) ≤ sizeLine := by decide
                      omega) ?_
    repeat first | (with_reducible first | refine i_cons ?_ | refine i_nil ?_ | refine i_args ?_ | refine i_c ?_ | refine i_op ?_ | refine i_un ?_ | refine i_call ?_ | refine i_sl ?_ | refine i_noP ?_ | refine i_ret ?_ | refine i_asg ?_ | refine i_par ?_ | refine i_if ?_ | refine i_or ?_ | refine i_bl ?_ | refine i_ifE ?_ | refine i_tru ?_ | refine i_drop ?_ | refine i_not ?_ | refine i_and ?_ | refine o_add ?_ | refine o_sub ?_ | refine o_neg ?_ | refine o_tupl ?_ | refine o_slL ?_ | refine o_name ?_ | refine o_some ?_ | refine i_seq ?_ | refine i_next ?_ | refine i_retN ?_ | refine i_callV ?_ | refine i_parO ?_ | refine o_setK0 ?_ | refine i_eqI ?_ | refine i_par3 ?_ | refine i_notV ?_ | refine i_andV ?_ | refine i_orV ?_ | refine i_un1 ?_ | refine i_dict0 ?_ | refine i_partA ?_ | refine o_len ?_ | refine o_lenT ?_ | refine o_int ?_ | refine o_cmp ?_ | refine o_eqX ?_ | refine o_neX ?_ | refine o_list ?_ | refine o_tupT ?_ | refine o_truth ?_ | refine o_tg2 ?_) | ((with_reducible apply i_var); exact rfl) | ((with_reducible apply i_partV); exact rfl) | ((with_reducible refine o_lst ?_ ?_); · exact rfl) | ((with_reducible refine o_tup ?_ ?_); · exact rfl) | ((with_reducible refine o_mul ?_ ?_); · (first | exact .inl ⟨by omega, by omega⟩ | exact .inr ⟨by omega, by omega⟩)) | ((with_reducible refine o_mod ?_ ?_); · omega) | ((with_reducible refine o_fdiv ?_ ?_); · exact ⟨by omega, by omega⟩)
    rw [← List.map_append]
    exact hq
  have e1 : rows.map (fun r => eT (LA.rot g r)) = eR (rows.map (LA.rot g)) := by unfold eR; rw [List.map_map]; rfl
  rw [e1]
  have hrr := LA.ro_rots (g := g) hr
  repeat first | (with_reducible first | refine i_cons ?_ | refine i_nil ?_ | refine i_args ?_ | refine i_c ?_ | refine i_op ?_ | refine i_un ?_ | refine i_call ?_ | refine i_sl ?_ | refine i_noP ?_ | refine i_ret ?_ | refine i_asg ?_ | refine i_par ?_ | refine i_if ?_ | refine i_or ?_ | refine i_bl ?_ | refine i_ifE ?_ | refine i_tru ?_ | refine i_drop ?_ | refine i_not ?_ | refine i_and ?_ | refine o_add ?_ | refine o_sub ?_ | refine o_neg ?_ | refine o_tupl ?_ | refine o_slL ?_ | refine o_name ?_ | refine o_some ?_ | refine i_seq ?_ | refine i_next ?_ | refine i_retN ?_ | refine i_callV ?_ | refine i_parO ?_ | refine o_setK0 ?_ | refine i_eqI ?_ | refine i_par3 ?_ | refine i_notV ?_ | refine i_andV ?_ | refine i_orV ?_ | refine i_un1 ?_ | refine i_dict0 ?_ | refine i_partA ?_ | refine o_len ?_ | refine o_lenT ?_ | refine o_int ?_ | refine o_cmp ?_ | refine o_eqX ?_ | refine o_neX ?_ | refine o_list ?_ | refine o_tupT ?_ | refine o_truth ?_ | refine o_tg2 ?_) | ((with_reducible apply i_var); exact rfl) | ((with_reducible apply i_partV); exact rfl) | ((with_reducible refine o_lst ?_ ?_); · exact rfl) | ((with_reducible refine o_tup ?_ ?_); · exact rfl) | ((with_reducible refine o_mul ?_ ?_); · (first | exact .inl ⟨by omega, by omega⟩ | exact .inr ⟨by omega, by omega⟩)) | ((with_reducible refine o_mod ?_ ?_); · omega) | ((with_reducible refine o_fdiv ?_ ?_); · exact ⟨by omega, by omega⟩)
  refine c_oleast ha (by omega) (.inl rfl) (seqT _) (lstT _) (by rw [List.length_map]; omega) hrr ?_
  repeat first | (with_reducible first | refine i_cons ?_ | refine i_nil ?_ | refine i_args ?_ | refine i_c ?_ | refine i_op ?_ | refine i_un ?_ | refine i_call ?_ | refine i_sl ?_ | refine i_noP ?_ | refine i_ret ?_ | refine i_asg ?_ | refine i_par ?_ | refine i_if ?_ | refine i_or ?_ | refine i_bl ?_ | refine i_ifE ?_ | refine i_tru ?_ | refine i_drop ?_ | refine i_not ?_ | refine i_and ?_ | refine o_add ?_ | refine o_sub ?_ | refine o_neg ?_ | refine o_tupl ?_ | refine o_slL ?_ | refine o_name ?_ | refine o_some ?_ | refine i_seq ?_ | refine i_next ?_ | refine i_retN ?_ | refine i_callV ?_ | refine i_parO ?_ | refine o_setK0 ?_ | refine i_eqI ?_ | refine i_par3 ?_ | refine i_notV ?_ | refine i_andV ?_ | refine i_orV ?_ | refine i_un1 ?_ | refine i_dict0 ?_ | refine i_partA ?_ | refine o_len ?_ | refine o_lenT ?_ | refine o_int ?_ | refine o_cmp ?_ | refine o_eqX ?_ | refine o_neX ?_ | refine o_list ?_ | refine o_tupT ?_ | refine o_truth ?_ | refine o_tg2 ?_) | ((with_reducible apply i_var); exact rfl) | ((with_reducible apply i_partV); exact rfl) | ((with_reducible refine o_lst ?_ ?_); · exact rfl) | ((with_reducible refine o_tup ?_ ?_); · exact rfl) | ((with_reducible refine o_mul ?_ ?_); · (first | exact .inl ⟨by omega, by omega⟩ | exact .inr ⟨by omega, by omega⟩)) | ((with_reducible refine o_mod ?_ ?_); · omega) | ((with_reducible refine o_fdiv ?_ ?_); · exact ⟨by omega, by omega⟩)
  dsimp only [List.set_cons_zero, List.set_cons_succ]
  refine c_turned_space ha hz4 hr hg ?_
  repeat first | (with_reducible first | refine i_cons ?_ | refine i_nil ?_ | refine i_args ?_ | refine i_c ?_ | refine i_op ?_ | refine i_un ?_ | refine i_call ?_ | refine i_sl ?_ | refine i_noP ?_ | refine i_ret ?_ | refine i_asg ?_ | refine i_par ?_ | refine i_if ?_ | refine i_or ?_ | refine i_bl ?_ | refine i_ifE ?_ | refine i_tru ?_ | refine i_drop ?_ | refine i_not ?_ | refine i_and ?_ | refine o_add ?_ | refine o_sub ?_ | refine o_neg ?_ | refine o_tupl ?_ | refine o_slL ?_ | refine o_name ?_ | refine o_some ?_ | refine i_seq ?_ | refine i_next ?_ | refine i_retN ?_ | refine i_callV ?_ | refine i_parO ?_ | refine o_setK0 ?_ | refine i_eqI ?_ | refine i_par3 ?_ | refine i_notV ?_ | refine i_andV ?_ | refine i_orV ?_ | refine i_un1 ?_ | refine i_dict0 ?_ | refine i_partA ?_ | refine o_len ?_ | refine o_lenT ?_ | refine o_int ?_ | refine o_cmp ?_ | refine o_eqX ?_ | refine o_neX ?_ | refine o_list ?_ | refine o_tupT ?_ | refine o_truth ?_ | refine o_tg2 ?_) | ((with_reducible apply i_var); exact rfl) | ((with_reducible apply i_partV); exact rfl) | ((with_reducible refine o_lst ?_ ?_); · exact rfl) | ((with_reducible refine o_tup ?_ ?_); · exact rfl) | ((with_reducible refine o_mul ?_ ?_); · (first | exact .inl ⟨by omega, by omega⟩ | exact .inr ⟨by omega, by omega⟩)) | ((with_reducible refine o_mod ?_ ?_); · omega) | ((with_reducible refine o_fdiv ?_ ?_); · exact ⟨by omega, by omega⟩)
  dsimp only [List.set_cons_zero, List.set_cons_succ]
  have hS := le_ro ha hrr
  have lS := le_len ha hrr
  obtain ⟨s3, e3⟩ := rep_sp (a := a) (z := z) (rows := LA.least a (inv a) (rows.map (LA.rot g))) (d := ((eR (LA.least a (inv a) (rows.map (LA.rot g)))).length : Int)) (by omega) hz.2 (by rw [List.length_map]; omega) (by omega) hS
  unfold mkSp mkS
  refine i_fld rfl (fld_clock ?_)
  repeat first | (with_reducible first | refine i_cons ?_ | refine i_nil ?_ | refine i_args ?_ | refine i_c ?_ | refine i_op ?_ | refine i_un ?_ | refine i_call ?_ | refine i_sl ?_ | refine i_noP ?_ | refine i_ret ?_ | refine i_asg ?_ | refine i_par ?_ | refine i_if ?_ | refine i_or ?_ | refine i_bl ?_ | refine i_ifE ?_ | refine i_tru ?_ | refine i_drop ?_ | refine i_not ?_ | refine i_and ?_ | refine o_add ?_ | refine o_sub ?_ | refine o_neg ?_ | refine o_tupl ?_ | refine o_slL ?_ | refine o_name ?_ | refine o_some ?_ | refine i_seq ?_ | refine i_next ?_ | refine i_retN ?_ | refine i_callV ?_ | refine i_parO ?_ | refine o_setK0 ?_ | refine i_eqI ?_ | refine i_par3 ?_ | refine i_notV ?_ | refine i_andV ?_ | refine i_orV ?_ | refine i_un1 ?_ | refine i_dict0 ?_ | refine i_partA ?_ | refine o_len ?_ | refine o_lenT ?_ | refine o_int ?_ | refine o_cmp ?_ | refine o_eqX ?_ | refine o_neX ?_ | refine o_list ?_ | refine o_tupT ?_ | refine o_truth ?_ | refine o_tg2 ?_) | ((with_reducible apply i_var); exact rfl) | ((with_reducible apply i_partV); exact rfl) | ((with_reducible refine o_lst ?_ ?_); · exact rfl) | ((with_reducible refine o_tup ?_ ?_); · exact rfl) | ((with_reducible refine o_mul ?_ ?_); · (first | exact .inl ⟨by omega, by omega⟩ | exact .inr ⟨by omega, by omega⟩)) | ((with_reducible refine o_mod ?_ ?_); · omega) | ((with_reducible refine o_fdiv ?_ ?_); · exact ⟨by omega, by omega⟩)
  refine i_fld rfl (fld_size ?_)
  repeat first | (with_reducible first | refine i_cons ?_ | refine i_nil ?_ | refine i_args ?_ | refine i_c ?_ | refine i_op ?_ | refine i_un ?_ | refine i_call ?_ | refine i_sl ?_ | refine i_noP ?_ | refine i_ret ?_ | refine i_asg ?_ | refine i_par ?_ | refine i_if ?_ | refine i_or ?_ | refine i_bl ?_ | refine i_ifE ?_ | refine i_tru ?_ | refine i_drop ?_ | refine i_not ?_ | refine i_and ?_ | refine o_add ?_ | refine o_sub ?_ | refine o_neg ?_ | refine o_tupl ?_ | refine o_slL ?_ | refine o_name ?_ | refine o_some ?_ | refine i_seq ?_ | refine i_next ?_ | refine i_retN ?_ | refine i_callV ?_ | refine i_parO ?_ | refine o_setK0 ?_ | refine i_eqI ?_ | refine i_par3 ?_ | refine i_notV ?_ | refine i_andV ?_ | refine i_orV ?_ | refine i_un1 ?_ | refine i_dict0 ?_ | refine i_partA ?_ | refine o_len ?_ | refine o_lenT ?_ | refine o_int ?_ | refine o_cmp ?_ | refine o_eqX ?_ | refine o_neX ?_ | refine o_list ?_ | refine o_tupT ?_ | refine o_truth ?_ | refine o_tg2 ?_) | ((with_reducible apply i_var); exact rfl) | ((with_reducible apply i_partV); exact rfl) | ((with_reducible refine o_lst ?_ ?_); · exact rfl) | ((with_reducible refine o_tup ?_ ?_); · exact rfl) | ((with_reducible refine o_mul ?_ ?_); · (first | exact .inl ⟨by omega, by omega⟩ | exact .inr ⟨by omega, by omega⟩)) | ((with_reducible refine o_mod ?_ ?_); · omega) | ((with_reducible refine o_fdiv ?_ ?_); · exact ⟨by omega, by omega⟩)
  refine i_fld rfl (fld_rows ?_)
  repeat first | (with_reducible first | refine i_cons ?_ | refine i_nil ?_ | refine i_args ?_ | refine i_c ?_ | refine i_op ?_ | refine i_un ?_ | refine i_call ?_ | refine i_sl ?_ | refine i_noP ?_ | refine i_ret ?_ | refine i_asg ?_ | refine i_par ?_ | refine i_if ?_ | refine i_or ?_ | refine i_bl ?_ | refine i_ifE ?_ | refine i_tru ?_ | refine i_drop ?_ | refine i_not ?_ | refine i_and ?_ | refine o_add ?_ | refine o_sub ?_ | refine o_neg ?_ | refine o_tupl ?_ | refine o_slL ?_ | refine o_name ?_ | refine o_some ?_ | refine i_seq ?_ | refine i_next ?_ | refine i_retN ?_ | refine i_callV ?_ | refine i_parO ?_ | refine o_setK0 ?_ | refine i_eqI ?_ | refine i_par3 ?_ | refine i_notV ?_ | refine i_andV ?_ | refine i_orV ?_ | refine i_un1 ?_ | refine i_dict0 ?_ | refine i_partA ?_ | refine o_len ?_ | refine o_lenT ?_ | refine o_int ?_ | refine o_cmp ?_ | refine o_eqX ?_ | refine o_neX ?_ | refine o_list ?_ | refine o_tupT ?_ | refine o_truth ?_ | refine o_tg2 ?_) | ((with_reducible apply i_var); exact rfl) | ((with_reducible apply i_partV); exact rfl) | ((with_reducible refine o_lst ?_ ?_); · exact rfl) | ((with_reducible refine o_tup ?_ ?_); · exact rfl) | ((with_reducible refine o_mul ?_ ?_); · (first | exact .inl ⟨by omega, by omega⟩ | exact .inr ⟨by omega, by omega⟩)) | ((with_reducible refine o_mod ?_ ?_); · omega) | ((with_reducible refine o_fdiv ?_ ?_); · exact ⟨by omega, by omega⟩)
  refine i_fld rfl (fld_depth ?_)
  repeat first | (with_reducible first | refine i_cons ?_ | refine i_nil ?_ | refine i_args ?_ | refine i_c ?_ | refine i_op ?_ | refine i_un ?_ | refine i_call ?_ | refine i_sl ?_ | refine i_noP ?_ | refine i_ret ?_ | refine i_asg ?_ | refine i_par ?_ | refine i_if ?_ | refine i_or ?_ | refine i_bl ?_ | refine i_ifE ?_ | refine i_tru ?_ | refine i_drop ?_ | refine i_not ?_ | refine i_and ?_ | refine o_add ?_ | refine o_sub ?_ | refine o_neg ?_ | refine o_tupl ?_ | refine o_slL ?_ | refine o_name ?_ | refine o_some ?_ | refine i_seq ?_ | refine i_next ?_ | refine i_retN ?_ | refine i_callV ?_ | refine i_parO ?_ | refine o_setK0 ?_ | refine i_eqI ?_ | refine i_par3 ?_ | refine i_notV ?_ | refine i_andV ?_ | refine i_orV ?_ | refine i_un1 ?_ | refine i_dict0 ?_ | refine i_partA ?_ | refine o_len ?_ | refine o_lenT ?_ | refine o_int ?_ | refine o_cmp ?_ | refine o_eqX ?_ | refine o_neX ?_ | refine o_list ?_ | refine o_tupT ?_ | refine o_truth ?_ | refine o_tg2 ?_) | ((with_reducible apply i_var); exact rfl) | ((with_reducible apply i_partV); exact rfl) | ((with_reducible refine o_lst ?_ ?_); · exact rfl) | ((with_reducible refine o_tup ?_ ?_); · exact rfl) | ((with_reducible refine o_mul ?_ ?_); · (first | exact .inl ⟨by omega, by omega⟩ | exact .inr ⟨by omega, by omega⟩)) | ((with_reducible refine o_mod ?_ ?_); · omega) | ((with_reducible refine o_fdiv ?_ ?_); · exact ⟨by omega, by omega⟩)
  rw [e3]
  repeat first | (with_reducible first | refine i_cons ?_ | refine i_nil ?_ | refine i_args ?_ | refine i_c ?_ | refine i_op ?_ | refine i_un ?_ | refine i_call ?_ | refine i_sl ?_ | refine i_noP ?_ | refine i_ret ?_ | refine i_asg ?_ | refine i_par ?_ | refine i_if ?_ | refine i_or ?_ | refine i_bl ?_ | refine i_ifE ?_ | refine i_tru ?_ | refine i_drop ?_ | refine i_not ?_ | refine i_and ?_ | refine o_add ?_ | refine o_sub ?_ | refine o_neg ?_ | refine o_tupl ?_ | refine o_slL ?_ | refine o_name ?_ | refine o_some ?_ | refine i_seq ?_ | refine i_next ?_ | refine i_retN ?_ | refine i_callV ?_ | refine i_parO ?_ | refine o_setK0 ?_ | refine i_eqI ?_ | refine i_par3 ?_ | refine i_notV ?_ | refine i_andV ?_ | refine i_orV ?_ | refine i_un1 ?_ | refine i_dict0 ?_ | refine i_partA ?_ | refine o_len ?_ | refine o_lenT ?_ | refine o_int ?_ | refine o_cmp ?_ | refine o_eqX ?_ | refine o_neX ?_ | refine o_list ?_ | refine o_tupT ?_ | refine o_truth ?_ | refine o_tg2 ?_) | ((with_reducible apply i_var); exact rfl) | ((with_reducible apply i_partV); exact rfl) | ((with_reducible refine o_lst ?_ ?_); · exact rfl) | ((with_reducible refine o_tup ?_ ?_); · exact rfl) | ((with_reducible refine o_mul ?_ ?_); · (first | exact .inl ⟨by omega, by omega⟩ | exact .inr ⟨by omega, by omega⟩)) | ((with_reducible refine o_mod ?_ ?_); · omega) | ((with_reducible refine o_fdiv ?_ ?_); · exact ⟨by omega, by omega⟩)
  rw [e3]
  repeat first | (with_reducible first | refine i_cons ?_ | refine i_nil ?_ | refine i_args ?_ | refine i_c ?_ | refine i_op ?_ | refine i_un ?_ | refine i_call ?_ | refine i_sl ?_ | refine i_noP ?_ | refine i_ret ?_ | refine i_asg ?_ | refine i_par ?_ | refine i_if ?_ | refine i_or ?_ | refine i_bl ?_ | refine i_ifE ?_ | refine i_tru ?_ | refine i_drop ?_ | refine i_not ?_ | refine i_and ?_ | refine o_add ?_ | refine o_sub ?_ | refine o_neg ?_ | refine o_tupl ?_ | refine o_slL ?_ | refine o_name ?_ | refine o_some ?_ | refine i_seq ?_ | refine i_next ?_ | refine i_retN ?_ | refine i_callV ?_ | refine i_parO ?_ | refine o_setK0 ?_ | refine i_eqI ?_ | refine i_par3 ?_ | refine i_notV ?_ | refine i_andV ?_ | refine i_orV ?_ | refine i_un1 ?_ | refine i_dict0 ?_ | refine i_partA ?_ | refine o_len ?_ | refine o_lenT ?_ | refine o_int ?_ | refine o_cmp ?_ | refine o_eqX ?_ | refine o_neX ?_ | refine o_list ?_ | refine o_tupT ?_ | refine o_truth ?_ | refine o_tg2 ?_) | ((with_reducible apply i_var); exact rfl) | ((with_reducible apply i_partV); exact rfl) | ((with_reducible refine o_lst ?_ ?_); · exact rfl) | ((with_reducible refine o_tup ?_ ?_); · exact rfl) | ((with_reducible refine o_mul ?_ ?_); · (first | exact .inl ⟨by omega, by omega⟩ | exact .inr ⟨by omega, by omega⟩)) | ((with_reducible refine o_mod ?_ ?_); · omega) | ((with_reducible refine o_fdiv ?_ ?_); · exact ⟨by omega, by omega⟩)
  refine o_neS ?_
  refine ite_F rfl ?_
  repeat first | (with_reducible first | refine i_cons ?_ | refine i_nil ?_ | refine i_args ?_ | refine i_c ?_ | refine i_op ?_ | refine i_un ?_ | refine i_call ?_ | refine i_sl ?_ | refine i_noP ?_ | refine i_ret ?_ | refine i_asg ?_ | refine i_par ?_ | refine i_if ?_ | refine i_or ?_ | refine i_bl ?_ | refine i_ifE ?_ | refine i_tru ?_ | refine i_drop ?_ | refine i_not ?_ | refine i_and ?_ | refine o_add ?_ | refine o_sub ?_ | refine o_neg ?_ | refine o_tupl ?_ | refine o_slL ?_ | refine o_name ?_ | refine o_some ?_ | refine i_seq ?_ | refine i_next ?_ | refine i_retN ?_ | refine i_callV ?_ | refine i_parO ?_ | refine o_setK0 ?_ | refine i_eqI ?_ | refine i_par3 ?_ | refine i_notV ?_ | refine i_andV ?_ | refine i_orV ?_ | refine i_un1 ?_ | refine i_dict0 ?_ | refine i_partA ?_ | refine o_len ?_ | refine o_lenT ?_ | refine o_int ?_ | refine o_cmp ?_ | refine o_eqX ?_ | refine o_neX ?_ | refine o_list ?_ | refine o_tupT ?_ | refine o_truth ?_ | refine o_tg2 ?_) | ((with_reducible apply i_var); exact rfl) | ((with_reducible apply i_partV); exact rfl) | ((with_reducible refine o_lst ?_ ?_); · exact rfl) | ((with_reducible refine o_tup ?_ ?_); · exact rfl) | ((with_reducible refine o_mul ?_ ?_); · (first | exact .inl ⟨by omega, by omega⟩ | exact .inr ⟨by omega, by omega⟩)) | ((with_reducible refine o_mod ?_ ?_); · omega) | ((with_reducible refine o_fdiv ?_ ?_); · exact ⟨by omega, by omega⟩)
  refine i_callK ?_
  repeat first | (with_reducible first | refine i_cons ?_ | refine i_nil ?_ | refine i_args ?_ | refine i_c ?_ | refine i_op ?_ | refine i_un ?_ | refine i_call ?_ | refine i_sl ?_ | refine i_noP ?_ | refine i_ret ?_ | refine i_asg ?_ | refine i_par ?_ | refine i_if ?_ | refine i_or ?_ | refine i_bl ?_ | refine i_ifE ?_ | refine i_tru ?_ | refine i_drop ?_ | refine i_not ?_ | refine i_and ?_ | refine o_add ?_ | refine o_sub ?_ | refine o_neg ?_ | refine o_tupl ?_ | refine o_slL ?_ | refine o_name ?_ | refine o_some ?_ | refine i_seq ?_ | refine i_next ?_ | refine i_retN ?_ | refine i_callV ?_ | refine i_parO ?_ | refine o_setK0 ?_ | refine i_eqI ?_ | refine i_par3 ?_ | refine i_notV ?_ | refine i_andV ?_ | refine i_orV ?_ | refine i_un1 ?_ | refine i_dict0 ?_ | refine i_partA ?_ | refine o_len ?_ | refine o_lenT ?_ | refine o_int ?_ | refine o_cmp ?_ | refine o_eqX ?_ | refine o_neX ?_ | refine o_list ?_ | refine o_tupT ?_ | refine o_truth ?_ | refine o_tg2 ?_) | ((with_reducible apply i_var); exact rfl) | ((with_reducible apply i_partV); exact rfl) | ((with_reducible refine o_lst ?_ ?_); · exact rfl) | ((with_reducible refine o_tup ?_ ?_); · exact rfl) | ((with_reducible refine o_mul ?_ ?_); · (first | exact .inl ⟨by omega, by omega⟩ | exact .inr ⟨by omega, by omega⟩)) | ((with_reducible refine o_mod ?_ ?_); · omega) | ((with_reducible refine o_fdiv ?_ ?_); · exact ⟨by omega, by omega⟩)
  refine ⟨rfl, rfl, ?_⟩
  show con_turned_space noX [mkSp a z rows, .int (g : Nat)] _ _
  refine c_turned_space ha hz4 hr hg ?_
  repeat first | (with_reducible first | refine i_cons ?_ | refine i_nil ?_ | refine i_args ?_ | refine i_c ?_ | refine i_op ?_ | refine i_un ?_ | refine i_call ?_ | refine i_sl ?_ | refine i_noP ?_ | refine i_ret ?_ | refine i_asg ?_ | refine i_par ?_ | refine i_if ?_ | refine i_or ?_ | refine i_bl ?_ | refine i_ifE ?_ | refine i_tru ?_ | refine i_drop ?_ | refine i_not ?_ | refine i_and ?_ | refine o_add ?_ | refine o_sub ?_ | refine o_neg ?_ | refine o_tupl ?_ | refine o_slL ?_ | refine o_name ?_ | refine o_some ?_ | refine i_seq ?_ | refine i_next ?_ | refine i_retN ?_ | refine i_callV ?_ | refine i_parO ?_ | refine o_setK0 ?_ | refine i_eqI ?_ | refine i_par3 ?_ | refine i_notV ?_ | refine i_andV ?_ | refine i_orV ?_ | refine i_un1 ?_ | refine i_dict0 ?_ | refine i_partA ?_ | refine o_len ?_ | refine o_lenT ?_ | refine o_int ?_ | refine o_cmp ?_ | refine o_eqX ?_ | refine o_neX ?_ | refine o_list ?_ | refine o_tupT ?_ | refine o_truth ?_ | refine o_tg2 ?_) | ((with_reducible apply i_var); exact rfl) | ((with_reducible apply i_partV); exact rfl) | ((with_reducible refine o_lst ?_ ?_); · exact rfl) | ((with_reducible refine o_tup ?_ ?_); · exact rfl) | ((with_reducible refine o_mul ?_ ?_); · (first | exact .inl ⟨by omega, by omega⟩ | exact .inr ⟨by omega, by omega⟩)) | ((with_reducible refine o_mod ?_ ?_); · omega) | ((with_reducible refine o_fdiv ?_ ?_); · exact ⟨by omega, by omega⟩)
  refine o_eqI ?_
  refine ite_F (by simp) ?_
  repeat first | (with_reducible first | refine i_cons ?_ | refine i_nil ?_ | refine i_args ?_ | refine i_c ?_ | refine i_op ?_ | refine i_un ?_ | refine i_call ?_ | refine i_sl ?_ | refine i_noP ?_ | refine i_ret ?_ | refine i_asg ?_ | refine i_par ?_ | refine i_if ?_ | refine i_or ?_ | refine i_bl ?_ | refine i_ifE ?_ | refine i_tru ?_ | refine i_drop ?_ | refine i_not ?_ | refine i_and ?_ | refine o_add ?_ | refine o_sub ?_ | refine o_neg ?_ | refine o_tupl ?_ | refine o_slL ?_ | refine o_name ?_ | refine o_some ?_ | refine i_seq ?_ | refine i_next ?_ | refine i_retN ?_ | refine i_callV ?_ | refine i_parO ?_ | refine o_setK0 ?_ | refine i_eqI ?_ | refine i_par3 ?_ | refine i_notV ?_ | refine i_andV ?_ | refine i_orV ?_ | refine i_un1 ?_ | refine i_dict0 ?_ | refine i_partA ?_ | refine o_len ?_ | refine o_lenT ?_ | refine o_int ?_ | refine o_cmp ?_ | refine o_eqX ?_ | refine o_neX ?_ | refine o_list ?_ | refine o_tupT ?_ | refine o_truth ?_ | refine o_tg2 ?_) | ((with_reducible apply i_var); exact rfl) | ((with_reducible apply i_partV); exact rfl) | ((with_reducible refine o_lst ?_ ?_); · exact rfl) | ((with_reducible refine o_tup ?_ ?_); · exact rfl) | ((with_reducible refine o_mul ?_ ?_); · (first | exact .inl ⟨by omega, by omega⟩ | exact .inr ⟨by omega, by omega⟩)) | ((with_reducible refine o_mod ?_ ?_); · omega) | ((with_reducible refine o_fdiv ?_ ?_); · exact ⟨by omega, by omega⟩)
  refine c_draw ⟨by omega, by omega⟩ (by omega) fun mm n7 q0 q1 g12 g13 => ?_
  obtain ⟨h, rfl⟩ : ∃ h : Nat, mm = (h : Int) := ⟨mm.toNat, by omega⟩
  have hh : h < z := by omega
  repeat first | (with_reducible first | refine i_cons ?_ | refine i_nil ?_ | refine i_args ?_ | refine i_c ?_ | refine i_op ?_ | refine i_un ?_ | refine i_call ?_ | refine i_sl ?_ | refine i_noP ?_ | refine i_ret ?_ | refine i_asg ?_ | refine i_par ?_ | refine i_if ?_ | refine i_or ?_ | refine i_bl ?_ | refine i_ifE ?_ | refine i_tru ?_ | refine i_drop ?_ | refine i_not ?_ | refine i_and ?_ | refine o_add ?_ | refine o_sub ?_ | refine o_neg ?_ | refine o_tupl ?_ | refine o_slL ?_ | refine o_name ?_ | refine o_some ?_ | refine i_seq ?_ | refine i_next ?_ | refine i_retN ?_ | refine i_callV ?_ | refine i_parO ?_ | refine o_setK0 ?_ | refine i_eqI ?_ | refine i_par3 ?_ | refine i_notV ?_ | refine i_andV ?_ | refine i_orV ?_ | refine i_un1 ?_ | refine i_dict0 ?_ | refine i_partA ?_ | refine o_len ?_ | refine o_lenT ?_ | refine o_int ?_ | refine o_cmp ?_ | refine o_eqX ?_ | refine o_neX ?_ | refine o_list ?_ | refine o_tupT ?_ | refine o_truth ?_ | refine o_tg2 ?_) | ((with_reducible apply i_var); exact rfl) | ((with_reducible apply i_partV); exact rfl) | ((with_reducible refine o_lst ?_ ?_); · exact rfl) | ((with_reducible refine o_tup ?_ ?_); · exact rfl) | ((with_reducible refine o_mul ?_ ?_); · (first | exact .inl ⟨by omega, by omega⟩ | exact .inr ⟨by omega, by omega⟩)) | ((with_reducible refine o_mod ?_ ?_); · omega) | ((with_reducible refine o_fdiv ?_ ?_); · exact ⟨by omega, by omega⟩)
  dsimp only [List.set_cons_zero, List.set_cons_succ]
  have m1 : ((g : Int) + h) % z = (((g + h) % z : Nat) : Int) := by rw [Int.natCast_emod, Int.natCast_add]
  have m2 : ((z : Int) - g) % z = (((z - g) % z : Nat) : Int) := by rw [Int.natCast_emod, Int.natCast_sub (by omega)]
  have gz : (g + (z - g) % z) % z = 0 := by rw [Nat.add_mod_mod, show g + (z - g) = z by omega, Nat.mod_self]
  have l1 : (g + h) % z < z := Nat.mod_lt _ (by omega)
  have l2 : (z - g) % z < z := Nat.mod_lt _ (by omega)
  refine c_turned_space ha hz4 hrr hh ?_
  repeat first | (with_reducible first | refine i_cons ?_ | refine i_nil ?_ | refine i_args ?_ | refine i_c ?_ | refine i_op ?_ | refine i_un ?_ | refine i_call ?_ | refine i_sl ?_ | refine i_noP ?_ | refine i_ret ?_ | refine i_asg ?_ | refine i_par ?_ | refine i_if ?_ | refine i_or ?_ | refine i_bl ?_ | refine i_ifE ?_ | refine i_tru ?_ | refine i_drop ?_ | refine i_not ?_ | refine i_and ?_ | refine o_add ?_ | refine o_sub ?_ | refine o_neg ?_ | refine o_tupl ?_ | refine o_slL ?_ | refine o_name ?_ | refine o_some ?_ | refine i_seq ?_ | refine i_next ?_ | refine i_retN ?_ | refine i_callV ?_ | refine i_parO ?_ | refine o_setK0 ?_ | refine i_eqI ?_ | refine i_par3 ?_ | refine i_notV ?_ | refine i_andV ?_ | refine i_orV ?_ | refine i_un1 ?_ | refine i_dict0 ?_ | refine i_partA ?_ | refine o_len ?_ | refine o_lenT ?_ | refine o_int ?_ | refine o_cmp ?_ | refine o_eqX ?_ | refine o_neX ?_ | refine o_list ?_ | refine o_tupT ?_ | refine o_truth ?_ | refine o_tg2 ?_) | ((with_reducible apply i_var); exact rfl) | ((with_reducible apply i_partV); exact rfl) | ((with_reducible refine o_lst ?_ ?_); · exact rfl) | ((with_reducible refine o_tup ?_ ?_); · exact rfl) | ((with_reducible refine o_mul ?_ ?_); · (first | exact .inl ⟨by omega, by omega⟩ | exact .inr ⟨by omega, by omega⟩)) | ((with_reducible refine o_mod ?_ ?_); · omega) | ((with_reducible refine o_fdiv ?_ ?_); · exact ⟨by omega, by omega⟩)
  rw [m1]
  refine c_turned_space ha hz4 hr l1 ?_
  rw [LA.rots_rots hr hg hh]
  repeat first | (with_reducible first | refine i_cons ?_ | refine i_nil ?_ | refine i_args ?_ | refine i_c ?_ | refine i_op ?_ | refine i_un ?_ | refine i_call ?_ | refine i_sl ?_ | refine i_noP ?_ | refine i_ret ?_ | refine i_asg ?_ | refine i_par ?_ | refine i_if ?_ | refine i_or ?_ | refine i_bl ?_ | refine i_ifE ?_ | refine i_tru ?_ | refine i_drop ?_ | refine i_not ?_ | refine i_and ?_ | refine o_add ?_ | refine o_sub ?_ | refine o_neg ?_ | refine o_tupl ?_ | refine o_slL ?_ | refine o_name ?_ | refine o_some ?_ | refine i_seq ?_ | refine i_next ?_ | refine i_retN ?_ | refine i_callV ?_ | refine i_parO ?_ | refine o_setK0 ?_ | refine i_eqI ?_ | refine i_par3 ?_ | refine i_notV ?_ | refine i_andV ?_ | refine i_orV ?_ | refine i_un1 ?_ | refine i_dict0 ?_ | refine i_partA ?_ | refine o_len ?_ | refine o_lenT ?_ | refine o_int ?_ | refine o_cmp ?_ | refine o_eqX ?_ | refine o_neX ?_ | refine o_list ?_ | refine o_tupT ?_ | refine o_truth ?_ | refine o_tg2 ?_) | ((with_reducible apply i_var); exact rfl) | ((with_reducible apply i_partV); exact rfl) | ((with_reducible refine o_lst ?_ ?_); · exact rfl) | ((with_reducible refine o_tup ?_ ?_); · exact rfl) | ((with_reducible refine o_mul ?_ ?_); · (first | exact .inl ⟨by omega, by omega⟩ | exact .inr ⟨by omega, by omega⟩)) | ((with_reducible refine o_mod ?_ ?_); · omega) | ((with_reducible refine o_fdiv ?_ ?_); · exact ⟨by omega, by omega⟩)
  refine o_eqI ?_
  refine ite_F (by simp) ?_
  repeat first | (with_reducible first | refine i_cons ?_ | refine i_nil ?_ | refine i_args ?_ | refine i_c ?_ | refine i_op ?_ | refine i_un ?_ | refine i_call ?_ | refine i_sl ?_ | refine i_noP ?_ | refine i_ret ?_ | refine i_asg ?_ | refine i_par ?_ | refine i_if ?_ | refine i_or ?_ | refine i_bl ?_ | refine i_ifE ?_ | refine i_tru ?_ | refine i_drop ?_ | refine i_not ?_ | refine i_and ?_ | refine o_add ?_ | refine o_sub ?_ | refine o_neg ?_ | refine o_tupl ?_ | refine o_slL ?_ | refine o_name ?_ | refine o_some ?_ | refine i_seq ?_ | refine i_next ?_ | refine i_retN ?_ | refine i_callV ?_ | refine i_parO ?_ | refine o_setK0 ?_ | refine i_eqI ?_ | refine i_par3 ?_ | refine i_notV ?_ | refine i_andV ?_ | refine i_orV ?_ | refine i_un1 ?_ | refine i_dict0 ?_ | refine i_partA ?_ | refine o_len ?_ | refine o_lenT ?_ | refine o_int ?_ | refine o_cmp ?_ | refine o_eqX ?_ | refine o_neX ?_ | refine o_list ?_ | refine o_tupT ?_ | refine o_truth ?_ | refine o_tg2 ?_) | ((with_reducible apply i_var); exact rfl) | ((with_reducible apply i_partV); exact rfl) | ((with_reducible refine o_lst ?_ ?_); · exact rfl) | ((with_reducible refine o_tup ?_ ?_); · exact rfl) | ((with_reducible refine o_mul ?_ ?_); · (first | exact .inl ⟨by omega, by omega⟩ | exact .inr ⟨by omega, by omega⟩)) | ((with_reducible refine o_mod ?_ ?_); · omega) | ((with_reducible refine o_fdiv ?_ ?_); · exact ⟨by omega, by omega⟩)
  rw [m2]
  refine c_turned_space ha hz4 hrr l2 ?_
  rw [LA.rots_rots hr hg l2, gz, LA.rots_zero]
  repeat first | (with_reducible first | refine i_cons ?_ | refine i_nil ?_ | refine i_args ?_ | refine i_c ?_ | refine i_op ?_ | refine i_un ?_ | refine i_call ?_ | refine i_sl ?_ | refine i_noP ?_ | refine i_ret ?_ | refine i_asg ?_ | refine i_par ?_ | refine i_if ?_ | refine i_or ?_ | refine i_bl ?_ | refine i_ifE ?_ | refine i_tru ?_ | refine i_drop ?_ | refine i_not ?_ | refine i_and ?_ | refine o_add ?_ | refine o_sub ?_ | refine o_neg ?_ | refine o_tupl ?_ | refine o_slL ?_ | refine o_name ?_ | refine o_some ?_ | refine i_seq ?_ | refine i_next ?_ | refine i_retN ?_ | refine i_callV ?_ | refine i_parO ?_ | refine o_setK0 ?_ | refine i_eqI ?_ | refine i_par3 ?_ | refine i_notV ?_ | refine i_andV ?_ | refine i_orV ?_ | refine i_un1 ?_ | refine i_dict0 ?_ | refine i_partA ?_ | refine o_len ?_ | refine o_lenT ?_ | refine o_int ?_ | refine o_cmp ?_ | refine o_eqX ?_ | refine o_neX ?_ | refine o_list ?_ | refine o_tupT ?_ | refine o_truth ?_ | refine o_tg2 ?_) | ((with_reducible apply i_var); exact rfl) | ((with_reducible apply i_partV); exact rfl) | ((with_reducible refine o_lst ?_ ?_); · exact rfl) | ((with_reducible refine o_tup ?_ ?_); · exact rfl) | ((with_reducible refine o_mul ?_ ?_); · (first | exact .inl ⟨by omega, by omega⟩ | exact .inr ⟨by omega, by omega⟩)) | ((with_reducible refine o_mod ?_ ?_); · omega) | ((with_reducible refine o_fdiv ?_ ?_); · exact ⟨by omega, by omega⟩)
  refine o_eqI ?_
  refine ite_F (by simp) ?_
  repeat first | (with_reducible first | refine i_cons ?_ | refine i_nil ?_ | refine i_args ?_ | refine i_c ?_ | refine i_op ?_ | refine i_un ?_ | refine i_call ?_ | refine i_sl ?_ | refine i_noP ?_ | refine i_ret ?_ | refine i_asg ?_ | refine i_par ?_ | refine i_if ?_ | refine i_or ?_ | refine i_bl ?_ | refine i_ifE ?_ | refine i_tru ?_ | refine i_drop ?_ | refine i_not ?_ | refine i_and ?_ | refine o_add ?_ | refine o_sub ?_ | refine o_neg ?_ | refine o_tupl ?_ | refine o_slL ?_ | refine o_name ?_ | refine o_some ?_ | refine i_seq ?_ | refine i_next ?_ | refine i_retN ?_ | refine i_callV ?_ | refine i_parO ?_ | refine o_setK0 ?_ | refine i_eqI ?_ | refine i_par3 ?_ | refine i_notV ?_ | refine i_andV ?_ | refine i_orV ?_ | refine i_un1 ?_ | refine i_dict0 ?_ | refine i_partA ?_ | refine o_len ?_ | refine o_lenT ?_ | refine o_int ?_ | refine o_cmp ?_ | refine o_eqX ?_ | refine o_neX ?_ | refine o_list ?_ | refine o_tupT ?_ | refine o_truth ?_ | refine o_tg2 ?_) | ((with_reducible apply i_var); exact rfl) | ((with_reducible apply i_partV); exact rfl) | ((with_reducible refine o_lst ?_ ?_); · exact rfl) | ((with_reducible refine o_tup ?_ ?_); · exact rfl) | ((with_reducible refine o_mul ?_ ?_); · (first | exact .inl ⟨by omega, by omega⟩ | exact .inr ⟨by omega, by omega⟩)) | ((with_reducible refine o_mod ?_ ?_); · omega) | ((with_reducible refine o_fdiv ?_ ?_); · exact ⟨by omega, by omega⟩)
  refine c_turned_space (g := 0) ha hz4 hr (by omega) ?_
  rw [LA.rots_zero]
  repeat first | (with_reducible first | refine i_cons ?_ | refine i_nil ?_ | refine i_args ?_ | refine i_c ?_ | refine i_op ?_ | refine i_un ?_ | refine i_call ?_ | refine i_sl ?_ | refine i_noP ?_ | refine i_ret ?_ | refine i_asg ?_ | refine i_par ?_ | refine i_if ?_ | refine i_or ?_ | refine i_bl ?_ | refine i_ifE ?_ | refine i_tru ?_ | refine i_drop ?_ | refine i_not ?_ | refine i_and ?_ | refine o_add ?_ | refine o_sub ?_ | refine o_neg ?_ | refine o_tupl ?_ | refine o_slL ?_ | refine o_name ?_ | refine o_some ?_ | refine i_seq ?_ | refine i_next ?_ | refine i_retN ?_ | refine i_callV ?_ | refine i_parO ?_ | refine o_setK0 ?_ | refine i_eqI ?_ | refine i_par3 ?_ | refine i_notV ?_ | refine i_andV ?_ | refine i_orV ?_ | refine i_un1 ?_ | refine i_dict0 ?_ | refine i_partA ?_ | refine o_len ?_ | refine o_lenT ?_ | refine o_int ?_ | refine o_cmp ?_ | refine o_eqX ?_ | refine o_neX ?_ | refine o_list ?_ | refine o_tupT ?_ | refine o_truth ?_ | refine o_tg2 ?_) | ((with_reducible apply i_var); exact rfl) | ((with_reducible apply i_partV); exact rfl) | ((with_reducible refine o_lst ?_ ?_); · exact rfl) | ((with_reducible refine o_tup ?_ ?_); · exact rfl) | ((with_reducible refine o_mul ?_ ?_); · (first | exact .inl ⟨by omega, by omega⟩ | exact .inr ⟨by omega, by omega⟩)) | ((with_reducible refine o_mod ?_ ?_); · omega) | ((with_reducible refine o_fdiv ?_ ?_); · exact ⟨by omega, by omega⟩)
  refine o_eqI ?_
  refine ite_F (by simp) ?_
  repeat first | (with_reducible first | refine i_cons ?_ | refine i_nil ?_ | refine i_args ?_ | refine i_c ?_ | refine i_op ?_ | refine i_un ?_ | refine i_call ?_ | refine i_sl ?_ | refine i_noP ?_ | refine i_ret ?_ | refine i_asg ?_ | refine i_par ?_ | refine i_if ?_ | refine i_or ?_ | refine i_bl ?_ | refine i_ifE ?_ | refine i_tru ?_ | refine i_drop ?_ | refine i_not ?_ | refine i_and ?_ | refine o_add ?_ | refine o_sub ?_ | refine o_neg ?_ | refine o_tupl ?_ | refine o_slL ?_ | refine o_name ?_ | refine o_some ?_ | refine i_seq ?_ | refine i_next ?_ | refine i_retN ?_ | refine i_callV ?_ | refine i_parO ?_ | refine o_setK0 ?_ | refine i_eqI ?_ | refine i_par3 ?_ | refine i_notV ?_ | refine i_andV ?_ | refine i_orV ?_ | refine i_un1 ?_ | refine i_dict0 ?_ | refine i_partA ?_ | refine o_len ?_ | refine o_lenT ?_ | refine o_int ?_ | refine o_cmp ?_ | refine o_eqX ?_ | refine o_neX ?_ | refine o_list ?_ | refine o_tupT ?_ | refine o_truth ?_ | refine o_tg2 ?_) | ((with_reducible apply i_var); exact rfl) | ((with_reducible apply i_partV); exact rfl) | ((with_reducible refine o_lst ?_ ?_); · exact rfl) | ((with_reducible refine o_tup ?_ ?_); · exact rfl) | ((with_reducible refine o_mul ?_ ?_); · (first | exact .inl ⟨by omega, by omega⟩ | exact .inr ⟨by omega, by omega⟩)) | ((with_reducible refine o_mod ?_ ?_); · omega) | ((with_reducible refine o_fdiv ?_ ?_); · exact ⟨by omega, by omega⟩)
  refine i_fld rfl (fld_rows ?_)
  repeat first | (with_reducible first | refine i_cons ?_ | refine i_nil ?_ | refine i_args ?_ | refine i_c ?_ | refine i_op ?_ | refine i_un ?_ | refine i_call ?_ | refine i_sl ?_ | refine i_noP ?_ | refine i_ret ?_ | refine i_asg ?_ | refine i_par ?_ | refine i_if ?_ | refine i_or ?_ | refine i_bl ?_ | refine i_ifE ?_ | refine i_tru ?_ | refine i_drop ?_ | refine i_not ?_ | refine i_and ?_ | refine o_add ?_ | refine o_sub ?_ | refine o_neg ?_ | refine o_tupl ?_ | refine o_slL ?_ | refine o_name ?_ | refine o_some ?_ | refine i_seq ?_ | refine i_next ?_ | refine i_retN ?_ | refine i_callV ?_ | refine i_parO ?_ | refine o_setK0 ?_ | refine i_eqI ?_ | refine i_par3 ?_ | refine i_notV ?_ | refine i_andV ?_ | refine i_orV ?_ | refine i_un1 ?_ | refine i_dict0 ?_ | refine i_partA ?_ | refine o_len ?_ | refine o_lenT ?_ | refine o_int ?_ | refine o_cmp ?_ | refine o_eqX ?_ | refine o_neX ?_ | refine o_list ?_ | refine o_tupT ?_ | refine o_truth ?_ | refine o_tg2 ?_) | ((with_reducible apply i_var); exact rfl) | ((with_reducible apply i_partV); exact rfl) | ((with_reducible refine o_lst ?_ ?_); · exact rfl) | ((with_reducible refine o_tup ?_ ?_); · exact rfl) | ((with_reducible refine o_mul ?_ ?_); · (first | exact .inl ⟨by omega, by omega⟩ | exact .inr ⟨by omega, by omega⟩)) | ((with_reducible refine o_mod ?_ ?_); · omega) | ((with_reducible refine o_fdiv ?_ ?_); · exact ⟨by omega, by omega⟩)
  refine c_oleast ha (by omega) (.inl rfl) (seqT _) (lstT _) (by omega) hr ?_
  refine o_neE (nT (nT nI)) (by decide) (fun x s h => by cases h) (x := LA.least a (inv a) rows) (y := LA.least a (inv a) rows) ?_
  refine ite_F (by simp) ?_
  repeat first | (with_reducible first | refine i_cons ?_ | refine i_nil ?_ | refine i_args ?_ | refine i_c ?_ | refine i_op ?_ | refine i_un ?_ | refine i_call ?_ | refine i_sl ?_ | refine i_noP ?_ | refine i_ret ?_ | refine i_asg ?_ | refine i_par ?_ | refine i_if ?_ | refine i_or ?_ | refine i_bl ?_ | refine i_ifE ?_ | refine i_tru ?_ | refine i_drop ?_ | refine i_not ?_ | refine i_and ?_ | refine o_add ?_ | refine o_sub ?_ | refine o_neg ?_ | refine o_tupl ?_ | refine o_slL ?_ | refine o_name ?_ | refine o_some ?_ | refine i_seq ?_ | refine i_next ?_ | refine i_retN ?_ | refine i_callV ?_ | refine i_parO ?_ | refine o_setK0 ?_ | refine i_eqI ?_ | refine i_par3 ?_ | refine i_notV ?_ | refine i_andV ?_ | refine i_orV ?_ | refine i_un1 ?_ | refine i_dict0 ?_ | refine i_partA ?_ | refine o_len ?_ | refine o_lenT ?_ | refine o_int ?_ | refine o_cmp ?_ | refine o_eqX ?_ | refine o_neX ?_ | refine o_list ?_ | refine o_tupT ?_ | refine o_truth ?_ | refine o_tg2 ?_) | ((with_reducible apply i_var); exact rfl) | ((with_reducible apply i_partV); exact rfl) | ((with_reducible refine o_lst ?_ ?_); · exact rfl) | ((with_reducible refine o_tup ?_ ?_); · exact rfl) | ((with_reducible refine o_mul ?_ ?_); · (first | exact .inl ⟨by omega, by omega⟩ | exact .inr ⟨by omega, by omega⟩)) | ((with_reducible refine o_mod ?_ ?_); · omega) | ((with_reducible refine o_fdiv ?_ ?_); · exact ⟨by omega, by omega⟩)
  exact hk _ _ _ _ _ _ _ _ _ n7 (by omega)
theorem for_turns {P : Pn} : ∀ (ds : List D) (a2 a3 a4 a5 a6 a7 a8 a9 a10 a11 : Sl) (n : Nat), n + 300 * ds.length < 500000 → (∀ b2 b3 b4 b5 b6 b7 b8 b9 b10 b11 n2, P.nx [.no, .val .box, b2, b3, b4, b5, b6, b7, b8, b9, b10, b11] n2) → forD (fun d ρ n P => optK (gfName 2 d ρ) fun ρ' => m_turn noX ρ' n P) ds [.no, .val .box, a2, a3, a4, a5, a6, a7, a8, a9, a10, a11] n P
  | [], a2, a3, a4, a5, a6, a7, a8, a9, a10, a11, n, hn, h => for_nil (h _ _ _ _ _ _ _ _ _ _ n)
  | x :: ds, a2, a3, a4, a5, a6, a7, a8, a9, a10, a11, n, hn, h => by
    rw [List.length_cons] at hn
    refine for_i fun R hR => ?_
    refine o_name ?_
    exact c_turn (by omega) fun b3 b4 b5 b6 b7 b8 b9 b10 b11 n2 h1 => hR _ _ (for_turns ds _ b3 b4 b5 b6 b7 b8 b9 b10 b11 n2 (by omega) h)
theorem plain : m_law noX ((List.replicate 12 Sl.no).set 1 (.val .box)) 0 { nx := fun _ _ => False, rt := fun d _ => d = .bl true } := by
  show m_law noX [.no, .val .box, .no, .no, .no, .no, .no, .no, .no, .no, .no, .no] 0 _
  unfold m_law
  refine seq_i fun R hR => ?_
  refine i_for ?_
  show (-(2 ^ 62) ≤ (3 : Int) ∧ (3 : Int) < 2 ^ 62) ∧ forD (fun d ρ n P => optK (gfName 2 d ρ) fun ρ' => m_turn noX ρ' n P) (range1D 3) [.no, .val .box, .no, .no, .no, .no, .no, .no, .no, .no, .no, .no] 0 _
  refine ⟨⟨by decide, by decide⟩, for_turns _ _ _ _ _ _ _ _ _ _ _ _ (by rw [len_range1]; decide) fun b2 b3 b4 b5 b6 b7 b8 b9 b10 b11 n => hR _ _ ?_⟩
  repeat first | (with_reducible first | refine i_cons ?_ | refine i_nil ?_ | refine i_args ?_ | refine i_c ?_ | refine i_op ?_ | refine i_un ?_ | refine i_call ?_ | refine i_sl ?_ | refine i_noP ?_ | refine i_ret ?_ | refine i_asg ?_ | refine i_par ?_ | refine i_if ?_ | refine i_or ?_ | refine i_bl ?_ | refine i_ifE ?_ | refine i_tru ?_ | refine i_drop ?_ | refine i_not ?_ | refine i_and ?_ | refine o_add ?_ | refine o_sub ?_ | refine o_neg ?_ | refine o_tupl ?_ | refine o_slL ?_ | refine o_name ?_ | refine o_some ?_) | ((with_reducible apply i_var); exact rfl) | ((with_reducible apply i_partV); exact rfl) | ((with_reducible refine o_lst ?_ ?_); · exact rfl) | ((with_reducible refine o_tup ?_ ?_); · exact rfl)
  rfl
end K15
open PySem PySem.W PyProof.Rows
set_option maxRecDepth 100000 in
set_option maxHeartbeats 0 in
theorem PySem.Challenge.cw_ropesays_k15_spaces_turned_holds : PySem.Challenge.rw_ropesays_k15_spaces_turned.Holds := by
  w_on; o_law
  k_head
  (case hw => w_witness2)
  k_fill
  refine DS.law_gT (l := PySem.Challenge.rw_ropesays_k15_spaces_turned) (n := 63) (k := 9) (x := ("_law_script" : Str)) rfl (by decide) rfl ⟨rfl, by decide, by decide⟩ (fun w h Y => by first | exact PySem.W.kIn_of Y | exact PySem.W.km_in_of Y) ?F
  case F =>
    intro w mg fa h TT KX G hmg
    refine' K15.all_mk TT KX G hmg ?e1_Space___eq__ ?e2_Space___eq__ ?e3_Space___eq__ ?en_Space___eq___Space ?et_Space___eq___NoneType ?et_Space___eq___bool ?et_Space___eq___int ?et_Space___eq___str ?et_Space___eq___list ?et_Space___eq___tuple ?et_Space___eq___dict ?l0 ?c0 ?k0 ?a1 ?l1 ?c1 ?k1 ?a2 ?l2 ?c2 ?k2 ?a3 ?l3 ?c3 ?k3 ?a4 ?l4 ?c4 ?k4 ?a5 ?l5 ?c5 ?k5 ?a6 ?l6 ?c6 ?k6 ?a7 ?l7 ?c7 ?k7 ?a8 ?l8 ?c8 ?k8 ?a9 ?l9 ?c9 ?k9 ?a10 ?l10 ?c10 ?k10 ?a11 ?l11 ?c11 ?k11 ?a12 ?l12 ?c12 ?k12 ?a13 ?l13 ?c13 ?k13 ?a14 ?l14 ?c14 ?k14 ?ag_Space ?am_Space ?ai_Space ?af_Space ?ak_Space ?ap_Space ?ah_Space ?ao_Space ?as_Space ?an_Space_clock ?an_Space_depth ?an_Space_rows ?an_Space_size ?an_Space_words ?l15 ?c15 ?k15 ?a16 ?l16 ?c16 ?k16 ?a17 ?l17 ?c17 ?k17 ?ld17 ?vd17 ?a18 ?l18 ?c18 ?k18 ?a19 ?l19 ?c19 ?k19 ?a20 ?l20 ?c20 ?k20 ?a21 ?l21 ?c21 ?k21 ?a22 ?l22 ?c22 ?k22 ?a23 ?l23 ?c23 ?k23 ?a24 ?l24 ?c24 ?k24 ?a25 ?l25 ?c25 ?k25 ?kt_Space_NoneType ?kt_Space_bool ?kt_Space_int ?kt_Space_str ?kt_Space_list ?kt_Space_tuple ?kt_Space_dict ?ki_Space_Space ?ic_Space ?z_abs ?z_all ?z_bool ?z_enumerate ?z_int ?z_isinstance ?z_len ?z_list ?z_range ?z_repr ?z_sorted ?z_str ?z_tuple ?z_zip ?y_CLOCKS ?x_CLOCKS ?t_CLOCKS ?v_CLOCKS ?u_CLOCKS ?y_FIGURES ?v_FIGURES ?y_MOST_FIGURES ?v_MOST_FIGURES ?y_MOST_GIVEN ?v_MOST_GIVEN ?y_MOST_SIZE ?v_MOST_SIZE ?g_BadClock ?g_BadNumber ?g_BadRow ?g_BadSpace ?x_BadClock ?n_BadClock ?x_BadNumber ?n_BadNumber ?x_BadRow ?n_BadRow ?x_BadSpace ?n_BadSpace ?z_super ?e_BadNumber_BadClock ?e_BadRow_BadClock ?e_BadRow_BadNumber ?e_BadSpace_BadClock ?e_BadSpace_BadNumber ?e_BadSpace_BadRow ?noT K15.draw_ok K15.plain
    (case ag_Space => k_is)
    (case e1_Space___eq__ => k_is)
    (case e2_Space___eq__ => k_is)
    (case e3_Space___eq__ => k_is)
    (case l0 => k_is)
    (case c0 => k_is)
    (case k0 => k_is)
    (case a1 => k_is)
    (case l1 => k_is)
    (case c1 => k_is)
    (case k1 => k_is)
    (case a2 => k_is)
    (case l2 => k_is)
    (case c2 => k_is)
    (case k2 => k_is)
    (case a3 => k_is)
    (case l3 => k_is)
    (case c3 => k_is)
    (case k3 => k_is)
    (case a4 => k_is)
    (case l4 => k_is)
    (case c4 => k_is)
    (case k4 => k_is)
    (case a5 => k_is)
    (case l5 => k_is)
    (case c5 => k_is)
    (case k5 => k_is)
    (case a6 => k_is)
    (case l6 => k_is)
    (case c6 => k_is)
    (case k6 => k_is)
    (case a7 => k_is)
    (case l7 => k_is)
    (case c7 => k_is)
    (case k7 => k_is)
    (case a8 => k_is)
    (case l8 => k_is)
    (case c8 => k_is)
    (case k8 => k_is)
    (case a9 => k_is)
    (case l9 => k_is)
    (case c9 => k_is)
    (case k9 => k_is)
    (case a10 => k_is)
    (case l10 => k_is)
    (case c10 => k_is)
    (case k10 => k_is)
    (case a11 => k_is)
    (case l11 => k_is)
    (case c11 => k_is)
    (case k11 => k_is)
    (case a12 => k_is)
    (case l12 => k_is)
    (case c12 => k_is)
    (case k12 => k_is)
    (case a13 => k_is)
    (case l13 => k_is)
    (case c13 => k_is)
    (case k13 => k_is)
    (case a14 => k_is)
    (case l14 => k_is)
    (case c14 => k_is)
    (case k14 => k_is)
    (case am_Space => k_is)
    (case ai_Space => k_is)
    (case af_Space => k_is)
    (case ak_Space => k_is)
    (case ap_Space => k_is)
    (case ah_Space => k_is)
    (case ao_Space => k_is)
    (case as_Space => k_is)
    (case an_Space_clock => k_is)
    (case an_Space_depth => k_is)
    (case an_Space_rows => k_is)
    (case an_Space_size => k_is)
    (case an_Space_words => k_is)
    (case l15 => k_is)
    (case c15 => k_is)
    (case k15 => k_is)
    (case a16 => k_is)
    (case l16 => k_is)
    (case c16 => k_is)
    (case k16 => k_is)
    (case a17 => k_is)
    (case l17 => k_is)
    (case c17 => k_is)
    (case k17 => k_is)
    (case ld17 => k_is)
    (case a18 => k_is)
    (case l18 => k_is)
    (case c18 => k_is)
    (case k18 => k_is)
    (case a19 => k_is)
    (case l19 => k_is)
    (case c19 => k_is)
    (case k19 => k_is)
    (case a20 => k_is)
    (case l20 => k_is)
    (case c20 => k_is)
    (case k20 => k_is)
    (case a21 => k_is)
    (case l21 => k_is)
    (case c21 => k_is)
    (case k21 => k_is)
    (case a22 => k_is)
    (case l22 => k_is)
    (case c22 => k_is)
    (case k22 => k_is)
    (case a23 => k_is)
    (case l23 => k_is)
    (case c23 => k_is)
    (case k23 => k_is)
    (case a24 => k_is)
    (case l24 => k_is)
    (case c24 => k_is)
    (case k24 => k_is)
    (case a25 => k_is)
    (case l25 => k_is)
    (case c25 => k_is)
    (case k25 => k_is)
    (case z_abs => k_is)
    (case z_all => k_is)
    (case z_bool => k_is)
    (case z_enumerate => k_is)
    (case z_int => k_is)
    (case z_isinstance => k_is)
    (case z_len => k_is)
    (case z_list => k_is)
    (case z_range => k_is)
    (case z_repr => k_is)
    (case z_sorted => k_is)
    (case z_str => k_is)
    (case z_tuple => k_is)
    (case z_zip => k_is)
    (case y_CLOCKS => k_is)
    (case x_CLOCKS => k_is)
    (case y_FIGURES => k_is)
    (case y_MOST_FIGURES => k_is)
    (case y_MOST_GIVEN => k_is)
    (case y_MOST_SIZE => k_is)
    (case g_BadClock => k_is)
    (case g_BadNumber => k_is)
    (case g_BadRow => k_is)
    (case g_BadSpace => k_is)
    (case z_super => k_is)
    (case en_Space___eq___Space => first | k_is | kernel_rfl)
    (case et_Space___eq___NoneType => first | k_is | kernel_rfl)
    (case et_Space___eq___bool => first | k_is | kernel_rfl)
    (case et_Space___eq___int => first | k_is | kernel_rfl)
    (case et_Space___eq___str => first | k_is | kernel_rfl)
    (case et_Space___eq___list => first | k_is | kernel_rfl)
    (case et_Space___eq___tuple => first | k_is | kernel_rfl)
    (case et_Space___eq___dict => first | k_is | kernel_rfl)
    (case vd17 => exact .cons ⟨_, rfl⟩ (.nil))
    (case kt_Space_NoneType => kit_is)
    (case kt_Space_bool => kit_is)
    (case kt_Space_int => kit_is)
    (case kt_Space_str => kit_is)
    (case kt_Space_list => kit_is)
    (case kt_Space_tuple => kit_is)
    (case kt_Space_dict => kit_is)
    (case ki_Space_Space => kit_is)
    (case ic_Space => refine' ⟨?_, ?_, ?_, ?_⟩; all_goals first | k_is | kernel_rfl)
    (case t_CLOCKS => rfl)
    (case v_CLOCKS => exact .cons ⟨_, rfl⟩ (.cons ⟨_, rfl⟩ (.cons ⟨_, rfl⟩ (.cons ⟨_, rfl⟩ (.cons ⟨_, rfl⟩ (.cons ⟨_, rfl⟩ (.cons ⟨_, rfl⟩ (.cons ⟨_, rfl⟩ (.cons ⟨_, rfl⟩ (.cons ⟨_, rfl⟩ (.nil)))))))))))
    (case u_CLOCKS => decide)
    (case v_FIGURES => exact ⟨_, rfl⟩)
    (case v_MOST_FIGURES => exact ⟨_, rfl⟩)
    (case v_MOST_GIVEN => exact ⟨_, rfl⟩)
    (case v_MOST_SIZE => exact ⟨_, rfl⟩)
    (case x_BadClock => refine' ⟨⟨?_, ?_, ?_, ?_, ?_, ?_, ?_, ?_⟩, ?_, ?_⟩; all_goals first | k_is | kernel_rfl)
    (case n_BadClock =>
      intro base S h1 h2 h3
      refine' DS.exn_mk h1 h2 h3 ?hC ?hbm ?sa ?exC ?tyC ?kC ?opq ?all ?fc ?iC ?tI ?lk ?hcd ?lc ?hvs ?hfile ?lcc ?hsub ?top ?ini ?subV ?har ?har2 ?Sc ?hbi ?d0 ?d1 ?d2 ?d3 ?a1 ?a2 ?hsw ?hev ?he
      (case hC => k_is)
      (case hbm => first | rfl | kernel_rfl)
      (case sa => k_is)
      (case exC => k_is)
      (case tyC => k_is)
      (case kC => k_is)
      (case opq => k_is)
      (case all => (refine' ⟨⟨?_, ?_, ?_, ?_, ?_, ?_, ?_, ?_⟩, ?_, ?_⟩; all_goals first | k_is | kernel_rfl))
      (case fc => k_is)
      (case iC => k_is)
      (case tI => k_is)
      (case lk => k_is)
      (case hcd => k_is)
      (case lc => k_is)
      (case hvs => rfl)
      (case hfile => first | rfl | kernel_rfl)
      (case lcc => k_is)
      (case hsub => k_is)
      (case top => first | rfl | kernel_rfl)
      (case ini => ks_is)
      (case subV => k_is)
      (case har => rfl)
      (case har2 => rfl)
      (case Sc => exact ⟨rfl, rfl, rfl, by decide +kernel, rfl, by decide +kernel, by decide +kernel, by decide +kernel, rfl, rfl, rfl, rfl⟩)
      (case hbi => exact fun us hl => match us, hl with | [_, _], _ => rfl)
      (case d0 => decide)
      (case d1 => decide)
      (case d2 => decide)
      (case d3 => decide)
      (case hsw => exact fun _ => rfl)
      (case a1 => exact fun _ => rfl)
      (case a2 => exact fun _ => rfl)
      (case hev => exact fun _ => rfl)
      (case he => exact fun _ => rfl))
    (case x_BadNumber => refine' ⟨⟨?_, ?_, ?_, ?_, ?_, ?_, ?_, ?_⟩, ?_, ?_⟩; all_goals first | k_is | kernel_rfl)
    (case n_BadNumber =>
      intro base S h1 h2 h3
      refine' DS.exn_mk h1 h2 h3 ?hC ?hbm ?sa ?exC ?tyC ?kC ?opq ?all ?fc ?iC ?tI ?lk ?hcd ?lc ?hvs ?hfile ?lcc ?hsub ?top ?ini ?subV ?har ?har2 ?Sc ?hbi ?d0 ?d1 ?d2 ?d3 ?a1 ?a2 ?hsw ?hev ?he
      (case hC => k_is)
      (case hbm => first | rfl | kernel_rfl)
      (case sa => k_is)
      (case exC => k_is)
      (case tyC => k_is)
      (case kC => k_is)
      (case opq => k_is)
      (case all => (refine' ⟨⟨?_, ?_, ?_, ?_, ?_, ?_, ?_, ?_⟩, ?_, ?_⟩; all_goals first | k_is | kernel_rfl))
      (case fc => k_is)
      (case iC => k_is)
      (case tI => k_is)
      (case lk => k_is)
      (case hcd => k_is)
      (case lc => k_is)
      (case hvs => rfl)
      (case hfile => first | rfl | kernel_rfl)
      (case lcc => k_is)
      (case hsub => k_is)
      (case top => first | rfl | kernel_rfl)
      (case ini => ks_is)
      (case subV => k_is)
      (case har => rfl)
      (case har2 => rfl)
      (case Sc => exact ⟨rfl, rfl, rfl, by decide +kernel, rfl, by decide +kernel, by decide +kernel, by decide +kernel, rfl, rfl, rfl, rfl⟩)
      (case hbi => exact fun us hl => match us, hl with | [_, _], _ => rfl)
      (case d0 => decide)
      (case d1 => decide)
      (case d2 => decide)
      (case d3 => decide)
      (case hsw => exact fun _ => rfl)
      (case a1 => exact fun _ => rfl)
      (case a2 => exact fun _ => rfl)
      (case hev => exact fun _ => rfl)
      (case he => exact fun _ => rfl))
    (case x_BadRow => refine' ⟨⟨?_, ?_, ?_, ?_, ?_, ?_, ?_, ?_⟩, ?_, ?_⟩; all_goals first | k_is | kernel_rfl)
    (case n_BadRow =>
      intro base S h1 h2 h3
      refine' DS.exn_mk h1 h2 h3 ?hC ?hbm ?sa ?exC ?tyC ?kC ?opq ?all ?fc ?iC ?tI ?lk ?hcd ?lc ?hvs ?hfile ?lcc ?hsub ?top ?ini ?subV ?har ?har2 ?Sc ?hbi ?d0 ?d1 ?d2 ?d3 ?a1 ?a2 ?hsw ?hev ?he
      (case hC => k_is)
      (case hbm => first | rfl | kernel_rfl)
      (case sa => k_is)
      (case exC => k_is)
      (case tyC => k_is)
      (case kC => k_is)
      (case opq => k_is)
      (case all => (refine' ⟨⟨?_, ?_, ?_, ?_, ?_, ?_, ?_, ?_⟩, ?_, ?_⟩; all_goals first | k_is | kernel_rfl))
      (case fc => k_is)
      (case iC => k_is)
      (case tI => k_is)
      (case lk => k_is)
      (case hcd => k_is)
      (case lc => k_is)
      (case hvs => rfl)
      (case hfile => first | rfl | kernel_rfl)
      (case lcc => k_is)
      (case hsub => k_is)
      (case top => first | rfl | kernel_rfl)
      (case ini => ks_is)
      (case subV => k_is)
      (case har => rfl)
      (case har2 => rfl)
      (case Sc => exact ⟨rfl, rfl, rfl, by decide +kernel, rfl, by decide +kernel, by decide +kernel, by decide +kernel, rfl, rfl, rfl, rfl⟩)
      (case hbi => exact fun us hl => match us, hl with | [_, _], _ => rfl)
      (case d0 => decide)
      (case d1 => decide)
      (case d2 => decide)
      (case d3 => decide)
      (case hsw => exact fun _ => rfl)
      (case a1 => exact fun _ => rfl)
      (case a2 => exact fun _ => rfl)
      (case hev => exact fun _ => rfl)
      (case he => exact fun _ => rfl))
    (case x_BadSpace => refine' ⟨⟨?_, ?_, ?_, ?_, ?_, ?_, ?_, ?_⟩, ?_, ?_⟩; all_goals first | k_is | kernel_rfl)
    (case n_BadSpace =>
      intro base S h1 h2 h3
      refine' DS.exn_mk h1 h2 h3 ?hC ?hbm ?sa ?exC ?tyC ?kC ?opq ?all ?fc ?iC ?tI ?lk ?hcd ?lc ?hvs ?hfile ?lcc ?hsub ?top ?ini ?subV ?har ?har2 ?Sc ?hbi ?d0 ?d1 ?d2 ?d3 ?a1 ?a2 ?hsw ?hev ?he
      (case hC => k_is)
      (case hbm => first | rfl | kernel_rfl)
      (case sa => k_is)
      (case exC => k_is)
      (case tyC => k_is)
      (case kC => k_is)
      (case opq => k_is)
      (case all => (refine' ⟨⟨?_, ?_, ?_, ?_, ?_, ?_, ?_, ?_⟩, ?_, ?_⟩; all_goals first | k_is | kernel_rfl))
      (case fc => k_is)
      (case iC => k_is)
      (case tI => k_is)
      (case lk => k_is)
      (case hcd => k_is)
      (case lc => k_is)
      (case hvs => rfl)
      (case hfile => first | rfl | kernel_rfl)
      (case lcc => k_is)
      (case hsub => k_is)
      (case top => first | rfl | kernel_rfl)
      (case ini => ks_is)
      (case subV => k_is)
      (case har => rfl)
      (case har2 => rfl)
      (case Sc => exact ⟨rfl, rfl, rfl, by decide +kernel, rfl, by decide +kernel, by decide +kernel, by decide +kernel, rfl, rfl, rfl, rfl⟩)
      (case hbi => exact fun us hl => match us, hl with | [_, _], _ => rfl)
      (case d0 => decide)
      (case d1 => decide)
      (case d2 => decide)
      (case d3 => decide)
      (case hsw => exact fun _ => rfl)
      (case a1 => exact fun _ => rfl)
      (case a2 => exact fun _ => rfl)
      (case hev => exact fun _ => rfl)
      (case he => exact fun _ => rfl))
    (case e_BadNumber_BadClock => rfl)
    (case e_BadRow_BadClock => rfl)
    (case e_BadRow_BadNumber => rfl)
    (case e_BadSpace_BadClock => rfl)
    (case e_BadSpace_BadNumber => rfl)
    (case e_BadSpace_BadRow => rfl)
    (case noT => kernel_rfl)
