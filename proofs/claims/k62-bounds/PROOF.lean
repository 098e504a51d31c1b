import PyProof.Rows.All
import Wide.All
import OpenK.AllK
import Wide.FinOn
import HandS.ForMost
import HandS.ForExc
import HandS.ExcCtx
import HandS.IsInst
import HandS.Deep
import HandS.Zip
import HandS.Conv
import HandS.Style
import HandS.TupAny
import HandS.TupMul
import HandS.Walk
import KE.KTupSum
import KE.DatumOrd
import KE.GoesEnum
import KE.GoesMore
import PySem.Challenge.RW_signsquared_k62_whole_bounds_of_heights
import HandS.HotCalls
import HandS.ExcIs
import HandS.Lambda
import HandS.CallLocal
import HandS.EndTab
set_option Elab.async false
-- text Fw1
section
set_option Elab.async false
set_option linter.all false
set_option autoImplicit false
set_option maxRecDepth 100000
set_option maxHeartbeats 4000000
/-! Part 1 of the frame: data over a frozen heap, growth, environments, what an expression gives. -/
namespace K6
open PySem PySem.Spec PyProof.Rows L2

/-! ### data over a heap that stands still -/
mutual
inductive Dv (F : Hp) : V → PyData → Prop
  | non : Dv F .non .none
  | bl (b : Bool) : Dv F (.bl b) (.bool b)
  | int (i : Int) : Dv F (.int i) (.int i)
  | str (x : Str) : Dv F (.str x) (.str x)
  | lst {a : Addr} {xs : List V} {ds : List PyData} : F a = some (.lst xs) → Dvs F xs ds → Dv F (.ref a) (.list ds)
  | tup {a : Addr} {xs : List V} {ds : List PyData} : F a = some (.tup xs) → Dvs F xs ds → Dv F (.ref a) (.tuple ds)
inductive Dvs (F : Hp) : List V → List PyData → Prop
  | nil : Dvs F [] []
  | cons {v : V} {vs : List V} {d : PyData} {ds : List PyData} : Dv F v d → Dvs F vs ds → Dvs F (v :: vs) (d :: ds)
end
mutual
theorem Dv.mono {F F' : Hp} (e : Same F F') : ∀ {v : V} {d : PyData}, Dv F v d → Dv F' v d
  | _, _, .non => .non
  | _, _, .bl b => .bl b
  | _, _, .int i => .int i
  | _, _, .str x => .str x
  | _, _, .lst h r => .lst (e _ _ h) (Dvs.mono e r)
  | _, _, .tup h r => .tup (e _ _ h) (Dvs.mono e r)
theorem Dvs.mono {F F' : Hp} (e : Same F F') : ∀ {vs : List V} {ds : List PyData}, Dvs F vs ds → Dvs F' vs ds
  | _, _, .nil => .nil
  | _, _, .cons h r => .cons (Dv.mono e h) (Dvs.mono e r)
end
mutual
theorem Dv.dp {K : PySem.W.Frag} {F H : Hp} (e : Same F H) : ∀ {v : V} {d : PyData}, Dv F v d → Dp K H v d
  | _, _, .non => .non
  | _, _, .bl b => .bl b
  | _, _, .int i => .int i
  | _, _, .str x => .str x
  | _, _, .lst h r => .lst (.inl (.inl (e _ _ h))) (Dvs.dp e r)
  | _, _, .tup h r => .tup (.inl (.inl (e _ _ h))) (Dvs.dp e r)
theorem Dvs.dp {K : PySem.W.Frag} {F H : Hp} (e : Same F H) : ∀ {vs : List V} {ds : List PyData}, Dvs F vs ds → DpAll K H vs ds
  | _, _, .nil => .nil
  | _, _, .cons h r => .cons (Dv.dp e h) (Dvs.dp e r)
end
theorem Dvs.length {F : Hp} : ∀ {vs : List V} {ds : List PyData}, Dvs F vs ds → vs.length = ds.length
  | _, _, .nil => rfl
  | _, _, .cons _ r => by rw [List.length_cons, List.length_cons, Dvs.length r]
theorem Dvs.append {F : Hp} : ∀ {vs ws : List V} {ds es : List PyData}, Dvs F vs ds → Dvs F ws es → Dvs F (vs ++ ws) (ds ++ es)
  | _, _, _, _, .nil, s => s
  | _, _, _, _, .cons h r, s => .cons h (Dvs.append r s)
theorem Dvs.get {F : Hp} : ∀ {vs : List V} {ds : List PyData} {i : Nat} {d : PyData}, Dvs F vs ds → ds[i]? = some d → ∃ v, vs[i]? = some v ∧ Dv F v d
  | _, _, _, _, .nil, e => by simp at e
  | _, _, 0, _, .cons h r, e => by
    simp at e
    subst e
    exact ⟨_, rfl, h⟩
  | _, _, i + 1, d, .cons _ r, e => by
    obtain ⟨v, h1, h2⟩ := Dvs.get (i := i) (d := d) r (by simpa using e)
    exact ⟨v, by simpa using h1, h2⟩
theorem Dvs.get' {F : Hp} : ∀ {vs : List V} {ds : List PyData} {i : Nat} {v : V}, Dvs F vs ds → vs[i]? = some v → ∃ d, ds[i]? = some d ∧ Dv F v d
  | _, _, _, _, .nil, e => by simp at e
  | _, _, 0, _, .cons h r, e => by
    simp at e
    subst e
    exact ⟨_, rfl, h⟩
  | _, _, i + 1, v, .cons _ r, e => by
    obtain ⟨d, h1, h2⟩ := Dvs.get' (i := i) (v := v) r (by simpa using e)
    exact ⟨d, by simpa using h1, h2⟩
theorem Dvs.take {F : Hp} : ∀ {vs : List V} {ds : List PyData} (n : Nat), Dvs F vs ds → Dvs F (vs.take n) (ds.take n)
  | _, _, 0, _ => .nil
  | _, _, _ + 1, .nil => .nil
  | _, _, n + 1, .cons h r => .cons h (Dvs.take n r)
theorem Dvs.drop {F : Hp} : ∀ {vs : List V} {ds : List PyData} (n : Nat), Dvs F vs ds → Dvs F (vs.drop n) (ds.drop n)
  | _, _, 0, r => r
  | _, _, _ + 1, .nil => .nil
  | _, _, n + 1, .cons _ r => Dvs.drop n r
theorem Dvs.rep {F : Hp} {vs : List V} {ds : List PyData} (h : Dvs F vs ds) : ∀ k : Nat, Dvs F (List.replicate k vs).flatten (List.replicate k ds).flatten
  | 0 => .nil
  | k + 1 => by
    rw [List.replicate_succ, List.replicate_succ, List.flatten_cons, List.flatten_cons]
    exact h.append (Dvs.rep h k)
theorem Dvs.ints {F : Hp} : ∀ {ns : List Int} {vs : List V}, Dvs F vs (ns.map .int) → vs = ns.map .int
  | [], _, .nil => rfl
  | n :: ns, _, .cons h r => by
    cases h
    rw [Dvs.ints r]
    rfl
theorem Dvs.ofInts {F : Hp} : ∀ ns : List Int, Dvs F (ns.map .int) (ns.map .int)
  | [] => .nil
  | n :: ns => .cons (.int n) (Dvs.ofInts ns)
theorem Dvs.bls {F : Hp} : ∀ {bs : List Bool} {vs : List V}, Dvs F vs (bs.map .bool) → vs = bs.map .bl
  | [], _, .nil => rfl
  | b :: bs, _, .cons h r => by
    cases h
    rw [Dvs.bls r]
    rfl

/-! ### growth: F is the part that stands still, H all that is tracked -/
structure Grow (F H F' H' : Hp) : Prop where
  f : Same F F'
  h : Same H H'
  sub : Same F' H'
  old : ∀ a, H a ≠ none → F' a = F a
theorem Grow.refl {F H : Hp} (e : Same F H) : Grow F H F H := ⟨Same.refl F, Same.refl H, e, fun _ _ => rfl⟩
theorem Grow.trans {F H F1 H1 F2 H2 : Hp} (a : Grow F H F1 H1) (b : Grow F1 H1 F2 H2) : Grow F H F2 H2 where
  f := a.f.trans b.f
  h := a.h.trans b.h
  sub := b.sub
  old := fun p hp => by
    have q : H1 p ≠ none := fun z => by
      cases e : H p with
      | none => exact hp e
      | some o =>
        rw [a.h p o e] at z
        cases z
    rw [b.old p q, a.old p hp]
theorem same_upd {H : Hp} {p : Addr} {o : HO} (h : H p = none) : Same H (upd H p o) := fun b x e => by
  rw [upd_ne (ne_of_none e h)]
  exact e
theorem Same.none {F H : Hp} (e : Same F H) {p : Addr} (h : H p = none) : F p = none := e.free h
/-- a new object, frozen at once -/
theorem Grow.new {F H : Hp} (e : Same F H) {p : Addr} {o : HO} (h : H p = none) : Grow F H (upd F p o) (upd H p o) where
  f := same_upd (Same.none e h)
  h := same_upd h
  sub := fun b x q => by
    by_cases hb : b = p
    · subst hb
      rw [upd_same] at q ⊢
      exact q
    · rw [upd_ne hb] at q ⊢
      exact e b x q
  old := fun a ha => upd_ne fun z => ha (by rw [z]; exact h)
/-- a new object that isn't frozen (yet) -/
theorem Grow.loose {F H : Hp} (e : Same F H) {p : Addr} {o : HO} (h : H p = none) : Grow F H F (upd H p o) where
  f := Same.refl F
  h := same_upd h
  sub := e.trans (same_upd h)
  old := fun _ _ => rfl

/-! ### environments -/
inductive Sl where
  | no
  | dat (d : PyData)
  | own (ds : List PyData)
abbrev En := List Sl
structure Rel (ρ : En) (σ : L2.St) (F H : Hp) : Prop where
  len : σ.length = ρ.length
  sub : Same F H
  dat : ∀ (i : Nat) (d : PyData), ρ[i]? = some (Sl.dat d) → ∃ v, σ[i]? = some (some v) ∧ Dv F v d
  own : ∀ (i : Nat) (ds : List PyData), ρ[i]? = some (Sl.own ds) → ∃ a vs, σ[i]? = some (some (V.ref a)) ∧ H a = some (.lst vs) ∧ F a = none ∧ Dvs F vs ds
  apart : ∀ (i j : Nat) (ds es : List PyData) (a : Addr), i ≠ j → ρ[i]? = some (Sl.own ds) → ρ[j]? = some (Sl.own es) → σ[i]? = some (some (V.ref a)) → σ[j]? ≠ some (some (V.ref a))
theorem Rel.grow {ρ : En} {σ : L2.St} {F H F' H' : Hp} (R : Rel ρ σ F H) (g : Grow F H F' H') : Rel ρ σ F' H' where
  len := R.len
  sub := g.sub
  dat := fun i d e => let ⟨v, h1, h2⟩ := R.dat i d e; ⟨v, h1, h2.mono g.f⟩
  own := fun i ds e => by
    obtain ⟨a, vs, h1, h2, h3, h4⟩ := R.own i ds e
    exact ⟨a, vs, h1, g.h _ _ h2, by rw [g.old a (by rw [h2]; simp), h3], h4.mono g.f⟩
  apart := R.apart
/-- the same, seen from a def's entry (F0, H0) -/
structure RelS (F0 H0 : Hp) (ρ : En) (σ : L2.St) (F H : Hp) : Prop where
  r : Rel ρ σ F H
  g : Grow F0 H0 F H
  fresh : ∀ (i : Nat) (ds : List PyData) (a : Addr), ρ[i]? = some (Sl.own ds) → σ[i]? = some (some (V.ref a)) → H0 a = none
theorem RelS.grow {F0 H0 F H F' H' : Hp} {ρ : En} {σ : L2.St} (R : RelS F0 H0 ρ σ F H) (g : Grow F H F' H') : RelS F0 H0 ρ σ F' H' :=
  ⟨R.r.grow g, R.g.trans g, R.fresh⟩

/-! ### storing into the environment -/
theorem get_set {α : Type} {l : List α} {i j : Nat} {x y : α} (h : (l.set i x)[j]? = some y) : (i = j ∧ x = y) ∨ (i ≠ j ∧ l[j]? = some y) := by
  by_cases e : i = j
  · subst e
    rw [List.getElem?_set_self'] at h
    cases q : l[i]? with
    | none => rw [q] at h; cases h
    | some z =>
      rw [q] at h
      exact .inl ⟨rfl, Option.some.inj h⟩
  · rw [List.getElem?_set_ne e] at h
    exact .inr ⟨e, h⟩
theorem set_get {α : Type} {l : List α} {i j : Nat} {x : α} (e : i ≠ j) : (l.set i x)[j]? = l[j]? := List.getElem?_set_ne e
theorem set_at {α : Type} {l : List α} {i : Nat} {x : α} (h : i < l.length) : (l.set i x)[i]? = some x := List.getElem?_set_self h
section
variable {ρ : En} {σ : L2.St} {F H F0 H0 : Hp} {i : Nat}
theorem Rel.set {x : V} {d : PyData} (R : Rel ρ σ F H) (hx : Dv F x d) : Rel (ρ.set i (.dat d)) (σ.set i (some x)) F H where
  len := by rw [List.length_set, List.length_set, R.len]
  sub := R.sub
  dat := fun j e h => by
    rcases get_set h with ⟨rfl, q⟩ | ⟨q, h⟩
    · cases q
      have hi : i < ρ.length := by
        have z := (List.getElem?_eq_some_iff.mp h).1
        rwa [List.length_set] at z
      exact ⟨x, set_at (by rw [R.len]; exact hi), hx⟩
    · rw [set_get q]
      exact R.dat j e h
  own := fun j ds h => by
    rcases get_set h with ⟨_, q⟩ | ⟨q, h⟩
    · cases q
    · rw [set_get q]
      exact R.own j ds h
  apart := fun j k ds es a hjk h1 h2 h3 => by
    rcases get_set h1 with ⟨_, q⟩ | ⟨q, h1⟩
    · cases q
    · rcases get_set h2 with ⟨_, q2⟩ | ⟨q2, h2⟩
      · cases q2
      · rw [set_get q] at h3
        rw [set_get q2]
        exact R.apart j k ds es a hjk h1 h2 h3
theorem RelS.set {x : V} {d : PyData} (R : RelS F0 H0 ρ σ F H) (hx : Dv F x d) : RelS F0 H0 (ρ.set i (.dat d)) (σ.set i (some x)) F H :=
  ⟨R.r.set hx, R.g, fun j ds a h1 h2 => by
    rcases get_set h1 with ⟨_, q⟩ | ⟨q, h1⟩
    · cases q
    · rw [set_get q] at h2
      exact R.fresh j ds a h1 h2⟩
/-- a new list, the name's own -/
theorem RelS.setOwn {a : Addr} {vs : List V} {ds : List PyData} (R : RelS F0 H0 ρ σ F H) (ha : H a = none) (hx : Dvs F vs ds) :
    RelS F0 H0 (ρ.set i (.own ds)) (σ.set i (some (.ref a))) F (upd H a (.lst vs)) := by
  have g : Grow F H F (upd H a (.lst vs)) := Grow.loose R.r.sub ha
  have R' := R.grow g
  have na : ∀ j es b, ρ[j]? = some (Sl.own es) → σ[j]? = some (some (V.ref b)) → b ≠ a := fun j es b h1 h2 z => by
    obtain ⟨c, ws, q1, q2, _⟩ := R.r.own j es h1
    rw [h2] at q1
    cases q1
    rw [z, ha] at q2
    cases q2
  have h0 : H0 a = none := R.g.h.free ha
  refine ⟨⟨by rw [List.length_set, List.length_set, R.r.len], R'.r.sub, fun j e h => ?_, fun j es h => ?_, fun j k es gs b hjk h1 h2 h3 => ?_⟩, R'.g, fun j es b h1 h2 => ?_⟩
  · rcases get_set h with ⟨_, q⟩ | ⟨q, h⟩
    · cases q
    · rw [set_get q]
      exact R'.r.dat j e h
  · rcases get_set h with ⟨rfl, q⟩ | ⟨q, h⟩
    · cases q
      have hi : i < ρ.length := by
        have z := (List.getElem?_eq_some_iff.mp h).1
        rwa [List.length_set] at z
      exact ⟨a, vs, set_at (by rw [R.r.len]; exact hi), upd_same, Same.none R.r.sub ha, hx⟩
    · rw [set_get q]
      exact R'.r.own j es h
  · rcases get_set h1 with ⟨rfl, q⟩ | ⟨q, h1⟩
    · rcases get_set h2 with ⟨z, _⟩ | ⟨q2, h2⟩
      · exact absurd z hjk
      · rw [set_get q2]
        intro z
        have hi : i < σ.length := by
          have z := (List.getElem?_eq_some_iff.mp h3).1
          rwa [List.length_set] at z
        rw [set_at hi] at h3
        cases h3
        exact na k gs a h2 z rfl
    · rcases get_set h2 with ⟨rfl, _⟩ | ⟨q2, h2⟩
      · rw [set_get q] at h3
        intro z
        have hi : i < σ.length := by
          have z := (List.getElem?_eq_some_iff.mp z).1
          rwa [List.length_set] at z
        rw [set_at hi] at z
        cases z
        exact na j es a h1 h3 rfl
      · rw [set_get q] at h3
        rw [set_get q2]
        exact R.r.apart j k es gs b hjk h1 h2 h3
  · rcases get_set h1 with ⟨rfl, q⟩ | ⟨q, h1⟩
    · have hi : i < σ.length := by
        have z := (List.getElem?_eq_some_iff.mp h2).1
        rwa [List.length_set] at z
      rw [set_at hi] at h2
      cases h2
      exact h0
    · rw [set_get q] at h2
      exact R.fresh j es b h1 h2
/-- an own list grows by one -/
theorem RelS.push {a : Addr} {vs : List V} {ds : List PyData} {x : V} {d : PyData} (R : RelS F0 H0 ρ σ F H) (h1 : ρ[i]? = some (Sl.own ds)) (h2 : σ[i]? = some (some (V.ref a))) (h3 : H a = some (.lst vs)) (hx : Dv F x d) :
    RelS F0 H0 (ρ.set i (.own (ds ++ [d]))) σ F (upd H a (.lst (vs ++ [x]))) := by
  have h0 : H0 a = none := R.fresh i ds a h1 h2
  obtain ⟨b, ws, q1, q2, q3, q4⟩ := R.r.own i ds h1
  rw [h2] at q1
  cases q1
  rw [h3] at q2
  cases q2
  have sub : Same F (upd H a (.lst (vs ++ [x]))) := fun b o e => by
    rw [upd_ne (fun z => by rw [z, q3] at e; cases e)]
    exact R.r.sub b o e
  have other : ∀ j es b, i ≠ j → ρ[j]? = some (Sl.own es) → σ[j]? = some (some (V.ref b)) → b ≠ a := fun j es b hij e1 e2 z => by
    rw [z] at e2
    exact R.r.apart i j ds es a hij h1 e1 h2 e2
  refine ⟨⟨by rw [List.length_set, R.r.len], sub, fun j e h => ?_, fun j es h => ?_, fun j k es gs b hjk e1 e2 e3 => ?_⟩, ⟨R.g.f, fun b o e => ?_, sub, R.g.old⟩, fun j es b e1 e2 => ?_⟩
  · rcases get_set h with ⟨_, q⟩ | ⟨q, h⟩
    · cases q
    · exact R.r.dat j e h
  · rcases get_set h with ⟨rfl, q⟩ | ⟨q, h⟩
    · cases q
      exact ⟨a, vs ++ [x], h2, upd_same, q3, q4.append (.cons hx .nil)⟩
    · obtain ⟨b, ws, p1, p2, p3, p4⟩ := R.r.own j es h
      exact ⟨b, ws, p1, by rw [upd_ne (other j es b q h p1)]; exact p2, p3, p4⟩
  · have o1 : ∃ es', ρ[j]? = some (Sl.own es') := by
      rcases get_set e1 with ⟨rfl, _⟩ | ⟨_, e1⟩
      · exact ⟨_, h1⟩
      · exact ⟨_, e1⟩
    have o2 : ∃ es', ρ[k]? = some (Sl.own es') := by
      rcases get_set e2 with ⟨rfl, _⟩ | ⟨_, e2⟩
      · exact ⟨_, h1⟩
      · exact ⟨_, e2⟩
    obtain ⟨es', o1⟩ := o1
    obtain ⟨gs', o2⟩ := o2
    exact R.r.apart j k es' gs' b hjk o1 o2 e3
  · rw [upd_ne (fun z => by rw [z, h0] at e; cases e)]
    exact R.g.h b o e
  · rcases get_set e1 with ⟨rfl, _⟩ | ⟨_, e1⟩
    · exact R.fresh _ ds b h1 e2
    · exact R.fresh j es b e1 e2
end
end K6

end
-- text Fw2
section
set_option Elab.async false
set_option linter.all false
set_option autoImplicit false
set_option maxRecDepth 100000
set_option maxHeartbeats 4000000
/-! Part 2 of the frame: expressions, tests, arguments: a reading whose result is told by a plain function on the environment. -/
namespace K6
open PySem PySem.Spec PyProof.Rows L2

abbrev EM := En → Option PyData
abbrev TM := En → Option Bool
abbrev AM := En → Option (List PyData)
structure ED (X : Cx) (e : Expr) (f : EM) : Prop where
  ex : ∃ t : TE, PE X e t ∧ ∀ ρ d, f ρ = some d → ∀ σ F H, Rel ρ σ F H → ∀ Q : VK, (∀ v F' H', Grow F H F' H' → Dv F' v d → Q v H') → t σ H Q
structure TD (X : Cx) (e : Expr) (f : TM) : Prop where
  ex : ∃ t : TT, PT X e t ∧ ∀ ρ b, f ρ = some b → ∀ σ F H, Rel ρ σ F H → ∀ Q : Bool → Hp → Prop, (∀ F' H', Grow F H F' H' → Q b H') → t σ H Q
structure WD (X : Cx) (e : Expr) (f : TM) : Prop where
  ex : ∃ t : TT, PW X e t ∧ ∀ ρ b, f ρ = some b → ∀ σ F H, Rel ρ σ F H → ∀ Q : Bool → Hp → Prop, (∀ F' H', Grow F H F' H' → Q b H') → t σ H Q
structure AD (X : Cx) (es : List Expr) (f : AM) : Prop where
  ex : ∃ t : TA, PA X es t ∧ ∀ ρ ds, f ρ = some ds → ∀ σ F H, Rel ρ σ F H → ∀ Q : List V → Hp → Prop, (∀ vs F' H', Grow F H F' H' → Dvs F' vs ds → Q vs H') → t σ H Q

/-! ### the plain functions -/
def eVar (i : Nat) : EM := fun ρ => match ρ[i]? with
  | some (Sl.dat d) => some d
  | _ => none
def eC (d : PyData) : EM := fun _ => some d
def bind1 {α β : Type} (o : Option α) (k : α → Option β) : Option β := match o with
  | some x => k x
  | none => none
def eUn (h : PyData → Option PyData) (f : EM) : EM := fun ρ => bind1 (f ρ) h
def eBin (h : PyData → PyData → Option PyData) (f g : EM) : EM := fun ρ => bind1 (f ρ) fun x => bind1 (g ρ) fun y => h x y
def dB : PyData → Option Bool
  | .bool b => some b
  | _ => none
def tOf (f : EM) : TM := fun ρ => bind1 (f ρ) dB
def tNotM (f : TM) : TM := fun ρ => bind1 (f ρ) fun b => some (!b)
def tAndM (f g : TM) : TM := fun ρ => bind1 (f ρ) fun b => if b = true then g ρ else some false
def tOrM (f g : TM) : TM := fun ρ => bind1 (f ρ) fun b => if b = true then some true else g ρ
def eNot (f : EM) : EM := fun ρ => bind1 (f ρ) fun x => bind1 (dB x) fun b => some (.bool (!b))
def eAnd (f g : EM) : EM := fun ρ => bind1 (f ρ) fun x => bind1 (dB x) fun b => if b = true then g ρ else some (.bool false)
def eOr (f g : EM) : EM := fun ρ => bind1 (f ρ) fun x => bind1 (dB x) fun b => if b = true then some (.bool true) else g ρ
def eIf (c : TM) (f g : EM) : EM := fun ρ => bind1 (c ρ) fun b => if b = true then f ρ else g ρ
def aNil : AM := fun _ => some []
def aCons (f : EM) (g : AM) : AM := fun ρ => bind1 (f ρ) fun x => bind1 (g ρ) fun xs => some (x :: xs)
def eTup (f : AM) : EM := fun ρ => bind1 (f ρ) fun ds => if ds.length ≤ 1000 then some (.tuple ds) else none
def eLst (f : AM) : EM := fun ρ => bind1 (f ρ) fun ds => if ds.length ≤ 1000 then some (.list ds) else none
def eCB (h : List PyData → Option PyData) (f : AM) : EM := fun ρ => bind1 (f ρ) h
def eChain (h h' : PyData → PyData → Option PyData) (f g k : EM) : EM := fun ρ => bind1 (f ρ) fun x => bind1 (g ρ) fun y => bind1 (h x y) fun z => bind1 (dB z) fun b =>
  if b = true then bind1 (k ρ) fun w => h' y w else some (.bool false)

theorem bind1_some {α β : Type} {o : Option α} {k : α → Option β} {y : β} (h : bind1 o k = some y) : ∃ x, o = some x ∧ k x = some y := by
  cases o with
  | none => cases h
  | some x => exact ⟨x, rfl, h⟩
theorem small {n : Nat} (h : n ≤ 1000) : n ≤ sizeLine := Nat.le_trans h (by decide)
theorem dB_some {d : PyData} {b : Bool} (h : dB d = some b) : d = .bool b := by
  cases d <;> simp [dB] at h
  rw [h]
theorem Dv.isBl {F : Hp} {v : V} {b : Bool} (h : Dv F v (.bool b)) : v = .bl b := by
  cases h
  rfl

/-! ### what rules by values must do with data -/
def Un1 (r : V → Hp → VK → Prop) (h : PyData → Option PyData) : Prop := ∀ u x d F H, h x = some d → Dv F u x → Same F H → ∀ Q : VK, (∀ v F' H', Grow F H F' H' → Dv F' v d → Q v H') → r u H Q
def Bin2 (r : R2) (h : PyData → PyData → Option PyData) : Prop := ∀ u w x y d F H, h x y = some d → Dv F u x → Dv F w y → Same F H → ∀ Q : VK, (∀ v F' H', Grow F H F' H' → Dv F' v d → Q v H') → r u w H Q
def BinN (r : List V → Hp → VK → Prop) (h : List PyData → Option PyData) : Prop := ∀ us xs d F H, h xs = some d → Dvs F us xs → Same F H → ∀ Q : VK, (∀ v F' H', Grow F H F' H' → Dv F' v d → Q v H') → r us H Q

section
variable {X : Cx} {a b c : Expr} {f g k : EM} {pos : Pos}
theorem ed_var (i : Nat) {x : Str} {pos : Pos} (hN : X.N[i]? = some x) (hv : Vis X.env.scope x) (hd : (x == ("__debug__" : Str)) = false := by decide) (hcd : (x == ("__classdict__" : Str)) = false := by decide) :
    ED X (.Name x pos) (eVar i) := by
  refine ⟨⟨tVar i, pe_var hN hv hd hcd, fun ρ d h σ F H R Q q => ?_⟩⟩
  have e : ρ[i]? = some (Sl.dat d) := by
    unfold eVar at h
    split at h
    · rename_i d' e
      cases h
      exact e
    · cases h
  obtain ⟨v, h1, h2⟩ := R.dat i d e
  exact ⟨v, h1, q v F H (Grow.refl R.sub) h2⟩
theorem ed_c {e : Expr} {v : V} {d : PyData} (h : PE X e (tC v)) (hd : ∀ F, Dv F v d) : ED X e (eC d) := by
  refine ⟨⟨_, h, fun ρ d' h σ F H R Q q => ?_⟩⟩
  cases h
  exact q v F H (Grow.refl R.sub) (hd F)
theorem ed_int {i : Int} {j : Nat} {pos : Pos} : ED X (.Constant (.int i) j pos) (eC (.int i)) := ed_c pe_int fun _ => .int i
theorem ed_str {i : Str} {j : Nat} {pos : Pos} : ED X (.Constant (.str i) j pos) (eC (.str i)) := ed_c pe_str fun _ => .str i
theorem ed_bl {i : Bool} {j : Nat} {pos : Pos} : ED X (.Constant (.bool i) j pos) (eC (.bool i)) := ed_c pe_bl fun _ => .bl i
theorem ed_non {j : Nat} {pos : Pos} : ED X (.Constant .none j pos) (eC .none) := ed_c pe_non fun _ => .non
/-- a module's constant -/
theorem ed_gint {x : Str} {i : Int} {pos : Pos} (hg : Gl X x) (hm : ∃ t, X.mg x = some (.int i t)) (hd : (x == ("__debug__" : Str)) = false := by decide) : ED X (.Name x pos) (eC (.int i)) := by
  obtain ⟨t, hm⟩ := hm
  exact ed_c (pe_glob (v := V.int i) hg hm ⟨t, rfl⟩ hd) fun _ => .int i
theorem ed_un {op : UnaryOp} {r : V → Hp → VK → Prop} {h : PyData → Option PyData} (ho : UnR X (unaryOp op) r) (hr : Un1 r h) (ha : ED X a f) : ED X (.UnaryOp op a pos) (eUn h f) := by
  obtain ⟨ta, pa, ea⟩ := ha.ex
  refine ⟨⟨_, pe_un ho pa, fun ρ d hd σ F H R Q q => ?_⟩⟩
  obtain ⟨x, h1, h2⟩ := bind1_some hd
  exact ea ρ x h1 σ F H R _ fun u F1 H1 g1 d1 => hr u x d F1 H1 h2 d1 g1.sub Q fun v F2 H2 g2 d2 => q v F2 H2 (g1.trans g2) d2
theorem two {r : R2} {h : PyData → PyData → Option PyData} {ta tb : TE} (hr : Bin2 r h)
    (ea : ∀ ρ d, f ρ = some d → ∀ σ F H, Rel ρ σ F H → ∀ Q : VK, (∀ v F' H', Grow F H F' H' → Dv F' v d → Q v H') → ta σ H Q)
    (eb : ∀ ρ d, g ρ = some d → ∀ σ F H, Rel ρ σ F H → ∀ Q : VK, (∀ v F' H', Grow F H F' H' → Dv F' v d → Q v H') → tb σ H Q) :
    ∀ ρ d, eBin h f g ρ = some d → ∀ σ F H, Rel ρ σ F H → ∀ Q : VK, (∀ v F' H', Grow F H F' H' → Dv F' v d → Q v H') → tOp r ta tb σ H Q := by
  intro ρ d hd σ F H R Q q
  obtain ⟨x, h1, hd⟩ := bind1_some hd
  obtain ⟨y, h2, hd⟩ := bind1_some hd
  refine ea ρ x h1 σ F H R _ fun u F1 H1 g1 d1 => ?_
  refine eb ρ y h2 σ F1 H1 (R.grow g1) _ fun w F2 H2 g2 d2 => ?_
  exact hr u w x y d F2 H2 hd (d1.mono g2.f) d2 g2.sub Q fun v F3 H3 g3 d3 => q v F3 H3 (g1.trans (g2.trans g3)) d3
theorem ed_op {op : Operator} {r : R2} {h : PyData → PyData → Option PyData} (ho : OpR X (binaryOp op) r) (hr : Bin2 r h) (ha : ED X a f) (hb : ED X b g) : ED X (.BinOp a op b pos) (eBin h f g) := by
  obtain ⟨ta, pa, ea⟩ := ha.ex
  obtain ⟨tb, pb, eb⟩ := hb.ex
  exact ⟨⟨_, pe_op ho pa pb, two hr ea eb⟩⟩
theorem ed_cmp {op : CmpOp} {r : R2} {h : PyData → PyData → Option PyData} (ho : OpR X (compareOp op) r) (hr : Bin2 r h) (hm : behindInMarks op b = false) (ha : ED X a f) (hb : ED X b g) : ED X (.Compare a [op] [b] pos) (eBin h f g) := by
  obtain ⟨ta, pa, ea⟩ := ha.ex
  obtain ⟨tb, pb, eb⟩ := hb.ex
  exact ⟨⟨_, pe_cmpR ho pa pb hm, two hr ea eb⟩⟩
theorem td_cmp {op : CmpOp} {r : R2} {h : PyData → PyData → Option PyData} (ho : OpR X (compareOp op) r) (hr : Bin2 r h) (hm : behindInMarks op b = false) (ha : ED X a f) (hb : ED X b g) : TD X (.Compare a [op] [b] pos) (tOf (eBin h f g)) := by
  obtain ⟨ta, pa, ea⟩ := ha.ex
  obtain ⟨tb, pb, eb⟩ := hb.ex
  refine ⟨⟨_, pt_cmpR ho pa pb hm, fun ρ k hd σ F H R Q q => ?_⟩⟩
  obtain ⟨d, h1, h2⟩ := bind1_some hd
  refine two hr ea eb ρ d h1 σ F H R _ fun v F1 H1 g1 d1 => ?_
  rw [dB_some h2] at d1
  exact ⟨k, d1.isBl, q F1 H1 g1⟩
theorem td_val {e : Expr} (he : ED X e f) (hp : ∀ whole, isTrue e X.env whole = (do let v ← whole; standAt e.pos; holding [v] (truthy v)) := by intro _; rfl) : TD X e (tOf f) := by
  obtain ⟨ta, pa, ea⟩ := he.ex
  refine ⟨⟨_, pt_val pa hp, fun ρ k hd σ F H R Q q => ?_⟩⟩
  obtain ⟨d, h1, h2⟩ := bind1_some hd
  refine ea ρ d h1 σ F H R _ fun v F1 H1 g1 d1 => ?_
  rw [dB_some h2] at d1
  exact ⟨k, d1.isBl, q F1 H1 g1⟩
theorem ed_chain {op op' : CmpOp} {r r' : R2} {h h' : PyData → PyData → Option PyData} (ho : OpR X (compareOp op) r) (ho' : OpR X (compareOp op') r') (hr : Bin2 r h) (hr' : Bin2 r' h') (ha : ED X a f) (hb : ED X b g) (hc : ED X c k)
    (hm : lastMarks [op, op'] [b, c] = false := by with_unfolding_all rfl) : ED X (.Compare a [op, op'] [b, c] pos) (eChain h h' f g k) := by
  obtain ⟨ta, pa, ea⟩ := ha.ex
  obtain ⟨tb, pb, eb⟩ := hb.ex
  obtain ⟨tc, pc, ec⟩ := hc.ex
  refine ⟨⟨_, pe_chain ho ho' pa pb pc hm, fun ρ d hd σ F H R Q q => ?_⟩⟩
  obtain ⟨x, e1, hd⟩ := bind1_some hd
  obtain ⟨y, e2, hd⟩ := bind1_some hd
  obtain ⟨z, e3, hd⟩ := bind1_some hd
  obtain ⟨n, e4, hd⟩ := bind1_some hd
  refine ea ρ x e1 σ F H R _ fun u F1 H1 g1 d1 => ?_
  refine eb ρ y e2 σ F1 H1 (R.grow g1) _ fun w F2 H2 g2 d2 => ?_
  refine hr u w x y z F2 H2 e3 (d1.mono g2.f) d2 g2.sub _ fun v F3 H3 g3 d3 => ?_
  rw [dB_some e4] at d3
  refine ⟨n, d3.isBl, ?_⟩
  have g13 := g1.trans (g2.trans g3)
  cases n with
  | true =>
    rw [if_pos rfl]
    rw [if_pos rfl] at hd
    obtain ⟨w2, e5, hd⟩ := bind1_some hd
    refine ec ρ w2 e5 σ F3 H3 (R.grow g13) _ fun u4 F4 H4 g4 d4 => ?_
    exact hr' w u4 y w2 d F4 H4 hd ((d2.mono g3.f).mono g4.f) d4 g4.sub Q fun v F5 H5 g5 d5 => q v F5 H5 (g13.trans (g4.trans g5)) d5
  | false =>
    rw [if_neg Bool.false_ne_true]
    rw [if_neg Bool.false_ne_true] at hd
    cases hd
    exact q _ F3 H3 g13 (.bl false)
theorem td_chain {op op' : CmpOp} {r r' : R2} {h h' : PyData → PyData → Option PyData} (ho : OpR X (compareOp op) r) (ho' : OpR X (compareOp op') r') (hr : Bin2 r h) (hr' : Bin2 r' h') (ha : ED X a f) (hb : ED X b g) (hc : ED X c k)
    (hm : lastMarks [op, op'] [b, c] = false := by with_unfolding_all rfl) : TD X (.Compare a [op, op'] [b, c] pos) (tOf (eChain h h' f g k)) := by
  obtain ⟨ta, pa, ea⟩ := ha.ex
  obtain ⟨tb, pb, eb⟩ := hb.ex
  obtain ⟨tc, pc, ec⟩ := hc.ex
  refine ⟨⟨_, pt_chain ho ho' pa pb pc hm, fun ρ m hz σ F H R Q q => ?_⟩⟩
  obtain ⟨d, hd, hz⟩ := bind1_some hz
  obtain ⟨x, e1, hd⟩ := bind1_some hd
  obtain ⟨y, e2, hd⟩ := bind1_some hd
  obtain ⟨z, e3, hd⟩ := bind1_some hd
  obtain ⟨n, e4, hd⟩ := bind1_some hd
  refine ea ρ x e1 σ F H R _ fun u F1 H1 g1 d1 => ?_
  refine eb ρ y e2 σ F1 H1 (R.grow g1) _ fun w F2 H2 g2 d2 => ?_
  refine hr u w x y z F2 H2 e3 (d1.mono g2.f) d2 g2.sub _ fun v F3 H3 g3 d3 => ?_
  rw [dB_some e4] at d3
  refine ⟨n, d3.isBl, ?_⟩
  have g13 := g1.trans (g2.trans g3)
  cases n with
  | true =>
    rw [if_pos rfl]
    rw [if_pos rfl] at hd
    obtain ⟨w2, e5, hd⟩ := bind1_some hd
    refine ec ρ w2 e5 σ F3 H3 (R.grow g13) _ fun u4 F4 H4 g4 d4 => ?_
    refine hr' w u4 y w2 d F4 H4 hd ((d2.mono g3.f).mono g4.f) d4 g4.sub _ fun v F5 H5 g5 d5 => ?_
    rw [dB_some hz] at d5
    exact ⟨m, d5.isBl, q F5 H5 (g13.trans (g4.trans g5))⟩
  | false =>
    rw [if_neg Bool.false_ne_true]
    rw [if_neg Bool.false_ne_true] at hd
    cases hd
    cases hz
    exact ⟨false, rfl, q F3 H3 g13⟩
variable {p1 p2 : TM}
theorem td_not (ha : TD X a p1) : TD X (.UnaryOp .Not a pos) (tNotM p1) := by
  obtain ⟨ta, pa, ea⟩ := ha.ex
  refine ⟨⟨_, pt_not pa, fun ρ k hd σ F H R Q q => ?_⟩⟩
  obtain ⟨x, h1, h2⟩ := bind1_some hd
  cases h2
  exact ea ρ x h1 σ F H R _ q
variable {rest : List Expr}
theorem wd_and1 (ha : TD X a p1) : WD X (.BoolOp .And [a] pos) p1 := by
  obtain ⟨ta, pa, ea⟩ := ha.ex
  exact ⟨⟨_, pw_and1 pa, ea⟩⟩
theorem wd_or1 (ha : TD X a p1) : WD X (.BoolOp .Or [a] pos) p1 := by
  obtain ⟨ta, pa, ea⟩ := ha.ex
  exact ⟨⟨_, pw_or1 pa, ea⟩⟩
theorem wd_and (ha : TD X a p1) (hb : WD X (.BoolOp .And (b :: rest) pos) p2) : WD X (.BoolOp .And (a :: b :: rest) pos) (tAndM p1 p2) := by
  obtain ⟨ta, pa, ea⟩ := ha.ex
  obtain ⟨tb, pb, eb⟩ := hb.ex
  refine ⟨⟨_, pw_and pa pb, fun ρ k hd σ F H R Q q => ?_⟩⟩
  obtain ⟨x, h1, h2⟩ := bind1_some hd
  refine ea ρ x h1 σ F H R _ fun F1 H1 g1 => ?_
  cases x with
  | true => exact eb ρ k h2 σ F1 H1 (R.grow g1) Q fun F2 H2 g2 => q F2 H2 (g1.trans g2)
  | false =>
    cases h2
    exact q F1 H1 g1
theorem wd_or (ha : TD X a p1) (hb : WD X (.BoolOp .Or (b :: rest) pos) p2) : WD X (.BoolOp .Or (a :: b :: rest) pos) (tOrM p1 p2) := by
  obtain ⟨ta, pa, ea⟩ := ha.ex
  obtain ⟨tb, pb, eb⟩ := hb.ex
  refine ⟨⟨_, pw_or pa pb, fun ρ k hd σ F H R Q q => ?_⟩⟩
  obtain ⟨x, h1, h2⟩ := bind1_some hd
  refine ea ρ x h1 σ F H R _ fun F1 H1 g1 => ?_
  cases x with
  | true =>
    cases h2
    exact q F1 H1 g1
  | false => exact eb ρ k h2 σ F1 H1 (R.grow g1) Q fun F2 H2 g2 => q F2 H2 (g1.trans g2)
theorem WD.td {e : Expr} (h : WD X e p1) : TD X e p1 := by
  obtain ⟨t, p, e⟩ := h.ex
  exact ⟨⟨t, p.pt, e⟩⟩
theorem ed_one {op : BoolOp} (ha : ED X a f) : ED X (.BoolOp op [a] pos) f := by
  obtain ⟨t, p, e⟩ := ha.ex
  exact ⟨⟨t, pe_one p, e⟩⟩
theorem ed_and (ha : ED X a f) (hb : ED X (.BoolOp .And (b :: rest) pos) g) : ED X (.BoolOp .And (a :: b :: rest) pos) (eAnd f g) := by
  obtain ⟨ta, pa, ea⟩ := ha.ex
  obtain ⟨tb, pb, eb⟩ := hb.ex
  refine ⟨⟨_, pe_and pa pb, fun ρ d hd σ F H R Q q => ?_⟩⟩
  obtain ⟨x, h1, hd⟩ := bind1_some hd
  obtain ⟨n, h2, hd⟩ := bind1_some hd
  refine ea ρ x h1 σ F H R _ fun u F1 H1 g1 d1 => ?_
  rw [dB_some h2] at d1
  refine ⟨n, d1.isBl, ?_⟩
  cases n with
  | true => exact eb ρ d hd σ F1 H1 (R.grow g1) Q fun v F2 H2 g2 d2 => q v F2 H2 (g1.trans g2) d2
  | false =>
    cases hd
    exact q _ F1 H1 g1 (.bl false)
theorem ed_or (ha : ED X a f) (hb : ED X (.BoolOp .Or (b :: rest) pos) g) : ED X (.BoolOp .Or (a :: b :: rest) pos) (eOr f g) := by
  obtain ⟨ta, pa, ea⟩ := ha.ex
  obtain ⟨tb, pb, eb⟩ := hb.ex
  refine ⟨⟨_, pe_or pa pb, fun ρ d hd σ F H R Q q => ?_⟩⟩
  obtain ⟨x, h1, hd⟩ := bind1_some hd
  obtain ⟨n, h2, hd⟩ := bind1_some hd
  refine ea ρ x h1 σ F H R _ fun u F1 H1 g1 d1 => ?_
  rw [dB_some h2] at d1
  refine ⟨n, d1.isBl, ?_⟩
  cases n with
  | true =>
    cases hd
    exact q _ F1 H1 g1 (.bl true)
  | false => exact eb ρ d hd σ F1 H1 (R.grow g1) Q fun v F2 H2 g2 d2 => q v F2 H2 (g1.trans g2) d2
theorem ed_not (ha : ED X a f) : ED X (.UnaryOp .Not a pos) (eNot f) := by
  obtain ⟨ta, pa, ea⟩ := ha.ex
  refine ⟨⟨_, pe_not pa, fun ρ d hd σ F H R Q q => ?_⟩⟩
  obtain ⟨x, h1, hd⟩ := bind1_some hd
  obtain ⟨n, h2, hd⟩ := bind1_some hd
  cases hd
  refine ea ρ x h1 σ F H R _ fun u F1 H1 g1 d1 => ?_
  rw [dB_some h2] at d1
  exact ⟨n, d1.isBl, q _ F1 H1 g1 (.bl _)⟩
theorem ed_if (hc : TD X c p1) (ha : ED X a f) (hb : ED X b g) : ED X (.IfExp c a b pos) (eIf p1 f g) := by
  obtain ⟨tc, pc, ec⟩ := hc.ex
  obtain ⟨ta, pa, ea⟩ := ha.ex
  obtain ⟨tb, pb, eb⟩ := hb.ex
  refine ⟨⟨_, pe_ifExp pc pa pb, fun ρ d hd σ F H R Q q => ?_⟩⟩
  obtain ⟨x, h1, hd⟩ := bind1_some hd
  refine ec ρ x h1 σ F H R _ fun F1 H1 g1 => ?_
  cases x with
  | true => exact ea ρ d hd σ F1 H1 (R.grow g1) Q fun v F2 H2 g2 d2 => q v F2 H2 (g1.trans g2) d2
  | false => exact eb ρ d hd σ F1 H1 (R.grow g1) Q fun v F2 H2 g2 d2 => q v F2 H2 (g1.trans g2) d2
variable {es : List Expr} {m : AM}
theorem ad_nil : AD X [] aNil := by
  refine ⟨⟨tNil, pa_nil, fun ρ ds hd σ F H R Q q => ?_⟩⟩
  cases hd
  exact q [] F H (Grow.refl R.sub) .nil
theorem ad_cons (ha : ED X a f) (hr : AD X es m) (hs : starEach (a :: es) X.env = (false, eval a X.env) :: starEach es X.env := by rfl) : AD X (a :: es) (aCons f m) := by
  obtain ⟨ta, pa, ea⟩ := ha.ex
  obtain ⟨tr, pr, er⟩ := hr.ex
  refine ⟨⟨_, pa_cons pa pr hs, fun ρ ds hd σ F H R Q q => ?_⟩⟩
  obtain ⟨x, h1, hd⟩ := bind1_some hd
  obtain ⟨xs, h2, hd⟩ := bind1_some hd
  cases hd
  refine ea ρ x h1 σ F H R _ fun u F1 H1 g1 d1 => ?_
  exact er ρ xs h2 σ F1 H1 (R.grow g1) _ fun us F2 H2 g2 d2 => q (u :: us) F2 H2 (g1.trans g2) (.cons (d1.mono g2.f) d2)
theorem ed_tup {n : Nat} (h : AD X es m) : ED X (.Tuple es n pos) (eTup m) := by
  obtain ⟨t, p, e⟩ := h.ex
  refine ⟨⟨_, pe_tup p, fun ρ d hd σ F H R Q q => ?_⟩⟩
  obtain ⟨ds, h1, hd⟩ := bind1_some hd
  split at hd
  · rename_i hl
    cases hd
    refine e ρ ds h1 σ F H R _ fun vs F1 H1 g1 d1 => ⟨by rw [d1.length]; exact small hl, fun p hp => ?_⟩
    have g2 := Grow.new (o := .tup vs) g1.sub hp
    exact q (.ref p) _ _ (g1.trans g2) (.tup upd_same (d1.mono g2.f))
  · cases hd
theorem ed_lst (h : AD X es m) : ED X (.List es pos) (eLst m) := by
  obtain ⟨t, p, e⟩ := h.ex
  refine ⟨⟨_, pe_lst p, fun ρ d hd σ F H R Q q => ?_⟩⟩
  obtain ⟨ds, h1, hd⟩ := bind1_some hd
  split at hd
  · rename_i hl
    cases hd
    refine e ρ ds h1 σ F H R _ fun vs F1 H1 g1 d1 => ⟨by rw [d1.length]; exact small hl, fun p hp => ?_⟩
    have g2 := Grow.new (o := .lst vs) g1.sub hp
    exact q (.ref p) _ _ (g1.trans g2) (.lst upd_same (d1.mono g2.f))
  · cases hd
/-- a built-in that is called by its name -/
theorem ed_callB {x : Str} {id : String} {p : Pos} {r : List V → Hp → VK → Prop} {h : List PyData → Option PyData} {e : Expr} (hc : CallR X (.builtin id) r) (hr : BinN r h) (hg : Gl X x) (hm : X.mg x = none) (hv : bootBuiltins x = some (.builtin id)) (ha : AD X (e :: es) m)
    (hn : x ≠ "__name__" := by decide) (hdb : (x == ("__debug__" : Str)) = false := by decide) (he : starEach (e :: es) X.env = (false, eval e X.env) :: starEach es X.env := by rfl) (hpl : (backTo pos (starEach es X.env)).any (·.1) = false := by rfl) :
    ED X (.Call (.Name x p) (e :: es) [] pos) (eCB h m) := by
  obtain ⟨t, pt, et⟩ := ha.ex
  refine ⟨⟨_, pe_callB hc hg hm hv pt hn hdb he hpl, fun ρ d hd σ F H R Q q => ?_⟩⟩
  obtain ⟨ds, h1, hd⟩ := bind1_some hd
  refine et ρ ds h1 σ F H R _ fun vs F1 H1 g1 d1 => ?_
  exact hr vs ds d F1 H1 hd d1 g1.sub Q fun v F2 H2 g2 d2 => q v F2 H2 (g1.trans g2) d2
theorem ed_callTy {x : Str} {T : String} {p : Pos} {r : List V → Hp → VK → Prop} {h : List PyData → Option PyData} {e : Expr} (hc : CallR X (.type T) r) (hr : BinN r h) (hg : Gl X x) (hm : X.mg x = none) (hv : bootBuiltins x = some (.type T)) (ha : AD X (e :: es) m)
    (hn : x ≠ "__name__" := by decide) (hdb : (x == ("__debug__" : Str)) = false := by decide) (he : starEach (e :: es) X.env = (false, eval e X.env) :: starEach es X.env := by rfl) (hpl : (backTo pos (starEach es X.env)).any (·.1) = false := by rfl) :
    ED X (.Call (.Name x p) (e :: es) [] pos) (eCB h m) := by
  obtain ⟨t, pt, et⟩ := ha.ex
  refine ⟨⟨_, pe_callTy hc hg hm hv pt hn hdb he hpl, fun ρ d hd σ F H R Q q => ?_⟩⟩
  obtain ⟨ds, h1, hd⟩ := bind1_some hd
  refine et ρ ds h1 σ F H R _ fun vs F1 H1 g1 d1 => ?_
  exact hr vs ds d F1 H1 hd d1 g1.sub Q fun v F2 H2 g2 d2 => q v F2 H2 (g1.trans g2) d2
end
end K6

end
-- text Fw3
section
set_option Elab.async false
set_option linter.all false
set_option autoImplicit false
set_option maxRecDepth 100000
set_option maxHeartbeats 4000000
/-! Part 3 of the frame: operators, subscripts and built-ins on data. -/
namespace K6
open PySem PySem.Spec PyProof.Rows L2

/-! ### operators -/
def dAdd : PyData → PyData → Option PyData
  | .int i, .int j => some (.int (i + j))
  | .tuple xs, .tuple ys => if xs.length + ys.length ≤ 1000 then some (.tuple (xs ++ ys)) else none
  | .list xs, .list ys => if xs.length + ys.length ≤ 1000 then some (.list (xs ++ ys)) else none
  | _, _ => none
def dSub : PyData → PyData → Option PyData
  | .int i, .int j => some (.int (i - j))
  | _, _ => none
def dMul : PyData → PyData → Option PyData
  | .int i, .int j => if (-1000 ≤ i ∧ i ≤ 1000) ∨ (-1000 ≤ j ∧ j ≤ 1000) then some (.int (i * j)) else none
  | .list xs, .int k => if 0 ≤ k ∧ k ≤ 1000 ∧ xs.length ≤ 1000 then some (.list (List.replicate k.toNat xs).flatten) else none
  | .tuple xs, .int k => if xs ≠ [] ∧ 2 ≤ k ∧ k ≤ 1000 ∧ xs.length ≤ 1000 then some (.tuple (List.replicate k.toNat xs).flatten) else none
  | _, _ => none
def dMod : PyData → PyData → Option PyData
  | .int i, .int j => if 0 < j then some (.int (i % j)) else none
  | _, _ => none
def dDiv : PyData → PyData → Option PyData
  | .int i, .int j => if 0 < j ∧ j < 1073741824 then some (.int (i / j)) else none
  | _, _ => none
def dNeg : PyData → Option PyData
  | .int i => some (.int (-i))
  | _ => none
def dCmpI (p : Int → Int → Bool) : PyData → PyData → Option PyData
  | .int i, .int j => some (.bool (p i j))
  | _, _ => none
def dLt := dCmpI fun i j => decide (i < j)
def dLe := dCmpI fun i j => decide (i ≤ j)
def dGt := dCmpI fun i j => decide (j < i)
def dGe := dCmpI fun i j => decide (j ≤ i)
def dEq (x y : PyData) : Option PyData := if SeqAt.shaped x = true ∧ SeqAt.shaped y = true then some (.bool (PyData.eqv x y)) else none
def dNe (x y : PyData) : Option PyData := if SeqAt.shaped x = true ∧ SeqAt.shaped y = true then some (.bool (!PyData.eqv x y)) else none
def isNone : PyData → Bool
  | .none => true
  | _ => false
def dIsN (x y : PyData) : Option PyData := if isNone y = true then some (.bool (isNone x)) else none
def dNotN (x y : PyData) : Option PyData := if isNone y = true then some (.bool (!isNone x)) else none
def dIsB : PyData → PyData → Option PyData
  | .bool a, .bool b => some (.bool (decide (a = b)))
  | _, _ => none
def dNotIn : PyData → PyData → Option PyData
  | x, .list ds => if SeqAt.shaped x = true ∧ SeqAt.shaped (.list ds) = true then some (.bool (!ds.any fun z => PyData.eqv z x)) else none
  | _, _ => none
section
variable {X : Cx}
theorem rI_data {F : Hp} {u : V} {i : Int} (h : Dv F u (.int i)) : u = .int i := by
  cases h
  rfl
theorem bin_I0 {g : Int → Int → V} {p : Int → Int → PyData} (hg : ∀ i j F, Dv F (g i j) (p i j)) {h : PyData → PyData → Option PyData} (hh : ∀ x y d, h x y = some d → ∃ i j, x = .int i ∧ y = .int j ∧ d = p i j) : Bin2 (rI0 g) h := by
  intro u w x y d F H e d1 d2 s Q q
  obtain ⟨i, j, rfl, rfl, rfl⟩ := hh x y d e
  exact ⟨i, j, rI_data d1, rI_data d2, q _ F H (Grow.refl s) (hg i j F)⟩
theorem dCmpI_some {p : Int → Int → Bool} {x y d : PyData} (h : dCmpI p x y = some d) : ∃ i j, x = .int i ∧ y = .int j ∧ d = .bool (p i j) := by
  unfold dCmpI at h
  split at h
  · cases h
    exact ⟨_, _, rfl, rfl, rfl⟩
  · cases h
theorem b_sub : Bin2 (rI0 fun i j => .int (i - j)) dSub := bin_I0 (fun i j F => .int _) fun x y d h => by
  unfold dSub at h
  split at h
  · cases h
    exact ⟨_, _, rfl, rfl, rfl⟩
  · cases h
theorem b_lt : Bin2 (rI0 fun i j => .bl (decide (i < j))) dLt := bin_I0 (fun i j F => .bl _) fun _ _ _ h => dCmpI_some h
theorem b_le : Bin2 (rI0 fun i j => .bl (decide (i ≤ j))) dLe := bin_I0 (fun i j F => .bl _) fun _ _ _ h => dCmpI_some h
theorem b_gt : Bin2 (rI0 fun i j => .bl (decide (j < i))) dGt := bin_I0 (fun i j F => .bl _) fun _ _ _ h => dCmpI_some h
theorem b_ge : Bin2 (rI0 fun i j => .bl (decide (j ≤ i))) dGe := bin_I0 (fun i j F => .bl _) fun _ _ _ h => dCmpI_some h
theorem b_mod : Bin2 (rI (fun _ j => 0 < j) fun i j => .int (i % j)) dMod := by
  intro u w x y d F H e d1 d2 s Q q
  unfold dMod at e
  split at e
  · split at e
    · rename_i i j hc
      cases e
      exact ⟨i, j, rI_data d1, rI_data d2, hc, q _ F H (Grow.refl s) (.int _)⟩
    · cases e
  · cases e
theorem b_div : Bin2 (rI CDiv fun i j => .int (i / j)) dDiv := by
  intro u w x y d F H e d1 d2 s Q q
  unfold dDiv at e
  split at e
  · split at e
    · rename_i i j hc
      cases e
      exact ⟨i, j, rI_data d1, rI_data d2, hc, q _ F H (Grow.refl s) (.int _)⟩
    · cases e
  · cases e
theorem u_neg : Un1 (rU fun i => .int (-i)) dNeg := by
  intro u x d F H e d1 s Q q
  unfold dNeg at e
  split at e
  · cases e
    exact ⟨_, rI_data d1, q _ F H (Grow.refl s) (.int _)⟩
  · cases e
/-- + of ints, of tuples, of lists -/
theorem o_add : OpR X (binaryOp .Add) (fun x y H Q => (rI0 fun i j => .int (i + j)) x y H Q ∨ (rCatA X.K x y H Q ∨ rCat x y H Q)) := op_add.or (op_catA.or op_cat)
theorem b_add {K : PySem.W.Frag} : Bin2 (fun x y H Q => (rI0 fun i j => .int (i + j)) x y H Q ∨ (rCatA K x y H Q ∨ rCat x y H Q)) dAdd := by
  intro u w x y d F H e d1 d2 s Q q
  unfold dAdd at e
  split at e
  · cases e
    exact .inl ⟨_, _, rI_data d1, rI_data d2, q _ F H (Grow.refl s) (.int _)⟩
  · split at e
    · rename_i xs ys hl
      cases e
      cases d1 with
      | tup h1 r1 =>
        cases d2 with
        | tup h2 r2 =>
          rename_i a vs b ws
          refine .inr (.inl ⟨a, b, vs, ws, rfl, rfl, .inl (.inl (s _ _ h1)), .inl (.inl (s _ _ h2)), by rw [r1.length, r2.length]; exact small hl, fun z => ?_, fun z1 z2 => ?_, fun _ _ p hp => ?_⟩)
          · subst z
            cases r1
            exact q _ F H (Grow.refl s) (.tup h2 r2)
          · subst z2
            cases r2
            rw [List.append_nil] at q
            exact q _ F H (Grow.refl s) (.tup h1 r1)
          · have g := Grow.new (o := .tup (vs ++ ws)) s hp
            exact q _ _ _ g (.tup upd_same ((r1.append r2).mono g.f))
    · cases e
  · split at e
    · rename_i xs ys hl
      cases e
      cases d1 with
      | lst h1 r1 =>
        cases d2 with
        | lst h2 r2 =>
          rename_i a vs b ws
          refine .inr (.inr ⟨a, b, vs, ws, rfl, rfl, s _ _ h1, s _ _ h2, by rw [r1.length, r2.length]; exact small hl, fun p hp => ?_⟩)
          have g := Grow.new (o := .lst (vs ++ ws)) s hp
          exact q _ _ _ g (.lst upd_same ((r1.append r2).mono g.f))
    · cases e
  · cases e
/-- * of ints, of a list or a tuple and an int -/
theorem o_mul : OpR X (binaryOp .Mult) (fun x y H Q => (rI CMul fun i j => .int (i * j)) x y H Q ∨ (rRep x y H Q ∨ rRepT X.K x y H Q)) := op_mul.or (op_rep.or op_repT)
theorem b_mul {K : PySem.W.Frag} : Bin2 (fun x y H Q => (rI CMul fun i j => .int (i * j)) x y H Q ∨ (rRep x y H Q ∨ rRepT K x y H Q)) dMul := by
  intro u w x y d F H e d1 d2 s Q q
  unfold dMul at e
  split at e
  · split at e
    · rename_i i j hc
      cases e
      refine .inl ⟨i, j, rI_data d1, rI_data d2, ?_, q _ F H (Grow.refl s) (.int _)⟩
      rcases hc with hc | hc
      · exact .inl (by omega)
      · exact .inr (by omega)
    · cases e
  · split at e
    · rename_i xs k hc
      cases e
      cases d1 with
      | lst h1 r1 =>
        rename_i a vs
        refine .inr (.inl ⟨a, k, vs, rfl, rI_data d2, s _ _ h1, by omega, by omega, ?_, fun p hp => ?_⟩)
        · rw [r1.length, sizeLine_eq]
          have a1 : xs.length * k.toNat ≤ 1000 * 1000 := Nat.mul_le_mul (by omega) (by omega)
          omega
        · have g := Grow.new (o := .lst (List.replicate k.toNat vs).flatten) s hp
          exact q _ _ _ g (.lst upd_same ((r1.rep _).mono g.f))
    · cases e
  · split at e
    · rename_i xs k hc
      cases e
      cases d1 with
      | tup h1 r1 =>
        rename_i a vs
        refine .inr (.inr ⟨a, k, vs, rfl, rI_data d2, .inl (.inl (s _ _ h1)), fun z => ?_, by omega, by omega, by rw [r1.length]; omega, fun p hp => ?_⟩)
        · subst z
          cases r1
          exact hc.1 rfl
        · have g := Grow.new (o := .tup (List.replicate k.toNat vs).flatten) s hp
          exact q _ _ _ g (.tup upd_same ((r1.rep _).mono g.f))
    · cases e
  · cases e
theorem b_eq {K : PySem.W.Frag} : Bin2 (rEqD K) dEq := by
  intro u w x y d F H e d1 d2 s Q q
  unfold dEq at e
  split at e
  · rename_i hc
    cases e
    exact ⟨x, y, d1.dp s, d2.dp s, hc.1, hc.2, q _ F H (Grow.refl s) (.bl _)⟩
  · cases e
theorem b_ne {K : PySem.W.Frag} : Bin2 (rNeD K) dNe := by
  intro u w x y d F H e d1 d2 s Q q
  unfold dNe at e
  split at e
  · rename_i hc
    cases e
    exact ⟨x, y, d1.dp s, d2.dp s, hc.1, hc.2, q _ F H (Grow.refl s) (.bl _)⟩
  · cases e
theorem none_iff {F : Hp} {u : V} {x : PyData} (h : Dv F u x) : decide (u = .non) = isNone x := by
  cases h <;> rfl
theorem b_isN : Bin2 (fun x y H Q => y = .non ∧ Q (.bl (decide (x = .non))) H) dIsN := by
  intro u w x y d F H e d1 d2 s Q q
  unfold dIsN at e
  split at e
  · rename_i hc
    cases e
    rw [none_iff d1]
    refine ⟨?_, q _ F H (Grow.refl s) (.bl _)⟩
    rw [← none_iff d2] at hc
    exact of_decide_eq_true hc
  · cases e
theorem b_notN : Bin2 (fun x y H Q => y = .non ∧ Q (.bl (!decide (x = .non))) H) dNotN := by
  intro u w x y d F H e d1 d2 s Q q
  unfold dNotN at e
  split at e
  · rename_i hc
    cases e
    rw [none_iff d1]
    refine ⟨?_, q _ F H (Grow.refl s) (.bl _)⟩
    rw [← none_iff d2] at hc
    exact of_decide_eq_true hc
  · cases e
theorem b_isB : Bin2 rIsB dIsB := by
  intro u w x y d F H e d1 d2 s Q q
  unfold dIsB at e
  split at e
  · cases e
    cases d1
    cases d2
    exact ⟨_, _, rfl, rfl, q _ F H (Grow.refl s) (.bl _)⟩
  · cases e
theorem b_notIn {K : PySem.W.Frag} : Bin2 (rNotInD K) dNotIn := by
  intro u w x y d F H e d1 d2 s Q q
  unfold dNotIn at e
  split at e
  · split at e
    · rename_i ds hc
      cases e
      exact ⟨x, ds, d1.dp s, d2.dp s, hc.1, hc.2, q _ F H (Grow.refl s) (.bl _)⟩
    · cases e
  · cases e
end

/-! ### subscripts -/
def dAt {α : Type} (xs : List α) (i : Int) : Option α := if 0 ≤ i then xs[i.toNat]? else none
def dIx : PyData → PyData → Option PyData
  | .list xs, .int i => dAt xs i
  | .tuple xs, .int i => dAt xs i
  | _, _ => none
/-- x[:k] -/
def dCut : PyData → PyData → Option PyData
  | .tuple xs, .int k => if 0 ≤ k then some (.tuple (xs.take k.toNat)) else none
  | .list xs, .int k => if 0 ≤ k then some (.list (xs.take k.toNat)) else none
  | _, _ => none
theorem dAt_atI {F : Hp} {vs : List V} {ds : List PyData} {i : Int} {d : PyData} (r : Dvs F vs ds) (h : dAt ds i = some d) : ∃ v, atI vs i = some v ∧ Dv F v d := by
  unfold dAt at h
  split at h
  · rename_i h0
    obtain ⟨v, h1, h2⟩ := r.get h
    refine ⟨v, ?_, h2⟩
    rw [show i = ((i.toNat : Nat) : Int) by omega]
    exact atI_nat h1
  · cases h
theorem cutV_take {vs : List V} {k : Int} (h : 0 ≤ k) : cutV vs none (some k) = vs.take k.toNat := by
  unfold cutV
  rw [HT.sIx_none, show k = ((k.toNat : Nat) : Int) by omega, HT.sIx_nat]
  show List.take (min k.toNat vs.length - 0) (List.drop 0 vs) = _
  rw [List.drop_zero, Nat.sub_zero, Int.toNat_natCast]
  rcases Nat.le_total k.toNat vs.length with q | q
  · rw [Nat.min_eq_left q]
  · rw [Nat.min_eq_right q, List.take_length, List.take_of_length_le q]
section
variable {X : Cx} {a b : Expr} {f g : EM} {pos : Pos}
theorem ix_both : IxR X (fun x y H Q => rIxL X.K x y H Q ∨ rIxT X.K x y H Q) := ix_list.or ix_tup
theorem b_ix {K : PySem.W.Frag} : Bin2 (fun x y H Q => rIxL K x y H Q ∨ rIxT K x y H Q) dIx := by
  intro u w x y d F H e d1 d2 s Q q
  unfold dIx at e
  split at e
  · cases d1 with
    | lst h1 r1 =>
      obtain ⟨v, h2, h3⟩ := dAt_atI r1 e
      exact .inl ⟨_, _, _, v, rfl, rI_data d2, .inl (.inl (s _ _ h1)), h2, q v F H (Grow.refl s) h3⟩
  · cases d1 with
    | tup h1 r1 =>
      obtain ⟨v, h2, h3⟩ := dAt_atI r1 e
      exact .inr ⟨_, _, _, v, rfl, rI_data d2, .inl (.inl (s _ _ h1)), h2, q v F H (Grow.refl s) h3⟩
  · cases e
theorem ed_ix (ha : ED X a f) (hb : ED X b g) (hs : PlainIx b := by exact fun _ _ => rfl) : ED X (.Subscript a b pos) (eBin dIx f g) := by
  obtain ⟨ta, pa, ea⟩ := ha.ex
  obtain ⟨tb, pb, eb⟩ := hb.ex
  exact ⟨⟨_, pe_ix ix_both pa pb hs, two b_ix ea eb⟩⟩
theorem ed_cut {p2 : Pos} (ha : ED X a f) (hb : ED X b g) : ED X (.Subscript a (.Slice none (some b) none p2) pos) (eBin dCut f g) := by
  obtain ⟨ta, pa, ea⟩ := ha.ex
  obtain ⟨tb, pb, eb⟩ := hb.ex
  refine ⟨⟨_, pe_slice (r := fun x lo hi H Q => rSlA X.K x lo hi H Q ∨ rSlL X.K x lo hi H Q) (sl_tupA.or sl_list) pa po_none (po_some pb), fun ρ d hd σ F H R Q q => ?_⟩⟩
  obtain ⟨x, h1, hd1⟩ := bind1_some hd
  obtain ⟨y, h2, hd2⟩ := bind1_some hd1
  clear hd hd1
  refine ea ρ x h1 σ F H R _ fun u F1 H1 g1 d1 => ?_
  refine eb ρ y h2 σ F1 H1 (R.grow g1) _ fun w F2 H2 g2 d2 => ?_
  have g12 := g1.trans g2
  replace d1 := d1.mono g2.f
  have s := g2.sub
  unfold dCut at hd2
  split at hd2
  · split at hd2
    · rename_i xs k hk
      cases hd2
      refine ⟨k, rI_data d2, ?_⟩
      cases d1 with
      | tup q1 r1 =>
        rename_i ad vs
        refine .inl ⟨_, _, rfl, .inl (.inl (s _ _ q1)), fun z => ?_, fun z p hp => ?_⟩
        · have hl : vs.length ≤ k.toNat := by
            have z2 := z.2
            rw [show k = ((k.toNat : Nat) : Int) by omega, HT.sIx_nat] at z2
            omega
          rw [List.take_of_length_le (by rw [← r1.length]; exact hl)] at q
          exact q _ F2 H2 g12 (.tup q1 r1)
        · have g3 := Grow.new (o := .tup (cutV vs none (some k))) s hp
          refine q _ _ _ (g12.trans g3) (.tup upd_same ?_)
          have e : Dvs F2 (cutV vs none (some k)) (xs.take k.toNat) := by
            rw [cutV_take hk]
            exact r1.take _
          exact e.mono g3.f
    · cases hd2
  · split at hd2
    · rename_i xs k hk
      cases hd2
      refine ⟨k, rI_data d2, ?_⟩
      cases d1 with
      | lst q1 r1 =>
        rename_i ad vs
        refine .inr ⟨_, _, rfl, .inl (.inl (s _ _ q1)), fun p hp => ?_⟩
        have g3 := Grow.new (o := .lst (cutV vs none (some k))) s hp
        refine q _ _ _ (g12.trans g3) (.lst upd_same ?_)
        have e : Dvs F2 (cutV vs none (some k)) (xs.take k.toNat) := by
          rw [cutV_take hk]
          exact r1.take _
        exact e.mono g3.f
    · cases hd2
  · cases hd2
end
end K6

end
-- text Fw4
section
set_option Elab.async false
set_option linter.all false
set_option autoImplicit false
set_option maxRecDepth 100000
set_option maxHeartbeats 4000000
/-! Part 4 of the frame: built-ins on data. -/
namespace K6
open PySem PySem.Spec PyProof.Rows L2

def intsOf : List PyData → Option (List Int)
  | [] => some []
  | .int i :: r => bind1 (intsOf r) fun ns => some (i :: ns)
  | _ :: _ => none
def boolsOf : List PyData → Option (List Bool)
  | [] => some []
  | .bool i :: r => bind1 (boolsOf r) fun ns => some (i :: ns)
  | _ :: _ => none
theorem intsOf_some : ∀ {ds : List PyData} {ns : List Int}, intsOf ds = some ns → ds = ns.map .int
  | [], ns, h => by
    cases h
    rfl
  | .int i :: r, ns, h => by
    obtain ⟨ms, h1, h2⟩ := bind1_some (show bind1 (intsOf r) (fun ns => some (i :: ns)) = some ns from h)
    cases h2
    rw [intsOf_some h1]
    rfl
  | .none :: r, ns, h => by cases h
  | .bool _ :: r, ns, h => by cases h
  | .str _ :: r, ns, h => by cases h
  | .list _ :: r, ns, h => by cases h
  | .tuple _ :: r, ns, h => by cases h
  | .dict _ :: r, ns, h => by cases h
theorem boolsOf_some : ∀ {ds : List PyData} {ns : List Bool}, boolsOf ds = some ns → ds = ns.map .bool
  | [], ns, h => by
    cases h
    rfl
  | .bool i :: r, ns, h => by
    obtain ⟨ms, h1, h2⟩ := bind1_some (show bind1 (boolsOf r) (fun ns => some (i :: ns)) = some ns from h)
    cases h2
    rw [boolsOf_some h1]
    rfl
  | .none :: r, ns, h => by cases h
  | .int _ :: r, ns, h => by cases h
  | .str _ :: r, ns, h => by cases h
  | .list _ :: r, ns, h => by cases h
  | .tuple _ :: r, ns, h => by cases h
  | .dict _ :: r, ns, h => by cases h
theorem intsOf_map : ∀ ns : List Int, intsOf (ns.map .int) = some ns
  | [] => rfl
  | i :: ns => by
    show bind1 (intsOf (ns.map .int)) _ = _
    rw [intsOf_map ns]
    rfl
theorem boolsOf_map : ∀ ns : List Bool, boolsOf (ns.map .bool) = some ns
  | [] => rfl
  | i :: ns => by
    show bind1 (boolsOf (ns.map .bool)) _ = _
    rw [boolsOf_map ns]
    rfl
def maxL (x : Int) (xs : List Int) : Int := xs.foldl (fun a y => if a < y then y else a) x
def minL (x : Int) (xs : List Int) : Int := xs.foldl (fun a y => if y < a then y else a) x
theorem maxL_ge : ∀ (xs : List Int) (x : Int), x ≤ maxL x xs ∧ ∀ y ∈ xs, y ≤ maxL x xs
  | [], x => ⟨Int.le_refl _, fun y h => by cases h⟩
  | z :: xs, x => by
    have ih := maxL_ge xs (if x < z then z else x)
    have e : maxL x (z :: xs) = maxL (if x < z then z else x) xs := rfl
    rw [e]
    have h0 : x ≤ (if x < z then z else x) ∧ z ≤ (if x < z then z else x) := by
      split <;> omega
    refine ⟨Int.le_trans h0.1 ih.1, fun y hy => ?_⟩
    rcases List.mem_cons.mp hy with q | q
    · rw [q]
      exact Int.le_trans h0.2 ih.1
    · exact ih.2 y q
theorem maxL_mem : ∀ (xs : List Int) (x : Int), maxL x xs ∈ x :: xs
  | [], x => List.mem_cons_self
  | z :: xs, x => by
    have ih := maxL_mem xs (if x < z then z else x)
    have e : maxL x (z :: xs) = maxL (if x < z then z else x) xs := rfl
    rw [e]
    rcases List.mem_cons.mp ih with q | q
    · rw [q]
      split
      · simp
      · simp
    · exact List.mem_cons_of_mem _ (List.mem_cons_of_mem _ q)
theorem maxL_is {x m : Int} {xs : List Int} (h1 : m ∈ x :: xs) (h2 : ∀ y, y ∈ x :: xs → y ≤ m) : m = maxL x xs := by
  have a := h2 _ (maxL_mem xs x)
  have b := maxL_ge xs x
  have c : m ≤ maxL x xs := by
    rcases List.mem_cons.mp h1 with q | q
    · rw [q]; exact b.1
    · exact b.2 m q
  omega
theorem minL_le : ∀ (xs : List Int) (x : Int), minL x xs ≤ x ∧ ∀ y ∈ xs, minL x xs ≤ y
  | [], x => ⟨Int.le_refl _, fun y h => by cases h⟩
  | z :: xs, x => by
    have ih := minL_le xs (if z < x then z else x)
    have e : minL x (z :: xs) = minL (if z < x then z else x) xs := rfl
    rw [e]
    have h0 : (if z < x then z else x) ≤ x ∧ (if z < x then z else x) ≤ z := by
      split <;> omega
    refine ⟨Int.le_trans ih.1 h0.1, fun y hy => ?_⟩
    rcases List.mem_cons.mp hy with q | q
    · rw [q]
      exact Int.le_trans ih.1 h0.2
    · exact ih.2 y q
theorem minL_mem : ∀ (xs : List Int) (x : Int), minL x xs ∈ x :: xs
  | [], x => List.mem_cons_self
  | z :: xs, x => by
    have ih := minL_mem xs (if z < x then z else x)
    have e : minL x (z :: xs) = minL (if z < x then z else x) xs := rfl
    rw [e]
    rcases List.mem_cons.mp ih with q | q
    · rw [q]
      split
      · simp
      · simp
    · exact List.mem_cons_of_mem _ (List.mem_cons_of_mem _ q)
theorem minL_is {x m : Int} {xs : List Int} (h1 : m ∈ x :: xs) (h2 : ∀ y, y ∈ x :: xs → m ≤ y) : m = minL x xs := by
  have a := h2 _ (minL_mem xs x)
  have b := minL_le xs x
  have c : minL x xs ≤ m := by
    rcases List.mem_cons.mp h1 with q | q
    · rw [q]; exact b.1
    · exact b.2 m q
  omega
def maxOf1 : List Int → Option PyData
  | [] => none
  | x :: xs => some (.int (maxL x xs))
def minOf1 : List Int → Option PyData
  | [] => none
  | x :: xs => some (.int (minL x xs))
def dMax : List PyData → Option PyData
  | [.list ds] => bind1 (intsOf ds) maxOf1
  | [.tuple ds] => bind1 (intsOf ds) maxOf1
  | [.int i, .int j] => some (.int (if j > i then j else i))
  | _ => none
def dMin : List PyData → Option PyData
  | [.list ds] => bind1 (intsOf ds) minOf1
  | [.tuple ds] => bind1 (intsOf ds) minOf1
  | [.int i, .int j] => some (.int (if j < i then j else i))
  | _ => none
def dSum : List PyData → Option PyData
  | [.list ds] => bind1 (intsOf ds) fun ns => some (.int ns.sum)
  | [.tuple ds] => bind1 (intsOf ds) fun ns => some (.int ns.sum)
  | _ => none
def dLen : List PyData → Option PyData
  | [.list ds] => some (.int ds.length)
  | [.tuple ds] => some (.int ds.length)
  | _ => none
def dAll : List PyData → Option PyData
  | [.list ds] => bind1 (boolsOf ds) fun bs => some (.bool (bs.all id))
  | _ => none
def dAny : List PyData → Option PyData
  | [.list ds] => bind1 (boolsOf ds) fun bs => some (.bool (bs.any id))
  | _ => none
def dAbs : List PyData → Option PyData
  | [.int i] => some (.int (if i < 0 then -i else i))
  | _ => none
def dInt : List PyData → Option PyData
  | [.int i] => some (.int i)
  | [.bool b] => some (.int (if b then 1 else 0))
  | _ => none
def dTupOf : List PyData → Option PyData
  | [.list ds] => some (.tuple ds)
  | [.tuple ds] => some (.tuple ds)
  | _ => none

/-! ### sum, max, min of a tuple -/
section
variable {X : Cx}
def rSumT (K : PySem.W.Frag) : List V → Hp → VK → Prop := fun vs H Q => ∃ (a : Addr) (ns : List Int), vs = [V.ref a] ∧ SqT K H a (ns.map V.int) ∧ Q (.int ns.sum) H
def rMaxT (K : PySem.W.Frag) : List V → Hp → VK → Prop := fun vs H Q => ∃ (a : Addr) (x : Int) (xs : List Int), vs = [V.ref a] ∧ SqT K H a ((x :: xs).map V.int) ∧ Q (.int (maxL x xs)) H
def rMinT (K : PySem.W.Frag) : List V → Hp → VK → Prop := fun vs H Q => ∃ (a : Addr) (x : Int) (xs : List Int), vs = [V.ref a] ∧ SqT K H a ((x :: xs).map V.int) ∧ Q (.int (minL x xs)) H
theorem sum_tup (hc : X.calm = true) : CallR X (.builtin "sum") (rSumT X.K) := by
  intro pins s σ H vs us Q I r h
  obtain ⟨a, ns, rfl, hs, q⟩ := h
  obtain ⟨its, rv, ht, _⟩ := I.tuple hs
  rw [Vals.ref1 r]
  obtain ⟨xs, e⟩ := rv.ints.allInts.items
  have hn : numsOf (intItems xs).toList = ns := by rw [← e]; exact rv.ints.numsOf
  rw [nums_intItems] at hn
  rw [e] at ht
  refine PySem.W.ktm_sumG (I.ok.hd hc) ht fun h' tk t' hk => ⟨.int ns.sum, H, I.kept hk, ⟨t', ?_⟩, q⟩
  rw [preSum_eq, List.take_of_length_le (by simp), hn]
theorem ints_hold {h : Heap} : ∀ {ns : List Int} {us : List Value}, Vals (ns.map V.int) us → PySem.W.HoldAll h us ns
  | [], _, .nil => ⟨[], .nil⟩
  | n :: ns, _, .cons r t => by
    obtain ⟨as, q⟩ := ints_hold (h := h) (ns := ns) t
    obtain ⟨t', rfl⟩ := r
    exact ⟨[] ++ as, .cons (.int n t') q⟩
theorem held_int {h : Heap} {v : Value} {i : Int} (q : PySem.W.Holds h v i) : ∃ t, v = .int i t := by
  obtain ⟨as, r⟩ := q
  cases r
  exact ⟨_, rfl⟩
theorem wmax (x : Int) (xs : List Int) : PySem.W.maxOf x xs = maxL x xs := by
  unfold PySem.W.maxOf maxL
  congr 1
  funext a y
  show (if decide (a < y) = true then y else a) = _
  by_cases e : a < y
  · rw [if_pos (decide_eq_true e), if_pos e]
  · rw [if_neg (by simpa using e), if_neg e]
theorem wmin (x : Int) (xs : List Int) : PySem.W.minOf x xs = minL x xs := by
  unfold PySem.W.minOf minL
  congr 1
  funext a y
  show (if decide (y < a) = true then y else a) = _
  by_cases e : y < a
  · rw [if_pos (decide_eq_true e), if_pos e]
  · rw [if_neg (by simpa using e), if_neg e]
theorem max_tup (hc : X.calm = true) (hu : X.A.units + 2 < cLine) : CallR X (.builtin "max") (rMaxT X.K) := by
  intro pins s σ H vs us Q I r h
  obtain ⟨a, x, xs, rfl, hs, q⟩ := h
  obtain ⟨its, rv, ht, _⟩ := I.tuple hs
  rw [Vals.ref1 r]
  refine PySem.W.max_tuple_datum (I.ok.hd hc) ht (ints_hold rv) (show X.A.units + 1 + 0 < cLine by omega) fun i v h' tk hi hv hk => ?_
  obtain ⟨t, rfl⟩ := held_int hv
  exact ⟨.int (maxL x xs), H, I.kept hk, ⟨t, by rw [wmax]⟩, q⟩
theorem min_tup (hc : X.calm = true) (hu : X.A.units + 2 < cLine) : CallR X (.builtin "min") (rMinT X.K) := by
  intro pins s σ H vs us Q I r h
  obtain ⟨a, x, xs, rfl, hs, q⟩ := h
  obtain ⟨its, rv, ht, _⟩ := I.tuple hs
  rw [Vals.ref1 r]
  refine PySem.W.min_tuple_datum (I.ok.hd hc) ht (ints_hold rv) (show X.A.units + 1 + 0 < cLine by omega) fun i v h' tk hi hv hk => ?_
  obtain ⟨t, rfl⟩ := held_int hv
  exact ⟨.int (minL x xs), H, I.kept hk, ⟨t, by rw [wmin]⟩, q⟩
end

/-! ### the rules' data -/
section
variable {K : PySem.W.Frag}
def rMax2 : List V → Hp → VK → Prop := fun xs H Q => ∃ i j, xs = [.int i, .int j] ∧ Q (.int (if j > i then j else i)) H
def rMin2 : List V → Hp → VK → Prop := fun xs H Q => ∃ i j, xs = [.int i, .int j] ∧ Q (.int (if j < i then j else i)) H
theorem n_len : BinN (fun xs H Q => ∃ p ys, xs = [.ref p] ∧ (SqL K H p ys ∨ SqT K H p ys) ∧ Q (.int ys.length) H) dLen := by
  intro us xs d F H e ds s Q q
  unfold dLen at e
  split at e
  · cases e
    cases ds with
    | cons h r =>
      cases r
      cases h with
      | lst h r => exact ⟨_, _, rfl, .inl (.inl (.inl (s _ _ h))), by rw [r.length]; exact q _ F H (Grow.refl s) (.int _)⟩
  · cases e
    cases ds with
    | cons h r =>
      cases r
      cases h with
      | tup h r => exact ⟨_, _, rfl, .inr (.inl (.inl (s _ _ h))), by rw [r.length]; exact q _ F H (Grow.refl s) (.int _)⟩
  · cases e
theorem n_all : BinN (rAll K) dAll := by
  intro us xs d F H e ds s Q q
  unfold dAll at e
  split at e
  · obtain ⟨bs, h1, h2⟩ := bind1_some e
    cases h2
    cases ds with
    | cons h r =>
      cases r
      cases h with
      | lst h r =>
        rw [boolsOf_some h1] at r
        have z := r.bls
        subst z
        exact ⟨_, bs, rfl, .inl (.inl (s _ _ h)), q _ F H (Grow.refl s) (.bl _)⟩
  · cases e
theorem n_any : BinN (rAny K) dAny := by
  intro us xs d F H e ds s Q q
  unfold dAny at e
  split at e
  · obtain ⟨bs, h1, h2⟩ := bind1_some e
    cases h2
    cases ds with
    | cons h r =>
      cases r
      cases h with
      | lst h r =>
        rw [boolsOf_some h1] at r
        have z := r.bls
        subst z
        exact ⟨_, bs, rfl, .inl (.inl (s _ _ h)), q _ F H (Grow.refl s) (.bl _)⟩
  · cases e
theorem n_sum : BinN (fun xs H Q => rSum K xs H Q ∨ rSumT K xs H Q) dSum := by
  intro us xs d F H e ds s Q q
  unfold dSum at e
  split at e
  · obtain ⟨ns, h1, h2⟩ := bind1_some e
    cases h2
    cases ds with
    | cons h r =>
      cases r
      cases h with
      | lst h r =>
        rw [intsOf_some h1] at r
        have z := r.ints
        subst z
        exact .inl ⟨_, ns, rfl, .inl (.inl (s _ _ h)), q _ F H (Grow.refl s) (.int _)⟩
  · obtain ⟨ns, h1, h2⟩ := bind1_some e
    cases h2
    cases ds with
    | cons h r =>
      cases r
      cases h with
      | tup h r =>
        rw [intsOf_some h1] at r
        have z := r.ints
        subst z
        exact .inr ⟨_, ns, rfl, .inl (.inl (s _ _ h)), q _ F H (Grow.refl s) (.int _)⟩
  · cases e
theorem n_max : BinN (fun xs H Q => rMax K xs H Q ∨ (rMaxT K xs H Q ∨ rMax2 xs H Q)) dMax := by
  intro us xs d F H e ds s Q q
  unfold dMax at e
  split at e
  · obtain ⟨ns, h1, h2⟩ := bind1_some e
    cases ns with
    | nil => cases h2
    | cons n ns =>
      cases h2
      cases ds with
      | cons h r =>
        cases r
        cases h with
        | lst h r =>
          rw [intsOf_some h1] at r
          have z := r.ints
          subst z
          refine .inl ⟨_, n :: ns, rfl, .inl (.inl (s _ _ h)), Nat.succ_pos _, fun m a1 a2 => ?_⟩
          rw [maxL_is a1 a2]
          exact q _ F H (Grow.refl s) (.int _)
  · obtain ⟨ns, h1, h2⟩ := bind1_some e
    cases ns with
    | nil => cases h2
    | cons n ns =>
      cases h2
      cases ds with
      | cons h r =>
        cases r
        cases h with
        | tup h r =>
          rw [intsOf_some h1] at r
          have z := r.ints
          subst z
          exact .inr (.inl ⟨_, n, ns, rfl, .inl (.inl (s _ _ h)), q _ F H (Grow.refl s) (.int _)⟩)
  · cases e
    cases ds with
    | cons h r =>
      cases r with
      | cons h2 r =>
        cases r
        cases h
        cases h2
        exact .inr (.inr ⟨_, _, rfl, q _ F H (Grow.refl s) (.int _)⟩)
  · cases e
theorem n_min : BinN (fun xs H Q => rMin K xs H Q ∨ (rMinT K xs H Q ∨ rMin2 xs H Q)) dMin := by
  intro us xs d F H e ds s Q q
  unfold dMin at e
  split at e
  · obtain ⟨ns, h1, h2⟩ := bind1_some e
    cases ns with
    | nil => cases h2
    | cons n ns =>
      cases h2
      cases ds with
      | cons h r =>
        cases r
        cases h with
        | lst h r =>
          rw [intsOf_some h1] at r
          have z := r.ints
          subst z
          refine .inl ⟨_, n :: ns, rfl, .inl (.inl (s _ _ h)), Nat.succ_pos _, fun m a1 a2 => ?_⟩
          rw [minL_is a1 a2]
          exact q _ F H (Grow.refl s) (.int _)
  · obtain ⟨ns, h1, h2⟩ := bind1_some e
    cases ns with
    | nil => cases h2
    | cons n ns =>
      cases h2
      cases ds with
      | cons h r =>
        cases r
        cases h with
        | tup h r =>
          rw [intsOf_some h1] at r
          have z := r.ints
          subst z
          exact .inr (.inl ⟨_, n, ns, rfl, .inl (.inl (s _ _ h)), q _ F H (Grow.refl s) (.int _)⟩)
  · cases e
    cases ds with
    | cons h r =>
      cases r with
      | cons h2 r =>
        cases r
        cases h
        cases h2
        exact .inr (.inr ⟨_, _, rfl, q _ F H (Grow.refl s) (.int _)⟩)
  · cases e
theorem n_abs : BinN (fun xs H Q => ∃ i, xs = [.int i] ∧ Q (.int (if i < 0 then -i else i)) H) dAbs := by
  intro us xs d F H e ds s Q q
  unfold dAbs at e
  split at e
  · cases e
    cases ds with
    | cons h r =>
      cases r
      cases h
      exact ⟨_, rfl, q _ F H (Grow.refl s) (.int _)⟩
  · cases e
theorem n_int : BinN (fun xs H Q => (∃ i, xs = [.int i] ∧ Q (.int i) H) ∨ ∃ k, xs = [.bl k] ∧ Q (.int (if k then 1 else 0)) H) dInt := by
  intro us xs d F H e ds s Q q
  unfold dInt at e
  split at e
  · cases e
    cases ds with
    | cons h r =>
      cases r
      cases h
      exact .inl ⟨_, rfl, q _ F H (Grow.refl s) (.int _)⟩
  · cases e
    cases ds with
    | cons h r =>
      cases r
      cases h
      exact .inr ⟨_, rfl, q _ F H (Grow.refl s) (.int _)⟩
  · cases e
theorem n_tup : BinN (fun xs H Q => ∃ p ys, xs = [.ref p] ∧ ((SqL K H p ys ∧ ∀ l, H l = none → Q (.ref l) (upd H l (.tup ys))) ∨ (SqT K H p ys ∧ Q (.ref p) H))) dTupOf := by
  intro us xs d F H e ds s Q q
  unfold dTupOf at e
  split at e
  · cases e
    cases ds with
    | cons h r =>
      cases r
      cases h with
      | lst h r =>
        rename_i a ws
        refine ⟨_, _, rfl, .inl ⟨.inl (.inl (s _ _ h)), fun l hl => ?_⟩⟩
        have g := Grow.new (o := .tup ws) s hl
        exact q _ _ _ g (.tup upd_same (r.mono g.f))
  · cases e
    cases ds with
    | cons h r =>
      cases r
      cases h with
      | tup h r => exact ⟨_, _, rfl, .inr ⟨.inl (.inl (s _ _ h)), q _ F H (Grow.refl s) (.tup h r)⟩⟩
  · cases e
end

/-! ### isinstance of data and a built-in class -/
def tyName : PyData → String
  | .none => "NoneType"
  | .bool _ => "bool"
  | .int _ => "int"
  | .str _ => "str"
  | .list _ => "list"
  | .tuple _ => "tuple"
  | .dict _ => "dict"
def eIsi (T : String) (f : EM) : EM := fun ρ => bind1 (f ρ) fun d => bind1 (kitB (tyName d) T) fun b => some (.bool b)
theorem dv_ty {K : PySem.W.Frag} {F H : Hp} {v : V} {d : PyData} (s : Same F H) (h : Dv F v d) : TyX K H v (.type (tyName d)) := by
  cases h with
  | non => exact .base .non
  | bl b => exact .base (.bl b)
  | int i => exact .base (.int i)
  | str x => exact .base (.str x)
  | lst h r => exact .base (.lst (s _ _ h))
  | tup h r => exact .base (.tup (s _ _ h))
section
variable {X : Cx} {e : Expr} {f : EM} {pos : Pos}
theorem ed_isi {x T : Str} {T' : String} {p p2 : Pos} (hg : Gl X x) (hm : X.mg x = none) (hv : bootBuiltins x = some (.builtin "isinstance")) (hg2 : Gl X T) (hm2 : X.mg T = none) (hv2 : bootBuiltins T = some (.type T')) (he : ED X e f)
    (hn : x ≠ "__name__" := by decide) (hdb : (x == ("__debug__" : Str)) = false := by decide) (hn2 : T ≠ "__name__" := by decide) (hdb2 : (T == ("__debug__" : Str)) = false := by decide)
    (h1 : starEach [e, .Name T p2] X.env = (false, eval e X.env) :: starEach [.Name T p2] X.env := by rfl) (h2 : starEach [.Name T p2] X.env = (false, eval (.Name T p2) X.env) :: starEach [] X.env := by rfl) (hpl : (backTo pos (starEach [.Name T p2] X.env)).any (·.1) = false := by rfl) :
    ED X (.Call (.Name x p) [e, .Name T p2] [] pos) (eIsi T' f) := by
  obtain ⟨t, pt, et⟩ := he.ex
  refine ⟨⟨_, pe_callB call_isi hg hm hv (pa_cons pt (pa_cons (pe_bltn (v := .ty T') hg2 hm2 hv2 rfl hn2 hdb2) pa_nil h2) h1) hn hdb h1 hpl, fun ρ d hd σ F H R Q q => ?_⟩⟩
  obtain ⟨y, e1, hd⟩ := bind1_some hd
  obtain ⟨b, e2, hd⟩ := bind1_some hd
  cases hd
  exact et ρ y e1 σ F H R _ fun v F1 H1 g1 d1 => ⟨v, .ty T', .type (tyName y), .type T', b, rfl, .ty T', dv_ty g1.sub d1, kit_ty e2, q _ F1 H1 g1 (.bl b)⟩
/-- tuple(range(n)) -/
def eTupRg (f : EM) : EM := fun ρ => bind1 (f ρ) fun d => match d with
  | .int n => if 0 ≤ n ∧ n ≤ 1000 then some (.tuple ((List.range n.toNat).map fun i => .int (i : Nat))) else none
  | _ => none
theorem ed_tupRg {p p2 pos2 : Pos} (hc : X.calm = true) (hg : Gl X "tuple") (hm : X.mg "tuple" = none) (hg2 : Gl X "range") (hm2 : X.mg "range" = none) (he : ED X e f)
    (n1 : starEach [e] X.env = (false, eval e X.env) :: starEach [] X.env := by rfl) (n2 : starEach [.Call (.Name "range" p2) [e] [] pos2] X.env = (false, eval (.Call (.Name "range" p2) [e] [] pos2) X.env) :: starEach [] X.env := by rfl) :
    ED X (.Call (.Name "tuple" p) [.Call (.Name "range" p2) [e] [] pos2] [] pos) (eTupRg f) := by
  obtain ⟨t, pt, et⟩ := he.ex
  refine ⟨⟨_, pe_tupRg hc hg hm (prg_1 hg2 hm2 pt n1) n2, fun ρ d hd σ F H R Q q => ?_⟩⟩
  obtain ⟨y, e1, hd⟩ := bind1_some hd
  split at hd
  · split at hd
    · rename_i n hn
      cases hd
      refine et ρ _ e1 σ F H R _ fun v F1 H1 g1 d1 => ⟨n, rI_data d1, RgOk.of_le (Int.le_refl _) (by omega) (by omega) hn.1, fun p hp => ?_⟩
      have g2 := Grow.new (o := .tup (rgV 0 n)) g1.sub hp
      refine q _ _ _ (g1.trans g2) (.tup upd_same ?_)
      have e : rgV 0 n = (((List.range n.toNat).map fun (i : Nat) => (i : Int))).map V.int := by
        unfold rgV
        rw [List.map_map, Int.sub_zero]
        refine List.map_congr_left fun i _ => ?_
        show V.int (0 + (i : Int)) = V.int (i : Int)
        rw [Int.zero_add]
      have e2 : ((List.range n.toNat).map fun (i : Nat) => PyData.int (i : Nat)) = (((List.range n.toNat).map fun (i : Nat) => (i : Int))).map PyData.int := by
        rw [List.map_map]
        rfl
      rw [e, e2]
      exact Dvs.ofInts _
    · cases hd
  · cases hd
end
end K6

end
-- text Fw5
section
set_option Elab.async false
set_option linter.all false
set_option autoImplicit false
set_option maxRecDepth 100000
set_option maxHeartbeats 4000000
/-! Part 5 of the frame: enumerate of a tuple; what a loop walks, as data. -/
namespace K6
open PySem PySem.Spec PyProof.Rows L2

/-! ### enumerate(t), t a tuple: one argument -/
theorem iter_tup_begins (t : Addr) (items : Array Value) : Begins (.ref t) { cls := .type "tuple_iterator", data := .fields #[.ref t, .int 0 0] } (fun h => h.IsTuple t items) where
  iter := fun prog w A E s Q h q => wpAny_pyIter_tuple h q
  keeps := fun h h' st k => st.at fun o e => k _ _ e
  free := rfl
theorem new_enum {v : Value} {o : Obj} {H : Heap → Prop} (B : Begins v o H) :
    Meets (Builtin.«enumerate.__new__» ⟨[.type "enumerate", v], []⟩) (fun _ R s => H s.heap ∧
      R (.ok (.ret (.ref (s.heap.push o).objs.size))) { s with heap := (s.heap.push o).push { cls := .type "enumerate", data := .fields #[.none, .bool false, .ref s.heap.objs.size, rawInt 0, .none, .none] } }) := by
  refine .of_wp fun prog w A R s h => ?_
  obtain ⟨hp, gs, dr, tk, os⟩ := s
  have hsub := sub_enumerate
  have step : ∀ {A' : Around} {E Q : Value → Shared → Prop}, Q (.ref hp.objs.size) ⟨hp.push o, gs, dr, tk, os⟩ → wpAny (model prog w) A' (pyIter v) Q E ⟨hp, gs, dr, tk, os⟩ :=
    fun q => B.iter prog w _ _ ⟨hp, gs, dr, tk, os⟩ _ h.1 q
  have fin := h.2
  wp_walk using step
  refine wpAny_stack_any fun st => wpAny_pure ?_
  split
  · rename_i c _ _ _ _ _
    cases (c == Value.type "enumerate") <;> (wp_walk using step; exact ⟨_, rfl, fin⟩)
  · wp_walk using step
    exact ⟨_, rfl, fin⟩
section
variable {prog : Program} {w : World} {A : Around} {E : Value → Shared → Prop} {s : Shared}
theorem call_enum {v : Value} {o : Obj} {H : Heap → Prop} {Q : Value → Shared → Prop} (B : Begins v o H) (h1 : H s.heap)
    (h : ∀ h', IsEnum h' (s.heap.objs.size + 1) s.heap.objs.size 0 .none → h'.get? s.heap.objs.size = some o → (∀ b o, s.heap.get? b = some o → h'.get? b = some o) → Q (.ref (s.heap.objs.size + 1)) { s with heap := h' }) :
    wpAny (model prog w) A (call (.type "enumerate") [v]) Q E s := by
  refine callType_new F.called_enumerate (by decide) (F.typeCall_enumerate_1 _) (F.newCall_enumerate_1 _) (fun obj => F.args_object_init_2 obj _) F.entry_enumerate_new (new_enum B) ⟨h1, ?_⟩
  have hz : (s.heap.push o).objs.size = s.heap.objs.size + 1 := Heap.size_push ..
  have he : IsEnum ((s.heap.push o).push { cls := .type "enumerate", data := .fields #[.none, .bool false, .ref s.heap.objs.size, rawInt 0, .none, .none] }) (s.heap.objs.size + 1) s.heap.objs.size 0 .none := by
    have z := Heap.get?_push_size (s.heap.push o) (o := { cls := .type "enumerate", data := .fields #[.none, .bool false, .ref s.heap.objs.size, rawInt 0, .none, .none] }) rfl
    rwa [hz] at z
  show _ ∧ _
  rw [hz]
  exact ⟨⟨_, he, rfl⟩, h _ he (Heap.get?_push_of_some _ (Heap.get?_push_size _ B.free)) fun b o q => Heap.get?_push_of_some _ (Heap.get?_push_of_some _ q)⟩
end
/-- the tuple at a, each item in a new pair with its place -/
def ItE (K : PySem.W.Frag) (a : Addr) : It :=
  ⟨fun i H => ∃ (xs : List V) (x : V), SqT K H a xs ∧ xs[i]? = some x, fun i H v H' => ∃ T x, v = .ref T ∧ H T = none ∧ H' = upd H T (.tup [.int (i : Nat), x]) ∧ ∀ xs, SqT K H a xs → xs[i]? = some x, fun i H => ∃ xs : List V, SqT K H a xs ∧ xs.length ≤ i⟩
theorem turn_enumT {P : Program} {w : World} {K : PySem.W.Frag} {elts : List Expr} {kk : Nat} {tpos : Pos} (a e it : Addr) :
    Turn P w K (.Tuple elts kk tpos) (ItE K a) [e, it] e (fun i h => (∃ old, IsEnum h e it ((i : Nat) : Int) old) ∧ h.IsTupleIter it a i ∧ e ≠ it ∧ e ≠ a ∧ it ≠ a) where
  mem := by simp
  obj := fun i h st b hb => by
    obtain ⟨⟨old, he⟩, ⟨o, ho, hc, hd⟩, _⟩ := st
    rcases (show b = e ∨ b = it by simpa using hb) with z | z
    · rw [z]; exact ⟨_, he, fun v q => nomatch q⟩
    · rw [z]; exact ⟨o, ho, fun v q => by rw [hd] at q; cases q⟩
  keep := fun i h h' st k => ⟨let ⟨old, he⟩ := st.1; ⟨old, k e (by simp) _ he⟩, st.2.1.at fun o q => k it (by simp) o q, st.2.2⟩
  item := by
    intro X hP hw hK hc i pins s σ H E I hf st hg
    subst hP hw hK
    obtain ⟨⟨old, he⟩, hit, hne, hea, hia⟩ := st
    obtain ⟨xs, x, hq, hx⟩ := hg
    obtain ⟨its, rv, p, hz⟩ := I.tuple hq
    obtain ⟨u, hu, ru⟩ := rv.get hx
    have hi : i < its.toArray.size := by
      have z := (List.getElem?_eq_some_iff.mp hu).1
      simpa using z
    have hel : e < s.heap.objs.size := Heap.lt_size he
    have hil : it < s.heap.objs.size := by obtain ⟨_, q, _⟩ := hit; exact Heap.lt_size q
    have hne' : e ∉ [it, a] := by simp [hne, hea]
    refine wpAny_pyNext_enum_itemD (Draws.tuple (A := X.A.in1) (I.ok.hd hc) it a (Ne.symm hia) its.toArray) he ⟨hit, show s.heap.IsTuple a its.toArray from p⟩ hi hne hne' fun y h' tk hy ho hst hT hsz hk => ?_
    have ey : y = u := by
      have z : its.toArray[i]? = some y := hy
      have z2 : its.toArray[i]? = some u := by simpa using hu
      rw [z2] at z
      exact (Option.some.inj z).symm
    subst ey
    refine ⟨_, rfl, wpAny_letOwnedTupleGo_enum (s := { s with heap := h', toks := tk + 1 }) ho fun h'' he' sb => ?_⟩
    have hT2 : h''.get? s.heap.objs.size = some { cls := .type "tuple", data := .seq #[.int i tk, y] } := (sb.2 _ (Nat.ne_of_gt hel)).trans hT
    have new : ObjOk X.prog X.w (upd H s.heap.objs.size (.tup [.int (i : Nat), x])) h'' s.heap.objs.size (.tup [.int (i : Nat), x]) :=
      ⟨by show 2 ≤ sizeLine; decide, [.int i tk, y], .cons ⟨_, rfl⟩ (.cons ru .nil), ⟨_, hT2, rfl, _, rfl⟩⟩
    have I1 : Inv X pins σ (upd H s.heap.objs.size (.tup [.int (i : Nat), x])) { s with heap := h'', toks := tk + 1 } :=
      I.turnedNew (ch := [e, it]) (fun b ob hb q => (sb.2 b (fun z => hb (by simp [z]))).trans (hk b ob (fun z => hb (by simp [z])) (fun z => hb (by simp [z])) q)) hf (Nat.le_refl _) new
    refine ⟨.ref s.heap.objs.size, _, I1, rfl, ⟨_, x, rfl, I.hok.fresh (Nat.le_refl _), rfl, fun ys hy => by rw [I.tuple_inj hy hq]; exact hx⟩, ⟨⟨y, ?_⟩, hst.1.at fun o q => (sb.2 it (Ne.symm hne)).trans q, hne, hea, hia⟩, fun b hb => ?_⟩
    · rw [show ((i + 1 : Nat) : Int) = (i : Int) + 1 by omega]
      exact he'
    · have hb' : b < s.heap.objs.size := by
        rcases (show b = e ∨ b = it by simpa using hb) with z | z
        · rw [z]; exact hel
        · rw [z]; exact hil
      rw [upd_ne (Nat.ne_of_lt hb')]
      exact (hf b hb).1
  done := by
    intro X hP hw hK hc i pins s σ H E I hf st hg
    subst hP hw hK
    obtain ⟨⟨old, he⟩, hit, hne, hea, hia⟩ := st
    obtain ⟨xs, hq, hx⟩ := hg
    obtain ⟨its, rv, p, hz⟩ := I.tuple hq
    obtain ⟨f0, f1, f2, f3, f4, f5⟩ := hf it (by simp)
    have hl := rv.length
    -- the walk over the tuple is at its end: it is told for i = the length
    obtain ⟨o, ho, hcl, hdt⟩ := id hit
    have hT : s.TypeIs (.ref e) "enumerate" := ⟨_, he, rfl⟩
    unfold pyNext
    refine wpAny_bind (wpAny_attempt (wpAny_callSpecial?_slot (name := Str.ofString "__next__") hT F.slot_enumerate_next (wpAny_call_entry F.slot_enumerate_next hT F.entry_enumerate_next ?_ (F.args_enumerate_next_1 _))))
    show wpAny _ _ (field (.ref e) 2 >>= _) _ _ _
    refine wpAny_bind (wpAny_field he rfl (x := .ref it) rfl ?_)
    refine wpAny_bind (wpAny_nextOf_tuple_end (A := X.A.in1) (I.ok.hd hc) hit (show s.heap.IsTuple a its.toArray from p) (by simp; omega) fun h' x he' hx' => ?_)
    obtain ⟨o, ho, hc⟩ := hx'
    refine wpAny_bind (wpAny_isInstance (T := "StopIteration") (b := true) ⟨o, ho, hc⟩ isSubtype_stop ?_)
    exact wpAny_pure ⟨rfl, I.turned (t' := s.toks) (fun b o hb q => he' b o hb q) f0 f1 f3 f4 f5⟩
  self := fun A i s Q E st h => let ⟨⟨_, he⟩, _⟩ := st; wpAny_pyIter_enum he h
def iEnumT (K : PySem.W.Frag) (ta : TA) : TI := fun σ H R => ta σ H fun vs H1 => ∃ a xs, vs = [.ref a] ∧ SqT K H1 a xs ∧ R (ItE K a) H1
theorem pi_enumT {X : Cx} {e : Expr} {ta : TA} {p pos tpos : Pos} {elts : List Expr} {kk : Nat} (hg : Gl X "enumerate") (hm : X.mg "enumerate" = none) (ha : PA X [e] ta) (hs : starEach [e] X.env = [(false, eval e X.env)] := by rfl) :
    PI X (.Tuple elts kk tpos) (.Call (.Name "enumerate" p) [e] [] pos) (iEnumT X.K ta) := by
  refine ⟨fun pins s σ H R I h => ?_⟩
  refine Call_ (ld_blt I hg hm boot_enumerate (PyProof.Rows.callWith_type1 (thn (ha.run pos pins s σ H _ I h) fun us s1 ⟨vs, H1, I1, r1, q1⟩ => ?_) hs rfl))
  obtain ⟨a, xs, ex, hq, q⟩ := q1
  subst ex
  rw [Vals.ref1 r1]
  obtain ⟨its, rv, p', hz⟩ := I1.tuple hq
  have ht : s1.heap.IsTuple a its.toArray := p'
  have hlt : a < s1.heap.objs.size := by obtain ⟨o, ho, _⟩ := id p'; exact Heap.lt_size ho
  refine call_enum (iter_tup_begins a its.toArray) ht fun h' he hit hk => wpAny_pyIter_enum he ?_
  have I2 : Inv X pins σ H1 { s1 with heap := h' } := I1.kept (t' := s1.toks) hk
  refine ⟨s1.heap.objs.size + 1, [s1.heap.objs.size + 1, s1.heap.objs.size], _, _, H1, rfl, I2, turn_enumT a (s1.heap.objs.size + 1) s1.heap.objs.size, ⟨⟨.none, he⟩, ⟨_, hit, rfl, rfl⟩, Nat.succ_ne_self _, Nat.ne_of_gt (Nat.lt_succ_of_lt hlt), Nat.ne_of_gt hlt⟩, fun b hb => ?_, q⟩
  have hle : s1.heap.objs.size ≤ b := by
    rcases (show b = s1.heap.objs.size + 1 ∨ b = s1.heap.objs.size by simpa using hb) with z | z
    · rw [z]; exact Nat.le_add_right _ _
    · rw [z]; exact Nat.le_refl _
  exact I1.fpOk hle (I1.hok.fresh hle)

/-! ### what a loop walks, as data -/
structure WalkD (J : It) (items : List PyData) (F1 : Hp) : Prop where
  go : ∀ i F H, i < items.length → Same F1 F → Same F H → J.go i H
  stop : ∀ F H, Same F1 F → Same F H → J.stop items.length H
  yld : ∀ i F H x H', i < items.length → Same F1 F → Same F H → J.yld i H x H' → ∃ F' d, items[i]? = some d ∧ Grow F H F' H' ∧ Dv F' x d
structure ID (X : Cx) (tg iter : Expr) (f : AM) : Prop where
  ex : ∃ wi : TI, PI X tg iter wi ∧ ∀ ρ items, f ρ = some items → ∀ σ F H, Rel ρ σ F H → ∀ R : It → Hp → Prop, (∀ J F' H', Grow F H F' H' → WalkD J items F' → R J H') → wi σ H R
def lstOf : PyData → Option (List PyData)
  | .list ds => some ds
  | _ => none
def tupOf : PyData → Option (List PyData)
  | .tuple ds => some ds
  | _ => none
def iLst (f : EM) : AM := fun ρ => bind1 (f ρ) lstOf
def iTupM (f : EM) : AM := fun ρ => bind1 (f ρ) tupOf
def iRng (f : EM) : AM := fun ρ => bind1 (f ρ) fun d => match d with
  | .int n => if 0 ≤ n ∧ n ≤ 1000 then some ((List.range n.toNat).map fun i => .int (i : Nat)) else none
  | _ => none
def pairUp (ds : List PyData) : List PyData := (List.range ds.length).map fun i => .tuple [.int (i : Nat), ds.getD i .none]
def iEnuL (f : EM) : AM := fun ρ => bind1 (f ρ) fun d => bind1 (lstOf d) fun ds => some (pairUp ds)
def iEnuT (f : EM) : AM := fun ρ => bind1 (f ρ) fun d => bind1 (tupOf d) fun ds => some (pairUp ds)
def zipUp : List PyData → List PyData → List PyData
  | x :: xs, y :: ys => .tuple [x, y] :: zipUp xs ys
  | _, _ => []
def iZipT (f g : EM) : AM := fun ρ => bind1 (f ρ) fun d => bind1 (tupOf d) fun xs => bind1 (g ρ) fun e => bind1 (tupOf e) fun ys => some (zipUp xs ys)
theorem lstOf_some {d : PyData} {ds : List PyData} (h : lstOf d = some ds) : d = .list ds := by
  cases d <;> simp [lstOf] at h
  rw [h]
theorem tupOf_some {d : PyData} {ds : List PyData} (h : tupOf d = some ds) : d = .tuple ds := by
  cases d <;> simp [tupOf] at h
  rw [h]
theorem walkD_l {K : PySem.W.Frag} {F1 : Hp} {a : Addr} {vs : List V} {ds : List PyData} (h : F1 a = some (.lst vs)) (r : Dvs F1 vs ds) : WalkD (Itl K a) ds F1 where
  go := fun i F H hi e s => by
    obtain ⟨v, h1, _⟩ := r.get (i := i) (d := ds[i]) (by simp [hi])
    exact ⟨vs, v, .inl (.inl (s _ _ (e _ _ h))), h1⟩
  stop := fun F H e s => ⟨vs, .inl (.inl (s _ _ (e _ _ h))), by rw [r.length]; exact Nat.le_refl _⟩
  yld := fun i F H x H' hi e s y => by
    obtain ⟨rfl, y⟩ := y
    obtain ⟨d, h1, h2⟩ := r.get' (y vs (.inl (.inl (s _ _ (e _ _ h)))))
    exact ⟨F, d, h1, Grow.refl s, h2.mono e⟩
theorem walkD_t {K : PySem.W.Frag} {F1 : Hp} {a : Addr} {vs : List V} {ds : List PyData} (h : F1 a = some (.tup vs)) (r : Dvs F1 vs ds) : WalkD (Itt K a) ds F1 where
  go := fun i F H hi e s => by
    obtain ⟨v, h1, _⟩ := r.get (i := i) (d := ds[i]) (by simp [hi])
    exact ⟨vs, v, .inl (.inl (s _ _ (e _ _ h))), h1⟩
  stop := fun F H e s => ⟨vs, .inl (.inl (s _ _ (e _ _ h))), by rw [r.length]; exact Nat.le_refl _⟩
  yld := fun i F H x H' hi e s y => by
    obtain ⟨rfl, y⟩ := y
    obtain ⟨d, h1, h2⟩ := r.get' (y vs (.inl (.inl (s _ _ (e _ _ h)))))
    exact ⟨F, d, h1, Grow.refl s, h2.mono e⟩
theorem walkD_r {n : Nat} {F1 : Hp} : WalkD (Itr 0 n) ((List.range n).map fun i => PyData.int (i : Nat)) F1 where
  go := fun i F H hi e s => by
    have z : i < n := by simpa using hi
    exact z
  stop := fun F H e s => by
    show n ≤ _
    simp
  yld := fun i F H x H' hi e s y => by
    obtain ⟨rfl, rfl⟩ := y
    have hi' : i < n := by simpa using hi
    refine ⟨F, .int (i : Nat), by simp [hi'], Grow.refl s, ?_⟩
    rw [Int.zero_add]
    exact .int _
theorem pairUp_at {ds : List PyData} {i : Nat} {d : PyData} (h : ds[i]? = some d) : (pairUp ds)[i]? = some (.tuple [.int (i : Nat), d]) := by
  have hi : i < ds.length := (List.getElem?_eq_some_iff.mp h).1
  unfold pairUp
  rw [List.getElem?_map, List.getElem?_range hi]
  show some (PyData.tuple [.int (i : Nat), ds.getD i .none]) = _
  rw [List.getD_eq_getElem?_getD, h]
  rfl
theorem pairUp_len (ds : List PyData) : (pairUp ds).length = ds.length := by
  unfold pairUp
  rw [List.length_map, List.length_range]
/-- a pair that was just made -/
theorem new_pair {F H : Hp} {T : Addr} {x y : V} {c d : PyData} (s : Same F H) (hT : H T = none) (h1 : Dv F x c) (h2 : Dv F y d) : Grow F H (upd F T (.tup [x, y])) (upd H T (.tup [x, y])) ∧ Dv (upd F T (.tup [x, y])) (.ref T) (.tuple [c, d]) := by
  have g := Grow.new (o := .tup [x, y]) s hT
  exact ⟨g, .tup upd_same (.cons (h1.mono g.f) (.cons (h2.mono g.f) .nil))⟩
theorem walkD_el {K : PySem.W.Frag} {F1 : Hp} {a : Addr} {vs : List V} {ds : List PyData} (h : F1 a = some (.lst vs)) (r : Dvs F1 vs ds) : WalkD (Ite K a) (pairUp ds) F1 where
  go := fun i F H hi e s => by
    rw [pairUp_len] at hi
    obtain ⟨v, h1, _⟩ := r.get (i := i) (d := ds[i]) (by simp [hi])
    exact ⟨vs, v, .inl (.inl (s _ _ (e _ _ h))), h1⟩
  stop := fun F H e s => ⟨vs, .inl (.inl (s _ _ (e _ _ h))), by rw [r.length, pairUp_len]; exact Nat.le_refl _⟩
  yld := fun i F H x H' hi e s y => by
    obtain ⟨T, v, rfl, hT, rfl, y⟩ := y
    obtain ⟨d, h1, h2⟩ := r.get' (y vs (.inl (.inl (s _ _ (e _ _ h)))))
    obtain ⟨g, q⟩ := new_pair s hT (.int (i : Nat)) (h2.mono e)
    exact ⟨_, _, pairUp_at h1, g, q⟩
theorem walkD_et {K : PySem.W.Frag} {F1 : Hp} {a : Addr} {vs : List V} {ds : List PyData} (h : F1 a = some (.tup vs)) (r : Dvs F1 vs ds) : WalkD (ItE K a) (pairUp ds) F1 where
  go := fun i F H hi e s => by
    rw [pairUp_len] at hi
    obtain ⟨v, h1, _⟩ := r.get (i := i) (d := ds[i]) (by simp [hi])
    exact ⟨vs, v, .inl (.inl (s _ _ (e _ _ h))), h1⟩
  stop := fun F H e s => ⟨vs, .inl (.inl (s _ _ (e _ _ h))), by rw [r.length, pairUp_len]; exact Nat.le_refl _⟩
  yld := fun i F H x H' hi e s y => by
    obtain ⟨T, v, rfl, hT, rfl, y⟩ := y
    obtain ⟨d, h1, h2⟩ := r.get' (y vs (.inl (.inl (s _ _ (e _ _ h)))))
    obtain ⟨g, q⟩ := new_pair s hT (.int (i : Nat)) (h2.mono e)
    exact ⟨_, _, pairUp_at h1, g, q⟩
theorem zipUp_at : ∀ {xs ys : List PyData} {i : Nat} {c d : PyData}, xs[i]? = some c → ys[i]? = some d → (zipUp xs ys)[i]? = some (.tuple [c, d])
  | [], _, i, _, _, h, _ => by simp at h
  | _ :: _, [], i, _, _, _, h => by simp at h
  | x :: xs, y :: ys, 0, c, d, h1, h2 => by
    simp at h1 h2
    subst h1 h2
    rfl
  | x :: xs, y :: ys, i + 1, c, d, h1, h2 => by
    have z := zipUp_at (xs := xs) (ys := ys) (i := i) (by simpa using h1) (by simpa using h2)
    simpa [zipUp] using z
theorem zipUp_len : ∀ (xs ys : List PyData), (zipUp xs ys).length = min xs.length ys.length
  | [], ys => by simp [zipUp]
  | _ :: _, [] => by simp [zipUp]
  | x :: xs, y :: ys => by
    show (zipUp xs ys).length + 1 = _
    rw [zipUp_len xs ys, List.length_cons, List.length_cons]
    omega
theorem walkD_z {K : PySem.W.Frag} {F1 : Hp} {a b : Addr} {vs ws : List V} {ds es : List PyData} (h : F1 a = some (.tup vs)) (r : Dvs F1 vs ds) (h' : F1 b = some (.tup ws)) (r' : Dvs F1 ws es) : WalkD (RZ.ItzT K a b) (zipUp ds es) F1 where
  go := fun i F H hi e s => by
    rw [zipUp_len] at hi
    obtain ⟨v, h1, _⟩ := r.get (i := i) (d := ds[i]'(by omega)) (by rw [List.getElem?_eq_getElem])
    obtain ⟨u, h2, _⟩ := r'.get (i := i) (d := es[i]'(by omega)) (by rw [List.getElem?_eq_getElem])
    exact ⟨vs, ws, v, u, .inl (.inl (s _ _ (e _ _ h))), .inl (.inl (s _ _ (e _ _ h'))), h1, h2⟩
  stop := fun F H e s => ⟨vs, ws, .inl (.inl (s _ _ (e _ _ h))), .inl (.inl (s _ _ (e _ _ h'))), by rw [r.length, r'.length, zipUp_len]; omega⟩
  yld := fun i F H x H' hi e s y => by
    obtain ⟨T, v, u, rfl, hT, rfl, y1, y2⟩ := y
    obtain ⟨d, h1, h2⟩ := r.get' (y1 vs (.inl (.inl (s _ _ (e _ _ h)))))
    obtain ⟨d', h3, h4⟩ := r'.get' (y2 ws (.inl (.inl (s _ _ (e _ _ h')))))
    obtain ⟨g, q⟩ := new_pair s hT (h2.mono e) (h4.mono e)
    exact ⟨_, _, zipUp_at h1 h3, g, q⟩
section
variable {X : Cx} {tg e e2 : Expr} {f g : EM} {pos : Pos}
theorem id_lst (he : ED X e f) : ID X tg e (iLst f) := by
  obtain ⟨t, p, et⟩ := he.ex
  refine ⟨⟨_, pi_list p, fun ρ items hd σ F H R Rr q => ?_⟩⟩
  obtain ⟨d, h1, h2⟩ := bind1_some hd
  rw [lstOf_some h2] at h1
  refine et ρ _ h1 σ F H R _ fun v F1 H1 g1 d1 => ?_
  cases d1 with
  | lst h r => exact ⟨_, rfl, ⟨_, .inl (.inl (g1.sub _ _ h))⟩, q _ F1 H1 g1 (walkD_l h r)⟩
theorem id_tup (he : ED X e f) : ID X tg e (iTupM f) := by
  obtain ⟨t, p, et⟩ := he.ex
  refine ⟨⟨_, pi_tup p, fun ρ items hd σ F H R Rr q => ?_⟩⟩
  obtain ⟨d, h1, h2⟩ := bind1_some hd
  rw [tupOf_some h2] at h1
  refine et ρ _ h1 σ F H R _ fun v F1 H1 g1 d1 => ?_
  cases d1 with
  | tup h r => exact ⟨_, rfl, ⟨_, .inl (.inl (g1.sub _ _ h))⟩, q _ F1 H1 g1 (walkD_t h r)⟩
theorem id_rng {p : Pos} (hg : Gl X "range") (hm : X.mg "range" = none) (he : ED X e f) (n1 : starEach [e] X.env = (false, eval e X.env) :: starEach [] X.env := by rfl) (hs : starEach [e] X.env = [(false, eval e X.env)] := by rfl) :
    ID X tg (.Call (.Name "range" p) [e] [] pos) (iRng f) := by
  obtain ⟨t, pt, et⟩ := he.ex
  refine ⟨⟨_, pi_range1 hg hm (pa_cons pt pa_nil n1) hs, fun ρ items hd σ F H R Rr q => ?_⟩⟩
  obtain ⟨d, h1, h2⟩ := bind1_some hd
  split at h2
  · split at h2
    · rename_i n hn
      cases h2
      refine et ρ _ h1 σ F H R _ fun v F1 H1 g1 d1 => ⟨n, by rw [rI_data d1], by omega, by omega, q _ F1 H1 g1 walkD_r⟩
    · cases h2
  · cases h2
variable {elts : List Expr} {kk : Nat} {tpos : Pos}
theorem id_enuL {p : Pos} (hg : Gl X "enumerate") (hm : X.mg "enumerate" = none) (he : ED X e f) (n1 : starEach [e] X.env = (false, eval e X.env) :: starEach [] X.env := by rfl) (hs : starEach [e] X.env = [(false, eval e X.env)] := by rfl) :
    ID X (.Tuple elts kk tpos) (.Call (.Name "enumerate" p) [e] [] pos) (iEnuL f) := by
  obtain ⟨t, pt, et⟩ := he.ex
  refine ⟨⟨_, pi_enum hg hm (pa_cons pt pa_nil n1) hs, fun ρ items hd σ F H R Rr q => ?_⟩⟩
  obtain ⟨d, h1, h2⟩ := bind1_some hd
  obtain ⟨ds, h3, h4⟩ := bind1_some h2
  cases h4
  rw [lstOf_some h3] at h1
  refine et ρ _ h1 σ F H R _ fun v F1 H1 g1 d1 => ?_
  cases d1 with
  | lst h r => exact ⟨_, _, rfl, .inl (.inl (g1.sub _ _ h)), q _ F1 H1 g1 (walkD_el h r)⟩
theorem id_enuT {p : Pos} (hg : Gl X "enumerate") (hm : X.mg "enumerate" = none) (he : ED X e f) (n1 : starEach [e] X.env = (false, eval e X.env) :: starEach [] X.env := by rfl) (hs : starEach [e] X.env = [(false, eval e X.env)] := by rfl) :
    ID X (.Tuple elts kk tpos) (.Call (.Name "enumerate" p) [e] [] pos) (iEnuT f) := by
  obtain ⟨t, pt, et⟩ := he.ex
  refine ⟨⟨_, pi_enumT hg hm (pa_cons pt pa_nil n1) hs, fun ρ items hd σ F H R Rr q => ?_⟩⟩
  obtain ⟨d, h1, h2⟩ := bind1_some hd
  obtain ⟨ds, h3, h4⟩ := bind1_some h2
  cases h4
  rw [tupOf_some h3] at h1
  refine et ρ _ h1 σ F H R _ fun v F1 H1 g1 d1 => ?_
  cases d1 with
  | tup h r => exact ⟨_, _, rfl, .inl (.inl (g1.sub _ _ h)), q _ F1 H1 g1 (walkD_et h r)⟩
theorem id_zipT {p : Pos} (hg : Gl X "zip") (hm : X.mg "zip" = none) (he : ED X e f) (he2 : ED X e2 g)
    (n1 : starEach [e, e2] X.env = (false, eval e X.env) :: starEach [e2] X.env := by rfl) (n2 : starEach [e2] X.env = (false, eval e2 X.env) :: starEach [] X.env := by rfl) (hpl : (backTo pos (starEach [e2] X.env)).any (·.1) = false := by rfl) :
    ID X (.Tuple elts kk tpos) (.Call (.Name "zip" p) [e, e2] [] pos) (iZipT f g) := by
  obtain ⟨t, pt, et⟩ := he.ex
  obtain ⟨t2, pt2, et2⟩ := he2.ex
  refine ⟨⟨_, RZ.pi_zipA hg hm (pa_cons pt (pa_cons pt2 pa_nil n2) n1) n1 hpl, fun ρ items hd σ F H R Rr q => ?_⟩⟩
  obtain ⟨d, h1, hd⟩ := bind1_some hd
  obtain ⟨xs, h2, hd⟩ := bind1_some hd
  obtain ⟨d2, h3, hd⟩ := bind1_some hd
  obtain ⟨ys, h4, hd⟩ := bind1_some hd
  cases hd
  rw [tupOf_some h2] at h1
  rw [tupOf_some h4] at h3
  refine et ρ _ h1 σ F H R _ fun v F1 H1 g1 d1 => ?_
  refine et2 ρ _ h3 σ F1 H1 (R.grow g1) _ fun v2 F2 H2 g2 d2 => ?_
  replace d1 := d1.mono g2.f
  cases d1 with
  | tup h r =>
    cases d2 with
    | tup h' r' => exact ⟨_, _, _, _, rfl, .inr ⟨.inl (.inl (g2.sub _ _ h)), .inl (.inl (g2.sub _ _ h')), q _ F2 H2 (g1.trans g2) (walkD_z h r h' r')⟩⟩
end
end K6

end
-- text Fw6
section
set_option Elab.async false
set_option linter.all false
set_option autoImplicit false
set_option maxRecDepth 100000
set_option maxHeartbeats 4000000
/-! Part 6 of the frame: targets, comprehensions, calls, statements, defs. -/
namespace K6
open PySem PySem.Spec PyProof.Rows L2

/-! ### readings that hang on the plain function alone -/
def tDE (f : EM) : TE := fun σ H Q => ∃ ρ d F, f ρ = some d ∧ Rel ρ σ F H ∧ ∀ v F' H', Grow F H F' H' → Dv F' v d → Q v H'
def tDT (f : TM) : TT := fun σ H Q => ∃ ρ b F, f ρ = some b ∧ Rel ρ σ F H ∧ ∀ F' H', Grow F H F' H' → Q b H'
section
variable {X : Cx} {e : Expr} {f : EM} {p : TM}
theorem ED.pe (h : ED X e f) : PE X e (tDE f) := by
  obtain ⟨t, pt, et⟩ := h.ex
  exact ⟨fun pins s σ H Q I ⟨ρ, d, F, h1, R, q⟩ => pt.run pins s σ H Q I (et ρ d h1 σ F H R Q q)⟩
theorem TD.pt (h : TD X e p) : PT X e (tDT p) := by
  obtain ⟨t, pt, et⟩ := h.ex
  exact ⟨fun pins s σ H Q I ⟨ρ, d, F, h1, R, q⟩ => pt.run pins s σ H Q I (et ρ d h1 σ F H R Q q)⟩
end

/-! ### targets -/
abbrev BM := PyData → En → Option En
def bName (i : Nat) : BM := fun d ρ => some (ρ.set i (.dat d))
def setAll : List Nat → List PyData → En → Option En
  | [], [], ρ => some ρ
  | i :: is, d :: ds, ρ => setAll is ds (ρ.set i (.dat d))
  | _, _, _ => none
def bTup (is : List Nat) : BM := fun d ρ => bind1 (tupOf d) fun ds => setAll is ds ρ
structure BD (X : Cx) (tg : Expr) (is : List Nat) (b : BM) : Prop where
  ex : ∃ g : TG, PG X tg g ∧ ∀ ρ d ρ', b d ρ = some ρ' → ∀ σ F H x, Rel ρ σ F H → Dv F x d → ∀ Q : L2.St → Hp → Prop,
    (∀ σ', Rel ρ' σ' F H → (∀ F0 H0, RelS F0 H0 ρ σ F H → RelS F0 H0 ρ' σ' F H) → (∀ vs : List Nat, (∀ i ∈ is, i ∈ vs) → wipe σ' vs = wipe σ vs) → Q σ' H) → g x σ H Q
structure BDs (X : Cx) (ts : List Expr) (is : List Nat) : Prop where
  ex : ∃ g : TGs, PGs X ts g ∧ ∀ ρ ds ρ', setAll is ds ρ = some ρ' → ∀ σ F H xs, Rel ρ σ F H → Dvs F xs ds → ∀ Q : L2.St → Hp → Prop,
    (∀ σ', Rel ρ' σ' F H → (∀ F0 H0, RelS F0 H0 ρ σ F H → RelS F0 H0 ρ' σ' F H) → (∀ vs : List Nat, (∀ i ∈ is, i ∈ vs) → wipe σ' vs = wipe σ vs) → Q σ' H) → g xs σ H Q
def gDB (is : List Nat) (b : BM) : TG := fun x σ H Q => ∃ ρ d ρ' F, b d ρ = some ρ' ∧ Rel ρ σ F H ∧ Dv F x d ∧
  ∀ σ', Rel ρ' σ' F H → (∀ F0 H0, RelS F0 H0 ρ σ F H → RelS F0 H0 ρ' σ' F H) → (∀ vs : List Nat, (∀ i ∈ is, i ∈ vs) → wipe σ' vs = wipe σ vs) → Q σ' H
theorem wipe_set {x : Option V} {i : Nat} : ∀ {vs : List Nat} {σ : L2.St}, wipe (σ.set i x) vs = if i ∈ vs then wipe σ vs else (wipe σ vs).set i x
  | [], σ => by simp [wipe]
  | v :: vs, σ => by
    unfold wipe
    rw [wipe_set (vs := vs)]
    by_cases h : i ∈ vs
    · rw [if_pos h, if_pos (List.mem_cons_of_mem _ h)]
    · rw [if_neg h]
      by_cases e : i = v
      · subst e
        rw [if_pos List.mem_cons_self, List.set_set]
      · rw [if_neg (by simp [e, h]), List.set_comm _ _ e]
theorem wipe_in {x : Option V} {i : Nat} {vs : List Nat} {σ : L2.St} (h : i ∈ vs) : wipe (σ.set i x) vs = wipe σ vs := by rw [wipe_set, if_pos h]
theorem wipe_sub : ∀ {us vs : List Nat} {σ : L2.St}, (∀ i ∈ us, i ∈ vs) → wipe (wipe σ us) vs = wipe σ vs
  | [], vs, σ, _ => rfl
  | u :: us, vs, σ, h => by
    show wipe ((wipe σ us).set u none) vs = _
    rw [wipe_in (h u List.mem_cons_self)]
    exact wipe_sub fun i hi => h i (List.mem_cons_of_mem _ hi)
def wipeE (ρ : En) : List Nat → En
  | [] => ρ
  | v :: vs => (wipeE ρ vs).set v .no
theorem Rel.unset {ρ : En} {σ : L2.St} {F H : Hp} {i : Nat} (R : Rel ρ σ F H) : Rel (ρ.set i .no) (σ.set i none) F H where
  len := by rw [List.length_set, List.length_set, R.len]
  sub := R.sub
  dat := fun j e h => by
    rcases get_set h with ⟨_, q⟩ | ⟨q, h⟩
    · cases q
    · rw [set_get q]
      exact R.dat j e h
  own := fun j ds h => by
    rcases get_set h with ⟨_, q⟩ | ⟨q, h⟩
    · cases q
    · rw [set_get q]
      exact R.own j ds h
  apart := fun j k ds es a hjk h1 h2 h3 => by
    rcases get_set h1 with ⟨_, q⟩ | ⟨q, h1⟩
    · cases q
    · rcases get_set h2 with ⟨_, q2⟩ | ⟨q2, h2⟩
      · cases q2
      · rw [set_get q] at h3
        rw [set_get q2]
        exact R.apart j k ds es a hjk h1 h2 h3
theorem Rel.wipe {ρ : En} {σ : L2.St} {F H : Hp} (R : Rel ρ σ F H) : ∀ vs : List Nat, Rel (wipeE ρ vs) (wipe σ vs) F H
  | [] => R
  | v :: vs => (Rel.wipe R vs).unset
section
variable {X : Cx} {pos : Pos}
theorem bd_name (i : Nat) {x : Str} (hN : X.N.Nodup) (hi : X.N[i]? = some x) (hx : Loc X.env.scope x) (hf : X.fn x = true ∨ X.env.scope.names.lookup x = some .local := by first | exact .inl rfl | exact .inr rfl | assumption) : BD X (.Name x pos) [i] (bName i) := by
  refine ⟨⟨_, pg_name hN hi hx hf, fun ρ d ρ' hb σ F H y R hy Q q => ?_⟩⟩
  cases hb
  exact q _ (R.set hy) (fun F0 H0 S => S.set hy) fun vs hv => wipe_in (hv i List.mem_cons_self)
theorem BD.pg {tg : Expr} {is : List Nat} {b : BM} (h : BD X tg is b) : PG X tg (gDB is b) := by
  obtain ⟨g, pg, eg⟩ := h.ex
  exact ⟨fun pins s σ H v u Q I r ⟨ρ, d, ρ', F, h1, R, dv, q⟩ => pg.run pins s σ H v u Q I r (eg ρ d ρ' h1 σ F H v R dv Q q)⟩
theorem bds_nil : BDs X [] [] := by
  refine ⟨⟨_, pgs_nil, fun ρ ds ρ' hb σ F H xs R hx Q q => ?_⟩⟩
  cases hx with
  | nil =>
    cases hb
    exact ⟨rfl, q σ R (fun _ _ S => S) fun _ _ => rfl⟩
  | cons _ _ => cases hb
theorem bds_cons {e : Expr} {es : List Expr} {i : Nat} {is : List Nat} (h1 : BD X e [i] (bName i)) (h2 : BDs X es is) (hs : (assignEach (e :: es) X.env).map (·.2) = assign e X.env :: (assignEach es X.env).map (·.2) := by rfl) : BDs X (e :: es) (i :: is) := by
  obtain ⟨g1, p1, e1⟩ := h1.ex
  obtain ⟨g2, p2, e2⟩ := h2.ex
  refine ⟨⟨_, pgs_cons p1 p2 hs, fun ρ ds ρ' hb σ F H xs R hx Q q => ?_⟩⟩
  cases hx with
  | nil => cases hb
  | cons hv hr =>
    refine ⟨_, _, rfl, e1 ρ _ _ rfl σ F H _ R hv _ fun σ1 R1 S1 W1 => ?_⟩
    refine e2 _ _ ρ' hb σ1 F H _ R1 hr Q fun σ2 R2 S2 W2 => q σ2 R2 (fun F0 H0 S => S2 F0 H0 (S1 F0 H0 S)) fun vs hv => ?_
    rw [W2 vs fun j hj => hv j (List.mem_cons_of_mem _ hj), W1 vs fun j hj => hv j (by rw [List.mem_singleton.mp hj]; exact List.mem_cons_self)]
theorem setAll_len : ∀ {is : List Nat} {ds : List PyData} {ρ ρ' : En}, setAll is ds ρ = some ρ' → ds.length = is.length
  | [], [], _, _, _ => rfl
  | i :: is, d :: ds, ρ, ρ', h => by rw [List.length_cons, List.length_cons, setAll_len (is := is) (ds := ds) h]
  | [], _ :: _, _, _, h => by cases h
  | _ :: _, [], _, _, h => by cases h
theorem bd_tup {es : List Expr} {k : Nat} {is : List Nat} (hc : X.calm = true) (h : BDs X es is) (hn : (assignEach es X.env).length = is.length := by rfl) (hst : (assignEach es X.env).findIdx? (·.1) = none := by rfl) : BD X (.Tuple es k pos) is (bTup is) := by
  obtain ⟨g, p, e⟩ := h.ex
  refine ⟨⟨_, pg_tup hc p hn hst, fun ρ d ρ' hb σ F H x R hx Q q => ?_⟩⟩
  obtain ⟨ds, h1, h2⟩ := bind1_some hb
  rw [tupOf_some h1] at hx
  cases hx with
  | tup a r => exact ⟨_, _, rfl, .inl (.inl (R.sub _ _ a)), by rw [r.length, setAll_len h2], e ρ ds ρ' h2 σ F H _ R r Q q⟩
end

/-! ### comprehensions -/
def lcGo (b : BM) (t : TM) (e : EM) (ρ : En) : List PyData → Option (List PyData)
  | [] => some []
  | x :: xs => bind1 (b x ρ) fun ρ1 => bind1 (t ρ1) fun c => if c = true then bind1 (e ρ1) fun y => bind1 (lcGo b t e ρ xs) fun ys => some (y :: ys) else lcGo b t e ρ xs
def lcM (it : AM) (b : BM) (t : TM) (e : EM) (vs : List Nat) : AM := fun ρ => bind1 (it ρ) fun items => if items.length ≤ 1000 then lcGo b t e (wipeE ρ vs) items else none
def eLc (it : AM) (b : BM) (t : TM) (e : EM) (vs : List Nat) : EM := fun ρ => bind1 (lcM it b t e vs ρ) fun ys => some (.list ys)
def tYesM : TM := fun _ => some true
def tailOf (ds : List PyData) (o : Option (List PyData)) : Option (List PyData) := bind1 o fun ys => some (ds ++ ys)
theorem lc_read {wi : TI} {it : AM} {b : BM} {t : TM} {e : EM} {is vs : List Nat} (hw : ∀ ρ items, it ρ = some items → ∀ σ F H, Rel ρ σ F H → ∀ R : It → Hp → Prop, (∀ J F' H', Grow F H F' H' → WalkD J items F' → R J H') → wi σ H R) (hiv : ∀ i ∈ is, i ∈ vs)
    {ρ : En} {ys : List PyData} (hd : lcM it b t e vs ρ = some ys) {σ : L2.St} {F H : Hp} (R : Rel ρ σ F H) {Q : VK}
    (q : ∀ a F' H' ws, Grow F H F' H' → H a = none → F' a = none → H' a = some (.lst ws) → Dvs F' ws ys → Q (.ref a) H') : tLc wi (gDB is b) (tDT t) (tDE e) vs σ H Q := by
  obtain ⟨items, h1, hd⟩ := bind1_some hd
  split at hd
  · rename_i hlen
    refine hw ρ items h1 σ F H R _ fun J F1 H1 g1 wk D hD => ?_
    have R1 : Rel (wipeE ρ vs) (L2.wipe σ vs) F1 H1 := (R.grow g1).wipe vs
    have HD : H D = none := g1.h.free hD
    refine ⟨fun i m H2 => m = items.length - i ∧ i ≤ items.length ∧ ∃ F2 acc ds, Grow F1 H1 F2 H2 ∧ H2 D = some (.lst acc) ∧ F2 D = none ∧ Dvs F2 acc ds ∧ ds.length ≤ i ∧ tailOf ds (lcGo b t e (wipeE ρ vs) (items.drop i)) = some ys,
      ⟨items.length, by simp, Nat.zero_le _, F1, [], [], Grow.loose g1.sub hD, upd_same, Same.none g1.sub hD, .nil, Nat.le_refl _, ?_⟩, ?_⟩
    · rw [List.drop_zero, hd]
      rfl
    · rintro i m H2 ⟨rfl, hi, F2, acc, ds, g2, hacc, hF, hds, hdl, ht⟩
      by_cases hlt : i < items.length
      · refine .inr ⟨wk.go i F2 H2 hlt g2.f g2.sub, fun H' => i + 1 ≤ items.length ∧ ∃ F2 acc ds, Grow F1 H1 F2 H' ∧ H' D = some (.lst acc) ∧ F2 D = none ∧ Dvs F2 acc ds ∧ ds.length ≤ i + 1 ∧ tailOf ds (lcGo b t e (wipeE ρ vs) (items.drop (i + 1))) = some ys,
          fun H' ⟨a, z⟩ => ⟨items.length - (i + 1), by omega, rfl, a, z⟩, fun x H' y => ?_⟩
        obtain ⟨F3, d, hdi, g3, dx⟩ := wk.yld i F2 H2 x H' hlt g2.f g2.sub y
        have hdrop : items.drop i = d :: items.drop (i + 1) := by
          have z : items[i]? = some items[i] := List.getElem?_eq_getElem hlt
          rw [z] at hdi
          cases hdi
          exact List.drop_eq_getElem_cons hlt
        rw [hdrop] at ht
        obtain ⟨zs, hz, hzs⟩ := bind1_some ht
        obtain ⟨ρ1, b1, hz⟩ := bind1_some hz
        obtain ⟨c, t1, hz⟩ := bind1_some hz
        have g13 := g2.trans g3
        have R3 := R1.grow g13
        refine ⟨wipeE ρ vs, d, ρ1, F3, b1, R3, dx, fun σ4 R4 _ W4 => ⟨?_, ?_⟩⟩
        · rw [W4 vs hiv]
          exact wipe_sub fun _ h => h
        · have hD3 : H' D = some (.lst acc) := g3.h _ _ hacc
          refine ⟨ρ1, c, F3, t1, R4, fun F4 H4 g4 => ?_⟩
          have g14 := g13.trans g4
          have hold : ∀ {F5 H5 : Hp}, Grow F2 H2 F5 H5 → H5 D = some (.lst acc) ∧ F5 D = none := fun {F5 H5} g => ⟨g.h _ _ hacc, by rw [g.old D (by rw [hacc]; simp), hF]⟩
          cases c with
          | true =>
            refine iteT ?_
            rw [if_pos rfl] at hz
            obtain ⟨yv, e1, hz⟩ := bind1_some hz
            obtain ⟨ys', h5, hz⟩ := bind1_some hz
            cases hz
            cases hzs
            refine ⟨ρ1, yv, F4, e1, R4.grow g4, fun v F5 H5 g5 d5 => ?_⟩
            obtain ⟨k1, k2⟩ := hold (g3.trans (g4.trans g5))
            have g15 := g14.trans g5
            have hds5 : Dvs F5 acc ds := hds.mono (g3.trans (g4.trans g5)).f
            have sub5 : Same F5 (upd H5 D (.lst (acc ++ [v]))) := fun b o z => by
              rw [upd_ne (fun w => by rw [w, k2] at z; cases z)]
              exact g15.sub b o z
            refine ⟨acc, k1, ?_, hlt, F5, acc ++ [v], ds ++ [yv], ⟨g15.f, fun b o z => ?_, sub5, g15.old⟩, upd_same, k2, hds5.append (.cons d5 .nil), by rw [List.length_append]; show ds.length + 1 ≤ _; omega, ?_⟩
            · rw [hds.length]
              exact Nat.lt_of_le_of_lt (Nat.le_trans hdl (Nat.le_trans (Nat.le_of_lt hlt) hlen)) (by decide)
            · rw [upd_ne (fun w => by rw [w, hD] at z; cases z)]
              exact g15.h b o z
            · rw [h5]
              show some (ds ++ [yv] ++ ys') = some (ds ++ yv :: ys')
              rw [List.append_assoc]
              rfl
          | false =>
            refine iteF ?_
            rw [if_neg Bool.false_ne_true] at hz
            obtain ⟨k1, k2⟩ := hold (g3.trans g4)
            refine ⟨hlt, F4, acc, ds, g14, k1, k2, hds.mono (g3.trans g4).f, by omega, ?_⟩
            rw [hz]
            exact hzs
      · have e0 : i = items.length := by omega
        subst e0
        rw [List.drop_length] at ht
        cases ht
        refine .inl ⟨wk.stop F2 H2 g2.f g2.sub, ?_⟩
        rw [List.append_nil] at q
        exact q D F2 H2 acc (g1.trans g2) HD hF hacc hds
  · cases hd
/-- what was loose is frozen -/
theorem Grow.freeze {F H F' H' : Hp} {a : Addr} {o : HO} (g : Grow F H F' H') (h0 : H a = none) (h1 : H' a = some o) (h2 : F' a = none) : Grow F H (upd F' a o) H' where
  f := g.f.trans (same_upd h2)
  h := g.h
  sub := fun b x e => by
    by_cases hb : b = a
    · subst hb
      rw [upd_same] at e
      cases e
      exact h1
    · rw [upd_ne hb] at e
      exact g.sub b x e
  old := fun b hb => by
    rw [upd_ne (fun z => hb (by rw [z]; exact h0))]
    exact g.old b hb
structure CompD (X : Cx) (elt tg : Expr) (ifs : List Expr) (scope : Scope) (own : List (Str × Nat)) (is : List Nat) (b : BM) (t : TM) (e : EM) : Prop where
  ok : BlkOk X.N X.env.scope scope own
  bd : ∀ (s : Shared) (H : Hp) (C : Addr) (cl : List (Str × Addr)) (fp : List Addr), BD (X.blk s H scope (compEnvC scope cl C X.env) fp) tg is b
  td : ∀ (s : Shared) (H : Hp) (C : Addr) (cl : List (Str × Addr)) (fp : List Addr), PTs (X.blk s H scope (compEnvC scope cl C X.env) fp) ifs (tDT t)
  ed : ∀ (s : Shared) (H : Hp) (C : Addr) (cl : List (Str × Addr)) (fp : List Addr), ED (X.blk s H scope (compEnvC scope cl C X.env) fp) elt e
  sub : ∀ i ∈ is, i ∈ own.map (·.2)
section
variable {X : Cx} {elt tg iter : Expr} {ifs : List Expr} {scope : Scope} {own : List (Str × Nat)} {is : List Nat} {b : BM} {t : TM} {e : EM} {it : AM} {pos spos : Pos}
theorem pts_yes : PTs X [] (tDT tYesM) := ⟨fun pins s σ H Q I ⟨ρ, c, F, h1, R, q⟩ => by
  cases h1
  exact pts_nil.run pins s σ H Q I (q F H (Grow.refl R.sub))⟩
theorem pts_d {c : Expr} (h : TD X c t) : PTs X [c] (tDT t) := pts_one h.pt
theorem ed_lc (hc : X.calm = true) (hN : X.N.Nodup) (hi : ID X tg iter it) (C : CompD X elt tg ifs scope own is b t e) (hs : ∀ x, foldedSetIterable iter X.env x = pure x := by intro _; rfl) :
    ED X (.ListComp elt [⟨tg, iter, ifs, 0⟩] scope pos) (eLc it b t e (own.map (·.2))) := by
  obtain ⟨wi, pi, ei⟩ := hi.ex
  refine ⟨⟨_, pe_lc hc hN pi C.ok (fun s H A cl fp => (C.bd s H A cl fp).pg) C.td (fun s H A cl fp => (C.ed s H A cl fp).pe) hs, fun ρ d hd σ F H R Q q => ?_⟩⟩
  obtain ⟨ys, h1, h2⟩ := bind1_some hd
  cases h2
  exact lc_read ei C.sub h1 R fun a F' H' ws g n1 n2 h3 h4 => q (.ref a) _ H' (g.freeze n1 h3 n2) (.lst upd_same (h4.mono (same_upd n2)))
end

/-! ### calls -/
inductive Ret where
  | ok (d : PyData)
  | er (c : Nat)
abbrev FM := List PyData → Option Ret
def RetP (CC : Nat → Addr) (F H : Hp) (Q : VK) (E : XK) : Ret → Prop
  | .ok d => ∀ v F' H', Grow F H F' H' → Dv F' v d → Q v H'
  | .er c => ∀ H', Same H H' → E (.ref (CC c)) none H'
def spD (CC : Nat → Addr) (g : FM) (n : Nat) : Sp := fun vs H Q E => ∃ ds F r, Same F H ∧ Dvs F vs ds ∧ ds.length = n ∧ g ds = some r ∧ RetP CC F H Q E r
structure FnD (CC : Nat → Addr) (P : Program) (w : World) (K : PySem.W.Frag) (mg : Str → Option Value) (base : Heap) (k : Nat) (x : Str) (ps : List Str) (g : FM) : Prop where
  ex : ∃ f fd, FnOk P w K mg base (L2N.CX P w) k f fd ps (spD CC g ps.length) ∧ mg x = some (.ref f) ∧ PySem.W.keepIn K (.ref f) = true ∧ Binds K fd ps []
def okOf : Ret → Option PyData
  | .ok d => some d
  | .er _ => none
def eCall (g : FM) (n : Nat) (m : AM) : EM := fun ρ => bind1 (m ρ) fun ds => if ds.length = n then bind1 (g ds) okOf else none
theorem passN {X : Cx} : Passes (L2N.CX X.prog X.w) X E0 := fun _ _ _ _ _ _ _ h => by
  obtain ⟨_, _, _, _, _, _, _, _, _, _, _, _, z⟩ := h
  exact z.elim
section
variable {X : Cx} {CC : Nat → Addr} {k : Nat} {x : Str} {ps : List Str} {g : FM} {e : Expr} {es : List Expr} {m : AM} {p pos : Pos}
theorem ed_call (G : FnD CC X.prog X.w X.K X.mg X.base k x ps g) (hr : Room k X.A) (hg : Gl X x) (ha : AD X (e :: es) m)
    (hdb : (x == ("__debug__" : Str)) = false := by decide) (he : starEach (e :: es) X.env = (false, eval e X.env) :: starEach es X.env := by rfl) (hpl : (backTo pos (starEach es X.env)).any (·.1) = false := by rfl) :
    ED X (.Call (.Name x p) (e :: es) [] pos) (eCall g ps.length m) := by
  obtain ⟨f, fd, hf, hm, hk, hb⟩ := G.ex
  obtain ⟨t, pt, et⟩ := ha.ex
  refine ⟨⟨_, pe_call hf hr hg hm hk hb .nil passN pt hdb he hpl, fun ρ d hd σ F H R Q q => ?_⟩⟩
  obtain ⟨ds, h1, hd⟩ := bind1_some hd
  split at hd
  · rename_i hl
    obtain ⟨r, h2, hd⟩ := bind1_some hd
    cases r with
    | er c => cases hd
    | ok d' =>
      cases hd
      refine et ρ ds h1 σ F H R _ fun vs F1 H1 g1 d1 => ?_
      rw [List.append_nil]
      exact ⟨ds, F1, _, g1.sub, d1, hl, h2, fun v F2 H2 g2 d2 => q v F2 H2 (g1.trans g2) d2⟩
  · cases hd
end

/-! ### what is stored: data, or a list of the name's own -/
abbrev XM := En → Option Sl
def SlIs (F' H' H : Hp) (v : V) : Sl → Prop
  | .no => False
  | .dat d => Dv F' v d
  | .own ds => ∃ a vs, v = .ref a ∧ H' a = some (.lst vs) ∧ F' a = none ∧ H a = none ∧ Dvs F' vs ds
structure XD (X : Cx) (e : Expr) (f : XM) : Prop where
  ex : ∃ t : TE, PE X e t ∧ ∀ ρ s, f ρ = some s → ∀ σ F H, Rel ρ σ F H → ∀ Q : VK, (∀ v F' H', Grow F H F' H' → SlIs F' H' H v s → Q v H') → t σ H Q
def xDat (f : EM) : XM := fun ρ => bind1 (f ρ) fun d => some (.dat d)
def xOwn (m : AM) : XM := fun ρ => bind1 (m ρ) fun ds => if ds.length ≤ 1000 then some (.own ds) else none
section
variable {X : Cx} {e : Expr} {es : List Expr} {f : EM} {m : AM} {pos : Pos}
theorem xd_dat (h : ED X e f) : XD X e (xDat f) := by
  obtain ⟨t, p, et⟩ := h.ex
  refine ⟨⟨t, p, fun ρ s hs σ F H R Q q => ?_⟩⟩
  obtain ⟨d, h1, h2⟩ := bind1_some hs
  cases h2
  exact et ρ d h1 σ F H R Q q
theorem xd_own (h : AD X es m) : XD X (.List es pos) (xOwn m) := by
  obtain ⟨t, p, et⟩ := h.ex
  refine ⟨⟨_, pe_lst p, fun ρ s hs σ F H R Q q => ?_⟩⟩
  obtain ⟨ds, h1, h2⟩ := bind1_some hs
  split at h2
  · rename_i hl
    cases h2
    refine et ρ ds h1 σ F H R _ fun vs F1 H1 g1 d1 => ⟨by rw [d1.length]; exact small hl, fun a ha => ?_⟩
    exact q (.ref a) F1 _ (g1.trans (Grow.loose g1.sub ha)) ⟨a, vs, rfl, upd_same, Same.none g1.sub ha, g1.h.free ha, d1⟩
  · cases h2
end
theorem RelS.put {F0 H0 F H F' H' : Hp} {ρ : En} {σ : L2.St} {i : Nat} {v : V} {s : Sl} (R : RelS F0 H0 ρ σ F H) (g : Grow F H F' H') (h : SlIs F' H' H v s) : RelS F0 H0 (ρ.set i s) (σ.set i (some v)) F' H' := by
  have R' := R.grow g
  cases s with
  | no => exact h.elim
  | dat d => exact R'.set h
  | own ds =>
    obtain ⟨a, vs, rfl, h1, h2, h3, h4⟩ := h
    have na : ∀ j es b, ρ[j]? = some (Sl.own es) → σ[j]? = some (some (V.ref b)) → b ≠ a := fun j es b e1 e2 z => by
      obtain ⟨c, ws, q1, q2, _⟩ := R.r.own j es e1
      rw [e2] at q1
      cases q1
      rw [z, h3] at q2
      cases q2
    have h0 : H0 a = none := R.g.h.free h3
    refine ⟨⟨by rw [List.length_set, List.length_set, R.r.len], R'.r.sub, fun j e q => ?_, fun j es q => ?_, fun j k es gs b hjk q1 q2 q3 => ?_⟩, R'.g, fun j es b q1 q2 => ?_⟩
    · rcases get_set q with ⟨_, z⟩ | ⟨z, q⟩
      · cases z
      · rw [set_get z]
        exact R'.r.dat j e q
    · rcases get_set q with ⟨rfl, z⟩ | ⟨z, q⟩
      · cases z
        have hi : i < ρ.length := by
          have z := (List.getElem?_eq_some_iff.mp q).1
          rwa [List.length_set] at z
        exact ⟨a, vs, set_at (by rw [R.r.len]; exact hi), h1, h2, h4⟩
      · rw [set_get z]
        exact R'.r.own j es q
    · rcases get_set q1 with ⟨rfl, z⟩ | ⟨z, q1⟩
      · rcases get_set q2 with ⟨w, _⟩ | ⟨w, q2⟩
        · exact absurd w hjk
        · rw [set_get w]
          intro y
          have hi : i < σ.length := by
            have z := (List.getElem?_eq_some_iff.mp q3).1
            rwa [List.length_set] at z
          rw [set_at hi] at q3
          cases q3
          exact na k gs a q2 y rfl
      · rcases get_set q2 with ⟨rfl, _⟩ | ⟨w, q2⟩
        · rw [set_get z] at q3
          intro y
          have hi : i < σ.length := by
            have z := (List.getElem?_eq_some_iff.mp y).1
            rwa [List.length_set] at z
          rw [set_at hi] at y
          cases y
          exact na j es a q1 q3 rfl
        · rw [set_get z] at q3
          rw [set_get w]
          exact R.r.apart j k es gs b hjk q1 q2 q3
    · rcases get_set q1 with ⟨rfl, z⟩ | ⟨z, q1⟩
      · have hi : i < σ.length := by
          have z := (List.getElem?_eq_some_iff.mp q2).1
          rwa [List.length_set] at z
        rw [set_at hi] at q2
        cases q2
        exact h0
      · rw [set_get z] at q2
        exact R.fresh j es b q1 q2

/-! ### statements -/
inductive Out where
  | nx (ρ : En)
  | rt (d : PyData)
  | er (c : Nat)
abbrev SM := En → Option Out
def Post (CC : Nat → Addr) (E : XK) (F0 H0 Fi : Hp) (D : Ends) : Out → Prop
  | .nx ρ => ∀ σ F H, RelS F0 H0 ρ σ F H → Same Fi F → D.nx σ H
  | .rt d => ∀ v F H, Grow F0 H0 F H → Dv F v d → D.rt v H
  | .er c => ∀ H, Same H0 H → E (.ref (CC c)) none H
theorem Post.mono {CC : Nat → Addr} {E : XK} {F0 H0 F F1 : Hp} {D : Ends} {o : Out} (e : Same F F1) (q : Post CC E F0 H0 F D o) : Post CC E F0 H0 F1 D o := by
  cases o with
  | nx ρ => exact fun σ F2 H2 R s => q σ F2 H2 R (e.trans s)
  | rt d => exact q
  | er c => exact q
structure SD (CC : Nat → Addr) (E : XK) (X : Cx) (st : Stmt) (f : SM) : Prop where
  ex : ∃ t : TS, PS X st t ∧ ∀ ρ o, f ρ = some o → ∀ σ F H F0 H0 D, RelS F0 H0 ρ σ F H → Post CC E F0 H0 F D o → t D σ H
structure SDs (CC : Nat → Addr) (E : XK) (X : Cx) (st : List Stmt) (f : SM) : Prop where
  ex : ∃ t : TS, PSs X st t ∧ ∀ ρ o, f ρ = some o → ∀ σ F H F0 H0 D, RelS F0 H0 ρ σ F H → Post CC E F0 H0 F D o → t D σ H
def andThen (g : SM) : Out → Option Out
  | .nx ρ => g ρ
  | o => some o
def sNil : SM := fun ρ => some (.nx ρ)
def sSeq (f g : SM) : SM := fun ρ => bind1 (f ρ) (andThen g)
def sIf (c : TM) (f g : SM) : SM := fun ρ => bind1 (c ρ) fun b => if b = true then f ρ else g ρ
def sRet (f : EM) : SM := fun ρ => bind1 (f ρ) fun d => some (.rt d)
def sSet (i : Nat) (f : XM) : SM := fun ρ => bind1 (f ρ) fun s => some (.nx (ρ.set i s))
def sPar (i j : Nat) (f g : XM) : SM := fun ρ => bind1 (f ρ) fun s => bind1 (g ρ) fun u => some (.nx ((ρ.set i s).set j u))
def sBind (f : EM) (b : BM) : SM := fun ρ => bind1 (f ρ) fun d => bind1 (b d ρ) fun ρ' => some (.nx ρ')
def forGo (b : BM) (f : SM) : List PyData → SM
  | [] => sNil
  | x :: xs => fun ρ => bind1 (b x ρ) fun ρ1 => bind1 (f ρ1) (andThen (forGo b f xs))
def sFor (it : AM) (b : BM) (f : SM) : SM := fun ρ => bind1 (it ρ) fun items => forGo b f items ρ
def ownOf (ρ : En) (i : Nat) : Option (List PyData) := match ρ[i]? with
  | some (Sl.own ds) => some ds
  | _ => none
def sApp (i : Nat) (f : EM) : SM := fun ρ => bind1 (ownOf ρ i) fun ds => bind1 (f ρ) fun d => if ds.length ≤ 1000 then some (.nx (ρ.set i (.own (ds ++ [d])))) else none
def sMove (i j : Nat) : SM := fun ρ => bind1 (ownOf ρ j) fun ds => some (.nx ((ρ.set j (.dat (.list ds))).set i (.dat (.list ds))))
def sRetOwn (j : Nat) : SM := fun ρ => bind1 (ownOf ρ j) fun ds => some (.rt (.list ds))
def eTupOwn (j : Nat) : EM := fun ρ => bind1 (ownOf ρ j) fun ds => some (.tuple ds)
def sRaise (c : Nat) : SM := fun _ => some (.er c)
def callEnd (ρ : En) : Ret → Out
  | .ok _ => .nx ρ
  | .er c => .er c
def sCall (g : FM) (n : Nat) (m : AM) : SM := fun ρ => bind1 (m ρ) fun ds => if ds.length = n then bind1 (g ds) fun r => some (callEnd ρ r) else none
theorem ownOf_some {ρ : En} {i : Nat} {ds : List PyData} (h : ownOf ρ i = some ds) : ρ[i]? = some (Sl.own ds) := by
  unfold ownOf at h
  split at h
  · rename_i e
    cases h
    exact e
  · cases h
section
variable {CC : Nat → Addr} {E : XK} {X : Cx} {st : Stmt} {rest body : List Stmt} {e : Expr} {f g : SM} {fe : EM} {fx gx : XM} {ft : TM} {pos : Pos}
theorem sd_nil : SDs CC E X [] sNil := by
  refine ⟨⟨_, pss_nil, fun ρ o ho σ F H F0 H0 D R q => ?_⟩⟩
  cases ho
  exact q σ F H R (Same.refl F)
theorem sd_cons (h1 : SD CC E X st f) (h2 : SDs CC E X rest g) : SDs CC E X (st :: rest) (sSeq f g) := by
  obtain ⟨t1, p1, e1⟩ := h1.ex
  obtain ⟨t2, p2, e2⟩ := h2.ex
  refine ⟨⟨_, pss_cons p1 p2, fun ρ o ho σ F H F0 H0 D R q => ?_⟩⟩
  obtain ⟨o1, h3, h4⟩ := bind1_some ho
  refine e1 ρ o1 h3 σ F H F0 H0 { D with nx := t2 D } R ?_
  cases o1 with
  | nx ρ1 => exact fun σ1 F1 H1 R1 s1 => e2 ρ1 o h4 σ1 F1 H1 F0 H0 D R1 (q.mono s1)
  | rt d =>
    cases h4
    exact q
  | er c =>
    cases h4
    exact q
theorem sd_one (h1 : SD CC E X st f) : SDs CC E X [st] f := by
  obtain ⟨t1, p1, e1⟩ := h1.ex
  exact ⟨⟨_, pss_one p1, e1⟩⟩
theorem sd_if {c : Expr} {a b : List Stmt} (hc : TD X c ft) (ha : SDs CC E X a f) (hb : SDs CC E X b g) : SD CC E X (.If c a b pos) (sIf ft f g) := by
  obtain ⟨tc, pc, ec⟩ := hc.ex
  obtain ⟨ta, pa, ea⟩ := ha.ex
  obtain ⟨tb, pb, eb⟩ := hb.ex
  refine ⟨⟨_, ps_if pc pa pb, fun ρ o ho σ F H F0 H0 D R q => ?_⟩⟩
  obtain ⟨b1, h3, h4⟩ := bind1_some ho
  refine ec ρ b1 h3 σ F H R.r _ fun F1 H1 g1 => ?_
  cases b1 with
  | true => exact ea ρ o h4 σ F1 H1 F0 H0 D (R.grow g1) (q.mono g1.f)
  | false => exact eb ρ o h4 σ F1 H1 F0 H0 D (R.grow g1) (q.mono g1.f)
theorem sd_ret (h : ED X e fe) : SD CC E X (.Return (some e) pos) (sRet fe) := by
  obtain ⟨t, p, et⟩ := h.ex
  refine ⟨⟨_, ps_ret p, fun ρ o ho σ F H F0 H0 D R q => ?_⟩⟩
  obtain ⟨d, h1, h2⟩ := bind1_some ho
  cases h2
  exact et ρ d h1 σ F H R.r _ fun v F1 H1 g1 d1 => q v F1 H1 (R.g.trans g1) d1
theorem sd_set (i : Nat) {x : Str} {pos' : Pos} (hN : X.N.Nodup) (hi : X.N[i]? = some x) (hx : Loc X.env.scope x) (he : XD X e fx) (hs : swapsWith e (some (.Name x pos')) pos.line X.env = pure false := by rfl)
    (hf : X.fn x = true ∨ X.env.scope.names.lookup x = some .local := by first | exact .inl rfl | exact .inr rfl | assumption) : SD CC E X (.Assign [.Name x pos'] e pos) (sSet i fx) := by
  obtain ⟨t, p, et⟩ := he.ex
  refine ⟨⟨_, ps_set hN hi hx p hs hf, fun ρ o ho σ F H F0 H0 D R q => ?_⟩⟩
  obtain ⟨s, h1, h2⟩ := bind1_some ho
  cases h2
  exact et ρ s h1 σ F H R.r _ fun v F1 H1 g1 d1 => q _ F1 H1 (R.put g1 d1) g1.f
theorem SlIs.grow {F' H' H F2 H2 : Hp} {v : V} {s : Sl} (h : SlIs F' H' H v s) (g : Grow F' H' F2 H2) : SlIs F2 H2 H v s := by
  cases s with
  | no => exact h.elim
  | dat d => exact Dv.mono g.f h
  | own ds =>
    obtain ⟨a, vs, rfl, h1, h2, h3, h4⟩ := h
    exact ⟨a, vs, rfl, g.h _ _ h1, by rw [g.old a (by rw [h1]; simp), h2], h3, h4.mono g.f⟩
theorem sd_par {i j : Nat} {x y : Str} {a b : Expr} {px py pt : Pos} {kt k2 : Nat} {pt2 : Pos} (hc : X.calm = true) (hN : X.N.Nodup) (hi : X.N[i]? = some x) (hj : X.N[j]? = some y) (hij : i ≠ j)
    (hx : X.env.scope.names.lookup x = some .local) (hy : X.env.scope.names.lookup y = some .local) (ha : XD X a fx) (hb : XD X b gx)
    (hw : swappedStores [.Tuple [.Name x px, .Name y py] kt pt] (.Tuple [a, b] k2 pt2) X.env = pure (some [x, y]))
    (hs : swapsWithSole [.Tuple [.Name x px, .Name y py] kt pt] (.Tuple [a, b] k2 pt2) pos.line X.env = pure false := by rfl)
    (h1 : starEach [a, b] X.env = (false, eval a X.env) :: starEach [b] X.env := by rfl) (h2 : starEach [b] X.env = (false, eval b X.env) :: starEach [] X.env := by rfl) :
    SD CC E X (.Assign [.Tuple [.Name x px, .Name y py] kt pt] (.Tuple [a, b] k2 pt2) pos) (sPar i j fx gx) := by
  obtain ⟨ta, pa, ea⟩ := ha.ex
  obtain ⟨tb, pb, eb⟩ := hb.ex
  refine ⟨⟨_, ps_par hc hN hi hj hij hx hy (pa_cons pa (pa_cons pb pa_nil h2) h1) hw hs, fun ρ o ho σ F H F0 H0 D R q => ?_⟩⟩
  obtain ⟨s, h3, h4⟩ := bind1_some ho
  obtain ⟨u, h5, h6⟩ := bind1_some h4
  cases h6
  refine ea ρ s h3 σ F H R.r _ fun v F1 H1 g1 d1 => ?_
  refine eb ρ u h5 σ F1 H1 (R.r.grow g1) _ fun v2 F2 H2 g2 d2 => ?_
  exact ⟨v, v2, rfl, q _ F2 H2 ((R.put g1 d1).put g2 d2) (g1.f.trans g2.f)⟩
theorem sd_bind {tg : Expr} {is : List Nat} {b : BM} (he : ED X e fe) (hb : BD X tg is b) (hs : swapsWithSole [tg] e pos.line X.env = pure false := by rfl) (hw : swappedStores [tg] e X.env = pure none := by rfl)
    (h1 : (assignEach [tg] X.env).map (·.2) = [assign tg X.env] := by rfl) : SD CC E X (.Assign [tg] e pos) (sBind fe b) := by
  obtain ⟨t, p, et⟩ := he.ex
  obtain ⟨gb, pb, eb⟩ := hb.ex
  refine ⟨⟨_, ps_asg p pb hs hw h1, fun ρ o ho σ F H F0 H0 D R q => ?_⟩⟩
  obtain ⟨d, h2, h3⟩ := bind1_some ho
  obtain ⟨ρ', h4, h5⟩ := bind1_some h3
  cases h5
  refine et ρ d h2 σ F H R.r _ fun v F1 H1 g1 d1 => ?_
  exact eb ρ d ρ' h4 σ F1 H1 v (R.r.grow g1) d1 _ fun σ' _ S _ => q σ' F1 H1 (S F0 H0 (R.grow g1)) g1.f
theorem sd_for {tg iter : Expr} {is : List Nat} {it : AM} {b : BM} (hp : PassesOwn (model X.prog X.w) X.A X.env X.xe) (hc : X.calm = true) (hi : ID X tg iter it) (hb : BD X tg is b) (hbody : SDs CC E X body f)
    (hs : ∀ x, foldedSetIterable iter X.env x = pure x := by intro _; rfl) : SD CC E X (.For tg iter body [] pos) (sFor it b f) := by
  obtain ⟨wi, pi, ei⟩ := hi.ex
  obtain ⟨gb, pb, eb⟩ := hb.ex
  obtain ⟨tb, ptb, etb⟩ := hbody.ex
  refine ⟨⟨_, ps_for hp hc pi pb ptb hs, fun ρ o ho σ F H F0 H0 D R q => ?_⟩⟩
  obtain ⟨items, h1, h2⟩ := bind1_some ho
  refine ei ρ items h1 σ F H R.r _ fun J F1 H1 g1 wk => ?_
  have R1 := R.grow g1
  refine ⟨fun i m σ' H' => m = items.length - i ∧ i ≤ items.length ∧ ∃ ρ' F', RelS F0 H0 ρ' σ' F' H' ∧ Same F1 F' ∧ forGo b f (items.drop i) ρ' = some o, ⟨items.length, by simp, Nat.zero_le _, ρ, F1, R1, Same.refl _, by rw [List.drop_zero]; exact h2⟩, ?_⟩
  rintro i m σ' H' ⟨rfl, hi, ρ', F', R', sF, hgo⟩
  by_cases hlt : i < items.length
  · refine .inr ⟨wk.go i F' H' hlt sF R'.r.sub, fun σ2 H2 => i + 1 ≤ items.length ∧ ∃ ρ' F', RelS F0 H0 ρ' σ2 F' H2 ∧ Same F1 F' ∧ forGo b f (items.drop (i + 1)) ρ' = some o,
      fun σ2 H2 ⟨a, z⟩ => ⟨items.length - (i + 1), by omega, rfl, a, z⟩, fun x H2 y => ?_⟩
    obtain ⟨F2, d, hdi, g2, dx⟩ := wk.yld i F' H' x H2 hlt sF R'.r.sub y
    have hdrop : items.drop i = d :: items.drop (i + 1) := by
      have z : items[i]? = some items[i] := List.getElem?_eq_getElem hlt
      rw [z] at hdi
      cases hdi
      exact List.drop_eq_getElem_cons hlt
    rw [hdrop] at hgo
    obtain ⟨ρ1, b1, hgo⟩ := bind1_some hgo
    obtain ⟨o1, f1, hgo⟩ := bind1_some hgo
    have R2 := R'.grow g2
    refine eb ρ' d ρ1 b1 σ' F2 H2 x R2.r dx _ fun σ3 _ S3 _ => ?_
    refine etb ρ1 o1 f1 σ3 F2 H2 F0 H0 _ (S3 F0 H0 R2) ?_
    cases o1 with
    | nx ρ2 =>
      exact fun σ4 F4 H4 R4 s4 => ⟨hlt, ρ2, F4, R4, (sF.trans g2.f).trans s4, hgo⟩
    | rt d =>
      cases hgo
      exact q
    | er c =>
      cases hgo
      exact q
  · have e0 : i = items.length := by omega
    subst e0
    rw [List.drop_length] at hgo
    cases hgo
    exact .inl ⟨wk.stop F' H' sF R'.r.sub, q σ' F' H' R' (g1.f.trans sF)⟩
/-- x.append(e), x a list of the name's own -/
theorem sd_app (i : Nat) {x : Str} {px pa pc : Pos} (hN : X.N[i]? = some x) (hv : Vis X.env.scope x) (he : ED X e fe)
    (hd : (x == ("__debug__" : Str)) = false := by decide) (hcd : (x == ("__classdict__" : Str)) = false := by decide)
    (hs : swapsWith (.Call (.Attribute (.Name x px) "append" pa) [e] [] pc) none pos.line X.env = pure false := by rfl) (hp : PE X (.Call (.Attribute (.Name x px) "append" pa) [e] [] pc) (tBM X.K "list" rAppend (tVar i) (tCons (tDE fe) tNil))) :
    SD CC E X (.Expr (.Call (.Attribute (.Name x px) "append" pa) [e] [] pc) pos) (sApp i fe) := by
  refine ⟨⟨_, ps_expr hp hs, fun ρ o ho σ F H F0 H0 D R q => ?_⟩⟩
  obtain ⟨ds, h1, h2⟩ := bind1_some ho
  obtain ⟨d, h3, h4⟩ := bind1_some h2
  split at h4
  · rename_i hl
    cases h4
    have h5 := ownOf_some h1
    obtain ⟨a, vs, h6, h7, h8, h9⟩ := R.r.own i ds h5
    refine ⟨.ref a, h6, .inl ⟨rfl, vs, .inl (.inl h7)⟩, ρ, d, F, h3, R.r, fun v F1 H1 g1 d1 => ?_⟩
    have R1 := R.grow g1
    have h7' : H1 a = some (.lst vs) := g1.h _ _ h7
    refine ⟨a, vs, v, rfl, rfl, h7', by rw [h9.length]; exact Nat.lt_of_le_of_lt hl (by decide), ?_⟩
    exact q _ F1 _ (R1.push h5 h6 h7' d1) g1.f
  · cases h4
/-- an own list becomes data -/
theorem RelS.freeze {F0 H0 F H : Hp} {ρ : En} {σ : L2.St} {j : Nat} {ds : List PyData} (R : RelS F0 H0 ρ σ F H) (h : ρ[j]? = some (Sl.own ds)) :
    ∃ a vs, σ[j]? = some (some (V.ref a)) ∧ H0 a = none ∧ H a = some (.lst vs) ∧ F a = none ∧ Dvs F vs ds ∧ RelS F0 H0 (ρ.set j (.dat (.list ds))) σ (upd F a (.lst vs)) H := by
  obtain ⟨a, vs, h1, h2, h3, h4⟩ := R.r.own j ds h
  have h0 := R.fresh j ds a h h1
  have g0 : Grow F0 H0 (upd F a (.lst vs)) H := R.g.freeze h0 h2 h3
  have sF : Same F (upd F a (.lst vs)) := same_upd h3
  have nb : ∀ k es b, j ≠ k → ρ[k]? = some (Sl.own es) → σ[k]? = some (some (V.ref b)) → b ≠ a := fun k es b hjk e1 e2 z => by
    rw [z] at e2
    exact R.r.apart j k ds es a hjk h e1 h1 e2
  refine ⟨a, vs, h1, h0, h2, h3, h4, ⟨by rw [List.length_set, R.r.len], g0.sub, fun k d e => ?_, fun k es e => ?_, fun k l es gs b hkl e1 e2 e3 => ?_⟩, g0, fun k es b e1 e2 => ?_⟩
  · rcases get_set e with ⟨rfl, z⟩ | ⟨z, e⟩
    · cases z
      exact ⟨.ref a, h1, .lst upd_same (h4.mono sF)⟩
    · obtain ⟨v, q1, q2⟩ := R.r.dat k d e
      exact ⟨v, q1, q2.mono sF⟩
  · rcases get_set e with ⟨_, z⟩ | ⟨z, e⟩
    · cases z
    · obtain ⟨b, ws, q1, q2, q3, q4⟩ := R.r.own k es e
      exact ⟨b, ws, q1, q2, by rw [upd_ne (nb k es b z e q1)]; exact q3, q4.mono sF⟩
  · rcases get_set e1 with ⟨_, z⟩ | ⟨_, e1⟩
    · cases z
    · rcases get_set e2 with ⟨_, z⟩ | ⟨_, e2⟩
      · cases z
      · exact R.r.apart k l es gs b hkl e1 e2 e3
  · rcases get_set e1 with ⟨_, z⟩ | ⟨_, e1⟩
    · cases z
    · exact R.fresh k es b e1 e2
/-- x = y, y a list of its own -/
theorem sd_move (i j : Nat) {x y : Str} {pos' py : Pos} (hN : X.N.Nodup) (hi : X.N[i]? = some x) (hx : Loc X.env.scope x) (hj : X.N[j]? = some y) (hv : Vis X.env.scope y) (hs : swapsWith (.Name y py) (some (.Name x pos')) pos.line X.env = pure false := by rfl)
    (hf : X.fn x = true ∨ X.env.scope.names.lookup x = some .local := by first | exact .inl rfl | exact .inr rfl | assumption) (hd : (y == ("__debug__" : Str)) = false := by decide) (hcd : (y == ("__classdict__" : Str)) = false := by decide) :
    SD CC E X (.Assign [.Name x pos'] (.Name y py) pos) (sMove i j) := by
  refine ⟨⟨_, ps_set hN hi hx (pe_var hj hv hd hcd) hs hf, fun ρ o ho σ F H F0 H0 D R q => ?_⟩⟩
  obtain ⟨ds, h1, h2⟩ := bind1_some ho
  cases h2
  obtain ⟨a, vs, e1, e2, e3, e4, e5, R'⟩ := R.freeze (ownOf_some h1)
  have sF : Same F (upd F a (.lst vs)) := same_upd e4
  exact ⟨.ref a, e1, q _ _ H (R'.set (.lst upd_same (e5.mono sF))) sF⟩
theorem sd_retOwn (j : Nat) {y : Str} {py : Pos} (hj : X.N[j]? = some y) (hv : Vis X.env.scope y) (hd : (y == ("__debug__" : Str)) = false := by decide) (hcd : (y == ("__classdict__" : Str)) = false := by decide) :
    SD CC E X (.Return (some (.Name y py)) pos) (sRetOwn j) := by
  refine ⟨⟨_, ps_ret (pe_var hj hv hd hcd), fun ρ o ho σ F H F0 H0 D R q => ?_⟩⟩
  obtain ⟨ds, h1, h2⟩ := bind1_some ho
  cases h2
  obtain ⟨a, vs, e1, e2, e3, e4, e5, R'⟩ := R.freeze (ownOf_some h1)
  exact ⟨.ref a, e1, q _ _ H R'.g (.lst upd_same (e5.mono (same_upd e4)))⟩
/-- tuple(x), x a list of the name's own -/
theorem ed_tupOwn (j : Nat) {y x : Str} {py p pos : Pos} (hj : X.N[j]? = some y) (hv : Vis X.env.scope y) (hg : Gl X x) (hm : X.mg x = none) (hb : bootBuiltins x = some (.type "tuple"))
    (hd : (y == ("__debug__" : Str)) = false := by decide) (hcd : (y == ("__classdict__" : Str)) = false := by decide) (hn : x ≠ "__name__" := by decide) (hdb : (x == ("__debug__" : Str)) = false := by decide)
    (he : starEach [.Name y py] X.env = (false, eval (.Name y py) X.env) :: starEach [] X.env := by rfl) (hpl : (backTo pos (starEach [] X.env)).any (·.1) = false := by rfl) :
    ED X (.Call (.Name x p) [.Name y py] [] pos) (eTupOwn j) := by
  refine ⟨⟨_, pe_callTy call_tuple_of hg hm hb (pa_cons (pe_var hj hv hd hcd) pa_nil he) hn hdb he hpl, fun ρ d hd σ F H R Q q => ?_⟩⟩
  obtain ⟨ds, h1, h2⟩ := bind1_some hd
  cases h2
  obtain ⟨a, vs, e1, e2, e3, e4⟩ := R.own j ds (ownOf_some h1)
  refine ⟨.ref a, e1, a, vs, rfl, .inl ⟨.inl (.inl e2), fun l hl => ?_⟩⟩
  have g := Grow.new (o := .tup vs) R.sub hl
  exact q _ _ _ g (.tup upd_same (e4.mono g.f))
/-- f(..) as a statement: it may raise -/
theorem sd_call {k : Nat} {x : Str} {ps : List Str} {gm : FM} {es : List Expr} {m : AM} {p pc : Pos} (G : FnD CC X.prog X.w X.K X.mg X.base k x ps gm) (hr : Room k X.A) (hg : Gl X x) (tk : L2N.Takes X (fun cls d _ H => E cls d H)) (ha : AD X (e :: es) m)
    (hdb : (x == ("__debug__" : Str)) = false := by decide) (he : starEach (e :: es) X.env = (false, eval e X.env) :: starEach es X.env := by rfl) (hpl : (backTo pc (starEach es X.env)).any (·.1) = false := by rfl)
    (hs : swapsWith (.Call (.Name x p) (e :: es) [] pc) none pos.line X.env = pure false := by rfl) :
    SD CC E X (.Expr (.Call (.Name x p) (e :: es) [] pc) pos) (sCall gm ps.length m) := by
  obtain ⟨f, fd, hf, hm, hk, hb⟩ := G.ex
  obtain ⟨t, pt, et⟩ := ha.ex
  refine ⟨⟨_, ps_expr (pe_callS hf hr hg hm hk hb (fun σ => L2N.passAt tk σ) pt hdb he hpl) hs, fun ρ o ho σ F H F0 H0 D R q => ?_⟩⟩
  obtain ⟨ds, h1, h2⟩ := bind1_some ho
  split at h2
  · rename_i hl
    obtain ⟨r, h3, h4⟩ := bind1_some h2
    cases h4
    refine et ρ ds h1 σ F H R.r _ fun vs F1 H1 g1 d1 => ⟨ds, F1, r, g1.sub, d1, hl, h3, ?_⟩
    cases r with
    | ok d => exact fun v F2 H2 g2 d2 => q σ F2 H2 (R.grow (g1.trans g2)) (g1.trans g2).f
    | er c => exact fun H2 s2 => q H2 ((R.g.trans g1).h.trans s2)
  · cases h2
/-- raise C('..') -/
theorem sd_raise {x m : Str} {c j : Nat} {p p2 pc : Pos} {bmB : List Value} {B newId initId : String} (hc : X.calm = true) (tk : L2N.Takes X (fun cls d _ H => E cls d H)) (Fx : ExcBaseFacts B newId initId bmB) (qx : PySem.W.excIn X.K (CC c) bmB newId = true) (gC : X.mg x = some (.ref (CC c)))
    (kC : PySem.W.keepIn X.K (.ref (CC c)) = true) (r : Raises X (.ref (CC c))) (hg : Gl X x) (hdb : (x == ("__debug__" : Str)) = false := by decide) :
    SD CC E X (.Raise (some (.Call (.Name x p) [.Constant (.str m) j p2] [] pc)) none pos) (sRaise c) := by
  refine ⟨⟨_, L2N.ps_raise hc tk (L2N.pmk_own Fx qx gC kC r hg hdb), fun ρ o ho σ F H F0 H0 D R q => ?_⟩⟩
  cases ho
  exact q H R.g.h
/-- x = [.. for ..] -/
theorem sd_setLc {i : Nat} {y : Str} {py : Pos} {elt tg iter : Expr} {ifs : List Expr} {scope : Scope} {own : List (Str × Nat)} {is : List Nat} {b : BM} {t : TM} {ee : EM} {it : AM} {spos : Pos} (hc : X.calm = true) (hN : X.N.Nodup) (hy : X.N[i]? = some y) (hyl : X.env.scope.names.lookup y = some .local)
    (hsw : swapsWith (.ListComp elt [⟨tg, iter, ifs, 0⟩] scope pos) (some (.Name y py)) spos.line X.env = pure true) (hi : ID X tg iter it) (C : CompD X elt tg ifs scope own is b t ee) (hs : ∀ x, foldedSetIterable iter X.env x = pure x := by intro _; rfl) :
    SD CC E X (.Assign [.Name y py] (.ListComp elt [⟨tg, iter, ifs, 0⟩] scope pos) spos) (sSet i (xDat (eLc it b t ee (own.map (·.2))))) := by
  obtain ⟨wi, pi, ei⟩ := hi.ex
  refine ⟨⟨_, ps_setLc hc hN hy hyl hsw pi C.ok (fun s H A cl fp => (C.bd s H A cl fp).pg) C.td (fun s H A cl fp => (C.ed s H A cl fp).pe) hs, fun ρ o ho σ F H F0 H0 D R q => ?_⟩⟩
  obtain ⟨s, h1, h2⟩ := bind1_some ho
  obtain ⟨d, h3, h4⟩ := bind1_some h1
  obtain ⟨ys, h5, h6⟩ := bind1_some h3
  cases h2
  cases h4
  cases h6
  refine lc_read ei C.sub h5 R.r fun a F' H' ws g n1 n2 h3 h4 => ?_
  have g2 := g.freeze n1 h3 n2
  exact q _ _ H' ((R.grow g2).set (.lst upd_same (h4.mono (same_upd n2)))) g2.f
end

/-! ### a def -/
def outOf : Out → Ret
  | .nx _ => .ok .none
  | .rt d => .ok d
  | .er c => .er c
def startE (n : Nat) (ds : List PyData) : En := ds.map Sl.dat ++ List.replicate (n - ds.length) .no
def runM (n : Nat) (f : SM) : FM := fun ds => bind1 (f (startE n ds)) fun o => some (outOf o)
theorem rel_start {N : List Str} {vs : List V} {ds : List PyData} {F H : Hp} (s : Same F H) (r : Dvs F vs ds) (hl : ds.length ≤ N.length) : RelS F H (startE N.length ds) (L2.start N vs) F H := by
  have noOwn : ∀ (i : Nat) es, (startE N.length ds)[i]? ≠ some (Sl.own es) := fun i es h => by
    unfold startE at h
    by_cases hi : i < ds.length
    · rw [List.getElem?_append_left (by simpa using hi), List.getElem?_map] at h
      cases e : ds[i]? with
      | none => rw [e] at h; cases h
      | some d => rw [e] at h; cases h
    · rw [List.getElem?_append_right (by simpa using hi), List.getElem?_replicate] at h
      split at h <;> cases h
  refine ⟨⟨?_, s, fun i d h => ?_, fun i es h => absurd h (noOwn i es), fun i j es gs a _ h => absurd h (noOwn i es)⟩, Grow.refl s, fun i es a h => absurd h (noOwn i es)⟩
  · unfold L2.start startE
    rw [List.length_append, List.length_append, List.length_map, List.length_map, List.length_replicate, List.length_replicate, r.length]
  · unfold startE at h
    by_cases hi : i < ds.length
    · rw [List.getElem?_append_left (by simpa using hi), List.getElem?_map] at h
      cases e : ds[i]? with
      | none => rw [e] at h; cases h
      | some d' =>
        rw [e] at h
        cases h
        obtain ⟨v, h1, h2⟩ := r.get e
        refine ⟨v, ?_, h2⟩
        unfold L2.start
        rw [List.getElem?_append_left (by rw [List.length_map, r.length]; exact hi), List.getElem?_map, h1]
        rfl
    · rw [List.getElem?_append_right (by simpa using hi), List.getElem?_replicate] at h
      split at h <;> cases h
section
variable {CC : Nat → Addr} {P : Program} {w : World} {K : PySem.W.Frag} {mg : Str → Option Value} {base : Heap}
theorem fn_sd {x : Str} {st : Stmt} {f : Addr} {fd : FuncData} {N ps : List Str} {k : Nat} {sm : SM} (Fn : Fun K x x st f fd) (S : FnScope N ps (defScope st)) (hm : mg x = some (.ref f)) (hb : Binds K fd ps []) (hl : ps.length ≤ N.length)
    (body : ∀ (cdv : Value) (A : Around) (outer : List Env) (s : Shared) (H : Hp) (E : XK), Room k (A.deeper (envOfC x (defScope st) s.heap.objs.size f cdv)) → SDs CC E (cxOf (L2N.CX P w) P w K mg base N x (defScope st) f cdv A outer s H E) (defBody st) sm) :
    FnD CC P w K mg base (k + 1) x ps (runM N.length sm) := by
  obtain ⟨oc, od, kV, doc, pm, an, cdv, ct, osl, rfl, lk, hcd⟩ := Fn.ex
  refine ⟨⟨f, _, fn_of lk hcd S (fun vs H Q E h => ?_) (fun A outer s H vs Q E hr h => ?_), hm, Fn.kp, hb⟩⟩
  · obtain ⟨ds, F, r, _, dv, e, _⟩ := h
    rw [dv.length, e]
  · obtain ⟨ds, F, r, sF, dv, e, hg, hp⟩ := h
    obtain ⟨t, p, et⟩ := (body cdv A outer s H E hr).ex
    obtain ⟨o, h1, h2⟩ := bind1_some hg
    cases h2
    refine ⟨t, p, et _ o h1 _ F H F H _ (rel_start sF dv (by rw [e]; exact hl)) ?_⟩
    cases o with
    | nx ρ => exact fun σ F' H' R _ => hp .non F' H' R.g .non
    | rt d => exact hp
    | er c => exact hp
end
end K6

end
-- text Fw7
section
set_option Elab.async false
set_option linter.all false
set_option autoImplicit false
set_option maxRecDepth 100000
set_option maxHeartbeats 4000000
/-! Part 7 of the frame: the names that the module leaves to the built-ins, and rules in short for them. -/
namespace K6
open PySem PySem.Spec PyProof.Rows L2

structure Txt (mg : Str → Option Value) : Prop where
  abs : mg "abs" = none
  all : mg "all" = none
  any : mg "any" = none
  enumerate : mg "enumerate" = none
  int : mg "int" = none
  bool : mg "bool" = none
  isinstance : mg "isinstance" = none
  len : mg "len" = none
  list : mg "list" = none
  max : mg "max" = none
  min : mg "min" = none
  range : mg "range" = none
  sum : mg "sum" = none
  tuple : mg "tuple" = none
  zip : mg "zip" = none
  sides : ∃ t, mg "SIDES" = some (.int 12 t)
  bounds : ∃ t, mg "BOUNDS" = some (.int 40 t)
  far : ∃ t, mg "FAR" = some (.int 40 t)
theorem bb_abs : bootBuiltins "abs" = some (.builtin "abs") := by decide +kernel
theorem bb_all : bootBuiltins "all" = some (.builtin "all") := by decide +kernel
theorem bb_any : bootBuiltins "any" = some (.builtin "any") := by decide +kernel
theorem bb_int : bootBuiltins "int" = some (.type "int") := by decide +kernel
theorem bb_bool : bootBuiltins "bool" = some (.type "bool") := by decide +kernel
theorem bb_isi : bootBuiltins "isinstance" = some (.builtin "isinstance") := by decide +kernel
theorem bb_len : bootBuiltins "len" = some (.builtin "len") := by decide +kernel
theorem bb_list : bootBuiltins "list" = some (.type "list") := by decide +kernel
theorem bb_max : bootBuiltins "max" = some (.builtin "max") := by decide +kernel
theorem bb_min : bootBuiltins "min" = some (.builtin "min") := by decide +kernel
theorem bb_sum : bootBuiltins "sum" = some (.builtin "sum") := by decide +kernel
theorem bb_tuple : bootBuiltins "tuple" = some (.type "tuple") := by decide +kernel
section
variable {X : Cx} {a b c e : Expr} {es : List Expr} {f g k : EM} {m : AM} {p1 p2 p3 : TM} {pos p : Pos} {n : Nat}
theorem nomk (b : Expr) {op : CmpOp} (h : op ≠ .In := by decide) (h2 : op ≠ .NotIn := by decide) : behindInMarks op b = false := nomark b h h2
theorem r_len (T : Txt X.mg) (hg : Gl X "len") (ha : AD X (e :: es) m) (he : starEach (e :: es) X.env = (false, eval e X.env) :: starEach es X.env := by rfl) (hpl : (backTo pos (starEach es X.env)).any (·.1) = false := by rfl) :
    ED X (.Call (.Name "len" p) (e :: es) [] pos) (eCB dLen m) := ed_callB call_len_seq n_len hg T.len bb_len ha (by decide) (by decide) he hpl
theorem r_abs (T : Txt X.mg) (hg : Gl X "abs") (ha : AD X (e :: es) m) (he : starEach (e :: es) X.env = (false, eval e X.env) :: starEach es X.env := by rfl) (hpl : (backTo pos (starEach es X.env)).any (·.1) = false := by rfl) :
    ED X (.Call (.Name "abs" p) (e :: es) [] pos) (eCB dAbs m) := ed_callB call_abs n_abs hg T.abs bb_abs ha (by decide) (by decide) he hpl
theorem r_all (T : Txt X.mg) (hc : X.calm = true) (hg : Gl X "all") (ha : AD X (e :: es) m) (he : starEach (e :: es) X.env = (false, eval e X.env) :: starEach es X.env := by rfl) (hpl : (backTo pos (starEach es X.env)).any (·.1) = false := by rfl) :
    ED X (.Call (.Name "all" p) (e :: es) [] pos) (eCB dAll m) := ed_callB (cr_all hc) n_all hg T.all bb_all ha (by decide) (by decide) he hpl
theorem r_any (T : Txt X.mg) (hc : X.calm = true) (hg : Gl X "any") (ha : AD X (e :: es) m) (he : starEach (e :: es) X.env = (false, eval e X.env) :: starEach es X.env := by rfl) (hpl : (backTo pos (starEach es X.env)).any (·.1) = false := by rfl) :
    ED X (.Call (.Name "any" p) (e :: es) [] pos) (eCB dAny m) := ed_callB (cr_any hc) n_any hg T.any bb_any ha (by decide) (by decide) he hpl
theorem r_sum (T : Txt X.mg) (hc : X.calm = true) (hg : Gl X "sum") (ha : AD X (e :: es) m) (he : starEach (e :: es) X.env = (false, eval e X.env) :: starEach es X.env := by rfl) (hpl : (backTo pos (starEach es X.env)).any (·.1) = false := by rfl) :
    ED X (.Call (.Name "sum" p) (e :: es) [] pos) (eCB dSum m) := ed_callB ((cr_sum hc).or (sum_tup hc)) n_sum hg T.sum bb_sum ha (by decide) (by decide) he hpl
theorem r_max (T : Txt X.mg) (hr : Room n X.A) (hc : X.calm = true) (hg : Gl X "max") (ha : AD X (e :: es) m) (he : starEach (e :: es) X.env = (false, eval e X.env) :: starEach es X.env := by rfl) (hpl : (backTo pos (starEach es X.env)).any (·.1) = false := by rfl) :
    ED X (.Call (.Name "max" p) (e :: es) [] pos) (eCB dMax m) := ed_callB ((cr_max hc).or ((max_tup hc (by have := hr.un; omega)).or (call_max2 hc))) n_max hg T.max bb_max ha (by decide) (by decide) he hpl
theorem r_min (T : Txt X.mg) (hr : Room n X.A) (hc : X.calm = true) (hg : Gl X "min") (ha : AD X (e :: es) m) (he : starEach (e :: es) X.env = (false, eval e X.env) :: starEach es X.env := by rfl) (hpl : (backTo pos (starEach es X.env)).any (·.1) = false := by rfl) :
    ED X (.Call (.Name "min" p) (e :: es) [] pos) (eCB dMin m) := ed_callB ((cr_min hc).or ((min_tup hc (by have := hr.un; omega)).or (call_min2 hc))) n_min hg T.min bb_min ha (by decide) (by decide) he hpl
theorem r_int (T : Txt X.mg) (hg : Gl X "int") (ha : AD X (e :: es) m) (he : starEach (e :: es) X.env = (false, eval e X.env) :: starEach es X.env := by rfl) (hpl : (backTo pos (starEach es X.env)).any (·.1) = false := by rfl) :
    ED X (.Call (.Name "int" p) (e :: es) [] pos) (eCB dInt m) := ed_callTy call_int1 n_int hg T.int bb_int ha (by decide) (by decide) he hpl
theorem r_tuple (T : Txt X.mg) (hg : Gl X "tuple") (ha : AD X (e :: es) m) (he : starEach (e :: es) X.env = (false, eval e X.env) :: starEach es X.env := by rfl) (hpl : (backTo pos (starEach es X.env)).any (·.1) = false := by rfl) :
    ED X (.Call (.Name "tuple" p) (e :: es) [] pos) (eCB dTupOf m) := ed_callTy call_tuple_of n_tup hg T.tuple bb_tuple ha (by decide) (by decide) he hpl
theorem r_add (ha : ED X a f) (hb : ED X b g) : ED X (.BinOp a .Add b pos) (eBin dAdd f g) := ed_op o_add b_add ha hb
theorem r_sub (ha : ED X a f) (hb : ED X b g) : ED X (.BinOp a .Sub b pos) (eBin dSub f g) := ed_op op_sub b_sub ha hb
theorem r_mul (ha : ED X a f) (hb : ED X b g) : ED X (.BinOp a .Mult b pos) (eBin dMul f g) := ed_op o_mul b_mul ha hb
theorem r_mod (ha : ED X a f) (hb : ED X b g) : ED X (.BinOp a .Mod b pos) (eBin dMod f g) := ed_op op_mod b_mod ha hb
theorem r_div (ha : ED X a f) (hb : ED X b g) : ED X (.BinOp a .FloorDiv b pos) (eBin dDiv f g) := ed_op op_fdiv b_div ha hb
theorem r_neg (ha : ED X a f) : ED X (.UnaryOp .USub a pos) (eUn dNeg f) := ed_un un_neg u_neg ha
theorem e_lt (ha : ED X a f) (hb : ED X b g) : ED X (.Compare a [.Lt] [b] pos) (eBin dLt f g) := ed_cmp op_lt b_lt (nomk b) ha hb
theorem e_le (ha : ED X a f) (hb : ED X b g) : ED X (.Compare a [.LtE] [b] pos) (eBin dLe f g) := ed_cmp op_le b_le (nomk b) ha hb
theorem e_gt (ha : ED X a f) (hb : ED X b g) : ED X (.Compare a [.Gt] [b] pos) (eBin dGt f g) := ed_cmp op_gt b_gt (nomk b) ha hb
theorem e_ge (ha : ED X a f) (hb : ED X b g) : ED X (.Compare a [.GtE] [b] pos) (eBin dGe f g) := ed_cmp op_ge b_ge (nomk b) ha hb
theorem e_eq (hr : Room n X.A) (ha : ED X a f) (hb : ED X b g) : ED X (.Compare a [.Eq] [b] pos) (eBin dEq f g) := ed_cmp (op_eqD hr.units) b_eq (nomk b) ha hb
theorem e_ne (hr : Room n X.A) (ha : ED X a f) (hb : ED X b g) : ED X (.Compare a [.NotEq] [b] pos) (eBin dNe f g) := ed_cmp (op_neD hr.units) b_ne (nomk b) ha hb
theorem e_isN (ha : ED X a f) (hb : ED X b g) : ED X (.Compare a [.Is] [b] pos) (eBin dIsN f g) := ed_cmp op_isN b_isN (nomk b) ha hb
theorem e_notN (ha : ED X a f) (hb : ED X b g) : ED X (.Compare a [.IsNot] [b] pos) (eBin dNotN f g) := ed_cmp op_notN b_notN (nomk b) ha hb
theorem e_isB (ha : ED X a f) (hb : ED X b g) : ED X (.Compare a [.Is] [b] pos) (eBin dIsB f g) := ed_cmp op_isBl b_isB (nomk b) ha hb
theorem e_notIn (hr : Room n X.A) (ha : ED X a f) (hb : ED X b g) (hm : behindInMarks .NotIn b = false := by rfl) : ED X (.Compare a [.NotIn] [b] pos) (eBin dNotIn f g) := ed_cmp (op_notInD (by have := hr.un; omega)) b_notIn hm ha hb
theorem t_lt (ha : ED X a f) (hb : ED X b g) : TD X (.Compare a [.Lt] [b] pos) (tOf (eBin dLt f g)) := td_cmp op_lt b_lt (nomk b) ha hb
theorem t_le (ha : ED X a f) (hb : ED X b g) : TD X (.Compare a [.LtE] [b] pos) (tOf (eBin dLe f g)) := td_cmp op_le b_le (nomk b) ha hb
theorem t_gt (ha : ED X a f) (hb : ED X b g) : TD X (.Compare a [.Gt] [b] pos) (tOf (eBin dGt f g)) := td_cmp op_gt b_gt (nomk b) ha hb
theorem t_ge (ha : ED X a f) (hb : ED X b g) : TD X (.Compare a [.GtE] [b] pos) (tOf (eBin dGe f g)) := td_cmp op_ge b_ge (nomk b) ha hb
theorem t_eq (hr : Room n X.A) (ha : ED X a f) (hb : ED X b g) : TD X (.Compare a [.Eq] [b] pos) (tOf (eBin dEq f g)) := td_cmp (op_eqD hr.units) b_eq (nomk b) ha hb
theorem t_ne (hr : Room n X.A) (ha : ED X a f) (hb : ED X b g) : TD X (.Compare a [.NotEq] [b] pos) (tOf (eBin dNe f g)) := td_cmp (op_neD hr.units) b_ne (nomk b) ha hb
theorem t_isN (ha : ED X a f) (hb : ED X b g) : TD X (.Compare a [.Is] [b] pos) (tOf (eBin dIsN f g)) := td_cmp op_isN b_isN (nomk b) ha hb
theorem t_notN (ha : ED X a f) (hb : ED X b g) : TD X (.Compare a [.IsNot] [b] pos) (tOf (eBin dNotN f g)) := td_cmp op_notN b_notN (nomk b) ha hb
theorem t_isB (ha : ED X a f) (hb : ED X b g) : TD X (.Compare a [.Is] [b] pos) (tOf (eBin dIsB f g)) := td_cmp op_isBl b_isB (nomk b) ha hb
theorem t_notIn (hr : Room n X.A) (ha : ED X a f) (hb : ED X b g) (hm : behindInMarks .NotIn b = false := by rfl) : TD X (.Compare a [.NotIn] [b] pos) (tOf (eBin dNotIn f g)) := td_cmp (op_notInD (by have := hr.un; omega)) b_notIn hm ha hb
theorem e_ch_le_le (ha : ED X a f) (hb : ED X b g) (hc : ED X c k) (hm : lastMarks [.LtE, .LtE] [b, c] = false := by with_unfolding_all rfl) : ED X (.Compare a [.LtE, .LtE] [b, c] pos) (eChain dLe dLe f g k) := ed_chain op_le op_le b_le b_le ha hb hc hm
theorem t_ch_le_le (ha : ED X a f) (hb : ED X b g) (hc : ED X c k) (hm : lastMarks [.LtE, .LtE] [b, c] = false := by with_unfolding_all rfl) : TD X (.Compare a [.LtE, .LtE] [b, c] pos) (tOf (eChain dLe dLe f g k)) := td_chain op_le op_le b_le b_le ha hb hc hm
def tIfM (c f g : TM) : TM := fun ρ => bind1 (c ρ) fun b => if b = true then f ρ else g ρ
theorem td_ifExp (hc : TD X c p1) (ha : TD X a p2) (hb : TD X b p3) : TD X (.IfExp c a b pos) (tIfM p1 p2 p3) := by
  obtain ⟨tc, pc, ec⟩ := hc.ex
  obtain ⟨ta, pa, ea⟩ := ha.ex
  obtain ⟨tb, pb, eb⟩ := hb.ex
  refine ⟨⟨fun σ H Q => tc σ H fun d H1 => if d = true then ta σ H1 Q else tb σ H1 Q, ⟨fun pins s σ H Q I h => ?_⟩, fun ρ d hd σ F H R Q q => ?_⟩⟩
  · refine isTrue_IfExp (thn (pc.run pins s σ H _ I h) fun d s1 ⟨H1, I1, q1⟩ => ?_)
    cases d with
    | true => exact pa.run pins s1 σ H1 Q I1 q1
    | false => exact pb.run pins s1 σ H1 Q I1 q1
  · obtain ⟨x, h1, hd⟩ := bind1_some hd
    refine ec ρ x h1 σ F H R _ fun F1 H1 g1 => ?_
    cases x with
    | true => exact ea ρ d hd σ F1 H1 (R.grow g1) Q fun F2 H2 g2 => q F2 H2 (g1.trans g2)
    | false => exact eb ρ d hd σ F1 H1 (R.grow g1) Q fun F2 H2 g2 => q F2 H2 (g1.trans g2)
end
/-! ### own errors -/
def excName : Nat → Str
  | 0 => "InvalidSquare"
  | 1 => "InvalidSides"
  | _ => "InvalidBounds"
structure ExcF (CC : Nat → Addr) (K : PySem.W.Frag) (mg : Str → Option Value) (c : Nat) : Prop where
  x : PySem.W.excIn K (CC c) [.type "ValueError", .type "Exception", .type "BaseException", .type "object"] "ValueError.__new__" = true
  g : mg (excName c) = some (.ref (CC c))
  k : PySem.W.keepIn K (.ref (CC c)) = true
  b : PySem.W.subIn K (.ref (CC c)) (.type "BaseException") = some true
  t : PySem.W.typeIn K (.ref (CC c)) = some (.type "type")

/-! ### the text -/
def topS (i : Nat) : Stmt := PySem.Challenge.pw_signsquared_k62_whole_bounds_of_heights.main.body.getD i (.Pass ⟨0, 0, 0, 0⟩)
end K6

end
-- text Mir
section
set_option Elab.async false
set_option linter.all false
set_option autoImplicit false
set_option maxRecDepth 100000
set_option maxHeartbeats 4000000

/-! Printed by gen.py: what the pure defs make, as plain functions. -/
namespace K6
open PySem
def m_is_whole : SM := (sRet (eAnd (eIsi "int" (eVar 0)) (eAnd (eNot (eIsi "bool" (eVar 0))) (eChain dLe dLe (eVar 1) (eVar 0) (eVar 2)))))
def f_is_whole : FM := runM 3 m_is_whole
def m_turns_well : SM := (sSeq (sSet 1 (xDat (eC (.int 0)))) (sSeq (sFor (iTupM (eVar 0)) (bName 2) (sSeq (sSet 1 (xDat (eBin dAdd (eVar 1) (eVar 2)))) (sIf (tNotM (tOf (eChain dLe dLe (eC (.int 0)) (eVar 1) (eC (.int 1))))) (sRet (eC (.bool false))) sNil))) (sRet (eBin dEq (eVar 1) (eC (.int 1))))))
def f_turns_well : FM := runM 3 m_turns_well
def m_fits_line : SM := (sRet (eAnd (eIsi "tuple" (eVar 0)) (eAnd (eBin dEq (eCB dLen (aCons (eVar 0) aNil)) (eVar 1)) (eCB dAll (aCons (eLc (iTupM (eVar 0)) (bName 2) tYesM (eCall f_is_whole 3 (aCons (eVar 2) (aCons (eUn dNeg (eC (.int 1))) (aCons (eC (.int 1)) aNil)))) [2]) aNil)))))
def f_fits_line : FM := runM 3 m_fits_line
def m_columns_of : SM := (sRet (eLc (iRng (eCB dLen (aCons (eVar 0) aNil))) (bName 1) tYesM (eCB dTupOf (aCons (eLc (iTupM (eVar 0)) (bName 2) tYesM (eBin dIx (eVar 2) (eVar 1)) [2]) aNil)) [1]))
def f_columns_of : FM := runM 3 m_columns_of
def m_fits_square : SM := (sSeq (sIf (tOrM (tNotM (tOf (eIsi "tuple" (eVar 0)))) (tNotM (tOf (eChain dLe dLe (eC (.int 1)) (eCB dLen (aCons (eVar 0) aNil)) (eC (.int 12)))))) (sRet (eC (.bool false))) sNil) (sSeq (sIf (tNotM (tOf (eCB dAll (aCons (eLc (iTupM (eVar 0)) (bName 1) tYesM (eCall f_fits_line 2 (aCons (eVar 1) (aCons (eCB dLen (aCons (eVar 0) aNil)) aNil))) [1]) aNil)))) (sRet (eC (.bool false))) sNil) (sRet (eAnd (eCB dAll (aCons (eLc (iTupM (eVar 0)) (bName 1) tYesM (eCall f_turns_well 1 (aCons (eVar 1) aNil)) [1]) aNil)) (eCB dAll (aCons (eLc (iLst (eCall f_columns_of 1 (aCons (eVar 0) aNil))) (bName 1) tYesM (eCall f_turns_well 1 (aCons (eVar 1) aNil)) [1]) aNil))))))
def f_fits_square : FM := runM 2 m_fits_square
def m_need_square : SM := (sIf (tNotM (tOf (eCall f_fits_square 1 (aCons (eVar 0) aNil)))) (sRaise 0) sNil)
def f_need_square : FM := runM 1 m_need_square
def m_need_sides : SM := (sIf (tNotM (tOf (eCall f_is_whole 3 (aCons (eVar 0) (aCons (eC (.int 1)) (aCons (eC (.int 12)) aNil)))))) (sRaise 1) sNil)
def f_need_sides : FM := runM 1 m_need_sides
def m_is_square : SM := (sRet (eCall f_fits_square 1 (aCons (eVar 0) aNil)))
def f_is_square : FM := runM 1 m_is_square
def m_heights_of : SM := (sSeq (sSet 1 (xDat (eCB dLen (aCons (eVar 0) aNil)))) (sSeq (sPar 2 3 (xDat (eBin dMul (eLst (aCons (eC (.int 0)) aNil)) (eBin dAdd (eVar 1) (eC (.int 1))))) (xOwn (aCons (eTupRg (eBin dAdd (eVar 1) (eC (.int 1)))) aNil))) (sSeq (sFor (iEnuT (eVar 0)) (bTup [4, 5]) (sSeq (sPar 6 7 (xDat (eC (.int 0))) (xOwn (aCons (eC (.int 0)) aNil))) (sSeq (sFor (iEnuT (eVar 5)) (bTup [8, 9]) (sSeq (sSet 6 (xDat (eBin dAdd (eVar 6) (eVar 9)))) (sApp 7 (eBin dAdd (eBin dIx (eVar 2) (eBin dAdd (eVar 8) (eC (.int 1)))) (eVar 6))))) (sSeq (sMove 2 7) (sApp 3 (eCB dTupOf (aCons (eLc (iEnuL (eVar 2)) (bTup [8, 9]) tYesM (eBin dSub (eBin dAdd (eBin dAdd (eVar 4) (eC (.int 1))) (eVar 8)) (eBin dMul (eC (.int 2)) (eVar 9))) [8, 9]) aNil))))))) (sRet (eTupOwn 3)))))
def f_heights_of : FM := runM 10 m_heights_of
def m_square_from : SM := (sSeq (sPar 1 2 (xDat (eBin dSub (eCB dLen (aCons (eVar 0) aNil)) (eC (.int 1)))) (xOwn aNil)) (sSeq (sFor (iRng (eVar 1)) (bName 3) (sSeq (sBind (eTup (aCons (eBin dIx (eVar 0) (eVar 3)) (aCons (eBin dIx (eVar 0) (eBin dAdd (eVar 3) (eC (.int 1)))) aNil))) (bTup [4, 5])) (sSeq (sSet 6 (xDat (eLc (iRng (eVar 1)) (bName 7) tYesM (eBin dSub (eBin dSub (eBin dAdd (eBin dIx (eVar 5) (eVar 7)) (eBin dIx (eVar 4) (eBin dAdd (eVar 7) (eC (.int 1))))) (eBin dIx (eVar 4) (eVar 7))) (eBin dIx (eVar 5) (eBin dAdd (eVar 7) (eC (.int 1))))) [7]))) (sApp 2 (eCB dTupOf (aCons (eLc (iLst (eVar 6)) (bName 8) tYesM (eBin dDiv (eVar 8) (eC (.int 2))) [8]) aNil)))))) (sRet (eTupOwn 2))))
def f_square_from : FM := runM 9 m_square_from
def m_heights : SM := (sSeq (sCall f_need_square 1 (aCons (eVar 0) aNil)) (sRet (eCall f_heights_of 1 (aCons (eVar 0) aNil))))
def f_heights : FM := runM 1 m_heights
def m_fit_bounds : SM := (sSeq (sIf (tOrM (tNotM (tOf (eIsi "tuple" (eVar 1)))) (tOf (eBin dGt (eCB dLen (aCons (eVar 1) aNil)) (eC (.int 40))))) (sRet (eC (.bool false))) sNil) (sSeq (sFor (iTupM (eVar 1)) (bName 2) (sSeq (sIf (tOrM (tNotM (tOf (eIsi "tuple" (eVar 2)))) (tOrM (tOf (eBin dNe (eCB dLen (aCons (eVar 2) aNil)) (eC (.int 3)))) (tNotM (tOf (eCall f_is_whole 3 (aCons (eBin dIx (eVar 2) (eC (.int 2))) (aCons (eUn dNeg (eC (.int 40))) (aCons (eC (.int 40)) aNil)))))))) (sRet (eC (.bool false))) sNil) (sIf (tNotM (tOf (eCB dAll (aCons (eLc (iTupM (eBin dCut (eVar 2) (eC (.int 2)))) (bName 3) tYesM (eCall f_is_whole 3 (aCons (eVar 3) (aCons (eC (.int 0)) (aCons (eVar 0) aNil)))) [3]) aNil)))) (sRet (eC (.bool false))) sNil))) (sRet (eC (.bool true)))))
def f_fit_bounds : FM := runM 4 m_fit_bounds
def m_need_bounds : SM := (sIf (tNotM (tOf (eCall f_fit_bounds 2 (aCons (eVar 0) (aCons (eVar 1) aNil))))) (sRaise 2) sNil)
def f_need_bounds : FM := runM 2 m_need_bounds
def m_floor_at : SM := (sRet (eCB dAbs (aCons (eBin dSub (eVar 0) (eVar 1)) aNil)))
def f_floor_at : FM := runM 2 m_floor_at
def m_ceiling_at : SM := (sRet (eCB dMin (aCons (eBin dAdd (eVar 1) (eVar 2)) (aCons (eBin dSub (eBin dSub (eBin dMul (eC (.int 2)) (eVar 0)) (eVar 1)) (eVar 2)) aNil))))
def f_ceiling_at : FM := runM 3 m_ceiling_at
def m_lifted : SM := (sSeq (sBind (eVar 0) (bTup [1, 2, 3])) (sRet (eCB dMax (aCons (eCall f_floor_at 2 (aCons (eVar 1) (aCons (eVar 2) aNil))) (aCons (eBin dAdd (eVar 3) (eBin dMod (eBin dAdd (eBin dAdd (eVar 1) (eVar 2)) (eVar 3)) (eC (.int 2)))) aNil)))))
def f_lifted : FM := runM 4 m_lifted
def m_pressed : SM := (sSeq (sBind (eVar 1) (bTup [2, 3, 4])) (sRet (eCB dMin (aCons (eCall f_ceiling_at 3 (aCons (eVar 0) (aCons (eVar 2) (aCons (eVar 3) aNil)))) (aCons (eBin dSub (eVar 4) (eBin dMod (eBin dAdd (eBin dAdd (eVar 2) (eVar 3)) (eVar 4)) (eC (.int 2)))) aNil)))))
def f_pressed : FM := runM 5 m_pressed
def m_bound_steps : SM := (sRet (eBin dAdd (eCB dAbs (aCons (eBin dSub (eBin dIx (eVar 0) (eC (.int 0))) (eVar 1)) aNil)) (eCB dAbs (aCons (eBin dSub (eBin dIx (eVar 0) (eC (.int 1))) (eVar 2)) aNil))))
def f_bound_steps : FM := runM 3 m_bound_steps
def m_low_table : SM := (sSeq (sSet 2 (xDat (eTup aNil))) (sSeq (sFor (iRng (eBin dAdd (eVar 0) (eC (.int 1)))) (bName 3) (sSeq (sSet 4 (xDat (eTup aNil))) (sSeq (sFor (iRng (eBin dAdd (eVar 0) (eC (.int 1)))) (bName 5) (sSeq (sSet 6 (xDat (eLc (iTupM (eVar 1)) (bName 7) tYesM (eBin dSub (eCall f_lifted 1 (aCons (eVar 7) aNil)) (eCall f_bound_steps 3 (aCons (eVar 7) (aCons (eVar 3) (aCons (eVar 5) aNil))))) [7]))) (sSet 4 (xDat (eBin dAdd (eVar 4) (eTup (aCons (eCB dMax (aCons (eBin dAdd (eLst (aCons (eCall f_floor_at 2 (aCons (eVar 3) (aCons (eVar 5) aNil))) aNil)) (eVar 6)) aNil)) aNil))))))) (sSet 2 (xDat (eBin dAdd (eVar 2) (eTup (aCons (eVar 4) aNil)))))))) (sRet (eVar 2))))
def f_low_table : FM := runM 8 m_low_table
def m_high_table : SM := (sSeq (sSet 2 (xDat (eTup aNil))) (sSeq (sFor (iRng (eBin dAdd (eVar 0) (eC (.int 1)))) (bName 3) (sSeq (sSet 4 (xDat (eTup aNil))) (sSeq (sFor (iRng (eBin dAdd (eVar 0) (eC (.int 1)))) (bName 5) (sSeq (sSet 6 (xDat (eLc (iTupM (eVar 1)) (bName 7) tYesM (eBin dAdd (eCall f_pressed 2 (aCons (eVar 0) (aCons (eVar 7) aNil))) (eCall f_bound_steps 3 (aCons (eVar 7) (aCons (eVar 3) (aCons (eVar 5) aNil))))) [7]))) (sSet 4 (xDat (eBin dAdd (eVar 4) (eTup (aCons (eCB dMin (aCons (eBin dAdd (eLst (aCons (eCall f_ceiling_at 3 (aCons (eVar 0) (aCons (eVar 3) (aCons (eVar 5) aNil)))) aNil)) (eVar 6)) aNil)) aNil))))))) (sSet 2 (xDat (eBin dAdd (eVar 2) (eTup (aCons (eVar 4) aNil)))))))) (sRet (eVar 2))))
def f_high_table : FM := runM 8 m_high_table
def m_too_high : SM := (sRet (eBin dGt (eCall f_lifted 1 (aCons (eVar 1) aNil)) (eCall f_ceiling_at 3 (aCons (eVar 0) (aCons (eBin dIx (eVar 1) (eC (.int 0))) (aCons (eBin dIx (eVar 1) (eC (.int 1))) aNil))))))
def f_too_high : FM := runM 2 m_too_high
def m_too_low : SM := (sRet (eBin dLt (eCall f_pressed 2 (aCons (eVar 0) (aCons (eVar 1) aNil))) (eCall f_floor_at 2 (aCons (eBin dIx (eVar 1) (eC (.int 0))) (aCons (eBin dIx (eVar 1) (eC (.int 1))) aNil)))))
def f_too_low : FM := runM 2 m_too_low
def m_clash_of : SM := (sSeq (sFor (iEnuT (eVar 1)) (bTup [3, 4]) (sIf (tOf (eCall f_too_high 2 (aCons (eVar 0) (aCons (eVar 4) aNil)))) (sRet (eTup (aCons (eVar 3) (aCons (eC .none) aNil)))) sNil)) (sSeq (sFor (iEnuT (eVar 2)) (bTup [3, 4]) (sIf (tOf (eCall f_too_low 2 (aCons (eVar 0) (aCons (eVar 4) aNil)))) (sRet (eTup (aCons (eC .none) (aCons (eVar 3) aNil)))) sNil)) (sSeq (sFor (iEnuT (eVar 1)) (bTup [3, 5]) (sFor (iEnuT (eVar 2)) (bTup [6, 7]) (sIf (tOf (eBin dGt (eBin dSub (eCall f_lifted 1 (aCons (eVar 5) aNil)) (eCall f_bound_steps 3 (aCons (eVar 5) (aCons (eBin dIx (eVar 7) (eC (.int 0))) (aCons (eBin dIx (eVar 7) (eC (.int 1))) aNil))))) (eCall f_pressed 2 (aCons (eVar 0) (aCons (eVar 7) aNil))))) (sRet (eTup (aCons (eVar 3) (aCons (eVar 6) aNil)))) sNil))) (sRet (eC .none)))))
def f_clash_of : FM := runM 8 m_clash_of
def m_need_both_bounds : SM := (sSeq (sCall f_need_sides 1 (aCons (eVar 0) aNil)) (sSeq (sCall f_need_bounds 2 (aCons (eVar 0) (aCons (eVar 1) aNil))) (sCall f_need_bounds 2 (aCons (eVar 0) (aCons (eVar 2) aNil)))))
def f_need_both_bounds : FM := runM 3 m_need_both_bounds
def m_least_above : SM := (sSeq (sCall f_need_sides 1 (aCons (eVar 0) aNil)) (sSeq (sCall f_need_bounds 2 (aCons (eVar 0) (aCons (eVar 1) aNil))) (sSeq (sIf (tOf (eCB dAny (aCons (eLc (iTupM (eVar 1)) (bName 2) tYesM (eCall f_too_high 2 (aCons (eVar 0) (aCons (eVar 2) aNil))) [2]) aNil))) (sRet (eC .none)) sNil) (sRet (eCall f_square_from 1 (aCons (eCall f_low_table 2 (aCons (eVar 0) (aCons (eVar 1) aNil))) aNil))))))
def f_least_above : FM := runM 3 m_least_above
def m_greatest_under : SM := (sSeq (sCall f_need_sides 1 (aCons (eVar 0) aNil)) (sSeq (sCall f_need_bounds 2 (aCons (eVar 0) (aCons (eVar 1) aNil))) (sSeq (sIf (tOf (eCB dAny (aCons (eLc (iTupM (eVar 1)) (bName 2) tYesM (eCall f_too_low 2 (aCons (eVar 0) (aCons (eVar 2) aNil))) [2]) aNil))) (sRet (eC .none)) sNil) (sRet (eCall f_square_from 1 (aCons (eCall f_high_table 2 (aCons (eVar 0) (aCons (eVar 1) aNil))) aNil))))))
def f_greatest_under : FM := runM 3 m_greatest_under
def m_bounds_go : SM := (sSeq (sCall f_need_both_bounds 3 (aCons (eVar 0) (aCons (eVar 1) (aCons (eVar 2) aNil)))) (sRet (eBin dIsN (eCall f_clash_of 3 (aCons (eVar 0) (aCons (eVar 1) (aCons (eVar 2) aNil)))) (eC .none))))
def f_bounds_go : FM := runM 3 m_bounds_go
def m_bounds_paper : SM := (sSeq (sCall f_need_both_bounds 3 (aCons (eVar 0) (aCons (eVar 1) (aCons (eVar 2) aNil)))) (sRet (eCall f_clash_of 3 (aCons (eVar 0) (aCons (eVar 1) (aCons (eVar 2) aNil))))))
def f_bounds_paper : FM := runM 3 m_bounds_paper
def m__law_lines : SM := (sSeq (sSet 1 (xDat (eLst (aCons (eTup (aCons (eTup aNil) (aCons (eC (.int 0)) aNil))) aNil)))) (sSeq (sFor (iRng (eVar 0)) (bName 2) (sSeq (sSet 3 (xDat (eLst aNil))) (sSeq (sFor (iLst (eVar 1)) (bTup [4, 5]) (sSet 3 (xDat (eBin dAdd (eVar 3) (eLc (iTupM (eTup (aCons (eUn dNeg (eC (.int 1))) (aCons (eC (.int 0)) (aCons (eC (.int 1)) aNil))))) (bName 6) (tOf (eChain dLe dLe (eC (.int 0)) (eBin dAdd (eVar 5) (eVar 6)) (eC (.int 1)))) (eTup (aCons (eBin dAdd (eVar 4) (eTup (aCons (eVar 6) aNil))) (aCons (eBin dAdd (eVar 5) (eVar 6)) aNil))) [6]))))) (sSet 1 (xDat (eVar 3)))))) (sRet (eLc (iLst (eVar 1)) (bTup [4, 5]) (tOf (eBin dEq (eVar 5) (eC (.int 1)))) (eVar 4) [4, 5]))))
def f__law_lines : FM := runM 7 m__law_lines
def m__law_all : SM := (sSeq (sSet 1 (xDat (eLst (aCons (eTup (aCons (eTup aNil) (aCons (eBin dMul (eTup (aCons (eC (.int 0)) aNil)) (eVar 0)) aNil))) aNil)))) (sSeq (sFor (iRng (eVar 0)) (bName 2) (sSeq (sSet 3 (xOwn aNil)) (sSeq (sFor (iLst (eVar 1)) (bTup [4, 5]) (sFor (iLst (eCall f__law_lines 1 (aCons (eVar 0) aNil))) (bName 6) (sSeq (sSet 7 (xDat (eCB dTupOf (aCons (eLc (iZipT (eVar 5) (eVar 6)) (bTup [8, 9]) tYesM (eBin dAdd (eVar 8) (eVar 9)) [8, 9]) aNil)))) (sIf (tAndM (tOf (eBin dGe (eCB dMin (aCons (eVar 7) aNil)) (eC (.int 0)))) (tOf (eBin dLe (eCB dMax (aCons (eVar 7) aNil)) (eC (.int 1))))) (sApp 3 (eTup (aCons (eBin dAdd (eVar 4) (eTup (aCons (eVar 6) aNil))) (aCons (eVar 7) aNil)))) sNil)))) (sMove 1 3)))) (sRet (eLc (iLst (eVar 1)) (bTup [4, 5]) (tOf (eBin dEq (eVar 5) (eBin dMul (eTup (aCons (eC (.int 1)) aNil)) (eVar 0)))) (eVar 4) [4, 5]))))
def f__law_all : FM := runM 10 m__law_all
def m__law_corner : SM := (sRet (eCB dSum (aCons (eLc (iTupM (eBin dCut (eVar 0) (eVar 1))) (bName 3) tYesM (eCB dSum (aCons (eBin dCut (eVar 3) (eVar 2)) aNil)) [3]) aNil)))
def f__law_corner : FM := runM 4 m__law_corner
def m__law_table : SM := (sSeq (sSet 1 (xDat (eCB dLen (aCons (eVar 0) aNil)))) (sSeq (sSet 2 (xOwn aNil)) (sSeq (sFor (iRng (eBin dAdd (eVar 1) (eC (.int 1)))) (bName 3) (sApp 2 (eCB dTupOf (aCons (eLc (iRng (eBin dAdd (eVar 1) (eC (.int 1)))) (bName 4) tYesM (eBin dSub (eBin dAdd (eVar 3) (eVar 4)) (eBin dMul (eC (.int 2)) (eCall f__law_corner 3 (aCons (eVar 0) (aCons (eVar 3) (aCons (eVar 4) aNil)))))) [4]) aNil)))) (sRet (eTupOwn 2)))))
def f__law_table : FM := runM 5 m__law_table
def m__law_keep : SM := (sSeq (sSet 3 (xOwn aNil)) (sSeq (sFor (iLst (eVar 0)) (bName 4) (sSeq (sSet 5 (xDat (eLc (iTupM (eVar 1)) (bName 7) (tOf (eBin dLt (eBin dIx (eBin dIx (eVar 4) (eBin dIx (eVar 7) (eC (.int 0)))) (eBin dIx (eVar 7) (eC (.int 1)))) (eBin dIx (eVar 7) (eC (.int 2))))) (eVar 7) [7]))) (sSeq (sSet 6 (xDat (eLc (iTupM (eVar 2)) (bName 7) (tOf (eBin dGt (eBin dIx (eBin dIx (eVar 4) (eBin dIx (eVar 7) (eC (.int 0)))) (eBin dIx (eVar 7) (eC (.int 1)))) (eBin dIx (eVar 7) (eC (.int 2))))) (eVar 7) [7]))) (sIf (tAndM (tOf (eBin dEq (eVar 5) (eLst aNil))) (tOf (eBin dEq (eVar 6) (eLst aNil)))) (sApp 3 (eVar 4)) sNil)))) (sRetOwn 3)))
def f__law_keep : FM := runM 8 m__law_keep
def m__law_lies : SM := (sSeq (sFor (iZipT (eVar 0) (eVar 1)) (bTup [2, 3]) (sIf (tOf (eBin dNe (eLc (iZipT (eVar 2) (eVar 3)) (bTup [4, 5]) (tOf (eBin dGt (eVar 4) (eVar 5))) (eC (.int 1)) [4, 5]) (eLst aNil))) (sRet (eC (.bool false))) sNil)) (sRet (eC (.bool true))))
def f__law_lies : FM := runM 6 m__law_lies
def m__law_end_right : SM := (sSeq (sIf (tOf (eBin dEq (eVar 1) (eLst aNil))) (sRet (eBin dIsN (eVar 0) (eC .none))) sNil) (sSeq (sIf (tOrM (tOf (eBin dIsN (eVar 0) (eC .none))) (tOf (eBin dNotIn (eCall f__law_table 1 (aCons (eVar 0) aNil)) (eVar 1)))) (sRet (eC (.bool false))) sNil) (sSeq (sSet 3 (xDat (eCall f__law_table 1 (aCons (eVar 0) aNil)))) (sRet (eBin dEq (eLc (iLst (eVar 1)) (bName 4) (tNotM (tIfM (tOf (eVar 2)) (tOf (eCall f__law_lies 2 (aCons (eVar 3) (aCons (eVar 4) aNil)))) (tOf (eCall f__law_lies 2 (aCons (eVar 4) (aCons (eVar 3) aNil)))))) (eVar 4) [4]) (eLst aNil))))))
def f__law_end_right : FM := runM 5 m__law_end_right
end K6

end
-- text Ma0
section
set_option Elab.async false
set_option linter.all false
set_option autoImplicit false
set_option maxRecDepth 100000
set_option maxHeartbeats 4000000
/-! The mathematics of tables of heights: no program in sight. -/
namespace K6
open PySem
structure Bd where
  x : Nat
  y : Nat
  h : Int
structure BdOk (n : Nat) (b : Bd) : Prop where
  x : b.x ≤ n
  y : b.y ≤ n
  lo : -40 ≤ b.h
  hi : b.h ≤ 40
def flr (r c : Int) : Int := if r - c < 0 then -(r - c) else r - c
def ceil (n r c : Int) : Int := if 2 * n - r - c < r + c then 2 * n - r - c else r + c
def lift (b : Bd) : Int := if b.h + (b.x + b.y + b.h) % 2 > flr b.x b.y then b.h + (b.x + b.y + b.h) % 2 else flr b.x b.y
def press (n : Int) (b : Bd) : Int := if b.h - (b.x + b.y + b.h) % 2 < ceil n b.x b.y then b.h - (b.x + b.y + b.h) % 2 else ceil n b.x b.y
def stp (b : Bd) (r c : Int) : Int := (if (b.x : Int) - r < 0 then -((b.x : Int) - r) else (b.x : Int) - r) + (if (b.y : Int) - c < 0 then -((b.y : Int) - c) else (b.y : Int) - c)
def lowT (bs : List Bd) (r c : Nat) : Int := maxL (flr r c) (bs.map fun b => lift b - stp b r c)
def highT (n : Nat) (bs : List Bd) (r c : Nat) : Int := minL (ceil n r c) (bs.map fun b => press n b + stp b r c)
theorem lowT_mem (bs : List Bd) (r c : Nat) : lowT bs r c = flr r c ∨ ∃ b ∈ bs, lowT bs r c = lift b - stp b r c := by
  rcases List.mem_cons.mp (maxL_mem (bs.map fun b => lift b - stp b r c) (flr r c)) with q | q
  · exact .inl q
  · obtain ⟨b, h1, h2⟩ := List.mem_map.mp q
    exact .inr ⟨b, h1, h2.symm⟩
theorem lowT_flr (bs : List Bd) (r c : Nat) : flr r c ≤ lowT bs r c := (maxL_ge _ _).1
theorem lowT_ge {bs : List Bd} {b : Bd} (h : b ∈ bs) (r c : Nat) : lift b - stp b r c ≤ lowT bs r c := (maxL_ge _ _).2 _ (List.mem_map.mpr ⟨b, h, rfl⟩)
theorem highT_mem (n : Nat) (bs : List Bd) (r c : Nat) : highT n bs r c = ceil n r c ∨ ∃ b ∈ bs, highT n bs r c = press n b + stp b r c := by
  rcases List.mem_cons.mp (minL_mem (bs.map fun b => press n b + stp b r c) (ceil n r c)) with q | q
  · exact .inl q
  · obtain ⟨b, h1, h2⟩ := List.mem_map.mp q
    exact .inr ⟨b, h1, h2.symm⟩
theorem highT_ceil (n : Nat) (bs : List Bd) (r c : Nat) : highT n bs r c ≤ ceil n r c := (minL_le _ _).1
theorem highT_le {n : Nat} {bs : List Bd} {b : Bd} (h : b ∈ bs) (r c : Nat) : highT n bs r c ≤ press n b + stp b r c := (minL_le _ _).2 _ (List.mem_map.mpr ⟨b, h, rfl⟩)

/-- a table of heights -/
structure HT (n : Nat) (T : Nat → Nat → Int) : Prop where
  left : ∀ r : Nat, r ≤ n → T r 0 = r
  top : ∀ c : Nat, c ≤ n → T 0 c = c
  right : ∀ r : Nat, r ≤ n → T r n = n - r
  bot : ∀ c : Nat, c ≤ n → T n c = n - c
  par : ∀ r c : Nat, r ≤ n → c ≤ n → (T r c + r + c) % 2 = 0
  dn : ∀ r c : Nat, r < n → c ≤ n → T (r + 1) c - T r c ≤ 1 ∧ T r c - T (r + 1) c ≤ 1
  rt : ∀ r c : Nat, r ≤ n → c < n → T r (c + 1) - T r c ≤ 1 ∧ T r c - T r (c + 1) ≤ 1
section
variable {n : Nat} {T : Nat → Nat → Int}
theorem HT.vert (h : HT n T) {r c : Nat} (hc : c ≤ n) : ∀ k : Nat, r + k ≤ n → T (r + k) c - T r c ≤ k ∧ T r c - T (r + k) c ≤ k
  | 0, _ => by simp
  | k + 1, hk => by
    have ih := h.vert (r := r) hc k (by omega)
    have d := h.dn (r + k) c (by omega) hc
    rw [show r + (k + 1) = r + k + 1 by omega]
    omega
theorem HT.hori (h : HT n T) {r c : Nat} (hr : r ≤ n) : ∀ k : Nat, c + k ≤ n → T r (c + k) - T r c ≤ k ∧ T r c - T r (c + k) ≤ k
  | 0, _ => by simp
  | k + 1, hk => by
    have ih := h.hori (c := c) hr k (by omega)
    have d := h.rt r (c + k) hr (by omega)
    rw [show c + (k + 1) = c + k + 1 by omega]
    omega
theorem HT.vert' (h : HT n T) {r s c : Nat} (hr : r ≤ n) (hs : s ≤ n) (hc : c ≤ n) : T r c - T s c ≤ (if (r : Int) - s < 0 then -((r : Int) - s) else (r : Int) - s) := by
  rcases Nat.le_total r s with q | q
  · have z := h.vert (r := r) hc (s - r) (by omega)
    rw [show r + (s - r) = s by omega] at z
    omega
  · have z := h.vert (r := s) hc (r - s) (by omega)
    rw [show s + (r - s) = r by omega] at z
    omega
theorem HT.hori' (h : HT n T) {r c d : Nat} (hr : r ≤ n) (hc : c ≤ n) (hd : d ≤ n) : T r c - T r d ≤ (if (c : Int) - d < 0 then -((c : Int) - d) else (c : Int) - d) := by
  rcases Nat.le_total c d with q | q
  · have z := h.hori (c := c) hr (d - c) (by omega)
    rw [show c + (d - c) = d by omega] at z
    omega
  · have z := h.hori (c := d) hr (c - d) (by omega)
    rw [show d + (c - d) = c by omega] at z
    omega
theorem HT.lo (h : HT n T) {b : Bd} {r c : Nat} (hx : b.x ≤ n) (hy : b.y ≤ n) (hr : r ≤ n) (hc : c ≤ n) : T b.x b.y - stp b r c ≤ T r c := by
  have a := h.vert' hx hr hy
  have d := h.hori' hr hy hc
  unfold stp
  omega
theorem HT.hi (h : HT n T) {b : Bd} {r c : Nat} (hx : b.x ≤ n) (hy : b.y ≤ n) (hr : r ≤ n) (hc : c ≤ n) : T r c ≤ T b.x b.y + stp b r c := by
  have a := h.vert' hr hx hc
  have d := h.hori' hx hc hy
  unfold stp
  omega
theorem HT.flr (h : HT n T) {r c : Nat} (hr : r ≤ n) (hc : c ≤ n) : flr r c ≤ T r c := by
  have a := h.hori' hr (Nat.zero_le n) hc
  have b := h.vert' (Nat.zero_le n) hr hc
  rw [h.left r hr] at a
  rw [h.top c hc] at b
  unfold K6.flr
  omega
theorem HT.ceil (h : HT n T) {r c : Nat} (hr : r ≤ n) (hc : c ≤ n) : T r c ≤ ceil n r c := by
  have a := h.hori' hr hc (Nat.zero_le n)
  have b := h.vert' hr (Nat.le_refl n) hc
  rw [h.left r hr] at a
  rw [h.bot c hc] at b
  unfold K6.ceil
  omega
theorem HT.lift_le (h : HT n T) {b : Bd} (hx : b.x ≤ n) (hy : b.y ≤ n) (hb : b.h ≤ T b.x b.y) : lift b ≤ T b.x b.y := by
  have a := h.flr hx hy
  have p := h.par _ _ hx hy
  unfold lift
  omega
theorem HT.le_press (h : HT n T) {b : Bd} (hx : b.x ≤ n) (hy : b.y ≤ n) (hb : T b.x b.y ≤ b.h) : T b.x b.y ≤ press n b := by
  have a := h.ceil hx hy
  have p := h.par _ _ hx hy
  unfold press
  omega
theorem stp_self (b : Bd) : stp b b.x b.y = 0 := by
  unfold stp
  omega
theorem h_le_lift (b : Bd) : b.h ≤ lift b := by
  unfold lift
  omega
theorem press_le_h (n : Int) (b : Bd) : press n b ≤ b.h := by
  unfold press
  omega
theorem lift_par (b : Bd) : (lift b + b.x + b.y) % 2 = 0 := by
  unfold lift flr
  omega
theorem press_par (n : Nat) (b : Bd) : (press n b + b.x + b.y) % 2 = 0 := by
  unfold press ceil
  omega
theorem lowT_at {bs : List Bd} {b : Bd} (h : b ∈ bs) : b.h ≤ lowT bs b.x b.y := by
  have a := lowT_ge h b.x b.y
  rw [stp_self] at a
  have := h_le_lift b
  omega
theorem highT_at {n : Nat} {bs : List Bd} {b : Bd} (h : b ∈ bs) : highT n bs b.x b.y ≤ b.h := by
  have a := highT_le (n := n) h b.x b.y
  rw [stp_self] at a
  have := press_le_h n b
  omega
theorem HT.lowT_le (h : HT n T) {bs : List Bd} (hb : ∀ b ∈ bs, b.x ≤ n ∧ b.y ≤ n ∧ b.h ≤ T b.x b.y) {r c : Nat} (hr : r ≤ n) (hc : c ≤ n) : lowT bs r c ≤ T r c := by
  rcases lowT_mem bs r c with q | ⟨b, h1, q⟩
  · rw [q]
    exact h.flr hr hc
  · obtain ⟨hx, hy, hh⟩ := hb b h1
    have a := h.lift_le hx hy hh
    have d := h.lo hx hy hr hc
    omega
theorem HT.le_highT (h : HT n T) {bs : List Bd} (hb : ∀ b ∈ bs, b.x ≤ n ∧ b.y ≤ n ∧ T b.x b.y ≤ b.h) {r c : Nat} (hr : r ≤ n) (hc : c ≤ n) : T r c ≤ highT n bs r c := by
  rcases highT_mem n bs r c with q | ⟨b, h1, q⟩
  · rw [q]
    exact h.ceil hr hc
  · obtain ⟨hx, hy, hh⟩ := hb b h1
    have a := h.le_press hx hy hh
    have d := h.hi hx hy hr hc
    omega
theorem lowT_ht {bs : List Bd} (hb : ∀ b ∈ bs, b.x ≤ n ∧ b.y ≤ n ∧ lift b ≤ ceil n b.x b.y) : HT n (lowT bs) where
  left r hr := by
    have a := lowT_flr bs r 0
    rcases lowT_mem bs r 0 with q | ⟨b, h1, q⟩
    · rw [q]; unfold flr; omega
    · obtain ⟨hx, hy, hh⟩ := hb b h1
      unfold flr at a
      unfold ceil at hh
      unfold stp at q
      omega
  top r hr := by
    have a := lowT_flr bs 0 r
    rcases lowT_mem bs 0 r with q | ⟨b, h1, q⟩
    · rw [q]; unfold flr; omega
    · obtain ⟨hx, hy, hh⟩ := hb b h1
      unfold flr at a
      unfold ceil at hh
      unfold stp at q
      omega
  right r hr := by
    have a := lowT_flr bs r n
    rcases lowT_mem bs r n with q | ⟨b, h1, q⟩
    · rw [q]; unfold flr; omega
    · obtain ⟨hx, hy, hh⟩ := hb b h1
      unfold flr at a
      unfold ceil at hh
      unfold stp at q
      omega
  bot r hr := by
    have a := lowT_flr bs n r
    rcases lowT_mem bs n r with q | ⟨b, h1, q⟩
    · rw [q]; unfold flr; omega
    · obtain ⟨hx, hy, hh⟩ := hb b h1
      unfold flr at a
      unfold ceil at hh
      unfold stp at q
      omega
  par r c hr hc := by
    rcases lowT_mem bs r c with q | ⟨b, h1, q⟩
    · rw [q]; unfold flr; omega
    · have p := lift_par b
      rw [q]; unfold stp; omega
  dn r c hr hc := by
    constructor
    · rcases lowT_mem bs (r + 1) c with q | ⟨b, h1, q⟩
      · have a := lowT_flr bs r c
        rw [q]; unfold flr at *; omega
      · have a := lowT_ge h1 r c
        rw [q]; unfold stp at *; omega
    · rcases lowT_mem bs r c with q | ⟨b, h1, q⟩
      · have a := lowT_flr bs (r + 1) c
        rw [q]; unfold flr at *; omega
      · have a := lowT_ge h1 (r + 1) c
        rw [q]; unfold stp at *; omega
  rt r c hr hc := by
    constructor
    · rcases lowT_mem bs r (c + 1) with q | ⟨b, h1, q⟩
      · have a := lowT_flr bs r c
        rw [q]; unfold flr at *; omega
      · have a := lowT_ge h1 r c
        rw [q]; unfold stp at *; omega
    · rcases lowT_mem bs r c with q | ⟨b, h1, q⟩
      · have a := lowT_flr bs r (c + 1)
        rw [q]; unfold flr at *; omega
      · have a := lowT_ge h1 r (c + 1)
        rw [q]; unfold stp at *; omega
theorem highT_ht {bs : List Bd} (hb : ∀ b ∈ bs, b.x ≤ n ∧ b.y ≤ n ∧ flr b.x b.y ≤ press n b) : HT n (highT n bs) where
  left r hr := by
    have a := highT_ceil n bs r 0
    rcases highT_mem n bs r 0 with q | ⟨b, h1, q⟩
    · rw [q]; unfold ceil; omega
    · obtain ⟨hx, hy, hh⟩ := hb b h1
      unfold ceil at a
      unfold flr at hh
      unfold stp at q
      omega
  top r hr := by
    have a := highT_ceil n bs 0 r
    rcases highT_mem n bs 0 r with q | ⟨b, h1, q⟩
    · rw [q]; unfold ceil; omega
    · obtain ⟨hx, hy, hh⟩ := hb b h1
      unfold ceil at a
      unfold flr at hh
      unfold stp at q
      omega
  right r hr := by
    have a := highT_ceil n bs r n
    rcases highT_mem n bs r n with q | ⟨b, h1, q⟩
    · rw [q]; unfold ceil; omega
    · obtain ⟨hx, hy, hh⟩ := hb b h1
      unfold ceil at a
      unfold flr at hh
      unfold stp at q
      omega
  bot r hr := by
    have a := highT_ceil n bs n r
    rcases highT_mem n bs n r with q | ⟨b, h1, q⟩
    · rw [q]; unfold ceil; omega
    · obtain ⟨hx, hy, hh⟩ := hb b h1
      unfold ceil at a
      unfold flr at hh
      unfold stp at q
      omega
  par r c hr hc := by
    rcases highT_mem n bs r c with q | ⟨b, h1, q⟩
    · rw [q]; unfold ceil; omega
    · have p := press_par n b
      rw [q]; unfold stp; omega
  dn r c hr hc := by
    constructor
    · rcases highT_mem n bs r c with q | ⟨b, h1, q⟩
      · have a := highT_ceil n bs (r + 1) c
        rw [q]; unfold ceil at *; omega
      · have a := highT_le (n := n) h1 (r + 1) c
        rw [q]; unfold stp at *; omega
    · rcases highT_mem n bs (r + 1) c with q | ⟨b, h1, q⟩
      · have a := highT_ceil n bs r c
        rw [q]; unfold ceil at *; omega
      · have a := highT_le (n := n) h1 r c
        rw [q]; unfold stp at *; omega
  rt r c hr hc := by
    constructor
    · rcases highT_mem n bs r c with q | ⟨b, h1, q⟩
      · have a := highT_ceil n bs r (c + 1)
        rw [q]; unfold ceil at *; omega
      · have a := highT_le (n := n) h1 r (c + 1)
        rw [q]; unfold stp at *; omega
    · rcases highT_mem n bs r (c + 1) with q | ⟨b, h1, q⟩
      · have a := highT_ceil n bs r c
        rw [q]; unfold ceil at *; omega
      · have a := highT_le (n := n) h1 r c
        rw [q]; unfold stp at *; omega
/-- no clash: the least table over the lows lies under the highs -/
theorem lowT_under {lows highs : List Bd} (hh : ∀ b ∈ highs, flr b.x b.y ≤ press n b) (hc : ∀ l ∈ lows, ∀ b ∈ highs, lift l - stp l b.x b.y ≤ press n b) : ∀ b ∈ highs, lowT lows b.x b.y ≤ b.h := by
  intro b hb
  have p := press_le_h n b
  rcases lowT_mem lows b.x b.y with q | ⟨l, h1, q⟩
  · have := hh b hb
    omega
  · have := hc l h1 b hb
    omega
/-- a clash: no table keeps both -/
theorem HT.clash (h : HT n T) {l b : Bd} (lx : l.x ≤ n) (ly : l.y ≤ n) (bx : b.x ≤ n) (byy : b.y ≤ n) (hl : l.h ≤ T l.x l.y) (hb : T b.x b.y ≤ b.h) : lift l - stp l b.x b.y ≤ press n b := by
  have a := h.lift_le lx ly hl
  have d := h.le_press bx byy hb
  have e := h.lo (b := l) lx ly bx byy
  omega
/-- the bounds put up to the table itself -/
def wholeB (T : Nat → Nat → Int) (b : Bd) : Bd := ⟨b.x, b.y, T b.x b.y⟩
theorem HT.lift_whole (h : HT n T) {b : Bd} (hx : b.x ≤ n) (hy : b.y ≤ n) : lift (wholeB T b) = T b.x b.y := by
  have a := h.flr hx hy
  have p := h.par _ _ hx hy
  show (if T b.x b.y + (b.x + b.y + T b.x b.y) % 2 > K6.flr b.x b.y then T b.x b.y + (b.x + b.y + T b.x b.y) % 2 else K6.flr b.x b.y) = _
  omega
theorem HT.press_whole (h : HT n T) {b : Bd} (hx : b.x ≤ n) (hy : b.y ≤ n) : press n (wholeB T b) = T b.x b.y := by
  have a := h.ceil hx hy
  have p := h.par _ _ hx hy
  show (if T b.x b.y - (b.x + b.y + T b.x b.y) % 2 < K6.ceil n b.x b.y then T b.x b.y - (b.x + b.y + T b.x b.y) % 2 else K6.ceil n b.x b.y) = _
  omega
theorem lowT_whole {bs : List Bd} (hb : ∀ b ∈ bs, b.x ≤ n ∧ b.y ≤ n ∧ lift b ≤ ceil n b.x b.y) {r c : Nat} (hr : r ≤ n) (hc : c ≤ n) : lowT (bs.map (wholeB (lowT bs))) r c = lowT bs r c := by
  have H := lowT_ht hb
  have a1 : lowT (bs.map (wholeB (lowT bs))) r c ≤ lowT bs r c := by
    rcases lowT_mem (bs.map (wholeB (lowT bs))) r c with q | ⟨b, h1, q⟩
    · rw [q]
      exact lowT_flr bs r c
    · obtain ⟨b0, h2, rfl⟩ := List.mem_map.mp h1
      obtain ⟨hx, hy, hh⟩ := hb b0 h2
      rw [H.lift_whole hx hy] at q
      have z := H.lo (b := b0) hx hy hr hc
      have e : stp (wholeB (lowT bs) b0) r c = stp b0 r c := rfl
      omega
  have a2 : lowT bs r c ≤ lowT (bs.map (wholeB (lowT bs))) r c := by
    rcases lowT_mem bs r c with q | ⟨b, h1, q⟩
    · rw [q]
      exact lowT_flr _ r c
    · obtain ⟨hx, hy, hh⟩ := hb b h1
      have z := lowT_ge (List.mem_map.mpr ⟨b, h1, rfl⟩ : wholeB (lowT bs) b ∈ bs.map (wholeB (lowT bs))) r c
      rw [H.lift_whole hx hy] at z
      have e : stp (wholeB (lowT bs) b) r c = stp b r c := rfl
      have y := lowT_ge h1 b.x b.y
      rw [stp_self] at y
      omega
  omega

/-! ### squares of tables -/
def cor (T : Nat → Nat → Int) (r c : Nat) : Int := (r + c - T r c) / 2
def sqf (T : Nat → Nat → Int) (r c : Nat) : Int := (T (r + 1) c + T r (c + 1) - T r c - T (r + 1) (c + 1)) / 2
theorem HT.cor2 (h : HT n T) {r c : Nat} (hr : r ≤ n) (hc : c ≤ n) : 2 * cor T r c = r + c - T r c := by
  have p := h.par r c hr hc
  unfold cor
  omega
theorem HT.sqf2 (h : HT n T) {r c : Nat} (hr : r < n) (hc : c < n) : sqf T r c = cor T (r + 1) (c + 1) - cor T (r + 1) c - cor T r (c + 1) + cor T r c := by
  have a := h.cor2 (r := r + 1) (c := c + 1) (by omega) (by omega)
  have b := h.cor2 (r := r + 1) (c := c) (by omega) (by omega)
  have d := h.cor2 (r := r) (c := c + 1) (by omega) (by omega)
  have e := h.cor2 (r := r) (c := c) (by omega) (by omega)
  unfold sqf
  omega
theorem HT.rowS (h : HT n T) {r c : Nat} (hr : r < n) (hc : c ≤ n) : 0 ≤ cor T (r + 1) c - cor T r c ∧ cor T (r + 1) c - cor T r c ≤ 1 := by
  have a := h.cor2 (r := r + 1) (c := c) (by omega) (by omega)
  have b := h.cor2 (r := r) (c := c) (by omega) (by omega)
  have d := h.dn r c hr hc
  omega
theorem HT.colS (h : HT n T) {r c : Nat} (hr : r ≤ n) (hc : c < n) : 0 ≤ cor T r (c + 1) - cor T r c ∧ cor T r (c + 1) - cor T r c ≤ 1 := by
  have a := h.cor2 (r := r) (c := c + 1) (by omega) (by omega)
  have b := h.cor2 (r := r) (c := c) (by omega) (by omega)
  have d := h.rt r c hr hc
  omega
theorem HT.cor_left (h : HT n T) {r : Nat} (hr : r ≤ n) : cor T r 0 = 0 := by
  have a := h.cor2 hr (Nat.zero_le n)
  rw [h.left r hr] at a
  omega
theorem HT.cor_top (h : HT n T) {c : Nat} (hc : c ≤ n) : cor T 0 c = 0 := by
  have a := h.cor2 (Nat.zero_le n) hc
  rw [h.top c hc] at a
  omega
theorem HT.cor_right (h : HT n T) {r : Nat} (hr : r ≤ n) : cor T r n = r := by
  have a := h.cor2 hr (Nat.le_refl n)
  rw [h.right r hr] at a
  omega
theorem HT.cor_bot (h : HT n T) {c : Nat} (hc : c ≤ n) : cor T n c = c := by
  have a := h.cor2 (Nat.le_refl n) hc
  rw [h.bot c hc] at a
  omega
end
end K6

end
-- text Ma1
section
set_option Elab.async false
set_option linter.all false
set_option autoImplicit false
set_option maxRecDepth 100000
set_option maxHeartbeats 4000000
/-! The mathematics, part 1: what the mirrors of the bounds' defs make. -/
namespace K6
open PySem

/-! ### loops and comprehensions over written-out data -/
theorem forGo_inv {b : BM} {f : SM} : ∀ {items : List PyData} {P : Nat → En → Prop} (step : ∀ i d ρ, items[i]? = some d → P i ρ → ∃ ρ1 ρ2, b d ρ = some ρ1 ∧ f ρ1 = some (.nx ρ2) ∧ P (i + 1) ρ2) {ρ : En}, P 0 ρ → ∃ ρn, forGo b f items ρ = some (.nx ρn) ∧ P items.length ρn
  | [], P, _, ρ, h => ⟨ρ, rfl, h⟩
  | x :: xs, P, step, ρ, h => by
    obtain ⟨ρ1, ρ2, h1, h2, h3⟩ := step 0 x ρ rfl h
    obtain ⟨ρn, h4, h5⟩ := forGo_inv (items := xs) (P := fun i => P (i + 1)) (fun i d ρ e q => step (i + 1) d ρ (by simpa using e) q) h3
    refine ⟨ρn, ?_, h5⟩
    show bind1 (b x ρ) (fun ρ1 => bind1 (f ρ1) (andThen (forGo b f xs))) = _
    rw [h1]
    show bind1 (f ρ1) (andThen (forGo b f xs)) = _
    rw [h2]
    exact h4
theorem for_use {b : BM} {f : SM} {items : List PyData} (P : Nat → En → Prop) {ρ : En} {G : Prop} (h0 : P 0 ρ) (step : ∀ i d ρ, items[i]? = some d → P i ρ → ∃ ρ1 ρ2, b d ρ = some ρ1 ∧ f ρ1 = some (.nx ρ2) ∧ P (i + 1) ρ2) (k : ∀ ρn, forGo b f items ρ = some (.nx ρn) → P items.length ρn → G) : G :=
  let ⟨ρn, h1, h2⟩ := forGo_inv step h0
  k ρn h1 h2
section
variable {α : Type} {b : BM} {t : TM} {e : EM} {ρ : En} {it : AM} {vs : List Nat} {enc h : α → PyData} {p : α → Bool}
theorem lcGo_filter : ∀ {l : List α}, (∀ a ∈ l, ∃ ρ1, b (enc a) ρ = some ρ1 ∧ t ρ1 = some (p a) ∧ (p a = true → e ρ1 = some (h a))) → lcGo b t e ρ (l.map enc) = some ((l.filter p).map h)
  | [], _ => rfl
  | a :: l, H => by
    obtain ⟨ρ1, h1, h2, h3⟩ := H a List.mem_cons_self
    have ih := lcGo_filter (l := l) fun a ha => H a (List.mem_cons_of_mem _ ha)
    show bind1 (b (enc a) ρ) _ = _
    rw [h1]
    show bind1 (t ρ1) _ = _
    rw [h2]
    show (if p a = true then bind1 (e ρ1) fun y => bind1 (lcGo b t e ρ (l.map enc)) fun ys => some (y :: ys) else lcGo b t e ρ (l.map enc)) = _
    cases hp : p a with
    | true =>
      rw [if_pos rfl, h3 hp, ih, List.filter_cons, if_pos hp]
      rfl
    | false => rw [if_neg Bool.false_ne_true, ih, List.filter_cons, if_neg (by rw [hp]; exact Bool.false_ne_true)]
theorem lcGo_map {l : List α} (H : ∀ a ∈ l, ∃ ρ1, b (enc a) ρ = some ρ1 ∧ t ρ1 = some true ∧ e ρ1 = some (h a)) : lcGo b t e ρ (l.map enc) = some (l.map h) := by
  have z := lcGo_filter (b := b) (t := t) (e := e) (ρ := ρ) (enc := enc) (h := h) (p := fun _ => true) (l := l) fun a ha => let ⟨ρ1, h1, h2, h3⟩ := H a ha; ⟨ρ1, h1, h2, fun _ => h3⟩
  rw [z, List.filter_eq_self.mpr fun _ _ => rfl]
theorem eLc_filter {l : List α} (hi : it ρ = some (l.map enc)) (hl : l.length ≤ 1000) (H : ∀ a ∈ l, ∃ ρ1, b (enc a) (wipeE ρ vs) = some ρ1 ∧ t ρ1 = some (p a) ∧ (p a = true → e ρ1 = some (h a))) : eLc it b t e vs ρ = some (.list ((l.filter p).map h)) := by
  show bind1 (bind1 (it ρ) fun items => if items.length ≤ 1000 then lcGo b t e (wipeE ρ vs) items else none) _ = _
  rw [hi]
  show bind1 (if (l.map enc).length ≤ 1000 then lcGo b t e (wipeE ρ vs) (l.map enc) else none) _ = _
  rw [if_pos (by rw [List.length_map]; exact hl), lcGo_filter H]
  rfl
theorem eLc_map {l : List α} (hi : it ρ = some (l.map enc)) (hl : l.length ≤ 1000) (H : ∀ a ∈ l, ∃ ρ1, b (enc a) (wipeE ρ vs) = some ρ1 ∧ t ρ1 = some true ∧ e ρ1 = some (h a)) : eLc it b t e vs ρ = some (.list (l.map h)) := by
  have z := eLc_filter (b := b) (t := t) (e := e) (ρ := ρ) (enc := enc) (h := h) (p := fun _ => true) (l := l) hi hl fun a ha => let ⟨ρ1, h1, h2, h3⟩ := H a ha; ⟨ρ1, h1, h2, fun _ => h3⟩
  rw [z, List.filter_eq_self.mpr fun _ _ => rfl]
end
theorem iRng_nat {f : EM} {ρ : En} {n : Nat} (h : f ρ = some (.int (n : Nat))) (hn : n ≤ 1000) : iRng f ρ = some ((List.range n).map fun i => PyData.int (i : Nat)) := by
  show bind1 (f ρ) _ = _
  rw [h]
  show (if 0 ≤ (n : Int) ∧ (n : Int) ≤ 1000 then some ((List.range (n : Int).toNat).map fun i => PyData.int (i : Nat)) else none) = _
  rw [if_pos (by omega), Int.toNat_natCast]

/-! ### values of expressions -/
section
variable {f g k : EM} {ρ : En} {x y z d : PyData} {i : Nat}
theorem v_bin {h : PyData → PyData → Option PyData} (hf : f ρ = some x) (hg : g ρ = some y) (hh : h x y = some d) : eBin h f g ρ = some d := by
  show bind1 (f ρ) _ = _
  rw [hf]
  show bind1 (g ρ) _ = _
  rw [hg]
  exact hh
theorem v_cb1 {h : List PyData → Option PyData} (hf : f ρ = some x) (hh : h [x] = some d) : eCB h (aCons f aNil) ρ = some d := by
  show bind1 (bind1 (f ρ) _) _ = _
  rw [hf]
  exact hh
theorem v_call1 {G : FM} (hf : f ρ = some x) (hh : G [x] = some (.ok d)) : eCall G 1 (aCons f aNil) ρ = some d := by
  show bind1 (bind1 (f ρ) _) _ = _
  rw [hf]
  show bind1 (G [x]) okOf = _
  rw [hh]
  rfl
theorem v_call2 {G : FM} (hf : f ρ = some x) (hg : g ρ = some y) (hh : G [x, y] = some (.ok d)) : eCall G 2 (aCons f (aCons g aNil)) ρ = some d := by
  show bind1 (bind1 (f ρ) fun x => bind1 (bind1 (g ρ) _) _) _ = _
  rw [hf]
  show bind1 (bind1 (bind1 (g ρ) _) _) _ = _
  rw [hg]
  show bind1 (G [x, y]) okOf = _
  rw [hh]
  rfl
theorem v_call3 {G : FM} (hf : f ρ = some x) (hg : g ρ = some y) (hk : k ρ = some z) (hh : G [x, y, z] = some (.ok d)) : eCall G 3 (aCons f (aCons g (aCons k aNil))) ρ = some d := by
  show bind1 (bind1 (f ρ) fun x => bind1 (bind1 (g ρ) fun y => bind1 (bind1 (k ρ) _) _) _) _ = _
  rw [hf]
  show bind1 (bind1 (bind1 (g ρ) fun y => bind1 (bind1 (k ρ) _) _) _) _ = _
  rw [hg]
  show bind1 (bind1 (bind1 (bind1 (k ρ) _) _) _) _ = _
  rw [hk]
  show bind1 (G [x, y, z]) okOf = _
  rw [hh]
  rfl
theorem v_tup1 (hf : f ρ = some x) : eTup (aCons f aNil) ρ = some (.tuple [x]) := by
  show bind1 (bind1 (f ρ) _) _ = _
  rw [hf]
  rfl
theorem v_lst1 (hf : f ρ = some x) : eLst (aCons f aNil) ρ = some (.list [x]) := by
  show bind1 (bind1 (f ρ) _) _ = _
  rw [hf]
  rfl
theorem v_set (hf : f ρ = some x) : sSet i (xDat f) ρ = some (.nx (ρ.set i (.dat x))) := by
  show bind1 (bind1 (f ρ) _) _ = _
  rw [hf]
  rfl
theorem v_ret (hf : f ρ = some x) : sRet f ρ = some (.rt x) := by
  show bind1 (f ρ) _ = _
  rw [hf]
  rfl
theorem v_app {ds : List PyData} (ho : ownOf ρ i = some ds) (hf : f ρ = some x) (hl : ds.length ≤ 1000) : sApp i f ρ = some (.nx (ρ.set i (.own (ds ++ [x])))) := by
  show bind1 (ownOf ρ i) _ = _
  rw [ho]
  show bind1 (f ρ) _ = _
  rw [hf]
  show (if ds.length ≤ 1000 then _ else _) = _
  rw [if_pos hl]
theorem v_if {c : TM} {p q : SM} {b : Bool} {o : Option Out} (hc : c ρ = some b) (h : (if b = true then p ρ else q ρ) = o) : sIf c p q ρ = o := by
  show bind1 (c ρ) _ = _
  rw [hc]
  exact h
theorem v_of {b : Bool} (hf : f ρ = some (.bool b)) : tOf f ρ = some b := by
  show bind1 (f ρ) _ = _
  rw [hf]
  rfl
theorem v_not {c : TM} {b : Bool} (hc : c ρ = some b) : tNotM c ρ = some (!b) := by
  show bind1 (c ρ) _ = _
  rw [hc]
  rfl
end
theorem dAdd_push {xs : List PyData} {d : PyData} (h : xs.length < 1000) : dAdd (.tuple xs) (.tuple [d]) = some (.tuple (xs ++ [d])) := by
  show (if xs.length + 1 ≤ 1000 then _ else _) = _
  rw [if_pos (by omega)]
theorem dAdd_cons {x : PyData} {ys : List PyData} (h : ys.length < 1000) : dAdd (.list [x]) (.list ys) = some (.list (x :: ys)) := by
  show (if 1 + ys.length ≤ 1000 then _ else _) = _
  rw [if_pos (by omega)]
  rfl
theorem dMax_list (x : Int) (xs : List Int) : dMax [.list (.int x :: xs.map .int)] = some (.int (maxL x xs)) := by
  show bind1 (intsOf ((x :: xs).map .int)) maxOf1 = _
  rw [intsOf_map]
  rfl
theorem dMin_list (x : Int) (xs : List Int) : dMin [.list (.int x :: xs.map .int)] = some (.int (minL x xs)) := by
  show bind1 (intsOf ((x :: xs).map .int)) minOf1 = _
  rw [intsOf_map]
  rfl
theorem dIx_range {k i : Nat} {f : Nat → PyData} (h : i < k) : dIx (.tuple ((List.range k).map f)) (.int (i : Nat)) = some (f i) := by
  show (if (0 : Int) ≤ (i : Int) then ((List.range k).map f)[(i : Int).toNat]? else none) = _
  rw [if_pos (by omega), Int.toNat_natCast, List.getElem?_map, List.getElem?_range h]
  rfl
theorem dIx_rangeL {k i : Nat} {f : Nat → PyData} (h : i < k) : dIx (.list ((List.range k).map f)) (.int (i : Nat)) = some (f i) := by
  show (if (0 : Int) ≤ (i : Int) then ((List.range k).map f)[(i : Int).toNat]? else none) = _
  rw [if_pos (by omega), Int.toNat_natCast, List.getElem?_map, List.getElem?_range h]
  rfl
theorem range_map_succ {α : Type} (n : Nat) (f : Nat → α) : (List.range (n + 1)).map f = (List.range n).map f ++ [f n] := by rw [List.range_succ, List.map_append]; rfl
theorem range_at {α : Type} {n i : Nat} {f : Nat → α} {d : α} (h : ((List.range n).map f)[i]? = some d) : i < n ∧ d = f i := by
  rw [List.getElem?_map] at h
  by_cases hi : i < n
  · rw [List.getElem?_range hi] at h
    exact ⟨hi, (Option.some.inj h).symm⟩
  · rw [List.getElem?_eq_none (by simpa using hi)] at h
    cases h
theorem sFor_nx {it : AM} {b : BM} {f : SM} {ρ ρn : En} {items : List PyData} (h : it ρ = some items) (h2 : forGo b f items ρ = some (.nx ρn)) : sFor it b f ρ = some (.nx ρn) := by
  show bind1 (it ρ) _ = _
  rw [h]
  exact h2
theorem sSeq_nx {f g : SM} {ρ ρ1 : En} (h : f ρ = some (.nx ρ1)) : sSeq f g ρ = g ρ1 := by
  show bind1 (f ρ) _ = _
  rw [h]
  rfl
theorem runM_rt {n : Nat} {f : SM} {ds : List PyData} {d : PyData} (h : f (startE n ds) = some (.rt d)) : runM n f ds = some (.ok d) := by
  show bind1 (f (startE n ds)) _ = _
  rw [h]
  rfl

/-! ### bounds -/
def encB (b : Bd) : PyData := .tuple [.int b.x, .int b.y, .int b.h]
def bndD (bs : List Bd) : PyData := .tuple (bs.map encB)
def rowD (k : Nat) (g : Nat → Int) : PyData := .tuple ((List.range k).map fun c => .int (g c))
def gridD (m k : Nat) (T : Nat → Nat → Int) : PyData := .tuple ((List.range m).map fun r => rowD k (T r))
def tabD (n : Nat) (T : Nat → Nat → Int) : PyData := gridD (n + 1) (n + 1) T
theorem f_floor (r c : Int) : f_floor_at [.int r, .int c] = some (.ok (.int (flr r c))) := rfl
theorem f_ceil (n r c : Int) : f_ceiling_at [.int n, .int r, .int c] = some (.ok (.int (ceil n r c))) := rfl
theorem f_lift (b : Bd) : f_lifted [encB b] = some (.ok (.int (lift b))) := rfl
theorem f_press (n : Int) (b : Bd) : f_pressed [.int n, encB b] = some (.ok (.int (press n b))) := rfl
theorem f_stp (b : Bd) (r c : Int) : f_bound_steps [encB b, .int r, .int c] = some (.ok (.int (stp b r c))) := rfl
theorem f_high (n : Int) (b : Bd) : f_too_high [.int n, encB b] = some (.ok (.bool (decide (ceil n b.x b.y < lift b)))) := rfl
theorem f_low (n : Int) (b : Bd) : f_too_low [.int n, encB b] = some (.ok (.bool (decide (press n b < flr b.x b.y)))) := rfl
theorem f_low_tab (n : Nat) (bs : List Bd) (hn : n ≤ 12) (hb : bs.length ≤ 40) : f_low_table [.int n, bndD bs] = some (.ok (tabD n (lowT bs))) := by
  refine runM_rt ?_
  show m_low_table [.dat (.int n), .dat (bndD bs), .no, .no, .no, .no, .no, .no] = _
  unfold m_low_table
  rw [sSeq_nx (ρ1 := [.dat (.int n), .dat (bndD bs), .dat (.tuple []), .no, .no, .no, .no, .no]) rfl]
  refine for_use (b := bName 3) (items := (List.range (n + 1)).map fun i => PyData.int (i : Nat)) (P := fun i ρ => ∃ a b c d e, ρ = [.dat (.int n), .dat (bndD bs), .dat (gridD i (n + 1) (lowT bs)), a, b, c, d, e])
    (f := sSeq (sSet 4 (xDat (eTup aNil))) (sSeq (sFor (iRng (eBin dAdd (eVar 0) (eC (.int 1)))) (bName 5) (sSeq (sSet 6 (xDat (eLc (iTupM (eVar 1)) (bName 7) tYesM (eBin dSub (eCall f_lifted 1 (aCons (eVar 7) aNil)) (eCall f_bound_steps 3 (aCons (eVar 7) (aCons (eVar 3) (aCons (eVar 5) aNil))))) [7]))) (sSet 4 (xDat (eBin dAdd (eVar 4) (eTup (aCons (eCB dMax (aCons (eBin dAdd (eLst (aCons (eCall f_floor_at 2 (aCons (eVar 3) (aCons (eVar 5) aNil))) aNil)) (eVar 6)) aNil)) aNil))))))) (sSet 2 (xDat (eBin dAdd (eVar 2) (eTup (aCons (eVar 4) aNil)))))))
    (ρ := [.dat (.int n), .dat (bndD bs), .dat (.tuple []), .no, .no, .no, .no, .no]) ⟨.no, .no, .no, .no, .no, rfl⟩ (fun i d ρ hd hP => ?_) fun ρn h1 h2 => ?_
  rotate_left
  · obtain ⟨a, b, c, d, e, h2⟩ := h2
    rw [sSeq_nx (sFor_nx (iRng_nat (n := n + 1) rfl (by omega)) h1), h2, List.length_map, List.length_range]
    first
    | done
    | rfl
  · obtain ⟨hi, rfl⟩ := range_at hd
    obtain ⟨a, b, c, d, e, rfl⟩ := hP
    refine for_use (b := bName 5) (items := (List.range (n + 1)).map fun i => PyData.int (i : Nat)) (P := fun j ρ => ∃ a b c, ρ = [.dat (.int n), .dat (bndD bs), .dat (gridD i (n + 1) (lowT bs)), .dat (.int i), .dat (rowD j ((lowT bs) i)), a, b, c])
      (f := sSeq (sSet 6 (xDat (eLc (iTupM (eVar 1)) (bName 7) tYesM (eBin dSub (eCall f_lifted 1 (aCons (eVar 7) aNil)) (eCall f_bound_steps 3 (aCons (eVar 7) (aCons (eVar 3) (aCons (eVar 5) aNil))))) [7]))) (sSet 4 (xDat (eBin dAdd (eVar 4) (eTup (aCons (eCB dMax (aCons (eBin dAdd (eLst (aCons (eCall f_floor_at 2 (aCons (eVar 3) (aCons (eVar 5) aNil))) aNil)) (eVar 6)) aNil)) aNil))))))
      (ρ := [.dat (.int n), .dat (bndD bs), .dat (gridD i (n + 1) (lowT bs)), .dat (.int i), .dat (.tuple []), c, d, e]) ⟨c, d, e, rfl⟩ (fun j d ρ hd hP => ?_) fun ρm g1 g2 => ?_
    rotate_left
    · obtain ⟨a, b, c, g2⟩ := g2
      rw [List.length_map, List.length_range] at g2
      refine ⟨_, _, rfl, ?_, .dat (.int i), .dat (rowD (n + 1) ((lowT bs) i)), a, b, c, rfl⟩
      show sSeq _ _ [.dat (.int n), .dat (bndD bs), .dat (gridD i (n + 1) (lowT bs)), .dat (.int i), _, _, _, _] = _
      rw [sSeq_nx (ρ1 := [.dat (.int n), .dat (bndD bs), .dat (gridD i (n + 1) (lowT bs)), .dat (.int i), .dat (.tuple []), _, _, _]) rfl, sSeq_nx (sFor_nx (iRng_nat (n := n + 1) rfl (by omega)) g1), g2]
      rw [v_set (v_bin (x := gridD i (n + 1) (lowT bs)) (y := .tuple [rowD (n + 1) ((lowT bs) i)]) rfl rfl (dAdd_push (by rw [List.length_map, List.length_range]; omega)))]
      rw [← range_map_succ]
      rfl
    · obtain ⟨hj, rfl⟩ := range_at hd
      obtain ⟨a, b, c, rfl⟩ := hP
      refine ⟨_, _, rfl, ?_, .dat (.int j), .dat (.list (bs.map fun b => .int (lift b - stp b i j))), c, rfl⟩
      show sSeq _ _ [.dat (.int n), .dat (bndD bs), .dat (gridD i (n + 1) (lowT bs)), .dat (.int i), .dat (rowD j ((lowT bs) i)), .dat (.int j), _, _] = _
      rw [sSeq_nx (v_set (eLc_map (enc := encB) (h := fun b => .int (lift b - stp b i j)) (l := bs) rfl (by omega) fun b _ => ⟨_, rfl, rfl, rfl⟩))]
      rw [v_set (v_bin (x := rowD j ((lowT bs) i)) rfl (v_tup1 (v_cb1 (v_bin (x := .list [.int (flr i j)]) rfl rfl (dAdd_cons (by rw [List.length_map]; omega))) (by rw [show (bs.map fun b => PyData.int (lift b - stp b i j)) = (bs.map fun b => lift b - stp b i j).map PyData.int by rw [List.map_map]; rfl]; exact dMax_list _ _))) (dAdd_push (by rw [List.length_map, List.length_range]; omega)))]
      show some (Out.nx [_, _, _, _, .dat (.tuple ((List.range j).map (fun c => PyData.int ((lowT bs) i c)) ++ [PyData.int ((lowT bs) i j)])), _, _, _]) = _
      rw [← range_map_succ j fun c => PyData.int ((lowT bs) i c)]
      rfl
theorem f_high_tab (n : Nat) (bs : List Bd) (hn : n ≤ 12) (hb : bs.length ≤ 40) : f_high_table [.int n, bndD bs] = some (.ok (tabD n (highT n bs))) := by
  refine runM_rt ?_
  show m_high_table [.dat (.int n), .dat (bndD bs), .no, .no, .no, .no, .no, .no] = _
  unfold m_high_table
  rw [sSeq_nx (ρ1 := [.dat (.int n), .dat (bndD bs), .dat (.tuple []), .no, .no, .no, .no, .no]) rfl]
  refine for_use (b := bName 3) (items := (List.range (n + 1)).map fun i => PyData.int (i : Nat)) (P := fun i ρ => ∃ a b c d e, ρ = [.dat (.int n), .dat (bndD bs), .dat (gridD i (n + 1) (highT n bs)), a, b, c, d, e])
    (f := sSeq (sSet 4 (xDat (eTup aNil))) (sSeq (sFor (iRng (eBin dAdd (eVar 0) (eC (.int 1)))) (bName 5) (sSeq (sSet 6 (xDat (eLc (iTupM (eVar 1)) (bName 7) tYesM (eBin dAdd (eCall f_pressed 2 (aCons (eVar 0) (aCons (eVar 7) aNil))) (eCall f_bound_steps 3 (aCons (eVar 7) (aCons (eVar 3) (aCons (eVar 5) aNil))))) [7]))) (sSet 4 (xDat (eBin dAdd (eVar 4) (eTup (aCons (eCB dMin (aCons (eBin dAdd (eLst (aCons (eCall f_ceiling_at 3 (aCons (eVar 0) (aCons (eVar 3) (aCons (eVar 5) aNil)))) aNil)) (eVar 6)) aNil)) aNil))))))) (sSet 2 (xDat (eBin dAdd (eVar 2) (eTup (aCons (eVar 4) aNil)))))))
    (ρ := [.dat (.int n), .dat (bndD bs), .dat (.tuple []), .no, .no, .no, .no, .no]) ⟨.no, .no, .no, .no, .no, rfl⟩ (fun i d ρ hd hP => ?_) fun ρn h1 h2 => ?_
  rotate_left
  · obtain ⟨a, b, c, d, e, h2⟩ := h2
    rw [sSeq_nx (sFor_nx (iRng_nat (n := n + 1) rfl (by omega)) h1), h2, List.length_map, List.length_range]
    first
    | done
    | rfl
  · obtain ⟨hi, rfl⟩ := range_at hd
    obtain ⟨a, b, c, d, e, rfl⟩ := hP
    refine for_use (b := bName 5) (items := (List.range (n + 1)).map fun i => PyData.int (i : Nat)) (P := fun j ρ => ∃ a b c, ρ = [.dat (.int n), .dat (bndD bs), .dat (gridD i (n + 1) (highT n bs)), .dat (.int i), .dat (rowD j ((highT n bs) i)), a, b, c])
      (f := sSeq (sSet 6 (xDat (eLc (iTupM (eVar 1)) (bName 7) tYesM (eBin dAdd (eCall f_pressed 2 (aCons (eVar 0) (aCons (eVar 7) aNil))) (eCall f_bound_steps 3 (aCons (eVar 7) (aCons (eVar 3) (aCons (eVar 5) aNil))))) [7]))) (sSet 4 (xDat (eBin dAdd (eVar 4) (eTup (aCons (eCB dMin (aCons (eBin dAdd (eLst (aCons (eCall f_ceiling_at 3 (aCons (eVar 0) (aCons (eVar 3) (aCons (eVar 5) aNil)))) aNil)) (eVar 6)) aNil)) aNil))))))
      (ρ := [.dat (.int n), .dat (bndD bs), .dat (gridD i (n + 1) (highT n bs)), .dat (.int i), .dat (.tuple []), c, d, e]) ⟨c, d, e, rfl⟩ (fun j d ρ hd hP => ?_) fun ρm g1 g2 => ?_
    rotate_left
    · obtain ⟨a, b, c, g2⟩ := g2
      rw [List.length_map, List.length_range] at g2
      refine ⟨_, _, rfl, ?_, .dat (.int i), .dat (rowD (n + 1) ((highT n bs) i)), a, b, c, rfl⟩
      show sSeq _ _ [.dat (.int n), .dat (bndD bs), .dat (gridD i (n + 1) (highT n bs)), .dat (.int i), _, _, _, _] = _
      rw [sSeq_nx (ρ1 := [.dat (.int n), .dat (bndD bs), .dat (gridD i (n + 1) (highT n bs)), .dat (.int i), .dat (.tuple []), _, _, _]) rfl, sSeq_nx (sFor_nx (iRng_nat (n := n + 1) rfl (by omega)) g1), g2]
      rw [v_set (v_bin (x := gridD i (n + 1) (highT n bs)) (y := .tuple [rowD (n + 1) ((highT n bs) i)]) rfl rfl (dAdd_push (by rw [List.length_map, List.length_range]; omega)))]
      rw [← range_map_succ]
      rfl
    · obtain ⟨hj, rfl⟩ := range_at hd
      obtain ⟨a, b, c, rfl⟩ := hP
      refine ⟨_, _, rfl, ?_, .dat (.int j), .dat (.list (bs.map fun b => .int (press n b + stp b i j))), c, rfl⟩
      show sSeq _ _ [.dat (.int n), .dat (bndD bs), .dat (gridD i (n + 1) (highT n bs)), .dat (.int i), .dat (rowD j ((highT n bs) i)), .dat (.int j), _, _] = _
      rw [sSeq_nx (v_set (eLc_map (enc := encB) (h := fun b => .int (press n b + stp b i j)) (l := bs) rfl (by omega) fun b _ => ⟨_, rfl, rfl, rfl⟩))]
      rw [v_set (v_bin (x := rowD j ((highT n bs) i)) rfl (v_tup1 (v_cb1 (v_bin (x := .list [.int (ceil n i j)]) rfl rfl (dAdd_cons (by rw [List.length_map]; omega))) (by rw [show (bs.map fun b => PyData.int (press n b + stp b i j)) = (bs.map fun b => press n b + stp b i j).map PyData.int by rw [List.map_map]; rfl]; exact dMin_list _ _))) (dAdd_push (by rw [List.length_map, List.length_range]; omega)))]
      show some (Out.nx [_, _, _, _, .dat (.tuple ((List.range j).map (fun c => PyData.int ((highT n bs) i c)) ++ [PyData.int ((highT n bs) i j)])), _, _, _]) = _
      rw [← range_map_succ j fun c => PyData.int ((highT n bs) i c)]
      rfl
end K6

end
-- text Ma2
section
set_option Elab.async false
set_option linter.all false
set_option autoImplicit false
set_option maxRecDepth 100000
set_option maxHeartbeats 4000000
/-! The mathematics, part 2: squares of tables. -/
namespace K6
open PySem

/-! ### shaped data -/
def Sh (k : Nat) (d : PyData) : Prop := d.canLay0 = true ∧ d.depth ≤ k
theorem sh_int {k : Nat} (i : Int) : Sh k (.int i) := ⟨rfl, Nat.zero_le _⟩
theorem sh_none {k : Nat} : Sh k .none := ⟨rfl, Nat.zero_le _⟩
theorem canLayAll_mem : ∀ {ds : List PyData}, (∀ d ∈ ds, d.canLay0 = true) → PyData.canLayAll0 ds = true
  | [], _ => rfl
  | x :: xs, h => by rw [PyData.canLayAll0, h x List.mem_cons_self, canLayAll_mem fun d hd => h d (List.mem_cons_of_mem _ hd)]; rfl
theorem depthAll_mem {k : Nat} : ∀ {ds : List PyData}, (∀ d ∈ ds, d.depth ≤ k) → PyData.depthAll ds ≤ k
  | [], _ => by rw [PyData.depthAll]; exact Nat.zero_le _
  | x :: xs, h => by
    rw [PyData.depthAll]
    exact Nat.max_le.mpr ⟨h x List.mem_cons_self, depthAll_mem fun d hd => h d (List.mem_cons_of_mem _ hd)⟩
theorem sh_tup {k : Nat} {ds : List PyData} (h : ∀ d ∈ ds, Sh k d) : Sh (k + 1) (.tuple ds) := ⟨by rw [PyData.canLay0]; exact canLayAll_mem fun d hd => (h d hd).1, by rw [PyData.depth]; exact Nat.succ_le_succ (depthAll_mem fun d hd => (h d hd).2)⟩
theorem sh_lst {k : Nat} {ds : List PyData} (h : ∀ d ∈ ds, Sh k d) : Sh (k + 1) (.list ds) := ⟨by rw [PyData.canLay0]; exact canLayAll_mem fun d hd => (h d hd).1, by rw [PyData.depth]; exact Nat.succ_le_succ (depthAll_mem fun d hd => (h d hd).2)⟩
theorem Sh.up {k j : Nat} {d : PyData} (h : Sh k d) (hk : k ≤ j) : Sh j d := ⟨h.1, Nat.le_trans h.2 hk⟩
theorem Sh.ok {k : Nat} {d : PyData} (h : Sh k d) (hk : k ≤ 64) : SeqAt.shaped d = true := by
  unfold SeqAt.shaped
  rw [h.1, decide_eq_true (Nat.le_trans h.2 hk)]
  rfl
theorem Sh.refl {k : Nat} {d : PyData} (h : Sh k d) : PyData.eqv d d = true := SeqAt.eqv_refl d h.1
theorem dEq_sh {k j : Nat} {x y : PyData} (hx : Sh k x) (hy : Sh j y) (hk : k ≤ 64 := by decide) (hj : j ≤ 64 := by decide) : dEq x y = some (.bool (PyData.eqv x y)) := by
  unfold dEq
  rw [if_pos ⟨hx.ok hk, hy.ok hj⟩]
theorem dNe_sh {k j : Nat} {x y : PyData} (hx : Sh k x) (hy : Sh j y) (hk : k ≤ 64 := by decide) (hj : j ≤ 64 := by decide) : dNe x y = some (.bool (!PyData.eqv x y)) := by
  unfold dNe
  rw [if_pos ⟨hx.ok hk, hy.ok hj⟩]
theorem dEq_int (a b : Int) : dEq (.int a) (.int b) = some (.bool (a == b)) := by
  rw [dEq_sh (sh_int (k := 0) a) (sh_int (k := 0) b)]
  simp only [PyData.eqv]
theorem dNe_int (a b : Int) : dNe (.int a) (.int b) = some (.bool (!(a == b))) := by
  rw [dNe_sh (sh_int (k := 0) a) (sh_int (k := 0) b)]
  simp only [PyData.eqv]
theorem sh_row (k : Nat) (g : Nat → Int) : Sh 1 (rowD k g) := sh_tup (k := 0) fun d hd => by
  obtain ⟨c, _, rfl⟩ := List.mem_map.mp hd
  exact sh_int _
theorem sh_grid (m k : Nat) (T : Nat → Nat → Int) : Sh 2 (gridD m k T) := sh_tup (k := 1) fun d hd => by
  obtain ⟨c, _, rfl⟩ := List.mem_map.mp hd
  exact sh_row _ _
theorem sh_bd (b : Bd) : Sh 1 (encB b) := sh_tup (k := 0) fun d hd => by
  rcases List.mem_cons.mp hd with rfl | hd
  · exact sh_int _
  · rcases List.mem_cons.mp hd with rfl | hd
    · exact sh_int _
    · rcases List.mem_cons.mp hd with rfl | hd
      · exact sh_int _
      · cases hd

/-! ### more values -/
section
variable {f g k : EM} {ρ : En} {x y z d : PyData} {i : Nat}
theorem v_tup2 (hf : f ρ = some x) (hg : g ρ = some y) : eTup (aCons f (aCons g aNil)) ρ = some (.tuple [x, y]) := by
  show bind1 (bind1 (f ρ) fun x => bind1 (bind1 (g ρ) _) _) _ = _
  rw [hf]
  show bind1 (bind1 (bind1 (g ρ) _) _) _ = _
  rw [hg]
  rfl
theorem v_bind {b : BM} {ρ1 : En} (hf : f ρ = some x) (hb : b x ρ = some ρ1) : sBind f b ρ = some (.nx ρ1) := by
  show bind1 (f ρ) _ = _
  rw [hf]
  show bind1 (b x ρ) _ = _
  rw [hb]
  rfl
theorem v_par {j : Nat} {p q : XM} {s u : Sl} (hp : p ρ = some s) (hq : q ρ = some u) : sPar i j p q ρ = some (.nx ((ρ.set i s).set j u)) := by
  show bind1 (p ρ) _ = _
  rw [hp]
  show bind1 (q ρ) _ = _
  rw [hq]
  rfl
theorem v_chain {a b c : Int} (hf : f ρ = some (.int a)) (hg : g ρ = some (.int b)) (hk : k ρ = some (.int c)) : eChain dLe dLe f g k ρ = some (.bool (decide (a ≤ b) && decide (b ≤ c))) := by
  show bind1 (f ρ) _ = _
  rw [hf]
  show bind1 (g ρ) _ = _
  rw [hg]
  show (if decide (a ≤ b) = true then bind1 (k ρ) fun w => dLe (.int b) w else some (.bool false)) = _
  by_cases h : a ≤ b
  · rw [if_pos (decide_eq_true h), hk, decide_eq_true h]
    rfl
  · rw [decide_eq_false h, if_neg Bool.false_ne_true]
    rfl
theorem v_and {b : Bool} (hf : f ρ = some (.bool b)) (hg : b = true → g ρ = some d) (hn : b = false → d = .bool false) : eAnd f g ρ = some d := by
  show bind1 (f ρ) _ = _
  rw [hf]
  show (if b = true then g ρ else some (.bool false)) = _
  cases b with
  | true => exact hg rfl
  | false => rw [hn rfl]; rfl
theorem v_dec {xs : List PyData} {n : Nat} (h : xs.length = n + 1) (hf : f ρ = some (.tuple xs)) : eBin dSub (eCB dLen (aCons f aNil)) (eC (.int 1)) ρ = some (.int n) := by
  rw [v_bin (v_cb1 hf rfl) rfl rfl, h]
  show some (PyData.int ((n + 1 : Nat) - 1 : Int)) = _
  rw [show ((n + 1 : Nat) - 1 : Int) = (n : Int) by omega]
end
theorem grid_len (m k : Nat) (T : Nat → Nat → Int) : ((List.range m).map fun r => rowD k (T r)).length = m := by rw [List.length_map, List.length_range]
theorem pair_range {k : Nat} {f : Nat → PyData} : pairUp ((List.range k).map f) = (List.range k).map fun i => .tuple [.int (i : Nat), f i] := by
  unfold pairUp
  rw [List.length_map, List.length_range]
  refine List.map_congr_left fun i hi => ?_
  have hi' := List.mem_range.mp hi
  rw [List.getD_eq_getElem?_getD, List.getElem?_map, List.getElem?_range hi']
  rfl

/-! ### squares -/
theorem f_sq_from (n : Nat) (T : Nat → Nat → Int) (hn : n ≤ 12) : f_square_from [tabD n T] = some (.ok (gridD n n (sqf T))) := by
  refine runM_rt ?_
  show m_square_from [.dat (tabD n T), .no, .no, .no, .no, .no, .no, .no, .no] = _
  unfold m_square_from
  rw [sSeq_nx (v_par (s := .dat (.int n)) (u := .own []) (by
    show bind1 _ _ = _
    rw [v_dec (xs := (List.range (n + 1)).map fun r => rowD (n + 1) (T r)) (n := n) (grid_len _ _ T) rfl]
    rfl) rfl)]
  refine for_use (b := bName 3) (items := (List.range n).map fun i => PyData.int (i : Nat)) (fun i ρ => ∃ a b c d e f, ρ = [.dat (tabD n T), .dat (.int n), .own ((List.range i).map fun r => rowD n (sqf T r)), a, b, c, d, e, f])
    (f := sSeq (sBind (eTup (aCons (eBin dIx (eVar 0) (eVar 3)) (aCons (eBin dIx (eVar 0) (eBin dAdd (eVar 3) (eC (.int 1)))) aNil))) (bTup [4, 5])) (sSeq (sSet 6 (xDat (eLc (iRng (eVar 1)) (bName 7) tYesM (eBin dSub (eBin dSub (eBin dAdd (eBin dIx (eVar 5) (eVar 7)) (eBin dIx (eVar 4) (eBin dAdd (eVar 7) (eC (.int 1))))) (eBin dIx (eVar 4) (eVar 7))) (eBin dIx (eVar 5) (eBin dAdd (eVar 7) (eC (.int 1))))) [7]))) (sApp 2 (eCB dTupOf (aCons (eLc (iLst (eVar 6)) (bName 8) tYesM (eBin dDiv (eVar 8) (eC (.int 2))) [8]) aNil)))))
    (ρ := [.dat (tabD n T), .dat (.int n), .own [], .no, .no, .no, .no, .no, .no]) ⟨.no, .no, .no, .no, .no, .no, rfl⟩ (fun i d ρ hd hP => ?_) fun ρn h1 h2 => ?_
  rotate_left
  · obtain ⟨a, b, c, d, e, f, h2⟩ := h2
    show sSeq _ _ [.dat (tabD n T), .dat (.int n), .own [], .no, .no, .no, .no, .no, .no] = _
    rw [sSeq_nx (sFor_nx (iRng_nat (n := n) rfl (by omega)) h1), h2, List.length_map, List.length_range]
    rfl
  · obtain ⟨hi, rfl⟩ := range_at hd
    obtain ⟨a, b, c, d, e, f, rfl⟩ := hP
    refine ⟨_, _, rfl, ?_, .dat (.int i), .dat (rowD (n + 1) (T i)), .dat (rowD (n + 1) (T (i + 1))), .dat (.list ((List.range n).map fun c => .int (T (i + 1) c + T i (c + 1) - T i c - T (i + 1) (c + 1)))), e, f, rfl⟩
    show sSeq _ _ [.dat (tabD n T), .dat (.int n), .own _, .dat (.int i), _, _, _, _, _] = _
    rw [sSeq_nx (v_bind (v_tup2 (v_bin (y := .int (i : Nat)) rfl rfl (dIx_range (f := fun r => rowD (n + 1) (T r)) (Nat.lt_succ_of_lt hi))) (v_bin (y := .int ((i + 1 : Nat))) rfl rfl (dIx_range (f := fun r => rowD (n + 1) (T r)) (Nat.succ_lt_succ hi)))) rfl)]
    rw [sSeq_nx (v_set (eLc_map (enc := fun c : Nat => PyData.int c) (h := fun c => .int (T (i + 1) c + T i (c + 1) - T i c - T (i + 1) (c + 1))) (l := List.range n) (iRng_nat (n := n) rfl (by omega)) (by rw [List.length_range]; omega) fun c hc => ⟨_, rfl, rfl, by
      have hc := List.mem_range.mp hc
      exact v_bin (v_bin (v_bin (v_bin (y := .int (c : Nat)) rfl rfl (dIx_range (f := fun c => PyData.int (T (i + 1) c)) (Nat.lt_succ_of_lt hc))) (v_bin (y := .int ((c + 1 : Nat))) rfl rfl (dIx_range (f := fun c => PyData.int (T i c)) (Nat.succ_lt_succ hc))) rfl) (v_bin (y := .int (c : Nat)) rfl rfl (dIx_range (f := fun c => PyData.int (T i c)) (Nat.lt_succ_of_lt hc))) rfl) (v_bin (y := .int ((c + 1 : Nat))) rfl rfl (dIx_range (f := fun c => PyData.int (T (i + 1) c)) (Nat.succ_lt_succ hc))) rfl⟩))]
    rw [v_app (x := rowD n (sqf T i)) rfl (v_cb1 (eLc_map (enc := fun c : Nat => PyData.int (T (i + 1) c + T i (c + 1) - T i c - T (i + 1) (c + 1))) (h := fun c => .int (sqf T i c)) (l := List.range n) rfl (by rw [List.length_range]; omega) fun c hc => ⟨_, rfl, rfl, rfl⟩) rfl) (by rw [List.length_map, List.length_range]; omega)]
    rw [← range_map_succ i fun r => rowD n (sqf T r)]
    rfl
theorem f_turns {n : Nat} {g S : Nat → Int} (h0 : S 0 = 0) (hs : ∀ j, j < n → S (j + 1) = S j + g j) (hr : ∀ j, j ≤ n → 0 ≤ S j ∧ S j ≤ 1) (hn : S n = 1) : f_turns_well [rowD n g] = some (.ok (.bool true)) := by
  refine runM_rt ?_
  show m_turns_well [.dat (rowD n g), .no, .no] = _
  unfold m_turns_well
  rw [sSeq_nx (ρ1 := [.dat (rowD n g), .dat (.int 0), .no]) rfl]
  refine for_use (b := bName 2) (items := (List.range n).map fun i => PyData.int (g i)) (fun i ρ => ∃ a, ρ = [.dat (rowD n g), .dat (.int (S i)), a])
    (f := sSeq (sSet 1 (xDat (eBin dAdd (eVar 1) (eVar 2)))) (sIf (tNotM (tOf (eChain dLe dLe (eC (.int 0)) (eVar 1) (eC (.int 1))))) (sRet (eC (.bool false))) sNil))
    (ρ := [.dat (rowD n g), .dat (.int 0), .no]) ⟨.no, by rw [h0]⟩ (fun i d ρ hd hP => ?_) fun ρn h1 h2 => ?_
  rotate_left
  · obtain ⟨a, h2⟩ := h2
    rw [sSeq_nx (sFor_nx rfl h1), h2, List.length_map, List.length_range, hn]
    rfl
  · obtain ⟨hi, rfl⟩ := range_at hd
    obtain ⟨a, rfl⟩ := hP
    refine ⟨_, _, rfl, ?_, .dat (.int (g i)), rfl⟩
    show sSeq _ _ [.dat (rowD n g), .dat (.int (S i)), .dat (.int (g i))] = _
    rw [sSeq_nx (ρ1 := [.dat (rowD n g), .dat (.int (S i + g i)), .dat (.int (g i))]) rfl, ← hs i hi]
    refine v_if (v_not (v_of (v_chain rfl rfl rfl))) ?_
    have := hr (i + 1) (by omega)
    rw [decide_eq_true this.1, decide_eq_true this.2]
    rfl
theorem f_whole (v lo hi : Int) : f_is_whole [.int v, .int lo, .int hi] = some (.ok (.bool (decide (lo ≤ v) && decide (v ≤ hi)))) := by
  refine runM_rt (v_ret ?_)
  show eAnd _ _ [.dat (.int v), .dat (.int lo), .dat (.int hi)] = _
  refine v_and (b := true) rfl (fun _ => v_and (b := true) rfl (fun _ => v_chain rfl rfl rfl) fun h => nomatch h) fun h => nomatch h
theorem dAll_true {ds : List PyData} (h : ∀ d ∈ ds, d = .bool true) : dAll [.list ds] = some (.bool true) := by
  have e : ds = (ds.map fun _ => true).map .bool := by
    rw [List.map_map]
    exact (List.map_id ds).symm.trans (List.map_congr_left fun d hd => h d hd)
  show bind1 (boolsOf ds) _ = _
  rw [e, boolsOf_map]
  show some (PyData.bool ((ds.map fun _ => true).all id)) = _
  rw [show (ds.map fun _ => true).all id = true from List.all_eq_true.mpr fun x hx => by
    obtain ⟨_, _, rfl⟩ := List.mem_map.mp hx
    rfl]
theorem dAll_map {α : Type} {l : List α} {h : α → PyData} (H : ∀ a ∈ l, h a = .bool true) : dAll [.list (l.map h)] = some (.bool true) := dAll_true fun d hd => by
  obtain ⟨a, h1, rfl⟩ := List.mem_map.mp hd
  exact H a h1
theorem f_line {n : Nat} {g : Nat → Int} (h : ∀ j, j < n → -1 ≤ g j ∧ g j ≤ 1) (hn : n ≤ 12) : f_fits_line [rowD n g, .int n] = some (.ok (.bool true)) := by
  refine runM_rt (v_ret ?_)
  show eAnd _ _ [.dat (rowD n g), .dat (.int n), .no] = _
  refine v_and (b := true) rfl (fun _ => v_and (b := true) ?_ (fun _ => v_cb1 (eLc_map (enc := fun c : Nat => PyData.int (g c)) (h := fun c => .bool (decide (-1 ≤ g c) && decide (g c ≤ 1))) (l := List.range n) rfl (by rw [List.length_range]; omega) fun c _ => ⟨_, rfl, rfl, v_call3 rfl rfl rfl (f_whole _ _ _)⟩) (dAll_map fun c hc => ?_)) fun h => nomatch h) fun h => nomatch h
  · rw [v_bin (x := .int ((List.range n).map fun c => PyData.int (g c)).length) rfl rfl (dEq_int _ _), List.length_map, List.length_range]
    show some (PyData.bool ((n : Int) == n)) = _
    rw [beq_self_eq_true]
  · have := h c (List.mem_range.mp hc)
    rw [decide_eq_true this.1, decide_eq_true this.2]
    rfl
theorem f_cols (n : Nat) (S : Nat → Nat → Int) (hn : n ≤ 12) : f_columns_of [gridD n n S] = some (.ok (.list ((List.range n).map fun c => rowD n fun r => S r c))) := by
  refine runM_rt (v_ret ?_)
  show eLc _ _ _ _ _ [.dat (gridD n n S), .no, .no] = _
  refine eLc_map (enc := fun c : Nat => PyData.int c) (h := fun c => rowD n fun r => S r c) (l := List.range n) (iRng_nat (n := n) ?_ (by omega)) (by rw [List.length_range]; omega) fun c hc => ⟨_, rfl, rfl, ?_⟩
  · show some (PyData.int (((List.range n).map fun r => rowD n (S r)).length : Nat)) = _
    rw [grid_len]
  · refine v_cb1 (eLc_map (enc := fun r : Nat => rowD n (S r)) (h := fun r => .int (S r c)) (l := List.range n) rfl (by rw [List.length_range]; omega) fun r hr => ⟨_, rfl, rfl, ?_⟩) rfl
    exact v_bin (y := .int (c : Nat)) rfl rfl (dIx_range (f := fun c => PyData.int (S r c)) (List.mem_range.mp hc))
section
variable {n : Nat} {T : Nat → Nat → Int}
theorem HT.sq_row (h : HT n T) {r : Nat} (hr : r < n) : f_turns_well [rowD n (sqf T r)] = some (.ok (.bool true)) := by
  refine f_turns (S := fun j => cor T (r + 1) j - cor T r j) ?_ (fun j hj => ?_) (fun j hj => h.rowS hr hj) ?_
  · show cor T (r + 1) 0 - cor T r 0 = 0
    rw [h.cor_left (by omega), h.cor_left (by omega)]
    rfl
  · show cor T (r + 1) (j + 1) - cor T r (j + 1) = cor T (r + 1) j - cor T r j + sqf T r j
    rw [h.sqf2 hr hj]
    omega
  · show cor T (r + 1) n - cor T r n = 1
    rw [h.cor_right (by omega), h.cor_right (by omega)]
    omega
theorem HT.sq_col (h : HT n T) {c : Nat} (hc : c < n) : f_turns_well [rowD n fun r => sqf T r c] = some (.ok (.bool true)) := by
  refine f_turns (S := fun j => cor T j (c + 1) - cor T j c) ?_ (fun j hj => ?_) (fun j hj => h.colS hj hc) ?_
  · show cor T 0 (c + 1) - cor T 0 c = 0
    rw [h.cor_top (by omega), h.cor_top (by omega)]
    rfl
  · show cor T (j + 1) (c + 1) - cor T (j + 1) c = cor T j (c + 1) - cor T j c + sqf T j c
    rw [h.sqf2 hj hc]
    omega
  · show cor T n (c + 1) - cor T n c = 1
    rw [h.cor_bot (by omega), h.cor_bot (by omega)]
    omega
theorem HT.sq_cell (h : HT n T) {r c : Nat} (hr : r < n) (hc : c < n) : -1 ≤ sqf T r c ∧ sqf T r c ≤ 1 := by
  have a := h.rowS (c := c) hr (by omega)
  have b := h.rowS (c := c + 1) hr (by omega)
  have d := h.sqf2 hr hc
  omega
theorem HT.fits (h : HT n T) (h1 : 1 ≤ n) (hn : n ≤ 12) : f_fits_square [gridD n n (sqf T)] = some (.ok (.bool true)) := by
  have hl : dLen [gridD n n (sqf T)] = some (.int n) := by
    show some (PyData.int (((List.range n).map fun r => rowD n (sqf T r)).length : Nat)) = _
    rw [grid_len]
  refine runM_rt ?_
  show m_fits_square [.dat (gridD n n (sqf T)), .no] = _
  unfold m_fits_square
  rw [sSeq_nx (ρ1 := [.dat (gridD n n (sqf T)), .no]) (v_if (b := false) ?_ rfl), sSeq_nx (ρ1 := [.dat (gridD n n (sqf T)), .no]) (v_if (b := false) ?_ rfl)]
  · refine v_ret (v_and (b := true) ?_ (fun _ => ?_) fun h => nomatch h)
    · exact v_cb1 (eLc_map (enc := fun r : Nat => rowD n (sqf T r)) (h := fun r => .bool true) (l := List.range n) rfl (by rw [List.length_range]; omega) fun r hr => ⟨_, rfl, rfl, v_call1 rfl (h.sq_row (List.mem_range.mp hr))⟩) (dAll_map fun _ _ => rfl)
    · refine v_cb1 (eLc_map (enc := fun c : Nat => rowD n fun r => sqf T r c) (h := fun r => .bool true) (l := List.range n) ?_ (by rw [List.length_range]; omega) fun r hr => ⟨_, rfl, rfl, v_call1 rfl (h.sq_col (List.mem_range.mp hr))⟩) (dAll_map fun _ _ => rfl)
      show bind1 _ _ = _
      rw [v_call1 rfl (f_cols n (sqf T) hn)]
      rfl
  · refine v_not (b := true) (v_of (v_cb1 (eLc_map (enc := fun r : Nat => rowD n (sqf T r)) (h := fun r => .bool true) (l := List.range n) rfl (by rw [List.length_range]; omega) fun r hr => ⟨_, rfl, rfl, v_call2 (y := .int n) rfl (v_cb1 rfl hl) (f_line (fun j hj => h.sq_cell (List.mem_range.mp hr) hj) hn)⟩) (dAll_map fun _ _ => rfl)))
  · show bind1 (tNotM (tOf _) _) _ = _
    rw [show tNotM (tOf (eIsi "tuple" (eVar 0))) [.dat (gridD n n (sqf T)), .no] = some false from rfl]
    refine v_not (b := true) (v_of ?_)
    rw [v_chain (b := (n : Nat)) rfl (v_cb1 rfl hl) rfl, decide_eq_true (by omega), decide_eq_true (by omega)]
    rfl
theorem HT.is_sq (h : HT n T) (h1 : 1 ≤ n) (hn : n ≤ 12) : f_is_square [gridD n n (sqf T)] = some (.ok (.bool true)) := by
  refine runM_rt (v_ret ?_)
  exact v_call1 (f := eVar 0) (ρ := [.dat (gridD n n (sqf T))]) rfl (h.fits h1 hn)
end
end K6

end
-- text Ma3
section
set_option Elab.async false
set_option linter.all false
set_option autoImplicit false
set_option maxRecDepth 100000
set_option maxHeartbeats 4000000
/-! The mathematics, part 3: heights, bounds and their answers. -/
namespace K6
open PySem

/-! ### statements in a row -/
section
variable {f g : SM} {ρ ρ1 : En} {o : Option Out} {it : AM} {b : BM} {items : List PyData}
theorem seq_ (h : f ρ = some (.nx ρ1)) (k : g ρ1 = o) : sSeq f g ρ = o := (sSeq_nx h).trans k
theorem for_ (P : Nat → En → Prop) (hit : it ρ = some items) (h0 : P 0 ρ) (step : ∀ i d ρ, items[i]? = some d → P i ρ → ∃ ρ1 ρ2, b d ρ = some ρ1 ∧ f ρ1 = some (.nx ρ2) ∧ P (i + 1) ρ2) (k : ∀ ρn, P items.length ρn → g ρn = o) : sSeq (sFor it b f) g ρ = o :=
  let ⟨ρn, h1, h2⟩ := forGo_inv step h0
  seq_ (sFor_nx hit h1) (k ρn h2)
theorem sFor_ex (P : Nat → En → Prop) (hit : it ρ = some items) (h0 : P 0 ρ) (step : ∀ i d ρ, items[i]? = some d → P i ρ → ∃ ρ1 ρ2, b d ρ = some ρ1 ∧ f ρ1 = some (.nx ρ2) ∧ P (i + 1) ρ2) : ∃ ρn, sFor it b f ρ = some (.nx ρn) ∧ P items.length ρn :=
  let ⟨ρn, h1, h2⟩ := forGo_inv step h0
  ⟨ρn, sFor_nx hit h1, h2⟩
theorem forGo_or {P : En → Prop} {Q : PyData → Prop} : ∀ {items : List PyData} {N : Nat → Prop} (step : ∀ i d ρ, items[i]? = some d → P ρ → ∃ ρ1, b d ρ = some ρ1 ∧ ((∃ r, f ρ1 = some (.rt r) ∧ Q r) ∨ (∃ ρ2, f ρ1 = some (.nx ρ2) ∧ P ρ2 ∧ N i))) {ρ : En}, P ρ →
    (∃ r, forGo b f items ρ = some (.rt r) ∧ Q r) ∨ (∃ ρn, forGo b f items ρ = some (.nx ρn) ∧ P ρn ∧ ∀ i, i < items.length → N i)
  | [], N, _, ρ, h => .inr ⟨ρ, rfl, h, fun i hi => absurd hi (Nat.not_lt_zero i)⟩
  | x :: xs, N, step, ρ, h => by
    obtain ⟨ρ1, h1, h2⟩ := step 0 x ρ rfl h
    have e : forGo b f (x :: xs) ρ = bind1 (f ρ1) (andThen (forGo b f xs)) := by
      show bind1 (b x ρ) (fun ρ1 => bind1 (f ρ1) (andThen (forGo b f xs))) = _
      rw [h1]
      rfl
    rw [e]
    rcases h2 with ⟨r, h2, h3⟩ | ⟨ρ2, h2, h3, h4⟩
    · refine .inl ⟨r, ?_, h3⟩
      rw [h2]
      rfl
    · rw [h2]
      rcases forGo_or (items := xs) (N := fun i => N (i + 1)) (fun i d ρ e q => step (i + 1) d ρ (by simpa using e) q) h3 with ⟨r, h5, h6⟩ | ⟨ρn, h5, h6, h7⟩
      · exact .inl ⟨r, h5, h6⟩
      · refine .inr ⟨ρn, h5, h6, fun i hi => ?_⟩
        cases i with
        | zero => exact h4
        | succ i => exact h7 i (by simpa using hi)
theorem sFor_or {P : En → Prop} {Q : PyData → Prop} {N : Nat → Prop} (hit : it ρ = some items) (h0 : P ρ) (step : ∀ i d ρ, items[i]? = some d → P ρ → ∃ ρ1, b d ρ = some ρ1 ∧ ((∃ r, f ρ1 = some (.rt r) ∧ Q r) ∨ (∃ ρ2, f ρ1 = some (.nx ρ2) ∧ P ρ2 ∧ N i))) :
    (∃ r, sFor it b f ρ = some (.rt r) ∧ Q r) ∨ (∃ ρn, sFor it b f ρ = some (.nx ρn) ∧ P ρn ∧ ∀ i, i < items.length → N i) := by
  have e : sFor it b f ρ = forGo b f items ρ := by
    show bind1 (it ρ) _ = _
    rw [hit]
    rfl
  rw [e]
  exact forGo_or step h0
theorem seq_rt {r : PyData} (h : f ρ = some (.rt r)) : sSeq f g ρ = some (.rt r) := by
  show bind1 (f ρ) _ = _
  rw [h]
  rfl
theorem runM_nx {n : Nat} {ds : List PyData} {ρ1 : En} (h : f (startE n ds) = some (.nx ρ1)) : runM n f ds = some (.ok .none) := by
  show bind1 (f (startE n ds)) _ = _
  rw [h]
  rfl
theorem v_or {p q : TM} {c : Bool} (hf : p ρ = some false) (hg : q ρ = some c) : tOrM p q ρ = some c := by
  show bind1 (p ρ) _ = _
  rw [hf]
  exact hg
theorem v_sc1 {G : FM} {e : EM} {x d : PyData} (he : e ρ = some x) (hG : G [x] = some (.ok d)) : sCall G 1 (aCons e aNil) ρ = some (.nx ρ) := by
  show bind1 (bind1 (e ρ) _) _ = _
  rw [he]
  show bind1 (G [x]) _ = _
  rw [hG]
  rfl
theorem v_sc2 {G : FM} {e e2 : EM} {x y d : PyData} (he : e ρ = some x) (he2 : e2 ρ = some y) (hG : G [x, y] = some (.ok d)) : sCall G 2 (aCons e (aCons e2 aNil)) ρ = some (.nx ρ) := by
  show bind1 (bind1 (e ρ) fun x => bind1 (bind1 (e2 ρ) _) _) _ = _
  rw [he]
  show bind1 (bind1 (bind1 (e2 ρ) _) _) _ = _
  rw [he2]
  show bind1 (G [x, y]) _ = _
  rw [hG]
  rfl
theorem v_sc3 {G : FM} {e e2 e3 : EM} {x y z d : PyData} (he : e ρ = some x) (he2 : e2 ρ = some y) (he3 : e3 ρ = some z) (hG : G [x, y, z] = some (.ok d)) : sCall G 3 (aCons e (aCons e2 (aCons e3 aNil))) ρ = some (.nx ρ) := by
  show bind1 (bind1 (e ρ) fun x => bind1 (bind1 (e2 ρ) fun y => bind1 (bind1 (e3 ρ) _) _) _) _ = _
  rw [he]
  show bind1 (bind1 (bind1 (e2 ρ) fun y => bind1 (bind1 (e3 ρ) _) _) _) _ = _
  rw [he2]
  show bind1 (bind1 (bind1 (bind1 (e3 ρ) _) _) _) _ = _
  rw [he3]
  show bind1 (G [x, y, z]) _ = _
  rw [hG]
  rfl
end
theorem grid_dLen (m k : Nat) (T : Nat → Nat → Int) : dLen [gridD m k T] = some (.int m) := by
  show some (PyData.int (((List.range m).map fun r => rowD k (T r)).length : Nat)) = _
  rw [grid_len]
theorem dMul_rep {d : PyData} {k : Nat} (h : k ≤ 1000) : dMul (.list [d]) (.int (k : Nat)) = some (.list ((List.range k).map fun _ => d)) := by
  show (if 0 ≤ (k : Int) ∧ (k : Int) ≤ 1000 ∧ [d].length ≤ 1000 then some (PyData.list (List.replicate (k : Int).toNat [d]).flatten) else none) = _
  rw [if_pos ⟨by omega, by omega, by show 1 ≤ 1000; omega⟩, Int.toNat_natCast]
  have e : ∀ m : Nat, (List.replicate m [d]).flatten = (List.range m).map fun _ => d := by
    intro m
    induction m with
    | zero => rfl
    | succ m ih => rw [range_map_succ m fun _ => d, ← ih, List.replicate_succ', List.flatten_append]; rfl
  rw [e]
theorem v_tupRg {f : EM} {ρ : En} {k : Nat} (hf : f ρ = some (.int (k : Nat))) (h : k ≤ 1000) : eTupRg f ρ = some (.tuple ((List.range k).map fun i => .int (i : Nat))) := by
  show bind1 (f ρ) _ = _
  rw [hf]
  show (if 0 ≤ (k : Int) ∧ (k : Int) ≤ 1000 then some (PyData.tuple ((List.range (k : Int).toNat).map fun i => PyData.int (i : Nat))) else none) = _
  rw [if_pos (by omega), Int.toNat_natCast]
theorem v_own1 {f : EM} {ρ : En} {x : PyData} (hf : f ρ = some x) : xOwn (aCons f aNil) ρ = some (.own [x]) := by
  show bind1 (bind1 (f ρ) _) _ = _
  rw [hf]
  rfl
theorem v_dat {f : EM} {ρ : En} {x : PyData} (hf : f ρ = some x) : xDat f ρ = some (.dat x) := by
  show bind1 (f ρ) _ = _
  rw [hf]
  rfl
section
variable {n : Nat} {T : Nat → Nat → Int}
theorem HT.heights_of (h : HT n T) (hn : n ≤ 12) : f_heights_of [gridD n n (sqf T)] = some (.ok (tabD n T)) := by
  refine runM_rt ?_
  show m_heights_of [.dat (gridD n n (sqf T)), .no, .no, .no, .no, .no, .no, .no, .no, .no] = _
  unfold m_heights_of
  refine seq_ (v_set (v_cb1 rfl (grid_dLen _ _ _))) ?_
  refine seq_ (v_par (v_dat (v_bin (y := .int (n + 1 : Nat)) rfl rfl (dMul_rep (by omega)))) (v_own1 (v_tupRg (k := n + 1) rfl (by omega)))) ?_
  have e2 : ((List.range (n + 1)).map fun _ => PyData.int 0) = (List.range (n + 1)).map fun c => PyData.int (cor T 0 c) := List.map_congr_left fun c hc => by
    rw [h.cor_top (by have := List.mem_range.mp hc; omega)]
  have e3 : PyData.tuple ((List.range (n + 1)).map fun i => PyData.int (i : Nat)) = rowD (n + 1) (T 0) := congrArg PyData.tuple (List.map_congr_left fun c hc => by
    rw [h.top c (by have := List.mem_range.mp hc; omega)])
  rw [e2, e3]
  refine for_ (fun i ρ => ∃ a b c d e f, ρ = [.dat (gridD n n (sqf T)), .dat (.int n), .dat (.list ((List.range (n + 1)).map fun c => .int (cor T i c))), .own ((List.range (i + 1)).map fun r => rowD (n + 1) (T r)), a, b, c, d, e, f]) (items := (List.range n).map fun i => .tuple [.int (i : Nat), rowD n (sqf T i)]) ?_ ⟨.no, .no, .no, .no, .no, .no, rfl⟩ (fun i d ρ hd hP => ?_) fun ρn hP => ?_
  · show some (pairUp _) = _
    rw [pair_range]
  · obtain ⟨hi, rfl⟩ := range_at hd
    obtain ⟨a, b, c, d, e, f, rfl⟩ := hP
    obtain ⟨ρm, g1, e', f', rfl⟩ : ∃ ρn, sFor (iEnuT (eVar 5)) (bTup [8, 9]) (sSeq (sSet 6 (xDat (eBin dAdd (eVar 6) (eVar 9)))) (sApp 7 (eBin dAdd (eBin dIx (eVar 2) (eBin dAdd (eVar 8) (eC (.int 1)))) (eVar 6))))
        [.dat (gridD n n (sqf T)), .dat (.int n), .dat (.list ((List.range (n + 1)).map fun c => .int (cor T i c))), .own ((List.range (i + 1)).map fun r => rowD (n + 1) (T r)), .dat (.int i), .dat (rowD n (sqf T i)), .dat (.int 0), .own [.int 0], e, f] = some (.nx ρn) ∧
        ∃ e' f', ρn = [.dat (gridD n n (sqf T)), .dat (.int n), .dat (.list ((List.range (n + 1)).map fun c => .int (cor T i c))), .own ((List.range (i + 1)).map fun r => rowD (n + 1) (T r)), .dat (.int i), .dat (rowD n (sqf T i)), .dat (.int (cor T (i + 1) n - cor T i n)), .own ((List.range (n + 1)).map fun c => .int (cor T (i + 1) c)), e', f'] := by
      obtain ⟨ρn, g1, e', f', g2⟩ := sFor_ex (it := iEnuT (eVar 5)) (b := bTup [8, 9]) (f := sSeq (sSet 6 (xDat (eBin dAdd (eVar 6) (eVar 9)))) (sApp 7 (eBin dAdd (eBin dIx (eVar 2) (eBin dAdd (eVar 8) (eC (.int 1)))) (eVar 6))))
        (ρ := [.dat (gridD n n (sqf T)), .dat (.int n), .dat (.list ((List.range (n + 1)).map fun c => .int (cor T i c))), .own ((List.range (i + 1)).map fun r => rowD (n + 1) (T r)), .dat (.int i), .dat (rowD n (sqf T i)), .dat (.int 0), .own [.int 0], e, f])
        (items := (List.range n).map fun j => .tuple [.int (j : Nat), .int (sqf T i j)])
        (fun j ρ => ∃ e f, ρ = [.dat (gridD n n (sqf T)), .dat (.int n), .dat (.list ((List.range (n + 1)).map fun c => .int (cor T i c))), .own ((List.range (i + 1)).map fun r => rowD (n + 1) (T r)), .dat (.int i), .dat (rowD n (sqf T i)), .dat (.int (cor T (i + 1) j - cor T i j)), .own ((List.range (j + 1)).map fun c => .int (cor T (i + 1) c)), e, f])
        (by
          show some (pairUp _) = _
          rw [pair_range])
        ⟨e, f, by
          rw [h.cor_left (by omega), h.cor_left (by omega)]
          show _ = [_, _, _, _, _, _, _, Sl.own [PyData.int (cor T (i + 1) 0)], _, _]
          rw [h.cor_left (by omega)]
          rfl⟩
        (fun j d ρ hd hP => by
          obtain ⟨hj, rfl⟩ := range_at hd
          obtain ⟨a, b, rfl⟩ := hP
          refine ⟨_, _, rfl, seq_ rfl (v_app (i := 7) (x := .int (cor T (i + 1) (j + 1))) rfl (v_bin (v_bin (y := .int ((j + 1 : Nat))) rfl rfl (dIx_rangeL (f := fun c => PyData.int (cor T i c)) (Nat.succ_lt_succ hj))) rfl ?_) (by rw [List.length_map, List.length_range]; omega)), .dat (.int j), .dat (.int (sqf T i j)), ?_⟩
          · show some (PyData.int (cor T i (j + 1) + (cor T (i + 1) j - cor T i j + sqf T i j))) = _
            rw [h.sqf2 hi hj, show cor T i (j + 1) + (cor T (i + 1) j - cor T i j + (cor T (i + 1) (j + 1) - cor T (i + 1) j - cor T i (j + 1) + cor T i j)) = cor T (i + 1) (j + 1) by omega]
          · rw [← range_map_succ (j + 1) fun c => PyData.int (cor T (i + 1) c)]
            show [_, _, _, _, _, _, Sl.dat (.int (cor T (i + 1) j - cor T i j + sqf T i j)), _, _, _] = _
            rw [h.sqf2 hi hj, show cor T (i + 1) j - cor T i j + (cor T (i + 1) (j + 1) - cor T (i + 1) j - cor T i (j + 1) + cor T i j) = cor T (i + 1) (j + 1) - cor T i (j + 1) by omega])
      rw [List.length_map, List.length_range] at g2
      exact ⟨ρn, g1, e', f', g2⟩
    refine ⟨_, _, rfl, seq_ rfl (seq_ g1 (seq_ rfl (v_app (i := 3) (x := rowD (n + 1) (T (i + 1))) rfl (v_cb1 (eLc_map (enc := fun c : Nat => PyData.tuple [.int (c : Nat), .int (cor T (i + 1) c)]) (h := fun c => .int (T (i + 1) c)) (l := List.range (n + 1)) ?_ (by rw [List.length_range]; omega) fun c hc => ⟨_, rfl, rfl, ?_⟩) rfl) (by rw [List.length_map, List.length_range]; omega)))),
      .dat (.int i), .dat (rowD n (sqf T i)), .dat (.int (cor T (i + 1) n - cor T i n)), .dat (.list ((List.range (n + 1)).map fun c => .int (cor T (i + 1) c))), e', f', ?_⟩
    · show some (pairUp _) = _
      rw [pair_range]
    · show some (PyData.int ((i : Int) + 1 + c - 2 * cor T (i + 1) c)) = _
      have := List.mem_range.mp hc
      rw [h.cor2 (r := i + 1) (c := c) (by omega) (by omega)]
      rw [show (i : Int) + 1 + c - (((i + 1 : Nat) : Int) + c - T (i + 1) c) = T (i + 1) c by omega]
    · rw [← range_map_succ (i + 1) fun r => rowD (n + 1) (T r)]
      rfl
  · obtain ⟨a, b, c, d, e, f, rfl⟩ := hP
    rw [List.length_map, List.length_range]
    rfl
end
end K6

end
-- text Ma4
section
set_option Elab.async false
set_option linter.all false
set_option autoImplicit false
set_option maxRecDepth 100000
set_option maxHeartbeats 4000000
/-! The mathematics, part 4: what the defs of the bounds answer. -/
namespace K6
open PySem
section
variable {n : Nat} {T : Nat → Nat → Int}
theorem HT.heights (h : HT n T) (h1 : 1 ≤ n) (hn : n ≤ 12) : f_heights [gridD n n (sqf T)] = some (.ok (tabD n T)) := by
  refine runM_rt (seq_ (ρ1 := [.dat (gridD n n (sqf T))]) (v_sc1 (x := gridD n n (sqf T)) (d := .none) rfl (runM_nx (v_if (b := false) (v_not (b := true) (v_of (v_call1 (x := gridD n n (sqf T)) rfl (h.fits h1 hn)))) rfl))) (v_ret ?_))
  exact v_call1 (x := gridD n n (sqf T)) rfl (h.heights_of hn)
end
theorem f_sides {n : Nat} (h1 : 1 ≤ n) (hn : n ≤ 12) : f_need_sides [.int n] = some (.ok .none) := by
  refine runM_nx (ρ1 := [.dat (.int n)]) (v_if (b := false) (v_not (b := true) (v_of (v_call3 (x := .int n) (y := .int 1) (z := .int 12) rfl rfl rfl ?_))) rfl)
  rw [f_whole, decide_eq_true (by omega), decide_eq_true (by omega)]
  rfl
theorem pair_at {ds : List PyData} {i : Nat} {d : PyData} (h : (pairUp ds)[i]? = some d) : ∃ x, ds[i]? = some x ∧ d = .tuple [.int (i : Nat), x] := by
  unfold pairUp at h
  obtain ⟨hi, rfl⟩ := range_at h
  refine ⟨ds[i], List.getElem?_eq_getElem hi, ?_⟩
  rw [List.getD_eq_getElem?_getD, List.getElem?_eq_getElem hi]
  rfl
theorem pair_len (ds : List PyData) : (pairUp ds).length = ds.length := by
  unfold pairUp
  rw [List.length_map, List.length_range]
theorem bnd_at {bs : List Bd} {i : Nat} {d : PyData} (h : (bs.map encB)[i]? = some d) : ∃ b, b ∈ bs ∧ bs[i]? = some b ∧ d = encB b := by
  rw [List.getElem?_map] at h
  cases e : bs[i]? with
  | none => rw [e] at h; cases h
  | some b =>
    rw [e] at h
    exact ⟨b, List.mem_of_getElem? e, rfl, (Option.some.inj h).symm⟩
theorem f_fit {n : Nat} {bs : List Bd} (hb : ∀ b ∈ bs, BdOk n b) (hl : bs.length ≤ 40) : f_fit_bounds [.int n, bndD bs] = some (.ok (.bool true)) := by
  refine runM_rt ?_
  show m_fit_bounds [.dat (.int n), .dat (bndD bs), .no, .no] = _
  unfold m_fit_bounds
  refine seq_ (ρ1 := [.dat (.int n), .dat (bndD bs), .no, .no]) (v_if (b := false) (v_or rfl (v_of (v_bin (y := .int 40) (v_cb1 (x := bndD bs) (d := .int (bs.length : Nat)) rfl ?_) rfl ?_))) rfl) ?_
  · show some (PyData.int ((bs.map encB).length : Nat)) = _
    rw [List.length_map]
  · show some (PyData.bool (decide ((40 : Int) < (bs.length : Nat)))) = _
    rw [decide_eq_false (by omega)]
  · refine for_ (fun i ρ => ∃ a b, ρ = [.dat (.int n), .dat (bndD bs), a, b]) (items := bs.map encB) rfl ⟨.no, .no, rfl⟩ (fun i d ρ hd hP => ?_) fun ρn hP => ?_
    · obtain ⟨b, hm, _, rfl⟩ := bnd_at hd
      obtain ⟨a, c, rfl⟩ := hP
      have ok := hb b hm
      refine ⟨_, _, rfl, seq_ (ρ1 := [.dat (.int n), .dat (bndD bs), .dat (encB b), c]) (v_if (b := false) (v_or rfl (v_or rfl (v_not (b := true) (v_of (v_call3 (x := .int b.h) (y := .int (-40)) (z := .int 40) rfl rfl rfl ?_))))) rfl) (v_if (b := false) (v_not (b := true) (v_of (v_cb1 (eLc_map (enc := fun v : Nat => PyData.int v) (h := fun v => .bool true) (l := [b.x, b.y]) rfl (by show 2 ≤ 1000; omega) fun v hv => ⟨_, rfl, rfl, v_call3 (x := .int v) (y := .int 0) (z := .int n) rfl rfl rfl ?_⟩) (dAll_map fun _ _ => rfl)))) rfl), _, _, rfl⟩
      · rw [f_whole, decide_eq_true ok.lo, decide_eq_true ok.hi]
        rfl
      · rw [f_whole]
        have : v ≤ n := by
          rcases List.mem_cons.mp hv with rfl | hv
          · exact ok.x
          · rcases List.mem_cons.mp hv with rfl | hv
            · exact ok.y
            · cases hv
        rw [decide_eq_true (by omega), decide_eq_true (by omega)]
        rfl
    · obtain ⟨a, b, rfl⟩ := hP
      rfl
theorem f_nbounds {n : Nat} {bs : List Bd} (hb : ∀ b ∈ bs, BdOk n b) (hl : bs.length ≤ 40) : f_need_bounds [.int n, bndD bs] = some (.ok .none) :=
  runM_nx (ρ1 := [.dat (.int n), .dat (bndD bs)]) (v_if (b := false) (v_not (b := true) (v_of (v_call2 (x := .int n) (y := bndD bs) rfl rfl (f_fit hb hl)))) rfl)
theorem dAny_map {α : Type} {l : List α} {p : α → Bool} : dAny [.list (l.map fun a => .bool (p a))] = some (.bool (l.any p)) := by
  show bind1 (boolsOf (l.map fun a => PyData.bool (p a))) _ = _
  rw [show (l.map fun a => PyData.bool (p a)) = (l.map p).map .bool by rw [List.map_map]; rfl, boolsOf_map]
  show some (PyData.bool ((l.map p).any id)) = _
  rw [List.any_map]
  rfl
structure BsOk (n : Nat) (bs : List Bd) : Prop where
  one : 1 ≤ n
  n12 : n ≤ 12
  len : bs.length ≤ 40
  ok : ∀ b ∈ bs, BdOk n b
theorem f_least {n : Nat} {bs : List Bd} (h : BsOk n bs) : ((∃ b ∈ bs, ceil n b.x b.y < lift b) ∧ f_least_above [.int n, bndD bs] = some (.ok .none)) ∨
    ((∀ b ∈ bs, b.x ≤ n ∧ b.y ≤ n ∧ lift b ≤ ceil n b.x b.y) ∧ f_least_above [.int n, bndD bs] = some (.ok (gridD n n (sqf (lowT bs))))) := by
  have ev : ∀ o, (if (bs.any fun b => decide (ceil n b.x b.y < lift b)) = true then sRet (eC .none) else sNil) [.dat (.int n), .dat (bndD bs), .no] = o →
      sIf (tOf (eCB dAny (aCons (eLc (iTupM (eVar 1)) (bName 2) tYesM (eCall f_too_high 2 (aCons (eVar 0) (aCons (eVar 2) aNil))) [2]) aNil))) (sRet (eC .none)) sNil [.dat (.int n), .dat (bndD bs), .no] = o := fun o ho =>
    v_if (v_of (v_cb1 (eLc_map (enc := encB) (h := fun b => .bool (decide (ceil n b.x b.y < lift b))) (l := bs) rfl (by have := h.len; omega) fun b hb => ⟨_, rfl, rfl, v_call2 (x := .int n) (y := encB b) rfl rfl (f_high n b)⟩) dAny_map)) (by rw [← ho]; split <;> rfl)
  by_cases q : (bs.any fun b => decide (ceil n b.x b.y < lift b)) = true
  · refine .inl ⟨?_, runM_rt (seq_ (v_sc1 (x := .int n) rfl (f_sides h.one h.n12)) (seq_ (v_sc2 (x := .int n) (y := bndD bs) rfl rfl (f_nbounds h.ok h.len)) (seq_rt (ev _ (by rw [if_pos q]; rfl)))))⟩
    obtain ⟨b, h1, h2⟩ := List.any_eq_true.mp q
    exact ⟨b, h1, of_decide_eq_true h2⟩
  · refine .inr ⟨fun b hb => ⟨(h.ok b hb).x, (h.ok b hb).y, ?_⟩, runM_rt (seq_ (v_sc1 (x := .int n) rfl (f_sides h.one h.n12)) (seq_ (v_sc2 (x := .int n) (y := bndD bs) rfl rfl (f_nbounds h.ok h.len)) (seq_ (ev _ (by rw [if_neg q]; rfl)) (v_ret (v_call1 (v_call2 (x := .int n) (y := bndD bs) rfl rfl (f_low_tab n bs h.n12 h.len)) (f_sq_from n _ h.n12))))))⟩
    have z : ¬ ceil n b.x b.y < lift b := fun z => q (List.any_eq_true.mpr ⟨b, hb, decide_eq_true z⟩)
    omega
theorem f_great {n : Nat} {bs : List Bd} (h : BsOk n bs) : ((∃ b ∈ bs, press n b < flr b.x b.y) ∧ f_greatest_under [.int n, bndD bs] = some (.ok .none)) ∨
    ((∀ b ∈ bs, b.x ≤ n ∧ b.y ≤ n ∧ flr b.x b.y ≤ press n b) ∧ f_greatest_under [.int n, bndD bs] = some (.ok (gridD n n (sqf (highT n bs))))) := by
  have ev : ∀ o, (if (bs.any fun b => decide (press n b < flr b.x b.y)) = true then sRet (eC .none) else sNil) [.dat (.int n), .dat (bndD bs), .no] = o →
      sIf (tOf (eCB dAny (aCons (eLc (iTupM (eVar 1)) (bName 2) tYesM (eCall f_too_low 2 (aCons (eVar 0) (aCons (eVar 2) aNil))) [2]) aNil))) (sRet (eC .none)) sNil [.dat (.int n), .dat (bndD bs), .no] = o := fun o ho =>
    v_if (v_of (v_cb1 (eLc_map (enc := encB) (h := fun b => .bool (decide (press n b < flr b.x b.y))) (l := bs) rfl (by have := h.len; omega) fun b hb => ⟨_, rfl, rfl, v_call2 (x := .int n) (y := encB b) rfl rfl (f_low n b)⟩) dAny_map)) (by rw [← ho]; split <;> rfl)
  by_cases q : (bs.any fun b => decide (press n b < flr b.x b.y)) = true
  · refine .inl ⟨?_, runM_rt (seq_ (v_sc1 (x := .int n) rfl (f_sides h.one h.n12)) (seq_ (v_sc2 (x := .int n) (y := bndD bs) rfl rfl (f_nbounds h.ok h.len)) (seq_rt (ev _ (by rw [if_pos q]; rfl)))))⟩
    obtain ⟨b, h1, h2⟩ := List.any_eq_true.mp q
    exact ⟨b, h1, of_decide_eq_true h2⟩
  · refine .inr ⟨fun b hb => ⟨(h.ok b hb).x, (h.ok b hb).y, ?_⟩, runM_rt (seq_ (v_sc1 (x := .int n) rfl (f_sides h.one h.n12)) (seq_ (v_sc2 (x := .int n) (y := bndD bs) rfl rfl (f_nbounds h.ok h.len)) (seq_ (ev _ (by rw [if_neg q]; rfl)) (v_ret (v_call1 (v_call2 (x := .int n) (y := bndD bs) rfl rfl (f_high_tab n bs h.n12 h.len)) (f_sq_from n _ h.n12))))))⟩
    have z : ¬ press n b < flr b.x b.y := fun z => q (List.any_eq_true.mpr ⟨b, hb, decide_eq_true z⟩)
    omega
/-- what clash_of tells -/
inductive Clash (n : Nat) (lows highs : List Bd) : PyData → Prop
  | lo {i : Nat} {b : Bd} (h : lows[i]? = some b) (c : ceil n b.x b.y < lift b) : Clash n lows highs (.tuple [.int i, .none])
  | hi {i : Nat} {b : Bd} (h : highs[i]? = some b) (c : press n b < flr b.x b.y) : Clash n lows highs (.tuple [.none, .int i])
  | both {i j : Nat} {l b : Bd} (h : lows[i]? = some l) (h2 : highs[j]? = some b) (c : press n b < lift l - stp l b.x b.y) : Clash n lows highs (.tuple [.int i, .int j])
structure NoClash (n : Nat) (lows highs : List Bd) : Prop where
  lo : ∀ b ∈ lows, lift b ≤ ceil n b.x b.y
  hi : ∀ b ∈ highs, flr b.x b.y ≤ press n b
  both : ∀ l ∈ lows, ∀ b ∈ highs, lift l - stp l b.x b.y ≤ press n b
theorem mem_at {α : Type} {l : List α} {a : α} (h : a ∈ l) : ∃ i, i < l.length ∧ l[i]? = some a := by
  obtain ⟨i, hi, e⟩ := List.mem_iff_getElem.mp h
  exact ⟨i, hi, by rw [List.getElem?_eq_getElem hi, e]⟩
theorem f_clash (n : Nat) (lows highs : List Bd) : (∃ d, f_clash_of [.int n, bndD lows, bndD highs] = some (.ok d) ∧ Clash n lows highs d) ∨ (f_clash_of [.int n, bndD lows, bndD highs] = some (.ok .none) ∧ NoClash n lows highs) := by
  suffices z : (∃ d, m_clash_of [.dat (.int n), .dat (bndD lows), .dat (bndD highs), .no, .no, .no, .no, .no] = some (.rt d) ∧ Clash n lows highs d) ∨ (m_clash_of [.dat (.int n), .dat (bndD lows), .dat (bndD highs), .no, .no, .no, .no, .no] = some (.rt .none) ∧ NoClash n lows highs) by
    rcases z with ⟨d, h1, h2⟩ | ⟨h1, h2⟩
    · exact .inl ⟨d, runM_rt h1, h2⟩
    · exact .inr ⟨runM_rt h1, h2⟩
  unfold m_clash_of
  have P0 : ∃ a b c d e, ([.dat (.int n), .dat (bndD lows), .dat (bndD highs), .no, .no, .no, .no, .no] : En) = [.dat (.int n), .dat (bndD lows), .dat (bndD highs), a, b, c, d, e] := ⟨_, _, _, _, _, rfl⟩
  rcases sFor_or (it := iEnuT (eVar 1)) (b := bTup [3, 4]) (f := sIf (tOf (eCall f_too_high 2 (aCons (eVar 0) (aCons (eVar 4) aNil)))) (sRet (eTup (aCons (eVar 3) (aCons (eC .none) aNil)))) sNil)
    (ρ := [.dat (.int n), .dat (bndD lows), .dat (bndD highs), .no, .no, .no, .no, .no]) (items := pairUp (lows.map encB)) (P := fun ρ => ∃ a b c d e, ρ = [.dat (.int n), .dat (bndD lows), .dat (bndD highs), a, b, c, d, e]) (Q := Clash n lows highs) (N := fun i => ∀ b, lows[i]? = some b → lift b ≤ ceil n b.x b.y) rfl P0
    (fun i d ρ hd hP => by
      obtain ⟨x, h1, rfl⟩ := pair_at hd
      obtain ⟨b, hm, h2, rfl⟩ := bnd_at h1
      obtain ⟨a0, a1, c, d, e, rfl⟩ := hP
      refine ⟨_, rfl, ?_⟩
      by_cases q : ceil n b.x b.y < lift b
      · exact .inl ⟨_, v_if (b := true) (v_of (v_call2 (x := .int n) (y := encB b) rfl rfl (by rw [f_high, decide_eq_true q]))) rfl, .lo h2 q⟩
      · refine .inr ⟨_, v_if (b := false) (v_of (v_call2 (x := .int n) (y := encB b) rfl rfl (by rw [f_high, decide_eq_false q]))) rfl, ⟨_, _, _, _, _, rfl⟩, fun b' e => ?_⟩
        rw [h2] at e
        cases e
        omega) with ⟨r, g1, g2⟩ | ⟨ρ1, g1, ⟨a, b, c, d, e, rfl⟩, n1⟩
  · exact .inl ⟨r, seq_rt g1, g2⟩
  rw [sSeq_nx g1]
  rcases sFor_or (it := iEnuT (eVar 2)) (b := bTup [3, 4]) (f := sIf (tOf (eCall f_too_low 2 (aCons (eVar 0) (aCons (eVar 4) aNil)))) (sRet (eTup (aCons (eC .none) (aCons (eVar 3) aNil)))) sNil)
    (ρ := [.dat (.int n), .dat (bndD lows), .dat (bndD highs), a, b, c, d, e]) (items := pairUp (highs.map encB)) (P := fun ρ => ∃ a b c d e, ρ = [.dat (.int n), .dat (bndD lows), .dat (bndD highs), a, b, c, d, e]) (Q := Clash n lows highs) (N := fun i => ∀ b, highs[i]? = some b → flr b.x b.y ≤ press n b) rfl ⟨_, _, _, _, _, rfl⟩
    (fun i d ρ hd hP => by
      obtain ⟨x, h1, rfl⟩ := pair_at hd
      obtain ⟨b, hm, h2, rfl⟩ := bnd_at h1
      obtain ⟨a0, a1, c, d, e, rfl⟩ := hP
      refine ⟨_, rfl, ?_⟩
      by_cases q : press n b < flr b.x b.y
      · exact .inl ⟨_, v_if (b := true) (v_of (v_call2 (x := .int n) (y := encB b) rfl rfl (by rw [f_low, decide_eq_true q]))) rfl, .hi h2 q⟩
      · refine .inr ⟨_, v_if (b := false) (v_of (v_call2 (x := .int n) (y := encB b) rfl rfl (by rw [f_low, decide_eq_false q]))) rfl, ⟨_, _, _, _, _, rfl⟩, fun b' e => ?_⟩
        rw [h2] at e
        cases e
        omega) with ⟨r, g1, g2⟩ | ⟨ρ2, g1, ⟨a, b, c, d, e, rfl⟩, n2⟩
  · exact .inl ⟨r, seq_rt g1, g2⟩
  rw [sSeq_nx g1]
  rcases sFor_or (it := iEnuT (eVar 1)) (b := bTup [3, 5]) (f := sFor (iEnuT (eVar 2)) (bTup [6, 7]) (sIf (tOf (eBin dGt (eBin dSub (eCall f_lifted 1 (aCons (eVar 5) aNil)) (eCall f_bound_steps 3 (aCons (eVar 5) (aCons (eBin dIx (eVar 7) (eC (.int 0))) (aCons (eBin dIx (eVar 7) (eC (.int 1))) aNil))))) (eCall f_pressed 2 (aCons (eVar 0) (aCons (eVar 7) aNil))))) (sRet (eTup (aCons (eVar 3) (aCons (eVar 6) aNil)))) sNil))
    (ρ := [.dat (.int n), .dat (bndD lows), .dat (bndD highs), a, b, c, d, e]) (items := pairUp (lows.map encB)) (P := fun ρ => ∃ a b c d e, ρ = [.dat (.int n), .dat (bndD lows), .dat (bndD highs), a, b, c, d, e]) (Q := Clash n lows highs) (N := fun i => ∀ l, lows[i]? = some l → ∀ b ∈ highs, lift l - stp l b.x b.y ≤ press n b) rfl ⟨_, _, _, _, _, rfl⟩
    (fun i d ρ hd hP => by
      obtain ⟨x, h1, rfl⟩ := pair_at hd
      obtain ⟨l, hm, h2, rfl⟩ := bnd_at h1
      obtain ⟨a0, a1, c, d, e, rfl⟩ := hP
      refine ⟨_, rfl, ?_⟩
      rcases sFor_or (it := iEnuT (eVar 2)) (b := bTup [6, 7]) (f := sIf (tOf (eBin dGt (eBin dSub (eCall f_lifted 1 (aCons (eVar 5) aNil)) (eCall f_bound_steps 3 (aCons (eVar 5) (aCons (eBin dIx (eVar 7) (eC (.int 0))) (aCons (eBin dIx (eVar 7) (eC (.int 1))) aNil))))) (eCall f_pressed 2 (aCons (eVar 0) (aCons (eVar 7) aNil))))) (sRet (eTup (aCons (eVar 3) (aCons (eVar 6) aNil)))) sNil)
        (ρ := [.dat (.int n), .dat (bndD lows), .dat (bndD highs), .dat (.int i), a1, .dat (encB l), d, e]) (items := pairUp (highs.map encB)) (P := fun ρ => ∃ d e, ρ = [.dat (.int n), .dat (bndD lows), .dat (bndD highs), .dat (.int i), a1, .dat (encB l), d, e]) (Q := Clash n lows highs) (N := fun j => ∀ b, highs[j]? = some b → lift l - stp l b.x b.y ≤ press n b) rfl ⟨_, _, rfl⟩
        (fun j d ρ hd hP => by
          obtain ⟨x, k1, rfl⟩ := pair_at hd
          obtain ⟨b, hm2, k2, rfl⟩ := bnd_at k1
          obtain ⟨d, e, rfl⟩ := hP
          refine ⟨_, rfl, ?_⟩
          by_cases q : press n b < lift l - stp l b.x b.y
          · exact .inl ⟨_, v_if (b := true) (v_of (by
              show some (PyData.bool (decide (press n b < lift l - stp l b.x b.y))) = _
              rw [decide_eq_true q])) rfl, .both h2 k2 q⟩
          · refine .inr ⟨_, v_if (b := false) (v_of (by
              show some (PyData.bool (decide (press n b < lift l - stp l b.x b.y))) = _
              rw [decide_eq_false q])) rfl, ⟨_, _, rfl⟩, fun b' e => ?_⟩
            rw [k2] at e
            cases e
            omega) with ⟨r, g1, g2⟩ | ⟨ρ1, g1, ⟨d, e, rfl⟩, n1⟩
      · exact .inl ⟨r, g1, g2⟩
      · refine .inr ⟨_, g1, ⟨_, _, _, _, _, rfl⟩, fun l' e b hb => ?_⟩
        rw [h2] at e
        cases e
        obtain ⟨j, hj, hj2⟩ := mem_at hb
        exact n1 j (by rw [pair_len, List.length_map]; exact hj) b hj2) with ⟨r, g1, g2⟩ | ⟨ρ3, g1, ⟨a, b, c, d, e, rfl⟩, n3⟩
  · exact .inl ⟨r, seq_rt g1, g2⟩
  rw [sSeq_nx g1]
  refine .inr ⟨rfl, fun b hb => ?_, fun b hb => ?_, fun l hl => ?_⟩
  · obtain ⟨j, hj, hj2⟩ := mem_at hb
    exact n1 j (by rw [pair_len, List.length_map]; exact hj) b hj2
  · obtain ⟨j, hj, hj2⟩ := mem_at hb
    exact n2 j (by rw [pair_len, List.length_map]; exact hj) b hj2
  · obtain ⟨j, hj, hj2⟩ := mem_at hl
    exact n3 j (by rw [pair_len, List.length_map]; exact hj) l hj2
theorem f_both {n : Nat} {lows highs : List Bd} (h : BsOk n lows) (h2 : BsOk n highs) : f_need_both_bounds [.int n, bndD lows, bndD highs] = some (.ok .none) :=
  runM_nx (ρ1 := [.dat (.int n), .dat (bndD lows), .dat (bndD highs)]) (seq_ (v_sc1 (x := .int n) rfl (f_sides h.one h.n12)) (seq_ (v_sc2 (x := .int n) (y := bndD lows) rfl rfl (f_nbounds h.ok h.len)) (v_sc2 (x := .int n) (y := bndD highs) rfl rfl (f_nbounds h2.ok h2.len))))
theorem f_go {n : Nat} {lows highs : List Bd} {d : PyData} (h : BsOk n lows) (h2 : BsOk n highs) (hc : f_clash_of [.int n, bndD lows, bndD highs] = some (.ok d)) : f_bounds_go [.int n, bndD lows, bndD highs] = some (.ok (.bool (isNone d))) := by
  refine runM_rt (seq_ (v_sc3 (x := .int n) (y := bndD lows) (z := bndD highs) rfl rfl rfl (f_both h h2)) (v_ret (v_bin (y := .none) (v_call3 (x := .int n) (y := bndD lows) (z := bndD highs) rfl rfl rfl hc) rfl rfl)))
theorem f_paper {n : Nat} {lows highs : List Bd} {d : PyData} (h : BsOk n lows) (h2 : BsOk n highs) (hc : f_clash_of [.int n, bndD lows, bndD highs] = some (.ok d)) : f_bounds_paper [.int n, bndD lows, bndD highs] = some (.ok d) := by
  refine runM_rt (seq_ (v_sc3 (x := .int n) (y := bndD lows) (z := bndD highs) rfl rfl rfl (f_both h h2)) (v_ret (v_call3 (x := .int n) (y := bndD lows) (z := bndD highs) rfl rfl rfl hc)))
end K6

end
-- text Ma5
section
set_option Elab.async false
set_option linter.all false
set_option autoImplicit false
set_option maxRecDepth 100000
set_option maxHeartbeats 4000000
/-! The mathematics, part 5: keeping, lying under, the right end. -/
namespace K6
open PySem
theorem v_andT {p q : TM} {ρ : En} {b c : Bool} (hf : p ρ = some b) (hg : q ρ = some c) : tAndM p q ρ = some (b && c) := by
  show bind1 (p ρ) _ = _
  rw [hf]
  show (if b = true then q ρ else some false) = _
  cases b with
  | true => exact hg
  | false => rfl
theorem dEq_nil {k : Nat} {xs : List PyData} (h : Sh k (.list xs)) (hk : k ≤ 64 := by decide) : dEq (.list xs) (.list []) = some (.bool xs.isEmpty) := by
  rw [dEq_sh h (sh_lst (k := 0) fun d hd => by cases hd) hk]
  cases xs with
  | nil => rfl
  | cons x xs => simp only [PyData.eqv, PyData.eqvAll, List.isEmpty]
theorem dNe_nil {k : Nat} {xs : List PyData} (h : Sh k (.list xs)) (hk : k ≤ 64 := by decide) : dNe (.list xs) (.list []) = some (.bool (!xs.isEmpty)) := by
  rw [dNe_sh h (sh_lst (k := 0) fun d hd => by cases hd) hk]
  cases xs with
  | nil => rfl
  | cons x xs => simp only [PyData.eqv, PyData.eqvAll, List.isEmpty]
theorem filt_emp {α β : Type} {l : List α} {p q : α → Bool} {f : α → β} (h : ∀ a ∈ l, q a = !p a) : ((l.filter p).map f).isEmpty = l.all q := by
  induction l with
  | nil => rfl
  | cons a l ih =>
    have ha := h a List.mem_cons_self
    have ih := ih fun b hb => h b (List.mem_cons_of_mem _ hb)
    rw [List.filter_cons, List.all_cons, ha]
    cases hp : p a with
    | true => rw [if_pos rfl]; rfl
    | false => rw [if_neg Bool.false_ne_true, ih]; rfl
def lowOk (T : Nat → Nat → Int) (lows : List Bd) : Bool := lows.all fun b => decide (b.h ≤ T b.x b.y)
def highOk (T : Nat → Nat → Int) (highs : List Bd) : Bool := highs.all fun b => decide (T b.x b.y ≤ b.h)
def keepB (lows highs : List Bd) (T : Nat → Nat → Int) : Bool := lowOk T lows && highOk T highs
theorem sh_bds {bs : List Bd} : Sh 2 (.list (bs.map encB)) := sh_lst (k := 1) fun d hd => by
  obtain ⟨b, _, rfl⟩ := List.mem_map.mp hd
  exact sh_bd b
theorem f_keep {n : Nat} {lows highs : List Bd} {Ts : List (Nat → Nat → Int)} (hl : lows.length ≤ 40) (hh : highs.length ≤ 40) (hT : Ts.length ≤ 1000) (h1 : ∀ b ∈ lows, b.x ≤ n ∧ b.y ≤ n) (h2 : ∀ b ∈ highs, b.x ≤ n ∧ b.y ≤ n) :
    f__law_keep [.list (Ts.map (tabD n)), bndD lows, bndD highs] = some (.ok (.list ((Ts.filter (keepB lows highs)).map (tabD n)))) := by
  refine runM_rt ?_
  show m__law_keep [.dat (.list (Ts.map (tabD n))), .dat (bndD lows), .dat (bndD highs), .no, .no, .no, .no, .no] = _
  unfold m__law_keep
  refine seq_ rfl ?_
  refine for_ (fun i ρ => ∃ a b c d, ρ = [.dat (.list (Ts.map (tabD n))), .dat (bndD lows), .dat (bndD highs), .own (((Ts.take i).filter (keepB lows highs)).map (tabD n)), a, b, c, d]) (items := Ts.map (tabD n)) rfl ⟨_, _, _, _, rfl⟩ (fun i d ρ hd hP => ?_) fun ρn hP => ?_
  · rw [List.getElem?_map] at hd
    obtain ⟨a, b, c, d', rfl⟩ := hP
    cases e : Ts[i]? with
    | none => rw [e] at hd; cases hd
    | some T =>
      rw [e] at hd
      cases hd
      have cell : ∀ b : Bd, b.x ≤ n ∧ b.y ≤ n → ∀ ρ : En, ρ[4]? = some (.dat (tabD n T)) → ρ[7]? = some (.dat (encB b)) → eBin dIx (eBin dIx (eVar 4) (eBin dIx (eVar 7) (eC (.int 0)))) (eBin dIx (eVar 7) (eC (.int 1))) ρ = some (.int (T b.x b.y)) := fun b hb ρ e4 e7 => by
        have v4 : eVar 4 ρ = some (tabD n T) := by unfold eVar; rw [e4]
        have v7 : eVar 7 ρ = some (encB b) := by unfold eVar; rw [e7]
        exact v_bin (y := .int (b.y : Nat)) (v_bin (y := .int (b.x : Nat)) v4 (v_bin v7 rfl rfl) (dIx_range (f := fun r => rowD (n + 1) (T r)) (Nat.lt_succ_of_le hb.1))) (v_bin v7 rfl rfl) (dIx_range (f := fun c => PyData.int (T b.x c)) (Nat.lt_succ_of_le hb.2))
      have tl : Ts.take (i + 1) = Ts.take i ++ [T] := by rw [List.take_add_one, e]; rfl
      have last : ∀ ρ : En, ρ = [.dat (.list (Ts.map (tabD n))), .dat (bndD lows), .dat (bndD highs), .own (((Ts.take i).filter (keepB lows highs)).map (tabD n)), .dat (tabD n T), .dat (.list ((lows.filter fun b => decide (T b.x b.y < b.h)).map encB)), .dat (.list ((highs.filter fun b => decide (b.h < T b.x b.y)).map encB)), d'] →
          ∃ ρ2, sIf (tAndM (tOf (eBin dEq (eVar 5) (eLst aNil))) (tOf (eBin dEq (eVar 6) (eLst aNil)))) (sApp 3 (eVar 4)) sNil ρ = some (.nx ρ2) ∧ ∃ a b c d, ρ2 = [.dat (.list (Ts.map (tabD n))), .dat (bndD lows), .dat (bndD highs), .own (((Ts.take (i + 1)).filter (keepB lows highs)).map (tabD n)), a, b, c, d] := fun ρ hρ => by
        subst hρ
        have tv := v_andT (v_of (v_bin (f := eVar 5) (g := eLst aNil) (ρ := [.dat (.list (Ts.map (tabD n))), .dat (bndD lows), .dat (bndD highs), .own (((Ts.take i).filter (keepB lows highs)).map (tabD n)), .dat (tabD n T), .dat (.list ((lows.filter fun b => decide (T b.x b.y < b.h)).map encB)), .dat (.list ((highs.filter fun b => decide (b.h < T b.x b.y)).map encB)), d']) rfl rfl (dEq_nil sh_bds))) (v_of (v_bin (f := eVar 6) (g := eLst aNil) rfl rfl (dEq_nil sh_bds)))
        rw [filt_emp (q := fun b => decide (b.h ≤ T b.x b.y)) (fun b _ => by by_cases q : T b.x b.y < b.h <;> simp [q] <;> omega), filt_emp (q := fun b => decide (T b.x b.y ≤ b.h)) (fun b _ => by by_cases q : b.h < T b.x b.y <;> simp [q] <;> omega)] at tv
        change tAndM _ _ _ = some (keepB lows highs T) at tv
        cases hk : keepB lows highs T with
        | true =>
          rw [hk] at tv
          refine ⟨_, v_if tv (v_app (i := 3) rfl rfl (by
            rw [List.length_map]
            exact Nat.le_trans (List.length_filter_le _ _) (Nat.le_trans (List.length_take_le' _ _) hT))), .dat (tabD n T), .dat (.list ((lows.filter fun b => decide (T b.x b.y < b.h)).map encB)), .dat (.list ((highs.filter fun b => decide (b.h < T b.x b.y)).map encB)), d', ?_⟩
          rw [tl, List.filter_append, List.map_append, List.filter_cons, if_pos hk]
          rfl
        | false =>
          rw [hk] at tv
          refine ⟨_, v_if tv rfl, .dat (tabD n T), .dat (.list ((lows.filter fun b => decide (T b.x b.y < b.h)).map encB)), .dat (.list ((highs.filter fun b => decide (b.h < T b.x b.y)).map encB)), d', ?_⟩
          rw [tl, List.filter_append, List.filter_cons, if_neg (by rw [hk]; exact Bool.false_ne_true), List.filter_nil, List.append_nil]
      obtain ⟨ρ2, k1, k2⟩ := last _ rfl
      refine ⟨_, ρ2, rfl, seq_ (v_set (eLc_filter (enc := encB) (h := encB) (p := fun b => decide (T b.x b.y < b.h)) (l := lows) rfl (by omega) fun b hb => ⟨_, rfl, v_of (v_bin (cell b (h1 b hb) _ rfl rfl) rfl rfl), fun _ => rfl⟩)) (seq_ (v_set (eLc_filter (enc := encB) (h := encB) (p := fun b => decide (b.h < T b.x b.y)) (l := highs) rfl (by omega) fun b hb => ⟨_, rfl, v_of (v_bin (cell b (h2 b hb) _ rfl rfl) rfl rfl), fun _ => rfl⟩)) k1), k2⟩
  · obtain ⟨a, b, c, d, rfl⟩ := hP
    rw [List.length_map, List.take_length]
    rfl
theorem zip_range {k : Nat} {f g : Nat → PyData} : zipUp ((List.range k).map f) ((List.range k).map g) = (List.range k).map fun i => .tuple [f i, g i] := by
  suffices z : ∀ l : List Nat, zipUp (l.map f) (l.map g) = l.map fun i => .tuple [f i, g i] from z _
  intro l
  induction l with
  | nil => rfl
  | cons a l ih =>
    show PyData.tuple [f a, g a] :: zipUp (l.map f) (l.map g) = _
    rw [ih]
    rfl
theorem f_lies {n : Nat} {A B : Nat → Nat → Int} (hn : n ≤ 12) (h : ∀ r c : Nat, r ≤ n → c ≤ n → A r c ≤ B r c) : f__law_lies [tabD n A, tabD n B] = some (.ok (.bool true)) := by
  refine runM_rt ?_
  show m__law_lies [.dat (tabD n A), .dat (tabD n B), .no, .no, .no, .no] = _
  unfold m__law_lies
  refine for_ (fun i ρ => ∃ a b c d, ρ = [.dat (tabD n A), .dat (tabD n B), a, b, c, d]) (items := (List.range (n + 1)).map fun r => .tuple [rowD (n + 1) (A r), rowD (n + 1) (B r)]) ?_ ⟨_, _, _, _, rfl⟩ (fun i d ρ hd hP => ?_) fun ρn hP => ?_
  · show some (zipUp _ _) = _
    rw [zip_range]
  · obtain ⟨hi, rfl⟩ := range_at hd
    obtain ⟨a, b, c, d, rfl⟩ := hP
    refine ⟨_, _, rfl, v_if (b := false) (v_of (v_bin (x := .list []) (y := .list []) ?_ rfl rfl)) rfl, _, _, _, _, rfl⟩
    refine (eLc_filter (enc := fun c : Nat => PyData.tuple [.int (A i c), .int (B i c)]) (h := fun c => .int 1) (p := fun c => decide (B i c < A i c)) (l := List.range (n + 1)) ?_ (by rw [List.length_range]; omega) fun c hc => ⟨_, rfl, rfl, fun _ => rfl⟩).trans ?_
    · show some (zipUp _ _) = _
      rw [zip_range]
    · rw [List.filter_eq_nil_iff.mpr fun c hc => by
        have := h i c (by omega) (by have := List.mem_range.mp hc; omega)
        rw [decide_eq_true_eq]
        omega]
      rfl
  · obtain ⟨a, b, c, d, rfl⟩ := hP
    rfl
/-- the right end: nothing kept -/
theorem f_end_none {b : Bool} : f__law_end_right [.none, .list [], .bool b] = some (.ok (.bool true)) := rfl
/-- the right end: the table of the told square is kept, and lies at the end of all kept -/
theorem f_end_some {n : Nat} {sq : PyData} {A : Nat → Nat → Int} {Ts : List (Nat → Nat → Int)} {below : Bool} (hn : n ≤ 12) (hs : isNone sq = false) (ht : f__law_table [sq] = some (.ok (tabD n A))) (hl : Ts.length ≤ 1000) (hA : tabD n A ∈ Ts.map (tabD n))
    (hb : ∀ T ∈ Ts, ∀ r c : Nat, r ≤ n → c ≤ n → if below = true then A r c ≤ T r c else T r c ≤ A r c) : f__law_end_right [sq, .list (Ts.map (tabD n)), .bool below] = some (.ok (.bool true)) := by
  have hsh : Sh 3 (.list (Ts.map (tabD n))) := sh_lst (k := 2) fun d hd => by
    obtain ⟨T, _, rfl⟩ := List.mem_map.mp hd
    exact sh_grid _ _ _
  refine runM_rt ?_
  show m__law_end_right [.dat sq, .dat (.list (Ts.map (tabD n))), .dat (.bool below), .no, .no] = _
  unfold m__law_end_right
  refine seq_ (ρ1 := [.dat sq, .dat (.list (Ts.map (tabD n))), .dat (.bool below), .no, .no]) (v_if (b := false) (v_of ((v_bin rfl rfl (dEq_nil hsh)).trans ?_)) rfl) (seq_ (ρ1 := [.dat sq, .dat (.list (Ts.map (tabD n))), .dat (.bool below), .no, .no]) (v_if (b := false) (v_or (v_of (v_bin rfl rfl ?_)) (v_of (v_bin (v_call1 rfl ht) rfl ?_))) rfl) (seq_ (v_set (v_call1 rfl ht)) (v_ret (v_bin (x := .list []) (y := .list []) ?_ rfl rfl))))
  · cases Ts with
    | nil => cases hA
    | cons T Ts => rfl
  · show some (PyData.bool (isNone sq)) = _
    rw [hs]
  · show (if SeqAt.shaped (tabD n A) = true ∧ SeqAt.shaped (.list (Ts.map (tabD n))) = true then some (PyData.bool (!(Ts.map (tabD n)).any fun z => PyData.eqv z (tabD n A))) else none) = _
    rw [if_pos ⟨(sh_grid _ _ A).ok (by decide), hsh.ok (by decide)⟩, show (Ts.map (tabD n)).any (fun z => PyData.eqv z (tabD n A)) = true from List.any_eq_true.mpr ⟨_, hA, (sh_grid _ _ A).refl⟩]
    rfl
  · refine (eLc_filter (enc := tabD n) (h := tabD n) (p := fun _ => false) (l := Ts) rfl hl fun T hT => ⟨_, rfl, v_not (b := true) ?_, fun _ => rfl⟩).trans ?_
    · cases below with
      | true => exact v_of (v_call2 (x := tabD n A) (y := tabD n T) rfl rfl (f_lies hn (hb T hT)))
      | false => exact v_of (v_call2 (x := tabD n T) (y := tabD n A) rfl rfl (f_lies hn (hb T hT)))
    · rw [List.filter_eq_nil_iff.mpr fun _ _ => Bool.false_ne_true]
      rfl
end K6

end
-- text Ma6
section
set_option Elab.async false
set_option linter.all false
set_option autoImplicit false
set_option maxRecDepth 100000
set_option maxHeartbeats 4000000
/-! The mathematics, part 6: all the squares of two, three and four sides. -/
namespace K6
open PySem
def tl2 : List (List (List Int)) := [[[0, 1, 2], [1, 2, 1], [2, 1, 0]],
  [[0, 1, 2], [1, 0, 1], [2, 1, 0]]]
def tl3 : List (List (List Int)) := [[[0, 1, 2, 3], [1, 2, 3, 2], [2, 3, 2, 1], [3, 2, 1, 0]],
  [[0, 1, 2, 3], [1, 2, 3, 2], [2, 1, 2, 1], [3, 2, 1, 0]],
  [[0, 1, 2, 3], [1, 2, 1, 2], [2, 3, 2, 1], [3, 2, 1, 0]],
  [[0, 1, 2, 3], [1, 2, 1, 2], [2, 1, 2, 1], [3, 2, 1, 0]],
  [[0, 1, 2, 3], [1, 2, 1, 2], [2, 1, 0, 1], [3, 2, 1, 0]],
  [[0, 1, 2, 3], [1, 0, 1, 2], [2, 1, 2, 1], [3, 2, 1, 0]],
  [[0, 1, 2, 3], [1, 0, 1, 2], [2, 1, 0, 1], [3, 2, 1, 0]]]
def tl4 : List (List (List Int)) := [[[0, 1, 2, 3, 4], [1, 2, 3, 4, 3], [2, 3, 4, 3, 2], [3, 4, 3, 2, 1], [4, 3, 2, 1, 0]],
  [[0, 1, 2, 3, 4], [1, 2, 3, 4, 3], [2, 3, 4, 3, 2], [3, 2, 3, 2, 1], [4, 3, 2, 1, 0]],
  [[0, 1, 2, 3, 4], [1, 2, 3, 4, 3], [2, 3, 2, 3, 2], [3, 4, 3, 2, 1], [4, 3, 2, 1, 0]],
  [[0, 1, 2, 3, 4], [1, 2, 3, 4, 3], [2, 3, 2, 3, 2], [3, 2, 3, 2, 1], [4, 3, 2, 1, 0]],
  [[0, 1, 2, 3, 4], [1, 2, 3, 4, 3], [2, 3, 2, 3, 2], [3, 2, 1, 2, 1], [4, 3, 2, 1, 0]],
  [[0, 1, 2, 3, 4], [1, 2, 3, 4, 3], [2, 1, 2, 3, 2], [3, 2, 3, 2, 1], [4, 3, 2, 1, 0]],
  [[0, 1, 2, 3, 4], [1, 2, 3, 4, 3], [2, 1, 2, 3, 2], [3, 2, 1, 2, 1], [4, 3, 2, 1, 0]],
  [[0, 1, 2, 3, 4], [1, 2, 3, 2, 3], [2, 3, 4, 3, 2], [3, 4, 3, 2, 1], [4, 3, 2, 1, 0]],
  [[0, 1, 2, 3, 4], [1, 2, 3, 2, 3], [2, 3, 4, 3, 2], [3, 2, 3, 2, 1], [4, 3, 2, 1, 0]],
  [[0, 1, 2, 3, 4], [1, 2, 3, 2, 3], [2, 3, 2, 3, 2], [3, 4, 3, 2, 1], [4, 3, 2, 1, 0]],
  [[0, 1, 2, 3, 4], [1, 2, 3, 2, 3], [2, 3, 2, 3, 2], [3, 2, 3, 2, 1], [4, 3, 2, 1, 0]],
  [[0, 1, 2, 3, 4], [1, 2, 3, 2, 3], [2, 3, 2, 3, 2], [3, 2, 1, 2, 1], [4, 3, 2, 1, 0]],
  [[0, 1, 2, 3, 4], [1, 2, 3, 2, 3], [2, 3, 2, 1, 2], [3, 4, 3, 2, 1], [4, 3, 2, 1, 0]],
  [[0, 1, 2, 3, 4], [1, 2, 3, 2, 3], [2, 3, 2, 1, 2], [3, 2, 3, 2, 1], [4, 3, 2, 1, 0]],
  [[0, 1, 2, 3, 4], [1, 2, 3, 2, 3], [2, 3, 2, 1, 2], [3, 2, 1, 2, 1], [4, 3, 2, 1, 0]],
  [[0, 1, 2, 3, 4], [1, 2, 3, 2, 3], [2, 3, 2, 1, 2], [3, 2, 1, 0, 1], [4, 3, 2, 1, 0]],
  [[0, 1, 2, 3, 4], [1, 2, 3, 2, 3], [2, 1, 2, 3, 2], [3, 2, 3, 2, 1], [4, 3, 2, 1, 0]],
  [[0, 1, 2, 3, 4], [1, 2, 3, 2, 3], [2, 1, 2, 3, 2], [3, 2, 1, 2, 1], [4, 3, 2, 1, 0]],
  [[0, 1, 2, 3, 4], [1, 2, 3, 2, 3], [2, 1, 2, 1, 2], [3, 2, 3, 2, 1], [4, 3, 2, 1, 0]],
  [[0, 1, 2, 3, 4], [1, 2, 3, 2, 3], [2, 1, 2, 1, 2], [3, 2, 1, 2, 1], [4, 3, 2, 1, 0]],
  [[0, 1, 2, 3, 4], [1, 2, 3, 2, 3], [2, 1, 2, 1, 2], [3, 2, 1, 0, 1], [4, 3, 2, 1, 0]],
  [[0, 1, 2, 3, 4], [1, 2, 1, 2, 3], [2, 3, 2, 3, 2], [3, 4, 3, 2, 1], [4, 3, 2, 1, 0]],
  [[0, 1, 2, 3, 4], [1, 2, 1, 2, 3], [2, 3, 2, 3, 2], [3, 2, 3, 2, 1], [4, 3, 2, 1, 0]],
  [[0, 1, 2, 3, 4], [1, 2, 1, 2, 3], [2, 3, 2, 3, 2], [3, 2, 1, 2, 1], [4, 3, 2, 1, 0]],
  [[0, 1, 2, 3, 4], [1, 2, 1, 2, 3], [2, 3, 2, 1, 2], [3, 4, 3, 2, 1], [4, 3, 2, 1, 0]],
  [[0, 1, 2, 3, 4], [1, 2, 1, 2, 3], [2, 3, 2, 1, 2], [3, 2, 3, 2, 1], [4, 3, 2, 1, 0]],
  [[0, 1, 2, 3, 4], [1, 2, 1, 2, 3], [2, 3, 2, 1, 2], [3, 2, 1, 2, 1], [4, 3, 2, 1, 0]],
  [[0, 1, 2, 3, 4], [1, 2, 1, 2, 3], [2, 3, 2, 1, 2], [3, 2, 1, 0, 1], [4, 3, 2, 1, 0]],
  [[0, 1, 2, 3, 4], [1, 2, 1, 2, 3], [2, 1, 2, 3, 2], [3, 2, 3, 2, 1], [4, 3, 2, 1, 0]],
  [[0, 1, 2, 3, 4], [1, 2, 1, 2, 3], [2, 1, 2, 3, 2], [3, 2, 1, 2, 1], [4, 3, 2, 1, 0]],
  [[0, 1, 2, 3, 4], [1, 2, 1, 2, 3], [2, 1, 2, 1, 2], [3, 2, 3, 2, 1], [4, 3, 2, 1, 0]],
  [[0, 1, 2, 3, 4], [1, 2, 1, 2, 3], [2, 1, 2, 1, 2], [3, 2, 1, 2, 1], [4, 3, 2, 1, 0]],
  [[0, 1, 2, 3, 4], [1, 2, 1, 2, 3], [2, 1, 2, 1, 2], [3, 2, 1, 0, 1], [4, 3, 2, 1, 0]],
  [[0, 1, 2, 3, 4], [1, 2, 1, 2, 3], [2, 1, 0, 1, 2], [3, 2, 1, 2, 1], [4, 3, 2, 1, 0]],
  [[0, 1, 2, 3, 4], [1, 2, 1, 2, 3], [2, 1, 0, 1, 2], [3, 2, 1, 0, 1], [4, 3, 2, 1, 0]],
  [[0, 1, 2, 3, 4], [1, 0, 1, 2, 3], [2, 1, 2, 3, 2], [3, 2, 3, 2, 1], [4, 3, 2, 1, 0]],
  [[0, 1, 2, 3, 4], [1, 0, 1, 2, 3], [2, 1, 2, 3, 2], [3, 2, 1, 2, 1], [4, 3, 2, 1, 0]],
  [[0, 1, 2, 3, 4], [1, 0, 1, 2, 3], [2, 1, 2, 1, 2], [3, 2, 3, 2, 1], [4, 3, 2, 1, 0]],
  [[0, 1, 2, 3, 4], [1, 0, 1, 2, 3], [2, 1, 2, 1, 2], [3, 2, 1, 2, 1], [4, 3, 2, 1, 0]],
  [[0, 1, 2, 3, 4], [1, 0, 1, 2, 3], [2, 1, 2, 1, 2], [3, 2, 1, 0, 1], [4, 3, 2, 1, 0]],
  [[0, 1, 2, 3, 4], [1, 0, 1, 2, 3], [2, 1, 0, 1, 2], [3, 2, 1, 2, 1], [4, 3, 2, 1, 0]],
  [[0, 1, 2, 3, 4], [1, 0, 1, 2, 3], [2, 1, 0, 1, 2], [3, 2, 1, 0, 1], [4, 3, 2, 1, 0]]]
def fnT (t : List (List Int)) (r c : Nat) : Int := (t.getD r []).getD c 0
def gridL (m k : Nat) (T : Nat → Nat → Int) : List (List Int) := (List.range m).map fun r => (List.range k).map fun c => T r c
def eqI : PyData → Int → Bool
  | .int i, j => decide (i = j)
  | _, _ => false
def eqRowL : List PyData → List Int → Bool
  | [], [] => true
  | d :: ds, j :: js => eqI d j && eqRowL ds js
  | _, _ => false
def eqRows : List PyData → List (List Int) → Bool
  | [], [] => true
  | .tuple d :: ds, j :: js => eqRowL d j && eqRows ds js
  | _, _ => false
def eqGrid (d : PyData) (g : List (List Int)) : Bool := match d with
  | .tuple ds => eqRows ds g
  | _ => false
theorem eqI_s {d : PyData} {j : Int} (h : eqI d j = true) : d = .int j := by
  cases d <;> first | (cases h; done) | (rw [of_decide_eq_true h])
theorem eqRowL_s : ∀ {ds : List PyData} {js : List Int}, eqRowL ds js = true → ds = js.map .int
  | [], [], _ => rfl
  | [], _ :: _, h => nomatch h
  | _ :: _, [], h => nomatch h
  | d :: ds, j :: js, h => by
    have z := Bool.and_eq_true_iff.mp (show (eqI d j && eqRowL ds js) = true from h)
    rw [eqI_s z.1, eqRowL_s z.2]
    rfl
theorem eqRows_s : ∀ {ds : List PyData} {js : List (List Int)}, eqRows ds js = true → ds = js.map fun j => .tuple (j.map .int)
  | [], [], _ => rfl
  | [], _ :: _, h => nomatch h
  | d :: _, [], h => by cases d <;> cases h
  | d :: ds, j :: js, h => by
    cases d with
    | tuple d =>
      have z := Bool.and_eq_true_iff.mp (show (eqRowL d j && eqRows ds js) = true from h)
      rw [eqRowL_s z.1, eqRows_s z.2]
      rfl
    | _ => cases h
theorem eqGrid_s {d : PyData} {m k : Nat} {T : Nat → Nat → Int} (h : eqGrid d (gridL m k T) = true) : d = gridD m k T := by
  cases d with
  | tuple ds =>
    rw [eqRows_s (show eqRows ds (gridL m k T) = true from h)]
    unfold gridL gridD rowD
    rw [List.map_map]
    refine congrArg PyData.tuple (List.map_congr_left fun r _ => ?_)
    show PyData.tuple (((List.range k).map fun c => T r c).map .int) = _
    rw [List.map_map]
    rfl
  | _ => cases h
def sqL (n : Nat) (t : List (List Int)) : PyData := gridD n n (sqf (fnT t))
def chk2 (n : Nat) : List PyData → List (List (List Int)) → Bool
  | [], [] => true
  | d :: ds, t :: ts => eqGrid d (gridL n n (sqf (fnT t))) && ((match f__law_table [d] with
    | some (.ok e) => eqGrid e (gridL (n + 1) (n + 1) (fnT t))
    | _ => false) && chk2 n ds ts)
  | _, _ => false
def chkAll (n : Nat) (ts : List (List (List Int))) : Bool := match f__law_all [.int n] with
  | some (.ok (.list ds)) => chk2 n ds ts
  | _ => false
theorem chk2_s {n : Nat} : ∀ {ds : List PyData} {ts : List (List (List Int))}, chk2 n ds ts = true → ds = ts.map (sqL n) ∧ ∀ t ∈ ts, f__law_table [sqL n t] = some (.ok (tabD n (fnT t)))
  | [], [], _ => ⟨rfl, fun _ h => nomatch h⟩
  | [], _ :: _, h => nomatch h
  | _ :: _, [], h => nomatch h
  | d :: ds, t :: ts, h => by
    have z := Bool.and_eq_true_iff.mp (show (eqGrid d (gridL n n (sqf (fnT t))) && ((match f__law_table [d] with
      | some (.ok e) => eqGrid e (gridL (n + 1) (n + 1) (fnT t))
      | _ => false) && chk2 n ds ts)) = true from h)
    have y := Bool.and_eq_true_iff.mp z.2
    obtain ⟨e1, e2⟩ := chk2_s y.2
    have e0 : d = sqL n t := eqGrid_s z.1
    subst e0
    refine ⟨by rw [e1]; rfl, fun t' ht => ?_⟩
    rcases List.mem_cons.mp ht with rfl | ht
    · have y1 := y.1
      split at y1
      · rename_i e he
        rw [he, eqGrid_s y1]
        rfl
      · cases y1
    · exact e2 t' ht
theorem chkAll_s {n : Nat} {ts : List (List (List Int))} (h : chkAll n ts = true) : f__law_all [.int n] = some (.ok (.list (ts.map (sqL n)))) ∧ ∀ t ∈ ts, f__law_table [sqL n t] = some (.ok (tabD n (fnT t))) := by
  unfold chkAll at h
  split at h
  · rename_i ds he
    obtain ⟨e1, e2⟩ := chk2_s h
    exact ⟨by rw [he, e1], e2⟩
  · cases h
def htb (n : Nat) (T : Nat → Nat → Int) : Bool := (List.range (n + 1)).all fun r => decide (T r 0 = r) && (decide (T 0 r = r) && (decide (T r n = n - r) && (decide (T n r = n - r) && (List.range (n + 1)).all fun c => decide ((T r c + r + c) % 2 = 0) &&
  ((decide (n ≤ r) || (decide (T (r + 1) c - T r c ≤ 1) && decide (T r c - T (r + 1) c ≤ 1))) && (decide (n ≤ c) || (decide (T r (c + 1) - T r c ≤ 1) && decide (T r c - T r (c + 1) ≤ 1)))))))
theorem htb_s {n : Nat} {T : Nat → Nat → Int} (h : htb n T = true) : HT n T := by
  have H : ∀ r, r ≤ n → _ := fun r hr => List.all_eq_true.mp h r (List.mem_range.mpr (Nat.lt_succ_of_le hr))
  have G : ∀ r c, r ≤ n → c ≤ n → _ := fun r c hr hc => List.all_eq_true.mp (Bool.and_eq_true_iff.mp (Bool.and_eq_true_iff.mp (Bool.and_eq_true_iff.mp (Bool.and_eq_true_iff.mp (H r hr)).2).2).2).2 c (List.mem_range.mpr (Nat.lt_succ_of_le hc))
  refine ⟨fun r hr => of_decide_eq_true (Bool.and_eq_true_iff.mp (H r hr)).1, fun r hr => of_decide_eq_true (Bool.and_eq_true_iff.mp (Bool.and_eq_true_iff.mp (H r hr)).2).1, fun r hr => of_decide_eq_true (Bool.and_eq_true_iff.mp (Bool.and_eq_true_iff.mp (Bool.and_eq_true_iff.mp (H r hr)).2).2).1,
    fun r hr => of_decide_eq_true (Bool.and_eq_true_iff.mp (Bool.and_eq_true_iff.mp (Bool.and_eq_true_iff.mp (Bool.and_eq_true_iff.mp (H r hr)).2).2).2).1, fun r c hr hc => of_decide_eq_true (Bool.and_eq_true_iff.mp (G r c hr hc)).1, fun r c hr hc => ?_, fun r c hr hc => ?_⟩
  · have z := (Bool.and_eq_true_iff.mp (Bool.and_eq_true_iff.mp (G r c (by omega) hc)).2).1
    rw [decide_eq_false (by omega), Bool.false_or] at z
    exact ⟨of_decide_eq_true (Bool.and_eq_true_iff.mp z).1, of_decide_eq_true (Bool.and_eq_true_iff.mp z).2⟩
  · have z := (Bool.and_eq_true_iff.mp (Bool.and_eq_true_iff.mp (G r c hr (by omega))).2).2
    rw [decide_eq_false (by omega), Bool.false_or] at z
    exact ⟨of_decide_eq_true (Bool.and_eq_true_iff.mp z).1, of_decide_eq_true (Bool.and_eq_true_iff.mp z).2⟩
theorem getD_range {α : Type} {k i : Nat} {f : Nat → α} {d : α} (h : i < k) : ((List.range k).map f).getD i d = f i := by
  rw [List.getD_eq_getElem?_getD, List.getElem?_map, List.getElem?_range h]
  rfl
theorem fn_grid {m k : Nat} {T : Nat → Nat → Int} {r c : Nat} (hr : r < m) (hc : c < k) : fnT (gridL m k T) r c = T r c := by
  unfold fnT gridL
  rw [getD_range (f := fun r => (List.range k).map fun c => T r c) hr, getD_range (f := fun c => T r c) hc]
theorem all2 : chkAll 2 tl2 = true := by decide +kernel
theorem all3 : chkAll 3 tl3 = true := by decide +kernel
theorem all4 : chkAll 4 tl4 = true := by decide +kernel
theorem ht2 : (tl2.all fun t => htb 2 (fnT t)) = true := by decide +kernel
theorem ht3 : (tl3.all fun t => htb 3 (fnT t)) = true := by decide +kernel
theorem ht4 : (tl4.all fun t => htb 4 (fnT t)) = true := by decide +kernel
def near (x y : Int) : Bool := decide (x - y ≤ 1) && decide (y - x ≤ 1)
theorem near_ok {x y : Int} (h : x - y ≤ 1 ∧ y - x ≤ 1) : near x y = true := by
  unfold near
  rw [decide_eq_true h.1, decide_eq_true h.2]
  rfl
theorem full2 : ([0, 2].all fun a : Int => tl2.contains [[0, 1, 2], [1, a, 1], [2, 1, 0]]) = true := by decide +kernel
theorem full3 : ([0, 2].all fun a : Int => [1, 3].all fun b : Int => [1, 3].all fun c : Int => [0, 2].all fun d : Int =>
  !(near a b && (near a c && (near b d && near c d))) || tl3.contains [[0, 1, 2, 3], [1, a, b, 2], [2, c, d, 1], [3, 2, 1, 0]]) = true := by decide +kernel
theorem full4 : ([0, 2].all fun a : Int => [1, 3].all fun b : Int => [2, 4].all fun c : Int => [1, 3].all fun d : Int => [0, 2, 4].all fun e : Int => [1, 3].all fun f : Int => [2, 4].all fun g : Int => [1, 3].all fun h : Int => [0, 2].all fun i : Int =>
  !(near a b && (near b c && (near d e && (near e f && (near g h && (near h i && (near a d && (near b e && (near c f && (near d g && (near e h && near f i))))))))))) ||
    tl4.contains [[0, 1, 2, 3, 4], [1, a, b, c, 3], [2, d, e, f, 2], [3, g, h, i, 1], [4, 3, 2, 1, 0]]) = true := by decide +kernel
theorem in2 {x a b : Int} (h : x = a ∨ x = b) : x ∈ [a, b] := by
  rcases h with rfl | rfl
  · exact List.mem_cons_self
  · exact List.mem_cons_of_mem _ List.mem_cons_self
theorem in3 {x a b c : Int} (h : x = a ∨ x = b ∨ x = c) : x ∈ [a, b, c] := by
  rcases h with rfl | h
  · exact List.mem_cons_self
  · exact List.mem_cons_of_mem _ (in2 h)
section
variable {T : Nat → Nat → Int}
theorem HT.swap {n r c : Nat} (h : HT n T) (hr : r < n) (hc : c ≤ n) : near (T r c) (T (r + 1) c) = true := near_ok ⟨(h.dn r c hr hc).2, (h.dn r c hr hc).1⟩
theorem HT.side {n r c : Nat} (h : HT n T) (hr : r ≤ n) (hc : c < n) : near (T r c) (T r (c + 1)) = true := near_ok ⟨(h.rt r c hr hc).2, (h.rt r c hr hc).1⟩
theorem listed2 (h : HT 2 T) : gridL 3 3 T ∈ tl2 := by
  have e : gridL 3 3 T = [[0, 1, 2], [1, T 1 1, 1], [2, 1, 0]] := by
    show [[T 0 0, T 0 1, T 0 2], [T 1 0, T 1 1, T 1 2], [T 2 0, T 2 1, T 2 2]] = _
    rw [h.top 0 (by decide), h.top 1 (by decide), h.top 2 (by decide), h.left 1 (by decide), h.left 2 (by decide), h.right 1 (by decide), h.right 2 (by decide), h.bot 1 (by decide)]
    rfl
  have a : T 1 1 = 0 ∨ T 1 1 = 2 := by
    have p := h.par 1 1 (by decide) (by decide)
    have q := h.dn 0 1 (by decide) (by decide)
    rw [h.top 1 (by decide)] at q
    simp only [Nat.zero_add] at q
    omega
  rw [e]
  exact List.contains_iff_mem.mp (List.all_eq_true.mp full2 _ (in2 a))
theorem listed3 (h : HT 3 T) : gridL 4 4 T ∈ tl3 := by
  have e : gridL 4 4 T = [[0, 1, 2, 3], [1, T 1 1, T 1 2, 2], [2, T 2 1, T 2 2, 1], [3, 2, 1, 0]] := by
    show [[T 0 0, T 0 1, T 0 2, T 0 3], [T 1 0, T 1 1, T 1 2, T 1 3], [T 2 0, T 2 1, T 2 2, T 2 3], [T 3 0, T 3 1, T 3 2, T 3 3]] = _
    rw [h.top 0 (by decide), h.top 1 (by decide), h.top 2 (by decide), h.top 3 (by decide), h.left 1 (by decide), h.left 2 (by decide), h.left 3 (by decide), h.right 1 (by decide), h.right 2 (by decide), h.right 3 (by decide), h.bot 1 (by decide), h.bot 2 (by decide)]
    rfl
  have nt : ∀ c, c ≤ 3 → (T 1 c + 1 + c) % 2 = 0 ∧ T 1 c - c ≤ 1 ∧ c - T 1 c ≤ 1 := fun c hc => by
    have p := h.par 1 c (by decide) hc
    have q := h.dn 0 c (by decide) hc
    rw [h.top c hc] at q
    simp only [Nat.zero_add] at q
    omega
  have nb : ∀ c, c ≤ 3 → (T 2 c + 2 + c) % 2 = 0 ∧ T 2 c - (3 - c) ≤ 1 ∧ (3 - c) - T 2 c ≤ 1 := fun c hc => by
    have p := h.par 2 c (by decide) hc
    have q := h.dn 2 c (by decide) hc
    rw [h.bot c hc] at q
    omega
  have a := nt 1 (by decide)
  have b := nt 2 (by decide)
  have c := nb 1 (by decide)
  have d := nb 2 (by decide)
  rw [e]
  have z := List.all_eq_true.mp (List.all_eq_true.mp (List.all_eq_true.mp (List.all_eq_true.mp full3 (T 1 1) (in2 (by omega))) (T 1 2) (in2 (by omega))) (T 2 1) (in2 (by omega))) (T 2 2) (in2 (by omega))
  rw [h.side (r := 1) (c := 1) (by decide) (by decide), h.swap (r := 1) (c := 1) (by decide) (by decide), h.swap (r := 1) (c := 2) (by decide) (by decide), h.side (r := 2) (c := 1) (by decide) (by decide)] at z
  exact List.contains_iff_mem.mp z
theorem listed4 (h : HT 4 T) : gridL 5 5 T ∈ tl4 := by
  have e : gridL 5 5 T = [[0, 1, 2, 3, 4], [1, T 1 1, T 1 2, T 1 3, 3], [2, T 2 1, T 2 2, T 2 3, 2], [3, T 3 1, T 3 2, T 3 3, 1], [4, 3, 2, 1, 0]] := by
    show [[T 0 0, T 0 1, T 0 2, T 0 3, T 0 4], [T 1 0, T 1 1, T 1 2, T 1 3, T 1 4], [T 2 0, T 2 1, T 2 2, T 2 3, T 2 4], [T 3 0, T 3 1, T 3 2, T 3 3, T 3 4], [T 4 0, T 4 1, T 4 2, T 4 3, T 4 4]] = _
    rw [h.top 0 (by decide), h.top 1 (by decide), h.top 2 (by decide), h.top 3 (by decide), h.top 4 (by decide), h.left 1 (by decide), h.left 2 (by decide), h.left 3 (by decide), h.left 4 (by decide), h.right 1 (by decide), h.right 2 (by decide), h.right 3 (by decide), h.right 4 (by decide), h.bot 1 (by decide), h.bot 2 (by decide), h.bot 3 (by decide)]
    rfl
  have nt : ∀ c, c ≤ 4 → (T 1 c + 1 + c) % 2 = 0 ∧ T 1 c - c ≤ 1 ∧ c - T 1 c ≤ 1 := fun c hc => by
    have p := h.par 1 c (by decide) hc
    have q := h.dn 0 c (by decide) hc
    rw [h.top c hc] at q
    simp only [Nat.zero_add] at q
    omega
  have nb : ∀ c, c ≤ 4 → (T 3 c + 3 + c) % 2 = 0 ∧ T 3 c - (4 - c) ≤ 1 ∧ (4 - c) - T 3 c ≤ 1 := fun c hc => by
    have p := h.par 3 c (by decide) hc
    have q := h.dn 3 c (by decide) hc
    rw [h.bot c hc] at q
    omega
  have a := nt 1 (by decide)
  have b := nt 2 (by decide)
  have c := nt 3 (by decide)
  have g := nb 1 (by decide)
  have hh := nb 2 (by decide)
  have i := nb 3 (by decide)
  have d1 := h.rt 2 0 (by decide) (by decide)
  have d2 := h.par 2 1 (by decide) (by decide)
  rw [h.left 2 (by decide)] at d1
  simp only [Nat.zero_add] at d1
  have f1 := h.rt 2 3 (by decide) (by decide)
  have f2 := h.par 2 3 (by decide) (by decide)
  have f3 := h.right 2 (by decide)
  have e1 := h.dn 1 2 (by decide) (by decide)
  have e2 := h.par 2 2 (by decide) (by decide)
  simp only [Nat.reduceAdd] at d1 f1 e1
  rw [f3] at f1
  rw [e]
  have z := List.all_eq_true.mp (List.all_eq_true.mp (List.all_eq_true.mp (List.all_eq_true.mp (List.all_eq_true.mp (List.all_eq_true.mp (List.all_eq_true.mp (List.all_eq_true.mp (List.all_eq_true.mp full4 (T 1 1) (in2 (by omega))) (T 1 2) (in2 (by omega))) (T 1 3) (in2 (by omega))) (T 2 1) (in2 (by omega))) (T 2 2) (in3 (by omega))) (T 2 3) (in2 (by omega))) (T 3 1) (in2 (by omega))) (T 3 2) (in2 (by omega))) (T 3 3) (in2 (by omega))
  rw [h.side (r := 1) (c := 1) (by decide) (by decide), h.side (r := 1) (c := 2) (by decide) (by decide), h.side (r := 2) (c := 1) (by decide) (by decide), h.side (r := 2) (c := 2) (by decide) (by decide), h.side (r := 3) (c := 1) (by decide) (by decide), h.side (r := 3) (c := 2) (by decide) (by decide),
    h.swap (r := 1) (c := 1) (by decide) (by decide), h.swap (r := 1) (c := 2) (by decide) (by decide), h.swap (r := 1) (c := 3) (by decide) (by decide), h.swap (r := 2) (c := 1) (by decide) (by decide), h.swap (r := 2) (c := 2) (by decide) (by decide), h.swap (r := 2) (c := 3) (by decide) (by decide)] at z
  exact List.contains_iff_mem.mp z
end
/-- all the tables of n sides -/
structure Listed (n : Nat) (tl : List (List (List Int))) : Prop where
  one : 1 ≤ n
  n4 : n ≤ 4
  len : tl.length ≤ 1000
  all : f__law_all [.int n] = some (.ok (.list (tl.map (sqL n))))
  tab : ∀ t ∈ tl, f__law_table [sqL n t] = some (.ok (tabD n (fnT t)))
  ht : ∀ t ∈ tl, HT n (fnT t)
  full : ∀ T, HT n T → gridL (n + 1) (n + 1) T ∈ tl
theorem li2 : Listed 2 tl2 := ⟨by decide, by decide, by decide, (chkAll_s all2).1, (chkAll_s all2).2, fun t h => htb_s (List.all_eq_true.mp ht2 t h), fun _ h => listed2 h⟩
theorem li3 : Listed 3 tl3 := ⟨by decide, by decide, by decide, (chkAll_s all3).1, (chkAll_s all3).2, fun t h => htb_s (List.all_eq_true.mp ht3 t h), fun _ h => listed3 h⟩
theorem li4 : Listed 4 tl4 := ⟨by decide, by decide, by decide, (chkAll_s all4).1, (chkAll_s all4).2, fun t h => htb_s (List.all_eq_true.mp ht4 t h), fun _ h => listed4 h⟩
end K6

end
-- text Fw8
section
set_option Elab.async false
set_option linter.all false
set_option autoImplicit false
set_option maxRecDepth 100000
set_option maxHeartbeats 4000000
/-! Part 8 of the frame: code that draws from the cart. What is drawn is any of several; the cart is one list that changes. -/
namespace K6
open PySem PySem.Spec PyProof.Rows L2

/-! ### the cart -/
def del (H : Hp) (a : Addr) : Hp := fun b => if b = a then none else H b
theorem del_same {H : Hp} {a : Addr} : del H a a = none := if_pos rfl
theorem del_ne {H : Hp} {a b : Addr} (h : b ≠ a) : del H a b = H b := if_neg h
theorem del_upd {H : Hp} {a : Addr} {o : HO} : del (upd H a o) a = del H a := by
  funext b
  unfold del
  by_cases h : b = a
  · rw [if_pos h, if_pos h]
  · rw [if_neg h, if_neg h, upd_ne h]
structure CartOk (c0 c1 : Int) : Prop where
  z : 0 ≤ c0
  lo : 0 ≤ c1
  hi : c1 ≤ 2147480969
def Cart (a : Addr) (H : Hp) : Prop := ∃ c0 c1, CartOk c0 c1 ∧ H a = some (.lst [.int c0, .int c1])
/-- what changes: how it stands in the heap, and which slot holds it -/
structure Spot where
  ok : Addr → Hp → Prop
  ne : ∀ {a : Addr} {H : Hp}, ok a H → H a ≠ none
  mono : ∀ {a : Addr} {H H' : Hp}, Same H H' → ok a H → ok a H'
  at_ : Addr → L2.St → Prop
  free : Nat → Prop
  set : ∀ {a : Addr} {σ : L2.St} {i : Nat} {x : Option V}, free i → at_ a σ → at_ a (σ.set i x)
theorem set_get0 {α : Type} {l : List α} {i j : Nat} {x : α} (e : i ≠ j) : (l.set i x)[j]? = l[j]? := List.getElem?_set_ne e
def cartS (n : Nat) : Spot where
  ok := Cart
  ne := fun ⟨c0, c1, _, h⟩ z => by
    rw [h] at z
    cases z
  mono := fun s ⟨c0, c1, ok, h⟩ => ⟨c0, c1, ok, s _ _ h⟩
  at_ := fun a σ => σ[n]? = some (some (.ref a))
  free := fun i => i ≠ n
  set := fun h e => (set_get0 h).trans e
instance (n : Nat) : OfNat Spot n := ⟨cartS n⟩
structure Gc (O : Addr → Hp → Prop) (a : Addr) (F H F' H' : Hp) : Prop where
  g : Grow F (del H a) F' (del H' a)
  c : O a H'
structure RelC (a : Addr) (S : Spot) (ρ : En) (σ : L2.St) (F H : Hp) : Prop where
  spot : S.at_ a σ
  c : S.ok a H
  r : Rel ρ σ F (del H a)
  loose : ∀ (i : Nat) (ds : List PyData), ρ[i]? ≠ some (Sl.own ds)
theorem same_del {H : Hp} {a : Addr} : Same (del H a) H := fun b x e => by
  unfold del at e
  split at e
  · cases e
  · exact e
section
variable {a : Addr} {S : Spot} {ρ : En} {σ : L2.St} {F H F' H' F1 H1 F2 H2 : Hp} {O : Addr → Hp → Prop}
theorem RelC.rel (R : RelC a S ρ σ F H) : Rel ρ σ F H :=
  ⟨R.r.len, R.r.sub.trans same_del, R.r.dat, fun i ds h => absurd h (R.loose i ds), fun i j ds es a _ h => absurd h (R.loose i ds)⟩
theorem RelC.na (R : RelC a S ρ σ F H) : F a = none := by
  cases e : F a with
  | none => rfl
  | some o =>
    have z := R.r.sub a o e
    rw [del_same] at z
    cases z
theorem Gc.refl (s : Same F (del H a)) (c : O a H) : Gc O a F H F H := ⟨Grow.refl s, c⟩
theorem Gc.trans (x : Gc O a F H F1 H1) (y : Gc O a F1 H1 F2 H2) : Gc O a F H F2 H2 := ⟨x.g.trans y.g, y.c⟩
theorem gc_of (na : F a = none) (c : S.ok a H) (g : Grow F H F' H') : Gc S.ok a F H F' H' := by
  have na' : F' a = none := by rw [g.old a (S.ne c), na]
  refine ⟨⟨g.f, fun b x e => ?_, fun b x e => ?_, fun b hb => ?_⟩, S.mono g.h c⟩
  · by_cases h : b = a
    · rw [h, del_same] at e
      cases e
    · rw [del_ne h] at e ⊢
      exact g.h _ _ e
  · by_cases h : b = a
    · rw [h, na'] at e
      cases e
    · rw [del_ne h]
      exact g.sub _ _ e
  · by_cases h : b = a
    · rw [h, del_same] at hb
      exact absurd rfl hb
    · rw [del_ne h] at hb
      exact g.old b hb
theorem RelC.gc (R : RelC a S ρ σ F H) (g : Grow F H F' H') : Gc S.ok a F H F' H' := gc_of R.na R.c g
theorem RelC.step (R : RelC a S ρ σ F H) (g : Gc S.ok a F H F' H') : RelC a S ρ σ F' H' := ⟨R.spot, g.c, R.r.grow g.g, R.loose⟩
theorem RelC.self (R : RelC a S ρ σ F H) : Gc S.ok a F H F H := Gc.refl R.r.sub R.c
theorem RelC.set {i : Nat} {v : V} {d : PyData} (R : RelC a S ρ σ F H) (hi : S.free i) (h : Dv F v d) : RelC a S (ρ.set i (.dat d)) (σ.set i (some v)) F H :=
  ⟨S.set hi R.spot, R.c, R.r.set h, fun j ds e => by
    rcases get_set e with ⟨_, z⟩ | ⟨_, z⟩
    · cases z
    · exact R.loose j ds z⟩
theorem RelC.relS (R : RelC a S ρ σ F H) : RelS F H ρ σ F H := ⟨R.rel, Grow.refl R.rel.sub, fun i ds b e => absurd e (R.loose i ds)⟩
end

/-! ### what a drawing expression gives -/
abbrev NEM := En → (PyData → Prop) → Prop
abbrev NTM := En → (Bool → Prop) → Prop
abbrev NAM := En → (List PyData → Prop) → Prop
structure NE (X : Cx) (ci : Spot) (e : Expr) (f : NEM) : Prop where
  ex : ∃ t : TE, PE X e t ∧ ∀ ρ Φ, f ρ Φ → ∀ a σ F H, RelC a ci ρ σ F H → ∀ Q : VK, (∀ d v F' H', Φ d → Gc ci.ok a F H F' H' → Dv F' v d → Q v H') → t σ H Q
structure NT (X : Cx) (ci : Spot) (e : Expr) (f : NTM) : Prop where
  ex : ∃ t : TT, PT X e t ∧ ∀ ρ Φ, f ρ Φ → ∀ a σ F H, RelC a ci ρ σ F H → ∀ Q : Bool → Hp → Prop, (∀ b F' H', Φ b → Gc ci.ok a F H F' H' → Q b H') → t σ H Q
structure NW (X : Cx) (ci : Spot) (e : Expr) (f : NTM) : Prop where
  ex : ∃ t : TT, PW X e t ∧ ∀ ρ Φ, f ρ Φ → ∀ a σ F H, RelC a ci ρ σ F H → ∀ Q : Bool → Hp → Prop, (∀ b F' H', Φ b → Gc ci.ok a F H F' H' → Q b H') → t σ H Q
structure NA (X : Cx) (ci : Spot) (es : List Expr) (f : NAM) : Prop where
  ex : ∃ t : TA, PA X es t ∧ ∀ ρ Φ, f ρ Φ → ∀ a σ F H, RelC a ci ρ σ F H → ∀ Q : List V → Hp → Prop, (∀ ds vs F' H', Φ ds → Gc ci.ok a F H F' H' → Dvs F' vs ds → Q vs H') → t σ H Q
structure NI (X : Cx) (ci : Spot) (tg iter : Expr) (f : NAM) : Prop where
  ex : ∃ wi : TI, PI X tg iter wi ∧ ∀ ρ Φ, f ρ Φ → ∀ a σ F H, RelC a ci ρ σ F H → ∀ R : It → Hp → Prop, (∀ items J F' H', Φ items → Gc ci.ok a F H F' H' → WalkD J items F' → R J H') → wi σ H R
def nDet (f : EM) : NEM := fun ρ Φ => ∃ d, f ρ = some d ∧ Φ d
def nBin (h : PyData → PyData → Option PyData) (f g : NEM) : NEM := fun ρ Φ => f ρ fun x => g ρ fun y => ∃ d, h x y = some d ∧ Φ d
def nNil : NAM := fun _ Φ => Φ []
def nCons (f : NEM) (g : NAM) : NAM := fun ρ Φ => f ρ fun x => g ρ fun xs => Φ (x :: xs)
def nTup (g : NAM) : NEM := fun ρ Φ => g ρ fun xs => xs.length ≤ 1000 ∧ Φ (.tuple xs)
def nCB (h : List PyData → Option PyData) (g : NAM) : NEM := fun ρ Φ => g ρ fun xs => ∃ d, h xs = some d ∧ Φ d
abbrev GM := List PyData → (PyData → Prop) → Prop
def nCall (n : Nat) (g : GM) (m : NAM) : NEM := fun ρ Φ => m ρ fun xs => xs.length = n ∧ g xs Φ
def nRng (f : NEM) : NAM := fun ρ Φ => f ρ fun d => ∃ n : Nat, d = .int (n : Nat) ∧ n ≤ 1000 ∧ Φ ((List.range n).map fun i => .int (i : Nat))
def nIt (f : NEM) : NAM := fun ρ Φ => f ρ fun d => ∃ ds, d = .tuple ds ∧ Φ ds
def nVal (f : NEM) : NTM := fun ρ Φ => f ρ fun d => ∃ b, d = .bool b ∧ Φ b
def nNot (f : NTM) : NTM := fun ρ Φ => f ρ fun b => Φ (!b)
def nOr (f g : NTM) : NTM := fun ρ Φ => f ρ fun b => if b = true then Φ true else g ρ Φ
def nLc (it : NAM) (b : BM) (t : TM) (e : EM) (vs : List Nat) : NEM := fun ρ Φ => it ρ fun items => items.length ≤ 1000 ∧ ∃ ys, lcGo b t e (wipeE ρ vs) items = some ys ∧ Φ (.list ys)

/-- a def that takes the cart and data -/
def spN (g : GM) (n : Nat) : Sp := fun vs H Q E => ∃ a vs' ds F Φ, vs = .ref a :: vs' ∧ Cart a H ∧ Same F (del H a) ∧ Dvs F vs' ds ∧ ds.length = n ∧ g ds Φ ∧ ∀ d v F' H', Φ d → Gc Cart a F H F' H' → Dv F' v d → Q v H'
structure FnN (P : Program) (w : World) (K : PySem.W.Frag) (mg : Str → Option Value) (base : Heap) (k : Nat) (x : Str) (c : Str) (ps : List Str) (g : GM) : Prop where
  ex : ∃ f fd, FnOk P w K mg base (L2N.CX P w) k f fd (c :: ps) (spN g ps.length) ∧ mg x = some (.ref f) ∧ PySem.W.keepIn K (.ref f) = true ∧ Binds K fd (c :: ps) []
section
variable {X : Cx} {ci : Spot} {a b e : Expr} {es : List Expr} {f g : NEM} {m : NAM} {pos p : Pos}
theorem ne_det {f : EM} (h : ED X e f) : NE X ci e (nDet f) := by
  obtain ⟨t, p, et⟩ := h.ex
  refine ⟨⟨t, p, fun ρ Φ ⟨d, h1, h2⟩ a σ F H R Q q => ?_⟩⟩
  exact et ρ d h1 σ F H R.rel Q fun v F' H' g1 d1 => q d v F' H' h2 (R.gc g1) d1
theorem n_two {r : R2} {h : PyData → PyData → Option PyData} {ta tb : TE} (hr : Bin2 r h)
    (ea : ∀ ρ Φ, f ρ Φ → ∀ a σ F H, RelC a ci ρ σ F H → ∀ Q : VK, (∀ d v F' H', Φ d → Gc ci.ok a F H F' H' → Dv F' v d → Q v H') → ta σ H Q)
    (eb : ∀ ρ Φ, g ρ Φ → ∀ a σ F H, RelC a ci ρ σ F H → ∀ Q : VK, (∀ d v F' H', Φ d → Gc ci.ok a F H F' H' → Dv F' v d → Q v H') → tb σ H Q) :
    ∀ ρ Φ, nBin h f g ρ Φ → ∀ a σ F H, RelC a ci ρ σ F H → ∀ Q : VK, (∀ d v F' H', Φ d → Gc ci.ok a F H F' H' → Dv F' v d → Q v H') → tOp r ta tb σ H Q := by
  intro ρ Φ hd a σ F H R Q q
  refine ea ρ _ hd a σ F H R _ fun x u F1 H1 hx g1 d1 => ?_
  have R1 := R.step g1
  refine eb ρ _ hx a σ F1 H1 R1 _ fun y w F2 H2 hy g2 d2 => ?_
  obtain ⟨d, h1, h2⟩ := hy
  have R2 := R1.step g2
  exact hr u w x y d F2 H2 h1 (d1.mono g2.g.f) d2 R2.rel.sub Q fun v F3 H3 g3 d3 => q d v F3 H3 h2 (g1.trans (g2.trans (R2.gc g3))) d3
theorem ne_op {op : Operator} {r : R2} {h : PyData → PyData → Option PyData} (ho : OpR X (binaryOp op) r) (hr : Bin2 r h) (ha : NE X ci a f) (hb : NE X ci b g) : NE X ci (.BinOp a op b pos) (nBin h f g) := by
  obtain ⟨ta, pa, ea⟩ := ha.ex
  obtain ⟨tb, pb, eb⟩ := hb.ex
  exact ⟨⟨_, pe_op ho pa pb, n_two hr ea eb⟩⟩
theorem ne_cmp {op : CmpOp} {r : R2} {h : PyData → PyData → Option PyData} (ho : OpR X (compareOp op) r) (hr : Bin2 r h) (hm : behindInMarks op b = false) (ha : NE X ci a f) (hb : NE X ci b g) : NE X ci (.Compare a [op] [b] pos) (nBin h f g) := by
  obtain ⟨ta, pa, ea⟩ := ha.ex
  obtain ⟨tb, pb, eb⟩ := hb.ex
  exact ⟨⟨_, pe_cmpR ho pa pb hm, n_two hr ea eb⟩⟩
theorem na_nil : NA X ci [] nNil := ⟨⟨tNil, pa_nil, fun ρ Φ h a σ F H R Q q => q [] [] F H h R.self .nil⟩⟩
theorem na_cons (ha : NE X ci e f) (hr : NA X ci es m) (hs : starEach (e :: es) X.env = (false, eval e X.env) :: starEach es X.env := by rfl) : NA X ci (e :: es) (nCons f m) := by
  obtain ⟨ta, pa, ea⟩ := ha.ex
  obtain ⟨tr, pr, er⟩ := hr.ex
  refine ⟨⟨_, pa_cons pa pr hs, fun ρ Φ h a σ F H R Q q => ?_⟩⟩
  refine ea ρ _ h a σ F H R _ fun x u F1 H1 hx g1 d1 => ?_
  exact er ρ _ hx a σ F1 H1 (R.step g1) _ fun xs us F2 H2 hxs g2 d2 => q (x :: xs) (u :: us) F2 H2 hxs (g1.trans g2) (.cons (d1.mono g2.g.f) d2)
theorem ne_tup {n : Nat} (h : NA X ci es m) : NE X ci (.Tuple es n pos) (nTup m) := by
  obtain ⟨t, p, e⟩ := h.ex
  refine ⟨⟨_, pe_tup p, fun ρ Φ hd a σ F H R Q q => ?_⟩⟩
  refine e ρ _ hd a σ F H R _ fun ds vs F1 H1 hx g1 d1 => ⟨by rw [d1.length]; exact small hx.1, fun p hp => ?_⟩
  have R1 := R.step g1
  have g2 := Grow.new (o := .tup vs) R1.rel.sub hp
  exact q _ (.ref p) _ _ hx.2 (g1.trans (R1.gc g2)) (.tup upd_same (d1.mono g2.f))
theorem ne_callB {x : Str} {id : String} {r : List V → Hp → VK → Prop} {h : List PyData → Option PyData} (hc : CallR X (.builtin id) r) (hr : BinN r h) (hg : Gl X x) (hm : X.mg x = none) (hv : bootBuiltins x = some (.builtin id)) (ha : NA X ci (e :: es) m)
    (hn : x ≠ "__name__" := by decide) (hdb : (x == ("__debug__" : Str)) = false := by decide) (he : starEach (e :: es) X.env = (false, eval e X.env) :: starEach es X.env := by rfl) (hpl : (backTo pos (starEach es X.env)).any (·.1) = false := by rfl) :
    NE X ci (.Call (.Name x p) (e :: es) [] pos) (nCB h m) := by
  obtain ⟨t, pt, et⟩ := ha.ex
  refine ⟨⟨_, pe_callB hc hg hm hv pt hn hdb he hpl, fun ρ Φ hd a σ F H R Q q => ?_⟩⟩
  refine et ρ _ hd a σ F H R _ fun ds vs F1 H1 hx g1 d1 => ?_
  obtain ⟨d, h1, h2⟩ := hx
  have R1 := R.step g1
  exact hr vs ds d F1 H1 h1 d1 R1.rel.sub Q fun v F2 H2 g2 d2 => q d v F2 H2 h2 (g1.trans (R1.gc g2)) d2
theorem ne_callTy {x : Str} {T : String} {r : List V → Hp → VK → Prop} {h : List PyData → Option PyData} (hc : CallR X (.type T) r) (hr : BinN r h) (hg : Gl X x) (hm : X.mg x = none) (hv : bootBuiltins x = some (.type T)) (ha : NA X ci (e :: es) m)
    (hn : x ≠ "__name__" := by decide) (hdb : (x == ("__debug__" : Str)) = false := by decide) (he : starEach (e :: es) X.env = (false, eval e X.env) :: starEach es X.env := by rfl) (hpl : (backTo pos (starEach es X.env)).any (·.1) = false := by rfl) :
    NE X ci (.Call (.Name x p) (e :: es) [] pos) (nCB h m) := by
  obtain ⟨t, pt, et⟩ := ha.ex
  refine ⟨⟨_, pe_callTy hc hg hm hv pt hn hdb he hpl, fun ρ Φ hd a σ F H R Q q => ?_⟩⟩
  refine et ρ _ hd a σ F H R _ fun ds vs F1 H1 hx g1 d1 => ?_
  obtain ⟨d, h1, h2⟩ := hx
  have R1 := R.step g1
  exact hr vs ds d F1 H1 h1 d1 R1.rel.sub Q fun v F2 H2 g2 d2 => q d v F2 H2 h2 (g1.trans (R1.gc g2)) d2
theorem ne_call {cj k : Nat} {x c y : Str} {ps : List Str} {G : GM} {py : Pos} (Fn : FnN X.prog X.w X.K X.mg X.base k x c ps G) (hr : Room k X.A) (hg : Gl X x) (hN : X.N[cj]? = some y) (hv : Vis X.env.scope y) (ha : NA X (cartS cj) es m)
    (hs : starEach (.Name y py :: es) X.env = (false, eval (.Name y py) X.env) :: starEach es X.env := by rfl) (hpl : (backTo pos (starEach es X.env)).any (·.1) = false := by rfl)
    (hd : (y == ("__debug__" : Str)) = false := by decide) (hcd : (y == ("__classdict__" : Str)) = false := by decide) (hdb : (x == ("__debug__" : Str)) = false := by decide) :
    NE X (cartS cj) (.Call (.Name x p) (.Name y py :: es) [] pos) (nCall ps.length G m) := by
  obtain ⟨f, fd, hf, hm, hk, hb⟩ := Fn.ex
  obtain ⟨t, pt, et⟩ := ha.ex
  refine ⟨⟨_, pe_call hf hr hg hm hk hb .nil passN (pa_cons (pe_var hN hv hd hcd) pt hs) hdb hs hpl, fun ρ Φ h a σ F H R Q q => ?_⟩⟩
  refine ⟨.ref a, R.spot, et ρ _ h a σ F H R _ fun ds vs F1 H1 hx g1 d1 => ?_⟩
  have R1 := R.step g1
  show spN G ps.length ((V.ref a :: vs) ++ []) H1 Q E0
  rw [List.append_nil]
  exact ⟨a, vs, ds, F1, Φ, rfl, R1.c, R1.r.sub, d1, hx.1, hx.2, fun d v F2 H2 h2 g2 d2 => q d v F2 H2 h2 (g1.trans g2) d2⟩
theorem ni_rng {tg : Expr} (hg : Gl X "range") (hm : X.mg "range" = none) (he : NE X ci e f) (n1 : starEach [e] X.env = (false, eval e X.env) :: starEach [] X.env := by rfl) (hs : starEach [e] X.env = [(false, eval e X.env)] := by rfl) :
    NI X ci tg (.Call (.Name "range" p) [e] [] pos) (nRng f) := by
  obtain ⟨t, pt, et⟩ := he.ex
  refine ⟨⟨_, pi_range1 hg hm (pa_cons pt pa_nil n1) hs, fun ρ Φ hd a σ F H R Rr q => ?_⟩⟩
  refine et ρ _ hd a σ F H R _ fun d v F1 H1 hx g1 d1 => ?_
  obtain ⟨n, rfl, hn, h2⟩ := hx
  exact ⟨(n : Nat), by rw [rI_data d1], by omega, by omega, q _ _ F1 H1 h2 g1 walkD_r⟩
theorem ni_tup {tg : Expr} (he : NE X ci e f) : NI X ci tg e (nIt f) := by
  obtain ⟨t, p, et⟩ := he.ex
  refine ⟨⟨_, pi_tup p, fun ρ Φ hd a σ F H R Rr q => ?_⟩⟩
  refine et ρ _ hd a σ F H R _ fun d v F1 H1 hx g1 d1 => ?_
  obtain ⟨ds, rfl, h2⟩ := hx
  cases d1 with
  | tup h r => exact ⟨_, rfl, ⟨_, .inl (.inl ((R.step g1).rel.sub _ _ h))⟩, q _ _ F1 H1 h2 g1 (walkD_t h r)⟩
theorem nt_val (he : NE X ci e f) (hp : ∀ whole, isTrue e X.env whole = (do let v ← whole; standAt e.pos; holding [v] (truthy v)) := by intro _; rfl) : NT X ci e (nVal f) := by
  obtain ⟨ta, pa, ea⟩ := he.ex
  refine ⟨⟨_, pt_val pa hp, fun ρ Φ hd a σ F H R Q q => ?_⟩⟩
  refine ea ρ _ hd a σ F H R _ fun d v F1 H1 hx g1 d1 => ?_
  obtain ⟨b, rfl, h2⟩ := hx
  exact ⟨b, d1.isBl, q b F1 H1 h2 g1⟩
variable {p1 p2 : NTM} {rest : List Expr}
theorem nt_not (ha : NT X ci a p1) : NT X ci (.UnaryOp .Not a pos) (nNot p1) := by
  obtain ⟨ta, pa, ea⟩ := ha.ex
  exact ⟨⟨_, pt_not pa, fun ρ Φ hd c σ F H R Q q => ea ρ _ hd c σ F H R _ fun b F1 H1 hb g1 => q _ F1 H1 hb g1⟩⟩
theorem nw_or1 (ha : NT X ci a p1) : NW X ci (.BoolOp .Or [a] pos) p1 := by
  obtain ⟨ta, pa, ea⟩ := ha.ex
  exact ⟨⟨_, pw_or1 pa, ea⟩⟩
theorem nw_or (ha : NT X ci a p1) (hb : NW X ci (.BoolOp .Or (b :: rest) pos) p2) : NW X ci (.BoolOp .Or (a :: b :: rest) pos) (nOr p1 p2) := by
  obtain ⟨ta, pa, ea⟩ := ha.ex
  obtain ⟨tb, pb, eb⟩ := hb.ex
  refine ⟨⟨_, pw_or pa pb, fun ρ Φ hd c σ F H R Q q => ?_⟩⟩
  refine ea ρ _ hd c σ F H R _ fun x F1 H1 hx g1 => ?_
  cases x with
  | true => exact q true F1 H1 hx g1
  | false => exact eb ρ _ hx c σ F1 H1 (R.step g1) Q fun b F2 H2 hb g2 => q b F2 H2 hb (g1.trans g2)
theorem NW.nt (h : NW X ci e p1) : NT X ci e p1 := by
  obtain ⟨t, p, e⟩ := h.ex
  exact ⟨⟨t, p.pt, e⟩⟩
end

/-! ### x is not b -/
def dNotB : PyData → PyData → Option PyData
  | .bool a, .bool b => some (.bool (!decide (a = b)))
  | _, _ => none
theorem b_notB : Bin2 rNotB dNotB := by
  intro u w x y d F H e d1 d2 s Q q
  unfold dNotB at e
  split at e
  · cases e
    cases d1
    cases d2
    exact ⟨_, _, rfl, rfl, q _ F H (Grow.refl s) (.bl _)⟩
  · cases e
theorem e_notB {X : Cx} {a b : Expr} {f g : EM} {pos : Pos} (ha : ED X a f) (hb : ED X b g) : ED X (.Compare a [.IsNot] [b] pos) (eBin dNotB f g) := ed_cmp op_notBl b_notB (nomk b) ha hb
theorem t_notB {X : Cx} {a b : Expr} {f g : EM} {pos : Pos} (ha : ED X a f) (hb : ED X b g) : TD X (.Compare a [.IsNot] [b] pos) (tOf (eBin dNotB f g)) := td_cmp op_notBl b_notB (nomk b) ha hb

/-! ### a call without arguments -/
def eCall0 (g : FM) : EM := fun ρ => bind1 (g []) okOf
theorem ed_call0 {X : Cx} {CC : Nat → Addr} {k : Nat} {x : Str} {g : FM} {p pos : Pos} (G : FnD CC X.prog X.w X.K X.mg X.base k x [] g) (hr : Room k X.A) (hg : Gl X x) (hdb : (x == ("__debug__" : Str)) = false := by decide) : ED X (.Call (.Name x p) [] [] pos) (eCall0 g) := by
  obtain ⟨f, fd, hf, hm, hk, hb⟩ := G.ex
  refine ⟨⟨_, pe_call0 hf hr hg hm hk hb .nil passN hdb, fun ρ d hd σ F H R Q q => ?_⟩⟩
  obtain ⟨r, h2, hd⟩ := bind1_some hd
  cases r with
  | er c => cases hd
  | ok d' =>
    cases hd
    exact ⟨[], F, _, R.sub, .nil, rfl, h2, fun v F2 H2 g2 d2 => q v F2 H2 g2 d2⟩

/-! ### comprehensions over what was drawn -/
theorem lc_at {J : It} {items : List PyData} {b : BM} {t : TM} {e : EM} {is vs : List Nat} (hiv : ∀ i ∈ is, i ∈ vs) {ρ : En} {ys : List PyData} (hlen : items.length ≤ 1000) (hd : lcGo b t e (wipeE ρ vs) items = some ys)
    {σ : L2.St} {F1 H1 : Hp} (wk : WalkD J items F1) (R : Rel ρ σ F1 H1) {Q : VK} (q : ∀ a F' H' ws, Grow F1 H1 F' H' → H1 a = none → F' a = none → H' a = some (.lst ws) → Dvs F' ws ys → Q (.ref a) H') : tLc (fun _ _ Rr => Rr J H1) (gDB is b) (tDT t) (tDE e) vs σ H1 Q := by
  intro D HD
  have R1 : Rel (wipeE ρ vs) (L2.wipe σ vs) F1 H1 := R.wipe vs
  have sub1 := R.sub
  refine ⟨fun i m H2 => m = items.length - i ∧ i ≤ items.length ∧ ∃ F2 acc ds, Grow F1 H1 F2 H2 ∧ H2 D = some (.lst acc) ∧ F2 D = none ∧ Dvs F2 acc ds ∧ ds.length ≤ i ∧ tailOf ds (lcGo b t e (wipeE ρ vs) (items.drop i)) = some ys,
    ⟨items.length, by simp, Nat.zero_le _, F1, [], [], Grow.loose sub1 HD, upd_same, Same.none sub1 HD, .nil, Nat.le_refl _, ?_⟩, ?_⟩
  · rw [List.drop_zero, hd]
    rfl
  · rintro i m H2 ⟨rfl, hi, F2, acc, ds, g2, hacc, hF, hds, hdl, ht⟩
    by_cases hlt : i < items.length
    · refine .inr ⟨wk.go i F2 H2 hlt g2.f g2.sub, fun H' => i + 1 ≤ items.length ∧ ∃ F2 acc ds, Grow F1 H1 F2 H' ∧ H' D = some (.lst acc) ∧ F2 D = none ∧ Dvs F2 acc ds ∧ ds.length ≤ i + 1 ∧ tailOf ds (lcGo b t e (wipeE ρ vs) (items.drop (i + 1))) = some ys,
        fun H' ⟨a, z⟩ => ⟨items.length - (i + 1), by omega, rfl, a, z⟩, fun x H' y => ?_⟩
      obtain ⟨F3, d, hdi, g3, dx⟩ := wk.yld i F2 H2 x H' hlt g2.f g2.sub y
      have hdrop : items.drop i = d :: items.drop (i + 1) := by
        have z : items[i]? = some items[i] := List.getElem?_eq_getElem hlt
        rw [z] at hdi
        cases hdi
        exact List.drop_eq_getElem_cons hlt
      rw [hdrop] at ht
      obtain ⟨zs, hz, hzs⟩ := bind1_some ht
      obtain ⟨ρ1, b1, hz⟩ := bind1_some hz
      obtain ⟨c, t1, hz⟩ := bind1_some hz
      have g13 := g2.trans g3
      have R3 := R1.grow g13
      refine ⟨wipeE ρ vs, d, ρ1, F3, b1, R3, dx, fun σ4 R4 _ W4 => ⟨?_, ?_⟩⟩
      · rw [W4 vs hiv]
        exact wipe_sub fun _ h => h
      · refine ⟨ρ1, c, F3, t1, R4, fun F4 H4 g4 => ?_⟩
        have g14 := g13.trans g4
        have hold : ∀ {F5 H5 : Hp}, Grow F2 H2 F5 H5 → H5 D = some (.lst acc) ∧ F5 D = none := fun {F5 H5} g => ⟨g.h _ _ hacc, by rw [g.old D (by rw [hacc]; simp), hF]⟩
        cases c with
        | true =>
          refine iteT ?_
          rw [if_pos rfl] at hz
          obtain ⟨yv, e1, hz⟩ := bind1_some hz
          obtain ⟨ys', h5, hz⟩ := bind1_some hz
          cases hz
          cases hzs
          refine ⟨ρ1, yv, F4, e1, R4.grow g4, fun v F5 H5 g5 d5 => ?_⟩
          obtain ⟨k1, k2⟩ := hold (g3.trans (g4.trans g5))
          have g15 := g14.trans g5
          have hds5 : Dvs F5 acc ds := hds.mono (g3.trans (g4.trans g5)).f
          have sub5 : Same F5 (upd H5 D (.lst (acc ++ [v]))) := fun b o z => by
            rw [upd_ne (fun w => by rw [w, k2] at z; cases z)]
            exact g15.sub b o z
          refine ⟨acc, k1, ?_, hlt, F5, acc ++ [v], ds ++ [yv], ⟨g15.f, fun b o z => ?_, sub5, g15.old⟩, upd_same, k2, hds5.append (.cons d5 .nil), by rw [List.length_append]; show ds.length + 1 ≤ _; omega, ?_⟩
          · rw [hds.length]
            exact Nat.lt_of_le_of_lt (Nat.le_trans hdl (Nat.le_trans (Nat.le_of_lt hlt) hlen)) (by decide)
          · rw [upd_ne (fun w => by rw [w, HD] at z; cases z)]
            exact g15.h b o z
          · rw [h5]
            show some (ds ++ [yv] ++ ys') = some (ds ++ yv :: ys')
            rw [List.append_assoc]
            rfl
        | false =>
          refine iteF ?_
          rw [if_neg Bool.false_ne_true] at hz
          obtain ⟨k1, k2⟩ := hold (g3.trans g4)
          refine ⟨hlt, F4, acc, ds, g14, k1, k2, hds.mono (g3.trans g4).f, by omega, ?_⟩
          rw [hz]
          exact hzs
    · have e0 : i = items.length := by omega
      subst e0
      rw [List.drop_length] at ht
      cases ht
      refine .inl ⟨wk.stop F2 H2 g2.f g2.sub, ?_⟩
      rw [List.append_nil] at q
      exact q D F2 H2 acc g2 HD hF hacc hds
section
variable {X : Cx} {ci : Spot} {elt tg iter : Expr} {ifs : List Expr} {scope : Scope} {own : List (Str × Nat)} {is : List Nat} {b : BM} {t : TM} {e : EM} {it : NAM} {pos spos : Pos}
theorem ne_lc (hc : X.calm = true) (hN : X.N.Nodup) (hi : NI X ci tg iter it) (C : CompD X elt tg ifs scope own is b t e) (hs : ∀ x, foldedSetIterable iter X.env x = pure x := by intro _; rfl) :
    NE X ci (.ListComp elt [⟨tg, iter, ifs, 0⟩] scope pos) (nLc it b t e (own.map (·.2))) := by
  obtain ⟨wi, pi, ei⟩ := hi.ex
  refine ⟨⟨_, pe_lc hc hN pi C.ok (fun s H A cl fp => (C.bd s H A cl fp).pg) C.td (fun s H A cl fp => (C.ed s H A cl fp).pe) hs, fun ρ Φ hd a σ F H R Q q => ?_⟩⟩
  refine ei ρ _ hd a σ F H R _ fun items J F1 H1 hx g1 wk => ?_
  obtain ⟨hl, ys, h1, h2⟩ := hx
  have R1 := R.step g1
  refine lc_at C.sub hl h1 wk R1.rel (Q := Q) fun l F' H' ws g n1 n2 h3 h4 => ?_
  have g2 := g.freeze n1 h3 n2
  exact q _ (.ref l) _ H' h2 (g1.trans (R1.gc g2)) (.lst upd_same (h4.mono (same_upd n2)))
end

/-! ### statements that draw -/
inductive OutN where
  | nx (ρ : En)
  | rt (d : PyData)
def PostN (a : Addr) (ci : Spot) (F0 H0 : Hp) (D : Ends) : OutN → Prop
  | .nx ρ => ∀ σ F H, RelC a ci ρ σ F H → Gc ci.ok a F0 H0 F H → D.nx σ H
  | .rt d => ∀ v F H, Gc ci.ok a F0 H0 F H → Dv F v d → D.rt v H
abbrev NM := En → (OutN → Prop) → Prop
structure NS (X : Cx) (ci : Spot) (st : Stmt) (f : NM) : Prop where
  ex : ∃ t : TS, PS X st t ∧ ∀ ρ Φ, f ρ Φ → ∀ a σ F H F0 H0 D, RelC a ci ρ σ F H → Gc ci.ok a F0 H0 F H → (∀ o, Φ o → PostN a ci F0 H0 D o) → t D σ H
structure NSs (X : Cx) (ci : Spot) (st : List Stmt) (f : NM) : Prop where
  ex : ∃ t : TS, PSs X st t ∧ ∀ ρ Φ, f ρ Φ → ∀ a σ F H F0 H0 D, RelC a ci ρ σ F H → Gc ci.ok a F0 H0 F H → (∀ o, Φ o → PostN a ci F0 H0 D o) → t D σ H
def nsNil : NM := fun ρ Φ => Φ (.nx ρ)
def nsSeq (f g : NM) : NM := fun ρ Φ => f ρ fun o => match o with
  | .nx ρ1 => g ρ1 Φ
  | .rt d => Φ (.rt d)
def nsIf (c : NTM) (f g : NM) : NM := fun ρ Φ => c ρ fun b => if b = true then f ρ Φ else g ρ Φ
def nsRet (f : NEM) : NM := fun ρ Φ => f ρ fun d => Φ (.rt d)
def nsSet (i : Nat) (f : NEM) : NM := fun ρ Φ => f ρ fun d => Φ (.nx (ρ.set i (.dat d)))
def nsPar (i j : Nat) (f g : NEM) : NM := fun ρ Φ => f ρ fun x => g ρ fun y => Φ (.nx ((ρ.set i (.dat x)).set j (.dat y)))
def nsFor (it : NAM) (b : BM) (f : NM) : NM := fun ρ Φ => it ρ fun items => ∃ P : Nat → En → Prop, P 0 ρ ∧ (∀ i d ρ', items[i]? = some d → P i ρ' → ∃ ρ1, b d ρ' = some ρ1 ∧ f ρ1 fun o => match o with
  | .nx ρ2 => P (i + 1) ρ2
  | .rt d => Φ (.rt d)) ∧ ∀ ρ', P items.length ρ' → Φ (.nx ρ')
def nsTail (f : SM) : NM := fun ρ Φ => ∃ d, f ρ = some (.rt d) ∧ Φ (.rt d)
section
variable {X : Cx} {ci : Spot} {st : Stmt} {rest body : List Stmt} {e : Expr} {f g : NM} {fe ge : NEM} {ft : NTM} {pos : Pos}
theorem ns_nil : NSs X ci [] nsNil := ⟨⟨_, pss_nil, fun ρ Φ h a σ F H F0 H0 D R G q => q _ h σ F H R G⟩⟩
theorem ns_one (h : NS X ci st f) : NSs X ci [st] f := by
  obtain ⟨t, p, e⟩ := h.ex
  exact ⟨⟨_, pss_one p, e⟩⟩
theorem ns_cons (h1 : NS X ci st f) (h2 : NSs X ci rest g) : NSs X ci (st :: rest) (nsSeq f g) := by
  obtain ⟨t1, p1, e1⟩ := h1.ex
  obtain ⟨t2, p2, e2⟩ := h2.ex
  refine ⟨⟨_, pss_cons p1 p2, fun ρ Φ h a σ F H F0 H0 D R G q => ?_⟩⟩
  refine e1 ρ _ h a σ F H F0 H0 { D with nx := t2 D } R G fun o ho => ?_
  cases o with
  | nx ρ1 => exact fun σ1 F1 H1 R1 G1 => e2 ρ1 Φ ho a σ1 F1 H1 F0 H0 D R1 G1 q
  | rt d => exact q _ ho
theorem ns_if {c : Expr} {a b : List Stmt} (hc : NT X ci c ft) (ha : NSs X ci a f) (hb : NSs X ci b g) : NS X ci (.If c a b pos) (nsIf ft f g) := by
  obtain ⟨tc, pc, ec⟩ := hc.ex
  obtain ⟨ta, pa, ea⟩ := ha.ex
  obtain ⟨tb, pb, eb⟩ := hb.ex
  refine ⟨⟨_, ps_if pc pa pb, fun ρ Φ h k σ F H F0 H0 D R G q => ?_⟩⟩
  refine ec ρ _ h k σ F H R _ fun n F1 H1 hn g1 => ?_
  cases n with
  | true => exact ea ρ Φ hn k σ F1 H1 F0 H0 D (R.step g1) (G.trans g1) q
  | false => exact eb ρ Φ hn k σ F1 H1 F0 H0 D (R.step g1) (G.trans g1) q
theorem ns_ret (h : NE X ci e fe) : NS X ci (.Return (some e) pos) (nsRet fe) := by
  obtain ⟨t, p, et⟩ := h.ex
  refine ⟨⟨_, ps_ret p, fun ρ Φ h a σ F H F0 H0 D R G q => ?_⟩⟩
  exact et ρ _ h a σ F H R _ fun d v F1 H1 hd g1 d1 => q _ hd v F1 H1 (G.trans g1) d1
theorem ns_set (i : Nat) {x : Str} {pos' : Pos} (hN : X.N.Nodup) (hi : X.N[i]? = some x) (hx : Loc X.env.scope x) (hic : ci.free i) (he : NE X ci e fe) (hs : swapsWith e (some (.Name x pos')) pos.line X.env = pure false := by rfl)
    (hf : X.fn x = true ∨ X.env.scope.names.lookup x = some .local := by first | exact .inl rfl | exact .inr rfl | assumption) : NS X ci (.Assign [.Name x pos'] e pos) (nsSet i fe) := by
  obtain ⟨t, p, et⟩ := he.ex
  refine ⟨⟨_, ps_set hN hi hx p hs hf, fun ρ Φ h a σ F H F0 H0 D R G q => ?_⟩⟩
  exact et ρ _ h a σ F H R _ fun d v F1 H1 hd g1 d1 => q _ hd _ F1 H1 ((R.step g1).set hic d1) (G.trans g1)
theorem ns_par {i j : Nat} {x y : Str} {a b : Expr} {px py pt : Pos} {kt k2 : Nat} {pt2 : Pos} (hc : X.calm = true) (hN : X.N.Nodup) (hi : X.N[i]? = some x) (hj : X.N[j]? = some y) (hij : i ≠ j) (hic : ci.free i) (hjc : ci.free j)
    (hx : X.env.scope.names.lookup x = some .local) (hy : X.env.scope.names.lookup y = some .local) (ha : NE X ci a fe) (hb : NE X ci b ge)
    (hw : swappedStores [.Tuple [.Name x px, .Name y py] kt pt] (.Tuple [a, b] k2 pt2) X.env = pure (some [x, y]))
    (hs : swapsWithSole [.Tuple [.Name x px, .Name y py] kt pt] (.Tuple [a, b] k2 pt2) pos.line X.env = pure false := by rfl)
    (h1 : starEach [a, b] X.env = (false, eval a X.env) :: starEach [b] X.env := by rfl) (h2 : starEach [b] X.env = (false, eval b X.env) :: starEach [] X.env := by rfl) :
    NS X ci (.Assign [.Tuple [.Name x px, .Name y py] kt pt] (.Tuple [a, b] k2 pt2) pos) (nsPar i j fe ge) := by
  obtain ⟨ta, pa, ea⟩ := ha.ex
  obtain ⟨tb, pb, eb⟩ := hb.ex
  refine ⟨⟨_, ps_par hc hN hi hj hij hx hy (pa_cons pa (pa_cons pb pa_nil h2) h1) hw hs, fun ρ Φ h k σ F H F0 H0 D R G q => ?_⟩⟩
  refine ea ρ _ h k σ F H R _ fun x u F1 H1 hx g1 d1 => ?_
  refine eb ρ _ hx k σ F1 H1 (R.step g1) _ fun y w F2 H2 hy g2 d2 => ?_
  exact ⟨u, w, rfl, q _ hy _ F2 H2 ((((R.step g1).step g2).set hic (d1.mono g2.g.f)).set hjc d2) (G.trans (g1.trans g2))⟩
theorem ns_tail {CC : Nat → Addr} {E : XK} {f : SM} (h : SDs CC E X rest f) : NSs X ci rest (nsTail f) := by
  obtain ⟨t, p, et⟩ := h.ex
  refine ⟨⟨t, p, fun ρ Φ ⟨d, h1, h2⟩ a σ F H F0 H0 D R G q => ?_⟩⟩
  exact et ρ _ h1 σ F H F H D R.relS fun v F1 H1 g1 d1 => q _ h2 v F1 H1 (G.trans (R.gc g1)) d1
theorem ns_for {tg iter : Expr} {i0 : Nat} {it : NAM} (hp : PassesOwn (model X.prog X.w) X.A X.env X.xe) (hc : X.calm = true) (hi : NI X ci tg iter it) (hic : ci.free i0) (hbody : NSs X ci body f)
    (hpg : PG X tg (gName i0)) (hs : ∀ x, foldedSetIterable iter X.env x = pure x := by intro _; rfl) : NS X ci (.For tg iter body [] pos) (nsFor it (bName i0) f) := by
  obtain ⟨wi, pi, ei⟩ := hi.ex
  obtain ⟨tb, ptb, etb⟩ := hbody.ex
  refine ⟨⟨_, ps_for hp hc pi hpg ptb hs, fun ρ Φ h a σ F H F0 H0 D R G q => ?_⟩⟩
  refine ei ρ _ h a σ F H R _ fun items J F1 H1 hx g1 wk => ?_
  obtain ⟨P, p0, step, fin⟩ := hx
  refine ⟨fun i m σ' H' => m = items.length - i ∧ i ≤ items.length ∧ ∃ ρ' F', RelC a ci ρ' σ' F' H' ∧ Gc ci.ok a F0 H0 F' H' ∧ Same F1 F' ∧ P i ρ', ⟨items.length, by simp, Nat.zero_le _, ρ, F1, R.step g1, G.trans g1, Same.refl _, p0⟩, ?_⟩
  rintro i m σ' H' ⟨rfl, hi, ρ', F', R', G', sF, hP⟩
  by_cases hlt : i < items.length
  · refine .inr ⟨wk.go i F' H' hlt sF R'.rel.sub, fun σ2 H2 => i + 1 ≤ items.length ∧ ∃ ρ' F', RelC a ci ρ' σ2 F' H2 ∧ Gc ci.ok a F0 H0 F' H2 ∧ Same F1 F' ∧ P (i + 1) ρ', fun σ2 H2 ⟨a, z⟩ => ⟨items.length - (i + 1), by omega, rfl, a, z⟩, fun x H2 y => ?_⟩
    obtain ⟨F2, d, hdi, g2, dx⟩ := wk.yld i F' H' x H2 hlt sF R'.rel.sub y
    obtain ⟨ρ1, hb1, hf⟩ := step i d ρ' hdi hP
    cases hb1
    have g2' := R'.gc g2
    have R2 := (R'.step g2').set hic dx
    refine etb _ _ hf a _ F2 H2 F2 H2 _ R2 R2.self fun o ho => ?_
    cases o with
    | nx ρ2 => exact fun σ4 F4 H4 R4 G4 => ⟨hlt, ρ2, F4, R4, (G'.trans g2').trans G4, (sF.trans g2.f).trans G4.g.f, ho⟩
    | rt d => exact fun v F4 H4 G4 d4 => q _ ho v F4 H4 ((G'.trans g2').trans G4) d4
  · have e0 : i = items.length := by omega
    subst e0
    exact .inl ⟨wk.stop F' H' sF R'.rel.sub, q _ (fin ρ' hP) σ' F' H' R' G'⟩
theorem ns_setLc {i : Nat} {y : Str} {py : Pos} {elt tg iter : Expr} {ifs : List Expr} {scope : Scope} {own : List (Str × Nat)} {is : List Nat} {b : BM} {t : TM} {ee : EM} {it : AM} {spos : Pos} (hc : X.calm = true) (hN : X.N.Nodup) (hy : X.N[i]? = some y) (hic : ci.free i) (hyl : X.env.scope.names.lookup y = some .local)
    (hsw : swapsWith (.ListComp elt [⟨tg, iter, ifs, 0⟩] scope pos) (some (.Name y py)) spos.line X.env = pure true) (hi : ID X tg iter it) (C : CompD X elt tg ifs scope own is b t ee) (hs : ∀ x, foldedSetIterable iter X.env x = pure x := by intro _; rfl) :
    NS X ci (.Assign [.Name y py] (.ListComp elt [⟨tg, iter, ifs, 0⟩] scope pos) spos) (nsSet i (nDet (eLc it b t ee (own.map (·.2))))) := by
  obtain ⟨wi, pi, ei⟩ := hi.ex
  refine ⟨⟨_, ps_setLc hc hN hy hyl hsw pi C.ok (fun s H A cl fp => (C.bd s H A cl fp).pg) C.td (fun s H A cl fp => (C.ed s H A cl fp).pe) hs, fun ρ Φ ho a σ F H F0 H0 D R G q => ?_⟩⟩
  obtain ⟨d, h3, h4⟩ := ho
  obtain ⟨ys, h5, h6⟩ := bind1_some h3
  cases h6
  refine lc_read ei C.sub h5 R.rel fun l F' H' ws g n1 n2 h1 h2 => ?_
  have g2 := R.gc (g.freeze n1 h1 n2)
  exact q _ h4 _ _ H' ((R.step g2).set hic (.lst upd_same (h2.mono (same_upd n2)))) (G.trans g2)
end
theorem relC_start {N : List Str} {a : Addr} {vs : List V} {ds : List PyData} {F H : Hp} (c : Cart a H) (s : Same F (del H a)) (r : Dvs F vs ds) (hl : ds.length + 1 ≤ N.length) : RelC a 0 (.no :: startE (N.length - 1) ds) (L2.start N (.ref a :: vs)) F H := by
  have S := rel_start (N := N.tail) s r (by rw [List.length_tail]; omega)
  rw [List.length_tail] at S
  have e : L2.start N (.ref a :: vs) = some (.ref a) :: L2.start N.tail vs := by
    unfold L2.start
    rw [List.map_cons, List.cons_append, List.length_tail, List.length_cons]
    congr 3
    omega
  rw [e]
  have no : ∀ (i : Nat) es, (startE (N.length - 1) ds)[i]? ≠ some (Sl.own es) := fun i es h => by
    unfold startE at h
    by_cases hi : i < ds.length
    · rw [List.getElem?_append_left (by simpa using hi), List.getElem?_map] at h
      cases e : ds[i]? with
      | none => rw [e] at h; cases h
      | some d => rw [e] at h; cases h
    · rw [List.getElem?_append_right (by simpa using hi), List.getElem?_replicate] at h
      split at h <;> cases h
  have no2 : ∀ (i : Nat) es, (Sl.no :: startE (N.length - 1) ds)[i]? ≠ some (Sl.own es) := fun i es h => by
    cases i with
    | zero => cases h
    | succ i => exact no i es h
  refine ⟨rfl, c, ⟨by rw [List.length_cons, List.length_cons, S.r.len], s, fun i d h => ?_, fun i es h => absurd h (no2 i es), fun i j es gs b _ h => absurd h (no2 i es)⟩, no2⟩
  cases i with
  | zero => cases h
  | succ i => exact S.r.dat i d h
section
variable {CC : Nat → Addr} {P : Program} {w : World} {K : PySem.W.Frag} {mg : Str → Option Value} {base : Heap}
def runN (n : Nat) (f : NM) : GM := fun ds Φ => f (.no :: startE (n - 1) ds) fun o => match o with
  | .nx _ => Φ .none
  | .rt d => Φ d
theorem fn_ns {x c : Str} {st : Stmt} {f : Addr} {fd : FuncData} {N ps : List Str} {k : Nat} {sm : NM} (Fn : Fun K x x st f fd) (S : FnScope N (c :: ps) (defScope st)) (hm : mg x = some (.ref f)) (hb : Binds K fd (c :: ps) []) (hl : ps.length + 1 ≤ N.length)
    (body : ∀ (cdv : Value) (A : Around) (outer : List Env) (s : Shared) (H : Hp) (E : XK), Room k (A.deeper (envOfC x (defScope st) s.heap.objs.size f cdv)) → NSs (cxOf (L2N.CX P w) P w K mg base N x (defScope st) f cdv A outer s H E) 0 (defBody st) sm) :
    FnN P w K mg base (k + 1) x c ps (runN N.length sm) := by
  obtain ⟨oc, od, kV, doc, pm, an, cdv, ct, osl, rfl, lk, hcd⟩ := Fn.ex
  refine ⟨⟨f, _, fn_of lk hcd S (fun vs H Q E h => ?_) (fun A outer s H vs Q E hr h => ?_), hm, Fn.kp, hb⟩⟩
  · obtain ⟨a, vs', ds, F, Φ, rfl, _, _, dv, e, _⟩ := h
    rw [List.length_cons, List.length_cons, dv.length, e]
  · obtain ⟨a, vs', ds, F, Φ, rfl, c, sF, dv, e, hg, hp⟩ := h
    obtain ⟨t, p, et⟩ := (body cdv A outer s H E hr).ex
    refine ⟨t, p, et _ _ hg a _ F H F H _ (relC_start c sF dv (by rw [e]; exact hl)) (Gc.refl sF c) fun o ho => ?_⟩
    cases o with
    | nx ρ => exact fun σ F' H' R G => hp .none .non F' H' ho G .non
    | rt d => exact fun v F' H' G dv => hp d v F' H' ho G dv
end
end K6

end
-- text Mir2
section
set_option Elab.async false
set_option linter.all false
set_option autoImplicit false
set_option maxRecDepth 100000
set_option maxHeartbeats 4000000

/-! Printed by gen2.py: what the drawing defs make. -/
namespace K6
open PySem
def g_lump : GM := fun ds Φ => ∃ k : Int, ds = [.int k] ∧ 1 ≤ k ∧ k ≤ 1000 ∧ ∀ r : Int, 0 ≤ r → r < k → Φ (.int r)
def n__law_bounds : NM := (nsSeq (nsSet 3 (nDet (eTup aNil))) (nsSeq (nsFor (nRng (nCall 1 g_lump (nCons (nDet (eBin dAdd (eVar 2) (eC (.int 1)))) nNil))) (bName 4) (nsSeq (nsPar 5 6 (nCall 1 g_lump (nCons (nDet (eBin dAdd (eVar 1) (eC (.int 1)))) nNil)) (nCall 1 g_lump (nCons (nDet (eBin dAdd (eVar 1) (eC (.int 1)))) nNil))) (nsSet 3 (nBin dAdd (nDet (eVar 3)) (nTup (nCons (nTup (nCons (nDet (eVar 5)) (nCons (nDet (eVar 6)) (nCons (nBin dSub (nCall 1 g_lump (nCons (nDet (eBin dAdd (eVar 1) (eC (.int 3)))) nNil)) (nDet (eC (.int 1)))) nNil)))) nNil)))))) (nsRet (nDet (eVar 3)))))
def f__law_bounds : GM := runN 7 n__law_bounds
def t__law_right : SM := (sSeq (sIf (tNotM (tOf (eCall f__law_end_right 3 (aCons (eCall f_least_above 2 (aCons (eVar 1) (aCons (eVar 3) aNil))) (aCons (eCall f__law_keep 3 (aCons (eVar 2) (aCons (eVar 3) (aCons (eTup aNil) aNil)))) (aCons (eC (.bool true)) aNil)))))) (sRet (eC (.bool false))) sNil) (sSeq (sIf (tNotM (tOf (eCall f__law_end_right 3 (aCons (eCall f_greatest_under 2 (aCons (eVar 1) (aCons (eVar 4) aNil))) (aCons (eCall f__law_keep 3 (aCons (eVar 2) (aCons (eTup aNil) (aCons (eVar 4) aNil)))) (aCons (eC (.bool false)) aNil)))))) (sRet (eC (.bool false))) sNil) (sSeq (sPar 5 6 (xDat (eCall f__law_keep 3 (aCons (eVar 2) (aCons (eVar 3) (aCons (eVar 4) aNil))))) (xDat (eCall f_bounds_go 3 (aCons (eVar 1) (aCons (eVar 3) (aCons (eVar 4) aNil)))))) (sSeq (sSet 7 (xDat (eCall f_bounds_paper 3 (aCons (eVar 1) (aCons (eVar 3) (aCons (eVar 4) aNil)))))) (sSeq (sIf (tOrM (tNotM (tOf (eIsi "bool" (eVar 6)))) (tOrM (tOf (eBin dNe (eVar 6) (eBin dNe (eVar 5) (eLst aNil)))) (tOf (eBin dNe (eBin dIsN (eVar 7) (eC .none)) (eVar 6))))) (sRet (eC (.bool false))) sNil) (sSeq (sIf (tOf (eBin dIsN (eVar 7) (eC .none))) (sRet (eC (.bool true))) sNil) (sSeq (sSet 8 (xDat (eIf (tOf (eBin dIsN (eBin dIx (eVar 7) (eC (.int 0))) (eC .none))) (eTup aNil) (eTup (aCons (eBin dIx (eVar 3) (eBin dIx (eVar 7) (eC (.int 0)))) aNil))))) (sSeq (sSet 9 (xDat (eIf (tOf (eBin dIsN (eBin dIx (eVar 7) (eC (.int 1))) (eC .none))) (eTup aNil) (eTup (aCons (eBin dIx (eVar 4) (eBin dIx (eVar 7) (eC (.int 1)))) aNil))))) (sRet (eAnd (eIsi "tuple" (eVar 7)) (eAnd (eBin dEq (eCB dLen (aCons (eVar 7) aNil)) (eC (.int 2))) (eBin dEq (eCall f__law_keep 3 (aCons (eVar 2) (aCons (eVar 8) (aCons (eVar 9) aNil)))) (eLst aNil)))))))))))))
def n__law_right : NM := (nsSeq (nsSet 2 (nDet (eLc (iLst (eCall f__law_all 1 (aCons (eVar 1) aNil))) (bName 10) tYesM (eCall f__law_table 1 (aCons (eVar 10) aNil)) [10]))) (nsSeq (nsPar 3 4 (nCall 2 f__law_bounds (nCons (nDet (eVar 1)) (nCons (nDet (eC (.int 3))) nNil))) (nCall 2 f__law_bounds (nCons (nDet (eVar 1)) (nCons (nDet (eC (.int 3))) nNil)))) (nsTail t__law_right)))
def f__law_right : GM := runN 11 n__law_right
def t__law_wide_right : SM := (sSeq (sSet 3 (xDat (eCall f_least_above 2 (aCons (eVar 1) (aCons (eVar 2) aNil))))) (sSeq (sIf (tOf (eBin dIsN (eVar 3) (eC .none))) (sRet (eBin dIsB (eCall f_bounds_go 3 (aCons (eVar 1) (aCons (eVar 2) (aCons (eTup aNil) aNil)))) (eC (.bool false)))) sNil) (sSeq (sIf (tNotM (tOf (eCall f_is_square 1 (aCons (eVar 3) aNil)))) (sRet (eC (.bool false))) sNil) (sSeq (sBind (eTup (aCons (eCall f_heights 1 (aCons (eVar 3) aNil)) (aCons (eCall f_least_above 2 (aCons (eVar 1) (aCons (eTup aNil) aNil))) aNil))) (bTup [4, 5])) (sSeq (sIf (tOrM (tOf (eBin dEq (eCall f__law_keep 3 (aCons (eLst (aCons (eVar 4) aNil)) (aCons (eVar 2) (aCons (eTup aNil) aNil)))) (eLst aNil))) (tNotM (tOf (eCall f__law_lies 2 (aCons (eCall f_heights 1 (aCons (eVar 5) aNil)) (aCons (eVar 4) aNil)))))) (sRet (eC (.bool false))) sNil) (sSeq (sSet 6 (xDat (eLc (iTupM (eVar 2)) (bTup [7, 8, 9]) tYesM (eTup (aCons (eVar 7) (aCons (eVar 8) (aCons (eBin dIx (eBin dIx (eVar 4) (eVar 7)) (eVar 8)) aNil)))) [7, 8, 9]))) (sSeq (sIf (tOrM (tOf (eBin dNe (eCall f_least_above 2 (aCons (eVar 1) (aCons (eCB dTupOf (aCons (eVar 6) aNil)) aNil))) (eVar 3))) (tOf (eBin dIsN (eCall f_greatest_under 2 (aCons (eVar 1) (aCons (eCB dTupOf (aCons (eVar 6) aNil)) aNil))) (eC .none)))) (sRet (eC (.bool false))) sNil) (sRet (eAnd (eBin dIsB (eCall f_bounds_go 3 (aCons (eVar 1) (aCons (eVar 2) (aCons (eCB dTupOf (aCons (eVar 6) aNil)) aNil)))) (eC (.bool true))) (eBin dIsN (eCall f_bounds_paper 3 (aCons (eVar 1) (aCons (eVar 2) (aCons (eCB dTupOf (aCons (eVar 6) aNil)) aNil)))) (eC .none)))))))))))
def n__law_wide_right : NM := (nsSeq (nsSet 2 (nCB dTupOf (nCons (nLc (nIt (nCall 2 f__law_bounds (nCons (nDet (eVar 1)) (nCons (nDet (eC (.int 4))) nNil)))) (bTup [7, 8, 9]) tYesM (eTup (aCons (eVar 7) (aCons (eVar 8) (aCons (eCB dMax (aCons (eC (.int 0)) (aCons (eBin dSub (eVar 9) (eC (.int 2))) aNil))) aNil)))) [7, 8, 9]) nNil))) (nsTail t__law_wide_right))
def f__law_wide_right : GM := runN 10 n__law_wide_right
def t_law : SM := (sSeq (sBind (eTup (aCons (eTup (aCons (eTup (aCons (eC (.int 1)) (aCons (eC (.int 0)) (aCons (eC (.int 0)) aNil)))) (aCons (eTup (aCons (eC (.int 0)) (aCons (eC (.int 1)) (aCons (eC (.int 0)) aNil)))) (aCons (eTup (aCons (eC (.int 0)) (aCons (eC (.int 0)) (aCons (eC (.int 1)) aNil)))) aNil)))) (aCons (eTup (aCons (eTup (aCons (eC (.int 0)) (aCons (eC (.int 1)) (aCons (eC (.int 0)) aNil)))) (aCons (eTup (aCons (eC (.int 1)) (aCons (eC (.int 0)) (aCons (eC (.int 0)) aNil)))) (aCons (eTup (aCons (eC (.int 0)) (aCons (eC (.int 0)) (aCons (eC (.int 1)) aNil)))) aNil)))) aNil))) (bTup [3, 4])) (sSeq (sIf (tOrM (tOf (eBin dNe (eCall f_least_above 2 (aCons (eC (.int 3)) (aCons (eTup (aCons (eTup (aCons (eC (.int 1)) (aCons (eC (.int 1)) (aCons (eC (.int 2)) aNil)))) aNil)) aNil))) (eVar 4))) (tOrM (tOf (eBin dNe (eCall f_least_above 2 (aCons (eC (.int 3)) (aCons (eTup aNil) aNil))) (eVar 3))) (tOf (eBin dNotN (eCall f_least_above 2 (aCons (eC (.int 3)) (aCons (eTup (aCons (eTup (aCons (eC (.int 0)) (aCons (eC (.int 0)) (aCons (eC (.int 1)) aNil)))) aNil)) aNil))) (eC .none))))) (sRet (eC (.bool false))) sNil) (sSeq (sIf (tOf (eBin dNe (eCall f_least_above 2 (aCons (eC (.int 3)) (aCons (eTup (aCons (eTup (aCons (eC (.int 1)) (aCons (eC (.int 1)) (aCons (eC (.int 1)) aNil)))) (aCons (eTup (aCons (eC (.int 2)) (aCons (eC (.int 2)) (aCons (eC (.int 2)) aNil)))) aNil))) aNil))) (eTup (aCons (eTup (aCons (eC (.int 0)) (aCons (eC (.int 1)) (aCons (eC (.int 0)) aNil)))) (aCons (eTup (aCons (eC (.int 1)) (aCons (eUn dNeg (eC (.int 1))) (aCons (eC (.int 1)) aNil)))) (aCons (eTup (aCons (eC (.int 0)) (aCons (eC (.int 1)) (aCons (eC (.int 0)) aNil)))) aNil)))))) (sRet (eC (.bool false))) sNil) (sSeq (sIf (tOf (eBin dNe (eCall f_greatest_under 2 (aCons (eC (.int 3)) (aCons (eTup (aCons (eTup (aCons (eC (.int 1)) (aCons (eC (.int 1)) (aCons (eC (.int 0)) aNil)))) aNil)) aNil))) (eTup (aCons (eTup (aCons (eC (.int 1)) (aCons (eC (.int 0)) (aCons (eC (.int 0)) aNil)))) (aCons (eTup (aCons (eC (.int 0)) (aCons (eC (.int 0)) (aCons (eC (.int 1)) aNil)))) (aCons (eTup (aCons (eC (.int 0)) (aCons (eC (.int 1)) (aCons (eC (.int 0)) aNil)))) aNil)))))) (sRet (eC (.bool false))) sNil) (sSeq (sIf (tOf (eBin dNotB (eCall f_bounds_go 3 (aCons (eC (.int 3)) (aCons (eTup (aCons (eTup (aCons (eC (.int 1)) (aCons (eC (.int 1)) (aCons (eC (.int 2)) aNil)))) aNil)) (aCons (eTup (aCons (eTup (aCons (eC (.int 2)) (aCons (eC (.int 2)) (aCons (eC (.int 0)) aNil)))) aNil)) aNil)))) (eC (.bool true)))) (sRet (eC (.bool false))) sNil) (sSeq (sSet 5 (xDat (eCall f_greatest_under 2 (aCons (eC (.int 12)) (aCons (eTup aNil) aNil))))) (sSeq (sIf (tOrM (tOf (eBin dNe (eBin dIx (eBin dIx (eVar 5) (eC (.int 0))) (eC (.int 11))) (eC (.int 1)))) (tOf (eBin dNe (eCall f_bounds_paper 3 (aCons (eC (.int 4)) (aCons (eTup (aCons (eTup (aCons (eC (.int 2)) (aCons (eC (.int 2)) (aCons (eC (.int 4)) aNil)))) aNil)) (aCons (eTup (aCons (eTup (aCons (eC (.int 1)) (aCons (eC (.int 2)) (aCons (eC (.int 1)) aNil)))) aNil)) aNil)))) (eTup (aCons (eC (.int 0)) (aCons (eC (.int 0)) aNil)))))) (sRet (eC (.bool false))) sNil) (sRet (eAnd (eBin dEq (eCall f_bounds_paper 3 (aCons (eC (.int 3)) (aCons (eTup (aCons (eTup (aCons (eC (.int 1)) (aCons (eC (.int 1)) (aCons (eC (.int 2)) aNil)))) (aCons (eTup (aCons (eC (.int 0)) (aCons (eC (.int 0)) (aCons (eC (.int 1)) aNil)))) aNil))) (aCons (eTup aNil) aNil)))) (eTup (aCons (eC (.int 1)) (aCons (eC .none) aNil)))) (eBin dIsN (eCall f_bounds_paper 3 (aCons (eC (.int 3)) (aCons (eTup aNil) (aCons (eTup aNil) aNil)))) (eC .none)))))))))))
def n_law_for : NM := (nsFor (nIt (nTup (nCons (nBin dAdd (nDet (eC (.int 2))) (nCall 1 g_lump (nCons (nDet (eC (.int 2))) nNil))) (nCons (nBin dAdd (nDet (eC (.int 3))) (nCB dInt (nCons (nBin dEq (nCall 1 g_lump (nCons (nDet (eC (.int 3))) nNil)) (nDet (eC (.int 0)))) nNil))) nNil)))) (bName 2) (nsIf (nNot (nVal (nCall 1 f__law_right (nCons (nDet (eVar 2)) nNil)))) (nsRet (nDet (eC (.bool false)))) nsNil))
def n_law_wide : NEM := (nCall 1 f__law_wide_right (nCons (nBin dAdd (nDet (eC (.int 4))) (nCall 1 g_lump (nCons (nDet (eC (.int 9))) nNil))) nNil))
end K6

end
-- text Ma7
section
set_option Elab.async false
set_option linter.all false
set_option autoImplicit false
set_option maxRecDepth 100000
set_option maxHeartbeats 4000000
/-! The mathematics, part 7: the drawing defs answer True. -/
namespace K6
open PySem
theorem lump_ {e : EM} {ρ : En} {k : Int} {Φ : PyData → Prop} (he : e ρ = some (.int k)) (h1 : 1 ≤ k) (h2 : k ≤ 1000) (h : ∀ r : Int, 0 ≤ r → r < k → Φ (.int r)) : nCall 1 g_lump (nCons (nDet e) nNil) ρ Φ := ⟨.int k, he, rfl, k, rfl, h1, h2, h⟩
structure Drawn (n m : Nat) (bs : List Bd) : Prop where
  len : bs.length ≤ m
  ok : ∀ b ∈ bs, b.x ≤ n ∧ b.y ≤ n ∧ -1 ≤ b.h ∧ b.h ≤ n + 1
theorem bounds_ok {n m : Nat} {Φ : PyData → Prop} (hn : n ≤ 12) (hm : m ≤ 4) (h : ∀ bs, Drawn n m bs → Φ (bndD bs)) : f__law_bounds [.int n, .int m] Φ := by
  show n__law_bounds [.no, .dat (.int n), .dat (.int m), .no, .no, .no, .no] _
  refine ⟨.tuple [], rfl, ?_⟩
  refine lump_ (k := (m : Int) + 1) rfl (by omega) (by omega) fun r r0 r1 => ?_
  refine ⟨r.toNat, by rw [Int.toNat_of_nonneg r0], by omega, ?_⟩
  refine ⟨fun i ρ => ∃ bs : List Bd, bs.length = i ∧ (∀ b ∈ bs, b.x ≤ n ∧ b.y ≤ n ∧ -1 ≤ b.h ∧ b.h ≤ n + 1) ∧ ∃ a b c, ρ = [.no, .dat (.int n), .dat (.int m), .dat (bndD bs), a, b, c], ⟨[], rfl, (fun _ q => nomatch q), _, _, _, rfl⟩, fun i d ρ hd hP => ?_, fun ρ hP => ?_⟩
  · obtain ⟨hi, rfl⟩ := range_at hd
    obtain ⟨bs, hl, hb, a, b, c, rfl⟩ := hP
    refine ⟨_, rfl, ?_⟩
    show (nsSeq (nsPar 5 6 _ _) _) [.no, .dat (.int n), .dat (.int m), .dat (bndD bs), .dat (.int i), b, c] _
    refine lump_ (k := (n : Int) + 1) rfl (by omega) (by omega) fun x x0 x1 => lump_ (k := (n : Int) + 1) rfl (by omega) (by omega) fun y y0 y1 => ?_
    refine ⟨bndD bs, rfl, ?_⟩
    refine ⟨.int x, rfl, .int y, rfl, lump_ (k := (n : Int) + 3) rfl (by omega) (by omega) fun z z0 z1 => ⟨.int 1, rfl, .int (z - 1), rfl, by show 3 ≤ 1000; omega, by show 1 ≤ 1000; omega, ?_⟩⟩
    refine ⟨bndD (bs ++ [⟨x.toNat, y.toNat, z - 1⟩]), ?_, bs ++ [⟨x.toNat, y.toNat, z - 1⟩], by rw [List.length_append, hl]; rfl, fun b hb' => ?_, .dat (.int i), .dat (.int x), .dat (.int y), rfl⟩
    · show dAdd (.tuple (bs.map encB)) (.tuple [.tuple [.int x, .int y, .int (z - 1)]]) = _
      rw [dAdd_push (by rw [List.length_map]; omega)]
      unfold bndD
      rw [List.map_append]
      show _ = some (PyData.tuple (_ ++ [.tuple [.int (x.toNat : Int), .int (y.toNat : Int), .int (z - 1)]]))
      rw [Int.toNat_of_nonneg x0, Int.toNat_of_nonneg y0]
    · rcases List.mem_append.mp hb' with q | q
      · exact hb b q
      · rw [List.mem_singleton.mp q]
        refine ⟨?_, ?_, ?_, ?_⟩
        · show x.toNat ≤ n
          omega
        · show y.toNat ≤ n
          omega
        · show -1 ≤ z - 1
          omega
        · show z - 1 ≤ n + 1
          omega
  · obtain ⟨bs, hl, hb, a, b, c, rfl⟩ := hP
    rw [List.length_map, List.length_range] at hl
    exact ⟨bndD bs, rfl, h bs ⟨by omega, hb⟩⟩
theorem grid_congr {m k : Nat} {A B : Nat → Nat → Int} (h : ∀ r c, r < m → c < k → A r c = B r c) : gridD m k A = gridD m k B := by
  unfold gridD rowD
  refine congrArg PyData.tuple (List.map_congr_left fun r hr => congrArg PyData.tuple (List.map_congr_left fun c hc => ?_))
  rw [h r c (List.mem_range.mp hr) (List.mem_range.mp hc)]
theorem tab_congr {n : Nat} {A B : Nat → Nat → Int} (h : ∀ r c, r ≤ n → c ≤ n → A r c = B r c) : tabD n A = tabD n B := grid_congr fun r c hr hc => h r c (by omega) (by omega)
theorem sq_congr {n : Nat} {A B : Nat → Nat → Int} (h : ∀ r c, r ≤ n → c ≤ n → A r c = B r c) : gridD n n (sqf A) = gridD n n (sqf B) := grid_congr fun r c hr hc => by
  unfold sqf
  rw [h r c (by omega) (by omega), h (r + 1) c (by omega) (by omega), h r (c + 1) (by omega) (by omega), h (r + 1) (c + 1) (by omega) (by omega)]
section
variable {n : Nat} {tl : List (List (List Int))}
theorem Listed.of (L : Listed n tl) {A : Nat → Nat → Int} (h : HT n A) : ∃ t ∈ tl, (∀ r c, r ≤ n → c ≤ n → fnT t r c = A r c) ∧ tabD n (fnT t) = tabD n A ∧ f__law_table [gridD n n (sqf A)] = some (.ok (tabD n A)) := by
  have hm := L.full A h
  have e : ∀ r c, r ≤ n → c ≤ n → fnT (gridL (n + 1) (n + 1) A) r c = A r c := fun r c hr hc => fn_grid (by omega) (by omega)
  refine ⟨_, hm, e, tab_congr e, ?_⟩
  have z := L.tab _ hm
  unfold sqL at z
  rw [sq_congr e, tab_congr e] at z
  exact z
theorem low_no {T : Nat → Nat → Int} {lows highs : List Bd} {b : Bd} (h : HT n T) (hb : b ∈ lows) (hx : b.x ≤ n) (hy : b.y ≤ n) (c : ceil n b.x b.y < lift b) : keepB lows highs T = false := by
  cases e : keepB lows highs T with
  | false => rfl
  | true =>
    have z := of_decide_eq_true (List.all_eq_true.mp (Bool.and_eq_true_iff.mp e).1 b hb)
    have a := h.lift_le hx hy z
    have d := h.ceil hx hy
    omega
theorem high_no {T : Nat → Nat → Int} {lows highs : List Bd} {b : Bd} (h : HT n T) (hb : b ∈ highs) (hx : b.x ≤ n) (hy : b.y ≤ n) (c : press n b < flr b.x b.y) : keepB lows highs T = false := by
  cases e : keepB lows highs T with
  | false => rfl
  | true =>
    have z := of_decide_eq_true (List.all_eq_true.mp (Bool.and_eq_true_iff.mp e).2 b hb)
    have a := h.le_press hx hy z
    have d := h.flr hx hy
    omega
theorem both_no {T : Nat → Nat → Int} {lows highs : List Bd} {l b : Bd} (h : HT n T) (hl : l ∈ lows) (hb : b ∈ highs) (lx : l.x ≤ n) (ly : l.y ≤ n) (hx : b.x ≤ n) (hy : b.y ≤ n) (c : press n b < lift l - stp l b.x b.y) : keepB lows highs T = false := by
  cases e : keepB lows highs T with
  | false => rfl
  | true =>
    have z1 := of_decide_eq_true (List.all_eq_true.mp (Bool.and_eq_true_iff.mp e).1 l hl)
    have z2 := of_decide_eq_true (List.all_eq_true.mp (Bool.and_eq_true_iff.mp e).2 b hb)
    have a := h.clash lx ly hx hy z1 z2
    omega
theorem keep_nil {Ts : List (Nat → Nat → Int)} {lows highs : List Bd} (h : ∀ T ∈ Ts, keepB lows highs T = false) : Ts.filter (keepB lows highs) = [] := List.filter_eq_nil_iff.mpr fun T hT => by
  rw [h T hT]
  exact Bool.false_ne_true
theorem keep_congr {A B : Nat → Nat → Int} {lows highs : List Bd} (h : ∀ r c, r ≤ n → c ≤ n → A r c = B r c) (h1 : ∀ b ∈ lows, b.x ≤ n ∧ b.y ≤ n ∧ b.h ≤ B b.x b.y) (h2 : ∀ b ∈ highs, b.x ≤ n ∧ b.y ≤ n ∧ B b.x b.y ≤ b.h) : keepB lows highs A = true :=
  Bool.and_eq_true_iff.mpr ⟨List.all_eq_true.mpr fun b hb => decide_eq_true (by rw [h _ _ (h1 b hb).1 (h1 b hb).2.1]; exact (h1 b hb).2.2), List.all_eq_true.mpr fun b hb => decide_eq_true (by rw [h _ _ (h2 b hb).1 (h2 b hb).2.1]; exact (h2 b hb).2.2)⟩
theorem kept_all {T : Nat → Nat → Int} {lows highs : List Bd} (e : keepB lows highs T = true) : (∀ b ∈ lows, b.h ≤ T b.x b.y) ∧ ∀ b ∈ highs, T b.x b.y ≤ b.h :=
  ⟨fun b hb => of_decide_eq_true (List.all_eq_true.mp (Bool.and_eq_true_iff.mp e).1 b hb), fun b hb => of_decide_eq_true (List.all_eq_true.mp (Bool.and_eq_true_iff.mp e).2 b hb)⟩
theorem Listed.ts (L : Listed n tl) {T : Nat → Nat → Int} (h : T ∈ tl.map fnT) : HT n T := by
  obtain ⟨t, h1, rfl⟩ := List.mem_map.mp h
  exact L.ht t h1
theorem low_end (L : Listed n tl) {lows : List Bd} (hb : BsOk n lows) : ∃ told, f_least_above [.int n, bndD lows] = some (.ok told) ∧ f__law_end_right [told, .list (((tl.map fnT).filter (keepB lows [])).map (tabD n)), .bool true] = some (.ok (.bool true)) := by
  rcases f_least hb with ⟨⟨b, h1, h2⟩, e⟩ | ⟨h1, e⟩
  · refine ⟨_, e, ?_⟩
    rw [keep_nil fun T hT => low_no (L.ts hT) h1 (hb.ok b h1).x (hb.ok b h1).y h2]
    exact f_end_none
  · refine ⟨_, e, ?_⟩
    have A := lowT_ht h1
    obtain ⟨t, k1, k2, k3, k4⟩ := L.of A
    refine f_end_some hb.n12 rfl k4 (Nat.le_trans (List.length_filter_le _ _) (by rw [List.length_map]; exact L.len)) ?_ fun T hT r c hr hc => ?_
    · rw [← k3]
      exact List.mem_map.mpr ⟨fnT t, List.mem_filter.mpr ⟨List.mem_map.mpr ⟨t, k1, rfl⟩, keep_congr k2 (fun b hb' => ⟨(h1 b hb').1, (h1 b hb').2.1, lowT_at hb'⟩) fun b hb' => nomatch hb'⟩, rfl⟩
    · obtain ⟨q1, q2⟩ := List.mem_filter.mp hT
      rw [if_pos rfl]
      exact (L.ts q1).lowT_le (fun b hb' => ⟨(h1 b hb').1, (h1 b hb').2.1, (kept_all q2).1 b hb'⟩) hr hc
theorem high_end (L : Listed n tl) {highs : List Bd} (hb : BsOk n highs) : ∃ told, f_greatest_under [.int n, bndD highs] = some (.ok told) ∧ f__law_end_right [told, .list (((tl.map fnT).filter (keepB [] highs)).map (tabD n)), .bool false] = some (.ok (.bool true)) := by
  rcases f_great hb with ⟨⟨b, h1, h2⟩, e⟩ | ⟨h1, e⟩
  · refine ⟨_, e, ?_⟩
    rw [keep_nil fun T hT => high_no (L.ts hT) h1 (hb.ok b h1).x (hb.ok b h1).y h2]
    exact f_end_none
  · refine ⟨_, e, ?_⟩
    have A := highT_ht h1
    obtain ⟨t, k1, k2, k3, k4⟩ := L.of A
    refine f_end_some hb.n12 rfl k4 (Nat.le_trans (List.length_filter_le _ _) (by rw [List.length_map]; exact L.len)) ?_ fun T hT r c hr hc => ?_
    · rw [← k3]
      exact List.mem_map.mpr ⟨fnT t, List.mem_filter.mpr ⟨List.mem_map.mpr ⟨t, k1, rfl⟩, keep_congr k2 (fun b hb' => nomatch hb') fun b hb' => ⟨(h1 b hb').1, (h1 b hb').2.1, highT_at hb'⟩⟩, rfl⟩
    · obtain ⟨q1, q2⟩ := List.mem_filter.mp hT
      rw [if_neg Bool.false_ne_true]
      exact (L.ts q1).le_highT (fun b hb' => ⟨(h1 b hb').1, (h1 b hb').2.1, (kept_all q2).2 b hb'⟩) hr hc
/-- the pair that is told, and that it clashes -/
theorem clash_keep (L : Listed n tl) {lows highs : List Bd} {d : PyData} (h1 : BsOk n lows) (h2 : BsOk n highs) (h : Clash n lows highs d) : isNone d = false ∧ (tl.map fnT).filter (keepB lows highs) = [] ∧
    ∃ x y l1 l2, d = .tuple [x, y] ∧ (∀ b ∈ l1, b.x ≤ n ∧ b.y ≤ n) ∧ (∀ b ∈ l2, b.x ≤ n ∧ b.y ≤ n) ∧ l1.length ≤ 1 ∧ l2.length ≤ 1 ∧ (tl.map fnT).filter (keepB l1 l2) = [] ∧
    (∀ ρ : En, ρ[7]? = some (.dat d) → ρ[3]? = some (.dat (bndD lows)) → eIf (tOf (eBin dIsN (eBin dIx (eVar 7) (eC (.int 0))) (eC .none))) (eTup aNil) (eTup (aCons (eBin dIx (eVar 3) (eBin dIx (eVar 7) (eC (.int 0)))) aNil)) ρ = some (bndD l1)) ∧
    (∀ ρ : En, ρ[7]? = some (.dat d) → ρ[4]? = some (.dat (bndD highs)) → eIf (tOf (eBin dIsN (eBin dIx (eVar 7) (eC (.int 1))) (eC .none))) (eTup aNil) (eTup (aCons (eBin dIx (eVar 4) (eBin dIx (eVar 7) (eC (.int 1)))) aNil)) ρ = some (bndD l2)) := by
  have vv : ∀ {ρ : En} {i : Nat} {d : PyData}, ρ[i]? = some (.dat d) → eVar i ρ = some d := fun {ρ i d} e => by
    unfold eVar
    rw [e]
  have at_ : ∀ {bs : List Bd} {i : Nat} {b : Bd}, bs[i]? = some b → dIx (bndD bs) (.int (i : Nat)) = some (encB b) := fun {bs i b} e => by
    show (if (0 : Int) ≤ (i : Int) then (bs.map encB)[(i : Int).toNat]? else none) = _
    rw [if_pos (by omega), Int.toNat_natCast, List.getElem?_map, e]
    rfl
  have ifT : ∀ {c : TM} {f g : EM} {ρ : En} {x : PyData}, c ρ = some true → f ρ = some x → eIf c f g ρ = some x := fun {c f g ρ x} hc hx => by
    show bind1 (c ρ) _ = _
    rw [hc]
    exact hx
  have ifF : ∀ {c : TM} {f g : EM} {ρ : En} {x : PyData}, c ρ = some false → g ρ = some x → eIf c f g ρ = some x := fun {c f g ρ x} hc hx => by
    show bind1 (c ρ) _ = _
    rw [hc]
    exact hx
  cases h with
  | @lo i b h c =>
    have hm := List.mem_of_getElem? h
    have ok := h1.ok b hm
    refine ⟨rfl, keep_nil fun T hT => low_no (L.ts hT) hm ok.x ok.y c, .int (i : Nat), .none, [b], [], rfl, fun b' hb' => ?_, (fun b' hb' => nomatch hb'), by show _ ≤ 1; simp, by show _ ≤ 1; simp, keep_nil fun T hT => low_no (L.ts hT) List.mem_cons_self ok.x ok.y c, fun ρ e7 e3 => ?_, fun ρ e7 e4 => ?_⟩
    · rw [List.mem_singleton.mp hb']
      exact ⟨ok.x, ok.y⟩
    · exact ifF (v_of (v_bin (v_bin (vv e7) rfl rfl) rfl rfl)) (v_tup1 (v_bin (vv e3) (v_bin (vv e7) rfl rfl) (at_ h)))
    · exact ifT (v_of (v_bin (v_bin (vv e7) rfl rfl) rfl rfl)) rfl
  | @hi i b h c =>
    have hm := List.mem_of_getElem? h
    have ok := h2.ok b hm
    refine ⟨rfl, keep_nil fun T hT => high_no (L.ts hT) hm ok.x ok.y c, .none, .int (i : Nat), [], [b], rfl, (fun b' hb' => nomatch hb'), fun b' hb' => ?_, by show _ ≤ 1; simp, by show _ ≤ 1; simp, keep_nil fun T hT => high_no (L.ts hT) List.mem_cons_self ok.x ok.y c, fun ρ e7 e3 => ?_, fun ρ e7 e4 => ?_⟩
    · rw [List.mem_singleton.mp hb']
      exact ⟨ok.x, ok.y⟩
    · exact ifT (v_of (v_bin (v_bin (vv e7) rfl rfl) rfl rfl)) rfl
    · exact ifF (v_of (v_bin (v_bin (vv e7) rfl rfl) rfl rfl)) (v_tup1 (v_bin (vv e4) (v_bin (vv e7) rfl rfl) (at_ h)))
  | @both i j l b h h' c =>
    have hm := List.mem_of_getElem? h
    have ok := h1.ok l hm
    have hm2 := List.mem_of_getElem? h'
    have ok2 := h2.ok b hm2
    refine ⟨rfl, keep_nil fun T hT => both_no (L.ts hT) hm hm2 ok.x ok.y ok2.x ok2.y c, .int (i : Nat), .int (j : Nat), [l], [b], rfl, fun b' hb' => ?_, fun b' hb' => ?_, by show _ ≤ 1; simp, by show _ ≤ 1; simp, keep_nil fun T hT => both_no (L.ts hT) List.mem_cons_self List.mem_cons_self ok.x ok.y ok2.x ok2.y c, fun ρ e7 e3 => ?_, fun ρ e7 e4 => ?_⟩
    · rw [List.mem_singleton.mp hb']
      exact ⟨ok.x, ok.y⟩
    · rw [List.mem_singleton.mp hb']
      exact ⟨ok2.x, ok2.y⟩
    · exact ifF (v_of (v_bin (v_bin (vv e7) rfl rfl) rfl rfl)) (v_tup1 (v_bin (vv e3) (v_bin (vv e7) rfl rfl) (at_ h)))
    · exact ifF (v_of (v_bin (v_bin (vv e7) rfl rfl) rfl rfl)) (v_tup1 (v_bin (vv e4) (v_bin (vv e7) rfl rfl) (at_ h')))
theorem dNe_bool (a b : Bool) : dNe (.bool a) (.bool b) = some (.bool (!(a == b))) := by cases a <;> cases b <;> rfl
theorem kept_none (L : Listed n tl) {lows highs : List Bd} (h1 : BsOk n lows) (h : NoClash n lows highs) (h2 : BsOk n highs) : ((tl.map fnT).filter (keepB lows highs)).isEmpty = false := by
  obtain ⟨t, k1, k2, k3, k4⟩ := L.of (lowT_ht fun b hb => ⟨(h1.ok b hb).x, (h1.ok b hb).y, h.lo b hb⟩)
  have m : fnT t ∈ (tl.map fnT).filter (keepB lows highs) := List.mem_filter.mpr ⟨List.mem_map.mpr ⟨t, k1, rfl⟩, keep_congr k2 (fun b hb => ⟨(h1.ok b hb).x, (h1.ok b hb).y, lowT_at hb⟩) fun b hb => ⟨(h2.ok b hb).x, (h2.ok b hb).y, lowT_under h.hi h.both b hb⟩⟩
  cases e : (tl.map fnT).filter (keepB lows highs) with
  | nil => rw [e] at m; cases m
  | cons => rfl
theorem isEmpty_map {α β : Type} {l : List α} {f : α → β} : (l.map f).isEmpty = l.isEmpty := by cases l <;> rfl
theorem right_tail (L : Listed n tl) {lows highs : List Bd} (h1 : BsOk n lows) (h2 : BsOk n highs) : t__law_right [.no, .dat (.int n), .dat (.list ((tl.map fnT).map (tabD n))), .dat (bndD lows), .dat (bndD highs), .no, .no, .no, .no, .no, .no] = some (.rt (.bool true)) := by
  have xy : ∀ {bs : List Bd}, BsOk n bs → ∀ b ∈ bs, b.x ≤ n ∧ b.y ≤ n := fun h b hb => ⟨(h.ok b hb).x, (h.ok b hb).y⟩
  have hT : (tl.map fnT).length ≤ 1000 := by rw [List.length_map]; exact L.len
  have nx : ∀ b ∈ ([] : List Bd), b.x ≤ n ∧ b.y ≤ n := fun b hb => nomatch hb
  have shK : ∀ Ts : List (Nat → Nat → Int), Sh 3 (.list (Ts.map (tabD n))) := fun Ts => sh_lst (k := 2) fun d hd => by
    obtain ⟨T, _, rfl⟩ := List.mem_map.mp hd
    exact sh_grid _ _ _
  obtain ⟨t1, a1, a2⟩ := low_end L h1
  obtain ⟨t2, b1, b2⟩ := high_end L h2
  unfold t__law_right
  refine seq_ (ρ1 := [.no, .dat (.int n), .dat (.list ((tl.map fnT).map (tabD n))), .dat (bndD lows), .dat (bndD highs), .no, .no, .no, .no, .no, .no]) (v_if (b := false) (v_not (b := true) (v_of (v_call3 (v_call2 (x := .int n) (y := bndD lows) rfl rfl a1) (v_call3 (x := .list ((tl.map fnT).map (tabD n))) (y := bndD lows) (z := bndD []) rfl rfl rfl (f_keep h1.len (by decide) hT (xy h1) nx)) (z := .bool true) rfl a2))) rfl) ?_
  refine seq_ (ρ1 := [.no, .dat (.int n), .dat (.list ((tl.map fnT).map (tabD n))), .dat (bndD lows), .dat (bndD highs), .no, .no, .no, .no, .no, .no]) (v_if (b := false) (v_not (b := true) (v_of (v_call3 (v_call2 (x := .int n) (y := bndD highs) rfl rfl b1) (v_call3 (x := .list ((tl.map fnT).map (tabD n))) (y := bndD []) (z := bndD highs) rfl rfl rfl (f_keep (by decide) h2.len hT nx (xy h2))) (z := .bool false) rfl b2))) rfl) ?_
  have kp := f_keep (n := n) h1.len h2.len hT (xy h1) (xy h2)
  rcases f_clash n lows highs with ⟨d, c1, c2⟩ | ⟨c1, c2⟩
  · obtain ⟨k1, k2, x, y, l1, l2, rfl, m1, m2, m3, m4, m5, m6, m7⟩ := clash_keep L h1 h2 c2
    rw [k2] at kp
    refine seq_ (v_par (v_dat (v_call3 (x := .list ((tl.map fnT).map (tabD n))) (y := bndD lows) (z := bndD highs) rfl rfl rfl kp)) (v_dat (v_call3 (x := .int n) (y := bndD lows) (z := bndD highs) rfl rfl rfl (f_go h1 h2 c1)))) ?_
    refine seq_ (v_set (v_call3 (x := .int n) (y := bndD lows) (z := bndD highs) rfl rfl rfl (f_paper h1 h2 c1))) ?_
    refine seq_ (v_if (b := false) (v_or rfl (v_or (v_of (v_bin (x := .bool false) (y := .bool false) rfl rfl rfl)) (v_of (v_bin (x := .bool false) (y := .bool false) rfl rfl rfl)))) rfl) ?_
    refine seq_ (v_if (b := false) rfl rfl) ?_
    refine seq_ (v_set (m6 _ rfl rfl)) (seq_ (v_set (m7 _ rfl rfl)) (v_ret ?_))
    refine v_and (b := true) rfl (fun _ => v_and (b := true) rfl (fun _ => ?_) fun h => nomatch h) fun h => nomatch h
    refine v_bin (x := .list []) (y := .list []) (v_call3 (x := .list ((tl.map fnT).map (tabD n))) (y := bndD l1) (z := bndD l2) rfl rfl rfl ?_) rfl rfl
    have z := f_keep (n := n) (Nat.le_trans m3 (by decide)) (Nat.le_trans m4 (by decide)) hT m1 m2
    rw [m5] at z
    exact z
  · have ke := kept_none L h1 c2 h2
    refine seq_ (v_par (v_dat (v_call3 (x := .list ((tl.map fnT).map (tabD n))) (y := bndD lows) (z := bndD highs) rfl rfl rfl kp)) (v_dat (v_call3 (x := .int n) (y := bndD lows) (z := bndD highs) rfl rfl rfl (f_go h1 h2 c1)))) ?_
    refine seq_ (v_set (v_call3 (x := .int n) (y := bndD lows) (z := bndD highs) rfl rfl rfl (f_paper h1 h2 c1))) ?_
    refine seq_ (v_if (b := false) (v_or rfl (v_or (v_of (v_bin (x := .bool true) (y := .bool true) rfl (v_bin (y := .list []) rfl rfl ?_) rfl)) (v_of (v_bin (x := .bool true) (y := .bool true) rfl rfl rfl)))) rfl) ?_
    · rw [dNe_nil (shK _), isEmpty_map, ke]
      rfl
    · exact seq_rt (v_if (b := true) rfl rfl)
theorem Drawn.bsOk {m : Nat} {bs : List Bd} (h : Drawn n m bs) (h1 : 1 ≤ n) (hn : n ≤ 12) (hm : m ≤ 4) : BsOk n bs := ⟨h1, hn, Nat.le_trans h.len (by omega), fun b hb => let ⟨a, c, d, e⟩ := h.ok b hb; ⟨a, c, by omega, by omega⟩⟩
theorem right_ok (L : Listed n tl) {Φ : PyData → Prop} (h : Φ (.bool true)) : f__law_right [.int n] Φ := by
  have n4 := L.n4
  show n__law_right [.no, .dat (.int n), .no, .no, .no, .no, .no, .no, .no, .no, .no] _
  have e : eLc (iLst (eCall f__law_all 1 (aCons (eVar 1) aNil))) (bName 10) tYesM (eCall f__law_table 1 (aCons (eVar 10) aNil)) [10] [.no, .dat (.int n), .no, .no, .no, .no, .no, .no, .no, .no, .no] = some (.list (tl.map fun t => tabD n (fnT t))) := by
    refine eLc_map (enc := sqL n) (h := fun t => tabD n (fnT t)) (l := tl) ?_ L.len fun t ht => ⟨_, rfl, rfl, v_call1 (x := sqL n t) rfl (L.tab t ht)⟩
    show bind1 _ _ = _
    rw [v_call1 (x := .int n) rfl L.all]
    rfl
  refine ⟨_, e, ?_⟩
  have em : (tl.map fun t => tabD n (fnT t)) = (tl.map fnT).map (tabD n) := by rw [List.map_map]; rfl
  rw [em]
  refine ⟨.int n, rfl, .int 3, rfl, rfl, bounds_ok (m := 3) (by omega) (by omega) fun lows hl => ?_⟩
  refine ⟨.int n, rfl, .int 3, rfl, rfl, bounds_ok (m := 3) (by omega) (by omega) fun highs hh => ?_⟩
  exact ⟨.bool true, right_tail L (hl.bsOk L.one (by omega) (by omega)) (hh.bsOk L.one (by omega) (by omega)), h⟩
end
end K6

end
-- text Ma8
section
set_option Elab.async false
set_option linter.all false
set_option autoImplicit false
set_option maxRecDepth 100000
set_option maxHeartbeats 4000000
/-! The mathematics, part 8: the wide squares, and law itself. -/
namespace K6
open PySem
def cutB (b : Bd) : Bd := ⟨b.x, b.y, if b.h - 2 > 0 then b.h - 2 else 0⟩
theorem dIsB_tt : dIsB (.bool true) (.bool true) = some (.bool true) := rfl
section
variable {n : Nat}
theorem flr_nn (r c : Int) : 0 ≤ flr r c := by
  unfold flr
  omega
theorem HT.bnd {T : Nat → Nat → Int} (h : HT n T) {r c : Nat} (hr : r ≤ n) (hc : c ≤ n) : 0 ≤ T r c ∧ T r c ≤ 2 * n := by
  have a := h.flr hr hc
  have b := h.ceil hr hc
  have d := flr_nn r c
  unfold K6.ceil at b
  omega
theorem wide_tail {bs : List Bd} (hb : BsOk n bs) : t__law_wide_right [.no, .dat (.int n), .dat (bndD bs), .no, .no, .no, .no, .no, .no, .no] = some (.rt (.bool true)) := by
  have n1 := hb.one
  have n12 := hb.n12
  have nb : BsOk n [] := ⟨hb.one, hb.n12, by show 0 ≤ 40; omega, fun b h => nomatch h⟩
  unfold t__law_wide_right
  rcases f_least hb with ⟨⟨b, h1, h2⟩, e⟩ | ⟨h1, e⟩
  · refine seq_ (v_set (v_call2 (x := .int n) (y := bndD bs) rfl rfl e)) (seq_rt (v_if (b := true) rfl (v_ret ?_)))
    rcases f_clash n bs [] with ⟨d, c1, c2⟩ | ⟨c1, c2⟩
    · have k : isNone d = false := by cases c2 <;> rfl
      refine v_bin (x := .bool (isNone d)) (y := .bool false) (v_call3 (x := .int n) (y := bndD bs) (z := bndD []) rfl rfl rfl (f_go hb nb c1)) rfl ?_
      rw [k]
      rfl
    · have := c2.lo b h1
      omega
  · have A := lowT_ht h1
    have A0 : HT n (lowT []) := lowT_ht fun b h => nomatch h
    obtain ⟨sq, hsq⟩ : ∃ sq, sq = gridD n n (sqf (lowT bs)) := ⟨_, rfl⟩
    have shS : Sh 2 sq := by rw [hsq]; exact sh_grid _ _ _
    have nS : isNone sq = false := by rw [hsq]; rfl
    have isS := A.is_sq n1 n12
    have hS := A.heights n1 n12
    rw [← hsq] at e isS hS
    refine seq_ (v_set (v_call2 (x := .int n) (y := bndD bs) rfl rfl e)) ?_
    refine seq_ (v_if (b := false) (v_of (v_bin (x := sq) (y := .none) rfl rfl ?_)) rfl) ?_
    · show some (PyData.bool (isNone sq)) = _
      rw [nS]
    refine seq_ (v_if (b := false) (v_not (b := true) (v_of (v_call1 (x := sq) rfl isS))) rfl) ?_
    have e0 : f_least_above [.int n, bndD []] = some (.ok (gridD n n (sqf (lowT [])))) := by
      rcases f_least nb with ⟨⟨b, q, _⟩, _⟩ | ⟨_, e⟩
      · cases q
      · exact e
    refine seq_ (v_bind (v_tup2 (v_call1 (x := sq) rfl hS) (v_call2 (x := .int n) (y := bndD []) rfl rfl e0)) rfl) ?_
    have kp := f_keep (n := n) (Ts := [lowT bs]) hb.len (by show 0 ≤ 40; omega) (by show 1 ≤ 1000; omega) (fun b h => ⟨(h1 b h).1, (h1 b h).2.1⟩) (highs := []) fun b h => nomatch h
    have kt : keepB bs [] (lowT bs) = true := Bool.and_eq_true_iff.mpr ⟨List.all_eq_true.mpr fun b h => decide_eq_true (lowT_at h), rfl⟩
    rw [List.filter_cons, if_pos kt] at kp
    refine seq_ (v_if (b := false) (v_or (v_of (v_bin (v_call3 (y := bndD bs) (z := bndD []) (v_lst1 (x := tabD n (lowT bs)) rfl) rfl rfl kp) rfl (dEq_nil (sh_lst (k := 2) fun d hd => ?_)))) (v_not (b := true) (v_of (v_call2 (y := tabD n (lowT bs)) (v_call1 (x := gridD n n (sqf (lowT []))) rfl (A0.heights n1 n12)) rfl (f_lies n12 fun r c hr hc => A0.lowT_le (n := n) (bs := []) (fun b h => nomatch h) hr hc |> fun _ => ?_))))) rfl) ?_
    · rw [List.mem_singleton.mp hd]
      exact sh_grid _ _ _
    · rcases lowT_mem [] r c with q | ⟨b, q, _⟩
      · rw [q]
        exact lowT_flr bs r c
      · cases q
    have wl : ∀ b ∈ bs, b.x ≤ n ∧ b.y ≤ n := fun b h => ⟨(h1 b h).1, (h1 b h).2.1⟩
    refine seq_ (v_set (eLc_map (enc := encB) (h := fun b => encB (wholeB (lowT bs) b)) (l := bs) rfl (by have := hb.len; omega) fun b h => ⟨_, rfl, rfl, ?_⟩)) ?_
    · obtain ⟨hx, hy⟩ := wl b h
      have c := v_bin (h := dIx) (f := eBin dIx (eVar 4) (eVar 7)) (g := eVar 8) (ρ := [.no, .dat (.int n), .dat (bndD bs), .dat sq, .dat (tabD n (lowT bs)), .dat (gridD n n (sqf (lowT []))), .no, .dat (.int b.x), .dat (.int b.y), .dat (.int b.h)]) (y := .int (b.y : Nat)) (v_bin (y := .int (b.x : Nat)) rfl rfl (dIx_range (f := fun r => rowD (n + 1) (lowT bs r)) (Nat.lt_succ_of_le hx))) rfl (dIx_range (f := fun c => PyData.int (lowT bs b.x c)) (Nat.lt_succ_of_le hy))
      show bind1 (bind1 (some (PyData.int b.x)) fun x => bind1 (bind1 (some (PyData.int b.y)) fun y => bind1 (bind1 (eBin dIx (eBin dIx (eVar 4) (eVar 7)) (eVar 8) _) fun z => bind1 (some []) fun zs => some (z :: zs)) fun ys => some (y :: ys)) fun xs => some (x :: xs)) _ = _
      erw [c]
      rfl
    have em : (bs.map fun b => encB (wholeB (lowT bs) b)) = (bs.map (wholeB (lowT bs))).map encB := by rw [List.map_map]; rfl
    rw [em]
    have wb : BsOk n (bs.map (wholeB (lowT bs))) := ⟨hb.one, hb.n12, by rw [List.length_map]; exact hb.len, fun b h => by
      obtain ⟨b0, q, rfl⟩ := List.mem_map.mp h
      obtain ⟨hx, hy⟩ := wl b0 q
      have z := A.bnd hx hy
      exact ⟨hx, hy, by show -40 ≤ lowT bs b0.x b0.y; omega, by show lowT bs b0.x b0.y ≤ 40; omega⟩⟩
    have ew : f_least_above [.int n, bndD (bs.map (wholeB (lowT bs)))] = some (.ok sq) := by
      rcases f_least wb with ⟨⟨b, q, c⟩, _⟩ | ⟨_, e⟩
      · obtain ⟨b0, q2, rfl⟩ := List.mem_map.mp q
        obtain ⟨hx, hy⟩ := wl b0 q2
        have z := A.ceil hx hy
        rw [A.lift_whole hx hy] at c
        exact absurd z (by
          show ¬ lowT bs b0.x b0.y ≤ ceil n b0.x b0.y
          have c' : ceil n b0.x b0.y < lowT bs b0.x b0.y := c
          omega)
      · rw [e, hsq, sq_congr fun r c hr hc => lowT_whole h1 hr hc]
    have eg : ∃ g, f_greatest_under [.int n, bndD (bs.map (wholeB (lowT bs)))] = some (.ok g) ∧ isNone g = false := by
      rcases f_great wb with ⟨⟨b, q, c⟩, _⟩ | ⟨_, e⟩
      · obtain ⟨b0, q2, rfl⟩ := List.mem_map.mp q
        obtain ⟨hx, hy⟩ := wl b0 q2
        have z := A.flr hx hy
        rw [A.press_whole hx hy] at c
        exact absurd z (by
          show ¬ flr b0.x b0.y ≤ lowT bs b0.x b0.y
          have c' : lowT bs b0.x b0.y < flr b0.x b0.y := c
          omega)
      · exact ⟨_, e, rfl⟩
    obtain ⟨g, eg, ng⟩ := eg
    have nc : f_clash_of [.int n, bndD bs, bndD (bs.map (wholeB (lowT bs)))] = some (.ok .none) := by
      rcases f_clash n bs (bs.map (wholeB (lowT bs))) with ⟨d, c1, c2⟩ | ⟨c1, c2⟩
      · cases c2 with
        | lo h c =>
          have := (h1 _ (List.mem_of_getElem? h)).2.2
          omega
        | hi h c =>
          obtain ⟨b0, q, rfl⟩ := List.mem_map.mp (List.mem_of_getElem? h)
          obtain ⟨hx, hy⟩ := wl b0 q
          have z := A.flr hx hy
          rw [A.press_whole hx hy] at c
          have c' : lowT bs b0.x b0.y < flr b0.x b0.y := c
          omega
        | both h h' c =>
          obtain ⟨b0, q, rfl⟩ := List.mem_map.mp (List.mem_of_getElem? h')
          obtain ⟨hx, hy⟩ := wl b0 q
          have z := lowT_ge (List.mem_of_getElem? h) b0.x b0.y
          rw [A.press_whole hx hy] at c
          exact absurd z (by
            rename_i l
            have c' : lowT bs b0.x b0.y < lift l - stp l b0.x b0.y := c
            omega)
      · exact c1
    refine seq_ (v_if (b := false) (v_or (v_of (v_bin (v_call2 (x := .int n) (y := bndD (bs.map (wholeB (lowT bs)))) rfl (v_cb1 rfl rfl) ew) (y := sq) rfl ?_)) (v_of (v_bin (v_call2 (x := .int n) (y := bndD (bs.map (wholeB (lowT bs)))) rfl (v_cb1 rfl rfl) eg) rfl ?_))) rfl) (v_ret ?_)
    · rw [dNe_sh shS shS, shS.refl]
      rfl
    · show some (PyData.bool (isNone g)) = _
      rw [ng]
    · refine v_and (b := true) (v_bin (v_call3 (x := .int n) (y := bndD bs) (z := bndD (bs.map (wholeB (lowT bs)))) rfl rfl (v_cb1 rfl rfl) (f_go hb wb nc)) rfl rfl) (fun _ => v_bin (v_call3 (x := .int n) (y := bndD bs) (z := bndD (bs.map (wholeB (lowT bs)))) rfl rfl (v_cb1 rfl rfl) (f_paper hb wb nc)) rfl rfl) fun h => nomatch h
theorem wide_ok {Φ : PyData → Prop} (h1 : 1 ≤ n) (hn : n ≤ 12) (h : Φ (.bool true)) : f__law_wide_right [.int n] Φ := by
  show n__law_wide_right [.no, .dat (.int n), .no, .no, .no, .no, .no, .no, .no, .no] _
  refine ⟨.int n, rfl, .int 4, rfl, rfl, bounds_ok (m := 4) (by omega) (by omega) fun bs hl => ?_⟩
  refine ⟨bs.map encB, rfl, by rw [List.length_map]; have := hl.len; omega, bs.map fun b => encB (cutB b), lcGo_map fun b _ => ⟨_, rfl, rfl, rfl⟩, ?_⟩
  refine ⟨bndD (bs.map cutB), ?_, .bool true, wide_tail ⟨h1, hn, by rw [List.length_map]; have := hl.len; omega, fun b hb => ?_⟩, h⟩
  · unfold bndD
    rw [List.map_map]
    rfl
  · obtain ⟨b0, q, rfl⟩ := List.mem_map.mp hb
    obtain ⟨a, c, d, e⟩ := hl.ok b0 q
    refine ⟨a, c, ?_, ?_⟩
    · show -40 ≤ (if b0.h - 2 > 0 then b0.h - 2 else 0)
      omega
    · show (if b0.h - 2 > 0 then b0.h - 2 else 0) ≤ 40
      omega
end
def isT : Option Out → Bool
  | some (.rt (.bool true)) => true
  | _ => false
theorem isT_s {o : Option Out} (h : isT o = true) : o = some (.rt (.bool true)) := by
  unfold isT at h
  split at h
  · rfl
  · cases h
theorem tail3 : isT (t_law [.no, .no, .dat (.int 3), .no, .no, .no]) = true := by decide +kernel
theorem tail4 : isT (t_law [.no, .no, .dat (.int 4), .no, .no, .no]) = true := by decide +kernel
theorem right_w {w : Int} (h : w = 2 ∨ w = 3 ∨ w = 4) {Φ : PyData → Prop} (q : Φ (.bool true)) : f__law_right [.int w] Φ := by
  rcases h with rfl | rfl | rfl
  · exact right_ok li2 q
  · exact right_ok li3 q
  · exact right_ok li4 q
theorem law_for_ok {Φ : OutN → Prop} (h : ∀ x : Sl, x = .dat (.int 3) ∨ x = .dat (.int 4) → Φ (.nx [.no, .no, x, .no, .no, .no])) : n_law_for [.no, .no, .no, .no, .no, .no] Φ := by
  refine ⟨.int 2, rfl, lump_ (k := 2) rfl (by omega) (by omega) fun r r0 r1 => ⟨.int (2 + r), rfl, .int 3, rfl, lump_ (k := 3) rfl (by omega) (by omega) fun s s0 s1 => ⟨.int 0, rfl, .bool (s == 0), dEq_int s 0, .int (if (s == 0) = true then 1 else 0), rfl, .int (3 + (if (s == 0) = true then 1 else 0)), rfl, by show 2 ≤ 1000; omega, _, rfl, ?_⟩⟩⟩
  refine ⟨fun i ρ => ∃ x : Sl, (i = 2 → x = .dat (.int 3) ∨ x = .dat (.int 4)) ∧ ρ = [.no, .no, x, .no, .no, .no], ⟨.no, (fun z => by cases z), rfl⟩, fun i d ρ hd hP => ?_, fun ρ hP => ?_⟩
  · obtain ⟨x, _, rfl⟩ := hP
    have hw : ∃ w : Int, d = .int w ∧ (w = 2 ∨ w = 3 ∨ w = 4) ∧ (i = 1 → w = 3 ∨ w = 4) := by
      cases i with
      | zero =>
        cases hd
        exact ⟨2 + r, rfl, by omega, fun z => by cases z⟩
      | succ i =>
        cases i with
        | zero =>
          cases hd
          refine ⟨_, rfl, ?_, fun _ => ?_⟩ <;> (split <;> omega)
        | succ i => cases hd
    obtain ⟨w, rfl, h1, h2⟩ := hw
    refine ⟨_, rfl, ?_⟩
    refine ⟨.int w, rfl, rfl, right_w h1 ⟨true, rfl, ?_⟩⟩
    refine ⟨.dat (.int w), fun z => ?_, rfl⟩
    rcases h2 (by omega) with rfl | rfl
    · exact .inl rfl
    · exact .inr rfl
  · obtain ⟨x, hx, rfl⟩ := hP
    exact h x (hx rfl)
theorem law_wide_ok {ρ : En} {Φ : PyData → Prop} (h : Φ (.bool true)) : n_law_wide ρ Φ := by
  refine ⟨.int 4, rfl, lump_ (k := 9) rfl (by omega) (by omega) fun r r0 r1 => ⟨.int (4 + r), rfl, rfl, ?_⟩⟩
  have e : (4 + r) = ((4 + r.toNat : Nat) : Int) := by omega
  rw [e]
  exact wide_ok (by omega) (by omega) h
theorem law_tail_ok {x : Sl} (hx : x = .dat (.int 3) ∨ x = .dat (.int 4)) : t_law [.no, .no, x, .no, .no, .no] = some (.rt (.bool true)) := by
  rcases hx with rfl | rfl
  · exact isT_s tail3
  · exact isT_s tail4
end K6

end
-- text Der1
section
set_option Elab.async false
set_option linter.all false
set_option autoImplicit false
set_option maxRecDepth 100000
set_option maxHeartbeats 4000000

/-! Printed by gen.py: derivations. -/
namespace K6
open PySem PySem.Spec PyProof.Rows L2
abbrev s_is_whole : Stmt := topS 10
abbrev N_is_whole : List Str := ["value", "low", "high"]
theorem sc_is_whole : FnScope N_is_whole ["value", "low", "high"] (defScope s_is_whole) := ⟨rfl, rfl, rfl, by decide +kernel, rfl, by decide +kernel, by decide +kernel⟩
theorem nd_is_whole : N_is_whole.Nodup := sc_is_whole.nd
theorem d_is_whole {CC : Nat → Addr} {P : Program} {w : World} {K : PySem.W.Frag} {mg : Str → Option Value} {base : Heap} {f : Addr} {fd : FuncData} (T : Txt mg) (F : Fun K "is_whole" "is_whole" s_is_whole f fd) (hm : mg "is_whole" = some (.ref f)) (hb : Binds K fd ["value", "low", "high"] []) : FnD CC P w K mg base 1 "is_whole" ["value", "low", "high"] f_is_whole :=
  fn_sd (N := N_is_whole) F sc_is_whole hm hb (by decide) fun cdv A outer s H E hr =>
    (sd_one (sd_ret (ed_and (ed_isi rfl T.isinstance bb_isi rfl T.int bb_int (ed_var 0 rfl (by first | exact .inl rfl | exact .inr (.inl rfl) | exact .inr (.inr rfl)))) (ed_and (ed_not (ed_isi rfl T.isinstance bb_isi rfl T.bool bb_bool (ed_var 0 rfl (by first | exact .inl rfl | exact .inr (.inl rfl) | exact .inr (.inr rfl))))) (ed_one (e_ch_le_le (ed_var 1 rfl (by first | exact .inl rfl | exact .inr (.inl rfl) | exact .inr (.inr rfl))) (ed_var 0 rfl (by first | exact .inl rfl | exact .inr (.inl rfl) | exact .inr (.inr rfl))) (ed_var 2 rfl (by first | exact .inl rfl | exact .inr (.inl rfl) | exact .inr (.inr rfl)))))))))
abbrev s_turns_well : Stmt := topS 11
abbrev N_turns_well : List Str := ["line", "total", "one"]
theorem sc_turns_well : FnScope N_turns_well ["line"] (defScope s_turns_well) := ⟨rfl, rfl, rfl, by decide +kernel, rfl, by decide +kernel, by decide +kernel⟩
theorem nd_turns_well : N_turns_well.Nodup := sc_turns_well.nd
theorem d_turns_well {CC : Nat → Addr} {P : Program} {w : World} {K : PySem.W.Frag} {mg : Str → Option Value} {base : Heap} {f : Addr} {fd : FuncData} (T : Txt mg) (F : Fun K "turns_well" "turns_well" s_turns_well f fd) (hm : mg "turns_well" = some (.ref f)) (hb : Binds K fd ["line"] []) : FnD CC P w K mg base 1 "turns_well" ["line"] f_turns_well :=
  fn_sd (N := N_turns_well) F sc_turns_well hm hb (by decide) fun cdv A outer s H E hr =>
    (sd_cons (sd_set 1 nd_turns_well rfl (by first | exact .inl rfl | exact .inr rfl) (xd_dat ed_int)) (sd_cons (sd_for (passes_of rfl) rfl (id_tup (ed_var 0 rfl (by first | exact .inl rfl | exact .inr (.inl rfl) | exact .inr (.inr rfl)))) (bd_name 2 nd_turns_well rfl (by first | exact .inl rfl | exact .inr rfl)) (sd_cons (sd_set 1 nd_turns_well rfl (by first | exact .inl rfl | exact .inr rfl) (xd_dat (r_add (ed_var 1 rfl (by first | exact .inl rfl | exact .inr (.inl rfl) | exact .inr (.inr rfl))) (ed_var 2 rfl (by first | exact .inl rfl | exact .inr (.inl rfl) | exact .inr (.inr rfl)))))) (sd_one (sd_if (td_not (t_ch_le_le ed_int (ed_var 1 rfl (by first | exact .inl rfl | exact .inr (.inl rfl) | exact .inr (.inr rfl))) ed_int)) (sd_one (sd_ret ed_bl)) sd_nil)))) (sd_one (sd_ret (e_eq hr (ed_var 1 rfl (by first | exact .inl rfl | exact .inr (.inl rfl) | exact .inr (.inr rfl))) ed_int)))))
abbrev s_fits_line : Stmt := topS 12
abbrev N_fits_line : List Str := ["value", "sides", "one"]
theorem sc_fits_line : FnScope N_fits_line ["value", "sides"] (defScope s_fits_line) := ⟨rfl, rfl, rfl, by decide +kernel, rfl, by decide +kernel, by decide +kernel⟩
theorem nd_fits_line : N_fits_line.Nodup := sc_fits_line.nd
theorem d_fits_line {CC : Nat → Addr} {P : Program} {w : World} {K : PySem.W.Frag} {mg : Str → Option Value} {base : Heap} {f : Addr} {fd : FuncData} (T : Txt mg) (G_is_whole : FnD CC P w K mg base 1 "is_whole" ["value", "low", "high"] f_is_whole) (F : Fun K "fits_line" "fits_line" s_fits_line f fd) (hm : mg "fits_line" = some (.ref f)) (hb : Binds K fd ["value", "sides"] []) : FnD CC P w K mg base 2 "fits_line" ["value", "sides"] f_fits_line :=
  fn_sd (N := N_fits_line) F sc_fits_line hm hb (by decide) fun cdv A outer s H E hr =>
    (sd_one (sd_ret (ed_and (ed_isi rfl T.isinstance bb_isi rfl T.tuple bb_tuple (ed_var 0 rfl (by first | exact .inl rfl | exact .inr (.inl rfl) | exact .inr (.inr rfl)))) (ed_and (e_eq hr (r_len T rfl (ad_cons (ed_var 0 rfl (by first | exact .inl rfl | exact .inr (.inl rfl) | exact .inr (.inr rfl))) ad_nil)) (ed_var 1 rfl (by first | exact .inl rfl | exact .inr (.inl rfl) | exact .inr (.inr rfl)))) (ed_one (r_all T rfl rfl (ad_cons (ed_lc (own := [("one", 2)]) rfl nd_fits_line (id_tup (ed_var 0 rfl (by first | exact .inl rfl | exact .inr (.inl rfl) | exact .inr (.inr rfl)))) (CompD.mk (own := [("one", 2)]) (blkOk_by (own := [("one", 2)]) (N := N_fits_line) (sc := (defScope s_fits_line)) (by decide +kernel)) (fun _ _ _ _ _ => (bd_name 2 nd_fits_line rfl (by first | exact .inl rfl | exact .inr rfl))) (fun _ _ _ _ _ => pts_yes) (fun _ _ _ _ _ => (ed_call (ps := ["value", "low", "high"]) G_is_whole (hr.mono (by decide)) rfl (ad_cons (ed_var 2 rfl (by first | exact .inl rfl | exact .inr (.inl rfl) | exact .inr (.inr rfl))) (ad_cons (r_neg ed_int) (ad_cons ed_int ad_nil))))) (by decide))) ad_nil)))))))
abbrev s_columns_of : Stmt := topS 13
abbrev N_columns_of : List Str := ["square", "at", "line"]
theorem sc_columns_of : FnScope N_columns_of ["square"] (defScope s_columns_of) := ⟨rfl, rfl, rfl, by decide +kernel, rfl, by decide +kernel, by decide +kernel⟩
theorem nd_columns_of : N_columns_of.Nodup := sc_columns_of.nd
theorem d_columns_of {CC : Nat → Addr} {P : Program} {w : World} {K : PySem.W.Frag} {mg : Str → Option Value} {base : Heap} {f : Addr} {fd : FuncData} (T : Txt mg) (F : Fun K "columns_of" "columns_of" s_columns_of f fd) (hm : mg "columns_of" = some (.ref f)) (hb : Binds K fd ["square"] []) : FnD CC P w K mg base 1 "columns_of" ["square"] f_columns_of :=
  fn_sd (N := N_columns_of) F sc_columns_of hm hb (by decide) fun cdv A outer s H E hr =>
    (sd_one (sd_ret (ed_lc (own := [("at", 1)]) rfl nd_columns_of (id_rng rfl T.range (r_len T rfl (ad_cons (ed_var 0 rfl (by first | exact .inl rfl | exact .inr (.inl rfl) | exact .inr (.inr rfl))) ad_nil))) (CompD.mk (own := [("at", 1)]) (blkOk_by (own := [("at", 1)]) (N := N_columns_of) (sc := (defScope s_columns_of)) (by decide +kernel)) (fun _ _ _ _ _ => (bd_name 1 nd_columns_of rfl (by first | exact .inl rfl | exact .inr rfl))) (fun _ _ _ _ _ => pts_yes) (fun _ _ _ _ _ => (r_tuple T rfl (ad_cons (ed_lc (own := [("line", 2)]) rfl nd_columns_of (id_tup (ed_var 0 rfl (by first | exact .inl rfl | exact .inr (.inl rfl) | exact .inr (.inr rfl)))) (CompD.mk (own := [("line", 2)]) (blkOk_by (own := [("line", 2)]) (N := N_columns_of) (sc := (relS _ (defScope s_columns_of))) (by decide +kernel)) (fun _ _ _ _ _ => (bd_name 2 nd_columns_of rfl (by first | exact .inl rfl | exact .inr rfl))) (fun _ _ _ _ _ => pts_yes) (fun _ _ _ _ _ => (ed_ix (ed_var 2 rfl (by first | exact .inl rfl | exact .inr (.inl rfl) | exact .inr (.inr rfl))) (ed_var 1 rfl (by first | exact .inl rfl | exact .inr (.inl rfl) | exact .inr (.inr rfl))))) (by decide))) ad_nil))) (by decide)))))
abbrev s_fits_square : Stmt := topS 14
abbrev N_fits_square : List Str := ["value", "line"]
theorem sc_fits_square : FnScope N_fits_square ["value"] (defScope s_fits_square) := ⟨rfl, rfl, rfl, by decide +kernel, rfl, by decide +kernel, by decide +kernel⟩
theorem nd_fits_square : N_fits_square.Nodup := sc_fits_square.nd
theorem d_fits_square {CC : Nat → Addr} {P : Program} {w : World} {K : PySem.W.Frag} {mg : Str → Option Value} {base : Heap} {f : Addr} {fd : FuncData} (T : Txt mg) (G_turns_well : FnD CC P w K mg base 1 "turns_well" ["line"] f_turns_well) (G_columns_of : FnD CC P w K mg base 1 "columns_of" ["square"] f_columns_of) (G_fits_line : FnD CC P w K mg base 2 "fits_line" ["value", "sides"] f_fits_line) (F : Fun K "fits_square" "fits_square" s_fits_square f fd) (hm : mg "fits_square" = some (.ref f)) (hb : Binds K fd ["value"] []) : FnD CC P w K mg base 3 "fits_square" ["value"] f_fits_square :=
  fn_sd (N := N_fits_square) F sc_fits_square hm hb (by decide) fun cdv A outer s H E hr =>
    (sd_cons (sd_if (WD.td (wd_or (td_not (td_val (ed_isi rfl T.isinstance bb_isi rfl T.tuple bb_tuple (ed_var 0 rfl (by first | exact .inl rfl | exact .inr (.inl rfl) | exact .inr (.inr rfl)))))) (wd_or1 (td_not (t_ch_le_le ed_int (r_len T rfl (ad_cons (ed_var 0 rfl (by first | exact .inl rfl | exact .inr (.inl rfl) | exact .inr (.inr rfl))) ad_nil)) (ed_gint rfl T.sides)))))) (sd_one (sd_ret ed_bl)) sd_nil) (sd_cons (sd_if (td_not (td_val (r_all T rfl rfl (ad_cons (ed_lc (own := [("line", 1)]) rfl nd_fits_square (id_tup (ed_var 0 rfl (by first | exact .inl rfl | exact .inr (.inl rfl) | exact .inr (.inr rfl)))) (CompD.mk (own := [("line", 1)]) (blkOk_by (own := [("line", 1)]) (N := N_fits_square) (sc := (defScope s_fits_square)) (by decide +kernel)) (fun _ _ _ _ _ => (bd_name 1 nd_fits_square rfl (by first | exact .inl rfl | exact .inr rfl))) (fun _ _ _ _ _ => pts_yes) (fun _ _ _ _ _ => (ed_call (ps := ["value", "sides"]) G_fits_line (hr.mono (by decide)) rfl (ad_cons (ed_var 1 rfl (by first | exact .inl rfl | exact .inr (.inl rfl) | exact .inr (.inr rfl))) (ad_cons (r_len T rfl (ad_cons (ed_var 0 rfl (by first | exact .inl rfl | exact .inr (.inl rfl) | exact .inr (.inr rfl))) ad_nil)) ad_nil)))) (by decide))) ad_nil)))) (sd_one (sd_ret ed_bl)) sd_nil) (sd_one (sd_ret (ed_and (r_all T rfl rfl (ad_cons (ed_lc (own := [("line", 1)]) rfl nd_fits_square (id_tup (ed_var 0 rfl (by first | exact .inl rfl | exact .inr (.inl rfl) | exact .inr (.inr rfl)))) (CompD.mk (own := [("line", 1)]) (blkOk_by (own := [("line", 1)]) (N := N_fits_square) (sc := (defScope s_fits_square)) (by decide +kernel)) (fun _ _ _ _ _ => (bd_name 1 nd_fits_square rfl (by first | exact .inl rfl | exact .inr rfl))) (fun _ _ _ _ _ => pts_yes) (fun _ _ _ _ _ => (ed_call (ps := ["line"]) G_turns_well (hr.mono (by decide)) rfl (ad_cons (ed_var 1 rfl (by first | exact .inl rfl | exact .inr (.inl rfl) | exact .inr (.inr rfl))) ad_nil))) (by decide))) ad_nil)) (ed_one (r_all T rfl rfl (ad_cons (ed_lc (own := [("line", 1)]) rfl nd_fits_square (id_lst (ed_call (ps := ["square"]) G_columns_of (hr.mono (by decide)) rfl (ad_cons (ed_var 0 rfl (by first | exact .inl rfl | exact .inr (.inl rfl) | exact .inr (.inr rfl))) ad_nil))) (CompD.mk (own := [("line", 1)]) (blkOk_by (own := [("line", 1)]) (N := N_fits_square) (sc := (defScope s_fits_square)) (by decide +kernel)) (fun _ _ _ _ _ => (bd_name 1 nd_fits_square rfl (by first | exact .inl rfl | exact .inr rfl))) (fun _ _ _ _ _ => pts_yes) (fun _ _ _ _ _ => (ed_call (ps := ["line"]) G_turns_well (hr.mono (by decide)) rfl (ad_cons (ed_var 1 rfl (by first | exact .inl rfl | exact .inr (.inl rfl) | exact .inr (.inr rfl))) ad_nil))) (by decide))) ad_nil))))))))
abbrev s_need_square : Stmt := topS 15
abbrev N_need_square : List Str := ["value"]
theorem sc_need_square : FnScope N_need_square ["value"] (defScope s_need_square) := ⟨rfl, rfl, rfl, by decide +kernel, rfl, by decide +kernel, by decide +kernel⟩
theorem nd_need_square : N_need_square.Nodup := sc_need_square.nd
theorem d_need_square {CC : Nat → Addr} {P : Program} {w : World} {K : PySem.W.Frag} {mg : Str → Option Value} {base : Heap} {f : Addr} {fd : FuncData} (T : Txt mg) (XF : ∀ c, c < 3 → ExcF CC K mg c) (G_fits_square : FnD CC P w K mg base 3 "fits_square" ["value"] f_fits_square) (F : Fun K "need_square" "need_square" s_need_square f fd) (hm : mg "need_square" = some (.ref f)) (hb : Binds K fd ["value"] []) : FnD CC P w K mg base 4 "need_square" ["value"] f_need_square :=
  fn_sd (N := N_need_square) F sc_need_square hm hb (by decide) fun cdv A outer s H E hr =>
    (sd_one (sd_if (td_not (td_val (ed_call (ps := ["value"]) G_fits_square (hr.mono (by decide)) rfl (ad_cons (ed_var 0 rfl (by first | exact .inl rfl | exact .inr (.inl rfl) | exact .inr (.inr rfl))) ad_nil)))) (sd_one (sd_raise rfl (L2N.takes_of rfl rfl rfl rfl) PySem.F.excBase_ValueError (XF 0 (by decide)).x (XF 0 (by decide)).g (XF 0 (by decide)).k (raises_own (XF 0 (by decide)).b (XF 0 (by decide)).t) rfl)) sd_nil))
abbrev s_need_sides : Stmt := topS 16
abbrev N_need_sides : List Str := ["value"]
theorem sc_need_sides : FnScope N_need_sides ["value"] (defScope s_need_sides) := ⟨rfl, rfl, rfl, by decide +kernel, rfl, by decide +kernel, by decide +kernel⟩
theorem nd_need_sides : N_need_sides.Nodup := sc_need_sides.nd
theorem d_need_sides {CC : Nat → Addr} {P : Program} {w : World} {K : PySem.W.Frag} {mg : Str → Option Value} {base : Heap} {f : Addr} {fd : FuncData} (T : Txt mg) (XF : ∀ c, c < 3 → ExcF CC K mg c) (G_is_whole : FnD CC P w K mg base 1 "is_whole" ["value", "low", "high"] f_is_whole) (F : Fun K "need_sides" "need_sides" s_need_sides f fd) (hm : mg "need_sides" = some (.ref f)) (hb : Binds K fd ["value"] []) : FnD CC P w K mg base 2 "need_sides" ["value"] f_need_sides :=
  fn_sd (N := N_need_sides) F sc_need_sides hm hb (by decide) fun cdv A outer s H E hr =>
    (sd_one (sd_if (td_not (td_val (ed_call (ps := ["value", "low", "high"]) G_is_whole (hr.mono (by decide)) rfl (ad_cons (ed_var 0 rfl (by first | exact .inl rfl | exact .inr (.inl rfl) | exact .inr (.inr rfl))) (ad_cons ed_int (ad_cons (ed_gint rfl T.sides) ad_nil)))))) (sd_one (sd_raise rfl (L2N.takes_of rfl rfl rfl rfl) PySem.F.excBase_ValueError (XF 1 (by decide)).x (XF 1 (by decide)).g (XF 1 (by decide)).k (raises_own (XF 1 (by decide)).b (XF 1 (by decide)).t) rfl)) sd_nil))
abbrev s_is_square : Stmt := topS 17
abbrev N_is_square : List Str := ["value"]
theorem sc_is_square : FnScope N_is_square ["value"] (defScope s_is_square) := ⟨rfl, rfl, rfl, by decide +kernel, rfl, by decide +kernel, by decide +kernel⟩
theorem nd_is_square : N_is_square.Nodup := sc_is_square.nd
theorem d_is_square {CC : Nat → Addr} {P : Program} {w : World} {K : PySem.W.Frag} {mg : Str → Option Value} {base : Heap} {f : Addr} {fd : FuncData} (T : Txt mg) (G_fits_square : FnD CC P w K mg base 3 "fits_square" ["value"] f_fits_square) (F : Fun K "is_square" "is_square" s_is_square f fd) (hm : mg "is_square" = some (.ref f)) (hb : Binds K fd ["value"] []) : FnD CC P w K mg base 4 "is_square" ["value"] f_is_square :=
  fn_sd (N := N_is_square) F sc_is_square hm hb (by decide) fun cdv A outer s H E hr =>
    (sd_one (sd_ret (ed_call (ps := ["value"]) G_fits_square (hr.mono (by decide)) rfl (ad_cons (ed_var 0 rfl (by first | exact .inl rfl | exact .inr (.inl rfl) | exact .inr (.inr rfl))) ad_nil))))
end K6

end
-- text Der2
section
set_option Elab.async false
set_option linter.all false
set_option autoImplicit false
set_option maxRecDepth 100000
set_option maxHeartbeats 4000000

/-! Printed by gen.py: derivations. -/
namespace K6
open PySem PySem.Spec PyProof.Rows L2
abbrev s_heights_of : Stmt := topS 19
abbrev N_heights_of : List Str := ["square", "sides", "sums", "found", "row", "line", "total", "later", "column", "one"]
theorem sc_heights_of : FnScope N_heights_of ["square"] (defScope s_heights_of) := ⟨rfl, rfl, rfl, by decide +kernel, rfl, by decide +kernel, by decide +kernel⟩
theorem nd_heights_of : N_heights_of.Nodup := sc_heights_of.nd
theorem d_heights_of {CC : Nat → Addr} {P : Program} {w : World} {K : PySem.W.Frag} {mg : Str → Option Value} {base : Heap} {f : Addr} {fd : FuncData} (T : Txt mg) (F : Fun K "heights_of" "heights_of" s_heights_of f fd) (hm : mg "heights_of" = some (.ref f)) (hb : Binds K fd ["square"] []) : FnD CC P w K mg base 1 "heights_of" ["square"] f_heights_of :=
  fn_sd (N := N_heights_of) F sc_heights_of hm hb (by decide) fun cdv A outer s H E hr =>
    (sd_cons (sd_set 1 nd_heights_of rfl (by first | exact .inl rfl | exact .inr rfl) (xd_dat (r_len T rfl (ad_cons (ed_var 0 rfl (by first | exact .inl rfl | exact .inr (.inl rfl) | exact .inr (.inr rfl))) ad_nil)))) (sd_cons (sd_par rfl nd_heights_of rfl rfl (by decide) rfl rfl (xd_dat (r_mul (ed_lst (ad_cons ed_int ad_nil)) (r_add (ed_var 1 rfl (by first | exact .inl rfl | exact .inr (.inl rfl) | exact .inr (.inr rfl))) ed_int))) (xd_own (ad_cons (ed_tupRg rfl rfl T.tuple rfl T.range (r_add (ed_var 1 rfl (by first | exact .inl rfl | exact .inr (.inl rfl) | exact .inr (.inr rfl))) ed_int)) ad_nil)) (by rfl)) (sd_cons (sd_for (passes_of rfl) rfl (id_enuT rfl T.enumerate (ed_var 0 rfl (by first | exact .inl rfl | exact .inr (.inl rfl) | exact .inr (.inr rfl)))) (bd_tup rfl (bds_cons (bd_name 4 nd_heights_of rfl (by first | exact .inl rfl | exact .inr rfl)) (bds_cons (bd_name 5 nd_heights_of rfl (by first | exact .inl rfl | exact .inr rfl)) bds_nil))) (sd_cons (sd_par rfl nd_heights_of rfl rfl (by decide) rfl rfl (xd_dat ed_int) (xd_own (ad_cons ed_int ad_nil)) (by rfl)) (sd_cons (sd_for (passes_of rfl) rfl (id_enuT rfl T.enumerate (ed_var 5 rfl (by first | exact .inl rfl | exact .inr (.inl rfl) | exact .inr (.inr rfl)))) (bd_tup rfl (bds_cons (bd_name 8 nd_heights_of rfl (by first | exact .inl rfl | exact .inr rfl)) (bds_cons (bd_name 9 nd_heights_of rfl (by first | exact .inl rfl | exact .inr rfl)) bds_nil))) (sd_cons (sd_set 6 nd_heights_of rfl (by first | exact .inl rfl | exact .inr rfl) (xd_dat (r_add (ed_var 6 rfl (by first | exact .inl rfl | exact .inr (.inl rfl) | exact .inr (.inr rfl))) (ed_var 9 rfl (by first | exact .inl rfl | exact .inr (.inl rfl) | exact .inr (.inr rfl)))))) (sd_one (sd_app 7 rfl (by first | exact .inl rfl | exact .inr (.inl rfl) | exact .inr (.inr rfl)) (r_add (ed_ix (ed_var 2 rfl (by first | exact .inl rfl | exact .inr (.inl rfl) | exact .inr (.inr rfl))) (r_add (ed_var 8 rfl (by first | exact .inl rfl | exact .inr (.inl rfl) | exact .inr (.inr rfl))) ed_int)) (ed_var 6 rfl (by first | exact .inl rfl | exact .inr (.inl rfl) | exact .inr (.inr rfl)))) (by decide) (by decide) rfl (pe_bm PySem.F.plainAttrs_list PySem.F.slot_list_append PySem.F.type_list_append mt_append (pe_var (i := 7) rfl (by first | exact .inl rfl | exact .inr (.inl rfl) | exact .inr (.inr rfl))) (pa_cons (ED.pe (r_add (ed_ix (ed_var 2 rfl (by first | exact .inl rfl | exact .inr (.inl rfl) | exact .inr (.inr rfl))) (r_add (ed_var 8 rfl (by first | exact .inl rfl | exact .inr (.inl rfl) | exact .inr (.inr rfl))) ed_int)) (ed_var 6 rfl (by first | exact .inl rfl | exact .inr (.inl rfl) | exact .inr (.inr rfl))))) pa_nil)))))) (sd_cons (sd_move 2 7 nd_heights_of rfl (by first | exact .inl rfl | exact .inr rfl) rfl (by first | exact .inl rfl | exact .inr (.inl rfl) | exact .inr (.inr rfl))) (sd_one (sd_app 3 rfl (by first | exact .inl rfl | exact .inr (.inl rfl) | exact .inr (.inr rfl)) (r_tuple T rfl (ad_cons (ed_lc (own := [("column", 8), ("one", 9)]) rfl nd_heights_of (id_enuL rfl T.enumerate (ed_var 2 rfl (by first | exact .inl rfl | exact .inr (.inl rfl) | exact .inr (.inr rfl)))) (CompD.mk (own := [("column", 8), ("one", 9)]) (blkOk_by (own := [("column", 8), ("one", 9)]) (N := N_heights_of) (sc := (defScope s_heights_of)) (by decide +kernel)) (fun _ _ _ _ _ => (bd_tup rfl (bds_cons (bd_name 8 nd_heights_of rfl (by first | exact .inl rfl | exact .inr rfl)) (bds_cons (bd_name 9 nd_heights_of rfl (by first | exact .inl rfl | exact .inr rfl)) bds_nil)))) (fun _ _ _ _ _ => pts_yes) (fun _ _ _ _ _ => (r_sub (r_add (r_add (ed_var 4 rfl (by first | exact .inl rfl | exact .inr (.inl rfl) | exact .inr (.inr rfl))) ed_int) (ed_var 8 rfl (by first | exact .inl rfl | exact .inr (.inl rfl) | exact .inr (.inr rfl)))) (r_mul ed_int (ed_var 9 rfl (by first | exact .inl rfl | exact .inr (.inl rfl) | exact .inr (.inr rfl)))))) (by decide))) ad_nil)) (by decide) (by decide) rfl (pe_bm PySem.F.plainAttrs_list PySem.F.slot_list_append PySem.F.type_list_append mt_append (pe_var (i := 3) rfl (by first | exact .inl rfl | exact .inr (.inl rfl) | exact .inr (.inr rfl))) (pa_cons (ED.pe (r_tuple T rfl (ad_cons (ed_lc (own := [("column", 8), ("one", 9)]) rfl nd_heights_of (id_enuL rfl T.enumerate (ed_var 2 rfl (by first | exact .inl rfl | exact .inr (.inl rfl) | exact .inr (.inr rfl)))) (CompD.mk (own := [("column", 8), ("one", 9)]) (blkOk_by (own := [("column", 8), ("one", 9)]) (N := N_heights_of) (sc := (defScope s_heights_of)) (by decide +kernel)) (fun _ _ _ _ _ => (bd_tup rfl (bds_cons (bd_name 8 nd_heights_of rfl (by first | exact .inl rfl | exact .inr rfl)) (bds_cons (bd_name 9 nd_heights_of rfl (by first | exact .inl rfl | exact .inr rfl)) bds_nil)))) (fun _ _ _ _ _ => pts_yes) (fun _ _ _ _ _ => (r_sub (r_add (r_add (ed_var 4 rfl (by first | exact .inl rfl | exact .inr (.inl rfl) | exact .inr (.inr rfl))) ed_int) (ed_var 8 rfl (by first | exact .inl rfl | exact .inr (.inl rfl) | exact .inr (.inr rfl)))) (r_mul ed_int (ed_var 9 rfl (by first | exact .inl rfl | exact .inr (.inl rfl) | exact .inr (.inr rfl)))))) (by decide))) ad_nil))) pa_nil)))))))) (sd_one (sd_ret (ed_tupOwn 3 rfl (by first | exact .inl rfl | exact .inr (.inl rfl) | exact .inr (.inr rfl)) rfl T.tuple bb_tuple))))))
abbrev s_square_from : Stmt := topS 20
abbrev N_square_from : List Str := ["table", "sides", "found", "row", "above", "below", "some", "at", "one"]
theorem sc_square_from : FnScope N_square_from ["table"] (defScope s_square_from) := ⟨rfl, rfl, rfl, by decide +kernel, rfl, by decide +kernel, by decide +kernel⟩
theorem nd_square_from : N_square_from.Nodup := sc_square_from.nd
theorem d_square_from {CC : Nat → Addr} {P : Program} {w : World} {K : PySem.W.Frag} {mg : Str → Option Value} {base : Heap} {f : Addr} {fd : FuncData} (T : Txt mg) (F : Fun K "square_from" "square_from" s_square_from f fd) (hm : mg "square_from" = some (.ref f)) (hb : Binds K fd ["table"] []) : FnD CC P w K mg base 1 "square_from" ["table"] f_square_from :=
  fn_sd (N := N_square_from) F sc_square_from hm hb (by decide) fun cdv A outer s H E hr =>
    (sd_cons (sd_par rfl nd_square_from rfl rfl (by decide) rfl rfl (xd_dat (r_sub (r_len T rfl (ad_cons (ed_var 0 rfl (by first | exact .inl rfl | exact .inr (.inl rfl) | exact .inr (.inr rfl))) ad_nil)) ed_int)) (xd_own ad_nil) (by rfl)) (sd_cons (sd_for (passes_of rfl) rfl (id_rng rfl T.range (ed_var 1 rfl (by first | exact .inl rfl | exact .inr (.inl rfl) | exact .inr (.inr rfl)))) (bd_name 3 nd_square_from rfl (by first | exact .inl rfl | exact .inr rfl)) (sd_cons (sd_bind (ed_tup (ad_cons (ed_ix (ed_var 0 rfl (by first | exact .inl rfl | exact .inr (.inl rfl) | exact .inr (.inr rfl))) (ed_var 3 rfl (by first | exact .inl rfl | exact .inr (.inl rfl) | exact .inr (.inr rfl)))) (ad_cons (ed_ix (ed_var 0 rfl (by first | exact .inl rfl | exact .inr (.inl rfl) | exact .inr (.inr rfl))) (r_add (ed_var 3 rfl (by first | exact .inl rfl | exact .inr (.inl rfl) | exact .inr (.inr rfl))) ed_int)) ad_nil))) (bd_tup rfl (bds_cons (bd_name 4 nd_square_from rfl (by first | exact .inl rfl | exact .inr rfl)) (bds_cons (bd_name 5 nd_square_from rfl (by first | exact .inl rfl | exact .inr rfl)) bds_nil)))) (sd_cons (sd_setLc (own := [("at", 7)]) rfl nd_square_from rfl rfl (sw_true rfl rfl rfl (by decide +kernel)) (id_rng rfl T.range (ed_var 1 rfl (by first | exact .inl rfl | exact .inr (.inl rfl) | exact .inr (.inr rfl)))) (CompD.mk (own := [("at", 7)]) (blkOk_by (own := [("at", 7)]) (N := N_square_from) (sc := (defScope s_square_from)) (by decide +kernel)) (fun _ _ _ _ _ => (bd_name 7 nd_square_from rfl (by first | exact .inl rfl | exact .inr rfl))) (fun _ _ _ _ _ => pts_yes) (fun _ _ _ _ _ => (r_sub (r_sub (r_add (ed_ix (ed_var 5 rfl (by first | exact .inl rfl | exact .inr (.inl rfl) | exact .inr (.inr rfl))) (ed_var 7 rfl (by first | exact .inl rfl | exact .inr (.inl rfl) | exact .inr (.inr rfl)))) (ed_ix (ed_var 4 rfl (by first | exact .inl rfl | exact .inr (.inl rfl) | exact .inr (.inr rfl))) (r_add (ed_var 7 rfl (by first | exact .inl rfl | exact .inr (.inl rfl) | exact .inr (.inr rfl))) ed_int))) (ed_ix (ed_var 4 rfl (by first | exact .inl rfl | exact .inr (.inl rfl) | exact .inr (.inr rfl))) (ed_var 7 rfl (by first | exact .inl rfl | exact .inr (.inl rfl) | exact .inr (.inr rfl))))) (ed_ix (ed_var 5 rfl (by first | exact .inl rfl | exact .inr (.inl rfl) | exact .inr (.inr rfl))) (r_add (ed_var 7 rfl (by first | exact .inl rfl | exact .inr (.inl rfl) | exact .inr (.inr rfl))) ed_int)))) (by decide))) (sd_one (sd_app 2 rfl (by first | exact .inl rfl | exact .inr (.inl rfl) | exact .inr (.inr rfl)) (r_tuple T rfl (ad_cons (ed_lc (own := [("one", 8)]) rfl nd_square_from (id_lst (ed_var 6 rfl (by first | exact .inl rfl | exact .inr (.inl rfl) | exact .inr (.inr rfl)))) (CompD.mk (own := [("one", 8)]) (blkOk_by (own := [("one", 8)]) (N := N_square_from) (sc := (defScope s_square_from)) (by decide +kernel)) (fun _ _ _ _ _ => (bd_name 8 nd_square_from rfl (by first | exact .inl rfl | exact .inr rfl))) (fun _ _ _ _ _ => pts_yes) (fun _ _ _ _ _ => (r_div (ed_var 8 rfl (by first | exact .inl rfl | exact .inr (.inl rfl) | exact .inr (.inr rfl))) ed_int)) (by decide))) ad_nil)) (by decide) (by decide) rfl (pe_bm PySem.F.plainAttrs_list PySem.F.slot_list_append PySem.F.type_list_append mt_append (pe_var (i := 2) rfl (by first | exact .inl rfl | exact .inr (.inl rfl) | exact .inr (.inr rfl))) (pa_cons (ED.pe (r_tuple T rfl (ad_cons (ed_lc (own := [("one", 8)]) rfl nd_square_from (id_lst (ed_var 6 rfl (by first | exact .inl rfl | exact .inr (.inl rfl) | exact .inr (.inr rfl)))) (CompD.mk (own := [("one", 8)]) (blkOk_by (own := [("one", 8)]) (N := N_square_from) (sc := (defScope s_square_from)) (by decide +kernel)) (fun _ _ _ _ _ => (bd_name 8 nd_square_from rfl (by first | exact .inl rfl | exact .inr rfl))) (fun _ _ _ _ _ => pts_yes) (fun _ _ _ _ _ => (r_div (ed_var 8 rfl (by first | exact .inl rfl | exact .inr (.inl rfl) | exact .inr (.inr rfl))) ed_int)) (by decide))) ad_nil))) pa_nil))))))) (sd_one (sd_ret (ed_tupOwn 2 rfl (by first | exact .inl rfl | exact .inr (.inl rfl) | exact .inr (.inr rfl)) rfl T.tuple bb_tuple)))))
abbrev s_heights : Stmt := topS 21
abbrev N_heights : List Str := ["square"]
theorem sc_heights : FnScope N_heights ["square"] (defScope s_heights) := ⟨rfl, rfl, rfl, by decide +kernel, rfl, by decide +kernel, by decide +kernel⟩
theorem nd_heights : N_heights.Nodup := sc_heights.nd
theorem d_heights {CC : Nat → Addr} {P : Program} {w : World} {K : PySem.W.Frag} {mg : Str → Option Value} {base : Heap} {f : Addr} {fd : FuncData} (T : Txt mg) (G_heights_of : FnD CC P w K mg base 1 "heights_of" ["square"] f_heights_of) (G_need_square : FnD CC P w K mg base 4 "need_square" ["value"] f_need_square) (F : Fun K "heights" "heights" s_heights f fd) (hm : mg "heights" = some (.ref f)) (hb : Binds K fd ["square"] []) : FnD CC P w K mg base 5 "heights" ["square"] f_heights :=
  fn_sd (N := N_heights) F sc_heights hm hb (by decide) fun cdv A outer s H E hr =>
    (sd_cons (sd_call (ps := ["value"]) G_need_square (hr.mono (by decide)) rfl (L2N.takes_of rfl rfl rfl rfl) (ad_cons (ed_var 0 rfl (by first | exact .inl rfl | exact .inr (.inl rfl) | exact .inr (.inr rfl))) ad_nil)) (sd_one (sd_ret (ed_call (ps := ["square"]) G_heights_of (hr.mono (by decide)) rfl (ad_cons (ed_var 0 rfl (by first | exact .inl rfl | exact .inr (.inl rfl) | exact .inr (.inr rfl))) ad_nil)))))
abbrev s_fit_bounds : Stmt := topS 25
abbrev N_fit_bounds : List Str := ["sides", "value", "bound", "one"]
theorem sc_fit_bounds : FnScope N_fit_bounds ["sides", "value"] (defScope s_fit_bounds) := ⟨rfl, rfl, rfl, by decide +kernel, rfl, by decide +kernel, by decide +kernel⟩
theorem nd_fit_bounds : N_fit_bounds.Nodup := sc_fit_bounds.nd
theorem d_fit_bounds {CC : Nat → Addr} {P : Program} {w : World} {K : PySem.W.Frag} {mg : Str → Option Value} {base : Heap} {f : Addr} {fd : FuncData} (T : Txt mg) (G_is_whole : FnD CC P w K mg base 1 "is_whole" ["value", "low", "high"] f_is_whole) (F : Fun K "fit_bounds" "fit_bounds" s_fit_bounds f fd) (hm : mg "fit_bounds" = some (.ref f)) (hb : Binds K fd ["sides", "value"] []) : FnD CC P w K mg base 2 "fit_bounds" ["sides", "value"] f_fit_bounds :=
  fn_sd (N := N_fit_bounds) F sc_fit_bounds hm hb (by decide) fun cdv A outer s H E hr =>
    (sd_cons (sd_if (WD.td (wd_or (td_not (td_val (ed_isi rfl T.isinstance bb_isi rfl T.tuple bb_tuple (ed_var 1 rfl (by first | exact .inl rfl | exact .inr (.inl rfl) | exact .inr (.inr rfl)))))) (wd_or1 (t_gt (r_len T rfl (ad_cons (ed_var 1 rfl (by first | exact .inl rfl | exact .inr (.inl rfl) | exact .inr (.inr rfl))) ad_nil)) (ed_gint rfl T.bounds))))) (sd_one (sd_ret ed_bl)) sd_nil) (sd_cons (sd_for (passes_of rfl) rfl (id_tup (ed_var 1 rfl (by first | exact .inl rfl | exact .inr (.inl rfl) | exact .inr (.inr rfl)))) (bd_name 2 nd_fit_bounds rfl (by first | exact .inl rfl | exact .inr rfl)) (sd_cons (sd_if (WD.td (wd_or (td_not (td_val (ed_isi rfl T.isinstance bb_isi rfl T.tuple bb_tuple (ed_var 2 rfl (by first | exact .inl rfl | exact .inr (.inl rfl) | exact .inr (.inr rfl)))))) (wd_or (t_ne hr (r_len T rfl (ad_cons (ed_var 2 rfl (by first | exact .inl rfl | exact .inr (.inl rfl) | exact .inr (.inr rfl))) ad_nil)) ed_int) (wd_or1 (td_not (td_val (ed_call (ps := ["value", "low", "high"]) G_is_whole (hr.mono (by decide)) rfl (ad_cons (ed_ix (ed_var 2 rfl (by first | exact .inl rfl | exact .inr (.inl rfl) | exact .inr (.inr rfl))) ed_int) (ad_cons (r_neg (ed_gint rfl T.far)) (ad_cons (ed_gint rfl T.far) ad_nil)))))))))) (sd_one (sd_ret ed_bl)) sd_nil) (sd_one (sd_if (td_not (td_val (r_all T rfl rfl (ad_cons (ed_lc (own := [("one", 3)]) rfl nd_fit_bounds (id_tup (ed_cut (ed_var 2 rfl (by first | exact .inl rfl | exact .inr (.inl rfl) | exact .inr (.inr rfl))) ed_int)) (CompD.mk (own := [("one", 3)]) (blkOk_by (own := [("one", 3)]) (N := N_fit_bounds) (sc := (defScope s_fit_bounds)) (by decide +kernel)) (fun _ _ _ _ _ => (bd_name 3 nd_fit_bounds rfl (by first | exact .inl rfl | exact .inr rfl))) (fun _ _ _ _ _ => pts_yes) (fun _ _ _ _ _ => (ed_call (ps := ["value", "low", "high"]) G_is_whole (hr.mono (by decide)) rfl (ad_cons (ed_var 3 rfl (by first | exact .inl rfl | exact .inr (.inl rfl) | exact .inr (.inr rfl))) (ad_cons ed_int (ad_cons (ed_var 0 rfl (by first | exact .inl rfl | exact .inr (.inl rfl) | exact .inr (.inr rfl))) ad_nil))))) (by decide))) ad_nil)))) (sd_one (sd_ret ed_bl)) sd_nil)))) (sd_one (sd_ret ed_bl))))
abbrev s_need_bounds : Stmt := topS 26
abbrev N_need_bounds : List Str := ["sides", "value"]
theorem sc_need_bounds : FnScope N_need_bounds ["sides", "value"] (defScope s_need_bounds) := ⟨rfl, rfl, rfl, by decide +kernel, rfl, by decide +kernel, by decide +kernel⟩
theorem nd_need_bounds : N_need_bounds.Nodup := sc_need_bounds.nd
theorem d_need_bounds {CC : Nat → Addr} {P : Program} {w : World} {K : PySem.W.Frag} {mg : Str → Option Value} {base : Heap} {f : Addr} {fd : FuncData} (T : Txt mg) (XF : ∀ c, c < 3 → ExcF CC K mg c) (G_fit_bounds : FnD CC P w K mg base 2 "fit_bounds" ["sides", "value"] f_fit_bounds) (F : Fun K "need_bounds" "need_bounds" s_need_bounds f fd) (hm : mg "need_bounds" = some (.ref f)) (hb : Binds K fd ["sides", "value"] []) : FnD CC P w K mg base 3 "need_bounds" ["sides", "value"] f_need_bounds :=
  fn_sd (N := N_need_bounds) F sc_need_bounds hm hb (by decide) fun cdv A outer s H E hr =>
    (sd_one (sd_if (td_not (td_val (ed_call (ps := ["sides", "value"]) G_fit_bounds (hr.mono (by decide)) rfl (ad_cons (ed_var 0 rfl (by first | exact .inl rfl | exact .inr (.inl rfl) | exact .inr (.inr rfl))) (ad_cons (ed_var 1 rfl (by first | exact .inl rfl | exact .inr (.inl rfl) | exact .inr (.inr rfl))) ad_nil))))) (sd_one (sd_raise rfl (L2N.takes_of rfl rfl rfl rfl) PySem.F.excBase_ValueError (XF 2 (by decide)).x (XF 2 (by decide)).g (XF 2 (by decide)).k (raises_own (XF 2 (by decide)).b (XF 2 (by decide)).t) rfl)) sd_nil))
end K6

end
-- text Der3
section
set_option Elab.async false
set_option linter.all false
set_option autoImplicit false
set_option maxRecDepth 100000
set_option maxHeartbeats 4000000

/-! Printed by gen.py: derivations. -/
namespace K6
open PySem PySem.Spec PyProof.Rows L2
abbrev s_floor_at : Stmt := topS 27
abbrev N_floor_at : List Str := ["row", "column"]
theorem sc_floor_at : FnScope N_floor_at ["row", "column"] (defScope s_floor_at) := ⟨rfl, rfl, rfl, by decide +kernel, rfl, by decide +kernel, by decide +kernel⟩
theorem nd_floor_at : N_floor_at.Nodup := sc_floor_at.nd
theorem d_floor_at {CC : Nat → Addr} {P : Program} {w : World} {K : PySem.W.Frag} {mg : Str → Option Value} {base : Heap} {f : Addr} {fd : FuncData} (T : Txt mg) (F : Fun K "floor_at" "floor_at" s_floor_at f fd) (hm : mg "floor_at" = some (.ref f)) (hb : Binds K fd ["row", "column"] []) : FnD CC P w K mg base 1 "floor_at" ["row", "column"] f_floor_at :=
  fn_sd (N := N_floor_at) F sc_floor_at hm hb (by decide) fun cdv A outer s H E hr =>
    (sd_one (sd_ret (r_abs T rfl (ad_cons (r_sub (ed_var 0 rfl (by first | exact .inl rfl | exact .inr (.inl rfl) | exact .inr (.inr rfl))) (ed_var 1 rfl (by first | exact .inl rfl | exact .inr (.inl rfl) | exact .inr (.inr rfl)))) ad_nil))))
abbrev s_ceiling_at : Stmt := topS 28
abbrev N_ceiling_at : List Str := ["sides", "row", "column"]
theorem sc_ceiling_at : FnScope N_ceiling_at ["sides", "row", "column"] (defScope s_ceiling_at) := ⟨rfl, rfl, rfl, by decide +kernel, rfl, by decide +kernel, by decide +kernel⟩
theorem nd_ceiling_at : N_ceiling_at.Nodup := sc_ceiling_at.nd
theorem d_ceiling_at {CC : Nat → Addr} {P : Program} {w : World} {K : PySem.W.Frag} {mg : Str → Option Value} {base : Heap} {f : Addr} {fd : FuncData} (T : Txt mg) (F : Fun K "ceiling_at" "ceiling_at" s_ceiling_at f fd) (hm : mg "ceiling_at" = some (.ref f)) (hb : Binds K fd ["sides", "row", "column"] []) : FnD CC P w K mg base 1 "ceiling_at" ["sides", "row", "column"] f_ceiling_at :=
  fn_sd (N := N_ceiling_at) F sc_ceiling_at hm hb (by decide) fun cdv A outer s H E hr =>
    (sd_one (sd_ret (r_min T hr rfl rfl (ad_cons (r_add (ed_var 1 rfl (by first | exact .inl rfl | exact .inr (.inl rfl) | exact .inr (.inr rfl))) (ed_var 2 rfl (by first | exact .inl rfl | exact .inr (.inl rfl) | exact .inr (.inr rfl)))) (ad_cons (r_sub (r_sub (r_mul ed_int (ed_var 0 rfl (by first | exact .inl rfl | exact .inr (.inl rfl) | exact .inr (.inr rfl)))) (ed_var 1 rfl (by first | exact .inl rfl | exact .inr (.inl rfl) | exact .inr (.inr rfl)))) (ed_var 2 rfl (by first | exact .inl rfl | exact .inr (.inl rfl) | exact .inr (.inr rfl)))) ad_nil)))))
abbrev s_lifted : Stmt := topS 29
abbrev N_lifted : List Str := ["bound", "row", "column", "height"]
theorem sc_lifted : FnScope N_lifted ["bound"] (defScope s_lifted) := ⟨rfl, rfl, rfl, by decide +kernel, rfl, by decide +kernel, by decide +kernel⟩
theorem nd_lifted : N_lifted.Nodup := sc_lifted.nd
theorem d_lifted {CC : Nat → Addr} {P : Program} {w : World} {K : PySem.W.Frag} {mg : Str → Option Value} {base : Heap} {f : Addr} {fd : FuncData} (T : Txt mg) (G_floor_at : FnD CC P w K mg base 1 "floor_at" ["row", "column"] f_floor_at) (F : Fun K "lifted" "lifted" s_lifted f fd) (hm : mg "lifted" = some (.ref f)) (hb : Binds K fd ["bound"] []) : FnD CC P w K mg base 2 "lifted" ["bound"] f_lifted :=
  fn_sd (N := N_lifted) F sc_lifted hm hb (by decide) fun cdv A outer s H E hr =>
    (sd_cons (sd_bind (ed_var 0 rfl (by first | exact .inl rfl | exact .inr (.inl rfl) | exact .inr (.inr rfl))) (bd_tup rfl (bds_cons (bd_name 1 nd_lifted rfl (by first | exact .inl rfl | exact .inr rfl)) (bds_cons (bd_name 2 nd_lifted rfl (by first | exact .inl rfl | exact .inr rfl)) (bds_cons (bd_name 3 nd_lifted rfl (by first | exact .inl rfl | exact .inr rfl)) bds_nil))))) (sd_one (sd_ret (r_max T hr rfl rfl (ad_cons (ed_call (ps := ["row", "column"]) G_floor_at (hr.mono (by decide)) rfl (ad_cons (ed_var 1 rfl (by first | exact .inl rfl | exact .inr (.inl rfl) | exact .inr (.inr rfl))) (ad_cons (ed_var 2 rfl (by first | exact .inl rfl | exact .inr (.inl rfl) | exact .inr (.inr rfl))) ad_nil))) (ad_cons (r_add (ed_var 3 rfl (by first | exact .inl rfl | exact .inr (.inl rfl) | exact .inr (.inr rfl))) (r_mod (r_add (r_add (ed_var 1 rfl (by first | exact .inl rfl | exact .inr (.inl rfl) | exact .inr (.inr rfl))) (ed_var 2 rfl (by first | exact .inl rfl | exact .inr (.inl rfl) | exact .inr (.inr rfl)))) (ed_var 3 rfl (by first | exact .inl rfl | exact .inr (.inl rfl) | exact .inr (.inr rfl)))) ed_int)) ad_nil))))))
abbrev s_pressed : Stmt := topS 30
abbrev N_pressed : List Str := ["sides", "bound", "row", "column", "height"]
theorem sc_pressed : FnScope N_pressed ["sides", "bound"] (defScope s_pressed) := ⟨rfl, rfl, rfl, by decide +kernel, rfl, by decide +kernel, by decide +kernel⟩
theorem nd_pressed : N_pressed.Nodup := sc_pressed.nd
theorem d_pressed {CC : Nat → Addr} {P : Program} {w : World} {K : PySem.W.Frag} {mg : Str → Option Value} {base : Heap} {f : Addr} {fd : FuncData} (T : Txt mg) (G_ceiling_at : FnD CC P w K mg base 1 "ceiling_at" ["sides", "row", "column"] f_ceiling_at) (F : Fun K "pressed" "pressed" s_pressed f fd) (hm : mg "pressed" = some (.ref f)) (hb : Binds K fd ["sides", "bound"] []) : FnD CC P w K mg base 2 "pressed" ["sides", "bound"] f_pressed :=
  fn_sd (N := N_pressed) F sc_pressed hm hb (by decide) fun cdv A outer s H E hr =>
    (sd_cons (sd_bind (ed_var 1 rfl (by first | exact .inl rfl | exact .inr (.inl rfl) | exact .inr (.inr rfl))) (bd_tup rfl (bds_cons (bd_name 2 nd_pressed rfl (by first | exact .inl rfl | exact .inr rfl)) (bds_cons (bd_name 3 nd_pressed rfl (by first | exact .inl rfl | exact .inr rfl)) (bds_cons (bd_name 4 nd_pressed rfl (by first | exact .inl rfl | exact .inr rfl)) bds_nil))))) (sd_one (sd_ret (r_min T hr rfl rfl (ad_cons (ed_call (ps := ["sides", "row", "column"]) G_ceiling_at (hr.mono (by decide)) rfl (ad_cons (ed_var 0 rfl (by first | exact .inl rfl | exact .inr (.inl rfl) | exact .inr (.inr rfl))) (ad_cons (ed_var 2 rfl (by first | exact .inl rfl | exact .inr (.inl rfl) | exact .inr (.inr rfl))) (ad_cons (ed_var 3 rfl (by first | exact .inl rfl | exact .inr (.inl rfl) | exact .inr (.inr rfl))) ad_nil)))) (ad_cons (r_sub (ed_var 4 rfl (by first | exact .inl rfl | exact .inr (.inl rfl) | exact .inr (.inr rfl))) (r_mod (r_add (r_add (ed_var 2 rfl (by first | exact .inl rfl | exact .inr (.inl rfl) | exact .inr (.inr rfl))) (ed_var 3 rfl (by first | exact .inl rfl | exact .inr (.inl rfl) | exact .inr (.inr rfl)))) (ed_var 4 rfl (by first | exact .inl rfl | exact .inr (.inl rfl) | exact .inr (.inr rfl)))) ed_int)) ad_nil))))))
abbrev s_bound_steps : Stmt := topS 31
abbrev N_bound_steps : List Str := ["bound", "row", "column"]
theorem sc_bound_steps : FnScope N_bound_steps ["bound", "row", "column"] (defScope s_bound_steps) := ⟨rfl, rfl, rfl, by decide +kernel, rfl, by decide +kernel, by decide +kernel⟩
theorem nd_bound_steps : N_bound_steps.Nodup := sc_bound_steps.nd
theorem d_bound_steps {CC : Nat → Addr} {P : Program} {w : World} {K : PySem.W.Frag} {mg : Str → Option Value} {base : Heap} {f : Addr} {fd : FuncData} (T : Txt mg) (F : Fun K "bound_steps" "bound_steps" s_bound_steps f fd) (hm : mg "bound_steps" = some (.ref f)) (hb : Binds K fd ["bound", "row", "column"] []) : FnD CC P w K mg base 1 "bound_steps" ["bound", "row", "column"] f_bound_steps :=
  fn_sd (N := N_bound_steps) F sc_bound_steps hm hb (by decide) fun cdv A outer s H E hr =>
    (sd_one (sd_ret (r_add (r_abs T rfl (ad_cons (r_sub (ed_ix (ed_var 0 rfl (by first | exact .inl rfl | exact .inr (.inl rfl) | exact .inr (.inr rfl))) ed_int) (ed_var 1 rfl (by first | exact .inl rfl | exact .inr (.inl rfl) | exact .inr (.inr rfl)))) ad_nil)) (r_abs T rfl (ad_cons (r_sub (ed_ix (ed_var 0 rfl (by first | exact .inl rfl | exact .inr (.inl rfl) | exact .inr (.inr rfl))) ed_int) (ed_var 2 rfl (by first | exact .inl rfl | exact .inr (.inl rfl) | exact .inr (.inr rfl)))) ad_nil)))))
abbrev s_low_table : Stmt := topS 32
abbrev N_low_table : List Str := ["sides", "bounds", "found", "row", "line", "column", "some", "bound"]
theorem sc_low_table : FnScope N_low_table ["sides", "bounds"] (defScope s_low_table) := ⟨rfl, rfl, rfl, by decide +kernel, rfl, by decide +kernel, by decide +kernel⟩
theorem nd_low_table : N_low_table.Nodup := sc_low_table.nd
theorem d_low_table {CC : Nat → Addr} {P : Program} {w : World} {K : PySem.W.Frag} {mg : Str → Option Value} {base : Heap} {f : Addr} {fd : FuncData} (T : Txt mg) (G_floor_at : FnD CC P w K mg base 1 "floor_at" ["row", "column"] f_floor_at) (G_lifted : FnD CC P w K mg base 2 "lifted" ["bound"] f_lifted) (G_bound_steps : FnD CC P w K mg base 1 "bound_steps" ["bound", "row", "column"] f_bound_steps) (F : Fun K "low_table" "low_table" s_low_table f fd) (hm : mg "low_table" = some (.ref f)) (hb : Binds K fd ["sides", "bounds"] []) : FnD CC P w K mg base 3 "low_table" ["sides", "bounds"] f_low_table :=
  fn_sd (N := N_low_table) F sc_low_table hm hb (by decide) fun cdv A outer s H E hr =>
    (sd_cons (sd_set 2 nd_low_table rfl (by first | exact .inl rfl | exact .inr rfl) (xd_dat (ed_tup ad_nil))) (sd_cons (sd_for (passes_of rfl) rfl (id_rng rfl T.range (r_add (ed_var 0 rfl (by first | exact .inl rfl | exact .inr (.inl rfl) | exact .inr (.inr rfl))) ed_int)) (bd_name 3 nd_low_table rfl (by first | exact .inl rfl | exact .inr rfl)) (sd_cons (sd_set 4 nd_low_table rfl (by first | exact .inl rfl | exact .inr rfl) (xd_dat (ed_tup ad_nil))) (sd_cons (sd_for (passes_of rfl) rfl (id_rng rfl T.range (r_add (ed_var 0 rfl (by first | exact .inl rfl | exact .inr (.inl rfl) | exact .inr (.inr rfl))) ed_int)) (bd_name 5 nd_low_table rfl (by first | exact .inl rfl | exact .inr rfl)) (sd_cons (sd_setLc (own := [("bound", 7)]) rfl nd_low_table rfl rfl (sw_true rfl rfl rfl (by decide +kernel)) (id_tup (ed_var 1 rfl (by first | exact .inl rfl | exact .inr (.inl rfl) | exact .inr (.inr rfl)))) (CompD.mk (own := [("bound", 7)]) (blkOk_by (own := [("bound", 7)]) (N := N_low_table) (sc := (defScope s_low_table)) (by decide +kernel)) (fun _ _ _ _ _ => (bd_name 7 nd_low_table rfl (by first | exact .inl rfl | exact .inr rfl))) (fun _ _ _ _ _ => pts_yes) (fun _ _ _ _ _ => (r_sub (ed_call (ps := ["bound"]) G_lifted (hr.mono (by decide)) rfl (ad_cons (ed_var 7 rfl (by first | exact .inl rfl | exact .inr (.inl rfl) | exact .inr (.inr rfl))) ad_nil)) (ed_call (ps := ["bound", "row", "column"]) G_bound_steps (hr.mono (by decide)) rfl (ad_cons (ed_var 7 rfl (by first | exact .inl rfl | exact .inr (.inl rfl) | exact .inr (.inr rfl))) (ad_cons (ed_var 3 rfl (by first | exact .inl rfl | exact .inr (.inl rfl) | exact .inr (.inr rfl))) (ad_cons (ed_var 5 rfl (by first | exact .inl rfl | exact .inr (.inl rfl) | exact .inr (.inr rfl))) ad_nil)))))) (by decide))) (sd_one (sd_set 4 nd_low_table rfl (by first | exact .inl rfl | exact .inr rfl) (xd_dat (r_add (ed_var 4 rfl (by first | exact .inl rfl | exact .inr (.inl rfl) | exact .inr (.inr rfl))) (ed_tup (ad_cons (r_max T hr rfl rfl (ad_cons (r_add (ed_lst (ad_cons (ed_call (ps := ["row", "column"]) G_floor_at (hr.mono (by decide)) rfl (ad_cons (ed_var 3 rfl (by first | exact .inl rfl | exact .inr (.inl rfl) | exact .inr (.inr rfl))) (ad_cons (ed_var 5 rfl (by first | exact .inl rfl | exact .inr (.inl rfl) | exact .inr (.inr rfl))) ad_nil))) ad_nil)) (ed_var 6 rfl (by first | exact .inl rfl | exact .inr (.inl rfl) | exact .inr (.inr rfl)))) ad_nil)) ad_nil)))))))) (sd_one (sd_set 2 nd_low_table rfl (by first | exact .inl rfl | exact .inr rfl) (xd_dat (r_add (ed_var 2 rfl (by first | exact .inl rfl | exact .inr (.inl rfl) | exact .inr (.inr rfl))) (ed_tup (ad_cons (ed_var 4 rfl (by first | exact .inl rfl | exact .inr (.inl rfl) | exact .inr (.inr rfl))) ad_nil))))))))) (sd_one (sd_ret (ed_var 2 rfl (by first | exact .inl rfl | exact .inr (.inl rfl) | exact .inr (.inr rfl)))))))
abbrev s_high_table : Stmt := topS 33
abbrev N_high_table : List Str := ["sides", "bounds", "found", "row", "line", "column", "some", "bound"]
theorem sc_high_table : FnScope N_high_table ["sides", "bounds"] (defScope s_high_table) := ⟨rfl, rfl, rfl, by decide +kernel, rfl, by decide +kernel, by decide +kernel⟩
theorem nd_high_table : N_high_table.Nodup := sc_high_table.nd
theorem d_high_table {CC : Nat → Addr} {P : Program} {w : World} {K : PySem.W.Frag} {mg : Str → Option Value} {base : Heap} {f : Addr} {fd : FuncData} (T : Txt mg) (G_ceiling_at : FnD CC P w K mg base 1 "ceiling_at" ["sides", "row", "column"] f_ceiling_at) (G_pressed : FnD CC P w K mg base 2 "pressed" ["sides", "bound"] f_pressed) (G_bound_steps : FnD CC P w K mg base 1 "bound_steps" ["bound", "row", "column"] f_bound_steps) (F : Fun K "high_table" "high_table" s_high_table f fd) (hm : mg "high_table" = some (.ref f)) (hb : Binds K fd ["sides", "bounds"] []) : FnD CC P w K mg base 3 "high_table" ["sides", "bounds"] f_high_table :=
  fn_sd (N := N_high_table) F sc_high_table hm hb (by decide) fun cdv A outer s H E hr =>
    (sd_cons (sd_set 2 nd_high_table rfl (by first | exact .inl rfl | exact .inr rfl) (xd_dat (ed_tup ad_nil))) (sd_cons (sd_for (passes_of rfl) rfl (id_rng rfl T.range (r_add (ed_var 0 rfl (by first | exact .inl rfl | exact .inr (.inl rfl) | exact .inr (.inr rfl))) ed_int)) (bd_name 3 nd_high_table rfl (by first | exact .inl rfl | exact .inr rfl)) (sd_cons (sd_set 4 nd_high_table rfl (by first | exact .inl rfl | exact .inr rfl) (xd_dat (ed_tup ad_nil))) (sd_cons (sd_for (passes_of rfl) rfl (id_rng rfl T.range (r_add (ed_var 0 rfl (by first | exact .inl rfl | exact .inr (.inl rfl) | exact .inr (.inr rfl))) ed_int)) (bd_name 5 nd_high_table rfl (by first | exact .inl rfl | exact .inr rfl)) (sd_cons (sd_setLc (own := [("bound", 7)]) rfl nd_high_table rfl rfl (sw_true rfl rfl rfl (by decide +kernel)) (id_tup (ed_var 1 rfl (by first | exact .inl rfl | exact .inr (.inl rfl) | exact .inr (.inr rfl)))) (CompD.mk (own := [("bound", 7)]) (blkOk_by (own := [("bound", 7)]) (N := N_high_table) (sc := (defScope s_high_table)) (by decide +kernel)) (fun _ _ _ _ _ => (bd_name 7 nd_high_table rfl (by first | exact .inl rfl | exact .inr rfl))) (fun _ _ _ _ _ => pts_yes) (fun _ _ _ _ _ => (r_add (ed_call (ps := ["sides", "bound"]) G_pressed (hr.mono (by decide)) rfl (ad_cons (ed_var 0 rfl (by first | exact .inl rfl | exact .inr (.inl rfl) | exact .inr (.inr rfl))) (ad_cons (ed_var 7 rfl (by first | exact .inl rfl | exact .inr (.inl rfl) | exact .inr (.inr rfl))) ad_nil))) (ed_call (ps := ["bound", "row", "column"]) G_bound_steps (hr.mono (by decide)) rfl (ad_cons (ed_var 7 rfl (by first | exact .inl rfl | exact .inr (.inl rfl) | exact .inr (.inr rfl))) (ad_cons (ed_var 3 rfl (by first | exact .inl rfl | exact .inr (.inl rfl) | exact .inr (.inr rfl))) (ad_cons (ed_var 5 rfl (by first | exact .inl rfl | exact .inr (.inl rfl) | exact .inr (.inr rfl))) ad_nil)))))) (by decide))) (sd_one (sd_set 4 nd_high_table rfl (by first | exact .inl rfl | exact .inr rfl) (xd_dat (r_add (ed_var 4 rfl (by first | exact .inl rfl | exact .inr (.inl rfl) | exact .inr (.inr rfl))) (ed_tup (ad_cons (r_min T hr rfl rfl (ad_cons (r_add (ed_lst (ad_cons (ed_call (ps := ["sides", "row", "column"]) G_ceiling_at (hr.mono (by decide)) rfl (ad_cons (ed_var 0 rfl (by first | exact .inl rfl | exact .inr (.inl rfl) | exact .inr (.inr rfl))) (ad_cons (ed_var 3 rfl (by first | exact .inl rfl | exact .inr (.inl rfl) | exact .inr (.inr rfl))) (ad_cons (ed_var 5 rfl (by first | exact .inl rfl | exact .inr (.inl rfl) | exact .inr (.inr rfl))) ad_nil)))) ad_nil)) (ed_var 6 rfl (by first | exact .inl rfl | exact .inr (.inl rfl) | exact .inr (.inr rfl)))) ad_nil)) ad_nil)))))))) (sd_one (sd_set 2 nd_high_table rfl (by first | exact .inl rfl | exact .inr rfl) (xd_dat (r_add (ed_var 2 rfl (by first | exact .inl rfl | exact .inr (.inl rfl) | exact .inr (.inr rfl))) (ed_tup (ad_cons (ed_var 4 rfl (by first | exact .inl rfl | exact .inr (.inl rfl) | exact .inr (.inr rfl))) ad_nil))))))))) (sd_one (sd_ret (ed_var 2 rfl (by first | exact .inl rfl | exact .inr (.inl rfl) | exact .inr (.inr rfl)))))))
abbrev s_too_high : Stmt := topS 34
abbrev N_too_high : List Str := ["sides", "bound"]
theorem sc_too_high : FnScope N_too_high ["sides", "bound"] (defScope s_too_high) := ⟨rfl, rfl, rfl, by decide +kernel, rfl, by decide +kernel, by decide +kernel⟩
theorem nd_too_high : N_too_high.Nodup := sc_too_high.nd
theorem d_too_high {CC : Nat → Addr} {P : Program} {w : World} {K : PySem.W.Frag} {mg : Str → Option Value} {base : Heap} {f : Addr} {fd : FuncData} (T : Txt mg) (G_lifted : FnD CC P w K mg base 2 "lifted" ["bound"] f_lifted) (G_ceiling_at : FnD CC P w K mg base 1 "ceiling_at" ["sides", "row", "column"] f_ceiling_at) (F : Fun K "too_high" "too_high" s_too_high f fd) (hm : mg "too_high" = some (.ref f)) (hb : Binds K fd ["sides", "bound"] []) : FnD CC P w K mg base 3 "too_high" ["sides", "bound"] f_too_high :=
  fn_sd (N := N_too_high) F sc_too_high hm hb (by decide) fun cdv A outer s H E hr =>
    (sd_one (sd_ret (e_gt (ed_call (ps := ["bound"]) G_lifted (hr.mono (by decide)) rfl (ad_cons (ed_var 1 rfl (by first | exact .inl rfl | exact .inr (.inl rfl) | exact .inr (.inr rfl))) ad_nil)) (ed_call (ps := ["sides", "row", "column"]) G_ceiling_at (hr.mono (by decide)) rfl (ad_cons (ed_var 0 rfl (by first | exact .inl rfl | exact .inr (.inl rfl) | exact .inr (.inr rfl))) (ad_cons (ed_ix (ed_var 1 rfl (by first | exact .inl rfl | exact .inr (.inl rfl) | exact .inr (.inr rfl))) ed_int) (ad_cons (ed_ix (ed_var 1 rfl (by first | exact .inl rfl | exact .inr (.inl rfl) | exact .inr (.inr rfl))) ed_int) ad_nil)))))))
abbrev s_too_low : Stmt := topS 35
abbrev N_too_low : List Str := ["sides", "bound"]
theorem sc_too_low : FnScope N_too_low ["sides", "bound"] (defScope s_too_low) := ⟨rfl, rfl, rfl, by decide +kernel, rfl, by decide +kernel, by decide +kernel⟩
theorem nd_too_low : N_too_low.Nodup := sc_too_low.nd
theorem d_too_low {CC : Nat → Addr} {P : Program} {w : World} {K : PySem.W.Frag} {mg : Str → Option Value} {base : Heap} {f : Addr} {fd : FuncData} (T : Txt mg) (G_pressed : FnD CC P w K mg base 2 "pressed" ["sides", "bound"] f_pressed) (G_floor_at : FnD CC P w K mg base 1 "floor_at" ["row", "column"] f_floor_at) (F : Fun K "too_low" "too_low" s_too_low f fd) (hm : mg "too_low" = some (.ref f)) (hb : Binds K fd ["sides", "bound"] []) : FnD CC P w K mg base 3 "too_low" ["sides", "bound"] f_too_low :=
  fn_sd (N := N_too_low) F sc_too_low hm hb (by decide) fun cdv A outer s H E hr =>
    (sd_one (sd_ret (e_lt (ed_call (ps := ["sides", "bound"]) G_pressed (hr.mono (by decide)) rfl (ad_cons (ed_var 0 rfl (by first | exact .inl rfl | exact .inr (.inl rfl) | exact .inr (.inr rfl))) (ad_cons (ed_var 1 rfl (by first | exact .inl rfl | exact .inr (.inl rfl) | exact .inr (.inr rfl))) ad_nil))) (ed_call (ps := ["row", "column"]) G_floor_at (hr.mono (by decide)) rfl (ad_cons (ed_ix (ed_var 1 rfl (by first | exact .inl rfl | exact .inr (.inl rfl) | exact .inr (.inr rfl))) ed_int) (ad_cons (ed_ix (ed_var 1 rfl (by first | exact .inl rfl | exact .inr (.inl rfl) | exact .inr (.inr rfl))) ed_int) ad_nil))))))
end K6

end
-- text Der4
section
set_option Elab.async false
set_option linter.all false
set_option autoImplicit false
set_option maxRecDepth 100000
set_option maxHeartbeats 4000000

/-! Printed by gen.py: derivations. -/
namespace K6
open PySem PySem.Spec PyProof.Rows L2
abbrev s_clash_of : Stmt := topS 36
abbrev N_clash_of : List Str := ["sides", "lows", "highs", "at", "bound", "low", "spot", "high"]
theorem sc_clash_of : FnScope N_clash_of ["sides", "lows", "highs"] (defScope s_clash_of) := ⟨rfl, rfl, rfl, by decide +kernel, rfl, by decide +kernel, by decide +kernel⟩
theorem nd_clash_of : N_clash_of.Nodup := sc_clash_of.nd
theorem d_clash_of {CC : Nat → Addr} {P : Program} {w : World} {K : PySem.W.Frag} {mg : Str → Option Value} {base : Heap} {f : Addr} {fd : FuncData} (T : Txt mg) (G_lifted : FnD CC P w K mg base 2 "lifted" ["bound"] f_lifted) (G_bound_steps : FnD CC P w K mg base 1 "bound_steps" ["bound", "row", "column"] f_bound_steps) (G_pressed : FnD CC P w K mg base 2 "pressed" ["sides", "bound"] f_pressed) (G_too_low : FnD CC P w K mg base 3 "too_low" ["sides", "bound"] f_too_low) (G_too_high : FnD CC P w K mg base 3 "too_high" ["sides", "bound"] f_too_high) (F : Fun K "clash_of" "clash_of" s_clash_of f fd) (hm : mg "clash_of" = some (.ref f)) (hb : Binds K fd ["sides", "lows", "highs"] []) : FnD CC P w K mg base 4 "clash_of" ["sides", "lows", "highs"] f_clash_of :=
  fn_sd (N := N_clash_of) F sc_clash_of hm hb (by decide) fun cdv A outer s H E hr =>
    (sd_cons (sd_for (passes_of rfl) rfl (id_enuT rfl T.enumerate (ed_var 1 rfl (by first | exact .inl rfl | exact .inr (.inl rfl) | exact .inr (.inr rfl)))) (bd_tup rfl (bds_cons (bd_name 3 nd_clash_of rfl (by first | exact .inl rfl | exact .inr rfl)) (bds_cons (bd_name 4 nd_clash_of rfl (by first | exact .inl rfl | exact .inr rfl)) bds_nil))) (sd_one (sd_if (td_val (ed_call (ps := ["sides", "bound"]) G_too_high (hr.mono (by decide)) rfl (ad_cons (ed_var 0 rfl (by first | exact .inl rfl | exact .inr (.inl rfl) | exact .inr (.inr rfl))) (ad_cons (ed_var 4 rfl (by first | exact .inl rfl | exact .inr (.inl rfl) | exact .inr (.inr rfl))) ad_nil)))) (sd_one (sd_ret (ed_tup (ad_cons (ed_var 3 rfl (by first | exact .inl rfl | exact .inr (.inl rfl) | exact .inr (.inr rfl))) (ad_cons ed_non ad_nil))))) sd_nil))) (sd_cons (sd_for (passes_of rfl) rfl (id_enuT rfl T.enumerate (ed_var 2 rfl (by first | exact .inl rfl | exact .inr (.inl rfl) | exact .inr (.inr rfl)))) (bd_tup rfl (bds_cons (bd_name 3 nd_clash_of rfl (by first | exact .inl rfl | exact .inr rfl)) (bds_cons (bd_name 4 nd_clash_of rfl (by first | exact .inl rfl | exact .inr rfl)) bds_nil))) (sd_one (sd_if (td_val (ed_call (ps := ["sides", "bound"]) G_too_low (hr.mono (by decide)) rfl (ad_cons (ed_var 0 rfl (by first | exact .inl rfl | exact .inr (.inl rfl) | exact .inr (.inr rfl))) (ad_cons (ed_var 4 rfl (by first | exact .inl rfl | exact .inr (.inl rfl) | exact .inr (.inr rfl))) ad_nil)))) (sd_one (sd_ret (ed_tup (ad_cons ed_non (ad_cons (ed_var 3 rfl (by first | exact .inl rfl | exact .inr (.inl rfl) | exact .inr (.inr rfl))) ad_nil))))) sd_nil))) (sd_cons (sd_for (passes_of rfl) rfl (id_enuT rfl T.enumerate (ed_var 1 rfl (by first | exact .inl rfl | exact .inr (.inl rfl) | exact .inr (.inr rfl)))) (bd_tup rfl (bds_cons (bd_name 3 nd_clash_of rfl (by first | exact .inl rfl | exact .inr rfl)) (bds_cons (bd_name 5 nd_clash_of rfl (by first | exact .inl rfl | exact .inr rfl)) bds_nil))) (sd_one (sd_for (passes_of rfl) rfl (id_enuT rfl T.enumerate (ed_var 2 rfl (by first | exact .inl rfl | exact .inr (.inl rfl) | exact .inr (.inr rfl)))) (bd_tup rfl (bds_cons (bd_name 6 nd_clash_of rfl (by first | exact .inl rfl | exact .inr rfl)) (bds_cons (bd_name 7 nd_clash_of rfl (by first | exact .inl rfl | exact .inr rfl)) bds_nil))) (sd_one (sd_if (t_gt (r_sub (ed_call (ps := ["bound"]) G_lifted (hr.mono (by decide)) rfl (ad_cons (ed_var 5 rfl (by first | exact .inl rfl | exact .inr (.inl rfl) | exact .inr (.inr rfl))) ad_nil)) (ed_call (ps := ["bound", "row", "column"]) G_bound_steps (hr.mono (by decide)) rfl (ad_cons (ed_var 5 rfl (by first | exact .inl rfl | exact .inr (.inl rfl) | exact .inr (.inr rfl))) (ad_cons (ed_ix (ed_var 7 rfl (by first | exact .inl rfl | exact .inr (.inl rfl) | exact .inr (.inr rfl))) ed_int) (ad_cons (ed_ix (ed_var 7 rfl (by first | exact .inl rfl | exact .inr (.inl rfl) | exact .inr (.inr rfl))) ed_int) ad_nil))))) (ed_call (ps := ["sides", "bound"]) G_pressed (hr.mono (by decide)) rfl (ad_cons (ed_var 0 rfl (by first | exact .inl rfl | exact .inr (.inl rfl) | exact .inr (.inr rfl))) (ad_cons (ed_var 7 rfl (by first | exact .inl rfl | exact .inr (.inl rfl) | exact .inr (.inr rfl))) ad_nil)))) (sd_one (sd_ret (ed_tup (ad_cons (ed_var 3 rfl (by first | exact .inl rfl | exact .inr (.inl rfl) | exact .inr (.inr rfl))) (ad_cons (ed_var 6 rfl (by first | exact .inl rfl | exact .inr (.inl rfl) | exact .inr (.inr rfl))) ad_nil))))) sd_nil))))) (sd_one (sd_ret ed_non)))))
abbrev s_need_both_bounds : Stmt := topS 37
abbrev N_need_both_bounds : List Str := ["sides", "lows", "highs"]
theorem sc_need_both_bounds : FnScope N_need_both_bounds ["sides", "lows", "highs"] (defScope s_need_both_bounds) := ⟨rfl, rfl, rfl, by decide +kernel, rfl, by decide +kernel, by decide +kernel⟩
theorem nd_need_both_bounds : N_need_both_bounds.Nodup := sc_need_both_bounds.nd
theorem d_need_both_bounds {CC : Nat → Addr} {P : Program} {w : World} {K : PySem.W.Frag} {mg : Str → Option Value} {base : Heap} {f : Addr} {fd : FuncData} (T : Txt mg) (G_need_bounds : FnD CC P w K mg base 3 "need_bounds" ["sides", "value"] f_need_bounds) (G_need_sides : FnD CC P w K mg base 2 "need_sides" ["value"] f_need_sides) (F : Fun K "need_both_bounds" "need_both_bounds" s_need_both_bounds f fd) (hm : mg "need_both_bounds" = some (.ref f)) (hb : Binds K fd ["sides", "lows", "highs"] []) : FnD CC P w K mg base 4 "need_both_bounds" ["sides", "lows", "highs"] f_need_both_bounds :=
  fn_sd (N := N_need_both_bounds) F sc_need_both_bounds hm hb (by decide) fun cdv A outer s H E hr =>
    (sd_cons (sd_call (ps := ["value"]) G_need_sides (hr.mono (by decide)) rfl (L2N.takes_of rfl rfl rfl rfl) (ad_cons (ed_var 0 rfl (by first | exact .inl rfl | exact .inr (.inl rfl) | exact .inr (.inr rfl))) ad_nil)) (sd_cons (sd_call (ps := ["sides", "value"]) G_need_bounds (hr.mono (by decide)) rfl (L2N.takes_of rfl rfl rfl rfl) (ad_cons (ed_var 0 rfl (by first | exact .inl rfl | exact .inr (.inl rfl) | exact .inr (.inr rfl))) (ad_cons (ed_var 1 rfl (by first | exact .inl rfl | exact .inr (.inl rfl) | exact .inr (.inr rfl))) ad_nil))) (sd_one (sd_call (ps := ["sides", "value"]) G_need_bounds (hr.mono (by decide)) rfl (L2N.takes_of rfl rfl rfl rfl) (ad_cons (ed_var 0 rfl (by first | exact .inl rfl | exact .inr (.inl rfl) | exact .inr (.inr rfl))) (ad_cons (ed_var 2 rfl (by first | exact .inl rfl | exact .inr (.inl rfl) | exact .inr (.inr rfl))) ad_nil))))))
abbrev s_least_above : Stmt := topS 38
abbrev N_least_above : List Str := ["sides", "bounds", "bound"]
theorem sc_least_above : FnScope N_least_above ["sides", "bounds"] (defScope s_least_above) := ⟨rfl, rfl, rfl, by decide +kernel, rfl, by decide +kernel, by decide +kernel⟩
theorem nd_least_above : N_least_above.Nodup := sc_least_above.nd
theorem d_least_above {CC : Nat → Addr} {P : Program} {w : World} {K : PySem.W.Frag} {mg : Str → Option Value} {base : Heap} {f : Addr} {fd : FuncData} (T : Txt mg) (G_square_from : FnD CC P w K mg base 1 "square_from" ["table"] f_square_from) (G_low_table : FnD CC P w K mg base 3 "low_table" ["sides", "bounds"] f_low_table) (G_too_high : FnD CC P w K mg base 3 "too_high" ["sides", "bound"] f_too_high) (G_need_bounds : FnD CC P w K mg base 3 "need_bounds" ["sides", "value"] f_need_bounds) (G_need_sides : FnD CC P w K mg base 2 "need_sides" ["value"] f_need_sides) (F : Fun K "least_above" "least_above" s_least_above f fd) (hm : mg "least_above" = some (.ref f)) (hb : Binds K fd ["sides", "bounds"] []) : FnD CC P w K mg base 4 "least_above" ["sides", "bounds"] f_least_above :=
  fn_sd (N := N_least_above) F sc_least_above hm hb (by decide) fun cdv A outer s H E hr =>
    (sd_cons (sd_call (ps := ["value"]) G_need_sides (hr.mono (by decide)) rfl (L2N.takes_of rfl rfl rfl rfl) (ad_cons (ed_var 0 rfl (by first | exact .inl rfl | exact .inr (.inl rfl) | exact .inr (.inr rfl))) ad_nil)) (sd_cons (sd_call (ps := ["sides", "value"]) G_need_bounds (hr.mono (by decide)) rfl (L2N.takes_of rfl rfl rfl rfl) (ad_cons (ed_var 0 rfl (by first | exact .inl rfl | exact .inr (.inl rfl) | exact .inr (.inr rfl))) (ad_cons (ed_var 1 rfl (by first | exact .inl rfl | exact .inr (.inl rfl) | exact .inr (.inr rfl))) ad_nil))) (sd_cons (sd_if (td_val (r_any T rfl rfl (ad_cons (ed_lc (own := [("bound", 2)]) rfl nd_least_above (id_tup (ed_var 1 rfl (by first | exact .inl rfl | exact .inr (.inl rfl) | exact .inr (.inr rfl)))) (CompD.mk (own := [("bound", 2)]) (blkOk_by (own := [("bound", 2)]) (N := N_least_above) (sc := (defScope s_least_above)) (by decide +kernel)) (fun _ _ _ _ _ => (bd_name 2 nd_least_above rfl (by first | exact .inl rfl | exact .inr rfl))) (fun _ _ _ _ _ => pts_yes) (fun _ _ _ _ _ => (ed_call (ps := ["sides", "bound"]) G_too_high (hr.mono (by decide)) rfl (ad_cons (ed_var 0 rfl (by first | exact .inl rfl | exact .inr (.inl rfl) | exact .inr (.inr rfl))) (ad_cons (ed_var 2 rfl (by first | exact .inl rfl | exact .inr (.inl rfl) | exact .inr (.inr rfl))) ad_nil)))) (by decide))) ad_nil))) (sd_one (sd_ret ed_non)) sd_nil) (sd_one (sd_ret (ed_call (ps := ["table"]) G_square_from (hr.mono (by decide)) rfl (ad_cons (ed_call (ps := ["sides", "bounds"]) G_low_table (hr.mono (by decide)) rfl (ad_cons (ed_var 0 rfl (by first | exact .inl rfl | exact .inr (.inl rfl) | exact .inr (.inr rfl))) (ad_cons (ed_var 1 rfl (by first | exact .inl rfl | exact .inr (.inl rfl) | exact .inr (.inr rfl))) ad_nil))) ad_nil)))))))
abbrev s_greatest_under : Stmt := topS 39
abbrev N_greatest_under : List Str := ["sides", "bounds", "bound"]
theorem sc_greatest_under : FnScope N_greatest_under ["sides", "bounds"] (defScope s_greatest_under) := ⟨rfl, rfl, rfl, by decide +kernel, rfl, by decide +kernel, by decide +kernel⟩
theorem nd_greatest_under : N_greatest_under.Nodup := sc_greatest_under.nd
theorem d_greatest_under {CC : Nat → Addr} {P : Program} {w : World} {K : PySem.W.Frag} {mg : Str → Option Value} {base : Heap} {f : Addr} {fd : FuncData} (T : Txt mg) (G_square_from : FnD CC P w K mg base 1 "square_from" ["table"] f_square_from) (G_high_table : FnD CC P w K mg base 3 "high_table" ["sides", "bounds"] f_high_table) (G_too_low : FnD CC P w K mg base 3 "too_low" ["sides", "bound"] f_too_low) (G_need_bounds : FnD CC P w K mg base 3 "need_bounds" ["sides", "value"] f_need_bounds) (G_need_sides : FnD CC P w K mg base 2 "need_sides" ["value"] f_need_sides) (F : Fun K "greatest_under" "greatest_under" s_greatest_under f fd) (hm : mg "greatest_under" = some (.ref f)) (hb : Binds K fd ["sides", "bounds"] []) : FnD CC P w K mg base 4 "greatest_under" ["sides", "bounds"] f_greatest_under :=
  fn_sd (N := N_greatest_under) F sc_greatest_under hm hb (by decide) fun cdv A outer s H E hr =>
    (sd_cons (sd_call (ps := ["value"]) G_need_sides (hr.mono (by decide)) rfl (L2N.takes_of rfl rfl rfl rfl) (ad_cons (ed_var 0 rfl (by first | exact .inl rfl | exact .inr (.inl rfl) | exact .inr (.inr rfl))) ad_nil)) (sd_cons (sd_call (ps := ["sides", "value"]) G_need_bounds (hr.mono (by decide)) rfl (L2N.takes_of rfl rfl rfl rfl) (ad_cons (ed_var 0 rfl (by first | exact .inl rfl | exact .inr (.inl rfl) | exact .inr (.inr rfl))) (ad_cons (ed_var 1 rfl (by first | exact .inl rfl | exact .inr (.inl rfl) | exact .inr (.inr rfl))) ad_nil))) (sd_cons (sd_if (td_val (r_any T rfl rfl (ad_cons (ed_lc (own := [("bound", 2)]) rfl nd_greatest_under (id_tup (ed_var 1 rfl (by first | exact .inl rfl | exact .inr (.inl rfl) | exact .inr (.inr rfl)))) (CompD.mk (own := [("bound", 2)]) (blkOk_by (own := [("bound", 2)]) (N := N_greatest_under) (sc := (defScope s_greatest_under)) (by decide +kernel)) (fun _ _ _ _ _ => (bd_name 2 nd_greatest_under rfl (by first | exact .inl rfl | exact .inr rfl))) (fun _ _ _ _ _ => pts_yes) (fun _ _ _ _ _ => (ed_call (ps := ["sides", "bound"]) G_too_low (hr.mono (by decide)) rfl (ad_cons (ed_var 0 rfl (by first | exact .inl rfl | exact .inr (.inl rfl) | exact .inr (.inr rfl))) (ad_cons (ed_var 2 rfl (by first | exact .inl rfl | exact .inr (.inl rfl) | exact .inr (.inr rfl))) ad_nil)))) (by decide))) ad_nil))) (sd_one (sd_ret ed_non)) sd_nil) (sd_one (sd_ret (ed_call (ps := ["table"]) G_square_from (hr.mono (by decide)) rfl (ad_cons (ed_call (ps := ["sides", "bounds"]) G_high_table (hr.mono (by decide)) rfl (ad_cons (ed_var 0 rfl (by first | exact .inl rfl | exact .inr (.inl rfl) | exact .inr (.inr rfl))) (ad_cons (ed_var 1 rfl (by first | exact .inl rfl | exact .inr (.inl rfl) | exact .inr (.inr rfl))) ad_nil))) ad_nil)))))))
abbrev s_bounds_go : Stmt := topS 40
abbrev N_bounds_go : List Str := ["sides", "lows", "highs"]
theorem sc_bounds_go : FnScope N_bounds_go ["sides", "lows", "highs"] (defScope s_bounds_go) := ⟨rfl, rfl, rfl, by decide +kernel, rfl, by decide +kernel, by decide +kernel⟩
theorem nd_bounds_go : N_bounds_go.Nodup := sc_bounds_go.nd
theorem d_bounds_go {CC : Nat → Addr} {P : Program} {w : World} {K : PySem.W.Frag} {mg : Str → Option Value} {base : Heap} {f : Addr} {fd : FuncData} (T : Txt mg) (G_clash_of : FnD CC P w K mg base 4 "clash_of" ["sides", "lows", "highs"] f_clash_of) (G_need_both_bounds : FnD CC P w K mg base 4 "need_both_bounds" ["sides", "lows", "highs"] f_need_both_bounds) (F : Fun K "bounds_go" "bounds_go" s_bounds_go f fd) (hm : mg "bounds_go" = some (.ref f)) (hb : Binds K fd ["sides", "lows", "highs"] []) : FnD CC P w K mg base 5 "bounds_go" ["sides", "lows", "highs"] f_bounds_go :=
  fn_sd (N := N_bounds_go) F sc_bounds_go hm hb (by decide) fun cdv A outer s H E hr =>
    (sd_cons (sd_call (ps := ["sides", "lows", "highs"]) G_need_both_bounds (hr.mono (by decide)) rfl (L2N.takes_of rfl rfl rfl rfl) (ad_cons (ed_var 0 rfl (by first | exact .inl rfl | exact .inr (.inl rfl) | exact .inr (.inr rfl))) (ad_cons (ed_var 1 rfl (by first | exact .inl rfl | exact .inr (.inl rfl) | exact .inr (.inr rfl))) (ad_cons (ed_var 2 rfl (by first | exact .inl rfl | exact .inr (.inl rfl) | exact .inr (.inr rfl))) ad_nil)))) (sd_one (sd_ret (e_isN (ed_call (ps := ["sides", "lows", "highs"]) G_clash_of (hr.mono (by decide)) rfl (ad_cons (ed_var 0 rfl (by first | exact .inl rfl | exact .inr (.inl rfl) | exact .inr (.inr rfl))) (ad_cons (ed_var 1 rfl (by first | exact .inl rfl | exact .inr (.inl rfl) | exact .inr (.inr rfl))) (ad_cons (ed_var 2 rfl (by first | exact .inl rfl | exact .inr (.inl rfl) | exact .inr (.inr rfl))) ad_nil)))) ed_non))))
abbrev s_bounds_paper : Stmt := topS 41
abbrev N_bounds_paper : List Str := ["sides", "lows", "highs"]
theorem sc_bounds_paper : FnScope N_bounds_paper ["sides", "lows", "highs"] (defScope s_bounds_paper) := ⟨rfl, rfl, rfl, by decide +kernel, rfl, by decide +kernel, by decide +kernel⟩
theorem nd_bounds_paper : N_bounds_paper.Nodup := sc_bounds_paper.nd
theorem d_bounds_paper {CC : Nat → Addr} {P : Program} {w : World} {K : PySem.W.Frag} {mg : Str → Option Value} {base : Heap} {f : Addr} {fd : FuncData} (T : Txt mg) (G_clash_of : FnD CC P w K mg base 4 "clash_of" ["sides", "lows", "highs"] f_clash_of) (G_need_both_bounds : FnD CC P w K mg base 4 "need_both_bounds" ["sides", "lows", "highs"] f_need_both_bounds) (F : Fun K "bounds_paper" "bounds_paper" s_bounds_paper f fd) (hm : mg "bounds_paper" = some (.ref f)) (hb : Binds K fd ["sides", "lows", "highs"] []) : FnD CC P w K mg base 5 "bounds_paper" ["sides", "lows", "highs"] f_bounds_paper :=
  fn_sd (N := N_bounds_paper) F sc_bounds_paper hm hb (by decide) fun cdv A outer s H E hr =>
    (sd_cons (sd_call (ps := ["sides", "lows", "highs"]) G_need_both_bounds (hr.mono (by decide)) rfl (L2N.takes_of rfl rfl rfl rfl) (ad_cons (ed_var 0 rfl (by first | exact .inl rfl | exact .inr (.inl rfl) | exact .inr (.inr rfl))) (ad_cons (ed_var 1 rfl (by first | exact .inl rfl | exact .inr (.inl rfl) | exact .inr (.inr rfl))) (ad_cons (ed_var 2 rfl (by first | exact .inl rfl | exact .inr (.inl rfl) | exact .inr (.inr rfl))) ad_nil)))) (sd_one (sd_ret (ed_call (ps := ["sides", "lows", "highs"]) G_clash_of (hr.mono (by decide)) rfl (ad_cons (ed_var 0 rfl (by first | exact .inl rfl | exact .inr (.inl rfl) | exact .inr (.inr rfl))) (ad_cons (ed_var 1 rfl (by first | exact .inl rfl | exact .inr (.inl rfl) | exact .inr (.inr rfl))) (ad_cons (ed_var 2 rfl (by first | exact .inl rfl | exact .inr (.inl rfl) | exact .inr (.inr rfl))) ad_nil)))))))
end K6

end
-- text Der5
section
set_option Elab.async false
set_option linter.all false
set_option autoImplicit false
set_option maxRecDepth 100000
set_option maxHeartbeats 4000000

/-! Printed by gen.py: derivations. -/
namespace K6
open PySem PySem.Spec PyProof.Rows L2
abbrev s__law_lines : Stmt := topS 45
abbrev N__law_lines : List Str := ["_law_wide", "_law_found", "_law_turn", "_law_longer", "_law_line", "_law_total", "_law_sign"]
theorem sc__law_lines : FnScope N__law_lines ["_law_wide"] (defScope s__law_lines) := ⟨rfl, rfl, rfl, by decide +kernel, rfl, by decide +kernel, by decide +kernel⟩
theorem nd__law_lines : N__law_lines.Nodup := sc__law_lines.nd
theorem d__law_lines {CC : Nat → Addr} {P : Program} {w : World} {K : PySem.W.Frag} {mg : Str → Option Value} {base : Heap} {f : Addr} {fd : FuncData} (T : Txt mg) (F : Fun K "_law_lines" "_law_lines" s__law_lines f fd) (hm : mg "_law_lines" = some (.ref f)) (hb : Binds K fd ["_law_wide"] []) : FnD CC P w K mg base 1 "_law_lines" ["_law_wide"] f__law_lines :=
  fn_sd (N := N__law_lines) F sc__law_lines hm hb (by decide) fun cdv A outer s H E hr =>
    (sd_cons (sd_set 1 nd__law_lines rfl (by first | exact .inl rfl | exact .inr rfl) (xd_dat (ed_lst (ad_cons (ed_tup (ad_cons (ed_tup ad_nil) (ad_cons ed_int ad_nil))) ad_nil)))) (sd_cons (sd_for (passes_of rfl) rfl (id_rng rfl T.range (ed_var 0 rfl (by first | exact .inl rfl | exact .inr (.inl rfl) | exact .inr (.inr rfl)))) (bd_name 2 nd__law_lines rfl (by first | exact .inl rfl | exact .inr rfl)) (sd_cons (sd_set 3 nd__law_lines rfl (by first | exact .inl rfl | exact .inr rfl) (xd_dat (ed_lst ad_nil))) (sd_cons (sd_for (passes_of rfl) rfl (id_lst (ed_var 1 rfl (by first | exact .inl rfl | exact .inr (.inl rfl) | exact .inr (.inr rfl)))) (bd_tup rfl (bds_cons (bd_name 4 nd__law_lines rfl (by first | exact .inl rfl | exact .inr rfl)) (bds_cons (bd_name 5 nd__law_lines rfl (by first | exact .inl rfl | exact .inr rfl)) bds_nil))) (sd_one (sd_set 3 nd__law_lines rfl (by first | exact .inl rfl | exact .inr rfl) (xd_dat (r_add (ed_var 3 rfl (by first | exact .inl rfl | exact .inr (.inl rfl) | exact .inr (.inr rfl))) (ed_lc (own := [("_law_sign", 6)]) rfl nd__law_lines (id_tup (ed_tup (ad_cons (r_neg ed_int) (ad_cons ed_int (ad_cons ed_int ad_nil))))) (CompD.mk (own := [("_law_sign", 6)]) (blkOk_by (own := [("_law_sign", 6)]) (N := N__law_lines) (sc := (defScope s__law_lines)) (by decide +kernel)) (fun _ _ _ _ _ => (bd_name 6 nd__law_lines rfl (by first | exact .inl rfl | exact .inr rfl))) (fun _ _ _ _ _ => pts_d (t_ch_le_le ed_int (r_add (ed_var 5 rfl (by first | exact .inl rfl | exact .inr (.inl rfl) | exact .inr (.inr rfl))) (ed_var 6 rfl (by first | exact .inl rfl | exact .inr (.inl rfl) | exact .inr (.inr rfl)))) ed_int)) (fun _ _ _ _ _ => (ed_tup (ad_cons (r_add (ed_var 4 rfl (by first | exact .inl rfl | exact .inr (.inl rfl) | exact .inr (.inr rfl))) (ed_tup (ad_cons (ed_var 6 rfl (by first | exact .inl rfl | exact .inr (.inl rfl) | exact .inr (.inr rfl))) ad_nil))) (ad_cons (r_add (ed_var 5 rfl (by first | exact .inl rfl | exact .inr (.inl rfl) | exact .inr (.inr rfl))) (ed_var 6 rfl (by first | exact .inl rfl | exact .inr (.inl rfl) | exact .inr (.inr rfl)))) ad_nil)))) (by decide)))))))) (sd_one (sd_set 1 nd__law_lines rfl (by first | exact .inl rfl | exact .inr rfl) (xd_dat (ed_var 3 rfl (by first | exact .inl rfl | exact .inr (.inl rfl) | exact .inr (.inr rfl))))))))) (sd_one (sd_ret (ed_lc (own := [("_law_line", 4), ("_law_total", 5)]) rfl nd__law_lines (id_lst (ed_var 1 rfl (by first | exact .inl rfl | exact .inr (.inl rfl) | exact .inr (.inr rfl)))) (CompD.mk (own := [("_law_line", 4), ("_law_total", 5)]) (blkOk_by (own := [("_law_line", 4), ("_law_total", 5)]) (N := N__law_lines) (sc := (defScope s__law_lines)) (by decide +kernel)) (fun _ _ _ _ _ => (bd_tup rfl (bds_cons (bd_name 4 nd__law_lines rfl (by first | exact .inl rfl | exact .inr rfl)) (bds_cons (bd_name 5 nd__law_lines rfl (by first | exact .inl rfl | exact .inr rfl)) bds_nil)))) (fun _ _ _ _ _ => pts_d (t_eq hr (ed_var 5 rfl (by first | exact .inl rfl | exact .inr (.inl rfl) | exact .inr (.inr rfl))) ed_int)) (fun _ _ _ _ _ => (ed_var 4 rfl (by first | exact .inl rfl | exact .inr (.inl rfl) | exact .inr (.inr rfl)))) (by decide)))))))
abbrev s__law_all : Stmt := topS 46
abbrev N__law_all : List Str := ["_law_wide", "_law_found", "_law_turn", "_law_longer", "_law_rows_so", "_law_sums_so", "_law_line", "_law_later", "_law_one_so", "_law_sign"]
theorem sc__law_all : FnScope N__law_all ["_law_wide"] (defScope s__law_all) := ⟨rfl, rfl, rfl, by decide +kernel, rfl, by decide +kernel, by decide +kernel⟩
theorem nd__law_all : N__law_all.Nodup := sc__law_all.nd
theorem d__law_all {CC : Nat → Addr} {P : Program} {w : World} {K : PySem.W.Frag} {mg : Str → Option Value} {base : Heap} {f : Addr} {fd : FuncData} (T : Txt mg) (G__law_lines : FnD CC P w K mg base 1 "_law_lines" ["_law_wide"] f__law_lines) (F : Fun K "_law_all" "_law_all" s__law_all f fd) (hm : mg "_law_all" = some (.ref f)) (hb : Binds K fd ["_law_wide"] []) : FnD CC P w K mg base 2 "_law_all" ["_law_wide"] f__law_all :=
  fn_sd (N := N__law_all) F sc__law_all hm hb (by decide) fun cdv A outer s H E hr =>
    (sd_cons (sd_set 1 nd__law_all rfl (by first | exact .inl rfl | exact .inr rfl) (xd_dat (ed_lst (ad_cons (ed_tup (ad_cons (ed_tup ad_nil) (ad_cons (r_mul (ed_tup (ad_cons ed_int ad_nil)) (ed_var 0 rfl (by first | exact .inl rfl | exact .inr (.inl rfl) | exact .inr (.inr rfl)))) ad_nil))) ad_nil)))) (sd_cons (sd_for (passes_of rfl) rfl (id_rng rfl T.range (ed_var 0 rfl (by first | exact .inl rfl | exact .inr (.inl rfl) | exact .inr (.inr rfl)))) (bd_name 2 nd__law_all rfl (by first | exact .inl rfl | exact .inr rfl)) (sd_cons (sd_set 3 nd__law_all rfl (by first | exact .inl rfl | exact .inr rfl) (xd_own ad_nil)) (sd_cons (sd_for (passes_of rfl) rfl (id_lst (ed_var 1 rfl (by first | exact .inl rfl | exact .inr (.inl rfl) | exact .inr (.inr rfl)))) (bd_tup rfl (bds_cons (bd_name 4 nd__law_all rfl (by first | exact .inl rfl | exact .inr rfl)) (bds_cons (bd_name 5 nd__law_all rfl (by first | exact .inl rfl | exact .inr rfl)) bds_nil))) (sd_one (sd_for (passes_of rfl) rfl (id_lst (ed_call (ps := ["_law_wide"]) G__law_lines (hr.mono (by decide)) rfl (ad_cons (ed_var 0 rfl (by first | exact .inl rfl | exact .inr (.inl rfl) | exact .inr (.inr rfl))) ad_nil))) (bd_name 6 nd__law_all rfl (by first | exact .inl rfl | exact .inr rfl)) (sd_cons (sd_set 7 nd__law_all rfl (by first | exact .inl rfl | exact .inr rfl) (xd_dat (r_tuple T rfl (ad_cons (ed_lc (own := [("_law_one_so", 8), ("_law_sign", 9)]) rfl nd__law_all (id_zipT rfl T.zip (ed_var 5 rfl (by first | exact .inl rfl | exact .inr (.inl rfl) | exact .inr (.inr rfl))) (ed_var 6 rfl (by first | exact .inl rfl | exact .inr (.inl rfl) | exact .inr (.inr rfl)))) (CompD.mk (own := [("_law_one_so", 8), ("_law_sign", 9)]) (blkOk_by (own := [("_law_one_so", 8), ("_law_sign", 9)]) (N := N__law_all) (sc := (defScope s__law_all)) (by decide +kernel)) (fun _ _ _ _ _ => (bd_tup rfl (bds_cons (bd_name 8 nd__law_all rfl (by first | exact .inl rfl | exact .inr rfl)) (bds_cons (bd_name 9 nd__law_all rfl (by first | exact .inl rfl | exact .inr rfl)) bds_nil)))) (fun _ _ _ _ _ => pts_yes) (fun _ _ _ _ _ => (r_add (ed_var 8 rfl (by first | exact .inl rfl | exact .inr (.inl rfl) | exact .inr (.inr rfl))) (ed_var 9 rfl (by first | exact .inl rfl | exact .inr (.inl rfl) | exact .inr (.inr rfl))))) (by decide))) ad_nil)))) (sd_one (sd_if (WD.td (wd_and (t_ge (r_min T hr rfl rfl (ad_cons (ed_var 7 rfl (by first | exact .inl rfl | exact .inr (.inl rfl) | exact .inr (.inr rfl))) ad_nil)) ed_int) (wd_and1 (t_le (r_max T hr rfl rfl (ad_cons (ed_var 7 rfl (by first | exact .inl rfl | exact .inr (.inl rfl) | exact .inr (.inr rfl))) ad_nil)) ed_int)))) (sd_one (sd_app 3 rfl (by first | exact .inl rfl | exact .inr (.inl rfl) | exact .inr (.inr rfl)) (ed_tup (ad_cons (r_add (ed_var 4 rfl (by first | exact .inl rfl | exact .inr (.inl rfl) | exact .inr (.inr rfl))) (ed_tup (ad_cons (ed_var 6 rfl (by first | exact .inl rfl | exact .inr (.inl rfl) | exact .inr (.inr rfl))) ad_nil))) (ad_cons (ed_var 7 rfl (by first | exact .inl rfl | exact .inr (.inl rfl) | exact .inr (.inr rfl))) ad_nil))) (by decide) (by decide) rfl (pe_bm PySem.F.plainAttrs_list PySem.F.slot_list_append PySem.F.type_list_append mt_append (pe_var (i := 3) rfl (by first | exact .inl rfl | exact .inr (.inl rfl) | exact .inr (.inr rfl))) (pa_cons (ED.pe (ed_tup (ad_cons (r_add (ed_var 4 rfl (by first | exact .inl rfl | exact .inr (.inl rfl) | exact .inr (.inr rfl))) (ed_tup (ad_cons (ed_var 6 rfl (by first | exact .inl rfl | exact .inr (.inl rfl) | exact .inr (.inr rfl))) ad_nil))) (ad_cons (ed_var 7 rfl (by first | exact .inl rfl | exact .inr (.inl rfl) | exact .inr (.inr rfl))) ad_nil)))) pa_nil)))) sd_nil)))))) (sd_one (sd_move 1 3 nd__law_all rfl (by first | exact .inl rfl | exact .inr rfl) rfl (by first | exact .inl rfl | exact .inr (.inl rfl) | exact .inr (.inr rfl))))))) (sd_one (sd_ret (ed_lc (own := [("_law_rows_so", 4), ("_law_sums_so", 5)]) rfl nd__law_all (id_lst (ed_var 1 rfl (by first | exact .inl rfl | exact .inr (.inl rfl) | exact .inr (.inr rfl)))) (CompD.mk (own := [("_law_rows_so", 4), ("_law_sums_so", 5)]) (blkOk_by (own := [("_law_rows_so", 4), ("_law_sums_so", 5)]) (N := N__law_all) (sc := (defScope s__law_all)) (by decide +kernel)) (fun _ _ _ _ _ => (bd_tup rfl (bds_cons (bd_name 4 nd__law_all rfl (by first | exact .inl rfl | exact .inr rfl)) (bds_cons (bd_name 5 nd__law_all rfl (by first | exact .inl rfl | exact .inr rfl)) bds_nil)))) (fun _ _ _ _ _ => pts_d (t_eq hr (ed_var 5 rfl (by first | exact .inl rfl | exact .inr (.inl rfl) | exact .inr (.inr rfl))) (r_mul (ed_tup (ad_cons ed_int ad_nil)) (ed_var 0 rfl (by first | exact .inl rfl | exact .inr (.inl rfl) | exact .inr (.inr rfl)))))) (fun _ _ _ _ _ => (ed_var 4 rfl (by first | exact .inl rfl | exact .inr (.inl rfl) | exact .inr (.inr rfl)))) (by decide)))))))
abbrev s__law_corner : Stmt := topS 47
abbrev N__law_corner : List Str := ["_law_some", "_law_high", "_law_left", "_law_line"]
theorem sc__law_corner : FnScope N__law_corner ["_law_some", "_law_high", "_law_left"] (defScope s__law_corner) := ⟨rfl, rfl, rfl, by decide +kernel, rfl, by decide +kernel, by decide +kernel⟩
theorem nd__law_corner : N__law_corner.Nodup := sc__law_corner.nd
theorem d__law_corner {CC : Nat → Addr} {P : Program} {w : World} {K : PySem.W.Frag} {mg : Str → Option Value} {base : Heap} {f : Addr} {fd : FuncData} (T : Txt mg) (F : Fun K "_law_corner" "_law_corner" s__law_corner f fd) (hm : mg "_law_corner" = some (.ref f)) (hb : Binds K fd ["_law_some", "_law_high", "_law_left"] []) : FnD CC P w K mg base 1 "_law_corner" ["_law_some", "_law_high", "_law_left"] f__law_corner :=
  fn_sd (N := N__law_corner) F sc__law_corner hm hb (by decide) fun cdv A outer s H E hr =>
    (sd_one (sd_ret (r_sum T rfl rfl (ad_cons (ed_lc (own := [("_law_line", 3)]) rfl nd__law_corner (id_tup (ed_cut (ed_var 0 rfl (by first | exact .inl rfl | exact .inr (.inl rfl) | exact .inr (.inr rfl))) (ed_var 1 rfl (by first | exact .inl rfl | exact .inr (.inl rfl) | exact .inr (.inr rfl))))) (CompD.mk (own := [("_law_line", 3)]) (blkOk_by (own := [("_law_line", 3)]) (N := N__law_corner) (sc := (defScope s__law_corner)) (by decide +kernel)) (fun _ _ _ _ _ => (bd_name 3 nd__law_corner rfl (by first | exact .inl rfl | exact .inr rfl))) (fun _ _ _ _ _ => pts_yes) (fun _ _ _ _ _ => (r_sum T rfl rfl (ad_cons (ed_cut (ed_var 3 rfl (by first | exact .inl rfl | exact .inr (.inl rfl) | exact .inr (.inr rfl))) (ed_var 2 rfl (by first | exact .inl rfl | exact .inr (.inl rfl) | exact .inr (.inr rfl)))) ad_nil))) (by decide))) ad_nil))))
end K6

end
-- text Der6
section
set_option Elab.async false
set_option linter.all false
set_option autoImplicit false
set_option maxRecDepth 100000
set_option maxHeartbeats 4000000

/-! Printed by gen.py: derivations. -/
namespace K6
open PySem PySem.Spec PyProof.Rows L2
abbrev s__law_table : Stmt := topS 51
abbrev N__law_table : List Str := ["_law_some", "_law_wide", "_law_found", "_law_high", "_law_left"]
theorem sc__law_table : FnScope N__law_table ["_law_some"] (defScope s__law_table) := ⟨rfl, rfl, rfl, by decide +kernel, rfl, by decide +kernel, by decide +kernel⟩
theorem nd__law_table : N__law_table.Nodup := sc__law_table.nd
theorem d__law_table {CC : Nat → Addr} {P : Program} {w : World} {K : PySem.W.Frag} {mg : Str → Option Value} {base : Heap} {f : Addr} {fd : FuncData} (T : Txt mg) (G__law_corner : FnD CC P w K mg base 1 "_law_corner" ["_law_some", "_law_high", "_law_left"] f__law_corner) (F : Fun K "_law_table" "_law_table" s__law_table f fd) (hm : mg "_law_table" = some (.ref f)) (hb : Binds K fd ["_law_some"] []) : FnD CC P w K mg base 2 "_law_table" ["_law_some"] f__law_table :=
  fn_sd (N := N__law_table) F sc__law_table hm hb (by decide) fun cdv A outer s H E hr =>
    (sd_cons (sd_set 1 nd__law_table rfl (by first | exact .inl rfl | exact .inr rfl) (xd_dat (r_len T rfl (ad_cons (ed_var 0 rfl (by first | exact .inl rfl | exact .inr (.inl rfl) | exact .inr (.inr rfl))) ad_nil)))) (sd_cons (sd_set 2 nd__law_table rfl (by first | exact .inl rfl | exact .inr rfl) (xd_own ad_nil)) (sd_cons (sd_for (passes_of rfl) rfl (id_rng rfl T.range (r_add (ed_var 1 rfl (by first | exact .inl rfl | exact .inr (.inl rfl) | exact .inr (.inr rfl))) ed_int)) (bd_name 3 nd__law_table rfl (by first | exact .inl rfl | exact .inr rfl)) (sd_one (sd_app 2 rfl (by first | exact .inl rfl | exact .inr (.inl rfl) | exact .inr (.inr rfl)) (r_tuple T rfl (ad_cons (ed_lc (own := [("_law_left", 4)]) rfl nd__law_table (id_rng rfl T.range (r_add (ed_var 1 rfl (by first | exact .inl rfl | exact .inr (.inl rfl) | exact .inr (.inr rfl))) ed_int)) (CompD.mk (own := [("_law_left", 4)]) (blkOk_by (own := [("_law_left", 4)]) (N := N__law_table) (sc := (defScope s__law_table)) (by decide +kernel)) (fun _ _ _ _ _ => (bd_name 4 nd__law_table rfl (by first | exact .inl rfl | exact .inr rfl))) (fun _ _ _ _ _ => pts_yes) (fun _ _ _ _ _ => (r_sub (r_add (ed_var 3 rfl (by first | exact .inl rfl | exact .inr (.inl rfl) | exact .inr (.inr rfl))) (ed_var 4 rfl (by first | exact .inl rfl | exact .inr (.inl rfl) | exact .inr (.inr rfl)))) (r_mul ed_int (ed_call (ps := ["_law_some", "_law_high", "_law_left"]) G__law_corner (hr.mono (by decide)) rfl (ad_cons (ed_var 0 rfl (by first | exact .inl rfl | exact .inr (.inl rfl) | exact .inr (.inr rfl))) (ad_cons (ed_var 3 rfl (by first | exact .inl rfl | exact .inr (.inl rfl) | exact .inr (.inr rfl))) (ad_cons (ed_var 4 rfl (by first | exact .inl rfl | exact .inr (.inl rfl) | exact .inr (.inr rfl))) ad_nil))))))) (by decide))) ad_nil)) (by decide) (by decide) rfl (pe_bm PySem.F.plainAttrs_list PySem.F.slot_list_append PySem.F.type_list_append mt_append (pe_var (i := 2) rfl (by first | exact .inl rfl | exact .inr (.inl rfl) | exact .inr (.inr rfl))) (pa_cons (ED.pe (r_tuple T rfl (ad_cons (ed_lc (own := [("_law_left", 4)]) rfl nd__law_table (id_rng rfl T.range (r_add (ed_var 1 rfl (by first | exact .inl rfl | exact .inr (.inl rfl) | exact .inr (.inr rfl))) ed_int)) (CompD.mk (own := [("_law_left", 4)]) (blkOk_by (own := [("_law_left", 4)]) (N := N__law_table) (sc := (defScope s__law_table)) (by decide +kernel)) (fun _ _ _ _ _ => (bd_name 4 nd__law_table rfl (by first | exact .inl rfl | exact .inr rfl))) (fun _ _ _ _ _ => pts_yes) (fun _ _ _ _ _ => (r_sub (r_add (ed_var 3 rfl (by first | exact .inl rfl | exact .inr (.inl rfl) | exact .inr (.inr rfl))) (ed_var 4 rfl (by first | exact .inl rfl | exact .inr (.inl rfl) | exact .inr (.inr rfl)))) (r_mul ed_int (ed_call (ps := ["_law_some", "_law_high", "_law_left"]) G__law_corner (hr.mono (by decide)) rfl (ad_cons (ed_var 0 rfl (by first | exact .inl rfl | exact .inr (.inl rfl) | exact .inr (.inr rfl))) (ad_cons (ed_var 3 rfl (by first | exact .inl rfl | exact .inr (.inl rfl) | exact .inr (.inr rfl))) (ad_cons (ed_var 4 rfl (by first | exact .inl rfl | exact .inr (.inl rfl) | exact .inr (.inr rfl))) ad_nil))))))) (by decide))) ad_nil))) pa_nil))))) (sd_one (sd_ret (ed_tupOwn 2 rfl (by first | exact .inl rfl | exact .inr (.inl rfl) | exact .inr (.inr rfl)) rfl T.tuple bb_tuple))))))
abbrev s__law_keep : Stmt := topS 53
abbrev N__law_keep : List Str := ["_law_tables", "_law_lows_so", "_law_highs_so", "_law_found", "_law_table_here", "_law_low", "_law_high", "_law_bound"]
theorem sc__law_keep : FnScope N__law_keep ["_law_tables", "_law_lows_so", "_law_highs_so"] (defScope s__law_keep) := ⟨rfl, rfl, rfl, by decide +kernel, rfl, by decide +kernel, by decide +kernel⟩
theorem nd__law_keep : N__law_keep.Nodup := sc__law_keep.nd
theorem d__law_keep {CC : Nat → Addr} {P : Program} {w : World} {K : PySem.W.Frag} {mg : Str → Option Value} {base : Heap} {f : Addr} {fd : FuncData} (T : Txt mg) (F : Fun K "_law_keep" "_law_keep" s__law_keep f fd) (hm : mg "_law_keep" = some (.ref f)) (hb : Binds K fd ["_law_tables", "_law_lows_so", "_law_highs_so"] []) : FnD CC P w K mg base 1 "_law_keep" ["_law_tables", "_law_lows_so", "_law_highs_so"] f__law_keep :=
  fn_sd (N := N__law_keep) F sc__law_keep hm hb (by decide) fun cdv A outer s H E hr =>
    (sd_cons (sd_set 3 nd__law_keep rfl (by first | exact .inl rfl | exact .inr rfl) (xd_own ad_nil)) (sd_cons (sd_for (passes_of rfl) rfl (id_lst (ed_var 0 rfl (by first | exact .inl rfl | exact .inr (.inl rfl) | exact .inr (.inr rfl)))) (bd_name 4 nd__law_keep rfl (by first | exact .inl rfl | exact .inr rfl)) (sd_cons (sd_setLc (own := [("_law_bound", 7)]) rfl nd__law_keep rfl rfl (sw_true rfl rfl rfl (by decide +kernel)) (id_tup (ed_var 1 rfl (by first | exact .inl rfl | exact .inr (.inl rfl) | exact .inr (.inr rfl)))) (CompD.mk (own := [("_law_bound", 7)]) (blkOk_by (own := [("_law_bound", 7)]) (N := N__law_keep) (sc := (defScope s__law_keep)) (by decide +kernel)) (fun _ _ _ _ _ => (bd_name 7 nd__law_keep rfl (by first | exact .inl rfl | exact .inr rfl))) (fun _ _ _ _ _ => pts_d (t_lt (ed_ix (ed_ix (ed_var 4 rfl (by first | exact .inl rfl | exact .inr (.inl rfl) | exact .inr (.inr rfl))) (ed_ix (ed_var 7 rfl (by first | exact .inl rfl | exact .inr (.inl rfl) | exact .inr (.inr rfl))) ed_int)) (ed_ix (ed_var 7 rfl (by first | exact .inl rfl | exact .inr (.inl rfl) | exact .inr (.inr rfl))) ed_int)) (ed_ix (ed_var 7 rfl (by first | exact .inl rfl | exact .inr (.inl rfl) | exact .inr (.inr rfl))) ed_int))) (fun _ _ _ _ _ => (ed_var 7 rfl (by first | exact .inl rfl | exact .inr (.inl rfl) | exact .inr (.inr rfl)))) (by decide))) (sd_cons (sd_setLc (own := [("_law_bound", 7)]) rfl nd__law_keep rfl rfl (sw_true rfl rfl rfl (by decide +kernel)) (id_tup (ed_var 2 rfl (by first | exact .inl rfl | exact .inr (.inl rfl) | exact .inr (.inr rfl)))) (CompD.mk (own := [("_law_bound", 7)]) (blkOk_by (own := [("_law_bound", 7)]) (N := N__law_keep) (sc := (defScope s__law_keep)) (by decide +kernel)) (fun _ _ _ _ _ => (bd_name 7 nd__law_keep rfl (by first | exact .inl rfl | exact .inr rfl))) (fun _ _ _ _ _ => pts_d (t_gt (ed_ix (ed_ix (ed_var 4 rfl (by first | exact .inl rfl | exact .inr (.inl rfl) | exact .inr (.inr rfl))) (ed_ix (ed_var 7 rfl (by first | exact .inl rfl | exact .inr (.inl rfl) | exact .inr (.inr rfl))) ed_int)) (ed_ix (ed_var 7 rfl (by first | exact .inl rfl | exact .inr (.inl rfl) | exact .inr (.inr rfl))) ed_int)) (ed_ix (ed_var 7 rfl (by first | exact .inl rfl | exact .inr (.inl rfl) | exact .inr (.inr rfl))) ed_int))) (fun _ _ _ _ _ => (ed_var 7 rfl (by first | exact .inl rfl | exact .inr (.inl rfl) | exact .inr (.inr rfl)))) (by decide))) (sd_one (sd_if (WD.td (wd_and (t_eq hr (ed_var 5 rfl (by first | exact .inl rfl | exact .inr (.inl rfl) | exact .inr (.inr rfl))) (ed_lst ad_nil)) (wd_and1 (t_eq hr (ed_var 6 rfl (by first | exact .inl rfl | exact .inr (.inl rfl) | exact .inr (.inr rfl))) (ed_lst ad_nil))))) (sd_one (sd_app 3 rfl (by first | exact .inl rfl | exact .inr (.inl rfl) | exact .inr (.inr rfl)) (ed_var 4 rfl (by first | exact .inl rfl | exact .inr (.inl rfl) | exact .inr (.inr rfl))) (by decide) (by decide) rfl (pe_bm PySem.F.plainAttrs_list PySem.F.slot_list_append PySem.F.type_list_append mt_append (pe_var (i := 3) rfl (by first | exact .inl rfl | exact .inr (.inl rfl) | exact .inr (.inr rfl))) (pa_cons (ED.pe (ed_var 4 rfl (by first | exact .inl rfl | exact .inr (.inl rfl) | exact .inr (.inr rfl)))) pa_nil)))) sd_nil))))) (sd_one (sd_retOwn 3 rfl (by first | exact .inl rfl | exact .inr (.inl rfl) | exact .inr (.inr rfl))))))
abbrev s__law_lies : Stmt := topS 54
abbrev N__law_lies : List Str := ["_law_one_so", "_law_other_so", "_law_mine", "_law_yours", "_law_x", "_law_y"]
theorem sc__law_lies : FnScope N__law_lies ["_law_one_so", "_law_other_so"] (defScope s__law_lies) := ⟨rfl, rfl, rfl, by decide +kernel, rfl, by decide +kernel, by decide +kernel⟩
theorem nd__law_lies : N__law_lies.Nodup := sc__law_lies.nd
theorem d__law_lies {CC : Nat → Addr} {P : Program} {w : World} {K : PySem.W.Frag} {mg : Str → Option Value} {base : Heap} {f : Addr} {fd : FuncData} (T : Txt mg) (F : Fun K "_law_lies" "_law_lies" s__law_lies f fd) (hm : mg "_law_lies" = some (.ref f)) (hb : Binds K fd ["_law_one_so", "_law_other_so"] []) : FnD CC P w K mg base 1 "_law_lies" ["_law_one_so", "_law_other_so"] f__law_lies :=
  fn_sd (N := N__law_lies) F sc__law_lies hm hb (by decide) fun cdv A outer s H E hr =>
    (sd_cons (sd_for (passes_of rfl) rfl (id_zipT rfl T.zip (ed_var 0 rfl (by first | exact .inl rfl | exact .inr (.inl rfl) | exact .inr (.inr rfl))) (ed_var 1 rfl (by first | exact .inl rfl | exact .inr (.inl rfl) | exact .inr (.inr rfl)))) (bd_tup rfl (bds_cons (bd_name 2 nd__law_lies rfl (by first | exact .inl rfl | exact .inr rfl)) (bds_cons (bd_name 3 nd__law_lies rfl (by first | exact .inl rfl | exact .inr rfl)) bds_nil))) (sd_one (sd_if (t_ne hr (ed_lc (own := [("_law_x", 4), ("_law_y", 5)]) rfl nd__law_lies (id_zipT rfl T.zip (ed_var 2 rfl (by first | exact .inl rfl | exact .inr (.inl rfl) | exact .inr (.inr rfl))) (ed_var 3 rfl (by first | exact .inl rfl | exact .inr (.inl rfl) | exact .inr (.inr rfl)))) (CompD.mk (own := [("_law_x", 4), ("_law_y", 5)]) (blkOk_by (own := [("_law_x", 4), ("_law_y", 5)]) (N := N__law_lies) (sc := (defScope s__law_lies)) (by decide +kernel)) (fun _ _ _ _ _ => (bd_tup rfl (bds_cons (bd_name 4 nd__law_lies rfl (by first | exact .inl rfl | exact .inr rfl)) (bds_cons (bd_name 5 nd__law_lies rfl (by first | exact .inl rfl | exact .inr rfl)) bds_nil)))) (fun _ _ _ _ _ => pts_d (t_gt (ed_var 4 rfl (by first | exact .inl rfl | exact .inr (.inl rfl) | exact .inr (.inr rfl))) (ed_var 5 rfl (by first | exact .inl rfl | exact .inr (.inl rfl) | exact .inr (.inr rfl))))) (fun _ _ _ _ _ => ed_int) (by decide))) (ed_lst ad_nil)) (sd_one (sd_ret ed_bl)) sd_nil))) (sd_one (sd_ret ed_bl)))
abbrev s__law_end_right : Stmt := topS 55
abbrev N__law_end_right : List Str := ["_law_told", "_law_kept", "_law_below", "_law_mine", "_law_table_here"]
theorem sc__law_end_right : FnScope N__law_end_right ["_law_told", "_law_kept", "_law_below"] (defScope s__law_end_right) := ⟨rfl, rfl, rfl, by decide +kernel, rfl, by decide +kernel, by decide +kernel⟩
theorem nd__law_end_right : N__law_end_right.Nodup := sc__law_end_right.nd
theorem d__law_end_right {CC : Nat → Addr} {P : Program} {w : World} {K : PySem.W.Frag} {mg : Str → Option Value} {base : Heap} {f : Addr} {fd : FuncData} (T : Txt mg) (G__law_lies : FnD CC P w K mg base 1 "_law_lies" ["_law_one_so", "_law_other_so"] f__law_lies) (G__law_table : FnD CC P w K mg base 2 "_law_table" ["_law_some"] f__law_table) (F : Fun K "_law_end_right" "_law_end_right" s__law_end_right f fd) (hm : mg "_law_end_right" = some (.ref f)) (hb : Binds K fd ["_law_told", "_law_kept", "_law_below"] []) : FnD CC P w K mg base 3 "_law_end_right" ["_law_told", "_law_kept", "_law_below"] f__law_end_right :=
  fn_sd (N := N__law_end_right) F sc__law_end_right hm hb (by decide) fun cdv A outer s H E hr =>
    (sd_cons (sd_if (t_eq hr (ed_var 1 rfl (by first | exact .inl rfl | exact .inr (.inl rfl) | exact .inr (.inr rfl))) (ed_lst ad_nil)) (sd_one (sd_ret (e_isN (ed_var 0 rfl (by first | exact .inl rfl | exact .inr (.inl rfl) | exact .inr (.inr rfl))) ed_non))) sd_nil) (sd_cons (sd_if (WD.td (wd_or (t_isN (ed_var 0 rfl (by first | exact .inl rfl | exact .inr (.inl rfl) | exact .inr (.inr rfl))) ed_non) (wd_or1 (t_notIn hr (ed_call (ps := ["_law_some"]) G__law_table (hr.mono (by decide)) rfl (ad_cons (ed_var 0 rfl (by first | exact .inl rfl | exact .inr (.inl rfl) | exact .inr (.inr rfl))) ad_nil)) (ed_var 1 rfl (by first | exact .inl rfl | exact .inr (.inl rfl) | exact .inr (.inr rfl))))))) (sd_one (sd_ret ed_bl)) sd_nil) (sd_cons (sd_set 3 nd__law_end_right rfl (by first | exact .inl rfl | exact .inr rfl) (xd_dat (ed_call (ps := ["_law_some"]) G__law_table (hr.mono (by decide)) rfl (ad_cons (ed_var 0 rfl (by first | exact .inl rfl | exact .inr (.inl rfl) | exact .inr (.inr rfl))) ad_nil)))) (sd_one (sd_ret (e_eq hr (ed_lc (own := [("_law_table_here", 4)]) rfl nd__law_end_right (id_lst (ed_var 1 rfl (by first | exact .inl rfl | exact .inr (.inl rfl) | exact .inr (.inr rfl)))) (CompD.mk (own := [("_law_table_here", 4)]) (blkOk_by (own := [("_law_table_here", 4)]) (N := N__law_end_right) (sc := (defScope s__law_end_right)) (by decide +kernel)) (fun _ _ _ _ _ => (bd_name 4 nd__law_end_right rfl (by first | exact .inl rfl | exact .inr rfl))) (fun _ _ _ _ _ => pts_d (td_not (td_ifExp (td_val (ed_var 2 rfl (by first | exact .inl rfl | exact .inr (.inl rfl) | exact .inr (.inr rfl)))) (td_val (ed_call (ps := ["_law_one_so", "_law_other_so"]) G__law_lies (hr.mono (by decide)) rfl (ad_cons (ed_var 3 rfl (by first | exact .inl rfl | exact .inr (.inl rfl) | exact .inr (.inr rfl))) (ad_cons (ed_var 4 rfl (by first | exact .inl rfl | exact .inr (.inl rfl) | exact .inr (.inr rfl))) ad_nil)))) (td_val (ed_call (ps := ["_law_one_so", "_law_other_so"]) G__law_lies (hr.mono (by decide)) rfl (ad_cons (ed_var 4 rfl (by first | exact .inl rfl | exact .inr (.inl rfl) | exact .inr (.inr rfl))) (ad_cons (ed_var 3 rfl (by first | exact .inl rfl | exact .inr (.inl rfl) | exact .inr (.inr rfl))) ad_nil))))))) (fun _ _ _ _ _ => (ed_var 4 rfl (by first | exact .inl rfl | exact .inr (.inl rfl) | exact .inr (.inr rfl)))) (by decide))) (ed_lst ad_nil)))))))
end K6

end
-- text Der7
section
set_option Elab.async false
set_option linter.all false
set_option autoImplicit false
set_option maxRecDepth 100000
set_option maxHeartbeats 4000000

/-! Printed by gen2.py: derivations. -/
namespace K6
open PySem PySem.Spec PyProof.Rows L2
abbrev s__law_bounds : Stmt := topS 52
abbrev N__law_bounds : List Str := ["_law_cart_here", "_law_wide", "_law_most_so", "_law_found", "_law_turn", "_law_x", "_law_y"]
theorem sc__law_bounds : FnScope N__law_bounds ["_law_cart_here", "_law_wide", "_law_most_so"] (defScope s__law_bounds) := ⟨rfl, rfl, rfl, by decide +kernel, rfl, by decide +kernel, by decide +kernel⟩
theorem nd__law_bounds : N__law_bounds.Nodup := sc__law_bounds.nd
theorem d__law_bounds {CC : Nat → Addr} {P : Program} {w : World} {K : PySem.W.Frag} {mg : Str → Option Value} {base : Heap} {f : Addr} {fd : FuncData} (T : Txt mg) (G__law_lump : FnN P w K mg base 1 "_law_lump" "_law_cart_here" ["_law_size_so"] g_lump) (F : Fun K "_law_bounds" "_law_bounds" s__law_bounds f fd) (hm : mg "_law_bounds" = some (.ref f)) (hb : Binds K fd ["_law_cart_here", "_law_wide", "_law_most_so"] []) : FnN P w K mg base 2 "_law_bounds" "_law_cart_here" ["_law_wide", "_law_most_so"] f__law_bounds :=
  fn_ns (N := N__law_bounds) F sc__law_bounds hm hb (by decide) fun cdv A outer s H E hr =>
    (ns_cons (ns_set 3 nd__law_bounds rfl (by first | exact .inl rfl | exact .inr rfl) (by show (_ : Nat) ≠ _; decide) (ne_det (ed_tup ad_nil))) (ns_cons (ns_for (passes_of rfl) rfl (ni_rng rfl T.range (ne_call (ps := ["_law_size_so"]) G__law_lump (hr.mono (by decide)) rfl rfl (by first | exact .inl rfl | exact .inr (.inl rfl) | exact .inr (.inr rfl)) (na_cons (ne_det (r_add (ed_var 2 rfl (by first | exact .inl rfl | exact .inr (.inl rfl) | exact .inr (.inr rfl))) ed_int)) na_nil))) (by show (_ : Nat) ≠ _; decide) (ns_cons (ns_par rfl nd__law_bounds rfl rfl (by decide) (by show (_ : Nat) ≠ _; decide) (by show (_ : Nat) ≠ _; decide) rfl rfl (ne_call (ps := ["_law_size_so"]) G__law_lump (hr.mono (by decide)) rfl rfl (by first | exact .inl rfl | exact .inr (.inl rfl) | exact .inr (.inr rfl)) (na_cons (ne_det (r_add (ed_var 1 rfl (by first | exact .inl rfl | exact .inr (.inl rfl) | exact .inr (.inr rfl))) ed_int)) na_nil)) (ne_call (ps := ["_law_size_so"]) G__law_lump (hr.mono (by decide)) rfl rfl (by first | exact .inl rfl | exact .inr (.inl rfl) | exact .inr (.inr rfl)) (na_cons (ne_det (r_add (ed_var 1 rfl (by first | exact .inl rfl | exact .inr (.inl rfl) | exact .inr (.inr rfl))) ed_int)) na_nil)) (by rfl)) (ns_one (ns_set 3 nd__law_bounds rfl (by first | exact .inl rfl | exact .inr rfl) (by show (_ : Nat) ≠ _; decide) (ne_op o_add b_add (ne_det (ed_var 3 rfl (by first | exact .inl rfl | exact .inr (.inl rfl) | exact .inr (.inr rfl)))) (ne_tup (na_cons (ne_tup (na_cons (ne_det (ed_var 5 rfl (by first | exact .inl rfl | exact .inr (.inl rfl) | exact .inr (.inr rfl)))) (na_cons (ne_det (ed_var 6 rfl (by first | exact .inl rfl | exact .inr (.inl rfl) | exact .inr (.inr rfl)))) (na_cons (ne_op op_sub b_sub (ne_call (ps := ["_law_size_so"]) G__law_lump (hr.mono (by decide)) rfl rfl (by first | exact .inl rfl | exact .inr (.inl rfl) | exact .inr (.inr rfl)) (na_cons (ne_det (r_add (ed_var 1 rfl (by first | exact .inl rfl | exact .inr (.inl rfl) | exact .inr (.inr rfl))) ed_int)) na_nil)) (ne_det ed_int)) na_nil)))) na_nil)))))) (pg_name (i := 4) nd__law_bounds rfl (by first | exact .inl rfl | exact .inr rfl))) (ns_one (ns_ret (ne_det (ed_var 3 rfl (by first | exact .inl rfl | exact .inr (.inl rfl) | exact .inr (.inr rfl))))))))
end K6

end
-- text Der8
section
set_option Elab.async false
set_option linter.all false
set_option autoImplicit false
set_option maxRecDepth 100000
set_option maxHeartbeats 4000000

/-! Printed by gen2.py: derivations. -/
namespace K6
open PySem PySem.Spec PyProof.Rows L2
abbrev s__law_right : Stmt := topS 56
abbrev N__law_right : List Str := ["_law_cart_here", "_law_wide", "_law_tables", "_law_lows_so", "_law_highs_so", "_law_kept", "_law_told", "_law_pair_so", "_law_low", "_law_high", "_law_some"]
theorem sc__law_right : FnScope N__law_right ["_law_cart_here", "_law_wide"] (defScope s__law_right) := ⟨rfl, rfl, rfl, by decide +kernel, rfl, by decide +kernel, by decide +kernel⟩
theorem nd__law_right : N__law_right.Nodup := sc__law_right.nd
theorem d__law_right {CC : Nat → Addr} {P : Program} {w : World} {K : PySem.W.Frag} {mg : Str → Option Value} {base : Heap} {f : Addr} {fd : FuncData} (T : Txt mg) (G__law_all : FnD CC P w K mg base 2 "_law_all" ["_law_wide"] f__law_all) (G__law_table : FnD CC P w K mg base 2 "_law_table" ["_law_some"] f__law_table) (G__law_keep : FnD CC P w K mg base 1 "_law_keep" ["_law_tables", "_law_lows_so", "_law_highs_so"] f__law_keep) (G_bounds_paper : FnD CC P w K mg base 5 "bounds_paper" ["sides", "lows", "highs"] f_bounds_paper) (G_bounds_go : FnD CC P w K mg base 5 "bounds_go" ["sides", "lows", "highs"] f_bounds_go) (G__law_end_right : FnD CC P w K mg base 3 "_law_end_right" ["_law_told", "_law_kept", "_law_below"] f__law_end_right) (G_greatest_under : FnD CC P w K mg base 4 "greatest_under" ["sides", "bounds"] f_greatest_under) (G_least_above : FnD CC P w K mg base 4 "least_above" ["sides", "bounds"] f_least_above) (G__law_bounds : FnN P w K mg base 2 "_law_bounds" "_law_cart_here" ["_law_wide", "_law_most_so"] f__law_bounds) (F : Fun K "_law_right" "_law_right" s__law_right f fd) (hm : mg "_law_right" = some (.ref f)) (hb : Binds K fd ["_law_cart_here", "_law_wide"] []) : FnN P w K mg base 6 "_law_right" "_law_cart_here" ["_law_wide"] f__law_right :=
  fn_ns (N := N__law_right) F sc__law_right hm hb (by decide) fun cdv A outer s H E hr =>
    (ns_cons (ns_setLc (own := [("_law_some", 10)]) rfl nd__law_right rfl (by show (_ : Nat) ≠ _; decide) rfl (sw_true rfl rfl rfl (by decide +kernel)) (id_lst (ed_call (ps := ["_law_wide"]) G__law_all (hr.mono (by decide)) rfl (ad_cons (ed_var 1 rfl (by first | exact .inl rfl | exact .inr (.inl rfl) | exact .inr (.inr rfl))) ad_nil))) (CompD.mk (own := [("_law_some", 10)]) (blkOk_by (own := [("_law_some", 10)]) (N := N__law_right) (sc := (defScope s__law_right)) (by decide +kernel)) (fun _ _ _ _ _ => (bd_name 10 nd__law_right rfl (by first | exact .inl rfl | exact .inr rfl))) (fun _ _ _ _ _ => pts_yes) (fun _ _ _ _ _ => (ed_call (ps := ["_law_some"]) G__law_table (hr.mono (by decide)) rfl (ad_cons (ed_var 10 rfl (by first | exact .inl rfl | exact .inr (.inl rfl) | exact .inr (.inr rfl))) ad_nil))) (by decide))) (ns_cons (ns_par rfl nd__law_right rfl rfl (by decide) (by show (_ : Nat) ≠ _; decide) (by show (_ : Nat) ≠ _; decide) rfl rfl (ne_call (ps := ["_law_wide", "_law_most_so"]) G__law_bounds (hr.mono (by decide)) rfl rfl (by first | exact .inl rfl | exact .inr (.inl rfl) | exact .inr (.inr rfl)) (na_cons (ne_det (ed_var 1 rfl (by first | exact .inl rfl | exact .inr (.inl rfl) | exact .inr (.inr rfl)))) (na_cons (ne_det ed_int) na_nil))) (ne_call (ps := ["_law_wide", "_law_most_so"]) G__law_bounds (hr.mono (by decide)) rfl rfl (by first | exact .inl rfl | exact .inr (.inl rfl) | exact .inr (.inr rfl)) (na_cons (ne_det (ed_var 1 rfl (by first | exact .inl rfl | exact .inr (.inl rfl) | exact .inr (.inr rfl)))) (na_cons (ne_det ed_int) na_nil))) (by rfl)) (ns_tail (CC := CC) (E := E) (sd_cons (sd_if (td_not (td_val (ed_call (ps := ["_law_told", "_law_kept", "_law_below"]) G__law_end_right (hr.mono (by decide)) rfl (ad_cons (ed_call (ps := ["sides", "bounds"]) G_least_above (hr.mono (by decide)) rfl (ad_cons (ed_var 1 rfl (by first | exact .inl rfl | exact .inr (.inl rfl) | exact .inr (.inr rfl))) (ad_cons (ed_var 3 rfl (by first | exact .inl rfl | exact .inr (.inl rfl) | exact .inr (.inr rfl))) ad_nil))) (ad_cons (ed_call (ps := ["_law_tables", "_law_lows_so", "_law_highs_so"]) G__law_keep (hr.mono (by decide)) rfl (ad_cons (ed_var 2 rfl (by first | exact .inl rfl | exact .inr (.inl rfl) | exact .inr (.inr rfl))) (ad_cons (ed_var 3 rfl (by first | exact .inl rfl | exact .inr (.inl rfl) | exact .inr (.inr rfl))) (ad_cons (ed_tup ad_nil) ad_nil)))) (ad_cons ed_bl ad_nil)))))) (sd_one (sd_ret ed_bl)) sd_nil) (sd_cons (sd_if (td_not (td_val (ed_call (ps := ["_law_told", "_law_kept", "_law_below"]) G__law_end_right (hr.mono (by decide)) rfl (ad_cons (ed_call (ps := ["sides", "bounds"]) G_greatest_under (hr.mono (by decide)) rfl (ad_cons (ed_var 1 rfl (by first | exact .inl rfl | exact .inr (.inl rfl) | exact .inr (.inr rfl))) (ad_cons (ed_var 4 rfl (by first | exact .inl rfl | exact .inr (.inl rfl) | exact .inr (.inr rfl))) ad_nil))) (ad_cons (ed_call (ps := ["_law_tables", "_law_lows_so", "_law_highs_so"]) G__law_keep (hr.mono (by decide)) rfl (ad_cons (ed_var 2 rfl (by first | exact .inl rfl | exact .inr (.inl rfl) | exact .inr (.inr rfl))) (ad_cons (ed_tup ad_nil) (ad_cons (ed_var 4 rfl (by first | exact .inl rfl | exact .inr (.inl rfl) | exact .inr (.inr rfl))) ad_nil)))) (ad_cons ed_bl ad_nil)))))) (sd_one (sd_ret ed_bl)) sd_nil) (sd_cons (sd_par rfl nd__law_right rfl rfl (by decide) rfl rfl (xd_dat (ed_call (ps := ["_law_tables", "_law_lows_so", "_law_highs_so"]) G__law_keep (hr.mono (by decide)) rfl (ad_cons (ed_var 2 rfl (by first | exact .inl rfl | exact .inr (.inl rfl) | exact .inr (.inr rfl))) (ad_cons (ed_var 3 rfl (by first | exact .inl rfl | exact .inr (.inl rfl) | exact .inr (.inr rfl))) (ad_cons (ed_var 4 rfl (by first | exact .inl rfl | exact .inr (.inl rfl) | exact .inr (.inr rfl))) ad_nil))))) (xd_dat (ed_call (ps := ["sides", "lows", "highs"]) G_bounds_go (hr.mono (by decide)) rfl (ad_cons (ed_var 1 rfl (by first | exact .inl rfl | exact .inr (.inl rfl) | exact .inr (.inr rfl))) (ad_cons (ed_var 3 rfl (by first | exact .inl rfl | exact .inr (.inl rfl) | exact .inr (.inr rfl))) (ad_cons (ed_var 4 rfl (by first | exact .inl rfl | exact .inr (.inl rfl) | exact .inr (.inr rfl))) ad_nil))))) (by rfl)) (sd_cons (sd_set 7 nd__law_right rfl (by first | exact .inl rfl | exact .inr rfl) (xd_dat (ed_call (ps := ["sides", "lows", "highs"]) G_bounds_paper (hr.mono (by decide)) rfl (ad_cons (ed_var 1 rfl (by first | exact .inl rfl | exact .inr (.inl rfl) | exact .inr (.inr rfl))) (ad_cons (ed_var 3 rfl (by first | exact .inl rfl | exact .inr (.inl rfl) | exact .inr (.inr rfl))) (ad_cons (ed_var 4 rfl (by first | exact .inl rfl | exact .inr (.inl rfl) | exact .inr (.inr rfl))) ad_nil)))))) (sd_cons (sd_if (WD.td (wd_or (td_not (td_val (ed_isi rfl T.isinstance bb_isi rfl T.bool bb_bool (ed_var 6 rfl (by first | exact .inl rfl | exact .inr (.inl rfl) | exact .inr (.inr rfl)))))) (wd_or (t_ne hr (ed_var 6 rfl (by first | exact .inl rfl | exact .inr (.inl rfl) | exact .inr (.inr rfl))) (e_ne hr (ed_var 5 rfl (by first | exact .inl rfl | exact .inr (.inl rfl) | exact .inr (.inr rfl))) (ed_lst ad_nil))) (wd_or1 (t_ne hr (e_isN (ed_var 7 rfl (by first | exact .inl rfl | exact .inr (.inl rfl) | exact .inr (.inr rfl))) ed_non) (ed_var 6 rfl (by first | exact .inl rfl | exact .inr (.inl rfl) | exact .inr (.inr rfl)))))))) (sd_one (sd_ret ed_bl)) sd_nil) (sd_cons (sd_if (t_isN (ed_var 7 rfl (by first | exact .inl rfl | exact .inr (.inl rfl) | exact .inr (.inr rfl))) ed_non) (sd_one (sd_ret ed_bl)) sd_nil) (sd_cons (sd_set 8 nd__law_right rfl (by first | exact .inl rfl | exact .inr rfl) (xd_dat (ed_if (t_isN (ed_ix (ed_var 7 rfl (by first | exact .inl rfl | exact .inr (.inl rfl) | exact .inr (.inr rfl))) ed_int) ed_non) (ed_tup ad_nil) (ed_tup (ad_cons (ed_ix (ed_var 3 rfl (by first | exact .inl rfl | exact .inr (.inl rfl) | exact .inr (.inr rfl))) (ed_ix (ed_var 7 rfl (by first | exact .inl rfl | exact .inr (.inl rfl) | exact .inr (.inr rfl))) ed_int)) ad_nil))))) (sd_cons (sd_set 9 nd__law_right rfl (by first | exact .inl rfl | exact .inr rfl) (xd_dat (ed_if (t_isN (ed_ix (ed_var 7 rfl (by first | exact .inl rfl | exact .inr (.inl rfl) | exact .inr (.inr rfl))) ed_int) ed_non) (ed_tup ad_nil) (ed_tup (ad_cons (ed_ix (ed_var 4 rfl (by first | exact .inl rfl | exact .inr (.inl rfl) | exact .inr (.inr rfl))) (ed_ix (ed_var 7 rfl (by first | exact .inl rfl | exact .inr (.inl rfl) | exact .inr (.inr rfl))) ed_int)) ad_nil))))) (sd_one (sd_ret (ed_and (ed_isi rfl T.isinstance bb_isi rfl T.tuple bb_tuple (ed_var 7 rfl (by first | exact .inl rfl | exact .inr (.inl rfl) | exact .inr (.inr rfl)))) (ed_and (e_eq hr (r_len T rfl (ad_cons (ed_var 7 rfl (by first | exact .inl rfl | exact .inr (.inl rfl) | exact .inr (.inr rfl))) ad_nil)) ed_int) (ed_one (e_eq hr (ed_call (ps := ["_law_tables", "_law_lows_so", "_law_highs_so"]) G__law_keep (hr.mono (by decide)) rfl (ad_cons (ed_var 2 rfl (by first | exact .inl rfl | exact .inr (.inl rfl) | exact .inr (.inr rfl))) (ad_cons (ed_var 8 rfl (by first | exact .inl rfl | exact .inr (.inl rfl) | exact .inr (.inr rfl))) (ad_cons (ed_var 9 rfl (by first | exact .inl rfl | exact .inr (.inl rfl) | exact .inr (.inr rfl))) ad_nil)))) (ed_lst ad_nil))))))))))))))))))
end K6

end
-- text Der9
section
set_option Elab.async false
set_option linter.all false
set_option autoImplicit false
set_option maxRecDepth 100000
set_option maxHeartbeats 4000000

/-! Printed by gen2.py: derivations. -/
namespace K6
open PySem PySem.Spec PyProof.Rows L2
abbrev s__law_wide_right : Stmt := topS 57
abbrev N__law_wide_right : List Str := ["_law_cart_here", "_law_wide", "_law_lows_so", "_law_told", "_law_table_here", "_law_unit_so", "_law_whole", "_law_x", "_law_y", "_law_much"]
theorem sc__law_wide_right : FnScope N__law_wide_right ["_law_cart_here", "_law_wide"] (defScope s__law_wide_right) := ⟨rfl, rfl, rfl, by decide +kernel, rfl, by decide +kernel, by decide +kernel⟩
theorem nd__law_wide_right : N__law_wide_right.Nodup := sc__law_wide_right.nd
theorem d__law_wide_right {CC : Nat → Addr} {P : Program} {w : World} {K : PySem.W.Frag} {mg : Str → Option Value} {base : Heap} {f : Addr} {fd : FuncData} (T : Txt mg) (G_bounds_go : FnD CC P w K mg base 5 "bounds_go" ["sides", "lows", "highs"] f_bounds_go) (G_bounds_paper : FnD CC P w K mg base 5 "bounds_paper" ["sides", "lows", "highs"] f_bounds_paper) (G_least_above : FnD CC P w K mg base 4 "least_above" ["sides", "bounds"] f_least_above) (G_greatest_under : FnD CC P w K mg base 4 "greatest_under" ["sides", "bounds"] f_greatest_under) (G__law_keep : FnD CC P w K mg base 1 "_law_keep" ["_law_tables", "_law_lows_so", "_law_highs_so"] f__law_keep) (G__law_lies : FnD CC P w K mg base 1 "_law_lies" ["_law_one_so", "_law_other_so"] f__law_lies) (G_heights : FnD CC P w K mg base 5 "heights" ["square"] f_heights) (G_is_square : FnD CC P w K mg base 4 "is_square" ["value"] f_is_square) (G__law_bounds : FnN P w K mg base 2 "_law_bounds" "_law_cart_here" ["_law_wide", "_law_most_so"] f__law_bounds) (F : Fun K "_law_wide_right" "_law_wide_right" s__law_wide_right f fd) (hm : mg "_law_wide_right" = some (.ref f)) (hb : Binds K fd ["_law_cart_here", "_law_wide"] []) : FnN P w K mg base 6 "_law_wide_right" "_law_cart_here" ["_law_wide"] f__law_wide_right :=
  fn_ns (N := N__law_wide_right) F sc__law_wide_right hm hb (by decide) fun cdv A outer s H E hr =>
    (ns_cons (ns_set 2 nd__law_wide_right rfl (by first | exact .inl rfl | exact .inr rfl) (by show (_ : Nat) ≠ _; decide) (ne_callTy call_tuple_of n_tup rfl T.tuple bb_tuple (na_cons (ne_lc (own := [("_law_x", 7), ("_law_y", 8), ("_law_much", 9)]) rfl nd__law_wide_right (ni_tup (ne_call (ps := ["_law_wide", "_law_most_so"]) G__law_bounds (hr.mono (by decide)) rfl rfl (by first | exact .inl rfl | exact .inr (.inl rfl) | exact .inr (.inr rfl)) (na_cons (ne_det (ed_var 1 rfl (by first | exact .inl rfl | exact .inr (.inl rfl) | exact .inr (.inr rfl)))) (na_cons (ne_det ed_int) na_nil)))) (CompD.mk (own := [("_law_x", 7), ("_law_y", 8), ("_law_much", 9)]) (blkOk_by (own := [("_law_x", 7), ("_law_y", 8), ("_law_much", 9)]) (N := N__law_wide_right) (sc := (defScope s__law_wide_right)) (by decide +kernel)) (fun _ _ _ _ _ => (bd_tup rfl (bds_cons (bd_name 7 nd__law_wide_right rfl (by first | exact .inl rfl | exact .inr rfl)) (bds_cons (bd_name 8 nd__law_wide_right rfl (by first | exact .inl rfl | exact .inr rfl)) (bds_cons (bd_name 9 nd__law_wide_right rfl (by first | exact .inl rfl | exact .inr rfl)) bds_nil))))) (fun _ _ _ _ _ => pts_yes) (fun _ _ _ _ _ => (ed_tup (ad_cons (ed_var 7 rfl (by first | exact .inl rfl | exact .inr (.inl rfl) | exact .inr (.inr rfl))) (ad_cons (ed_var 8 rfl (by first | exact .inl rfl | exact .inr (.inl rfl) | exact .inr (.inr rfl))) (ad_cons (r_max T hr rfl rfl (ad_cons ed_int (ad_cons (r_sub (ed_var 9 rfl (by first | exact .inl rfl | exact .inr (.inl rfl) | exact .inr (.inr rfl))) ed_int) ad_nil))) ad_nil))))) (by decide))) na_nil))) (ns_tail (CC := CC) (E := E) (sd_cons (sd_set 3 nd__law_wide_right rfl (by first | exact .inl rfl | exact .inr rfl) (xd_dat (ed_call (ps := ["sides", "bounds"]) G_least_above (hr.mono (by decide)) rfl (ad_cons (ed_var 1 rfl (by first | exact .inl rfl | exact .inr (.inl rfl) | exact .inr (.inr rfl))) (ad_cons (ed_var 2 rfl (by first | exact .inl rfl | exact .inr (.inl rfl) | exact .inr (.inr rfl))) ad_nil))))) (sd_cons (sd_if (t_isN (ed_var 3 rfl (by first | exact .inl rfl | exact .inr (.inl rfl) | exact .inr (.inr rfl))) ed_non) (sd_one (sd_ret (e_isB (ed_call (ps := ["sides", "lows", "highs"]) G_bounds_go (hr.mono (by decide)) rfl (ad_cons (ed_var 1 rfl (by first | exact .inl rfl | exact .inr (.inl rfl) | exact .inr (.inr rfl))) (ad_cons (ed_var 2 rfl (by first | exact .inl rfl | exact .inr (.inl rfl) | exact .inr (.inr rfl))) (ad_cons (ed_tup ad_nil) ad_nil)))) ed_bl))) sd_nil) (sd_cons (sd_if (td_not (td_val (ed_call (ps := ["value"]) G_is_square (hr.mono (by decide)) rfl (ad_cons (ed_var 3 rfl (by first | exact .inl rfl | exact .inr (.inl rfl) | exact .inr (.inr rfl))) ad_nil)))) (sd_one (sd_ret ed_bl)) sd_nil) (sd_cons (sd_bind (ed_tup (ad_cons (ed_call (ps := ["square"]) G_heights (hr.mono (by decide)) rfl (ad_cons (ed_var 3 rfl (by first | exact .inl rfl | exact .inr (.inl rfl) | exact .inr (.inr rfl))) ad_nil)) (ad_cons (ed_call (ps := ["sides", "bounds"]) G_least_above (hr.mono (by decide)) rfl (ad_cons (ed_var 1 rfl (by first | exact .inl rfl | exact .inr (.inl rfl) | exact .inr (.inr rfl))) (ad_cons (ed_tup ad_nil) ad_nil))) ad_nil))) (bd_tup rfl (bds_cons (bd_name 4 nd__law_wide_right rfl (by first | exact .inl rfl | exact .inr rfl)) (bds_cons (bd_name 5 nd__law_wide_right rfl (by first | exact .inl rfl | exact .inr rfl)) bds_nil)))) (sd_cons (sd_if (WD.td (wd_or (t_eq hr (ed_call (ps := ["_law_tables", "_law_lows_so", "_law_highs_so"]) G__law_keep (hr.mono (by decide)) rfl (ad_cons (ed_lst (ad_cons (ed_var 4 rfl (by first | exact .inl rfl | exact .inr (.inl rfl) | exact .inr (.inr rfl))) ad_nil)) (ad_cons (ed_var 2 rfl (by first | exact .inl rfl | exact .inr (.inl rfl) | exact .inr (.inr rfl))) (ad_cons (ed_tup ad_nil) ad_nil)))) (ed_lst ad_nil)) (wd_or1 (td_not (td_val (ed_call (ps := ["_law_one_so", "_law_other_so"]) G__law_lies (hr.mono (by decide)) rfl (ad_cons (ed_call (ps := ["square"]) G_heights (hr.mono (by decide)) rfl (ad_cons (ed_var 5 rfl (by first | exact .inl rfl | exact .inr (.inl rfl) | exact .inr (.inr rfl))) ad_nil)) (ad_cons (ed_var 4 rfl (by first | exact .inl rfl | exact .inr (.inl rfl) | exact .inr (.inr rfl))) ad_nil)))))))) (sd_one (sd_ret ed_bl)) sd_nil) (sd_cons (sd_setLc (own := [("_law_x", 7), ("_law_y", 8), ("_law_much", 9)]) rfl nd__law_wide_right rfl rfl (sw_true rfl rfl rfl (by decide +kernel)) (id_tup (ed_var 2 rfl (by first | exact .inl rfl | exact .inr (.inl rfl) | exact .inr (.inr rfl)))) (CompD.mk (own := [("_law_x", 7), ("_law_y", 8), ("_law_much", 9)]) (blkOk_by (own := [("_law_x", 7), ("_law_y", 8), ("_law_much", 9)]) (N := N__law_wide_right) (sc := (defScope s__law_wide_right)) (by decide +kernel)) (fun _ _ _ _ _ => (bd_tup rfl (bds_cons (bd_name 7 nd__law_wide_right rfl (by first | exact .inl rfl | exact .inr rfl)) (bds_cons (bd_name 8 nd__law_wide_right rfl (by first | exact .inl rfl | exact .inr rfl)) (bds_cons (bd_name 9 nd__law_wide_right rfl (by first | exact .inl rfl | exact .inr rfl)) bds_nil))))) (fun _ _ _ _ _ => pts_yes) (fun _ _ _ _ _ => (ed_tup (ad_cons (ed_var 7 rfl (by first | exact .inl rfl | exact .inr (.inl rfl) | exact .inr (.inr rfl))) (ad_cons (ed_var 8 rfl (by first | exact .inl rfl | exact .inr (.inl rfl) | exact .inr (.inr rfl))) (ad_cons (ed_ix (ed_ix (ed_var 4 rfl (by first | exact .inl rfl | exact .inr (.inl rfl) | exact .inr (.inr rfl))) (ed_var 7 rfl (by first | exact .inl rfl | exact .inr (.inl rfl) | exact .inr (.inr rfl)))) (ed_var 8 rfl (by first | exact .inl rfl | exact .inr (.inl rfl) | exact .inr (.inr rfl)))) ad_nil))))) (by decide))) (sd_cons (sd_if (WD.td (wd_or (t_ne hr (ed_call (ps := ["sides", "bounds"]) G_least_above (hr.mono (by decide)) rfl (ad_cons (ed_var 1 rfl (by first | exact .inl rfl | exact .inr (.inl rfl) | exact .inr (.inr rfl))) (ad_cons (r_tuple T rfl (ad_cons (ed_var 6 rfl (by first | exact .inl rfl | exact .inr (.inl rfl) | exact .inr (.inr rfl))) ad_nil)) ad_nil))) (ed_var 3 rfl (by first | exact .inl rfl | exact .inr (.inl rfl) | exact .inr (.inr rfl)))) (wd_or1 (t_isN (ed_call (ps := ["sides", "bounds"]) G_greatest_under (hr.mono (by decide)) rfl (ad_cons (ed_var 1 rfl (by first | exact .inl rfl | exact .inr (.inl rfl) | exact .inr (.inr rfl))) (ad_cons (r_tuple T rfl (ad_cons (ed_var 6 rfl (by first | exact .inl rfl | exact .inr (.inl rfl) | exact .inr (.inr rfl))) ad_nil)) ad_nil))) ed_non)))) (sd_one (sd_ret ed_bl)) sd_nil) (sd_one (sd_ret (ed_and (e_isB (ed_call (ps := ["sides", "lows", "highs"]) G_bounds_go (hr.mono (by decide)) rfl (ad_cons (ed_var 1 rfl (by first | exact .inl rfl | exact .inr (.inl rfl) | exact .inr (.inr rfl))) (ad_cons (ed_var 2 rfl (by first | exact .inl rfl | exact .inr (.inl rfl) | exact .inr (.inr rfl))) (ad_cons (r_tuple T rfl (ad_cons (ed_var 6 rfl (by first | exact .inl rfl | exact .inr (.inl rfl) | exact .inr (.inr rfl))) ad_nil)) ad_nil)))) ed_bl) (ed_one (e_isN (ed_call (ps := ["sides", "lows", "highs"]) G_bounds_paper (hr.mono (by decide)) rfl (ad_cons (ed_var 1 rfl (by first | exact .inl rfl | exact .inr (.inl rfl) | exact .inr (.inr rfl))) (ad_cons (ed_var 2 rfl (by first | exact .inl rfl | exact .inr (.inl rfl) | exact .inr (.inr rfl))) (ad_cons (r_tuple T rfl (ad_cons (ed_var 6 rfl (by first | exact .inl rfl | exact .inr (.inl rfl) | exact .inr (.inr rfl))) ad_nil)) ad_nil)))) ed_non))))))))))))))
end K6

end
-- text Der10
section
set_option Elab.async false
set_option linter.all false
set_option autoImplicit false
set_option maxRecDepth 100000
set_option maxHeartbeats 4000000

/-! Printed by gen2.py: derivations. -/
namespace K6
open PySem PySem.Spec PyProof.Rows L2
abbrev s_law : Stmt := topS 59
abbrev N_law : List Str := ["_law_script", "_law_cart_here", "_law_wide", "_law_unit", "_law_one_so", "_law_far"]
theorem sc_law : FnScope N_law ["_law_script"] (defScope s_law) := ⟨rfl, rfl, rfl, by decide +kernel, rfl, by decide +kernel, by decide +kernel⟩
theorem nd_law : N_law.Nodup := sc_law.nd
def e_wide : Expr := match (defBody s_law).getD 2 (.Pass ⟨0, 0, 0, 0⟩) with
  | .If (.BoolOp _ (.UnaryOp _ e _ :: _) _) _ _ _ => e
  | _ => .Constant .none 0 ⟨0, 0, 0, 0⟩
theorem d_law_for {CC : Nat → Addr} {P : Program} {w : World} {K : PySem.W.Frag} {mg : Str → Option Value} {base : Heap} {f : Addr} (T : Txt mg) (G_bounds_paper : FnD CC P w K mg base 5 "bounds_paper" ["sides", "lows", "highs"] f_bounds_paper) (G_greatest_under : FnD CC P w K mg base 4 "greatest_under" ["sides", "bounds"] f_greatest_under) (G_bounds_go : FnD CC P w K mg base 5 "bounds_go" ["sides", "lows", "highs"] f_bounds_go) (G_least_above : FnD CC P w K mg base 4 "least_above" ["sides", "bounds"] f_least_above) (G__law_lump : FnN P w K mg base 1 "_law_lump" "_law_cart_here" ["_law_size_so"] g_lump) (G__law_right : FnN P w K mg base 6 "_law_right" "_law_cart_here" ["_law_wide"] f__law_right) (G__law_wide_right : FnN P w K mg base 6 "_law_wide_right" "_law_cart_here" ["_law_wide"] f__law_wide_right) (cdv : Value) (A : Around) (outer : List Env) (s : Shared) (H : Hp) (E : XK) (hr : Room 6 (A.deeper (envOfC "law" (defScope s_law) s.heap.objs.size f cdv))) : NS (cxOf (L2N.CX P w) P w K mg base N_law "law" (defScope s_law) f cdv A outer s H E) 1 ((defBody s_law).getD 1 (.Pass ⟨0, 0, 0, 0⟩)) n_law_for :=
    (ns_for (passes_of rfl) rfl (ni_tup (ne_tup (na_cons (ne_op o_add b_add (ne_det ed_int) (ne_call (ps := ["_law_size_so"]) G__law_lump (hr.mono (by decide)) rfl rfl (by first | exact .inl rfl | exact .inr (.inl rfl) | exact .inr (.inr rfl)) (na_cons (ne_det ed_int) na_nil))) (na_cons (ne_op o_add b_add (ne_det ed_int) (ne_callTy call_int1 n_int rfl T.int bb_int (na_cons (ne_cmp (op_eqD hr.units) b_eq (nomk _) (ne_call (ps := ["_law_size_so"]) G__law_lump (hr.mono (by decide)) rfl rfl (by first | exact .inl rfl | exact .inr (.inl rfl) | exact .inr (.inr rfl)) (na_cons (ne_det ed_int) na_nil)) (ne_det ed_int)) na_nil))) na_nil)))) (by show (_ : Nat) ≠ _; decide) (ns_one (ns_if (nt_not (nt_val (ne_call (ps := ["_law_wide"]) G__law_right (hr.mono (by decide)) rfl rfl (by first | exact .inl rfl | exact .inr (.inl rfl) | exact .inr (.inr rfl)) (na_cons (ne_det (ed_var 2 rfl (by first | exact .inl rfl | exact .inr (.inl rfl) | exact .inr (.inr rfl)))) na_nil)))) (ns_one (ns_ret (ne_det ed_bl))) ns_nil)) (pg_name (i := 2) nd_law rfl (by first | exact .inl rfl | exact .inr rfl)))
theorem d_law_wide {CC : Nat → Addr} {P : Program} {w : World} {K : PySem.W.Frag} {mg : Str → Option Value} {base : Heap} {f : Addr} (T : Txt mg) (G_bounds_paper : FnD CC P w K mg base 5 "bounds_paper" ["sides", "lows", "highs"] f_bounds_paper) (G_greatest_under : FnD CC P w K mg base 4 "greatest_under" ["sides", "bounds"] f_greatest_under) (G_bounds_go : FnD CC P w K mg base 5 "bounds_go" ["sides", "lows", "highs"] f_bounds_go) (G_least_above : FnD CC P w K mg base 4 "least_above" ["sides", "bounds"] f_least_above) (G__law_lump : FnN P w K mg base 1 "_law_lump" "_law_cart_here" ["_law_size_so"] g_lump) (G__law_right : FnN P w K mg base 6 "_law_right" "_law_cart_here" ["_law_wide"] f__law_right) (G__law_wide_right : FnN P w K mg base 6 "_law_wide_right" "_law_cart_here" ["_law_wide"] f__law_wide_right) (cdv : Value) (A : Around) (outer : List Env) (s : Shared) (H : Hp) (E : XK) (hr : Room 6 (A.deeper (envOfC "law" (defScope s_law) s.heap.objs.size f cdv))) : NE (cxOf (L2N.CX P w) P w K mg base N_law "law" (defScope s_law) f cdv A outer s H E) 1 e_wide n_law_wide :=
    (ne_call (ps := ["_law_wide"]) G__law_wide_right (hr.mono (by decide)) rfl rfl (by first | exact .inl rfl | exact .inr (.inl rfl) | exact .inr (.inr rfl)) (na_cons (ne_op o_add b_add (ne_det ed_int) (ne_call (ps := ["_law_size_so"]) G__law_lump (hr.mono (by decide)) rfl rfl (by first | exact .inl rfl | exact .inr (.inl rfl) | exact .inr (.inr rfl)) (na_cons (ne_det ed_int) na_nil))) na_nil))
theorem d_law_tail {CC : Nat → Addr} {P : Program} {w : World} {K : PySem.W.Frag} {mg : Str → Option Value} {base : Heap} {f : Addr} (T : Txt mg) (G_bounds_paper : FnD CC P w K mg base 5 "bounds_paper" ["sides", "lows", "highs"] f_bounds_paper) (G_greatest_under : FnD CC P w K mg base 4 "greatest_under" ["sides", "bounds"] f_greatest_under) (G_bounds_go : FnD CC P w K mg base 5 "bounds_go" ["sides", "lows", "highs"] f_bounds_go) (G_least_above : FnD CC P w K mg base 4 "least_above" ["sides", "bounds"] f_least_above) (G__law_lump : FnN P w K mg base 1 "_law_lump" "_law_cart_here" ["_law_size_so"] g_lump) (G__law_right : FnN P w K mg base 6 "_law_right" "_law_cart_here" ["_law_wide"] f__law_right) (G__law_wide_right : FnN P w K mg base 6 "_law_wide_right" "_law_cart_here" ["_law_wide"] f__law_wide_right) (cdv : Value) (A : Around) (outer : List Env) (s : Shared) (H : Hp) (E : XK) (hr : Room 6 (A.deeper (envOfC "law" (defScope s_law) s.heap.objs.size f cdv))) : SDs CC E (cxOf (L2N.CX P w) P w K mg base N_law "law" (defScope s_law) f cdv A outer s H E) ((defBody s_law).drop 3) t_law :=
    (sd_cons (sd_bind (ed_tup (ad_cons (ed_tup (ad_cons (ed_tup (ad_cons ed_int (ad_cons ed_int (ad_cons ed_int ad_nil)))) (ad_cons (ed_tup (ad_cons ed_int (ad_cons ed_int (ad_cons ed_int ad_nil)))) (ad_cons (ed_tup (ad_cons ed_int (ad_cons ed_int (ad_cons ed_int ad_nil)))) ad_nil)))) (ad_cons (ed_tup (ad_cons (ed_tup (ad_cons ed_int (ad_cons ed_int (ad_cons ed_int ad_nil)))) (ad_cons (ed_tup (ad_cons ed_int (ad_cons ed_int (ad_cons ed_int ad_nil)))) (ad_cons (ed_tup (ad_cons ed_int (ad_cons ed_int (ad_cons ed_int ad_nil)))) ad_nil)))) ad_nil))) (bd_tup rfl (bds_cons (bd_name 3 nd_law rfl (by first | exact .inl rfl | exact .inr rfl)) (bds_cons (bd_name 4 nd_law rfl (by first | exact .inl rfl | exact .inr rfl)) bds_nil)))) (sd_cons (sd_if (WD.td (wd_or (t_ne hr (ed_call (ps := ["sides", "bounds"]) G_least_above (hr.mono (by decide)) rfl (ad_cons ed_int (ad_cons (ed_tup (ad_cons (ed_tup (ad_cons ed_int (ad_cons ed_int (ad_cons ed_int ad_nil)))) ad_nil)) ad_nil))) (ed_var 4 rfl (by first | exact .inl rfl | exact .inr (.inl rfl) | exact .inr (.inr rfl)))) (wd_or (t_ne hr (ed_call (ps := ["sides", "bounds"]) G_least_above (hr.mono (by decide)) rfl (ad_cons ed_int (ad_cons (ed_tup ad_nil) ad_nil))) (ed_var 3 rfl (by first | exact .inl rfl | exact .inr (.inl rfl) | exact .inr (.inr rfl)))) (wd_or1 (t_notN (ed_call (ps := ["sides", "bounds"]) G_least_above (hr.mono (by decide)) rfl (ad_cons ed_int (ad_cons (ed_tup (ad_cons (ed_tup (ad_cons ed_int (ad_cons ed_int (ad_cons ed_int ad_nil)))) ad_nil)) ad_nil))) ed_non))))) (sd_one (sd_ret ed_bl)) sd_nil) (sd_cons (sd_if (t_ne hr (ed_call (ps := ["sides", "bounds"]) G_least_above (hr.mono (by decide)) rfl (ad_cons ed_int (ad_cons (ed_tup (ad_cons (ed_tup (ad_cons ed_int (ad_cons ed_int (ad_cons ed_int ad_nil)))) (ad_cons (ed_tup (ad_cons ed_int (ad_cons ed_int (ad_cons ed_int ad_nil)))) ad_nil))) ad_nil))) (ed_tup (ad_cons (ed_tup (ad_cons ed_int (ad_cons ed_int (ad_cons ed_int ad_nil)))) (ad_cons (ed_tup (ad_cons ed_int (ad_cons (r_neg ed_int) (ad_cons ed_int ad_nil)))) (ad_cons (ed_tup (ad_cons ed_int (ad_cons ed_int (ad_cons ed_int ad_nil)))) ad_nil))))) (sd_one (sd_ret ed_bl)) sd_nil) (sd_cons (sd_if (t_ne hr (ed_call (ps := ["sides", "bounds"]) G_greatest_under (hr.mono (by decide)) rfl (ad_cons ed_int (ad_cons (ed_tup (ad_cons (ed_tup (ad_cons ed_int (ad_cons ed_int (ad_cons ed_int ad_nil)))) ad_nil)) ad_nil))) (ed_tup (ad_cons (ed_tup (ad_cons ed_int (ad_cons ed_int (ad_cons ed_int ad_nil)))) (ad_cons (ed_tup (ad_cons ed_int (ad_cons ed_int (ad_cons ed_int ad_nil)))) (ad_cons (ed_tup (ad_cons ed_int (ad_cons ed_int (ad_cons ed_int ad_nil)))) ad_nil))))) (sd_one (sd_ret ed_bl)) sd_nil) (sd_cons (sd_if (t_notB (ed_call (ps := ["sides", "lows", "highs"]) G_bounds_go (hr.mono (by decide)) rfl (ad_cons ed_int (ad_cons (ed_tup (ad_cons (ed_tup (ad_cons ed_int (ad_cons ed_int (ad_cons ed_int ad_nil)))) ad_nil)) (ad_cons (ed_tup (ad_cons (ed_tup (ad_cons ed_int (ad_cons ed_int (ad_cons ed_int ad_nil)))) ad_nil)) ad_nil)))) ed_bl) (sd_one (sd_ret ed_bl)) sd_nil) (sd_cons (sd_set 5 nd_law rfl (by first | exact .inl rfl | exact .inr rfl) (xd_dat (ed_call (ps := ["sides", "bounds"]) G_greatest_under (hr.mono (by decide)) rfl (ad_cons ed_int (ad_cons (ed_tup ad_nil) ad_nil))))) (sd_cons (sd_if (WD.td (wd_or (t_ne hr (ed_ix (ed_ix (ed_var 5 rfl (by first | exact .inl rfl | exact .inr (.inl rfl) | exact .inr (.inr rfl))) ed_int) ed_int) ed_int) (wd_or1 (t_ne hr (ed_call (ps := ["sides", "lows", "highs"]) G_bounds_paper (hr.mono (by decide)) rfl (ad_cons ed_int (ad_cons (ed_tup (ad_cons (ed_tup (ad_cons ed_int (ad_cons ed_int (ad_cons ed_int ad_nil)))) ad_nil)) (ad_cons (ed_tup (ad_cons (ed_tup (ad_cons ed_int (ad_cons ed_int (ad_cons ed_int ad_nil)))) ad_nil)) ad_nil)))) (ed_tup (ad_cons ed_int (ad_cons ed_int ad_nil))))))) (sd_one (sd_ret ed_bl)) sd_nil) (sd_one (sd_ret (ed_and (e_eq hr (ed_call (ps := ["sides", "lows", "highs"]) G_bounds_paper (hr.mono (by decide)) rfl (ad_cons ed_int (ad_cons (ed_tup (ad_cons (ed_tup (ad_cons ed_int (ad_cons ed_int (ad_cons ed_int ad_nil)))) (ad_cons (ed_tup (ad_cons ed_int (ad_cons ed_int (ad_cons ed_int ad_nil)))) ad_nil))) (ad_cons (ed_tup ad_nil) ad_nil)))) (ed_tup (ad_cons ed_int (ad_cons ed_non ad_nil)))) (ed_one (e_isN (ed_call (ps := ["sides", "lows", "highs"]) G_bounds_paper (hr.mono (by decide)) rfl (ad_cons ed_int (ad_cons (ed_tup ad_nil) (ad_cons (ed_tup ad_nil) ad_nil)))) ed_non))))))))))))
end K6

end
-- text Ca
section
set_option Elab.async false
set_option linter.all false
set_option autoImplicit false
set_option maxRecDepth 100000
set_option maxHeartbeats 4000000
/-! The cart: its making and its draws, by hand. -/
namespace K6
open PySem PySem.Spec PyProof.Rows L2
abbrev s__law_lump : Stmt := topS 44
abbrev N__law_lump : List Str := ["_law_cart_here", "_law_size_so", "_law_part", "_law_far"]
theorem sc__law_lump : FnScope N__law_lump ["_law_cart_here", "_law_size_so"] (defScope s__law_lump) := ⟨rfl, rfl, rfl, by decide +kernel, rfl, by decide +kernel, by decide +kernel⟩
theorem nd__law_lump : N__law_lump.Nodup := sc__law_lump.nd
/-- the readings' parts -/
def tCell (K : PySem.W.Frag) (i : Int) : TE := tOp (rIxL K) (tVar 0) (tC (.int i))
theorem cell_read {K : PySem.W.Frag} {a : Addr} {H : Hp} {c0 c1 : Int} (h : H a = some (.lst [.int c0, .int c1])) {i : Int} {c : Int} (hi : atI [V.int c0, V.int c1] i = some (.int c)) {σ : L2.St} (h0 : σ[0]? = some (some (.ref a))) {Q : VK} (q : Q (.int c) H) : tCell K i σ H Q :=
  ⟨.ref a, h0, a, _, i, .int c, rfl, rfl, .inl (.inl h), hi, q⟩
theorem gc_put {a : Addr} {F H : Hp} {c0 c1 : Int} (ok : CartOk c0 c1) (s : Same F (del H a)) : Gc Cart a F H F (upd H a (.lst [.int c0, .int c1])) :=
  ⟨by rw [del_upd]; exact Grow.refl s, c0, c1, ok, upd_same⟩
theorem d__law_lump {P : Program} {w : World} {K : PySem.W.Frag} {mg : Str → Option Value} {base : Heap} {f : Addr} {fd : FuncData} (T : Txt mg) (F : Fun K "_law_lump" "_law_lump" s__law_lump f fd) (hm : mg "_law_lump" = some (.ref f)) (hb : Binds K fd ["_law_cart_here", "_law_size_so"] []) :
    FnN P w K mg base 1 "_law_lump" "_law_cart_here" ["_law_size_so"] g_lump := by
  obtain ⟨oc, od, kV, doc, pm, an, cdv, ct, osl, rfl, lk, hcd⟩ := F.ex
  refine ⟨⟨f, _, fn_of lk hcd sc__law_lump (fun vs H Q E h => ?_) (fun A outer s H vs Q E hr h => ?_), hm, F.kp, hb⟩⟩
  · obtain ⟨a, vs', ds, F, Φ, rfl, _, _, dv, e, _⟩ := h
    rw [List.length_cons, List.length_cons, dv.length, e]
  · obtain ⟨a, vs', ds, F, Φ, rfl, ⟨c0, c1, ok, hc⟩, sF, dv, e, hg, hp⟩ := h
    obtain ⟨k, rfl, k1, k2, hΦ⟩ := hg
    cases dv with
    | cons d0 dr =>
    cases dr
    rw [rI_data d0]
    have ci : ∀ {H : Hp} {c0 c1 : Int} {σ : L2.St} (h : H a = some (.lst [.int c0, .int c1])) (h0 : σ[0]? = some (some (.ref a))) {Q : VK} (q : Q (.int c0) H), tCell K 0 σ H Q := fun {H c0 c1 σ} h h0 {Q} q => cell_read h rfl h0 q
    have ci1 : ∀ {H : Hp} {c0 c1 : Int} {σ : L2.St} (h : H a = some (.lst [.int c0, .int c1])) (h0 : σ[0]? = some (some (.ref a))) {Q : VK} (q : Q (.int c1) H), tCell K 1 σ H Q := fun {H c0 c1 σ} h h0 {Q} q => cell_read h rfl h0 q
    refine ⟨_, pss_cons (ps_if (pt_cmpR op_gt (pe_ix ix_list (pe_var (i := 0) rfl (by first | exact .inl rfl | exact .inr (.inl rfl) | exact .inr (.inr rfl))) pe_int fun _ _ => rfl) pe_int (nomk _))
        (pss_cons (ps_set (i := 2) nd__law_lump rfl (by first | exact .inl rfl | exact .inr rfl) (pe_op op_mod (pe_callTy call_int1 rfl T.int bb_int (pa_cons (pe_ix ix_list (pe_var (i := 0) rfl (by first | exact .inl rfl | exact .inr (.inl rfl) | exact .inr (.inr rfl))) pe_int fun _ _ => rfl) pa_nil)) (pe_var (i := 1) rfl (by first | exact .inl rfl | exact .inr (.inl rfl) | exact .inr (.inr rfl)))))
        (pss_cons (ps_asg (pe_op op_fdiv (pe_ix ix_list (pe_var (i := 0) rfl (by first | exact .inl rfl | exact .inr (.inl rfl) | exact .inr (.inr rfl))) pe_int fun _ _ => rfl) (pe_var (i := 1) rfl (by first | exact .inl rfl | exact .inr (.inl rfl) | exact .inr (.inr rfl)))) (pg_sub (pe_var (i := 0) rfl (by first | exact .inl rfl | exact .inr (.inl rfl) | exact .inr (.inr rfl))) pe_int set_list))
        (pss_one (ps_ret (pe_var (i := 2) rfl (by first | exact .inl rfl | exact .inr (.inl rfl) | exact .inr (.inr rfl))))))) pss_nil)
      (pss_cons (ps_asg (pe_op op_mod (pe_callTy call_int1 rfl T.int bb_int (pa_cons (pe_op op_add (pe_op op_mul (pe_ix ix_list (pe_var (i := 0) rfl (by first | exact .inl rfl | exact .inr (.inl rfl) | exact .inr (.inr rfl))) pe_int fun _ _ => rfl) pe_int) pe_int) pa_nil)) pe_int) (pg_sub (pe_var (i := 0) rfl (by first | exact .inl rfl | exact .inr (.inl rfl) | exact .inr (.inr rfl))) pe_int set_list))
      (pss_cons (ps_set (i := 3) nd__law_lump rfl (by first | exact .inl rfl | exact .inr rfl) (pe_op op_mod (pe_callTy call_int1 rfl T.int bb_int (pa_cons (pe_op op_mul (pe_ix ix_list (pe_var (i := 0) rfl (by first | exact .inl rfl | exact .inr (.inl rfl) | exact .inr (.inr rfl))) pe_int fun _ _ => rfl) (pe_op op_add (pe_op op_fdiv (pe_ix ix_list (pe_var (i := 0) rfl (by first | exact .inl rfl | exact .inr (.inl rfl) | exact .inr (.inr rfl))) pe_int fun _ _ => rfl) pe_int) pe_int)) pa_nil)) pe_int))
      (pss_one (ps_ret (pe_op op_mod (pe_callTy call_int1 rfl T.int bb_int (pa_cons (pe_op op_fdiv (pe_var (i := 3) rfl (by first | exact .inl rfl | exact .inr (.inl rfl) | exact .inr (.inr rfl))) pe_int) pa_nil)) (pe_var (i := 1) rfl (by first | exact .inl rfl | exact .inr (.inl rfl) | exact .inr (.inr rfl)))))))), ?_⟩
    refine ci hc rfl ?_
    refine ⟨c0, 0, rfl, rfl, _, rfl, ?_⟩
    by_cases q : c0 > 0
    · rw [decide_eq_true q]
      refine iteT ?_
      refine ci hc rfl (.inl ⟨c0, rfl, .int k, rfl, c0, k, rfl, rfl, by omega, ?_⟩)
      refine ci hc rfl ⟨.int k, rfl, c0, k, rfl, rfl, ⟨by omega, by omega⟩, ?_⟩
      refine ⟨.ref a, rfl, a, _, 0, 0, rfl, rfl, hc, rfl, ?_⟩
      refine ⟨.int (c0 % k), rfl, ?_⟩
      refine hp (.int (c0 % k)) _ F _ (hΦ _ (Int.emod_nonneg _ (by omega)) (Int.emod_lt_of_pos _ (by omega))) (gc_put (c0 := c0 / k) (c1 := c1) ⟨Int.ediv_nonneg (by omega) (by omega), ok.lo, ok.hi⟩ sF) (.int _)
    · rw [decide_eq_false q]
      refine iteF ?_
      have m0 : 0 ≤ (c1 * 40639 + 4447) % 2147480969 := Int.emod_nonneg _ (by decide)
      have m1 : (c1 * 40639 + 4447) % 2147480969 < 2147480969 := Int.emod_lt_of_pos _ (by decide)
      have hc' : upd H a (.lst [.int c0, .int ((c1 * 40639 + 4447) % 2147480969)]) a = some (.lst [.int c0, .int ((c1 * 40639 + 4447) % 2147480969)]) := upd_same
      have l1 := ok.lo
      have l2 := ok.hi
      refine ci1 hc rfl ⟨c1, 40639, rfl, rfl, .inr ⟨by decide, by decide⟩, _, _, rfl, rfl, .inl ⟨_, rfl, _, _, rfl, rfl, (by show (0 : Int) < _; decide), ?_⟩⟩
      refine ⟨.ref a, rfl, a, _, 1, 1, rfl, rfl, hc, rfl, ?_⟩
      refine ci1 hc' rfl (ci1 hc' rfl ⟨_, _, rfl, rfl, ⟨by decide, by decide⟩, _, _, rfl, rfl, _, _, rfl, rfl, .inl ⟨by omega, by omega⟩, .inl ⟨_, rfl, _, _, rfl, rfl, (by show (0 : Int) < _; decide), ?_⟩⟩)
      refine ⟨_, rfl, _, _, rfl, rfl, ⟨by decide, by decide⟩, .inl ⟨_, rfl, .int k, rfl, _, k, rfl, rfl, by omega, ?_⟩⟩
      exact hp (.int _) _ F _ (hΦ _ (Int.emod_nonneg _ (by omega)) (Int.emod_lt_of_pos _ (by omega))) (gc_put ⟨ok.z, m0, by omega⟩ sF) (.int _)
end K6

end
-- text Ca2
section
set_option Elab.async false
set_option linter.all false
set_option autoImplicit false
set_option maxRecDepth 100000
set_option maxHeartbeats 4000000
/-! The cart's making. -/
namespace K6
open PySem PySem.Spec PyProof.Rows L2
def dPow : PyData → PyData → Option PyData
  | .int i, .int j => if 0 ≤ j ∧ j ≤ 1000 ∧ i.natAbs < 2 ^ 64 then some (.int (i ^ j.toNat)) else none
  | _, _ => none
theorem b_pow : Bin2 (rI CPow fun i j => .int (i ^ j.toNat)) dPow := by
  intro u w x y d F H e d1 d2 s Q q
  unfold dPow at e
  split at e
  · split at e
    · rename_i i j hc
      cases e
      exact ⟨i, j, rI_data d1, rI_data d2, ⟨hc.1, Int.le_trans hc.2.1 (by decide), hc.2.2⟩, q _ F H (Grow.refl s) (.int _)⟩
    · cases e
  · cases e
abbrev s__law_cart : Stmt := topS 43
abbrev N__law_cart : List Str := ["_law_script", "_law_cell"]
theorem sc__law_cart : FnScope N__law_cart ["_law_script"] (defScope s__law_cart) := ⟨rfl, rfl, rfl, by decide +kernel, rfl, by decide +kernel, by decide +kernel⟩
theorem nd__law_cart : N__law_cart.Nodup := sc__law_cart.nd
def spCart (K : PySem.W.Frag) : Sp := fun vs H Q E => ∃ (a : Addr) (ns : List Int), vs = [.ref a] ∧ SqL K H a (ns.map V.int) ∧ ns.length ≤ 63 ∧ ∀ b H', Cart b H' → Same H H' → H b = none → Q (.ref b) H'
def e_cart : EM := eLst (aCons (eIf (tOf (eBin dGe (eVar 1) (eBin dPow (eC (.int 10)) (eC (.int 18))))) (eVar 1) (eC (.int 0))) (aCons (eBin dAdd (eBin dMod (eCB dInt (aCons (eBin dAdd (eBin dMul (eVar 1) (eC (.int 317))) (eC (.int 12211))) aNil)) (eC (.int 2147480969))) (eC (.int 1))) aNil))
theorem v_lst2 {f g : EM} {ρ : En} {x y : PyData} (hf : f ρ = some x) (hg : g ρ = some y) : eLst (aCons f (aCons g aNil)) ρ = some (.list [x, y]) := by
  show bind1 (bind1 (f ρ) fun x => bind1 (bind1 (g ρ) _) _) _ = _
  rw [hf]
  show bind1 (bind1 (bind1 (g ρ) _) _) _ = _
  rw [hg]
  rfl
theorem cart_val (c : Int) (hc : 0 ≤ c) : ∃ c0 c1, CartOk c0 c1 ∧ e_cart [.no, .dat (.int c)] = some (.list [.int c0, .int c1]) := by
  refine ⟨if (10 : Int) ^ 18 ≤ c then c else 0, (c * 317 + 12211) % 2147480969 + 1, ⟨?_, ?_, ?_⟩, ?_⟩
  · show 0 ≤ (if (10 : Int) ^ 18 ≤ c then c else 0)
    split
    · exact hc
    · exact Int.le_refl _
  · have := Int.emod_nonneg (c * 317 + 12211) (show (2147480969 : Int) ≠ 0 by decide)
    omega
  · have := Int.emod_lt_of_pos (c * 317 + 12211) (show (0 : Int) < 2147480969 by decide)
    omega
  · refine v_lst2 ?_ (v_bin (v_bin (v_cb1 (v_bin (v_bin (x := .int c) (y := .int 317) rfl rfl (if_pos (.inr ⟨by decide, by decide⟩))) rfl rfl) rfl) rfl rfl) rfl rfl)
    show bind1 (some (decide ((10 : Int) ^ 18 ≤ c))) _ = _
    by_cases q : (10 : Int) ^ 18 ≤ c
    · rw [decide_eq_true q, if_pos q]
      rfl
    · rw [decide_eq_false q, if_neg q]
      rfl
theorem d__law_cart {P : Program} {w : World} {K : PySem.W.Frag} {mg : Str → Option Value} {base : Heap} {f : Addr} {fd : FuncData} (T : Txt mg) (F : Fun K "_law_cart" "_law_cart" s__law_cart f fd) (hm : mg "_law_cart" = some (.ref f)) (hb : Binds K fd ["_law_script"] []) :
    FnOk P w K mg base (L2N.CX P w) 1 f fd ["_law_script"] (spCart K) := by
  obtain ⟨oc, od, kV, doc, pm, an, cdv, ct, osl, rfl, lk, hcd⟩ := F.ex
  refine fn_of lk hcd sc__law_cart (fun vs H Q E h => ?_) (fun A outer s H vs Q E hr h => ?_)
  · obtain ⟨a, ns, rfl, _⟩ := h
    rfl
  · obtain ⟨a, ns, rfl, hS, hl, hp⟩ := h
    have D : ED (cxOf (L2N.CX P w) P w K mg base N__law_cart "_law_cart" (defScope s__law_cart) f cdv A outer s H E) (match (defBody s__law_cart).getD 1 (.Pass ⟨0, 0, 0, 0⟩) with
      | .Return (some e) _ => e
      | _ => .Constant .none 0 ⟨0, 0, 0, 0⟩) e_cart :=
      ed_lst (ad_cons (ed_if (t_ge (ed_var 1 rfl (by first | exact .inl rfl | exact .inr (.inl rfl) | exact .inr (.inr rfl))) (ed_op op_pow b_pow ed_int ed_int)) (ed_var 1 rfl (by first | exact .inl rfl | exact .inr (.inl rfl) | exact .inr (.inr rfl))) ed_int)
        (ad_cons (r_add (r_mod (r_int T rfl (ad_cons (r_add (r_mul (ed_var 1 rfl (by first | exact .inl rfl | exact .inr (.inl rfl) | exact .inr (.inr rfl))) ed_int) ed_int) ad_nil)) ed_int) ed_int) ad_nil))
    obtain ⟨t, pt, et⟩ := D.ex
    refine ⟨_, pss_cons (ps_set (i := 1) nd__law_cart rfl (by first | exact .inl rfl | exact .inr rfl) (pe_callB call_abs rfl T.abs bb_abs (pa_cons (pe_callTy call_int1 rfl T.int bb_int (pa_cons (pe_ix ix_list (pe_op op_cat (pe_callTy call_list_of rfl T.list bb_list (pa_cons (pe_var (i := 0) rfl (by first | exact .inl rfl | exact .inr (.inl rfl) | exact .inr (.inr rfl))) pa_nil)) (pe_lst (pa_cons pe_int pa_nil))) pe_int fun _ _ => rfl) pa_nil)) pa_nil)))
      (pss_one (ps_ret pt)), ?_⟩
    refine ⟨.ref a, rfl, a, ns.map V.int, rfl, .inl hS, fun l hl' => ⟨by show 1 ≤ sizeLine; decide, fun p hp' => ?_⟩⟩
    have hlp : l ≠ p := fun z => by
      rw [← z, upd_same] at hp'
      cases hp'
    refine ⟨l, p, ns.map V.int, [.int 0], rfl, rfl, by rw [upd_ne hlp]; exact upd_same, upd_same, by rw [List.length_map]; exact small (show ns.length + 1 ≤ 1000 by omega), fun z hz => ?_⟩
    obtain ⟨v, hv⟩ : ∃ i : Int, atI (ns.map V.int ++ [V.int 0]) 0 = some (.int i) := by
      cases ns with
      | nil => exact ⟨0, rfl⟩
      | cons n ns => exact ⟨n, atI_nat (j := 0) rfl⟩
    refine ⟨z, _, 0, .int v, rfl, rfl, .inl (.inl upd_same), hv, .inl ⟨v, rfl, v, rfl, ?_⟩⟩
    obtain ⟨c0, c1, ok, ec⟩ := cart_val (if v < 0 then -v else v) (by split <;> omega)
    refine et [.no, .dat (.int (if v < 0 then -v else v))] _ ec _ (fun _ => none) _ ⟨rfl, (fun b o e => nomatch e), fun i d h => ?_, fun i ds h => ?_, fun i j ds es b _ h => ?_⟩ _ fun u F1 H1 g1 d1 => ?_
    · cases i with
      | zero => cases h
      | succ i =>
        cases i with
        | zero =>
          cases h
          exact ⟨_, rfl, .int _⟩
        | succ i => cases h
    · cases i with
      | zero => cases h
      | succ i =>
        cases i with
        | zero => cases h
        | succ i => cases h
    · cases i with
      | zero => cases h
      | succ i =>
        cases i with
        | zero => cases h
        | succ i => cases h
    · cases d1 with
      | lst h r =>
        have e := Dvs.ints (ns := [c0, c1]) r
        subst e
        have sz := ((same_upd (o := .lst (ns.map V.int)) hl').trans (same_upd (o := .lst [.int 0]) hp')).trans (same_upd (o := .lst (ns.map V.int ++ [.int 0])) hz)
        refine hp _ H1 ⟨c0, c1, ok, g1.sub _ _ h⟩ (sz.trans g1.h) (sz.free ?_)
        rename_i b0
        cases e : (upd (upd (upd H l (.lst (ns.map V.int))) p (.lst [.int 0])) z (.lst (ns.map V.int ++ [.int 0]))) b0 with
        | none => rfl
        | some o =>
          have y := g1.old b0 (by rw [e]; simp)
          rw [h] at y
          cases y
end K6

end
-- text Ho1
section
set_option Elab.async false
set_option linter.all false
set_option autoImplicit false
set_option maxRecDepth 100000
set_option maxHeartbeats 4000000
/-! Iterators that come to their end while an exception is handled. -/
namespace K6H
open PySem PySem.Spec PyProof.Rows L2 HotX
section
variable {prog : Program} {w : World} {A : Around} {E : Value → Shared → Prop} {s : Shared}
/-- a StopIteration is made and raised, its context the handled exception -/
theorem stop_hot {α : Type} {x1 : Addr} {Q : α → Shared → Prop} (hot : HotAt A x1 s.heap) (hE : ∀ h' e, (∀ b o, s.heap.get? b = some o → h'.get? b = some o) → (∃ o, h'.get? e = some o ∧ o.cls = .type "StopIteration") → E (.ref e) { s with heap := h' }) :
    wpAny (model prog w) A (newExc (.type "StopIteration") [] >>= fun e => (raiseNew e : Sem α)) Q E s := by
  obtain ⟨hh, oX, vX, gX, dX, cX⟩ := hot
  refine wpAny_bind ?_
  simp only [newExc, newTuple]
  refine wpAny_bind (wpAny_newObj_type ?_ (by size_fits))
  refine wpAny_bind (m := firstArgMember _ _) (wpAny_of_eq (a := Value.none) (by first | rfl | (simp only [firstArgMember]; rfl)) (wpAny_newObj_type ?_ (by size_fits)))
  have gX2 := Heap.get?_push_of_some { cls := .type "tuple", data := .seq ([] : List Value).toArray } gX
  refine raiseNew_hot ⟨hh, oX, vX, Heap.get?_push_of_some _ gX2, dX, cX⟩ (Nat.ne_of_lt (Heap.lt_size gX2)) (Heap.get?_push_size _ rfl) rfl (by first | (simp; done) | (simp; omega) | (simp only [Array.size_append]; simp; omega)) (hE _ _ (fun b o q => ?_) ⟨_, Heap.get?_update_self _ (Heap.get?_push_size _ rfl) rfl, rfl⟩)
  have q2 := Heap.get?_push_of_some { cls := .type "tuple", data := .seq ([] : List Value).toArray } q
  rw [Heap.get?_update_other _ _ (Nat.ne_of_gt (Heap.lt_size q2))]
  exact Heap.get?_push_of_some _ q2
theorem HotAt.keep {x1 : Addr} {h h' : Heap} (c : HotAt A x1 h) (k : ∀ o, h.get? x1 = some o → h'.get? x1 = some o) : HotAt A x1 h' := by
  obtain ⟨hh, oX, vX, gX, dX, cX⟩ := c
  exact ⟨hh, oX, vX, k _ gX, dX, cX⟩
theorem list_end_hot {I l x1 : Addr} {n : Nat} {its : Array Value} {Q : Value → Shared → Prop} (hot : HotAt A x1 s.heap) (hne : x1 ≠ I) (hI : s.heap.IsListIter I l n) (hL : s.heap.IsList l its) (hz : its[n]? = none)
    (hE : ∀ h' e, (∀ b o, b ≠ I → s.heap.get? b = some o → h'.get? b = some o) → (∃ o, h'.get? e = some o ∧ o.cls = .type "StopIteration") → E (.ref e) { s with heap := h' }) :
    wpAny (model prog w) A (Builtin.SmallTypes.nextOf (.ref I)) Q E s := by
  obtain ⟨oI, gI, cI, dI⟩ := id hI
  obtain ⟨oL, gL, _, nL, dL⟩ := hL
  unfold Builtin.SmallTypes.nextOf
  refine wpAny_bind (wpAny_callSpecial?_slot (name := Str.ofString "__next__") hI.typeIs slot_listiter_next (wpAny_call_entry slot_listiter_next hI.typeIs entry_listiter_next ?_ (args_listiter_next _)))
  show wpAny _ _ (field (.ref I) 0 >>= _) _ _ _
  refine wpAny_bind (wpAny_field gI dI (x := .ref l) rfl ?_)
  show wpAny _ _ (if (Value.ref l == Value.none) = true then _ else _) _ _ _
  rw [if_neg (show ¬ ((Value.ref l == Value.none) = true) by exact Bool.false_ne_true)]
  show wpAny _ _ (field (.ref I) 1 >>= _) _ _ _
  refine wpAny_bind (wpAny_field gI dI (x := .int n 0) rfl ?_)
  show wpAny _ _ (seqItems? (.ref l) >>= _) _ _ _
  refine wpAny_bind (wpAny_seqItems gL dL ?_)
  simp only [Int.toNat_natCast, hz]
  refine wpAny_bind (wpAny_rule (wpAny_bind (wpAny_setField gI dI (by simp) ?_)))
  have up : ∀ b o, b ≠ I → s.heap.get? b = some o → (s.heap.update I (Obj.mapFields (·.setIfInBounds 0 Value.none))).get? b = some o := fun b o hb q => (Heap.get?_update_other _ _ (Ne.symm hb)).trans q
  refine stop_hot (HotAt.keep hot fun o q => up x1 o hne q) fun h' e k he => hE h' e (fun b o hb q => k b o (up b o hb q)) he
/-- zip's end: the first list is at its end -/
theorem zip_end_hot {z tI tO I1 I2 l1 l2 x1 : Addr} {n1 : Nat} {xs : Array Value} {Q : Option Value → Shared → Prop} (hot : HotAt A x1 s.heap) (nz : x1 ≠ z) (n1' : x1 ≠ I1) (D : ZipApart z tI tO I1 I2 l1 l2)
    (hz : IsZip s.heap z tI tO .none) (hTI : IsPair s.heap tI (.ref I1) (.ref I2)) (hI : s.heap.IsListIter I1 l1 n1) (hL : s.heap.IsList l1 xs) (hend : xs[n1]? = none)
    (hQ : ∀ h', (∀ c o, c ≠ z → c ≠ I1 → s.heap.get? c = some o → h'.get? c = some o) → Q none { s with heap := h' }) : wpAny (model prog w) A (pyNext (.ref z)) Q E s := by
  have ty : s.TypeIs (.ref z) "zip" := ⟨_, hz, rfl⟩
  unfold pyNext
  refine wpAny_bind (wpAny_attempt (wpAny_callSpecial?_slot (name := Str.ofString "__next__") ty F.slot_zip_next (wpAny_call_entry F.slot_zip_next ty F.entry_zip_next ?_ (F.args_zip_next_1 _))))
  show wpAny _ _ (field (.ref z) 2 >>= _) _ _ s
  refine wpAny_bind (wpAny_field (x := .bool false) hz rfl rfl ?_)
  show wpAny _ _ (field (.ref z) 3 >>= _) _ _ s
  refine wpAny_bind (wpAny_field (x := .ref tI) hz rfl rfl (wpAny_bind (wpAny_seqItems hTI rfl ?_)))
  show wpAny _ _ (Builtin.SmallTypes.ownedTupleIsFree (.ref z) >>= _) _ _ s
  refine wpAny_bind ?_
  unfold Builtin.SmallTypes.ownedTupleIsFree
  refine wpAny_bind (wpAny_field (x := .none) hz rfl rfl (wpAny_pure ?_))
  simp only [if_true]
  refine wpAny_bind (wpAny_rule (wpAny_bind (wpAny_field (x := .ref tO) hz rfl rfl ?_)))
  refine wpAny_bind (wpAny_setField_rec hz (by simp) fun hA hzA sbA => wpAny_bind ?_)
  simp only [List.zipIdx_cons, List.zipIdx_nil, List.forIn_cons, List.forIn_nil]
  refine wpAny_bind (wpAny_bind (wpAny_onRaise ?_))
  show wpAny _ _ (Builtin.SmallTypes.nextOf (.ref I1) >>= _) _ _ _
  have upA : ∀ c o, c ≠ z → s.heap.get? c = some o → hA.get? c = some o := fun c o q e => sbA.extBut _ _ q e
  refine wpAny_bind (list_end_hot (A := A.in1) (HotAt.keep hot fun o q => upA x1 o nz q) n1' (hI.extBut sbA.extBut D.i1z) (hL.extBut sbA.extBut D.l1z) hend fun hB e kB he => ?_)
  obtain ⟨oe, ge, ce⟩ := he
  have hzB : hB.get? z = some _ := kB _ _ D.i1z.symm hzA
  have ez : e ≠ z := fun q => by
    rw [q, hzB] at ge
    cases ge
    simp at ce
  refine wpAny_setField_rec hzB (by simp) fun hC _ sbC => ?_
  have upC : ∀ c o, c ≠ z → c ≠ I1 → s.heap.get? c = some o → hC.get? c = some o := fun c o q1 q2 q => sbC.extBut _ _ q1 (kB _ _ q2 (upA c o q1 q))
  exact wpAny_bind (wpAny_isInstance (T := "StopIteration") (b := true) ⟨oe, sbC.extBut _ _ ez ge, ce⟩ isSubtype_stop (wpAny_pure (hQ _ upC)))
/-- a tuple's iterator at its end -/
theorem tup_end_hot {I t x1 : Addr} {n : Nat} {its : Array Value} {Q : Option Value → Shared → Prop} (hot : HotAt A x1 s.heap) (hne : x1 ≠ I) (hI : IsTupIter s.heap I t n) (hT : IsTup s.heap t its) (hz : its[n]? = none)
    (hQ : ∀ h', (∀ b o, b ≠ I → s.heap.get? b = some o → h'.get? b = some o) → Q none { s with heap := h' }) : wpAny (model prog w) A (pyNext (.ref I)) Q E s := by
  obtain ⟨oI, gI, cI, dI⟩ := id hI
  obtain ⟨oL, gL, _, nL, dL⟩ := hT
  unfold pyNext
  refine wpAny_bind (wpAny_attempt (wpAny_callSpecial?_slot (name := Str.ofString "__next__") hI.typeIs slot_tupleiter_next (wpAny_call_entry slot_tupleiter_next hI.typeIs entry_tupleiter_next ?_ (args_tupleiter_next _))))
  show wpAny _ _ (field (.ref I) 0 >>= _) _ _ _
  refine wpAny_bind (wpAny_field gI dI (x := .ref t) rfl ?_)
  show wpAny _ _ (if (Value.ref t == Value.none) = true then _ else _) _ _ _
  rw [if_neg (show ¬ ((Value.ref t == Value.none) = true) by exact Bool.false_ne_true)]
  show wpAny _ _ (field (.ref I) 1 >>= _) _ _ _
  refine wpAny_bind (wpAny_field gI dI (x := .int n 0) rfl ?_)
  show wpAny _ _ (seqItems? (.ref t) >>= _) _ _ _
  refine wpAny_bind (wpAny_seqItems gL dL ?_)
  simp only [Int.toNat_natCast, hz]
  refine wpAny_bind (wpAny_rule (wpAny_bind (wpAny_setField gI dI (by simp) ?_)))
  have up : ∀ b o, b ≠ I → s.heap.get? b = some o → (s.heap.update I (Obj.mapFields (·.setIfInBounds 0 Value.none))).get? b = some o := fun b o hb q => (Heap.get?_update_other _ _ (Ne.symm hb)).trans q
  refine stop_hot (A := A.in1) (HotAt.keep hot fun o q => up x1 o hne q) fun h' e k he => ?_
  obtain ⟨oe, ge, ce⟩ := he
  exact wpAny_bind (wpAny_isInstance (T := "StopIteration") (b := true) ⟨oe, ge, ce⟩ isSubtype_stop (wpAny_pure (hQ _ fun b o hb q => k b o (up b o hb q))))
/-- a, b = t -/
theorem unpack_hot {t x1 : Addr} {its : Array Value} {Q : List Value → Shared → Prop} (hot : HotAt A x1 s.heap) (hT : IsTup s.heap t its)
    (hQ : ∀ h', (∀ b o, s.heap.get? b = some o → h'.get? b = some o) → Q its.toList { s with heap := h' }) : wpAny (model prog w) A (unpackItems (.ref t) its.size none) Q E s := by
  have lt : t ≠ s.heap.objs.size := by
    obtain ⟨o, ho, _⟩ := hT
    exact Nat.ne_of_lt (Heap.lt_size ho)
  unfold unpackItems
  refine wpAny_bind ?_
  unfold notIterableAtAll
  refine wpAny_bind (wpAny_specialOf hT.typeIs slot_tuple_iter.lookup (wpAny_pure ?_))
  simp only [Bool.false_eq_true, if_false]
  refine wpAny_bind (wpAny_holding (iter_tuple hT ?_))
  refine wpAny_bind (wpAny_holding (draw_tuple lt its.size 0 _ _ ⟨_, Heap.get?_push_size _ rfl, rfl, rfl⟩ (hT.push _) (by omega) fun hA itA sbA => ?_))
  rw [show List.take its.size (List.drop 0 its.toList) = its.toList by rw [List.drop_zero]; exact List.take_of_length_le (by simp)]
  rw [if_neg (by simp)]
  have up : ∀ b o, s.heap.get? b = some o → hA.get? b = some o := fun b o q => sbA.extBut _ _ (Nat.ne_of_lt (Heap.lt_size q)) (Heap.get?_push_of_some _ q)
  obtain ⟨hh, oX, vX, gX, dX, cX⟩ := hot
  refine wpAny_bind (wpAny_holding (tup_end_hot ⟨hh, oX, vX, up _ _ gX, dX, cX⟩ (Nat.ne_of_lt (Heap.lt_size gX)) itA ((hT.push _).extBut sbA.extBut lt) (by simp) fun hB kB => ?_))
  simp only [Option.isSome_none, Bool.false_eq_true, if_false]
  exact wpAny_pure (hQ hB fun b o q => kB b o (Nat.ne_of_lt (Heap.lt_size q)) (up b o q))
end
end K6H

end
-- text Ho2
section
set_option Elab.async false
set_option linter.all false
set_option autoImplicit false
set_option maxRecDepth 100000
set_option maxHeartbeats 4000000
/-! A pair taken apart, zip of two lists and a list comprehension, all while an exception is handled. -/
namespace K6H
open PySem PySem.Spec PyProof.Rows L2 HotX L2H
/-- the handled exception stood at the context's entry, out of all reach -/
def HotB (X : Cx) : Prop := ∃ p : Addr × Obj, Hot1 X.A p ∧ X.s_0.heap.get? p.1 = some p.2 ∧ X.H_0 p.1 = none ∧ p.1 ∉ X.fs ∧ p.1 ∉ X.ex
section
variable {X : Cx} {pins : List (Addr × Obj)} {σ : L2.St} {H : Hp} {s : Shared}
theorem HotB.here (c : HotB X) (I : Inv X pins σ H s) : ∃ p : Addr × Obj, Hot1 X.A p ∧ s.heap.get? p.1 = some p.2 ∧ H p.1 = none ∧ p.1 < X.s_0.heap.objs.size ∧ p.1 ∉ X.fs ∧ p.1 ∉ X.ex := by
  obtain ⟨p, h1, h2, h3, h4, h5⟩ := c
  exact ⟨p, h1, I.base.keep _ _ h2 h3 h4 h5, I.base.free _ _ h2 h3 h5, Heap.lt_size h2, h4, h5⟩
theorem HotB.now (c : HotB X) (I : Inv X pins σ H s) : ∃ x1, HotAt X.A x1 s.heap ∧ x1 < X.s_0.heap.objs.size ∧ x1 ∉ X.ex := by
  obtain ⟨p, ⟨hh, vs, e1, e2⟩, h2, _, h4, _, h6⟩ := c.here I
  exact ⟨p.1, ⟨hh, p.2, vs, h2, e1, e2⟩, h4, h6⟩
theorem FpOk.far {b x1 : Addr} (f : FpOk X pins H b) (h1 : x1 < X.s_0.heap.objs.size) (h2 : x1 ∉ X.ex) : x1 ≠ b := fun z => by
  obtain ⟨_, _, _, q, _⟩ := f
  rcases q with q | q
  · exact h2 (by rw [z]; exact q)
  · rw [← z] at q
    exact absurd h1 (Nat.not_lt.mpr q)
theorem HotB.blk {scope : Scope} {ce : Env} {fp : List Addr} (c : HotB X) (I : Inv X pins σ H s) (hf : ∀ b ∈ fp, FpOk X pins H b) : HotB (X.blk s H scope ce fp) := by
  obtain ⟨p, h1, h2, h3, h4, h5, h6⟩ := c.here I
  refine ⟨p, h1, h2, h3, fun z => ?_, fun z => FpOk.far (hf _ z) h4 h6 rfl⟩
  rcases List.mem_cons.mp (I.stkSub p.1 z) with q | q
  · rw [q] at h4
    exact absurd h4 (Nat.not_lt.mpr I.ok.above)
  · exact h5 q
theorem pg_tupB {es : List Expr} {k n : Nat} {t : TGs} {pos : Pos} (hc : HotB X) (h : PGs X es t) (hn : (assignEach es X.env).length = n := by rfl) (hst : (assignEach es X.env).findIdx? (·.1) = none := by rfl) : PG X (.Tuple es k pos) (gTup X.K n t) := by
  refine ⟨fun pins s σ H v u Q I r hw => ?_⟩
  obtain ⟨a, xs, rfl, hq, hl, hw⟩ := hw
  cases r
  obtain ⟨its, rv, ht, hz⟩ := I.tuple hq
  obtain ⟨x1, hot, _, _⟩ := hc.now I
  have sz : its.toArray.size = n := by
    rw [List.size_toArray, ← rv.length]
    exact hl
  rw [assign_Tuple]
  refine wpAny_bind (wpAny_standAt ?_)
  unfold unpack
  rw [hn, hst, ← sz]
  refine wpAny_bind (wpAny_holding (unpack_hot hot ht fun h' k' => ?_))
  exact h.run pins _ σ H xs _ Q (I.kept (t' := s.toks) k') (by simpa using rv) hw
end
/-- what a walk does at each turn while an exception is handled -/
structure TurnB (P : Program) (w : World) (K : PySem.W.Frag) (tg : Expr) (J : It) (fp : List Addr) (it : Addr) (tn : Nat → Heap → Prop) : Prop where
  obj : ∀ i h, tn i h → ∀ b ∈ fp, ∃ o, h.get? b = some o ∧ ∀ v, o.data ≠ .cell v
  keep : ∀ i h h', tn i h → (∀ b ∈ fp, ∀ o, h.get? b = some o → h'.get? b = some o) → tn i h'
  item : ∀ (Y : Cx), Y.prog = P → Y.w = w → Y.K = K → HotB Y → ∀ (i : Nat) (pins : List (Addr × Obj)) (s : Shared) (σ : L2.St) (H : Hp) (E : Value → Shared → Prop), Inv Y pins σ H s → (∀ b ∈ fp, FpOk Y pins H b) → tn i s.heap → J.go i H →
    wpAny (model P w) Y.A (pyNext (.ref it)) (fun r s1 => ∃ u, r = some u ∧ wpAny (model P w) Y.A (letOwnedTupleGo tg (.ref it) u) (fun _ s2 => ∃ x H', Inv Y pins σ H' s2 ∧ RelV x u ∧ J.yld i H x H' ∧ tn (i + 1) s2.heap ∧ ∀ b ∈ fp, H' b = none) E s1) E s
  done : ∀ (Y : Cx), Y.prog = P → Y.w = w → Y.K = K → HotB Y → ∀ (i : Nat) (pins : List (Addr × Obj)) (s : Shared) (σ : L2.St) (H : Hp) (E : Value → Shared → Prop), Inv Y pins σ H s → (∀ b ∈ fp, FpOk Y pins H b) → tn i s.heap → J.stop i H →
    wpAny (model P w) Y.A (pyNext (.ref it)) (fun r s1 => r = none ∧ Inv Y pins σ H s1) E s
  self : ∀ (A : Around) (i : Nat) (s : Shared) (Q : Value → Shared → Prop) (E : Value → Shared → Prop), tn i s.heap → Q (.ref it) s → wpAny (model P w) A (pyIter (.ref it)) Q E s
structure PIB (X : Cx) (tg iter : Expr) (wi : TI) : Prop where
  run : ∀ (pins : List (Addr × Obj)) (s : Shared) (σ : L2.St) (H : Hp) (R : It → Hp → Prop), Inv X pins σ H s → wi σ H R →
    wpAny (model X.prog X.w) X.A (eval iter X.env) (fun v s1 => wpAny (model X.prog X.w) X.A (pyIter v) (fun itv s2 => ∃ (it : Addr) (fp : List Addr) (tn : Nat → Heap → Prop) (J : It) (H' : Hp), itv = .ref it ∧ Inv X pins σ H' s2 ∧ TurnB X.prog X.w X.K tg J fp it tn ∧ tn 0 s2.heap ∧ (∀ b ∈ fp, FpOk X pins H' b) ∧ R J H') X.xe s1) X.xe s
/-- two lists side by side; the first is the one that ends -/
def ItZ (K : PySem.W.Frag) (a b : Addr) : It :=
  ⟨(Itz K a b).go, (Itz K a b).yld, fun i H => ∃ xs : List V, SqL K H a xs ∧ xs.length ≤ i⟩
theorem turn_zipB {P : Program} {w : World} {K : PySem.W.Frag} {elts : List Expr} {kk : Nat} {tpos : Pos} {a b z tI tO j1 j2 : Addr} (D : ZipApart z tI tO j1 j2 a b) :
    TurnB P w K (.Tuple elts kk tpos) (ItZ K a b) [z, tI, tO, j1, j2] z (fun i h => IsZip h z tI tO .none ∧ IsPair h tI (.ref j1) (.ref j2) ∧ (∃ x y, IsPair h tO x y) ∧ h.IsListIter j1 a i ∧ h.IsListIter j2 b i) where
  obj := fun i h ⟨gz, gI, ⟨x, y, gO⟩, ⟨o1, e1, _, d1⟩, ⟨o2, e2, _, d2⟩⟩ c hc => by
    simp only [List.mem_cons, List.not_mem_nil, or_false] at hc
    rcases hc with rfl | rfl | rfl | rfl | rfl
    · exact ⟨_, gz, fun v q => nomatch q⟩
    · exact ⟨_, gI, fun v q => nomatch q⟩
    · exact ⟨_, gO, fun v q => nomatch q⟩
    · exact ⟨o1, e1, fun v q => by rw [d1] at q; cases q⟩
    · exact ⟨o2, e2, fun v q => by rw [d2] at q; cases q⟩
  keep := fun i h h' ⟨gz, gI, ⟨x, y, gO⟩, g1, g2⟩ k =>
    ⟨k _ (by simp) _ gz, k _ (by simp) _ gI, ⟨x, y, k _ (by simp) _ gO⟩, g1.at fun o q => k _ (by simp) o q, g2.at fun o q => k _ (by simp) o q⟩
  item := by
    rintro Y rfl rfl rfl hc i pins s σ H E I hf ⟨gz, gI, ⟨x0, y0, gO⟩, g1, g2⟩ ⟨xs, ys, x, y, qx, qy, ex, ey⟩
    obtain ⟨us, rx, px, _⟩ := I.list qx
    obtain ⟨ws, ry, py, _⟩ := I.list qy
    obtain ⟨u, eu, ru⟩ := rx.get ex
    obtain ⟨v, ev, rv⟩ := ry.get ey
    have lz : z < s.heap.objs.size := Heap.lt_size gz
    refine wpAny_pyNext_zip_item D gz gI gO g1 g2 px.isList py.isList (x := u) (y := v) (by simpa using eu) (by simpa using ev) fun hA zA oA a1 a2 tA sA kA => ⟨_, rfl, ?_⟩
    refine wpAny_letOwnedTupleGo_zip (s := { s with heap := hA }) zA fun hB zB sB => ?_
    have same : ∀ c o, c ≠ z → c ≠ tO → c ≠ j1 → c ≠ j2 → s.heap.get? c = some o → hB.get? c = some o := fun c o c1 c2 c3 c4 q => (sB.2 c c1).trans (kA c o c1 c2 c3 c4 q)
    have tB : hB.get? s.heap.objs.size = some { cls := .type "tuple", data := .seq #[u, v] } := (sB.2 _ (Nat.ne_of_gt lz)).trans tA
    have J : Inv Y pins σ (upd H s.heap.objs.size (.tup [x, y])) { s with heap := hB } :=
      I.turnedNew (t' := s.toks) (ch := [z, tI, tO, j1, j2]) (fun c o hb q => same c o (fun e => hb (by simp [e])) (fun e => hb (by simp [e])) (fun e => hb (by simp [e])) (fun e => hb (by simp [e])) q) hf (Nat.le_refl _)
        ⟨by show 2 ≤ sizeLine; decide, [u, v], .cons ru (.cons rv .nil), ⟨_, tB, rfl, _, rfl⟩⟩
    have lt : ∀ c ∈ [z, tI, tO, j1, j2], c < s.heap.objs.size := fun c hc => by
      simp only [List.mem_cons, List.not_mem_nil, or_false] at hc
      rcases hc with rfl | rfl | rfl | rfl | rfl
      · exact lz
      · exact Heap.lt_size gI
      · exact Heap.lt_size gO
      · obtain ⟨_, q, _⟩ := g1
        exact Heap.lt_size q
      · obtain ⟨_, q, _⟩ := g2
        exact Heap.lt_size q
    refine ⟨.ref s.heap.objs.size, _, J, rfl, ⟨_, x, y, rfl, I.hok.fresh (Nat.le_refl _), rfl, fun l hl => by rw [I.list_inj hl qx]; exact ex, fun l hl => by rw [I.list_inj hl qy]; exact ey⟩, ⟨zB, same _ _ D.TIz D.TITO D.TIi1 D.TIi2 gI, ⟨u, v, (sB.2 _ D.TOz).trans oA⟩, a1.at fun o q => (sB.2 _ D.i1z).trans q, a2.at fun o q => (sB.2 _ D.i2z).trans q⟩, fun c hc => ?_⟩
    rw [upd_ne (Nat.ne_of_lt (lt c hc))]
    exact (hf c hc).1
  done := by
    rintro Y rfl rfl rfl hc i pins s σ H E I hf ⟨gz, gI, ⟨x0, y0, gO⟩, g1, g2⟩ ⟨xs, qx, le⟩
    obtain ⟨us, rx, px, _⟩ := I.list qx
    obtain ⟨x1, hot, l1, l2⟩ := hc.now I
    have len := rx.length
    refine zip_end_hot hot (FpOk.far (hf z (by simp)) l1 l2) (FpOk.far (hf j1 (by simp)) l1 l2) D gz gI g1 px.isList (by simp; omega) fun h' k => ⟨rfl, ?_⟩
    exact I.turnedL (t' := s.toks) (ch := [z, tI, tO, j1, j2]) (fun c o hb q => k c o (fun e => hb (by simp [e])) (fun e => hb (by simp [e])) q) hf
  self := fun A i s Q E st h => wpAny_pyIter_zip st.1 h
def iZipB (K : PySem.W.Frag) (ta : TA) : TI := fun σ H R => ta σ H fun vs H1 => ∃ a b xs ys, vs = [.ref a, .ref b] ∧ SqL K H1 a xs ∧ SqL K H1 b ys ∧ R (ItZ K a b) H1
theorem pi_zipB {X : Cx} {e e2 : Expr} {ta : TA} {p pos tpos : Pos} {elts : List Expr} {kk : Nat} (hg : Gl X "zip") (hm : X.mg "zip" = none) (ha : PA X [e, e2] ta)
    (hs : starEach [e, e2] X.env = (false, eval e X.env) :: starEach [e2] X.env := by rfl) (hpl : (backTo pos (starEach [e2] X.env)).any (·.1) = false := by rfl) : PIB X (.Tuple elts kk tpos) (.Call (.Name "zip" p) [e, e2] [] pos) (iZipB X.K ta) := by
  refine ⟨fun pins s σ H R I h => Call_ (ld_blt I hg hm PyProof.Rows.boot_zip (PyProof.Rows.callWith_type1 (thn (ha.run pos pins s σ H _ I h) fun us s1 ⟨vs, H1, I1, r1, q1⟩ => ?_) hs hpl))⟩
  obtain ⟨a, b, xs, ys, rfl, qx, qy, q⟩ := q1
  obtain ⟨ua, ub, rfl, ea, eb⟩ : ∃ ua ub, us = [ua, ub] ∧ RelV (.ref a) ua ∧ RelV (.ref b) ub := by
    cases r1 with
    | cons ra rr =>
      cases rr with
      | cons rb rr =>
        cases rr
        exact ⟨_, _, rfl, ra, rb⟩
  cases ea
  cases eb
  obtain ⟨its, rv, pa, _⟩ := I1.list qx
  obtain ⟨its2, rv2, pb, _⟩ := I1.list qy
  refine call_zip_2 pa.isList pb.isList fun h' gz gI gO g1 g2 hsz hk => wpAny_pyIter_zip gz ?_
  refine ⟨s1.heap.objs.size + 4, [s1.heap.objs.size + 4, s1.heap.objs.size + 2, s1.heap.objs.size + 3, s1.heap.objs.size, s1.heap.objs.size + 1], _, _, H1, rfl, I1.kept (t' := s1.toks) hk, turn_zipB (PySem.W.ktu_apart s1.heap.objs.size a b pa.lt pb.lt), ⟨gz, gI, ⟨_, _, gO⟩, g1, g2⟩, fun c hc => ?_, q⟩
  have le : s1.heap.objs.size ≤ c := by
    simp only [List.mem_cons, List.not_mem_nil, or_false] at hc
    rcases hc with rfl | rfl | rfl | rfl | rfl
    · exact Nat.le_add_right _ _
    · exact Nat.le_add_right _ _
    · exact Nat.le_add_right _ _
    · exact Nat.le_refl _
    · exact Nat.le_add_right _ _
  exact I1.fpOk le (I1.hok.fresh le)
end K6H

end
-- text Ho3
section
set_option Elab.async false
set_option linter.all false
set_option autoImplicit false
set_option maxRecDepth 100000
set_option maxHeartbeats 4000000
/-! A list comprehension while an exception is handled. -/
namespace K6H
open PySem PySem.Spec PyProof.Rows L2 HotX L2H
section
variable {X : Cx}
theorem lc_hot {pins : List (Addr × Obj)} {s : Shared} {σ : L2.St} {H : Hp} {Q : VK} {elt tg iter : Expr} {ifs : List Expr} {scope : Scope} {own : List (Str × Nat)} {pos pos' : Pos} {wi : TI} {g : TG} {tt : TT} {te : TE} {Qf : Value → Shared → Prop}
    (hot : HotB X) (nd : X.N.Nodup) (I : Inv X pins σ H s) (hi : PIB X tg iter wi) (ok : BlkOk X.N X.env.scope scope own)
    (hg : ∀ (s : Shared) (H : Hp) (C : Addr) (cl : List (Str × Addr)) (fp : List Addr), HotB (X.blk s H scope (compEnvC scope cl C X.env) fp) → PG (X.blk s H scope (compEnvC scope cl C X.env) fp) tg g)
    (ht : ∀ (s : Shared) (H : Hp) (C : Addr) (cl : List (Str × Addr)) (fp : List Addr), PTs (X.blk s H scope (compEnvC scope cl C X.env) fp) ifs tt)
    (he : ∀ (s : Shared) (H : Hp) (C : Addr) (cl : List (Str × Addr)) (fp : List Addr), PE (X.blk s H scope (compEnvC scope cl C X.env) fp) elt te) (hs : ∀ x, foldedSetIterable iter X.env x = pure x)
    (h : tLc wi g tt te (own.map (·.2)) σ H Q)
    (fin : ∀ D C s' m H', Inv X pins σ H' s' → Q (.ref D) H' → s'.heap.Ns C m → FpOk X pins H' C → compPost (model X.prog X.w) X.A X.xe none Qf (.ref D) C (.ok .next) s') :
    wpAny (model X.prog X.w) X.A (comprehension (.ListComp elt [⟨tg, iter, ifs, 0⟩] scope pos) scope X.env pos' (newList []) false (eval iter X.env) none) Qf X.xe s := by
  have caught : ∀ y ∈ scope.names, y.2 = .free → ∃ c, X.env.cells.lookup y.1 = some c := fun y hy e =>
    (ok.free y hy e).elim (fun k => I.ok.has _ (.inl k)) fun k => I.ok.has _ (.inr k)
  refine wpAny_comprehension_free (use := none) rfl hs (closure_ok caught) ok.kind (fun y hy e => (ok.uniq y hy).trans (congrArg some e)) (thn (hi.run pins s σ H _ I h) fun xv s1 hx => thn hx fun itv s2 hh => ?_)
  obtain ⟨it, fp, tn, J, H2, rfl, I2, T, st2, f2, q⟩ := hh
  refine wpAny_newObj_type (newEnv_comp ?_) (by show 0 ≤ sizeLine; decide)
  obtain ⟨W, ⟨m0, w0⟩, turn⟩ := q s2.heap.objs.size (I2.hok.fresh (Nat.le_refl _))
  have ltp : ∀ b ∈ fp, b < s2.heap.objs.size := fun b hb => let ⟨o, e, _⟩ := T.obj _ _ st2 b hb; Heap.lt_size e
  -- the accumulator
  obtain ⟨D, hD⟩ : ∃ D, D = s2.heap.objs.size := ⟨_, rfl⟩
  rw [← hD] at w0 turn ⊢
  obtain ⟨s3, h3⟩ : ∃ s3 : Shared, s3 = { s2 with heap := s2.heap.push { cls := .type "list", data := .seq ([] : List Value).toArray } } := ⟨_, rfl⟩
  have I3 : Inv X pins σ (upd H2 D (.lst [])) s3 := by
    rw [h3]
    refine I2.laid (t' := s2.toks) (fun b o e => Heap.get?_push_of_some _ e) (Nat.le_of_eq hD.symm) ⟨Nat.zero_le _, [], 0, .nil, ?_⟩
    rw [hD]
    exact Heap.get?_push_size _ rfl
  have e3 : s3.heap = s2.heap.push { cls := .type "list", data := .seq ([] : List Value).toArray } := by rw [h3]
  obtain ⟨H3, hH3⟩ : ∃ H3, H3 = upd H2 D (.lst []) := ⟨_, rfl⟩
  rw [← hH3] at I3 w0
  have f3 : ∀ b ∈ fp, FpOk X pins H3 b ∧ b < s3.heap.objs.size := fun b hb => by
    have l := ltp b hb
    refine ⟨⟨?_, (f2 b hb).2⟩, by rw [e3, Heap.size_push]; exact Nat.lt_succ_of_lt l⟩
    rw [hH3, upd_ne (by rw [hD]; exact Nat.ne_of_lt l)]
    exact (f2 b hb).1
  have st3 : tn 0 s3.heap := T.keep _ _ _ st2 fun b _ o e => by
    rw [e3]
    exact Heap.get?_push_of_some _ e
  have I4 := block_start I3 ok nd f3
  obtain ⟨cl, hcl⟩ : ∃ cl, cl = cellsFrom (s3.heap.objs.size + 1) scope.names (cloFrom X.env.cells scope.names []) := ⟨_, rfl⟩
  rw [← hcl] at I4
  have hotY : HotB (X.blk s3 H3 scope (compEnvC scope cl s3.heap.objs.size X.env) fp) := hot.blk I3 fun b hb => (f3 b hb).1
  have pg := hg s3 H3 s3.heap.objs.size cl fp hotY
  have pt := ht s3 H3 s3.heap.objs.size cl fp
  have pe := he s3 H3 s3.heap.objs.size cl fp
  have goal : codeAny (model X.prog X.w) X.A (.compStart (.ListComp elt [⟨tg, iter, ifs, 0⟩] scope pos) 0 (.ref it) (.ref D) (compEnvC scope cl s3.heap.objs.size X.env)) (compPost (model X.prog X.w) X.A X.xe none Qf (.ref D) s3.heap.objs.size) { s3 with heap := pushCells (s3.heap.push { cls := .type "dict", data := .dict #[] }) scope.names } := by
    obtain ⟨ce, hce⟩ : ∃ ce, ce = compEnvC scope cl s3.heap.objs.size X.env := ⟨_, rfl⟩
    rw [← hce] at I4 hotY pg pt pe ⊢
    have eL : ce.locals = s3.heap.objs.size := by rw [hce]; rfl
    obtain ⟨s4, h4⟩ : ∃ s4 : Shared, s4 = { s3 with heap := pushCells (s3.heap.push { cls := .type "dict", data := .dict #[] }) scope.names } := ⟨_, rfl⟩
    rw [← h4] at I4 ⊢
    have st4 : tn 0 s4.heap := T.keep _ _ _ st3 fun b _ o e => by
      rw [h4]
      exact pushCells_keeps _ _ _ _ (Heap.get?_push_of_some _ e)
    have fpY : ∀ {σ' : L2.St} {H' : Hp} {s' : Shared}, Inv (X.blk s3 H3 scope ce fp) [] σ' H' s' → (∀ b ∈ fp, H' b = none) → ∀ b ∈ fp, FpOk (X.blk s3 H3 scope ce fp) [] H' b := fun I' n b hb =>
      ⟨n b hb, (I'.ok.exf b hb).1, I'.ok.exfs b hb, .inl hb, fun x c e => (I'.ok.exf b hb).2 x c e, fun p hp => nomatch (show p ∈ ([] : List (Addr × Obj)) from hp)⟩
    have loop : codeAny (model X.prog X.w) X.A (.compLoop (.ListComp elt [⟨tg, iter, ifs, 0⟩] scope pos) 0 (.ref it) (.ref D) ce) (compPost (model X.prog X.w) X.A X.xe none Qf (.ref D) s3.heap.objs.size) s4 := by
      refine compLoop_any (fun n s' => ∃ i H', Inv (X.blk s3 H3 scope ce fp) [] (wipe σ (own.map (·.2))) H' s' ∧ tn i s'.heap ∧ (∀ b ∈ fp, H' b = none) ∧ W i n H') ?_ m0 ⟨0, H3, I4, st4, fun b hb => (f3 b hb).1.1, w0⟩
      rintro n s5 ⟨i, H5, I5, st5, n5, w5⟩
      rcases turn i n H5 w5 with ⟨stop, qq⟩ | ⟨go, Nx, hNx, step⟩
      · -- the end
        refine thnF (T.done (X.blk s3 H3 scope ce fp) rfl rfl rfl hotY i [] s5 _ H5 (fun _ _ => False) I5 (fpY I5 n5) st5 stop) fun r s6 ⟨hr, I6⟩ => ?_
        subst hr
        have I7 : Inv X pins σ H5 s6 := I3.call' (ch := fp) I6.os I6.base I6.hok I6.bare fun b hb => let z := (f3 b hb).1.2; ⟨z.2.2.1, z.1, z.2.2.2.1, z.2.2.2.2⟩
        obtain ⟨m, ns, _⟩ := I6.loc
        have fr := I6.free
        have ns' : s6.heap.Ns ce.locals m := ns
        have fr' : H5 ce.locals = none := fr
        rw [eL] at ns' fr'
        exact fin D s3.heap.objs.size s6 m H5 I7 qq ns' (I3.fpOk (Nat.le_refl _) fr')
      · -- a turn
        refine thnF (T.item (X.blk s3 H3 scope ce fp) rfl rfl rfl hotY i [] s5 _ H5 (fun _ _ => False) I5 (fpY I5 n5) st5 go) fun r s6 ⟨u, hr, h6⟩ => ?_
        subst hr
        refine thnF h6 fun _ s7 ⟨x, H7, I7, r7, y7, st7, n7⟩ => ?_
        have J7 := I7.pinned (fpY I7 n7) (T.obj _ _ st7)
        refine thnF (pg.run _ s7 _ H7 x u _ J7 r7 (step x H7 y7)) fun _ s8 ⟨σ8, H8, I8, ew, q8⟩ => thnF (pt.run _ s8 σ8 H8 _ I8 q8) fun b s9 ⟨H9, I9, q9⟩ => ?_
        have next : ∀ {s' : Shared} {H' : Hp}, Inv (X.blk s3 H3 scope ce fp) ([] ++ pinsAt fp s7.heap) σ8 H' s' → Nx H' → ∃ m, m < n ∧ ∃ i H', Inv (X.blk s3 H3 scope ce fp) [] (wipe σ (own.map (·.2))) H' s' ∧ tn i s'.heap ∧ (∀ b ∈ fp, H' b = none) ∧ W i m H' := fun {s' H'} I' nx => by
          obtain ⟨m', lt, w'⟩ := hNx H' nx
          have held : ∀ b ∈ fp, ∀ o, s7.heap.get? b = some o → s'.heap.get? b = some o ∧ H' b = none := fun b hb o e =>
            let z := I'.pin (b, o) (List.mem_append_right _ (List.mem_append_right _ (mem_pinsAt hb e)))
            ⟨z.1, z.2.1⟩
          refine ⟨m', lt, i + 1, H', (I'.unpinned (pins := [])).weak (by rw [← ew, wipe_length]) (fun j v e => ?_), T.keep _ _ _ st7 fun b hb o e => (held b hb o e).1, fun b hb => ?_, w'⟩
          · rw [← ew] at e
            exact (wipe_some e).1
          · obtain ⟨o, e, _⟩ := T.obj _ _ st7 b hb
            exact (held b hb o e).2
        cases b with
        | false =>
          rw [if_neg Bool.false_ne_true] at q9
          exact next I9 q9
        | true =>
          rw [if_pos rfl] at q9
          refine thnF (pe.run _ s9 σ8 H9 _ I9 q9) fun z s10 ⟨yv, H10, I10, r10, acc, hacc, hz10, nx⟩ => ?_
          exact app_ok (X := X.blk s3 H3 scope ce fp) I10 hacc hz10 r10 fun s11 I11 => next I11 nx
    exact codeAny_compStart_list loop (T.self X.A 0 _ _ _ st4 loop)
  rw [hcl, h3] at goal
  rw [h3] at *
  exact goal
end
end K6H

end
-- text Ho4
section
set_option Elab.async false
set_option linter.all false
set_option autoImplicit false
set_option maxRecDepth 100000
set_option maxHeartbeats 4000000
/-! A def called while an exception is handled, the very exception pinned; isinstance there. -/
namespace K6H
open PySem PySem.Spec PyProof.Rows L2 HotX L2H
def cxF : CXT := fun _ _ _ _ _ _ => False
def eF : XK := fun _ _ _ => False
section
variable {X : Cx} {pins : List (Addr × Obj)} {σ : L2.St} {H : Hp} {s : Shared}
theorem pe_lcB {elt tg iter : Expr} {ifs : List Expr} {scope : Scope} {own : List (Str × Nat)} {pos : Pos} {wi : TI} {g : TG} {tt : TT} {te : TE} (hot : HotB X) (nd : X.N.Nodup) (hi : PIB X tg iter wi) (ok : BlkOk X.N X.env.scope scope own)
    (hg : ∀ (s : Shared) (H : Hp) (C : Addr) (cl : List (Str × Addr)) (fp : List Addr), HotB (X.blk s H scope (compEnvC scope cl C X.env) fp) → PG (X.blk s H scope (compEnvC scope cl C X.env) fp) tg g)
    (ht : ∀ (s : Shared) (H : Hp) (C : Addr) (cl : List (Str × Addr)) (fp : List Addr), PTs (X.blk s H scope (compEnvC scope cl C X.env) fp) ifs tt)
    (he : ∀ (s : Shared) (H : Hp) (C : Addr) (cl : List (Str × Addr)) (fp : List Addr), PE (X.blk s H scope (compEnvC scope cl C X.env) fp) elt te) (hs : ∀ x, foldedSetIterable iter X.env x = pure x := by intro _; rfl) :
    PE X (.ListComp elt [⟨tg, iter, ifs, 0⟩] scope pos) (tLc wi g tt te (own.map (·.2))) := by
  refine ⟨fun pins s σ H Q I h => ?_⟩
  rw [eval_ListComp]
  refine lc_hot hot nd I hi ok hg ht he hs h fun D C s' m H' I' q ns f => ⟨m, ns, fun h2 same => ⟨.ref D, H', ?_, rfl, q⟩⟩
  exact I'.turned (t' := s'.toks) (fun b o hb e => (same.2 b hb).trans e) f.1 f.2.1 f.2.2.2.1 f.2.2.2.2.1 f.2.2.2.2.2
/-- the context of the called def -/
theorem hot_cxH {CX : CXT} {N : List Str} {qual : Str} {scope : Scope} {f : Addr} {cd : Value} {E : XK} {p : Addr × Obj} (hp : p ∈ X.pn) (hot : Hot1 X.A p) (I : Inv X pins σ H s) : HotB (cxH CX X.prog X.w X.K X.mg X.base N qual scope f cd X.A X.stack s H E p) ∧ PinOk X.stack H s p := by
  have z := I.pin p (List.mem_append_left _ hp)
  have nf : p.1 ∉ frs X.stack := fun m => (List.mem_cons.mp (I.stkSub p.1 m)).elim z.2.2.1 z.2.2.2.1
  exact ⟨⟨p, hot, z.1, z.2.1, nf, fun m => nomatch (show p.1 ∈ ([] : List Addr) from m)⟩, z.1, z.2.1, nf, z.2.2.2.2⟩
theorem call_hot {Q : VK} {f : Addr} {name qual : Str} {params : Arguments} {body : List Stmt} {scope : Scope} {dV kV doc pm cdv ct oc : Value} {an od : Option Addr} {osl : Array (Option Value)} {N ps : List Str} {k : Nat} {us : List Value} {vs : List V} {p : Addr × Obj}
    (hp : p ∈ X.pn) (hot : Hot1 X.A p) (lk : X.K.lookup f = some ⟨oc, od, .func (PySem.W.fnOf name qual params body scope dV kV doc pm an cdv ct), osl⟩) (hcd : PySem.W.codeIn X.K cdv qual = true) (S : FnScope N ps scope) (hr : RoomH (k + 1) X.A)
    (hb : L2.Binds X.K (PySem.W.fnOf name qual params body scope dV kV doc pm an cdv ct) ps []) (I : Inv X pins σ H s) (r : Vals vs us) (hl : vs.length = ps.length)
    (hbody : HotB (cxH cxF X.prog X.w X.K X.mg X.base N qual scope f cdv X.A X.stack s H eF p) → RoomH k (X.A.deeper (envOfC qual scope s.heap.objs.size f cdv)) →
      ∃ t, PSs (cxH cxF X.prog X.w X.K X.mg X.base N qual scope f cdv X.A X.stack s H eF p) body t ∧ t { nx := fun _ H' => Q .non H', rt := Q } (L2.start N vs) H) :
    wpAny (model X.prog X.w) X.A (call (.ref f) us) (EP X pins σ Q) X.xe s := by
  have hk := hot_cxH (CX := cxF) (N := N) (qual := qual) (scope := scope) (f := f) (cd := cdv) (E := eF) hp hot I
  have b := hb s us I.kIn (by rw [List.append_nil, ← r.length]; exact hl)
  rw [List.append_nil] at b
  have kinds : ∀ y ∈ ps.zip us, scope.names.lookup y.1 = some .local ∨ (scope.names.lookup y.1 = some .cell ∧ ((cellsFrom (s.heap.objs.size + 1) scope.names []).lookup y.1).isSome = true) := fun y hy =>
    (S.par y.1 (List.of_mem_zip hy).1).imp id fun q => ⟨q, PySem.W.cellsFrom_some _ _ _ (.inl q)⟩
  have rc : codeAny (model X.prog X.w) X.A (.call (.ref f) ⟨us, []⟩) (CR cxF X.stack X.prog X.w H s Q eF) s := by
    refine codeAny_call_function hr.depth (I.kIn _ _ lk) rfl S.co S.gen rfl (PySem.W.codeRec_of I.kIn hcd) (b _ _ _ _ (wpAny_newFunctionEnv_cells S.kind kinds fun env he s1 x => ?_))
    subst he
    refine ⟨I.nolimit.keeps x.toInCall.keep, codeAny_func ?_⟩
    obtain ⟨t, pt, ht⟩ := hbody hk.1 (hr.deeper _)
    have J := inv_startH (CX := cxF) (E := eF) S hk.2 I.env0 hl r x
    refine wpAny_mono (pt.run [] s1 _ H _ J ht) (fun fl s' hs => ?_) fun e s' he => he
    cases fl with
    | ret u =>
      obtain ⟨v, σ', H', J', rv, q⟩ := hs
      exact ⟨v, H', J'.os, J'.bare, J'.base, J'.hok, rv, q⟩
    | next =>
      obtain ⟨σ', H', J', q⟩ := hs
      exact ⟨.non, H', J'.os, J'.bare, J'.base, J'.hok, rfl, q⟩
    | brk =>
      obtain ⟨_, _, _, q⟩ := hs
      exact q.elim
    | cont =>
      obtain ⟨_, _, _, q⟩ := hs
      exact q.elim
  refine wpAny_call (codeAny_mono rc fun r s' hq => ?_)
  cases r with
  | error e => exact (show False from hq).elim
  | ok fl =>
    cases fl with
    | ret u => exact I.after hq
    | next => exact (show False from hq).elim
    | brk => exact (show False from hq).elim
    | cont => exact (show False from hq).elim
/-- isinstance(e, c), e the pinned exception -/
theorem call_isB {a D : Addr} {oe : Obj} (hp : (a, oe) ∈ X.pn) (C : ExcC X.K D) (hz : Zc (.ref D) none oe) (hf : ∃ vs, oe.data = .fields vs) : CallR X (.builtin "isinstance") (rIsE X.K D a) := by
  rintro pins s σ H xs us Q I r ⟨c, cv, b, rfl, hcv, e, q⟩
  obtain ⟨ua, uc, rfl, ea, ec⟩ : ∃ ua uc, us = [ua, uc] ∧ RelV (.ref a) ua ∧ RelV c uc := by
    cases r with
    | cons ra rr =>
      cases rr with
      | cons rb rr =>
        cases rr
        exact ⟨_, _, rfl, ra, rb⟩
  cases ea
  cases hcv _ ec
  have get := (I.pin (a, oe) (List.mem_append_left _ hp)).1
  obtain ⟨vs, hv⟩ := hf
  have J : PySem.W.InstAt s.heap a oe D none := by
    obtain ⟨c1, d1, dt, sl⟩ := oe
    obtain ⟨h1, h2⟩ := hz
    simp only at h1 h2 hv
    subst h1 h2 hv
    exact ⟨get, rfl, rfl, trivial⟩
  refine PySem.W.kia_one (PySem.W.handS_kitx_exc C.hg C.hk C.hs C.hd C.ha C.hn C.ht C.hm) I.kIn J e (fun z => nomatch z) fun tk => ?_
  exact ⟨.bl b, H, I.kept (t' := tk) fun _ _ z => z, rfl, q⟩
end
end K6H

end
-- text Ho5
section
set_option Elab.async false
set_option linter.all false
set_option autoImplicit false
set_option maxRecDepth 100000
set_option maxHeartbeats 4000000
/-! _law_names, called while the very error is handled. -/
namespace K6H
open PySem PySem.Spec PyProof.Rows L2 HotX L2H K6
abbrev V1 : String := "(by first | exact .inl rfl | exact .inr (.inl rfl) | exact .inr (.inr rfl))"
def pickL : List Str → List Bool → List Str
  | x :: xs, b :: bs => if b = true then x :: pickL xs bs else pickL xs bs
  | _, _ => []
theorem pickL_take : ∀ (ls : List Str) (bs : List Bool) (i : Nat) (x : Str) (b : Bool), ls[i]? = some x → bs[i]? = some b → pickL (ls.take (i + 1)) (bs.take (i + 1)) = pickL (ls.take i) (bs.take i) ++ (if b = true then [x] else [])
  | [], _, i, x, b, h, _ => by simp at h
  | _ :: _, [], i, x, b, _, h => by simp at h
  | y :: ys, c :: cs, 0, x, b, h1, h2 => by
    simp at h1 h2
    subst h1 h2
    cases c <;> rfl
  | y :: ys, c :: cs, i + 1, x, b, h1, h2 => by
    have ih := pickL_take ys cs i x b (by simpa using h1) (by simpa using h2)
    show (if c = true then y :: pickL (ys.take (i + 1)) (cs.take (i + 1)) else pickL (ys.take (i + 1)) (cs.take (i + 1))) = (if c = true then y :: pickL (ys.take i) (cs.take i) else pickL (ys.take i) (cs.take i)) ++ _
    rw [ih]
    cases c <;> rfl
theorem zip_keep {K : PySem.W.Frag} {a b : Addr} {ls : List Str} {bs : List Bool} (hl : ls.length = bs.length) (hz : ls.length ≤ 1000) {σ : L2.St} {H : Hp} (ha : SqL K H a (ls.map V.str)) (hb : SqL K H b (bs.map V.bl)) (hs : σ.length = 5) {Q : Addr → Hp → Prop}
    (q : ∀ D H', Same H H' → H' D = some (.lst ((pickL ls bs).map V.str)) → Q D H') : ∀ D, H D = none → ∃ W : Nat → Nat → Hp → Prop, (∃ m, W 0 m (upd H D (.lst []))) ∧ ∀ i m H, W i m H →
      ((ItZ K a b).stop i H ∧ Q D H) ∨ ((ItZ K a b).go i H ∧ ∃ Nx : Hp → Prop, (∀ H', Nx H' → ∃ m', m' < m ∧ W (i + 1) m' H') ∧ ∀ x H', (ItZ K a b).yld i H x H' → gTup K 2 (gCons (gName 3) (gCons (gName 4) gNil)) x (wipe σ [3, 4]) H' fun σ2 H2 => wipe σ2 [3, 4] = wipe σ [3, 4] ∧ tB (tVar 4) σ2 H2 fun b H3 =>
        if b = true then tVar 3 σ2 H3 fun y H4 => ∃ acc, H4 D = some (.lst acc) ∧ acc.length < sizeLine ∧ Nx (upd H4 D (.lst (acc ++ [y]))) else Nx H3) := by
  intro D hD
  refine ⟨fun i m H' => m = ls.length - i ∧ i ≤ ls.length ∧ Same H H' ∧ H' D = some (.lst ((pickL (ls.take i) (bs.take i)).map V.str)) ∧ (pickL (ls.take i) (bs.take i)).length ≤ i, ⟨ls.length, by simp, Nat.zero_le _, same_upd hD, upd_same, Nat.zero_le _⟩, ?_⟩
  rintro i m H1 ⟨rfl, hi, sm, hd, hn⟩
  by_cases lt : i < ls.length
  · obtain ⟨x, hx⟩ : ∃ x, ls[i]? = some x := ⟨_, List.getElem?_eq_getElem lt⟩
    obtain ⟨c, hc⟩ : ∃ c, bs[i]? = some c := ⟨_, List.getElem?_eq_getElem (by omega)⟩
    have hx' : (ls.map V.str)[i]? = some (.str x) := by rw [List.getElem?_map, hx]; rfl
    have hc' : (bs.map V.bl)[i]? = some (.bl c) := by rw [List.getElem?_map, hc]; rfl
    refine .inr ⟨⟨_, _, _, _, sm.seq ha, sm.seq hb, hx', hc'⟩, fun H' => i + 1 ≤ ls.length ∧ Same H H' ∧ H' D = some (.lst ((pickL (ls.take (i + 1)) (bs.take (i + 1))).map V.str)) ∧ (pickL (ls.take (i + 1)) (bs.take (i + 1))).length ≤ i + 1, fun H' ⟨z1, z2⟩ => ⟨ls.length - (i + 1), by omega, rfl, z1, z2⟩, ?_⟩
    rintro v H' ⟨T, vx, vc, rfl, hT, rfl, fx, fc⟩
    have e1 : vx = .str x := Option.some.inj ((fx _ (sm.seq ha)).symm.trans hx')
    have e2 : vc = .bl c := Option.some.inj ((fc _ (sm.seq hb)).symm.trans hc')
    subst e1 e2
    have nTD : D ≠ T := fun z => by
      rw [z, hT] at hd
      cases hd
    have hd' : upd H1 T (.tup [.str x, .bl c]) D = some (.lst ((pickL (ls.take i) (bs.take i)).map V.str)) := by rw [upd_ne nTD, hd]
    have sm' : Same H (upd H1 T (.tup [.str x, .bl c])) := sm.trans (same_upd hT)
    refine ⟨T, [.str x, .bl c], rfl, .inl (.inl upd_same), rfl, .str x, [.bl c], rfl, .bl c, [], rfl, rfl, ?_, ?_⟩
    · show wipe (((wipe σ [3, 4]).set 3 (some (.str x))).set 4 (some (.bl c))) [3, 4] = _
      rw [K6.wipe_in (by decide), K6.wipe_in (by decide)]
      exact K6.wipe_sub fun _ h => h
    · have l5 : (wipe σ [3, 4]).length = 5 := by rw [wipe_length]; exact hs
      refine ⟨.bl c, List.getElem?_set_self (by rw [List.length_set, l5]; decide), c, rfl, ?_⟩
      have tk := pickL_take ls bs i x c hx hc
      cases c with
      | true =>
        refine iteT ⟨.str x, ?_, _, hd', ?_, lt, ?_, ?_, ?_⟩
        · rw [List.getElem?_set_ne (by decide), List.getElem?_set_self (by rw [l5]; decide)]
        · rw [List.length_map]
          exact Nat.lt_of_le_of_lt hn (Nat.lt_of_lt_of_le lt (Nat.le_trans hz (by decide)))
        · intro p o e
          rw [upd_ne (fun z => by rw [z, hD] at e; cases e)]
          exact sm' p o e
        · rw [upd_same, tk]
          simp
        · rw [tk]
          simp
          exact hn
      | false =>
        refine iteF ⟨lt, sm', ?_, ?_⟩
        · rw [tk, hd']
          simp
        · rw [tk]
          simp
          omega
  · have e : i = ls.length := by omega
    subst e
    refine .inl ⟨⟨_, sm.seq ha, by rw [List.length_map]; exact Nat.le_refl _⟩, q D H1 sm ?_⟩
    rw [List.take_length, hl, List.take_length] at hd
    exact hd
/-! ### the text -/
abbrev s__law_names : Stmt := topS 49
abbrev N__law_names : List Str := ["_law_error", "_law_kinds_so", "_law_labels", "_law_label", "_law_fine"]
theorem sc__law_names : FnScope N__law_names ["_law_error"] (defScope s__law_names) := ⟨rfl, rfl, rfl, by decide +kernel, rfl, by decide +kernel, by decide +kernel⟩
theorem nd__law_names : N__law_names.Nodup := sc__law_names.nd
/-- the classes' names -/
structure ClsT (CC : Nat → Addr) (mg : Str → Option Value) : Prop where
  square : mg "InvalidSquare" = some (.ref (CC 0))
  sides : mg "InvalidSides" = some (.ref (CC 1))
  bounds : mg "InvalidBounds" = some (.ref (CC 2))
  number : mg "InvalidNumber" = some (.ref (CC 3))
  facts : mg "InvalidFacts" = some (.ref (CC 4))
  many : mg "TooMany" = some (.ref (CC 5))
  sign : mg "SignError" = some (.ref (CC 6))
  value : mg "ValueError" = none
/-- what isinstance answers of an error of the class c -/
structure ErrT (CC : Nat → Addr) (K : PySem.W.Frag) (c : Nat) : Prop where
  ex : ExcC K (CC c)
  square : PySem.W.kitOne K (.ref (CC c)) (.ref (CC 0)) = some (decide (c = 0))
  sides : PySem.W.kitOne K (.ref (CC c)) (.ref (CC 1)) = some (decide (c = 1))
  bounds : PySem.W.kitOne K (.ref (CC c)) (.ref (CC 2)) = some (decide (c = 2))
  number : PySem.W.kitOne K (.ref (CC c)) (.ref (CC 3)) = some (decide (c = 3))
  facts : PySem.W.kitOne K (.ref (CC c)) (.ref (CC 4)) = some (decide (c = 4))
  many : PySem.W.kitOne K (.ref (CC c)) (.ref (CC 5)) = some (decide (c = 5))
  value : PySem.W.kitOne K (.ref (CC c)) (.type "ValueError") = some true
  em : PySem.W.exmOne K (.ref (CC c)) (.ref (CC 6)) = some true
def kindsL (c : Nat) : List Bool := [decide (c = 0), decide (c = 1), decide (c = 3), decide (c = 4), decide (c = 2), decide (c = 5), true]
def labelsS : Str := "square sides number facts bounds many value"
def wordS (c : Nat) : Str := Txt.join " " (pickL (Txt.split labelsS " ") (kindsL c))
end K6H

end
-- text Ho6
section
set_option Elab.async false
set_option linter.all false
set_option autoImplicit false
set_option maxRecDepth 100000
set_option maxHeartbeats 4000000
/-! _law_names: its body. -/
namespace K6H
open PySem PySem.Spec PyProof.Rows L2 HotX L2H K6
theorem bb_VE : bootBuiltins "ValueError" = some (.type "ValueError") := by decide +kernel
theorem names_body {CC : Nat → Addr} {P : Program} {w : World} {K : PySem.W.Frag} {mg : Str → Option Value} {base : Heap} {f a : Addr} {cdv : Value} {A : Around} {outer : List Env} {s : Shared} {H : Hp} {oe : Obj} {c : Nat} {Q : VK}
    (hot : HotB (cxH cxF P w K mg base N__law_names "_law_names" (defScope s__law_names) f cdv A outer s H eF (a, oe))) (T : Txt mg) (CL : ClsT CC mg) (ER : ErrT CC K c) (hz : Zc (.ref (CC c)) none oe) (hf : ∃ vs, oe.data = .fields vs) (q : ∀ H', Same H H' → Q (.str (wordS c)) H') :
    ∃ t, PSs (cxH cxF P w K mg base N__law_names "_law_names" (defScope s__law_names) f cdv A outer s H eF (a, oe)) (defBody s__law_names) t ∧ t { nx := fun _ H' => Q .non H', rt := Q } (L2.start N__law_names [.ref a]) H := by
  have isi := call_isB (X := cxH cxF P w K mg base N__law_names "_law_names" (defScope s__law_names) f cdv A outer s H eF (a, oe)) List.mem_cons_self ER.ex hz hf
  have own : ∀ {j : Nat} {x : Str} {p p2 p3 pos : Pos} (hg : Gl (cxH cxF P w K mg base N__law_names "_law_names" (defScope s__law_names) f cdv A outer s H eF (a, oe)) x) (hm : mg x = some (.ref (CC j))) (hd : (x == ("__debug__" : Str)) = false)
      (s1 : starEach [.Name "_law_error" p2, .Name x p3] (cxH cxF P w K mg base N__law_names "_law_names" (defScope s__law_names) f cdv A outer s H eF (a, oe)).env = (false, eval (.Name "_law_error" p2) _) :: starEach [.Name x p3] _) (s2 : starEach [.Name x p3] (cxH cxF P w K mg base N__law_names "_law_names" (defScope s__law_names) f cdv A outer s H eF (a, oe)).env = (false, eval (.Name x p3) _) :: starEach [] _) (s3 : (backTo pos (starEach [.Name x p3] (cxH cxF P w K mg base N__law_names "_law_names" (defScope s__law_names) f cdv A outer s H eF (a, oe)).env)).any (·.1) = false),
      PE (cxH cxF P w K mg base N__law_names "_law_names" (defScope s__law_names) f cdv A outer s H eF (a, oe)) (.Call (.Name "isinstance" p) [.Name "_law_error" p2, .Name x p3] [] pos) (tCB (rIsE K (CC c) a) (tCons (tVar 0) (tCons (tC (.ref (CC j))) tNil))) := fun hg hm hd s1 s2 s3 =>
    pe_callB isi rfl T.isinstance bb_isi (pa_cons (pe_var (i := 0) rfl (by first | exact .inl rfl | exact .inr (.inl rfl) | exact .inr (.inr rfl))) (pa_cons (pe_glob (v := .ref (CC _)) hg hm rfl hd) pa_nil s2) s1) (by decide) (by decide) s1 s3
  have rd : ∀ {j : Nat} {b : Bool} {σ : L2.St} {H : Hp} {Q : VK}, PySem.W.kitOne K (.ref (CC c)) (.ref (CC j)) = some b → σ[0]? = some (some (.ref a)) → Q (.bl b) H → tCB (rIsE K (CC c) a) (tCons (tVar 0) (tCons (tC (.ref (CC j))) tNil)) σ H Q := fun e h0 q =>
    ⟨.ref a, h0, _, _, _, rfl, fun u r => r, e, q⟩
  refine ⟨_, pss_cons (ps_set (i := 1) nd__law_names rfl (by first | exact .inl rfl | exact .inr rfl) (pe_lst (pa_cons (own rfl CL.square (by decide) rfl rfl rfl) (pa_cons (own rfl CL.sides (by decide) rfl rfl rfl) (pa_cons (own rfl CL.number (by decide) rfl rfl rfl) pa_nil)))))
    (pss_cons (ps_set (i := 1) nd__law_names rfl (by first | exact .inl rfl | exact .inr rfl) (pe_op op_cat (pe_var (i := 1) rfl (by first | exact .inl rfl | exact .inr (.inl rfl) | exact .inr (.inr rfl))) (pe_lst (pa_cons (own rfl CL.facts (by decide) rfl rfl rfl) (pa_cons (own rfl CL.bounds (by decide) rfl rfl rfl) pa_nil)))))
    (pss_cons (ps_set (i := 1) nd__law_names rfl (by first | exact .inl rfl | exact .inr rfl) (pe_op op_cat (pe_var (i := 1) rfl (by first | exact .inl rfl | exact .inr (.inl rfl) | exact .inr (.inr rfl))) (pe_lst (pa_cons (own rfl CL.many (by decide) rfl rfl rfl) (pa_cons (pe_callB isi rfl T.isinstance bb_isi (pa_cons (pe_var (i := 0) rfl (by first | exact .inl rfl | exact .inr (.inl rfl) | exact .inr (.inr rfl))) (pa_cons (pe_bltn (v := .ty "ValueError") rfl CL.value bb_VE rfl) pa_nil))) pa_nil)))))
    (pss_cons (ps_set (i := 2) nd__law_names rfl (by first | exact .inl rfl | exact .inr rfl) pe_str)
    (pss_one (ps_ret (pe_bm PySem.F.plainAttrs_str PySem.F.slot_str_join PySem.F.type_str_join mt_join pe_str (pa_cons (pe_lcB (own := [("_law_label", 3), ("_law_fine", 4)]) (g := gTup K 2 (gCons (gName 3) (gCons (gName 4) gNil))) hot nd__law_names
      (pi_zipB rfl T.zip (pa_cons (pe_bm PySem.F.plainAttrs_str PySem.F.slot_str_split PySem.F.type_str_split mt_split (pe_var (i := 2) rfl (by first | exact .inl rfl | exact .inr (.inl rfl) | exact .inr (.inr rfl))) (pa_cons pe_str pa_nil)) (pa_cons (pe_var (i := 1) rfl (by first | exact .inl rfl | exact .inr (.inl rfl) | exact .inr (.inr rfl))) pa_nil)))
      (blkOk_by (own := [("_law_label", 3), ("_law_fine", 4)]) (N := N__law_names) (sc := defScope s__law_names) (by decide +kernel))
      (fun _ _ _ _ _ hb => pg_tupB hb (pgs_cons (pg_name (i := 3) nd__law_names rfl (by first | exact .inl rfl | exact .inr rfl)) (pgs_cons (pg_name (i := 4) nd__law_names rfl (by first | exact .inl rfl | exact .inr rfl)) pgs_nil)))
      (fun _ _ _ _ _ => pts_one (pt_val (pe_var (i := 4) rfl (by first | exact .inl rfl | exact .inr (.inl rfl) | exact .inr (.inr rfl)))))
      (fun _ _ _ _ _ => pe_var (i := 3) rfl (by first | exact .inl rfl | exact .inr (.inl rfl) | exact .inr (.inr rfl)))) pa_nil))))))), ?_⟩
  -- the readings
  refine rd ER.square rfl (rd ER.sides rfl (rd ER.number rfl ⟨by show 3 ≤ sizeLine; decide, fun p1 h1 => ?_⟩))
  refine ⟨.ref p1, rfl, rd ER.facts rfl (rd ER.bounds rfl ⟨by show 2 ≤ sizeLine; decide, fun p2 h2 => ?_⟩)⟩
  have n12 : p1 ≠ p2 := fun z => by
    rw [← z, upd_same] at h2
    cases h2
  refine ⟨p1, p2, _, _, rfl, rfl, by rw [upd_ne n12]; exact upd_same, upd_same, by show 3 + 2 ≤ sizeLine; decide, fun p3 h3 => ?_⟩
  have s3 := ((same_upd (o := .lst [.bl (decide (c = 0)), .bl (decide (c = 1)), .bl (decide (c = 3))]) h1).trans (same_upd h2)).trans (same_upd (o := .lst ([.bl (decide (c = 0)), .bl (decide (c = 1)), .bl (decide (c = 3))] ++ [.bl (decide (c = 4)), .bl (decide (c = 2))])) h3)
  refine ⟨.ref p3, rfl, rd ER.many rfl ⟨.ref a, rfl, _, _, _, rfl, fun u r => r, ER.value, by show 2 ≤ sizeLine; decide, fun p4 h4 => ?_⟩⟩
  have n34 : p3 ≠ p4 := fun z => by
    rw [← z, upd_same] at h4
    cases h4
  refine ⟨p3, p4, _, _, rfl, rfl, by rw [upd_ne n34]; exact upd_same, upd_same, by show 5 + 2 ≤ sizeLine; decide, fun p5 h5 => ?_⟩
  have s5 := (s3.trans (same_upd (o := .lst [.bl (decide (c = 5)), .bl true]) h4)).trans (same_upd (o := .lst (([.bl (decide (c = 0)), .bl (decide (c = 1)), .bl (decide (c = 3))] ++ [.bl (decide (c = 4)), .bl (decide (c = 2))]) ++ [.bl (decide (c = 5)), .bl true])) h5)
  refine ⟨rfl, .str labelsS, rfl, rfl, labelsS, " ", rfl, rfl, by decide, by decide, fun p6 h6 => ?_⟩
  have s6 := same_upd (o := .lst ((Txt.split labelsS " ").map V.str)) h6
  refine ⟨.ref p5, rfl, p6, p5, _, (kindsL c).map V.bl, rfl, .inl (.inl upd_same), .inl (.inl (s6 _ _ upd_same)), ?_⟩
  have len : (Txt.split labelsS " ").length = 7 := by decide +kernel
  refine zip_keep (K := K) (ls := Txt.split labelsS " ") (bs := kindsL c) (by rw [len]; rfl) (by rw [len]; decide) (.inl (.inl upd_same)) (.inl (.inl (s6 _ _ upd_same))) (by rfl) fun D H' sm hd => ?_
  refine ⟨" ", D, _, rfl, rfl, .inl (.inl (.inl hd)), ?_, q H' ((s5.trans s6).trans sm)⟩
  have pl : ∀ (ls : List Str) (bs : List Bool), (pickL ls bs).length ≤ ls.length ∧ ((pickL ls bs).map (·.length)).sum ≤ (ls.map (·.length)).sum := by
    intro ls
    induction ls with
    | nil => exact fun bs => ⟨Nat.le_refl _, Nat.le_refl _⟩
    | cons x xs ih =>
      intro bs
      cases bs with
      | nil => exact ⟨Nat.zero_le _, Nat.zero_le _⟩
      | cons b bs =>
        have z := ih bs
        cases b with
        | true =>
          show (x :: pickL xs bs).length ≤ (x :: xs).length ∧ ((x :: pickL xs bs).map (·.length)).sum ≤ ((x :: xs).map (·.length)).sum
          simp only [List.length_cons, List.map_cons, List.sum_cons]
          omega
        | false =>
          show (pickL xs bs).length ≤ (x :: xs).length ∧ ((pickL xs bs).map (·.length)).sum ≤ ((x :: xs).map (·.length)).sum
          simp only [List.length_cons, List.map_cons, List.sum_cons]
          omega
  have z := pl (Txt.split labelsS " ") (kindsL c)
  have sum : ((Txt.split labelsS " ").map (·.length)).sum = 37 := by decide +kernel
  rw [sum, len] at z
  have one : (" " : Str).length = 1 := by decide +kernel
  rw [one]
  omega
end K6H

end
-- text La1
section
set_option Elab.async false
set_option linter.all false
set_option autoImplicit false
set_option maxRecDepth 100000
set_option maxHeartbeats 4000000
/-! A lambda is made: one table of code objects changes, nothing else. -/
namespace K6H
open PySem PySem.Spec PyProof.Rows L2 HotX L2H LamX
section
variable {X : Cx} {pins : List (Addr × Obj)} {σ : L2.St} {H : Hp} {s : Shared}
theorem lam_new {c P : Addr} {params : Arguments} {body : Expr} {scope : Scope} {pos : Pos} {E : Value → Shared → Prop} {Q : Value → Shared → Prop} (I : Inv X pins σ H s) (TB : TabB X.base X.mg c P) (hcode : X.env.code = .ref c)
    (hT : TabS H P (X.env.qual ++ "<lambda>")) (hdef : defaultsOf params X.env = ([], [])) (hfree : ∀ y ∈ scope.names, y.2 = .free → ∃ c, X.env.cells.lookup y.1 = some c)
    (h : ∀ (f c' : Addr) (pm ctv : Value) (H1 : Hp) (s' : Shared), Inv X pins σ H1 s' → (∀ b o, b ≠ P → H b = some o → H1 b = some o) → TabS H1 P (X.env.qual ++ "<lambda>") →
      s'.heap.get? f = some (PySem.W.kla_obj "<lambda>" (X.env.qual ++ "<lambda>") params body scope (cloFrom X.env.cells scope.names []) pm c' ctv) → H1 f = none → f ∉ frs X.stack → H1 c' = some (CodeO c' (X.env.qual ++ "<lambda>")) → Q (.ref f) s') :
    wpAny (model X.prog X.w) X.A (eval (.Lambda params body scope pos) X.env) Q E s := by
  obtain ⟨ps, hP, tri, among⟩ := hT
  have gP : s.heap.get? P = some { cls := .none, data := .fields ps } := I.hok P _ hP
  have far : ∀ f, s.heap.objs.size ≤ f → f ∉ frs X.stack := fun f hf z => (List.mem_cons.mp (I.stkSub _ z)).elim (fun e => absurd (Nat.lt_of_lt_of_le (e ▸ I.lt) hf) (Nat.lt_irrefl _)) fun e => I.nofs hf e
  refine PySem.W.kla_eval hdef ?_
  cases hc : codeAmong pos ps.toList with
  | some cv =>
    obtain ⟨c', rfl, hco⟩ := among pos cv hc
    refine PySem.W.kla_makeFunctionHit (mg := X.mg) (c := c) (P := P) (ps := ps) (closure_ok hfree) I.ok.glob (I.mod.glob.keeps I.bk) hcode (TB.code.keeps I.bk) gP tri hc (TB.bm.keeps I.bk) fun ctv h' tk hx hsz => ?_
    refine h h'.objs.size c' ((X.mg "__name__").getD .none) ctv H _ (I.kept (t' := tk) fun b o e => Heap.get?_push_of_some _ (hx b o e)) (fun b o _ e => e) ⟨ps, hP, tri, among⟩ (Heap.get?_push_size _ rfl) (I.hok.fresh hsz) (far _ hsz) hco
  | none =>
    refine PySem.W.kla_makeFunction (mg := X.mg) (c := c) (P := P) (ps := ps) (closure_ok hfree) I.ok.glob (I.mod.glob.keeps I.bk) hcode (TB.code.keeps I.bk) gP tri hc TB.gP (TB.bm.keeps I.bk) fun c' ctv h' tk hx hge hlt hrec htb => ?_
    obtain ⟨c2, oc, vs, t, e2, hoc, hd, hv⟩ := hrec
    cases e2
    have le := Nat.le_trans hge (Nat.le_of_lt hlt)
    have nC : H c' = none := I.hok.fresh hge
    have nPC : P ≠ c' := ne_of_none hP nC
    have J := inv_table (t' := tk) (q := X.env.qual ++ "<lambda>") (more := #[rawInt pos.line, rawInt pos.col, .ref c']) (h' := h'.push (PySem.W.kla_obj "<lambda>" (X.env.qual ++ "<lambda>") params body scope (cloFrom X.env.cells scope.names []) ((X.mg "__name__").getD .none) c' ctv)) I hP
      (fun b o hb e => Heap.get?_push_of_some _ (hx b o hb e)) (Heap.get?_push_of_some _ htb) hge ⟨oc, vs, t, Heap.get?_push_of_some _ hoc, hd, hv⟩
    have same : ∀ b o, b ≠ P → H b = some o → upd (upd H P (.tbl (ps ++ #[rawInt pos.line, rawInt pos.col, .ref c']))) c' (CodeO c' (X.env.qual ++ "<lambda>")) b = some o := fun b o hb e => by
      rw [upd_ne (ne_of_none e nC), upd_ne hb]
      exact e
    have lst : (ps ++ #[rawInt pos.line, rawInt pos.col, .ref c']).toList = ps.toList ++ [rawInt pos.line, rawInt pos.col, .ref c'] := by simp
    refine h h'.objs.size c' ((X.mg "__name__").getD .none) ctv _ _ J same ⟨_, by rw [upd_ne nPC, upd_same], by rw [lst]; exact PySem.TriplesOk_snoc _ _ _ _ tri, fun p' cv hcv => ?_⟩ (Heap.get?_push_size _ rfl) ?_ (far _ le) upd_same
    · rw [lst] at hcv
      rcases among_app _ tri hcv with z | z
      · obtain ⟨c0, e1, e2⟩ := among p' cv z
        have n0 : c0 ≠ P := fun y => by
          rw [y, hP] at e2
          exact codeO_ne _ (Option.some.inj e2).symm
        exact ⟨c0, e1, same c0 _ n0 e2⟩
      · exact ⟨c', z, upd_same⟩
    · rw [upd_ne (Nat.ne_of_gt hlt), upd_ne (Nat.ne_of_gt (Nat.lt_of_lt_of_le (Heap.lt_size gP) le))]
      exact I.hok.fresh le
end
end K6H

end
-- text La2
section
set_option Elab.async false
set_option linter.all false
set_option autoImplicit false
set_option maxRecDepth 100000
set_option maxHeartbeats 4000000
/-! The lambda is called in the def that got it; its errors' context is None. -/
namespace K6H
open PySem PySem.Spec PyProof.Rows L2 HotX L2H LamX K6
def lamN (X : Cx) (A : Around) (outer : List Env) (s : Shared) (H : Hp) (E : XK) (scope : Scope) (f c' : Addr) : Cx :=
  (lamCx X A outer s H eF scope f c').wish fun e s' => wpAny (model X.prog X.w) (A.deeper (lamEnv X scope s.heap.objs.size f c')) (leaving (lamEnv X scope s.heap.objs.size f c') e) (fun _ s2 => L2N.CX X.prog X.w outer H s E e s2) (fun e2 s2 => L2N.CX X.prog X.w outer H s E e2 s2) s'
theorem takes_lam {X : Cx} {A : Around} {outer : List Env} {s : Shared} {H : Hp} {E : XK} {scope : Scope} {f c' : Addr} : L2N.Takes (lamN X A outer s H E scope f c') (fun cls d _ H => E cls d H) := L2N.takes_of rfl rfl rfl rfl
/-- a function that keeps a plain promise -/
structure HeldD (CC : Nat → Addr) (P : Program) (w : World) (K : PySem.W.Frag) (mg : Str → Option Value) (base : Heap) (k : Nat) (f : Addr) (g : FM) (n : Nat) : Prop where
  ex : ∃ fd ps, FnOk P w K mg base (L2N.CX P w) k f fd ps (spD CC g n) ∧ PySem.W.keepIn K (.ref f) = true ∧ L2.Binds K fd ps []
def tCallG (CC : Nat → Addr) (P : Program) (w : World) (K : PySem.W.Frag) (mg : Str → Option Value) (base : Heap) (k i : Nat) (t : TA) (E : XK) : TE := fun σ H Q => ∃ f g n, σ[i]? = some (some (.ref f)) ∧ HeldD CC P w K mg base k f g n ∧ t σ H fun vs H1 => spD CC g n vs H1 Q E
theorem pe_callG {CC : Nat → Addr} {Y : Cx} {k i : Nat} {x : Str} {p pos : Pos} {e : Expr} {es : List Expr} {t : TA} {E : XK} (tk : L2N.Takes Y (fun cls d _ H => E cls d H)) (hr : Room k Y.A) (hN : Y.N[i]? = some x) (hv : Vis Y.env.scope x) (ha : PA Y (e :: es) t)
    (hdb : (x == ("__debug__" : Str)) = false := by decide) (hcd : (x == ("__classdict__" : Str)) = false := by decide) (he : starEach (e :: es) Y.env = (false, eval e Y.env) :: starEach es Y.env := by rfl) (hpl : (backTo pos (starEach es Y.env)).any (·.1) = false := by rfl) :
    PE Y (.Call (.Name x p) (e :: es) [] pos) (tCallG CC Y.prog Y.w Y.K Y.mg Y.base k i t E) := by
  refine ⟨fun pins s σ H Q I h => ?_⟩
  obtain ⟨f, g, n, h0, hH, ht⟩ := h
  obtain ⟨fd, ps, hF, hk, hb⟩ := hH.ex
  refine (pe_callL (p := p) hF hr hN hv hk hb .nil (fun pins σ H s e s' I c => L2N.passAt tk σ pins H s e s' I c) ha hdb hcd he hpl).run pins s σ H Q I ⟨h0, ?_⟩
  have eq : (fun (vs : List V) (H1 : Hp) => spD CC g n (vs ++ []) H1 Q E) = fun vs H1 => spD CC g n vs H1 Q E := by
    funext vs H1
    rw [List.append_nil]
  rw [eq]
  exact ht
section
variable {X : Cx} {pins : List (Addr × Obj)} {σ : L2.St} {H : Hp} {s : Shared}
theorem pe_actN {Ng : List Str} {qg : Str} {sg : Scope} {g f c' : Addr} {cdg pm ctv : Value} {params : Arguments} {body : Expr} {scope : Scope} {k i : Nat} {a : Str} {pn : List (Addr × Obj)} {xe : Value → Shared → Prop} {W : WX} {tb : XK → TE} {p1 p2 : Pos}
    (I : Inv X pins σ H s) (L : LamS X.env.scope scope) (hf : s.heap.get? f = some (PySem.W.kla_obj "<lambda>" (X.env.qual ++ "<lambda>") params body scope (cloFrom X.env.cells scope.names []) pm c' ctv)) (hfn : H f = none) (hfr : f ∉ frs X.stack)
    (hbind : bindArgs (PySem.W.kla_fn "<lambda>" (X.env.qual ++ "<lambda>") params body scope (cloFrom X.env.cells scope.names []) pm (.ref c') ctv) ⟨[], []⟩ = pure [])
    (tk : L2N.Takes ((cxOf cxF X.prog X.w X.K X.mg X.base Ng qg sg g cdg X.A X.stack s H eF).tr pn xe) W) (hr : Room (k + 1) (X.A.deeper (envOfC qg sg s.heap.objs.size g cdg)))
    (hbody : ∀ (A : Around) (outer : List Env) (s : Shared) (H : Hp) (E : XK), Room k (A.deeper (lamEnv X scope s.heap.objs.size f c')) → PE (lamN X A outer s H E scope f c') body (tb E))
    (hN : Ng[i]? = some a) (hv : Vis sg a) (hd : (a == ("__debug__" : Str)) = false := by decide) (hcd : (a == ("__classdict__" : Str)) = false := by decide) :
    PE ((cxOf cxF X.prog X.w X.K X.mg X.base Ng qg sg g cdg X.A X.stack s H eF).tr pn xe) (.Call (.Name a p1) [] [] p2) (fun σZ HZ Q => σZ[i]? = some (some (.ref f)) ∧ HZ c' = some (CodeO c' (X.env.qual ++ "<lambda>")) ∧ tb (WE W σZ) σ HZ Q) := by
  refine ⟨fun pinsZ sZ σZ HZ Q IZ ⟨hs, hc, ht⟩ => ?_⟩
  refine wpAny_Call_Name_kw (thn ((pe_var (pos := p1) (i := i) hN hv hd hcd).run pinsZ sZ σZ HZ (fun v H1 => v = .ref f ∧ H1 = HZ) IZ ⟨.ref f, hs, rfl, rfl⟩) fun u s1 hu => ?_)
  obtain ⟨v, H1, I1, r1, rfl, rfl⟩ := hu
  cases r1
  have obj : s1.heap.get? f = some (PySem.W.kla_obj "<lambda>" (X.env.qual ++ "<lambda>") params body scope (cloFrom X.env.cells scope.names []) pm c' ctv) := I1.base.keep f _ hf hfn hfr (fun z => nomatch (show f ∈ ([] : List Addr) from z))
  refine PySem.W.callWith_F0 ⟨_, _, _, _, obj⟩ ?_
  obtain ⟨⟨oc, vs, t, hoc, hdc, hvc⟩, _, _⟩ := I1.hok c' _ hc
  have un : Un (frs X.stack) [] H H1 s.heap s1.heap := I1.base
  have rc : codeAny (model X.prog X.w) (X.A.deeper (envOfC qg sg s.heap.objs.size g cdg)) (.call (.ref f) ⟨[], []⟩) (CR (L2N.CX X.prog X.w) (envOfC qg sg s.heap.objs.size g cdg :: X.stack) X.prog X.w H1 s1 Q (WE W σZ)) s1 := by
    refine PySem.W.kla_callFunE hr.depth obj rfl L.co L.gen rfl ⟨c', oc, vs, t, rfl, hoc, hdc, hvc⟩ ?_
    rw [hbind]
    refine wpAny_pure (wpAny_newFunctionEnv (fun y hy => (L.own y hy).2) (fun y hy => nomatch (show y ∈ ([] : List (Str × Value)) from hy)) (fun h2 ns sb => ⟨I1.nolimit.fresh _ sb, ?_⟩) L.kind)
    have up : ∀ b o, s1.heap.get? b = some o → h2.get? b = some o := fun b o e => sb.extBut b o (Nat.ne_of_lt (Heap.lt_size e)) (Heap.get?_push_of_some _ e)
    have J := (lam_start2 (E := eF) (f := f) (c' := c') (tk := s1.toks + ([] : List (Str × Value)).length) I L I1.env0 hr.hd un ns up).wish (fun e s' => wpAny (model X.prog X.w) ((X.A.deeper (envOfC qg sg s.heap.objs.size g cdg)).deeper (lamEnv X scope s1.heap.objs.size f c')) (leaving (lamEnv X scope s1.heap.objs.size f c') e) (fun _ s2 => L2N.CX X.prog X.w (envOfC qg sg s.heap.objs.size g cdg :: X.stack) H1 s1 (WE W σZ) e s2) (fun e2 s2 => L2N.CX X.prog X.w (envOfC qg sg s.heap.objs.size g cdg :: X.stack) H1 s1 (WE W σZ) e2 s2) s')
    refine PySem.W.kla_codeExpr (wpAny_mono ((hbody _ _ s1 H1 (WE W σZ) (hr.deeper _)).run [] _ _ H1 Q J ht) (fun v s' hq => ?_) fun e s' hq => hq)
    obtain ⟨v', H', J', rv, q⟩ := hq
    exact ⟨v', H', J'.os, J'.bare, J'.base, J'.hok, rv, q⟩
  refine wpAny_call (codeAny_mono rc fun r s' hq => ?_)
  cases r with
  | error e => exact L2N.passAt tk σZ pinsZ H1 s1 e s' I1 hq
  | ok fl =>
    cases fl with
    | ret u => exact I1.after hq
    | next => exact (show False from hq).elim
    | brk => exact (show False from hq).elim
    | cont => exact (show False from hq).elim
end
end K6H

end
-- text La3
section
set_option Elab.async false
set_option linter.all false
set_option autoImplicit false
set_option maxRecDepth 100000
set_option maxHeartbeats 4000000
/-! _law_word(lambda: ..): the word of the error. -/
namespace K6H
open PySem PySem.Spec PyProof.Rows L2 HotX L2H LamX K6
abbrev s__law_word : Stmt := topS 50
abbrev N__law_word : List Str := ["_law_call", "_law_error"]
theorem sc__law_word : FnScope N__law_word ["_law_call"] (defScope s__law_word) := ⟨rfl, rfl, rfl, by decide +kernel, rfl, by decide +kernel, by decide +kernel⟩
theorem nd__law_word : N__law_word.Nodup := sc__law_word.nd
/-- what the words' defs and classes are -/
structure WordT (CC : Nat → Addr) (K : PySem.W.Frag) (mg : Str → Option Value) : Prop where
  T : Txt mg
  CL : ClsT CC mg
  ER : ∀ c, c = 1 ∨ c = 2 → ErrT CC K c
  N : ∃ f fd, Fun K "_law_names" "_law_names" s__law_names f fd ∧ mg "_law_names" = some (.ref f) ∧ L2.Binds K fd ["_law_error"] []
  W : ∃ f fd, Fun K "_law_word" "_law_word" s__law_word f fd ∧ mg "_law_word" = some (.ref f) ∧ L2.Binds K fd ["_law_call"] []
def tSuite (CC : Nat → Addr) : Addr → Value → Option Addr → TS := fun a cls d D σ H => ∃ c, (c = 1 ∨ c = 2) ∧ cls = .ref (CC c) ∧ d = none ∧ σ[1]? = some (some (.ref a)) ∧ ∀ H', Same H H' → D.rt (.str (wordS c)) H'
theorem pe_namesS {CC : Nat → Addr} {Z : Cx} {a : Addr} {oe : Obj} {cls : Value} {d : Option Addr} {pn : List (Addr × Obj)} {p p2 pos : Pos} {k : Nat} (WT : WordT CC Z.K Z.mg) (hr : Room (k + 1) Z.A) (hz : L2N.Zn cls d oe) (hf : ∃ vs, oe.data = .fields vs)
    (hg : Gl (Z.suite a ((a, oe) :: pn)) "_law_names") (hN : Z.N[1]? = some ("_law_error" : Str)) (hv : Vis Z.env.scope "_law_error")
    (he : starEach [.Name "_law_error" p2] (Z.suite a ((a, oe) :: pn)).env = (false, eval (.Name "_law_error" p2) (Z.suite a ((a, oe) :: pn)).env) :: starEach [] (Z.suite a ((a, oe) :: pn)).env := by rfl) (hpl : (backTo pos (starEach [] (Z.suite a ((a, oe) :: pn)).env)).any (·.1) = false := by rfl) :
    PE (Z.suite a ((a, oe) :: pn)) (.Call (.Name "_law_names" p) [.Name "_law_error" p2] [] pos) (fun σ H Q => ∃ c, (c = 1 ∨ c = 2) ∧ cls = .ref (CC c) ∧ d = none ∧ σ[1]? = some (some (.ref a)) ∧ ∀ H', Same H H' → Q (.str (wordS c)) H') := by
  refine ⟨fun pins s σ H Q I h => ?_⟩
  obtain ⟨c, hc, rfl, rfl, h1, q⟩ := h
  obtain ⟨f, fd, F, hm, hb⟩ := WT.N
  obtain ⟨oc, od, kV, doc, pm, an, cdv, ct, osl, rfl, lk, hcd⟩ := F.ex
  obtain ⟨vs, hd⟩ := hf
  refine wpAny_Call_Name_kw (ld_glob I hg hm ?_)
  refine PySem.W.callWith_K (h₀ := Z.base) I.ok.mod.kin F.kp (thn ((pa_cons (pe_var (X := Z.suite a ((a, oe) :: pn)) (pos := p2) (i := 1) hN hv) pa_nil he).run pos pins s σ H (fun vs H1 => vs = [.ref a] ∧ H1 = H) I ⟨.ref a, h1, rfl, rfl⟩) fun us s1 hu => ?_) he hpl
  obtain ⟨vs', H1, I1, r1, rfl, rfl⟩ := hu
  refine ⟨I1.kIn, ?_⟩
  exact call_hot (X := Z.suite a ((a, oe) :: pn)) (p := (a, oe)) (k := k) List.mem_cons_self ⟨rfl, vs, hd, hz.2.2 vs hd⟩ lk hcd sc__law_names ⟨hr.dp, hr.un⟩ hb I1 r1 rfl fun hB hr' => names_body hB WT.T WT.CL (WT.ER c hc) hz.zc ⟨vs, hd⟩ q
theorem takesF {X : Cx} : L2N.Takes X (fun _ _ _ _ => False) := fun u s' x => by
  obtain ⟨_, _, _, _, _, _, _, _, _, _, _, _, _, _, _, _, z⟩ := x
  exact z.elim
def tLamW (CC : Nat → Addr) (P : Addr) (q : Str) (t : XK → TE) : TE := fun σ H Q => TabS H P q ∧ ∀ H1, (∀ b o, b ≠ P → H b = some o → H1 b = some o) → TabS H1 P q →
  ∀ (E : XK) (Q' : VK), (∀ c H', (c = 1 ∨ c = 2) → (∀ H2, Same H' H2 → Q (.str (wordS c)) H2) → E (.ref (CC c)) none H') → t E σ H1 Q'
theorem pe_word {CC : Nat → Addr} {X : Cx} {c P : Addr} {k : Nat} {params : Arguments} {body : Expr} {scope : Scope} {t : XK → TE} {p lpos pos : Pos} (WT : WordT CC X.K X.mg) (hg : Gl X "_law_word")
    (TB : TabB X.base X.mg c P) (hcode : X.env.code = .ref c) (hr : Room (k + 3) X.A) (L : LamS X.env.scope scope) (hdef : defaultsOf params X.env = ([], []))
    (hbind : ∀ (q : Str) (cl : List (Str × Addr)) (pm cv ctv : Value), bindArgs (PySem.W.kla_fn "<lambda>" q params body scope cl pm cv ctv) ⟨[], []⟩ = pure [])
    (hbody : ∀ (A : Around) (outer : List Env) (s : Shared) (H : Hp) (E : XK) (f c' : Addr), Room (k + 1) (A.deeper (lamEnv X scope s.heap.objs.size f c')) → PE (lamN X A outer s H E scope f c') body (t E)) :
    PE X (.Call (.Name "_law_word" p) [.Lambda params body scope lpos] [] pos) (tLamW CC P (X.env.qual ++ "<lambda>") t) := by
  refine ⟨fun pins s σ H Q I h => ?_⟩
  obtain ⟨hT, h⟩ := h
  obtain ⟨g, fd, F, hm, hb⟩ := WT.W
  obtain ⟨oc, od, kV, doc, pm, an, cdv, ct, osl, rfl, lk, hcd⟩ := F.ex
  refine wpAny_Call_Name_kw (ld_glob I hg hm ?_)
  refine PySem.W.callWith_K (h₀ := X.base) I.ok.mod.kin F.kp ?_ (by rfl) (by rfl)
  show wpAny _ _ (spliced ((false, eval (.Lambda params body scope lpos) X.env) :: backTo pos (starEach [] X.env))) _ _ _
  refine Calls.spliced_cons (lam_new I TB hcode hT hdef (L.has I.ok) fun f c' pm' ctv H1 s' I1 sm T1 gf nf far hco => Calls.spliced_nil ⟨I1.kIn, ?_⟩)
  have rc : codeAny (model X.prog X.w) X.A (.call (.ref g) ⟨[.ref f], []⟩) (CR cxF X.stack X.prog X.w H1 s' Q eF) s' := by
    refine run_ofS (N := N__law_word) (ps := ["_law_call"]) (us := [.ref f]) (vs := [.ref f]) (k := k + 2) lk hcd sc__law_word hr I1.env0 (hb s' [.ref f] I1.kIn rfl) (.cons rfl .nil) rfl fun hr' => ?_
    refine ⟨_, pss_cons (L2N.ps_try_as (i := 1) (c := .ref (CC 6)) (tb := fun W => tDrop (fun σZ HZ Q => σZ[0]? = some (some (.ref f)) ∧ HZ c' = some (CodeO c' (X.env.qual ++ "<lambda>")) ∧ t (WE W σZ) σ HZ Q)) (ts := tSuite CC) (Wout := fun _ _ _ _ => False) rfl rfl nd__law_word rfl rfl ⟨rfl, by decide, .inl WT.CL.sign⟩ takesF
      (fun W pn xe tk _ => pss_one (ps_expr (pe_actN (i := 0) (k := k + 1) I1 L gf nf far (hbind _ _ _ _ _) tk hr' (fun A outer s H E hr2 => hbody A outer s H E f c' hr2) rfl (by first | exact .inl rfl | exact .inr (.inl rfl) | exact .inr (.inr rfl)))))
      (fun a oe cls d pn hz hf => pss_one (ps_ret (pe_namesS (Z := cxOf cxF X.prog X.w X.K X.mg X.base N__law_word "_law_word" (defScope s__law_word) g cdv X.A X.stack s' H1 eF) (k := k + 1) WT hr' hz hf rfl rfl (by first | exact .inl rfl | exact .inr (.inl rfl) | exact .inr (.inr rfl)))))) (pss_one (ps_ret pe_str)), ?_⟩
    refine ⟨rfl, hco, h H1 sm T1 _ _ fun c1 H' hc q => ⟨true, (WT.ER c1 hc).em, fun _ a na => ⟨c1, hc, rfl, rfl, rfl, q⟩, fun z => nomatch z⟩⟩
  refine wpAny_call (codeAny_mono rc fun r s2 hq => ?_)
  cases r with
  | error e => exact (show False from hq).elim
  | ok fl =>
    cases fl with
    | ret u => exact I1.after hq
    | next => exact (show False from hq).elim
    | brk => exact (show False from hq).elim
    | cont => exact (show False from hq).elim
end K6H

end
-- text La4
section
set_option Elab.async false
set_option linter.all false
set_option autoImplicit false
set_option maxRecDepth 100000
set_option maxHeartbeats 4000000
/-! Two words, of two functions in turn: [_law_word(lambda: f(..)) for f in (f1, f2)]. -/
namespace K6H
open PySem PySem.Spec PyProof.Rows L2 HotX L2H LamX K6
/-- the table of code objects as what changes -/
def tabS (P : Addr) (q : Str) : Spot where
  ok := fun a H => a = P ∧ TabS H a q
  ne := fun ⟨_, ps, h, _⟩ z => by
    rw [h] at z
    cases z
  mono := fun s t => ⟨t.1, t.2.ext s⟩
  at_ := fun _ _ => True
  free := fun _ => True
  set := fun _ _ => trivial
def tDA (m : AM) : TA := fun σ H Q => ∃ ρ ds F, m ρ = some ds ∧ Rel ρ σ F H ∧ ∀ vs F' H', Grow F H F' H' → Dvs F' vs ds → Q vs H'
theorem ad_pa {X : Cx} {es : List Expr} {m : AM} (h : AD X es m) : PA X es (tDA m) := by
  obtain ⟨t, pt, et⟩ := h.ex
  exact ⟨fun pos pins s σ H Q I ⟨ρ, ds, F, h1, R, q⟩ => pt.run pos pins s σ H Q I (et ρ ds h1 σ F H R Q q)⟩
theorem rel_no {ρ : En} {σ : L2.St} {F H : Hp} {i : Nat} {x : Option V} (R : Rel ρ σ F H) (h : ρ[i]? = some .no) : Rel ρ (σ.set i x) F H :=
  ⟨by rw [List.length_set, R.len], R.sub, fun j d e => by
    have n : i ≠ j := fun z => by
      rw [← z, h] at e
      cases e
    rw [set_get n]
    exact R.dat j d e, fun j ds e => by
    have n : i ≠ j := fun z => by
      rw [← z, h] at e
      cases e
    rw [set_get n]
    exact R.own j ds e, fun j k ds es a hjk e1 e2 e3 => by
    have n1 : i ≠ j := fun z => by
      rw [← z, h] at e1
      cases e1
    have n2 : i ≠ k := fun z => by
      rw [← z, h] at e2
      cases e2
    rw [set_get n1] at e3
    rw [set_get n2]
    exact R.apart j k ds es a hjk e1 e2 e3⟩
theorem loose_wipe {ρ : En} (h : ∀ (i : Nat) (ds : List PyData), ρ[i]? ≠ some (Sl.own ds)) : ∀ (i : Nat) (ds : List PyData), (wipeE ρ [3])[i]? ≠ some (Sl.own ds) := fun i ds e => by
  have e' : (ρ.set 3 .no)[i]? = some (Sl.own ds) := e
  rcases get_set e' with ⟨_, z⟩ | ⟨_, z⟩
  · cases z
  · exact h i ds z
section
variable {CC : Nat → Addr} {P : Program} {w : World} {K : PySem.W.Frag} {mg : Str → Option Value} {base : Heap}
/-- one turn of the comprehension: the lambda's call ends in the error c -/
theorem word_read {a P0 : Addr} {q : Str} {k n c : Nat} {m : AM} {g : FM} {f : Addr} {ρ : En} {ds : List PyData} {σ : L2.St} {F H : Hp} {Q : VK} (R : RelC a (tabS P0 q) ρ σ F H) (l3 : 3 < ρ.length) (hf : HeldD CC P w K mg base k f g n) (hm : m (wipeE ρ [3]) = some ds) (hl : ds.length = n) (hc : c = 1 ∨ c = 2) (hg : g ds = some (.er c))
    (hq : ∀ F' H', Gc (tabS P0 q).ok a F H F' H' → Q (.str (wordS c)) H') : tLamW CC a q (tCallG CC P w K mg base k 3 (tDA m)) ((wipe σ [3]).set 3 (some (.ref f))) H Q := by
  refine ⟨R.c.2, fun H1 sm T1 E Q' acc => ?_⟩
  have G1 : Gc (tabS P0 q).ok a F H F H1 := by
    have s1 : Same (del H a) (del H1 a) := fun b o e => by
      by_cases z : b = a
      · rw [z, del_same] at e
        cases e
      · rw [del_ne z] at e ⊢
        exact sm b o z e
    exact ⟨⟨Same.refl F, s1, R.r.sub.trans s1, fun _ _ => rfl⟩, R.c.1, T1⟩
  have R1 := R.step G1
  have ls : (wipe σ [3]).length = ρ.length := by rw [wipe_length, R.rel.len]
  refine ⟨f, g, n, set_at (by rw [ls]; exact l3), hf, wipeE ρ [3], ds, F, hm, ?_, fun vs F2 H2 g2 dv => ⟨ds, F2, .er c, g2.sub, dv, hl, hg, fun H3 s3 => ?_⟩⟩
  · exact rel_no (R1.rel.wipe [3]) (set_at (by exact l3))
  · have R2 := R1.step (R1.gc g2)
    have G3 : Gc (tabS P0 q).ok a F2 H2 F2 H3 := R2.gc ⟨Same.refl F2, s3, g2.sub.trans s3, fun _ _ => rfl⟩
    have R3 := R2.step G3
    refine acc c H3 hc fun H4 s4 => hq F2 H4 ?_
    exact G1.trans ((R1.gc g2).trans (G3.trans (R3.gc ⟨Same.refl F2, s4, R3.rel.sub.trans s4, fun _ _ => rfl⟩)))
/-- the whole comprehension -/
theorem words_read {a t f1 f2 P0 : Addr} {q : Str} {k n c : Nat} {m : AM} {g1 g2 : FM} {ρ : En} {ds : List PyData} {σ : L2.St} {F H : Hp} {Q : VK} (R : RelC a (tabS P0 q) ρ σ F H) (l3 : 3 < ρ.length) (ht : H t = some (.tup [.ref f1, .ref f2])) (hf1 : HeldD CC P w K mg base k f1 g1 n) (hf2 : HeldD CC P w K mg base k f2 g2 n)
    (hm : m (wipeE ρ [3]) = some ds) (hl : ds.length = n) (hc : c = 1 ∨ c = 2) (hg1 : g1 ds = some (.er c)) (hg2 : g2 ds = some (.er c))
    (hq : ∀ D F' H', Gc (tabS P0 q).ok a F H F' H' → Dv F' (.ref D) (.list [.str (wordS c), .str (wordS c)]) → Q (.ref D) H') :
    tLc (fun _ _ Rr => Rr (Itt K t) H) (gName 3) tYes (tLamW CC a q (tCallG CC P w K mg base k 3 (tDA m))) [3] σ H Q := by
  intro D hD
  have hDa : D ≠ a := fun z => (tabS P0 q).ne R.c (by rw [← z]; exact hD)
  have hta : t ≠ a := fun z => by
    obtain ⟨_, ps, h, _⟩ := R.c
    rw [← z, ht] at h
    cases h
  let W : Nat → Nat → Hp → Prop := fun i m H' => m = 2 - i ∧ i ≤ 2 ∧ ∃ F', Gc (tabS P0 q).ok a F H F' H' ∧ F' D = none ∧ H' D = some (.lst (List.replicate i (.str (wordS c))))
  have F0 : F D = none := Same.none R.rel.sub hD
  -- a step: the item at i is fi
  have step : ∀ (i : Nat) (fi : Addr) (gi : FM) (H' : Hp), i < 2 → HeldD CC P w K mg base k fi gi n → gi ds = some (.er c) → (∃ F', Gc (tabS P0 q).ok a F H F' H' ∧ F' D = none ∧ H' D = some (.lst (List.replicate i (.str (wordS c))))) →
      tLamW CC a q (tCallG CC P w K mg base k 3 (tDA m)) ((wipe σ [3]).set 3 (some (.ref fi))) H' fun y H4 => ∃ acc, H4 D = some (.lst acc) ∧ acc.length < sizeLine ∧ (i + 1 ≤ 2 ∧ ∃ F', Gc (tabS P0 q).ok a F H F' (upd H4 D (.lst (acc ++ [y]))) ∧ F' D = none ∧ (upd H4 D (.lst (acc ++ [y]))) D = some (.lst (List.replicate (i + 1) (.str (wordS c))))) := by
    rintro i fi gi H' hi hfi hgi ⟨F', G', n1, n2⟩
    have R' := R.step G'
    refine word_read R' l3 hfi hm hl hc hgi fun F4 H4 G4 => ?_
    have nd : del H' a D ≠ none := by
      rw [del_ne hDa, n2]
      simp
    have d4 : H4 D = some (.lst (List.replicate i (.str (wordS c)))) := by
      have z := G4.g.h D _ (by rw [del_ne hDa]; exact n2)
      rwa [del_ne hDa] at z
    have f4 : F4 D = none := (G4.g.old D nd).trans n1
    refine ⟨_, d4, by rw [List.length_replicate]; exact Nat.lt_trans hi (by decide), hi, F4, ?_, f4, by rw [upd_same, List.replicate_succ']⟩
    have g := (G'.trans G4).g
    refine ⟨⟨g.f, fun b o e => ?_, fun b o e => ?_, g.old⟩, ?_⟩
    · by_cases z : b = D
      · rw [z, del_ne hDa, hD] at e
        cases e
      · have y := g.h b o e
        by_cases z2 : b = a
        · rw [z2, del_same] at y
          cases y
        · rw [del_ne z2] at y ⊢
          rw [upd_ne z]
          exact y
    · by_cases z : b = D
      · rw [z, f4] at e
        cases e
      · have y := g.sub b o e
        by_cases z2 : b = a
        · rw [z2, del_same] at y
          cases y
        · rw [del_ne z2] at y ⊢
          rw [upd_ne z]
          exact y
    · obtain ⟨hP, ps, h1, h2, h3⟩ := (G'.trans G4).c
      refine ⟨hP, ps, by rw [upd_ne (Ne.symm hDa)]; exact h1, h2, fun p cv hcv => ?_⟩
      obtain ⟨c0, e1, e2⟩ := h3 p cv hcv
      refine ⟨c0, e1, ?_⟩
      rw [upd_ne (fun z => by
        rw [z, d4] at e2
        have y := Option.some.inj e2
        unfold CodeO at y
        cases y)]
      exact e2
  have seq : ∀ F' H', Gc (tabS P0 q).ok a F H F' H' → SqT K H' t [.ref f1, .ref f2] := fun F' H' G => .inl (.inl (by
    have z := G.g.h t _ (by rw [del_ne hta]; exact ht)
    rwa [del_ne hta] at z))
  refine ⟨W, ⟨2, rfl, Nat.zero_le _, F, ?_, F0, upd_same⟩, ?_⟩
  · have s := same_upd (o := .lst []) hD
    exact R.gc ⟨Same.refl F, s, R.rel.sub.trans s, fun _ _ => rfl⟩
  · rintro i m' H' ⟨rfl, hi, hW⟩
    obtain ⟨F', G', n1, n2⟩ := id hW
    have sq := seq F' H' G'
    match i, hi with
    | 0, _ =>
      refine .inr ⟨⟨_, _, sq, rfl⟩, fun H2 => 0 + 1 ≤ 2 ∧ ∃ F', Gc (tabS P0 q).ok a F H F' H2 ∧ F' D = none ∧ H2 D = some (.lst (List.replicate (0 + 1) (.str (wordS c)))), fun H2 z => ⟨1, by decide, rfl, z.1, z.2⟩, fun x H2 y => ?_⟩
      obtain ⟨rfl, y⟩ := y
      have ex : x = .ref f1 := (Option.some.inj (y _ sq)).symm
      subst ex
      have z := step 0 f1 g1 H2 (by decide) hf1 hg1 hW
      refine ⟨?_, z⟩
      show wipe ((wipe σ [3]).set 3 (some (.ref f1))) [3] = _
      rw [K6.wipe_in List.mem_cons_self]
      exact K6.wipe_sub fun _ h => h
    | 1, _ =>
      refine .inr ⟨⟨_, _, sq, rfl⟩, fun H2 => 1 + 1 ≤ 2 ∧ ∃ F', Gc (tabS P0 q).ok a F H F' H2 ∧ F' D = none ∧ H2 D = some (.lst (List.replicate (1 + 1) (.str (wordS c)))), fun H2 z => ⟨0, by decide, rfl, z.1, z.2⟩, fun x H2 y => ?_⟩
      obtain ⟨rfl, y⟩ := y
      have ex : x = .ref f2 := (Option.some.inj (y _ sq)).symm
      subst ex
      have z := step 1 f2 g2 H2 (by decide) hf2 hg2 hW
      refine ⟨?_, z⟩
      show wipe ((wipe σ [3]).set 3 (some (.ref f2))) [3] = _
      rw [K6.wipe_in List.mem_cons_self]
      exact K6.wipe_sub fun _ h => h
    | 2, _ =>
      refine .inl ⟨⟨_, sq, Nat.le_refl _⟩, ?_⟩
      have nd : D ≠ a := hDa
      have R' := R.step G'
      have fz : Gc (tabS P0 q).ok a F H (upd F' D (.lst [.str (wordS c), .str (wordS c)])) H' :=
        ⟨G'.g.freeze (by rw [del_ne hDa]; exact hD) (by rw [del_ne hDa]; exact n2) n1, G'.c⟩
      exact hq D _ H' fz (.lst upd_same (.cons (.str _) (.cons (.str _) .nil)))
end
end K6H

end
-- text La5
section
set_option Elab.async false
set_option linter.all false
set_option autoImplicit false
set_option maxRecDepth 100000
set_option maxHeartbeats 4000000
/-! Rules for the words, in the drawing layer. -/
namespace K6H
open PySem PySem.Spec PyProof.Rows L2 HotX L2H LamX K6
def nWords (m : AM) (g1 g2 : FM) (n : Nat) : NEM := fun ρ Φ => 3 < ρ.length ∧ ∃ ds c, m (wipeE ρ [3]) = some ds ∧ ds.length = n ∧ (c = 1 ∨ c = 2) ∧ g1 ds = some (.er c) ∧ g2 ds = some (.er c) ∧ Φ (.list [.str (wordS c), .str (wordS c)])
theorem ni_det {X : Cx} {S : Spot} {tg e : Expr} {f : AM} (h : ID X tg e f) : NI X S tg e (fun ρ Φ => ∃ items, f ρ = some items ∧ Φ items) := by
  obtain ⟨wi, p, ei⟩ := h.ex
  exact ⟨⟨wi, p, fun ρ Φ ⟨items, h1, h2⟩ a σ F H R Rr q => ei ρ items h1 σ F H R.rel Rr fun J F' H' g wk => q items J F' H' h2 (R.gc g) wk⟩⟩
def nDetT (f : TM) : NTM := fun ρ Φ => ∃ b, f ρ = some b ∧ Φ b
theorem nt_det {X : Cx} {S : Spot} {e : Expr} {f : TM} (h : TD X e f) : NT X S e (nDetT f) := by
  obtain ⟨t, p, et⟩ := h.ex
  exact ⟨⟨t, p, fun ρ Φ ⟨b, h1, h2⟩ a σ F H R Q q => et ρ b h1 σ F H R.rel Q fun F' H' g => q b F' H' h2 (R.gc g)⟩⟩
section
variable {CC : Nat → Addr} {X : Cx} {P f1 f2 : Addr} {q x1 x2 : Str} {k n : Nat} {m : AM} {g1 g2 : FM}
theorem words_wish {c : Nat} {ρ : En} {ds : List PyData} {a : Addr} {σ : L2.St} {F H : Hp} {Q : VK} (R : RelC a (tabS P q) ρ σ F H) (l3 : 3 < ρ.length) (hf1 : HeldD CC X.prog X.w X.K X.mg X.base k f1 g1 n) (hf2 : HeldD CC X.prog X.w X.K X.mg X.base k f2 g2 n)
    (hm : m (wipeE ρ [3]) = some ds) (hl : ds.length = n) (hc : c = 1 ∨ c = 2) (h1 : g1 ds = some (.er c)) (h2 : g2 ds = some (.er c)) (hq : ∀ v F' H', Gc (tabS P q).ok a F H F' H' → Dv F' v (.list [.str (wordS c), .str (wordS c)]) → Q v H') :
    tLc (iTup X.K (tTup (tCons (tC (.ref f1)) (tCons (tC (.ref f2)) tNil)))) (gName 3) tYes (tLamW CC P q (tCallG CC X.prog X.w X.K X.mg X.base k 3 (tDA m))) [3] σ H Q := by
  have e : a = P := R.c.1
  subst e
  refine ⟨by show 2 ≤ sizeLine; decide, fun t ht => ⟨t, rfl, ⟨_, .inl (.inl upd_same)⟩, ?_⟩⟩
  have g := Grow.loose (o := .tup [.ref f1, .ref f2]) R.rel.sub ht
  exact words_read (R.step (R.gc g)) l3 upd_same hf1 hf2 hm hl hc h1 h2 fun D F' H' G d => hq (.ref D) F' H' ((R.gc g).trans G) d
variable {params : Arguments} {body : Expr} {scope cscope : Scope} {p lpos pos pv p1 p2 tp cpos : Pos} {kk : Nat}
theorem ne_words (hc : X.calm = true) (nd : X.N.Nodup) (G1 : Gl X x1) (M1 : X.mg x1 = some (.ref f1)) (G2 : Gl X x2) (M2 : X.mg x2 = some (.ref f2)) (hf1 : HeldD CC X.prog X.w X.K X.mg X.base k f1 g1 n) (hf2 : HeldD CC X.prog X.w X.K X.mg X.base k f2 g2 n)
    (ok : BlkOk X.N X.env.scope cscope [("_law_call", 3)]) (hg : ∀ (s : Shared) (H : Hp) (C : Addr) (cl : List (Str × Addr)) (fp : List Addr), PG (X.blk s H cscope (compEnvC cscope cl C X.env) fp) (.Name "_law_call" pv) (gName 3))
    (he : ∀ (s : Shared) (H : Hp) (C : Addr) (cl : List (Str × Addr)) (fp : List Addr), PE (X.blk s H cscope (compEnvC cscope cl C X.env) fp) (.Call (.Name "_law_word" p) [.Lambda params body scope lpos] [] pos) (tLamW CC P q (tCallG CC X.prog X.w X.K X.mg X.base k 3 (tDA m))))
    (D1 : (x1 == ("__debug__" : Str)) = false := by decide) (D2 : (x2 == ("__debug__" : Str)) = false := by decide)
    (s1 : starEach [.Name x1 p1, .Name x2 p2] X.env = (false, eval (.Name x1 p1) X.env) :: starEach [.Name x2 p2] X.env := by rfl) (s2 : starEach [.Name x2 p2] X.env = (false, eval (.Name x2 p2) X.env) :: starEach [] X.env := by rfl)
    (hs : ∀ x, foldedSetIterable (.Tuple [.Name x1 p1, .Name x2 p2] kk tp) X.env x = pure x := by intro _; rfl) :
    NE X (tabS P q) (.ListComp (.Call (.Name "_law_word" p) [.Lambda params body scope lpos] [] pos) [⟨.Name "_law_call" pv, .Tuple [.Name x1 p1, .Name x2 p2] kk tp, [], 0⟩] cscope cpos) (nWords m g1 g2 n) := by
  refine ⟨⟨_, pe_lc (own := [("_law_call", 3)]) hc nd (pi_tup (pe_tup (pa_cons (pe_glob (v := .ref f1) G1 M1 rfl D1) (pa_cons (pe_glob (v := .ref f2) G2 M2 rfl D2) pa_nil s2) s1))) ok hg (fun _ _ _ _ _ => pts_nil) he hs, fun ρ Φ h a σ F H R Q qq => ?_⟩⟩
  obtain ⟨l3, ds, c, hm, hl, hcc, e1, e2, hΦ⟩ := h
  exact words_wish R l3 hf1 hf2 hm hl hcc e1 e2 fun v F' H' G d => qq _ v F' H' hΦ G d
theorem ns_setWords {i : Nat} {y : Str} {py spos : Pos} (hc : X.calm = true) (nd : X.N.Nodup) (hy : X.N[i]? = some y) (hyl : X.env.scope.names.lookup y = some .local) (G1 : Gl X x1) (M1 : X.mg x1 = some (.ref f1)) (G2 : Gl X x2) (M2 : X.mg x2 = some (.ref f2)) (hf1 : HeldD CC X.prog X.w X.K X.mg X.base k f1 g1 n) (hf2 : HeldD CC X.prog X.w X.K X.mg X.base k f2 g2 n)
    (ok : BlkOk X.N X.env.scope cscope [("_law_call", 3)]) (hg : ∀ (s : Shared) (H : Hp) (C : Addr) (cl : List (Str × Addr)) (fp : List Addr), PG (X.blk s H cscope (compEnvC cscope cl C X.env) fp) (.Name "_law_call" pv) (gName 3))
    (he : ∀ (s : Shared) (H : Hp) (C : Addr) (cl : List (Str × Addr)) (fp : List Addr), PE (X.blk s H cscope (compEnvC cscope cl C X.env) fp) (.Call (.Name "_law_word" p) [.Lambda params body scope lpos] [] pos) (tLamW CC P q (tCallG CC X.prog X.w X.K X.mg X.base k 3 (tDA m))))
    (hsw : swapsWith (.ListComp (.Call (.Name "_law_word" p) [.Lambda params body scope lpos] [] pos) [⟨.Name "_law_call" pv, .Tuple [.Name x1 p1, .Name x2 p2] kk tp, [], 0⟩] cscope cpos) (some (.Name y py)) spos.line X.env = pure true)
    (D1 : (x1 == ("__debug__" : Str)) = false := by decide) (D2 : (x2 == ("__debug__" : Str)) = false := by decide)
    (s1 : starEach [.Name x1 p1, .Name x2 p2] X.env = (false, eval (.Name x1 p1) X.env) :: starEach [.Name x2 p2] X.env := by rfl) (s2 : starEach [.Name x2 p2] X.env = (false, eval (.Name x2 p2) X.env) :: starEach [] X.env := by rfl)
    (hs : ∀ x, foldedSetIterable (.Tuple [.Name x1 p1, .Name x2 p2] kk tp) X.env x = pure x := by intro _; rfl) :
    NS X (tabS P q) (.Assign [.Name y py] (.ListComp (.Call (.Name "_law_word" p) [.Lambda params body scope lpos] [] pos) [⟨.Name "_law_call" pv, .Tuple [.Name x1 p1, .Name x2 p2] kk tp, [], 0⟩] cscope cpos) spos) (nsSet i (nWords m g1 g2 n)) := by
  refine ⟨⟨_, ps_setLc (own := [("_law_call", 3)]) hc nd hy hyl hsw (pi_tup (pe_tup (pa_cons (pe_glob (v := .ref f1) G1 M1 rfl D1) (pa_cons (pe_glob (v := .ref f2) G2 M2 rfl D2) pa_nil s2) s1))) ok hg (fun _ _ _ _ _ => pts_nil) he hs, fun ρ Φ h a σ F H F0 H0 D R G qq => ?_⟩⟩
  obtain ⟨l3, ds, c, hm, hl, hcc, e1, e2, hΦ⟩ := h
  exact words_wish R l3 hf1 hf2 hm hl hcc e1 e2 fun v F' H' G' d => qq _ hΦ _ F' H' ((R.step G').set trivial d) (G.trans G')
end
end K6H

end
-- text Ref
section
set_option Elab.async false
set_option linter.all false
set_option autoImplicit false
set_option maxRecDepth 100000
set_option maxHeartbeats 4000000

/-! Printed by gen3.py: _law_refused. -/
namespace K6H
open PySem PySem.Spec PyProof.Rows L2 HotX L2H LamX K6
def nDetI (f : AM) : NAM := fun ρ Φ => ∃ items, f ρ = some items ∧ Φ items
def oddsL : List PyData := [.none, (.list []), (.tuple [(.tuple [(.int 0), (.int 0)])]), (.tuple [(.tuple [(.int 0), (.int 0), (.int 41)])]), (.tuple [(.tuple [(.int 0), (.int 0), (.int (-41))])]), (.tuple [(.tuple [(.int 4), (.int 0), (.int 0)])]), (.tuple [(.tuple [(.int 0), (.int (-1)), (.int 0)])]), (.tuple [(.list [(.int 0), (.int 0), (.int 0)])]), (.tuple [(.int 0), (.int 0), (.int 0)])]
def items1 : List PyData := [.none, (.list []), (.tuple [(.tuple [(.int 0), (.int 0)])]), (.tuple [(.tuple [(.int 0), (.int 0), (.int 41)])]), (.tuple [(.tuple [(.int 0), (.int 0), (.int (-41))])]), (.tuple [(.tuple [(.int 4), (.int 0), (.int 0)])]), (.tuple [(.tuple [(.int 0), (.int (-1)), (.int 0)])]), (.tuple [(.list [(.int 0), (.int 0), (.int 0)])]), (.tuple [(.int 0), (.int 0), (.int 0)]), (.tuple [(.tuple [(.int 0), (.int 0), (.bool true)])]), (.tuple [(.tuple [(.bool true), (.int 0), (.int 0)])]), (.tuple [(.tuple [(.int 0), (.int 0), (.int 0)]), (.tuple [(.int 0), (.int 0), (.int 0)]), (.tuple [(.int 0), (.int 0), (.int 0)]), (.tuple [(.int 0), (.int 0), (.int 0)]), (.tuple [(.int 0), (.int 0), (.int 0)]), (.tuple [(.int 0), (.int 0), (.int 0)]), (.tuple [(.int 0), (.int 0), (.int 0)]), (.tuple [(.int 0), (.int 0), (.int 0)]), (.tuple [(.int 0), (.int 0), (.int 0)]), (.tuple [(.int 0), (.int 0), (.int 0)]), (.tuple [(.int 0), (.int 0), (.int 0)]), (.tuple [(.int 0), (.int 0), (.int 0)]), (.tuple [(.int 0), (.int 0), (.int 0)]), (.tuple [(.int 0), (.int 0), (.int 0)]), (.tuple [(.int 0), (.int 0), (.int 0)]), (.tuple [(.int 0), (.int 0), (.int 0)]), (.tuple [(.int 0), (.int 0), (.int 0)]), (.tuple [(.int 0), (.int 0), (.int 0)]), (.tuple [(.int 0), (.int 0), (.int 0)]), (.tuple [(.int 0), (.int 0), (.int 0)]), (.tuple [(.int 0), (.int 0), (.int 0)]), (.tuple [(.int 0), (.int 0), (.int 0)]), (.tuple [(.int 0), (.int 0), (.int 0)]), (.tuple [(.int 0), (.int 0), (.int 0)]), (.tuple [(.int 0), (.int 0), (.int 0)]), (.tuple [(.int 0), (.int 0), (.int 0)]), (.tuple [(.int 0), (.int 0), (.int 0)]), (.tuple [(.int 0), (.int 0), (.int 0)]), (.tuple [(.int 0), (.int 0), (.int 0)]), (.tuple [(.int 0), (.int 0), (.int 0)]), (.tuple [(.int 0), (.int 0), (.int 0)]), (.tuple [(.int 0), (.int 0), (.int 0)]), (.tuple [(.int 0), (.int 0), (.int 0)]), (.tuple [(.int 0), (.int 0), (.int 0)]), (.tuple [(.int 0), (.int 0), (.int 0)]), (.tuple [(.int 0), (.int 0), (.int 0)]), (.tuple [(.int 0), (.int 0), (.int 0)]), (.tuple [(.int 0), (.int 0), (.int 0)]), (.tuple [(.int 0), (.int 0), (.int 0)]), (.tuple [(.int 0), (.int 0), (.int 0)]), (.tuple [(.int 0), (.int 0), (.int 0)])]), (.str "0"), (.tuple [(.tuple [(.int 0), (.int 0), (.str "0")])])]
def items2 : List PyData := [.none, (.int 0), (.int 13), (.bool true), (.str "3")]
def n__law_refused : NM := (nsSeq (nsSet 0 (nDet (eLst (aCons (eC .none) (aCons (eLst aNil) (aCons (eTup (aCons (eTup (aCons (eC (.int 0)) (aCons (eC (.int 0)) aNil))) aNil)) (aCons (eTup (aCons (eTup (aCons (eC (.int 0)) (aCons (eC (.int 0)) (aCons (eC (.int 41)) aNil)))) aNil)) (aCons (eTup (aCons (eTup (aCons (eC (.int 0)) (aCons (eC (.int 0)) (aCons (eUn dNeg (eC (.int 41))) aNil)))) aNil)) (aCons (eTup (aCons (eTup (aCons (eC (.int 4)) (aCons (eC (.int 0)) (aCons (eC (.int 0)) aNil)))) aNil)) (aCons (eTup (aCons (eTup (aCons (eC (.int 0)) (aCons (eUn dNeg (eC (.int 1))) (aCons (eC (.int 0)) aNil)))) aNil)) (aCons (eTup (aCons (eLst (aCons (eC (.int 0)) (aCons (eC (.int 0)) (aCons (eC (.int 0)) aNil)))) aNil)) (aCons (eTup (aCons (eC (.int 0)) (aCons (eC (.int 0)) (aCons (eC (.int 0)) aNil)))) aNil)))))))))))) (nsSeq (nsFor (nDetI (iLst (eBin dAdd (eVar 0) (eLst (aCons (eTup (aCons (eTup (aCons (eC (.int 0)) (aCons (eC (.int 0)) (aCons (eC (.bool true)) aNil)))) aNil)) (aCons (eTup (aCons (eTup (aCons (eC (.bool true)) (aCons (eC (.int 0)) (aCons (eC (.int 0)) aNil)))) aNil)) (aCons (eBin dMul (eTup (aCons (eTup (aCons (eC (.int 0)) (aCons (eC (.int 0)) (aCons (eC (.int 0)) aNil)))) aNil)) (eC (.int 41))) (aCons (eC (.str "0")) (aCons (eTup (aCons (eTup (aCons (eC (.int 0)) (aCons (eC (.int 0)) (aCons (eC (.str "0")) aNil)))) aNil)) aNil))))))))) (bName 1) (nsSeq (nsSet 2 (nWords (aCons (eC (.int 3)) (aCons (eVar 1) aNil)) f_least_above f_greatest_under 2)) (nsSeq (nsSet 2 (nBin dAdd (nDet (eVar 2)) (nWords (aCons (eC (.int 3)) (aCons (eVar 1) (aCons (eC .none) aNil))) f_bounds_go f_bounds_paper 3))) (nsSeq (nsSet 2 (nBin dAdd (nDet (eVar 2)) (nWords (aCons (eC (.int 3)) (aCons (eTup aNil) (aCons (eVar 1) aNil))) f_bounds_go f_bounds_paper 3))) (nsIf (nDetT (tOf (eBin dNe (eVar 2) (eBin dMul (eLst (aCons (eC (.str "bounds value")) aNil)) (eC (.int 6)))))) (nsRet (nDet (eC (.bool false)))) nsNil))))) (nsSeq (nsFor (nDetI (iLst (eLst (aCons (eC .none) (aCons (eC (.int 0)) (aCons (eC (.int 13)) (aCons (eC (.bool true)) (aCons (eC (.str "3")) aNil)))))))) (bName 1) (nsSeq (nsSet 2 (nWords (aCons (eVar 1) (aCons (eC .none) aNil)) f_least_above f_greatest_under 2)) (nsSeq (nsSet 2 (nBin dAdd (nDet (eVar 2)) (nWords (aCons (eVar 1) (aCons (eC .none) (aCons (eC .none) aNil))) f_bounds_go f_bounds_paper 3))) (nsIf (nDetT (tOf (eBin dNe (eVar 2) (eBin dMul (eLst (aCons (eC (.str "sides value")) aNil)) (eC (.int 4)))))) (nsRet (nDet (eC (.bool false)))) nsNil)))) (nsRet (nDet (eC (.bool true)))))))
abbrev s__law_refused : Stmt := topS 58
abbrev N__law_refused : List Str := ["_law_odds", "_law_odd", "_law_words", "_law_call"]
theorem sc__law_refused : FnScope N__law_refused [] (defScope s__law_refused) := ⟨rfl, rfl, rfl, by decide +kernel, rfl, by decide +kernel, by decide +kernel⟩
theorem nd__law_refused : N__law_refused.Nodup := sc__law_refused.nd
def qLam : Str := (envOfC "_law_refused" (defScope s__law_refused) 0 0 .none).qual ++ "<lambda>"
theorem d__law_refused {CC : Nat → Addr} {P : Program} {w : World} {K : PySem.W.Frag} {mg : Str → Option Value} {base : Heap} {f c T0 : Addr} (T : Txt mg) (WT : WordT CC K mg) (TB : TabB base mg c T0) {A_least_above : Addr} (M_least_above : mg "least_above" = some (.ref A_least_above)) (H_least_above : HeldD CC P w K mg base 4 A_least_above f_least_above 2) {A_greatest_under : Addr} (M_greatest_under : mg "greatest_under" = some (.ref A_greatest_under)) (H_greatest_under : HeldD CC P w K mg base 4 A_greatest_under f_greatest_under 2) {A_bounds_go : Addr} (M_bounds_go : mg "bounds_go" = some (.ref A_bounds_go)) (H_bounds_go : HeldD CC P w K mg base 5 A_bounds_go f_bounds_go 3) {A_bounds_paper : Addr} (M_bounds_paper : mg "bounds_paper" = some (.ref A_bounds_paper)) (H_bounds_paper : HeldD CC P w K mg base 5 A_bounds_paper f_bounds_paper 3) (A : Around) (outer : List Env) (s : Shared) (H : Hp) (E : XK) (hr : Room 8 (A.deeper (envOfC "_law_refused" (defScope s__law_refused) s.heap.objs.size f (.ref c)))) :
    NSs (cxOf (L2N.CX P w) P w K mg base N__law_refused "_law_refused" (defScope s__law_refused) f (.ref c) A outer s H E) (tabS T0 qLam) (defBody s__law_refused) n__law_refused :=
    (ns_cons (ns_set 0 nd__law_refused rfl (by first | exact .inl rfl | exact .inr rfl) trivial (ne_det (ed_lst (ad_cons ed_non (ad_cons (ed_lst ad_nil) (ad_cons (ed_tup (ad_cons (ed_tup (ad_cons ed_int (ad_cons ed_int ad_nil))) ad_nil)) (ad_cons (ed_tup (ad_cons (ed_tup (ad_cons ed_int (ad_cons ed_int (ad_cons ed_int ad_nil)))) ad_nil)) (ad_cons (ed_tup (ad_cons (ed_tup (ad_cons ed_int (ad_cons ed_int (ad_cons (r_neg ed_int) ad_nil)))) ad_nil)) (ad_cons (ed_tup (ad_cons (ed_tup (ad_cons ed_int (ad_cons ed_int (ad_cons ed_int ad_nil)))) ad_nil)) (ad_cons (ed_tup (ad_cons (ed_tup (ad_cons ed_int (ad_cons (r_neg ed_int) (ad_cons ed_int ad_nil)))) ad_nil)) (ad_cons (ed_tup (ad_cons (ed_lst (ad_cons ed_int (ad_cons ed_int (ad_cons ed_int ad_nil)))) ad_nil)) (ad_cons (ed_tup (ad_cons ed_int (ad_cons ed_int (ad_cons ed_int ad_nil)))) ad_nil)))))))))))) (ns_cons (ns_for (passes_of rfl) rfl (ni_det (id_lst (r_add (ed_var 0 rfl (by first | exact .inl rfl | exact .inr (.inl rfl) | exact .inr (.inr rfl))) (ed_lst (ad_cons (ed_tup (ad_cons (ed_tup (ad_cons ed_int (ad_cons ed_int (ad_cons ed_bl ad_nil)))) ad_nil)) (ad_cons (ed_tup (ad_cons (ed_tup (ad_cons ed_bl (ad_cons ed_int (ad_cons ed_int ad_nil)))) ad_nil)) (ad_cons (r_mul (ed_tup (ad_cons (ed_tup (ad_cons ed_int (ad_cons ed_int (ad_cons ed_int ad_nil)))) ad_nil)) ed_int) (ad_cons ed_str (ad_cons (ed_tup (ad_cons (ed_tup (ad_cons ed_int (ad_cons ed_int (ad_cons ed_str ad_nil)))) ad_nil)) ad_nil))))))))) trivial (ns_cons (ns_setWords rfl nd__law_refused rfl rfl rfl M_least_above rfl M_greatest_under H_least_above H_greatest_under (blkOk_by (own := [("_law_call", 3)]) (N := N__law_refused) (sc := defScope s__law_refused) (by decide +kernel)) (fun _ _ _ _ _ => pg_name (i := 3) nd__law_refused rfl (by first | exact .inl rfl | exact .inr rfl)) (fun _ _ _ _ _ => pe_word (k := 5) WT rfl TB rfl (hr.mono (by decide)) (lamS_by (sc := relS _ (defScope s__law_refused)) (by decide +kernel)) rfl (fun _ _ _ _ _ => rfl) (fun _ _ _ _ _ _ _ hr2 => pe_callG (k := 4) (i := 3) takes_lam (hr2.mono (by decide)) rfl (by first | exact .inl rfl | exact .inr (.inl rfl) | exact .inr (.inr rfl)) (ad_pa (ad_cons ed_int (ad_cons (ed_var 1 rfl (by first | exact .inl rfl | exact .inr (.inl rfl) | exact .inr (.inr rfl))) ad_nil))))) (sw_true rfl rfl rfl (by decide +kernel))) (ns_cons (ns_set 2 nd__law_refused rfl (by first | exact .inl rfl | exact .inr rfl) trivial (ne_op o_add b_add (ne_det (ed_var 2 rfl (by first | exact .inl rfl | exact .inr (.inl rfl) | exact .inr (.inr rfl)))) (ne_words rfl nd__law_refused rfl M_bounds_go rfl M_bounds_paper H_bounds_go H_bounds_paper (blkOk_by (own := [("_law_call", 3)]) (N := N__law_refused) (sc := defScope s__law_refused) (by decide +kernel)) (fun _ _ _ _ _ => pg_name (i := 3) nd__law_refused rfl (by first | exact .inl rfl | exact .inr rfl)) (fun _ _ _ _ _ => pe_word (k := 5) WT rfl TB rfl (hr.mono (by decide)) (lamS_by (sc := relS _ (defScope s__law_refused)) (by decide +kernel)) rfl (fun _ _ _ _ _ => rfl) (fun _ _ _ _ _ _ _ hr2 => pe_callG (k := 5) (i := 3) takes_lam (hr2.mono (by decide)) rfl (by first | exact .inl rfl | exact .inr (.inl rfl) | exact .inr (.inr rfl)) (ad_pa (ad_cons ed_int (ad_cons (ed_var 1 rfl (by first | exact .inl rfl | exact .inr (.inl rfl) | exact .inr (.inr rfl))) (ad_cons ed_non ad_nil))))))))) (ns_cons (ns_set 2 nd__law_refused rfl (by first | exact .inl rfl | exact .inr rfl) trivial (ne_op o_add b_add (ne_det (ed_var 2 rfl (by first | exact .inl rfl | exact .inr (.inl rfl) | exact .inr (.inr rfl)))) (ne_words rfl nd__law_refused rfl M_bounds_go rfl M_bounds_paper H_bounds_go H_bounds_paper (blkOk_by (own := [("_law_call", 3)]) (N := N__law_refused) (sc := defScope s__law_refused) (by decide +kernel)) (fun _ _ _ _ _ => pg_name (i := 3) nd__law_refused rfl (by first | exact .inl rfl | exact .inr rfl)) (fun _ _ _ _ _ => pe_word (k := 5) WT rfl TB rfl (hr.mono (by decide)) (lamS_by (sc := relS _ (defScope s__law_refused)) (by decide +kernel)) rfl (fun _ _ _ _ _ => rfl) (fun _ _ _ _ _ _ _ hr2 => pe_callG (k := 5) (i := 3) takes_lam (hr2.mono (by decide)) rfl (by first | exact .inl rfl | exact .inr (.inl rfl) | exact .inr (.inr rfl)) (ad_pa (ad_cons ed_int (ad_cons (ed_tup ad_nil) (ad_cons (ed_var 1 rfl (by first | exact .inl rfl | exact .inr (.inl rfl) | exact .inr (.inr rfl))) ad_nil))))))))) (ns_one (ns_if (nt_det (t_ne hr (ed_var 2 rfl (by first | exact .inl rfl | exact .inr (.inl rfl) | exact .inr (.inr rfl))) (r_mul (ed_lst (ad_cons ed_str ad_nil)) ed_int))) (ns_one (ns_ret (ne_det ed_bl))) ns_nil))))) (pg_name (i := 1) nd__law_refused rfl (by first | exact .inl rfl | exact .inr rfl))) (ns_cons (ns_for (passes_of rfl) rfl (ni_det (id_lst (ed_lst (ad_cons ed_non (ad_cons ed_int (ad_cons ed_int (ad_cons ed_bl (ad_cons ed_str ad_nil)))))))) trivial (ns_cons (ns_setWords rfl nd__law_refused rfl rfl rfl M_least_above rfl M_greatest_under H_least_above H_greatest_under (blkOk_by (own := [("_law_call", 3)]) (N := N__law_refused) (sc := defScope s__law_refused) (by decide +kernel)) (fun _ _ _ _ _ => pg_name (i := 3) nd__law_refused rfl (by first | exact .inl rfl | exact .inr rfl)) (fun _ _ _ _ _ => pe_word (k := 5) WT rfl TB rfl (hr.mono (by decide)) (lamS_by (sc := relS _ (defScope s__law_refused)) (by decide +kernel)) rfl (fun _ _ _ _ _ => rfl) (fun _ _ _ _ _ _ _ hr2 => pe_callG (k := 4) (i := 3) takes_lam (hr2.mono (by decide)) rfl (by first | exact .inl rfl | exact .inr (.inl rfl) | exact .inr (.inr rfl)) (ad_pa (ad_cons (ed_var 1 rfl (by first | exact .inl rfl | exact .inr (.inl rfl) | exact .inr (.inr rfl))) (ad_cons ed_non ad_nil))))) (sw_true rfl rfl rfl (by decide +kernel))) (ns_cons (ns_set 2 nd__law_refused rfl (by first | exact .inl rfl | exact .inr rfl) trivial (ne_op o_add b_add (ne_det (ed_var 2 rfl (by first | exact .inl rfl | exact .inr (.inl rfl) | exact .inr (.inr rfl)))) (ne_words rfl nd__law_refused rfl M_bounds_go rfl M_bounds_paper H_bounds_go H_bounds_paper (blkOk_by (own := [("_law_call", 3)]) (N := N__law_refused) (sc := defScope s__law_refused) (by decide +kernel)) (fun _ _ _ _ _ => pg_name (i := 3) nd__law_refused rfl (by first | exact .inl rfl | exact .inr rfl)) (fun _ _ _ _ _ => pe_word (k := 5) WT rfl TB rfl (hr.mono (by decide)) (lamS_by (sc := relS _ (defScope s__law_refused)) (by decide +kernel)) rfl (fun _ _ _ _ _ => rfl) (fun _ _ _ _ _ _ _ hr2 => pe_callG (k := 5) (i := 3) takes_lam (hr2.mono (by decide)) rfl (by first | exact .inl rfl | exact .inr (.inl rfl) | exact .inr (.inr rfl)) (ad_pa (ad_cons (ed_var 1 rfl (by first | exact .inl rfl | exact .inr (.inl rfl) | exact .inr (.inr rfl))) (ad_cons ed_non (ad_cons ed_non ad_nil))))))))) (ns_one (ns_if (nt_det (t_ne hr (ed_var 2 rfl (by first | exact .inl rfl | exact .inr (.inl rfl) | exact .inr (.inr rfl))) (r_mul (ed_lst (ad_cons ed_str ad_nil)) ed_int))) (ns_one (ns_ret (ne_det ed_bl))) ns_nil)))) (pg_name (i := 1) nd__law_refused rfl (by first | exact .inl rfl | exact .inr rfl))) (ns_one (ns_ret (ne_det ed_bl))))))
end K6H

end
-- text La6
section
set_option Elab.async false
set_option linter.all false
set_option autoImplicit false
set_option maxRecDepth 100000
set_option maxHeartbeats 4000000
/-! _law_refused answers True. -/
namespace K6H
open PySem PySem.Spec PyProof.Rows L2 HotX L2H LamX K6
def isEr (c : Nat) : Option Ret → Bool
  | some (.er c') => decide (c' = c)
  | _ => false
theorem isEr_s {c : Nat} {o : Option Ret} (h : isEr c o = true) : o = some (.er c) := by
  unfold isEr at h
  split at h
  · rw [of_decide_eq_true h]
  · cases h
def chkA (d : PyData) : Bool := isEr 2 (f_least_above [.int 3, d]) && (isEr 2 (f_greatest_under [.int 3, d]) && (isEr 2 (f_bounds_go [.int 3, d, .none]) && (isEr 2 (f_bounds_paper [.int 3, d, .none]) && (isEr 2 (f_bounds_go [.int 3, .tuple [], d]) && isEr 2 (f_bounds_paper [.int 3, .tuple [], d])))))
def chkB (d : PyData) : Bool := isEr 1 (f_least_above [d, .none]) && (isEr 1 (f_greatest_under [d, .none]) && (isEr 1 (f_bounds_go [d, .none, .none]) && isEr 1 (f_bounds_paper [d, .none, .none])))
theorem allA : items1.all chkA = true := by decide +kernel
theorem allB : items2.all chkB = true := by decide +kernel
def isF : Option PyData → Bool
  | some (.bool false) => true
  | _ => false
theorem isF_s {o : Option PyData} (h : isF o = true) : o = some (.bool false) := by
  unfold isF at h
  split at h
  · rfl
  · cases h
theorem endA : dNe (.list [.str (wordS 2), .str (wordS 2), .str (wordS 2), .str (wordS 2), .str (wordS 2), .str (wordS 2)]) (.list [.str "bounds value", .str "bounds value", .str "bounds value", .str "bounds value", .str "bounds value", .str "bounds value"]) = some (.bool false) := isF_s (by decide +kernel)
theorem endB : dNe (.list [.str (wordS 1), .str (wordS 1), .str (wordS 1), .str (wordS 1)]) (.list [.str "sides value", .str "sides value", .str "sides value", .str "sides value"]) = some (.bool false) := isF_s (by decide +kernel)
theorem refused_ok {Φ : OutN → Prop} (h : Φ (.rt (.bool true))) : n__law_refused [.no, .no, .no, .no] Φ := by
  refine ⟨.list oddsL, rfl, ?_⟩
  refine ⟨items1, rfl, fun i ρ => ∃ a b, ρ = [.dat (.list oddsL), a, b, .no], ⟨_, _, rfl⟩, fun i d ρ hd hP => ?_, fun ρ hP => ?_⟩
  · obtain ⟨a, b, rfl⟩ := hP
    have z := List.all_eq_true.mp allA d (List.mem_of_getElem? hd)
    have z1 := Bool.and_eq_true_iff.mp z
    have z2 := Bool.and_eq_true_iff.mp z1.2
    have z3 := Bool.and_eq_true_iff.mp z2.2
    have z4 := Bool.and_eq_true_iff.mp z3.2
    have z5 := Bool.and_eq_true_iff.mp z4.2
    refine ⟨_, rfl, ?_⟩
    refine ⟨by show 3 < 4; decide, [.int 3, d], 2, rfl, rfl, .inr rfl, isEr_s z1.1, isEr_s z2.1, ?_⟩
    refine ⟨_, rfl, by show 3 < 4; decide, [.int 3, d, .none], 2, rfl, rfl, .inr rfl, isEr_s z3.1, isEr_s z4.1, _, rfl, ?_⟩
    refine ⟨_, rfl, by show 3 < 4; decide, [.int 3, .tuple [], d], 2, rfl, rfl, .inr rfl, isEr_s z5.1, isEr_s z5.2, _, rfl, ?_⟩
    refine ⟨false, ?_, _, _, rfl⟩
    show bind1 (dNe _ _) dB = _
    erw [endA]
    rfl
  · obtain ⟨a, b, rfl⟩ := hP
    refine ⟨items2, rfl, fun i ρ => ∃ a b, ρ = [.dat (.list oddsL), a, b, .no], ⟨_, _, rfl⟩, fun i d ρ hd hP => ?_, fun ρ hP => ?_⟩
    · obtain ⟨a, b, rfl⟩ := hP
      have z := List.all_eq_true.mp allB d (List.mem_of_getElem? hd)
      have z1 := Bool.and_eq_true_iff.mp z
      have z2 := Bool.and_eq_true_iff.mp z1.2
      have z3 := Bool.and_eq_true_iff.mp z2.2
      refine ⟨_, rfl, ?_⟩
      refine ⟨by show 3 < 4; decide, [d, .none], 1, rfl, rfl, .inl rfl, isEr_s z1.1, isEr_s z2.1, ?_⟩
      refine ⟨_, rfl, by show 3 < 4; decide, [d, .none, .none], 1, rfl, rfl, .inl rfl, isEr_s z3.1, isEr_s z3.2, _, rfl, ?_⟩
      refine ⟨false, ?_, _, _, rfl⟩
      show bind1 (dNe _ _) dB = _
      erw [endB]
      rfl
    · exact ⟨.bool true, rfl, h⟩
/-! ### its promise -/
def spRef (T0 : Addr) : Sp := fun vs H Q E => vs = [] ∧ TabS H T0 qLam ∧ ∀ H', Q (.bl true) H'
theorem held_of {CC : Nat → Addr} {P : Program} {w : World} {K : PySem.W.Frag} {mg : Str → Option Value} {base : Heap} {k : Nat} {x : Str} {ps : List Str} {g : FM} (G : FnD CC P w K mg base k x ps g) : ∃ f, mg x = some (.ref f) ∧ HeldD CC P w K mg base k f g ps.length := by
  obtain ⟨f, fd, h1, h2, h3, h4⟩ := G.ex
  exact ⟨f, h2, ⟨fd, ps, h1, h3, h4⟩⟩
theorem ok_refused {CC : Nat → Addr} {P : Program} {w : World} {K : PySem.W.Frag} {mg : Str → Option Value} {base : Heap} {f c T0 : Addr} {fd : FuncData} (T : Txt mg) (WT : WordT CC K mg) (TB : TabB base mg c T0) (G_least_above : FnD CC P w K mg base 4 "least_above" ["sides", "bounds"] f_least_above) (G_greatest_under : FnD CC P w K mg base 4 "greatest_under" ["sides", "bounds"] f_greatest_under)
    (G_bounds_go : FnD CC P w K mg base 5 "bounds_go" ["sides", "lows", "highs"] f_bounds_go) (G_bounds_paper : FnD CC P w K mg base 5 "bounds_paper" ["sides", "lows", "highs"] f_bounds_paper) (F : Fun K "_law_refused" "_law_refused" s__law_refused f fd) (hc : fd.code = .ref c) :
    FnOk P w K mg base (L2N.CX P w) 9 f fd [] (spRef T0) := by
  obtain ⟨oc, od, kV, doc, pm, an, cdv, ct, osl, rfl, lk, hcd⟩ := F.ex
  have e : cdv = .ref c := hc
  subst e
  obtain ⟨a1, m1, h1⟩ := held_of G_least_above
  obtain ⟨a2, m2, h2⟩ := held_of G_greatest_under
  obtain ⟨a3, m3, h3⟩ := held_of G_bounds_go
  obtain ⟨a4, m4, h4⟩ := held_of G_bounds_paper
  refine fn_of lk hcd sc__law_refused (fun vs H Q E h => by rw [h.1]; rfl) (fun A outer s H vs Q E hr h => ?_)
  obtain ⟨rfl, hT, hq⟩ := h
  obtain ⟨t, pt, et⟩ := (d__law_refused T WT TB m1 h1 m2 h2 m3 h3 m4 h4 A outer s H E hr).ex
  have nil : ∀ (i : Nat) (x : Sl), ([.no, .no, .no, .no] : En)[i]? = some x → x = .no := fun i x h => List.eq_of_mem_replicate (n := 4) (List.mem_of_getElem? h)
  have cc : (tabS T0 qLam).ok T0 H := ⟨rfl, hT⟩
  refine ⟨t, pt, et [.no, .no, .no, .no] (fun o => o = .rt (.bool true)) (refused_ok rfl) T0 _ (fun _ => none) H (fun _ => none) H _ ⟨trivial, cc, ⟨rfl, (fun b o e => nomatch e), (fun i d h => by cases nil i _ h), (fun i ds h => by cases nil i _ h), (fun i j ds es b _ h => by cases nil i _ h)⟩, (fun i ds h => by cases nil i _ h)⟩ (Gc.refl (fun b o e => nomatch e) cc) fun o ho => ?_⟩
  subst ho
  intro v F' H2 _ dv
  cases dv
  exact hq H2
end K6H

end
-- text Law
section
set_option Elab.async false
set_option linter.all false
set_option autoImplicit false
set_option maxRecDepth 100000
set_option maxHeartbeats 4000000
/-! law's own promise (printed by mklaw.py). -/
namespace K6
open PySem PySem.Spec PyProof.Rows L2 K6H LamX
def spLaw (T0 : Addr) (K : PySem.W.Frag) : Sp := fun vs H Q E => ∃ (a : Addr) (ns : List Int), vs = [.ref a] ∧ SqL K H a (ns.map V.int) ∧ ns.length ≤ 63 ∧ H T0 = some (.tbl #[]) ∧ ∀ H', Q (.bl true) H'
theorem tab_gc {a T0 : Addr} {q : Str} {F H F' H' : Hp} (c : Cart a H) (n : T0 ≠ a) (t : TabS H T0 q) (g : Gc Cart a F H F' H') : TabS H' T0 q := by
  have k : ∀ b o, b ≠ a → H b = some o → H' b = some o := fun b o hb e => by
    have z := g.g.h b o (by rw [del_ne hb]; exact e)
    rwa [del_ne hb] at z
  obtain ⟨ps, h1, h2, h3⟩ := t
  refine ⟨ps, k _ _ n h1, h2, fun p cv hcv => ?_⟩
  obtain ⟨c0, e1, e2⟩ := h3 p cv hcv
  refine ⟨c0, e1, k _ _ (fun z => ?_) e2⟩
  obtain ⟨x0, x1, _, hc⟩ := c
  rw [z, hc] at e2
  have y := Option.some.inj e2
  unfold CodeO at y
  cases y
theorem ok_law {CC : Nat → Addr} {P : Program} {w : World} {K : PySem.W.Frag} {mg : Str → Option Value} {base : Heap} {f : Addr} (T : Txt mg) (G_bounds_paper : FnD CC P w K mg base 5 "bounds_paper" ["sides", "lows", "highs"] f_bounds_paper) (G_greatest_under : FnD CC P w K mg base 4 "greatest_under" ["sides", "bounds"] f_greatest_under) (G_bounds_go : FnD CC P w K mg base 5 "bounds_go" ["sides", "lows", "highs"] f_bounds_go) (G_least_above : FnD CC P w K mg base 4 "least_above" ["sides", "bounds"] f_least_above) (G__law_lump : FnN P w K mg base 1 "_law_lump" "_law_cart_here" ["_law_size_so"] g_lump) (G__law_right : FnN P w K mg base 6 "_law_right" "_law_cart_here" ["_law_wide"] f__law_right) (G__law_wide_right : FnN P w K mg base 6 "_law_wide_right" "_law_cart_here" ["_law_wide"] f__law_wide_right) {fC fR T0 : Addr} {fdC fdR : FuncData} (FC : FnOk P w K mg base (L2N.CX P w) 1 fC fdC ["_law_script"] (spCart K)) (mC : mg "_law_cart" = some (.ref fC)) (kC : PySem.W.keepIn K (.ref fC) = true) (bC : L2.Binds K fdC ["_law_script"] [])
    (FR : FnOk P w K mg base (L2N.CX P w) 9 fR fdR [] (spRef T0)) (mR : mg "_law_refused" = some (.ref fR)) (kR : PySem.W.keepIn K (.ref fR) = true) (bR : L2.Binds K fdR [] []) {fd : FuncData}
    (F : Fun K "law" "law" s_law f fd) : FnOk P w K mg base (L2N.CX P w) 10 f fd ["_law_script"] (spLaw T0 K) := by
  obtain ⟨oc, od, kV, doc, pm, an, cdv, ct, osl, rfl, lk, hcd⟩ := F.ex
  refine fn_of lk hcd sc_law (fun vs H Q E h => ?_) (fun A outer s H vs Q E hr h => ?_)
  · obtain ⟨a, ns, rfl, _⟩ := h
    rfl
  · obtain ⟨a, ns, rfl, hS, hl, hT, hp⟩ := h
    obtain ⟨t1, p1, e1⟩ := (d_law_for (CC := CC) T G_bounds_paper G_greatest_under G_bounds_go G_least_above G__law_lump G__law_right G__law_wide_right cdv A outer s H E (hr.mono (by decide))).ex
    obtain ⟨t2, p2, e2⟩ := (d_law_wide (CC := CC) T G_bounds_paper G_greatest_under G_bounds_go G_least_above G__law_lump G__law_right G__law_wide_right cdv A outer s H E (hr.mono (by decide))).ex
    obtain ⟨t3, p3, e3⟩ := (d_law_tail (CC := CC) T G_bounds_paper G_greatest_under G_bounds_go G_least_above G__law_lump G__law_right G__law_wide_right cdv A outer s H E (hr.mono (by decide))).ex
    refine ⟨_, pss_cons (ps_set (i := 1) nd_law rfl (by first | exact .inl rfl | exact .inr rfl) (pe_call FC (hr.mono (by decide)) rfl mC kC bC .nil passN (pa_cons (pe_var (i := 0) rfl (by first | exact .inl rfl | exact .inr (.inl rfl) | exact .inr (.inr rfl))) pa_nil)))
      (pss_cons p1 (pss_cons (ps_if (pw_or (pt_not (pt_val p2)) (pw_or1 (pt_not (pt_val (pe_call0 (x := "_law_refused") FR hr rfl mR kR bR .nil passN))))).pt (pss_one (ps_ret pe_bl)) pss_nil) p3)), ?_⟩
    refine ⟨.ref a, rfl, a, ns, rfl, hS, hl, fun b H' hc sm nb => ?_⟩
    have nTb : T0 ≠ b := fun z => by
      rw [z, nb] at hT
      cases hT
    have tab : TabS H' T0 qLam := TabS.nil (sm _ _ hT)
    have nil : ∀ (i : Nat) (x : Sl), ([.no, .no, .no, .no, .no, .no] : En)[i]? = some x → x = .no := fun i x h => List.eq_of_mem_replicate (n := 6) (List.mem_of_getElem? h)
    refine e1 [.no, .no, .no, .no, .no, .no] (fun o => match o with
      | .nx ρ => ∃ x : Sl, (x = .dat (.int 3) ∨ x = .dat (.int 4)) ∧ ρ = [.no, .no, x, .no, .no, .no]
      | .rt _ => False) (law_for_ok fun x hx => ⟨x, hx, rfl⟩) b _ (fun _ => none) H' (fun _ => none) H' _ ⟨rfl, hc, ⟨rfl, (fun b o e => nomatch e), (fun i d h => by cases nil i _ h), (fun i ds h => by cases nil i _ h), (fun i j ds es b _ h => by cases nil i _ h)⟩, (fun i ds h => by cases nil i _ h)⟩ (Gc.refl (fun b o e => nomatch e) hc) fun o ho => ?_
    cases o with
    | rt d => exact ho.elim
    | nx ρ =>
      obtain ⟨x, hx, rfl⟩ := ho
      intro σ1 F1 H1 R1 G1
      have tab1 := tab_gc hc nTb tab G1
      refine e2 _ (fun d => d = .bool true) (law_wide_ok rfl) b σ1 F1 H1 R1 _ fun d v F2 H2 hd G2 dv => ?_
      subst hd
      have ev := dv.isBl
      subst ev
      have tab2 := tab_gc R1.c nTb tab1 G2
      refine ⟨true, rfl, ?_⟩
      refine ⟨rfl, tab2, fun H3 => ⟨true, rfl, ?_⟩⟩
      have R2 := R1.rel
      have rel : Rel [.no, .no, x, .no, .no, .no] σ1 (fun _ => none) H3 := by
        refine ⟨R2.len, (fun b o e => nomatch e), fun i d h => ?_, fun i ds h => absurd h (R1.loose i ds), fun i j ds es b _ h => absurd h (R1.loose i ds)⟩
        obtain ⟨v, h1, h2⟩ := R2.dat i d h
        refine ⟨v, h1, ?_⟩
        have hd : d = .int 3 ∨ d = .int 4 := by
          match i, h with
          | 0, h => cases h
          | 1, h => cases h
          | 3, h => cases h
          | 4, h => cases h
          | 5, h => cases h
          | (n + 6), h => cases h
          | 2, h =>
            rcases hx with rfl | rfl
            · exact .inl (Sl.dat.inj (Option.some.inj h)).symm
            · exact .inr (Sl.dat.inj (Option.some.inj h)).symm
        rcases hd with rfl | rfl <;> (cases h2; exact .int _)
      refine e3 _ _ (law_tail_ok hx) σ1 (fun _ => none) H3 (fun _ => none) H3 _ ⟨rel, Grow.refl rel.sub, fun i ds b e => absurd e (R1.loose i ds)⟩ fun v F' H4 _ dv => ?_
      cases dv
      exact hp H4
end K6

end
-- text All
section
set_option Elab.async false
set_option linter.all false
set_option autoImplicit false
set_option maxRecDepth 100000
set_option maxHeartbeats 4000000

/-! Printed by gen4.py: all together. -/
namespace K6
open PySem PySem.Spec PyProof.Rows L2 K6H LamX
structure DefT (K : PySem.W.Frag) (mg : Str → Option Value) (x : Str) (st : Stmt) : Prop where
  ex : ∃ f fd, Fun K x x st f fd ∧ mg x = some (.ref f)
theorem defT_mk {K : PySem.W.Frag} {h : Heap} {mg : Str → Option Value} {x : Str} {st : Stmt} {f : Addr} {oc kV doc pm cdv ct : Value} {od an : Option Addr} {osl : Array (Option Value)} (X : K.In h) (G : h.Ns mainGlobals mg) (a : PySem.W.nsIn K mainGlobals x = some (some (.ref f)))
    (l : K.lookup f = some ⟨oc, od, .func (PySem.W.fnOf x x (defArgs st) (defBody st) (defScope st) .none kV doc pm an cdv ct), osl⟩) (c : PySem.W.codeIn K cdv x = true) (k : PySem.W.keepIn K (.ref f) = true) : DefT K mg x st := ⟨⟨f, _, fun_mk l c k, PySem.W.mg_of X G a⟩⟩
/-- a def, its code object and that one's table -/
structure DefR (K : PySem.W.Frag) (mg : Str → Option Value) (x : Str) (st : Stmt) : Prop where
  ex : ∃ f fd c T0 e dd vs sl, Fun K x x st f fd ∧ mg x = some (.ref f) ∧ fd.code = .ref c ∧ K.lookup c = some ⟨e, dd, .fields vs, sl⟩ ∧ vs[11]? = some (.ref T0) ∧ K.lookup T0 = none
theorem defR_mk {K : PySem.W.Frag} {h : Heap} {mg : Str → Option Value} {x : Str} {st : Stmt} {f c T0 : Addr} {oc kV doc pm ct e : Value} {od an dd : Option Addr} {osl sl : Array (Option Value)} {vs : Array Value} (X : K.In h) (G : h.Ns mainGlobals mg) (a : PySem.W.nsIn K mainGlobals x = some (some (.ref f)))
    (l : K.lookup f = some ⟨oc, od, .func (PySem.W.fnOf x x (defArgs st) (defBody st) (defScope st) .none kV doc pm an (.ref c) ct), osl⟩) (cd : PySem.W.codeIn K (.ref c) x = true) (k : PySem.W.keepIn K (.ref f) = true) (lc : K.lookup c = some ⟨e, dd, .fields vs, sl⟩) (v : vs[11]? = some (.ref T0)) (n : K.lookup T0 = none) : DefR K mg x st :=
  ⟨⟨f, _, c, T0, e, dd, vs, sl, fun_mk l cd k, PySem.W.mg_of X G a, rfl, lc, v, n⟩⟩
/-- what the top's records say of a def's table -/
def TabOf (mg : Str → Option Value) (h : Heap) (x : Str) : Prop := ∃ a o fd c P, mg x = some (.ref a) ∧ h.get? a = some o ∧ o.data = .func fd ∧ fd.code = .ref c ∧ h.IsCode c P #[] ∧ h.TableAt c P #[]
def ccOf (c0 c1 c2 c3 c4 c5 c6 : Addr) : Nat → Addr
  | 0 => c0
  | 1 => c1
  | 2 => c2
  | 3 => c3
  | 4 => c4
  | 5 => c5
  | _ => c6
/-- an own error's class -/
structure OwnT (K : PySem.W.Frag) (C : Addr) : Prop where
  x : PySem.W.excIn K C [.type "ValueError", .type "Exception", .type "BaseException", .type "object"] "ValueError.__new__" = true
  k : PySem.W.keepIn K (.ref C) = true
  b : PySem.W.subIn K (.ref C) (.type "BaseException") = some true
  t : PySem.W.typeIn K (.ref C) = some (.type "type")
theorem tab_same {K : PySem.W.Frag} {h : Heap} {mg : Str → Option Value} {x : Str} {st : Stmt} (X : K.In h) (D : DefR K mg x st) (tb : TabOf mg h x) : ∃ f fd c T0, Fun K x x st f fd ∧ mg x = some (.ref f) ∧ fd.code = .ref c ∧ K.lookup T0 = none ∧ PySem.W.CodeHd h c T0 ∧ h.get? T0 = some { cls := .none, data := .fields #[] } := by
  obtain ⟨f, fd, c, T0, e, dd, vs, sl, F, m, hc, lc, v, n⟩ := D.ex
  obtain ⟨a, o, fd2, c2, P, h1, h2, h3, h4, h5, h6⟩ := tb
  rw [m] at h1
  cases h1
  obtain ⟨oc, od, kV, doc, pm, an, cdv, ct, osl, rfl, lk, hcd⟩ := F.ex
  rw [X _ _ lk] at h2
  cases h2
  cases h3
  rw [hc] at h4
  cases h4
  have hd := PySem.W.CodeHd.of h5 h6
  obtain ⟨⟨oq, vq, e1, _, e3, e4⟩, hP⟩ := id h6
  rw [X _ _ lc] at e1
  cases e1
  cases e3
  rw [v] at e4
  cases e4
  exact ⟨f, _, c, T0, F, m, hc, n, hd, hP⟩
theorem all_of {l : PySem.W.OpenLaw} {w : World} {K : PySem.W.Frag} {h : Heap} {mg : Str → Option Value} {fa c0 c1 c2 c3 c4 c5 c6 : Addr} (X : K.In h) (hfa : mg "law" = some (.ref fa)) (T : Txt mg) (CL : K6H.ClsT (ccOf c0 c1 c2 c3 c4 c5 c6) mg)
    (O0 : OwnT K c0) (O1 : OwnT K c1) (O2 : OwnT K c2) (E1 : K6H.ErrT (ccOf c0 c1 c2 c3 c4 c5 c6) K 1) (E2 : K6H.ErrT (ccOf c0 c1 c2 c3 c4 c5 c6) K 2)
    (D_is_whole : DefT K mg "is_whole" s_is_whole)
    (D_turns_well : DefT K mg "turns_well" s_turns_well)
    (D_columns_of : DefT K mg "columns_of" s_columns_of)
    (D_heights_of : DefT K mg "heights_of" s_heights_of)
    (D_square_from : DefT K mg "square_from" s_square_from)
    (D_floor_at : DefT K mg "floor_at" s_floor_at)
    (D_ceiling_at : DefT K mg "ceiling_at" s_ceiling_at)
    (D_bound_steps : DefT K mg "bound_steps" s_bound_steps)
    (D__law_lines : DefT K mg "_law_lines" s__law_lines)
    (D__law_corner : DefT K mg "_law_corner" s__law_corner)
    (D__law_keep : DefT K mg "_law_keep" s__law_keep)
    (D__law_lies : DefT K mg "_law_lies" s__law_lies)
    (D_fits_line : DefT K mg "fits_line" s_fits_line)
    (D_need_sides : DefT K mg "need_sides" s_need_sides)
    (D_fit_bounds : DefT K mg "fit_bounds" s_fit_bounds)
    (D_lifted : DefT K mg "lifted" s_lifted)
    (D_pressed : DefT K mg "pressed" s_pressed)
    (D__law_all : DefT K mg "_law_all" s__law_all)
    (D__law_table : DefT K mg "_law_table" s__law_table)
    (D_fits_square : DefT K mg "fits_square" s_fits_square)
    (D_need_bounds : DefT K mg "need_bounds" s_need_bounds)
    (D_low_table : DefT K mg "low_table" s_low_table)
    (D_high_table : DefT K mg "high_table" s_high_table)
    (D_too_high : DefT K mg "too_high" s_too_high)
    (D_too_low : DefT K mg "too_low" s_too_low)
    (D__law_end_right : DefT K mg "_law_end_right" s__law_end_right)
    (D_need_square : DefT K mg "need_square" s_need_square)
    (D_is_square : DefT K mg "is_square" s_is_square)
    (D_clash_of : DefT K mg "clash_of" s_clash_of)
    (D_need_both_bounds : DefT K mg "need_both_bounds" s_need_both_bounds)
    (D_least_above : DefT K mg "least_above" s_least_above)
    (D_greatest_under : DefT K mg "greatest_under" s_greatest_under)
    (D_heights : DefT K mg "heights" s_heights)
    (D_bounds_go : DefT K mg "bounds_go" s_bounds_go)
    (D_bounds_paper : DefT K mg "bounds_paper" s_bounds_paper)
    (D__law_lump : DefT K mg "_law_lump" s__law_lump)
    (D__law_cart : DefT K mg "_law_cart" s__law_cart)
    (D__law_names : DefT K mg "_law_names" K6H.s__law_names)
    (D__law_word : DefT K mg "_law_word" K6H.s__law_word)
    (D__law_bounds : DefT K mg "_law_bounds" s__law_bounds)
    (D__law_right : DefT K mg "_law_right" s__law_right)
    (D__law_wide_right : DefT K mg "_law_wide_right" s__law_wide_right)
    (D_law : DefT K mg "law" s_law)
    (D__law_refused : DefR K mg "_law_refused" K6H.s__law_refused) (tb : TabOf mg h "_law_refused") :
    LawAtS l w K (L2N.CX l.prog w) 10 63 "_law_script" mg fa h := by
  have XF : ∀ c, c < 3 → ExcF (ccOf c0 c1 c2 c3 c4 c5 c6) K mg c := fun c hc => by
    match c, hc with
    | 0, _ => exact ⟨O0.x, CL.square, O0.k, O0.b, O0.t⟩
    | 1, _ => exact ⟨O1.x, CL.sides, O1.k, O1.b, O1.t⟩
    | 2, _ => exact ⟨O2.x, CL.bounds, O2.k, O2.b, O2.t⟩
  obtain ⟨fR, fdR, cR, T0, F__law_refused, m__law_refused, hcode, nT, hd, hP⟩ := tab_same X D__law_refused tb
  obtain ⟨f_is_whole, fd_is_whole, F_is_whole, m_is_whole⟩ := D_is_whole.ex
  obtain ⟨f_turns_well, fd_turns_well, F_turns_well, m_turns_well⟩ := D_turns_well.ex
  obtain ⟨f_columns_of, fd_columns_of, F_columns_of, m_columns_of⟩ := D_columns_of.ex
  obtain ⟨f_heights_of, fd_heights_of, F_heights_of, m_heights_of⟩ := D_heights_of.ex
  obtain ⟨f_square_from, fd_square_from, F_square_from, m_square_from⟩ := D_square_from.ex
  obtain ⟨f_floor_at, fd_floor_at, F_floor_at, m_floor_at⟩ := D_floor_at.ex
  obtain ⟨f_ceiling_at, fd_ceiling_at, F_ceiling_at, m_ceiling_at⟩ := D_ceiling_at.ex
  obtain ⟨f_bound_steps, fd_bound_steps, F_bound_steps, m_bound_steps⟩ := D_bound_steps.ex
  obtain ⟨f__law_lines, fd__law_lines, F__law_lines, m__law_lines⟩ := D__law_lines.ex
  obtain ⟨f__law_corner, fd__law_corner, F__law_corner, m__law_corner⟩ := D__law_corner.ex
  obtain ⟨f__law_keep, fd__law_keep, F__law_keep, m__law_keep⟩ := D__law_keep.ex
  obtain ⟨f__law_lies, fd__law_lies, F__law_lies, m__law_lies⟩ := D__law_lies.ex
  obtain ⟨f_fits_line, fd_fits_line, F_fits_line, m_fits_line⟩ := D_fits_line.ex
  obtain ⟨f_need_sides, fd_need_sides, F_need_sides, m_need_sides⟩ := D_need_sides.ex
  obtain ⟨f_fit_bounds, fd_fit_bounds, F_fit_bounds, m_fit_bounds⟩ := D_fit_bounds.ex
  obtain ⟨f_lifted, fd_lifted, F_lifted, m_lifted⟩ := D_lifted.ex
  obtain ⟨f_pressed, fd_pressed, F_pressed, m_pressed⟩ := D_pressed.ex
  obtain ⟨f__law_all, fd__law_all, F__law_all, m__law_all⟩ := D__law_all.ex
  obtain ⟨f__law_table, fd__law_table, F__law_table, m__law_table⟩ := D__law_table.ex
  obtain ⟨f_fits_square, fd_fits_square, F_fits_square, m_fits_square⟩ := D_fits_square.ex
  obtain ⟨f_need_bounds, fd_need_bounds, F_need_bounds, m_need_bounds⟩ := D_need_bounds.ex
  obtain ⟨f_low_table, fd_low_table, F_low_table, m_low_table⟩ := D_low_table.ex
  obtain ⟨f_high_table, fd_high_table, F_high_table, m_high_table⟩ := D_high_table.ex
  obtain ⟨f_too_high, fd_too_high, F_too_high, m_too_high⟩ := D_too_high.ex
  obtain ⟨f_too_low, fd_too_low, F_too_low, m_too_low⟩ := D_too_low.ex
  obtain ⟨f__law_end_right, fd__law_end_right, F__law_end_right, m__law_end_right⟩ := D__law_end_right.ex
  obtain ⟨f_need_square, fd_need_square, F_need_square, m_need_square⟩ := D_need_square.ex
  obtain ⟨f_is_square, fd_is_square, F_is_square, m_is_square⟩ := D_is_square.ex
  obtain ⟨f_clash_of, fd_clash_of, F_clash_of, m_clash_of⟩ := D_clash_of.ex
  obtain ⟨f_need_both_bounds, fd_need_both_bounds, F_need_both_bounds, m_need_both_bounds⟩ := D_need_both_bounds.ex
  obtain ⟨f_least_above, fd_least_above, F_least_above, m_least_above⟩ := D_least_above.ex
  obtain ⟨f_greatest_under, fd_greatest_under, F_greatest_under, m_greatest_under⟩ := D_greatest_under.ex
  obtain ⟨f_heights, fd_heights, F_heights, m_heights⟩ := D_heights.ex
  obtain ⟨f_bounds_go, fd_bounds_go, F_bounds_go, m_bounds_go⟩ := D_bounds_go.ex
  obtain ⟨f_bounds_paper, fd_bounds_paper, F_bounds_paper, m_bounds_paper⟩ := D_bounds_paper.ex
  obtain ⟨f__law_lump, fd__law_lump, F__law_lump, m__law_lump⟩ := D__law_lump.ex
  obtain ⟨f__law_cart, fd__law_cart, F__law_cart, m__law_cart⟩ := D__law_cart.ex
  obtain ⟨f__law_names, fd__law_names, F__law_names, m__law_names⟩ := D__law_names.ex
  obtain ⟨f__law_word, fd__law_word, F__law_word, m__law_word⟩ := D__law_word.ex
  obtain ⟨f__law_bounds, fd__law_bounds, F__law_bounds, m__law_bounds⟩ := D__law_bounds.ex
  obtain ⟨f__law_right, fd__law_right, F__law_right, m__law_right⟩ := D__law_right.ex
  obtain ⟨f__law_wide_right, fd__law_wide_right, F__law_wide_right, m__law_wide_right⟩ := D__law_wide_right.ex
  obtain ⟨f_law, fd_law, F_law, m_law⟩ := D_law.ex
  have e := hfa.symm.trans m_law
  cases e
  have b_is_whole := F_is_whole.binds (ps := ["value", "low", "high"]) fun _ _ _ _ _ _ us hl => match us, hl with | [_, _, _], _ => rfl
  have b_turns_well := F_turns_well.binds (ps := ["line"]) fun _ _ _ _ _ _ us hl => match us, hl with | [_], _ => rfl
  have b_columns_of := F_columns_of.binds (ps := ["square"]) fun _ _ _ _ _ _ us hl => match us, hl with | [_], _ => rfl
  have b_heights_of := F_heights_of.binds (ps := ["square"]) fun _ _ _ _ _ _ us hl => match us, hl with | [_], _ => rfl
  have b_square_from := F_square_from.binds (ps := ["table"]) fun _ _ _ _ _ _ us hl => match us, hl with | [_], _ => rfl
  have b_floor_at := F_floor_at.binds (ps := ["row", "column"]) fun _ _ _ _ _ _ us hl => match us, hl with | [_, _], _ => rfl
  have b_ceiling_at := F_ceiling_at.binds (ps := ["sides", "row", "column"]) fun _ _ _ _ _ _ us hl => match us, hl with | [_, _, _], _ => rfl
  have b_bound_steps := F_bound_steps.binds (ps := ["bound", "row", "column"]) fun _ _ _ _ _ _ us hl => match us, hl with | [_, _, _], _ => rfl
  have b__law_lines := F__law_lines.binds (ps := ["_law_wide"]) fun _ _ _ _ _ _ us hl => match us, hl with | [_], _ => rfl
  have b__law_corner := F__law_corner.binds (ps := ["_law_some", "_law_high", "_law_left"]) fun _ _ _ _ _ _ us hl => match us, hl with | [_, _, _], _ => rfl
  have b__law_keep := F__law_keep.binds (ps := ["_law_tables", "_law_lows_so", "_law_highs_so"]) fun _ _ _ _ _ _ us hl => match us, hl with | [_, _, _], _ => rfl
  have b__law_lies := F__law_lies.binds (ps := ["_law_one_so", "_law_other_so"]) fun _ _ _ _ _ _ us hl => match us, hl with | [_, _], _ => rfl
  have b_fits_line := F_fits_line.binds (ps := ["value", "sides"]) fun _ _ _ _ _ _ us hl => match us, hl with | [_, _], _ => rfl
  have b_need_sides := F_need_sides.binds (ps := ["value"]) fun _ _ _ _ _ _ us hl => match us, hl with | [_], _ => rfl
  have b_fit_bounds := F_fit_bounds.binds (ps := ["sides", "value"]) fun _ _ _ _ _ _ us hl => match us, hl with | [_, _], _ => rfl
  have b_lifted := F_lifted.binds (ps := ["bound"]) fun _ _ _ _ _ _ us hl => match us, hl with | [_], _ => rfl
  have b_pressed := F_pressed.binds (ps := ["sides", "bound"]) fun _ _ _ _ _ _ us hl => match us, hl with | [_, _], _ => rfl
  have b__law_all := F__law_all.binds (ps := ["_law_wide"]) fun _ _ _ _ _ _ us hl => match us, hl with | [_], _ => rfl
  have b__law_table := F__law_table.binds (ps := ["_law_some"]) fun _ _ _ _ _ _ us hl => match us, hl with | [_], _ => rfl
  have b_fits_square := F_fits_square.binds (ps := ["value"]) fun _ _ _ _ _ _ us hl => match us, hl with | [_], _ => rfl
  have b_need_bounds := F_need_bounds.binds (ps := ["sides", "value"]) fun _ _ _ _ _ _ us hl => match us, hl with | [_, _], _ => rfl
  have b_low_table := F_low_table.binds (ps := ["sides", "bounds"]) fun _ _ _ _ _ _ us hl => match us, hl with | [_, _], _ => rfl
  have b_high_table := F_high_table.binds (ps := ["sides", "bounds"]) fun _ _ _ _ _ _ us hl => match us, hl with | [_, _], _ => rfl
  have b_too_high := F_too_high.binds (ps := ["sides", "bound"]) fun _ _ _ _ _ _ us hl => match us, hl with | [_, _], _ => rfl
  have b_too_low := F_too_low.binds (ps := ["sides", "bound"]) fun _ _ _ _ _ _ us hl => match us, hl with | [_, _], _ => rfl
  have b__law_end_right := F__law_end_right.binds (ps := ["_law_told", "_law_kept", "_law_below"]) fun _ _ _ _ _ _ us hl => match us, hl with | [_, _, _], _ => rfl
  have b_need_square := F_need_square.binds (ps := ["value"]) fun _ _ _ _ _ _ us hl => match us, hl with | [_], _ => rfl
  have b_is_square := F_is_square.binds (ps := ["value"]) fun _ _ _ _ _ _ us hl => match us, hl with | [_], _ => rfl
  have b_clash_of := F_clash_of.binds (ps := ["sides", "lows", "highs"]) fun _ _ _ _ _ _ us hl => match us, hl with | [_, _, _], _ => rfl
  have b_need_both_bounds := F_need_both_bounds.binds (ps := ["sides", "lows", "highs"]) fun _ _ _ _ _ _ us hl => match us, hl with | [_, _, _], _ => rfl
  have b_least_above := F_least_above.binds (ps := ["sides", "bounds"]) fun _ _ _ _ _ _ us hl => match us, hl with | [_, _], _ => rfl
  have b_greatest_under := F_greatest_under.binds (ps := ["sides", "bounds"]) fun _ _ _ _ _ _ us hl => match us, hl with | [_, _], _ => rfl
  have b_heights := F_heights.binds (ps := ["square"]) fun _ _ _ _ _ _ us hl => match us, hl with | [_], _ => rfl
  have b_bounds_go := F_bounds_go.binds (ps := ["sides", "lows", "highs"]) fun _ _ _ _ _ _ us hl => match us, hl with | [_, _, _], _ => rfl
  have b_bounds_paper := F_bounds_paper.binds (ps := ["sides", "lows", "highs"]) fun _ _ _ _ _ _ us hl => match us, hl with | [_, _, _], _ => rfl
  have b__law_lump := F__law_lump.binds (ps := ["_law_cart_here", "_law_size_so"]) fun _ _ _ _ _ _ us hl => match us, hl with | [_, _], _ => rfl
  have b__law_cart := F__law_cart.binds (ps := ["_law_script"]) fun _ _ _ _ _ _ us hl => match us, hl with | [_], _ => rfl
  have b__law_names := F__law_names.binds (ps := ["_law_error"]) fun _ _ _ _ _ _ us hl => match us, hl with | [_], _ => rfl
  have b__law_word := F__law_word.binds (ps := ["_law_call"]) fun _ _ _ _ _ _ us hl => match us, hl with | [_], _ => rfl
  have b__law_bounds := F__law_bounds.binds (ps := ["_law_cart_here", "_law_wide", "_law_most_so"]) fun _ _ _ _ _ _ us hl => match us, hl with | [_, _, _], _ => rfl
  have b__law_right := F__law_right.binds (ps := ["_law_cart_here", "_law_wide"]) fun _ _ _ _ _ _ us hl => match us, hl with | [_, _], _ => rfl
  have b__law_wide_right := F__law_wide_right.binds (ps := ["_law_cart_here", "_law_wide"]) fun _ _ _ _ _ _ us hl => match us, hl with | [_, _], _ => rfl
  have b_law := F_law.binds (ps := ["_law_script"]) fun _ _ _ _ _ _ us hl => match us, hl with | [_], _ => rfl
  have b__law_refused := F__law_refused.binds (ps := []) fun _ _ _ _ _ _ us hl => match us, hl with | [], _ => rfl
  have WT : K6H.WordT (ccOf c0 c1 c2 c3 c4 c5 c6) K mg := ⟨T, CL, fun c hc => by
    rcases hc with rfl | rfl
    · exact E1
    · exact E2, ⟨_, _, F__law_names, m__law_names, b__law_names⟩, ⟨_, _, F__law_word, m__law_word, b__law_word⟩⟩
  obtain ⟨oc, od, kV, doc, pm, an, cdv, ct, osl, rfl, lk, hcd⟩ := F_law.ex
  refine ⟨PySem.W.fnOf "law" "law" (defArgs s_law) (defBody s_law) (defScope s_law) .none kV doc pm an cdv ct, [(cR, T0)], spLaw T0 K, fun p hp => ?_, fun p hp => ?_, fun p hp => ?_, fun s u => .of_eq rfl, fun H a ns hl _ hT hS => ⟨a, ns, rfl, hS, hl, hT (cR, T0) List.mem_cons_self, fun _ => rfl⟩, fun base hb hn hTB => ?_⟩
  · rw [List.mem_singleton.mp hp]
    exact hP
  · rw [List.mem_singleton.mp hp]
    exact nT
  · rw [List.mem_singleton.mp hp]
    exact hd
  have TB := hTB (cR, T0) List.mem_cons_self
  have G_is_whole := d_is_whole (CC := ccOf c0 c1 c2 c3 c4 c5 c6) (P := l.prog) (w := w) (base := base) (T := T)  (F := F_is_whole) (hm := m_is_whole) (hb := b_is_whole)
  have G_turns_well := d_turns_well (CC := ccOf c0 c1 c2 c3 c4 c5 c6) (P := l.prog) (w := w) (base := base) (T := T)  (F := F_turns_well) (hm := m_turns_well) (hb := b_turns_well)
  have G_columns_of := d_columns_of (CC := ccOf c0 c1 c2 c3 c4 c5 c6) (P := l.prog) (w := w) (base := base) (T := T)  (F := F_columns_of) (hm := m_columns_of) (hb := b_columns_of)
  have G_heights_of := d_heights_of (CC := ccOf c0 c1 c2 c3 c4 c5 c6) (P := l.prog) (w := w) (base := base) (T := T)  (F := F_heights_of) (hm := m_heights_of) (hb := b_heights_of)
  have G_square_from := d_square_from (CC := ccOf c0 c1 c2 c3 c4 c5 c6) (P := l.prog) (w := w) (base := base) (T := T)  (F := F_square_from) (hm := m_square_from) (hb := b_square_from)
  have G_floor_at := d_floor_at (CC := ccOf c0 c1 c2 c3 c4 c5 c6) (P := l.prog) (w := w) (base := base) (T := T)  (F := F_floor_at) (hm := m_floor_at) (hb := b_floor_at)
  have G_ceiling_at := d_ceiling_at (CC := ccOf c0 c1 c2 c3 c4 c5 c6) (P := l.prog) (w := w) (base := base) (T := T)  (F := F_ceiling_at) (hm := m_ceiling_at) (hb := b_ceiling_at)
  have G_bound_steps := d_bound_steps (CC := ccOf c0 c1 c2 c3 c4 c5 c6) (P := l.prog) (w := w) (base := base) (T := T)  (F := F_bound_steps) (hm := m_bound_steps) (hb := b_bound_steps)
  have G__law_lines := d__law_lines (CC := ccOf c0 c1 c2 c3 c4 c5 c6) (P := l.prog) (w := w) (base := base) (T := T)  (F := F__law_lines) (hm := m__law_lines) (hb := b__law_lines)
  have G__law_corner := d__law_corner (CC := ccOf c0 c1 c2 c3 c4 c5 c6) (P := l.prog) (w := w) (base := base) (T := T)  (F := F__law_corner) (hm := m__law_corner) (hb := b__law_corner)
  have G__law_keep := d__law_keep (CC := ccOf c0 c1 c2 c3 c4 c5 c6) (P := l.prog) (w := w) (base := base) (T := T)  (F := F__law_keep) (hm := m__law_keep) (hb := b__law_keep)
  have G__law_lies := d__law_lies (CC := ccOf c0 c1 c2 c3 c4 c5 c6) (P := l.prog) (w := w) (base := base) (T := T)  (F := F__law_lies) (hm := m__law_lies) (hb := b__law_lies)
  have G_fits_line := d_fits_line (CC := ccOf c0 c1 c2 c3 c4 c5 c6) (P := l.prog) (w := w) (base := base) (T := T) (G_is_whole := G_is_whole) (F := F_fits_line) (hm := m_fits_line) (hb := b_fits_line)
  have G_need_sides := d_need_sides (CC := ccOf c0 c1 c2 c3 c4 c5 c6) (P := l.prog) (w := w) (base := base) (T := T) (XF := XF) (G_is_whole := G_is_whole) (F := F_need_sides) (hm := m_need_sides) (hb := b_need_sides)
  have G_fit_bounds := d_fit_bounds (CC := ccOf c0 c1 c2 c3 c4 c5 c6) (P := l.prog) (w := w) (base := base) (T := T) (G_is_whole := G_is_whole) (F := F_fit_bounds) (hm := m_fit_bounds) (hb := b_fit_bounds)
  have G_lifted := d_lifted (CC := ccOf c0 c1 c2 c3 c4 c5 c6) (P := l.prog) (w := w) (base := base) (T := T) (G_floor_at := G_floor_at) (F := F_lifted) (hm := m_lifted) (hb := b_lifted)
  have G_pressed := d_pressed (CC := ccOf c0 c1 c2 c3 c4 c5 c6) (P := l.prog) (w := w) (base := base) (T := T) (G_ceiling_at := G_ceiling_at) (F := F_pressed) (hm := m_pressed) (hb := b_pressed)
  have G__law_all := d__law_all (CC := ccOf c0 c1 c2 c3 c4 c5 c6) (P := l.prog) (w := w) (base := base) (T := T) (G__law_lines := G__law_lines) (F := F__law_all) (hm := m__law_all) (hb := b__law_all)
  have G__law_table := d__law_table (CC := ccOf c0 c1 c2 c3 c4 c5 c6) (P := l.prog) (w := w) (base := base) (T := T) (G__law_corner := G__law_corner) (F := F__law_table) (hm := m__law_table) (hb := b__law_table)
  have G_fits_square := d_fits_square (CC := ccOf c0 c1 c2 c3 c4 c5 c6) (P := l.prog) (w := w) (base := base) (T := T) (G_turns_well := G_turns_well) (G_columns_of := G_columns_of) (G_fits_line := G_fits_line) (F := F_fits_square) (hm := m_fits_square) (hb := b_fits_square)
  have G_need_bounds := d_need_bounds (CC := ccOf c0 c1 c2 c3 c4 c5 c6) (P := l.prog) (w := w) (base := base) (T := T) (XF := XF) (G_fit_bounds := G_fit_bounds) (F := F_need_bounds) (hm := m_need_bounds) (hb := b_need_bounds)
  have G_low_table := d_low_table (CC := ccOf c0 c1 c2 c3 c4 c5 c6) (P := l.prog) (w := w) (base := base) (T := T) (G_floor_at := G_floor_at) (G_lifted := G_lifted) (G_bound_steps := G_bound_steps) (F := F_low_table) (hm := m_low_table) (hb := b_low_table)
  have G_high_table := d_high_table (CC := ccOf c0 c1 c2 c3 c4 c5 c6) (P := l.prog) (w := w) (base := base) (T := T) (G_ceiling_at := G_ceiling_at) (G_pressed := G_pressed) (G_bound_steps := G_bound_steps) (F := F_high_table) (hm := m_high_table) (hb := b_high_table)
  have G_too_high := d_too_high (CC := ccOf c0 c1 c2 c3 c4 c5 c6) (P := l.prog) (w := w) (base := base) (T := T) (G_lifted := G_lifted) (G_ceiling_at := G_ceiling_at) (F := F_too_high) (hm := m_too_high) (hb := b_too_high)
  have G_too_low := d_too_low (CC := ccOf c0 c1 c2 c3 c4 c5 c6) (P := l.prog) (w := w) (base := base) (T := T) (G_pressed := G_pressed) (G_floor_at := G_floor_at) (F := F_too_low) (hm := m_too_low) (hb := b_too_low)
  have G__law_end_right := d__law_end_right (CC := ccOf c0 c1 c2 c3 c4 c5 c6) (P := l.prog) (w := w) (base := base) (T := T) (G__law_lies := G__law_lies) (G__law_table := G__law_table) (F := F__law_end_right) (hm := m__law_end_right) (hb := b__law_end_right)
  have G_need_square := d_need_square (CC := ccOf c0 c1 c2 c3 c4 c5 c6) (P := l.prog) (w := w) (base := base) (T := T) (XF := XF) (G_fits_square := G_fits_square) (F := F_need_square) (hm := m_need_square) (hb := b_need_square)
  have G_is_square := d_is_square (CC := ccOf c0 c1 c2 c3 c4 c5 c6) (P := l.prog) (w := w) (base := base) (T := T) (G_fits_square := G_fits_square) (F := F_is_square) (hm := m_is_square) (hb := b_is_square)
  have G_clash_of := d_clash_of (CC := ccOf c0 c1 c2 c3 c4 c5 c6) (P := l.prog) (w := w) (base := base) (T := T) (G_lifted := G_lifted) (G_bound_steps := G_bound_steps) (G_pressed := G_pressed) (G_too_low := G_too_low) (G_too_high := G_too_high) (F := F_clash_of) (hm := m_clash_of) (hb := b_clash_of)
  have G_need_both_bounds := d_need_both_bounds (CC := ccOf c0 c1 c2 c3 c4 c5 c6) (P := l.prog) (w := w) (base := base) (T := T) (G_need_bounds := G_need_bounds) (G_need_sides := G_need_sides) (F := F_need_both_bounds) (hm := m_need_both_bounds) (hb := b_need_both_bounds)
  have G_least_above := d_least_above (CC := ccOf c0 c1 c2 c3 c4 c5 c6) (P := l.prog) (w := w) (base := base) (T := T) (G_square_from := G_square_from) (G_low_table := G_low_table) (G_too_high := G_too_high) (G_need_bounds := G_need_bounds) (G_need_sides := G_need_sides) (F := F_least_above) (hm := m_least_above) (hb := b_least_above)
  have G_greatest_under := d_greatest_under (CC := ccOf c0 c1 c2 c3 c4 c5 c6) (P := l.prog) (w := w) (base := base) (T := T) (G_square_from := G_square_from) (G_high_table := G_high_table) (G_too_low := G_too_low) (G_need_bounds := G_need_bounds) (G_need_sides := G_need_sides) (F := F_greatest_under) (hm := m_greatest_under) (hb := b_greatest_under)
  have G_heights := d_heights (CC := ccOf c0 c1 c2 c3 c4 c5 c6) (P := l.prog) (w := w) (base := base) (T := T) (G_heights_of := G_heights_of) (G_need_square := G_need_square) (F := F_heights) (hm := m_heights) (hb := b_heights)
  have G_bounds_go := d_bounds_go (CC := ccOf c0 c1 c2 c3 c4 c5 c6) (P := l.prog) (w := w) (base := base) (T := T) (G_clash_of := G_clash_of) (G_need_both_bounds := G_need_both_bounds) (F := F_bounds_go) (hm := m_bounds_go) (hb := b_bounds_go)
  have G_bounds_paper := d_bounds_paper (CC := ccOf c0 c1 c2 c3 c4 c5 c6) (P := l.prog) (w := w) (base := base) (T := T) (G_clash_of := G_clash_of) (G_need_both_bounds := G_need_both_bounds) (F := F_bounds_paper) (hm := m_bounds_paper) (hb := b_bounds_paper)
  have G__law_lump := d__law_lump (P := l.prog) (w := w) (base := base) T F__law_lump m__law_lump b__law_lump
  have G__law_bounds := d__law_bounds (CC := ccOf c0 c1 c2 c3 c4 c5 c6) (P := l.prog) (w := w) (base := base) (T := T) (G__law_lump := G__law_lump) (F := F__law_bounds) (hm := m__law_bounds) (hb := b__law_bounds)
  have G__law_right := d__law_right (CC := ccOf c0 c1 c2 c3 c4 c5 c6) (P := l.prog) (w := w) (base := base) (T := T) (G__law_all := G__law_all) (G__law_table := G__law_table) (G__law_keep := G__law_keep) (G_bounds_paper := G_bounds_paper) (G_bounds_go := G_bounds_go) (G__law_end_right := G__law_end_right) (G_greatest_under := G_greatest_under) (G_least_above := G_least_above) (G__law_bounds := G__law_bounds) (F := F__law_right) (hm := m__law_right) (hb := b__law_right)
  have G__law_wide_right := d__law_wide_right (CC := ccOf c0 c1 c2 c3 c4 c5 c6) (P := l.prog) (w := w) (base := base) (T := T) (G_bounds_go := G_bounds_go) (G_bounds_paper := G_bounds_paper) (G_least_above := G_least_above) (G_greatest_under := G_greatest_under) (G__law_keep := G__law_keep) (G__law_lies := G__law_lies) (G_heights := G_heights) (G_is_square := G_is_square) (G__law_bounds := G__law_bounds) (F := F__law_wide_right) (hm := m__law_wide_right) (hb := b__law_wide_right)
  have FC := d__law_cart (P := l.prog) (w := w) (base := base) T F__law_cart m__law_cart b__law_cart
  have FR := K6H.ok_refused (T0 := T0) T WT TB G_least_above G_greatest_under G_bounds_go G_bounds_paper F__law_refused hcode
  exact ok_law (T := T) (G_bounds_paper := G_bounds_paper) (G_greatest_under := G_greatest_under) (G_bounds_go := G_bounds_go) (G_least_above := G_least_above) (G__law_lump := G__law_lump) (G__law_right := G__law_right) (G__law_wide_right := G__law_wide_right) (FC := FC) (mC := m__law_cart) (kC := F__law_cart.kp) (bC := b__law_cart) (FR := FR) (mR := m__law_refused) (kR := F__law_refused.kp) (bR := b__law_refused) (F := F_law)
theorem all_end {l : PySem.W.OpenLaw} {w : World} {K : PySem.W.Frag} {h : Heap} {mg : Str → Option Value} {fa c0 c1 c2 c3 c4 c5 c6 : Addr} (X : K.In h) (G : h.Ns mainGlobals mg) (hfa : mg "law" = some (.ref fa)) (tb : TabOf mg h "_law_refused") (T : Txt mg) (zV : mg "ValueError" = none)
    (n0 : PySem.W.nsIn K mainGlobals "InvalidSquare" = some (some (.ref c0)))
    (n1 : PySem.W.nsIn K mainGlobals "InvalidSides" = some (some (.ref c1)))
    (n2 : PySem.W.nsIn K mainGlobals "InvalidBounds" = some (some (.ref c2)))
    (n3 : PySem.W.nsIn K mainGlobals "InvalidNumber" = some (some (.ref c3)))
    (n4 : PySem.W.nsIn K mainGlobals "InvalidFacts" = some (some (.ref c4)))
    (n5 : PySem.W.nsIn K mainGlobals "TooMany" = some (some (.ref c5)))
    (n6 : PySem.W.nsIn K mainGlobals "SignError" = some (some (.ref c6)))
    (o0x : PySem.W.excIn K c0 [.type "ValueError", .type "Exception", .type "BaseException", .type "object"] "ValueError.__new__" = true)
    (o0k : PySem.W.keepIn K (.ref c0) = true)
    (o0b : PySem.W.subIn K (.ref c0) (.type "BaseException") = some true)
    (o0t : PySem.W.typeIn K (.ref c0) = some (.type "type"))
    (o1x : PySem.W.excIn K c1 [.type "ValueError", .type "Exception", .type "BaseException", .type "object"] "ValueError.__new__" = true)
    (o1k : PySem.W.keepIn K (.ref c1) = true)
    (o1b : PySem.W.subIn K (.ref c1) (.type "BaseException") = some true)
    (o1t : PySem.W.typeIn K (.ref c1) = some (.type "type"))
    (o2x : PySem.W.excIn K c2 [.type "ValueError", .type "Exception", .type "BaseException", .type "object"] "ValueError.__new__" = true)
    (o2k : PySem.W.keepIn K (.ref c2) = true)
    (o2b : PySem.W.subIn K (.ref c2) (.type "BaseException") = some true)
    (o2t : PySem.W.typeIn K (.ref c2) = some (.type "type"))
    (gn : PySem.W.specialIn K (.builtin "object.__class__") "__get__" = some (some (.builtin "getset_descriptor.__get__")))
    (gt : PySem.W.takesIn K (.builtin "object.__class__") = some true)
    (e1hg : PySem.W.findIn K (.ref c1) "__getattribute__" = some (some (.builtin "BaseException.__getattribute__")))
    (e1hk : PySem.W.findIn K (.ref c1) "__getattr__" = some none)
    (e1hs : PySem.W.subIn K (.ref c1) (.type "BaseException") = some true)
    (e1hd : PySem.W.hasDictIn K c1 = true)
    (e1ha : PySem.W.findIn K (.ref c1) "__class__" = some (some (.builtin "object.__class__")))
    (e1hm : PySem.W.mroIn K c1 (.type "object") = some true)
    (e1k0 : PySem.W.kitOne K (.ref c1) (.ref c0) = some false)
    (e1k1 : PySem.W.kitOne K (.ref c1) (.ref c1) = some true)
    (e1k2 : PySem.W.kitOne K (.ref c1) (.ref c2) = some false)
    (e1k3 : PySem.W.kitOne K (.ref c1) (.ref c3) = some false)
    (e1k4 : PySem.W.kitOne K (.ref c1) (.ref c4) = some false)
    (e1k5 : PySem.W.kitOne K (.ref c1) (.ref c5) = some false)
    (e1v : PySem.W.kitOne K (.ref c1) (.type "ValueError") = some true)
    (e1m : PySem.W.exmOne K (.ref c1) (.ref c6) = some true)
    (e2hg : PySem.W.findIn K (.ref c2) "__getattribute__" = some (some (.builtin "BaseException.__getattribute__")))
    (e2hk : PySem.W.findIn K (.ref c2) "__getattr__" = some none)
    (e2hs : PySem.W.subIn K (.ref c2) (.type "BaseException") = some true)
    (e2hd : PySem.W.hasDictIn K c2 = true)
    (e2ha : PySem.W.findIn K (.ref c2) "__class__" = some (some (.builtin "object.__class__")))
    (e2hm : PySem.W.mroIn K c2 (.type "object") = some true)
    (e2k0 : PySem.W.kitOne K (.ref c2) (.ref c0) = some false)
    (e2k1 : PySem.W.kitOne K (.ref c2) (.ref c1) = some false)
    (e2k2 : PySem.W.kitOne K (.ref c2) (.ref c2) = some true)
    (e2k3 : PySem.W.kitOne K (.ref c2) (.ref c3) = some false)
    (e2k4 : PySem.W.kitOne K (.ref c2) (.ref c4) = some false)
    (e2k5 : PySem.W.kitOne K (.ref c2) (.ref c5) = some false)
    (e2v : PySem.W.kitOne K (.ref c2) (.type "ValueError") = some true)
    (e2m : PySem.W.exmOne K (.ref c2) (.ref c6) = some true)
    (D_is_whole : DefT K mg "is_whole" s_is_whole)
    (D_turns_well : DefT K mg "turns_well" s_turns_well)
    (D_columns_of : DefT K mg "columns_of" s_columns_of)
    (D_heights_of : DefT K mg "heights_of" s_heights_of)
    (D_square_from : DefT K mg "square_from" s_square_from)
    (D_floor_at : DefT K mg "floor_at" s_floor_at)
    (D_ceiling_at : DefT K mg "ceiling_at" s_ceiling_at)
    (D_bound_steps : DefT K mg "bound_steps" s_bound_steps)
    (D__law_lines : DefT K mg "_law_lines" s__law_lines)
    (D__law_corner : DefT K mg "_law_corner" s__law_corner)
    (D__law_keep : DefT K mg "_law_keep" s__law_keep)
    (D__law_lies : DefT K mg "_law_lies" s__law_lies)
    (D_fits_line : DefT K mg "fits_line" s_fits_line)
    (D_need_sides : DefT K mg "need_sides" s_need_sides)
    (D_fit_bounds : DefT K mg "fit_bounds" s_fit_bounds)
    (D_lifted : DefT K mg "lifted" s_lifted)
    (D_pressed : DefT K mg "pressed" s_pressed)
    (D__law_all : DefT K mg "_law_all" s__law_all)
    (D__law_table : DefT K mg "_law_table" s__law_table)
    (D_fits_square : DefT K mg "fits_square" s_fits_square)
    (D_need_bounds : DefT K mg "need_bounds" s_need_bounds)
    (D_low_table : DefT K mg "low_table" s_low_table)
    (D_high_table : DefT K mg "high_table" s_high_table)
    (D_too_high : DefT K mg "too_high" s_too_high)
    (D_too_low : DefT K mg "too_low" s_too_low)
    (D__law_end_right : DefT K mg "_law_end_right" s__law_end_right)
    (D_need_square : DefT K mg "need_square" s_need_square)
    (D_is_square : DefT K mg "is_square" s_is_square)
    (D_clash_of : DefT K mg "clash_of" s_clash_of)
    (D_need_both_bounds : DefT K mg "need_both_bounds" s_need_both_bounds)
    (D_least_above : DefT K mg "least_above" s_least_above)
    (D_greatest_under : DefT K mg "greatest_under" s_greatest_under)
    (D_heights : DefT K mg "heights" s_heights)
    (D_bounds_go : DefT K mg "bounds_go" s_bounds_go)
    (D_bounds_paper : DefT K mg "bounds_paper" s_bounds_paper)
    (D__law_lump : DefT K mg "_law_lump" s__law_lump)
    (D__law_cart : DefT K mg "_law_cart" s__law_cart)
    (D__law_names : DefT K mg "_law_names" K6H.s__law_names)
    (D__law_word : DefT K mg "_law_word" K6H.s__law_word)
    (D__law_bounds : DefT K mg "_law_bounds" s__law_bounds)
    (D__law_right : DefT K mg "_law_right" s__law_right)
    (D__law_wide_right : DefT K mg "_law_wide_right" s__law_wide_right)
    (D_law : DefT K mg "law" s_law)
    (D__law_refused : DefR K mg "_law_refused" K6H.s__law_refused) :
    LawAtS l w K (L2N.CX l.prog w) 10 63 "_law_script" mg fa h :=
  all_of (c0 := c0) (c1 := c1) (c2 := c2) (c3 := c3) (c4 := c4) (c5 := c5) (c6 := c6) X hfa T ⟨PySem.W.mg_of X G n0, PySem.W.mg_of X G n1, PySem.W.mg_of X G n2, PySem.W.mg_of X G n3, PySem.W.mg_of X G n4, PySem.W.mg_of X G n5, PySem.W.mg_of X G n6, zV⟩ ⟨o0x, o0k, o0b, o0t⟩ ⟨o1x, o1k, o1b, o1t⟩ ⟨o2x, o2k, o2b, o2t⟩ ⟨⟨e1hg, e1hk, e1hs, e1hd, e1ha, gn, gt, e1hm⟩, e1k0, e1k1, e1k2, e1k3, e1k4, e1k5, e1v, e1m⟩ ⟨⟨e2hg, e2hk, e2hs, e2hd, e2ha, gn, gt, e2hm⟩, e2k0, e2k1, e2k2, e2k3, e2k4, e2k5, e2v, e2m⟩ D_is_whole D_turns_well D_columns_of D_heights_of D_square_from D_floor_at D_ceiling_at D_bound_steps D__law_lines D__law_corner D__law_keep D__law_lies D_fits_line D_need_sides D_fit_bounds D_lifted D_pressed D__law_all D__law_table D_fits_square D_need_bounds D_low_table D_high_table D_too_high D_too_low D__law_end_right D_need_square D_is_square D_clash_of D_need_both_bounds D_least_above D_greatest_under D_heights D_bounds_go D_bounds_paper D__law_lump D__law_cart D__law_names D__law_word D__law_bounds D__law_right D__law_wide_right D_law D__law_refused tb
/-- the end, with the table of the def x -/
theorem walk_ref {l : PySem.W.OpenLaw} {n k : Nat} {q : Program} {loose : List Str} {XP : (Str → Option Value) → Heap → Prop} {YP : World → Heap → Prop} {d : DefRec} {K : Params → PySem.W.Frag} {CX : World → CXT} {x y : Str}
    (hn : l.most = some n) (hn2 : n ≤ sizeLine) (hdf : d.params.defaults = []) (hr : Room k callerA) (hrec : ((recsOf q).any fun e => e.name == y) = true) (hY : ∀ (w : World) (h : Heap), YP w h → (K w.params).In h)
    (F : ∀ (w : World) (mg : Str → Option Value) (fa : Addr) (h : Heap), YP w h → (K w.params).In h → h.Ns mainGlobals mg → mg d.name = some (.ref fa) → TabOf mg h y → LawAtS l w (K w.params) (CX w) k n x mg fa h)
    (hCX : ∀ (w : World) (H : Hp) (s : Shared) (e : Value) (s' : Shared), CX w [] H s (fun _ _ _ => False) e s' → False) : PySem.W.WalkO q loose XP YP l.row.toRowW d [] (fun f vs => PySem.call f vs) := by
  refine Att.attach_callB hn hdf fun w s0 s1 mg mb fa o pm cd doc a vs ns G Y ho hd hcd hmg hobj hints hlen hbits hg => ?_
  have KX := hY w _ Y
  obtain ⟨dL, hm, en⟩ := List.any_eq_true.mp hrec
  have tb := G.T.tab dL hm
  rw [show dL.name = y from beq_iff_eq.mp en] at tb
  obtain ⟨fd, cs, sp, hT, nT, C, hb, hsp, hF⟩ := F w mg fa _ Y KX G.T.g hmg tb
  exact law_callTs KX G.T.g G.T.b G.T.builtins G.T.nolimit hg hT nT C G.T.bmain hobj hints (Nat.le_trans hlen hn2) hr hF hb (fun H hH hS => hsp H a ns hlen hbits hH hS) fun H e s' => hCX w H s1 e s'
end K6

end
-- text Kit
section
set_option Elab.async false
set_option linter.all false
set_option autoImplicit false
set_option maxRecDepth 100000
/-! what isinstance and except say of the law's own classes, from the raw facts of the written part -/
namespace K6
open PySem
theorem kit_own {K : PySem.W.Frag} {t : Value} {C : Addr} {b : Bool} (h : (t == Value.ref C) = false) (c : PySem.W.isClsIn K C = true) (y : PySem.W.typeIn K (.ref C) = some (.type "type")) (s : PySem.W.subIn K t (.ref C) = some b) : PySem.W.kitOne K t (.ref C) = some b := by
  have q : ((PySem.W.clsIn K C).isSome && PySem.W.typeIn K (.ref C) == some (.type "type")) = true := by
    have c' : (PySem.W.clsIn K C).isSome = true := c
    rw [c', y] <;> rfl
  show (if (t == Value.ref C) = true then some true else (if ((PySem.W.clsIn K C).isSome && PySem.W.typeIn K (.ref C) == some (.type "type")) = true then PySem.W.subIn K t (.ref C) else none)) = some b
  rw [if_neg (by rw [h]; decide), if_pos q]
  exact s
theorem kit_same {K : PySem.W.Frag} {C : Addr} : PySem.W.kitOne K (.ref C) (.ref C) = some true := if_pos (beq_self_eq_true _)
theorem kit_boot {K : PySem.W.Frag} {t : Value} {x : String} {b : Bool} (h : (t == Value.type x) = false) (c : PySem.W.kitMeta x = true) (s : PySem.W.subIn K t (.type x) = some b) : PySem.W.kitOne K t (.type x) = some b := by
  show (if (t == Value.type x) = true then some true else (if PySem.W.kitMeta x = true then PySem.W.subIn K t (.type x) else none)) = some b
  rw [if_neg (by rw [h]; decide), if_pos c]
  exact s
theorem exm_own {K : PySem.W.Frag} {t : Value} {C : Addr} {b : Bool} (k : PySem.W.subIn K (.ref C) (.type "BaseException") = some true) (c : PySem.W.isClsIn K C = true) (y : PySem.W.typeIn K (.ref C) = some (.type "type")) (s : PySem.W.subIn K t (.ref C) = some b) : PySem.W.exmOne K t (.ref C) = some b := by
  have q : ((PySem.W.clsIn K C).isSome && PySem.W.typeIn K (.ref C) == some (.type "type")) = true := by
    have c' : (PySem.W.clsIn K C).isSome = true := c
    rw [c', y] <;> rfl
  have q' : (PySem.W.subIn K (.ref C) (.type "BaseException") == some true) = true := by rw [k] <;> rfl
  show (if (PySem.W.subIn K (.ref C) (.type "BaseException") == some true) = true then (if ((PySem.W.clsIn K C).isSome && PySem.W.typeIn K (.ref C) == some (.type "type")) = true then PySem.W.subIn K t (.ref C) else none) else none) = some b
  rw [if_pos q', if_pos q]
  exact s
def isInt (z : Int) : Option (Option Value) → Bool
  | some (some (.int y _)) => y == z
  | _ => false
theorem isInt_mk {z : Int} : ∀ {o : Option (Option Value)}, isInt z o = true → ∃ t, o = some (some (.int z t))
  | some (some (.int y t)), e => ⟨t, by rw [show y = z from beq_iff_eq.mp e]⟩
theorem isInt_of {K : PySem.W.Frag} {h : Heap} {mg : Str → Option Value} {n : Str} {z : Int} (X : K.In h) (G : h.Ns mainGlobals mg) (e : isInt z (PySem.W.nsIn K mainGlobals n) = true) : ∃ t, mg n = some (.int z t) := by
  obtain ⟨t, q⟩ := isInt_mk e
  exact ⟨t, PySem.W.mg_of X G q⟩
end K6

end
-- text End
section
open PySem PySem.W PyProof.Rows
set_option maxRecDepth 100000 in
set_option maxHeartbeats 0 in
theorem PySem.Challenge.cw_signsquared_k62_whole_bounds_of_heights_holds : PySem.Challenge.rw_signsquared_k62_whole_bounds_of_heights.Holds := by
  w_on; o_law; k_head; (case hw => w_witness2)
  k_fill
  refine K6.walk_ref (l := PySem.Challenge.rw_signsquared_k62_whole_bounds_of_heights) (n := 63) (k := 10) (x := "_law_script") (y := "_law_refused") (CX := fun w => L2N.CX (PySem.Challenge.rw_signsquared_k62_whole_bounds_of_heights).prog w) rfl (by decide) rfl ⟨by decide, by decide, by decide⟩ (by decide +kernel) (fun w h Y => PySem.W.km_in_of Y) ?F ?Z
  case Z =>
    intro w H s e s' h
    obtain ⟨_, _, _, _, _, _, _, _, _, _, _, _, z⟩ := h
    exact z
  case F =>
    intro w mg fa h Y KX G hmg tb
    have z_abs : mg "abs" = none := PySem.W.mg_none_of KX G (by k_is)
    have z_all : mg "all" = none := PySem.W.mg_none_of KX G (by k_is)
    have z_any : mg "any" = none := PySem.W.mg_none_of KX G (by k_is)
    have z_enumerate : mg "enumerate" = none := PySem.W.mg_none_of KX G (by k_is)
    have z_int : mg "int" = none := PySem.W.mg_none_of KX G (by k_is)
    have z_bool : mg "bool" = none := PySem.W.mg_none_of KX G (by k_is)
    have z_isinstance : mg "isinstance" = none := PySem.W.mg_none_of KX G (by k_is)
    have z_len : mg "len" = none := PySem.W.mg_none_of KX G (by k_is)
    have z_list : mg "list" = none := PySem.W.mg_none_of KX G (by k_is)
    have z_max : mg "max" = none := PySem.W.mg_none_of KX G (by k_is)
    have z_min : mg "min" = none := PySem.W.mg_none_of KX G (by k_is)
    have z_range : mg "range" = none := PySem.W.mg_none_of KX G (by k_is)
    have z_sum : mg "sum" = none := PySem.W.mg_none_of KX G (by k_is)
    have z_tuple : mg "tuple" = none := PySem.W.mg_none_of KX G (by k_is)
    have z_zip : mg "zip" = none := PySem.W.mg_none_of KX G (by k_is)
    have z_ValueError : mg "ValueError" = none := PySem.W.mg_none_of KX G (by k_is)
    have z_SIDES : ∃ t, mg "SIDES" = some (.int 12 t) := by
      first
      | exact K6.isInt_of KX G (by kernel_rfl)
      | exact K6.isInt_of KX G (by decide +kernel)
      | exact ⟨_, PySem.W.mg_of KX G (by k_is)⟩
      | exact K6.isInt_of KX G (by rfl)
    have z_BOUNDS : ∃ t, mg "BOUNDS" = some (.int 40 t) := by
      first
      | exact K6.isInt_of KX G (by kernel_rfl)
      | exact K6.isInt_of KX G (by decide +kernel)
      | exact ⟨_, PySem.W.mg_of KX G (by k_is)⟩
      | exact K6.isInt_of KX G (by rfl)
    have z_FAR : ∃ t, mg "FAR" = some (.int 40 t) := by
      first
      | exact K6.isInt_of KX G (by kernel_rfl)
      | exact K6.isInt_of KX G (by decide +kernel)
      | exact ⟨_, PySem.W.mg_of KX G (by k_is)⟩
      | exact K6.isInt_of KX G (by rfl)
    have T : K6.Txt mg := ⟨z_abs, z_all, z_any, z_enumerate, z_int, z_bool, z_isinstance, z_len, z_list, z_max, z_min, z_range, z_sum, z_tuple, z_zip, z_SIDES, z_BOUNDS, z_FAR⟩
    refine' K6.all_end KX G hmg tb T z_ValueError ?n0 ?n1 ?n2 ?n3 ?n4 ?n5 ?n6 ?o0x ?o0k ?o0b ?o0t ?o1x ?o1k ?o1b ?o1t ?o2x ?o2k ?o2b ?o2t ?gn ?gt ?e1hg ?e1hk ?e1hs ?e1hd ?e1ha ?e1hm ?e1k0 ?e1k1 ?e1k2 ?e1k3 ?e1k4 ?e1k5 ?e1v ?e1m ?e2hg ?e2hk ?e2hs ?e2hd ?e2ha ?e2hm ?e2k0 ?e2k1 ?e2k2 ?e2k3 ?e2k4 ?e2k5 ?e2v ?e2m ?D_is_whole ?D_turns_well ?D_columns_of ?D_heights_of ?D_square_from ?D_floor_at ?D_ceiling_at ?D_bound_steps ?D__law_lines ?D__law_corner ?D__law_keep ?D__law_lies ?D_fits_line ?D_need_sides ?D_fit_bounds ?D_lifted ?D_pressed ?D__law_all ?D__law_table ?D_fits_square ?D_need_bounds ?D_low_table ?D_high_table ?D_too_high ?D_too_low ?D__law_end_right ?D_need_square ?D_is_square ?D_clash_of ?D_need_both_bounds ?D_least_above ?D_greatest_under ?D_heights ?D_bounds_go ?D_bounds_paper ?D__law_lump ?D__law_cart ?D__law_names ?D__law_word ?D__law_bounds ?D__law_right ?D__law_wide_right ?D_law ?D__law_refused
    (case n0 => k_is)
    (case n1 => k_is)
    (case n2 => k_is)
    (case n3 => k_is)
    (case n4 => k_is)
    (case n5 => k_is)
    (case n6 => k_is)
    (case o0x => k_exc)
    (case o0k => k_is)
    (case o0b => k_is)
    (case o0t => k_is)
    (case o1x => k_exc)
    (case o1k => k_is)
    (case o1b => k_is)
    (case o1t => k_is)
    (case o2x => k_exc)
    (case o2k => k_is)
    (case o2b => k_is)
    (case o2t => k_is)
    (case gn => k_is)
    (case gt => k_is)
    (case e1hg => k_is)
    (case e1hk => k_is)
    (case e1hs => k_is)
    (case e1hd => k_is)
    (case e1ha => k_is)
    (case e1hm => k_is)
    (case e1k0 => (refine' K6.kit_own ?a ?b ?c ?d; (case a => decide); (case b => k_is); (case c => k_is); (case d => k_is)))
    (case e1k1 => exact K6.kit_same)
    (case e1k2 => (refine' K6.kit_own ?a ?b ?c ?d; (case a => decide); (case b => k_is); (case c => k_is); (case d => k_is)))
    (case e1k3 => (refine' K6.kit_own ?a ?b ?c ?d; (case a => decide); (case b => k_is); (case c => k_is); (case d => k_is)))
    (case e1k4 => (refine' K6.kit_own ?a ?b ?c ?d; (case a => decide); (case b => k_is); (case c => k_is); (case d => k_is)))
    (case e1k5 => (refine' K6.kit_own ?a ?b ?c ?d; (case a => decide); (case b => k_is); (case c => k_is); (case d => k_is)))
    (case e1v => (refine' K6.kit_boot ?a ?b ?c; (case a => decide); (case b => decide +kernel); (case c => k_is)))
    (case e1m => (refine' K6.exm_own ?a ?b ?c ?d; (case a => k_is); (case b => k_is); (case c => k_is); (case d => k_is)))
    (case e2hg => k_is)
    (case e2hk => k_is)
    (case e2hs => k_is)
    (case e2hd => k_is)
    (case e2ha => k_is)
    (case e2hm => k_is)
    (case e2k0 => (refine' K6.kit_own ?a ?b ?c ?d; (case a => decide); (case b => k_is); (case c => k_is); (case d => k_is)))
    (case e2k1 => (refine' K6.kit_own ?a ?b ?c ?d; (case a => decide); (case b => k_is); (case c => k_is); (case d => k_is)))
    (case e2k2 => exact K6.kit_same)
    (case e2k3 => (refine' K6.kit_own ?a ?b ?c ?d; (case a => decide); (case b => k_is); (case c => k_is); (case d => k_is)))
    (case e2k4 => (refine' K6.kit_own ?a ?b ?c ?d; (case a => decide); (case b => k_is); (case c => k_is); (case d => k_is)))
    (case e2k5 => (refine' K6.kit_own ?a ?b ?c ?d; (case a => decide); (case b => k_is); (case c => k_is); (case d => k_is)))
    (case e2v => (refine' K6.kit_boot ?a ?b ?c; (case a => decide); (case b => decide +kernel); (case c => k_is)))
    (case e2m => (refine' K6.exm_own ?a ?b ?c ?d; (case a => k_is); (case b => k_is); (case c => k_is); (case d => k_is)))
    (case D_is_whole => (refine' K6.defT_mk KX G ?a ?l ?c ?k; (case a => k_is); (case l => k_is); (case c => k_is); (case k => k_is)))
    (case D_turns_well => (refine' K6.defT_mk KX G ?a ?l ?c ?k; (case a => k_is); (case l => k_is); (case c => k_is); (case k => k_is)))
    (case D_columns_of => (refine' K6.defT_mk KX G ?a ?l ?c ?k; (case a => k_is); (case l => k_is); (case c => k_is); (case k => k_is)))
    (case D_heights_of => (refine' K6.defT_mk KX G ?a ?l ?c ?k; (case a => k_is); (case l => k_is); (case c => k_is); (case k => k_is)))
    (case D_square_from => (refine' K6.defT_mk KX G ?a ?l ?c ?k; (case a => k_is); (case l => k_is); (case c => k_is); (case k => k_is)))
    (case D_floor_at => (refine' K6.defT_mk KX G ?a ?l ?c ?k; (case a => k_is); (case l => k_is); (case c => k_is); (case k => k_is)))
    (case D_ceiling_at => (refine' K6.defT_mk KX G ?a ?l ?c ?k; (case a => k_is); (case l => k_is); (case c => k_is); (case k => k_is)))
    (case D_bound_steps => (refine' K6.defT_mk KX G ?a ?l ?c ?k; (case a => k_is); (case l => k_is); (case c => k_is); (case k => k_is)))
    (case D__law_lines => (refine' K6.defT_mk KX G ?a ?l ?c ?k; (case a => k_is); (case l => k_is); (case c => k_is); (case k => k_is)))
    (case D__law_corner => (refine' K6.defT_mk KX G ?a ?l ?c ?k; (case a => k_is); (case l => k_is); (case c => k_is); (case k => k_is)))
    (case D__law_keep => (refine' K6.defT_mk KX G ?a ?l ?c ?k; (case a => k_is); (case l => k_is); (case c => k_is); (case k => k_is)))
    (case D__law_lies => (refine' K6.defT_mk KX G ?a ?l ?c ?k; (case a => k_is); (case l => k_is); (case c => k_is); (case k => k_is)))
    (case D_fits_line => (refine' K6.defT_mk KX G ?a ?l ?c ?k; (case a => k_is); (case l => k_is); (case c => k_is); (case k => k_is)))
    (case D_need_sides => (refine' K6.defT_mk KX G ?a ?l ?c ?k; (case a => k_is); (case l => k_is); (case c => k_is); (case k => k_is)))
    (case D_fit_bounds => (refine' K6.defT_mk KX G ?a ?l ?c ?k; (case a => k_is); (case l => k_is); (case c => k_is); (case k => k_is)))
    (case D_lifted => (refine' K6.defT_mk KX G ?a ?l ?c ?k; (case a => k_is); (case l => k_is); (case c => k_is); (case k => k_is)))
    (case D_pressed => (refine' K6.defT_mk KX G ?a ?l ?c ?k; (case a => k_is); (case l => k_is); (case c => k_is); (case k => k_is)))
    (case D__law_all => (refine' K6.defT_mk KX G ?a ?l ?c ?k; (case a => k_is); (case l => k_is); (case c => k_is); (case k => k_is)))
    (case D__law_table => (refine' K6.defT_mk KX G ?a ?l ?c ?k; (case a => k_is); (case l => k_is); (case c => k_is); (case k => k_is)))
    (case D_fits_square => (refine' K6.defT_mk KX G ?a ?l ?c ?k; (case a => k_is); (case l => k_is); (case c => k_is); (case k => k_is)))
    (case D_need_bounds => (refine' K6.defT_mk KX G ?a ?l ?c ?k; (case a => k_is); (case l => k_is); (case c => k_is); (case k => k_is)))
    (case D_low_table => (refine' K6.defT_mk KX G ?a ?l ?c ?k; (case a => k_is); (case l => k_is); (case c => k_is); (case k => k_is)))
    (case D_high_table => (refine' K6.defT_mk KX G ?a ?l ?c ?k; (case a => k_is); (case l => k_is); (case c => k_is); (case k => k_is)))
    (case D_too_high => (refine' K6.defT_mk KX G ?a ?l ?c ?k; (case a => k_is); (case l => k_is); (case c => k_is); (case k => k_is)))
    (case D_too_low => (refine' K6.defT_mk KX G ?a ?l ?c ?k; (case a => k_is); (case l => k_is); (case c => k_is); (case k => k_is)))
    (case D__law_end_right => (refine' K6.defT_mk KX G ?a ?l ?c ?k; (case a => k_is); (case l => k_is); (case c => k_is); (case k => k_is)))
    (case D_need_square => (refine' K6.defT_mk KX G ?a ?l ?c ?k; (case a => k_is); (case l => k_is); (case c => k_is); (case k => k_is)))
    (case D_is_square => (refine' K6.defT_mk KX G ?a ?l ?c ?k; (case a => k_is); (case l => k_is); (case c => k_is); (case k => k_is)))
    (case D_clash_of => (refine' K6.defT_mk KX G ?a ?l ?c ?k; (case a => k_is); (case l => k_is); (case c => k_is); (case k => k_is)))
    (case D_need_both_bounds => (refine' K6.defT_mk KX G ?a ?l ?c ?k; (case a => k_is); (case l => k_is); (case c => k_is); (case k => k_is)))
    (case D_least_above => (refine' K6.defT_mk KX G ?a ?l ?c ?k; (case a => k_is); (case l => k_is); (case c => k_is); (case k => k_is)))
    (case D_greatest_under => (refine' K6.defT_mk KX G ?a ?l ?c ?k; (case a => k_is); (case l => k_is); (case c => k_is); (case k => k_is)))
    (case D_heights => (refine' K6.defT_mk KX G ?a ?l ?c ?k; (case a => k_is); (case l => k_is); (case c => k_is); (case k => k_is)))
    (case D_bounds_go => (refine' K6.defT_mk KX G ?a ?l ?c ?k; (case a => k_is); (case l => k_is); (case c => k_is); (case k => k_is)))
    (case D_bounds_paper => (refine' K6.defT_mk KX G ?a ?l ?c ?k; (case a => k_is); (case l => k_is); (case c => k_is); (case k => k_is)))
    (case D__law_lump => (refine' K6.defT_mk KX G ?a ?l ?c ?k; (case a => k_is); (case l => k_is); (case c => k_is); (case k => k_is)))
    (case D__law_cart => (refine' K6.defT_mk KX G ?a ?l ?c ?k; (case a => k_is); (case l => k_is); (case c => k_is); (case k => k_is)))
    (case D__law_names => (refine' K6.defT_mk KX G ?a ?l ?c ?k; (case a => k_is); (case l => k_is); (case c => k_is); (case k => k_is)))
    (case D__law_word => (refine' K6.defT_mk KX G ?a ?l ?c ?k; (case a => k_is); (case l => k_is); (case c => k_is); (case k => k_is)))
    (case D__law_bounds => (refine' K6.defT_mk KX G ?a ?l ?c ?k; (case a => k_is); (case l => k_is); (case c => k_is); (case k => k_is)))
    (case D__law_right => (refine' K6.defT_mk KX G ?a ?l ?c ?k; (case a => k_is); (case l => k_is); (case c => k_is); (case k => k_is)))
    (case D__law_wide_right => (refine' K6.defT_mk KX G ?a ?l ?c ?k; (case a => k_is); (case l => k_is); (case c => k_is); (case k => k_is)))
    (case D_law => (refine' K6.defT_mk KX G ?a ?l ?c ?k; (case a => k_is); (case l => k_is); (case c => k_is); (case k => k_is)))
    (case D__law_refused => (refine' K6.defR_mk KX G ?a ?l ?c ?k ?lc ?v ?n; (case a => k_is); (case l => k_is); (case c => k_is); (case k => k_is); (case lc => k_is); (case v => rfl); (case n => first | kernel_rfl | decide +kernel)))

end
