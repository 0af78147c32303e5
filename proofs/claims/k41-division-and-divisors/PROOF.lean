import PyProof.Rows.All
import Wide.All
import OpenK.AllK
import Wide.FinOn
import HandS.ForMost
import HandS.Wide
import HandS.Conv
import HandS.TupAny
import HandS.Star
import HandS.Flow
import HandS.Comp
import HandS.Zip
import HandS.Style
import KE.GoesMore
import KE.GoesEnum
import HandS.WideMore
import KE.KDictPairs
import HandS.TupLen
import HandS.Exc
import KE.KStateDown
import Lean
import HandS.Defaults
import HandS.Head0
import HandS.Head1
import HandS.Head2
import HandS.HeadEnd
import HandS.HeadHook1
import HandS.HeadHook2
import HandS.HeadHook3
import HandS.HeadHook4
import PySem.Challenge.RW_signsdecided_k41_division_and_divisors
set_option Elab.async false
set_option linter.all false
set_option maxRecDepth 100000
set_option maxHeartbeats 0
/-! ML: pure values over the abstract heap: what a program of tuples, lists and numbers computes, as a function. -/
namespace ML
open PySem L2

/-- a pure value -/
inductive MV where
  | non | bl (b : Bool) | int (i : Int) | str (s : Str) | tup (xs : List MV) | lst (xs : List MV) | scr (xs : List MV)

mutual
/-- the value x stands for m, by what is frozen -/
def RepV (K : PySem.W.Frag) (F : Hp) : MV → V → Prop
  | .non, x => x = .non
  | .bl b, x => x = .bl b
  | .int i, x => x = .int i
  | .str s, x => x = .str s
  | .tup ms, x => ∃ a xs, x = .ref a ∧ SqT K F a xs ∧ RepVs K F ms xs
  | .lst ms, x => ∃ a xs, x = .ref a ∧ F a = some (.lst xs) ∧ RepVs K F ms xs
  | .scr ms, x => ∃ a xs, x = .ref a ∧ SqL K F a xs ∧ RepVs K F ms xs
def RepVs (K : PySem.W.Frag) (F : Hp) : List MV → List V → Prop
  | [], xs => xs = []
  | m :: ms, xs => ∃ x r, xs = x :: r ∧ RepV K F m x ∧ RepVs K F ms r
end

section
variable {K : PySem.W.Frag} {F F' H H' : Hp}
theorem Same.sqT {a : Addr} {xs : List V} (e : Same F F') (h : SqT K F a xs) : SqT K F' a xs := by
  rcases h with (h | ⟨o, h⟩) | h
  · exact .inl (.inl (e _ _ h))
  · exact .inl (.inr ⟨o, e _ _ h⟩)
  · exact .inr h
mutual
theorem RepV.mono (e : Same F F') : ∀ (m : MV) (x : V), RepV K F m x → RepV K F' m x
  | .non, x, h => h
  | .bl _, x, h => h
  | .int _, x, h => h
  | .str _, x, h => h
  | .tup ms, x, h => by
    simp only [RepV] at h ⊢
    obtain ⟨a, xs, e1, q, r⟩ := h
    exact ⟨a, xs, e1, Same.sqT e q, RepVs.mono e ms xs r⟩
  | .lst ms, x, h => by
    simp only [RepV] at h ⊢
    obtain ⟨a, xs, e1, q, r⟩ := h
    exact ⟨a, xs, e1, e _ _ q, RepVs.mono e ms xs r⟩
  | .scr ms, x, h => by
    simp only [RepV] at h ⊢
    obtain ⟨a, xs, e1, q, r⟩ := h
    exact ⟨a, xs, e1, e.seq q, RepVs.mono e ms xs r⟩
theorem RepVs.mono (e : Same F F') : ∀ (ms : List MV) (xs : List V), RepVs K F ms xs → RepVs K F' ms xs
  | [], xs, h => h
  | m :: ms, xs, h => by
    simp only [RepVs] at h ⊢
    obtain ⟨x, r, e1, q, rr⟩ := h
    exact ⟨x, r, e1, RepV.mono e m x q, RepVs.mono e ms r rr⟩
end
theorem RepVs.nil_iff {xs : List V} : RepVs K F [] xs ↔ xs = [] := by simp only [RepVs]
theorem RepVs.cons {m : MV} {ms : List MV} {x : V} {xs : List V} (h : RepV K F m x) (hs : RepVs K F ms xs) : RepVs K F (m :: ms) (x :: xs) := by
  simp only [RepVs]
  exact ⟨x, xs, rfl, h, hs⟩
theorem RepVs.nil : RepVs K F [] [] := by simp only [RepVs]
theorem RepVs.inv {m : MV} {ms : List MV} {xs : List V} (h : RepVs K F (m :: ms) xs) : ∃ x r, xs = x :: r ∧ RepV K F m x ∧ RepVs K F ms r := by
  simpa only [RepVs] using h
theorem RepVs.length : ∀ {ms : List MV} {xs : List V}, RepVs K F ms xs → xs.length = ms.length
  | [], xs, h => by
    simp only [RepVs] at h
    subst h
    rfl
  | m :: ms, xs, h => by
    obtain ⟨x, r, e, _, q⟩ := h.inv
    subst e
    simp only [List.length_cons, q.length]
theorem RepVs.get : ∀ {ms : List MV} {xs : List V} {i : Nat} {m : MV}, RepVs K F ms xs → ms[i]? = some m → ∃ x, xs[i]? = some x ∧ RepV K F m x
  | [], xs, i, m, h, e => by simp at e
  | m' :: ms, xs, 0, m, h, e => by
    obtain ⟨x, r, e1, p, q⟩ := h.inv
    subst e1
    simp at e
    subst e
    exact ⟨x, rfl, p⟩
  | m' :: ms, xs, i + 1, m, h, e => by
    obtain ⟨x, r, e1, p, q⟩ := h.inv
    subst e1
    simp at e ⊢
    exact q.get e
theorem RepVs.append : ∀ {ms ns : List MV} {xs ys : List V}, RepVs K F ms xs → RepVs K F ns ys → RepVs K F (ms ++ ns) (xs ++ ys)
  | [], ns, xs, ys, h, q => by
    simp only [RepVs] at h
    subst h
    exact q
  | m :: ms, ns, xs, ys, h, q => by
    obtain ⟨x, r, e1, p, t⟩ := h.inv
    subst e1
    exact RepVs.cons p (t.append q)
theorem RepVs.set : ∀ {ms : List MV} {xs : List V} {m : MV} {x : V} (i : Nat), RepVs K F ms xs → RepV K F m x → RepVs K F (ms.set i m) (xs.set i x)
  | [], xs, m, x, i, h, p => by
    simp only [RepVs] at h
    subst h
    exact RepVs.nil
  | m' :: ms, xs, m, x, 0, h, p => by
    obtain ⟨y, r, e1, _, t⟩ := h.inv
    subst e1
    exact RepVs.cons p t
  | m' :: ms, xs, m, x, i + 1, h, p => by
    obtain ⟨y, r, e1, q, t⟩ := h.inv
    subst e1
    exact RepVs.cons q (t.set i p)
theorem RepVs.take : ∀ {ms : List MV} {xs : List V} (n : Nat), RepVs K F ms xs → RepVs K F (ms.take n) (xs.take n)
  | ms, xs, 0, h => by simp only [List.take_zero]; exact RepVs.nil
  | [], xs, n + 1, h => by
    simp only [RepVs] at h
    subst h
    exact RepVs.nil
  | m :: ms, xs, n + 1, h => by
    obtain ⟨y, r, e1, q, t⟩ := h.inv
    subst e1
    exact RepVs.cons q (t.take n)
theorem RepVs.drop : ∀ {ms : List MV} {xs : List V} (n : Nat), RepVs K F ms xs → RepVs K F (ms.drop n) (xs.drop n)
  | ms, xs, 0, h => h
  | [], xs, n + 1, h => by
    simp only [RepVs] at h
    subst h
    exact RepVs.nil
  | m :: ms, xs, n + 1, h => by
    obtain ⟨y, r, e1, q, t⟩ := h.inv
    subst e1
    exact t.drop n
theorem RepVs.reverse : ∀ {ms : List MV} {xs : List V}, RepVs K F ms xs → RepVs K F ms.reverse xs.reverse
  | [], xs, h => by
    simp only [RepVs] at h
    subst h
    exact RepVs.nil
  | m :: ms, xs, h => by
    obtain ⟨y, r, e1, q, t⟩ := h.inv
    subst e1
    rw [List.reverse_cons, List.reverse_cons]
    exact t.reverse.append (RepVs.cons q RepVs.nil)
theorem RepVs.dropLast : ∀ {ms : List MV} {xs : List V}, RepVs K F ms xs → RepVs K F ms.dropLast xs.dropLast := fun {ms xs} h => by
  rw [List.dropLast_eq_take, List.dropLast_eq_take, h.length]
  exact h.take _
theorem RepVs.rep {ms : List MV} {xs : List V} (h : RepVs K F ms xs) : ∀ k : Nat, RepVs K F (List.replicate k ms).flatten (List.replicate k xs).flatten
  | 0 => RepVs.nil
  | k + 1 => by
    rw [List.replicate_succ, List.replicate_succ, List.flatten_cons, List.flatten_cons]
    exact h.append (RepVs.rep h k)
end

/-- what a name holds: nothing known, a value, a list of its own that no one else holds (the flag: a parameter that the caller keeps) -/
inductive Sl where
  | no | val (m : MV) | own (q : Bool) (ms : List MV)
abbrev MEnv := List Sl

/-- what was at the entry: frozen, tracked; the lists of the caller's that may be written, by slot -/
structure Ctx where
  F0 : Hp
  H0 : Hp
  pin : Nat → Option Addr

/-- whose list it is: the caller's (pinned), or made here -/
def Mine (C : Ctx) (i : Nat) (a : Addr) : Bool → Prop
  | true => C.pin i = some a
  | false => C.H0 a = none
structure Rel (K : PySem.W.Frag) (C : Ctx) (F H : Hp) (σ : St) (ρ : MEnv) : Prop where
  len : σ.length = ρ.length
  frz : Same F H
  base : ∀ a o, (∀ i, C.pin i ≠ some a) → C.H0 a = some o → H a = some o
  dom : ∀ a, H a = none → C.H0 a = none
  new : ∀ a, F a ≠ none → C.F0 a ≠ none ∨ C.H0 a = none
  ext : Same C.F0 F
  pins : ∀ i a, C.pin i = some a → C.H0 a ≠ none
  val : ∀ (i : Nat) m, ρ[i]? = some (Sl.val m) → ∃ x, σ[i]? = some (some x) ∧ RepV K F m x
  own : ∀ (i : Nat) q ms, ρ[i]? = some (Sl.own q ms) → ∃ a xs, σ[i]? = some (some (.ref a)) ∧ H a = some (.lst xs) ∧ F a = none ∧ RepVs K F ms xs ∧ Mine C i a q
  dist : ∀ (i j : Nat) a q ms q' ns, ρ[i]? = some (Sl.own q ms) → ρ[j]? = some (Sl.own q' ns) → σ[i]? = some (some (.ref a)) → σ[j]? = some (some (.ref a)) → i = j

theorem set_get {α : Type} {l : List α} {i j : Nat} {x y : α} (h : (l.set i x)[j]? = some y) : (i = j ∧ i < l.length ∧ y = x) ∨ (i ≠ j ∧ l[j]? = some y) := by
  by_cases e : i = j
  · subst e
    by_cases hl : i < l.length
    · rw [List.getElem?_set_self hl] at h
      exact .inl ⟨rfl, hl, (Option.some.inj h).symm⟩
    · rw [List.getElem?_eq_none (by simpa using hl)] at h
      cases h
  · rw [List.getElem?_set_ne e] at h
    exact .inr ⟨e, h⟩

section
variable {K : PySem.W.Frag} {C : Ctx} {F H : Hp} {σ : St} {ρ : MEnv}
theorem Rel.fF (R : Rel K C F H σ ρ) {p : Addr} (hp : H p = none) : F p = none := R.frz.free hp
theorem Rel.sF (R : Rel K C F H σ ρ) {p : Addr} {o : HO} (hp : H p = none) : Same F (upd F p o) := fun b u e => by
  rw [upd_ne (ne_of_none e (R.fF hp))]
  exact e
/-- a new object, frozen at once -/
theorem Rel.allocF (R : Rel K C F H σ ρ) {p : Addr} {o : HO} (hp : H p = none) : Rel K C (upd F p o) (upd H p o) σ ρ := by
  have sF := R.sF (o := o) hp
  refine ⟨R.len, fun b u e => ?_, fun a u nm e => ?_, fun a e => ?_, fun a e => ?_, R.ext.trans sF, R.pins, fun i m e => ?_, fun i q ms e => ?_, R.dist⟩
  · by_cases hb : b = p
    · subst hb
      rw [upd_same] at e ⊢
      exact e
    · rw [upd_ne hb] at e ⊢
      exact R.frz _ _ e
  · have h := R.base a u nm e
    rw [upd_ne (ne_of_none h hp)]
    exact h
  · by_cases hb : a = p
    · subst hb
      rw [upd_same] at e
      cases e
    · rw [upd_ne hb] at e
      exact R.dom a e
  · by_cases hb : a = p
    · subst hb
      exact .inr (R.dom a hp)
    · rw [upd_ne hb] at e
      exact R.new a e
  · obtain ⟨x, h1, h2⟩ := R.val i m e
    exact ⟨x, h1, RepV.mono sF _ _ h2⟩
  · obtain ⟨a, xs, h1, h2, h3, h4, h5⟩ := R.own i q ms e
    have hne : a ≠ p := ne_of_none h2 hp
    exact ⟨a, xs, h1, by rw [upd_ne hne]; exact h2, by rw [upd_ne hne]; exact h3, RepVs.mono sF _ _ h4, h5⟩
/-- a new object that is not frozen -/
theorem Rel.alloc (R : Rel K C F H σ ρ) {p : Addr} {o : HO} (hp : H p = none) : Rel K C F (upd H p o) σ ρ := by
  refine ⟨R.len, fun b u e => ?_, fun a u nm e => ?_, fun a e => ?_, R.new, R.ext, R.pins, R.val, fun i q ms e => ?_, R.dist⟩
  · have h := R.frz b u e
    rw [upd_ne (ne_of_none h hp)]
    exact h
  · have h := R.base a u nm e
    rw [upd_ne (ne_of_none h hp)]
    exact h
  · by_cases hb : a = p
    · subst hb
      rw [upd_same] at e
      cases e
    · rw [upd_ne hb] at e
      exact R.dom a e
  · obtain ⟨a, xs, h1, h2, h3, h4, h5⟩ := R.own i q ms e
    exact ⟨a, xs, h1, by rw [upd_ne (ne_of_none h2 hp)]; exact h2, h3, h4, h5⟩
/-- a name gets a value -/
theorem Rel.setV (R : Rel K C F H σ ρ) {i : Nat} {m : MV} {x : V} (r : RepV K F m x) : Rel K C F H (σ.set i (some x)) (ρ.set i (Sl.val m)) := by
  refine ⟨by simp [R.len], R.frz, R.base, R.dom, R.new, R.ext, R.pins, fun j n e => ?_, fun j q ns e => ?_, fun j k a q ns q' ks e1 e2 e3 e4 => ?_⟩
  · rcases set_get e with ⟨rfl, hl, z⟩ | ⟨h, e⟩
    · cases z
      exact ⟨x, by rw [List.getElem?_set_self (by rw [R.len]; exact hl)], r⟩
    · rw [List.getElem?_set_ne h]
      exact R.val j n e
  · rcases set_get e with ⟨rfl, hl, z⟩ | ⟨h, e⟩
    · cases z
    · rw [List.getElem?_set_ne h]
      exact R.own j q ns e
  · rcases set_get e1 with ⟨rfl, hl, z⟩ | ⟨h1, f1⟩
    · cases z
    rcases set_get e2 with ⟨rfl, hl, z⟩ | ⟨h2, f2⟩
    · cases z
    rw [List.getElem?_set_ne h1] at e3
    rw [List.getElem?_set_ne h2] at e4
    exact R.dist j k a q ns q' ks f1 f2 e3 e4
/-- a name is forgotten -/
theorem Rel.setN (R : Rel K C F H σ ρ) {i : Nat} {o : Option V} : Rel K C F H (σ.set i o) (ρ.set i Sl.no) := by
  refine ⟨by simp [R.len], R.frz, R.base, R.dom, R.new, R.ext, R.pins, fun j n e => ?_, fun j q ns e => ?_, fun j k a q ns q' ks e1 e2 e3 e4 => ?_⟩
  · rcases set_get e with ⟨rfl, hl, z⟩ | ⟨h, e⟩
    · cases z
    · rw [List.getElem?_set_ne h]
      exact R.val j n e
  · rcases set_get e with ⟨rfl, hl, z⟩ | ⟨h, e⟩
    · cases z
    · rw [List.getElem?_set_ne h]
      exact R.own j q ns e
  · rcases set_get e1 with ⟨rfl, hl, z⟩ | ⟨h1, f1⟩
    · cases z
    rcases set_get e2 with ⟨rfl, hl, z⟩ | ⟨h2, f2⟩
    · cases z
    rw [List.getElem?_set_ne h1] at e3
    rw [List.getElem?_set_ne h2] at e4
    exact R.dist j k a q ns q' ks f1 f2 e3 e4
/-- a name gets a list of its own: p is new here, and no other name holds it -/
theorem Rel.setO (R : Rel K C F H σ ρ) {i : Nat} {ms : List MV} {p : Addr} {xs : List V} (hp : H p = some (.lst xs)) (fp : F p = none) (r : RepVs K F ms xs) (h0 : C.H0 p = none)
    (ho : ∀ (j : Nat) q ns, ρ[j]? = some (Sl.own q ns) → σ[j]? ≠ some (some (V.ref p))) : Rel K C F H (σ.set i (some (.ref p))) (ρ.set i (Sl.own false ms)) := by
  refine ⟨by simp [R.len], R.frz, R.base, R.dom, R.new, R.ext, R.pins, fun j n e => ?_, fun j q ns e => ?_, fun j k a q ns q' ks e1 e2 e3 e4 => ?_⟩
  · rcases set_get e with ⟨rfl, hl, z⟩ | ⟨h, e⟩
    · cases z
    · rw [List.getElem?_set_ne h]
      exact R.val j n e
  · rcases set_get e with ⟨rfl, hl, z⟩ | ⟨h, e⟩
    · cases z
      exact ⟨p, xs, by rw [List.getElem?_set_self (by rw [R.len]; exact hl)], hp, fp, r, h0⟩
    · rw [List.getElem?_set_ne h]
      exact R.own j q ns e
  · rcases set_get e1 with ⟨rfl, hl, z⟩ | ⟨h1, f1⟩
    · rcases set_get e2 with ⟨rfl, _, _⟩ | ⟨h2, f2⟩
      · rfl
      · exfalso
        rw [List.getElem?_set_self (by rw [R.len]; exact hl)] at e3
        rw [List.getElem?_set_ne h2] at e4
        cases e3
        exact ho k q' ks f2 e4
    · rw [List.getElem?_set_ne h1] at e3
      rcases set_get e2 with ⟨rfl, hl, _⟩ | ⟨h2, f2⟩
      · exfalso
        rw [List.getElem?_set_self (by rw [R.len]; exact hl)] at e4
        cases e4
        exact ho j q ns f1 e3
      · rw [List.getElem?_set_ne h2] at e4
        exact R.dist j k a q ns q' ks f1 f2 e3 e4
/-- the list of a name of its own is changed -/
theorem Rel.write (R : Rel K C F H σ ρ) {i : Nat} {q : Bool} {ms ns : List MV} {p : Addr} {ys : List V} (e : ρ[i]? = some (Sl.own q ms)) (es : σ[i]? = some (some (.ref p))) (r : RepVs K F ns ys) :
    Rel K C F (upd H p (.lst ys)) σ (ρ.set i (Sl.own q ns)) := by
  obtain ⟨a, xs, h1, h2, h3, h4, h5⟩ := R.own i q ms e
  rw [es] at h1
  cases h1
  have hl : i < ρ.length := (List.getElem?_eq_some_iff.mp e).1
  refine ⟨by simp [R.len], fun b u z => ?_, fun b u nm z => ?_, fun b z => ?_, R.new, R.ext, R.pins, fun j n z => ?_, fun j q' ks z => ?_, fun j k a q1 ks q2 ls e1 e2 e3 e4 => ?_⟩
  · have h := R.frz b u z
    rw [upd_ne (ne_of_none z h3)]
    exact h
  · have h := R.base b u nm z
    by_cases hb : b = p
    · subst hb
      cases q with
      | true => exact absurd h5 (nm i)
      | false =>
        have h6 : C.H0 b = none := h5
        rw [z] at h6
        cases h6
    · rw [upd_ne hb]
      exact h
  · by_cases hb : b = p
    · subst hb
      rw [upd_same] at z
      cases z
    · rw [upd_ne hb] at z
      exact R.dom b z
  · rcases set_get z with ⟨rfl, _, y⟩ | ⟨h, z⟩
    · cases y
    · exact R.val j n z
  · rcases set_get z with ⟨rfl, _, y⟩ | ⟨h, z⟩
    · cases y
      exact ⟨p, ys, es, upd_same, h3, r, h5⟩
    · obtain ⟨a, zs, g1, g2, g3, g4, g5⟩ := R.own j q' ks z
      have hne : a ≠ p := fun y => by
        subst y
        exact h (R.dist i j a q ms q' ks e z es g1)
      exact ⟨a, zs, g1, by rw [upd_ne hne]; exact g2, g3, g4, g5⟩
  · have key : ∀ (j : Nat) q' ks, (ρ.set i (Sl.own q ns))[j]? = some (Sl.own q' ks) → ∃ q'' ks', ρ[j]? = some (Sl.own q'' ks') := fun j q' ks z => by
      rcases set_get z with ⟨rfl, _, _⟩ | ⟨h, z⟩
      · exact ⟨_, _, e⟩
      · exact ⟨_, _, z⟩
    obtain ⟨_, _, f1⟩ := key j q1 ks e1
    obtain ⟨_, _, f2⟩ := key k q2 ls e2
    exact R.dist j k a _ _ _ _ f1 f2 e3 e4
/-- the list of a name is frozen: it is a value from now on -/
theorem Rel.freeze (R : Rel K C F H σ ρ) {i : Nat} {ms : List MV} (e : ρ[i]? = some (Sl.own false ms)) :
    ∃ p xs, σ[i]? = some (some (.ref p)) ∧ Rel K C (upd F p (.lst xs)) H σ (ρ.set i (Sl.val (.lst ms))) ∧ RepV K (upd F p (.lst xs)) (.lst ms) (.ref p) ∧ Same F (upd F p (.lst xs)) := by
  obtain ⟨p, xs, es, hp, h3, h4, h5⟩ := R.own i false ms e
  have hl : i < ρ.length := (List.getElem?_eq_some_iff.mp e).1
  have sF : Same F (upd F p (.lst xs)) := fun b u z => by rw [upd_ne (ne_of_none z h3)]; exact z
  have rv : RepV K (upd F p (.lst xs)) (.lst ms) (.ref p) := by
    simp only [RepV]
    exact ⟨p, xs, rfl, upd_same, RepVs.mono sF _ _ h4⟩
  refine ⟨p, xs, es, ⟨by simp [R.len], fun b u z => ?_, R.base, R.dom, fun b z => ?_, R.ext.trans sF, R.pins, fun j n z => ?_, fun j q ks z => ?_, fun j k a q ks q' ls e1 e2 e3 e4 => ?_⟩, rv, sF⟩
  · by_cases hb : b = p
    · subst hb
      rw [upd_same] at z
      cases z
      exact hp
    · rw [upd_ne hb] at z
      exact R.frz b u z
  · by_cases hb : b = p
    · subst hb
      exact .inr h5
    · rw [upd_ne hb] at z
      exact R.new b z
  · rcases set_get z with ⟨rfl, _, y⟩ | ⟨h, z⟩
    · cases y
      exact ⟨_, es, rv⟩
    · obtain ⟨x, g1, g2⟩ := R.val j n z
      exact ⟨x, g1, RepV.mono sF _ _ g2⟩
  · rcases set_get z with ⟨rfl, _, y⟩ | ⟨h, z⟩
    · cases y
    · obtain ⟨a, zs, g1, g2, g3, g4, g5⟩ := R.own j q ks z
      have hne : a ≠ p := fun y => by
        subst y
        exact h (R.dist i j a _ _ _ _ e z es g1)
      exact ⟨a, zs, g1, g2, by rw [upd_ne hne]; exact g3, RepVs.mono sF _ _ g4, g5⟩
  · rcases set_get e1 with ⟨rfl, _, y⟩ | ⟨_, f1⟩
    · cases y
    rcases set_get e2 with ⟨rfl, _, y⟩ | ⟨_, f2⟩
    · cases y
    exact R.dist j k a _ _ _ _ f1 f2 e3 e4
/-- a new list stands apart from the lists of all names -/
theorem Rel.apart (R : Rel K C F H σ ρ) {p : Addr} (hp : H p = none) : ∀ (j : Nat) q ns, ρ[j]? = some (Sl.own q ns) → σ[j]? ≠ some (some (V.ref p)) := fun j q ns e z => by
  obtain ⟨a, xs, h1, h2, _⟩ := R.own j q ns e
  rw [z] at h1
  cases h1
  rw [hp] at h2
  cases h2
/-- a list that no name holds yet is kept through what comes next -/
def Ctx.shield (C : Ctx) (p : Addr) (o : HO) : Ctx := { C with H0 := upd C.H0 p o }
theorem Rel.shield (R : Rel K C F H σ ρ) {p : Addr} {o : HO} (hp : H p = some o) (fp : F p = none) (h0 : C.H0 p = none) (ho : ∀ (j : Nat) q ns, ρ[j]? = some (Sl.own q ns) → σ[j]? ≠ some (some (V.ref p))) : Rel K (C.shield p o) F H σ ρ := by
  refine ⟨R.len, R.frz, fun a u nm e => ?_, fun a e => ?_, fun a e => ?_, R.ext, fun i a e => ?_, R.val, fun j q ns e => ?_, R.dist⟩
  · by_cases hb : a = p
    · subst hb
      have e' : upd C.H0 a o a = some u := e
      rw [upd_same] at e'
      rw [← e']
      exact hp
    · have e' : upd C.H0 p o a = some u := e
      rw [upd_ne hb] at e'
      exact R.base a u nm e'
  · show upd C.H0 p o a = none
    rw [upd_ne (Ne.symm (ne_of_none hp e))]
    exact R.dom a e
  · have hb : a ≠ p := fun z => by
      subst z
      exact e fp
    show C.F0 a ≠ none ∨ upd C.H0 p o a = none
    rw [upd_ne hb]
    exact R.new a e
  · have h := R.pins i a e
    show upd C.H0 p o a ≠ none
    rw [upd_ne (fun z => by subst z; exact h h0)]
    exact h
  · obtain ⟨a, xs, h1, h2, h3, h4, h5⟩ := R.own j q ns e
    refine ⟨a, xs, h1, h2, h3, h4, ?_⟩
    cases q with
    | true => exact h5
    | false =>
      show upd C.H0 p o a = none
      rw [upd_ne (fun z => by subst z; exact ho j _ ns e h1)]
      exact h5
theorem Rel.unshield {p : Addr} {o : HO} (R : Rel K (C.shield p o) F H σ ρ) (h0 : C.H0 p = none) (hn : ∀ i, C.pin i ≠ some p) (hf : C.F0 p = none) :
    Rel K C F H σ ρ ∧ H p = some o ∧ F p = none ∧ ∀ (j : Nat) q ns, ρ[j]? = some (Sl.own q ns) → σ[j]? ≠ some (some (V.ref p)) := by
  have sub : ∀ a u, C.H0 a = some u → upd C.H0 p o a = some u := fun a u e => by rw [upd_ne (ne_of_none e h0)]; exact e
  have non : ∀ a, upd C.H0 p o a = none → a ≠ p ∧ C.H0 a = none := fun a e => by
    have hb : a ≠ p := fun z => by
      subst z
      rw [upd_same] at e
      cases e
    rw [upd_ne hb] at e
    exact ⟨hb, e⟩
  refine ⟨⟨R.len, R.frz, fun a u nm e => R.base a u nm (sub a u e), fun a e => (non a (R.dom a e)).2, fun a e => (R.new a e).imp id fun z => (non a z).2, R.ext, fun i a e => ?_, R.val, fun j q ns e => ?_, R.dist⟩, R.base p o hn upd_same, ?_, fun j q ns e z => ?_⟩
  · have h : upd C.H0 p o a ≠ none := R.pins i a e
    rwa [upd_ne (fun z => by subst z; exact hn i e)] at h
  · obtain ⟨a, xs, h1, h2, h3, h4, h5⟩ := R.own j q ns e
    refine ⟨a, xs, h1, h2, h3, h4, ?_⟩
    cases q with
    | true => exact h5
    | false => exact (non a h5).2
  · cases q : F p with
    | none => rfl
    | some u =>
      rcases R.new p (by rw [q]; exact fun z => nomatch z) with z | z
      · exact absurd hf z
      · exact absurd rfl (non p z).1
  · obtain ⟨a, xs, h1, h2, h3, h4, h5⟩ := R.own j q ns e
    rw [z] at h1
    cases h1
    cases q with
    | true => exact hn j h5
    | false => exact (non p h5).1 rfl
end
end ML
namespace ML
open PySem L2

abbrev DE := MEnv → Option (MV × MEnv)
abbrev DT := MEnv → Option (Bool × MEnv)
abbrev DA := MEnv → Option (List MV × MEnv)

/-- an expression's reading by pure values -/
def TM (K : PySem.W.Frag) (d : DE) : TE := fun σ H Q => ∃ C F ρ m ρ', Rel K C F H σ ρ ∧ d ρ = some (m, ρ') ∧ ∀ x F' H', Rel K C F' H' σ ρ' → Same F F' → RepV K F' m x → Q x H'
def TMT (K : PySem.W.Frag) (d : DT) : TT := fun σ H Q => ∃ C F ρ b ρ', Rel K C F H σ ρ ∧ d ρ = some (b, ρ') ∧ ∀ F' H', Rel K C F' H' σ ρ' → Same F F' → Q b H'
def TMA (K : PySem.W.Frag) (d : DA) : TA := fun σ H Q => ∃ C F ρ ms ρ', Rel K C F H σ ρ ∧ d ρ = some (ms, ρ') ∧ ∀ xs F' H', Rel K C F' H' σ ρ' → Same F F' → RepVs K F' ms xs → Q xs H'
/-- .. whose value is a new list that no one holds -/
def TMO (K : PySem.W.Frag) (d : DA) : TE := fun σ H Q => ∃ C F ρ ms ρ', Rel K C F H σ ρ ∧ d ρ = some (ms, ρ') ∧
  ∀ p xs F' H', Rel K C F' H' σ ρ' → Same F F' → H' p = some (.lst xs) → F' p = none → C.H0 p = none → (∀ (j : Nat) q ns, ρ'[j]? = some (Sl.own q ns) → σ[j]? ≠ some (some (V.ref p))) → RepVs K F' ms xs → Q (.ref p) H'

abbrev PEM (X : Cx) (e : Expr) (d : DE) : Prop := PE X e (TM X.K d)
abbrev PTM (X : Cx) (e : Expr) (d : DT) : Prop := PT X e (TMT X.K d)
abbrev PWM (X : Cx) (e : Expr) (d : DT) : Prop := PW X e (TMT X.K d)
abbrev PAM (X : Cx) (es : List Expr) (d : DA) : Prop := PA X es (TMA X.K d)
abbrev PEO (X : Cx) (e : Expr) (d : DA) : Prop := PE X e (TMO X.K d)

theorem PE.imp {X : Cx} {e : Expr} {t t' : TE} (h : PE X e t) (i : ∀ σ H Q, t' σ H Q → t σ H Q) : PE X e t' := ⟨fun pins s σ H Q I hw => h.run pins s σ H Q I (i σ H Q hw)⟩
theorem PT.imp {X : Cx} {e : Expr} {t t' : TT} (h : PT X e t) (i : ∀ σ H Q, t' σ H Q → t σ H Q) : PT X e t' := ⟨fun pins s σ H Q I hw => h.run pins s σ H Q I (i σ H Q hw)⟩
theorem PW.imp {X : Cx} {e : Expr} {t t' : TT} (h : PW X e t) (i : ∀ σ H Q, t' σ H Q → t σ H Q) : PW X e t' := ⟨fun w pins s σ H Q I hw => h.run w pins s σ H Q I (i σ H Q hw)⟩
theorem PA.imp {X : Cx} {es : List Expr} {t t' : TA} (h : PA X es t) (i : ∀ σ H Q, t' σ H Q → t σ H Q) : PA X es t' := ⟨fun pos pins s σ H Q I hw => h.run pos pins s σ H Q I (i σ H Q hw)⟩

/-! ### what is computed -/
/-- a name as a value: a list of its own is frozen -/
def dVar (i : Nat) : DE := fun ρ => match ρ[i]? with
  | some (.val m) => some (m, ρ)
  | some (.own false ms) => some (.lst ms, ρ.set i (.val (.lst ms)))
  | _ => none
def dC (m : MV) : DE := fun ρ => some (m, ρ)
def d1 (f : MV → Option MV) (da : DE) : DE := fun ρ => (da ρ).bind fun p => (f p.1).bind fun m => some (m, p.2)
def d2 (f : MV → MV → Option MV) (da db : DE) : DE := fun ρ => (da ρ).bind fun p => (db p.2).bind fun q => (f p.1 q.1).bind fun m => some (m, q.2)
/-- a test by a value -/
def dT (f : MV → Option Bool) (da : DE) : DT := fun ρ => (da ρ).bind fun p => (f p.1).bind fun b => some (b, p.2)
def dB (t : DT) : DE := fun ρ => (t ρ).bind fun p => some (.bl p.1, p.2)
def dNot (t : DT) : DT := fun ρ => (t ρ).bind fun p => some (!p.1, p.2)
def dAnd (t u : DT) : DT := fun ρ => (t ρ).bind fun p => if p.1 then u p.2 else some (false, p.2)
def dOr (t u : DT) : DT := fun ρ => (t ρ).bind fun p => if p.1 then some (true, p.2) else u p.2
def dIf {α : Type} (t : DT) (a b : MEnv → Option α) : MEnv → Option α := fun ρ => (t ρ).bind fun p => if p.1 then a p.2 else b p.2
def dNil : DA := fun ρ => some ([], ρ)
def dCons (da : DE) (ds : DA) : DA := fun ρ => (da ρ).bind fun p => (ds p.2).bind fun q => some (p.1 :: q.1, q.2)
/-- the items of a list or a tuple -/
def seqM : MV → Option (List MV)
  | .tup ms => some ms
  | .lst ms => some ms
  | .scr ms => some ms
  | _ => none
def dStar (da : DE) (ds : DA) : DA := fun ρ => (da ρ).bind fun p => (seqM p.1).bind fun ms => (ds p.2).bind fun q => some (ms ++ q.1, q.2)
def lenOk (n : Nat) : Bool := decide (n ≤ sizeLine)
def dTup (ds : DA) : DE := fun ρ => (ds ρ).bind fun p => if lenOk p.1.length then some (.tup p.1, p.2) else none
def dLst (ds : DA) : DA := fun ρ => (ds ρ).bind fun p => if lenOk p.1.length then some p else none
def dFrz (ds : DA) : DE := fun ρ => (ds ρ).bind fun p => some (.lst p.1, p.2)

def addM : MV → MV → Option MV
  | .int i, .int j => some (.int (i + j))
  | .tup a, .tup b => if lenOk (a.length + b.length) then some (.tup (a ++ b)) else none
  | _, _ => none
def subM : MV → MV → Option MV
  | .int i, .int j => some (.int (i - j))
  | _, _ => none
def mulM : MV → MV → Option MV
  | .int i, .int j => if i.natAbs.log2 + j.natAbs.log2 < 1000000 then some (.int (i * j)) else none
  | _, _ => none
def fdivM : MV → MV → Option MV
  | .int i, .int j => if 0 < j ∧ j.natAbs.log2 < 9000 then some (.int (i / j)) else none
  | _, _ => none
def modM : MV → MV → Option MV
  | .int i, .int j => if 0 < j then some (.int (i % j)) else none
  | _, _ => none
def negM : MV → Option MV
  | .int i => some (.int (-i))
  | _ => none
def cmpM (p : Int → Int → Bool) : MV → MV → Option MV
  | .int i, .int j => some (.bl (p i j))
  | _, _ => none
mutual
def pdM : MV → PyData
  | .non => .none
  | .bl b => .bool b
  | .int i => .int i
  | .str s => .str s
  | .tup ms => .tuple (pdsM ms)
  | .lst ms => .list (pdsM ms)
  | .scr ms => .list (pdsM ms)
def pdsM : List MV → List PyData
  | [] => []
  | m :: ms => pdM m :: pdsM ms
end
def eqM (m n : MV) : Option Bool := if SeqAt.shaped (pdM m) && SeqAt.shaped (pdM n) then some (PyData.eqv (pdM m) (pdM n)) else none
def eqvM (m n : MV) : Option MV := (eqM m n).bind fun b => some (.bl b)
def nevM (m n : MV) : Option MV := (eqM m n).bind fun b => some (.bl (!b))
def truM : MV → Option Bool
  | .non => some false
  | .bl b => some b
  | .int i => some (i != 0)
  | .tup ms => some (!ms.isEmpty)
  | .lst ms => some (!ms.isEmpty)
  | .scr ms => some (!ms.isEmpty)
  | .str _ => none
def blM : MV → Option Bool
  | .bl b => some b
  | _ => none

/-! ### soundness -/
section
variable {X : Cx} {pos : Pos}
theorem pem_var {i : Nat} {x : Str} (h : PE X (.Name x pos) (tVar i)) : PEM X (.Name x pos) (dVar i) := PE.imp h fun σ H Q ⟨C, F, ρ, m, ρ', R, e, k⟩ => by
  unfold dVar at e
  split at e
  · rename_i n hn
    cases e
    obtain ⟨x, h1, h2⟩ := R.val i _ hn
    exact ⟨x, h1, k x F H R (Same.refl F) h2⟩
  · rename_i ms hn
    cases e
    obtain ⟨p, xs, h1, h2, h3, h4⟩ := R.freeze hn
    exact ⟨_, h1, k _ _ H h2 h4 h3⟩
  · cases e
theorem pem_c {e : Expr} {v : V} {m : MV} (h : PE X e (tC v)) (r : ∀ F, RepV X.K F m v) : PEM X e (dC m) := PE.imp h fun σ H Q ⟨C, F, ρ, m', ρ', R, e, k⟩ => by
  cases e
  exact k v F H R (Same.refl F) (r F)
theorem pem_int {i j} : PEM X (.Constant (.int i) j pos) (dC (.int i)) := pem_c pe_int fun F => by simp only [RepV]
theorem pem_bl {b j} : PEM X (.Constant (.bool b) j pos) (dC (.bl b)) := pem_c pe_bl fun F => by simp only [RepV]
theorem pem_non {j} : PEM X (.Constant .none j pos) (dC .non) := pem_c pe_non fun F => by simp only [RepV]
theorem pem_str {x j} : PEM X (.Constant (.str x) j pos) (dC (.str x)) := pem_c pe_str fun F => by simp only [RepV]

def Op1 (K : PySem.W.Frag) (f : MV → Option MV) (r : V → Hp → VK → Prop) : Prop := ∀ C F H σ ρ m1 m x Q, Rel K C F H σ ρ → RepV K F m1 x → f m1 = some m → (∀ z F' H', Rel K C F' H' σ ρ → Same F F' → RepV K F' m z → Q z H') → r x H Q
def Op2 (K : PySem.W.Frag) (f : MV → MV → Option MV) (r : R2) : Prop := ∀ C F H σ ρ m1 m2 m x y Q, Rel K C F H σ ρ → RepV K F m1 x → RepV K F m2 y → f m1 m2 = some m → (∀ z F' H', Rel K C F' H' σ ρ → Same F F' → RepV K F' m z → Q z H') → r x y H Q
theorem Op2.tOp {K : PySem.W.Frag} {f : MV → MV → Option MV} {r : R2} {da db : DE} (o : Op2 K f r) : ∀ σ H Q, TM K (d2 f da db) σ H Q → tOp r (TM K da) (TM K db) σ H Q := fun σ H Q ⟨C, F, ρ, m, ρ', R, e, k⟩ => by
  unfold d2 at e
  obtain ⟨⟨m1, ρ1⟩, e1, e⟩ := Option.bind_eq_some_iff.mp e
  obtain ⟨⟨m2, ρ2⟩, e2, e⟩ := Option.bind_eq_some_iff.mp e
  obtain ⟨m3, e3, e⟩ := Option.bind_eq_some_iff.mp e
  cases e
  exact ⟨C, F, ρ, m1, ρ1, R, e1, fun x F1 H1 R1 s1 r1 => ⟨C, F1, ρ1, m2, ρ2, R1, e2, fun y F2 H2 R2 s2 r2 =>
    o C F2 H2 σ ρ2 m1 m2 m x y Q R2 (RepV.mono s2 _ _ r1) r2 e3 fun z F3 H3 R3 s3 r3 => k z F3 H3 R3 ((s1.trans s2).trans s3) r3⟩⟩
theorem pem_op {op : Operator} {r : R2} {f : MV → MV → Option MV} {a b : Expr} {da db : DE} (o : OpR X (binaryOp op) r) (p : Op2 X.K f r) (ha : PEM X a da) (hb : PEM X b db) : PEM X (.BinOp a op b pos) (d2 f da db) :=
  PE.imp (pe_op o ha hb) p.tOp
theorem pem_un {op : UnaryOp} {r : V → Hp → VK → Prop} {f : MV → Option MV} {a : Expr} {da : DE} (o : UnR X (unaryOp op) r) (p : Op1 X.K f r) (ha : PEM X a da) : PEM X (.UnaryOp op a pos) (d1 f da) :=
  PE.imp (pe_un o ha) fun σ H Q ⟨C, F, ρ, m, ρ', R, e, k⟩ => by
    unfold d1 at e
    obtain ⟨⟨m1, ρ1⟩, e1, e⟩ := Option.bind_eq_some_iff.mp e
    obtain ⟨m3, e3, e⟩ := Option.bind_eq_some_iff.mp e
    cases e
    exact ⟨C, F, ρ, m1, ρ1, R, e1, fun x F1 H1 R1 s1 r1 => p C F1 H1 σ ρ1 m1 m x Q R1 r1 e3 fun z F3 H3 R3 s3 r3 => k z F3 H3 R3 (s1.trans s3) r3⟩

theorem rv_int {K : PySem.W.Frag} {F : Hp} {i : Int} {x : V} (h : RepV K F (.int i) x) : x = .int i := by simpa only [RepV] using h
theorem rv_bl {K : PySem.W.Frag} {F : Hp} {i : Bool} {x : V} (h : RepV K F (.bl i) x) : x = .bl i := by simpa only [RepV] using h
theorem rv_tup {K : PySem.W.Frag} {F : Hp} {ms : List MV} {x : V} (h : RepV K F (.tup ms) x) : ∃ a xs, x = .ref a ∧ SqT K F a xs ∧ RepVs K F ms xs := by simpa only [RepV] using h
theorem rv_lst {K : PySem.W.Frag} {F : Hp} {ms : List MV} {x : V} (h : RepV K F (.lst ms) x) : ∃ a xs, x = .ref a ∧ F a = some (.lst xs) ∧ RepVs K F ms xs := by simpa only [RepV] using h
theorem rv_scr {K : PySem.W.Frag} {F : Hp} {ms : List MV} {x : V} (h : RepV K F (.scr ms) x) : ∃ a xs, x = .ref a ∧ SqL K F a xs ∧ RepVs K F ms xs := by simpa only [RepV] using h
theorem int_rv {K : PySem.W.Frag} {F : Hp} {i : Int} : RepV K F (.int i) (.int i) := by simp only [RepV]
theorem bl_rv {K : PySem.W.Frag} {F : Hp} {i : Bool} : RepV K F (.bl i) (.bl i) := by simp only [RepV]
theorem tup_rv {K : PySem.W.Frag} {F : Hp} {ms : List MV} {a : Addr} {xs : List V} (h : F a = some (.tup xs)) (r : RepVs K F ms xs) : RepV K F (.tup ms) (.ref a) := by
  simp only [RepV]
  exact ⟨a, xs, rfl, SqT.of h, r⟩
theorem lst_rv {K : PySem.W.Frag} {F : Hp} {ms : List MV} {a : Addr} {xs : List V} (h : F a = some (.lst xs)) (r : RepVs K F ms xs) : RepV K F (.lst ms) (.ref a) := by
  simp only [RepV]
  exact ⟨a, xs, rfl, h, r⟩
theorem lenOk_le {n : Nat} (h : lenOk n = true) : n ≤ sizeLine := of_decide_eq_true h

theorem o2_sub : Op2 X.K subM (rI0 fun i j => .int (i - j)) := fun C F H σ ρ m1 m2 m x y Q R r1 r2 e k => by
  unfold subM at e
  split at e
  · cases e
    exact ⟨_, _, rv_int r1, rv_int r2, k _ F H R (Same.refl F) int_rv⟩
  · cases e
theorem o2_mul : Op2 X.K mulM (rI CMulW fun i j => .int (i * j)) := fun C F H σ ρ m1 m2 m x y Q R r1 r2 e k => by
  unfold mulM at e
  split at e
  · split at e
    · rename_i hc
      cases e
      exact ⟨_, _, rv_int r1, rv_int r2, hc, k _ F H R (Same.refl F) int_rv⟩
    · cases e
  · cases e
theorem o2_fdiv : Op2 X.K fdivM (rI CDivW fun i j => .int (i / j)) := fun C F H σ ρ m1 m2 m x y Q R r1 r2 e k => by
  unfold fdivM at e
  split at e
  · split at e
    · rename_i hc
      cases e
      exact ⟨_, _, rv_int r1, rv_int r2, hc, k _ F H R (Same.refl F) int_rv⟩
    · cases e
  · cases e
theorem o2_mod : Op2 X.K modM (rI (fun _ j => 0 < j) fun i j => .int (i % j)) := fun C F H σ ρ m1 m2 m x y Q R r1 r2 e k => by
  unfold modM at e
  split at e
  · split at e
    · rename_i hc
      cases e
      exact ⟨_, _, rv_int r1, rv_int r2, hc, k _ F H R (Same.refl F) int_rv⟩
    · cases e
  · cases e
theorem o2_add : Op2 X.K addM (fun x y H Q => (rI0 fun i j => .int (i + j)) x y H Q ∨ rCatA X.K x y H Q) := fun C F H σ ρ m1 m2 m x y Q R r1 r2 e k => by
  unfold addM at e
  split at e
  · cases e
    exact .inl ⟨_, _, rv_int r1, rv_int r2, k _ F H R (Same.refl F) int_rv⟩
  · split at e
    · rename_i a b hc
      cases e
      obtain ⟨p, xs, rfl, q1, v1⟩ := rv_tup r1
      obtain ⟨q, ys, rfl, q2, v2⟩ := rv_tup r2
      refine .inr ⟨p, q, xs, ys, rfl, rfl, Same.sqT R.frz q1, Same.sqT R.frz q2, by rw [v1.length, v2.length]; exact lenOk_le hc, fun e1 => ?_, fun _ e1 => ?_, fun _ _ z hz => ?_⟩
      · subst e1
        have : a = [] := List.length_eq_zero_iff.mp v1.length.symm
        subst this
        exact k _ F H R (Same.refl F) r2
      · subst e1
        have : b = [] := List.length_eq_zero_iff.mp v2.length.symm
        subst this
        rw [List.append_nil] at k
        exact k _ F H R (Same.refl F) r1
      · exact k _ _ _ (R.allocF hz) (R.sF hz) (tup_rv upd_same (RepVs.mono (R.sF hz) _ _ (v1.append v2)))
    · cases e
  · cases e
theorem o1_neg : Op1 X.K negM (rU fun i => .int (-i)) := fun C F H σ ρ m1 m x Q R r1 e k => by
  unfold negM at e
  split at e
  · cases e
    exact ⟨_, rv_int r1, k _ F H R (Same.refl F) int_rv⟩
  · cases e
theorem pem_add {a b : Expr} {da db : DE} (ha : PEM X a da) (hb : PEM X b db) : PEM X (.BinOp a .Add b pos) (d2 addM da db) := pem_op (OpR.or op_add op_catA) o2_add ha hb
theorem pem_sub {a b : Expr} {da db : DE} (ha : PEM X a da) (hb : PEM X b db) : PEM X (.BinOp a .Sub b pos) (d2 subM da db) := pem_op op_sub o2_sub ha hb
theorem pem_mul {a b : Expr} {da db : DE} (ha : PEM X a da) (hb : PEM X b db) : PEM X (.BinOp a .Mult b pos) (d2 mulM da db) := pem_op op_mulW o2_mul ha hb
theorem pem_fdiv {a b : Expr} {da db : DE} (ha : PEM X a da) (hb : PEM X b db) : PEM X (.BinOp a .FloorDiv b pos) (d2 fdivM da db) := pem_op op_fdivW o2_fdiv ha hb
theorem pem_mod {a b : Expr} {da db : DE} (ha : PEM X a da) (hb : PEM X b db) : PEM X (.BinOp a .Mod b pos) (d2 modM da db) := pem_op op_mod o2_mod ha hb
theorem pem_neg {a : Expr} {da : DE} (ha : PEM X a da) : PEM X (.UnaryOp .USub a pos) (d1 negM da) := pem_un un_neg o1_neg ha

/-! comparisons -/
theorem o2_cmp {p : Int → Int → Bool} : Op2 X.K (cmpM p) (rI0 fun i j => .bl (p i j)) := fun C F H σ ρ m1 m2 m x y Q R r1 r2 e k => by
  unfold cmpM at e
  split at e
  · cases e
    exact ⟨_, _, rv_int r1, rv_int r2, k _ F H R (Same.refl F) bl_rv⟩
  · cases e
mutual
theorem dp_of {K : PySem.W.Frag} {F : Hp} : ∀ (m : MV) (x : V), RepV K F m x → Dp K F x (pdM m)
  | .non, x, h => by simp only [RepV] at h; subst h; simp only [pdM]; exact .non
  | .bl b, x, h => by simp only [RepV] at h; subst h; simp only [pdM]; exact .bl b
  | .int b, x, h => by simp only [RepV] at h; subst h; simp only [pdM]; exact .int b
  | .str b, x, h => by simp only [RepV] at h; subst h; simp only [pdM]; exact .str b
  | .tup ms, x, h => by
    obtain ⟨a, xs, rfl, q, r⟩ := rv_tup h
    simp only [pdM]
    exact .tup q (dps_of ms xs r)
  | .lst ms, x, h => by
    obtain ⟨a, xs, rfl, q, r⟩ := rv_lst h
    simp only [pdM]
    exact .lst (SqL.of q) (dps_of ms xs r)
  | .scr ms, x, h => by
    obtain ⟨a, xs, rfl, q, r⟩ := rv_scr h
    simp only [pdM]
    exact .lst q (dps_of ms xs r)
theorem dps_of {K : PySem.W.Frag} {F : Hp} : ∀ (ms : List MV) (xs : List V), RepVs K F ms xs → DpAll K F xs (pdsM ms)
  | [], xs, h => by simp only [RepVs] at h; subst h; simp only [pdsM]; exact .nil
  | m :: ms, xs, h => by
    obtain ⟨x, r, rfl, h1, h2⟩ := h.inv
    simp only [pdsM]
    exact .cons (dp_of m x h1) (dps_of ms r h2)
end
theorem o2_eq : Op2 X.K eqvM (rEqD X.K) := fun C F H σ ρ m1 m2 m x y Q R r1 r2 e k => by
  unfold eqvM eqM at e
  obtain ⟨b, e1, e⟩ := Option.bind_eq_some_iff.mp e
  split at e1
  · rename_i hc
    rw [Bool.and_eq_true] at hc
    cases e1
    cases e
    exact ⟨_, _, dp_of _ _ (RepV.mono R.frz _ _ r1), dp_of _ _ (RepV.mono R.frz _ _ r2), hc.1, hc.2, k _ F H R (Same.refl F) bl_rv⟩
  · cases e1
theorem o2_ne : Op2 X.K nevM (rNeD X.K) := fun C F H σ ρ m1 m2 m x y Q R r1 r2 e k => by
  unfold nevM eqM at e
  obtain ⟨b, e1, e⟩ := Option.bind_eq_some_iff.mp e
  split at e1
  · rename_i hc
    rw [Bool.and_eq_true] at hc
    cases e1
    cases e
    exact ⟨_, _, dp_of _ _ (RepV.mono R.frz _ _ r1), dp_of _ _ (RepV.mono R.frz _ _ r2), hc.1, hc.2, k _ F H R (Same.refl F) bl_rv⟩
  · cases e1
theorem pem_cmp {op : CmpOp} {r : R2} {f : MV → MV → Option MV} {a b : Expr} {da db : DE} (o : OpR X (compareOp op) r) (p : Op2 X.K f r) (hm : behindInMarks op b = false) (ha : PEM X a da) (hb : PEM X b db) : PEM X (.Compare a [op] [b] pos) (d2 f da db) :=
  PE.imp (pe_cmpR o ha hb hm) p.tOp
theorem ptm_cmp {op : CmpOp} {r : R2} {f : MV → MV → Option MV} {a b : Expr} {da db : DE} (o : OpR X (compareOp op) r) (p : Op2 X.K f r) (hm : behindInMarks op b = false) (ha : PEM X a da) (hb : PEM X b db) : PTM X (.Compare a [op] [b] pos) (dT blM (d2 f da db)) :=
  PT.imp (pt_cmpR o ha hb hm) fun σ H Q ⟨C, F, ρ, c, ρ', R, e, k⟩ => by
    unfold dT at e
    obtain ⟨⟨m, ρ1⟩, e1, e⟩ := Option.bind_eq_some_iff.mp e
    obtain ⟨b', e2, e⟩ := Option.bind_eq_some_iff.mp e
    cases e
    have e3 : m = .bl c := by
      unfold blM at e2
      split at e2
      · rename_i b2 hm
        cases e2
        exact hm
      · cases e2
    subst e3
    exact p.tOp σ H _ ⟨C, F, ρ, _, ρ1, R, e1, fun x F' H' R' s' r' => ⟨_, rv_bl r', k F' H' R' s'⟩⟩
end
end ML
namespace ML
open PySem L2

/-! ### what is computed -/
/-- a name looked at: a value, or the list that it holds -/
def slotM : Option Sl → Option MV
  | some (.val m) => some m
  | some (.own _ ms) => some (.lst ms)
  | _ => none
def dTruV (i : Nat) : DT := fun ρ => (slotM ρ[i]?).bind fun m => (truM m).bind fun b => some (b, ρ)
def dPeek (f : MV → Option MV) (i : Nat) : DE := fun ρ => (slotM ρ[i]?).bind fun m => (f m).bind fun n => some (n, ρ)
def ixM (m n : MV) : Option MV := match n with
  | .int i => (seqM m).bind fun ms => atI ms i
  | _ => none
/-- x[e], x a name -/
def dIxV (i : Nat) (di : DE) : DE := fun ρ => (slotM ρ[i]?).bind fun _ => (di ρ).bind fun q => (slotM q.2[i]?).bind fun m => (ixM m q.1).bind fun n => some (n, q.2)
def dOrV (da db : DE) : DE := fun ρ => (da ρ).bind fun p => (truM p.1).bind fun b => if b then some p else db p.2
def dAndV (da db : DE) : DE := fun ρ => (da ρ).bind fun p => (truM p.1).bind fun b => if b then db p.2 else some p
def dCall (f : List MV → Option MV) (ds : DA) : DE := fun ρ => (ds ρ).bind fun p => (f p.1).bind fun m => some (m, p.2)
def dCallO (f : List MV → Option (List MV)) (ds : DA) : DA := fun ρ => (ds ρ).bind fun p => (f p.1).bind fun m => some (m, p.2)
def lenM : MV → Option MV := fun m => (seqM m).bind fun ms => some (.int ms.length)
def lenF : List MV → Option MV
  | [m] => lenM m
  | _ => none
def absF : List MV → Option MV
  | [.int i] => some (.int (if i < 0 then -i else i))
  | _ => none
def maxF : List MV → Option MV
  | [.int i, .int j] => some (.int (if j > i then j else i))
  | _ => none
def minF : List MV → Option MV
  | [.int i, .int j] => some (.int (if j < i then j else i))
  | _ => none
def intF : List MV → Option MV
  | [.int i] => some (.int i)
  | [.bl b] => some (.int (if b then 1 else 0))
  | _ => none
def tupM : MV → Option MV
  | .tup ms => some (.tup ms)
  | .lst ms => some (.tup ms)
  | .scr ms => some (.tup ms)
  | _ => none
def tupF : List MV → Option MV
  | [m] => tupM m
  | _ => none
def lstF : List MV → Option (List MV)
  | [m] => seqM m
  | _ => none
def blsM : List MV → Option (List Bool)
  | [] => some []
  | .bl b :: r => (blsM r).bind fun bs => some (b :: bs)
  | _ => none
def intsM : List MV → Option (List Int)
  | [] => some []
  | .int b :: r => (intsM r).bind fun bs => some (b :: bs)
  | _ => none
def allF : List MV → Option MV
  | [.lst ms] => (blsM ms).bind fun bs => some (.bl (bs.all id))
  | _ => none
def sumF : List MV → Option MV
  | [.lst ms] => (intsM ms).bind fun bs => some (.int bs.sum)
  | _ => none
/-- a part of a slice -/
abbrev DO := MEnv → Option (Option Int × MEnv)
def dNoP : DO := fun ρ => some (none, ρ)
def dPart (d : DE) : DO := fun ρ => (d ρ).bind fun p => match p.1 with
  | .int i => some (some i, p.2)
  | _ => none
def cutM (ms : List MV) (lo hi : Option Int) : List MV := (ms.drop (HT.sIx ms.length 0 lo)).take (HT.sIx ms.length ms.length hi - HT.sIx ms.length 0 lo)
def slM (m : MV) (lo hi : Option Int) : Option MV := match m with
  | .tup ms => some (.tup (cutM ms lo hi))
  | .lst ms => some (.lst (cutM ms lo hi))
  | _ => none
def dSl (da : DE) (dl dh : DO) : DE := fun ρ => (da ρ).bind fun p => (dl p.2).bind fun q => (dh q.2).bind fun r => (slM p.1 q.1 r.1).bind fun m => some (m, r.2)
def dSlV (i : Nat) (dl dh : DO) : DE := fun ρ => (slotM ρ[i]?).bind fun _ => (dl ρ).bind fun q => (dh q.2).bind fun r => (slotM r.2[i]?).bind fun m => (slM m q.1 r.1).bind fun n => some (n, r.2)
def revM : MV → Option MV
  | .tup ms => some (.tup ms.reverse)
  | _ => none

/-! ### soundness -/
section
variable {K : PySem.W.Frag} {C : Ctx} {F H : Hp} {σ : St} {ρ : MEnv}
/-- what a name's value stands for just now -/
def Peek (K : PySem.W.Frag) (F H : Hp) (m : MV) (x : V) : Prop := RepV K F m x ∨ ∃ ms a xs, m = .lst ms ∧ x = .ref a ∧ H a = some (.lst xs) ∧ RepVs K F ms xs
theorem Rel.peek (R : Rel K C F H σ ρ) {i : Nat} {m : MV} (e : slotM ρ[i]? = some m) : ∃ x, σ[i]? = some (some x) ∧ Peek K F H m x := by
  unfold slotM at e
  split at e
  · rename_i n hn
    cases e
    obtain ⟨x, h1, h2⟩ := R.val i _ hn
    exact ⟨x, h1, .inl h2⟩
  · rename_i q ms hn
    cases e
    obtain ⟨a, xs, h1, h2, h3, h4, _⟩ := R.own i _ _ hn
    exact ⟨_, h1, .inr ⟨ms, a, xs, rfl, rfl, h2, h4⟩⟩
  · cases e
theorem Peek.seq (R : Rel K C F H σ ρ) {m : MV} {x : V} {ms : List MV} (p : Peek K F H m x) (e : seqM m = some ms) : ∃ a xs, x = .ref a ∧ (SqL K H a xs ∨ SqT K H a xs) ∧ RepVs K F ms xs := by
  rcases p with r | ⟨ns, a, xs, rfl, rfl, h, r⟩
  · cases m with
    | tup ns =>
      cases e
      obtain ⟨a, xs, rfl, q, r⟩ := rv_tup r
      exact ⟨a, xs, rfl, .inr (Same.sqT R.frz q), r⟩
    | lst ns =>
      cases e
      obtain ⟨a, xs, rfl, q, r⟩ := rv_lst r
      exact ⟨a, xs, rfl, .inl (SqL.of (R.frz _ _ q)), r⟩
    | scr ns =>
      cases e
      obtain ⟨a, xs, rfl, q, r⟩ := rv_scr r
      exact ⟨a, xs, rfl, .inl (R.frz.seq q), r⟩
    | _ => cases e
  · cases e
    exact ⟨a, xs, rfl, .inl (SqL.of h), r⟩
theorem Peek.tru (R : Rel K C F H σ ρ) {m : MV} {x : V} {b : Bool} (p : Peek K F H m x) (e : truM m = some b) : TruV K x H b := by
  have emp : ∀ {ms : List MV} {xs : List V}, RepVs K F ms xs → (!ms.isEmpty) = !xs.isEmpty := fun {ms xs} r => by
    have := r.length
    cases ms <;> cases xs <;> simp_all
  cases m with
  | tup ns =>
    cases e
    obtain ⟨a, xs, rfl, q, r⟩ := p.seq R (ms := ns) rfl
    rcases q with q | q
    · exact .inl ⟨xs, q, emp r⟩
    · exact .inr (.inl ⟨xs, q, emp r⟩)
  | lst ns =>
    cases e
    obtain ⟨a, xs, rfl, q, r⟩ := p.seq R (ms := ns) rfl
    rcases q with q | q
    · exact .inl ⟨xs, q, emp r⟩
    · exact .inr (.inl ⟨xs, q, emp r⟩)
  | scr ns =>
    cases e
    obtain ⟨a, xs, rfl, q, r⟩ := p.seq R (ms := ns) rfl
    rcases q with q | q
    · exact .inl ⟨xs, q, emp r⟩
    · exact .inr (.inl ⟨xs, q, emp r⟩)
  | non =>
    rcases p with r | ⟨_, _, _, z, _⟩
    · simp only [RepV] at r
      subst r
      cases e
      rfl
    · cases z
  | bl c =>
    rcases p with r | ⟨_, _, _, z, _⟩
    · simp only [RepV] at r
      subst r
      cases e
      rfl
    · cases z
  | int c =>
    rcases p with r | ⟨_, _, _, z, _⟩
    · simp only [RepV] at r
      subst r
      cases e
      rfl
    · cases z
  | str c => cases e
theorem at_rep : ∀ {ms : List MV} {xs : List V} {i : Int} {m : MV}, RepVs K F ms xs → atI ms i = some m → ∃ x, atI xs i = some x ∧ RepV K F m x := fun {ms xs i m} r e => by
  unfold atI at e ⊢
  obtain ⟨j, e1, e2⟩ := Option.bind_eq_some_iff.mp e
  obtain ⟨x, h1, h2⟩ := r.get e2
  exact ⟨x, by rw [r.length, e1]; exact h1, h2⟩
theorem Peek.ix (R : Rel K C F H σ ρ) {m : MV} {i : Int} {n : MV} {x : V} {Q : VK} (p : Peek K F H m x) (e : (seqM m).bind (fun ms => atI ms i) = some n) (k : ∀ z, RepV K F n z → Q z H) : rIx K x (.int i) H Q := by
  obtain ⟨ms, e1, e2⟩ := Option.bind_eq_some_iff.mp e
  obtain ⟨a, xs, rfl, q, r⟩ := p.seq R e1
  obtain ⟨z, h1, h2⟩ := at_rep r e2
  rcases q with q | q
  · exact .inl ⟨a, xs, i, z, rfl, rfl, q, h1, k z h2⟩
  · exact .inr (.inl ⟨a, xs, i, z, rfl, rfl, q, h1, k z h2⟩)
theorem ix_inv {m n o : MV} (h : ixM m n = some o) : ∃ i, n = .int i ∧ (seqM m).bind (fun ms => atI ms i) = some o := by
  unfold ixM at h
  split at h
  · exact ⟨_, rfl, h⟩
  · cases h
/-- a list that no one holds is frozen -/
theorem Rel.frzNew (R : Rel K C F H σ ρ) {p : Addr} {xs : List V} (hp : H p = some (.lst xs)) (h3 : F p = none) (h5 : C.H0 p = none) (ho : ∀ (j : Nat) q ns, ρ[j]? = some (Sl.own q ns) → σ[j]? ≠ some (some (V.ref p))) :
    Rel K C (upd F p (.lst xs)) H σ ρ ∧ Same F (upd F p (.lst xs)) := by
  have sF : Same F (upd F p (.lst xs)) := fun b u z => by rw [upd_ne (ne_of_none z h3)]; exact z
  refine ⟨⟨R.len, fun b u z => ?_, R.base, R.dom, fun b z => ?_, R.ext.trans sF, R.pins, fun j n z => ?_, fun j q ks z => ?_, R.dist⟩, sF⟩
  · by_cases hb : b = p
    · subst hb
      rw [upd_same] at z
      cases z
      exact hp
    · rw [upd_ne hb] at z
      exact R.frz b u z
  · by_cases hb : b = p
    · subst hb
      exact .inr h5
    · rw [upd_ne hb] at z
      exact R.new b z
  · obtain ⟨x, g1, g2⟩ := R.val j n z
    exact ⟨x, g1, RepV.mono sF _ _ g2⟩
  · obtain ⟨a, zs, g1, g2, g3, g4, g5⟩ := R.own j q ks z
    have hne : a ≠ p := fun y => by
      subst y
      exact ho j q ks z g1
    exact ⟨a, zs, g1, g2, by rw [upd_ne hne]; exact g3, RepVs.mono sF _ _ g4, g5⟩
end
section
variable {X : Cx} {pos : Pos}
theorem pem_frz {e : Expr} {ds : DA} (h : PEO X e ds) : PEM X e (dFrz ds) := PE.imp h fun σ H Q ⟨C, F, ρ, m, ρ', R, e, k⟩ => by
  unfold dFrz at e
  obtain ⟨⟨ms, ρ1⟩, e1, e⟩ := Option.bind_eq_some_iff.mp e
  cases e
  refine ⟨C, F, ρ, ms, ρ1, R, e1, fun p xs F' H' R' s' hp fp h0 ho r => ?_⟩
  obtain ⟨R2, s2⟩ := R'.frzNew hp fp h0 ho
  exact k _ _ H' R2 (s'.trans s2) (lst_rv upd_same (RepVs.mono s2 _ _ r))

/-! tests -/
theorem ptm_val {e : Expr} {d : DE} (h : PEM X e d) (he : ∀ whole, isTrue e X.env whole = (do let v ← whole; standAt e.pos; holding [v] (truthy v))) : PTM X e (dT truM d) := PT.imp (pt_truth h he) fun σ H Q ⟨C, F, ρ, b, ρ', R, e, k⟩ => by
  unfold dT at e
  obtain ⟨⟨m, ρ1⟩, e1, e⟩ := Option.bind_eq_some_iff.mp e
  obtain ⟨c, e2, e⟩ := Option.bind_eq_some_iff.mp e
  cases e
  exact ⟨C, F, ρ, m, ρ1, R, e1, fun x F' H' R' s' r' => ⟨_, Peek.tru R' (.inl r') e2, k F' H' R' s'⟩⟩
theorem ptm_name {i : Nat} {x : Str} (h : PE X (.Name x pos) (tVar i)) : PTM X (.Name x pos) (dTruV i) := PT.imp (pt_truth h (by intro _; rfl)) fun σ H Q ⟨C, F, ρ, b, ρ', R, e, k⟩ => by
  unfold dTruV at e
  obtain ⟨m, e1, e⟩ := Option.bind_eq_some_iff.mp e
  obtain ⟨c, e2, e⟩ := Option.bind_eq_some_iff.mp e
  cases e
  obtain ⟨x, h1, h2⟩ := R.peek e1
  exact ⟨x, h1, _, h2.tru R e2, k F H R (Same.refl F)⟩
theorem ptm_not {e : Expr} {d : DT} (h : PTM X e d) : PTM X (.UnaryOp .Not e pos) (dNot d) := PT.imp (pt_not h) fun σ H Q ⟨C, F, ρ, b, ρ', R, e, k⟩ => by
  unfold dNot at e
  obtain ⟨⟨c, ρ1⟩, e1, e⟩ := Option.bind_eq_some_iff.mp e
  cases e
  exact ⟨C, F, ρ, c, ρ1, R, e1, fun F' H' R' s' => k F' H' R' s'⟩
theorem pwm_one {op : BoolOp} {a : Expr} {d : DT} (h : PTM X a d) (ho : PW X (.BoolOp op [a] pos) (TMT X.K d)) : PWM X (.BoolOp op [a] pos) d := ho
theorem pwm_and1 {a : Expr} {d : DT} (h : PTM X a d) : PWM X (.BoolOp .And [a] pos) d := pw_and1 h
theorem pwm_or1 {a : Expr} {d : DT} (h : PTM X a d) : PWM X (.BoolOp .Or [a] pos) d := pw_or1 h
theorem pwm_and {a b : Expr} {rest : List Expr} {d u : DT} (ha : PTM X a d) (hb : PWM X (.BoolOp .And (b :: rest) pos) u) : PWM X (.BoolOp .And (a :: b :: rest) pos) (dAnd d u) := PW.imp (pw_and ha hb) fun σ H Q ⟨C, F, ρ, c, ρ', R, e, k⟩ => by
  unfold dAnd at e
  obtain ⟨⟨c1, ρ1⟩, e1, e⟩ := Option.bind_eq_some_iff.mp e
  refine ⟨C, F, ρ, c1, ρ1, R, e1, fun F' H' R' s' => ?_⟩
  cases c1 with
  | true => exact iteT ⟨C, F', ρ1, c, ρ', R', e, fun F2 H2 R2 s2 => k F2 H2 R2 (s'.trans s2)⟩
  | false =>
    have e' : some (false, ρ1) = some (c, ρ') := e
    cases e'
    exact iteF (k F' H' R' s')
theorem pwm_or {a b : Expr} {rest : List Expr} {d u : DT} (ha : PTM X a d) (hb : PWM X (.BoolOp .Or (b :: rest) pos) u) : PWM X (.BoolOp .Or (a :: b :: rest) pos) (dOr d u) := PW.imp (pw_or ha hb) fun σ H Q ⟨C, F, ρ, c, ρ', R, e, k⟩ => by
  unfold dOr at e
  obtain ⟨⟨c1, ρ1⟩, e1, e⟩ := Option.bind_eq_some_iff.mp e
  refine ⟨C, F, ρ, c1, ρ1, R, e1, fun F' H' R' s' => ?_⟩
  cases c1 with
  | false => exact iteF ⟨C, F', ρ1, c, ρ', R', e, fun F2 H2 R2 s2 => k F2 H2 R2 (s'.trans s2)⟩
  | true =>
    have e' : some (true, ρ1) = some (c, ρ') := e
    cases e'
    exact iteT (k F' H' R' s')
theorem ptm_w {e : Expr} {d : DT} (h : PWM X e d) : PTM X e d := PW.pt h

/-! values by truth -/
theorem pem_not {e : Expr} {d : DE} (h : PEM X e d) : PEM X (.UnaryOp .Not e pos) (dB (dNot (dT truM d))) := PE.imp (pe_notT h) fun σ H Q ⟨C, F, ρ, b, ρ', R, e, k⟩ => by
  unfold dB dNot dT at e
  obtain ⟨⟨c, ρ1⟩, e1, e⟩ := Option.bind_eq_some_iff.mp e
  cases e
  obtain ⟨⟨c2, ρ2⟩, e2, e1⟩ := Option.bind_eq_some_iff.mp e1
  cases e1
  obtain ⟨⟨m, ρ3⟩, e3, e2⟩ := Option.bind_eq_some_iff.mp e2
  obtain ⟨c4, e4, e2⟩ := Option.bind_eq_some_iff.mp e2
  cases e2
  exact ⟨C, F, ρ, m, ρ3, R, e3, fun x F' H' R' s' r' => ⟨_, Peek.tru R' (.inl r') e4, k _ F' H' R' s' bl_rv⟩⟩
theorem pem_orv {a b : Expr} {rest : List Expr} {da db : DE} (ha : PEM X a da) (hb : PEM X (.BoolOp .Or (b :: rest) pos) db) : PEM X (.BoolOp .Or (a :: b :: rest) pos) (dOrV da db) := PE.imp (pe_orT ha hb) fun σ H Q ⟨C, F, ρ, c, ρ', R, e, k⟩ => by
  unfold dOrV at e
  obtain ⟨⟨m1, ρ1⟩, e1, e⟩ := Option.bind_eq_some_iff.mp e
  obtain ⟨b1, e2, e⟩ := Option.bind_eq_some_iff.mp e
  refine ⟨C, F, ρ, m1, ρ1, R, e1, fun x F' H' R' s' r' => ⟨b1, Peek.tru R' (.inl r') e2, ?_⟩⟩
  cases b1 with
  | true =>
    have e' : some (m1, ρ1) = some (c, ρ') := e
    cases e'
    exact iteT (k x F' H' R' s' r')
  | false => exact iteF ⟨C, F', ρ1, c, ρ', R', e, fun x F2 H2 R2 s2 r2 => k x F2 H2 R2 (s'.trans s2) r2⟩
theorem pem_andv {a b : Expr} {rest : List Expr} {da db : DE} (ha : PEM X a da) (hb : PEM X (.BoolOp .And (b :: rest) pos) db) : PEM X (.BoolOp .And (a :: b :: rest) pos) (dAndV da db) := PE.imp (pe_andT ha hb) fun σ H Q ⟨C, F, ρ, c, ρ', R, e, k⟩ => by
  unfold dAndV at e
  obtain ⟨⟨m1, ρ1⟩, e1, e⟩ := Option.bind_eq_some_iff.mp e
  obtain ⟨b1, e2, e⟩ := Option.bind_eq_some_iff.mp e
  refine ⟨C, F, ρ, m1, ρ1, R, e1, fun x F' H' R' s' r' => ⟨b1, Peek.tru R' (.inl r') e2, ?_⟩⟩
  cases b1 with
  | false =>
    have e' : some (m1, ρ1) = some (c, ρ') := e
    cases e'
    exact iteF (k x F' H' R' s' r')
  | true => exact iteT ⟨C, F', ρ1, c, ρ', R', e, fun x F2 H2 R2 s2 r2 => k x F2 H2 R2 (s'.trans s2) r2⟩
theorem pem_one {op : BoolOp} {a : Expr} {d : DE} (h : PEM X a d) : PEM X (.BoolOp op [a] pos) d := pe_one h
theorem pem_ifx {c a b : Expr} {t : DT} {da db : DE} (hc : PTM X c t) (ha : PEM X a da) (hb : PEM X b db) : PEM X (.IfExp c a b pos) (dIf t da db) := PE.imp (pe_ifExp hc ha hb) fun σ H Q ⟨C, F, ρ, m, ρ', R, e, k⟩ => by
  unfold dIf at e
  obtain ⟨⟨c1, ρ1⟩, e1, e⟩ := Option.bind_eq_some_iff.mp e
  refine ⟨C, F, ρ, c1, ρ1, R, e1, fun F' H' R' s' => ?_⟩
  cases c1 with
  | true => exact iteT ⟨C, F', ρ1, m, ρ', R', e, fun x F2 H2 R2 s2 r2 => k x F2 H2 R2 (s'.trans s2) r2⟩
  | false => exact iteF ⟨C, F', ρ1, m, ρ', R', e, fun x F2 H2 R2 s2 r2 => k x F2 H2 R2 (s'.trans s2) r2⟩

/-! arguments, displays -/
theorem pam_nil : PAM X [] dNil := PA.imp pa_nil fun σ H Q ⟨C, F, ρ, ms, ρ', R, e, k⟩ => by
  cases e
  exact k [] F H R (Same.refl F) RepVs.nil
theorem pam_cons {e : Expr} {es : List Expr} {da : DE} {ds : DA} (ha : PEM X e da) (hs : PAM X es ds) (hst : starEach (e :: es) X.env = (false, eval e X.env) :: starEach es X.env := by rfl) : PAM X (e :: es) (dCons da ds) := PA.imp (pa_cons ha hs hst) fun σ H Q ⟨C, F, ρ, ms, ρ', R, e, k⟩ => by
  unfold dCons at e
  obtain ⟨⟨m1, ρ1⟩, e1, e⟩ := Option.bind_eq_some_iff.mp e
  obtain ⟨⟨ms2, ρ2⟩, e2, e⟩ := Option.bind_eq_some_iff.mp e
  cases e
  exact ⟨C, F, ρ, m1, ρ1, R, e1, fun x F1 H1 R1 s1 r1 => ⟨C, F1, ρ1, ms2, ρ2, R1, e2, fun xs F2 H2 R2 s2 r2 => k (x :: xs) F2 H2 R2 (s1.trans s2) (RepVs.cons (RepV.mono s2 _ _ r1) r2)⟩⟩
theorem pam_star {e : Expr} {es : List Expr} {p : Pos} {da : DE} {ds : DA} (ha : PEM X e da) (hs : PAM X es ds) (hst : starEach (.Starred e p :: es) X.env = (true, eval e X.env) :: starEach es X.env := by rfl) : PAM X (.Starred e p :: es) (dStar da ds) := PA.imp (StX.pa_star ha hs hst) fun σ H Q ⟨C, F, ρ, ms, ρ', R, e, k⟩ => by
  unfold dStar at e
  obtain ⟨⟨m1, ρ1⟩, e1, e⟩ := Option.bind_eq_some_iff.mp e
  obtain ⟨ns, e3, e⟩ := Option.bind_eq_some_iff.mp e
  obtain ⟨⟨ms2, ρ2⟩, e2, e⟩ := Option.bind_eq_some_iff.mp e
  cases e
  refine ⟨C, F, ρ, m1, ρ1, R, e1, fun x F1 H1 R1 s1 r1 => ?_⟩
  obtain ⟨a, xs, rfl, q, r⟩ := Peek.seq R1 (.inl r1) e3
  exact ⟨a, xs, rfl, q.symm, C, F1, ρ1, ms2, ρ2, R1, e2, fun ys F2 H2 R2 s2 r2 => k (xs ++ ys) F2 H2 R2 (s1.trans s2) ((RepVs.mono s2 _ _ r).append r2)⟩
theorem pem_tup {es : List Expr} {x1} {ds : DA} (h : PAM X es ds) : PEM X (.Tuple es x1 pos) (dTup ds) := PE.imp (pe_tup h) fun σ H Q ⟨C, F, ρ, m, ρ', R, e, k⟩ => by
  unfold dTup at e
  obtain ⟨⟨ms, ρ1⟩, e1, e⟩ := Option.bind_eq_some_iff.mp e
  split at e
  · rename_i hc
    cases e
    exact ⟨C, F, ρ, ms, ρ1, R, e1, fun xs F1 H1 R1 s1 r1 => ⟨by rw [r1.length]; exact lenOk_le hc, fun p hp => k _ _ _ (R1.allocF hp) (s1.trans (R1.sF hp)) (tup_rv upd_same (RepVs.mono (R1.sF hp) _ _ r1))⟩⟩
  · cases e
theorem peo_lst {es : List Expr} {ds : DA} (h : PAM X es ds) : PEO X (.List es pos) (dLst ds) := PE.imp (pe_lst h) fun σ H Q ⟨C, F, ρ, m, ρ', R, e, k⟩ => by
  unfold dLst at e
  obtain ⟨⟨ms, ρ1⟩, e1, e⟩ := Option.bind_eq_some_iff.mp e
  split at e
  · rename_i hc
    cases e
    exact ⟨C, F, ρ, _, _, R, e1, fun xs F1 H1 R1 s1 r1 => ⟨by rw [r1.length]; exact lenOk_le hc, fun p hp => k p xs F1 _ (R1.alloc hp) s1 upd_same (R1.fF hp) (R1.dom p hp) (R1.apart hp) r1⟩⟩
  · cases e

/-! subscripts -/
theorem o2_ix : Op2 X.K ixM (rIx X.K) := fun C F H σ ρ m1 m2 m x y Q R r1 r2 e k => by
  obtain ⟨i, rfl, e⟩ := ix_inv e
  have := rv_int r2
  subst this
  exact Peek.ix R (.inl r1) e fun z r => k z F H R (Same.refl F) r
theorem pem_ix {a b : Expr} {da db : DE} (ha : PEM X a da) (hb : PEM X b db) (hs : PlainIx b) : PEM X (.Subscript a b pos) (d2 ixM da db) := PE.imp (pe_ix ix_seq ha hb hs) o2_ix.tOp
theorem pem_ixv {i : Nat} {x : Str} {p : Pos} {b : Expr} {db : DE} (ha : PE X (.Name x p) (tVar i)) (hb : PEM X b db) (hs : PlainIx b) : PEM X (.Subscript (.Name x p) b pos) (dIxV i db) := PE.imp (pe_ix ix_seq ha hb hs) fun σ H Q ⟨C, F, ρ, m, ρ', R, e, k⟩ => by
  unfold dIxV at e
  obtain ⟨m0, e0, e⟩ := Option.bind_eq_some_iff.mp e
  obtain ⟨⟨m1, ρ1⟩, e1, e⟩ := Option.bind_eq_some_iff.mp e
  obtain ⟨m2, e2, e⟩ := Option.bind_eq_some_iff.mp e
  obtain ⟨m3, e3, e⟩ := Option.bind_eq_some_iff.mp e
  cases e
  obtain ⟨x, h1, _⟩ := R.peek e0
  refine ⟨x, h1, C, F, ρ, m1, ρ1, R, e1, fun y F1 H1 R1 s1 r1 => ?_⟩
  obtain ⟨x', h1', pk⟩ := R1.peek e2
  rw [h1] at h1'
  cases h1'
  obtain ⟨i, rfl, e3⟩ := ix_inv e3
  have := rv_int r1
  subst this
  exact Peek.ix R1 pk e3 fun z r => k z F1 H1 R1 s1 r
def TMOp (K : PySem.W.Frag) (d : DO) : TO := fun σ H Q => ∃ C F ρ o ρ', Rel K C F H σ ρ ∧ d ρ = some (o, ρ') ∧ ∀ F' H', Rel K C F' H' σ ρ' → Same F F' → Q o H'
theorem PO.imp {e : Option Expr} {t t' : TO} (h : PO X e t) (i : ∀ σ H Q, t' σ H Q → t σ H Q) : PO X e t' := ⟨fun pins s σ H Q I hw => h.run pins s σ H Q I (i σ H Q hw)⟩
theorem pom_none : PO X none (TMOp X.K dNoP) := PO.imp po_none fun σ H Q ⟨C, F, ρ, m, ρ', R, e, k⟩ => by
  cases e
  exact k F H R (Same.refl F)
theorem pom_some {e : Expr} {d : DE} (h : PEM X e d) : PO X (some e) (TMOp X.K (dPart d)) := PO.imp (po_some h) fun σ H Q ⟨C, F, ρ, m, ρ', R, e, k⟩ => by
  unfold dPart at e
  obtain ⟨⟨m1, ρ1⟩, e1, e⟩ := Option.bind_eq_some_iff.mp e
  cases m1 with
  | int i =>
    cases e
    exact ⟨C, F, ρ, _, ρ1, R, e1, fun x F1 H1 R1 s1 r1 => ⟨i, rv_int r1, k F1 H1 R1 s1⟩⟩
  | _ => cases e
def rSl2 (K : PySem.W.Frag) : V → Option Int → Option Int → Hp → VK → Prop := fun x lo hi H Q => rSlA K x lo hi H Q ∨ rSlL K x lo hi H Q
theorem sl_2 : SlR X (rSl2 X.K) := sl_tupA.or sl_list
theorem cut_rep {K : PySem.W.Frag} {F : Hp} {ms : List MV} {xs : List V} {lo hi : Option Int} (r : RepVs K F ms xs) : RepVs K F (cutM ms lo hi) (cutV xs lo hi) := by
  unfold cutM cutV
  rw [r.length]
  exact (r.drop _).take _
theorem Peek.sl {K : PySem.W.Frag} {C : Ctx} {F H : Hp} {σ : St} {ρ : MEnv} (R : Rel K C F H σ ρ) {m n : MV} {x : V} {lo hi : Option Int} {Q : VK} (p : Peek K F H m x) (e : slM m lo hi = some n)
    (k : ∀ z F' H', Rel K C F' H' σ ρ → Same F F' → RepV K F' n z → Q z H') : rSl2 K x lo hi H Q := by
  cases m with
  | tup ms =>
    cases e
    rcases p with r | ⟨_, _, _, z, _⟩
    · obtain ⟨a, xs, rfl, q, r'⟩ := rv_tup r
      refine .inl ⟨a, xs, rfl, Same.sqT R.frz q, fun hw => ?_, fun _ z hz => ?_⟩
      · have e1 : cutM ms lo hi = ms := by
          unfold cutM
          rw [r'.length] at hw
          rw [hw.1, hw.2, List.drop_zero, Nat.sub_zero, List.take_length]
        rw [e1] at k
        exact k _ F H R (Same.refl F) r
      · exact k _ _ _ (R.allocF hz) (R.sF hz) (tup_rv upd_same (RepVs.mono (R.sF hz) _ _ (cut_rep r')))
    · cases z
  | lst ms =>
    cases e
    obtain ⟨a, xs, rfl, q, r'⟩ : ∃ a xs, x = .ref a ∧ SqL K H a xs ∧ RepVs K F ms xs := by
      rcases p with r | ⟨ms', a, xs, z, rfl, h, r⟩
      · obtain ⟨a, xs, rfl, q, r'⟩ := rv_lst r
        exact ⟨a, xs, rfl, SqL.of (R.frz _ _ q), r'⟩
      · cases z
        exact ⟨a, xs, rfl, SqL.of h, r⟩
    exact .inr ⟨a, xs, rfl, q, fun z hz => k _ _ _ (R.allocF hz) (R.sF hz) (lst_rv upd_same (RepVs.mono (R.sF hz) _ _ (cut_rep r')))⟩
  | _ => cases e
theorem pem_sl {a : Expr} {lo hi : Option Expr} {p2 : Pos} {da : DE} {dl dh : DO} (ha : PEM X a da) (hl : PO X lo (TMOp X.K dl)) (hh : PO X hi (TMOp X.K dh)) : PEM X (.Subscript a (.Slice lo hi none p2) pos) (dSl da dl dh) := PE.imp (pe_slice sl_2 ha hl hh) fun σ H Q ⟨C, F, ρ, m, ρ', R, e, k⟩ => by
  unfold dSl at e
  obtain ⟨⟨m1, ρ1⟩, e1, e⟩ := Option.bind_eq_some_iff.mp e
  obtain ⟨⟨o1, ρ2⟩, e2, e⟩ := Option.bind_eq_some_iff.mp e
  obtain ⟨⟨o2, ρ3⟩, e3, e⟩ := Option.bind_eq_some_iff.mp e
  obtain ⟨n, e4, e⟩ := Option.bind_eq_some_iff.mp e
  cases e
  exact ⟨C, F, ρ, m1, ρ1, R, e1, fun x F1 H1 R1 s1 r1 => ⟨C, F1, ρ1, o1, ρ2, R1, e2, fun F2 H2 R2 s2 => ⟨C, F2, ρ2, o2, ρ3, R2, e3, fun F3 H3 R3 s3 =>
    Peek.sl R3 (.inl (RepV.mono (s2.trans s3) _ _ r1)) e4 fun z F4 H4 R4 s4 r4 => k z F4 H4 R4 (((s1.trans s2).trans s3).trans s4) r4⟩⟩⟩
theorem pem_slv {i : Nat} {x : Str} {p : Pos} {lo hi : Option Expr} {p2 : Pos} {dl dh : DO} (ha : PE X (.Name x p) (tVar i)) (hl : PO X lo (TMOp X.K dl)) (hh : PO X hi (TMOp X.K dh)) : PEM X (.Subscript (.Name x p) (.Slice lo hi none p2) pos) (dSlV i dl dh) := PE.imp (pe_slice sl_2 ha hl hh) fun σ H Q ⟨C, F, ρ, m, ρ', R, e, k⟩ => by
  unfold dSlV at e
  obtain ⟨m0, e0, e⟩ := Option.bind_eq_some_iff.mp e
  obtain ⟨⟨o1, ρ2⟩, e2, e⟩ := Option.bind_eq_some_iff.mp e
  obtain ⟨⟨o2, ρ3⟩, e3, e⟩ := Option.bind_eq_some_iff.mp e
  obtain ⟨m1, e1, e⟩ := Option.bind_eq_some_iff.mp e
  obtain ⟨n, e4, e⟩ := Option.bind_eq_some_iff.mp e
  cases e
  obtain ⟨x, h1, _⟩ := R.peek e0
  refine ⟨x, h1, C, F, ρ, o1, ρ2, R, e2, fun F2 H2 R2 s2 => ⟨C, F2, ρ2, o2, ρ3, R2, e3, fun F3 H3 R3 s3 => ?_⟩⟩
  obtain ⟨x', h1', pk⟩ := R3.peek e1
  rw [h1] at h1'
  cases h1'
  exact Peek.sl R3 pk e4 fun z F4 H4 R4 s4 r4 => k z F4 H4 R4 ((s2.trans s3).trans s4) r4

/-! calls of built-ins -/
def OpN (K : PySem.W.Frag) (f : List MV → Option MV) (r : List V → Hp → VK → Prop) : Prop := ∀ C F H σ ρ ms m xs Q, Rel K C F H σ ρ → RepVs K F ms xs → f ms = some m → (∀ z F' H', Rel K C F' H' σ ρ → Same F F' → RepV K F' m z → Q z H') → r xs H Q
theorem OpN.tCB {K : PySem.W.Frag} {f : List MV → Option MV} {r : List V → Hp → VK → Prop} {ds : DA} (o : OpN K f r) : ∀ σ H Q, TM K (dCall f ds) σ H Q → tCB r (TMA K ds) σ H Q := fun σ H Q ⟨C, F, ρ, m, ρ', R, e, k⟩ => by
  unfold dCall at e
  obtain ⟨⟨ms, ρ1⟩, e1, e⟩ := Option.bind_eq_some_iff.mp e
  obtain ⟨m3, e3, e⟩ := Option.bind_eq_some_iff.mp e
  cases e
  exact ⟨C, F, ρ, ms, ρ1, R, e1, fun xs F1 H1 R1 s1 r1 => o C F1 H1 σ ρ1 ms m xs Q R1 r1 e3 fun z F3 H3 R3 s3 r3 => k z F3 H3 R3 (s1.trans s3) r3⟩
theorem rvs1 {K : PySem.W.Frag} {F : Hp} {m : MV} {xs : List V} (h : RepVs K F [m] xs) : ∃ x, xs = [x] ∧ RepV K F m x := by
  obtain ⟨x, r, rfl, h1, h2⟩ := h.inv
  have := RepVs.nil_iff.mp h2
  subst this
  exact ⟨x, rfl, h1⟩
theorem rvs2 {K : PySem.W.Frag} {F : Hp} {m n : MV} {xs : List V} (h : RepVs K F [m, n] xs) : ∃ x y, xs = [x, y] ∧ RepV K F m x ∧ RepV K F n y := by
  obtain ⟨x, r, rfl, h1, h2⟩ := h.inv
  obtain ⟨y, rfl, h3⟩ := rvs1 h2
  exact ⟨x, y, rfl, h1, h3⟩
theorem on_len : OpN X.K lenF (fun xs H Q => ∃ p ys, xs = [.ref p] ∧ (SqL X.K H p ys ∨ SqT X.K H p ys) ∧ Q (.int ys.length) H) := fun C F H σ ρ ms m xs Q R r e k => by
  unfold lenF at e
  split at e
  · rename_i m0
    unfold lenM at e
    obtain ⟨ns, e1, e⟩ := Option.bind_eq_some_iff.mp e
    cases e
    obtain ⟨x, rfl, rx⟩ := rvs1 r
    obtain ⟨a, ys, rfl, q, r'⟩ := Peek.seq R (.inl rx) e1
    exact ⟨a, ys, rfl, q, by rw [r'.length]; exact k _ F H R (Same.refl F) int_rv⟩
  · cases e
theorem on_abs : OpN X.K absF (fun xs H Q => ∃ i, xs = [.int i] ∧ Q (.int (if i < 0 then -i else i)) H) := fun C F H σ ρ ms m xs Q R r e k => by
  unfold absF at e
  split at e
  · cases e
    obtain ⟨x, rfl, rx⟩ := rvs1 r
    have := rv_int rx
    subst this
    exact ⟨_, rfl, k _ F H R (Same.refl F) int_rv⟩
  · cases e
theorem on_max : OpN X.K maxF (fun xs H Q => ∃ i j, xs = [.int i, .int j] ∧ Q (.int (if j > i then j else i)) H) := fun C F H σ ρ ms m xs Q R r e k => by
  unfold maxF at e
  split at e
  · cases e
    obtain ⟨x, y, rfl, rx, ry⟩ := rvs2 r
    have := rv_int rx
    subst this
    have := rv_int ry
    subst this
    exact ⟨_, _, rfl, k _ F H R (Same.refl F) int_rv⟩
  · cases e
theorem on_min : OpN X.K minF (fun xs H Q => ∃ i j, xs = [.int i, .int j] ∧ Q (.int (if j < i then j else i)) H) := fun C F H σ ρ ms m xs Q R r e k => by
  unfold minF at e
  split at e
  · cases e
    obtain ⟨x, y, rfl, rx, ry⟩ := rvs2 r
    have := rv_int rx
    subst this
    have := rv_int ry
    subst this
    exact ⟨_, _, rfl, k _ F H R (Same.refl F) int_rv⟩
  · cases e
theorem on_int : OpN X.K intF (fun xs H Q => (∃ i, xs = [.int i] ∧ Q (.int i) H) ∨ ∃ k, xs = [.bl k] ∧ Q (.int (if k then 1 else 0)) H) := fun C F H σ ρ ms m xs Q R r e k => by
  unfold intF at e
  split at e
  · cases e
    obtain ⟨x, rfl, rx⟩ := rvs1 r
    have := rv_int rx
    subst this
    exact .inl ⟨_, rfl, k _ F H R (Same.refl F) int_rv⟩
  · cases e
    obtain ⟨x, rfl, rx⟩ := rvs1 r
    have := rv_bl rx
    subst this
    exact .inr ⟨_, rfl, k _ F H R (Same.refl F) int_rv⟩
  · cases e
theorem on_tup : OpN X.K tupF (fun xs H Q => ∃ p ys, xs = [.ref p] ∧ ((SqL X.K H p ys ∧ ∀ l, H l = none → Q (.ref l) (upd H l (.tup ys))) ∨ (SqT X.K H p ys ∧ Q (.ref p) H))) := fun C F H σ ρ ms m xs Q R r e k => by
  unfold tupF at e
  split at e
  · rename_i m0
    obtain ⟨x, rfl, rx⟩ := rvs1 r
    cases m0 with
    | tup ns =>
      cases e
      obtain ⟨a, ys, rfl, q, r'⟩ := rv_tup rx
      exact ⟨a, ys, rfl, .inr ⟨Same.sqT R.frz q, k _ F H R (Same.refl F) rx⟩⟩
    | lst ns =>
      cases e
      obtain ⟨a, ys, rfl, q, r'⟩ := rv_lst rx
      exact ⟨a, ys, rfl, .inl ⟨SqL.of (R.frz _ _ q), fun l hl => k _ _ _ (R.allocF hl) (R.sF hl) (tup_rv upd_same (RepVs.mono (R.sF hl) _ _ r'))⟩⟩
    | scr ns =>
      cases e
      obtain ⟨a, ys, rfl, q, r'⟩ := rv_scr rx
      exact ⟨a, ys, rfl, .inl ⟨R.frz.seq q, fun l hl => k _ _ _ (R.allocF hl) (R.sF hl) (tup_rv upd_same (RepVs.mono (R.sF hl) _ _ r'))⟩⟩
    | _ => cases e
  · cases e
theorem bls_rep {K : PySem.W.Frag} {F : Hp} : ∀ {ms : List MV} {xs : List V} {bs : List Bool}, RepVs K F ms xs → blsM ms = some bs → xs = bs.map V.bl
  | [], xs, bs, r, e => by
    cases e
    exact RepVs.nil_iff.mp r
  | m :: ms, xs, bs, r, e => by
    obtain ⟨x, r', rfl, h1, h2⟩ := r.inv
    cases m with
    | bl b =>
      obtain ⟨cs, e1, e⟩ := Option.bind_eq_some_iff.mp (show ((blsM ms).bind fun bs => some (b :: bs)) = some bs from e)
      cases e
      rw [bls_rep h2 e1, rv_bl h1]
      rfl
    | _ => cases e
theorem ints_rep {K : PySem.W.Frag} {F : Hp} : ∀ {ms : List MV} {xs : List V} {bs : List Int}, RepVs K F ms xs → intsM ms = some bs → xs = bs.map V.int
  | [], xs, bs, r, e => by
    cases e
    exact RepVs.nil_iff.mp r
  | m :: ms, xs, bs, r, e => by
    obtain ⟨x, r', rfl, h1, h2⟩ := r.inv
    cases m with
    | int b =>
      obtain ⟨cs, e1, e⟩ := Option.bind_eq_some_iff.mp (show ((intsM ms).bind fun bs => some (b :: bs)) = some bs from e)
      cases e
      rw [ints_rep h2 e1, rv_int h1]
      rfl
    | _ => cases e
theorem on_all : OpN X.K allF (rAll X.K) := fun C F H σ ρ ms m xs Q R r e k => by
  unfold allF at e
  split at e
  · obtain ⟨bs, e1, e⟩ := Option.bind_eq_some_iff.mp e
    cases e
    obtain ⟨x, rfl, rx⟩ := rvs1 r
    obtain ⟨a, ys, rfl, q, r'⟩ := rv_lst rx
    have := bls_rep r' e1
    subst this
    exact ⟨a, bs, rfl, SqL.of (R.frz _ _ q), k _ F H R (Same.refl F) bl_rv⟩
  · cases e
theorem on_sum : OpN X.K sumF (rSum X.K) := fun C F H σ ρ ms m xs Q R r e k => by
  unfold sumF at e
  split at e
  · obtain ⟨bs, e1, e⟩ := Option.bind_eq_some_iff.mp e
    cases e
    obtain ⟨x, rfl, rx⟩ := rvs1 r
    obtain ⟨a, ys, rfl, q, r'⟩ := rv_lst rx
    have := ints_rep r' e1
    subst this
    exact ⟨a, bs, rfl, SqL.of (R.frz _ _ q), k _ F H R (Same.refl F) int_rv⟩
  · cases e
theorem pem_cb {e : Expr} {f : List MV → Option MV} {r : List V → Hp → VK → Prop} {ds : DA} (h : PE X e (tCB r (TMA X.K ds))) (o : OpN X.K f r) : PEM X e (dCall f ds) := PE.imp h o.tCB
end
end ML
namespace ML
open PySem L2

/-- how a statement ends: goes on, break, continue, return of a value, return of a new list -/
inductive Fl where
  | nx | bk | ct | rt (m : MV) | ro (ms : List MV)
abbrev DS := MEnv → Option (Fl × MEnv)
/-- what an expression gives: a value, or a new list that no one holds -/
inductive IV where
  | val (m : MV) | own (ms : List MV)
abbrev DI := MEnv → Option (IV × MEnv)
abbrev DG := MV → MEnv → Option MEnv
def slI : IV → Sl
  | .val m => .val m
  | .own ms => .own false ms

def FinM (K : PySem.W.Frag) (C : Ctx) (F : Hp) (D : Ends) (fl : Fl) (ρ' : MEnv) : Prop := match fl with
  | .nx => ∀ σ' F' H', Rel K C F' H' σ' ρ' → Same F F' → D.nx σ' H'
  | .bk => ∀ σ' F' H', Rel K C F' H' σ' ρ' → Same F F' → D.bk σ' H'
  | .ct => ∀ σ' F' H', Rel K C F' H' σ' ρ' → Same F F' → D.ct σ' H'
  | .rt m => ∀ x σ' F' H', Rel K C F' H' σ' ρ' → Same F F' → RepV K F' m x → D.rt x H'
  | .ro ms => ∀ p xs σ' F' H', Rel K C F' H' σ' ρ' → Same F F' → H' p = some (.lst xs) → F' p = none → C.H0 p = none → RepVs K F' ms xs → D.rt (.ref p) H'
def TMS (K : PySem.W.Frag) (d : DS) : TS := fun D σ H => ∃ C F ρ fl ρ', Rel K C F H σ ρ ∧ d ρ = some (fl, ρ') ∧ FinM K C F D fl ρ'
abbrev PSM (X : Cx) (st : Stmt) (d : DS) : Prop := PS X st (TMS X.K d)
abbrev PSsM (X : Cx) (st : List Stmt) (d : DS) : Prop := PSs X st (TMS X.K d)
def Apart (σ : St) (ρ : MEnv) (p : Addr) : Prop := ∀ (j : Nat) q ns, ρ[j]? = some (Sl.own q ns) → σ[j]? ≠ some (some (V.ref p))
def RepI (K : PySem.W.Frag) (C : Ctx) (F H : Hp) (σ : St) (ρ : MEnv) : IV → V → Prop
  | .val m, x => RepV K F m x
  | .own ms, x => ∃ p xs, x = .ref p ∧ H p = some (.lst xs) ∧ F p = none ∧ C.H0 p = none ∧ Apart σ ρ p ∧ RepVs K F ms xs
def TMI (K : PySem.W.Frag) (d : DI) : TE := fun σ H Q => ∃ C F ρ v ρ', Rel K C F H σ ρ ∧ d ρ = some (v, ρ') ∧ ∀ x F' H', Rel K C F' H' σ ρ' → Same F F' → RepI K C F' H' σ ρ' v x → Q x H'
abbrev PEI (X : Cx) (e : Expr) (d : DI) : Prop := PE X e (TMI X.K d)
/-- a target: ws the slots that it may change -/
def TMG (K : PySem.W.Frag) (ws : List Nat) (g : DG) : TG := fun v σ H Q => ∃ C F ρ m ρ', Rel K C F H σ ρ ∧ RepV K F m v ∧ g m ρ = some ρ' ∧ ∀ σ' F' H', wipe σ' ws = wipe σ ws → Rel K C F' H' σ' ρ' → Same F F' → Q σ' H'
abbrev PGM (X : Cx) (ws : List Nat) (tg : Expr) (g : DG) : Prop := PG X tg (TMG X.K ws g)
def TMGs (K : PySem.W.Frag) (ws : List Nat) (g : List MV → MEnv → Option MEnv) : TGs := fun vs σ H Q => ∃ C F ρ ms ρ', Rel K C F H σ ρ ∧ RepVs K F ms vs ∧ g ms ρ = some ρ' ∧ ∀ σ' F' H', wipe σ' ws = wipe σ ws → Rel K C F' H' σ' ρ' → Same F F' → Q σ' H'
theorem set_set_comm {σ : St} {i j : Nat} {o : Option V} : (σ.set i o).set j none = if i = j then σ.set j none else (σ.set j none).set i o := by
  by_cases h : i = j
  · subst h
    rw [if_pos rfl, List.set_set]
  · rw [if_neg h, List.set_comm _ _ h]
theorem wipe_set1 {σ : St} {i : Nat} {o : Option V} : ∀ {ws : List Nat}, i ∉ ws → wipe (σ.set i o) ws = (wipe σ ws).set i o
  | [], _ => rfl
  | w :: ws, h => by
    unfold wipe
    rw [wipe_set1 (ws := ws) (fun z => h (List.mem_cons_of_mem _ z)), List.set_comm _ _ (fun z => h (by rw [z]; exact List.mem_cons_self))]
theorem wipe_set {σ : St} {i : Nat} {o : Option V} : ∀ {ws : List Nat}, i ∈ ws → wipe (σ.set i o) ws = wipe σ ws
  | w :: ws, h => by
    unfold wipe
    by_cases hi : i ∈ ws
    · rw [wipe_set hi]
    · rw [wipe_set1 hi]
      rcases List.mem_cons.mp h with rfl | z
      · rw [List.set_set]
      · exact absurd z hi
theorem PS.imp {X : Cx} {e : Stmt} {t t' : TS} (h : PS X e t) (i : ∀ D σ H, t' D σ H → t D σ H) : PS X e t' := ⟨fun pins s σ H Q I hw => h.run pins s σ H Q I (i Q σ H hw)⟩
theorem PSs.imp {X : Cx} {e : List Stmt} {t t' : TS} (h : PSs X e t) (i : ∀ D σ H, t' D σ H → t D σ H) : PSs X e t' := ⟨fun pins s σ H Q I hw => h.run pins s σ H Q I (i Q σ H hw)⟩
theorem PG.imp {X : Cx} {e : Expr} {t t' : TG} (h : PG X e t) (i : ∀ v σ H Q, t' v σ H Q → t v σ H Q) : PG X e t' := ⟨fun pins s σ H v u Q I r hw => h.run pins s σ H v u Q I r (i v σ H Q hw)⟩
theorem PGs.imp {X : Cx} {e : List Expr} {t t' : TGs} (h : PGs X e t) (i : ∀ v σ H Q, t' v σ H Q → t v σ H Q) : PGs X e t' := ⟨fun pins s σ H v u Q I r hw => h.run pins s σ H v u Q I r (i v σ H Q hw)⟩
theorem FinM.ext {K : PySem.W.Frag} {C : Ctx} {F F' : Hp} {D : Ends} {fl : Fl} {ρ' : MEnv} (h : FinM K C F D fl ρ') (s : Same F F') : FinM K C F' D fl ρ' := by
  cases fl with
  | nx => exact fun σ' F2 H' R s2 => h σ' F2 H' R (s.trans s2)
  | bk => exact fun σ' F2 H' R s2 => h σ' F2 H' R (s.trans s2)
  | ct => exact fun σ' F2 H' R s2 => h σ' F2 H' R (s.trans s2)
  | rt m => exact fun x σ' F2 H' R s2 => h x σ' F2 H' R (s.trans s2)
  | ro m => exact fun p xs σ' F2 H' R s2 => h p xs σ' F2 H' R (s.trans s2)

/-! ### what is computed -/
def dVal (d : DE) : DI := fun ρ => (d ρ).bind fun p => some (.val p.1, p.2)
def dOwn (d : DA) : DI := fun ρ => (d ρ).bind fun p => some (.own p.1, p.2)
def dNx : DS := fun ρ => some (.nx, ρ)
def dBk : DS := fun ρ => some (.bk, ρ)
def dCt : DS := fun ρ => some (.ct, ρ)
def dNever : DS := fun _ => none
def dSeq (a b : DS) : DS := fun ρ => (a ρ).bind fun p => match p.1 with
  | .nx => b p.2
  | f => some (f, p.2)
def dSet (i : Nat) (d : DI) : DS := fun ρ => (d ρ).bind fun p => some (.nx, p.2.set i (slI p.1))
def dPar (i j : Nat) (d e : DI) : DS := fun ρ => (d ρ).bind fun p => (e p.2).bind fun q => some (.nx, (q.2.set i (slI p.1)).set j (slI q.1))
def dPar3 (i j k : Nat) (d e f : DI) : DS := fun ρ => (d ρ).bind fun p => (e p.2).bind fun q => (f q.2).bind fun r => some (.nx, ((r.2.set i (slI p.1)).set j (slI q.1)).set k (slI r.1))
def gN (i : Nat) : DG := fun m ρ => some (ρ.set i (.val m))
def gsNil : List MV → MEnv → Option MEnv
  | [], ρ => some ρ
  | _, _ => none
def gsCons (g : DG) (gs : List MV → MEnv → Option MEnv) : List MV → MEnv → Option MEnv
  | m :: ms, ρ => (g m ρ).bind fun ρ1 => gs ms ρ1
  | [], _ => none
def gT (n : Nat) (gs : List MV → MEnv → Option MEnv) : DG := fun m ρ => match m with
  | .tup ms => if ms.length = n then gs ms ρ else none
  | _ => none
def dAsg (d : DE) (g : DG) : DS := fun ρ => (d ρ).bind fun p => (g p.1 p.2).bind fun ρ' => some (.nx, ρ')
def ownM : Option Sl → Option (Bool × List MV)
  | some (.own q ms) => some (q, ms)
  | _ => none
/-- x[e] = v -/
def dSetIx (i : Nat) (de di : DE) : DS := fun ρ => (de ρ).bind fun p => (ownM p.2[i]?).bind fun _ => (di p.2).bind fun q => (ownM q.2[i]?).bind fun o => match q.1 with
  | .int k => (ixN o.2.length k).bind fun j => some (.nx, q.2.set i (.own o.1 (o.2.set j p.1)))
  | _ => none
def dAug (i : Nat) (f : MV → MV → Option MV) (de : DE) : DS := fun ρ => match ρ[i]? with
  | some (.val m) => (de ρ).bind fun p => (f m p.1).bind fun n => some (.nx, p.2.set i (.val n))
  | _ => none
def dIfS (t : DT) (a b : DS) : DS := dIf t a b
def dRet (d : DE) : DS := fun ρ => (d ρ).bind fun p => some (.rt p.1, p.2)
def dRetO (d : DA) : DS := fun ρ => (d ρ).bind fun p => some (.ro p.1, p.2)
/-- return x, x a list of its own -/
def dRetV (i : Nat) : DS := fun ρ => match ρ[i]? with
  | some (.own false ms) => some (.ro ms, ρ)
  | _ => none
def dDo (d : DE) : DS := fun ρ => (d ρ).bind fun p => some (.nx, p.2)
/-- x.append(e) .. -/
def dApp (i : Nat) (de : DE) : DE := fun ρ => (ownM ρ[i]?).bind fun _ => (de ρ).bind fun p => (ownM p.2[i]?).bind fun o => if lenOk (o.2.length + 1) then some (.non, p.2.set i (.own o.1 (o.2 ++ [p.1]))) else none
def dExt (i : Nat) (de : DE) : DE := fun ρ => (ownM ρ[i]?).bind fun _ => (de ρ).bind fun p => (ownM p.2[i]?).bind fun o => match p.1 with
  | .lst ns => if lenOk (o.2.length + ns.length) then some (.non, p.2.set i (.own o.1 (o.2 ++ ns))) else none
  | _ => none
def dPop (i : Nat) : DE := fun ρ => (ownM ρ[i]?).bind fun o => (o.2[o.2.length - 1]?).bind fun m => some (m, ρ.set i (.own o.1 o.2.dropLast))
def dRevL (i : Nat) : DE := fun ρ => (ownM ρ[i]?).bind fun o => some (.non, ρ.set i (.own o.1 o.2.reverse))
def whileN : Nat → DT → DS → DS
  | 0, _, _, _ => none
  | n + 1, t, b, ρ => (t ρ).bind fun p => if p.1 then (b p.2).bind fun q => (match q.1 with
      | .nx => whileN n t b q.2
      | .ct => whileN n t b q.2
      | .bk => some (.nx, q.2)
      | f => some (f, q.2)) else some (.nx, p.2)
open Classical in
noncomputable def dWhile (t : DT) (b : DS) : DS := fun ρ => if h : ∃ n r, whileN n t b ρ = some r then some (Classical.choose (Classical.choose_spec h)) else none

/-! ### soundness -/
section
variable {X : Cx} {pos : Pos}
theorem pei_val {e : Expr} {d : DE} (h : PEM X e d) : PEI X e (dVal d) := PE.imp h fun σ H Q ⟨C, F, ρ, v, ρ', R, e, k⟩ => by
  unfold dVal at e
  obtain ⟨⟨m, ρ1⟩, e1, e⟩ := Option.bind_eq_some_iff.mp e
  cases e
  exact ⟨C, F, ρ, _, _, R, e1, fun x F' H' R' s' r' => k x F' H' R' s' r'⟩
theorem pei_own {e : Expr} {d : DA} (h : PEO X e d) : PEI X e (dOwn d) := PE.imp h fun σ H Q ⟨C, F, ρ, v, ρ', R, e, k⟩ => by
  unfold dOwn at e
  obtain ⟨⟨m, ρ1⟩, e1, e⟩ := Option.bind_eq_some_iff.mp e
  cases e
  exact ⟨C, F, ρ, _, _, R, e1, fun p xs F' H' R' s' hp fp h0 ho r => k _ F' H' R' s' ⟨p, xs, rfl, hp, fp, h0, ho, r⟩⟩
theorem Rel.setI {K : PySem.W.Frag} {C : Ctx} {F H : Hp} {σ : St} {ρ : MEnv} (R : Rel K C F H σ ρ) {i : Nat} {v : IV} {x : V} (r : RepI K C F H σ ρ v x) : Rel K C F H (σ.set i (some x)) (ρ.set i (slI v)) := by
  cases v with
  | val m => exact R.setV r
  | own ms =>
    obtain ⟨p, xs, rfl, hp, fp, h0, ho, q⟩ := r
    exact R.setO hp fp q h0 ho

theorem psm_nil : PSsM X [] dNx := PSs.imp pss_nil fun D σ H ⟨C, F, ρ, v, ρ', R, e, k⟩ => by
  cases e
  exact k σ F H R (Same.refl F)
theorem seq_imp {a b : DS} : ∀ D σ H, TMS X.K (dSeq a b) D σ H → tSeq (TMS X.K a) (TMS X.K b) D σ H := fun D σ H ⟨C, F, ρ, fl, ρ', R, e, k⟩ => by
  unfold dSeq at e
  obtain ⟨⟨f1, ρ1⟩, e1, e⟩ := Option.bind_eq_some_iff.mp e
  refine ⟨C, F, ρ, f1, ρ1, R, e1, ?_⟩
  cases f1 with
  | nx => exact fun σ' F' H' R' s' => ⟨C, F', ρ1, fl, ρ', R', e, k.ext s'⟩
  | bk => cases e; exact k
  | ct => cases e; exact k
  | rt m => cases e; exact k
  | ro m => cases e; exact k
theorem psm_cons {st : Stmt} {rest : List Stmt} {a b : DS} (h1 : PSM X st a) (h2 : PSsM X rest b) : PSsM X (st :: rest) (dSeq a b) := PSs.imp (pss_cons h1 h2) seq_imp
theorem psm_one {st : Stmt} {a : DS} (h1 : PSM X st a) : PSsM X [st] a := pss_one h1
theorem psm_pass : PSM X (.Pass pos) dNx := PS.imp ps_pass fun D σ H ⟨C, F, ρ, v, ρ', R, e, k⟩ => by
  cases e
  exact k σ F H R (Same.refl F)
theorem psm_break : PSM X (.Break pos) dBk := PS.imp ps_break fun D σ H ⟨C, F, ρ, v, ρ', R, e, k⟩ => by
  cases e
  exact k σ F H R (Same.refl F)
theorem psm_continue : PSM X (.Continue pos) dCt := PS.imp ps_continue fun D σ H ⟨C, F, ρ, v, ρ', R, e, k⟩ => by
  cases e
  exact k σ F H R (Same.refl F)
theorem psm_never {st : Stmt} : PSM X st dNever := PS.imp ps_never fun D σ H ⟨C, F, ρ, v, ρ', R, e, k⟩ => nomatch e
theorem asg_imp {st : Stmt} {t t' : TE} {g : TG} (h : PS X st (tAsg t g)) (i : ∀ σ H Q, t' σ H Q → t σ H Q) : PS X st (tAsg t' g) := PS.imp h fun D σ H k => i σ H _ k
theorem psm_set {st : Stmt} {i : Nat} {d : DI} (h : PS X st (tAsg (TMI X.K d) (gName i))) : PSM X st (dSet i d) := PS.imp h fun D σ H ⟨C, F, ρ, fl, ρ', R, e, k⟩ => by
  unfold dSet at e
  obtain ⟨⟨v, ρ1⟩, e1, e⟩ := Option.bind_eq_some_iff.mp e
  cases e
  exact ⟨C, F, ρ, _, _, R, e1, fun x F' H' R' s' r' => k _ F' H' (R'.setI r') s'⟩
theorem Rel.nopin {K : PySem.W.Frag} {C : Ctx} {F H : Hp} {σ : St} {ρ : MEnv} (R : Rel K C F H σ ρ) {p : Addr} (h0 : C.H0 p = none) : ∀ i, C.pin i ≠ some p := fun i z => R.pins i p z h0
theorem Rel.noF0 {K : PySem.W.Frag} {C : Ctx} {F H : Hp} {σ : St} {ρ : MEnv} (R : Rel K C F H σ ρ) {p : Addr} (h0 : F p = none) : C.F0 p = none := R.ext.free h0
/-- an item is kept through what comes next -/
theorem keep_item {K : PySem.W.Frag} {C : Ctx} {F H : Hp} {σ : St} {ρ : MEnv} {v : IV} {x : V} (R : Rel K C F H σ ρ) (r : RepI K C F H σ ρ v x) :
    ∃ C', Rel K C' F H σ ρ ∧ ∀ F' H' ρ', Rel K C' F' H' σ ρ' → Same F F' → Rel K C F' H' σ ρ' ∧ RepI K C F' H' σ ρ' v x ∧ ∀ w y, RepI K C' F' H' σ ρ' w y → RepI K C F' H' σ ρ' w y ∧ (∀ p q ms ns, v = .own ms → w = .own ns → x = .ref p → y = .ref q → p ≠ q) := by
  cases v with
  | val m =>
    refine ⟨C, R, fun F' H' ρ' R' s' => ⟨R', RepV.mono s' _ _ r, fun w y h => ⟨h, fun p q ms ns e => nomatch e⟩⟩⟩
  | own ms =>
    obtain ⟨p, xs, rfl, hp, fp, h0, ho, q⟩ := r
    refine ⟨C.shield p (.lst xs), R.shield hp fp h0 ho, fun F' H' ρ' R' s' => ?_⟩
    obtain ⟨R2, hp2, fp2, ho2⟩ := R'.unshield h0 (R.nopin h0) (R.noF0 fp)
    refine ⟨R2, ⟨p, xs, rfl, hp2, fp2, h0, ho2, RepVs.mono s' _ _ q⟩, fun w y h => ?_⟩
    cases w with
    | val m => exact ⟨h, fun _ _ _ _ _ e => nomatch e⟩
    | own ns =>
      obtain ⟨p', ys, rfl, hp', fp', h0', ho', q'⟩ := h
      have hb : p' ≠ p := fun z => by
        subst z
        have h0' : upd C.H0 p' (HO.lst xs) p' = none := h0'
        rw [upd_same] at h0'
        cases h0'
      have h0'' : upd C.H0 p (HO.lst xs) p' = none := h0'
      rw [upd_ne hb] at h0''
      refine ⟨⟨p', ys, rfl, hp', fp', h0'', ho', q'⟩, fun a b _ _ _ _ e1 e2 => ?_⟩
      cases e1
      cases e2
      exact Ne.symm hb
theorem RepI.after {K : PySem.W.Frag} {C : Ctx} {F H : Hp} {σ : St} {ρ : MEnv} {v w : IV} {x y : V} {i : Nat} (r : RepI K C F H σ ρ w y) (hd : ∀ p q ms ns, v = .own ms → w = .own ns → x = .ref p → y = .ref q → p ≠ q) (hl : σ.length = ρ.length) :
    RepI K C F H (σ.set i (some x)) (ρ.set i (slI v)) w y := by
  cases w with
  | val m => exact r
  | own ns =>
    obtain ⟨p, xs, rfl, hp, fp, h0, ho, q⟩ := r
    refine ⟨p, xs, rfl, hp, fp, h0, fun j c ks e z => ?_, q⟩
    rcases set_get e with ⟨rfl, hlt, e'⟩ | ⟨h, e⟩
    · rw [List.getElem?_set_self (by rw [hl]; exact hlt)] at z
      cases v with
      | val m => cases e'
      | own ms =>
        cases z
        exact hd p p ms ns rfl rfl rfl rfl rfl
    · rw [List.getElem?_set_ne h] at z
      exact ho j c ks e z
theorem psm_par {st : Stmt} {i j : Nat} {d e : DI} (h : PS X st (tPar i j (tCons (TMI X.K d) (tCons (TMI X.K e) tNil)))) : PSM X st (dPar i j d e) := PS.imp h fun D σ H ⟨C, F, ρ, fl, ρ', R, e, k⟩ => by
  unfold dPar at e
  obtain ⟨⟨v, ρ1⟩, e1, e⟩ := Option.bind_eq_some_iff.mp e
  obtain ⟨⟨w, ρ2⟩, e2, e⟩ := Option.bind_eq_some_iff.mp e
  cases e
  refine ⟨C, F, ρ, _, _, R, e1, fun x F1 H1 R1 s1 r1 => ?_⟩
  obtain ⟨C', R1', back⟩ := keep_item R1 r1
  refine ⟨C', F1, ρ1, _, _, R1', e2, fun y F2 H2 R2 s2 r2 => ?_⟩
  obtain ⟨R3, r3, more⟩ := back F2 H2 ρ2 R2 s2
  obtain ⟨r4, hd⟩ := more w y r2
  refine ⟨x, y, rfl, k _ F2 H2 ?_ (s1.trans s2)⟩
  exact (R3.setI r3).setI (r4.after hd R3.len)
theorem pgm_name {tg : Expr} {i : Nat} {ws : List Nat} (h : PG X tg (gName i)) (hi : i ∈ ws) : PGM X ws tg (gN i) := PG.imp h fun v σ H Q ⟨C, F, ρ, m, ρ', R, r, e, k⟩ => by
  cases e
  exact k _ F H (wipe_set hi) (R.setV r) (Same.refl F)
theorem pgms_nil {ws : List Nat} : PGs X [] (TMGs X.K ws gsNil) := PGs.imp pgs_nil fun v σ H Q ⟨C, F, ρ, ms, ρ', R, r, e, k⟩ => by
  cases ms with
  | nil =>
    cases e
    exact ⟨RepVs.nil_iff.mp r, k _ F H rfl R (Same.refl F)⟩
  | cons m ms => cases e
theorem pgms_cons {e : Expr} {es : List Expr} {ws : List Nat} {g : DG} {gs : List MV → MEnv → Option MEnv} (h1 : PGM X ws e g) (h2 : PGs X es (TMGs X.K ws gs)) (hs : (assignEach (e :: es) X.env).map (·.2) = assign e X.env :: (assignEach es X.env).map (·.2) := by rfl) :
    PGs X (e :: es) (TMGs X.K ws (gsCons g gs)) := PGs.imp (pgs_cons h1 h2 hs) fun v σ H Q ⟨C, F, ρ, ms, ρ', R, r, e, k⟩ => by
  cases ms with
  | nil => cases e
  | cons m ms =>
    obtain ⟨x, xs, rfl, r1, r2⟩ := r.inv
    obtain ⟨ρ1, e1, e2⟩ := Option.bind_eq_some_iff.mp (show ((g m ρ).bind fun ρ1 => gs ms ρ1) = some ρ' from e)
    exact ⟨x, xs, rfl, C, F, ρ, m, ρ1, R, r1, e1, fun σ1 F1 H1 w1 R1 s1 => ⟨C, F1, ρ1, ms, ρ', R1, RepVs.mono s1 _ _ r2, e2, fun σ2 F2 H2 w2 R2 s2 => k σ2 F2 H2 (w2.trans w1) R2 (s1.trans s2)⟩⟩
theorem pgm_tup {es : List Expr} {kk : Nat} {ws : List Nat} {gs : List MV → MEnv → Option MEnv} {n : Nat} (hc : X.calm = true) (h : PGs X es (TMGs X.K ws gs)) (hn : (assignEach es X.env).length = n := by rfl) (hst : (assignEach es X.env).findIdx? (·.1) = none := by rfl) :
    PGM X ws (.Tuple es kk pos) (gT n gs) := PG.imp (pg_tup (n := n) hc h hn hst) fun v σ H Q ⟨C, F, ρ, m, ρ', R, r, e, k⟩ => by
  cases m with
  | tup ms =>
    obtain ⟨a, xs, rfl, q, r'⟩ := rv_tup r
    have e' : (if ms.length = n then gs ms ρ else none) = some ρ' := e
    split at e'
    · rename_i hl
      exact ⟨a, xs, rfl, Same.sqT R.frz q, r'.length.trans hl, C, F, ρ, ms, ρ', R, r', e', k⟩
    · cases e'
  | _ => cases e
theorem psm_asg {st : Stmt} {ws : List Nat} {d : DE} {g : DG} (h : PS X st (tAsg (TM X.K d) (TMG X.K ws g))) : PSM X st (dAsg d g) := PS.imp h fun D σ H ⟨C, F, ρ, fl, ρ', R, e, k⟩ => by
  unfold dAsg at e
  obtain ⟨⟨m, ρ1⟩, e1, e⟩ := Option.bind_eq_some_iff.mp e
  obtain ⟨ρ2, e2, e⟩ := Option.bind_eq_some_iff.mp e
  cases e
  exact ⟨C, F, ρ, _, _, R, e1, fun x F1 H1 R1 s1 r1 => ⟨C, F1, ρ1, m, _, R1, r1, e2, fun σ2 F2 H2 w2 R2 s2 => k σ2 F2 H2 R2 (s1.trans s2)⟩⟩
theorem Rel.owned {K : PySem.W.Frag} {C : Ctx} {F H : Hp} {σ : St} {ρ : MEnv} (R : Rel K C F H σ ρ) {i : Nat} {o : Bool × List MV} (e : ownM ρ[i]? = some o) : ρ[i]? = some (Sl.own o.1 o.2) ∧ ∃ a xs, σ[i]? = some (some (.ref a)) ∧ H a = some (.lst xs) ∧ RepVs K F o.2 xs := by
  unfold ownM at e
  split at e
  · rename_i q ms hn
    cases e
    obtain ⟨a, xs, h1, h2, h3, h4, _⟩ := R.own i _ _ hn
    exact ⟨hn, a, xs, h1, h2, h4⟩
  · cases e
theorem psm_setix {st : Stmt} {i : Nat} {de di : DE} (h : PS X st (tAsg (TM X.K de) (gSub (tVar i) (TM X.K di) rSetL))) : PSM X st (dSetIx i de di) := PS.imp h fun D σ H ⟨C, F, ρ, fl, ρ', R, e, k⟩ => by
  unfold dSetIx at e
  obtain ⟨⟨m, ρ1⟩, e1, e⟩ := Option.bind_eq_some_iff.mp e
  obtain ⟨o1, e2, e⟩ := Option.bind_eq_some_iff.mp e
  obtain ⟨⟨n, ρ2⟩, e3, e⟩ := Option.bind_eq_some_iff.mp e
  obtain ⟨o2, e4, e⟩ := Option.bind_eq_some_iff.mp e
  cases n with
  | int z =>
    obtain ⟨j, e5, e⟩ := Option.bind_eq_some_iff.mp (show ((ixN o2.2.length z).bind fun j => some (Fl.nx, ρ2.set i (.own o2.1 (o2.2.set j m)))) = some (fl, ρ') from e)
    cases e
    refine ⟨C, F, ρ, _, _, R, e1, fun x F1 H1 R1 s1 r1 => ?_⟩
    obtain ⟨_, a, xs, h1, _⟩ := R1.owned e2
    refine ⟨.ref a, h1, C, F1, ρ1, _, _, R1, e3, fun y F2 H2 R2 s2 r2 => ?_⟩
    obtain ⟨g0, a', ys, g1, g2, g3⟩ := R2.owned e4
    rw [h1] at g1
    cases g1
    have := rv_int r2
    subst this
    exact ⟨a, ys, z, j, rfl, rfl, g2, by rw [g3.length]; exact e5, k _ F2 _ (R2.write g0 h1 (g3.set j (RepV.mono s2 _ _ r1))) (s1.trans s2)⟩
  | _ => cases e
theorem psm_aug {st : Stmt} {i : Nat} {f : MV → MV → Option MV} {r : R2} {d : DE} (h : PS X st (tAug i (TM X.K d) r)) (o : Op2 X.K f r) : PSM X st (dAug i f d) := PS.imp h fun D σ H ⟨C, F, ρ, fl, ρ', R, e, k⟩ => by
  unfold dAug at e
  split at e
  · rename_i m hm
    obtain ⟨⟨n, ρ1⟩, e1, e⟩ := Option.bind_eq_some_iff.mp e
    obtain ⟨n2, e2, e⟩ := Option.bind_eq_some_iff.mp e
    cases e
    obtain ⟨x, h1, h2⟩ := R.val i m hm
    exact ⟨x, h1, C, F, ρ, _, _, R, e1, fun y F1 H1 R1 s1 r1 => o C F1 H1 σ ρ1 m n n2 x y _ R1 (RepV.mono s1 _ _ h2) r1 e2 fun z F2 H2 R2 s2 r2 => k _ F2 H2 (R2.setV r2) (s1.trans s2)⟩
  · cases e
theorem psm_if {c : Expr} {sa sb : List Stmt} {t : DT} {a b : DS} (hc : PTM X c t) (ha : PSsM X sa a) (hb : PSsM X sb b) : PSM X (.If c sa sb pos) (dIfS t a b) := PS.imp (ps_if hc ha hb) fun D σ H ⟨C, F, ρ, fl, ρ', R, e, k⟩ => by
  unfold dIfS dIf at e
  obtain ⟨⟨c1, ρ1⟩, e1, e⟩ := Option.bind_eq_some_iff.mp e
  refine ⟨C, F, ρ, c1, ρ1, R, e1, fun F' H' R' s' => ?_⟩
  cases c1 with
  | true => exact iteT ⟨C, F', ρ1, fl, ρ', R', e, k.ext s'⟩
  | false => exact iteF ⟨C, F', ρ1, fl, ρ', R', e, k.ext s'⟩
theorem psm_ret {e : Expr} {d : DE} (h : PEM X e d) : PSM X (.Return (some e) pos) (dRet d) := PS.imp (ps_ret h) fun D σ H ⟨C, F, ρ, fl, ρ', R, e, k⟩ => by
  unfold dRet at e
  obtain ⟨⟨m, ρ1⟩, e1, e⟩ := Option.bind_eq_some_iff.mp e
  cases e
  exact ⟨C, F, ρ, _, _, R, e1, fun x F' H' R' s' r' => k x σ F' H' R' s' r'⟩
theorem psm_reto {e : Expr} {d : DA} (h : PEO X e d) : PSM X (.Return (some e) pos) (dRetO d) := PS.imp (ps_ret h) fun D σ H ⟨C, F, ρ, fl, ρ', R, e, k⟩ => by
  unfold dRetO at e
  obtain ⟨⟨m, ρ1⟩, e1, e⟩ := Option.bind_eq_some_iff.mp e
  cases e
  exact ⟨C, F, ρ, _, _, R, e1, fun p xs F' H' R' s' hp fp h0 ho r => k p xs σ F' H' R' s' hp fp h0 r⟩
theorem psm_retv {i : Nat} {x : Str} {p : Pos} (h : PE X (.Name x p) (tVar i)) : PSM X (.Return (some (.Name x p)) pos) (dRetV i) := PS.imp (ps_ret h) fun D σ H ⟨C, F, ρ, fl, ρ', R, e, k⟩ => by
  unfold dRetV at e
  split at e
  · rename_i ms hm
    cases e
    obtain ⟨a, xs, h1, h2, h3, h4, h5⟩ := R.own i _ _ hm
    exact ⟨_, h1, k a xs σ F H R (Same.refl F) h2 h3 h5 h4⟩
  · cases e
theorem psm_do {e : Expr} {d : DE} (h : PEM X e d) (hs : swapsWith e none pos.line X.env = pure false := by rfl) : PSM X (.Expr e pos) (dDo d) := PS.imp (ps_expr h hs) fun D σ H ⟨C, F, ρ, fl, ρ', R, e, k⟩ => by
  unfold dDo at e
  obtain ⟨⟨m, ρ1⟩, e1, e⟩ := Option.bind_eq_some_iff.mp e
  cases e
  exact ⟨C, F, ρ, _, _, R, e1, fun x F' H' R' s' r' => k σ F' H' R' s'⟩
theorem tyL {K : PySem.W.Frag} {H : Hp} {a : Addr} {xs : List V} (h : H a = some (.lst xs)) : tyV K "list" (.ref a) H := Or.inl ⟨rfl, _, Or.inl (Or.inl h)⟩
theorem pem_app {e : Expr} {i : Nat} {d : DE} (h : PE X e (tBM X.K "list" rAppend (tVar i) (TMA X.K (dCons d dNil)))) : PEM X e (dApp i d) := PE.imp h fun σ H Q ⟨C, F, ρ, m, ρ', R, e, k⟩ => by
  unfold dApp at e
  obtain ⟨o1, e1, e⟩ := Option.bind_eq_some_iff.mp e
  obtain ⟨⟨n, ρ1⟩, e2, e⟩ := Option.bind_eq_some_iff.mp e
  obtain ⟨o2, e3, e⟩ := Option.bind_eq_some_iff.mp e
  split at e
  · rename_i hl
    cases e
    obtain ⟨_, a, xs, h1, h2, _⟩ := R.owned e1
    refine ⟨.ref a, h1, tyL h2, C, F, ρ, _, _, R, (show dCons d dNil ρ = some ([n], ρ1) by unfold dCons; rw [e2]; rfl), fun ys F1 H1 R1 s1 r1 => ?_⟩
    obtain ⟨y, rfl, ry⟩ := rvs1 r1
    obtain ⟨g0, a', zs, g1, g2, g3⟩ := R1.owned e3
    rw [h1] at g1
    cases g1
    exact ⟨a, zs, y, rfl, rfl, g2, by rw [g3.length]; exact lenOk_le hl, k _ F1 _ (R1.write g0 h1 (g3.append (RepVs.cons ry RepVs.nil))) s1 (by simp only [RepV])⟩
  · cases e
theorem pem_ext {e : Expr} {i : Nat} {d : DE} (h : PE X e (tBM X.K "list" rExtend (tVar i) (TMA X.K (dCons d dNil)))) : PEM X e (dExt i d) := PE.imp h fun σ H Q ⟨C, F, ρ, m, ρ', R, e, k⟩ => by
  unfold dExt at e
  obtain ⟨o1, e1, e⟩ := Option.bind_eq_some_iff.mp e
  obtain ⟨⟨n, ρ1⟩, e2, e⟩ := Option.bind_eq_some_iff.mp e
  obtain ⟨o2, e3, e⟩ := Option.bind_eq_some_iff.mp e
  cases n with
  | lst ns =>
    have e' : (if lenOk (o2.2.length + ns.length) then some (MV.non, ρ1.set i (.own o2.1 (o2.2 ++ ns))) else none) = some (m, ρ') := e
    split at e'
    · rename_i hl
      cases e'
      obtain ⟨_, a, xs, h1, h2, _⟩ := R.owned e1
      refine ⟨.ref a, h1, tyL h2, C, F, ρ, _, _, R, (show dCons d dNil ρ = some ([.lst ns], ρ1) by unfold dCons; rw [e2]; rfl), fun ys F1 H1 R1 s1 r1 => ?_⟩
      obtain ⟨y, rfl, ry⟩ := rvs1 r1
      obtain ⟨b, us, rfl, q, r⟩ := rv_lst ry
      obtain ⟨g0, a', zs, g1, g2, g3⟩ := R1.owned e3
      rw [h1] at g1
      cases g1
      exact ⟨a, b, zs, us, rfl, rfl, g2, R1.frz _ _ q, by rw [g3.length, r.length]; exact lenOk_le hl, k _ F1 _ (R1.write g0 h1 (g3.append r)) s1 (by simp only [RepV])⟩
    · cases e'
  | _ => cases e
theorem pem_pop {e : Expr} {i : Nat} (h : PE X e (tBM0 X.K "list" rPop (tVar i))) : PEM X e (dPop i) := PE.imp h fun σ H Q ⟨C, F, ρ, m, ρ', R, e, k⟩ => by
  unfold dPop at e
  obtain ⟨o, e1, e⟩ := Option.bind_eq_some_iff.mp e
  obtain ⟨n, e2, e⟩ := Option.bind_eq_some_iff.mp e
  cases e
  obtain ⟨g0, a, xs, h1, h2, h3⟩ := R.owned e1
  obtain ⟨x, g1, g2⟩ := h3.get e2
  exact ⟨.ref a, h1, tyL h2, a, xs, x, rfl, rfl, h2, by rw [h3.length]; exact g1, k _ F _ (R.write g0 h1 h3.dropLast) (Same.refl F) g2⟩
theorem pem_rev {e : Expr} {i : Nat} (h : PE X e (tBM0 X.K "list" rReverse (tVar i))) : PEM X e (dRevL i) := PE.imp h fun σ H Q ⟨C, F, ρ, m, ρ', R, e, k⟩ => by
  unfold dRevL at e
  obtain ⟨o, e1, e⟩ := Option.bind_eq_some_iff.mp e
  cases e
  obtain ⟨g0, a, xs, h1, h2, h3⟩ := R.owned e1
  exact ⟨.ref a, h1, tyL h2, a, xs, rfl, rfl, h2, k _ F _ (R.write g0 h1 h3.reverse) (Same.refl F) (by simp only [RepV])⟩

/-! while -/
theorem whileN_succ {t : DT} {b : DS} : ∀ (n : Nat) ρ r, whileN n t b ρ = some r → whileN (n + 1) t b ρ = some r
  | 0, ρ, r, h => nomatch h
  | n + 1, ρ, r, h => by
    unfold whileN at h ⊢
    obtain ⟨⟨c, ρ1⟩, e1, h⟩ := Option.bind_eq_some_iff.mp h
    rw [e1]
    cases c with
    | false => exact h
    | true =>
      obtain ⟨⟨f, ρ2⟩, e2, h⟩ := Option.bind_eq_some_iff.mp (show (b ρ1).bind _ = some r from h)
      show (b ρ1).bind _ = some r
      rw [e2]
      cases f with
      | nx => exact whileN_succ n ρ2 r h
      | ct => exact whileN_succ n ρ2 r h
      | bk => exact h
      | rt m => exact h
      | ro m => exact h
theorem whileN_le {t : DT} {b : DS} {n k : Nat} {ρ r} (h : whileN n t b ρ = some r) (hk : n ≤ k) : whileN k t b ρ = some r := by
  induction hk with
  | refl => exact h
  | step _ ih => exact whileN_succ _ _ _ ih
theorem dWhile_iff {t : DT} {b : DS} {ρ r} : dWhile t b ρ = some r ↔ ∃ n, whileN n t b ρ = some r := by
  unfold dWhile
  constructor
  · intro h
    split at h
    · rename_i hx
      cases h
      exact ⟨_, Classical.choose_spec (Classical.choose_spec hx)⟩
    · cases h
  · rintro ⟨n, h⟩
    have hx : ∃ n r, whileN n t b ρ = some r := ⟨n, r, h⟩
    rw [dif_pos hx]
    have h2 := Classical.choose_spec (Classical.choose_spec hx)
    have h3 := whileN_le h2 (Nat.le_max_left _ n)
    have h4 := whileN_le h (Nat.le_max_right (Classical.choose hx) n)
    rw [h3] at h4
    exact h4
theorem dWhile_step {t : DT} {b : DS} {ρ : MEnv} : dWhile t b ρ = (t ρ).bind fun p => if p.1 then (b p.2).bind fun q => (match q.1 with
      | .nx => dWhile t b q.2
      | .ct => dWhile t b q.2
      | .bk => some (.nx, q.2)
      | f => some (f, q.2)) else some (.nx, p.2) := by
  have key : ∀ r, dWhile t b ρ = some r ↔ ((t ρ).bind fun p => if p.1 then (b p.2).bind fun q => (match q.1 with
      | .nx => dWhile t b q.2
      | .ct => dWhile t b q.2
      | .bk => some (.nx, q.2)
      | f => some (f, q.2)) else some (.nx, p.2)) = some r := fun r => by
    constructor
    · intro h
      obtain ⟨n, h⟩ := dWhile_iff.mp h
      cases n with
      | zero => cases h
      | succ n =>
        unfold whileN at h
        obtain ⟨⟨c, ρ1⟩, e1, h⟩ := Option.bind_eq_some_iff.mp h
        rw [e1]
        cases c with
        | false => exact h
        | true =>
          obtain ⟨⟨f, ρ2⟩, e2, h⟩ := Option.bind_eq_some_iff.mp (show (b ρ1).bind _ = some r from h)
          show (b ρ1).bind _ = some r
          rw [e2]
          cases f with
          | nx => exact dWhile_iff.mpr ⟨n, h⟩
          | ct => exact dWhile_iff.mpr ⟨n, h⟩
          | bk => exact h
          | rt m => exact h
          | ro m => exact h
    · intro h
      obtain ⟨⟨c, ρ1⟩, e1, h⟩ := Option.bind_eq_some_iff.mp h
      have mk : ∀ n, (if c then (b ρ1).bind fun q => (match q.1 with
      | .nx => whileN n t b q.2
      | .ct => whileN n t b q.2
      | .bk => some (.nx, q.2)
      | f => some (f, q.2)) else some (.nx, ρ1)) = some r → dWhile t b ρ = some r := fun n h => dWhile_iff.mpr ⟨n + 1, by
        unfold whileN
        rw [e1]
        exact h⟩
      cases c with
      | false => exact mk 0 h
      | true =>
        obtain ⟨⟨f, ρ2⟩, e2, h⟩ := Option.bind_eq_some_iff.mp (show (b ρ1).bind _ = some r from h)
        cases f with
        | nx =>
          obtain ⟨n, h⟩ := dWhile_iff.mp h
          exact mk n (by show (b ρ1).bind _ = some r; rw [e2]; exact h)
        | ct =>
          obtain ⟨n, h⟩ := dWhile_iff.mp h
          exact mk n (by show (b ρ1).bind _ = some r; rw [e2]; exact h)
        | bk => exact mk 0 (by show (b ρ1).bind _ = some r; rw [e2]; exact h)
        | rt m => exact mk 0 (by show (b ρ1).bind _ = some r; rw [e2]; exact h)
        | ro m => exact mk 0 (by show (b ρ1).bind _ = some r; rw [e2]; exact h)
  cases e : dWhile t b ρ with
  | some r => exact ((key r).mp e).symm
  | none =>
    cases e2 : ((t ρ).bind fun p => if p.1 then (b p.2).bind fun q => (match q.1 with
      | .nx => dWhile t b q.2
      | .ct => dWhile t b q.2
      | .bk => some (.nx, q.2)
      | f => some (f, q.2)) else some (.nx, p.2)) with
    | none => rfl
    | some r =>
      rw [(key r).mpr e2] at e
      cases e
theorem psm_while {c : Expr} {body : List Stmt} {t : DT} {b : DS} (hp : PassesOwn (model X.prog X.w) X.A X.env X.xe) (hc : PTM X c t) (hb : PSsM X body b) : PSM X (.While c body [] pos) (dWhile t b) := PS.imp (ps_while hp hc hb) fun D σ H ⟨C, F, ρ, fl, ρ', R, e, k⟩ => by
  obtain ⟨n, e⟩ := dWhile_iff.mp e
  refine ⟨fun m σ H => ∃ F1 ρ1, Rel X.K C F1 H σ ρ1 ∧ Same F F1 ∧ whileN m t b ρ1 = some (fl, ρ'), ⟨n, F, ρ, R, Same.refl F, e⟩, ?_⟩
  rintro m σ1 H1 ⟨F1, ρ1, R1, s1, e1⟩
  cases m with
  | zero => cases e1
  | succ m =>
    unfold whileN at e1
    obtain ⟨⟨c1, ρ2⟩, e2, e1⟩ := Option.bind_eq_some_iff.mp e1
    refine ⟨C, F1, ρ1, c1, ρ2, R1, e2, fun F2 H2 R2 s2 => ?_⟩
    cases c1 with
    | false =>
      cases e1
      exact iteF (k σ1 F2 H2 R2 (s1.trans s2))
    | true =>
      refine iteT ⟨fun σ H => ∃ F1 ρ1, Rel X.K C F1 H σ ρ1 ∧ Same F F1 ∧ whileN m t b ρ1 = some (fl, ρ'), fun σ' H' h => ⟨m, Nat.lt_succ_self m, h⟩, ?_⟩
      obtain ⟨⟨f, ρ3⟩, e3, e1⟩ := Option.bind_eq_some_iff.mp (show (b ρ2).bind _ = some (fl, ρ') from e1)
      refine ⟨C, F2, ρ2, f, ρ3, R2, e3, ?_⟩
      cases f with
      | nx => exact fun σ' F' H' R' s' => ⟨F', ρ3, R', (s1.trans s2).trans s', e1⟩
      | ct => exact fun σ' F' H' R' s' => ⟨F', ρ3, R', (s1.trans s2).trans s', e1⟩
      | bk =>
        cases e1
        exact fun σ' F' H' R' s' => k σ' F' H' R' ((s1.trans s2).trans s')
      | rt mm =>
        cases e1
        exact fun x σ' F' H' R' s' => k x σ' F' H' R' ((s1.trans s2).trans s')
      | ro mm =>
        cases e1
        exact fun p xs σ' F' H' R' s' => k p xs σ' F' H' R' ((s1.trans s2).trans s')
end
end ML
namespace ML
open PySem L2

/-! ### what is computed -/
def forM (g : DG) (b : DS) : List MV → DS
  | [], ρ => some (.nx, ρ)
  | m :: ms, ρ => (g m ρ).bind fun ρ1 => (b ρ1).bind fun q => match q.1 with
    | .nx => forM g b ms q.2
    | .ct => forM g b ms q.2
    | .bk => some (.nx, q.2)
    | f => some (f, q.2)
def dFor (dj : DA) (g : DG) (b : DS) : DS := fun ρ => (dj ρ).bind fun p => forM g b p.1 p.2
def wipeM (ρ : MEnv) : List Nat → MEnv
  | [] => ρ
  | v :: vs => (wipeM ρ vs).set v .no
def dYes : DT := fun ρ => some (true, ρ)
def lcM (vs : List Nat) (g : DG) (t : DT) (e : DE) : List MV → List MV → MEnv → Option (List MV × MEnv)
  | [], acc, ρ => some (acc, ρ)
  | m :: ms, acc, ρ => (g m ρ).bind fun ρ1 => (t ρ1).bind fun p => if p.1 then (e p.2).bind fun q => if lenOk (acc.length + 1) then lcM vs g t e ms (acc ++ [q.1]) (wipeM q.2 vs) else none
      else lcM vs g t e ms acc (wipeM p.2 vs)
def dLc (dj : DA) (vs : List Nat) (g : DG) (t : DT) (e : DE) : DA := fun ρ => (dj ρ).bind fun p => lcM vs g t e p.1 [] (wipeM p.2 vs)
def dItems (d : DE) : DA := fun ρ => (d ρ).bind fun p => (seqM p.1).bind fun ms => some (ms, p.2)
def rng (lo : Int) (n : Nat) : List MV := (List.range n).map fun k => .int (lo + (k : Nat))
def rng1F : List MV → Option (List MV)
  | [.int j] => if j < 2 ^ 62 ∧ -(2 ^ 62) ≤ j then some (rng 0 j.toNat) else none
  | _ => none
def rng2F : List MV → Option (List MV)
  | [.int i, .int j] => if -(2 ^ 62) ≤ i ∧ i < 2 ^ 62 ∧ -(2 ^ 62) ≤ j ∧ j < 2 ^ 62 then some (rng i (j - i).toNat) else none
  | _ => none
def enumM : Nat → List MV → List MV
  | _, [] => []
  | n, m :: ms => .tup [.int n, m] :: enumM (n + 1) ms
def enumF : List MV → Option (List MV)
  | [m] => (seqM m).bind fun ms => some (enumM 0 ms)
  | _ => none
def zipM : List MV → List MV → List MV
  | m :: ms, n :: ns => .tup [m, n] :: zipM ms ns
  | _, _ => []
def zipF : List MV → Option (List MV)
  | [.tup ms, .tup ns] => some (zipM ms ns)
  | [.lst ms, .lst ns] => some (zipM ms ns)
  | _ => none
/-- a function of the program by its body -/
def env0 (n : Nat) (ms : List MV) : MEnv := ms.map Sl.val ++ List.replicate (n - ms.length) Sl.no
def fnP (n : Nat) (b : DS) : List MV → Option MV := fun ms => (b (env0 n ms)).bind fun p => match p.1 with
  | .rt m => some m
  | .nx => some .non
  | _ => none
def fnO (n : Nat) (b : DS) : List MV → Option (List MV) := fun ms => (b (env0 n ms)).bind fun p => match p.1 with
  | .ro m => some m
  | _ => none
def envI (n : Nat) (ds : List MV) (ms : List MV) : MEnv := Sl.own true ds :: ms.map Sl.val ++ List.replicate (n - 1 - ms.length) Sl.no
def outI (ρ : MEnv) : Option (List MV) := match (ρ[0]? : Option Sl) with
  | some (Sl.own true ms) => some ms
  | _ => none
/-- .. whose first parameter is a list that it changes -/
def fnI (n : Nat) (b : DS) : List MV → List MV → Option (MV × List MV) := fun ds ms => (b (envI n ds ms)).bind fun p => (outI p.2).bind fun o => match p.1 with
  | .rt m => some (m, o)
  | .nx => some (.non, o)
  | _ => none
def fnIO (n : Nat) (b : DS) : List MV → List MV → Option (List MV × List MV) := fun ds ms => (b (envI n ds ms)).bind fun p => (outI p.2).bind fun o => match p.1 with
  | .ro m => some (m, o)
  | _ => none
/-- f(x, ..), x the list that f changes -/
def dCallI (f : List MV → List MV → Option (MV × List MV)) (i : Nat) (ds : DA) : DE := fun ρ => (ownM ρ[i]?).bind fun _ => (ds ρ).bind fun p => (ownM p.2[i]?).bind fun o => (f o.2 p.1).bind fun r => some (r.1, p.2.set i (.own o.1 r.2))
def dCallIO (f : List MV → List MV → Option (List MV × List MV)) (i : Nat) (ds : DA) : DA := fun ρ => (ownM ρ[i]?).bind fun _ => (ds ρ).bind fun p => (ownM p.2[i]?).bind fun o => (f o.2 p.1).bind fun r => some (r.1, p.2.set i (.own o.1 r.2))

/-! ### soundness: what is walked -/
def JOk (K : PySem.W.Frag) (J : It) (F : Hp) (ms : List MV) : Prop := ∀ (i : Nat) (H F' : Hp), Same F F' → Same F' H →
  (∀ m, ms[i]? = some m → J.go i H ∧ ∀ x H', J.yld i H x H' → (H' = H ∧ RepV K F' m x) ∨ (∃ p o, H p = none ∧ H' = upd H p o ∧ RepV K (upd F' p o) m x)) ∧ (ms.length ≤ i → J.stop i H)
def TMJ (K : PySem.W.Frag) (d : DA) : TI := fun σ H R => ∃ C F ρ ms ρ', Rel K C F H σ ρ ∧ d ρ = some (ms, ρ') ∧ ∀ J F' H', Rel K C F' H' σ ρ' → Same F F' → JOk K J F' ms → R J H'
abbrev PIM (X : Cx) (tg e : Expr) (d : DA) : Prop := PI X tg e (TMJ X.K d)
theorem PI.imp {X : Cx} {tg e : Expr} {t t' : TI} (h : PI X tg e t) (i : ∀ σ H Q, t' σ H Q → t σ H Q) : PI X tg e t' := ⟨fun pins s σ H Q I hw => h.run pins s σ H Q I (i σ H Q hw)⟩
section
variable {K : PySem.W.Frag} {F : Hp}
theorem itl_inj {a : Addr} {xs : List V} (h : F a = some (.lst xs)) : ∀ {H ys}, Same F H → Rd H a (.lst ys) → ys = xs := fun {H ys} s r => by
  have e := s _ _ h
  rcases r with r | ⟨o, r⟩
  · rw [e] at r
    cases r
    rfl
  · rw [e] at r
    cases r
theorem jok_list {a : Addr} {ms : List MV} {xs : List V} (h : SqL K F a xs) (r : RepVs K F ms xs) : JOk K (Itl K a) F ms := fun i H F' s1 s2 => by
  have q : SqL K H a xs := s2.seq (s1.seq h)
  refine ⟨fun m e => ?_, fun e => ⟨xs, q, by rw [r.length]; exact e⟩⟩
  obtain ⟨x, h1, h2⟩ := r.get e
  exact ⟨⟨xs, x, q, h1⟩, fun y H' ⟨e1, e2⟩ => .inl ⟨e1, by
    have := e2 xs q
    rw [h1] at this
    cases this
    exact RepV.mono s1 _ _ h2⟩⟩
theorem jok_tup {a : Addr} {ms : List MV} {xs : List V} (h : SqT K F a xs) (r : RepVs K F ms xs) : JOk K (Itt K a) F ms := fun i H F' s1 s2 => by
  have q : SqT K H a xs := Same.sqT s2 (Same.sqT s1 h)
  refine ⟨fun m e => ?_, fun e => ⟨xs, q, by rw [r.length]; exact e⟩⟩
  obtain ⟨x, h1, h2⟩ := r.get e
  exact ⟨⟨xs, x, q, h1⟩, fun y H' ⟨e1, e2⟩ => .inl ⟨e1, by
    have := e2 xs q
    rw [h1] at this
    cases this
    exact RepV.mono s1 _ _ h2⟩⟩
theorem rng_get {lo : Int} {n i : Nat} {m : MV} (h : (rng lo n)[i]? = some m) : i < n ∧ m = .int (lo + (i : Nat)) := by
  unfold rng at h
  rw [List.getElem?_map] at h
  cases e : (List.range n)[i]? with
  | none =>
    rw [e] at h
    cases h
  | some k =>
    rw [e] at h
    have h1 := List.getElem?_eq_some_iff.mp e
    obtain ⟨h2, h3⟩ := h1
    rw [List.getElem_range] at h3
    subst h3
    rw [List.length_range] at h2
    exact ⟨h2, (Option.some.inj h).symm⟩
theorem rng_len {lo : Int} {n : Nat} : (rng lo n).length = n := by unfold rng; rw [List.length_map, List.length_range]
theorem jok_rng {lo : Int} {n : Nat} : JOk K (Itr lo n) F (rng lo n) := fun i H F' s1 s2 => by
  refine ⟨fun m e => ?_, fun e => by rw [rng_len] at e; exact e⟩
  obtain ⟨h1, rfl⟩ := rng_get e
  exact ⟨h1, fun x H' ⟨e1, e2⟩ => .inl ⟨e1, by subst e2; exact int_rv⟩⟩
theorem zip_get : ∀ {ms ns : List MV} {i : Nat} {m : MV}, (zipM ms ns)[i]? = some m → ∃ a b, ms[i]? = some a ∧ ns[i]? = some b ∧ m = .tup [a, b]
  | [], ns, i, m, h => by simp [zipM] at h
  | a :: ms, [], i, m, h => by simp [zipM] at h
  | a :: ms, b :: ns, 0, m, h => by
    simp [zipM] at h
    exact ⟨a, b, rfl, rfl, h.symm⟩
  | a :: ms, b :: ns, i + 1, m, h => by
    simp [zipM] at h
    obtain ⟨c, d, h1, h2, h3⟩ := zip_get h
    exact ⟨c, d, by simpa using h1, by simpa using h2, h3⟩
theorem zip_len : ∀ {ms ns : List MV} {i : Nat}, (zipM ms ns).length ≤ i → ms.length ≤ i ∨ ns.length ≤ i
  | [], ns, i, h => .inl (Nat.zero_le _)
  | a :: ms, [], i, h => .inr (Nat.zero_le _)
  | a :: ms, b :: ns, 0, h => by simp [zipM] at h
  | a :: ms, b :: ns, i + 1, h => by
    simp only [zipM, List.length_cons, Nat.add_le_add_iff_right] at h ⊢
    exact zip_len h
theorem pair_rv {F' : Hp} {p : Addr} {a b : MV} {x y : V} {F2 : Hp} (hp : F' p = none) (s : Same F F') (ha : RepV K F a x) (hb : RepV K F b y) : RepV K (upd F' p (.tup [x, y])) (.tup [a, b]) (.ref p) := by
  have s2 : Same F (upd F' p (.tup [x, y])) := fun c u e => by
    have e' := s c u e
    rw [upd_ne (ne_of_none e' hp)]
    exact e'
  exact tup_rv upd_same (RepVs.cons (RepV.mono s2 _ _ ha) (RepVs.cons (RepV.mono s2 _ _ hb) RepVs.nil))
theorem jok_zipL {a b : Addr} {ms ns : List MV} {xs ys : List V} (h : SqL K F a xs) (r : RepVs K F ms xs) (h' : SqL K F b ys) (r' : RepVs K F ns ys) : JOk K (Itz K a b) F (zipM ms ns) := fun i H F' s1 s2 => by
  have q : SqL K H a xs := s2.seq (s1.seq h)
  have q' : SqL K H b ys := s2.seq (s1.seq h')
  refine ⟨fun m e => ?_, fun e => ⟨xs, ys, q, q', by rw [r.length, r'.length]; exact zip_len e⟩⟩
  obtain ⟨c, d, e1, e2, rfl⟩ := zip_get e
  obtain ⟨x, g1, g2⟩ := r.get e1
  obtain ⟨y, g3, g4⟩ := r'.get e2
  refine ⟨⟨xs, ys, x, y, q, q', g1, g3⟩, fun v H' ⟨T, x', y', hv, hT, hH, k1, k2⟩ => .inr ⟨T, _, hT, hH, ?_⟩⟩
  have z1 := k1 xs q
  have z2 := k2 ys q'
  rw [g1] at z1
  rw [g3] at z2
  cases z1
  cases z2
  subst hv
  exact pair_rv (F2 := F) (s2.free hT) s1 g2 g4
theorem jok_zipT {a b : Addr} {ms ns : List MV} {xs ys : List V} (h : SqT K F a xs) (r : RepVs K F ms xs) (h' : SqT K F b ys) (r' : RepVs K F ns ys) : JOk K (RZ.ItzT K a b) F (zipM ms ns) := fun i H F' s1 s2 => by
  have q : SqT K H a xs := Same.sqT s2 (Same.sqT s1 h)
  have q' : SqT K H b ys := Same.sqT s2 (Same.sqT s1 h')
  refine ⟨fun m e => ?_, fun e => ⟨xs, ys, q, q', by rw [r.length, r'.length]; exact zip_len e⟩⟩
  obtain ⟨c, d, e1, e2, rfl⟩ := zip_get e
  obtain ⟨x, g1, g2⟩ := r.get e1
  obtain ⟨y, g3, g4⟩ := r'.get e2
  refine ⟨⟨xs, ys, x, y, q, q', g1, g3⟩, fun v H' ⟨T, x', y', hv, hT, hH, k1, k2⟩ => .inr ⟨T, _, hT, hH, ?_⟩⟩
  have z1 := k1 xs q
  have z2 := k2 ys q'
  rw [g1] at z1
  rw [g3] at z2
  cases z1
  cases z2
  subst hv
  exact pair_rv (F2 := F) (s2.free hT) s1 g2 g4
theorem enum_get : ∀ {ms : List MV} {n i : Nat} {m : MV}, (enumM n ms)[i]? = some m → ∃ a, ms[i]? = some a ∧ m = .tup [.int ((n + i : Nat) : Int), a]
  | [], n, i, m, h => by simp [enumM] at h
  | a :: ms, n, 0, m, h => by
    simp [enumM] at h
    exact ⟨a, rfl, h.symm⟩
  | a :: ms, n, i + 1, m, h => by
    simp [enumM] at h
    obtain ⟨c, h1, h2⟩ := enum_get h
    refine ⟨c, by simpa using h1, ?_⟩
    rw [h2, show n + 1 + i = n + (i + 1) by omega]
theorem enum_len : ∀ {ms : List MV} {n : Nat}, (enumM n ms).length = ms.length
  | [], n => rfl
  | a :: ms, n => by simp only [enumM, List.length_cons, enum_len]
theorem jok_enumL {a : Addr} {ms : List MV} {xs : List V} (h : SqL K F a xs) (r : RepVs K F ms xs) : JOk K (Ite K a) F (enumM 0 ms) := fun i H F' s1 s2 => by
  have q : SqL K H a xs := s2.seq (s1.seq h)
  refine ⟨fun m e => ?_, fun e => ⟨xs, q, by rw [r.length]; rw [enum_len] at e; exact e⟩⟩
  obtain ⟨c, e1, rfl⟩ := enum_get e
  obtain ⟨x, g1, g2⟩ := r.get e1
  refine ⟨⟨xs, x, q, g1⟩, fun v H' ⟨T, x', hv, hT, hH, k1⟩ => .inr ⟨T, _, hT, hH, ?_⟩⟩
  have z1 := k1 xs q
  rw [g1] at z1
  cases z1
  subst hv
  rw [Nat.zero_add]
  exact pair_rv (F2 := F) (s2.free hT) s1 int_rv g2
end
section
variable {X : Cx} {pos : Pos} {tg : Expr}
theorem pim_tup {e : Expr} {d : DE} (h : PEM X e d) : PI X tg e (fun σ H R => ∃ C F ρ ms ρ', Rel X.K C F H σ ρ ∧ d ρ = some (.tup ms, ρ') ∧ ∀ J F' H', Rel X.K C F' H' σ ρ' → Same F F' → JOk X.K J F' ms → R J H') := PI.imp (pi_tup h) fun σ H R ⟨C, F, ρ, ms, ρ', R0, e, k⟩ =>
  ⟨C, F, ρ, _, ρ', R0, e, fun x F' H' R' s' r' => by
    obtain ⟨a, xs, rfl, q, r⟩ := rv_tup r'
    exact ⟨a, rfl, ⟨xs, Same.sqT R'.frz q⟩, k _ F' H' R' s' (jok_tup q r)⟩⟩
theorem pim_rng1 {e : Expr} {ds : DA} (h : PI X tg e (iRng1 (TMA X.K ds))) : PIM X tg e (dCallO rng1F ds) := PI.imp h fun σ H R ⟨C, F, ρ, ms, ρ', R0, e, k⟩ => by
  unfold dCallO at e
  obtain ⟨⟨ns, ρ1⟩, e1, e⟩ := Option.bind_eq_some_iff.mp e
  obtain ⟨m, e2, e⟩ := Option.bind_eq_some_iff.mp e
  cases e
  refine ⟨C, F, ρ, _, _, R0, e1, fun xs F' H' R' s' r' => ?_⟩
  have e2 : rng1F ns = some ms := e2
  unfold rng1F at e2
  split at e2
  · split at e2
    · rename_i hc
      cases e2
      obtain ⟨x, rfl, rx⟩ := rvs1 r'
      have := rv_int rx
      subst this
      exact ⟨_, rfl, hc.2, hc.1, k _ F' H' R' s' jok_rng⟩
    · cases e2
  · cases e2
theorem pim_rng2 {e : Expr} {ds : DA} (h : PI X tg e (iRng2 (TMA X.K ds))) : PIM X tg e (dCallO rng2F ds) := PI.imp h fun σ H R ⟨C, F, ρ, ms, ρ', R0, e, k⟩ => by
  unfold dCallO at e
  obtain ⟨⟨ns, ρ1⟩, e1, e⟩ := Option.bind_eq_some_iff.mp e
  obtain ⟨m, e2, e⟩ := Option.bind_eq_some_iff.mp e
  cases e
  refine ⟨C, F, ρ, _, _, R0, e1, fun xs F' H' R' s' r' => ?_⟩
  have e2 : rng2F ns = some ms := e2
  unfold rng2F at e2
  split at e2
  · split at e2
    · rename_i hc
      cases e2
      obtain ⟨x, y, rfl, rx, ry⟩ := rvs2 r'
      have := rv_int rx
      subst this
      have := rv_int ry
      subst this
      exact ⟨_, _, rfl, hc, k _ F' H' R' s' jok_rng⟩
    · cases e2
  · cases e2
theorem pim_zip {e : Expr} {ds : DA} (h : PI X tg e (RZ.iZipA X.K (TMA X.K ds))) : PIM X tg e (dCallO zipF ds) := PI.imp h fun σ H R ⟨C, F, ρ, ms, ρ', R0, e, k⟩ => by
  unfold dCallO at e
  obtain ⟨⟨ns, ρ1⟩, e1, e⟩ := Option.bind_eq_some_iff.mp e
  obtain ⟨m, e2, e⟩ := Option.bind_eq_some_iff.mp e
  cases e
  refine ⟨C, F, ρ, _, _, R0, e1, fun xs F' H' R' s' r' => ?_⟩
  have e2 : zipF ns = some ms := e2
  unfold zipF at e2
  split at e2
  · cases e2
    obtain ⟨x, y, rfl, rx, ry⟩ := rvs2 r'
    obtain ⟨a, us, rfl, q1, r1⟩ := rv_tup rx
    obtain ⟨b, ws, rfl, q2, r2⟩ := rv_tup ry
    exact ⟨a, b, us, ws, rfl, .inr ⟨Same.sqT R'.frz q1, Same.sqT R'.frz q2, k _ F' H' R' s' (jok_zipT q1 r1 q2 r2)⟩⟩
  · cases e2
    obtain ⟨x, y, rfl, rx, ry⟩ := rvs2 r'
    obtain ⟨a, us, rfl, q1, r1⟩ := rv_lst rx
    obtain ⟨b, ws, rfl, q2, r2⟩ := rv_lst ry
    exact ⟨a, b, us, ws, rfl, .inl ⟨SqL.of (R'.frz _ _ q1), SqL.of (R'.frz _ _ q2), k _ F' H' R' s' (jok_zipL (SqL.of q1) r1 (SqL.of q2) r2)⟩⟩
  · cases e2

/-! ### for -/
theorem psm_for {iter : Expr} {body : List Stmt} {ws : List Nat} {dj : DA} {g : DG} {b : DS} (hp : PassesOwn (model X.prog X.w) X.A X.env X.xe) (hc : X.calm = true) (hi : PIM X tg iter dj) (hg : PGM X ws tg g) (hb : PSsM X body b)
    (hs : ∀ x, foldedSetIterable iter X.env x = pure x := by intro _; rfl) : PSM X (.For tg iter body [] pos) (dFor dj g b) := PS.imp (ps_for hp hc hi hg hb hs) fun D σ H ⟨C, F, ρ, fl, ρ', R, e, k⟩ => by
  unfold dFor at e
  obtain ⟨⟨ms, ρ1⟩, e1, e⟩ := Option.bind_eq_some_iff.mp e
  refine ⟨C, F, ρ, _, _, R, e1, fun J F1 H1 R1 s1 jok => ?_⟩
  refine ⟨fun i m σ H => m = ms.length - i ∧ i ≤ ms.length ∧ ∃ F2 ρ2, Rel X.K C F2 H σ ρ2 ∧ Same F1 F2 ∧ forM g b (ms.drop i) ρ2 = some (fl, ρ'), ⟨_, rfl, Nat.zero_le _, F1, ρ1, R1, Same.refl F1, e⟩, ?_⟩
  rintro i m σ2 H2 ⟨rfl, hi, F2, ρ2, R2, s2, e2⟩
  obtain ⟨j1, j2⟩ := jok i H2 F2 s2 R2.frz
  by_cases hlt : i < ms.length
  · have hm : ms[i]? = some ms[i] := List.getElem?_eq_getElem hlt
    obtain ⟨g1, g2⟩ := j1 _ hm
    rw [List.drop_eq_getElem_cons hlt] at e2
    unfold forM at e2
    obtain ⟨ρ3, e3, e2⟩ := Option.bind_eq_some_iff.mp e2
    obtain ⟨⟨f, ρ4⟩, e4, e2⟩ := Option.bind_eq_some_iff.mp e2
    refine .inr ⟨g1, fun σ H => ∃ F2 ρ2, Rel X.K C F2 H σ ρ2 ∧ Same F1 F2 ∧ forM g b (ms.drop (i + 1)) ρ2 = some (fl, ρ'), fun σ' H' h => ⟨ms.length - (i + 1), by omega, rfl, hlt, h⟩, fun x H' y => ?_⟩
    have fin : ∀ F3, Rel X.K C F3 H' σ2 ρ2 → Same F2 F3 → RepV X.K F3 ms[i] x → TMG X.K ws g x σ2 H' fun σ3 H3 => TMS X.K b { D with nx := fun σ H => ∃ F2 ρ2, Rel X.K C F2 H σ ρ2 ∧ Same F1 F2 ∧ forM g b (ms.drop (i + 1)) ρ2 = some (fl, ρ'), ct := fun σ H => ∃ F2 ρ2, Rel X.K C F2 H σ ρ2 ∧ Same F1 F2 ∧ forM g b (ms.drop (i + 1)) ρ2 = some (fl, ρ'), bk := D.nx } σ3 H3 := fun F3 R3 s3 r3 => by
      refine ⟨C, F3, ρ2, _, _, R3, r3, e3, fun σ5 F5 H5 _ R5 s5 => ⟨C, F5, ρ3, f, ρ4, R5, e4, ?_⟩⟩
      have s6 : Same F1 F5 := (s2.trans s3).trans s5
      cases f with
      | nx => exact fun σ' F' H' R' s' => ⟨F', ρ4, R', s6.trans s', e2⟩
      | ct => exact fun σ' F' H' R' s' => ⟨F', ρ4, R', s6.trans s', e2⟩
      | bk =>
        cases e2
        exact fun σ' F' H' R' s' => k σ' F' H' R' ((s1.trans s6).trans s')
      | rt mm =>
        cases e2
        exact fun x σ' F' H' R' s' => k x σ' F' H' R' ((s1.trans s6).trans s')
      | ro mm =>
        cases e2
        exact fun p xs σ' F' H' R' s' => k p xs σ' F' H' R' ((s1.trans s6).trans s')
    rcases g2 x H' y with ⟨rfl, r⟩ | ⟨p, o, hp', rfl, r⟩
    · exact fin F2 R2 (Same.refl F2) r
    · exact fin _ (R2.allocF hp') (R2.sF hp') r
  · have e3 : i = ms.length := by omega
    subst e3
    rw [List.drop_length] at e2
    cases e2
    exact .inl ⟨j2 (Nat.le_refl _), k σ2 F2 H2 R2 (s1.trans s2)⟩

/-! ### comprehensions -/
theorem wipeM_len {ρ : MEnv} : ∀ {vs : List Nat}, (wipeM ρ vs).length = ρ.length
  | [] => rfl
  | v :: vs => by unfold wipeM; rw [List.length_set, wipeM_len]
theorem Rel.wipe {K : PySem.W.Frag} {C : Ctx} {F H : Hp} {σ : St} {ρ : MEnv} (R : Rel K C F H σ ρ) : ∀ vs : List Nat, Rel K C F H (L2.wipe σ vs) (wipeM ρ vs)
  | [] => R
  | v :: vs => (Rel.wipe R vs).setN
theorem wipeM_get {ρ : MEnv} {j : Nat} : ∀ {vs : List Nat}, (wipeM ρ vs)[j]? = if j ∈ vs ∧ j < ρ.length then some .no else ρ[j]?
  | [] => by simp [wipeM]
  | v :: vs => by
    unfold wipeM
    by_cases h : v = j
    · subst h
      by_cases hl : v < ρ.length
      · rw [List.getElem?_set_self (by rw [wipeM_len]; exact hl)]
        simp [hl]
      · rw [List.getElem?_eq_none (by rw [List.length_set, wipeM_len]; omega)]
        simp [hl]
    · rw [List.getElem?_set_ne h, wipeM_get]
      have : j ∈ v :: vs ↔ j ∈ vs := by
        rw [List.mem_cons]
        exact ⟨fun z => z.resolve_left (Ne.symm h), .inr⟩
      simp only [this]
theorem wipe_get {σ : St} {j : Nat} : ∀ {vs : List Nat}, j ∉ vs → (L2.wipe σ vs)[j]? = σ[j]?
  | [], _ => rfl
  | v :: vs, h => by
    unfold L2.wipe
    rw [List.getElem?_set_ne (fun z => h (by rw [z]; exact List.mem_cons_self)), wipe_get (fun z => h (List.mem_cons_of_mem _ z))]
theorem wipe_still : ∀ (us : List Nat) (τ : St), (∀ u ∈ us, ∀ o, τ[u]? = some o → o = none) → L2.wipe τ us = τ
  | [], _, _ => rfl
  | u :: us, τ, h => by
    unfold L2.wipe
    rw [wipe_still us τ (fun w hw => h w (List.mem_cons_of_mem _ hw))]
    apply List.ext_getElem?
    intro k
    by_cases hk : u = k
    · subst hk
      by_cases hl : u < τ.length
      · rw [List.getElem?_set_self hl, List.getElem?_eq_getElem hl, h u List.mem_cons_self _ (List.getElem?_eq_getElem hl)]
      · rw [List.getElem?_eq_none (by rw [List.length_set]; omega), List.getElem?_eq_none (by omega)]
    · rw [List.getElem?_set_ne hk]
theorem wipe_twice {σ : St} {vs : List Nat} : L2.wipe (L2.wipe σ vs) vs = L2.wipe σ vs := wipe_still _ _ fun u hu o e => by
  cases o with
  | none => rfl
  | some z => exact absurd hu (L2.wipe_some e).2
/-- the names of a comprehension are none of the def's -/
def Gone (ρ : MEnv) (vs : List Nat) : Prop := ∀ j ∈ vs, ∀ s, ρ[j]? = some s → s = .no
theorem gone_wipe {ρ : MEnv} {vs : List Nat} : Gone (wipeM ρ vs) vs := fun j hj s e => by
  rw [wipeM_get] at e
  by_cases hl : j < ρ.length
  · rw [if_pos ⟨hj, hl⟩] at e
    exact (Option.some.inj e).symm
  · rw [if_neg (fun z => hl z.2), List.getElem?_eq_none (by omega)] at e
    cases e
theorem Rel.unwipe {K : PySem.W.Frag} {C : Ctx} {F H : Hp} {σ : St} {ρ : MEnv} {vs : List Nat} (R : Rel K C F H (L2.wipe σ vs) ρ) (g : Gone ρ vs) : Rel K C F H σ ρ := by
  have nin : ∀ (j : Nat) s, ρ[j]? = some s → s ≠ .no → j ∉ vs := fun j s e h z => h (g j z s e)
  refine ⟨by rw [← R.len, L2.wipe_length], R.frz, R.base, R.dom, R.new, R.ext, R.pins, fun j n e => ?_, fun j q ns e => ?_, fun j k a q ns q' ks e1 e2 e3 e4 => ?_⟩
  · have := R.val j n e
    rwa [wipe_get (nin j _ e (fun z => nomatch z))] at this
  · have := R.own j q ns e
    rwa [wipe_get (nin j _ e (fun z => nomatch z))] at this
  · refine R.dist j k a q ns q' ks e1 e2 ?_ ?_
    · rw [wipe_get (nin j _ e1 (fun z => nomatch z))]
      exact e3
    · rw [wipe_get (nin k _ e2 (fun z => nomatch z))]
      exact e4
theorem Rel.off {K : PySem.W.Frag} {C : Ctx} {F H : Hp} {σ : St} {ρ : MEnv} (R : Rel K C F H σ ρ) {p : Addr} {o : HO} (fp : F p = none) (h0 : C.H0 p = none) (ho : Apart σ ρ p) : Rel K C F (upd H p o) σ ρ := by
  refine ⟨R.len, fun b u e => ?_, fun a u nm e => ?_, fun a e => ?_, R.new, R.ext, R.pins, R.val, fun i q ms e => ?_, R.dist⟩
  · rw [upd_ne (ne_of_none e fp)]
    exact R.frz b u e
  · rw [upd_ne (ne_of_none e h0)]
    exact R.base a u nm e
  · by_cases hb : a = p
    · subst hb
      rw [upd_same] at e
      cases e
    · rw [upd_ne hb] at e
      exact R.dom a e
  · obtain ⟨a, xs, h1, h2, h3, h4, h5⟩ := R.own i q ms e
    have hb : a ≠ p := fun z => by
      subst z
      exact ho i q ms e h1
    exact ⟨a, xs, h1, by rw [upd_ne hb]; exact h2, h3, h4, h5⟩
theorem tests_nil : PTs X [] (TMT X.K dYes) := ⟨fun pins s σ H Q I hw => pts_nil.run pins s σ H Q I (by
  obtain ⟨C, F, ρ, b, ρ', R, e, k⟩ := hw
  cases e
  exact k F H R (Same.refl F))⟩
theorem tests_one {c : Expr} {t : DT} (h : PTM X c t) : PTs X [c] (TMT X.K t) := pts_one h
theorem lc_imp {dj : DA} {vs : List Nat} {g : DG} {t : DT} {d : DE} : ∀ σ H Q, TMO X.K (dLc dj vs g t d) σ H Q → tLc (TMJ X.K dj) (TMG X.K vs g) (TMT X.K t) (TM X.K d) vs σ H Q := fun σ H Q ⟨C, F, ρ, out, ρ', R, e, k⟩ => by
  unfold dLc at e
  obtain ⟨⟨ms, ρ1⟩, e1, e⟩ := Option.bind_eq_some_iff.mp e
  refine ⟨C, F, ρ, _, _, R, e1, fun J F1 H1 R1 s1 jok D hD => ?_⟩
  have fD : F1 D = none := R1.fF hD
  have h0D : C.H0 D = none := R1.dom D hD
  have apw : ∀ {ρ : MEnv} {q : Addr}, Apart σ ρ q → Gone ρ vs → Apart (L2.wipe σ vs) ρ q := fun {ρ q} ap gn j c ns e z => by
    rw [wipe_get (fun hj => by cases gn j hj _ e)] at z
    exact ap j c ns e z
  have apu : ∀ {ρ : MEnv} {q : Addr}, Apart (L2.wipe σ vs) ρ q → Gone ρ vs → Apart σ ρ q := fun {ρ q} ap gn j c ns e z => ap j c ns e (by
    rw [wipe_get (fun hj => by cases gn j hj _ e)]
    exact z)
  -- what holds between two turns
  let Pv : Nat → Hp → Prop := fun i H => ∃ F2 ρ2 acc accV, Rel X.K C F2 H (L2.wipe σ vs) ρ2 ∧ Gone ρ2 vs ∧ Same F1 F2 ∧ F2 D = none ∧ Apart (L2.wipe σ vs) ρ2 D ∧ H D = some (.lst accV) ∧ RepVs X.K F2 acc accV ∧ lcM vs g t d (ms.drop i) acc ρ2 = some (out, ρ')
  have start : Pv 0 (upd H1 D (.lst [])) := ⟨F1, wipeM ρ1 vs, [], [], (R1.wipe vs).off fD h0D (apw (fun j c ns e => by
      rw [wipeM_get] at e
      split at e
      · cases e
      · exact R1.apart hD j c ns e) gone_wipe), gone_wipe, Same.refl F1, fD, apw (fun j c ns e => by
      rw [wipeM_get] at e
      split at e
      · cases e
      · exact R1.apart hD j c ns e) gone_wipe, upd_same, RepVs.nil, e⟩
  refine ⟨fun i m H => m = ms.length - i ∧ i ≤ ms.length ∧ Pv i H, ⟨_, rfl, Nat.zero_le _, start⟩, ?_⟩
  rintro i m H2 ⟨rfl, hi, F2, ρ2, acc, accV, R2, gn2, s2, fD2, ap2, hD2, ra, e2⟩
  obtain ⟨j1, j2⟩ := jok i H2 F2 s2 R2.frz
  by_cases hlt : i < ms.length
  · have hm : ms[i]? = some ms[i] := List.getElem?_eq_getElem hlt
    obtain ⟨g1, g2⟩ := j1 _ hm
    rw [List.drop_eq_getElem_cons hlt] at e2
    unfold lcM at e2
    obtain ⟨ρ3, e3, e2⟩ := Option.bind_eq_some_iff.mp e2
    obtain ⟨⟨c, ρ4⟩, e4, e2⟩ := Option.bind_eq_some_iff.mp e2
    refine .inr ⟨g1, Pv (i + 1), fun H' h => ⟨ms.length - (i + 1), by omega, rfl, hlt, h⟩, fun x H' y => ?_⟩
    -- the list so far is kept through the turn
    have fin : ∀ F3, Rel X.K C F3 H' (L2.wipe σ vs) ρ2 → Same F2 F3 → F3 D = none → H' D = some (.lst accV) → RepV X.K F3 ms[i] x → TMG X.K vs g x (L2.wipe σ vs) H' fun σ2 H3 => L2.wipe σ2 vs = L2.wipe σ vs ∧ TMT X.K t σ2 H3 fun b H4 =>
        if b = true then TM X.K d σ2 H4 fun y H5 => ∃ acc, H5 D = some (.lst acc) ∧ acc.length < sizeLine ∧ Pv (i + 1) (upd H5 D (.lst (acc ++ [y]))) else Pv (i + 1) H4 := fun F3 R3 s3 fD3 hD3 r3 => by
      refine ⟨C.shield D (.lst accV), F3, ρ2, _, _, R3.shield hD3 fD3 h0D ap2, r3, e3, fun σ4 F4 H4 w4 R4 s4 => ⟨?_, ?_⟩⟩
      · rw [w4, wipe_twice]
      · refine ⟨C.shield D (.lst accV), F4, ρ3, c, ρ4, R4, e4, fun F5 H5 R5 s5 => ?_⟩
        have w5 : L2.wipe σ4 vs = L2.wipe σ vs := by
          rw [w4, wipe_twice]
        have back : ∀ {F6 H6 ρ6}, Rel X.K (C.shield D (.lst accV)) F6 H6 σ4 ρ6 → Rel X.K C F6 H6 (L2.wipe σ vs) (wipeM ρ6 vs) ∧ H6 D = some (.lst accV) ∧ F6 D = none ∧ Apart (L2.wipe σ vs) (wipeM ρ6 vs) D := fun {F6 H6 ρ6} R6 => by
          have h := R6.wipe vs
          rw [w5] at h
          exact h.unshield h0D (R2.nopin h0D) (R2.noF0 fD2)
        cases c with
        | false =>
          obtain ⟨b1, b2, b3, b4⟩ := back R5
          exact iteF ⟨F5, wipeM ρ4 vs, acc, accV, b1, gone_wipe, ((s2.trans s3).trans s4).trans s5, b3, b4, b2, RepVs.mono ((s3.trans s4).trans s5) _ _ ra, e2⟩
        | true =>
          obtain ⟨⟨n, ρ6⟩, e6, e2⟩ := Option.bind_eq_some_iff.mp (show (d ρ4).bind _ = some (out, ρ') from e2)
          split at e2
          · rename_i hl
            refine iteT ⟨C.shield D (.lst accV), F5, ρ4, n, ρ6, R5, e6, fun z F6 H6 R6 s6 r6 => ?_⟩
            obtain ⟨b1, b2, b3, b4⟩ := back R6
            refine ⟨accV, b2, by have := lenOk_le hl; rw [ra.length]; exact this, F6, wipeM ρ6 vs, acc ++ [n], accV ++ [z], b1.off b3 h0D b4, gone_wipe, (((s2.trans s3).trans s4).trans s5).trans s6, b3, b4, upd_same, ?_, e2⟩
            exact (RepVs.mono (((s3.trans s4).trans s5).trans s6) _ _ ra).append (RepVs.cons r6 RepVs.nil)
          · cases e2
    rcases g2 x H' y with ⟨rfl, r⟩ | ⟨p, o, hp', rfl, r⟩
    · exact fin F2 R2 (Same.refl F2) fD2 hD2 r
    · have hne : D ≠ p := ne_of_none hD2 hp'
      exact fin _ (R2.allocF hp') (R2.sF hp') (by rw [upd_ne hne]; exact fD2) (by rw [upd_ne hne]; exact hD2) r
  · have e3 : i = ms.length := by omega
    subst e3
    rw [List.drop_length] at e2
    cases e2
    exact .inl ⟨j2 (Nat.le_refl _), k D accV F2 H2 (R2.unwipe gn2) (s1.trans s2) hD2 fD2 h0D (apu ap2 gn2) ra⟩
end
end ML
namespace ML
open PySem L2

theorem none_of {H : Hp} {a : Addr} (h : ∀ o, H a = some o → False) : H a = none := by
  cases q : H a with
  | none => rfl
  | some o => exact (h o q).elim
/-! ### the promises of functions -/
/-- what is new is frozen, what was there stays -/
structure Grown (F H F' H' : Hp) : Prop where
  ext : Same F F'
  frz : Same F' H'
  new : ∀ a, F' a ≠ none → F a ≠ none ∨ H a = none
def spP (K : PySem.W.Frag) (f : List MV → Option MV) (n : Nat) : Sp := fun vs H Q _ => ∃ F ms m, ms.length = n ∧ Same F H ∧ RepVs K F ms vs ∧ f ms = some m ∧ ∀ x F' H', Grown F H F' H' → Same H H' → RepV K F' m x → Q x H'
def spO (K : PySem.W.Frag) (f : List MV → Option (List MV)) (n : Nat) : Sp := fun vs H Q _ => ∃ F ms m, ms.length = n ∧ Same F H ∧ RepVs K F ms vs ∧ f ms = some m ∧ ∀ p xs F' H', Grown F H F' H' → Same H H' → H' p = some (.lst xs) → F' p = none → H p = none → RepVs K F' m xs → Q (.ref p) H'
/-- all but the list at a stays -/
def But (a : Addr) (H H' : Hp) : Prop := ∀ b o, b ≠ a → H b = some o → H' b = some o
def spI (K : PySem.W.Frag) (f : List MV → List MV → Option (MV × List MV)) (n : Nat) : Sp := fun vs H Q _ => ∃ F a xs ws ds ms m out, vs = .ref a :: ws ∧ ms.length = n ∧ Same F H ∧ H a = some (.lst xs) ∧ F a = none ∧ RepVs K F ds xs ∧ RepVs K F ms ws ∧ f ds ms = some (m, out) ∧
  ∀ x ys F' H', Grown F H F' H' → But a H H' → H' a = some (.lst ys) → F' a = none → RepVs K F' out ys → RepV K F' m x → Q x H'
def spIO (K : PySem.W.Frag) (f : List MV → List MV → Option (List MV × List MV)) (n : Nat) : Sp := fun vs H Q _ => ∃ F a xs ws ds ms m out, vs = .ref a :: ws ∧ ms.length = n ∧ Same F H ∧ H a = some (.lst xs) ∧ F a = none ∧ RepVs K F ds xs ∧ RepVs K F ms ws ∧ f ds ms = some (m, out) ∧
  ∀ p zs ys F' H', Grown F H F' H' → But a H H' → H' a = some (.lst ys) → F' a = none → RepVs K F' out ys → H' p = some (.lst zs) → F' p = none → H p = none → RepVs K F' m zs → Q (.ref p) H'

def DLen (ds : DA) (n : Nat) : Prop := ∀ ρ ms ρ', ds ρ = some (ms, ρ') → ms.length = n
theorem dlen_nil : DLen dNil 0 := fun ρ ms ρ' e => by
  cases e
  rfl
theorem dlen_cons {d : DE} {ds : DA} {n : Nat} (h : DLen ds n) : DLen (dCons d ds) (n + 1) := fun ρ ms ρ' e => by
  unfold dCons at e
  obtain ⟨⟨m1, ρ1⟩, e1, e⟩ := Option.bind_eq_some_iff.mp e
  obtain ⟨⟨ms2, ρ2⟩, e2, e⟩ := Option.bind_eq_some_iff.mp e
  cases e
  rw [List.length_cons, h _ _ _ e2]

section
variable {K : PySem.W.Frag} {C : Ctx} {F H F' H' : Hp} {σ : St} {ρ : MEnv}
theorem Rel.call (R : Rel K C F H σ ρ) (g : Grown F H F' H') (s : Same H H') : Rel K C F' H' σ ρ := by
  refine ⟨R.len, g.frz, fun a u nm e => s _ _ (R.base a u nm e), fun a e => R.dom a (s.free e), fun a e => ?_, R.ext.trans g.ext, R.pins, fun i m e => ?_, fun i q ms e => ?_, R.dist⟩
  · rcases g.new a e with z | z
    · exact R.new a z
    · exact .inr (R.dom a z)
  · obtain ⟨x, h1, h2⟩ := R.val i m e
    exact ⟨x, h1, RepV.mono g.ext _ _ h2⟩
  · obtain ⟨a, xs, h1, h2, h3, h4, h5⟩ := R.own i q ms e
    refine ⟨a, xs, h1, s _ _ h2, none_of fun o z => ?_, RepVs.mono g.ext _ _ h4, h5⟩
    rcases g.new a (by rw [z]; exact fun y => nomatch y) with y | y
    · exact y h3
    · rw [h2] at y
      cases y
theorem Rel.callI (R : Rel K C F H σ ρ) {i : Nat} {o : Bool × List MV} {a : Addr} {out : List MV} {ys : List V} (hi : ρ[i]? = some (Sl.own o.1 o.2)) (hs : σ[i]? = some (some (.ref a))) (g : Grown F H F' H') (s : But a H H') (ha : H' a = some (.lst ys)) (fa : F' a = none) (r : RepVs K F' out ys) :
    Rel K C F' H' σ (ρ.set i (Sl.own o.1 out)) := by
  obtain ⟨a', xs, h1, h2, h3, h4, h5⟩ := R.own i _ _ hi
  rw [hs] at h1
  cases h1
  have hl : i < ρ.length := (List.getElem?_eq_some_iff.mp hi).1
  refine ⟨by simp [R.len], g.frz, fun b u nm e => ?_, fun b e => ?_, fun b e => ?_, R.ext.trans g.ext, R.pins, fun j m e => ?_, fun j q ms e => ?_, fun j k b q1 ks q2 ls e1 e2 e3 e4 => ?_⟩
  · have h := R.base b u nm e
    refine s b u (fun z => ?_) h
    subst z
    cases hq : o.1 with
    | true =>
      rw [hq] at h5
      exact nm i h5
    | false =>
      rw [hq] at h5
      have h6 : C.H0 b = none := h5
      rw [e] at h6
      cases h6
  · have hb : b ≠ a := fun z => by
      subst z
      rw [ha] at e
      cases e
    refine R.dom b (none_of fun u z => ?_)
    rw [s b u hb z] at e
    cases e
  · rcases g.new b e with z | z
    · exact R.new b z
    · exact .inr (R.dom b z)
  · rcases set_get e with ⟨rfl, _, y⟩ | ⟨h, e⟩
    · cases y
    · obtain ⟨x, g1, g2⟩ := R.val j m e
      exact ⟨x, g1, RepV.mono g.ext _ _ g2⟩
  · rcases set_get e with ⟨rfl, _, y⟩ | ⟨h, e⟩
    · cases y
      exact ⟨a, ys, hs, ha, fa, r, h5⟩
    · obtain ⟨b, zs, g1, g2, g3, g4, g5⟩ := R.own j q ms e
      have hne : b ≠ a := fun y => by
        subst y
        exact h (R.dist i j b _ _ _ _ hi e hs g1)
      refine ⟨b, zs, g1, s _ _ hne g2, none_of fun u z => ?_, RepVs.mono g.ext _ _ g4, g5⟩
      rcases g.new b (by rw [z]; exact fun y => nomatch y) with y | y
      · exact y g3
      · rw [g2] at y
        cases y
  · have key : ∀ (j : Nat) q' ks, (ρ.set i (Sl.own o.1 out))[j]? = some (Sl.own q' ks) → ∃ q'' ks', ρ[j]? = some (Sl.own q'' ks') := fun j q' ks z => by
      rcases set_get z with ⟨rfl, _, _⟩ | ⟨h, z⟩
      · exact ⟨_, _, hi⟩
      · exact ⟨_, _, z⟩
    obtain ⟨_, _, f1⟩ := key j q1 ks e1
    obtain ⟨_, _, f2⟩ := key k q2 ls e2
    exact R.dist j k b _ _ _ _ f1 f2 e3 e4
end
section
variable {X : Cx} {pos : Pos}
theorem pem_call {e : Expr} {f : List MV → Option MV} {n : Nat} {E : XK} {ds : DA} (h : PE X e (tCall (spP X.K f n) [] E (TMA X.K ds))) (l : DLen ds n) : PEM X e (dCall f ds) := PE.imp h fun σ H Q ⟨C, F, ρ, m, ρ', R, e, k⟩ => by
  unfold dCall at e
  obtain ⟨⟨ms, ρ1⟩, e1, e⟩ := Option.bind_eq_some_iff.mp e
  obtain ⟨m1, e2, e⟩ := Option.bind_eq_some_iff.mp e
  cases e
  refine ⟨C, F, ρ, _, _, R, e1, fun xs F1 H1 R1 s1 r1 => ⟨F1, _, _, l _ _ _ e1, R1.frz, by rw [List.append_nil]; exact r1, e2, fun x F2 H2 g s2 r2 => ?_⟩⟩
  exact k x F2 H2 (R1.call g s2) (s1.trans g.ext) r2
theorem peo_call {e : Expr} {f : List MV → Option (List MV)} {n : Nat} {E : XK} {ds : DA} (h : PE X e (tCall (spO X.K f n) [] E (TMA X.K ds))) (l : DLen ds n) : PEO X e (dCallO f ds) := PE.imp h fun σ H Q ⟨C, F, ρ, m, ρ', R, e, k⟩ => by
  unfold dCallO at e
  obtain ⟨⟨ms, ρ1⟩, e1, e⟩ := Option.bind_eq_some_iff.mp e
  obtain ⟨m1, e2, e⟩ := Option.bind_eq_some_iff.mp e
  cases e
  refine ⟨C, F, ρ, _, _, R, e1, fun xs F1 H1 R1 s1 r1 => ⟨F1, _, _, l _ _ _ e1, R1.frz, by rw [List.append_nil]; exact r1, e2, fun p ys F2 H2 g s2 hp fp hn r2 => ?_⟩⟩
  exact k p ys F2 H2 (R1.call g s2) (s1.trans g.ext) hp fp (R1.dom p hn) (fun j q ns e => R1.apart hn j q ns e) r2
theorem pem_calli {e : Expr} {f : List MV → List MV → Option (MV × List MV)} {n i : Nat} {E : XK} {ds : DA} (h : PE X e (tCall (spI X.K f n) [] E (tCons (tVar i) (TMA X.K ds)))) (l : DLen ds n) : PEM X e (dCallI f i ds) := PE.imp h fun σ H Q ⟨C, F, ρ, m, ρ', R, e, k⟩ => by
  unfold dCallI at e
  obtain ⟨o0, e0, e⟩ := Option.bind_eq_some_iff.mp e
  obtain ⟨⟨ms, ρ1⟩, e1, e⟩ := Option.bind_eq_some_iff.mp e
  obtain ⟨o1, e2, e⟩ := Option.bind_eq_some_iff.mp e
  obtain ⟨⟨m1, out⟩, e3, e⟩ := Option.bind_eq_some_iff.mp e
  cases e
  obtain ⟨_, a, xs, h1, _⟩ := R.owned e0
  refine ⟨.ref a, h1, C, F, ρ, _, _, R, e1, fun ws F1 H1 R1 s1 r1 => ?_⟩
  obtain ⟨g0, a', ys, g1, g2, g3⟩ := R1.owned e2
  rw [h1] at g1
  cases g1
  obtain ⟨a2, _, g4, _, g5, _⟩ := R1.own i _ _ g0
  rw [h1] at g4
  cases g4
  refine ⟨F1, a, ys, ws, o1.2, ms, _, out, by rw [List.append_nil], l _ _ _ e1, R1.frz, g2, g5, g3, r1, e3, fun x zs F2 H2 g s2 ha fa r2 r3 => ?_⟩
  exact k x F2 H2 (R1.callI g0 h1 g s2 ha fa r2) (s1.trans g.ext) r3
theorem peo_calli {e : Expr} {f : List MV → List MV → Option (List MV × List MV)} {n i : Nat} {E : XK} {ds : DA} (h : PE X e (tCall (spIO X.K f n) [] E (tCons (tVar i) (TMA X.K ds)))) (l : DLen ds n) : PEO X e (dCallIO f i ds) := PE.imp h fun σ H Q ⟨C, F, ρ, m, ρ', R, e, k⟩ => by
  unfold dCallIO at e
  obtain ⟨o0, e0, e⟩ := Option.bind_eq_some_iff.mp e
  obtain ⟨⟨ms, ρ1⟩, e1, e⟩ := Option.bind_eq_some_iff.mp e
  obtain ⟨o1, e2, e⟩ := Option.bind_eq_some_iff.mp e
  obtain ⟨⟨m1, out⟩, e3, e⟩ := Option.bind_eq_some_iff.mp e
  cases e
  obtain ⟨_, a, xs, h1, _⟩ := R.owned e0
  refine ⟨.ref a, h1, C, F, ρ, _, _, R, e1, fun ws F1 H1 R1 s1 r1 => ?_⟩
  obtain ⟨g0, a', ys, g1, g2, g3⟩ := R1.owned e2
  rw [h1] at g1
  cases g1
  obtain ⟨a2, _, g4, _, g5, _⟩ := R1.own i _ _ g0
  rw [h1] at g4
  cases g4
  refine ⟨F1, a, ys, ws, o1.2, ms, _, out, by rw [List.append_nil], l _ _ _ e1, R1.frz, g2, g5, g3, r1, e3, fun p us zs F2 H2 g s2 ha fa r2 hp fp hn r3 => ?_⟩
  have R2 := R1.callI g0 h1 g s2 ha fa r2
  refine k p us F2 H2 R2 (s1.trans g.ext) hp fp (R1.dom p hn) (fun j q ns e z => ?_) r3
  obtain ⟨b, _, b1, _⟩ : ∃ b xs', σ[j]? = some (some (.ref b)) ∧ H1 b = some (.lst xs') := by
    rcases set_get e with ⟨rfl, _, _⟩ | ⟨_, e⟩
    · exact ⟨a, ys, h1, g2⟩
    · obtain ⟨b, xs', f1, f2, _⟩ := R1.own j q ns e
      exact ⟨b, xs', f1, f2⟩
  rename_i hb
  rw [z] at b1
  cases b1
  rw [hn] at hb
  cases hb
end

/-! ### a function by its body -/
section
variable {P : Program} {w : World} {K : PySem.W.Frag} {mg : Str → Option Value} {base : Heap}
theorem start_len {N : List Str} {vs : List V} {ms : List MV} (h : vs.length = ms.length) : (start N vs).length = (env0 N.length ms).length := by
  unfold L2.start env0
  simp [h]
theorem env0_val {n i : Nat} {ms : List MV} {s : Sl} (h : (env0 n ms)[i]? = some s) : (∃ m, ms[i]? = some m ∧ s = .val m) ∨ s = .no := by
  unfold env0 at h
  rw [List.getElem?_append] at h
  split at h
  · rw [List.getElem?_map] at h
    cases e : ms[i]? with
    | none =>
      rw [e] at h
      cases h
    | some m =>
      rw [e] at h
      exact .inl ⟨m, rfl, (Option.some.inj h).symm⟩
  · right
    have := List.getElem?_eq_some_iff.mp h
    obtain ⟨h1, h2⟩ := this
    rw [List.getElem_replicate] at h2
    exact h2.symm
theorem start_get {N : List Str} {vs : List V} {i : Nat} {x : V} (h : vs[i]? = some x) : (start N vs)[i]? = some (some x) := by
  unfold L2.start
  have hl : i < vs.length := (List.getElem?_eq_some_iff.mp h).1
  rw [List.getElem?_append_left (by simpa using hl), List.getElem?_map, h]
  rfl
theorem rel0 {F H : Hp} {N : List Str} {vs : List V} {ms : List MV} (s : Same F H) (r : RepVs K F ms vs) : Rel K ⟨F, H, fun _ => none⟩ F H (start N vs) (env0 N.length ms) := by
  refine ⟨start_len r.length, s, fun a o _ e => e, fun a e => e, fun a e => .inl e, Same.refl F, fun i a e => (nomatch (show (none : Option Addr) = some a from e)), fun i m e => ?_, fun i q ms' e => ?_, fun i j a q ms' q' ns e1 e2 e3 e4 => ?_⟩
  · rcases env0_val e with ⟨n, h1, h2⟩ | h2
    · cases h2
      obtain ⟨x, g1, g2⟩ := r.get h1
      exact ⟨x, start_get g1, g2⟩
    · cases h2
  · rcases env0_val e with ⟨n, h1, h2⟩ | h2
    · cases h2
    · cases h2
  · rcases env0_val e1 with ⟨n, h1, h2⟩ | h2
    · cases h2
    · cases h2
theorem Rel.grown {C : Ctx} {F H : Hp} {σ : St} {ρ : MEnv} (R : Rel K C F H σ ρ) : Grown C.F0 C.H0 F H := ⟨R.ext, R.frz, R.new⟩
theorem fnP_ok {x qual : Str} {st : Stmt} {f : Addr} {fd : FuncData} {N ps : List Str} {k : Nat} {b : DS} (F : Fun K x qual st f fd) (S : FnScope N ps (defScope st))
    (hb : ∀ (cdv : Value) (A : Around) (outer : List Env) (s : Shared) (H : Hp) (E : XK), Room k (A.deeper (PyProof.Rows.envOfC qual (defScope st) s.heap.objs.size f cdv)) → PSsM (cxOf CX0 P w K mg base N qual (defScope st) f cdv A outer s H E).nox (defBody st) b) :
    FnOk P w K mg base CX0 (k + 1) f fd ps (spP K (fnP N.length b) ps.length) := by
  refine F.ok S (fun vs H Q E h => ?_) (fun cdv A outer s H vs Q E hr h => ?_)
  · obtain ⟨F, ms, m, hl, _, r, _⟩ := h
    rw [r.length, hl]
  · obtain ⟨F, ms, m, hl, sF, r, e, k⟩ := h
    refine ⟨_, hb cdv A outer s H E hr, ⟨F, H, fun _ => none⟩, F, env0 N.length ms, ?_⟩
    unfold fnP at e
    obtain ⟨⟨fl, ρ'⟩, e1, e⟩ := Option.bind_eq_some_iff.mp e
    refine ⟨fl, ρ', rel0 sF r, e1, ?_⟩
    have sm : ∀ {F' H' σ' ρ'}, Rel K ⟨F, H, fun _ => none⟩ F' H' σ' ρ' → Same H H' := fun {F' H' σ' ρ'} R a o e => R.base a o (fun _ z => nomatch z) e
    cases fl with
    | rt m' =>
      cases e
      exact fun x σ' F' H' R s' r' => k x F' H' R.grown (sm R) r'
    | nx =>
      cases e
      exact fun σ' F' H' R s' => k .non F' H' R.grown (sm R) (by simp only [RepV])
    | _ => cases e
theorem fnO_ok {x qual : Str} {st : Stmt} {f : Addr} {fd : FuncData} {N ps : List Str} {k : Nat} {b : DS} (F : Fun K x qual st f fd) (S : FnScope N ps (defScope st))
    (hb : ∀ (cdv : Value) (A : Around) (outer : List Env) (s : Shared) (H : Hp) (E : XK), Room k (A.deeper (PyProof.Rows.envOfC qual (defScope st) s.heap.objs.size f cdv)) → PSsM (cxOf CX0 P w K mg base N qual (defScope st) f cdv A outer s H E).nox (defBody st) b) :
    FnOk P w K mg base CX0 (k + 1) f fd ps (spO K (fnO N.length b) ps.length) := by
  refine F.ok S (fun vs H Q E h => ?_) (fun cdv A outer s H vs Q E hr h => ?_)
  · obtain ⟨F, ms, m, hl, _, r, _⟩ := h
    rw [r.length, hl]
  · obtain ⟨F, ms, m, hl, sF, r, e, k⟩ := h
    refine ⟨_, hb cdv A outer s H E hr, ⟨F, H, fun _ => none⟩, F, env0 N.length ms, ?_⟩
    unfold fnO at e
    obtain ⟨⟨fl, ρ'⟩, e1, e⟩ := Option.bind_eq_some_iff.mp e
    refine ⟨fl, ρ', rel0 sF r, e1, ?_⟩
    have sm : ∀ {F' H' σ' ρ'}, Rel K ⟨F, H, fun _ => none⟩ F' H' σ' ρ' → Same H H' := fun {F' H' σ' ρ'} R a o e => R.base a o (fun _ z => nomatch z) e
    cases fl with
    | ro m' =>
      cases e
      exact fun p xs σ' F' H' R s' hp fp h0 r' => k p xs F' H' R.grown (sm R) hp fp h0 r'
    | _ => cases e
theorem relI {F H : Hp} {N : List Str} {a : Addr} {xs ws : List V} {ds ms : List MV} (s : Same F H) (ha : H a = some (.lst xs)) (fa : F a = none) (rd : RepVs K F ds xs) (r : RepVs K F ms ws) :
    Rel K ⟨F, H, fun i => if i = 0 then some a else none⟩ F H (start N (.ref a :: ws)) (envI N.length ds ms) := by
  have other : ∀ (i : Nat) s', (envI N.length ds ms)[i]? = some s' → (i = 0 ∧ s' = .own true ds) ∨ (∃ j m, i = j + 1 ∧ ms[j]? = some m ∧ s' = .val m) ∨ s' = .no := fun i s' e => by
    unfold envI at e
    cases i with
    | zero => exact .inl ⟨rfl, (Option.some.inj e).symm⟩
    | succ j =>
      have e' : (ms.map Sl.val ++ List.replicate (N.length - 1 - ms.length) Sl.no)[j]? = some s' := e
      rcases env0_val (n := N.length - 1) (ms := ms) e' with ⟨m, h1, h2⟩ | h
      · exact .inr (.inl ⟨j, m, rfl, h1, h2⟩)
      · exact .inr (.inr h)
  refine ⟨?_, s, fun b o _ e => e, fun b e => e, fun b e => .inl e, Same.refl F, fun i b e => ?_, fun i m e => ?_, fun i q ms' e => ?_, fun i j b q ms' q' ns e1 e2 e3 e4 => ?_⟩
  · unfold L2.start envI
    simp [r.length]
    omega
  · have e' : (if i = 0 then some a else none) = some b := e
    split at e'
    · cases e'
      show H a ≠ none
      rw [ha]
      exact fun z => nomatch z
    · cases e'
  · rcases other i _ e with ⟨_, h⟩ | ⟨j, n, rfl, h1, h2⟩ | h
    · cases h
    · cases h2
      obtain ⟨x, g1, g2⟩ := r.get h1
      exact ⟨x, start_get (by simpa using g1), g2⟩
    · cases h
  · rcases other i _ e with ⟨rfl, h⟩ | ⟨j, n, rfl, h1, h2⟩ | h
    · cases h
      exact ⟨a, xs, start_get rfl, ha, fa, rd, rfl⟩
    · cases h2
    · cases h
  · rcases other i _ e1 with ⟨rfl, h⟩ | ⟨_, _, rfl, _, h2⟩ | h
    · rcases other j _ e2 with ⟨rfl, h⟩ | ⟨_, _, rfl, _, h2⟩ | h
      · rfl
      · cases h2
      · cases h
    · cases h2
    · cases h
theorem out_rel {F H : Hp} {a : Addr} {F' H' : Hp} {σ' : St} {ρ' : MEnv} {out : List MV} (R : Rel K ⟨F, H, fun i => if i = 0 then some a else none⟩ F' H' σ' ρ') (e : outI ρ' = some out) : But a H H' ∧ ∃ ys, H' a = some (.lst ys) ∧ F' a = none ∧ RepVs K F' out ys := by
  refine ⟨fun b o hb e => R.base b o (fun i z => ?_) e, ?_⟩
  · have z' : (if i = 0 then some a else none) = some b := z
    split at z'
    · cases z'
      exact hb rfl
    · cases z'
  · unfold outI at e
    split at e
    · rename_i ms hm
      cases e
      obtain ⟨b, ys, h1, h2, h3, h4, h5⟩ := R.own 0 _ _ hm
      have h5' : (if 0 = 0 then some a else none) = some b := h5
      rw [if_pos rfl] at h5'
      cases h5'
      exact ⟨ys, h2, h3, h4⟩
    · cases e
theorem fnI_ok {x qual : Str} {st : Stmt} {f : Addr} {fd : FuncData} {N : List Str} {p0 : Str} {ps : List Str} {k : Nat} {b : DS} (F : Fun K x qual st f fd) (S : FnScope N (p0 :: ps) (defScope st))
    (hb : ∀ (cdv : Value) (A : Around) (outer : List Env) (s : Shared) (H : Hp) (E : XK), Room k (A.deeper (PyProof.Rows.envOfC qual (defScope st) s.heap.objs.size f cdv)) → PSsM (cxOf CX0 P w K mg base N qual (defScope st) f cdv A outer s H E).nox (defBody st) b) :
    FnOk P w K mg base CX0 (k + 1) f fd (p0 :: ps) (spI K (fnI N.length b) ps.length) := by
  refine F.ok S (fun vs H Q E h => ?_) (fun cdv A outer s H vs Q E hr h => ?_)
  · obtain ⟨F, a, xs, ws, ds, ms, m, out, rfl, hl, _, _, _, _, r, _⟩ := h
    rw [List.length_cons, List.length_cons, r.length, hl]
  · obtain ⟨F, a, xs, ws, ds, ms, m, out, rfl, hl, sF, ha, fa, rd, r, e, k⟩ := h
    refine ⟨_, hb cdv A outer s H E hr, ⟨F, H, fun i => if i = 0 then some a else none⟩, F, envI N.length ds ms, ?_⟩
    unfold fnI at e
    obtain ⟨⟨fl, ρ'⟩, e1, e⟩ := Option.bind_eq_some_iff.mp e
    obtain ⟨o, e2, e⟩ := Option.bind_eq_some_iff.mp e
    refine ⟨fl, ρ', relI sF ha fa rd r, e1, ?_⟩
    cases fl with
    | rt m' =>
      cases e
      intro x σ' F' H' R s' r'
      obtain ⟨b1, ys, b2, b3, b4⟩ := out_rel R e2
      exact k x ys F' H' R.grown b1 b2 b3 b4 r'
    | nx =>
      cases e
      intro σ' F' H' R s'
      obtain ⟨b1, ys, b2, b3, b4⟩ := out_rel R e2
      exact k .non ys F' H' R.grown b1 b2 b3 b4 (by simp only [RepV])
    | _ => cases e
theorem fnIO_ok {x qual : Str} {st : Stmt} {f : Addr} {fd : FuncData} {N : List Str} {p0 : Str} {ps : List Str} {k : Nat} {b : DS} (F : Fun K x qual st f fd) (S : FnScope N (p0 :: ps) (defScope st))
    (hb : ∀ (cdv : Value) (A : Around) (outer : List Env) (s : Shared) (H : Hp) (E : XK), Room k (A.deeper (PyProof.Rows.envOfC qual (defScope st) s.heap.objs.size f cdv)) → PSsM (cxOf CX0 P w K mg base N qual (defScope st) f cdv A outer s H E).nox (defBody st) b) :
    FnOk P w K mg base CX0 (k + 1) f fd (p0 :: ps) (spIO K (fnIO N.length b) ps.length) := by
  refine F.ok S (fun vs H Q E h => ?_) (fun cdv A outer s H vs Q E hr h => ?_)
  · obtain ⟨F, a, xs, ws, ds, ms, m, out, rfl, hl, _, _, _, _, r, _⟩ := h
    rw [List.length_cons, List.length_cons, r.length, hl]
  · obtain ⟨F, a, xs, ws, ds, ms, m, out, rfl, hl, sF, ha, fa, rd, r, e, k⟩ := h
    refine ⟨_, hb cdv A outer s H E hr, ⟨F, H, fun i => if i = 0 then some a else none⟩, F, envI N.length ds ms, ?_⟩
    unfold fnIO at e
    obtain ⟨⟨fl, ρ'⟩, e1, e⟩ := Option.bind_eq_some_iff.mp e
    obtain ⟨o, e2, e⟩ := Option.bind_eq_some_iff.mp e
    refine ⟨fl, ρ', relI sF ha fa rd r, e1, ?_⟩
    cases fl with
    | ro m' =>
      cases e
      intro p zs σ' F' H' R s' hp fp h0 r'
      obtain ⟨b1, ys, b2, b3, b4⟩ := out_rel R e2
      exact k p zs ys F' H' R.grown b1 b2 b3 b4 hp fp h0 r'
    | _ => cases e
end
end ML
namespace ML
open PySem L2

/-! ### enumerate over a tuple -/
set_option maxHeartbeats 1000000 in
theorem enum_new1 {v : Value} {ob : Obj} {Hc : Heap → Prop} (B : Begins v ob Hc) :
    Meets (Builtin.«enumerate.__new__» ⟨[.type "enumerate", v], []⟩) (fun _ R s => Hc s.heap ∧
      R (.ok (.ret (.ref (s.heap.push ob).objs.size))) { s with heap := (s.heap.push ob).push { cls := .type "enumerate", data := .fields #[.none, .bool false, .ref s.heap.objs.size, rawInt 0, .none, .none] } }) :=
  .of_wp fun pr wo Ar Re sh hh => by
    obtain ⟨hp0, g0, d0, tk0, os0⟩ := sh
    obtain ⟨hc, hr⟩ := hh
    have hsub := sub_enumerate
    have step : ∀ {A' : Around} {E : Value → Shared → Prop} {Q : Value → Shared → Prop}, Q (.ref hp0.objs.size) ⟨hp0.push ob, g0, d0, tk0, os0⟩ → wpAny (model pr wo) A' (pyIter v) Q E ⟨hp0, g0, d0, tk0, os0⟩ :=
      fun q => B.iter pr wo _ _ ⟨hp0, g0, d0, tk0, os0⟩ _ hc q
    wp_walk using step
    refine wpAny_stack_any fun stk => wpAny_pure ?_
    split
    · rename_i cc _ _ _ _ _
      cases (cc == Value.type "enumerate")
      · wp_walk using step
        exact ⟨_, rfl, hr⟩
      · wp_walk using step
        exact ⟨_, rfl, hr⟩
    · wp_walk using step
      exact ⟨_, rfl, hr⟩
theorem call_enum1 {prog : Program} {w : World} {A : Around} {E : Value → Shared → Prop} {s : Shared} {v : Value} {ob : Obj} {Hc : Heap → Prop} {Q : Value → Shared → Prop} (B : Begins v ob Hc) (h1 : Hc s.heap)
    (h : ∀ hp, IsEnum hp (s.heap.objs.size + 1) s.heap.objs.size 0 .none → hp.get? s.heap.objs.size = some ob → hp.objs.size = s.heap.objs.size + 2 →
      (∀ b o, s.heap.get? b = some o → hp.get? b = some o) → Q (.ref (s.heap.objs.size + 1)) { s with heap := hp }) :
    wpAny (model prog w) A (call (.type "enumerate") [v]) Q E s := by
  refine callType_new F.called_enumerate (by decide) (F.typeCall_enumerate_1 _) (F.newCall_enumerate_1 _) (fun obj => F.args_object_init_2 obj _) F.entry_enumerate_new (enum_new1 B) ⟨h1, ?_⟩
  have size1 : (s.heap.push ob).objs.size = s.heap.objs.size + 1 := Heap.size_push ..
  show _ ∧ _
  rw [size1]
  have en : IsEnum ((s.heap.push ob).push { cls := .type "enumerate", data := .fields #[.none, .bool false, .ref s.heap.objs.size, rawInt 0, .none, .none] }) (s.heap.objs.size + 1) s.heap.objs.size 0 .none := by
    have got := Heap.get?_push_size (s.heap.push ob) (o := { cls := .type "enumerate", data := .fields #[.none, .bool false, .ref s.heap.objs.size, rawInt 0, .none, .none] }) rfl
    rw [size1] at got
    exact got
  exact ⟨⟨_, en, rfl⟩, h _ en (Heap.get?_push_of_some _ (Heap.get?_push_size _ B.free)) (by rw [Heap.size_push, size1]) fun b o z => Heap.get?_push_of_some _ (Heap.get?_push_of_some _ z)⟩

/-- the tuple at a, each item in a new pair -/
def IteT (K : PySem.W.Frag) (a : Addr) : It :=
  ⟨fun i H => ∃ (xs : List V) (x : V), SqT K H a xs ∧ xs[i]? = some x, fun i H v H' => ∃ T x, v = .ref T ∧ H T = none ∧ H' = upd H T (.tup [.int (i : Nat), x]) ∧ ∀ xs, SqT K H a xs → xs[i]? = some x, fun i H => ∃ xs : List V, SqT K H a xs ∧ xs.length ≤ i⟩
theorem turn_enumT {P : Program} {w : World} {K : PySem.W.Frag} {elts : List Expr} {kk : Nat} {tpos : Pos} (a en it : Addr) :
    Turn P w K (.Tuple elts kk tpos) (IteT K a) [en, it] en (fun i h => (∃ old, IsEnum h en it ((i : Nat) : Int) old) ∧ h.IsTupleIter it a i ∧ en ≠ it ∧ a ≠ it) where
  mem := by simp
  obj := fun i h st b hb => by
    obtain ⟨⟨old, hen⟩, ⟨o, ho, hc, hd⟩, _⟩ := st
    have two : b = en ∨ b = it := by simpa using hb
    rcases two with z | z
    · rw [z]
      exact ⟨_, hen, fun v q => nomatch q⟩
    · rw [z]
      exact ⟨o, ho, fun v q => by rw [hd] at q; cases q⟩
  keep := fun i h h' st k => by
    obtain ⟨⟨old, hen⟩, hi, hne, ha⟩ := st
    exact ⟨⟨old, k en (by simp) _ hen⟩, hi.at fun o q => k it (by simp) o q, hne, ha⟩
  item := by
    intro X hP hw hK hc i pins s σ H E I hf st hg
    subst hP hw hK
    obtain ⟨⟨old, hen⟩, hit, hne, hat⟩ := st
    obtain ⟨xs, x, hq, hx⟩ := hg
    obtain ⟨its, rv, pt, hz⟩ := I.tuple hq
    obtain ⟨u, hu, ru⟩ := rv.get hx
    have henl : en < s.heap.objs.size := Heap.lt_size hen
    have hitl : it < s.heap.objs.size := by
      obtain ⟨_, q, _⟩ := hit
      exact Heap.lt_size q
    have il : i < its.toArray.size := by
      rw [List.size_toArray]
      exact (List.getElem?_eq_some_iff.mp hu).1
    by_cases ea : en = a
    · exfalso
      subst ea
      obtain ⟨o, ho, hcl, _⟩ := pt
      rw [hen] at ho
      cases ho
      injection hcl with hcl
      exact absurd hcl (by decide)
    have D := Draws.tuple (prog := X.prog) (w := X.w) (A := X.A.in1) (I.ok.hd hc) it a hat its.toArray
    refine wpAny_pyNext_enum_itemD D hen ⟨hit, show s.heap.IsTuple a its.toArray from pt⟩ il hne (by simp [hne, ea]) fun x' h' tk hP ho st' hT hsz hk => ?_
    have ex : x' = u := by
      have hP' : its.toArray[i]? = some x' := hP
      rw [List.getElem?_toArray, hu] at hP'
      exact (Option.some.inj hP').symm
    subst ex
    refine ⟨_, rfl, wpAny_letOwnedTupleGo_enum (s := { s with heap := h', toks := tk + 1 }) ho fun h'' hen' sb => ?_⟩
    have hT2 : h''.get? s.heap.objs.size = some { cls := .type "tuple", data := .seq #[.int i tk, x'] } := (sb.2 _ (Nat.ne_of_gt henl)).trans hT
    have new : ObjOk X.prog X.w (upd H s.heap.objs.size (.tup [.int (i : Nat), x])) h'' s.heap.objs.size (.tup [.int (i : Nat), x]) :=
      ⟨by show 2 ≤ sizeLine; decide, [.int i tk, x'], .cons ⟨_, rfl⟩ (.cons ru .nil), ⟨_, hT2, rfl, _, rfl⟩⟩
    have I1 : Inv X pins σ (upd H s.heap.objs.size (.tup [.int (i : Nat), x])) { s with heap := h'', toks := tk + 1 } :=
      I.turnedNew (ch := [en, it]) (fun b ob hb q => (sb.2 b (fun z => hb (by simp [z]))).trans (hk b ob (fun z => hb (by simp [z])) (fun z => hb (by simp [z])) q)) hf (Nat.le_refl _) new
    refine ⟨.ref s.heap.objs.size, _, I1, rfl, ⟨_, x, rfl, I.hok.fresh (Nat.le_refl _), rfl, fun ys hy => by rw [I.tuple_inj hy hq]; exact hx⟩, ⟨⟨x', ?_⟩, st'.1.at fun o q => (sb.2 it (Ne.symm hne)).trans q, hne, hat⟩, fun b hb => ?_⟩
    · have one : ((i + 1 : Nat) : Int) = (i : Int) + 1 := by omega
      rw [one]
      exact hen'
    · have old' : b < s.heap.objs.size := by
        have two : b = en ∨ b = it := by simpa using hb
        rcases two with z | z
        · rw [z]
          exact henl
        · rw [z]
          exact hitl
      rw [upd_ne (Nat.ne_of_lt old')]
      exact (hf b hb).1
  done := by
    intro X hP hw hK hc i pins s σ H E I hf st hg
    subst hP hw hK
    obtain ⟨⟨old, hen⟩, hit, hne, hat⟩ := st
    obtain ⟨xs, hq, hx⟩ := hg
    obtain ⟨its, rv, pt, hz⟩ := I.tuple hq
    obtain ⟨f0, f1, f2, f3, f4, f5⟩ := hf it (by simp)
    have hl := rv.length
    have hT : s.TypeIs (.ref en) "enumerate" := ⟨_, hen, rfl⟩
    unfold pyNext
    refine wpAny_bind (wpAny_attempt (wpAny_callSpecial?_slot (name := Str.ofString "__next__") hT F.slot_enumerate_next
      (wpAny_call_entry F.slot_enumerate_next hT F.entry_enumerate_next ?_ (F.args_enumerate_next_1 _))))
    show wpAny _ _ (field (.ref en) 2 >>= _) _ _ _
    refine wpAny_bind (wpAny_field hen rfl (x := .ref it) rfl ?_)
    refine wpAny_bind (wpAny_nextOf_tuple_end (I.ok.hd hc) hit (show s.heap.IsTuple a its.toArray from pt) (by simp; omega) fun h' ex ext isx => ?_)
    obtain ⟨ox, hox, hcx⟩ := isx
    refine wpAny_bind (wpAny_isInstance (T := "StopIteration") (b := true) ⟨ox, hox, hcx⟩ isSubtype_stop ?_)
    exact wpAny_pure ⟨rfl, I.turned (t' := s.toks) (fun b o hb q => ext b o hb q) f0 f1 f3 f4 f5⟩
  self := fun A i s Q E st h => by
    obtain ⟨⟨old, hen⟩, _⟩ := st
    exact wpAny_pyIter_enum hen h
/-- enumerate of a list or a tuple -/
def iEnum2 (K : PySem.W.Frag) (ta : TA) : TI := fun σ H R => ta σ H fun vs H1 => ∃ a xs, vs = [.ref a] ∧ ((SqL K H1 a xs ∧ R (Ite K a) H1) ∨ (SqT K H1 a xs ∧ R (IteT K a) H1))
section
variable {X : Cx} {pos : Pos} {tg : Expr}
theorem pi_enum2 {e : Expr} {ta : TA} {p tpos : Pos} {elts : List Expr} {kk : Nat} (hg : Gl X "enumerate") (hm : X.mg "enumerate" = none) (ha : PA X [e] ta) (hst : starEach [e] X.env = [(false, eval e X.env)] := by rfl) :
    PI X (.Tuple elts kk tpos) (.Call (.Name "enumerate" p) [e] [] pos) (iEnum2 X.K ta) := by
  refine ⟨fun pins s σ H R I h => ?_⟩
  refine PyProof.Rows.Call_ (ld_blt I hg hm PyProof.Rows.boot_enumerate (PyProof.Rows.callWith_type1 (thn (ha.run pos pins s σ H _ I h) fun us s1 ⟨vs, Hh, I1, r1, q1⟩ => ?_) hst rfl))
  obtain ⟨a, xs, rfl, q⟩ := q1
  cases r1 with
  | cons r rr =>
    cases rr
    cases r
    have fp : ∀ b ∈ [s1.heap.objs.size + 1, s1.heap.objs.size], FpOk X pins Hh b := fun b hb => by
      have two : b = s1.heap.objs.size + 1 ∨ b = s1.heap.objs.size := by simpa using hb
      have le : s1.heap.objs.size ≤ b := by omega
      exact I1.fpOk le (I1.hok.fresh le)
    rcases q with ⟨hq, q⟩ | ⟨hq, q⟩
    · obtain ⟨its, rv, pl, hz⟩ := I1.list hq
      refine call_enumerate_list pl.isList fun hp he hit hsz hk => wpAny_pyIter_enum he ?_
      have I2 : Inv X pins σ Hh { s1 with heap := hp } := I1.kept (t' := s1.toks) hk
      exact ⟨s1.heap.objs.size + 1, [s1.heap.objs.size + 1, s1.heap.objs.size], _, _, Hh, rfl, I2, turn_enum a (s1.heap.objs.size + 1) s1.heap.objs.size, ⟨⟨.none, he⟩, hit, Nat.succ_ne_self _⟩, fp, q⟩
    · obtain ⟨its, rv, pt, hz⟩ := I1.tuple hq
      refine call_enum1 (begins_tuple a its.toArray) (show s1.heap.IsTuple a its.toArray from pt) fun hp he hit hsz hk => wpAny_pyIter_enum he ?_
      have I2 : Inv X pins σ Hh { s1 with heap := hp } := I1.kept (t' := s1.toks) hk
      have hlt : a < s1.heap.objs.size := by
        obtain ⟨o, ho, _⟩ := pt
        exact Heap.lt_size ho
      exact ⟨s1.heap.objs.size + 1, [s1.heap.objs.size + 1, s1.heap.objs.size], _, _, Hh, rfl, I2, turn_enumT a (s1.heap.objs.size + 1) s1.heap.objs.size, ⟨⟨.none, he⟩, ⟨_, hit, rfl, rfl⟩, Nat.succ_ne_self _, Nat.ne_of_lt hlt⟩, fp, q⟩
theorem jok_enumT {K : PySem.W.Frag} {F : Hp} {a : Addr} {ms : List MV} {xs : List V} (h : SqT K F a xs) (r : RepVs K F ms xs) : JOk K (IteT K a) F (enumM 0 ms) := fun i H F' s1 s2 => by
  have q : SqT K H a xs := Same.sqT s2 (Same.sqT s1 h)
  refine ⟨fun m e => ?_, fun e => ⟨xs, q, by rw [r.length]; rw [enum_len] at e; exact e⟩⟩
  obtain ⟨c, e1, rfl⟩ := enum_get e
  obtain ⟨x, g1, g2⟩ := r.get e1
  refine ⟨⟨xs, x, q, g1⟩, fun v H' ⟨T, x', hv, hT, hH, k1⟩ => .inr ⟨T, _, hT, hH, ?_⟩⟩
  have z1 := k1 xs q
  rw [g1] at z1
  cases z1
  subst hv
  rw [Nat.zero_add]
  exact pair_rv (F2 := F) (s2.free hT) s1 int_rv g2
theorem enumF_inv {ns ms : List MV} (h : enumF ns = some ms) : ∃ m0 qs, ns = [m0] ∧ seqM m0 = some qs ∧ ms = enumM 0 qs := by
  match ns, h with
  | [m0], h =>
    obtain ⟨qs, e3, e2⟩ := Option.bind_eq_some_iff.mp (show ((seqM m0).bind fun ms => some (enumM 0 ms)) = some ms from h)
    cases e2
    exact ⟨m0, qs, rfl, e3, rfl⟩
theorem pim_enum {e : Expr} {ds : DA} (h : PI X tg e (iEnum2 X.K (TMA X.K ds))) : PIM X tg e (dCallO enumF ds) := PI.imp h fun σ H R ⟨C, F, ρ, ms, ρ', R0, e, k⟩ => by
  unfold dCallO at e
  obtain ⟨⟨ns, ρ1⟩, e1, e⟩ := Option.bind_eq_some_iff.mp e
  obtain ⟨m, e2, e⟩ := Option.bind_eq_some_iff.mp e
  cases e
  refine ⟨C, F, ρ, _, _, R0, e1, fun xs F' H' R' s' r' => ?_⟩
  obtain ⟨m0, qs, rfl, e3, rfl⟩ := enumF_inv e2
  obtain ⟨x, rfl, rx⟩ := rvs1 r'
  cases m0 with
  | tup us =>
    cases e3
    obtain ⟨a, ys, rfl, q, r⟩ := rv_tup rx
    exact ⟨a, ys, rfl, .inr ⟨Same.sqT R'.frz q, k _ F' H' R' s' (jok_enumT q r)⟩⟩
  | lst us =>
    cases e3
    obtain ⟨a, ys, rfl, q, r⟩ := rv_lst rx
    exact ⟨a, ys, rfl, .inl ⟨SqL.of (R'.frz _ _ q), k _ F' H' R' s' (jok_enumL (SqL.of q) r)⟩⟩
  | scr us =>
    cases e3
    obtain ⟨a, ys, rfl, q, r⟩ := rv_scr rx
    exact ⟨a, ys, rfl, .inl ⟨R'.frz.seq q, k _ F' H' R' s' (jok_enumL q r)⟩⟩
  | _ => cases e3

/-! ### a list or a tuple, walked -/
def iSeq2 (K : PySem.W.Frag) (tl : TE) : TI := fun σ H R => tl σ H fun x H1 => ∃ a xs, x = .ref a ∧ ((SqL K H1 a xs ∧ R (Itl K a) H1) ∨ (SqT K H1 a xs ∧ R (Itt K a) H1))
theorem pi_seq2 {l : Expr} {tl : TE} (hl : PE X l tl) : PI X tg l (iSeq2 X.K tl) := by
  refine ⟨fun pins s σ H R I h => ?_⟩
  refine thn (hl.run pins s σ H _ I h) fun v s1 ⟨x, Hh, I1, r1, a, xs, ex, q⟩ => ?_
  subst ex
  cases r1
  have fp : ∀ b ∈ [s1.heap.objs.size], FpOk X pins Hh b := fun b hb => by
    have e1 : b = s1.heap.objs.size := by simpa using hb
    subst e1
    exact I1.fpOk (Nat.le_refl _) (I1.hok.fresh (Nat.le_refl _))
  rcases q with ⟨hq, q⟩ | ⟨hq, q⟩
  · obtain ⟨its, rv, pl, hz⟩ := I1.list hq
    refine wpAny_pyIter_list pl.isList ?_
    have I2 := I1.kept (t' := s1.toks) (h' := s1.heap.push { cls := .type "list_iterator", data := .fields #[.ref a, .int 0 0] }) fun b o e => Heap.get?_push_of_some _ e
    exact ⟨s1.heap.objs.size, [s1.heap.objs.size], _, _, Hh, rfl, I2, turn_list a _, ⟨_, Heap.get?_push_size _ rfl, rfl, rfl⟩, fp, q⟩
  · obtain ⟨its, rv, pt, hz⟩ := I1.tuple hq
    refine wpAny_pyIter_tuple (show s1.heap.IsTuple a its.toArray from pt) ?_
    have I2 := I1.kept (t' := s1.toks) (h' := s1.heap.push { cls := .type "tuple_iterator", data := .fields #[.ref a, .int 0 0] }) fun b o e => Heap.get?_push_of_some _ e
    exact ⟨s1.heap.objs.size, [s1.heap.objs.size], _, _, Hh, rfl, I2, turn_tuple a _, ⟨_, Heap.get?_push_size _ rfl, rfl, rfl⟩, fp, q⟩
theorem pim_seq {e : Expr} {d : DE} (h : PEM X e d) : PIM X tg e (dItems d) := PI.imp (pi_seq2 h) fun σ H R ⟨C, F, ρ, ms, ρ', R0, e, k⟩ => by
  unfold dItems at e
  obtain ⟨⟨m, ρ1⟩, e1, e⟩ := Option.bind_eq_some_iff.mp e
  obtain ⟨ns, e2, e⟩ := Option.bind_eq_some_iff.mp e
  cases e
  refine ⟨C, F, ρ, _, _, R0, e1, fun x F' H' R' s' r' => ?_⟩
  cases m with
  | tup us =>
    cases e2
    obtain ⟨a, ys, rfl, q, r⟩ := rv_tup r'
    exact ⟨a, ys, rfl, .inr ⟨Same.sqT R'.frz q, k _ F' H' R' s' (jok_tup q r)⟩⟩
  | lst us =>
    cases e2
    obtain ⟨a, ys, rfl, q, r⟩ := rv_lst r'
    exact ⟨a, ys, rfl, .inl ⟨SqL.of (R'.frz _ _ q), k _ F' H' R' s' (jok_list (SqL.of q) r)⟩⟩
  | scr us =>
    cases e2
    obtain ⟨a, ys, rfl, q, r⟩ := rv_scr r'
    exact ⟨a, ys, rfl, .inl ⟨R'.frz.seq q, k _ F' H' R' s' (jok_list q r)⟩⟩
  | _ => cases e2

end
end ML
namespace ML
open PySem L2

/-! ### t[::-1], t a tuple -/
theorem adjust_back (n : Nat) : Builtin.Slice.sliceAdjust none none (-1) (n : Int) = ((n : Int) - 1, -1) := by
  unfold Builtin.Slice.sliceAdjust
  simp
theorem places_back (n : Nat) : Builtin.Slice.slicePlaces ((n : Int) - 1) (-1) (-1) = n := by
  unfold Builtin.Slice.slicePlaces
  simp only [show ¬ ((-1 : Int) > 0) by omega, if_false]
  have one : -(-1 : Int) = 1 := by decide
  rw [one, Int.ediv_one]
  by_cases h : (n : Int) - 1 > -1
  · rw [if_pos h]
    omega
  · rw [if_neg h]
    omega
theorem filter_map_of {α β : Type} {f : α → Option β} {g : α → β} : ∀ {l : List α}, (∀ a ∈ l, f a = some (g a)) → l.filterMap f = l.map g
  | [], _ => rfl
  | a :: l, h => by
    rw [List.filterMap_cons, h a List.mem_cons_self, List.map_cons, filter_map_of fun b hb => h b (List.mem_cons_of_mem _ hb)]
theorem pick_back (xs : Array Value) : ((List.range xs.size).filterMap fun (m : Nat) => xs[(((xs.size : Int) - 1) + (m : Int) * (-1)).toNat]?) = xs.toList.reverse := by
  apply List.ext_getElem?
  intro i
  have e : (List.range xs.size).filterMap (fun (m : Nat) => xs[(((xs.size : Int) - 1) + (m : Int) * (-1)).toNat]?) = (List.range xs.size).map fun m => xs.getD (xs.size - 1 - m) .none := by
    apply filter_map_of
    intro m hm
    have hm' := List.mem_range.mp hm
    have ix : (((xs.size : Int) - 1) + (m : Int) * (-1)).toNat = xs.size - 1 - m := by omega
    rw [ix]
    have lt : xs.size - 1 - m < xs.size := by omega
    simp [lt]
  rw [e]
  by_cases hi : i < xs.size
  · rw [List.getElem?_map, List.getElem?_range hi]
    have h2 : i < xs.toList.reverse.length := by simpa using hi
    rw [List.getElem?_eq_getElem h2]
    have lt : xs.size - 1 - i < xs.size := by omega
    simp [lt, List.getElem_reverse]
  · rw [List.getElem?_eq_none (by simpa using hi), List.getElem?_eq_none (by simpa using hi)]
section
variable {prog : Program} {w : World} {A : Around} {E : Value → Shared → Prop} {s : Shared}
theorem getItem_tuple_back {t sl : Addr} {items : Array Value} {u : Tok} {Q : Value → Shared → Prop} (ht : PyProof.Rows.IsTup s.heap t items) (hs : s.heap.IsSliceOf sl .none .none (.int (-1) u))
    (h : Q (.ref s.heap.objs.size) { s with heap := s.heap.push { cls := .type "tuple", data := .seq items.toList.reverse.toArray } }) (hsz : items.size ≤ sizeLine) : wpAny (model prog w) A (getItem (.ref t) (.ref sl)) Q E s := by
  have small : sizeOk (.seq items.toList.reverse.toArray) := by
    show items.toList.reverse.toArray.size ≤ sizeLine
    simpa using hsz
  obtain ⟨os, hos, hcs, hds⟩ := id hs
  have tys : s.TypeIs (.ref sl) "slice" := ⟨os, hos, hcs⟩
  unfold getItem
  try (with_reducible refine wpAny_holding ?_)
  first | refine wpAny_bind (wpAny_pure ?_) | (skip)
  refine wpAny_bind (wpAny_sequenceKey (ht.typeIs) (by decide) ?_)
  refine wpAny_bind (wpAny_callSpecial?_slot (name := Str.ofString "__getitem__") (ht.typeIs) PyProof.Rows.slot_tuple_getitem
    (wpAny_call_entry PyProof.Rows.slot_tuple_getitem (ht.typeIs) PyProof.Rows.entry_tuple_getitem ?_ (PyProof.Rows.args_tuple_getitem _ _)))
  show wpAny _ _ (Builtin.Tuple.tupleItemsOf (.ref t) >>= _) _ _ _
  refine wpAny_bind (PyProof.Rows.tupleItemsOf_ ht ?_)
  refine wpAny_bind (wpAny_typeOf tys ?_)
  rw [if_pos (by decide)]
  have ap : ∀ {R : Int × Int × Nat → Shared → Prop}, R ((items.size : Int) - 1, -1, items.size) s → wpAny (model prog w) A.in1 (Builtin.Slice.sliceApplied (.ref sl) (pure (items.size : Int))) R (fun e s' => E e s') s := fun {R} hR => by
    unfold Builtin.Slice.sliceApplied Builtin.Slice.sliceFields
    refine wpAny_bind (wpAny_bind (wpAny_field hos hds (x := .none) rfl (wpAny_bind (wpAny_field hos hds (x := .none) rfl (wpAny_bind (wpAny_field hos hds (x := .int (-1) u) rfl (wpAny_pure ?_)))))))
    refine wpAny_bind (PyProof.Rows.slicePart_int ?_)
    show wpAny _ _ (if ((-1 : Int) == 0) = true then _ else _) _ _ s
    rw [if_neg (by decide)]
    refine wpAny_bind (PyProof.Rows.slicePart_none (wpAny_bind (PyProof.Rows.slicePart_none (wpAny_bind (wpAny_pure ?_)))))
    show wpAny _ _ (match Builtin.Slice.sliceAdjust none none (-1) (items.size : Int) with | (lo, hi) => pure (lo, (-1 : Int), Builtin.Slice.slicePlaces lo hi (-1))) _ _ s
    rw [adjust_back]
    show wpAny _ _ (pure ((items.size : Int) - 1, (-1 : Int), Builtin.Slice.slicePlaces ((items.size : Int) - 1) (-1) (-1))) _ _ s
    rw [places_back]
    exact wpAny_pure hR
  refine wpAny_bind (ap ?_)
  have hno : ¬ ((((items.size : Int) - 1) == 0 && (-1 : Int) == 1 && items.size == items.size) = true) := by
    intro q
    rw [Bool.and_eq_true, Bool.and_eq_true] at q
    exact absurd q.1.2 (by decide)
  show wpAny _ _ (if (((items.size : Int) - 1) == 0 && (-1 : Int) == 1 && items.size == items.size) = true then _ else _) _ _ s
  rw [if_neg hno, pick_back]
  first
    | exact wpAny_bind (m := Builtin.Tuple.tupleExact _) (wpAny_newObj_type (wpAny_pure ⟨_, rfl, wpAny_pure h⟩) small)
    | exact wpAny_bind (m := Builtin.Tuple.tupleExact _) (wpAny_newObj_type (wpAny_bind (wpAny_pure (wpAny_pure ⟨_, rfl, wpAny_pure h⟩))) small)
    | exact wpAny_bind (wpAny_bind (m := Builtin.Tuple.tupleExact _) (wpAny_newObj_type (wpAny_pure (wpAny_pure ⟨_, rfl, wpAny_pure h⟩)) small))
    | exact wpAny_bind (wpAny_bind (m := Builtin.Tuple.tupleExact _) (wpAny_newObj_type (wpAny_pure ⟨_, rfl, wpAny_pure h⟩) small))
end
end ML
namespace ML
open PySem L2
section
variable {X : Cx} {pos : Pos}
def tRevT (K : PySem.W.Frag) (te : TE) : TE := fun σ H Q => te σ H fun x H1 => ∃ a xs, x = .ref a ∧ SqT K H1 a xs ∧ ∀ p, H1 p = none → Q (.ref p) (upd H1 p (.tup xs.reverse))
theorem pe_revT {e : Expr} {te : TE} {k : Nat} {p1 p2 p3 : Pos} (he : PE X e te) : PE X (.Subscript e (.Slice none none (some (.UnaryOp .USub (.Constant (.int 1) k p1) p2)) p3) pos) (tRevT X.K te) := by
  refine ⟨fun pins s σ H Q I h => ?_⟩
  refine PyProof.Rows.Subscript_ (thn (he.run pins s σ H _ I h) fun v s1 ⟨x, Ha, I1, r1, a, xs, ex, hx, q⟩ => ?_)
  subst ex
  cases r1
  have stp : PO X (some (.UnaryOp .USub (.Constant (.int 1) k p1) p2)) (tPart (tUn (rU fun i => .int (-i)) (tC (.int 1)))) := po_some (pe_un un_neg pe_int)
  refine wpAny_Slice (thn (po_none.run pins s1 σ Ha (fun o Hb => o = none ∧ Hb = Ha) I1 ⟨rfl, rfl⟩) fun vl s2 ⟨l, Hb, I2, pl, el, e2⟩ => ?_)
  subst el e2
  refine thn (po_none.run pins s2 σ Hb (fun o Hc => o = none ∧ Hc = Hb) I2 ⟨rfl, rfl⟩) fun vu s3 ⟨u, Hc, I3, pu, eu, e3⟩ => ?_
  subst eu e3
  refine thn (stp.run pins s3 σ Hc (fun o Hd => o = some (-1) ∧ Hd = Hc) I3 ⟨1, rfl, -1, rfl, rfl, rfl⟩) fun vs s4 ⟨o, Hd, I4, ps, eo, e4⟩ => ?_
  subst eo e4
  have I5 : Inv X pins σ Hd { s4 with heap := s4.heap.push { cls := .type "slice", data := .fields #[vl, vu, vs] } } := I4.kept (t' := s4.toks) fun b ob z => Heap.get?_push_of_some _ z
  obtain ⟨its, r, ht, hz⟩ := I5.tuple hx
  have len := r.length
  have el : vl = .none := by cases pl; rfl
  have eu : vu = .none := by cases pu; rfl
  obtain ⟨tk, es⟩ : ∃ tk, vs = .int (-1) tk := by
    cases ps
    exact ⟨_, rfl⟩
  subst el eu es
  show wpAny (model X.prog X.w) X.A (PyProof.Rows.subscriptTail e (.Slice none none (some (.UnaryOp .USub (.Constant (.int 1) k p1) p2)) p3) (.ref a) (.ref s4.heap.objs.size)) (EP X pins σ Q) X.xe { s4 with heap := s4.heap.push { cls := .type "slice", data := .fields #[.none, .none, .int (-1) tk] } }
  refine PyProof.Rows.tail_any (ops := [.ref a, .ref s4.heap.objs.size]) (ht.typeIs) (PyProof.Rows.slot_tuple_getitem.lookup) ?_ (by with_unfolding_all rfl)
  refine getItem_tuple_back ht (Heap.IsSliceOf.new _ .none .none (.int (-1) tk)) ?_ (by rw [List.size_toArray]; omega)
  refine ⟨.ref _, _, I5.laid (t' := s4.toks) (o := .tup xs.reverse) (fun b ob z => Heap.get?_push_of_some _ z) (Nat.le_refl _) ?_, rfl, q _ (I5.hok.fresh (Nat.le_refl _))⟩
  exact ⟨by rw [List.length_reverse]; exact hz, its.reverse, r.reverse, PyProof.Rows.IsTup.new _ _⟩
theorem pem_revt {e : Expr} {d : DE} {k : Nat} {p1 p2 p3 : Pos} (he : PEM X e d) : PEM X (.Subscript e (.Slice none none (some (.UnaryOp .USub (.Constant (.int 1) k p1) p2)) p3) pos) (d1 revM d) := PE.imp (pe_revT he) fun σ H Q ⟨C, F, ρ, m, ρ', R, e, kk⟩ => by
  unfold d1 at e
  obtain ⟨⟨m1, ρ1⟩, e1, e⟩ := Option.bind_eq_some_iff.mp e
  obtain ⟨m2, e2, e⟩ := Option.bind_eq_some_iff.mp e
  cases e
  refine ⟨C, F, ρ, _, _, R, e1, fun x F1 H1 R1 s1 r1 => ?_⟩
  cases m1 with
  | tup ms =>
    cases e2
    obtain ⟨a, xs, rfl, q, r⟩ := rv_tup r1
    exact ⟨a, xs, rfl, Same.sqT R1.frz q, fun p hp => kk _ _ _ (R1.allocF hp) (s1.trans (R1.sF hp)) (tup_rv upd_same (RepVs.mono (R1.sF hp) _ _ r.reverse))⟩
  | _ => cases e2

/-! ### lists made -/
def OnO (K : PySem.W.Frag) (f : List MV → Option (List MV)) (r : List V → Hp → VK → Prop) : Prop := ∀ C F H σ ρ ms m xs Q, Rel K C F H σ ρ → RepVs K F ms xs → f ms = some m →
  (∀ p ys F' H', Rel K C F' H' σ ρ → Same F F' → H' p = some (.lst ys) → F' p = none → C.H0 p = none → Apart σ ρ p → RepVs K F' m ys → Q (.ref p) H') → r xs H Q
theorem peo_cb {e : Expr} {f : List MV → Option (List MV)} {r : List V → Hp → VK → Prop} {ds : DA} (h : PE X e (tCB r (TMA X.K ds))) (o : OnO X.K f r) : PEO X e (dCallO f ds) := PE.imp h fun σ H Q ⟨C, F, ρ, m, ρ', R, e, k⟩ => by
  unfold dCallO at e
  obtain ⟨⟨ms, ρ1⟩, e1, e⟩ := Option.bind_eq_some_iff.mp e
  obtain ⟨m3, e3, e⟩ := Option.bind_eq_some_iff.mp e
  cases e
  exact ⟨C, F, ρ, _, _, R, e1, fun xs F1 H1 R1 s1 r1 => o C F1 H1 σ _ ms _ xs Q R1 r1 e3 fun p ys F3 H3 R3 s3 hp fp h0 ho r3 => k p ys F3 H3 R3 (s1.trans s3) hp fp h0 ho r3⟩
theorem oo_list : OnO X.K lstF (fun xs H Q => ∃ p ys, xs = [.ref p] ∧ (SqL X.K H p ys ∨ SqT X.K H p ys) ∧ ∀ l, H l = none → Q (.ref l) (upd H l (.lst ys))) := fun C F H σ ρ ms m xs Q R r e k => by
  match ms, e with
  | [m0], e =>
    obtain ⟨x, rfl, rx⟩ := rvs1 r
    obtain ⟨a, ys, rfl, q, r'⟩ := Peek.seq R (.inl rx) (show seqM m0 = some m from e)
    exact ⟨a, ys, rfl, q, fun l hl => k l ys F _ (R.alloc hl) (Same.refl F) upd_same (R.fF hl) (R.dom l hl) (R.apart hl) r'⟩
/-- list(x), tuple(x), len(x) of a name's list -/
def dPeekO (i : Nat) : DA := fun ρ => (slotM ρ[i]?).bind fun m => (seqM m).bind fun ms => some (ms, ρ)
theorem peo_listv {e : Expr} {i : Nat} (h : PE X e (tCB (fun xs H Q => ∃ p ys, xs = [.ref p] ∧ (SqL X.K H p ys ∨ SqT X.K H p ys) ∧ ∀ l, H l = none → Q (.ref l) (upd H l (.lst ys))) (tCons (tVar i) tNil))) : PEO X e (dPeekO i) := PE.imp h fun σ H Q ⟨C, F, ρ, m, ρ', R, e, k⟩ => by
  unfold dPeekO at e
  obtain ⟨m0, e1, e⟩ := Option.bind_eq_some_iff.mp e
  obtain ⟨ms, e2, e⟩ := Option.bind_eq_some_iff.mp e
  cases e
  obtain ⟨x, h1, pk⟩ := R.peek e1
  obtain ⟨a, ys, rfl, q, r⟩ := pk.seq R e2
  exact ⟨_, h1, a, ys, rfl, q, fun l hl => k l ys F _ (R.alloc hl) (Same.refl F) upd_same (R.fF hl) (R.dom l hl) (R.apart hl) r⟩
theorem pem_lenv {e : Expr} {i : Nat} (h : PE X e (tCB (fun xs H Q => ∃ p ys, xs = [.ref p] ∧ (SqL X.K H p ys ∨ SqT X.K H p ys) ∧ Q (.int ys.length) H) (tCons (tVar i) tNil))) : PEM X e (dPeek lenM i) := PE.imp h fun σ H Q ⟨C, F, ρ, m, ρ', R, e, k⟩ => by
  unfold dPeek lenM at e
  obtain ⟨m0, e1, e⟩ := Option.bind_eq_some_iff.mp e
  obtain ⟨n, e2, e⟩ := Option.bind_eq_some_iff.mp e
  cases e
  obtain ⟨ms, e3, e2⟩ := Option.bind_eq_some_iff.mp e2
  cases e2
  obtain ⟨x, h1, pk⟩ := R.peek e1
  obtain ⟨a, ys, rfl, q, r⟩ := pk.seq R e3
  exact ⟨_, h1, a, ys, rfl, q, by rw [r.length]; exact k _ F H R (Same.refl F) int_rv⟩
theorem pem_tupv {e : Expr} {i : Nat} (h : PE X e (tCB (fun xs H Q => ∃ p ys, xs = [.ref p] ∧ ((SqL X.K H p ys ∧ ∀ l, H l = none → Q (.ref l) (upd H l (.tup ys))) ∨ (SqT X.K H p ys ∧ Q (.ref p) H))) (tCons (tVar i) tNil))) : PEM X e (dPeek tupM i) := PE.imp h fun σ H Q ⟨C, F, ρ, m, ρ', R, e, k⟩ => by
  unfold dPeek at e
  obtain ⟨m0, e1, e⟩ := Option.bind_eq_some_iff.mp e
  obtain ⟨n, e2, e⟩ := Option.bind_eq_some_iff.mp e
  cases e
  obtain ⟨x, h1, pk⟩ := R.peek e1
  rcases pk with r | ⟨ms, a, ys, rfl, rfl, hl, r⟩
  · exact ⟨_, h1, on_tup C F H σ _ [m0] _ [x] Q R (RepVs.cons r RepVs.nil) e2 k⟩
  · cases e2
    exact ⟨_, h1, a, ys, rfl, .inl ⟨SqL.of hl, fun l hn => k _ _ _ (R.allocF hn) (R.sF hn) (tup_rv upd_same (RepVs.mono (R.sF hn) _ _ r))⟩⟩
/-- [..] * n -/
def dRep (da : DA) (db : DE) : DA := fun ρ => (da ρ).bind fun p => (db p.2).bind fun q => match q.1 with
  | .int k => if -(2 ^ 63) ≤ k ∧ k < 2 ^ 63 ∧ p.1.length * k.toNat ≤ sizeLine then some ((List.replicate k.toNat p.1).flatten, q.2) else none
  | _ => none
theorem peo_rep {a b : Expr} {da : DA} {db : DE} (ha : PEO X a da) (hb : PEM X b db) : PEO X (.BinOp a .Mult b pos) (dRep da db) := PE.imp (pe_op op_rep ha hb) fun σ H Q ⟨C, F, ρ, m, ρ', R, e, k⟩ => by
  unfold dRep at e
  obtain ⟨⟨ms, ρ1⟩, e1, e⟩ := Option.bind_eq_some_iff.mp e
  obtain ⟨⟨n, ρ2⟩, e2, e⟩ := Option.bind_eq_some_iff.mp e
  cases n with
  | int z =>
    have e' : (if -(2 ^ 63) ≤ z ∧ z < 2 ^ 63 ∧ ms.length * z.toNat ≤ sizeLine then some ((List.replicate z.toNat ms).flatten, ρ2) else none) = some (m, ρ') := e
    split at e'
    · rename_i hc
      cases e'
      refine ⟨C, F, ρ, _, _, R, e1, fun p xs F1 H1 R1 s1 hp fp h0 ho r1 => ?_⟩
      refine ⟨C.shield p (.lst xs), F1, ρ1, _, _, R1.shield hp fp h0 ho, e2, fun y F2 H2 R2 s2 r2 => ?_⟩
      obtain ⟨R3, hp3, fp3, ho3⟩ := R2.unshield h0 (R1.nopin h0) (R1.noF0 fp)
      have := rv_int r2
      subst this
      refine ⟨p, z, xs, rfl, rfl, hp3, hc.1, hc.2.1, by rw [r1.length]; exact hc.2.2, fun l hl => ?_⟩
      exact k l _ F2 _ (R3.alloc hl) (s1.trans s2) upd_same (R3.fF hl) (R3.dom l hl) (R3.apart hl) ((RepVs.mono s2 _ _ r1).rep _)
    · cases e'
  | _ => cases e
/-- list + list -/
def catF : MV → MV → Option (List MV)
  | .lst a, .lst b => if lenOk (a.length + b.length) then some (a ++ b) else none
  | _, _ => none
def dCat (da db : DE) : DA := fun ρ => (da ρ).bind fun p => (db p.2).bind fun q => (catF p.1 q.1).bind fun ms => some (ms, q.2)
theorem peo_cat {a b : Expr} {da db : DE} (ha : PEM X a da) (hb : PEM X b db) : PEO X (.BinOp a .Add b pos) (dCat da db) := PE.imp (pe_op op_cat ha hb) fun σ H Q ⟨C, F, ρ, m, ρ', R, e, k⟩ => by
  unfold dCat at e
  obtain ⟨⟨m1, ρ1⟩, e1, e⟩ := Option.bind_eq_some_iff.mp e
  obtain ⟨⟨m2, ρ2⟩, e2, e⟩ := Option.bind_eq_some_iff.mp e
  obtain ⟨ms, e3, e⟩ := Option.bind_eq_some_iff.mp e
  cases e
  refine ⟨C, F, ρ, _, _, R, e1, fun x F1 H1 R1 s1 r1 => ⟨C, F1, ρ1, _, _, R1, e2, fun y F2 H2 R2 s2 r2 => ?_⟩⟩
  have e3 : catF m1 m2 = some m := e3
  unfold catF at e3
  split at e3
  · split at e3
    · rename_i hl
      cases e3
      obtain ⟨a, xs, rfl, q1, v1⟩ := rv_lst r1
      obtain ⟨b, ys, rfl, q2, v2⟩ := rv_lst r2
      refine ⟨a, b, xs, ys, rfl, rfl, R2.frz _ _ (s2 _ _ q1), R2.frz _ _ q2, by rw [v1.length, v2.length]; exact lenOk_le hl, fun l hn => ?_⟩
      exact k l _ F2 _ (R2.alloc hn) (s1.trans s2) upd_same (R2.fF hn) (R2.dom l hn) (R2.apart hn) ((RepVs.mono s2 _ _ v1).append v2)
    · cases e3
  · cases e3
/-- x + y, both names of lists that no one changes meanwhile -/
def dCatV (i j : Nat) : DA := fun ρ => (slotM ρ[i]?).bind fun m => (slotM ρ[j]?).bind fun n => (catF m n).bind fun ms => some (ms, ρ)
theorem Peek.lst {K : PySem.W.Frag} {C : Ctx} {F H : Hp} {σ : St} {ρ : MEnv} (R : Rel K C F H σ ρ) {ms : List MV} {x : V} (p : Peek K F H (.lst ms) x) : ∃ a xs, x = .ref a ∧ H a = some (.lst xs) ∧ RepVs K F ms xs := by
  rcases p with r | ⟨ns, a, xs, e, rfl, h, r⟩
  · obtain ⟨a, xs, rfl, q, r'⟩ := rv_lst r
    exact ⟨a, xs, rfl, R.frz _ _ q, r'⟩
  · cases e
    exact ⟨a, xs, rfl, h, r⟩
theorem peo_catv {i j : Nat} {x y : Str} {px py : Pos} (ha : PE X (.Name x px) (tVar i)) (hb : PE X (.Name y py) (tVar j)) : PEO X (.BinOp (.Name x px) .Add (.Name y py) pos) (dCatV i j) := PE.imp (pe_op op_cat ha hb) fun σ H Q ⟨C, F, ρ, m, ρ', R, e, k⟩ => by
  unfold dCatV at e
  obtain ⟨m1, e1, e⟩ := Option.bind_eq_some_iff.mp e
  obtain ⟨m2, e2, e⟩ := Option.bind_eq_some_iff.mp e
  obtain ⟨ms, e3, e⟩ := Option.bind_eq_some_iff.mp e
  cases e
  obtain ⟨v1, h1, k1⟩ := R.peek e1
  obtain ⟨v2, h2, k2⟩ := R.peek e2
  unfold catF at e3
  split at e3
  · split at e3
    · rename_i hl
      cases e3
      obtain ⟨a, xs, rfl, q1, r1⟩ := k1.lst R
      obtain ⟨b, ys, rfl, q2, r2⟩ := k2.lst R
      refine ⟨_, h1, _, h2, a, b, xs, ys, rfl, rfl, q1, q2, by rw [r1.length, r2.length]; exact lenOk_le hl, fun l hn => ?_⟩
      exact k l _ F _ (R.alloc hn) (Same.refl F) upd_same (R.fF hn) (R.dom l hn) (R.apart hn) (r1.append r2)
    · cases e3
  · cases e3
/-- a list comprehension as a new list -/
theorem peo_lc {e : Expr} {dj : DA} {vs : List Nat} {g : DG} {t : DT} {d : DE} (h : PE X e (tLc (TMJ X.K dj) (TMG X.K vs g) (TMT X.K t) (TM X.K d) vs)) : PEO X e (dLc dj vs g t d) := PE.imp h lc_imp
end
end ML
namespace ML
open PySem L2

/-! ### the module's names -/
structure GInt (mg : Str → Option Value) (x : Str) (i : Int) : Prop where
  ex : ∃ t, mg x = some (.int i t)
structure GStr (mg : Str → Option Value) (x : Str) (i : Str) : Prop where
  ex : ∃ t, mg x = some (.str i t)
structure GTup (K : PySem.W.Frag) (mg : Str → Option Value) (x : Str) (ms : List MV) : Prop where
  ex : ∃ a, mg x = some (.ref a) ∧ ∀ F, RepV K F (.tup ms) (.ref a)
/-- a def of the text stands at its name -/
structure At (K : PySem.W.Frag) (mg : Str → Option Value) (x : Str) (st : Stmt) : Prop where
  ex : ∃ f fd, Fun K x x st f fd ∧ mg x = some (.ref f)
/-- .. and keeps its promise -/
structure Def (P : Program) (w : World) (K : PySem.W.Frag) (mg : Str → Option Value) (base : Heap) (x : Str) (k : Nat) (ps : List Str) (sp : Sp) : Prop where
  ex : ∃ f fd, FnOk P w K mg base CX0 k f fd ps sp ∧ Binds K fd ps [] ∧ mg x = some (.ref f) ∧ PySem.W.keepIn K (.ref f) = true
section
variable {X : Cx} {pos p : Pos} {x : Str}
theorem pem_gint {i : Int} (g : GInt X.mg x i) (hg : Gl X x) (hd : (x == ("__debug__" : Str)) = false := by decide) : PEM X (.Name x pos) (dC (.int i)) := by
  obtain ⟨t, ht⟩ := g.ex
  exact pem_c (pe_glob (v := .int i) hg ht ⟨t, rfl⟩ hd) fun F => int_rv
theorem pem_gstr {i : Str} (g : GStr X.mg x i) (hg : Gl X x) (hd : (x == ("__debug__" : Str)) = false := by decide) : PEM X (.Name x pos) (dC (.str i)) := by
  obtain ⟨t, ht⟩ := g.ex
  exact pem_c (pe_glob (v := .str i) hg ht ⟨t, rfl⟩ hd) fun F => by simp only [RepV]
theorem pem_gtup {ms : List MV} (g : GTup X.K X.mg x ms) (hg : Gl X x) (hd : (x == ("__debug__" : Str)) = false := by decide) : PEM X (.Name x pos) (dC (.tup ms)) := by
  obtain ⟨a, ht, r⟩ := g.ex
  exact pem_c (pe_glob (v := .ref a) hg ht rfl hd) r
theorem call_def {e : Expr} {es : List Expr} {k j : Nat} {ps : List Str} {sp : Sp} {t : TA} (D : Def X.prog X.w X.K X.mg X.base x k ps sp) (hr : Room j X.A) (hk : k ≤ j) (hg : Gl X x) (ha : PA X (e :: es) t)
    (hdb : (x == ("__debug__" : Str)) = false := by decide) (he : starEach (e :: es) X.env = (false, eval e X.env) :: starEach es X.env := by rfl) (hpl : (backTo pos (starEach es X.env)).any (·.1) = false := by rfl) : PE X (.Call (.Name x p) (e :: es) [] pos) (tCall sp [] E0 t) := by
  obtain ⟨f, fd, F, b, hm, kp⟩ := D.ex
  exact pe_call F (hr.mono hk) hg hm kp b .nil pass0 ha hdb he hpl
theorem val_imp {d : DE} : ∀ σ H Q, TMI X.K (dVal d) σ H Q → TM X.K d σ H Q := fun σ H Q ⟨C, F, ρ, v, ρ', R, e, k⟩ => by
  unfold dVal at e
  obtain ⟨⟨m, ρ1⟩, e1, e⟩ := Option.bind_eq_some_iff.mp e
  cases e
  exact ⟨C, F, ρ, _, _, R, e1, fun x F' H' R' s' r' => k x F' H' R' s' r'⟩
theorem own_imp {d : DA} : ∀ σ H Q, TMI X.K (dOwn d) σ H Q → TMO X.K d σ H Q := fun σ H Q ⟨C, F, ρ, v, ρ', R, e, k⟩ => by
  unfold dOwn at e
  obtain ⟨⟨m, ρ1⟩, e1, e⟩ := Option.bind_eq_some_iff.mp e
  cases e
  exact ⟨C, F, ρ, _, _, R, e1, fun p xs F' H' R' s' hp fp h0 ho r => k _ F' H' R' s' ⟨p, xs, rfl, hp, fp, h0, ho, r⟩⟩
theorem frz_imp {ds : DA} : ∀ σ H Q, TM X.K (dFrz ds) σ H Q → TMO X.K ds σ H Q := fun σ H Q ⟨C, F, ρ, m, ρ', R, e, k⟩ => by
  unfold dFrz at e
  obtain ⟨⟨ms, ρ1⟩, e1, e⟩ := Option.bind_eq_some_iff.mp e
  cases e
  refine ⟨C, F, ρ, ms, ρ1, R, e1, fun p xs F' H' R' s' hp fp h0 ho r => ?_⟩
  obtain ⟨R2, s2⟩ := R'.frzNew hp fp h0 ho
  exact k _ _ H' R2 (s'.trans s2) (lst_rv upd_same (RepVs.mono s2 _ _ r))
/-- x += y: numbers -/
def iaddM : MV → MV → Option MV
  | .int i, .int j => some (.int (i + j))
  | _, _ => none
theorem o2_iadd : Op2 X.K iaddM (rI0 fun i j => .int (i + j)) := fun C F H σ ρ m1 m2 m x y Q R r1 r2 e k => by
  unfold iaddM at e
  split at e
  · cases e
    exact ⟨_, _, rv_int r1, rv_int r2, k _ F H R (Same.refl F) int_rv⟩
  · cases e
theorem iop_mulW : OpR X (inplaceOp .Mult) (rI CMulW fun i j => .int (i * j)) := opI fun _ _ _ _ _ _ _ hc q => PyProof.Rows.imul_int q hc.ok
/-- shifts of one -/
def shlM : MV → MV → Option MV
  | .int i, .int j => if 0 ≤ j ∧ j ≤ 1000000 ∧ i.natAbs < 2 ^ 64 then some (.int (i * 2 ^ j.toNat)) else none
  | _, _ => none
theorem o2_shl : Op2 X.K shlM (rI CPow fun i j => .int (i * 2 ^ j.toNat)) := fun C F H σ ρ m1 m2 m x y Q R r1 r2 e k => by
  unfold shlM at e
  split at e
  · split at e
    · rename_i hc
      cases e
      exact ⟨_, _, rv_int r1, rv_int r2, hc, k _ F H R (Same.refl F) int_rv⟩
    · cases e
  · cases e
theorem pem_shl {a b : Expr} {da db : DE} (ha : PEM X a da) (hb : PEM X b db) : PEM X (.BinOp a .LShift b pos) (d2 shlM da db) := pem_op op_shl o2_shl ha hb
/-- a < b < c -/
def dChain (f g : MV → MV → Option MV) (da db dc : DE) : DE := fun ρ => (da ρ).bind fun p => (db p.2).bind fun q => (f p.1 q.1).bind fun m => match m with
  | .bl true => (dc q.2).bind fun r => (g q.1 r.1).bind fun n => some (n, r.2)
  | .bl false => some (.bl false, q.2)
  | _ => none
theorem chain_imp {r r' : R2} {f g : MV → MV → Option MV} {da db dc : DE} (p : Op2 X.K f r) (p' : Op2 X.K g r') : ∀ σ H Q, TM X.K (dChain f g da db dc) σ H Q → tChain r r' (TM X.K da) (TM X.K db) (TM X.K dc) σ H Q := fun σ H Q ⟨C, F, ρ, m, ρ', R, e, k⟩ => by
  unfold dChain at e
  obtain ⟨⟨m1, ρ1⟩, e1, e⟩ := Option.bind_eq_some_iff.mp e
  obtain ⟨⟨m2, ρ2⟩, e2, e⟩ := Option.bind_eq_some_iff.mp e
  obtain ⟨m3, e3, e⟩ := Option.bind_eq_some_iff.mp e
  refine ⟨C, F, ρ, m1, ρ1, R, e1, fun x F1 H1 R1 s1 r1 => ⟨C, F1, ρ1, m2, ρ2, R1, e2, fun y F2 H2 R2 s2 r2 => ?_⟩⟩
  refine p C F2 H2 σ ρ2 m1 m2 m3 x y _ R2 (RepV.mono s2 _ _ r1) r2 e3 fun z F3 H3 R3 s3 r3 => ?_
  cases m3 with
  | bl t =>
    refine ⟨t, rv_bl r3, ?_⟩
    cases t with
    | true =>
      obtain ⟨⟨m4, ρ4⟩, e4, e⟩ := Option.bind_eq_some_iff.mp e
      obtain ⟨m5, e5, e⟩ := Option.bind_eq_some_iff.mp e
      cases e
      exact iteT ⟨C, F3, ρ2, _, _, R3, e4, fun w F4 H4 R4 s4 r4 => p' C F4 H4 σ _ m2 m4 _ y w Q R4 (RepV.mono (s3.trans s4) _ _ r2) r4 e5 fun u F5 H5 R5 s5 r5 => k u F5 H5 R5 ((((s1.trans s2).trans s3).trans s4).trans s5) r5⟩
    | false =>
      cases e
      exact iteF (k _ F3 H3 R3 ((s1.trans s2).trans s3) bl_rv)
  | _ => cases e
theorem pem_chain {op op' : CmpOp} {r r' : R2} {f g : MV → MV → Option MV} {a b c : Expr} {da db dc : DE} (o : OpR X (compareOp op) r) (o' : OpR X (compareOp op') r') (p : Op2 X.K f r) (p' : Op2 X.K g r') (ha : PEM X a da) (hb : PEM X b db) (hc : PEM X c dc)
    (hm : lastMarks [op, op'] [b, c] = false := by with_unfolding_all rfl) : PEM X (.Compare a [op, op'] [b, c] pos) (dChain f g da db dc) := PE.imp (pe_chain o o' ha hb hc hm) (chain_imp p p')
theorem ptm_chain {op op' : CmpOp} {r r' : R2} {f g : MV → MV → Option MV} {a b c : Expr} {da db dc : DE} (o : OpR X (compareOp op) r) (o' : OpR X (compareOp op') r') (p : Op2 X.K f r) (p' : Op2 X.K g r') (ha : PEM X a da) (hb : PEM X b db) (hc : PEM X c dc)
    (hm : lastMarks [op, op'] [b, c] = false := by with_unfolding_all rfl) : PTM X (.Compare a [op, op'] [b, c] pos) (dT blM (dChain f g da db dc)) := PT.imp (pt_chain o o' ha hb hc hm) fun σ H Q ⟨C, F, ρ, c, ρ', R, e, k⟩ => by
  unfold dT at e
  obtain ⟨⟨m, ρ1⟩, e1, e⟩ := Option.bind_eq_some_iff.mp e
  obtain ⟨b', e2, e⟩ := Option.bind_eq_some_iff.mp e
  cases e
  have e3 : m = .bl c := by
    unfold blM at e2
    split at e2
    · rename_i b2 hm
      cases e2
      exact hm
    · cases e2
  subst e3
  exact chain_imp p p' σ H _ ⟨C, F, ρ, _, ρ1, R, e1, fun x F' H' R' s' r' => ⟨_, rv_bl r', k F' H' R' s'⟩⟩
end
end ML
namespace ML
open PySem L2
/-! ### len(dict(pairs)), the keys tuples of numbers, all alike -/
/-- a dict with n entries stands at p -/
def DictN (p : Addr) (n : Nat) (h : Heap) : Prop := (p == sysModules) = false ∧ ∃ o es ep, h.get? p = some o ∧ o.ExactDict ∧ o.data = .dict es ep ∧ es.size = n
section
variable {prog : Program} {w : World} {A : Around} {E : Value → Shared → Prop} {s : Shared}
theorem dict_len_meets (d : Addr) (n : Nat) :
    MeetsIn prog w (Builtin.«dict.__len__» ⟨[.ref d], []⟩) (fun _ R s => DictN d n s.heap ∧ R (.ok (.ret (.int n s.toks))) { s with toks := s.toks + 1 }) :=
  .of_wp fun A R s ⟨⟨hd, o, es, ep, ho, hc, hdat, hn⟩, hR⟩ => by
    show wpAny _ _ (dictSize d >>= _) _ _ _
    unfold dictSize
    refine wpAny_bind (wpAny_bind (wpAny_dictEntries ho hdat (wpAny_pure ?_)))
    show wpAny _ _ (Builtin.Dict.pendingCount d >>= _) _ _ _
    refine wpAny_bind (wpAny_pendingCount_other hd ?_)
    refine wpAny_ret_mkInt ?_
    rw [Nat.add_zero, hn]
    exact hR
theorem dict_len_call {d : Addr} {n : Nat} {Q : Value → Shared → Prop} (hm : DictN d n s.heap) (fit : (n : Int) < 2 ^ 63)
    (h : ∀ t k, Q (.int n t) { s with toks := k }) : wpAny (model prog w) A (call (.builtin "len") [.ref d]) Q E s := by
  have ty : s.TypeIs (.ref d) "dict" := by
    obtain ⟨_, o, es, ep, ho, hc, _⟩ := hm
    exact ⟨o, ho, hc.1⟩
  refine Calls.call_function_entry kind_len plain_len entry_len (args_len1 _) ?_
  unfold Builtin.«len»
  refine wpAny_bind (m := oneArg "len" _) (wpAny_pure ?_)
  refine wpAny_bind (m := callSpecial? (.ref d) (Str.ofString "__len__")) (wpAny_callSpecial?_slot (name := Str.ofString "__len__") ty F.slot_dict_len
    (call_meetsIn F.slot_dict_len ty F.entry_dict_len (F.args_dict_len_1 _) (dict_len_meets d n) ⟨hm, ?_⟩))
  show wpAny _ _ _ _ _ { s with toks := s.toks + 1 }
  refine wpAny_bind (wpAny_holding (wpAny_pure ?_))
  refine wpAny_bind (wpAny_letGo ?_)
  show wpAny _ _ (if ((n : Nat) : Int) < 0 then _ else _) _ _ _
  rw [if_neg (by omega)]
  show wpAny _ _ (if ((n : Nat) : Int) ≥ 2 ^ 63 then _ else _) _ _ _
  rw [if_neg (by omega)]
  exact wpAny_bind (wpAny_mkInt (wpAny_pure ⟨_, rfl, h _ _⟩))
end
section
variable {K : Type} [DecidableEq K]
theorem stored_alike (k : K) : ∀ (ps xs : List (K × Addr × Value)), (∀ x ∈ ps, x.1 = k) → xs.length = 1 → (∀ x ∈ xs, x.1 = k) → (storedAllH xs ps).length = 1
  | [], xs, _, h, _ => h
  | p :: ps, xs, hp, h, hx => by
    have e : p.1 = k := hp p List.mem_cons_self
    obtain ⟨x, rfl⟩ := List.length_eq_one_iff.mp h
    have ex : x.1 = k := hx x List.mem_cons_self
    show (storedAllH (storedH [x] p.1 p.2.1 p.2.2) ps).length = 1
    have found : ∃ q, atKey [x] p.1 = some q := by
      unfold atKey
      simp [ex, e]
    obtain ⟨q, hq⟩ := found
    rw [storedH_old hq]
    refine stored_alike k ps _ (fun y hy => hp y (List.mem_cons_of_mem _ hy)) (by simp) fun y hy => ?_
    simp only [List.map_cons, List.map_nil, List.mem_singleton] at hy
    subst hy
    unfold putAt
    split
    · assumption
    · exact ex
theorem stored_one (k : K) (p : K × Addr × Value) (ps : List (K × Addr × Value)) (h : ∀ x ∈ p :: ps, x.1 = k) : (storedAllH [] (p :: ps)).length = 1 := by
  show (storedAllH (storedH [] p.1 p.2.1 p.2.2) ps).length = 1
  rw [storedH_new (by simp [atKey])]
  refine stored_alike k ps _ (fun y hy => h y (List.mem_cons_of_mem _ hy)) rfl fun y hy => ?_
  simp only [List.nil_append, List.mem_singleton] at hy
  subst hy
  exact h p List.mem_cons_self
end
end ML
namespace ML
open PySem L2
section
variable {X : Cx}
def rDict1 (K : PySem.W.Frag) : List V → Hp → VK → Prop := fun xs H Q => ∃ (a : Addr) (ps : List Addr) (key : List Key), xs = [.ref a] ∧ SqL K H a (ps.map V.ref) ∧ ps ≠ [] ∧
  (∀ p ∈ ps, ∃ b v, SqT K H p [.ref b, v] ∧ SqT K H b (key.map kV)) ∧ ∀ p, H p = none → Q (.ref p) (upd H p (.ext (DictN p 1)))
theorem items_are {key : List Key} : ∀ {us : List Value}, Vals (key.map kV) us → ItemsAre (mixKind X.prog X.w) key us := by
  induction key with
  | nil =>
    intro us r
    cases r
    exact .nil
  | cons k ks ih =>
    intro us r
    cases r with
    | cons h t => exact .cons (kV_is (P := X.prog) (w := X.w) h) (ih t)
theorem pairs_at {pins : List (Addr × Obj)} {σ : St} {H : Hp} {s : Shared} {key : List Key} (I : Inv X pins σ H s) : ∀ {ps : List Addr}, (∀ p ∈ ps, ∃ b v, SqT X.K H p [.ref b, v] ∧ SqT X.K H b (key.map kV)) →
    ∃ bvs : List (Addr × Value), bvs.length = ps.length ∧ ∀ (j : Nat) b v, bvs[j]? = some (b, v) → ∃ p, ps[j]? = some p ∧ PyProof.Rows.IsTup s.heap p #[.ref b, v] ∧ IsTupleKey (mixKind X.prog X.w) s.heap key b
  | [], _ => ⟨[], rfl, fun j b v e => by simp at e⟩
  | p :: ps, h => by
    obtain ⟨bvs, hl, hb⟩ := pairs_at I (ps := ps) fun q hq => h q (List.mem_cons_of_mem _ hq)
    obtain ⟨b, v, h1, h2⟩ := h p List.mem_cons_self
    obtain ⟨its, rv, pt, _⟩ := I.tuple h1
    obtain ⟨u, y, rfl, ru, ry⟩ := vals2 rv
    cases ru
    obtain ⟨its2, rv2, pt2, _⟩ := I.tuple h2
    obtain ⟨o, ho, hc, n, hd⟩ := pt2
    refine ⟨(b, y) :: bvs, by simp [hl], fun j c z e => ?_⟩
    cases j with
    | zero =>
      cases e
      exact ⟨p, rfl, pt, o, _, n, ho, hc, hd, items_are rv2⟩
    | succ j => exact hb j c z (by simpa using e)
theorem call_dict1 (hc : X.calm = true) (hu : X.A.units + 64 < cLine) : CallR X (.type "dict") (rDict1 X.K) := by
  intro pins s σ H xs us Q I r q
  obtain ⟨a, ps, key, rfl, hq, hne, hp, q⟩ := q
  obtain ⟨u, rfl, rx⟩ := vals1 r
  cases rx
  obtain ⟨its, rv, pl, hz⟩ := I.list hq
  have ei := refs_at rv
  subst ei
  rw [List.length_map] at hz
  obtain ⟨bvs, hl, hb⟩ := pairs_at I hp
  obtain ⟨o, n, ho, hcl, hd, hdat⟩ := pl
  let prs : List (Value × Value) := bvs.map fun q => (Value.ref q.1, q.2)
  let psH : List (List Key × Addr × Value) := bvs.map fun q => (key, q.1, q.2)
  have prl : prs.length = ps.length := by simp [prs, hl]
  have at_ : ∀ (j : Nat) k v, prs[j]? = some (k, v) → ∃ b, bvs[j]? = some (b, v) ∧ k = .ref b := fun j k v e => by
    rw [List.getElem?_map] at e
    cases e2 : bvs[j]? with
    | none =>
      rw [e2] at e
      cases e
    | some q =>
      rw [e2] at e
      cases e
      exact ⟨q.1, rfl, rfl⟩
  have items : PairItems s.heap (ps.map Value.ref).toArray (fun j => ps.getD j 0) prs := ⟨by simp [prl], fun j k v e => by
    obtain ⟨b, e2, rfl⟩ := at_ j k v e
    obtain ⟨p, e3, ht, _⟩ := hb j b v e2
    have ep : ps.getD j 0 = p := by simp [List.getD, e3]
    refine ⟨by simp [e3, ep], ?_⟩
    show PairAt s.heap (ps.getD j 0) (Value.ref b) v
    rw [ep]
    exact .inl ht⟩
  refine call_dict_pairsH (knd := tupleKind (mixKind X.prog X.w)) (ps := psH) (PairArg.list a (ps.map Value.ref).toArray (fun j => ps.getD j 0) prs) (I.ok.hd hc) (show X.A.units + 1 + 1 < cLine by omega) ⟨⟨o, n, ho, hcl, hd, hdat⟩, items⟩ ?_ ?_ (by rw [prl]; exact hz) fun h' tk hd' hk => ?_
  · refine ⟨by simp [psH, prs], fun i k v e => ?_⟩
    obtain ⟨b, e2, rfl⟩ := at_ i k v e
    exact ⟨key, b, by simp [psH, e2], rfl⟩
  · intro h' hk x hx
    obtain ⟨⟨b, v⟩, hm, rfl⟩ := List.mem_map.mp hx
    obtain ⟨j, hj⟩ := List.getElem?_of_mem hm
    obtain ⟨p, _, _, o', its', n', g1, g2, g3, g4⟩ := hb j b v hj
    exact ⟨o', its', n', hk _ _ (Nat.ne_of_lt (Heap.lt_size g1)) (by simp) g1, g2, g3, g4⟩
  · have one : (storedAllH [] psH).length = 1 := by
      cases hps : psH with
      | nil =>
        exfalso
        have : psH.length = ps.length := by simp [psH, hl]
        rw [hps] at this
        exact hne (List.length_eq_zero_iff.mp this.symm)
      | cons p r =>
        refine stored_one key p r fun x hx => ?_
        rw [← hps] at hx
        obtain ⟨y, _, rfl⟩ := List.mem_map.mp hx
        rfl
    obtain ⟨od, es, ep, ho', hx', hdt, he, _⟩ := hd'
    have D : DictN s.heap.objs.size 1 h' := ⟨beq_eq_false_iff_ne.mpr (Nat.ne_of_gt I.big), od, es, ep, ho', hx', hdt, by rw [PySem.size_of_entries he, one]⟩
    have k' : ∀ b ob, s.heap.get? b = some ob → h'.get? b = some ob := fun b ob e => hk b ob (by simp) e
    refine ⟨.ref s.heap.objs.size, upd H s.heap.objs.size (.ext (DictN s.heap.objs.size 1)), I.laid (t' := tk) k' (Nat.le_refl _) ?_, rfl, q _ (I.hok.fresh (Nat.le_refl _))⟩
    refine ⟨D, ⟨od, ho'⟩, fun h1 h2 ⟨f0, o1, es1, ep1, f1, f2, f3, f4⟩ k2 => ⟨f0, o1, es1, ep1, k2 _ f1, f2, f3, f4⟩⟩
def rLenD (K : PySem.W.Frag) : List V → Hp → VK → Prop := fun xs H Q => ∃ (p : Addr) (n : Nat), xs = [.ref p] ∧ H p = some (.ext (DictN p n)) ∧ n ≤ 1000 ∧ Q (.int (n : Int)) H
theorem call_lenN : CallR X (.builtin "len") (rLenD X.K) := by
  intro pins s σ H xs us Q I r q
  obtain ⟨p, n, rfl, hp, hn, q⟩ := q
  obtain ⟨u, rfl, rx⟩ := vals1 r
  cases rx
  obtain ⟨D, _, _⟩ := I.hok p _ hp
  exact dict_len_call D (by omega) fun t k => ⟨.int n, H, I.tok k, ⟨t, rfl⟩, q⟩
/-- len(dict(pairs)) where all keys are one tuple of numbers -/
def keyM : MV → Option (List Int)
  | .tup [.tup ks, _] => intsM ks
  | _ => none
def alikeM (ks : List Int) : List MV → Bool
  | [] => true
  | m :: ms => decide (keyM m = some ks) && alikeM ks ms
def lendF : List MV → Option MV
  | [.lst (m :: ms)] => (keyM m).bind fun ks => if alikeM ks (m :: ms) then some (.int 1) else none
  | _ => none
theorem alike_rep {K : PySem.W.Frag} {F : Hp} {ks : List Int} : ∀ {ms : List MV} {xs : List V}, RepVs K F ms xs → alikeM ks ms = true →
    ∃ ps : List Addr, xs = ps.map V.ref ∧ ps.length = ms.length ∧ ∀ p ∈ ps, ∃ b v, SqT K F p [.ref b, v] ∧ SqT K F b (ks.map V.int)
  | [], xs, r, _ => ⟨[], by rw [RepVs.nil_iff.mp r]; rfl, rfl, fun p hp => nomatch hp⟩
  | m :: ms, xs, r, h => by
    obtain ⟨x, r', rfl, h1, h2⟩ := r.inv
    simp only [alikeM, Bool.and_eq_true, decide_eq_true_eq] at h
    obtain ⟨ps, rfl, hl, hp⟩ := alike_rep h2 h.2
    have hk := h.1
    unfold keyM at hk
    split at hk
    · obtain ⟨a, ys, rfl, q, ry⟩ := rv_tup h1
      obtain ⟨y, z, rfl, r1, r2⟩ := rvs2 ry
      obtain ⟨b, zs, rfl, q2, rz⟩ := rv_tup r1
      have := ints_rep rz hk
      subst this
      refine ⟨a :: ps, rfl, by simp [hl], fun p hpm => ?_⟩
      rcases List.mem_cons.mp hpm with rfl | hpm
      · exact ⟨b, z, q, q2⟩
      · exact hp p hpm
    · cases hk
theorem pem_lend {e : Expr} {ds : DA} (h : PE X e (tCB (rLenD X.K) (tCons (tCB (rDict1 X.K) (TMA X.K ds)) tNil))) : PEM X e (dCall lendF ds) := PE.imp h fun σ H Q ⟨C, F, ρ, m, ρ', R, e, k⟩ => by
  unfold dCall at e
  obtain ⟨⟨ms, ρ1⟩, e1, e⟩ := Option.bind_eq_some_iff.mp e
  obtain ⟨m1, e2, e⟩ := Option.bind_eq_some_iff.mp e
  cases e
  refine ⟨C, F, ρ, _, _, R, e1, fun xs F1 H1 R1 s1 r1 => ?_⟩
  match ms, e2 with
  | [.lst (n :: ns)], e2 =>
    obtain ⟨ks, e3, e2⟩ := Option.bind_eq_some_iff.mp (show ((keyM n).bind fun ks => if alikeM ks (n :: ns) then some (.int 1) else none) = some m from e2)
    split at e2
    · rename_i ha
      cases e2
      obtain ⟨x, rfl, rx⟩ := rvs1 r1
      obtain ⟨a, ys, rfl, q, ry⟩ := rv_lst rx
      obtain ⟨ps, rfl, hl, hp⟩ := alike_rep ry ha
      have hkey : ks.map V.int = (ks.map (Sum.inl : Int → Key)).map kV := by simp [kV]
      refine ⟨a, ps, ks.map Sum.inl, rfl, SqL.of (R1.frz _ _ q), fun z => by rw [z] at hl; simp at hl, fun p hpm => ?_, fun p hn => ?_⟩
      · obtain ⟨b, v, g1, g2⟩ := hp p hpm
        exact ⟨b, v, Same.sqT R1.frz g1, by rw [← hkey]; exact Same.sqT R1.frz g2⟩
      · exact ⟨p, 1, rfl, upd_same, by decide, k _ F1 _ (R1.alloc hn) s1 int_rv⟩
    · cases e2
/-- a try in which nothing is raised -/
theorem psm_try {body : List Stmt} {h0 : ExceptHandler} {hds : List ExceptHandler} {pos : Pos} {d : DS} (hb : PSsM X.nox body d) : PSM X (.Try body (h0 :: hds) [] [] pos) d := ps_try_thru0 hb
end
end ML
namespace ML
open PySem L2
/-! ### the head's facts -/
def dd (x : Str) (st : Stmt) : He.DefD := ⟨(x, none), x, x, defArgs st, defBody st, defScope st, [], []⟩
theorem fun_of {K : PySem.W.Frag} {x : Str} {st : Stmt} {f : Addr} {fd : FuncData} (F : FunD K x x (defArgs st) (defBody st) (defScope st) [] [] f fd) : Fun K x x st f fd := by
  obtain ⟨oc, od, dV, kV, doc, pm, an, cdv, ct, osl, e, lk, hcd, hD, _⟩ := F.ex
  rcases hD with ⟨_, rfl⟩ | ⟨z, _⟩
  · exact ⟨⟨oc, od, kV, doc, pm, an, cdv, ct, osl, e, lk, hcd⟩, F.kp⟩
  · exact absurd rfl z
theorem at_of {K : PySem.W.Frag} {mg : Str → Option Value} {x : Str} {st : Stmt} (h : ∃ fd, FunD K x x (defArgs st) (defBody st) (defScope st) [] [] (He.fAd K (x, none)) fd) (g : mg x = some (.ref (He.ga K x))) : At K mg x st := by
  obtain ⟨fd, F⟩ := h
  exact ⟨_, fd, fun_of F, g⟩
theorem dv_int {K : PySem.W.Frag} {i : Int} : (He.Dv.int i).v K = V.int i := rfl
def mvD : He.Dv → Option MV
  | .int i => some (.int i)
  | .bl b => some (.bl b)
  | _ => none
theorem gtup_of {K : PySem.W.Frag} {mg : Str → Option Value} {x : Str} {is : List Int} (g : mg x = some (.ref (He.ga K x))) (h : He.tupB K x (is.map He.Dv.int) = true) : GTup K mg x (is.map MV.int) := by
  refine ⟨He.ga K x, g, fun F => ?_⟩
  have q := He.tupB_ok h F
  simp only [RepV]
  refine ⟨_, _, rfl, q, ?_⟩
  clear q h
  induction is with
  | nil => exact RepVs.nil
  | cons i is ih => exact RepVs.cons int_rv ih
theorem bind1 {K : PySem.W.Frag} {x : Str} {st : Stmt} {f : Addr} {fd : FuncData} {p : Str} (F : Fun K x x st f fd)
    (h : ∀ (kV doc pm : Value) (an : Option Addr) (cdv ct : Value) (us : List Value), us.length = [p].length → bindArgs (PySem.W.fnOf x x (defArgs st) (defBody st) (defScope st) .none kV doc pm an cdv ct) ⟨us, []⟩ = pure ([p].zip us)) (s : Shared) (v : Value) : BindsTo s fd ⟨[v], []⟩ [(p, v)] := by
  obtain ⟨oc, od, kV, doc, pm, an, cdv, ct, osl, rfl, lk, hcd⟩ := F.ex
  exact .of_eq (h kV doc pm an cdv ct [v] rfl)
theorem law_ends {K : PySem.W.Frag} {f : List MV → Option MV} {H : Hp} {a : Addr} {ns : List Int} (hS : SqL K H a (ns.map V.int)) (all : f [.scr (ns.map MV.int)] = some (.bl true)) : spP K f 1 [.ref a] H (fun v _ => v = .bl true) (fun _ _ _ => False) := by
  refine ⟨H, [.scr (ns.map MV.int)], .bl true, rfl, Same.refl H, RepVs.cons ?_ RepVs.nil, all, fun x F' H' _ _ r => rv_bl r⟩
  simp only [RepV]
  refine ⟨a, _, rfl, hS, ?_⟩
  clear hS all
  induction ns with
  | nil => exact RepVs.nil
  | cons i is ih => exact RepVs.cons int_rv ih
end ML
namespace K41
open PySem L2 ML
noncomputable def f_common : List MV → Option MV := fnP 2 (dSeq (dWhile (dTruV 1) (dPar 0 1 (dVal (dVar 1)) (dVal (d2 modM (dVar 0) (dVar 1))))) (dRet (dVar 0)))
noncomputable def f_least_terms : List MV → Option MV := fnP 3 (dSeq (dSet 2 (dVal (dCall f_common (dCons (dCall absF (dCons (dVar 0) dNil)) (dCons (dVar 1) dNil))))) (dRet (dTup (dCons (d2 fdivM (dVar 0) (dVar 2)) (dCons (d2 fdivM (dVar 1) (dVar 2)) dNil)))))
noncomputable def f_add : List MV → Option MV := fnP 2 (dRet (dCall f_least_terms (dCons (d2 addM (d2 mulM (dIxV 0 (dC (.int 0))) (dIxV 1 (dC (.int 1)))) (d2 mulM (dIxV 1 (dC (.int 0))) (dIxV 0 (dC (.int 1))))) (dCons (d2 mulM (dIxV 0 (dC (.int 1))) (dIxV 1 (dC (.int 1)))) dNil))))
noncomputable def f_less : List MV → Option MV := fnP 2 (dRet (dCall f_least_terms (dCons (d2 subM (d2 mulM (dIxV 0 (dC (.int 0))) (dIxV 1 (dC (.int 1)))) (d2 mulM (dIxV 1 (dC (.int 0))) (dIxV 0 (dC (.int 1))))) (dCons (d2 mulM (dIxV 0 (dC (.int 1))) (dIxV 1 (dC (.int 1)))) dNil))))
noncomputable def f_times : List MV → Option MV := fnP 2 (dRet (dCall f_least_terms (dCons (d2 mulM (dIxV 0 (dC (.int 0))) (dIxV 1 (dC (.int 0)))) (dCons (d2 mulM (dIxV 0 (dC (.int 1))) (dIxV 1 (dC (.int 1)))) dNil))))
noncomputable def f_by : List MV → Option MV := fnP 3 (dSeq (dSet 2 (dVal (dIf (dT blM (d2 (cmpM fun i j => decide (j < i)) (dIxV 1 (dC (.int 0))) (dC (.int 0)))) (dC (.int 1)) (d1 negM (dC (.int 1)))))) (dRet (dCall f_least_terms (dCons (d2 mulM (d2 mulM (dVar 2) (dIxV 0 (dC (.int 0)))) (dIxV 1 (dC (.int 1)))) (dCons (d2 mulM (dIxV 0 (dC (.int 1))) (dCall absF (dCons (dIxV 1 (dC (.int 0))) dNil))) dNil)))))
noncomputable def f_is_fraction : List MV → Option MV := fnP 1 (dRet (dAndV (d2 eqvM (dPeek lenM 0) (dC (.int 2))) (dAndV (d2 (cmpM fun i j => decide (j < i)) (dIxV 0 (dC (.int 1))) (dC (.int 0))) (d2 eqvM (dCall f_common (dCons (dCall absF (dCons (dIxV 0 (dC (.int 0))) dNil)) (dCons (dIxV 0 (dC (.int 1))) dNil))) (dC (.int 1))))))
noncomputable def f_is_poly : List MV → Option MV := fnP 4 (dSeq (dIfS (dOr (dT blM (d2 (cmpM fun i j => decide (j < i)) (dPeek lenM 0) (d2 addM (dC (.int 24)) (dC (.int 1))))) (dNot (dT truM (dCall allF (dCons (dFrz (dLc (dItems (dVar 0)) [1] (gN 1) dYes (dAndV (d2 eqvM (dPeek lenM 1) (dC (.int 2))) (dCall f_is_fraction (dCons (dVar 1) dNil))))) dNil))))) (dRet (dC (.bl false))) dNx) (dSeq (dIfS (dNot (dT truM (dCall allF (dCons (dFrz (dLc (dItems (dVar 0)) [2, 3] (gT 2 (gsCons (gN 2) (gsCons (gN 3) gsNil))) dYes (d2 (cmpM fun i j => decide (i < j)) (dCall maxF (dCons (dCall absF (dCons (dVar 2) dNil)) (dCons (dVar 3) dNil))) (dC (.int (10 ^ 60)))))) dNil)))) (dRet (dC (.bl false))) dNx) (dRet (dOrV (dB (dNot (dT truM (dVar 0)))) (d2 nevM (d2 ixM (dIxV 0 (d1 negM (dC (.int 1)))) (dC (.int 0))) (dC (.int 0)))))))
noncomputable def f_check_poly : List MV → Option MV := fnP 1 (dIfS (dNot (dT truM (dCall f_is_poly (dCons (dVar 0) dNil)))) dNever dNx)
noncomputable def f_trimmed : List MV → Option MV := fnP 3 (dSeq (dSet 1 (dVal (dPeek lenM 0))) (dSeq (dWhile (dAnd (dTruV 1) (dT blM (d2 eqvM (d2 ixM (dIxV 0 (d2 subM (dVar 1) (dC (.int 1)))) (dC (.int 0))) (dC (.int 0))))) (dAug 1 subM (dC (.int 1)))) (dRet (dCall tupF (dCons (dFrz (dLc (dItems (dSlV 0 dNoP (dPart (dVar 1)))) [2] (gN 2) dYes (dPeek tupM 2))) dNil)))))
noncomputable def f_degree : List MV → Option MV := fnP 1 (dRet (d2 subM (dPeek lenM 0) (dC (.int 1))))
noncomputable def f_plus : List MV → Option MV := fnP 7 (dSeq (dSet 2 (dVal (dCall maxF (dCons (dPeek lenM 0) (dCons (dPeek lenM 1) dNil))))) (dSeq (dSet 3 (dVal (dFrz (dLc (dItems (dTup (dCons (dVar 0) (dCons (dVar 1) dNil)))) [4] (gN 4) dYes (dFrz (dLst (dStar (dVar 4) (dStar (dFrz (dRep (dLst (dCons (dC (.tup [.int 0, .int 1])) dNil)) (d2 subM (dVar 2) (dPeek lenM 4)))) dNil)))))))) (dRet (dCall f_trimmed (dCons (dFrz (dLc (dCallO zipF (dCons (dIxV 3 (dC (.int 0))) (dCons (dIxV 3 (dC (.int 1))) dNil))) [5, 6] (gT 2 (gsCons (gN 5) (gsCons (gN 6) gsNil))) dYes (dCall f_add (dCons (dVar 5) (dCons (dVar 6) dNil))))) dNil)))))
noncomputable def f_product : List MV → Option MV := fnP 7 (dSeq (dIfS (dOr (dNot (dTruV 0)) (dNot (dTruV 1))) (dRet (dTup dNil)) dNx) (dSeq (dSet 2 (dOwn (dRep (dLst (dCons (dC (.tup [.int 0, .int 1])) dNil)) (d2 subM (d2 addM (dPeek lenM 0) (dPeek lenM 1)) (dC (.int 1)))))) (dSeq (dFor (dCallO enumF (dCons (dVar 0) dNil)) (gT 2 (gsCons (gN 3) (gsCons (gN 4) gsNil))) (dIfS (dT truM (dIxV 4 (dC (.int 0)))) (dFor (dCallO enumF (dCons (dVar 1) dNil)) (gT 2 (gsCons (gN 5) (gsCons (gN 6) gsNil))) (dSetIx 2 (dCall f_add (dCons (dIxV 2 (d2 addM (dVar 3) (dVar 5))) (dCons (dCall f_times (dCons (dVar 4) (dCons (dVar 6) dNil))) dNil))) (d2 addM (dVar 3) (dVar 5)))) dNx)) (dRet (dCall f_trimmed (dCons (dVar 2) dNil))))))
noncomputable def f_divided : List MV → Option MV := fnP 8 (dSeq (dPar 2 3 (dOwn (dPeekO 0)) (dOwn (dRep (dLst (dCons (dC (.tup [.int 0, .int 1])) dNil)) (dCall maxF (dCons (dC (.int 0)) (dCons (d2 addM (d2 subM (dPeek lenM 0) (dPeek lenM 1)) (dC (.int 1))) dNil)))))) (dSeq (dWhile (dT blM (d2 (cmpM fun i j => decide (j ≤ i)) (dPeek lenM 2) (dPeek lenM 1))) (dSeq (dSet 4 (dVal (dCall f_by (dCons (dIxV 2 (d1 negM (dC (.int 1)))) (dCons (dIxV 1 (d1 negM (dC (.int 1)))) dNil))))) (dSeq (dSet 5 (dVal (d2 subM (dPeek lenM 2) (dPeek lenM 1)))) (dSeq (dSetIx 3 (dVar 4) (dVar 5)) (dSeq (dFor (dCallO enumF (dCons (dVar 1) dNil)) (gT 2 (gsCons (gN 6) (gsCons (gN 7) gsNil))) (dSetIx 2 (dCall f_less (dCons (dIxV 2 (d2 addM (dVar 5) (dVar 6))) (dCons (dCall f_times (dCons (dVar 4) (dCons (dVar 7) dNil))) dNil))) (d2 addM (dVar 5) (dVar 6)))) (dSeq (dDo (dPop 2)) (dSet 2 (dOwn (dCallO lstF (dCons (dCall f_trimmed (dCons (dVar 2) dNil)) dNil)))))))))) (dRet (dTup (dCons (dCall f_trimmed (dCons (dVar 3) dNil)) (dCons (dCall f_trimmed (dCons (dVar 2) dNil)) dNil))))))
noncomputable def f_monic : List MV → Option MV := fnP 2 (dRet (dCall tupF (dCons (dFrz (dLc (dItems (dVar 0)) [1] (gN 1) dYes (dCall f_by (dCons (dVar 1) (dCons (dIxV 0 (d1 negM (dC (.int 1)))) dNil))))) dNil)))
noncomputable def f_common_of : List MV → Option MV := fnP 2 (dSeq (dWhile (dTruV 1) (dSeq (dPar 0 1 (dVal (dVar 1)) (dVal (d2 ixM (dCall f_divided (dCons (dVar 0) (dCons (dVar 1) dNil))) (dC (.int 1))))) (dSet 1 (dVal (dIf (dTruV 1) (dCall f_monic (dCons (dVar 1) dNil)) (dVar 1)))))) (dRet (dIf (dTruV 0) (dCall f_monic (dCons (dVar 0) dNil)) (dTup dNil))))
noncomputable def f_slope : List MV → Option MV := fnP 3 (dRet (dCall f_trimmed (dCons (dFrz (dLc (dCallO enumF (dCons (dVar 0) dNil)) [1, 2] (gT 2 (gsCons (gN 1) (gsCons (gN 2) gsNil))) (dTruV 1) (dCall f_times (dCons (dVar 2) (dCons (dTup (dCons (dVar 1) (dCons (dC (.int 1)) dNil))) dNil))))) dNil)))
noncomputable def f_squarefree_of : List MV → Option MV := fnP 1 (dRet (dCall f_monic (dCons (d2 ixM (dCall f_divided (dCons (dVar 0) (dCons (dCall f_common_of (dCons (dVar 0) (dCons (dCall f_slope (dCons (dVar 0) dNil)) dNil))) dNil))) (dC (.int 0))) dNil)))
noncomputable def f_value_at : List MV → Option MV := fnP 4 (dSeq (dSet 2 (dVal (dC (.tup [.int 0, .int 1])))) (dSeq (dFor (dItems (d1 revM (dVar 0))) (gN 3) (dSet 2 (dVal (dCall f_add (dCons (dCall f_times (dCons (dVar 2) (dCons (dVar 1) dNil))) (dCons (dVar 3) dNil)))))) (dRet (dVar 2))))
noncomputable def f_whole_of : List MV → Option MV := fnP 8 (dSeq (dSet 1 (dVal (dC (.int 1)))) (dSeq (dFor (dItems (dVar 0)) (gT 2 (gsCons (gN 2) (gsCons (gN 3) gsNil))) (dSet 1 (dVal (d2 fdivM (d2 mulM (dVar 1) (dVar 3)) (dCall f_common (dCons (dVar 1) (dCons (dVar 3) dNil))))))) (dSeq (dSet 4 (dVal (dFrz (dLc (dItems (dVar 0)) [7, 3] (gT 2 (gsCons (gN 7) (gsCons (gN 3) gsNil))) dYes (d2 mulM (dVar 7) (d2 fdivM (dVar 1) (dVar 3))))))) (dSeq (dSet 3 (dVal (dC (.int 0)))) (dSeq (dFor (dItems (dVar 4)) (gN 5) (dSet 3 (dVal (dIf (dTruV 3) (dCall f_common (dCons (dCall absF (dCons (dVar 5) dNil)) (dCons (dVar 3) dNil))) (dCall absF (dCons (dVar 5) dNil)))))) (dSeq (dSet 6 (dVal (dIf (dT blM (d2 (cmpM fun i j => decide (j < i)) (dIxV 4 (d1 negM (dC (.int 1)))) (dC (.int 0)))) (dC (.int 1)) (d1 negM (dC (.int 1)))))) (dRet (dCall tupF (dCons (dFrz (dLc (dItems (dVar 4)) [5] (gN 5) dYes (d2 fdivM (d2 mulM (dVar 6) (dVar 5)) (dVar 3)))) dNil)))))))))
noncomputable def f_check_both : List MV → Option MV := fnP 2 (dSeq (dDo (dCall f_check_poly (dCons (dVar 0) dNil))) (dDo (dCall f_check_poly (dCons (dVar 1) dNil))))
noncomputable def f_sum_of : List MV → Option MV := fnP 2 (dSeq (dDo (dCall f_check_both (dCons (dVar 0) (dCons (dVar 1) dNil)))) (dRet (dCall f_plus (dCons (dVar 0) (dCons (dVar 1) dNil)))))
noncomputable def f_product_of : List MV → Option MV := fnP 2 (dSeq (dDo (dCall f_check_both (dCons (dVar 0) (dCons (dVar 1) dNil)))) (dSeq (dIfS (dT blM (d2 (cmpM fun i j => decide (j < i)) (d2 addM (dPeek lenM 0) (dPeek lenM 1)) (d2 addM (dC (.int 24)) (dC (.int 2))))) dNever dNx) (dRet (dCall f_product (dCons (dVar 0) (dCons (dVar 1) dNil))))))
noncomputable def f_division : List MV → Option MV := fnP 2 (dSeq (dDo (dCall f_check_both (dCons (dVar 0) (dCons (dVar 1) dNil)))) (dSeq (dIfS (dNot (dTruV 1)) dNever dNx) (dRet (dCall f_divided (dCons (dVar 0) (dCons (dVar 1) dNil))))))
noncomputable def f_common_divisor : List MV → Option MV := fnP 2 (dSeq (dDo (dCall f_check_both (dCons (dVar 0) (dCons (dVar 1) dNil)))) (dRet (dCall f_common_of (dCons (dVar 0) (dCons (dVar 1) dNil)))))
noncomputable def f_squarefree : List MV → Option MV := fnP 1 (dSeq (dDo (dCall f_check_poly (dCons (dVar 0) dNil))) (dSeq (dIfS (dNot (dTruV 0)) dNever dNx) (dRet (dCall f_squarefree_of (dCons (dVar 0) dNil)))))
noncomputable def f_free_parts : List MV → Option MV := fnP 6 (dSeq (dPar 1 2 (dOwn (dLst dNil)) (dVal (dCall f_monic (dCons (dVar 0) dNil)))) (dSeq (dSet 3 (dVal (dCall f_common_of (dCons (dVar 2) (dCons (dCall f_slope (dCons (dVar 2) dNil)) dNil))))) (dSeq (dSet 4 (dVal (d2 ixM (dCall f_divided (dCons (dVar 2) (dCons (dVar 3) dNil))) (dC (.int 0))))) (dSeq (dWhile (dT blM (d2 (cmpM fun i j => decide (j < i)) (dCall f_degree (dCons (dVar 4) dNil)) (dC (.int 0)))) (dSeq (dSet 5 (dVal (dCall f_common_of (dCons (dVar 3) (dCons (dVar 4) dNil))))) (dSeq (dDo (dApp 1 (d2 ixM (dCall f_divided (dCons (dVar 4) (dCons (dVar 5) dNil))) (dC (.int 0))))) (dPar 4 3 (dVal (dVar 5)) (dVal (d2 ixM (dCall f_divided (dCons (dVar 3) (dCons (dVar 5) dNil))) (dC (.int 0)))))))) (dRet (dVar 1))))))
noncomputable def f_squarefree_parts : List MV → Option MV := fnP 1 (dSeq (dDo (dCall f_check_poly (dCons (dVar 0) dNil))) (dSeq (dIfS (dNot (dTruV 0)) dNever dNx) (dRet (dCall tupF (dCons (dCall f_free_parts (dCons (dVar 0) dNil)) dNil)))))
noncomputable def f_value_of : List MV → Option MV := fnP 2 (dSeq (dDo (dCall f_check_poly (dCons (dVar 0) dNil))) (dSeq (dIfS (dNot (dT truM (dCall f_is_fraction (dCons (dVar 1) dNil)))) dNever dNx) (dRet (dCall f_value_at (dCons (dVar 0) (dCons (dVar 1) dNil))))))
noncomputable def f_whole_form : List MV → Option MV := fnP 1 (dSeq (dDo (dCall f_check_poly (dCons (dVar 0) dNil))) (dSeq (dIfS (dT blM (d2 (cmpM fun i j => decide (i < j)) (dPeek lenM 0) (dC (.int 2)))) dNever dNx) (dRet (dCall f_whole_of (dCons (dVar 0) dNil)))))
noncomputable def f__law_number : List MV → Option MV := fnP 1 (dSeq (dIfS (dT blM (d2 (cmpM fun i j => decide (i < j)) (dVar 0) (dC (.int 0)))) (dRet (d2 subM (dC (.int 0)) (dVar 0))) dNx) (dRet (dVar 0)))
noncomputable def f__law_draws : List MV → Option (List MV) := fnO 7 (dSeq (dSet 1 (dOwn (dLst dNil))) (dSeq (dFor (dItems (dVar 0)) (gN 2) (dSeq (dSet 3 (dVal (dCall f__law_number (dCons (dVar 2) dNil)))) (dIfS (dT blM (d2 (cmpM fun i j => decide (j ≤ i)) (dVar 3) (dC (.int 1000000000000000000)))) (dFor (dCallO rng1F (dCons (dC (.int 60)) dNil)) (gN 4) (dSeq (dIfS (dT blM (d2 eqvM (dVar 3) (dC (.int 0)))) dBk dNx) (dSeq (dDo (dApp 1 (d2 modM (dCall intF (dCons (dVar 3) dNil)) (dC (.int 1000))))) (dSet 3 (dVal (d2 fdivM (dVar 3) (dC (.int 1000)))))))) (dSeq (dSet 5 (dVal (d2 modM (dCall intF (dCons (d2 addM (d2 mulM (dVar 3) (dC (.int 48271))) (dC (.int 11))) dNil)) (dC (.int 2147483647))))) (dSeq (dSet 6 (dVal (d2 modM (dCall intF (dCons (d2 addM (d2 mulM (dVar 5) (dC (.int 69621))) (dVar 3)) dNil)) (dC (.int 2147483629))))) (dDo (dExt 1 (dFrz (dLst (dCons (d2 modM (dCall intF (dCons (dVar 3) dNil)) (dC (.int 1000))) (dCons (d2 modM (dCall intF (dCons (dVar 5) dNil)) (dC (.int 1000))) (dCons (d2 modM (dCall intF (dCons (dVar 6) dNil)) (dC (.int 1000))) dNil)))))))))))) (dSeq (dDo (dRevL 1)) (dRetV 1))))
noncomputable def f__law_next : List MV → List MV → Option (MV × List MV) := fnI 1 (dSeq (dIfS (dTruV 0) (dRet (dPop 0)) dNx) (dRet (dC (.int 0))))
noncomputable def f__law_more : List MV → List MV → Option (List MV × List MV) := fnIO 5 (dSeq (dSet 2 (dVal (d2 addM (d2 addM (d2 mulM (dC (.int 1000)) (dCallI f__law_next 0 dNil)) (dCallI f__law_next 0 dNil)) (dC (.int 1))))) (dSeq (dSet 3 (dOwn (dLst dNil))) (dSeq (dFor (dCallO rng1F (dCons (dVar 1) dNil)) (gN 4) (dSeq (dSet 2 (dVal (d2 modM (dCall intF (dCons (d2 addM (d2 mulM (dVar 2) (dC (.int 48271))) (dC (.int 12345))) dNil)) (dC (.int 2147483647))))) (dDo (dApp 3 (d2 modM (dCall intF (dCons (d2 fdivM (dVar 2) (dC (.int 7))) dNil)) (dC (.int 1000))))))) (dRetO (dCatV 3 0)))))
noncomputable def f__law_common : List MV → Option MV := fnP 3 (dSeq (dFor (dCallO rng1F (dCons (dC (.int 20000)) dNil)) (gN 2) (dSeq (dIfS (dT blM (d2 eqvM (dVar 1) (dC (.int 0)))) (dRet (dVar 0)) dNx) (dPar 0 1 (dVal (dVar 1)) (dVal (d2 modM (dCall intF (dCons (dVar 0) dNil)) (dCall intF (dCons (dVar 1) dNil))))))) (dRet (dC (.int 1))))
noncomputable def f__law_lowest : List MV → Option MV := fnP 3 (dSeq (dSet 2 (dVal (dCall f__law_common (dCons (dCall absF (dCons (dVar 0) dNil)) (dCons (dVar 1) dNil))))) (dRet (dTup (dCons (d2 fdivM (dVar 0) (dVar 2)) (dCons (d2 fdivM (dVar 1) (dVar 2)) dNil)))))
noncomputable def f__law_add : List MV → Option MV := fnP 2 (dRet (dCall f__law_lowest (dCons (d2 addM (d2 mulM (dIxV 0 (dC (.int 0))) (dIxV 1 (dC (.int 1)))) (d2 mulM (dIxV 1 (dC (.int 0))) (dIxV 0 (dC (.int 1))))) (dCons (d2 mulM (dIxV 0 (dC (.int 1))) (dIxV 1 (dC (.int 1)))) dNil))))
noncomputable def f__law_times : List MV → Option MV := fnP 2 (dRet (dCall f__law_lowest (dCons (d2 mulM (dIxV 0 (dC (.int 0))) (dIxV 1 (dC (.int 0)))) (dCons (d2 mulM (dIxV 0 (dC (.int 1))) (dIxV 1 (dC (.int 1)))) dNil))))
noncomputable def f__law_trim : List MV → Option MV := fnP 3 (dSeq (dSet 1 (dVal (dFrz (dPeekO 0)))) (dSeq (dFor (dCallO rng1F (dCons (dPeek lenM 0) dNil)) (gN 2) (dIfS (dAnd (dTruV 1) (dT blM (d2 eqvM (d2 ixM (dIxV 1 (d1 negM (dC (.int 1)))) (dC (.int 0))) (dC (.int 0))))) (dSet 1 (dVal (dSlV 1 dNoP (dPart (d1 negM (dC (.int 1))))))) dNx)) (dRet (dPeek tupM 1))))
noncomputable def f__law_mul : List MV → Option MV := fnP 5 (dSeq (dSet 2 (dOwn (dRep (dLst (dCons (dTup (dCons (dC (.int 0)) (dCons (dC (.int 1)) dNil))) dNil)) (dCall maxF (dCons (dC (.int 0)) (dCons (d2 subM (d2 addM (dPeek lenM 0) (dPeek lenM 1)) (dC (.int 1))) dNil)))))) (dSeq (dFor (dCallO rng1F (dCons (dPeek lenM 0) dNil)) (gN 3) (dFor (dCallO rng1F (dCons (dPeek lenM 1) dNil)) (gN 4) (dSetIx 2 (dCall f__law_add (dCons (dIxV 2 (d2 addM (dVar 3) (dVar 4))) (dCons (dCall f__law_times (dCons (dIxV 0 (dVar 3)) (dCons (dIxV 1 (dVar 4)) dNil))) dNil))) (d2 addM (dVar 3) (dVar 4))))) (dRet (dCall f__law_trim (dCons (dVar 2) dNil)))))
noncomputable def f__law_sum : List MV → Option MV := fnP 6 (dSeq (dSet 2 (dVal (dCall maxF (dCons (dPeek lenM 0) (dCons (dPeek lenM 1) dNil))))) (dSeq (dSet 3 (dVal (dFrz (dLc (dItems (dFrz (dLst (dCons (dVar 0) (dCons (dVar 1) dNil))))) [4] (gN 4) dYes (dFrz (dCat (dFrz (dPeekO 4)) (dFrz (dRep (dLst (dCons (dTup (dCons (dC (.int 0)) (dCons (dC (.int 1)) dNil))) dNil)) (d2 subM (dVar 2) (dPeek lenM 4)))))))))) (dRet (dCall f__law_trim (dCons (dFrz (dLc (dCallO rng1F (dCons (dVar 2) dNil)) [5] (gN 5) dYes (dCall f__law_add (dCons (d2 ixM (dIxV 3 (dC (.int 0))) (dVar 5)) (dCons (d2 ixM (dIxV 3 (dC (.int 1))) (dVar 5)) dNil))))) dNil)))))
noncomputable def f__law_at : List MV → Option MV := fnP 4 (dSeq (dSet 2 (dVal (dTup (dCons (dC (.int 0)) (dCons (dC (.int 1)) dNil))))) (dSeq (dFor (dItems (d1 revM (dVar 0))) (gN 3) (dSet 2 (dVal (dCall f__law_add (dCons (dCall f__law_times (dCons (dVar 2) (dCons (dVar 1) dNil))) (dCons (dVar 3) dNil)))))) (dRet (dVar 2))))
noncomputable def f__law_by : List MV → Option MV := fnP 3 (dSeq (dSet 2 (dVal (dIf (dT blM (d2 (cmpM fun i j => decide (j < i)) (dIxV 1 (dC (.int 0))) (dC (.int 0)))) (dC (.int 1)) (d1 negM (dC (.int 1)))))) (dRet (dCall f__law_lowest (dCons (d2 mulM (d2 mulM (dVar 2) (dIxV 0 (dC (.int 0)))) (dIxV 1 (dC (.int 1)))) (dCons (d2 mulM (d2 mulM (dVar 2) (dIxV 0 (dC (.int 1)))) (dIxV 1 (dC (.int 0)))) dNil)))))
noncomputable def f__law_monic : List MV → Option MV := fnP 2 (dRet (dCall tupF (dCons (dFrz (dLc (dItems (dVar 0)) [1] (gN 1) dYes (dCall f__law_by (dCons (dVar 1) (dCons (dIxV 0 (d1 negM (dC (.int 1)))) dNil))))) dNil)))
noncomputable def f__law_loose_poly : List MV → List MV → Option (MV × List MV) := fnI 4 (dSeq (dSet 2 (dVal (dFrz (dLc (dCallO rng1F (dCons (d2 modM (dCall intF (dCons (dCallI f__law_next 0 dNil) dNil)) (d2 addM (dVar 1) (dC (.int 1)))) dNil)) [3] (gN 3) dYes (dCall f__law_lowest (dCons (d2 subM (d2 modM (dCall intF (dCons (dCallI f__law_next 0 dNil) dNil)) (dC (.int 9))) (dC (.int 4))) (dCons (d2 addM (dC (.int 1)) (d2 modM (dCall intF (dCons (dCallI f__law_next 0 dNil) dNil)) (dC (.int 3)))) dNil))))))) (dRet (d2 addM (dPeek tupM 2) (dTup (dCons (dCall f__law_lowest (dCons (d2 addM (dC (.int 1)) (d2 modM (dCall intF (dCons (dCallI f__law_next 0 dNil) dNil)) (dC (.int 4)))) (dCons (d2 addM (dC (.int 1)) (d2 modM (dCall intF (dCons (dCallI f__law_next 0 dNil) dNil)) (dC (.int 2)))) dNil))) dNil)))))
noncomputable def f__law_power : List MV → Option MV := fnP 4 (dSeq (dSet 2 (dVal (dTup (dCons (dTup (dCons (dC (.int 1)) (dCons (dC (.int 1)) dNil))) dNil)))) (dSeq (dFor (dCallO rng1F (dCons (dVar 1) dNil)) (gN 3) (dSet 2 (dVal (dCall f__law_mul (dCons (dVar 2) (dCons (dVar 0) dNil)))))) (dRet (dVar 2))))
noncomputable def f__law_main : List MV → Option MV := fnP 18 (dSeq (dSet 1 (dOwn (dCallO f__law_draws (dCons (dVar 0) dNil)))) (dSeq (dSet 1 (dOwn (dCallIO f__law_more 1 (dCons (dC (.int 150)) dNil)))) (dSeq (dFor (dCallO rng1F (dCons (dC (.int 3)) dNil)) (gN 2) (dSeq (dAsg (dTup (dCons (dCallI f__law_loose_poly 1 (dCons (dC (.int 3)) dNil)) (dCons (dCallI f__law_loose_poly 1 (dCons (dC (.int 3)) dNil)) (dCons (dCallI f__law_loose_poly 1 (dCons (dC (.int 2)) dNil)) dNil)))) (gT 3 (gsCons (gN 3) (gsCons (gN 4) (gsCons (gN 5) gsNil))))) (dSeq (dSet 6 (dVal (dCall f__law_trim (dCons (dCall tupF (dCons (dFrz (dLc (dCallO rng1F (dCons (d2 subM (dPeek lenM 4) (dC (.int 1))) dNil)) [12] (gN 12) dYes (dCall f__law_lowest (dCons (d2 subM (d2 modM (dCall intF (dCons (dCallI f__law_next 1 dNil) dNil)) (dC (.int 9))) (dC (.int 4))) (dCons (d2 addM (dC (.int 1)) (d2 modM (dCall intF (dCons (dCallI f__law_next 1 dNil) dNil)) (dC (.int 3)))) dNil))))) dNil)) dNil)))) (dSeq (dIfS (dOr (dT blM (d2 nevM (dCall f_product_of (dCons (dVar 3) (dCons (dVar 4) dNil))) (dCall f__law_mul (dCons (dVar 3) (dCons (dVar 4) dNil))))) (dOr (dT blM (d2 nevM (dCall f_sum_of (dCons (dVar 3) (dCons (dVar 4) dNil))) (dCall f__law_sum (dCons (dVar 3) (dCons (dVar 4) dNil))))) (dOr (dT blM (d2 nevM (dCall f_product_of (dCons (dVar 3) (dCons (dTup dNil) dNil))) (dTup dNil))) (dT blM (d2 nevM (dCall f_sum_of (dCons (dVar 3) (dCons (dTup dNil) dNil))) (dVar 3)))))) (dRet (dC (.bl false))) dNx) (dSeq (dIfS (dOr (dT blM (d2 nevM (dCall f_division (dCons (dCall f__law_sum (dCons (dCall f__law_mul (dCons (dVar 3) (dCons (dVar 4) dNil))) (dCons (dVar 6) dNil))) (dCons (dVar 4) dNil))) (dTup (dCons (dVar 3) (dCons (dVar 6) dNil))))) (dT blM (d2 nevM (dCall f_division (dCons (dVar 6) (dCons (dVar 4) dNil))) (dTup (dCons (dTup dNil) (dCons (dVar 6) dNil)))))) (dRet (dC (.bl false))) dNx) (dSeq (dIfS (dT blM (d2 nevM (dCall f_product_of (dCons (dCall f_sum_of (dCons (dVar 3) (dCons (dVar 4) dNil))) (dCons (dVar 5) dNil))) (dCall f_sum_of (dCons (dCall f_product_of (dCons (dVar 3) (dCons (dVar 5) dNil))) (dCons (dCall f_product_of (dCons (dVar 4) (dCons (dVar 5) dNil))) dNil))))) (dRet (dC (.bl false))) dNx) (dSeq (dSet 7 (dVal (dCall f_common_divisor (dCons (dVar 3) (dCons (dVar 4) dNil))))) (dSeq (dIfS (dOr (dT blM (d2 nevM (dCall f_common_divisor (dCons (dVar 4) (dCons (dVar 3) dNil))) (dVar 7))) (dOr (dT blM (d2 nevM (dCall f_common_divisor (dCons (dVar 3) (dCons (dVar 3) dNil))) (dCall f__law_monic (dCons (dVar 3) dNil)))) (dOr (dT blM (d2 nevM (dCall f_common_divisor (dCons (dVar 3) (dCons (dTup dNil) dNil))) (dCall f__law_monic (dCons (dVar 3) dNil)))) (dT blM (d2 nevM (dCall f_common_divisor (dCons (dTup dNil) (dCons (dTup dNil) dNil))) (dTup dNil)))))) (dRet (dC (.bl false))) dNx) (dSeq (dIfS (dOr (dT blM (d2 nevM (dCall f_common_divisor (dCons (dCall f__law_mul (dCons (dVar 3) (dCons (dVar 5) dNil))) (dCons (dCall f__law_mul (dCons (dVar 4) (dCons (dVar 5) dNil))) dNil))) (dCall f__law_monic (dCons (dCall f__law_mul (dCons (dVar 7) (dCons (dVar 5) dNil))) dNil)))) (dOr (dT blM (d2 nevM (d2 ixM (dCall f_division (dCons (dVar 3) (dCons (dVar 7) dNil))) (dC (.int 1))) (dTup dNil))) (dT blM (d2 nevM (d2 ixM (dCall f_division (dCons (dVar 4) (dCons (dVar 7) dNil))) (dC (.int 1))) (dTup dNil))))) (dRet (dC (.bl false))) dNx) (dSeq (dIfS (dT blM (d2 nevM (dCall f_common_divisor (dCons (dVar 3) (dCons (dCall f__law_sum (dCons (dCall f__law_mul (dCons (dVar 3) (dCons (dVar 5) dNil))) (dCons (dVar 4) dNil))) dNil))) (dVar 7))) (dRet (dC (.bl false))) dNx) (dSeq (dSet 8 (dVal (dCall f_squarefree (dCons (dCall f__law_mul (dCons (dVar 3) (dCons (dVar 4) dNil))) dNil)))) (dSeq (dIfS (dOr (dT blM (d2 nevM (dCall f_squarefree (dCons (dCall f__law_mul (dCons (dCall f__law_power (dCons (dVar 3) (dCons (dC (.int 2)) dNil))) (dCons (dVar 4) dNil))) dNil)) (dVar 8))) (dOr (dT blM (d2 nevM (dCall f_squarefree (dCons (dVar 8) dNil)) (dVar 8))) (dT blM (d2 nevM (dCall f_common_divisor (dCons (dVar 8) (dCons (dCall f__law_mul (dCons (dVar 3) (dCons (dVar 4) dNil))) dNil))) (dVar 8))))) (dRet (dC (.bl false))) dNx) (dSeq (dSet 9 (dVal (dCall f__law_mul (dCons (dCall f__law_mul (dCons (dVar 3) (dCons (dVar 3) dNil))) (dCons (dCall f__law_power (dCons (dVar 5) (dCons (dC (.int 3)) dNil))) dNil))))) (dSeq (dAsg (dTup (dCons (dCall f_squarefree_parts (dCons (dVar 9) dNil)) (dCons (dTup (dCons (dTup (dCons (d2 ixM (dIxV 9 (d1 negM (dC (.int 1)))) (dC (.int 0))) (dCons (d2 ixM (dIxV 9 (d1 negM (dC (.int 1)))) (dC (.int 1))) dNil))) dNil)) dNil))) (gT 2 (gsCons (gN 10) (gsCons (gN 11) gsNil)))) (dSeq (dFor (dCallO rng1F (dCons (dPeek lenM 10) dNil)) (gN 12) (dSet 11 (dVal (dCall f__law_mul (dCons (dVar 11) (dCons (dCall f__law_power (dCons (dIxV 10 (dVar 12)) (dCons (d2 addM (dVar 12) (dC (.int 1))) dNil))) dNil)))))) (dSeq (dIfS (dOr (dT blM (d2 nevM (dVar 11) (dVar 9))) (dNot (dT truM (dCall allF (dCons (dFrz (dLc (dItems (dVar 10)) [16] (gN 16) dYes (d2 eqvM (dCall f_squarefree (dCons (dVar 16) dNil)) (dVar 16)))) dNil))))) (dRet (dC (.bl false))) dNx) (dSeq (dIfS (dNot (dT truM (dCall allF (dCons (dFrz (dLc (dCallO rng1F (dCons (dPeek lenM 10) dNil)) [12] (gN 12) dYes (dCall allF (dCons (dFrz (dLc (dCallO rng1F (dCons (dVar 12) dNil)) [17] (gN 17) dYes (d2 eqvM (dCall f_common_divisor (dCons (dIxV 10 (dVar 12)) (dCons (dIxV 10 (dVar 17)) dNil))) (dTup (dCons (dTup (dCons (dC (.int 1)) (dCons (dC (.int 1)) dNil))) dNil))))) dNil)))) dNil)))) (dRet (dC (.bl false))) dNx) (dSeq (dSet 13 (dVal (dCall f__law_lowest (dCons (d2 subM (d2 modM (dCall intF (dCons (dCallI f__law_next 1 dNil) dNil)) (dC (.int 9))) (dC (.int 4))) (dCons (d2 addM (dC (.int 1)) (d2 modM (dCall intF (dCons (dCallI f__law_next 1 dNil) dNil)) (dC (.int 4)))) dNil))))) (dSeq (dIfS (dOr (dT blM (d2 nevM (dCall f_value_of (dCons (dCall f__law_mul (dCons (dVar 3) (dCons (dVar 4) dNil))) (dCons (dVar 13) dNil))) (dCall f__law_times (dCons (dCall f_value_of (dCons (dVar 3) (dCons (dVar 13) dNil))) (dCons (dCall f_value_of (dCons (dVar 4) (dCons (dVar 13) dNil))) dNil))))) (dT blM (d2 nevM (dCall f_value_of (dCons (dCall f__law_sum (dCons (dVar 3) (dCons (dVar 4) dNil))) (dCons (dVar 13) dNil))) (dCall f__law_add (dCons (dCall f_value_of (dCons (dVar 3) (dCons (dVar 13) dNil))) (dCons (dCall f_value_of (dCons (dVar 4) (dCons (dVar 13) dNil))) dNil)))))) (dRet (dC (.bl false))) dNx) (dSeq (dIfS (dOr (dT blM (d2 nevM (dCall f_value_of (dCons (dVar 3) (dCons (dVar 13) dNil))) (dCall f__law_at (dCons (dVar 3) (dCons (dVar 13) dNil))))) (dT blM (d2 nevM (d2 ixM (dCall f_division (dCons (dVar 3) (dCons (dTup (dCons (dTup (dCons (d2 subM (dC (.int 0)) (dIxV 13 (dC (.int 0)))) (dCons (dIxV 13 (dC (.int 1))) dNil))) (dCons (dTup (dCons (dC (.int 1)) (dCons (dC (.int 1)) dNil))) dNil))) dNil))) (dC (.int 1))) (dCall f__law_trim (dCons (dTup (dCons (dCall f_value_of (dCons (dVar 3) (dCons (dVar 13) dNil))) dNil)) dNil))))) (dRet (dC (.bl false))) dNx) (dIfS (dT blM (d2 (cmpM fun i j => decide (j < i)) (dPeek lenM 3) (dC (.int 1)))) (dSeq (dSet 14 (dVal (dCall f_whole_form (dCons (dVar 3) dNil)))) (dSeq (dSet 15 (dVal (dFrz (dLc (dCallO rng1F (dCons (dPeek lenM 3) dNil)) [12] (gN 12) (dT blM (d2 nevM (d2 ixM (dIxV 3 (dVar 12)) (dC (.int 0))) (dC (.int 0)))) (dCall f__law_by (dCons (dTup (dCons (dIxV 14 (dVar 12)) (dCons (dC (.int 1)) dNil))) (dCons (dIxV 3 (dVar 12)) dNil))))))) (dSeq (dIfS (dOr (dT blM (d2 nevM (dCall lendF (dCons (dFrz (dLc (dItems (dVar 15)) [16] (gN 16) dYes (dTup (dCons (dVar 16) (dCons (dC (.bl true)) dNil))))) dNil)) (dC (.int 1)))) (dOr (dT blM (d2 (cmpM fun i j => decide (i < j)) (dIxV 14 (d1 negM (dC (.int 1)))) (dC (.int 1)))) (dT blM (d2 nevM (dCall f_whole_form (dCons (dCall f__law_mul (dCons (dVar 3) (dCons (dTup (dCons (dTup (dCons (d1 negM (dC (.int 5))) (dCons (dC (.int 3)) dNil))) dNil)) dNil))) dNil)) (dVar 14))))) (dRet (dC (.bl false))) dNx) (dIfS (dAnd (dT blM (d2 (cmpM fun i j => decide (j < i)) (dPeek lenM 4) (dC (.int 1)))) (dT blM (d2 nevM (dCall f_whole_form (dCons (dCall f__law_mul (dCons (dVar 3) (dCons (dVar 4) dNil))) dNil)) (dCall tupF (dCons (dFrz (dLc (dItems (dCall f__law_mul (dCons (dCall tupF (dCons (dFrz (dLc (dItems (dVar 14)) [16] (gN 16) dYes (dTup (dCons (dVar 16) (dCons (dC (.int 1)) dNil))))) dNil)) (dCons (dCall tupF (dCons (dFrz (dLc (dItems (dCall f_whole_form (dCons (dVar 4) dNil))) [16] (gN 16) dYes (dTup (dCons (dVar 16) (dCons (dC (.int 1)) dNil))))) dNil)) dNil)))) [16] (gN 16) dYes (dIxV 16 (dC (.int 0))))) dNil))))) (dRet (dC (.bl false))) dNx)))) dNx))))))))))))))))))))) (dRet (dC (.bl true))))))
noncomputable def f_law : List MV → Option MV := fnP 1 (dRet (dCall f__law_main (dCons (dVar 0) dNil)))
end K41
namespace ML
open PySem L2
/-! ### what is computed, by simp -/
section
variable (ρ : MEnv)
@[simp] theorem dVar_v {i : Nat} {m : MV} (h : ρ[i]? = some (.val m)) : dVar i ρ = some (m, ρ) := by unfold dVar; rw [h]
@[simp] theorem dVar_o {i : Nat} {ms : List MV} (h : ρ[i]? = some (.own false ms)) : dVar i ρ = some (.lst ms, ρ.set i (.val (.lst ms))) := by unfold dVar; rw [h]
@[simp] theorem dC_e (m : MV) : dC m ρ = some (m, ρ) := rfl
@[simp] theorem d1_e (f : MV → Option MV) (da : DE) : d1 f da ρ = (da ρ).bind fun p => (f p.1).bind fun m => some (m, p.2) := rfl
@[simp] theorem d2_e (f : MV → MV → Option MV) (da db : DE) : d2 f da db ρ = (da ρ).bind fun p => (db p.2).bind fun q => (f p.1 q.1).bind fun m => some (m, q.2) := rfl
@[simp] theorem dT_e (f : MV → Option Bool) (da : DE) : dT f da ρ = (da ρ).bind fun p => (f p.1).bind fun b => some (b, p.2) := rfl
@[simp] theorem dB_e (t : DT) : dB t ρ = (t ρ).bind fun p => some (.bl p.1, p.2) := rfl
@[simp] theorem dNot_e (t : DT) : dNot t ρ = (t ρ).bind fun p => some (!p.1, p.2) := rfl
@[simp] theorem dAnd_e (t u : DT) : dAnd t u ρ = (t ρ).bind fun p => if p.1 then u p.2 else some (false, p.2) := rfl
@[simp] theorem dOr_e (t u : DT) : dOr t u ρ = (t ρ).bind fun p => if p.1 then some (true, p.2) else u p.2 := rfl
@[simp] theorem dIf_e {α : Type} (t : DT) (a b : MEnv → Option α) : dIf t a b ρ = (t ρ).bind fun p => if p.1 then a p.2 else b p.2 := rfl
@[simp] theorem dNil_e : dNil ρ = some ([], ρ) := rfl
@[simp] theorem dCons_e (da : DE) (ds : DA) : dCons da ds ρ = (da ρ).bind fun p => (ds p.2).bind fun q => some (p.1 :: q.1, q.2) := rfl
@[simp] theorem dStar_e (da : DE) (ds : DA) : dStar da ds ρ = (da ρ).bind fun p => (seqM p.1).bind fun ms => (ds p.2).bind fun q => some (ms ++ q.1, q.2) := rfl
@[simp] theorem dTup_e (ds : DA) : dTup ds ρ = (ds ρ).bind fun p => if lenOk p.1.length then some (.tup p.1, p.2) else none := rfl
@[simp] theorem dLst_e (ds : DA) : dLst ds ρ = (ds ρ).bind fun p => if lenOk p.1.length then some p else none := rfl
@[simp] theorem dFrz_e (ds : DA) : dFrz ds ρ = (ds ρ).bind fun p => some (.lst p.1, p.2) := rfl
@[simp] theorem dTruV_e (i : Nat) : dTruV i ρ = (slotM ρ[i]?).bind fun m => (truM m).bind fun b => some (b, ρ) := rfl
@[simp] theorem dPeek_e (f : MV → Option MV) (i : Nat) : dPeek f i ρ = (slotM ρ[i]?).bind fun m => (f m).bind fun n => some (n, ρ) := rfl
@[simp] theorem dIxV_e (i : Nat) (di : DE) : dIxV i di ρ = (slotM ρ[i]?).bind fun _ => (di ρ).bind fun q => (slotM q.2[i]?).bind fun m => (ixM m q.1).bind fun n => some (n, q.2) := rfl
@[simp] theorem dOrV_e (da db : DE) : dOrV da db ρ = (da ρ).bind fun p => (truM p.1).bind fun b => if b then some p else db p.2 := rfl
@[simp] theorem dAndV_e (da db : DE) : dAndV da db ρ = (da ρ).bind fun p => (truM p.1).bind fun b => if b then db p.2 else some p := rfl
@[simp] theorem dCall_e (f : List MV → Option MV) (ds : DA) : dCall f ds ρ = (ds ρ).bind fun p => (f p.1).bind fun m => some (m, p.2) := rfl
@[simp] theorem dCallO_e (f : List MV → Option (List MV)) (ds : DA) : dCallO f ds ρ = (ds ρ).bind fun p => (f p.1).bind fun m => some (m, p.2) := rfl
@[simp] theorem dNoP_e : dNoP ρ = some (none, ρ) := rfl
@[simp] theorem dSl_e (da : DE) (dl dh : DO) : dSl da dl dh ρ = (da ρ).bind fun p => (dl p.2).bind fun q => (dh q.2).bind fun r => (slM p.1 q.1 r.1).bind fun m => some (m, r.2) := rfl
@[simp] theorem dSlV_e (i : Nat) (dl dh : DO) : dSlV i dl dh ρ = (slotM ρ[i]?).bind fun _ => (dl ρ).bind fun q => (dh q.2).bind fun r => (slotM r.2[i]?).bind fun m => (slM m q.1 r.1).bind fun n => some (n, r.2) := rfl
@[simp] theorem dPart_e (d : DE) : dPart d ρ = (d ρ).bind fun p => match p.1 with
  | .int i => some (some i, p.2)
  | _ => none := rfl
@[simp] theorem dVal_e (d : DE) : dVal d ρ = (d ρ).bind fun p => some (.val p.1, p.2) := rfl
@[simp] theorem dOwn_e (d : DA) : dOwn d ρ = (d ρ).bind fun p => some (.own p.1, p.2) := rfl
@[simp] theorem dNx_e : dNx ρ = some (.nx, ρ) := rfl
@[simp] theorem dBk_e : dBk ρ = some (.bk, ρ) := rfl
@[simp] theorem dCt_e : dCt ρ = some (.ct, ρ) := rfl
@[simp] theorem dSeq_e (a b : DS) : dSeq a b ρ = (a ρ).bind fun p => match p.1 with
  | .nx => b p.2
  | f => some (f, p.2) := rfl
@[simp] theorem dSet_e (i : Nat) (d : DI) : dSet i d ρ = (d ρ).bind fun p => some (.nx, p.2.set i (slI p.1)) := rfl
@[simp] theorem dPar_e (i j : Nat) (d e : DI) : dPar i j d e ρ = (d ρ).bind fun p => (e p.2).bind fun q => some (.nx, (q.2.set i (slI p.1)).set j (slI q.1)) := rfl
@[simp] theorem gN_e (i : Nat) (m : MV) : gN i m ρ = some (ρ.set i (.val m)) := rfl
@[simp] theorem gsNil_e : gsNil [] ρ = some ρ := rfl
@[simp] theorem gsCons_e (g : DG) (gs : List MV → MEnv → Option MEnv) (m : MV) (ms : List MV) : gsCons g gs (m :: ms) ρ = (g m ρ).bind fun ρ1 => gs ms ρ1 := rfl
@[simp] theorem gT_e (n : Nat) (gs : List MV → MEnv → Option MEnv) (ms : List MV) : gT n gs (.tup ms) ρ = if ms.length = n then gs ms ρ else none := rfl
@[simp] theorem dAsg_e (d : DE) (g : DG) : dAsg d g ρ = (d ρ).bind fun p => (g p.1 p.2).bind fun ρ' => some (.nx, ρ') := rfl
@[simp] theorem dSetIx_e (i : Nat) (de di : DE) : dSetIx i de di ρ = (de ρ).bind fun p => (ownM p.2[i]?).bind fun _ => (di p.2).bind fun q => (ownM q.2[i]?).bind fun o => match q.1 with
  | .int k => (ixN o.2.length k).bind fun j => some (.nx, q.2.set i (.own o.1 (o.2.set j p.1)))
  | _ => none := rfl
@[simp] theorem dAug_v {i : Nat} {m : MV} (f : MV → MV → Option MV) (de : DE) (h : ρ[i]? = some (.val m)) : dAug i f de ρ = (de ρ).bind fun p => (f m p.1).bind fun n => some (.nx, p.2.set i (.val n)) := by unfold dAug; rw [h]
@[simp] theorem dIfS_e (t : DT) (a b : DS) : dIfS t a b ρ = (t ρ).bind fun p => if p.1 then a p.2 else b p.2 := rfl
@[simp] theorem dRet_e (d : DE) : dRet d ρ = (d ρ).bind fun p => some (.rt p.1, p.2) := rfl
@[simp] theorem dRetO_e (d : DA) : dRetO d ρ = (d ρ).bind fun p => some (.ro p.1, p.2) := rfl
@[simp] theorem dRetV_e {i : Nat} {ms : List MV} (h : ρ[i]? = some (.own false ms)) : dRetV i ρ = some (.ro ms, ρ) := by unfold dRetV; rw [h]
@[simp] theorem dDo_e (d : DE) : dDo d ρ = (d ρ).bind fun p => some (.nx, p.2) := rfl
@[simp] theorem dApp_e (i : Nat) (de : DE) : dApp i de ρ = (ownM ρ[i]?).bind fun _ => (de ρ).bind fun p => (ownM p.2[i]?).bind fun o => if lenOk (o.2.length + 1) then some (.non, p.2.set i (.own o.1 (o.2 ++ [p.1]))) else none := rfl
@[simp] theorem dExt_e (i : Nat) (de : DE) : dExt i de ρ = (ownM ρ[i]?).bind fun _ => (de ρ).bind fun p => (ownM p.2[i]?).bind fun o => match p.1 with
  | .lst ns => if lenOk (o.2.length + ns.length) then some (.non, p.2.set i (.own o.1 (o.2 ++ ns))) else none
  | _ => none := rfl
@[simp] theorem dPop_e (i : Nat) : dPop i ρ = (ownM ρ[i]?).bind fun o => (o.2[o.2.length - 1]?).bind fun m => some (m, ρ.set i (.own o.1 o.2.dropLast)) := rfl
@[simp] theorem dRevL_e (i : Nat) : dRevL i ρ = (ownM ρ[i]?).bind fun o => some (.non, ρ.set i (.own o.1 o.2.reverse)) := rfl
@[simp] theorem forM_nil (g : DG) (b : DS) : forM g b [] ρ = some (.nx, ρ) := rfl
theorem forM_cons (g : DG) (b : DS) (m : MV) (ms : List MV) : forM g b (m :: ms) ρ = (g m ρ).bind fun ρ1 => (b ρ1).bind fun q => match q.1 with
    | .nx => forM g b ms q.2
    | .ct => forM g b ms q.2
    | .bk => some (.nx, q.2)
    | f => some (f, q.2) := rfl
@[simp] theorem dFor_e (dj : DA) (g : DG) (b : DS) : dFor dj g b ρ = (dj ρ).bind fun p => forM g b p.1 p.2 := rfl
@[simp] theorem wipeM_nil : wipeM ρ [] = ρ := rfl
@[simp] theorem wipeM_cons (v : Nat) (vs : List Nat) : wipeM ρ (v :: vs) = (wipeM ρ vs).set v .no := rfl
@[simp] theorem dYes_e : dYes ρ = some (true, ρ) := rfl
@[simp] theorem dLc_e (dj : DA) (vs : List Nat) (g : DG) (t : DT) (e : DE) : dLc dj vs g t e ρ = (dj ρ).bind fun p => lcM vs g t e p.1 [] (wipeM p.2 vs) := rfl
@[simp] theorem dItems_e (d : DE) : dItems d ρ = (d ρ).bind fun p => (seqM p.1).bind fun ms => some (ms, p.2) := rfl
@[simp] theorem dCallI_e (f : List MV → List MV → Option (MV × List MV)) (i : Nat) (ds : DA) : dCallI f i ds ρ = (ownM ρ[i]?).bind fun _ => (ds ρ).bind fun p => (ownM p.2[i]?).bind fun o => (f o.2 p.1).bind fun r => some (r.1, p.2.set i (.own o.1 r.2)) := rfl
@[simp] theorem dCallIO_e (f : List MV → List MV → Option (List MV × List MV)) (i : Nat) (ds : DA) : dCallIO f i ds ρ = (ownM ρ[i]?).bind fun _ => (ds ρ).bind fun p => (ownM p.2[i]?).bind fun o => (f o.2 p.1).bind fun r => some (r.1, p.2.set i (.own o.1 r.2)) := rfl
@[simp] theorem dPeekO_e (i : Nat) : dPeekO i ρ = (slotM ρ[i]?).bind fun m => (seqM m).bind fun ms => some (ms, ρ) := rfl
@[simp] theorem dCat_e (da db : DE) : dCat da db ρ = (da ρ).bind fun p => (db p.2).bind fun q => (catF p.1 q.1).bind fun ms => some (ms, q.2) := rfl
@[simp] theorem dCatV_e (i j : Nat) : dCatV i j ρ = (slotM ρ[i]?).bind fun m => (slotM ρ[j]?).bind fun n => (catF m n).bind fun ms => some (ms, ρ) := rfl
end
@[simp] theorem slotM_v (m : MV) : slotM (some (.val m)) = some m := rfl
@[simp] theorem slotM_o (q : Bool) (ms : List MV) : slotM (some (.own q ms)) = some (.lst ms) := rfl
@[simp] theorem ownM_o (q : Bool) (ms : List MV) : ownM (some (.own q ms)) = some (q, ms) := rfl
@[simp] theorem slI_v (m : MV) : slI (.val m) = .val m := rfl
@[simp] theorem slI_o (m : List MV) : slI (.own m) = .own false m := rfl
@[simp] theorem addM_i (i j : Int) : addM (.int i) (.int j) = some (.int (i + j)) := rfl
@[simp] theorem iaddM_i (i j : Int) : iaddM (.int i) (.int j) = some (.int (i + j)) := rfl
@[simp] theorem subM_i (i j : Int) : subM (.int i) (.int j) = some (.int (i - j)) := rfl
@[simp] theorem negM_i (i : Int) : negM (.int i) = some (.int (-i)) := rfl
@[simp] theorem cmpM_i (p : Int → Int → Bool) (i j : Int) : cmpM p (.int i) (.int j) = some (.bl (p i j)) := rfl
@[simp] theorem seqM_t (ms : List MV) : seqM (.tup ms) = some ms := rfl
@[simp] theorem seqM_l (ms : List MV) : seqM (.lst ms) = some ms := rfl
@[simp] theorem seqM_s (ms : List MV) : seqM (.scr ms) = some ms := rfl
@[simp] theorem truM_b (b : Bool) : truM (.bl b) = some b := rfl
@[simp] theorem truM_i (i : Int) : truM (.int i) = some (i != 0) := rfl
@[simp] theorem truM_t (ms : List MV) : truM (.tup ms) = some (!ms.isEmpty) := rfl
@[simp] theorem truM_l (ms : List MV) : truM (.lst ms) = some (!ms.isEmpty) := rfl
@[simp] theorem blM_b (b : Bool) : blM (.bl b) = some b := rfl
@[simp] theorem lenM_t (ms : List MV) : lenM (.tup ms) = some (.int ms.length) := rfl
@[simp] theorem lenM_l (ms : List MV) : lenM (.lst ms) = some (.int ms.length) := rfl
@[simp] theorem absF_i (i : Int) : absF [.int i] = some (.int i.natAbs) := by
  show some (MV.int (if i < 0 then -i else i)) = _
  congr 2
  split <;> omega
@[simp] theorem maxF_i (i j : Int) : maxF [.int i, .int j] = some (.int (max i j)) := by
  show some (MV.int (if j > i then j else i)) = _
  congr 2
  split <;> omega
@[simp] theorem minF_i (i j : Int) : minF [.int i, .int j] = some (.int (min i j)) := by
  show some (MV.int (if j < i then j else i)) = _
  congr 2
  split <;> omega
@[simp] theorem intF_i (i : Int) : intF [.int i] = some (.int i) := rfl
@[simp] theorem tupM_t (ms : List MV) : tupM (.tup ms) = some (.tup ms) := rfl
@[simp] theorem tupM_l (ms : List MV) : tupM (.lst ms) = some (.tup ms) := rfl
@[simp] theorem tupF_1 (m : MV) : tupF [m] = tupM m := rfl
@[simp] theorem lstF_1 (m : MV) : lstF [m] = seqM m := rfl
theorem lenOk_of {n : Nat} (h : n ≤ 100000) : lenOk n = true := by
  unfold lenOk
  exact decide_eq_true (Nat.le_trans h (by decide))
theorem dRep1 {d : DE} {db : DE} {ρ ρ1 ρ2 : MEnv} {m : MV} {k : Int} {n : Nat} (h1 : d ρ = some (m, ρ1)) (h2 : db ρ1 = some (.int k, ρ2)) (hk : -100000 ≤ k) (hn : k.toNat = n) (hb : n ≤ 100000) : dRep (dLst (dCons d dNil)) db ρ = some (List.replicate n m, ρ2) := by
  have e : dLst (dCons d dNil) ρ = some ([m], ρ1) := by simp [h1, lenOk_of]
  have fl : ∀ n : Nat, (List.replicate n [m]).flatten = List.replicate n m := fun n => by
    induction n with
    | zero => rfl
    | succ n ih => rw [List.replicate_succ, List.flatten_cons, ih]; rfl
  unfold dRep
  rw [e]
  show (db ρ1).bind _ = _
  rw [h2]
  show (if -(2 ^ 63) ≤ k ∧ k < 2 ^ 63 ∧ [m].length * k.toNat ≤ sizeLine then some ((List.replicate k.toNat [m]).flatten, ρ2) else none) = _
  rw [if_pos, hn, fl]
  refine ⟨by omega, by omega, ?_⟩
  rw [hn]
  exact Nat.le_trans (show [m].length * n ≤ 100000 by simp; omega) (by decide)
theorem ixN_nat {n i : Nat} (h : i < n) : ixN n (i : Int) = some i := by
  unfold ixN
  rw [if_pos (by omega), if_pos (by omega)]; rfl
theorem ixN_last {n : Nat} (h : 0 < n) : ixN n (-1) = some (n - 1) := by
  unfold ixN
  rw [if_neg (by omega), if_pos (by omega)]
  congr 1; omega
theorem ixM_nat {m : MV} {ms : List MV} {i : Nat} (h : seqM m = some ms) (hi : i < ms.length) : ixM m (.int (i : Int)) = ms[i]? := by
  show (seqM m).bind _ = _
  rw [h]
  show atI ms (i : Int) = _
  unfold atI
  rw [ixN_nat hi]; rfl
theorem ixM_last {m : MV} {ms : List MV} (h : seqM m = some ms) (hi : 0 < ms.length) : ixM m (.int (-1)) = ms.getLast? := by
  show (seqM m).bind _ = _
  rw [h]
  show atI ms (-1) = _
  unfold atI
  rw [ixN_last hi, List.getLast?_eq_getElem?]; rfl
@[simp] theorem ixM_0 (a : MV) (ms : List MV) : ixM (.tup (a :: ms)) (.int 0) = some a := ixM_nat (ms := a :: ms) (i := 0) rfl (Nat.zero_lt_succ _)
@[simp] theorem ixM_1 (a b : MV) (ms : List MV) : ixM (.tup (a :: b :: ms)) (.int 1) = some b := ixM_nat (ms := a :: b :: ms) (i := 1) rfl (Nat.succ_lt_succ (Nat.zero_lt_succ _))
@[simp] theorem ixM_l0 (a : MV) (ms : List MV) : ixM (.lst (a :: ms)) (.int 0) = some a := ixM_nat (ms := a :: ms) (i := 0) rfl (Nat.zero_lt_succ _)
@[simp] theorem ixM_l1 (a b : MV) (ms : List MV) : ixM (.lst (a :: b :: ms)) (.int 1) = some b := ixM_nat (ms := a :: b :: ms) (i := 1) rfl (Nat.succ_lt_succ (Nat.zero_lt_succ _))
theorem eqM_int (i j : Int) : eqM (.int i) (.int j) = some (i == j) := by
  unfold eqM
  have : (SeqAt.shaped (pdM (.int i)) && SeqAt.shaped (pdM (.int j))) = true := rfl
  rw [if_pos this]; rfl
@[simp] theorem eqvM_int (i j : Int) : eqvM (.int i) (.int j) = some (.bl (i == j)) := by unfold eqvM; rw [eqM_int]; rfl
@[simp] theorem nevM_int (i j : Int) : nevM (.int i) (.int j) = some (.bl (!(i == j))) := by unfold nevM; rw [eqM_int]; rfl
theorem fdivM_i {i j : Int} (h : 0 < j) (hb : j.natAbs.log2 < 9000) : fdivM (.int i) (.int j) = some (.int (i / j)) := by
  exact if_pos ⟨h, hb⟩
theorem modM_i {i j : Int} (h : 0 < j) : modM (.int i) (.int j) = some (.int (i % j)) := by
  exact if_pos h
theorem mulM_i {i j : Int} (h : i.natAbs.log2 + j.natAbs.log2 < 1000000) : mulM (.int i) (.int j) = some (.int (i * j)) := by
  exact if_pos h
end ML
namespace PA

/-! ### lists of fractions as functions -/
def ev : List Rat → Rat → Rat
  | [], _ => 0
  | a :: l, x => a + x * ev l x
theorem ev_nil (x : Rat) : ev [] x = 0 := rfl
theorem ev_cons (a : Rat) (l : List Rat) (x : Rat) : ev (a :: l) x = a + x * ev l x := rfl
theorem ev_append (l m : List Rat) (x : Rat) : ev (l ++ m) x = ev l x + x ^ l.length * ev m x := by
  induction l with
  | nil => simp [ev]; grind
  | cons a l ih => simp only [List.cons_append, ev, ih, List.length_cons]; grind
theorem ev_zeros (n : Nat) (x : Rat) : ev (List.replicate n 0) x = 0 := by
  induction n with
  | zero => rfl
  | succ n ih => simp only [List.replicate_succ, ev, ih]; grind
theorem ev_all0 {l : List Rat} (h : ∀ c ∈ l, c = 0) (x : Rat) : ev l x = 0 := by
  induction l with
  | nil => rfl
  | cons a l ih =>
    have h1 := h a (by simp)
    have h2 := ih fun c hc => h c (by simp [hc])
    simp only [ev, h1, h2]; grind
theorem ev_set {l : List Rat} {k : Nat} {a b : Rat} (h : l[k]? = some a) (x : Rat) : ev (l.set k b) x = ev l x + (b - a) * x ^ k := by
  induction l generalizing k with
  | nil => cases h
  | cons c l ih =>
    cases k with
    | zero =>
      simp only [List.getElem?_cons_zero, Option.some.injEq] at h
      subst h
      simp only [List.set_cons_zero, ev]; grind
    | succ k =>
      simp only [List.getElem?_cons_succ] at h
      simp only [List.set_cons_succ, ev, ih h]; grind

/-- synthetic division by x - r: quotient, rest -/
def syn (r : Rat) : List Rat → List Rat × Rat
  | [] => ([], 0)
  | [a] => ([], a)
  | a :: b :: l => ((syn r (b :: l)).2 :: (syn r (b :: l)).1, a + r * (syn r (b :: l)).2)
theorem syn_ev (r : Rat) (l : List Rat) (x : Rat) : ev l x = ev (syn r l).1 x * (x - r) + (syn r l).2 := by
  fun_induction syn r l with
  | case1 => simp [ev]; grind
  | case2 a => simp [ev]; grind
  | case3 a b l ih => rw [ev_cons, ih]; simp only [ev]; grind
theorem syn_len (r : Rat) (l : List Rat) : (syn r l).1.length = l.length - 1 := by
  fun_induction syn r l with
  | case1 => rfl
  | case2 a => rfl
  | case3 a b l ih => simp only [List.length_cons] at ih ⊢; omega
theorem ev_iszero : ∀ (n : Nat) (l : List Rat) (N : Nat), l.length ≤ n → (∀ k : Nat, N ≤ k → ev l k = 0) → ∀ c ∈ l, c = 0
  | 0, l, N, hl, h => by
    have : l = [] := List.length_eq_zero_iff.mp (by omega)
    subst this; simp
  | n + 1, [], N, hl, h => by simp
  | n + 1, [a], N, hl, h => by
    have := h N (Nat.le_refl _)
    simp only [ev] at this
    intro c hc
    simp only [List.mem_singleton] at hc
    subst hc; grind
  | n + 1, a :: b :: l, N, hl, h => by
    have e := syn_ev N (a :: b :: l)
    have hN : (syn N (a :: b :: l)).2 = 0 := by
      have e1 := e N
      have e2 := h N (Nat.le_refl _)
      rw [e2] at e1; grind
    have hq := ev_iszero n (syn N (a :: b :: l)).1 (N + 1) (by rw [syn_len]; simp only [List.length_cons] at hl ⊢; omega) fun k hk => by
      have e1 := e k
      rw [h k (by omega), hN] at e1
      have : ((k : Nat) : Rat) - (N : Rat) ≠ 0 := by
        intro hh
        have : ((k : Nat) : Rat) = (N : Rat) := by grind
        have := Rat.natCast_inj.mp this
        omega
      grind
    simp only [syn] at hq hN
    have hs := hq _ (List.mem_cons_self)
    have ha : a = 0 := by rw [hs] at hN; grind
    have hz : ∀ x, ev (b :: l) x = 0 := fun x => by
      rw [syn_ev N, hs, ev_all0 fun c hc => hq c (List.mem_cons_of_mem _ hc)]; grind
    intro c hc
    rcases List.mem_cons.mp hc with rfl | hc
    · exact ha
    · exact ev_iszero n (b :: l) N (by simp only [List.length_cons] at hl ⊢; omega) (fun k _ => hz k) c hc
theorem ev_zero {l : List Rat} (h : ∀ x, ev l x = 0) : ∀ c ∈ l, c = 0 := ev_iszero l.length l 0 (Nat.le_refl _) fun k _ => h k

/-! ### trimmed lists -/
def trim : List Rat → List Rat
  | [] => []
  | a :: l => if trim l = [] ∧ a = 0 then [] else a :: trim l
theorem trim_ev (l : List Rat) (x : Rat) : ev (trim l) x = ev l x := by
  induction l with
  | nil => rfl
  | cons a l ih =>
    unfold trim
    split
    · rename_i h
      rw [h.1] at ih
      simp only [ev, ← ih, h.2]; grind
    · simp only [ev, ih]
def Tr (l : List Rat) : Prop := trim l = l
theorem trim_cons (a : Rat) (l : List Rat) : trim (a :: l) = if trim l = [] ∧ a = 0 then [] else a :: trim l := rfl
theorem tr_trim (l : List Rat) : Tr (trim l) := by
  unfold Tr
  induction l with
  | nil => rfl
  | cons a l ih =>
    by_cases h : trim l = [] ∧ a = 0
    · rw [trim_cons, if_pos h]; rfl
    · rw [trim_cons, if_neg h, trim_cons, ih, if_neg h]
theorem trim_all0 {l : List Rat} (h : ∀ c ∈ l, c = 0) : trim l = [] := by
  induction l with
  | nil => rfl
  | cons a l ih =>
    unfold trim
    rw [if_pos ⟨ih fun c hc => h c (by simp [hc]), h a (by simp)⟩]
/-- what is equal as a function is equal when trimmed -/
theorem trim_eq : ∀ {l m : List Rat}, (∀ x, ev l x = ev m x) → trim l = trim m
  | [], m, h => by
    rw [trim_all0 (l := m) (ev_zero fun x => by rw [← h x]; rfl)]; rfl
  | a :: l, [], h => by
    rw [trim_all0 (l := a :: l) (ev_zero fun x => by rw [h x]; rfl)]; rfl
  | a :: l, b :: m, h => by
    have hab : a = b := by
      have := h 0
      simp only [ev] at this; grind
    subst hab
    have hlm : trim l = trim m := by
      -- x * (l - m) is nought everywhere
      have key : ∀ x : Rat, x * ev l x = x * ev m x := fun x => by
        have := h x
        simp only [ev] at this; grind
      have : ∀ (l m : List Rat), (∀ x : Rat, x * ev l x = x * ev m x) → ∀ x, ev l x = ev m x := by
        intro l m hx
        -- the difference as a list
        have sub : ∀ l m : List Rat, ∃ d : List Rat, ∀ x, ev d x = ev l x - ev m x := by
          intro l
          induction l with
          | nil =>
            intro m
            refine ⟨m.map (fun c => -c), fun x => ?_⟩
            induction m with
            | nil => simp [ev]; grind
            | cons b m ih => simp only [List.map_cons, ev, ih]; grind
          | cons a l ih =>
            intro m
            cases m with
            | nil => exact ⟨a :: l, fun x => by simp only [ev]; grind⟩
            | cons b m =>
              obtain ⟨d, hd⟩ := ih m
              exact ⟨(a - b) :: d, fun x => by simp only [ev, hd]; grind⟩
        obtain ⟨d, hd⟩ := sub l m
        have hz := ev_iszero (d.length) d 1 (Nat.le_refl _) fun k hk => by
          rw [hd]
          have hk0 : ((k : Nat) : Rat) ≠ 0 := by
            intro hh
            have := Rat.natCast_inj.mp (show ((k : Nat) : Rat) = ((0 : Nat) : Rat) by rw [hh]; rfl)
            omega
          have := hx k
          grind
        intro x
        have := ev_all0 hz x
        rw [hd] at this; grind
      exact trim_eq (this l m key)
    unfold trim
    rw [hlm]
theorem Tr.inj {l m : List Rat} (hl : Tr l) (hm : Tr m) (h : ∀ x, ev l x = ev m x) : l = m := by
  rw [← hl, ← hm, trim_eq h]
end PA
namespace PA

def ladd : List Rat → List Rat → List Rat
  | [], m => m
  | a :: l, [] => a :: l
  | a :: l, b :: m => (a + b) :: ladd l m
theorem ev_ladd (l m : List Rat) (x : Rat) : ev (ladd l m) x = ev l x + ev m x := by
  fun_induction ladd l m with
  | case1 m => simp [ev]; grind
  | case2 a l => simp [ev]; grind
  | case3 a l b m ih => simp only [ev, ih]; grind
def lsc (c : Rat) (l : List Rat) : List Rat := l.map (c * ·)
theorem ev_lsc (c : Rat) (l : List Rat) (x : Rat) : ev (lsc c l) x = c * ev l x := by
  induction l with
  | nil => simp [lsc, ev]
  | cons a l ih => simp only [lsc, List.map_cons, ev] at ih ⊢; rw [ih]; grind
def lmul : List Rat → List Rat → List Rat
  | [], _ => []
  | a :: l, m => ladd (lsc a m) (0 :: lmul l m)
theorem ev_lmul (l m : List Rat) (x : Rat) : ev (lmul l m) x = ev l x * ev m x := by
  induction l with
  | nil => simp [lmul, ev]
  | cons a l ih => simp only [lmul, ev_ladd, ev_lsc, ev, ih]; grind

/-- polynomials: functions that a list gives -/
def Po := { f : Rat → Rat // ∃ l : List Rat, ∀ x, f x = ev l x }
def toPo (l : List Rat) : Po := ⟨ev l, l, fun _ => rfl⟩
theorem Po.ext {f g : Po} (h : ∀ x, f.1 x = g.1 x) : f = g := Subtype.ext (funext h)
noncomputable def lst (f : Po) : List Rat := trim (Classical.choose f.2)
theorem ev_lst (f : Po) (x : Rat) : ev (lst f) x = f.1 x := by
  unfold lst
  rw [trim_ev]
  exact (Classical.choose_spec f.2 x).symm
theorem lst_tr (f : Po) : Tr (lst f) := tr_trim _
theorem toPo_lst (f : Po) : toPo (lst f) = f := Po.ext fun x => ev_lst f x
theorem lst_toPo (l : List Rat) : lst (toPo l) = trim l := (lst_tr _).inj (tr_trim l) fun x => by
  rw [ev_lst, trim_ev]; rfl
theorem lst_eq {l : List Rat} {f : Po} (t : Tr l) (h : ∀ x, ev l x = f.1 x) : lst f = l := (lst_tr f).inj t fun x => by rw [ev_lst, h]
theorem lst_inj {f g : Po} (h : lst f = lst g) : f = g := by rw [← toPo_lst f, h, toPo_lst]

instance : Add Po := ⟨fun f g => ⟨fun x => f.1 x + g.1 x, ladd (lst f) (lst g), fun x => by rw [ev_ladd, ev_lst, ev_lst]⟩⟩
instance : Mul Po := ⟨fun f g => ⟨fun x => f.1 x * g.1 x, lmul (lst f) (lst g), fun x => by rw [ev_lmul, ev_lst, ev_lst]⟩⟩
instance : Neg Po := ⟨fun f => ⟨fun x => -f.1 x, lsc (-1) (lst f), fun x => by rw [ev_lsc, ev_lst]; grind⟩⟩
instance : Sub Po := ⟨fun f g => ⟨fun x => f.1 x - g.1 x, ladd (lst f) (lsc (-1) (lst g)), fun x => by rw [ev_ladd, ev_lsc, ev_lst, ev_lst]; grind⟩⟩
/-- a number -/
def cst (c : Rat) : Po := ⟨fun _ => c, [c], fun x => by simp only [ev]; grind⟩
instance : NatCast Po := ⟨fun n => cst (n : Rat)⟩
instance : IntCast Po := ⟨fun n => cst (n : Rat)⟩
instance (n : Nat) : OfNat Po n := ⟨cst (n : Rat)⟩
def npow (f : Po) : Nat → Po
  | 0 => cst 1
  | n + 1 => npow f n * f
instance : HPow Po Nat Po := ⟨npow⟩
instance : SMul Nat Po := ⟨fun n f => cst (n : Rat) * f⟩
instance : SMul Int Po := ⟨fun n f => cst (n : Rat) * f⟩
theorem add_v (f g : Po) (x : Rat) : (f + g).1 x = f.1 x + g.1 x := rfl
theorem mul_v (f g : Po) (x : Rat) : (f * g).1 x = f.1 x * g.1 x := rfl
theorem neg_v (f : Po) (x : Rat) : (-f).1 x = -f.1 x := rfl
theorem sub_v (f g : Po) (x : Rat) : (f - g).1 x = f.1 x - g.1 x := rfl
theorem cst_v (c x : Rat) : (cst c).1 x = c := rfl
theorem zero_v (x : Rat) : (0 : Po).1 x = 0 := rfl
theorem one_v (x : Rat) : (1 : Po).1 x = 1 := rfl
theorem toPo_v (l : List Rat) (x : Rat) : (toPo l).1 x = ev l x := rfl
instance : Lean.Grind.CommRing Po where
  add_zero f := Po.ext fun x => by simp only [add_v, zero_v]; grind
  add_comm f g := Po.ext fun x => by simp only [add_v]; grind
  add_assoc f g h := Po.ext fun x => by simp only [add_v]; grind
  mul_assoc f g h := Po.ext fun x => by simp only [mul_v]; grind
  mul_one f := Po.ext fun x => by simp only [mul_v, one_v]; grind
  mul_comm f g := Po.ext fun x => by simp only [mul_v]; grind
  left_distrib f g h := Po.ext fun x => by simp only [mul_v, add_v]; grind
  one_mul f := Po.ext fun x => by simp only [mul_v, one_v]; grind
  right_distrib f g h := Po.ext fun x => by simp only [mul_v, add_v]; grind
  mul_zero f := Po.ext fun x => by simp only [mul_v, zero_v]; grind
  zero_mul f := Po.ext fun x => by simp only [mul_v, zero_v]; grind
  pow_zero f := rfl
  pow_succ f n := rfl
  ofNat_succ n := Po.ext fun x => by
    show (((n + 1 : Nat)) : Rat) = (n : Rat) + 1
    exact Rat.natCast_add n 1
  neg_add_cancel f := Po.ext fun x => by simp only [add_v, neg_v, zero_v]; grind
  sub_eq_add_neg f g := Po.ext fun x => by simp only [add_v, neg_v, sub_v]; grind
  neg_zsmul i f := Po.ext fun x => by
    show (((-i : Int)) : Rat) * f.1 x = -((i : Rat) * f.1 x)
    rw [Rat.intCast_neg]; grind
  zsmul_natCast_eq_nsmul n f := rfl
  intCast_ofNat n := rfl
  intCast_neg i := Po.ext fun x => by
    show (((-i : Int)) : Rat) = -(i : Rat)
    exact Rat.intCast_neg i
example (f g : Po) : (f + g) * (f - g) = f * f - g * g := by grind
example (f g h : Po) (e : f * g = h + 1) (e2 : h = f) : f * g * g = f * g + g := by grind

/-- how many coefficients: 0 for nought, one more than the degree -/
noncomputable def dg (f : Po) : Nat := (lst f).length
theorem trim_len (l : List Rat) : (trim l).length ≤ l.length := by
  induction l with
  | nil => exact Nat.le_refl _
  | cons a l ih =>
    rw [trim_cons]
    split
    · simp
    · simp only [List.length_cons]; omega
theorem Tr.last {l : List Rat} (t : Tr l) {a : Rat} (h : l.getLast? = some a) : a ≠ 0 := by
  induction l with
  | nil => cases h
  | cons b l ih =>
    unfold Tr at t
    rw [trim_cons] at t
    split at t
    · cases t
    · rename_i hn
      have tl : Tr l := (List.cons.inj t).2
      cases l with
      | nil =>
        simp only [List.getLast?_singleton, Option.some.injEq] at h
        subst h
        exact fun z => hn ⟨rfl, z⟩
      | cons c l => exact ih tl (by rw [← h, List.getLast?_cons_cons])
theorem tr_of {l : List Rat} (h : ∀ a, l.getLast? = some a → a ≠ 0) : Tr l := by
  unfold Tr
  induction l with
  | nil => rfl
  | cons b l ih =>
    rw [trim_cons]
    cases l with
    | nil =>
      have := h b (by simp)
      rw [if_neg fun z => this z.2]; rfl
    | cons c l =>
      have := ih fun a ha => h a (by rw [List.getLast?_cons_cons, ha])
      rw [this, if_neg fun z => nomatch z.1]
theorem lst_zero : lst 0 = [] := lst_eq rfl fun x => rfl
theorem dg_zero : dg 0 = 0 := by unfold dg; rw [lst_zero]; rfl
theorem dg_eq_zero {f : Po} : dg f = 0 ↔ f = 0 := by
  constructor
  · intro h
    exact lst_inj (by rw [lst_zero, List.length_eq_zero_iff.mp h])
  · intro h; rw [h, dg_zero]
theorem dg_toPo (l : List Rat) : dg (toPo l) ≤ l.length := by
  unfold dg; rw [lst_toPo]; exact trim_len l
theorem dg_tr {l : List Rat} (t : Tr l) : dg (toPo l) = l.length := by
  unfold dg; rw [lst_toPo, t]
/-- the leading coefficient -/
noncomputable def lc (f : Po) : Rat := (lst f).getLast?.getD 0
theorem lc_ne {f : Po} (h : f ≠ 0) : lc f ≠ 0 := by
  unfold lc
  cases e : (lst f).getLast? with
  | none => exact absurd (dg_eq_zero.mp (by unfold dg; rw [List.getLast?_eq_none_iff.mp e]; rfl)) h
  | some a => exact (lst_tr f).last e
theorem lc_zero : lc 0 = 0 := by unfold lc; rw [lst_zero]; rfl
/-- f is l below and c at the top -/
theorem split_lst {f : Po} (h : f ≠ 0) : ∃ l, lst f = l ++ [lc f] ∧ l.length + 1 = dg f := by
  have hn : lst f ≠ [] := fun z => h (dg_eq_zero.mp (by unfold dg; rw [z]; rfl))
  refine ⟨(lst f).dropLast, ?_, ?_⟩
  · unfold lc
    rw [List.getLast?_eq_some_getLast hn]
    exact (List.dropLast_concat_getLast hn).symm
  · have := List.length_pos_iff.mpr hn
    rw [List.length_dropLast]; unfold dg; omega
theorem top_of {f : Po} {l : List Rat} {c : Rat} (hc : c ≠ 0) (h : ∀ x, f.1 x = ev (l ++ [c]) x) : lst f = l ++ [c] ∧ dg f = l.length + 1 ∧ lc f = c := by
  have t : Tr (l ++ [c]) := tr_of fun a ha => by
    rw [List.getLast?_append] at ha
    simp at ha
    subst ha; exact hc
  have e : lst f = l ++ [c] := lst_eq t fun x => (h x).symm
  refine ⟨e, by unfold dg; rw [e]; simp, by unfold lc; rw [e]; simp⟩
/-- x to the power n, times c, and what is below -/
theorem dg_of {f : Po} {l : List Rat} {c : Rat} {n : Nat} (hl : l.length ≤ n) (hc : c ≠ 0) (h : ∀ x, f.1 x = ev l x + c * x ^ n) : dg f = n + 1 ∧ lc f = c := by
  have := top_of (f := f) (l := l ++ List.replicate (n - l.length) 0) (c := c) hc fun x => by
    rw [h, ev_append, ev_append, ev_zeros]
    have e : (l ++ List.replicate (n - l.length) (0 : Rat)).length = n := by simp; omega
    rw [e]
    simp only [ev]; grind
  refine ⟨?_, this.2.2⟩
  rw [this.2.1]; simp; omega
theorem form {f : Po} (h : f ≠ 0) : ∃ (l : List Rat), l.length + 1 = dg f ∧ ∀ x, f.1 x = ev l x + lc f * x ^ l.length := by
  obtain ⟨l, e, hl⟩ := split_lst h
  refine ⟨l, hl, fun x => ?_⟩
  rw [← ev_lst, e, ev_append]
  simp only [ev]; grind
theorem len_ladd (l m : List Rat) : (ladd l m).length = max l.length m.length := by
  fun_induction ladd l m with
  | case1 m => simp
  | case2 a l => simp
  | case3 a l b m ih => simp only [List.length_cons, ih]; omega
theorem len_lmul (l m : List Rat) (h : m ≠ []) : (lmul l m).length ≤ l.length + m.length - 1 := by
  have := List.length_pos_iff.mpr h
  induction l with
  | nil => simp [lmul]
  | cons a l ih => simp only [lmul, len_ladd, lsc, List.length_map, List.length_cons]; omega
theorem mul_top {f g : Po} (hf : f ≠ 0) (hg : g ≠ 0) : dg (f * g) + 1 = dg f + dg g ∧ lc (f * g) = lc f * lc g := by
  obtain ⟨l, hl, el⟩ := form hf
  obtain ⟨m, hm, em⟩ := form hg
  have hc : lc f * lc g ≠ 0 := by have := lc_ne hf; have := lc_ne hg; grind
  -- what is below the top
  have := dg_of (f := f * g) (l := ladd (lmul l m) (ladd (List.replicate m.length 0 ++ lsc (lc g) l) (List.replicate l.length 0 ++ lsc (lc f) m))) (c := lc f * lc g) (n := l.length + m.length) (by
      rw [len_ladd, len_ladd]
      simp only [List.length_append, List.length_replicate, lsc, List.length_map]
      have : (lmul l m).length ≤ l.length + m.length := by
        by_cases hmn : m = []
        · subst hmn
          clear hl el hm em hc
          induction l with
          | nil => simp [lmul]
          | cons a l ih => simp only [lmul, len_ladd, lsc, List.map_nil, List.length_cons, List.length_nil] at ih ⊢; omega
        · exact Nat.le_trans (len_lmul l m hmn) (by omega)
      omega) hc fun x => by
    rw [mul_v, el, em]
    simp only [ev_ladd, ev_lmul, ev_append, ev_zeros, ev_lsc, List.length_replicate]
    rw [show x ^ (l.length + m.length) = x ^ l.length * x ^ m.length from Lean.Grind.Semiring.pow_add ..]
    grind
  exact ⟨by omega, this.2⟩
theorem mul_ne {f g : Po} (hf : f ≠ 0) (hg : g ≠ 0) : f * g ≠ 0 := fun z => by
  have := (mul_top hf hg).1
  rw [z, dg_zero] at this
  have h1 : dg f ≠ 0 := fun h => hf (dg_eq_zero.mp h)
  have h2 : dg g ≠ 0 := fun h => hg (dg_eq_zero.mp h)
  omega
theorem mul_zero_or {f g : Po} (h : f * g = 0) : f = 0 ∨ g = 0 := Classical.byContradiction fun n => by
  rw [not_or] at n
  exact mul_ne n.1 n.2 h
theorem mul_cancel {f g h : Po} (hf : f ≠ 0) (e : f * g = f * h) : g = h := by
  have : f * (g - h) = 0 := by grind
  rcases mul_zero_or this with z | z
  · exact absurd z hf
  · grind
theorem dg_cst {c : Rat} (h : c ≠ 0) : dg (cst c) = 1 ∧ lc (cst c) = c := by
  have := top_of (f := cst c) (l := []) h fun x => by simp only [List.nil_append, ev, cst_v]; grind
  exact ⟨by rw [this.2.1]; rfl, this.2.2⟩
theorem dg_one : dg (1 : Po) = 1 := (dg_cst (c := 1) (by decide)).1
theorem lc_one : lc (1 : Po) = 1 := (dg_cst (c := 1) (by decide)).2
theorem one_ne : (1 : Po) ≠ 0 := fun h => by
  have := dg_one
  rw [h, dg_zero] at this; omega
theorem cst_mul (a b : Rat) : cst (a * b) = cst a * cst b := Po.ext fun x => rfl
theorem cst_ne {c : Rat} (h : c ≠ 0) : cst c ≠ 0 := fun z => by
  have := (dg_cst h).1
  rw [z, dg_zero] at this; omega
theorem cst_inv {c : Rat} (h : c ≠ 0) : cst c * cst (1 / c) = 1 := Po.ext fun x => by
  rw [mul_v, cst_v, cst_v, one_v]; grind
theorem dg_one_is {f : Po} (h : dg f = 1) : f = cst (lc f) := by
  have hf : f ≠ 0 := fun z => by rw [z, dg_zero] at h; omega
  obtain ⟨l, hl, el⟩ := form hf
  have : l = [] := List.length_eq_zero_iff.mp (by omega)
  subst this
  exact Po.ext fun x => by rw [el, cst_v]; simp [ev]; grind
theorem dg_pos {f : Po} (h : f ≠ 0) : 1 ≤ dg f := by
  have : dg f ≠ 0 := fun z => h (dg_eq_zero.mp z)
  omega
end PA
namespace PA

theorem dg_le_of {f : Po} {l : List Rat} (h : ∀ x, f.1 x = ev l x) : dg f ≤ l.length := by
  have : f = toPo l := Po.ext h
  rw [this]; exact dg_toPo l
theorem dg_add (f g : Po) : dg (f + g) ≤ max (dg f) (dg g) := by
  have := dg_le_of (f := f + g) (l := ladd (lst f) (lst g)) fun x => by rw [add_v, ev_ladd, ev_lst, ev_lst]
  rw [len_ladd] at this; exact this
theorem dg_neg (f : Po) : dg (-f) ≤ dg f := by
  have := dg_le_of (f := -f) (l := lsc (-1) (lst f)) fun x => by rw [neg_v, ev_lsc, ev_lst]; grind
  rw [lsc, List.length_map] at this; exact this
theorem dg_sub (f g : Po) : dg (f - g) ≤ max (dg f) (dg g) := by
  have : f - g = f + -g := by grind
  rw [this]
  have := dg_add f (-g)
  have := dg_neg g
  omega
theorem sub_top {f h : Po} (hf : f ≠ 0) (hh : h ≠ 0) (d : dg f = dg h) (c : lc f = lc h) : dg (f - h) < dg f := by
  obtain ⟨l, hl, el⟩ := form hf
  obtain ⟨m, hm, em⟩ := form hh
  have := dg_le_of (f := f - h) (l := ladd l (lsc (-1) m)) fun x => by
    rw [sub_v, el, em, ev_ladd, ev_lsc, c, show m.length = l.length by omega]; grind
  rw [len_ladd, lsc, List.length_map] at this
  omega
/-- x to the power k -/
def mono (k : Nat) : Po := toPo (List.replicate k 0 ++ [1])
theorem mono_v (k : Nat) (x : Rat) : (mono k).1 x = x ^ k := by
  show ev _ x = _
  rw [ev_append, ev_zeros, List.length_replicate]
  simp only [ev]; grind
theorem mono_top (k : Nat) : dg (mono k) = k + 1 ∧ lc (mono k) = 1 := dg_of (l := []) (c := 1) (n := k) (by simp) (by decide) fun x => by
  rw [mono_v]; simp only [ev]; grind
theorem mono_ne (k : Nat) : mono k ≠ 0 := fun z => by
  have := (mono_top k).1
  rw [z, dg_zero] at this; omega
theorem div_ex (g : Po) (hg : g ≠ 0) : ∀ (n : Nat) (f : Po), dg f ≤ n → ∃ q r, f = q * g + r ∧ dg r < dg g
  | 0, f, h => ⟨0, f, by grind, by have := dg_pos hg; omega⟩
  | n + 1, f, h => by
    by_cases hl : dg f < dg g
    · exact ⟨0, f, by grind, hl⟩
    · have hf : f ≠ 0 := fun z => by rw [z, dg_zero] at hl; have := dg_pos hg; omega
      have c1 := lc_ne hf
      have c2 := lc_ne hg
      have c3 : lc f / lc g ≠ 0 := by grind
      have t1 := mul_top (cst_ne c3) (mono_ne (dg f - dg g))
      have n1 := mul_ne (cst_ne c3) (mono_ne (dg f - dg g))
      have t2 := mul_top n1 hg
      have n2 := mul_ne n1 hg
      rw [(dg_cst c3).1, (mono_top _).1] at t1
      rw [(dg_cst c3).2, (mono_top _).2] at t1
      have hd : dg f = dg (cst (lc f / lc g) * mono (dg f - dg g) * g) := by omega
      have hc : lc f = lc (cst (lc f / lc g) * mono (dg f - dg g) * g) := by rw [t2.2, t1.2]; grind
      have hs := sub_top hf n2 hd hc
      obtain ⟨q, r, e, hr⟩ := div_ex g hg n (f - cst (lc f / lc g) * mono (dg f - dg g) * g) (by omega)
      exact ⟨q + cst (lc f / lc g) * mono (dg f - dg g), r, by grind, hr⟩
theorem div_uniq {g q r q' r' : Po} (e : q * g + r = q' * g + r') (h : dg r < dg g) (h' : dg r' < dg g) : q = q' ∧ r = r' := by
  have hg : g ≠ 0 := fun z => by rw [z, dg_zero] at h; omega
  have e1 : (q - q') * g = r' - r := by grind
  by_cases hq : q - q' = 0
  · exact ⟨by grind, by rw [hq] at e1; grind⟩
  · have t := (mul_top hq hg).1
    have := dg_sub r' r
    have := dg_pos hq
    rw [e1] at t; omega

/-! ### divisors -/
def Dv (f g : Po) : Prop := ∃ h, g = f * h
theorem Dv.refl (f : Po) : Dv f f := ⟨1, by grind⟩
theorem Dv.zero (f : Po) : Dv f 0 := ⟨0, by grind⟩
theorem Dv.trans {f g h : Po} : Dv f g → Dv g h → Dv f h := fun ⟨a, ha⟩ ⟨b, hb⟩ => ⟨a * b, by rw [hb, ha]; grind⟩
theorem Dv.mul_right {f g : Po} (h : Dv f g) (k : Po) : Dv f (g * k) := let ⟨a, ha⟩ := h; ⟨a * k, by rw [ha]; grind⟩
theorem Dv.mul_left {f g : Po} (h : Dv f g) (k : Po) : Dv f (k * g) := let ⟨a, ha⟩ := h; ⟨a * k, by rw [ha]; grind⟩
theorem Dv.add {f g h : Po} : Dv f g → Dv f h → Dv f (g + h) := fun ⟨a, ha⟩ ⟨b, hb⟩ => ⟨a + b, by rw [ha, hb]; grind⟩
theorem Dv.sub {f g h : Po} : Dv f g → Dv f h → Dv f (g - h) := fun ⟨a, ha⟩ ⟨b, hb⟩ => ⟨a - b, by rw [ha, hb]; grind⟩
theorem Dv.mul {f g h k : Po} : Dv f g → Dv h k → Dv (f * h) (g * k) := fun ⟨a, ha⟩ ⟨b, hb⟩ => ⟨a * b, by rw [ha, hb]; grind⟩
theorem Dv.left (f g : Po) : Dv f (f * g) := ⟨g, rfl⟩
theorem Dv.right (f g : Po) : Dv f (g * f) := ⟨g, by grind⟩
theorem Dv.ne {f g : Po} (h : Dv f g) (hg : g ≠ 0) : f ≠ 0 := fun z => by
  obtain ⟨a, ha⟩ := h
  exact hg (by rw [ha, z]; grind)
theorem Dv.dg {f g : Po} (h : Dv f g) (hg : g ≠ 0) : PA.dg f ≤ PA.dg g := by
  obtain ⟨a, ha⟩ := h
  have hf : f ≠ 0 := fun z => hg (by rw [ha, z]; grind)
  have hn : a ≠ 0 := fun z => hg (by rw [ha, z]; grind)
  have := (mul_top hf hn).1
  have := dg_pos hn
  rw [ha]; omega
theorem Dv.cancel {f g h : Po} (hf : f ≠ 0) (e : Dv (f * g) (f * h)) : Dv g h := by
  obtain ⟨a, ha⟩ := e
  exact ⟨a, mul_cancel hf (by rw [ha]; grind)⟩
/-- .. of equal degree, both 1 at the top -/
theorem Dv.eq {f g : Po} (h : Dv f g) (hf : lc f = 1) (hg : lc g = 1) (d : PA.dg g ≤ PA.dg f) : f = g := by
  obtain ⟨a, ha⟩ := h
  have hg0 : g ≠ 0 := fun z => by rw [z, lc_zero] at hg; exact absurd hg (by decide)
  have hf0 : f ≠ 0 := fun z => hg0 (by rw [ha, z]; grind)
  have hn : a ≠ 0 := fun z => hg0 (by rw [ha, z]; grind)
  have t := mul_top hf0 hn
  have := dg_pos hn
  rw [← ha] at t
  have e := dg_one_is (f := a) (by omega)
  have : lc a = 1 := by rw [hf, hg] at t; grind
  rw [ha, e, this]
  show f = f * 1
  grind
theorem Dv.anti {f g : Po} (h : Dv f g) (h' : Dv g f) (hf : lc f = 1) (hg : lc g = 1) : f = g := h.eq hf hg (h'.dg fun z => by rw [z, lc_zero] at hf; exact absurd hf (by decide))
theorem lc1_ne {f : Po} (h : lc f = 1) : f ≠ 0 := fun z => by rw [z, lc_zero] at h; exact absurd h (by decide)
noncomputable def mon (f : Po) : Po := cst (1 / lc f) * f
theorem mon_zero : mon 0 = 0 := by unfold mon; grind
theorem mon_top {f : Po} (h : f ≠ 0) : dg (mon f) = dg f ∧ lc (mon f) = 1 := by
  have c := lc_ne h
  have c' : 1 / lc f ≠ 0 := by grind
  have t := mul_top (cst_ne c') h
  rw [(dg_cst c').1, (dg_cst c').2] at t
  exact ⟨by unfold mon; omega, by unfold mon; rw [t.2]; grind⟩
theorem mon_dv (f : Po) : Dv (mon f) f := by
  by_cases h : f = 0
  · rw [h]; exact Dv.zero _
  · refine ⟨cst (lc f), ?_⟩
    unfold mon
    have := cst_inv (lc_ne h)
    grind
theorem dv_mon (f : Po) : Dv f (mon f) := ⟨cst (1 / lc f), by unfold mon; grind⟩
theorem mon_of {f : Po} (h : lc f = 1) : mon f = f := by
  unfold mon
  rw [h, show (1 : Rat) / 1 = 1 by grind]
  show (1 : Po) * f = f
  grind
theorem mon_mul (f g : Po) : mon (f * g) = mon f * mon g := by
  by_cases hf : f = 0
  · subst hf
    have e : (0 : Po) * g = 0 := by grind
    rw [e, mon_zero]; grind
  · by_cases hg : g = 0
    · subst hg
      have e : f * (0 : Po) = 0 := by grind
      rw [e, mon_zero]; grind
    · unfold mon
      rw [(mul_top hf hg).2]
      have : 1 / (lc f * lc g) = (1 / lc f) * (1 / lc g) := by have := lc_ne hf; have := lc_ne hg; grind
      rw [this, cst_mul]; grind

/-! ### common divisors -/
theorem gcd_ex : ∀ (n : Nat) (f g : Po), dg g ≤ n → ∃ d a b, d = a * f + b * g ∧ Dv d f ∧ Dv d g
  | 0, f, g, h => by
    have : g = 0 := dg_eq_zero.mp (by omega)
    subst this
    exact ⟨f, 1, 0, by grind, Dv.refl f, Dv.zero f⟩
  | n + 1, f, g, h => by
    by_cases hg : g = 0
    · subst hg
      exact ⟨f, 1, 0, by grind, Dv.refl f, Dv.zero f⟩
    · obtain ⟨q, r, e, hr⟩ := div_ex g hg _ f (Nat.le_refl _)
      obtain ⟨d, a, b, ed, h1, h2⟩ := gcd_ex n g r (by omega)
      exact ⟨d, b, a - b * q, by grind, by rw [e]; exact (h1.mul_left q).add h2, h1⟩
theorem gcd_mon (f g : Po) : ∃ d, (∃ a b, d = a * f + b * g) ∧ Dv d f ∧ Dv d g ∧ mon d = d := by
  obtain ⟨d, a, b, e, h1, h2⟩ := gcd_ex _ f g (Nat.le_refl _)
  refine ⟨mon d, ⟨cst (1 / lc d) * a, cst (1 / lc d) * b, by unfold mon; grind⟩, (mon_dv d).trans h1, (mon_dv d).trans h2, ?_⟩
  by_cases hd : d = 0
  · rw [hd, mon_zero, mon_zero]
  · exact mon_of (mon_top hd).2
noncomputable def gcd (f g : Po) : Po := Classical.choose (gcd_mon f g)
theorem gcd_bez (f g : Po) : ∃ a b, gcd f g = a * f + b * g := (Classical.choose_spec (gcd_mon f g)).1
theorem gcd_l (f g : Po) : Dv (gcd f g) f := (Classical.choose_spec (gcd_mon f g)).2.1
theorem gcd_r (f g : Po) : Dv (gcd f g) g := (Classical.choose_spec (gcd_mon f g)).2.2.1
theorem mon_gcd (f g : Po) : mon (gcd f g) = gcd f g := (Classical.choose_spec (gcd_mon f g)).2.2.2
theorem dv_gcd {e f g : Po} (h1 : Dv e f) (h2 : Dv e g) : Dv e (gcd f g) := by
  obtain ⟨a, b, q⟩ := gcd_bez f g
  rw [q]
  exact (h1.mul_left a).add (h2.mul_left b)
theorem dv_zero {f : Po} (h : Dv 0 f) : f = 0 := by
  obtain ⟨a, ha⟩ := h
  rw [ha]; grind
theorem mon_lc {f : Po} (h : mon f = f) (hf : f ≠ 0) : lc f = 1 := by rw [← h]; exact (mon_top hf).2
theorem mon_anti {f g : Po} (hf : mon f = f) (hg : mon g = g) (h : Dv f g) (h' : Dv g f) : f = g := by
  by_cases z : f = 0
  · subst z; rw [dv_zero h]
  · have z' : g ≠ 0 := fun w => z (by subst w; exact dv_zero h')
    exact h.anti h' (mon_lc hf z) (mon_lc hg z')
theorem gcd_is {d f g : Po} (hd : mon d = d) (h1 : Dv d f) (h2 : Dv d g) (h : ∀ e, Dv e f → Dv e g → Dv e d) : gcd f g = d := mon_anti (mon_gcd f g) hd (h _ (gcd_l f g) (gcd_r f g)) (dv_gcd h1 h2)
theorem mon_mon (f : Po) : mon (mon f) = mon f := by
  by_cases h : f = 0
  · rw [h, mon_zero, mon_zero]
  · exact mon_of (mon_top h).2
theorem gcd_comm (f g : Po) : gcd f g = gcd g f := gcd_is (mon_gcd g f) (gcd_r g f) (gcd_l g f) fun e h1 h2 => dv_gcd h2 h1
theorem gcd_zero (f : Po) : gcd f 0 = mon f := gcd_is (mon_mon f) (mon_dv f) (Dv.zero _) fun e h1 _ => h1.trans (dv_mon f)
theorem gcd_self (f : Po) : gcd f f = mon f := gcd_is (mon_mon f) (mon_dv f) (mon_dv f) fun e h1 _ => h1.trans (dv_mon f)
theorem gcd_step {f g q r : Po} (e : f = q * g + r) : gcd f g = gcd g r := gcd_is (mon_gcd g r) (by rw [e]; exact ((gcd_l g r).mul_left q).add (gcd_r g r)) (gcd_l g r) fun d h1 h2 => dv_gcd h2 (by
  have : r = f - q * g := by grind
  rw [this]
  exact h1.sub (h2.mul_left q))
theorem gcd_mon_r (f g : Po) : gcd f (mon g) = gcd f g := gcd_is (mon_gcd f g) (gcd_l f g) ((gcd_r f g).trans (dv_mon g)) fun e h1 h2 => dv_gcd h1 (h2.trans (mon_dv g))
theorem gcd_mon_l (f g : Po) : gcd (mon f) g = gcd f g := by rw [gcd_comm, gcd_mon_r, gcd_comm]
theorem gcd_more (f g k : Po) : gcd f (f * k + g) = gcd f g := by
  rw [gcd_comm f, gcd_step (f := f * k + g) (g := f) (q := k) (r := g) (by grind)]
theorem gcd_mul (f g t : Po) : gcd (f * t) (g * t) = mon (gcd f g * t) := gcd_is (mon_mon _) ((mon_dv _).trans ((gcd_l f g).mul (Dv.refl t))) ((mon_dv _).trans ((gcd_r f g).mul (Dv.refl t))) fun e h1 h2 => by
  refine Dv.trans ?_ (dv_mon _)
  obtain ⟨a, b, q⟩ := gcd_bez f g
  have : gcd f g * t = a * (f * t) + b * (g * t) := by rw [q]; grind
  rw [this]
  exact (h1.mul_left a).add (h2.mul_left b)
theorem gcd_dv {f g : Po} (h : Dv f g) : gcd f g = mon f := gcd_is (mon_mon f) (mon_dv f) ((mon_dv f).trans h) fun e h1 _ => h1.trans (dv_mon f)
theorem gcd_ne {f g : Po} (h : f ≠ 0) : gcd f g ≠ 0 := (gcd_l f g).ne h
theorem gcd_ne' {f g : Po} (h : g ≠ 0) : gcd f g ≠ 0 := (gcd_r f g).ne h
theorem gcd_lc {f g : Po} (h : f ≠ 0) : lc (gcd f g) = 1 := mon_lc (mon_gcd f g) (gcd_ne h)
end PA
namespace PA

/-! ### primes -/
def Cop (f g : Po) : Prop := ∃ a b, a * f + b * g = 1
theorem Cop.symm {f g : Po} : Cop f g → Cop g f := fun ⟨a, b, e⟩ => ⟨b, a, by grind⟩
theorem Cop.mul {f g h : Po} : Cop f g → Cop f h → Cop f (g * h) := fun ⟨a, b, e⟩ ⟨c, d, k⟩ => ⟨a * c * f + a * d * h + b * g * c, b * d, by grind⟩
theorem Cop.dv {f g h : Po} (c : Cop f g) (h1 : Dv f (g * h)) : Dv f h := by
  obtain ⟨a, b, e⟩ := c
  obtain ⟨k, hk⟩ := h1
  exact ⟨a * h + b * k, by grind⟩
structure Pr (u : Po) : Prop where
  deg : 2 ≤ dg u
  cop : ∀ v, Dv u v ∨ Cop u v
theorem Pr.ne {u : Po} (h : Pr u) : u ≠ 0 := fun z => by have := h.deg; rw [z, dg_zero] at this; omega
theorem Pr.mul {u v w : Po} (h : Pr u) (d : Dv u (v * w)) : Dv u v ∨ Dv u w := by
  rcases h.cop v with c | c
  · exact .inl c
  · exact .inr (c.dv d)
theorem unit_dv {f : Po} (h : dg f = 1) (g : Po) : Dv f g := by
  have e := dg_one_is h
  have hf : f ≠ 0 := fun z => by rw [z, dg_zero] at h; omega
  refine ⟨cst (1 / lc f) * g, ?_⟩
  have := cst_inv (lc_ne hf)
  rw [e, (dg_cst (lc_ne hf)).2]; grind
theorem Pr.not_unit {u v : Po} (h : Pr u) (c : Cop u v) (d : Dv u v) : False := by
  obtain ⟨a, b, e⟩ := c
  have : Dv u 1 := by rw [← e]; exact (Dv.right u a).add (d.mul_left b)
  have := this.dg one_ne
  rw [dg_one] at this
  have := h.deg
  omega
theorem pr_ex : ∀ (n : Nat) (f : Po), dg f ≤ n → 2 ≤ dg f → ∃ u, Pr u ∧ Dv u f
  | 0, f, h, h2 => by omega
  | n + 1, f, h, h2 => by
    by_cases hp : ∀ v, Dv f v ∨ Cop f v
    · exact ⟨f, ⟨h2, hp⟩, Dv.refl f⟩
    · obtain ⟨v, hv⟩ := Classical.not_forall.mp hp
      rw [not_or] at hv
      have hf : f ≠ 0 := fun z => by rw [z, dg_zero] at h2; omega
      obtain ⟨k, hk⟩ := gcd_l f v
      have hd := gcd_ne (g := v) hf
      have hk0 : k ≠ 0 := fun z => hf (by rw [hk, z]; grind)
      have t := (mul_top hd hk0).1
      rw [← hk] at t
      have d2 : 2 ≤ dg (gcd f v) := by
        have := dg_pos hd
        by_cases e1 : dg (gcd f v) = 1
        · exfalso
          have l1 := gcd_lc (g := v) hf
          obtain ⟨a, b, q⟩ := gcd_bez f v
          refine hv.2 ⟨a, b, ?_⟩
          rw [← q, dg_one_is e1, l1]; rfl
        · omega
      have d3 : dg (gcd f v) ≤ n := by
        by_cases e1 : dg k = 1
        · exfalso
          obtain ⟨m, hm⟩ := unit_dv e1 1
          refine hv.1 (Dv.trans ⟨m, ?_⟩ (gcd_r f v))
          grind
        · have := dg_pos hk0
          omega
      obtain ⟨u, hu, du⟩ := pr_ex n (gcd f v) d3 d2
      exact ⟨u, hu, du.trans (gcd_l f v)⟩
theorem pr_of {f : Po} (h : 2 ≤ dg f) : ∃ u, Pr u ∧ Dv u f := pr_ex _ f (Nat.le_refl _) h
theorem pow_s (f : Po) (n : Nat) : f ^ (n + 1) = f ^ n * f := rfl
theorem pow_z (f : Po) : f ^ 0 = 1 := rfl
theorem pow_ne {f : Po} (h : f ≠ 0) : ∀ n : Nat, f ^ n ≠ 0
  | 0 => one_ne
  | n + 1 => mul_ne (pow_ne h n) h
theorem Pr.pow {u v : Po} (h : Pr u) : ∀ n : Nat, Dv u (v ^ n) → Dv u v
  | 0, d => by
    have := (show Dv u 1 from d).dg one_ne
    rw [dg_one] at this
    have := h.deg
    omega
  | n + 1, d => (h.mul d).elim (fun d => h.pow n d) id
/-- how often a prime goes into a polynomial -/
theorem mult_ex {u : Po} (hu : Pr u) : ∀ (n : Nat) (f : Po), dg f ≤ n → f ≠ 0 → ∃ (k : Nat) (g : Po), f = u ^ k * g ∧ ¬ Dv u g
  | 0, f, h, h0 => by have := dg_pos h0; omega
  | n + 1, f, h, h0 => by
    by_cases hd : Dv u f
    · obtain ⟨g, rfl⟩ := hd
      have hg : g ≠ 0 := fun z => h0 (by rw [z]; grind)
      have t := (mul_top hu.ne hg).1
      have := hu.deg
      obtain ⟨k, w, e, hw⟩ := mult_ex hu n g (by omega) hg
      exact ⟨k + 1, w, by rw [pow_s, e]; grind, hw⟩
    · exact ⟨0, f, by rw [pow_z]; grind, hd⟩
theorem Pr.cop_pow {u v : Po} (h : Pr u) (d : ¬ Dv u v) : ∀ n : Nat, Cop (u ^ n) v
  | 0 => ⟨1, 0, by rw [pow_z]; grind⟩
  | n + 1 => by
    have c1 := h.cop_pow d n
    have c2 := (h.cop v).resolve_left d
    exact (c1.symm.mul c2.symm).symm

/-! ### the slope -/
def der : List Rat → List Rat
  | [] => []
  | [_] => []
  | _ :: b :: l => ladd (b :: l) (0 :: der (b :: l))
theorem der_cons (a : Rat) (l : List Rat) (x : Rat) : ev (der (a :: l)) x = ev l x + x * ev (der l) x := by
  cases l with
  | nil => simp only [der, ev]; grind
  | cons b l => simp only [der, ev_ladd, ev]; grind
theorem der_trim (l : List Rat) (x : Rat) : ev (der (trim l)) x = ev (der l) x := by
  induction l with
  | nil => rfl
  | cons a l ih =>
    rw [trim_cons]
    split
    · rename_i h
      rw [der_cons, ← trim_ev l, ← ih, h.1]
      simp only [der, ev]; grind
    · rw [der_cons, der_cons, trim_ev, ih]
theorem der_eq {l m : List Rat} (h : ∀ x, ev l x = ev m x) (x : Rat) : ev (der l) x = ev (der m) x := by
  rw [← der_trim l, trim_eq h, der_trim]
noncomputable def D (f : Po) : Po := toPo (der (lst f))
theorem D_of {f : Po} {l : List Rat} (h : ∀ x, f.1 x = ev l x) (x : Rat) : (D f).1 x = ev (der l) x := der_eq (fun x => by rw [ev_lst, h]) x
theorem der_ladd (l m : List Rat) (x : Rat) : ev (der (ladd l m)) x = ev (der l) x + ev (der m) x := by
  fun_induction ladd l m with
  | case1 m => simp only [der, ev]; grind
  | case2 a l => simp only [der, ev]; grind
  | case3 a l b m ih => simp only [der_cons, ev_ladd, ih]; grind
theorem der_lsc (c : Rat) (l : List Rat) (x : Rat) : ev (der (lsc c l)) x = c * ev (der l) x := by
  induction l with
  | nil => simp only [lsc, List.map_nil, der, ev]; grind
  | cons a l ih =>
    have e := ev_lsc c l x
    simp only [lsc, List.map_cons] at ih e ⊢
    rw [der_cons, der_cons, ih, e]; grind
theorem der_lmul (l m : List Rat) (x : Rat) : ev (der (lmul l m)) x = ev (der l) x * ev m x + ev l x * ev (der m) x := by
  induction l with
  | nil => simp only [lmul, der, ev]; grind
  | cons a l ih => simp only [lmul, der_ladd, der_lsc, der_cons, ev_lmul, ih, ev]; grind
theorem D_mul (f g : Po) : D (f * g) = D f * g + f * D g := Po.ext fun x => by
  rw [D_of (f := f * g) (l := lmul (lst f) (lst g)) (fun x => by rw [ev_lmul, ev_lst, ev_lst]; rfl), der_lmul, ev_lst, ev_lst]
  rfl
theorem der_append (l m : List Rat) (x : Rat) : ev (der (l ++ m)) x = ev (der l) x + (l.length : Rat) * (if l.length = 0 then 0 else x ^ (l.length - 1)) * ev m x + x ^ l.length * ev (der m) x := by
  induction l with
  | nil => simp [der, ev]; grind
  | cons a l ih =>
    rw [List.cons_append, der_cons, ih, ev_append, der_cons, List.length_cons]
    rw [if_neg (show ¬ (l.length + 1 = 0) by omega), show l.length + 1 - 1 = l.length from rfl, show ((l.length + 1 : Nat) : Rat) = (l.length : Rat) + 1 from Rat.natCast_add _ 1]
    by_cases h : l.length = 0
    · rw [if_pos h, h]; grind
    · obtain ⟨n, hn⟩ := Nat.exists_eq_succ_of_ne_zero h
      rw [if_neg h, hn, show n.succ - 1 = n from rfl]; grind
theorem der_len : ∀ l : List Rat, (der l).length = l.length - 1
  | [] => rfl
  | [_] => rfl
  | a :: b :: l => by
    have := der_len (b :: l)
    simp only [der, len_ladd, List.length_cons] at this ⊢; omega
theorem D_top {f : Po} (h : 2 ≤ dg f) : dg (D f) + 1 = dg f ∧ D f ≠ 0 := by
  have hf : f ≠ 0 := fun z => by rw [z, dg_zero] at h; omega
  obtain ⟨l, e, hl⟩ := split_lst hf
  have hn : ((l.length : Nat) : Rat) ≠ 0 := fun z => by
    have := Rat.natCast_inj.mp (show ((l.length : Nat) : Rat) = ((0 : Nat) : Rat) by rw [z]; rfl)
    omega
  have hc : (l.length : Rat) * lc f ≠ 0 := by have := lc_ne hf; grind
  have := dg_of (f := D f) (l := der l) (c := (l.length : Rat) * lc f) (n := l.length - 1) (by rw [der_len]; exact Nat.le_refl _) hc fun x => by
    show ev (der (lst f)) x = _
    rw [e, der_append, if_neg (by omega)]
    simp only [der, ev]; grind
  refine ⟨by omega, fun z => ?_⟩
  rw [z, dg_zero] at this; omega
theorem D_cst (c : Rat) : D (cst c) = 0 := Po.ext fun x => by
  rw [D_of (f := cst c) (l := [c]) (fun x => by rw [cst_v]; simp only [ev]; grind)]; rfl
theorem D_pow (u : Po) : ∀ k : Nat, D (u ^ (k + 1)) = cst ((k + 1 : Nat) : Rat) * u ^ k * D u
  | 0 => by
    have e : u ^ (0 + 1) = u := by rw [pow_s, pow_z]; grind
    rw [e, pow_z, show cst ((0 + 1 : Nat) : Rat) = 1 from rfl]; grind
  | k + 1 => by
    rw [pow_s, D_mul, D_pow u k]
    have : cst ((k + 1 + 1 : Nat) : Rat) = cst ((k + 1 : Nat) : Rat) + 1 := Po.ext fun x => by
      rw [add_v, cst_v, cst_v, one_v]; exact Rat.natCast_add _ 1
    rw [this, pow_s u k]; grind
theorem Pr.not_D {u : Po} (h : Pr u) : ¬ Dv u (D u) := fun d => by
  have t := D_top h.deg
  have := d.dg t.2
  omega

/-! ### free of squares -/
def Sqf (f : Po) : Prop := ∀ u, Pr u → ¬ Dv (u * u) f
theorem Sqf.dv {f g : Po} (h : Sqf g) (d : Dv f g) : Sqf f := fun u hu k => h u hu (k.trans d)
/-- the part free of squares: what is left of f by its common divisor with the slope -/
theorem rad_pr {f G R : Po} (hf : f ≠ 0) (hG : G = gcd f (D f)) (e : f = R * G) : Sqf R ∧ (∀ u, Pr u → Dv u f → Dv u R) := by
  have key : ∀ u, Pr u → ¬ Dv (u * u) R ∧ (Dv u f → Dv u R) := by
    intro u hu
    obtain ⟨k, H, eH, hH⟩ := mult_ex hu _ f (Nat.le_refl _) hf
    cases k with
    | zero =>
      rw [pow_z] at eH
      have : f = H := by grind
      subst this
      exact ⟨fun d => hH (((Dv.left u u).trans d).trans ⟨G, e⟩), fun d => absurd d hH⟩
    | succ k =>
      have hup := pow_ne hu.ne k
      -- u to the power k goes into G
      have hD : D f = u ^ k * (cst ((k + 1 : Nat) : Rat) * D u * H + u * D H) := by
        rw [eH, D_mul, D_pow, pow_s]; grind
      have hk : Dv (u ^ k) G := by
        rw [hG]
        exact dv_gcd ⟨u * H, by rw [eH, pow_s]; grind⟩ ⟨_, hD⟩
      -- no more
      have hk1 : ¬ Dv (u ^ k * u) G := fun d => by
        have d1 : Dv (u ^ k * u) (D f) := d.trans (by rw [hG]; exact gcd_r f (D f))
        rw [hD] at d1
        have d2 := d1.cancel hup
        have d3 : Dv u (cst ((k + 1 : Nat) : Rat) * D u * H) := by
          have := d2.sub (Dv.left u (D H))
          have q : cst ((k + 1 : Nat) : Rat) * D u * H + u * D H - u * D H = cst ((k + 1 : Nat) : Rat) * D u * H := by grind
          rwa [q] at this
        rcases hu.mul d3 with d4 | d4
        · rcases hu.mul d4 with d5 | d5
          · have hc : ((k + 1 : Nat) : Rat) ≠ 0 := fun z => by
              have := Rat.natCast_inj.mp (show ((k + 1 : Nat) : Rat) = ((0 : Nat) : Rat) by rw [z]; rfl)
              omega
            have := d5.dg (cst_ne hc)
            rw [(dg_cst hc).1] at this
            have := hu.deg
            omega
          · exact hu.not_D d5
        · exact hH d4
      constructor
      · intro d
        have d1 : Dv (u ^ k * (u * u)) (u ^ k * (u * H)) := by
          have := (Dv.mul hk d)
          have q : G * R = u ^ k * (u * H) := by rw [show G * R = f by rw [e]; grind, eH, pow_s]; grind
          rwa [q] at this
        exact hH ((d1.cancel hup).cancel hu.ne)
      · intro _
        apply Classical.byContradiction
        intro hn
        have c := hu.cop_pow hn (k + 1)
        refine hk1 (c.dv (h := G) ?_)
        rw [← e, eH]
        exact Dv.left _ _
  exact ⟨fun u hu => (key u hu).1, fun u hu => (key u hu).2⟩
/-- free of squares, with all its primes in g: it goes into g -/
theorem Sqf.into {f g : Po} (hf : f ≠ 0) (s : Sqf f) (h : ∀ u, Pr u → Dv u f → Dv u g) : Dv f g := by
  obtain ⟨t, ht⟩ := gcd_l f g
  have hd := gcd_ne (g := g) hf
  have ht0 : t ≠ 0 := fun z => hf (by rw [ht, z]; grind)
  by_cases h2 : 2 ≤ dg t
  · exfalso
    obtain ⟨u, hu, du⟩ := pr_of h2
    have d1 : Dv u f := by rw [ht]; exact du.mul_left _
    have d2 := dv_gcd d1 (h u hu d1)
    exact s u hu (by rw [ht]; exact d2.mul du)
  · have : dg t = 1 := by have := dg_pos ht0; omega
    obtain ⟨m, hm⟩ := unit_dv this 1
    exact Dv.trans ⟨m, by grind⟩ (gcd_r f g)
theorem sqf_eq {f g : Po} (hf : lc f = 1) (hg : lc g = 1) (s : Sqf f) (t : Sqf g) (h : ∀ u, Pr u → (Dv u f ↔ Dv u g)) : f = g :=
  (s.into (lc1_ne hf) fun u hu => (h u hu).mp).anti (t.into (lc1_ne hg) fun u hu => (h u hu).mpr) hf hg
/-- s is f's part free of squares -/
structure Rad (f s : Po) : Prop where
  top : lc s = 1
  sqf : Sqf s
  pr : ∀ u, Pr u → (Dv u s ↔ Dv u f)
theorem Rad.uniq {f g s t : Po} (h : Rad f s) (k : Rad g t) (e : ∀ u, Pr u → (Dv u f ↔ Dv u g)) : s = t := sqf_eq h.top k.top h.sqf k.sqf fun u hu => by rw [h.pr u hu, k.pr u hu, e u hu]
theorem Rad.dv {f s : Po} (h : Rad f s) : Dv s f := h.sqf.into (lc1_ne h.top) fun u hu => (h.pr u hu).mp
theorem dv_unit {u f c : Po} (hc : dg c = 1) : Dv u (c * f) ↔ Dv u f := by
  constructor
  · intro h
    obtain ⟨m, hm⟩ := unit_dv hc 1
    have : f = m * (c * f) := by grind
    rw [this]; exact h.mul_left m
  · intro h; exact h.mul_left c
theorem dv_mon_iff {u f : Po} : Dv u (mon f) ↔ Dv u f := ⟨fun h => h.trans (mon_dv f), fun h => h.trans (dv_mon f)⟩
theorem rad_of {f R : Po} (hf : f ≠ 0) (e : f = R * gcd f (D f)) : Rad f (mon R) := by
  have hR : R ≠ 0 := fun z => hf (by rw [e, z]; grind)
  have k := rad_pr hf rfl e
  exact ⟨(mon_top hR).2, k.1.dv (mon_dv R), fun u hu => dv_mon_iff.trans ⟨fun d => d.trans ⟨_, e⟩, k.2 u hu⟩⟩
theorem Rad.self {s : Po} (h : lc s = 1) (q : Sqf s) : Rad s s := ⟨h, q, fun u hu => Iff.rfl⟩
theorem one_of {f : Po} (h : lc f = 1) (n : ∀ u, Pr u → ¬ Dv u f) : f = 1 := by
  have h0 := dg_pos (lc1_ne h)
  by_cases h2 : 2 ≤ dg f
  · obtain ⟨u, hu, d⟩ := pr_of h2
    exact absurd d (n u hu)
  · rw [dg_one_is (f := f) (by omega), h]; rfl
end PA
namespace PA

theorem mul_den (c : Rat) : c * (c.den : Rat) = (c.num : Rat) := by
  have e := Rat.mkRat_self c
  rw [Rat.mkRat_eq_div] at e
  have hd : (c.den : Rat) ≠ 0 := fun z => c.den_nz (Rat.natCast_inj.mp (show ((c.den : Nat) : Rat) = ((0 : Nat) : Rat) from z))
  grind
/-! ### whole polynomials -/
def ci (l : List Int) : List Rat := l.map (fun n : Int => (n : Rat))
def toI (l : List Int) : Po := toPo (ci l)
def X1 : Po := toPo [0, 1]
theorem X1_v (x : Rat) : X1.1 x = x := by
  show ev [0, 1] x = x
  simp only [ev]; grind
theorem toI_cons (a : Int) (l : List Int) : toI (a :: l) = cst (a : Rat) + X1 * toI l := Po.ext fun x => by
  rw [add_v, mul_v, X1_v, cst_v]; rfl
theorem toI_nil : toI [] = 0 := Po.ext fun x => rfl
theorem X1_ne : X1 ≠ 0 := fun z => by
  have := X1_v 1
  rw [z, zero_v] at this
  exact absurd this (by decide)
theorem ci_add : ∀ l m : List Int, ∃ k, toI l + toI m = toI k
  | [], m => ⟨m, by rw [toI_nil]; grind⟩
  | a :: l, [] => ⟨a :: l, by rw [toI_nil]; grind⟩
  | a :: l, b :: m => by
    obtain ⟨k, hk⟩ := ci_add l m
    refine ⟨(a + b) :: k, ?_⟩
    rw [toI_cons, toI_cons, toI_cons, ← hk]
    have : cst (((a + b : Int)) : Rat) = cst (a : Rat) + cst (b : Rat) := Po.ext fun x => by rw [add_v, cst_v, cst_v, cst_v]; exact Rat.intCast_add a b
    rw [this]; grind
theorem ci_sc (a : Int) (l : List Int) : cst (a : Rat) * toI l = toI (l.map (a * ·)) := by
  induction l with
  | nil => rw [List.map_nil, toI_nil]; grind
  | cons b l ih =>
    rw [List.map_cons, toI_cons, toI_cons, ← ih]
    have : cst (((a * b : Int)) : Rat) = cst (a : Rat) * cst (b : Rat) := Po.ext fun x => by rw [mul_v, cst_v, cst_v, cst_v]; exact Rat.intCast_mul a b
    rw [this]; grind
theorem ci_X (l : List Int) : X1 * toI l = toI (0 :: l) := by
  rw [toI_cons]
  have : cst ((0 : Int) : Rat) = 0 := rfl
  rw [this]; grind
theorem ci_mul : ∀ l m : List Int, ∃ k, toI l * toI m = toI k
  | [], m => ⟨[], by rw [toI_nil]; grind⟩
  | a :: l, m => by
    obtain ⟨k, hk⟩ := ci_mul l m
    obtain ⟨j, hj⟩ := ci_add (m.map (a * ·)) (0 :: k)
    refine ⟨j, ?_⟩
    rw [← hj, ← ci_sc, ← ci_X, ← hk, toI_cons]; grind
theorem mem_trim {l : List Rat} {c : Rat} (h : c ∈ l) : c = 0 ∨ c ∈ trim l := by
  induction l with
  | nil => cases h
  | cons a l ih =>
    rw [trim_cons]
    split
    · rename_i hz
      rcases List.mem_cons.mp h with rfl | h
      · exact .inl hz.2
      · rcases ih h with e | e
        · exact .inl e
        · rw [hz.1] at e; cases e
    · rcases List.mem_cons.mp h with rfl | h
      · exact .inr List.mem_cons_self
      · exact (ih h).imp id (List.mem_cons_of_mem _)
theorem trim_mem {l : List Rat} {c : Rat} (h : c ∈ trim l) : c ∈ l := by
  induction l with
  | nil => cases h
  | cons a l ih =>
    rw [trim_cons] at h
    split at h
    · cases h
    · rcases List.mem_cons.mp h with rfl | h
      · exact List.mem_cons_self
      · exact List.mem_cons_of_mem _ (ih h)
theorem coef_eq {l m : List Rat} (e : toPo l = toPo m) {c : Rat} (h : c ∈ l) : c = 0 ∨ c ∈ m := by
  rcases mem_trim h with h | h
  · exact .inl h
  · rw [trim_eq (l := l) (m := m) fun x => by rw [← toPo_v, e]; rfl] at h
    exact .inr (trim_mem h)
theorem coef_eqI {l m : List Int} (e : toI l = toI m) {c : Int} (h : c ∈ l) : c = 0 ∨ c ∈ m := by
  rcases coef_eq e (c := (c : Rat)) (List.mem_map.mpr ⟨c, h, rfl⟩) with h | h
  · exact .inl (Rat.intCast_inj.mp h)
  · obtain ⟨d, hd, q⟩ := List.mem_map.mp h
    rw [← Rat.intCast_inj.mp q]; exact .inr hd

/-! ### primes among numbers -/
structure PN (p : Nat) : Prop where
  two : 2 ≤ p
  cop : ∀ a : Nat, p ∣ a ∨ Nat.Coprime p a
theorem pn_ex : ∀ (k n : Nat), n ≤ k → 2 ≤ n → ∃ p, PN p ∧ p ∣ n
  | 0, n, h, h2 => by omega
  | k + 1, n, h, h2 => by
    by_cases hp : ∀ a : Nat, n ∣ a ∨ Nat.Coprime n a
    · exact ⟨n, ⟨h2, hp⟩, Nat.dvd_refl n⟩
    · obtain ⟨a, ha⟩ := Classical.not_forall.mp hp
      rw [not_or] at ha
      have g1 : Nat.gcd n a ∣ n := Nat.gcd_dvd_left n a
      have g2 : Nat.gcd n a ∣ a := Nat.gcd_dvd_right n a
      have g3 : Nat.gcd n a ≠ n := fun z => ha.1 (by rw [← z]; exact g2)
      have g4 : Nat.gcd n a ≠ 1 := ha.2
      have g5 := Nat.le_of_dvd (by omega) g1
      have g6 : Nat.gcd n a ≠ 0 := fun z => by
        have := Nat.eq_zero_of_gcd_eq_zero_left z
        omega
      obtain ⟨p, hp, d⟩ := pn_ex k (Nat.gcd n a) (by omega) (by omega)
      exact ⟨p, hp, Nat.dvd_trans d g1⟩
theorem PN.mul {p : Nat} (h : PN p) {a b : Int} (d : (p : Int) ∣ a * b) : (p : Int) ∣ a ∨ (p : Int) ∣ b := by
  have d' : p ∣ a.natAbs * b.natAbs := by
    have := Int.natAbs_dvd_natAbs.mpr d
    rwa [Int.natAbs_mul, Int.natAbs_natCast] at this
  rcases h.cop a.natAbs with c | c
  · exact .inl (Int.ofNat_dvd_left.mpr c)
  · exact .inr (Int.ofNat_dvd_left.mpr (c.dvd_of_dvd_mul_left d'))
def All (p : Nat) (l : List Int) : Prop := ∀ c ∈ l, (p : Int) ∣ c
theorem All.eq {p : Nat} {l m : List Int} (h : All p m) (e : toI l = toI m) : All p l := fun c hc => by
  rcases coef_eqI e hc with z | z
  · rw [z]; exact Int.dvd_zero _
  · exact h c z
theorem all_sub {p : Nat} : ∀ {l m : List Int}, All p l → All p m → ∃ k, All p k ∧ toI k = toI l - toI m
  | [], m, _, hm => ⟨m.map ((-1) * ·), by
      intro c hc
      obtain ⟨d, hd, rfl⟩ := List.mem_map.mp hc
      exact Int.dvd_mul_of_dvd_right (hm d hd), by
      rw [← ci_sc, toI_nil]
      have : cst ((-1 : Int) : Rat) = -1 := Po.ext fun x => rfl
      rw [this]; grind⟩
  | a :: l, [], hl, _ => ⟨a :: l, hl, by rw [toI_nil]; grind⟩
  | a :: l, b :: m, hl, hm => by
    obtain ⟨k, hk, e⟩ := all_sub (p := p) (l := l) (m := m) (fun c hc => hl c (List.mem_cons_of_mem _ hc)) (fun c hc => hm c (List.mem_cons_of_mem _ hc))
    refine ⟨(a - b) :: k, ?_, ?_⟩
    · intro c hc
      rcases List.mem_cons.mp hc with rfl | hc
      · exact Int.dvd_sub (hl a List.mem_cons_self) (hm b List.mem_cons_self)
      · exact hk c hc
    · rw [toI_cons, toI_cons, toI_cons, e]
      have : cst (((a - b : Int)) : Rat) = cst (a : Rat) - cst (b : Rat) := Po.ext fun x => by rw [sub_v, cst_v, cst_v, cst_v]; exact Rat.intCast_sub a b
      rw [this]; grind
theorem toI_at0 (a : Int) (l : List Int) : (toI (a :: l)).1 0 = a := by
  show ev (ci (a :: l)) 0 = _
  simp only [ci, List.map_cons, ev]; grind
theorem all_down {p : Nat} {k : List Int} (h : All p k) {f : Po} (e : X1 * f = toI k) : ∃ j, All p j ∧ toI j = f := by
  cases k with
  | nil =>
    refine ⟨[], h, ?_⟩
    rw [toI_nil] at e ⊢
    rcases mul_zero_or e with z | z
    · exact absurd z X1_ne
    · exact z.symm
  | cons c k =>
    refine ⟨k, fun d hd => h d (List.mem_cons_of_mem _ hd), ?_⟩
    have h0 : ((c : Int) : Rat) = 0 := by
      rw [← toI_at0 c k, ← e, mul_v, X1_v]; grind
    rw [toI_cons, h0] at e
    have : X1 * f = X1 * toI k := by
      rw [e]
      have : cst 0 = 0 := rfl
      rw [this]; grind
    exact (mul_cancel X1_ne this).symm
/-- Gauss -/
theorem gauss {p : Nat} (hp : PN p) : ∀ (n : Nat) (l m k : List Int), l.length + m.length ≤ n → All p k → toI k = toI l * toI m → All p l ∨ All p m
  | _, [], m, k, _, _, _ => .inl fun c hc => nomatch hc
  | _, a :: l, [], k, _, _, _ => .inr fun c hc => nomatch hc
  | 0, a :: l, b :: m, k, hn, _, _ => by simp at hn
  | n + 1, a :: l, b :: m, k, hn, hk, e => by
    simp only [List.length_cons] at hn
    have hab : (p : Int) ∣ a * b := by
      have e0 : (toI k).1 0 = ((a * b : Int) : Rat) := by rw [e, mul_v, toI_at0, toI_at0, Rat.intCast_mul]
      cases k with
      | nil =>
        rw [toI_nil, zero_v] at e0
        have : a * b = 0 := (Rat.intCast_inj.mp (show ((0 : Int) : Rat) = _ from e0)).symm
        rw [this]; exact Int.dvd_zero _
      | cons c k =>
        rw [toI_at0] at e0
        rw [← Rat.intCast_inj.mp e0]
        exact hk c List.mem_cons_self
    have sc : ∀ (a : Int), (p : Int) ∣ a → ∀ j : List Int, All p (j.map (a * ·)) := fun a ha j c hc => by
      obtain ⟨d, hd, rfl⟩ := List.mem_map.mp hc
      exact Int.dvd_mul_of_dvd_left ha
    rcases hp.mul hab with ha | hb
    · obtain ⟨j, hj, ej⟩ := all_sub hk (sc a ha (b :: m))
      rw [← ci_sc, e, toI_cons a l] at ej
      obtain ⟨i, hi, ei⟩ := all_down hj (f := toI l * toI (b :: m)) (by rw [ej]; grind)
      rcases gauss hp n l (b :: m) i (by simp only [List.length_cons]; omega) hi ei with q | q
      · exact .inl fun c hc => by
          rcases List.mem_cons.mp hc with rfl | hc
          · exact ha
          · exact q c hc
      · exact .inr q
    · obtain ⟨j, hj, ej⟩ := all_sub hk (sc b hb (a :: l))
      rw [← ci_sc, e, toI_cons b m] at ej
      obtain ⟨i, hi, ei⟩ := all_down hj (f := toI (a :: l) * toI m) (by rw [ej]; grind)
      rcases gauss hp n (a :: l) m i (by simp only [List.length_cons]; omega) hi ei with q | q
      · exact .inl q
      · exact .inr fun c hc => by
          rcases List.mem_cons.mp hc with rfl | hc
          · exact hb
          · exact q c hc
/-- no prime goes into all coefficients -/
def Pm (l : List Int) : Prop := ∀ p, PN p → ¬ All p l
theorem pm_mul {l m k : List Int} (hl : Pm l) (hm : Pm m) (e : toI k = toI l * toI m) : Pm k := fun p hp h => by
  rcases gauss hp _ l m k (Nat.le_refl _) h e with q | q
  · exact hl p hp q
  · exact hm p hp q
def sumA : List Int → Nat
  | [] => 0
  | a :: l => a.natAbs + sumA l
theorem sumA_pos {l : List Int} {c : Int} (h : c ∈ l) (hc : c ≠ 0) : 0 < sumA l := by
  induction l with
  | nil => cases h
  | cons a l ih =>
    unfold sumA
    rcases List.mem_cons.mp h with rfl | h
    · omega
    · have := ih h; omega
theorem sumA_div {p : Nat} (hp : 2 ≤ p) : ∀ {l : List Int}, All p l → ∃ m : List Int, l = m.map ((p : Int) * ·) ∧ sumA l = p * sumA m
  | [], _ => ⟨[], rfl, rfl⟩
  | a :: l, h => by
    obtain ⟨m, e, s⟩ := sumA_div hp (l := l) fun c hc => h c (List.mem_cons_of_mem _ hc)
    obtain ⟨b, hb⟩ := h a List.mem_cons_self
    refine ⟨b :: m, by rw [List.map_cons, ← e, ← hb], ?_⟩
    unfold sumA
    rw [s, hb, Int.natAbs_mul, Int.natAbs_natCast, Nat.mul_add]
theorem pm_ex : ∀ (n : Nat) (l : List Int), sumA l ≤ n → toI l ≠ 0 → ∃ (c : Int) (m : List Int), c ≠ 0 ∧ Pm m ∧ toI l = cst (c : Rat) * toI m
  | 0, l, h, h0 => by
    exfalso
    apply h0
    exact Po.ext fun x => ev_all0 (fun c hc => by
      obtain ⟨d, hd, rfl⟩ := List.mem_map.mp hc
      by_cases z : d = 0
      · rw [z]; rfl
      · have := sumA_pos hd z; omega) x
  | n + 1, l, h, h0 => by
    by_cases hp : Pm l
    · exact ⟨1, l, by decide, hp, by rw [show cst ((1 : Int) : Rat) = 1 from rfl]; grind⟩
    · obtain ⟨p, hp⟩ := Classical.not_forall.mp hp
      rw [Classical.not_imp, Classical.not_not] at hp
      obtain ⟨m, e, s⟩ := sumA_div hp.1.two hp.2
      have h2 := hp.1.two
      have e2 : toI l = cst (((p : Nat) : Int) : Rat) * toI m := by rw [e, ci_sc]
      have hm : toI m ≠ 0 := fun z => h0 (by rw [e2, z]; grind)
      have hs : sumA m ≤ n := by
        have : 2 * sumA m ≤ p * sumA m := Nat.mul_le_mul_right _ h2
        have : 0 < sumA l := by
          apply Nat.pos_of_ne_zero
          intro z
          apply h0
          exact Po.ext fun x => ev_all0 (fun c hc => by
            obtain ⟨d, hd, rfl⟩ := List.mem_map.mp hc
            by_cases z' : d = 0
            · rw [z']; rfl
            · have := sumA_pos hd z'; omega) x
        omega
      obtain ⟨c, k, hc, hk, ek⟩ := pm_ex n m hs hm
      refine ⟨p * c, k, Int.mul_ne_zero (by omega) hc, hk, ?_⟩
      rw [e2, ek, Rat.intCast_mul, cst_mul]; grind
theorem clear_ex : ∀ l : List Rat, ∃ (d : Int) (m : List Int), d ≠ 0 ∧ cst (d : Rat) * toPo l = toI m
  | [] => ⟨1, [], by decide, Po.ext fun x => by rw [mul_v, cst_v]; show _ * ev [] x = ev [] x; simp only [ev]; grind⟩
  | a :: l => by
    obtain ⟨d, m, hd, e⟩ := clear_ex l
    refine ⟨d * a.den, (d * a.num) :: m.map ((a.den : Int) * ·), Int.mul_ne_zero hd (by have := a.den_nz; omega), ?_⟩
    rw [toI_cons, ← ci_sc, ← e]
    refine Po.ext fun x => ?_
    simp only [mul_v, add_v, cst_v, X1_v, toPo_v, ev, Rat.intCast_mul]
    have : a * (a.den : Rat) = (a.num : Rat) := mul_den a
    have q : (((a.den : Nat) : Int) : Rat) = (a.den : Rat) := rfl
    rw [q, ← this]; grind
/-- a polynomial is a number times a primitive one -/
theorem prim_ex {f : Po} (hf : f ≠ 0) : ∃ (c : Rat) (m : List Int), c ≠ 0 ∧ Pm m ∧ f = cst c * toI m := by
  obtain ⟨d, m, hd, e⟩ := clear_ex (lst f)
  rw [toPo_lst] at e
  have hd' : (d : Rat) ≠ 0 := fun z => hd (Rat.intCast_inj.mp (show (d : Rat) = ((0 : Int) : Rat) from z))
  have hm : toI m ≠ 0 := by rw [← e]; exact mul_ne (cst_ne hd') hf
  obtain ⟨c, k, hc, hk, ek⟩ := pm_ex _ m (Nat.le_refl _) hm
  have hc' : (c : Rat) ≠ 0 := fun z => hc (Rat.intCast_inj.mp (show (c : Rat) = ((0 : Int) : Rat) from z))
  refine ⟨(c : Rat) / d, k, by grind, hk, ?_⟩
  have i1 := cst_inv hd'
  have : cst ((c : Rat) / d) = cst (c : Rat) * cst (1 / (d : Rat)) := by rw [← cst_mul]; congr 1; grind
  rw [this]
  have : f = cst (1 / (d : Rat)) * (cst (d : Rat) * f) := by grind
  rw [this, e, ek]; grind
theorem den_one {c : Rat} {l m : List Int} (hl : Pm l) (e : toI m = cst c * toI l) : c.den = 1 := by
  have e2 : toI (m.map ((c.den : Int) * ·)) = toI (l.map (c.num * ·)) := by
    rw [← ci_sc, ← ci_sc, e]
    refine Po.ext fun x => ?_
    simp only [mul_v, cst_v]
    have : c * (c.den : Rat) = (c.num : Rat) := mul_den c
    have q : (((c.den : Nat) : Int) : Rat) = (c.den : Rat) := rfl
    rw [q, ← this]; grind
  apply Classical.byContradiction
  intro hn
  have := c.den_pos
  obtain ⟨p, hp, hd⟩ := pn_ex _ c.den (Nat.le_refl _) (by omega)
  refine hl p hp fun a ha => ?_
  have hden : (c.den : Int) ∣ a := by
    have hca : (c.den : Int) ∣ c.num * a := by
      rcases coef_eqI e2.symm (List.mem_map.mpr ⟨a, ha, rfl⟩) with z | z
      · rw [z]; exact Int.dvd_zero _
      · obtain ⟨b, _, q⟩ := List.mem_map.mp z
        rw [← q]; exact Int.dvd_mul_right _ _
    have h1 : c.den ∣ c.num.natAbs * a.natAbs := by
      have := Int.natAbs_dvd_natAbs.mpr hca
      rwa [Int.natAbs_mul, Int.natAbs_natCast] at this
    exact Int.ofNat_dvd_left.mpr (c.reduced.symm.dvd_of_dvd_mul_left h1)
  exact Int.dvd_trans (Int.natCast_dvd_natCast.mpr hd) hden
theorem rat_int {c : Rat} (h : c.den = 1) : c = (c.num : Rat) := by
  have := mul_den c
  rw [h] at this
  rw [← this, show ((1 : Nat) : Rat) = 1 from rfl]; grind
/-- what is left of a whole one by a primitive one is whole -/
theorem dv_whole {l k : List Int} (hl : Pm l) {h : Po} (e : toI k = toI l * h) : ∃ m, h = toI m := by
  by_cases hz : h = 0
  · exact ⟨[], by rw [hz, toI_nil]⟩
  · obtain ⟨c, m, hc, hm, em⟩ := prim_ex hz
    obtain ⟨w, ew⟩ := ci_mul l m
    have hw := pm_mul hl hm ew.symm
    have := den_one hw (c := c) (m := k) (by rw [e, em, ← ew]; grind)
    refine ⟨m.map (c.num * ·), ?_⟩
    rw [em, ← ci_sc, ← rat_int this]
end PA
namespace PA

/-! ### values at whole numbers tell how large the coefficients are -/
def evI : List Int → Int → Int
  | [], _ => 0
  | a :: l, x => a + x * evI l x
theorem evI_v (l : List Int) (x : Int) : (toI l).1 (x : Rat) = (evI l x : Rat) := by
  induction l with
  | nil => rfl
  | cons a l ih =>
    rw [toI_cons, add_v, mul_v, X1_v, cst_v, ih, show evI (a :: l) x = a + x * evI l x from rfl, Rat.intCast_add, Rat.intCast_mul]
def synI (r : Int) : List Int → List Int × Int
  | [] => ([], 0)
  | [a] => ([], a)
  | a :: b :: l => ((synI r (b :: l)).2 :: (synI r (b :: l)).1, a + r * (synI r (b :: l)).2)
theorem synI_ev (r : Int) (l : List Int) (x : Int) : evI l x = evI (synI r l).1 x * (x - r) + (synI r l).2 := by
  fun_induction synI r l with
  | case1 => simp [evI]
  | case2 a => simp [evI]
  | case3 a b l ih => rw [evI, ih]; simp only [evI]; grind
theorem synI_len (r : Int) (l : List Int) : (synI r l).1.length = l.length - 1 := by
  fun_induction synI r l with
  | case1 => rfl
  | case2 a => rfl
  | case3 a b l ih => simp only [List.length_cons] at ih ⊢; omega
theorem synI_coef (r M : Nat) (l : List Int) : (∀ c ∈ (synI r l).1, c.natAbs ≤ M) → (synI r l).2.natAbs ≤ M → ∀ c ∈ l, c.natAbs ≤ (r + 1) * M := by
  have big : M ≤ (r + 1) * M := by rw [Nat.add_mul]; omega
  fun_induction synI (r : Int) l with
  | case1 => intro _ _ c hc; cases hc
  | case2 a =>
    intro _ h c hc
    rw [List.mem_singleton] at hc
    subst hc
    omega
  | case3 a b l ih =>
    intro hq hr c hc
    have hs := hq _ List.mem_cons_self
    rcases List.mem_cons.mp hc with rfl | hc
    · have e : c = (c + (r : Int) * (synI r (b :: l)).2) - (r : Int) * (synI r (b :: l)).2 := by omega
      have k : ((r : Int) * (synI r (b :: l)).2).natAbs ≤ r * M := by
        rw [Int.natAbs_mul, Int.natAbs_natCast]; exact Nat.mul_le_mul_left _ hs
      have e2 : (r + 1) * M = r * M + M := by rw [Nat.add_mul]; omega
      omega
    · exact ih (fun c h => hq c (List.mem_cons_of_mem _ h)) hs c hc
def KK : Nat → Nat → Nat
  | 0, _ => 1
  | n + 1, m => 2 * (m + 1) * KK n (m + 1)
theorem KK_pos : ∀ n m, 1 ≤ KK n m
  | 0, _ => Nat.le_refl _
  | n + 1, m => by
    unfold KK
    exact Nat.mul_pos (by omega) (KK_pos n (m + 1))
theorem interp : ∀ (n : Nat) (l : List Int) (m V : Nat), l.length ≤ n + 1 → (∀ i : Nat, i ≤ n → (evI l (m + i : Nat)).natAbs ≤ V) → ∀ c ∈ l, c.natAbs ≤ KK n m * V
  | _, [], m, V, _, _ => fun c hc => nomatch hc
  | n, [a], m, V, _, h => fun c hc => by
    rw [List.mem_singleton] at hc
    subst hc
    have := h 0 (by omega)
    simp only [evI, Int.mul_zero, Int.add_zero] at this
    exact Nat.le_trans this (Nat.le_mul_of_pos_left _ (KK_pos n m))
  | 0, a :: b :: l, m, V, hl, _ => by simp at hl
  | n + 1, a :: b :: l, m, V, hl, h => by
    have e := synI_ev m (a :: b :: l)
    have hr : (synI m (a :: b :: l)).2.natAbs ≤ V := by
      have e1 := e m
      have := h 0 (by omega)
      rw [show m + 0 = m from rfl, e1, Int.sub_self, Int.mul_zero, Int.zero_add] at this
      exact this
    have hq := interp n (synI m (a :: b :: l)).1 (m + 1) (2 * V) (by rw [synI_len]; simp only [List.length_cons] at hl ⊢; omega) fun i hi => by
      have e1 := e (m + 1 + i : Nat)
      have h1 := h (i + 1) (by omega)
      rw [show m + (i + 1) = m + 1 + i by omega, e1] at h1
      have e2 : (((m + 1 + i : Nat)) : Int) - (m : Int) = ((i + 1 : Nat) : Int) := by omega
      rw [e2] at h1
      have h2 : (evI (synI m (a :: b :: l)).1 ((m + 1 + i : Nat) : Int) * ((i + 1 : Nat) : Int)).natAbs ≤ 2 * V := by omega
      rw [Int.natAbs_mul, Int.natAbs_natCast] at h2
      exact Nat.le_trans (Nat.le_mul_of_pos_right _ (by omega)) h2
    have hM : V ≤ KK n (m + 1) * (2 * V) := Nat.le_trans (by omega) (Nat.le_mul_of_pos_left _ (KK_pos n (m + 1)))
    intro c hc
    have := synI_coef m _ _ hq (Nat.le_trans hr hM) c hc
    refine Nat.le_trans this ?_
    rw [show KK (n + 1) m * V = (m + 1) * (KK n (m + 1) * (2 * V)) by rw [show KK (n + 1) m = 2 * (m + 1) * KK n (m + 1) from rfl]; grind]
    exact Nat.le_refl _

/-! ### common denominators -/
def Hl (d B : Nat) (l : List Rat) : Prop := ∀ c ∈ l, ∃ n : Int, c * (d : Rat) = (n : Rat) ∧ n.natAbs ≤ B
def Ht (d B : Nat) (f : Po) : Prop := 0 < d ∧ Hl d B (lst f)
theorem natr {d : Nat} (h : 0 < d) : (d : Rat) ≠ 0 := fun z => by
  have := Rat.natCast_inj.mp (show ((d : Nat) : Rat) = ((0 : Nat) : Rat) from z)
  omega
theorem Ht.of {d B : Nat} {f : Po} {l : List Rat} (hd : 0 < d) (h : Hl d B l) (e : f = toPo l) : Ht d B f := ⟨hd, fun c hc => by
  have e2 : toPo (lst f) = toPo l := by rw [toPo_lst, e]
  rcases coef_eq e2 hc with z | z
  · exact ⟨0, by rw [z]; grind, by simp⟩
  · exact h c z⟩
theorem Hl.mono {d B B' : Nat} {l : List Rat} (h : Hl d B l) (k : B ≤ B') : Hl d B' l := fun c hc => let ⟨n, e, b⟩ := h c hc; ⟨n, e, Nat.le_trans b k⟩
theorem Ht.mono {d B B' : Nat} {f : Po} (h : Ht d B f) (k : B ≤ B') : Ht d B' f := ⟨h.1, h.2.mono k⟩
theorem Hl.nil {d B : Nat} : Hl d B [] := fun c hc => nomatch hc
theorem Hl.cons {d B : Nat} {a : Rat} {l : List Rat} (h : ∃ n : Int, a * (d : Rat) = (n : Rat) ∧ n.natAbs ≤ B) (k : Hl d B l) : Hl d B (a :: l) := fun c hc => by
  rcases List.mem_cons.mp hc with rfl | hc
  · exact h
  · exact k c hc
theorem Hl.head {d B : Nat} {a : Rat} {l : List Rat} (h : Hl d B (a :: l)) : ∃ n : Int, a * (d : Rat) = (n : Rat) ∧ n.natAbs ≤ B := h a List.mem_cons_self
theorem Hl.tail {d B : Nat} {a : Rat} {l : List Rat} (h : Hl d B (a :: l)) : Hl d B l := fun c hc => h c (List.mem_cons_of_mem _ hc)
theorem hl_zero {d B : Nat} : ∃ n : Int, (0 : Rat) * (d : Rat) = (n : Rat) ∧ n.natAbs ≤ B := ⟨0, by grind, by simp⟩
theorem Hl.add {d A B : Nat} {l m : List Rat} (h : Hl d A l) (k : Hl d B m) : Hl d (A + B) (ladd l m) := by
  fun_induction ladd l m with
  | case1 m => exact k.mono (by omega)
  | case2 a l => exact h.mono (by omega)
  | case3 a l b m ih =>
    obtain ⟨n, e, bn⟩ := h.head
    obtain ⟨n', e', bn'⟩ := k.head
    refine Hl.cons ⟨n + n', ?_, ?_⟩ (ih h.tail k.tail)
    · rw [Rat.intCast_add, ← e, ← e']; grind
    · omega
theorem Hl.up {d B : Nat} {l : List Rat} (h : Hl d B l) (e : Nat) : Hl (d * e) (B * e) l := fun c hc => by
  obtain ⟨n, q, b⟩ := h c hc
  refine ⟨n * e, ?_, ?_⟩
  · rw [Rat.natCast_mul, Rat.intCast_mul, ← q, show (((e : Nat) : Int) : Rat) = (e : Rat) from rfl]; grind
  · rw [Int.natAbs_mul, Int.natAbs_natCast]; exact Nat.mul_le_mul_right _ b
theorem Hl.sc {d e A B : Nat} {c : Rat} {l : List Rat} (h : Hl d B l) (hc : ∃ n : Int, c * (e : Rat) = (n : Rat) ∧ n.natAbs ≤ A) : Hl (e * d) (A * B) (lsc c l) := fun x hx => by
  obtain ⟨a, ha, rfl⟩ := List.mem_map.mp hx
  obtain ⟨n, q, b⟩ := h a ha
  obtain ⟨n', q', b'⟩ := hc
  refine ⟨n' * n, ?_, ?_⟩
  · rw [Rat.natCast_mul, Rat.intCast_mul, ← q, ← q']; grind
  · rw [Int.natAbs_mul]; exact Nat.mul_le_mul b' b
theorem Hl.mul {d e A B : Nat} {l m : List Rat} (h : Hl d A l) (k : Hl e B m) : Hl (d * e) (l.length * (A * B)) (lmul l m) := by
  induction l with
  | nil => exact Hl.nil
  | cons a l ih =>
    have h1 := k.sc h.head
    have h2 : Hl (d * e) (l.length * (A * B)) (0 :: lmul l m) := Hl.cons hl_zero (ih h.tail)
    have := h1.add h2
    rw [List.length_cons, Nat.add_mul, Nat.one_mul, Nat.add_comm]
    exact this
theorem Ht.mul {d e A B : Nat} {f g : Po} (h : Ht d A f) (k : Ht e B g) : Ht (d * e) (dg f * (A * B)) (f * g) :=
  Ht.of (Nat.mul_pos h.1 k.1) (h.2.mul k.2) (Po.ext fun x => by rw [mul_v, toPo_v, ev_lmul, ev_lst, ev_lst])
theorem Ht.mul' {d e A B : Nat} {f g : Po} (h : Ht d A f) (k : Ht e B g) : Ht (d * e) (dg g * (A * B)) (f * g) := by
  have := k.mul h
  rw [show f * g = g * f by grind, Nat.mul_comm d e, Nat.mul_comm A B]; exact this
theorem Ht.add {d A B : Nat} {f g : Po} (h : Ht d A f) (k : Ht d B g) : Ht d (A + B) (f + g) :=
  Ht.of h.1 (h.2.add k.2) (Po.ext fun x => by rw [add_v, toPo_v, ev_ladd, ev_lst, ev_lst])
theorem Ht.up {d B : Nat} {f : Po} (h : Ht d B f) {e : Nat} (he : 0 < e) : Ht (d * e) (B * e) f := ⟨Nat.mul_pos h.1 he, h.2.up e⟩
theorem Hl.der {d B : Nat} : ∀ {l : List Rat}, Hl d B l → ∀ n, l.length ≤ n → Hl d (n * B) (der l)
  | [], _, _, _ => Hl.nil
  | [_], _, _, _ => Hl.nil
  | a :: b :: l, h, 0, hn => by simp at hn
  | a :: b :: l, h, n + 1, hn => by
    have ih := Hl.der (l := b :: l) h.tail n (by simp only [List.length_cons] at hn ⊢; omega)
    have := h.tail.add (Hl.cons (a := 0) hl_zero ih)
    unfold PA.der
    rw [Nat.add_mul, Nat.one_mul, Nat.add_comm]; exact this
theorem Ht.D {d B : Nat} {f : Po} (h : Ht d B f) {n : Nat} (hn : dg f ≤ n) : Ht d (n * B) (D f) := Ht.of h.1 (h.2.der n hn) rfl
theorem lc_mem {f : Po} (h : f ≠ 0) : lc f ∈ lst f := by
  obtain ⟨l, e, _⟩ := split_lst h
  rw [e]
  simp
theorem Ht.mon {d B : Nat} {f : Po} (h : Ht d B f) (hf : f ≠ 0) : ∃ e, e ≤ B ∧ Ht e B (mon f) := by
  obtain ⟨n, q, b⟩ := h.2 _ (lc_mem hf)
  have c := lc_ne hf
  have hd := natr h.1
  have hn : n ≠ 0 := fun z => by
    rw [z, show ((0 : Int) : Rat) = 0 from rfl] at q
    grind
  have hn' : (n : Rat) ≠ 0 := fun z => hn (Rat.intCast_inj.mp (show (n : Rat) = ((0 : Int) : Rat) from z))
  refine ⟨n.natAbs, b, Ht.of (l := lsc (1 / lc f) (lst f)) (by omega) (fun x hx => ?_) (Po.ext fun x => by unfold PA.mon; rw [mul_v, cst_v, toPo_v, ev_lsc, ev_lst])⟩
  obtain ⟨a, ha, rfl⟩ := List.mem_map.mp hx
  obtain ⟨m, e, bm⟩ := h.2 a ha
  have key : (1 / lc f * a) * (n : Rat) = (m : Rat) := by rw [← q, ← e]; grind
  rcases Int.natAbs_eq n with s | s
  · refine ⟨m, ?_, bm⟩
    have : ((n.natAbs : Nat) : Rat) = (n : Rat) := by
      have : (((n.natAbs : Nat) : Int) : Rat) = (n : Rat) := by rw [← s]
      exact this
    rw [this, key]
  · refine ⟨-m, ?_, by rw [Int.natAbs_neg]; exact bm⟩
    have : ((n.natAbs : Nat) : Rat) = -(n : Rat) := by
      have : (((n.natAbs : Nat) : Int) : Rat) = -(n : Rat) := by rw [← Rat.intCast_neg]; congr 1; omega
      exact this
    rw [this, Rat.intCast_neg, ← key]; grind
/-- how large numerator and denominator are -/
theorem small {d B : Nat} {c : Rat} (hd : 0 < d) (h : ∃ n : Int, c * (d : Rat) = (n : Rat) ∧ n.natAbs ≤ B) : c.num.natAbs ≤ B ∧ c.den ≤ d := by
  obtain ⟨n, e, b⟩ := h
  have k : c.num * (d : Int) = n * (c.den : Int) := by
    have m := mul_den c
    apply Rat.intCast_inj.mp
    rw [Rat.intCast_mul, Rat.intCast_mul, ← e, ← m]
    show c * (c.den : Rat) * (d : Rat) = c * (d : Rat) * (c.den : Rat)
    grind
  have k' : c.num.natAbs * d = n.natAbs * c.den := by
    have := congrArg Int.natAbs k
    rwa [Int.natAbs_mul, Int.natAbs_mul, Int.natAbs_natCast, Int.natAbs_natCast] at this
  have dv : c.den ∣ d := c.reduced.symm.dvd_of_dvd_mul_left (by rw [k']; exact Nat.dvd_mul_left _ _)
  have le := Nat.le_of_dvd hd dv
  refine ⟨?_, le⟩
  have : c.num.natAbs * d ≤ n.natAbs * d := by rw [k']; exact Nat.mul_le_mul_left _ le
  exact Nat.le_trans (Nat.le_of_mul_le_mul_right this hd) b
theorem trimI (l : List Int) : ∃ m, trim (ci l) = ci m := by
  induction l with
  | nil => exact ⟨[], rfl⟩
  | cons a l ih =>
    obtain ⟨m, e⟩ := ih
    have : ci (a :: l) = (a : Rat) :: ci l := rfl
    rw [this, trim_cons]
    split
    · exact ⟨[], rfl⟩
    · exact ⟨a :: m, by rw [e]; rfl⟩
/-- .. of a divisor that is 1 at the top -/
theorem fine {g P : Po} {N : Int} {k : List Int} {m n V : Nat} (hg : lc g = 1) (d : Dv g P) (hP : cst (N : Rat) * P = toI k)
    (hv : ∀ i : Nat, i ≤ n → 1 ≤ (evI k (m + i : Nat)).natAbs ∧ (evI k (m + i : Nat)).natAbs ≤ V) (hn : dg g ≤ n + 1) : ∃ e, e ≤ KK n m * V ∧ Ht e (KK n m * V) g := by
  have g0 := lc1_ne hg
  obtain ⟨c, G', hc, pm', eg'⟩ := prim_ex g0
  obtain ⟨G, eG⟩ := trimI G'
  have eGt : toI G = toI G' := by
    refine Po.ext fun x => ?_
    show ev (ci G) x = ev (ci G') x
    rw [← eG, trim_ev]
  have pm : Pm G := fun p hp h => pm' p hp (h.eq eGt.symm)
  have eg : g = cst c * toI G := by rw [eGt]; exact eg'
  have GT : Tr (ci G) := by rw [← eG]; exact tr_trim _
  have lG : lst (toI G) = ci G := by unfold toI; rw [lst_toPo, GT]
  have G0 : toI G ≠ 0 := fun z => g0 (by rw [eg, z]; grind)
  have t := mul_top (cst_ne hc) G0
  rw [← eg, (dg_cst hc).1, (dg_cst hc).2, hg] at t
  have hlen : G.length ≤ n + 1 := by
    have : dg (toI G) = G.length := by unfold dg; rw [lG, ci, List.length_map]
    omega
  obtain ⟨h, eh⟩ := d
  obtain ⟨H, eH⟩ := dv_whole pm (k := k) (h := cst (N * c) * h) (by rw [← hP, eh, eg, cst_mul]; grind)
  have ek : toI k = toI G * toI H := by rw [← eH, ← hP, eh, eg, cst_mul]; grind
  have vals : ∀ x : Int, evI k x = evI G x * evI H x := fun x => by
    apply Rat.intCast_inj.mp
    rw [Rat.intCast_mul, ← evI_v, ← evI_v, ← evI_v, ek, mul_v]
  have bG := interp n G m V hlen fun i hi => by
    have h1 := hv i hi
    rw [vals, Int.natAbs_mul] at h1
    have hH : 0 < (evI H (m + i : Nat)).natAbs := Nat.pos_of_ne_zero fun z => by
      rw [z, Nat.mul_zero] at h1; omega
    exact Nat.le_trans (Nat.le_mul_of_pos_right _ hH) h1.2
  have hGt : Ht 1 (KK n m * V) (toI G) := ⟨by omega, fun c hc => by
    rw [lG] at hc
    obtain ⟨a, ha, rfl⟩ := List.mem_map.mp hc
    exact ⟨a, by rw [show ((1 : Nat) : Rat) = 1 from rfl]; grind, bG a ha⟩⟩
  have em : PA.mon (toI G) = g := by
    unfold PA.mon
    rw [eg]
    congr 2
    have := lc_ne G0
    grind
  rw [← em]
  exact hGt.mon G0
end PA
namespace K41
open PySem L2 ML

/-! ### fractions -/
def q (r : Rat) : MV := .tup [.int r.num, .int r.den]
theorem common_ok (b : Nat) : ∀ a : Nat, f_common [.int a, .int b] = some (.int (Nat.gcd a b)) := by
  have key : ∀ b a : Nat, dWhile (dTruV 1) (dPar 0 1 (dVal (dVar 1)) (dVal (d2 modM (dVar 0) (dVar 1)))) [.val (.int a), .val (.int b)] = some (.nx, [.val (.int (Nat.gcd a b)), .val (.int 0)]) := by
    intro b
    induction b using Nat.strongRecOn with
    | _ b ih =>
      intro a
      rw [dWhile_step]
      by_cases hb : b = 0
      · subst hb
        simp
      · have h1 : (0 : Int) < (b : Int) := by omega
        have h2 : ((b : Int) != 0) = true := by simp; omega
        have h3 : modM (.int a) (.int b) = some (.int (a % b : Nat)) := by rw [modM_i h1]; rfl
        have e := ih (a % b) (Nat.mod_lt _ (by omega)) b
        have g : Nat.gcd a b = Nat.gcd b (a % b) := by rw [Nat.gcd_comm a b, Nat.gcd_rec b a, Nat.gcd_comm]
        simp only [Int.natCast_emod] at e h3
        simp [h2, h3, e, g]
  intro a
  simp [f_common, fnP, env0, key]

theorem log2_lt {n k : Nat} (h : n < 2 ^ k) (hk : 0 < k) : n.log2 < k := by
  by_cases z : n = 0
  · subst z; simpa using hk
  · exact (Nat.log2_lt z).mpr h
/-- numerator and denominator below 2 to the power b -/
def Bd (b : Nat) (r : Rat) : Prop := r.num.natAbs < 2 ^ b ∧ r.den < 2 ^ b
theorem least_ok {t : Int} {l : Nat} (hl : 0 < l) (hb : l < 2 ^ 9000) : f_least_terms [.int t, .int l] = some (q (mkRat t l)) := by
  have g1 : 0 < Nat.gcd t.natAbs l := Nat.gcd_pos_of_pos_right _ hl
  have g2 : Nat.gcd t.natAbs l ≤ l := Nat.le_of_dvd hl (Nat.gcd_dvd_right _ _)
  have g3 : (Nat.gcd t.natAbs l).log2 < 9000 := log2_lt (Nat.lt_of_le_of_lt g2 hb) (by omega)
  have e1 : ∀ i : Int, fdivM (.int i) (.int (Nat.gcd t.natAbs l : Nat)) = some (.int (i / (Nat.gcd t.natAbs l : Nat))) := fun i => fdivM_i (by omega) (by simpa using g3)
  have e2 : q (mkRat t l) = .tup [.int (t / (Nat.gcd t.natAbs l : Nat)), .int ((l : Int) / (Nat.gcd t.natAbs l : Nat))] := by
    unfold q
    rw [Rat.num_mkRat, Rat.den_mkRat, if_neg (by omega), if_neg (by omega), Nat.gcd_comm]
    rfl
  rw [e2]
  simp [f_least_terms, fnP, env0, common_ok, e1, lenOk_of]
theorem mulB {a b : Nat} {i j : Int} (hi : i.natAbs < 2 ^ a) (hj : j.natAbs < 2 ^ b) (h : a + b < 400000) : mulM (.int i) (.int j) = some (.int (i * j)) := by
  refine mulM_i ?_
  have h1 : i.natAbs.log2 ≤ a := by
    by_cases z : a = 0
    · subst z
      have : i.natAbs = 0 := by omega
      rw [this]; simp
    · exact Nat.le_of_lt (log2_lt hi (by omega))
  have h2 : j.natAbs.log2 ≤ b := by
    by_cases z : b = 0
    · subst z
      have : j.natAbs = 0 := by omega
      rw [this]; simp
    · exact Nat.le_of_lt (log2_lt hj (by omega))
  omega
theorem den_lt {a b : Nat} {r s : Rat} (hr : r.den < 2 ^ a) (hs : s.den < 2 ^ b) (h : a + b ≤ 9000) : 0 < r.den * s.den ∧ r.den * s.den < 2 ^ 9000 := by
  refine ⟨Nat.mul_pos r.den_pos s.den_pos, ?_⟩
  have h1 : r.den * s.den < 2 ^ a * 2 ^ b := Nat.mul_lt_mul'' hr hs
  rw [← Nat.pow_add] at h1
  exact Nat.lt_of_lt_of_le h1 (Nat.pow_le_pow_right (by omega) h)
section
variable {a b : Nat} {r s : Rat}
theorem add_ok (hr : Bd a r) (hs : Bd b s) (h : a + b ≤ 9000) : f_add [q r, q s] = some (q (r + s)) := by
  have e1 := mulB (i := r.num) (j := (s.den : Int)) hr.1 hs.2 (by omega)
  have e2 := mulB (i := s.num) (j := (r.den : Int)) hs.1 hr.2 (by omega)
  have e3 := mulB (i := (r.den : Int)) (j := (s.den : Int)) hr.2 hs.2 (by omega)
  have d := den_lt hr.2 hs.2 h
  have l := least_ok (t := r.num * s.den + s.num * r.den) d.1 d.2
  rw [Rat.add_def', ← l]
  simp [f_add, fnP, env0, q, e1, e2, e3]
  rw [show ((r.den : Int) * (s.den : Int)) = ((r.den * s.den : Nat) : Int) by simp]
  rw [l]; rfl
theorem less_ok (hr : Bd a r) (hs : Bd b s) (h : a + b ≤ 9000) : f_less [q r, q s] = some (q (r - s)) := by
  have e1 := mulB (i := r.num) (j := (s.den : Int)) hr.1 hs.2 (by omega)
  have e2 := mulB (i := s.num) (j := (r.den : Int)) hs.1 hr.2 (by omega)
  have e3 := mulB (i := (r.den : Int)) (j := (s.den : Int)) hr.2 hs.2 (by omega)
  have d := den_lt hr.2 hs.2 h
  have l := least_ok (t := r.num * s.den - s.num * r.den) d.1 d.2
  rw [Rat.sub_def', ← l]
  simp [f_less, fnP, env0, q, e1, e2, e3]
  rw [show ((r.den : Int) * (s.den : Int)) = ((r.den * s.den : Nat) : Int) by simp]
  rw [l]; rfl
theorem times_ok (hr : Bd a r) (hs : Bd b s) (h : a + b ≤ 9000) : f_times [q r, q s] = some (q (r * s)) := by
  have e1 := mulB (i := r.num) (j := s.num) hr.1 hs.1 (by omega)
  have e3 := mulB (i := (r.den : Int)) (j := (s.den : Int)) hr.2 hs.2 (by omega)
  have d := den_lt hr.2 hs.2 h
  have l := least_ok (t := r.num * s.num) d.1 d.2
  rw [Rat.mul_def', ← l]
  simp [f_times, fnP, env0, q, e1, e3]
  rw [show ((r.den : Int) * (s.den : Int)) = ((r.den * s.den : Nat) : Int) by simp]
  rw [l]; rfl
end
end K41
namespace ML
/-! ### loops -/
theorem forM_inv {g : DG} {b : DS} (I : Nat → MEnv → Prop) {ms : List MV} {ρ : MEnv} (h0 : I 0 ρ)
    (h : ∀ (i : Nat) (m : MV) (ρ : MEnv), ms[i]? = some m → I i ρ → ∃ ρ1 ρ2, g m ρ = some ρ1 ∧ b ρ1 = some (.nx, ρ2) ∧ I (i + 1) ρ2) : ∃ ρ', forM g b ms ρ = some (.nx, ρ') ∧ I ms.length ρ' := by
  have key : ∀ (ns : List MV) (k : Nat) (ρ : MEnv), (∀ i, ns[i]? = ms[k + i]?) → k + ns.length = ms.length → I k ρ → ∃ ρ', forM g b ns ρ = some (.nx, ρ') ∧ I ms.length ρ' := by
    intro ns
    induction ns with
    | nil => intro k ρ _ hl hI; exact ⟨ρ, rfl, by rw [← hl]; exact hI⟩
    | cons m ns ih =>
      intro k ρ he hl hI
      obtain ⟨ρ1, ρ2, e1, e2, hI2⟩ := h k m ρ (by have := he 0; simpa using this.symm) hI
      obtain ⟨ρ', e3, hI3⟩ := ih (k + 1) ρ2 (fun i => by have := he (i + 1); rw [show k + (i + 1) = k + 1 + i by omega] at this; simpa using this) (by simp only [List.length_cons] at hl; omega) hI2
      refine ⟨ρ', ?_, hI3⟩
      rw [forM_cons, e1]
      simp only [Option.bind_some, e2, e3]
  exact key ms 0 ρ (fun i => by rw [Nat.zero_add]) (by simp) h0
theorem lcM_zip {vs : List Nat} {g : DG} {t : DT} {e : DE} {ρ : MEnv} : ∀ (ms os acc : List MV), ms.length = os.length → acc.length + ms.length ≤ 100000 →
    (∀ (i : Nat) (m o : MV), ms[i]? = some m → os[i]? = some o → ∃ ρ1 ρ2 ρ3, g m ρ = some ρ1 ∧ t ρ1 = some (true, ρ2) ∧ e ρ2 = some (o, ρ3) ∧ wipeM ρ3 vs = ρ) → lcM vs g t e ms acc ρ = some (acc ++ os, ρ)
  | [], [], acc, _, _, _ => by simp [lcM]
  | [], o :: os, acc, hl, _, _ => by simp at hl
  | m :: ms, [], acc, hl, _, _ => by simp at hl
  | m :: ms, o :: os, acc, hl, hn, h => by
    obtain ⟨ρ1, ρ2, ρ3, e1, e2, e3, e4⟩ := h 0 m o rfl rfl
    simp only [List.length_cons] at hl hn
    have ih := lcM_zip ms os (acc ++ [o]) (by omega) (by simp; omega) fun i m o h1 h2 => h (i + 1) m o (by simpa using h1) (by simpa using h2)
    unfold lcM
    simp only [e1, e2, e3, e4, Option.bind_some, if_true, lenOk_of (show acc.length + 1 ≤ 100000 by omega)]
    rw [ih]
    simp
theorem enumM_get : ∀ (ms : List MV) (n i : Nat), (enumM n ms)[i]? = (ms[i]?).map fun m => .tup [.int ((n + i : Nat)), m]
  | [], n, i => by simp [enumM]
  | m :: ms, n, 0 => by simp [enumM]
  | m :: ms, n, i + 1 => by
    unfold enumM
    rw [List.getElem?_cons_succ, List.getElem?_cons_succ, enumM_get ms (n + 1) i, show n + 1 + i = n + (i + 1) by omega]
theorem enumM_len : ∀ (ms : List MV) (n : Nat), (enumM n ms).length = ms.length
  | [], n => rfl
  | m :: ms, n => by simp [enumM, enumM_len ms (n + 1)]
@[simp] theorem enumF_t (ms : List MV) : enumF [.tup ms] = some (enumM 0 ms) := rfl
@[simp] theorem enumF_l (ms : List MV) : enumF [.lst ms] = some (enumM 0 ms) := rfl
theorem rng1F_i {j : Int} (h : j < 2 ^ 62) (h' : -(2 ^ 62) ≤ j) : rng1F [.int j] = some (rng 0 j.toNat) := if_pos ⟨h, h'⟩
end ML
namespace K41
open PySem L2 ML PA
section
variable {a b : Nat} {r s : Rat}
theorem natR {d : Nat} (h : d ≠ 0) : (d : Rat) ≠ 0 := natr (by omega)
theorem intR {d : Int} (h : d ≠ 0) : (d : Rat) ≠ 0 := fun z => h (Rat.intCast_inj.mp (show (d : Rat) = ((0 : Int) : Rat) from z))
theorem num_ne (h : s ≠ 0) : s.num ≠ 0 := fun z => h (Rat.num_eq_zero.mp z)
theorem by_ok (hr : Bd a r) (hs : Bd b s) (h : a + b ≤ 9000) (h0 : s ≠ 0) : f_by [q r, q s] = some (q (r / s)) := by
  have hn := num_ne h0
  have hd : 0 < r.den * s.num.natAbs ∧ r.den * s.num.natAbs < 2 ^ 9000 := by
    refine ⟨Nat.mul_pos r.den_pos (by omega), ?_⟩
    have h1 : r.den * s.num.natAbs < 2 ^ a * 2 ^ b := Nat.mul_lt_mul'' hr.2 hs.1
    rw [← Nat.pow_add] at h1
    exact Nat.lt_of_lt_of_le h1 (Nat.pow_le_pow_right (by omega) h)
  have hval : ∀ g : Int, (g = 1 ∨ g = -1) → (s.num.natAbs : Int) = g * s.num → mkRat (g * r.num * s.den) (r.den * s.num.natAbs) = r / s := by
    intro g hg e
    rw [Rat.mkRat_eq_div]
    have d1 := mul_den r
    have d2 := mul_den s
    have n1 := natR r.den_nz
    have n2 := natR s.den_nz
    have n3 := intR hn
    have e' : ((s.num.natAbs : Nat) : Rat) = (g : Rat) * (s.num : Rat) := by
      rw [← Rat.intCast_mul, ← e]; rfl
    have n4 : (g : Rat) ≠ 0 := intR (by omega)
    rw [Rat.natCast_mul, e', Rat.intCast_mul, Rat.intCast_mul, ← d1, ← d2]
    rw [show (((s.den : Nat) : Int) : Rat) = (s.den : Rat) from rfl]
    rw [← d2] at n3
    grind
  have m1 : ∀ g : Int, (g = 1 ∨ g = -1) → mulM (.int g) (.int r.num) = some (.int (g * r.num)) := fun g hg => mulB (a := 1) (b := a) (by rcases hg with rfl | rfl <;> decide) hr.1 (by omega)
  have m2 : ∀ g : Int, (g = 1 ∨ g = -1) → mulM (.int (g * r.num)) (.int (s.den : Int)) = some (.int (g * r.num * s.den)) := fun g hg => mulB (a := a) (b := b) (by rw [Int.natAbs_mul]; rcases hg with rfl | rfl <;> simpa using hr.1) (by simpa using hs.2) (by omega)
  have m3 := mulB (i := (r.den : Int)) (j := (s.num.natAbs : Int)) (a := a) (b := b) hr.2 (by simpa using hs.1) (by omega)
  by_cases hp : 0 < s.num
  · have hv := hval 1 (.inl rfl) (by omega)
    have l := least_ok (t := 1 * r.num * s.den) hd.1 hd.2
    have m1 := m1 1 (.inl rfl)
    have m2 := m2 1 (.inl rfl)
    rw [← hv, ← l]
    simp only [Int.one_mul] at l m1 m2
    simp [f_by, fnP, env0, q, hp, m1, m2, m3]
    rw [show ((r.den : Int) * (s.num.natAbs : Int)) = ((r.den * s.num.natAbs : Nat) : Int) by simp]
    rw [l]; rfl
  · have hv := hval (-1) (.inr rfl) (by omega)
    have l := least_ok (t := -1 * r.num * s.den) hd.1 hd.2
    have m1 := m1 (-1) (.inr rfl)
    have m2 := m2 (-1) (.inr rfl)
    rw [← hv, ← l]
    rw [show -1 * r.num = -r.num by omega] at l m1 m2 ⊢
    simp [f_by, fnP, env0, q, hp, m1, m2, m3]
    rw [show ((r.den : Int) * (s.num.natAbs : Int)) = ((r.den * s.num.natAbs : Nat) : Int) by simp]
    rw [l]; rfl
theorem is_fraction_ok (r : Rat) : f_is_fraction [q r] = some (.bl true) := by
  have h1 := r.den_pos
  have h2 : Nat.gcd r.num.natAbs r.den = 1 := r.reduced
  have h3 := common_ok r.den r.num.natAbs
  rw [h2] at h3
  simp [f_is_fraction, fnP, env0, q, h3, h1]
end

/-! ### the law's own -/
theorem law_common_ok {b : Nat} (h : b < 2 ^ 9000) (a : Nat) : f__law_common [.int a, .int b] = some (.int (Nat.gcd a b)) := by
  have key : ∀ (j : Nat) (ms : List MV) (a b : Nat) (s : Sl), b < 2 ^ j → 2 * j + 1 ≤ ms.length →
      ∃ ρ', forM (gN 2) (dSeq (dIfS (dT blM (d2 eqvM (dVar 1) (dC (.int 0)))) (dRet (dVar 0)) dNx) (dPar 0 1 (dVal (dVar 1)) (dVal (d2 modM (dCall intF (dCons (dVar 0) dNil)) (dCall intF (dCons (dVar 1) dNil)))))) ms [.val (.int a), .val (.int b), s] = some (.rt (.int (Nat.gcd a b)), ρ') := by
    have done : ∀ (ms : List MV) (a : Nat) (s : Sl), 1 ≤ ms.length → ∃ ρ', forM (gN 2) (dSeq (dIfS (dT blM (d2 eqvM (dVar 1) (dC (.int 0)))) (dRet (dVar 0)) dNx) (dPar 0 1 (dVal (dVar 1)) (dVal (d2 modM (dCall intF (dCons (dVar 0) dNil)) (dCall intF (dCons (dVar 1) dNil)))))) ms [.val (.int a), .val (.int 0), s] = some (.rt (.int a), ρ') := by
      intro ms a s h
      cases ms with
      | nil => simp at h
      | cons m ms => rw [forM_cons]; simp
    have go : ∀ (m : MV) (ms : List MV) (a b : Nat) (s : Sl), b ≠ 0 → forM (gN 2) (dSeq (dIfS (dT blM (d2 eqvM (dVar 1) (dC (.int 0)))) (dRet (dVar 0)) dNx) (dPar 0 1 (dVal (dVar 1)) (dVal (d2 modM (dCall intF (dCons (dVar 0) dNil)) (dCall intF (dCons (dVar 1) dNil)))))) (m :: ms) [.val (.int a), .val (.int b), s] =
        forM (gN 2) (dSeq (dIfS (dT blM (d2 eqvM (dVar 1) (dC (.int 0)))) (dRet (dVar 0)) dNx) (dPar 0 1 (dVal (dVar 1)) (dVal (d2 modM (dCall intF (dCons (dVar 0) dNil)) (dCall intF (dCons (dVar 1) dNil)))))) ms [.val (.int b), .val (.int ((a % b : Nat))), .val m] := by
      intro m ms a b s h
      have h3 : modM (.int a) (.int b) = some (.int (a % b : Nat)) := by rw [modM_i (by omega)]; rfl
      rw [forM_cons]
      simp [h3, h]
    intro j
    induction j with
    | zero =>
      intro ms a b s hb hl
      have : b = 0 := by simpa using hb
      subst this
      have := done ms a s (by omega)
      simpa using this
    | succ j ih =>
      intro ms a b s hb hl
      by_cases h0 : b = 0
      · subst h0
        have := done ms a s (by omega)
        simpa using this
      · match ms, hl with
        | [_], hl => simp at hl
        | m :: n :: ms, hl =>
          rw [go m (n :: ms) a b s h0]
          by_cases h1 : a % b = 0
          · rw [h1]
            have g : Nat.gcd a b = b := by rw [Nat.gcd_comm, Nat.gcd_rec, h1, Nat.gcd_zero_left]
            rw [g]
            exact done (n :: ms) b _ (by simp)
          · rw [go n ms b (a % b) _ h1]
            have g : Nat.gcd a b = Nat.gcd (a % b) (b % (a % b)) := by
              rw [Nat.gcd_comm a b, Nat.gcd_rec b a, Nat.gcd_rec (a % b) b, Nat.gcd_comm]
            rw [g]
            refine ih ms (a % b) (b % (a % b)) _ ?_ (by simp only [List.length_cons] at hl; omega)
            have h2 := Nat.mod_lt b (show a % b > 0 by omega)
            have h4 := Nat.mod_lt a (show b > 0 by omega)
            rw [Nat.pow_succ] at hb
            by_cases h3 : a % b ≤ b / 2
            · omega
            · have : b % (a % b) = b - a % b := by
                rw [Nat.mod_eq_sub_mod (by omega), Nat.mod_eq_of_lt (by omega)]
              omega
  obtain ⟨ρ', e⟩ := key 9000 (rng 0 20000) a b .no h (by rw [rng_len]; omega)
  have r : rng1F [.int 20000] = some (rng 0 20000) := rng1F_i (by decide) (by decide)
  simp [f__law_common, fnP, env0, r, e]
theorem law_lowest_ok {t : Int} {l : Nat} (hl : 0 < l) (hb : l < 2 ^ 9000) : f__law_lowest [.int t, .int l] = some (q (mkRat t l)) := by
  have g1 : 0 < Nat.gcd t.natAbs l := Nat.gcd_pos_of_pos_right _ hl
  have g2 : Nat.gcd t.natAbs l ≤ l := Nat.le_of_dvd hl (Nat.gcd_dvd_right _ _)
  have g3 : (Nat.gcd t.natAbs l).log2 < 9000 := log2_lt (Nat.lt_of_le_of_lt g2 hb) (by omega)
  have e1 : ∀ i : Int, fdivM (.int i) (.int (Nat.gcd t.natAbs l : Nat)) = some (.int (i / (Nat.gcd t.natAbs l : Nat))) := fun i => fdivM_i (by omega) (by simpa using g3)
  have e2 : q (mkRat t l) = .tup [.int (t / (Nat.gcd t.natAbs l : Nat)), .int ((l : Int) / (Nat.gcd t.natAbs l : Nat))] := by
    unfold q
    rw [Rat.num_mkRat, Rat.den_mkRat, if_neg (by omega), if_neg (by omega), Nat.gcd_comm]
    rfl
  rw [e2]
  simp [f__law_lowest, fnP, env0, law_common_ok hb, e1, lenOk_of]
section
variable {a b : Nat} {r s : Rat}
theorem law_add_ok (hr : Bd a r) (hs : Bd b s) (h : a + b ≤ 9000) : f__law_add [q r, q s] = some (q (r + s)) := by
  have e1 := mulB (i := r.num) (j := (s.den : Int)) hr.1 hs.2 (by omega)
  have e2 := mulB (i := s.num) (j := (r.den : Int)) hs.1 hr.2 (by omega)
  have e3 := mulB (i := (r.den : Int)) (j := (s.den : Int)) hr.2 hs.2 (by omega)
  have d := den_lt hr.2 hs.2 h
  have l := law_lowest_ok (t := r.num * s.den + s.num * r.den) d.1 d.2
  rw [Rat.add_def', ← l]
  simp [f__law_add, fnP, env0, q, e1, e2, e3]
  rw [show ((r.den : Int) * (s.den : Int)) = ((r.den * s.den : Nat) : Int) by simp]
  rw [l]; rfl
theorem law_times_ok (hr : Bd a r) (hs : Bd b s) (h : a + b ≤ 9000) : f__law_times [q r, q s] = some (q (r * s)) := by
  have e1 := mulB (i := r.num) (j := s.num) hr.1 hs.1 (by omega)
  have e3 := mulB (i := (r.den : Int)) (j := (s.den : Int)) hr.2 hs.2 (by omega)
  have d := den_lt hr.2 hs.2 h
  have l := law_lowest_ok (t := r.num * s.num) d.1 d.2
  rw [Rat.mul_def', ← l]
  simp [f__law_times, fnP, env0, q, e1, e3]
  rw [show ((r.den : Int) * (s.den : Int)) = ((r.den * s.den : Nat) : Int) by simp]
  rw [l]; rfl
end
end K41
namespace PA
theorem trim_snoc0 (l : List Rat) : trim (l ++ [0]) = trim l := trim_eq fun x => by
  rw [ev_append]; simp only [ev]; grind
theorem trim_snoc {l : List Rat} {c : Rat} (h : c ≠ 0) : trim (l ++ [c]) = l ++ [c] := tr_of fun a ha => by
  rw [List.getLast?_append] at ha
  simp at ha
  subst ha; exact h
theorem trim_take (l : List Rat) : l.take (trim l).length = trim l := by
  induction l with
  | nil => rfl
  | cons a l ih =>
    rw [trim_cons]
    split
    · rfl
    · rw [List.length_cons, List.take_succ_cons, ih]
theorem take_snoc {l : List Rat} {e : Nat} {c : Rat} (h : l[e]? = some c) : l.take (e + 1) = l.take e ++ [c] := by
  rw [List.take_succ, h]; rfl
theorem ev_take {l : List Rat} {e : Nat} {c : Rat} (h : l[e]? = some c) (x : Rat) : ev (l.take (e + 1)) x = ev (l.take e) x + c * x ^ e := by
  have he : e < l.length := (List.getElem?_eq_some_iff.mp h).1
  rw [take_snoc h, ev_append, List.length_take, Nat.min_eq_left (by omega)]
  simp only [ev]; grind
end PA
namespace K41
open PySem L2 ML PA
noncomputable def pl (f : Po) : MV := .tup ((lst f).map q)
def tl (l : List Rat) : MV := .tup (l.map q)
@[simp] theorem ix_q0 (r : Rat) : ixM (q r) (.int 0) = some (.int r.num) := rfl
@[simp] theorem ix_q1 (r : Rat) : ixM (q r) (.int 1) = some (.int r.den) := rfl
@[simp] theorem seq_q (r : Rat) : seqM (q r) = some [.int r.num, .int r.den] := rfl
@[simp] theorem tup_q (r : Rat) : tupM (q r) = some (q r) := rfl
theorem q_zero : q 0 = .tup [.int 0, .int 1] := rfl
theorem num0 {c : Rat} : (c.num == 0) = decide (c = 0) := by
  by_cases h : c = 0
  · subst h; rfl
  · rw [decide_eq_false h]
    have : c.num ≠ 0 := fun z => h (Rat.num_eq_zero.mp z)
    simpa using this
theorem cutM_take (ms : List MV) {k : Nat} (h : k ≤ ms.length) : cutM ms none (some (k : Int)) = ms.take k := by
  unfold cutM
  rw [HT.sIx_none, HT.sIx_nat, Nat.min_eq_left h]; rfl
theorem trimmed_ok {m : MV} {l : List Rat} (hm : m = .tup (l.map q) ∨ m = .lst (l.map q)) (hl : l.length ≤ 50000) : f_trimmed [m] = some (pl (toPo l)) := by
  have hs : seqM m = some (l.map q) := by rcases hm with rfl | rfl <;> rfl
  have hn : lenM m = some (.int (l.length : Nat)) := by unfold lenM; rw [hs]; simp
  have w : ∀ e : Nat, e ≤ l.length → dWhile (dAnd (dTruV 1) (dT blM (d2 eqvM (d2 ixM (dIxV 0 (d2 subM (dVar 1) (dC (.int 1)))) (dC (.int 0))) (dC (.int 0))))) (dAug 1 subM (dC (.int 1))) [.val m, .val (.int e), .no] = some (.nx, [.val m, .val (.int ((trim (l.take e)).length : Nat)), .no]) := by
    intro e
    induction e with
    | zero => intro _; rw [dWhile_step]; simp [trim]
    | succ e ih =>
      intro he
      have hc : l[e]? = some l[e] := List.getElem?_eq_getElem (by omega)
      have hi : ixM m (.int ((e : Nat) : Int)) = some (q l[e]) := by
        rw [ixM_nat hs (by simp; omega), List.getElem?_map, hc]; rfl
      have h1 : (((e : Nat) : Int) + 1 != 0) = true := by simp; omega
      rw [dWhile_step, take_snoc hc]
      by_cases hz : l[e] = 0
      · have h2 : ((l[e]).num == 0) = true := by rw [num0]; simp [hz]
        have := ih (by omega)
        rw [hz, trim_snoc0]
        simp [h1, hi, h2, this]
      · have h2 : ((l[e]).num == 0) = false := by rw [num0]; simp [hz]
        rw [trim_snoc hz]
        have h3 : (l.take e ++ [l[e]]).length = e + 1 := by simp; omega
        rw [h3]
        simp [h1, hi, h2]
  have w := w l.length (Nat.le_refl _)
  rw [List.take_length] at w
  have htr := trim_len l
  have hsl : ∃ m', slM m none (some (((trim l).length : Nat) : Int)) = some m' ∧ seqM m' = some ((trim l).map q) := by
    have hc := cutM_take (l.map q) (k := (trim l).length) (by simpa using htr)
    rw [← List.map_take, trim_take] at hc
    rcases hm with rfl | rfl
    · exact ⟨.tup ((trim l).map q), by unfold slM; rw [← hc], rfl⟩
    · exact ⟨.lst ((trim l).map q), by unfold slM; rw [← hc], rfl⟩
  obtain ⟨m', hs1, hs2⟩ := hsl
  have hlc := lcM_zip (vs := [2]) (g := gN 2) (t := dYes) (e := dPeek tupM 2) (ρ := [.val m, .val (.int ((trim l).length : Nat)), .no]) ((trim l).map q) ((trim l).map q) [] rfl (by simp; omega) (by
    intro i x o h1 h2
    rw [h1] at h2
    cases h2
    rw [List.getElem?_map] at h1
    obtain ⟨c, _, rfl⟩ := Option.map_eq_some_iff.mp h1
    exact ⟨_, _, _, rfl, rfl, rfl, rfl⟩)
  unfold f_trimmed
  simp [fnP, env0, hn, w, hs1, hs2, hlc, pl, lst_toPo]
theorem len_pl (f : Po) : lenM (pl f) = some (.int (dg f : Nat)) := by
  unfold pl dg
  rw [lenM_t, List.length_map]
theorem seq_pl (f : Po) : seqM (pl f) = some ((lst f).map q) := rfl
theorem dg_le {f : Po} {b : Nat} (h : dg f ≤ b) : (lst f).length ≤ b := h
def Cl (b : Nat) (l : List Rat) : Prop := ∀ c ∈ l, Bd b c
def Hb (b : Nat) (f : Po) : Prop := ∃ d B, Ht d B f ∧ d < 2 ^ b ∧ B < 2 ^ b
theorem bd_of {d B b : Nat} {c : Rat} (hd : 0 < d) (h : ∃ n : Int, c * (d : Rat) = (n : Rat) ∧ n.natAbs ≤ B) (h1 : d < 2 ^ b) (h2 : B < 2 ^ b) : Bd b c := by
  have := small hd h
  exact ⟨by omega, by omega⟩
theorem Hb.cl {b : Nat} {f : Po} (h : Hb b f) : Cl b (lst f) := fun c hc => by
  obtain ⟨d, B, k, h1, h2⟩ := h
  exact bd_of k.1 (k.2 c hc) h1 h2
theorem bd0 {b : Nat} (h : 1 ≤ b) : Bd b 0 := ⟨by show 0 < _; exact Nat.two_pow_pos b, by show 1 < _; exact Nat.one_lt_two_pow (by omega)⟩
theorem Bd.mono {a b : Nat} {r : Rat} (h : Bd a r) (k : a ≤ b) : Bd b r := ⟨Nat.lt_of_lt_of_le h.1 (Nat.pow_le_pow_right (by omega) k), Nat.lt_of_lt_of_le h.2 (Nat.pow_le_pow_right (by omega) k)⟩
theorem Hb.mono {a b : Nat} {f : Po} (h : Hb a f) (k : a ≤ b) : Hb b f := by
  obtain ⟨d, B, k', h1, h2⟩ := h
  have := Nat.pow_le_pow_right (n := 2) (by omega) k
  exact ⟨d, B, k', by omega, by omega⟩
def pad (n : Nat) (l : List Rat) : List Rat := l ++ List.replicate (n - l.length) 0
theorem pad_len {n : Nat} {l : List Rat} (h : l.length ≤ n) : (pad n l).length = n := by simp [pad]; omega
theorem pad_ev (n : Nat) (l : List Rat) (x : Rat) : ev (pad n l) x = ev l x := by
  unfold pad; rw [ev_append, ev_zeros]; grind
theorem pad_cl {n b : Nat} {l : List Rat} (hb : 1 ≤ b) (h : Cl b l) : Cl b (pad n l) := fun c hc => by
  rcases List.mem_append.mp hc with k | k
  · exact h c k
  · rw [List.eq_of_mem_replicate k]; exact bd0 hb
theorem flat1 (n : Nat) (m : MV) : (List.replicate n [m]).flatten = List.replicate n m := by
  induction n with
  | zero => rfl
  | succ n ih => rw [List.replicate_succ, List.flatten_cons, ih]; rfl
theorem ev_zip {l m : List Rat} (h : l.length = m.length) (x : Rat) : ev (List.zipWith (· + ·) l m) x = ev l x + ev m x := by
  induction l generalizing m with
  | nil =>
    cases m with
    | nil => simp [ev]; grind
    | cons b m => simp at h
  | cons a l ih =>
    cases m with
    | nil => simp at h
    | cons b m =>
      simp only [List.zipWith_cons_cons, ev, ih (m := m) (by simpa using h)]; grind
theorem zipM_get : ∀ (ms ns : List MV) (i : Nat) (m n : MV), ms[i]? = some m → ns[i]? = some n → (zipM ms ns)[i]? = some (.tup [m, n])
  | [], ns, i, m, n, h, _ => by simp at h
  | a :: ms, [], i, m, n, _, h => by simp at h
  | a :: ms, b :: ns, 0, m, n, h, k => by
    simp at h k
    subst h k; rfl
  | a :: ms, b :: ns, i + 1, m, n, h, k => by
    unfold zipM
    rw [List.getElem?_cons_succ]
    exact zipM_get ms ns i m n (by simpa using h) (by simpa using k)
theorem zipM_len : ∀ (ms ns : List MV), ms.length = ns.length → (zipM ms ns).length = ms.length
  | [], [], _ => rfl
  | [], b :: ns, h => by simp at h
  | a :: ms, [], h => by simp at h
  | a :: ms, b :: ns, h => by simp [zipM, zipM_len ms ns (by simpa using h)]
theorem pad_map (n : Nat) (l : List Rat) : (pad n l).map q = l.map q ++ List.replicate (n - l.length) (.tup [.int 0, .int 1]) := by
  unfold pad
  rw [List.map_append, List.map_replicate, q_zero]
@[simp] theorem zipF_l (ms ns : List MV) : zipF [.lst ms, .lst ns] = some (zipM ms ns) := rfl
theorem plus_ok {f g : Po} {a b : Nat} (hf : Hb a f) (hg : Hb b g) (h : a + b ≤ 9000) (ha : 1 ≤ a) (hb : 1 ≤ b) (df : dg f ≤ 1000) (dg' : dg g ≤ 1000) : f_plus [pl f, pl g] = some (pl (f + g)) := by
  generalize hN : max (dg f) (dg g) = N
  have hN' : N ≤ 1000 := by omega
  have lf : (lst f).length ≤ N := by show dg f ≤ N; omega
  have lg : (lst g).length ≤ N := by show dg g ≤ N; omega
  have cf := pad_cl (n := N) ha hf.cl
  have cg := pad_cl (n := N) hb hg.cl
  have e1 : (max ((dg f : Nat) : Int) ((dg g : Nat) : Int)) = ((N : Nat) : Int) := by omega
  have rows := lcM_zip (vs := [4]) (g := gN 4) (t := dYes) (e := dFrz (dLst (dStar (dVar 4) (dStar (dFrz (dRep (dLst (dCons (dC (.tup [.int 0, .int 1])) dNil)) (d2 subM (dVar 2) (dPeek lenM 4)))) dNil))))
    (ρ := [.val (pl f), .val (pl g), .val (.int (N : Nat)), .no, .no, .no, .no]) [pl f, pl g] [.lst ((pad N (lst f)).map q), .lst ((pad N (lst g)).map q)] [] rfl (by simp) (by
      have one : ∀ l : List Rat, l.length ≤ N → ∃ ρ1 ρ2 ρ3, gN 4 (.tup (l.map q)) [.val (pl f), .val (pl g), .val (.int (N : Nat)), .no, .no, .no, .no] = some ρ1 ∧ dYes ρ1 = some (true, ρ2) ∧ dFrz (dLst (dStar (dVar 4) (dStar (dFrz (dRep (dLst (dCons (dC (.tup [.int 0, .int 1])) dNil)) (d2 subM (dVar 2) (dPeek lenM 4)))) dNil))) ρ2 = some (.lst ((pad N l).map q), ρ3) ∧ wipeM ρ3 [4] = [.val (pl f), .val (pl g), .val (.int (N : Nat)), .no, .no, .no, .no] := by
        intro l hl
        refine ⟨_, _, [.val (pl f), .val (pl g), .val (.int (N : Nat)), .no, .val (.tup (l.map q)), .no, .no], rfl, rfl, ?_, rfl⟩
        rw [pad_map]
        have h3 : lenOk (l.length + (N - l.length)) = true := lenOk_of (by omega)
        have rp := dRep1 (d := dC (.tup [.int 0, .int 1])) (db := d2 subM (dVar 2) (dPeek lenM 4)) (ρ := [.val (pl f), .val (pl g), .val (.int (N : Nat)), .no, .val (.tup (l.map q)), .no, .no]) (ρ1 := [.val (pl f), .val (pl g), .val (.int (N : Nat)), .no, .val (.tup (l.map q)), .no, .no]) (ρ2 := [.val (pl f), .val (pl g), .val (.int (N : Nat)), .no, .val (.tup (l.map q)), .no, .no]) (k := (N : Nat) - (l.length : Nat)) (n := N - l.length) rfl (by simp) (by omega) (by omega) (by omega)
        simp [lenOk_of, rp, h3]
      intro i m o h1 h2
      match i, h1, h2 with
      | 0, h1, h2 => simp at h1 h2; subst h1 h2; exact one (lst f) lf
      | 1, h1, h2 => simp at h1 h2; subst h1 h2; exact one (lst g) lg
      | i + 2, h1, h2 => simp at h1)
  have zl : ((pad N (lst f)).map q).length = ((pad N (lst g)).map q).length := by rw [List.length_map, List.length_map, pad_len lf, pad_len lg]
  have sums := lcM_zip (vs := [5, 6]) (g := gT 2 (gsCons (gN 5) (gsCons (gN 6) gsNil))) (t := dYes) (e := dCall f_add (dCons (dVar 5) (dCons (dVar 6) dNil)))
    (ρ := [.val (pl f), .val (pl g), .val (.int (N : Nat)), .val (.lst [.lst ((pad N (lst f)).map q), .lst ((pad N (lst g)).map q)]), .no, .no, .no])
    (zipM ((pad N (lst f)).map q) ((pad N (lst g)).map q)) ((List.zipWith (· + ·) (pad N (lst f)) (pad N (lst g))).map q) [] (by rw [zipM_len _ _ zl, List.length_map, List.length_map, List.length_zipWith, pad_len lf, pad_len lg]; omega) (by rw [zipM_len _ _ zl, List.length_map, pad_len lf]; simp; omega) (by
      intro i m o h1 h2
      rw [List.getElem?_map, List.getElem?_zipWith] at h2
      obtain ⟨c, hc, rfl⟩ := Option.map_eq_some_iff.mp h2
      have hi : i < N := by
        have := (List.getElem?_eq_some_iff.mp h1).1
        rwa [zipM_len _ _ zl, List.length_map, pad_len lf] at this
      have g1 : (pad N (lst f))[i]? = some ((pad N (lst f))[i]'(by rw [pad_len lf]; exact hi)) := List.getElem?_eq_getElem _
      have g2 : (pad N (lst g))[i]? = some ((pad N (lst g))[i]'(by rw [pad_len lg]; exact hi)) := List.getElem?_eq_getElem _
      generalize (pad N (lst f))[i]'(by rw [pad_len lf]; exact hi) = u at g1
      generalize (pad N (lst g))[i]'(by rw [pad_len lg]; exact hi) = v at g2
      rw [g1, g2] at hc
      simp at hc
      subst hc
      rw [zipM_get _ _ i (q u) (q v) (by rw [List.getElem?_map, g1]; rfl) (by rw [List.getElem?_map, g2]; rfl)] at h1
      cases h1
      have ad := add_ok (cf u (List.mem_of_getElem? g1)) (cg v (List.mem_of_getElem? g2)) h
      refine ⟨_, _, [.val (pl f), .val (pl g), .val (.int (N : Nat)), .val (.lst [.lst ((pad N (lst f)).map q), .lst ((pad N (lst g)).map q)]), .no, .val (q u), .val (q v)], rfl, rfl, ?_, rfl⟩
      simp [ad])
  have tr := trimmed_ok (m := .lst ((List.zipWith (· + ·) (pad N (lst f)) (pad N (lst g))).map q)) (.inr rfl) (by rw [List.length_zipWith, pad_len lf, pad_len lg]; omega)
  have pe : toPo (List.zipWith (· + ·) (pad N (lst f)) (pad N (lst g))) = f + g := Po.ext fun x => by
    rw [toPo_v, ev_zip (by rw [pad_len lf, pad_len lg]), pad_ev, pad_ev, ev_lst, ev_lst]; rfl
  rw [pe] at tr
  generalize (List.zipWith (· + ·) (pad N (lst f)) (pad N (lst g))).map q = S at sums tr
  have l1 : lenM (pl f) = some (.int (dg f : Nat)) := len_pl f
  have l2 : lenM (pl g) = some (.int (dg g : Nat)) := len_pl g
  unfold f_plus
  simp [fnP, env0, l1, l2, e1, lenOk_of, rows, sums, tr]
end K41
namespace PA
theorem Hl.set {d B : Nat} {l : List Rat} {k : Nat} {v : Rat} (h : Hl d B l) (hv : ∃ n : Int, v * (d : Rat) = (n : Rat) ∧ n.natAbs ≤ B) : Hl d B (l.set k v) := fun c hc => by
  rcases List.mem_or_eq_of_mem_set hc with z | z
  · exact h c z
  · rw [z]; exact hv
theorem hn_mul {d e A B : Nat} {u v : Rat} (h : ∃ n : Int, u * (d : Rat) = (n : Rat) ∧ n.natAbs ≤ A) (k : ∃ n : Int, v * (e : Rat) = (n : Rat) ∧ n.natAbs ≤ B) : ∃ n : Int, (u * v) * ((d * e : Nat) : Rat) = (n : Rat) ∧ n.natAbs ≤ A * B := by
  obtain ⟨n, e1, b1⟩ := h
  obtain ⟨m, e2, b2⟩ := k
  refine ⟨n * m, ?_, ?_⟩
  · rw [Rat.natCast_mul, Rat.intCast_mul, ← e1, ← e2]; grind
  · rw [Int.natAbs_mul]; exact Nat.mul_le_mul b1 b2
theorem hn_add {d A B : Nat} {u v : Rat} (h : ∃ n : Int, u * (d : Rat) = (n : Rat) ∧ n.natAbs ≤ A) (k : ∃ n : Int, v * (d : Rat) = (n : Rat) ∧ n.natAbs ≤ B) : ∃ n : Int, (u + v) * (d : Rat) = (n : Rat) ∧ n.natAbs ≤ A + B := by
  obtain ⟨n, e1, b1⟩ := h
  obtain ⟨m, e2, b2⟩ := k
  refine ⟨n + m, ?_, by omega⟩
  rw [Rat.intCast_add, ← e1, ← e2]; grind
theorem hn_mono {d A B : Nat} {u : Rat} (h : ∃ n : Int, u * (d : Rat) = (n : Rat) ∧ n.natAbs ≤ A) (k : A ≤ B) : ∃ n : Int, u * (d : Rat) = (n : Rat) ∧ n.natAbs ≤ B := let ⟨n, e, b⟩ := h; ⟨n, e, Nat.le_trans b k⟩
theorem ev_len0 {l : List Rat} {n : Nat} (h : l.length ≤ n) (x : Rat) : ev (l.take n) x = ev l x := by rw [List.take_of_length_le h]
theorem lst_ne {f : Po} (h : f ≠ 0) : lst f ≠ [] := fun z => h (dg_eq_zero.mp (by unfold dg; rw [z]; rfl))
end PA
namespace K41
open PySem L2 ML PA
/-- one more product added at one place -/
structure AccB (d e A B : Nat) (x y : Nat) (C : Nat) : Prop where
  pd : 0 < d
  pe : 0 < e
  d : d < 2 ^ x
  A : A < 2 ^ x
  e : e < 2 ^ y
  B : B < 2 ^ y
  C : C ≤ 1024
  h : 2 * (x + y) + 10 ≤ 9000
theorem accB_bd {d e A B x y C : Nat} (h : AccB d e A B x y C) {u a b : Rat} {c : Nat} (hc : c + 1 ≤ C)
    (hu : ∃ n : Int, u * ((d * e : Nat) : Rat) = (n : Rat) ∧ n.natAbs ≤ c * (A * B)) (ha : ∃ n : Int, a * (d : Rat) = (n : Rat) ∧ n.natAbs ≤ A) (hb : ∃ n : Int, b * (e : Rat) = (n : Rat) ∧ n.natAbs ≤ B) :
    Bd x a ∧ Bd y b ∧ Bd (x + y) (a * b) ∧ Bd (x + y + 10) u ∧ (∃ n : Int, (u + a * b) * ((d * e : Nat) : Rat) = (n : Rat) ∧ n.natAbs ≤ (c + 1) * (A * B)) := by
  have hab := hn_mul ha hb
  have p1 : d * e < 2 ^ (x + y) := by rw [Nat.pow_add]; exact Nat.mul_lt_mul'' h.d h.e
  have p2 : A * B < 2 ^ (x + y) := by rw [Nat.pow_add]; exact Nat.mul_lt_mul'' h.A h.B
  have p3 : c * (A * B) < 2 ^ (x + y + 10) := by
    rw [Nat.pow_add, Nat.mul_comm]
    exact Nat.mul_lt_mul'' p2 (Nat.lt_of_lt_of_le (show c < C by omega) h.C)
  have p4 : d * e < 2 ^ (x + y + 10) := Nat.lt_of_lt_of_le p1 (Nat.pow_le_pow_right (by omega) (by omega))
  refine ⟨bd_of h.pd ha h.d h.A, bd_of h.pe hb h.e h.B, bd_of (Nat.mul_pos h.pd h.pe) hab p1 p2, bd_of (Nat.mul_pos h.pd h.pe) hu p4 p3, ?_⟩
  have := hn_add hu hab
  rwa [Nat.add_mul, Nat.one_mul]
theorem set_q (F : List Rat) (k : Nat) (v : Rat) : (F.map q).set k (q v) = (F.set k v).map q := (List.map_set ..).symm
theorem ixF {F : List Rat} {k : Nat} {u : Rat} (h : F[k]? = some u) : ixM (.lst (F.map q)) (.int (k : Int)) = some (q u) := by
  have hk := (List.getElem?_eq_some_iff.mp h).1
  rw [ixM_nat (ms := F.map q) rfl (by simpa using hk), List.getElem?_map, h]; rfl
theorem ixT {F : List Rat} {k : Nat} {u : Rat} (h : F[k]? = some u) : ixM (.tup (F.map q)) (.int (k : Int)) = some (q u) := by
  have hk := (List.getElem?_eq_some_iff.mp h).1
  rw [ixM_nat (ms := F.map q) rfl (by simpa using hk), List.getElem?_map, h]; rfl
theorem ixNF {F : List Rat} {k : Nat} (h : k < F.length) : ixN (F.map q).length (k : Int) = some k := ixN_nat (by simpa using h)
theorem tru_pl0 : truM (pl 0) = some false := by unfold pl; rw [lst_zero]; rfl
theorem tru_pl {f : Po} (h : f ≠ 0) : truM (pl f) = some true := by
  unfold pl
  rw [truM_t]
  congr 1
  have := lst_ne h
  cases e : lst f with
  | nil => exact absurd e this
  | cons a l => rfl
theorem pl_zero : pl 0 = .tup [] := by unfold pl; rw [lst_zero]; rfl
theorem product_ok {f g : Po} {x y : Nat} (hf : Hb x f) (hg : Hb y g) (h : 2 * (x + y) + 10 ≤ 9000) (df : dg f ≤ 30) (dg' : dg g ≤ 30) : f_product [pl f, pl g] = some (pl (f * g)) := by
  by_cases hf0 : f = 0
  · subst hf0
    rw [show (0 : Po) * g = 0 by grind]
    unfold f_product
    simp [fnP, env0, tru_pl0, lenOk_of, pl_zero]
  have t1 := tru_pl hf0
  by_cases hg0 : g = 0
  · subst hg0
    rw [show f * (0 : Po) = 0 by grind]
    unfold f_product
    simp [fnP, env0, t1, tru_pl0, lenOk_of, pl_zero]
  have t2 := tru_pl hg0
  obtain ⟨d, A, hA, hd, hA'⟩ := hf
  obtain ⟨e, B, hB, he, hB'⟩ := hg
  have pf := dg_pos hf0
  have pg := dg_pos hg0
  generalize hN : dg f + dg g - 1 = N
  have acc : AccB d e A B x y (dg f * dg g) := ⟨hA.1, hB.1, hd, hA', he, hB', Nat.le_trans (Nat.mul_le_mul df dg') (by omega), h⟩
  -- a row
  have inner : ∀ (i : Nat) (a : Rat) (F : List Rat) (s5 s6 : Sl), (lst f)[i]? = some a → F.length = N → Hl (d * e) ((i * dg g) * (A * B)) F →
      ∃ F' s5' s6', forM (gT 2 (gsCons (gN 5) (gsCons (gN 6) gsNil))) (dSetIx 2 (dCall f_add (dCons (dIxV 2 (d2 addM (dVar 3) (dVar 5))) (dCons (dCall f_times (dCons (dVar 4) (dCons (dVar 6) dNil))) dNil))) (d2 addM (dVar 3) (dVar 5))) (enumM 0 ((lst g).map q))
        [.val (pl f), .val (pl g), .own false (F.map q), .val (.int (i : Nat)), .val (q a), s5, s6] = some (.nx, [.val (pl f), .val (pl g), .own false (F'.map q), .val (.int (i : Nat)), .val (q a), s5', s6']) ∧
        F'.length = N ∧ Hl (d * e) (((i + 1) * dg g) * (A * B)) F' ∧ ∀ z, ev F' z = ev F z + a * z ^ i * g.1 z := by
    intro i a F s5 s6 ha hF hs
    have hi : i < dg f := (List.getElem?_eq_some_iff.mp ha).1
    have han := hA.2 a (List.mem_of_getElem? ha)
    obtain ⟨ρ', e1, F', s5', s6', rfl, hF', hs', hv'⟩ := forM_inv (g := gT 2 (gsCons (gN 5) (gsCons (gN 6) gsNil))) (b := dSetIx 2 (dCall f_add (dCons (dIxV 2 (d2 addM (dVar 3) (dVar 5))) (dCons (dCall f_times (dCons (dVar 4) (dCons (dVar 6) dNil))) dNil))) (d2 addM (dVar 3) (dVar 5)))
      (ms := enumM 0 ((lst g).map q)) (ρ := [.val (pl f), .val (pl g), .own false (F.map q), .val (.int (i : Nat)), .val (q a), s5, s6])
      (fun j ρ => ∃ F' s5' s6', ρ = [.val (pl f), .val (pl g), .own false (F'.map q), .val (.int (i : Nat)), .val (q a), s5', s6'] ∧ F'.length = N ∧ Hl (d * e) ((i * dg g + j) * (A * B)) F' ∧ ∀ z, ev F' z = ev F z + a * z ^ i * ev ((lst g).take j) z)
      ⟨F, s5, s6, rfl, hF, by simpa using hs, fun z => by simp only [List.take_zero, ev]; grind⟩ (by
        rintro j m ρ hm ⟨F', s5', s6', rfl, hF', hs', hv'⟩
        rw [enumM_get, List.getElem?_map] at hm
        obtain ⟨m', hm', rfl⟩ := Option.map_eq_some_iff.mp hm
        obtain ⟨b, hb, rfl⟩ := Option.map_eq_some_iff.mp hm'
        have hj : j < dg g := (List.getElem?_eq_some_iff.mp hb).1
        have hbn := hB.2 b (List.mem_of_getElem? hb)
        have hk : i + j < F'.length := by omega
        have hu : F'[i + j]? = some F'[i + j] := List.getElem?_eq_getElem hk
        generalize F'[i + j] = u at hu
        have hc : i * dg g + j + 1 ≤ dg f * dg g := by
          have := Nat.mul_le_mul_right (dg g) (show i + 1 ≤ dg f by omega)
          rw [Nat.add_mul] at this
          omega
        obtain ⟨b1, b2, b3, b4, b5⟩ := accB_bd acc hc (hs' u (List.mem_of_getElem? hu)) han hbn
        have ad := add_ok b4 b3 (by omega)
        have ti := times_ok b1 b2 (by omega)
        have ix := ixF hu
        have ixn := ixNF hk
        simp only [Nat.zero_add]
        refine ⟨[.val (pl f), .val (pl g), .own false (F'.map q), .val (.int (i : Nat)), .val (q a), .val (.int (j : Nat)), .val (q b)], [.val (pl f), .val (pl g), .own false ((F'.set (i + j) (u + a * b)).map q), .val (.int (i : Nat)), .val (q a), .val (.int (j : Nat)), .val (q b)], rfl, ?_, F'.set (i + j) (u + a * b), _, _, rfl, by simpa using hF', ?_, fun z => ?_⟩
        · rw [Int.natCast_add] at ix ixn
          rw [← set_q]
          rw [List.length_map] at ixn
          simp [ix, ti, ad, ixn]
        · exact (hs'.mono (Nat.mul_le_mul_right _ (by omega))).set b5
        · rw [ev_set hu, hv', ev_take hb, Lean.Grind.Semiring.pow_add]; grind)
    rw [enumM_len, List.length_map] at hs' hv'
    refine ⟨F', s5', s6', e1, hF', ?_, fun z => ?_⟩
    · rw [Nat.add_mul (m := 1), Nat.one_mul]; exact hs'
    · rw [hv', ev_len0 (Nat.le_refl _), ev_lst]
  have rep := dRep1 (d := dC (.tup [.int 0, .int 1])) (db := d2 subM (d2 addM (dPeek lenM 0) (dPeek lenM 1)) (dC (.int 1))) (ρ := [.val (pl f), .val (pl g), .no, .no, .no, .no, .no]) (ρ1 := [.val (pl f), .val (pl g), .no, .no, .no, .no, .no]) (ρ2 := [.val (pl f), .val (pl g), .no, .no, .no, .no, .no]) (k := (dg f : Nat) + (dg g : Nat) - 1) (n := N) rfl (by simp [len_pl]) (by omega) (by omega) (by omega)
  obtain ⟨ρ', e1, F, s3, s4, s5, s6, rfl, hF, hs, hv⟩ := forM_inv (g := gT 2 (gsCons (gN 3) (gsCons (gN 4) gsNil))) (b := dIfS (dT truM (dIxV 4 (dC (.int 0)))) (dFor (dCallO enumF (dCons (dVar 1) dNil)) (gT 2 (gsCons (gN 5) (gsCons (gN 6) gsNil))) (dSetIx 2 (dCall f_add (dCons (dIxV 2 (d2 addM (dVar 3) (dVar 5))) (dCons (dCall f_times (dCons (dVar 4) (dCons (dVar 6) dNil))) dNil))) (d2 addM (dVar 3) (dVar 5)))) dNx)
      (ms := enumM 0 ((lst f).map q)) (ρ := [.val (pl f), .val (pl g), .own false (List.replicate N (.tup [.int 0, .int 1])), .no, .no, .no, .no])
      (fun i ρ => ∃ F s3 s4 s5 s6, ρ = [.val (pl f), .val (pl g), .own false (F.map q), s3, s4, s5, s6] ∧ F.length = N ∧ Hl (d * e) ((i * dg g) * (A * B)) F ∧ ∀ z, ev F z = ev ((lst f).take i) z * g.1 z)
      ⟨List.replicate N 0, .no, .no, .no, .no, by rw [List.map_replicate, q_zero], by simp, fun c hc => by rw [List.eq_of_mem_replicate hc]; exact hl_zero, fun z => by rw [ev_zeros]; simp only [List.take_zero, ev]; grind⟩ (by
        rintro i m ρ hm ⟨F, s3, s4, s5, s6, rfl, hF, hs, hv⟩
        rw [enumM_get, List.getElem?_map] at hm
        obtain ⟨m', hm', rfl⟩ := Option.map_eq_some_iff.mp hm
        obtain ⟨a, ha, rfl⟩ := Option.map_eq_some_iff.mp hm'
        simp only [Nat.zero_add]
        by_cases ha0 : a = 0
        · have hz : (a.num != 0) = false := by rw [ha0]; rfl
          refine ⟨[.val (pl f), .val (pl g), .own false (F.map q), .val (.int (i : Nat)), .val (q a), s5, s6], [.val (pl f), .val (pl g), .own false (F.map q), .val (.int (i : Nat)), .val (q a), s5, s6], rfl, by simp [hz], F, _, _, _, _, rfl, hF, hs.mono (Nat.mul_le_mul_right _ (Nat.mul_le_mul_right _ (by omega))), fun z => ?_⟩
          rw [hv, ev_take ha, ha0]; grind
        · have hz : (a.num != 0) = true := by
            have := num_ne ha0
            simpa using this
          obtain ⟨F', s5', s6', e2, hF', hs', hv'⟩ := inner i a F s5 s6 ha hF hs
          refine ⟨[.val (pl f), .val (pl g), .own false (F.map q), .val (.int (i : Nat)), .val (q a), s5, s6], [.val (pl f), .val (pl g), .own false (F'.map q), .val (.int (i : Nat)), .val (q a), s5', s6'], rfl, ?_, F', _, _, _, _, rfl, hF', hs', fun z => ?_⟩
          · have : enumF [pl g] = some (enumM 0 ((lst g).map q)) := rfl
            simp [hz, this, e2]
          · rw [hv', hv, ev_take ha]; grind)
  rw [enumM_len, List.length_map] at hv
  have pe : toPo F = f * g := Po.ext fun z => by rw [toPo_v, hv, ev_len0 (Nat.le_refl _), ev_lst]; rfl
  have tr := trimmed_ok (m := .lst (F.map q)) (.inr rfl) (by omega)
  rw [pe] at tr
  have ef : enumF [pl f] = some (enumM 0 ((lst f).map q)) := rfl
  unfold f_product
  simp [fnP, env0, t1, t2, rep, ef, e1, tr]
end K41
namespace K41
open PySem L2 ML PA
@[simp] theorem catF_l (a b : List MV) (h : a.length + b.length ≤ 100000) : catF (.lst a) (.lst b) = some (a ++ b) := if_pos (lenOk_of h)
theorem rngL (n : Nat) (h : n ≤ 100000) : rng1F [.int (n : Int)] = some (rng 0 n) := by
  have := rng1F_i (j := (n : Int)) (by omega) (by omega)
  rwa [show ((n : Nat) : Int).toNat = n by omega] at this
theorem dCallO_of {f : List MV → Option (List MV)} {ds : DA} {ρ ρ1 : MEnv} {ms os : List MV} (h1 : ds ρ = some (ms, ρ1)) (h2 : f ms = some os) : dCallO f ds ρ = some (os, ρ1) := by
  unfold dCallO
  rw [h1]
  show (f ms).bind _ = _
  rw [h2]; rfl
theorem rngV {ρ : MEnv} {i : Nat} {m : MV} {n : Nat} (h1 : slotM ρ[i]? = some m) (h2 : lenM m = some (.int (n : Int))) (hn : n ≤ 100000) : dCallO rng1F (dCons (dPeek lenM i) dNil) ρ = some (rng 0 n, ρ) :=
  dCallO_of (ms := [.int (n : Int)]) (by simp [h1, h2]) (rngL n hn)
theorem rngN {ρ : MEnv} {i : Nat} {n : Nat} (h1 : ρ[i]? = some (.val (.int (n : Int)))) (hn : n ≤ 100000) : dCallO rng1F (dCons (dVar i) dNil) ρ = some (rng 0 n, ρ) :=
  dCallO_of (ms := [.int (n : Int)]) (by simp [h1]) (rngL n hn)
theorem law_trim_ok {m : MV} {l : List Rat} (hm : m = .tup (l.map q) ∨ m = .lst (l.map q)) (hl : l.length ≤ 10000) : f__law_trim [m] = some (pl (toPo l)) := by
  have hs : seqM m = some (l.map q) := by rcases hm with rfl | rfl <;> rfl
  have hn : lenM m = some (.int (l.length : Nat)) := by unfold lenM; rw [hs]; simp
  have hr := rngV (ρ := [.val m, .val (.lst (l.map q)), .no]) (i := 0) rfl hn (by omega)
  obtain ⟨ρ', e1, L, s, rfl, ht, hL⟩ := forM_inv (g := gN 2) (b := dIfS (dAnd (dTruV 1) (dT blM (d2 eqvM (d2 ixM (dIxV 1 (d1 negM (dC (.int 1)))) (dC (.int 0))) (dC (.int 0))))) (dSet 1 (dVal (dSlV 1 dNoP (dPart (d1 negM (dC (.int 1))))))) dNx)
    (ms := rng 0 l.length) (ρ := [.val m, .val (.lst (l.map q)), .no]) (fun i ρ => ∃ L s, ρ = [.val m, .val (.lst (L.map q)), s] ∧ trim L = trim l ∧ (Tr L ∨ L.length + i ≤ l.length))
    ⟨l, .no, rfl, rfl, .inr (Nat.le_refl _)⟩ (by
      rintro i x ρ hx ⟨L, s, rfl, ht, hL⟩
      cases hLe : L.getLast? with
      | none =>
        have := List.getLast?_eq_none_iff.mp hLe
        subst this
        refine ⟨[.val m, .val (.lst []), .val x], [.val m, .val (.lst []), .val x], rfl, by simp, [], _, rfl, ht, .inl rfl⟩
      | some c =>
        have hne : L ≠ [] := fun z => by subst z; simp at hLe
        have hi : ixM (.lst (L.map q)) (.int (-1)) = some (q c) := by
          rw [ixM_last (ms := L.map q) rfl (by simpa using List.length_pos_iff.mpr hne), List.getLast?_map, hLe]; rfl
        have hemp : (L.map q).isEmpty = false := by
          cases L with
          | nil => exact absurd rfl hne
          | cons a L => rfl
        have hd : L = L.dropLast ++ [c] := by
          rw [List.getLast?_eq_some_getLast hne] at hLe
          rw [← Option.some.inj hLe]
          exact (List.dropLast_concat_getLast hne).symm
        by_cases hc : c = 0
        · have h2 : (c.num == 0) = true := by rw [num0]; simp [hc]
          have hcut : cutM (L.map q) none (some (-1)) = L.dropLast.map q := by
            have e : HT.sIx (L.map q).length (L.map q).length (some (-1)) = L.length - 1 := by
              show (if (-1 : Int) < 0 then ((-1 : Int) + ((L.map q).length : Int)).toNat else min (-1 : Int).toNat (L.map q).length) = _
              rw [if_pos (by decide), List.length_map]
              omega
            unfold cutM
            rw [HT.sIx_none, e, List.dropLast_eq_take, List.map_take]; rfl
          have hsl : slM (.lst (L.map q)) none (some (-1)) = some (.lst (L.dropLast.map q)) := by rw [← hcut]; rfl
          refine ⟨[.val m, .val (.lst (L.map q)), .val x], [.val m, .val (.lst (L.dropLast.map q)), .val x], rfl, ?_, L.dropLast, _, rfl, ?_, .inr ?_⟩
          · have hemp' : L.isEmpty = false := by simpa using hemp
            simp [hi, h2, hsl, hemp, hemp', hne]
          · rw [← ht]
            conv => rhs; rw [hd, hc]
            rw [trim_snoc0]
          · rcases hL with hL | hL
            · exact absurd hc (hL.last hLe)
            · have := List.length_pos_iff.mpr hne
              rw [List.length_dropLast]; omega
        · have h2 : (c.num == 0) = false := by rw [num0]; simp [hc]
          refine ⟨[.val m, .val (.lst (L.map q)), .val x], [.val m, .val (.lst (L.map q)), .val x], rfl, ?_, L, _, rfl, ht, .inl ?_⟩
          · simp [hi, h2, hemp, hne]
          · rw [hd]; exact trim_snoc hc)
  rw [rng_len] at hL
  have hfin : L = trim l := by
    rw [← ht]
    rcases hL with hL | hL
    · exact hL.symm
    · have : L = [] := List.length_eq_zero_iff.mp (by omega)
      subst this; rfl
  subst hfin
  unfold f__law_trim
  simp [-dCallO_e, fnP, env0, hs, hr, e1, pl, lst_toPo]
theorem law_mul_ok {f g : Po} {x y : Nat} (hf : Hb x f) (hg : Hb y g) (h : 2 * (x + y) + 10 ≤ 9000) (df : dg f ≤ 30) (dg' : dg g ≤ 30) : f__law_mul [pl f, pl g] = some (pl (f * g)) := by
  obtain ⟨d, A, hA, hd, hA'⟩ := hf
  obtain ⟨e, B, hB, he, hB'⟩ := hg
  generalize hN : dg f + dg g - 1 = N
  have acc : AccB d e A B x y (dg f * dg g) := ⟨hA.1, hB.1, hd, hA', he, hB', Nat.le_trans (Nat.mul_le_mul df dg') (by omega), h⟩
  have inner : ∀ (i : Nat) (a : Rat) (F : List Rat) (s4 : Sl), (lst f)[i]? = some a → F.length = N → Hl (d * e) ((i * dg g) * (A * B)) F →
      ∃ F' s4', forM (gN 4) (dSetIx 2 (dCall f__law_add (dCons (dIxV 2 (d2 addM (dVar 3) (dVar 4))) (dCons (dCall f__law_times (dCons (dIxV 0 (dVar 3)) (dCons (dIxV 1 (dVar 4)) dNil))) dNil))) (d2 addM (dVar 3) (dVar 4))) (rng 0 (dg g))
        [.val (pl f), .val (pl g), .own false (F.map q), .val (.int (i : Nat)), s4] = some (.nx, [.val (pl f), .val (pl g), .own false (F'.map q), .val (.int (i : Nat)), s4']) ∧
        F'.length = N ∧ Hl (d * e) (((i + 1) * dg g) * (A * B)) F' ∧ ∀ z, ev F' z = ev F z + a * z ^ i * g.1 z := by
    intro i a F s4 ha hF hs
    have hi : i < dg f := (List.getElem?_eq_some_iff.mp ha).1
    have han := hA.2 a (List.mem_of_getElem? ha)
    obtain ⟨ρ', e1, F', s4', rfl, hF', hs', hv'⟩ := forM_inv (g := gN 4) (b := dSetIx 2 (dCall f__law_add (dCons (dIxV 2 (d2 addM (dVar 3) (dVar 4))) (dCons (dCall f__law_times (dCons (dIxV 0 (dVar 3)) (dCons (dIxV 1 (dVar 4)) dNil))) dNil))) (d2 addM (dVar 3) (dVar 4)))
      (ms := rng 0 (dg g)) (ρ := [.val (pl f), .val (pl g), .own false (F.map q), .val (.int (i : Nat)), s4])
      (fun j ρ => ∃ F' s4', ρ = [.val (pl f), .val (pl g), .own false (F'.map q), .val (.int (i : Nat)), s4'] ∧ F'.length = N ∧ Hl (d * e) ((i * dg g + j) * (A * B)) F' ∧ ∀ z, ev F' z = ev F z + a * z ^ i * ev ((lst g).take j) z)
      ⟨F, s4, rfl, hF, by simpa using hs, fun z => by simp only [List.take_zero, ev]; grind⟩ (by
        rintro j m ρ hm ⟨F', s4', rfl, hF', hs', hv'⟩
        obtain ⟨hj, rfl⟩ := rng_get hm
        have hb : (lst g)[j]? = some ((lst g)[j]'hj) := List.getElem?_eq_getElem hj
        generalize (lst g)[j]'hj = b at hb
        have hbn := hB.2 b (List.mem_of_getElem? hb)
        have hk : i + j < F'.length := by omega
        have hu : F'[i + j]? = some F'[i + j] := List.getElem?_eq_getElem hk
        generalize F'[i + j] = u at hu
        have hc : i * dg g + j + 1 ≤ dg f * dg g := by
          have := Nat.mul_le_mul_right (dg g) (show i + 1 ≤ dg f by omega)
          rw [Nat.add_mul] at this
          omega
        obtain ⟨b1, b2, b3, b4, b5⟩ := accB_bd acc hc (hs' u (List.mem_of_getElem? hu)) han hbn
        have ad := law_add_ok b4 b3 (by omega)
        have ti := law_times_ok b1 b2 (by omega)
        have ix := ixF hu
        have ixa : ixM (pl f) (.int (i : Int)) = some (q a) := ixT ha
        have ixb : ixM (pl g) (.int (j : Int)) = some (q b) := ixT hb
        have ixn := ixNF hk
        simp only [Int.zero_add]
        refine ⟨[.val (pl f), .val (pl g), .own false (F'.map q), .val (.int (i : Nat)), .val (.int (j : Nat))], [.val (pl f), .val (pl g), .own false ((F'.set (i + j) (u + a * b)).map q), .val (.int (i : Nat)), .val (.int (j : Nat))], rfl, ?_, F'.set (i + j) (u + a * b), _, rfl, by simpa using hF', ?_, fun z => ?_⟩
        · rw [Int.natCast_add] at ix ixn
          rw [← set_q]
          rw [List.length_map] at ixn
          simp -implicitDefEqProofs [ix, ixa, ixb, ti, ad, ixn]
        · exact (hs'.mono (Nat.mul_le_mul_right _ (by omega))).set b5
        · rw [ev_set hu, hv', ev_take hb, Lean.Grind.Semiring.pow_add]; grind)
    rw [rng_len] at hs' hv'
    refine ⟨F', s4', e1, hF', ?_, fun z => ?_⟩
    · rw [Nat.add_mul (m := 1), Nat.one_mul]; exact hs'
    · rw [hv', ev_len0 (show (lst g).length ≤ dg g from Nat.le_refl _), ev_lst]
  have rep := dRep1 (d := dTup (dCons (dC (.int 0)) (dCons (dC (.int 1)) dNil))) (db := dCall maxF (dCons (dC (.int 0)) (dCons (d2 subM (d2 addM (dPeek lenM 0) (dPeek lenM 1)) (dC (.int 1))) dNil))) (ρ := [.val (pl f), .val (pl g), .no, .no, .no]) (ρ1 := [.val (pl f), .val (pl g), .no, .no, .no]) (ρ2 := [.val (pl f), .val (pl g), .no, .no, .no]) (m := .tup [.int 0, .int 1]) (k := max 0 ((dg f : Nat) + (dg g : Nat) - 1)) (n := N) (by simp [lenOk_of]) (by simp [len_pl]) (by omega) (by omega) (by omega)
  obtain ⟨ρ', e1, F, s3, s4, rfl, hF, hs, hv⟩ := forM_inv (g := gN 3) (b := dFor (dCallO rng1F (dCons (dPeek lenM 1) dNil)) (gN 4) (dSetIx 2 (dCall f__law_add (dCons (dIxV 2 (d2 addM (dVar 3) (dVar 4))) (dCons (dCall f__law_times (dCons (dIxV 0 (dVar 3)) (dCons (dIxV 1 (dVar 4)) dNil))) dNil))) (d2 addM (dVar 3) (dVar 4))))
      (ms := rng 0 (dg f)) (ρ := [.val (pl f), .val (pl g), .own false (List.replicate N (.tup [.int 0, .int 1])), .no, .no])
      (fun i ρ => ∃ F s3 s4, ρ = [.val (pl f), .val (pl g), .own false (F.map q), s3, s4] ∧ F.length = N ∧ Hl (d * e) ((i * dg g) * (A * B)) F ∧ ∀ z, ev F z = ev ((lst f).take i) z * g.1 z)
      ⟨List.replicate N 0, .no, .no, by rw [List.map_replicate, q_zero], by simp, fun c hc => by rw [List.eq_of_mem_replicate hc]; exact hl_zero, fun z => by rw [ev_zeros]; simp only [List.take_zero, ev]; grind⟩ (by
        rintro i m ρ hm ⟨F, s3, s4, rfl, hF, hs, hv⟩
        obtain ⟨hi, rfl⟩ := rng_get hm
        have ha : (lst f)[i]? = some ((lst f)[i]'hi) := List.getElem?_eq_getElem hi
        generalize (lst f)[i]'hi = a at ha
        obtain ⟨F', s4', e2, hF', hs', hv'⟩ := inner i a F s4 ha hF hs
        simp only [Int.zero_add]
        refine ⟨[.val (pl f), .val (pl g), .own false (F.map q), .val (.int (i : Nat)), s4], [.val (pl f), .val (pl g), .own false (F'.map q), .val (.int (i : Nat)), s4'], rfl, ?_, F', _, _, rfl, hF', hs', fun z => ?_⟩
        · have := rngV (ρ := [.val (pl f), .val (pl g), .own false (F.map q), .val (.int (i : Nat)), s4]) (i := 1) rfl (len_pl g) (by omega)
          simp -implicitDefEqProofs [-dCallO_e, this, e2]
        · rw [hv', hv, ev_take ha]; grind)
  rw [rng_len] at hv
  have pe : toPo F = f * g := Po.ext fun z => by rw [toPo_v, hv, ev_len0 (show (lst f).length ≤ dg f from Nat.le_refl _), ev_lst]; rfl
  have tr := law_trim_ok (m := .lst (F.map q)) (.inr rfl) (by omega)
  rw [pe] at tr
  have ef := rngV (ρ := [.val (pl f), .val (pl g), .own false (List.replicate N (.tup [.int 0, .int 1])), .no, .no]) (i := 0) rfl (len_pl f) (by omega)
  unfold f__law_mul
  simp -implicitDefEqProofs [-dCallO_e, fnP, env0, len_pl, rep, ef, e1, tr]
theorem law_sum_ok {f g : Po} {a b : Nat} (hf : Hb a f) (hg : Hb b g) (h : a + b ≤ 9000) (ha : 1 ≤ a) (hb : 1 ≤ b) (df : dg f ≤ 1000) (dg' : dg g ≤ 1000) : f__law_sum [pl f, pl g] = some (pl (f + g)) := by
  generalize hN : max (dg f) (dg g) = N
  have hN' : N ≤ 1000 := by omega
  have lf : (lst f).length ≤ N := by show dg f ≤ N; omega
  have lg : (lst g).length ≤ N := by show dg g ≤ N; omega
  have cf := pad_cl (n := N) ha hf.cl
  have cg := pad_cl (n := N) hb hg.cl
  have e1 : (max ((dg f : Nat) : Int) ((dg g : Nat) : Int)) = ((N : Nat) : Int) := by omega
  have rows := lcM_zip (vs := [4]) (g := gN 4) (t := dYes) (e := dFrz (dCat (dFrz (dPeekO 4)) (dFrz (dRep (dLst (dCons (dTup (dCons (dC (.int 0)) (dCons (dC (.int 1)) dNil))) dNil)) (d2 subM (dVar 2) (dPeek lenM 4))))))
    (ρ := [.val (pl f), .val (pl g), .val (.int (N : Nat)), .no, .no, .no]) [pl f, pl g] [.lst ((pad N (lst f)).map q), .lst ((pad N (lst g)).map q)] [] rfl (by simp) (by
      have one : ∀ l : List Rat, l.length ≤ N → ∃ ρ1 ρ2 ρ3, gN 4 (.tup (l.map q)) [.val (pl f), .val (pl g), .val (.int (N : Nat)), .no, .no, .no] = some ρ1 ∧ dYes ρ1 = some (true, ρ2) ∧ dFrz (dCat (dFrz (dPeekO 4)) (dFrz (dRep (dLst (dCons (dTup (dCons (dC (.int 0)) (dCons (dC (.int 1)) dNil))) dNil)) (d2 subM (dVar 2) (dPeek lenM 4))))) ρ2 = some (.lst ((pad N l).map q), ρ3) ∧ wipeM ρ3 [4] = [.val (pl f), .val (pl g), .val (.int (N : Nat)), .no, .no, .no] := by
        intro l hl
        refine ⟨_, _, [.val (pl f), .val (pl g), .val (.int (N : Nat)), .no, .val (.tup (l.map q)), .no], rfl, rfl, ?_, rfl⟩
        rw [pad_map]
        have rp := dRep1 (d := dTup (dCons (dC (.int 0)) (dCons (dC (.int 1)) dNil))) (db := d2 subM (dVar 2) (dPeek lenM 4)) (ρ := [.val (pl f), .val (pl g), .val (.int (N : Nat)), .no, .val (.tup (l.map q)), .no]) (ρ1 := [.val (pl f), .val (pl g), .val (.int (N : Nat)), .no, .val (.tup (l.map q)), .no]) (ρ2 := [.val (pl f), .val (pl g), .val (.int (N : Nat)), .no, .val (.tup (l.map q)), .no]) (m := .tup [.int 0, .int 1]) (k := (N : Nat) - (l.length : Nat)) (n := N - l.length) (by simp [lenOk_of]) (by simp) (by omega) (by omega) (by omega)
        have hc := catF_l (l.map q) (List.replicate (N - l.length) (.tup [.int 0, .int 1])) (by simp; omega)
        simp -implicitDefEqProofs [rp, hc]
      intro i m o h1 h2
      match i, h1, h2 with
      | 0, h1, h2 => simp at h1 h2; subst h1 h2; exact one (lst f) lf
      | 1, h1, h2 => simp at h1 h2; subst h1 h2; exact one (lst g) lg
      | i + 2, h1, h2 => simp at h1)
  have sums := lcM_zip (vs := [5]) (g := gN 5) (t := dYes) (e := dCall f__law_add (dCons (d2 ixM (dIxV 3 (dC (.int 0))) (dVar 5)) (dCons (d2 ixM (dIxV 3 (dC (.int 1))) (dVar 5)) dNil)))
    (ρ := [.val (pl f), .val (pl g), .val (.int (N : Nat)), .val (.lst [.lst ((pad N (lst f)).map q), .lst ((pad N (lst g)).map q)]), .no, .no])
    (rng 0 N) ((List.zipWith (· + ·) (pad N (lst f)) (pad N (lst g))).map q) [] (by rw [rng_len, List.length_map, List.length_zipWith, pad_len lf, pad_len lg]; omega) (by rw [rng_len]; simp; omega) (by
      intro i m o h1 h2
      rw [List.getElem?_map, List.getElem?_zipWith] at h2
      obtain ⟨c, hc, rfl⟩ := Option.map_eq_some_iff.mp h2
      obtain ⟨hi, rfl⟩ := rng_get h1
      have g1 : (pad N (lst f))[i]? = some ((pad N (lst f))[i]'(by rw [pad_len lf]; exact hi)) := List.getElem?_eq_getElem _
      have g2 : (pad N (lst g))[i]? = some ((pad N (lst g))[i]'(by rw [pad_len lg]; exact hi)) := List.getElem?_eq_getElem _
      generalize (pad N (lst f))[i]'(by rw [pad_len lf]; exact hi) = u at g1
      generalize (pad N (lst g))[i]'(by rw [pad_len lg]; exact hi) = v at g2
      rw [g1, g2] at hc
      simp at hc
      subst hc
      have ad := law_add_ok (cf u (List.mem_of_getElem? g1)) (cg v (List.mem_of_getElem? g2)) h
      have i1 := ixF g1
      have i2 := ixF g2
      refine ⟨_, _, [.val (pl f), .val (pl g), .val (.int (N : Nat)), .val (.lst [.lst ((pad N (lst f)).map q), .lst ((pad N (lst g)).map q)]), .no, .val (.int (i : Nat))], rfl, rfl, ?_, rfl⟩
      simp -implicitDefEqProofs [ad, i1, i2])
  have tr := law_trim_ok (m := .lst ((List.zipWith (· + ·) (pad N (lst f)) (pad N (lst g))).map q)) (.inr rfl) (by rw [List.length_zipWith, pad_len lf, pad_len lg]; omega)
  have pe : toPo (List.zipWith (· + ·) (pad N (lst f)) (pad N (lst g))) = f + g := Po.ext fun x => by
    rw [toPo_v, ev_zip (by rw [pad_len lf, pad_len lg]), pad_ev, pad_ev, ev_lst, ev_lst]; rfl
  rw [pe] at tr
  generalize (List.zipWith (· + ·) (pad N (lst f)) (pad N (lst g))).map q = S at sums tr
  have rr := rngN (ρ := [.val (pl f), .val (pl g), .val (.int (N : Nat)), .val (.lst [.lst ((pad N (lst f)).map q), .lst ((pad N (lst g)).map q)]), .no, .no]) (i := 2) rfl (by omega)
  unfold f__law_sum
  simp -implicitDefEqProofs [-dCallO_e, fnP, env0, len_pl, e1, lenOk_of, rows, rr, sums, tr]
end K41
namespace PA
/-- one step of a division -/
theorem elim {r g : Po} (hr : r ≠ 0) (hg : g ≠ 0) (h : dg g ≤ dg r) : dg (r - cst (lc r / lc g) * mono (dg r - dg g) * g) < dg r := by
  have c1 := lc_ne hr
  have c2 := lc_ne hg
  have c3 : lc r / lc g ≠ 0 := by grind
  have t1 := mul_top (cst_ne c3) (mono_ne (dg r - dg g))
  have n1 := mul_ne (cst_ne c3) (mono_ne (dg r - dg g))
  have t2 := mul_top n1 hg
  have n2 := mul_ne n1 hg
  rw [(dg_cst c3).1, (mono_top _).1] at t1
  rw [(dg_cst c3).2, (mono_top _).2] at t1
  have := dg_pos hg
  exact sub_top hr n2 (by omega) (by rw [t2.2, t1.2]; grind)
theorem last_lst {f : Po} (h : f ≠ 0) : (lst f).getLast? = some (lc f) := by
  obtain ⟨l, e, _⟩ := split_lst h
  rw [e]; simp
end PA
namespace K41
open PySem L2 ML PA
/-- sizes in one step of a division -/
structure DivB (r g : Po) (D K e B X y : Nat) : Prop where
  tr : Ht D K r
  tg : Ht e B g
  r0 : r ≠ 0
  g0 : g ≠ 0
  bD : D < 2 ^ X
  bK : K < 2 ^ X
  be : e < 2 ^ y
  bB : B < 2 ^ y
  h1 : X + 2 * y ≤ 9000
  h2 : 2 * X + y ≤ 9000
theorem divB {r g : Po} {D K e B X y : Nat} (h : DivB r g D K e B X y) : ∃ E : Nat, 0 < E ∧ E ≤ B ∧ D * E < 2 ^ (X + y) ∧ K * B < 2 ^ (X + y) ∧ Bd X (lc r) ∧ Bd y (lc g) ∧ Bd (X + y) (lc r / lc g) ∧
    (∀ b ∈ lst g, Bd y b ∧ Bd (X + y) (lc r / lc g * b) ∧ ∀ u ∈ lst r, Bd X u ∧ ∃ n : Int, (u - lc r / lc g * b) * ((D * E : Nat) : Rat) = (n : Rat) ∧ n.natAbs ≤ 2 * (K * B)) ∧
    Hl (D * E) (2 * (K * B)) (lst r) := by
  obtain ⟨nr, er, br⟩ := h.tr.2 _ (lc_mem h.r0)
  obtain ⟨ng, eg, bg⟩ := h.tg.2 _ (lc_mem h.g0)
  have c1 := lc_ne h.r0
  have c2 := lc_ne h.g0
  have hD := natr h.tr.1
  have he := natr h.tg.1
  have hn : ng ≠ 0 := fun z => by
    rw [z, show ((0 : Int) : Rat) = 0 from rfl] at eg
    grind
  have hn' : (ng : Rat) ≠ 0 := intR hn
  -- the sign of the lower leading one
  obtain ⟨s, hs, hs'⟩ : ∃ s : Int, (s = 1 ∨ s = -1) ∧ (ng.natAbs : Int) = s * ng := by
    rcases Int.natAbs_eq ng with k | k
    · exact ⟨1, .inl rfl, by omega⟩
    · exact ⟨-1, .inr rfl, by omega⟩
  have hE : ((ng.natAbs : Nat) : Rat) = (s : Rat) * (ng : Rat) := by
    rw [← Rat.intCast_mul, ← hs']; rfl
  have sabs : ∀ z : Int, (s * z).natAbs = z.natAbs := fun z => by
    rcases hs with rfl | rfl
    · rw [Int.one_mul]
    · rw [Int.natAbs_mul]; simp
  have hE0 : 0 < ng.natAbs := by omega
  have p1 : D * ng.natAbs < 2 ^ (X + y) := by
    rw [Nat.pow_add]; exact Nat.mul_lt_mul'' h.bD (Nat.lt_of_le_of_lt bg h.bB)
  have p2 : K * B < 2 ^ (X + y) := by rw [Nat.pow_add]; exact Nat.mul_lt_mul'' h.bK h.bB
  have p3 : K * e < 2 ^ (X + y) := by rw [Nat.pow_add]; exact Nat.mul_lt_mul'' h.bK h.be
  have hpart : ∃ n : Int, lc r / lc g * ((D * ng.natAbs : Nat) : Rat) = (n : Rat) ∧ n.natAbs ≤ K * e := by
    refine ⟨s * (nr * (e : Int)), ?_, ?_⟩
    · rw [Rat.natCast_mul, hE, Rat.intCast_mul, Rat.intCast_mul, ← er, ← eg, show (((e : Nat) : Int) : Rat) = (e : Rat) from rfl]
      grind
    · rw [sabs, Int.natAbs_mul, Int.natAbs_natCast]
      exact Nat.mul_le_mul_right _ br
  have hpos : 0 < D * ng.natAbs := Nat.mul_pos h.tr.1 hE0
  have hu : ∀ u ∈ lst r, ∃ n : Int, u * ((D * ng.natAbs : Nat) : Rat) = (n : Rat) ∧ n.natAbs ≤ K * B := fun u hu => by
    obtain ⟨n, q, b⟩ := h.tr.2 u hu
    refine ⟨n * (ng.natAbs : Int), ?_, ?_⟩
    · rw [Rat.natCast_mul, Rat.intCast_mul, ← q, show (((ng.natAbs : Nat) : Int) : Rat) = (ng.natAbs : Rat) from rfl]; grind
    · rw [Int.natAbs_mul, Int.natAbs_natCast]; exact Nat.mul_le_mul b bg
  refine ⟨ng.natAbs, hE0, bg, p1, p2, bd_of h.tr.1 (h.tr.2 _ (lc_mem h.r0)) h.bD h.bK, bd_of h.tg.1 (h.tg.2 _ (lc_mem h.g0)) h.be h.bB, bd_of hpos hpart p1 p3, fun b hb => ?_, fun u k => hn_mono (hu u k) (by omega)⟩
  obtain ⟨m, em, bm⟩ := h.tg.2 b hb
  have hpb : ∃ n : Int, lc r / lc g * b * ((D * ng.natAbs : Nat) : Rat) = (n : Rat) ∧ n.natAbs ≤ K * B := by
    refine ⟨s * (nr * m), ?_, ?_⟩
    · rw [Rat.natCast_mul, hE, Rat.intCast_mul, Rat.intCast_mul, ← er, ← eg, ← em]
      grind
    · rw [sabs, Int.natAbs_mul]
      exact Nat.mul_le_mul br bm
  refine ⟨bd_of h.tg.1 (h.tg.2 b hb) h.be h.bB, bd_of hpos hpb p1 p2, fun u k => ⟨bd_of h.tr.1 (h.tr.2 u k) h.bD h.bK, ?_⟩⟩
  have neg : ∃ n : Int, (-(lc r / lc g * b)) * ((D * ng.natAbs : Nat) : Rat) = (n : Rat) ∧ n.natAbs ≤ K * B := by
    obtain ⟨n, q, bn⟩ := hpb
    refine ⟨-n, by rw [Rat.intCast_neg, ← q]; grind, by rw [Int.natAbs_neg]; exact bn⟩
  have := hn_add (hu u k) neg
  rw [show u + -(lc r / lc g * b) = u - lc r / lc g * b by grind, show K * B + K * B = 2 * (K * B) by omega] at this
  exact this
theorem ixL {f : Po} (h : f ≠ 0) : ixM (.lst ((lst f).map q)) (.int (-1)) = some (q (lc f)) := by
  rw [ixM_last (ms := (lst f).map q) rfl (by simpa using List.length_pos_iff.mpr (lst_ne h)), List.getLast?_map, last_lst h]; rfl
theorem ixPL {f : Po} (h : f ≠ 0) : ixM (pl f) (.int (-1)) = some (q (lc f)) := by
  unfold pl
  rw [ixM_last (ms := (lst f).map q) rfl (by simpa using List.length_pos_iff.mpr (lst_ne h)), List.getLast?_map, last_lst h]; rfl
theorem div_row {f r g : Po} {D K e B X y : Nat} (h : DivB r g D K e B X y) (hd : dg g ≤ dg r) (Q : List MV) (s6 s7 : Sl) : ∃ F s6' s7' E, 0 < E ∧ E ≤ B ∧ F.length = dg r ∧ Hl (D * E) (2 * (K * B)) F ∧ (∀ z, ev F z = r.1 z - lc r / lc g * z ^ (dg r - dg g) * g.1 z) ∧
    forM (gT 2 (gsCons (gN 6) (gsCons (gN 7) gsNil))) (dSetIx 2 (dCall f_less (dCons (dIxV 2 (d2 addM (dVar 5) (dVar 6))) (dCons (dCall f_times (dCons (dVar 4) (dCons (dVar 7) dNil))) dNil))) (d2 addM (dVar 5) (dVar 6))) (enumM 0 ((lst g).map q))
      [.val (pl f), .val (pl g), .own false ((lst r).map q), .own false Q, .val (q (lc r / lc g)), .val (.int ((dg r - dg g : Nat) : Int)), s6, s7] =
      some (.nx, [.val (pl f), .val (pl g), .own false (F.map q), .own false Q, .val (q (lc r / lc g)), .val (.int ((dg r - dg g : Nat) : Int)), s6', s7']) := by
  obtain ⟨E, hE0, hE, p1, p2, b1, b2, b3, b4, b5⟩ := divB h
  generalize hsh : dg r - dg g = sh
  obtain ⟨ρ', e1, F, s6', s7', rfl, hF, hun, hs, hv⟩ := forM_inv (g := gT 2 (gsCons (gN 6) (gsCons (gN 7) gsNil))) (b := dSetIx 2 (dCall f_less (dCons (dIxV 2 (d2 addM (dVar 5) (dVar 6))) (dCons (dCall f_times (dCons (dVar 4) (dCons (dVar 7) dNil))) dNil))) (d2 addM (dVar 5) (dVar 6)))
    (ms := enumM 0 ((lst g).map q)) (ρ := [.val (pl f), .val (pl g), .own false ((lst r).map q), .own false Q, .val (q (lc r / lc g)), .val (.int ((sh : Nat) : Int)), s6, s7])
    (fun j ρ => ∃ F s6' s7', ρ = [.val (pl f), .val (pl g), .own false (F.map q), .own false Q, .val (q (lc r / lc g)), .val (.int ((sh : Nat) : Int)), s6', s7'] ∧ F.length = dg r ∧ (∀ k, sh + j ≤ k → F[k]? = (lst r)[k]?) ∧ Hl (D * E) (2 * (K * B)) F ∧ ∀ z, ev F z = r.1 z - lc r / lc g * z ^ sh * ev ((lst g).take j) z)
    ⟨lst r, s6, s7, rfl, rfl, fun k _ => rfl, b5, fun z => by rw [ev_lst]; simp only [List.take_zero, ev]; grind⟩ (by
      rintro j m ρ hm ⟨F, s6', s7', rfl, hF, hun, hs, hv⟩
      rw [enumM_get, List.getElem?_map] at hm
      obtain ⟨m', hm', rfl⟩ := Option.map_eq_some_iff.mp hm
      obtain ⟨b, hb, rfl⟩ := Option.map_eq_some_iff.mp hm'
      have hj : j < dg g := (List.getElem?_eq_some_iff.mp hb).1
      have hk : sh + j < F.length := by omega
      have hu : F[sh + j]? = some F[sh + j] := List.getElem?_eq_getElem hk
      generalize F[sh + j] = u at hu
      have hur : (lst r)[sh + j]? = some u := by rw [← hun _ (Nat.le_refl _), hu]
      obtain ⟨c1, c2, c3⟩ := b4 b (List.mem_of_getElem? hb)
      obtain ⟨c4, c5⟩ := c3 u (List.mem_of_getElem? hur)
      have le := less_ok c4 c2 (by have := h.h2; omega)
      have ti := times_ok b3 c1 (by have := h.h1; omega)
      have ix := ixF hu
      have ixn := ixNF hk
      simp only [Nat.zero_add]
      refine ⟨[.val (pl f), .val (pl g), .own false (F.map q), .own false Q, .val (q (lc r / lc g)), .val (.int ((sh : Nat) : Int)), .val (.int (j : Nat)), .val (q b)], [.val (pl f), .val (pl g), .own false ((F.set (sh + j) (u - lc r / lc g * b)).map q), .own false Q, .val (q (lc r / lc g)), .val (.int ((sh : Nat) : Int)), .val (.int (j : Nat)), .val (q b)], rfl, ?_, F.set (sh + j) (u - lc r / lc g * b), _, _, rfl, by simpa using hF, fun k hk => ?_, hs.set c5, fun z => ?_⟩
      · rw [Int.natCast_add] at ix ixn
        rw [← set_q]
        rw [List.length_map] at ixn
        simp -implicitDefEqProofs [ix, ti, le, ixn]
      · rw [List.getElem?_set_ne (by omega)]
        exact hun k (by omega)
      · rw [ev_set hu, hv, ev_take hb, Lean.Grind.Semiring.pow_add]; grind)
  rw [enumM_len, List.length_map] at hv
  exact ⟨F, s6', s7', E, hE0, hE, hF, hs, fun z => by rw [hv, ev_len0 (Nat.le_refl _), ev_lst], e1⟩
end K41
namespace ML
theorem seq_nx {a b : DS} {ρ ρ1 : MEnv} (h : a ρ = some (.nx, ρ1)) : dSeq a b ρ = b ρ1 := by
  unfold dSeq
  rw [h]; rfl
theorem while_go {t : DT} {b : DS} {ρ ρ1 ρ2 : MEnv} (h1 : t ρ = some (true, ρ1)) (h2 : b ρ1 = some (.nx, ρ2)) : dWhile t b ρ = dWhile t b ρ2 := by
  rw [dWhile_step, h1]
  simp only [Option.bind_some, if_true, h2]
theorem while_end {t : DT} {b : DS} {ρ ρ1 : MEnv} (h1 : t ρ = some (false, ρ1)) : dWhile t b ρ = some (.nx, ρ1) := by
  rw [dWhile_step, h1]; rfl
theorem for_of {dj : DA} {g : DG} {b : DS} {ρ ρ1 : MEnv} {ms : List MV} {r : Option (Fl × MEnv)} (h1 : dj ρ = some (ms, ρ1)) (h2 : forM g b ms ρ1 = r) : dFor dj g b ρ = r := by
  unfold dFor
  rw [h1]; exact h2
end ML
namespace K41
open PySem L2 ML PA
abbrev wTest : DT := dT blM (d2 (cmpM fun i j => decide (j ≤ i)) (dPeek lenM 2) (dPeek lenM 1))
noncomputable abbrev wRow : DS := dSetIx 2 (dCall f_less (dCons (dIxV 2 (d2 addM (dVar 5) (dVar 6))) (dCons (dCall f_times (dCons (dVar 4) (dCons (dVar 7) dNil))) dNil))) (d2 addM (dVar 5) (dVar 6))
noncomputable abbrev wBody : DS := dSeq (dSet 4 (dVal (dCall f_by (dCons (dIxV 2 (d1 negM (dC (.int 1)))) (dCons (dIxV 1 (d1 negM (dC (.int 1)))) dNil))))) (dSeq (dSet 5 (dVal (d2 subM (dPeek lenM 2) (dPeek lenM 1)))) (dSeq (dSetIx 3 (dVar 4) (dVar 5)) (dSeq (dFor (dCallO enumF (dCons (dVar 1) dNil)) (gT 2 (gsCons (gN 6) (gsCons (gN 7) gsNil))) wRow) (dSeq (dDo (dPop 2)) (dSet 2 (dOwn (dCallO lstF (dCons (dCall f_trimmed (dCons (dVar 2) dNil)) dNil))))))))
theorem div_body {f r g : Po} {D K e B X y : Nat} (h : DivB r g D K e B X y) (hd : dg g ≤ dg r) (hr : dg r ≤ 1000) {Q : List Rat} (hQ : dg r - dg g < Q.length) (s4 s5 s6 s7 : Sl) :
    ∃ (r' : Po) (E : Nat) (s6' s7' : Sl), 0 < E ∧ E ≤ B ∧ r' = r - cst (lc r / lc g) * mono (dg r - dg g) * g ∧ Ht (D * E) (2 * (K * B)) r' ∧
      wBody [.val (pl f), .val (pl g), .own false ((lst r).map q), .own false (Q.map q), s4, s5, s6, s7] =
      some (.nx, [.val (pl f), .val (pl g), .own false ((lst r').map q), .own false ((Q.set (dg r - dg g) (lc r / lc g)).map q), .val (q (lc r / lc g)), .val (.int ((dg r - dg g : Nat) : Int)), s6', s7']) := by
  obtain ⟨F, s6', s7', E, hE0, hE, hF, hs, hv, e1⟩ := div_row (f := f) h hd ((Q.set (dg r - dg g) (lc r / lc g)).map q) s6 s7
  obtain ⟨_, _, _, _, _, b1, b2, _⟩ := divB h
  have by1 := by_ok b1 b2 (by have := h.h1; omega) (lc_ne h.g0)
  generalize hr' : r - cst (lc r / lc g) * mono (dg r - dg g) * g = r'
  have hFe : ∀ z, ev F z = r'.1 z := fun z => by rw [hv, ← hr', sub_v, mul_v, mul_v, cst_v, mono_v]
  have hlt : dg r' < dg r := by rw [← hr']; exact elim h.r0 h.g0 hd
  have hne : F ≠ [] := fun z => by
    subst z
    have := dg_pos h.r0
    simp at hF; omega
  have hlast : ∃ c, F.getLast? = some c := ⟨_, List.getLast?_eq_some_getLast hne⟩
  obtain ⟨c, hc⟩ := hlast
  have hd2 : F = F.dropLast ++ [c] := by
    rw [List.getLast?_eq_some_getLast hne] at hc
    rw [← Option.some.inj hc]
    exact (List.dropLast_concat_getLast hne).symm
  have hc0 : c = 0 := Classical.byContradiction fun hc0 => by
    have t : Tr F := by rw [hd2]; exact trim_snoc hc0
    have := lst_eq t hFe
    unfold dg at hlt
    rw [this] at hlt
    unfold dg at hF
    omega
  have hde : toPo F.dropLast = r' := Po.ext fun z => by
    rw [← hFe, toPo_v]
    conv => rhs; rw [hd2, hc0, ev_append]
    simp only [ev]; grind
  have tr := trimmed_ok (m := .lst (F.dropLast.map q)) (.inr rfl) (by rw [List.length_dropLast]; omega)
  rw [hde] at tr
  refine ⟨r', E, s6', s7', hE0, hE, rfl, Ht.of (Nat.mul_pos h.tr.1 hE0) (l := F) hs (Po.ext fun z => (hFe z).symm), ?_⟩
  have i1 := ixL h.r0
  have i2 := ixPL h.g0
  have hlen : (lst r).length = dg r := rfl
  have hsub : ((dg r : Nat) : Int) - ((dg g : Nat) : Int) = ((dg r - dg g : Nat) : Int) := by omega
  have s1 : dSet 4 (dVal (dCall f_by (dCons (dIxV 2 (d1 negM (dC (.int 1)))) (dCons (dIxV 1 (d1 negM (dC (.int 1)))) dNil)))) [.val (pl f), .val (pl g), .own false ((lst r).map q), .own false (Q.map q), s4, s5, s6, s7] = some (.nx, [.val (pl f), .val (pl g), .own false ((lst r).map q), .own false (Q.map q), .val (q (lc r / lc g)), s5, s6, s7]) := by
    simp -implicitDefEqProofs [i1, i2, by1]
  have s2 : dSet 5 (dVal (d2 subM (dPeek lenM 2) (dPeek lenM 1))) [.val (pl f), .val (pl g), .own false ((lst r).map q), .own false (Q.map q), .val (q (lc r / lc g)), s5, s6, s7] = some (.nx, [.val (pl f), .val (pl g), .own false ((lst r).map q), .own false (Q.map q), .val (q (lc r / lc g)), .val (.int ((dg r - dg g : Nat) : Int)), s6, s7]) := by
    simp -implicitDefEqProofs [len_pl, hlen, hsub]
  have ixn := ixNF (F := Q) hQ
  rw [List.length_map] at ixn
  have s3 : dSetIx 3 (dVar 4) (dVar 5) [.val (pl f), .val (pl g), .own false ((lst r).map q), .own false (Q.map q), .val (q (lc r / lc g)), .val (.int ((dg r - dg g : Nat) : Int)), s6, s7] = some (.nx, [.val (pl f), .val (pl g), .own false ((lst r).map q), .own false ((Q.set (dg r - dg g) (lc r / lc g)).map q), .val (q (lc r / lc g)), .val (.int ((dg r - dg g : Nat) : Int)), s6, s7]) := by
    rw [← set_q]
    simp -implicitDefEqProofs [ixn]
  have s4' := for_of (dj := dCallO enumF (dCons (dVar 1) dNil)) (ρ := [.val (pl f), .val (pl g), .own false ((lst r).map q), .own false ((Q.set (dg r - dg g) (lc r / lc g)).map q), .val (q (lc r / lc g)), .val (.int ((dg r - dg g : Nat) : Int)), s6, s7]) (ms := enumM 0 ((lst g).map q)) (dCallO_of (ms := [pl g]) (by simp -implicitDefEqProofs) rfl) e1
  have s5' : dDo (dPop 2) [.val (pl f), .val (pl g), .own false (F.map q), .own false ((Q.set (dg r - dg g) (lc r / lc g)).map q), .val (q (lc r / lc g)), .val (.int ((dg r - dg g : Nat) : Int)), s6', s7'] = some (.nx, [.val (pl f), .val (pl g), .own false (F.dropLast.map q), .own false ((Q.set (dg r - dg g) (lc r / lc g)).map q), .val (q (lc r / lc g)), .val (.int ((dg r - dg g : Nat) : Int)), s6', s7']) := by
    have h1 : (F.map q)[(F.map q).length - 1]? = some (q c) := by
      rw [← List.getLast?_eq_getElem?, List.getLast?_map, hc]; rfl
    rw [List.length_map] at h1
    have h2 : (F.map q).dropLast = F.dropLast.map q := by rw [List.map_dropLast]
    rw [← h2, dDo_e, dPop_e]
    show ((ownM (some (.own false (F.map q)))).bind _).bind _ = _
    rw [ownM_o, Option.bind_some]
    show (((F.map q)[(F.map q).length - 1]?).bind _).bind _ = _
    rw [List.length_map, h1]
    rfl
  have s6'' : dSet 2 (dOwn (dCallO lstF (dCons (dCall f_trimmed (dCons (dVar 2) dNil)) dNil))) [.val (pl f), .val (pl g), .own false (F.dropLast.map q), .own false ((Q.set (dg r - dg g) (lc r / lc g)).map q), .val (q (lc r / lc g)), .val (.int ((dg r - dg g : Nat) : Int)), s6', s7'] = some (.nx, [.val (pl f), .val (pl g), .own false ((lst r').map q), .own false ((Q.set (dg r - dg g) (lc r / lc g)).map q), .val (q (lc r / lc g)), .val (.int ((dg r - dg g : Nat) : Int)), s6', s7']) := by
    generalize F.dropLast.map q = G at tr ⊢
    simp -implicitDefEqProofs [tr, seq_pl]
  unfold wBody
  rw [seq_nx s1, seq_nx s2, seq_nx s3, seq_nx s4', seq_nx s5', s6'']
/-- a division, to its end -/
theorem div_while {f g : Po} {e B x y : Nat} (hg : Ht e B g) (g0 : g ≠ 0) (he : e < 2 ^ y) (hB : B < 2 ^ y) (hN : dg f ≤ 1000)
    (c1 : x + (dg f - dg g) * (y + 1) + 2 * y ≤ 9000) (c2 : 2 * (x + (dg f - dg g) * (y + 1)) + y ≤ 9000) :
    ∀ (n i : Nat) (r : Po) (D K : Nat) (Q : List Rat) (s4 s5 s6 s7 : Sl), dg r ≤ n → i + dg r ≤ dg f → i ≤ dg f + 1 - dg g → Ht D K r → D < 2 ^ (x + i * (y + 1)) → K < 2 ^ (x + i * (y + 1)) →
      Q.length = dg f + 1 - dg g → (∀ k, k < dg r + 1 - dg g → Q[k]? = some 0) →
      ∃ (R : Po) (Q' : List Rat) (s4' s5' s6' s7' : Sl), dWhile wTest wBody [.val (pl f), .val (pl g), .own false ((lst r).map q), .own false (Q.map q), s4, s5, s6, s7] = some (.nx, [.val (pl f), .val (pl g), .own false ((lst R).map q), .own false (Q'.map q), s4', s5', s6', s7']) ∧
        dg R < dg g ∧ toPo Q' * g + R = toPo Q * g + r ∧ Q'.length = Q.length ∧ Hb (x + (dg f + 1 - dg g) * (y + 1)) R := by
  intro n
  induction n with
  | zero =>
    intro i r D K Q s4 s5 s6 s7 hr hi hi2 hH hD hK hQ hz
    have hlt : dg r < dg g := by have := dg_pos g0; omega
    refine ⟨r, Q, s4, s5, s6, s7, while_end ?_, hlt, rfl, rfl, ?_⟩
    · have hlen : (lst r).length = dg r := rfl
      have : decide (((dg g : Nat) : Int) ≤ ((dg r : Nat) : Int)) = false := decide_eq_false (by omega)
      simp -implicitDefEqProofs [len_pl, hlen]; omega
    · exact Hb.mono ⟨D, K, hH, hD, hK⟩ (Nat.add_le_add_left (Nat.mul_le_mul_right _ hi2) _)
  | succ n ih =>
    intro i r D K Q s4 s5 s6 s7 hr hi hi2 hH hD hK hQ hz
    have hlen : (lst r).length = dg r := rfl
    by_cases hlt : dg r < dg g
    · refine ⟨r, Q, s4, s5, s6, s7, while_end ?_, hlt, rfl, rfl, ?_⟩
      · simp -implicitDefEqProofs [len_pl, hlen]; omega
      · exact Hb.mono ⟨D, K, hH, hD, hK⟩ (Nat.add_le_add_left (Nat.mul_le_mul_right _ hi2) _)
    · have r0 : r ≠ 0 := fun z => by rw [z, dg_zero] at hlt; have := dg_pos g0; omega
      have hi3 : i ≤ dg f - dg g := by omega
      have hm := Nat.mul_le_mul_right (y + 1) hi3
      have dv : DivB r g D K e B (x + i * (y + 1)) y := ⟨hH, hg, r0, g0, hD, hK, he, hB, by omega, by omega⟩
      have hQ2 : dg r - dg g < Q.length := by omega
      obtain ⟨r', E, s6', s7', hE0, hE, hr', hH', eb⟩ := div_body (f := f) dv (by omega) (by omega) hQ2 s4 s5 s6 s7
      have hlt' : dg r' < dg r := by rw [hr']; exact elim r0 g0 (by omega)
      have hstep : x + (i + 1) * (y + 1) = (x + i * (y + 1)) + y + 1 := by rw [Nat.add_mul, Nat.one_mul]; omega
      have p1 : D * E < 2 ^ (x + (i + 1) * (y + 1)) := by
        rw [hstep, Nat.pow_succ, Nat.pow_add]
        have := Nat.mul_lt_mul'' hD (Nat.lt_of_le_of_lt hE hB)
        omega
      have p2 : 2 * (K * B) < 2 ^ (x + (i + 1) * (y + 1)) := by
        rw [hstep, Nat.pow_succ, Nat.pow_add]
        have := Nat.mul_lt_mul'' hK hB
        omega
      have hold : Q[dg r - dg g]? = some 0 := hz _ (by omega)
      obtain ⟨R, Q', t4, t5, t6, t7, ew, h1, h2, h3, h4⟩ := ih (i + 1) r' (D * E) (2 * (K * B)) (Q.set (dg r - dg g) (lc r / lc g)) (.val (q (lc r / lc g))) (.val (.int ((dg r - dg g : Nat) : Int))) s6' s7' (by omega) (by omega) (by omega) hH' p1 p2 (by simpa using hQ) (fun k hk => by
        rw [List.getElem?_set_ne (by omega)]
        exact hz k (by omega))
      refine ⟨R, Q', t4, t5, t6, t7, ?_, h1, ?_, by simpa using h3, h4⟩
      · rw [while_go (ρ1 := [.val (pl f), .val (pl g), .own false ((lst r).map q), .own false (Q.map q), s4, s5, s6, s7]) _ eb, ew]
        simp -implicitDefEqProofs [len_pl, hlen]; omega
      · rw [h2, hr']
        have : toPo (Q.set (dg r - dg g) (lc r / lc g)) = toPo Q + cst (lc r / lc g) * mono (dg r - dg g) := Po.ext fun z => by
          rw [toPo_v, ev_set hold, add_v, mul_v, cst_v, mono_v, toPo_v]; grind
        rw [this]; grind
theorem divided_ok {f g : Po} {x y : Nat} (hf : Hb x f) (hg : Hb y g) (g0 : g ≠ 0) (hN : dg f ≤ 1000) (hM : dg g ≤ 1000)
    (c1 : x + (dg f - dg g) * (y + 1) + 2 * y ≤ 9000) (c2 : 2 * (x + (dg f - dg g) * (y + 1)) + y ≤ 9000) :
    ∃ Q R, f_divided [pl f, pl g] = some (.tup [pl Q, pl R]) ∧ f = Q * g + R ∧ dg R < dg g ∧ Hb (x + (dg f + 1 - dg g) * (y + 1)) R := by
  obtain ⟨D, K, hH, hD, hK⟩ := hf
  obtain ⟨e, B, hgH, he, hB⟩ := hg
  obtain ⟨R, Q', s4, s5, s6, s7, ew, h1, h2, h3, h4⟩ := div_while (x := x) hgH g0 he hB hN c1 c2 (dg f) 0 f D K (List.replicate (dg f + 1 - dg g) 0) .no .no .no .no (Nat.le_refl _) (by omega) (by omega) hH (by simpa using hD) (by simpa using hK) (by simp) (fun k hk => by rw [List.getElem?_replicate, if_pos hk])
  refine ⟨toPo Q', R, ?_, ?_, h1, h4⟩
  · have rep := dRep1 (d := dC (.tup [.int 0, .int 1])) (db := dCall maxF (dCons (dC (.int 0)) (dCons (d2 addM (d2 subM (dPeek lenM 0) (dPeek lenM 1)) (dC (.int 1))) dNil))) (ρ := [.val (pl f), .val (pl g), .no, .no, .no, .no, .no, .no]) (ρ1 := [.val (pl f), .val (pl g), .no, .no, .no, .no, .no, .no]) (ρ2 := [.val (pl f), .val (pl g), .no, .no, .no, .no, .no, .no]) (k := max 0 ((dg f : Nat) - (dg g : Nat) + 1)) (n := dg f + 1 - dg g) rfl (by simp -implicitDefEqProofs [len_pl]) (by omega) (by omega) (by omega)
    have s1 : dPar 2 3 (dOwn (dPeekO 0)) (dOwn (dRep (dLst (dCons (dC (.tup [.int 0, .int 1])) dNil)) (dCall maxF (dCons (dC (.int 0)) (dCons (d2 addM (d2 subM (dPeek lenM 0) (dPeek lenM 1)) (dC (.int 1))) dNil))))) [.val (pl f), .val (pl g), .no, .no, .no, .no, .no, .no] = some (.nx, [.val (pl f), .val (pl g), .own false ((lst f).map q), .own false ((List.replicate (dg f + 1 - dg g) (0 : Rat)).map q), .no, .no, .no, .no]) := by
      rw [List.map_replicate, q_zero]
      simp -implicitDefEqProofs [seq_pl, rep]
    have hsz : Q'.length ≤ 1001 := by rw [h3]; simp; omega
    have t1 := trimmed_ok (m := .lst (Q'.map q)) (.inr rfl) (by omega)
    have t2 := trimmed_ok (m := .lst ((lst R).map q)) (l := lst R) (.inr rfl) (by show dg R ≤ _; omega)
    rw [toPo_lst] at t2
    have s2 : dRet (dTup (dCons (dCall f_trimmed (dCons (dVar 3) dNil)) (dCons (dCall f_trimmed (dCons (dVar 2) dNil)) dNil))) [.val (pl f), .val (pl g), .own false ((lst R).map q), .own false (Q'.map q), s4, s5, s6, s7] = some (.rt (.tup [pl (toPo Q'), pl R]), [.val (pl f), .val (pl g), .val (.lst ((lst R).map q)), .val (.lst (Q'.map q)), s4, s5, s6, s7]) := by
      generalize (lst R).map q = G1 at t2 ⊢
      generalize Q'.map q = G2 at t1 ⊢
      simp -implicitDefEqProofs [t1, t2, lenOk_of]
    have : f_divided = fnP 8 (dSeq (dPar 2 3 (dOwn (dPeekO 0)) (dOwn (dRep (dLst (dCons (dC (.tup [.int 0, .int 1])) dNil)) (dCall maxF (dCons (dC (.int 0)) (dCons (d2 addM (d2 subM (dPeek lenM 0) (dPeek lenM 1)) (dC (.int 1))) dNil)))))) (dSeq (dWhile wTest wBody) (dRet (dTup (dCons (dCall f_trimmed (dCons (dVar 3) dNil)) (dCons (dCall f_trimmed (dCons (dVar 2) dNil)) dNil)))))) := rfl
    rw [this]
    unfold fnP
    rw [show env0 8 [pl f, pl g] = [.val (pl f), .val (pl g), .no, .no, .no, .no, .no, .no] from rfl, seq_nx s1, seq_nx ew, s2]
    rfl
  · rw [h2]
    have : toPo (List.replicate (dg f + 1 - dg g) 0) = 0 := Po.ext fun z => by rw [toPo_v, ev_zeros]; rfl
    rw [this]; grind
end K41
namespace PA
theorem lst_mon {f : Po} (h : f ≠ 0) : lst (mon f) = (lst f).map fun c => c / lc f := by
  have c1 := lc_ne h
  refine lst_eq (tr_of fun a ha => ?_) fun x => ?_
  · rw [List.getLast?_map, last_lst h] at ha
    cases ha
    grind
  · unfold mon
    rw [mul_v, cst_v, ← ev_lst]
    generalize lst f = l
    induction l with
    | nil => simp only [List.map_nil, ev]; grind
    | cons a l ih => simp only [List.map_cons, ev, ih]; grind
/-- coefficients times their places, from n on -/
def wts : Nat → List Rat → List Rat
  | _, [] => []
  | n, a :: l => a * (n : Rat) :: wts (n + 1) l
theorem wts_ev (n : Nat) (l : List Rat) (x : Rat) : ev (wts n l) x = (n : Rat) * ev l x + x * ev (der l) x := by
  induction l generalizing n with
  | nil => simp only [wts, der, ev]; grind
  | cons a l ih =>
    simp only [wts, ev, ih, der_cons]
    rw [Rat.natCast_add n 1, show ((1 : Nat) : Rat) = 1 from rfl]; grind
theorem wts_get : ∀ (l : List Rat) (n i : Nat), (wts n l)[i]? = (l[i]?).map fun a => a * ((n + i : Nat) : Rat)
  | [], n, i => by simp [wts]
  | a :: l, n, 0 => by simp [wts]
  | a :: l, n, i + 1 => by
    unfold wts
    rw [List.getElem?_cons_succ, List.getElem?_cons_succ, wts_get l (n + 1) i, show n + 1 + i = n + (i + 1) by omega]
theorem wts_len : ∀ (l : List Rat) (n : Nat), (wts n l).length = l.length
  | [], n => rfl
  | a :: l, n => by simp [wts, wts_len l (n + 1)]
end PA
namespace K41
open PySem L2 ML PA
theorem Hb.mon {x : Nat} {f : Po} (h : Hb x f) (h0 : f ≠ 0) : Hb x (mon f) := by
  obtain ⟨d, B, k, h1, h2⟩ := h
  obtain ⟨e, he, k2⟩ := k.mon h0
  exact ⟨e, B, k2, by omega, h2⟩
theorem monic_ok {f : Po} {x : Nat} (hf : Hb x f) (h0 : f ≠ 0) (h : 2 * x ≤ 9000) (hN : dg f ≤ 1000) : f_monic [pl f] = some (pl (mon f)) := by
  have hc := hf.cl
  have ixl := ixPL h0
  have lc1 := hc _ (lc_mem h0)
  have hz := lcM_zip (vs := [1]) (g := gN 1) (t := dYes) (e := dCall f_by (dCons (dVar 1) (dCons (dIxV 0 (d1 negM (dC (.int 1)))) dNil))) (ρ := [.val (pl f), .no]) ((lst f).map q) (((lst f).map fun c => c / lc f).map q) [] (by simp) (by simp; show dg f ≤ _; omega) (by
    intro i m o h1 h2
    rw [List.getElem?_map] at h1
    obtain ⟨c, hci, rfl⟩ := Option.map_eq_some_iff.mp h1
    rw [List.getElem?_map, List.getElem?_map, hci] at h2
    cases h2
    have b := by_ok (hc c (List.mem_of_getElem? hci)) lc1 (by omega) (lc_ne h0)
    refine ⟨_, _, [.val (pl f), .val (q c)], rfl, rfl, ?_, rfl⟩
    simp -implicitDefEqProofs [ixl, b])
  unfold f_monic
  rw [show pl (mon f) = .tup (((lst f).map fun c => c / lc f).map q) by unfold pl; rw [lst_mon h0]]
  generalize ((lst f).map fun c => c / lc f).map q = G at hz ⊢
  simp -implicitDefEqProofs [fnP, env0, seq_pl, hz]
/-- the sizes stay small in the search for a common divisor: n, m the numbers of coefficients, g at least what the divisor has, x and y the bits -/
def okE : Nat → Nat → Nat → Nat → Nat → Nat → Bool
  | 0, _, _, _, _, _ => false
  | k + 1, n, m, g, x, y => decide (2 * x ≤ 9000) && decide (2 * y ≤ 9000) && (decide (m = 0) || (decide (x + (n - m) * (y + 1) + 2 * y ≤ 9000) && decide (2 * (x + (n - m) * (y + 1)) + y ≤ 9000) &&
      (List.range m).all fun m' => decide (m' < max g 1) || (decide (n < m') || decide (2 * (x + (n + 1 - m) * (y + 1)) ≤ 9000) && okE k m m' g y (if m' = 1 then 1 else x + (n + 1 - m) * (y + 1)))))
noncomputable abbrev eBody : DS := dSeq (dPar 0 1 (dVal (dVar 1)) (dVal (d2 ixM (dCall f_divided (dCons (dVar 0) (dCons (dVar 1) dNil))) (dC (.int 1))))) (dSet 1 (dVal (dIf (dTruV 1) (dCall f_monic (dCons (dVar 1) dNil)) (dVar 1))))
theorem eucl_while : ∀ (k : Nat) (f g : Po) (G x y : Nat), okE k (dg f) (dg g) G x y = true → Hb x f → Hb y g → G ≤ dg (gcd f g) → dg f ≤ 1000 → dg g ≤ 1000 →
    ∃ h z, dWhile (dTruV 1) eBody [.val (pl f), .val (pl g)] = some (.nx, [.val (pl h), .val (pl 0)]) ∧ mon h = gcd f g ∧ Hb z h ∧ 2 * z ≤ 9000 ∧ dg h ≤ 1000
  | 0, f, g, G, x, y, ok, _, _, _, _, _ => by simp [okE] at ok
  | k + 1, f, g, G, x, y, ok, hf, hg, hG, hN, hM => by
    unfold okE at ok
    simp only [Bool.and_eq_true, Bool.or_eq_true, decide_eq_true_eq] at ok
    by_cases g0 : g = 0
    · subst g0
      refine ⟨f, x, ?_, (gcd_zero f).symm, hf, ok.1.1, hN⟩
      rw [while_end]
      simp -implicitDefEqProofs [tru_pl0]
    · have hm : dg g ≠ 0 := fun z => g0 (dg_eq_zero.mp z)
      obtain ⟨⟨c1, c2⟩, call⟩ := ok.2.resolve_left hm
      obtain ⟨Q, R, e1, e2, e3, e4⟩ := divided_ok hf hg g0 hN hM c1 c2
      have gs := gcd_step e2
      by_cases R0 : R = 0
      · subst R0
        refine ⟨g, y, ?_, by rw [gs, gcd_zero], hg, ok.1.2, hM⟩
        rw [while_go (ρ1 := [.val (pl f), .val (pl g)]) (ρ2 := [.val (pl g), .val (pl 0)])]
        · rw [while_end]
          simp -implicitDefEqProofs [tru_pl0]
        · simp -implicitDefEqProofs [tru_pl g0]
        · simp -implicitDefEqProofs [e1, tru_pl0]
      · have hR1 := dg_pos R0
        have hGR : G ≤ dg R := by
          rw [gs] at hG
          exact Nat.le_trans hG ((gcd_r g R).dg R0)
        have hk := List.all_eq_true.mp call (dg R) (List.mem_range.mpr e3)
        simp only [Bool.and_eq_true, Bool.or_eq_true, decide_eq_true_eq] at hk
        have hRf : dg R ≤ dg f := by
          by_cases hfg : dg f < dg g
          · have := (div_uniq (q := 0) (r := f) (by rw [← e2]; grind) hfg e3).2
            rw [← this]; exact Nat.le_refl _
          · omega
        obtain ⟨hk1, hk2⟩ := (hk.resolve_left (by omega)).resolve_left (by omega)
        have mo := monic_ok e4 R0 hk1 (by omega)
        have dm := (mon_top R0).1
        have hmon : Hb (if dg R = 1 then 1 else x + (dg f + 1 - dg g) * (y + 1)) (mon R) := by
          split
          · rename_i h1
            rw [show mon R = 1 by rw [dg_one_is (dm.trans h1), (mon_top R0).2]; rfl]
            refine ⟨1, 1, Ht.of (l := [1]) (by omega) (Hl.cons ⟨1, by rw [show ((1 : Nat) : Rat) = 1 from rfl, show ((1 : Int) : Rat) = 1 from rfl]; grind, by decide⟩ Hl.nil) (Po.ext fun x => by rw [one_v, toPo_v]; simp only [ev]; grind), by omega, by omega⟩
          · exact e4.mon R0
        obtain ⟨h, z, w, h1, h2, h3, h4⟩ := eucl_while k g (mon R) G y (if dg R = 1 then 1 else x + (dg f + 1 - dg g) * (y + 1)) (by rw [dm]; exact hk2) hg hmon (by rw [gcd_mon_r, ← gs]; exact hG) hM (by omega)
        refine ⟨h, z, ?_, by rw [h1, gcd_mon_r, gs], h2, h3, h4⟩
        rw [while_go (ρ1 := [.val (pl f), .val (pl g)]) (ρ2 := [.val (pl g), .val (pl (mon R))]), w]
        · simp -implicitDefEqProofs [tru_pl g0]
        · simp -implicitDefEqProofs [e1, tru_pl R0, mo]
theorem common_of_ok {f g : Po} {k G x y : Nat} (ok : okE k (dg f) (dg g) G x y = true) (hf : Hb x f) (hg : Hb y g) (hG : G ≤ dg (gcd f g)) (hN : dg f ≤ 1000) (hM : dg g ≤ 1000) : f_common_of [pl f, pl g] = some (pl (gcd f g)) := by
  obtain ⟨h, z, w, h1, h2, h3, h4⟩ := eucl_while k f g G x y ok hf hg hG hN hM
  have : f_common_of = fnP 2 (dSeq (dWhile (dTruV 1) eBody) (dRet (dIf (dTruV 0) (dCall f_monic (dCons (dVar 0) dNil)) (dTup dNil)))) := rfl
  rw [this]
  unfold fnP
  rw [show env0 2 [pl f, pl g] = [.val (pl f), .val (pl g)] from rfl, seq_nx w]
  by_cases h0 : h = 0
  · subst h0
    rw [mon_zero] at h1
    rw [← h1]
    simp -implicitDefEqProofs [tru_pl0, pl_zero, lenOk_of]
  · have mo := monic_ok h2 h0 h3 h4
    rw [h1] at mo
    simp -implicitDefEqProofs [tru_pl h0, mo]
theorem slope_ok {f : Po} {x : Nat} (hf : Hb x f) (h : x + 10 ≤ 9000) (hN : dg f ≤ 1000) : f_slope [pl f] = some (pl (D f)) := by
  have hc := hf.cl
  have hlen : (lst f).length ≤ 1000 := hN
  -- the list that is made
  have key : ∃ W : List Rat, W.length ≤ 1000 ∧ (∀ z, ev W z = (D f).1 z) ∧ lcM [1, 2] (gT 2 (gsCons (gN 1) (gsCons (gN 2) gsNil))) (dTruV 1) (dCall f_times (dCons (dVar 2) (dCons (dTup (dCons (dVar 1) (dCons (dC (.int 1)) dNil))) dNil))) (enumM 0 ((lst f).map q)) [] [.val (pl f), .no, .no] = some (W.map q, [.val (pl f), .no, .no]) := by
    cases e : lst f with
    | nil =>
      refine ⟨[], by simp, fun z => ?_, rfl⟩
      show ev [] z = ev (der (lst f)) z
      rw [e]; rfl
    | cons a t =>
      rw [e] at hlen hc
      simp only [List.length_cons] at hlen
      refine ⟨wts 1 t, by rw [wts_len]; omega, fun z => ?_, ?_⟩
      · show _ = ev (der (lst f)) z
        rw [e, wts_ev, der_cons, show ((1 : Nat) : Rat) = 1 from rfl]; grind
      · have hz := lcM_zip (vs := [1, 2]) (g := gT 2 (gsCons (gN 1) (gsCons (gN 2) gsNil))) (t := dTruV 1) (e := dCall f_times (dCons (dVar 2) (dCons (dTup (dCons (dVar 1) (dCons (dC (.int 1)) dNil))) dNil))) (ρ := [.val (pl f), .no, .no]) (enumM 1 (t.map q)) ((wts 1 t).map q) [] (by rw [enumM_len, List.length_map, List.length_map, wts_len]) (by rw [enumM_len, List.length_map]; simp; omega) (by
          intro i m o h1 h2
          rw [enumM_get, List.getElem?_map] at h1
          obtain ⟨m', hm', rfl⟩ := Option.map_eq_some_iff.mp h1
          obtain ⟨b, hb, rfl⟩ := Option.map_eq_some_iff.mp hm'
          rw [List.getElem?_map, wts_get, hb] at h2
          cases h2
          have hi : i < t.length := (List.getElem?_eq_some_iff.mp hb).1
          have hq : MV.tup [.int ((1 + i : Nat) : Int), .int 1] = q (((1 + i : Nat)) : Rat) := rfl
          have b1 : Bd 10 (((1 + i : Nat)) : Rat) := ⟨by show ((1 + i : Nat) : Int).natAbs < _; omega, by show 1 < _; omega⟩
          have ti := times_ok (hc b (List.mem_cons_of_mem _ (List.mem_of_getElem? hb))) b1 h
          rw [← hq] at ti
          have nz : (((1 + i : Nat) : Int) != 0) = true := by simp; omega
          generalize ((1 + i : Nat) : Int) = n at ti nz
          generalize ((1 + i : Nat) : Rat) = r at ti
          refine ⟨[.val (pl f), .val (.int n), .val (q b)], [.val (pl f), .val (.int n), .val (q b)], [.val (pl f), .val (.int n), .val (q b)], rfl, ?_, ?_, rfl⟩
          · simp -implicitDefEqProofs [nz]
          · simp -implicitDefEqProofs [ti, lenOk_of])
        rw [List.map_cons]
        show lcM _ _ _ _ (.tup [.int ((0 : Nat) : Int), q a] :: enumM 1 (t.map q)) [] _ = _
        unfold lcM
        simp -implicitDefEqProofs [hz]
  obtain ⟨W, h1, h2, h3⟩ := key
  have tr := trimmed_ok (m := .lst (W.map q)) (.inr rfl) (by omega)
  rw [show toPo W = D f from Po.ext h2] at tr
  generalize W.map q = G at h3 tr
  have hcall := dCallO_of (f := enumF) (ds := dCons (dVar 0) dNil) (ρ := [.val (pl f), .no, .no]) (ρ1 := [.val (pl f), .no, .no]) (ms := [pl f]) (os := enumM 0 ((lst f).map q)) (by simp -implicitDefEqProofs) rfl
  unfold f_slope
  simp -implicitDefEqProofs [-dCallO_e, fnP, env0, hcall, h3, tr]
end K41
namespace K41
open PySem L2 ML PA
theorem all_true {α : Type} (l : List α) : allF [.lst (l.map fun _ => .bl true)] = some (.bl true) := by
  have : blsM (l.map fun _ => .bl true) = some (l.map fun _ => true) := by
    induction l with
    | nil => rfl
    | cons a l ih =>
      show (blsM (l.map fun _ => .bl true)).bind _ = _
      rw [ih]; rfl
  show (blsM _).bind _ = _
  rw [this, Option.bind_some]
  congr 2
  simp
theorem is_poly_ok {f : Po} (hf : Hb 199 f) (hN : dg f ≤ 25) : f_is_poly [pl f] = some (.bl true) := by
  have hc := hf.cl
  have hlen : (lst f).length ≤ 25 := hN
  have a1 := lcM_zip (vs := [1]) (g := gN 1) (t := dYes) (e := dAndV (d2 eqvM (dPeek lenM 1) (dC (.int 2))) (dCall f_is_fraction (dCons (dVar 1) dNil))) (ρ := [.val (pl f), .no, .no, .no]) ((lst f).map q) ((lst f).map fun _ => .bl true) [] (by simp) (by simp; omega) (by
    intro i m o h1 h2
    rw [List.getElem?_map] at h1
    obtain ⟨c, hci, rfl⟩ := Option.map_eq_some_iff.mp h1
    rw [List.getElem?_map, hci] at h2
    cases h2
    have fr := is_fraction_ok c
    have l2 : lenM (q c) = some (.int 2) := rfl
    refine ⟨_, _, [.val (pl f), .val (q c), .no, .no], rfl, rfl, ?_, rfl⟩
    simp -implicitDefEqProofs [l2, fr])
  have a2 := lcM_zip (vs := [2, 3]) (g := gT 2 (gsCons (gN 2) (gsCons (gN 3) gsNil))) (t := dYes) (e := d2 (cmpM fun i j => decide (i < j)) (dCall maxF (dCons (dCall absF (dCons (dVar 2) dNil)) (dCons (dVar 3) dNil))) (dC (.int (10 ^ 60)))) (ρ := [.val (pl f), .no, .no, .no]) ((lst f).map q) ((lst f).map fun _ => .bl true) [] (by simp) (by simp; omega) (by
    intro i m o h1 h2
    rw [List.getElem?_map] at h1
    obtain ⟨c, hci, rfl⟩ := Option.map_eq_some_iff.mp h1
    rw [List.getElem?_map, hci] at h2
    cases h2
    have b := hc c (List.mem_of_getElem? hci)
    have h3 : decide (max (c.num.natAbs : Int) (c.den : Int) < 10 ^ 60) = true := by
      apply decide_eq_true
      have b1 := b.1
      have b2 := b.2
      have : (2 : Nat) ^ 199 ≤ 10 ^ 60 := by decide +kernel
      have e : ((10 : Int) ^ 60) = ((10 ^ 60 : Nat) : Int) := by decide +kernel
      rw [e]
      omega
    refine ⟨_, _, [.val (pl f), .no, .val (.int c.num), .val (.int c.den)], rfl, rfl, ?_, rfl⟩
    generalize ((10 : Int) ^ 60) = T at h3 ⊢
    simp -implicitDefEqProofs [h3])
  have hle : decide ((24 + 1 : Int) < ((dg f : Nat) : Int)) = false := decide_eq_false (by omega)
  have at1 := all_true (lst f)
  have s1 : dIfS (dOr (dT blM (d2 (cmpM fun i j => decide (j < i)) (dPeek lenM 0) (d2 addM (dC (.int 24)) (dC (.int 1))))) (dNot (dT truM (dCall allF (dCons (dFrz (dLc (dItems (dVar 0)) [1] (gN 1) dYes (dAndV (d2 eqvM (dPeek lenM 1) (dC (.int 2))) (dCall f_is_fraction (dCons (dVar 1) dNil))))) dNil))))) (dRet (dC (.bl false))) dNx [.val (pl f), .no, .no, .no] = some (.nx, [.val (pl f), .no, .no, .no]) := by
    generalize ((lst f).map fun _ => MV.bl true) = G at a1 at1
    have hle' : ¬ (25 : Int) < ((dg f : Nat) : Int) := by omega
    simp -implicitDefEqProofs [len_pl, seq_pl, a1, at1, hle, hle']
  have s2 : dIfS (dNot (dT truM (dCall allF (dCons (dFrz (dLc (dItems (dVar 0)) [2, 3] (gT 2 (gsCons (gN 2) (gsCons (gN 3) gsNil))) dYes (d2 (cmpM fun i j => decide (i < j)) (dCall maxF (dCons (dCall absF (dCons (dVar 2) dNil)) (dCons (dVar 3) dNil))) (dC (.int (10 ^ 60)))))) dNil)))) (dRet (dC (.bl false))) dNx [.val (pl f), .no, .no, .no] = some (.nx, [.val (pl f), .no, .no, .no]) := by
    generalize ((10 : Int) ^ 60) = T at a2 ⊢
    generalize ((lst f).map fun _ => MV.bl true) = G at a2 at1
    simp -implicitDefEqProofs [seq_pl, a2, at1]
  have s3 : dRet (dOrV (dB (dNot (dT truM (dVar 0)))) (d2 nevM (d2 ixM (dIxV 0 (d1 negM (dC (.int 1)))) (dC (.int 0))) (dC (.int 0)))) [.val (pl f), .no, .no, .no] = some (.rt (.bl true), [.val (pl f), .no, .no, .no]) := by
    by_cases h0 : f = 0
    · subst h0
      simp -implicitDefEqProofs [tru_pl0]
    · have hn : (lc f).num ≠ 0 := num_ne (lc_ne h0)
      simp -implicitDefEqProofs [tru_pl h0, ixPL h0, hn]
  have e : f_is_poly = fnP 4 (dSeq (dIfS (dOr (dT blM (d2 (cmpM fun i j => decide (j < i)) (dPeek lenM 0) (d2 addM (dC (.int 24)) (dC (.int 1))))) (dNot (dT truM (dCall allF (dCons (dFrz (dLc (dItems (dVar 0)) [1] (gN 1) dYes (dAndV (d2 eqvM (dPeek lenM 1) (dC (.int 2))) (dCall f_is_fraction (dCons (dVar 1) dNil))))) dNil))))) (dRet (dC (.bl false))) dNx) (dSeq (dIfS (dNot (dT truM (dCall allF (dCons (dFrz (dLc (dItems (dVar 0)) [2, 3] (gT 2 (gsCons (gN 2) (gsCons (gN 3) gsNil))) dYes (d2 (cmpM fun i j => decide (i < j)) (dCall maxF (dCons (dCall absF (dCons (dVar 2) dNil)) (dCons (dVar 3) dNil))) (dC (.int (10 ^ 60)))))) dNil)))) (dRet (dC (.bl false))) dNx) (dRet (dOrV (dB (dNot (dT truM (dVar 0)))) (d2 nevM (d2 ixM (dIxV 0 (d1 negM (dC (.int 1)))) (dC (.int 0))) (dC (.int 0))))))) := rfl
  rw [e]
  unfold fnP
  rw [show env0 4 [pl f] = [.val (pl f), .no, .no, .no] from rfl, seq_nx s1, seq_nx s2, s3]
  rfl
theorem check_poly_ok {f : Po} (hf : Hb 199 f) (hN : dg f ≤ 25) : f_check_poly [pl f] = some .non := by
  have := is_poly_ok hf hN
  unfold f_check_poly
  simp -implicitDefEqProofs [fnP, env0, this]
theorem check_both_ok {f g : Po} (hf : Hb 199 f) (hN : dg f ≤ 25) (hg : Hb 199 g) (hM : dg g ≤ 25) : f_check_both [pl f, pl g] = some .non := by
  have h1 := check_poly_ok hf hN
  have h2 := check_poly_ok hg hM
  unfold f_check_both
  simp -implicitDefEqProofs [fnP, env0, h1, h2]
theorem sum_of_ok {f g : Po} (hf : Hb 199 f) (hN : dg f ≤ 25) (hg : Hb 199 g) (hM : dg g ≤ 25) : f_sum_of [pl f, pl g] = some (pl (f + g)) := by
  have h1 := check_both_ok hf hN hg hM
  have h2 := plus_ok hf hg (by omega) (by omega) (by omega) (by omega) (by omega)
  unfold f_sum_of
  simp -implicitDefEqProofs [fnP, env0, h1, h2]
theorem product_of_ok {f g : Po} (hf : Hb 199 f) (hg : Hb 199 g) (hM : dg f + dg g ≤ 25) : f_product_of [pl f, pl g] = some (pl (f * g)) := by
  have h1 := check_both_ok hf (by omega) hg (by omega)
  have h2 := product_ok hf hg (by omega) (by omega) (by omega)
  have h3 : ¬ (26 : Int) < ((dg f : Nat) : Int) + ((dg g : Nat) : Int) := by omega
  unfold f_product_of
  simp -implicitDefEqProofs [fnP, env0, h1, h2, h3, len_pl]
theorem division_ok {f g Q R : Po} {x y : Nat} (hf : Hb x f) (hx : x ≤ 199) (hN : dg f ≤ 25) (hg : Hb y g) (hy : y ≤ 199) (hM : dg g ≤ 25) (e : f = Q * g + R) (hd : dg R < dg g)
    (c1 : x + (dg f - dg g) * (y + 1) + 2 * y ≤ 9000) (c2 : 2 * (x + (dg f - dg g) * (y + 1)) + y ≤ 9000) : f_division [pl f, pl g] = some (.tup [pl Q, pl R]) := by
  have g0 : g ≠ 0 := fun z => by rw [z, dg_zero] at hd; omega
  have h1 := check_both_ok (hf.mono hx) hN (hg.mono hy) hM
  obtain ⟨Q', R', h2, h3, h4, _⟩ := divided_ok hf hg g0 (by omega) (by omega) c1 c2
  obtain ⟨e1, e2⟩ := div_uniq (h3.symm.trans e) h4 hd
  rw [e1, e2] at h2
  unfold f_division
  simp -implicitDefEqProofs [fnP, env0, h1, h2, tru_pl g0]
theorem common_divisor_ok {f g : Po} {k G x y : Nat} (ok : okE k (dg f) (dg g) G x y = true) (hf : Hb x f) (hx : x ≤ 199) (hN : dg f ≤ 25) (hg : Hb y g) (hy : y ≤ 199) (hM : dg g ≤ 25) (hG : G ≤ dg (gcd f g)) : f_common_divisor [pl f, pl g] = some (pl (gcd f g)) := by
  have h1 := check_both_ok (hf.mono hx) hN (hg.mono hy) hM
  have h2 := common_of_ok ok hf hg hG (by omega) (by omega)
  unfold f_common_divisor
  simp -implicitDefEqProofs [fnP, env0, h1, h2]
theorem Hb.D {f : Po} {x : Nat} (h : Hb x f) (hN : dg f ≤ 16) : Hb (x + 4) (D f) := by
  obtain ⟨d, B, k, h1, h2⟩ := h
  refine ⟨d, 16 * B, k.D hN, ?_, ?_⟩
  · rw [Nat.pow_add]; omega
  · rw [Nat.pow_add]; omega
/-- what divides exactly -/
theorem exact_ok {f g Q : Po} {x y : Nat} (hf : Hb x f) (hg : Hb y g) (g0 : g ≠ 0) (hN : dg f ≤ 1000) (hM : dg g ≤ 1000) (e : f = Q * g)
    (c1 : x + (dg f - dg g) * (y + 1) + 2 * y ≤ 9000) (c2 : 2 * (x + (dg f - dg g) * (y + 1)) + y ≤ 9000) : f_divided [pl f, pl g] = some (.tup [pl Q, pl 0]) := by
  obtain ⟨Q', R', h2, h3, h4, _⟩ := divided_ok hf hg g0 hN hM c1 c2
  obtain ⟨e1, e2⟩ := div_uniq (q' := Q) (r' := 0) (h3.symm.trans (by rw [e]; grind)) h4 (by rw [dg_zero]; exact dg_pos g0)
  rw [e1, e2] at h2
  exact h2
theorem squarefree_of_ok {f Q : Po} {x w v : Nat} (f0 : f ≠ 0) (hf : Hb x f) (hN : dg f ≤ 16) (eQ : f = Q * gcd f (D f)) (hQ : Hb v Q) (hv : 2 * v ≤ 9000) (hw : Hb w (gcd f (D f))) (ok : okE 40 (dg f) (dg (D f)) (dg (gcd f (D f))) x (x + 4) = true)
    (c0 : x + 10 ≤ 9000) (c1 : x + (dg f - dg (gcd f (D f))) * (w + 1) + 2 * w ≤ 9000) (c2 : 2 * (x + (dg f - dg (gcd f (D f))) * (w + 1)) + w ≤ 9000) : f_squarefree_of [pl f] = some (pl (mon Q)) := by
  have hD := Hb.D hf hN
  have gne := gcd_ne (g := D f) f0
  have Q0 : Q ≠ 0 := fun z => f0 (by rw [eQ, z]; grind)
  have hdD : dg (D f) ≤ 16 := by
    have := dg_toPo (der (lst f))
    rw [der_len] at this
    have h3 : dg (D f) ≤ dg f - 1 := this
    omega
  have hdg := (gcd_l f (D f)).dg f0
  have h1 := slope_ok hf c0 (by omega)
  have h2 := common_of_ok ok hf hD (Nat.le_refl _) (by omega) (by omega)
  have h3 := exact_ok hf hw gne (by omega) (by omega) eQ c1 c2
  have hdQ : dg Q ≤ 16 := by
    have := (mul_top Q0 gne).1
    rw [← eQ] at this
    have := dg_pos gne
    omega
  have h4 := monic_ok hQ Q0 hv (by omega)
  unfold f_squarefree_of
  simp -implicitDefEqProofs [fnP, env0, h1, h2, h3, h4]
theorem squarefree_ok {f s : Po} {x : Nat} (f0 : f ≠ 0) (hf : Hb x f) (hx : x ≤ 199) (hN : dg f ≤ 16) (h : f_squarefree_of [pl f] = some (pl s)) : f_squarefree [pl f] = some (pl s) := by
  have h1 := check_poly_ok (hf.mono hx) (by omega)
  unfold f_squarefree
  simp -implicitDefEqProofs [fnP, env0, h1, h, tru_pl f0]
/-- sizes of sums and products of numbers -/
theorem Bd.hn {a : Nat} {r : Rat} (h : Bd a r) : ∃ n : Int, r * (r.den : Rat) = (n : Rat) ∧ n.natAbs ≤ 2 ^ a - 1 := ⟨r.num, mul_den r, by have := h.1; omega⟩
theorem Bd.mul {a b : Nat} {r s : Rat} (h : Bd a r) (k : Bd b s) : Bd (a + b) (r * s) := by
  have e := hn_mul h.hn k.hn
  refine bd_of (Nat.mul_pos r.den_pos s.den_pos) e ?_ ?_
  · rw [Nat.pow_add]; exact Nat.mul_lt_mul'' h.2 k.2
  · rw [Nat.pow_add]
    have := Nat.two_pow_pos a
    have := Nat.two_pow_pos b
    exact Nat.mul_lt_mul'' (by omega) (by omega)
theorem Bd.add {a b : Nat} {r s : Rat} (h : Bd a r) (k : Bd b s) : Bd (a + b + 1) (r + s) := by
  obtain ⟨n, e1, b1⟩ := h.hn
  obtain ⟨m, e2, b2⟩ := k.hn
  have := Nat.two_pow_pos a
  have := Nat.two_pow_pos b
  have p1 : r.den * s.den < 2 ^ a * 2 ^ b := Nat.mul_lt_mul'' h.2 k.2
  have p2 : n.natAbs * s.den < 2 ^ a * 2 ^ b := Nat.mul_lt_mul'' (by omega) k.2
  have p3 : m.natAbs * r.den < 2 ^ a * 2 ^ b := by rw [Nat.mul_comm]; exact Nat.mul_lt_mul'' h.2 (by omega)
  have q1 : (n * (s.den : Int)).natAbs = n.natAbs * s.den := by rw [Int.natAbs_mul, Int.natAbs_natCast]
  have q2 : (m * (r.den : Int)).natAbs = m.natAbs * r.den := by rw [Int.natAbs_mul, Int.natAbs_natCast]
  refine bd_of (d := r.den * s.den) (B := n.natAbs * s.den + m.natAbs * r.den) (Nat.mul_pos r.den_pos s.den_pos) ⟨n * s.den + m * r.den, ?_, by omega⟩ ?_ ?_
  · rw [Rat.natCast_mul, Rat.intCast_add, Rat.intCast_mul, Rat.intCast_mul, ← e1, ← e2]
    show _ = r * (r.den : Rat) * (s.den : Rat) + s * (s.den : Rat) * (r.den : Rat)
    grind
  · rw [Nat.pow_succ, Nat.pow_add]; omega
  · rw [Nat.pow_succ, Nat.pow_add]; omega
/-- the rest of a list from the top down -/
def hor (x : Rat) : List Rat → Rat → Rat
  | [], u => u
  | a :: l, u => hor x l (u * x + a)
theorem hor_ev (x : Rat) : ∀ (l : List Rat) (u : Rat), hor x l.reverse u = ev l x + u * x ^ l.length := by
  have app : ∀ (l : List Rat) (a u : Rat), hor x (l ++ [a]) u = hor x l u * x + a := by
    intro l
    induction l with
    | nil => intro a u; rfl
    | cons b l ih => intro a u; exact ih a (u * x + b)
  intro l
  induction l with
  | nil => intro u; simp only [List.reverse_nil, hor, ev, List.length_nil]; grind
  | cons a l ih =>
    intro u
    rw [List.reverse_cons, app, ih, ev_cons, List.length_cons]; grind
theorem value_loop {f : Po} {x : Rat} {b : Nat} (hx : Bd 3 x) : ∀ (l : List Rat) (u : Rat) (c : Nat) (s : Sl), Cl b l → Bd c u → c + l.length * (b + 4) ≤ 4000 → b ≤ 4000 →
    (∃ s', forM (gN 3) (dSet 2 (dVal (dCall f_add (dCons (dCall f_times (dCons (dVar 2) (dCons (dVar 1) dNil))) (dCons (dVar 3) dNil))))) (l.map q) [.val (pl f), .val (q x), .val (q u), s] = some (.nx, [.val (pl f), .val (q x), .val (q (hor x l u)), s'])) ∧
    (∃ s', forM (gN 3) (dSet 2 (dVal (dCall f__law_add (dCons (dCall f__law_times (dCons (dVar 2) (dCons (dVar 1) dNil))) (dCons (dVar 3) dNil))))) (l.map q) [.val (pl f), .val (q x), .val (q u), s] = some (.nx, [.val (pl f), .val (q x), .val (q (hor x l u)), s']))
  | [], u, c, s, _, _, _, _ => ⟨⟨s, rfl⟩, ⟨s, rfl⟩⟩
  | a :: l, u, c, s, hl, hu, hc, hb => by
    have ha := hl a List.mem_cons_self
    simp only [List.length_cons, Nat.add_mul, Nat.one_mul] at hc
    have m := hu.mul hx
    have ad := m.add ha
    obtain ⟨⟨s1, e1⟩, ⟨s2, e2⟩⟩ := value_loop (f := f) hx l (u * x + a) (c + 3 + b + 1) (.val (q a)) (fun d hd => hl d (List.mem_cons_of_mem _ hd)) ad (by omega) hb
    have t1 := times_ok hu hx (by omega)
    have t2 := add_ok m ha (by omega)
    have t3 := law_times_ok hu hx (by omega)
    have t4 := law_add_ok m ha (by omega)
    refine ⟨⟨s1, ?_⟩, ⟨s2, ?_⟩⟩
    · rw [List.map_cons, forM_cons]
      simp -implicitDefEqProofs [t1, t2, e1, hor]
    · rw [List.map_cons, forM_cons]
      simp -implicitDefEqProofs [t3, t4, e2, hor]
theorem value_at_ok {f : Po} {x : Rat} {b : Nat} (hf : Hb b f) (hx : Bd 3 x) (h : 1 + dg f * (b + 4) ≤ 4000) (hb : b ≤ 4000) : f_value_at [pl f, q x] = some (q (f.1 x)) ∧ f__law_at [pl f, q x] = some (q (f.1 x)) := by
  obtain ⟨⟨s1, e1⟩, ⟨s2, e2⟩⟩ := value_loop (f := f) hx (lst f).reverse 0 1 .no (fun c hc => hf.cl c (by simpa using hc)) (bd0 (Nat.le_refl _)) (by rw [List.length_reverse]; exact h) hb
  have hv : hor x (lst f).reverse 0 = f.1 x := by rw [hor_ev, ev_lst]; grind
  rw [hv, q_zero] at e1 e2
  have hr : revM (pl f) = some (.tup ((lst f).reverse.map q)) := by
    unfold pl
    show some (MV.tup ((lst f).map q).reverse) = _
    rw [List.map_reverse]
  generalize (lst f).reverse.map q = G at e1 e2 hr
  constructor
  · unfold f_value_at
    simp -implicitDefEqProofs [fnP, env0, hr, e1]
  · unfold f__law_at
    simp -implicitDefEqProofs [fnP, env0, hr, e2, lenOk_of]
theorem value_of_ok {f : Po} {x : Rat} {b : Nat} (hf : Hb b f) (hx : Bd 3 x) (h : 1 + dg f * (b + 4) ≤ 4000) (hb : b ≤ 199) (hN : dg f ≤ 25) : f_value_of [pl f, q x] = some (q (f.1 x)) := by
  have h1 := check_poly_ok (hf.mono hb) hN
  have h2 := is_fraction_ok x
  have h3 := (value_at_ok hf hx h (by omega)).1
  unfold f_value_of
  simp -implicitDefEqProofs [fnP, env0, h1, h2, h3]
end K41
namespace K41
open PySem L2 ML PA
theorem law_by_ok {a b : Nat} {r s : Rat} (hr : Bd a r) (hs : Bd b s) (h : a + b ≤ 9000) (h0 : s ≠ 0) : f__law_by [q r, q s] = some (q (r / s)) := by
  have hn := num_ne h0
  have hd : 0 < r.den * s.num.natAbs ∧ r.den * s.num.natAbs < 2 ^ 9000 := by
    refine ⟨Nat.mul_pos r.den_pos (by omega), ?_⟩
    have h1 : r.den * s.num.natAbs < 2 ^ a * 2 ^ b := Nat.mul_lt_mul'' hr.2 hs.1
    rw [← Nat.pow_add] at h1
    exact Nat.lt_of_lt_of_le h1 (Nat.pow_le_pow_right (by omega) h)
  have hval : ∀ g : Int, (g = 1 ∨ g = -1) → (s.num.natAbs : Int) = g * s.num → mkRat (g * r.num * s.den) (r.den * s.num.natAbs) = r / s := by
    intro g hg e
    rw [Rat.mkRat_eq_div]
    have d1 := mul_den r
    have d2 := mul_den s
    have n1 := natR r.den_nz
    have n2 := natR s.den_nz
    have n3 := intR hn
    have e' : ((s.num.natAbs : Nat) : Rat) = (g : Rat) * (s.num : Rat) := by
      rw [← Rat.intCast_mul, ← e]; rfl
    have n4 : (g : Rat) ≠ 0 := intR (by omega)
    rw [Rat.natCast_mul, e', Rat.intCast_mul, Rat.intCast_mul, ← d1, ← d2]
    rw [show (((s.den : Nat) : Int) : Rat) = (s.den : Rat) from rfl]
    rw [← d2] at n3
    grind
  have m1 : ∀ (g i : Int), (g = 1 ∨ g = -1) → i.natAbs < 2 ^ a → mulM (.int g) (.int i) = some (.int (g * i)) := fun g i hg hi => mulB (a := 1) (b := a) (by rcases hg with rfl | rfl <;> decide) hi (by omega)
  have m2 : ∀ (g i j : Int), (g = 1 ∨ g = -1) → i.natAbs < 2 ^ a → j.natAbs < 2 ^ b → mulM (.int (g * i)) (.int j) = some (.int (g * i * j)) := fun g i j hg hi hj => mulB (a := a) (b := b) (by rw [Int.natAbs_mul]; rcases hg with rfl | rfl <;> simpa using hi) hj (by omega)
  have key : ∀ g : Int, (g = 1 ∨ g = -1) → (s.num.natAbs : Int) = g * s.num → (if 0 < s.num then (1 : Int) else -1) = g → f__law_by [q r, q s] = some (q (r / s)) := by
    intro g hg e hif
    have l := law_lowest_ok (t := g * r.num * s.den) hd.1 hd.2
    rw [hval g hg e] at l
    have c1 := m1 g r.num hg hr.1
    have c2 := m2 g r.num s.den hg hr.1 (by simpa using hs.2)
    have c3 := m1 g r.den hg (by simpa using hr.2)
    have c4 := m2 g r.den s.num hg (by simpa using hr.2) hs.1
    have e2 : g * (r.den : Int) * s.num = ((r.den * s.num.natAbs : Nat) : Int) := by
      rw [Int.natCast_mul, e]; grind
    rw [e2] at c4
    clear e2
    generalize ((r.den * s.num.natAbs : Nat) : Int) = L at l c4
    generalize g * r.num * (s.den : Int) = T at c2 l
    generalize g * r.num = A at c1 c2
    generalize g * (r.den : Int) = B at c3 c4
    unfold f__law_by
    by_cases hp : 0 < s.num
    · rw [if_pos hp] at hif
      subst hif
      simp -implicitDefEqProofs [fnP, env0, hp, c1, c2, c3, c4, l]
    · rw [if_neg hp] at hif
      subst hif
      simp -implicitDefEqProofs [fnP, env0, hp, c1, c2, c3, c4, l]
  by_cases hp : 0 < s.num
  · exact key 1 (.inl rfl) (by omega) (if_pos hp)
  · exact key (-1) (.inr rfl) (by omega) (if_neg hp)
theorem law_monic_ok {f : Po} {x : Nat} (hf : Hb x f) (h0 : f ≠ 0) (h : 2 * x ≤ 9000) (hN : dg f ≤ 1000) : f__law_monic [pl f] = some (pl (mon f)) := by
  have hc := hf.cl
  have ixl := ixPL h0
  have lc1 := hc _ (lc_mem h0)
  have hz := lcM_zip (vs := [1]) (g := gN 1) (t := dYes) (e := dCall f__law_by (dCons (dVar 1) (dCons (dIxV 0 (d1 negM (dC (.int 1)))) dNil))) (ρ := [.val (pl f), .no]) ((lst f).map q) (((lst f).map fun c => c / lc f).map q) [] (by simp) (by simp; show dg f ≤ _; omega) (by
    intro i m o h1 h2
    rw [List.getElem?_map] at h1
    obtain ⟨c, hci, rfl⟩ := Option.map_eq_some_iff.mp h1
    rw [List.getElem?_map, List.getElem?_map, hci] at h2
    cases h2
    have b := law_by_ok (hc c (List.mem_of_getElem? hci)) lc1 (by omega) (lc_ne h0)
    refine ⟨_, _, [.val (pl f), .val (q c)], rfl, rfl, ?_, rfl⟩
    simp -implicitDefEqProofs [ixl, b])
  unfold f__law_monic
  rw [show pl (mon f) = .tup (((lst f).map fun c => c / lc f).map q) by unfold pl; rw [lst_mon h0]]
  generalize ((lst f).map fun c => c / lc f).map q = G at hz ⊢
  simp -implicitDefEqProofs [fnP, env0, seq_pl, hz]
theorem lst_one : lst 1 = [1] := (top_of (f := 1) (l := []) (c := 1) (by decide) fun x => by rw [one_v]; simp only [List.nil_append, ev]; grind).1
theorem pl_one : pl 1 = .tup [.tup [.int 1, .int 1]] := by unfold pl; rw [lst_one]; rfl
theorem law_power_ok {f : Po} {n X y : Nat} (hf : Hb y f) (h : 2 * (X + y) + 10 ≤ 9000) (df : dg f ≤ 30) (hp : ∀ k, k < n → Hb X (f ^ k) ∧ dg (f ^ k) ≤ 30) (hn : n ≤ 1000) : f__law_power [pl f, .int n] = some (pl (f ^ n)) := by
  obtain ⟨ρ', e1, s, rfl⟩ := forM_inv (g := gN 3) (b := dSet 2 (dVal (dCall f__law_mul (dCons (dVar 2) (dCons (dVar 0) dNil))))) (ms := rng 0 n) (ρ := [.val (pl f), .val (.int n), .val (pl 1), .no])
    (fun i ρ => ∃ s, ρ = [.val (pl f), .val (.int n), .val (pl (f ^ i)), s]) ⟨.no, by rw [pow_z]⟩ (by
      rintro i m ρ hm ⟨s, rfl⟩
      obtain ⟨hi, rfl⟩ := rng_get hm
      obtain ⟨h1, h2⟩ := hp i hi
      have mu := law_mul_ok h1 hf h h2 df
      rw [← pow_s] at mu
      refine ⟨[.val (pl f), .val (.int n), .val (pl (f ^ i)), .val (.int (0 + i))], [.val (pl f), .val (.int n), .val (pl (f ^ (i + 1))), .val (.int (0 + i))], rfl, ?_, _, rfl⟩
      simp -implicitDefEqProofs [mu])
  rw [rng_len] at e1
  have hcall := rngN (ρ := [.val (pl f), .val (.int n), .val (pl 1), .no]) (i := 1) (n := n) rfl (by omega)
  have s1 : dSet 2 (dVal (dTup (dCons (dTup (dCons (dC (.int 1)) (dCons (dC (.int 1)) dNil))) dNil))) [.val (pl f), .val (.int n), .no, .no] = some (.nx, [.val (pl f), .val (.int n), .val (pl 1), .no]) := by
    rw [pl_one]
    simp -implicitDefEqProofs [lenOk_of]
  unfold f__law_power fnP
  rw [show env0 4 [pl f, .int n] = [.val (pl f), .val (.int n), .no, .no] from rfl, seq_nx s1, seq_nx (for_of hcall e1)]
  rfl

/-! ### parts by how often they come -/
noncomputable def prodP : Nat → List Po → Po
  | _, [] => 1
  | i, p :: L => p ^ i * prodP (i + 1) L
/-- parts, each 1 at the top, free of squares, in S, no two with a divisor in common -/
structure Parts (S : Po) (L : List Po) : Prop where
  top : ∀ p ∈ L, lc p = 1
  sqf : ∀ p ∈ L, Sqf p
  dv : ∀ p ∈ L, Dv p S
  cop : ∀ (a b : Nat) (p r : Po), a < b → L[a]? = some p → L[b]? = some r → gcd p r = 1
noncomputable abbrev pBody : DS := dSeq (dSet 5 (dVal (dCall f_common_of (dCons (dVar 3) (dCons (dVar 4) dNil))))) (dSeq (dDo (dApp 1 (d2 ixM (dCall f_divided (dCons (dVar 4) (dCons (dVar 5) dNil))) (dC (.int 0))))) (dPar 4 3 (dVal (dVar 5)) (dVal (d2 ixM (dCall f_divided (dCons (dVar 3) (dCons (dVar 5) dNil))) (dC (.int 0))))))
noncomputable abbrev pTest : DT := dT blM (d2 (cmpM fun i j => decide (j < i)) (dCall f_degree (dCons (dVar 4) dNil)) (dC (.int 0)))
theorem degree_ok (f : Po) : f_degree [pl f] = some (.int ((dg f : Nat) - 1)) := by
  unfold f_degree
  simp -implicitDefEqProofs [fnP, env0, len_pl]
theorem lc_of_mul {f g : Po} (h : lc (f * g) = 1) (hg : lc g = 1) : lc f = 1 := by
  have h0 := lc1_ne h
  have hf : f ≠ 0 := fun z => h0 (by rw [z]; grind)
  have := (mul_top hf (lc1_ne hg)).2
  rw [h, hg] at this
  grind
theorem parts_while {P S f here : Po} {x y : Nat} (hP : lc P = 1) (dP : dg P ≤ 14) (bF : ∀ s, lc s = 1 → Dv s P → Hb x s) (bR : ∀ s, lc s = 1 → Dv s S → Hb y s) (hS : lc S = 1)
    (hok : ∀ (i : Nat) (F R : Po), 1 ≤ i → lc F = 1 → lc R = 1 → Dv (F * R ^ i) P → Dv R S → (i = 1 → Dv R F) → okE 40 (dg F) (dg R) (dg (gcd F R)) x y = true)
    (c1 : x + 14 * (y + 1) + 2 * y ≤ 9000) (c2 : 2 * (x + 14 * (y + 1)) + y ≤ 9000) (c3 : y + 14 * (y + 1) + 2 * y ≤ 9000) (c4 : 2 * (y + 14 * (y + 1)) + y ≤ 9000) :
    ∀ (n i : Nat) (F R : Po) (acc : List MV) (s5 : Sl), dg F + dg R ≤ n → acc.length + n ≤ 100 → 1 ≤ i → lc F = 1 → lc R = 1 → Dv (F * R ^ i) P → Dv R S → Sqf R → (i = 1 → Dv R F) → (∀ u, Pr u → Dv u F → Dv u R) →
      ∃ (L : List Po) (s3 s4 s5' : Sl), dWhile pTest pBody [.val (pl f), .own false acc, .val (pl here), .val (pl F), .val (pl R), s5] = some (.nx, [.val (pl f), .own false (acc ++ L.map pl), .val (pl here), s3, s4, s5']) ∧ F * R ^ i = prodP i L ∧ Parts R L ∧ L.length + 1 ≤ n := by
  intro n
  induction n with
  | zero =>
    intro i F R acc s5 h _ _ hF
    have := dg_pos (lc1_ne hF)
    omega
  | succ n ih =>
    intro i F R acc s5 hn hacc hi hF hR hdv hRS hsq hi1 hpr
    have R0 := lc1_ne hR
    have F0 := lc1_ne hF
    have pR := dg_pos R0
    have pF := dg_pos F0
    have P0 := lc1_ne hP
    have S0 := lc1_ne hS
    by_cases hd : dg R = 1
    · have R1 : R = 1 := by rw [dg_one_is hd, hR]; rfl
      have F1 : F = 1 := one_of hF fun u hu d => by
        have := hpr u hu d
        rw [R1] at this
        have := this.dg one_ne
        rw [dg_one] at this
        have := hu.deg
        omega
      refine ⟨[], .val (pl F), .val (pl R), s5, ?_, ?_, ⟨fun p hp => (nomatch hp), fun p hp => (nomatch hp), fun p hp => (nomatch hp), fun a b p r _ h _ => by simp at h⟩, by simp⟩
      · rw [while_end (ρ1 := [.val (pl f), .own false acc, .val (pl here), .val (pl F), .val (pl R), s5])]
        · simp
        · simp -implicitDefEqProofs [degree_ok]; omega
      · subst R1 F1
        show 1 * 1 ^ i = (1 : Po)
        have : ∀ k : Nat, (1 : Po) ^ k = 1 := fun k => by
          induction k with
          | zero => rfl
          | succ k ih => rw [pow_s, ih]; grind
        rw [this]; grind
    · -- one more
      obtain ⟨p, hp⟩ := gcd_r F R
      obtain ⟨F', hF'⟩ := gcd_l F R
      have hSl : lc (gcd F R) = 1 := gcd_lc F0
      have hok1 := hok i F R hi hF hR hdv hRS hi1
      generalize hSS : gcd F R = T at hp hF' hSl hok1
      have T0 := lc1_ne hSl
      have pT := dg_pos T0
      have hp' : R = p * T := by rw [hp]; grind
      have hF'' : F = F' * T := by rw [hF']; grind
      have lp : lc p = 1 := lc_of_mul (by rw [← hp', hR]) hSl
      have lF' : lc F' = 1 := lc_of_mul (by rw [← hF'', hF]) hSl
      have p0 := lc1_ne lp
      have F'0 := lc1_ne lF'
      have dF := (mul_top F'0 T0).1
      have dR := (mul_top p0 T0).1
      rw [← hF''] at dF
      rw [← hp'] at dR
      have pp := dg_pos p0
      have pF' := dg_pos F'0
      have dFP : Dv F P := (Dv.left F (R ^ i)).trans hdv
      have dTS : Dv T S := Dv.trans (g := R) ⟨p, hp⟩ hRS
      have hFx := bF F hF dFP
      have hRy := bR R hR hRS
      have hTy := bR T hSl dTS
      have dgF := dFP.dg P0
      have dgR : dg R ≤ dg P := by
        have : Dv R P := by
          obtain ⟨k, rfl⟩ : ∃ k, i = k + 1 := ⟨i - 1, by omega⟩
          exact ((Dv.right R (R ^ k)).mul_left F).trans hdv
        exact this.dg P0
      have k1 := common_of_ok hok1 hFx hRy (by rw [hSS]; exact Nat.le_refl _) (by omega) (by omega)
      rw [hSS] at k1
      have m1 : (dg R - dg T) * (y + 1) ≤ 14 * (y + 1) := Nat.mul_le_mul_right _ (by omega)
      have m2 : (dg F - dg T) * (y + 1) ≤ 14 * (y + 1) := Nat.mul_le_mul_right _ (by omega)
      have k2 := exact_ok hRy hTy T0 (by omega) (by omega) hp' (by omega) (by omega)
      have k3 := exact_ok hFx hTy T0 (by omega) (by omega) hF'' (by omega) (by omega)
      have copT : gcd p T = 1 := one_of (gcd_lc p0) fun u hu d => hsq u hu (by
        rw [hp']
        exact (d.trans (gcd_l p T)).mul (d.trans (gcd_r p T)))
      have e1 : F * R ^ i = p ^ i * (F' * T ^ (i + 1)) := by
        have : ∀ (a b : Po) (k : Nat), (a * b) ^ k = a ^ k * b ^ k := fun a b k => by
          induction k with
          | zero => rw [pow_z, pow_z, pow_z]; grind
          | succ k ih => rw [pow_s, pow_s, pow_s, ih]; grind
        rw [hp', this, hF'', pow_s]; grind
      obtain ⟨L, s3, s4, s5', w, eL, pts, hL⟩ := ih (i + 1) F' T (acc ++ [pl p]) (.val (pl T)) (by
          by_cases t1 : dg T = 1
          · have hd1 : dg R ≠ 1 := hd
            omega
          · omega) (by rw [List.length_append]; simp only [List.length_cons, List.length_nil]; omega) (by omega) lF' hSl (by
          refine Dv.trans ?_ hdv
          rw [e1]; exact Dv.right _ _) dTS (hsq.dv ⟨p, hp⟩) (fun z => absurd z (by omega)) (fun u hu d => by
          have d1 : Dv u F := by rw [hF'']; exact d.mul_right T
          have d2 := hpr u hu d1
          rw [← hSS]
          exact dv_gcd d1 d2)
      refine ⟨p :: L, s3, s4, s5', ?_, ?_, ?_, by simp only [List.length_cons]; omega⟩
      · have hdT : decide ((0 : Int) < ((dg R : Nat) : Int) - 1) = true := decide_eq_true (by omega)
        rw [while_go (ρ1 := [.val (pl f), .own false acc, .val (pl here), .val (pl F), .val (pl R), s5]) (ρ2 := [.val (pl f), .own false (acc ++ [pl p]), .val (pl here), .val (pl F'), .val (pl T), .val (pl T)]), w]
        · rw [List.map_cons, List.append_assoc]; rfl
        · simp -implicitDefEqProofs [degree_ok]; omega
        · have hlen : lenOk (acc.length + 1) = true := lenOk_of (by omega)
          simp -implicitDefEqProofs [k1, k2, k3, hlen]
      · rw [e1, eL]; rfl
      · refine ⟨?_, ?_, ?_, ?_⟩
        · intro r hr
          rcases List.mem_cons.mp hr with rfl | hr
          · exact lp
          · exact pts.top r hr
        · intro r hr
          rcases List.mem_cons.mp hr with rfl | hr
          · exact hsq.dv ⟨T, hp'⟩
          · exact pts.sqf r hr
        · intro r hr
          rcases List.mem_cons.mp hr with rfl | hr
          · exact ⟨T, hp'⟩
          · exact Dv.trans (pts.dv r hr) ⟨p, hp⟩
        · intro a b r t hab h1 h2
          match a, b, hab with
          | 0, b + 1, _ =>
            simp at h1 h2
            subst h1
            have dt : Dv t T := pts.dv t (List.mem_of_getElem? h2)
            refine one_of (gcd_lc p0) fun u hu d => ?_
            have : Dv u (gcd p T) := dv_gcd (d.trans (gcd_l p t)) ((d.trans (gcd_r p t)).trans dt)
            rw [copT] at this
            have := this.dg one_ne
            rw [dg_one] at this
            have := hu.deg
            omega
          | a + 1, b + 1, hab =>
            exact pts.cop a b r t (by omega) (by simpa using h1) (by simpa using h2)
end K41
namespace K41
open PySem L2 ML PA
theorem free_parts_ok {f S : Po} {z x y : Nat} (f0 : f ≠ 0) (hf : Hb z f) (hz : 2 * z ≤ 8000) (dP : dg f ≤ 14) (eS : mon f = S * gcd (mon f) (D (mon f))) (hSG : Dv S (gcd (mon f) (D (mon f))))
    (bF : ∀ s, lc s = 1 → Dv s (mon f) → Hb x s) (bR : ∀ s, lc s = 1 → Dv s S → Hb y s)
    (hok : ∀ (i : Nat) (F R : Po), 1 ≤ i → lc F = 1 → lc R = 1 → Dv (F * R ^ i) (mon f) → Dv R S → (i = 1 → Dv R F) → okE 40 (dg F) (dg R) (dg (gcd F R)) x y = true)
    (ok : okE 40 (dg (mon f)) (dg (D (mon f))) (dg (gcd (mon f) (D (mon f)))) z (z + 4) = true)
    (c1 : x + 14 * (y + 1) + 2 * y ≤ 9000) (c2 : 2 * (x + 14 * (y + 1)) + y ≤ 9000) (c3 : y + 14 * (y + 1) + 2 * y ≤ 9000) (c4 : 2 * (y + 14 * (y + 1)) + y ≤ 9000)
    (c5 : z + 14 * (x + 1) + 2 * x ≤ 9000) (c6 : 2 * (z + 14 * (x + 1)) + x ≤ 9000) :
    ∃ L, f_free_parts [pl f] = some (.lst (L.map pl)) ∧ mon f = prodP 1 L ∧ Parts S L ∧ L.length ≤ 40 := by
  have mt := mon_top f0
  have P0 := lc1_ne mt.2
  have hP := hf.mon f0
  have m1 := monic_ok hf f0 (by omega) (by omega)
  generalize mon f = P at *
  have G1 : lc (gcd P (D P)) = 1 := gcd_lc P0
  have k := rad_pr P0 rfl eS
  have dvG : Dv (gcd P (D P)) P := gcd_l _ _
  have hG := bF _ G1 dvG
  have hD := Hb.D hP (by omega)
  have dD : dg (D P) ≤ dg P := by
    have := dg_toPo (der (lst P))
    rw [der_len] at this
    have h3 : dg (D P) ≤ dg P - 1 := this
    omega
  have m2 := slope_ok hP (by omega) (by omega)
  have m3 := common_of_ok ok hP hD (Nat.le_refl _) (by omega) (by omega)
  have dG := dvG.dg P0
  have q1 : (dg P - dg (gcd P (D P))) * (x + 1) ≤ 14 * (x + 1) := Nat.mul_le_mul_right _ (by omega)
  have m4 := exact_ok hP hG (lc1_ne G1) (by omega) (by omega) eS (by omega) (by omega)
  generalize gcd P (D P) = G at *
  have S1 : lc S = 1 := lc_of_mul (by rw [← eS]; exact mt.2) G1
  have dS : dg S ≤ dg P := (show Dv S P from ⟨G, eS⟩).dg P0
  obtain ⟨L, s3, s4, s5, w, eL, pts, hL⟩ := parts_while (f := f) (here := P) mt.2 (by omega) bF bR S1 hok c1 c2 c3 c4 40 1 G S [] .no (by omega) (by simp) (by omega) G1 S1 (by
      rw [show G * S ^ 1 = P by rw [eS, pow_s, pow_z]; grind]
      exact Dv.refl P) (Dv.refl S) k.1 (fun _ => hSG) (fun u hu d => k.2 u hu (d.trans dvG))
  refine ⟨L, ?_, ?_, pts, by omega⟩
  · have s1 : dPar 1 2 (dOwn (dLst dNil)) (dVal (dCall f_monic (dCons (dVar 0) dNil))) [.val (pl f), .no, .no, .no, .no, .no] = some (.nx, [.val (pl f), .own false [], .val (pl P), .no, .no, .no]) := by
      simp -implicitDefEqProofs [m1, lenOk_of]
    have s2 : dSet 3 (dVal (dCall f_common_of (dCons (dVar 2) (dCons (dCall f_slope (dCons (dVar 2) dNil)) dNil)))) [.val (pl f), .own false [], .val (pl P), .no, .no, .no] = some (.nx, [.val (pl f), .own false [], .val (pl P), .val (pl G), .no, .no]) := by
      simp -implicitDefEqProofs [m2, m3]
    have s3' : dSet 4 (dVal (d2 ixM (dCall f_divided (dCons (dVar 2) (dCons (dVar 3) dNil))) (dC (.int 0)))) [.val (pl f), .own false [], .val (pl P), .val (pl G), .no, .no] = some (.nx, [.val (pl f), .own false [], .val (pl P), .val (pl G), .val (pl S), .no]) := by
      simp -implicitDefEqProofs [m4]
    have e : f_free_parts = fnP 6 (dSeq (dPar 1 2 (dOwn (dLst dNil)) (dVal (dCall f_monic (dCons (dVar 0) dNil)))) (dSeq (dSet 3 (dVal (dCall f_common_of (dCons (dVar 2) (dCons (dCall f_slope (dCons (dVar 2) dNil)) dNil))))) (dSeq (dSet 4 (dVal (d2 ixM (dCall f_divided (dCons (dVar 2) (dCons (dVar 3) dNil))) (dC (.int 0))))) (dSeq (dWhile pTest pBody) (dRet (dVar 1)))))) := rfl
    rw [e]
    unfold fnP
    rw [show env0 6 [pl f] = [.val (pl f), .no, .no, .no, .no, .no] from rfl, seq_nx s1, seq_nx s2, seq_nx s3', seq_nx w]
    simp -implicitDefEqProofs
  · rw [← eL, eS, pow_s, pow_z]; grind
theorem squarefree_parts_ok {f : Po} {L : List Po} (f0 : f ≠ 0) (hf : Hb 199 f) (hN : dg f ≤ 25) (h : f_free_parts [pl f] = some (.lst (L.map pl))) : f_squarefree_parts [pl f] = some (.tup (L.map pl)) := by
  have h1 := check_poly_ok hf hN
  generalize L.map pl = G at h ⊢
  unfold f_squarefree_parts
  simp -implicitDefEqProofs [fnP, env0, h1, h, tru_pl f0]

/-! ### whole forms -/
structure Wh (f : Po) (W : List Int) : Prop where
  len : W.length = dg f
  pm : Pm W
  pos : ∃ w, W.getLast? = some w ∧ 0 < w
  eq : ∃ c : Rat, c ≠ 0 ∧ f = cst c * toI W
theorem Wh.tr {f : Po} {W : List Int} (h : Wh f W) : Tr (ci W) := tr_of fun a ha => by
  obtain ⟨w, e, p⟩ := h.pos
  unfold ci at ha
  rw [List.getLast?_map, e] at ha
  cases ha
  exact intR (by omega)
theorem Wh.lst {f : Po} {W : List Int} (h : Wh f W) : lst (toI W) = ci W := by unfold toI; rw [lst_toPo, h.tr]
theorem Wh.uniq {f g : Po} {W V : List Int} (h : Wh f W) (k : Wh g V) {r : Rat} (hr : r ≠ 0) (e : f = cst r * g) : W = V := by
  obtain ⟨a, ha, ea⟩ := h.eq
  obtain ⟨b, hb, eb⟩ := k.eq
  have c0 : a ≠ 0 := ha
  have i1 := cst_inv ha
  have i2 : cst (r * b) * cst (1 / (r * b)) = 1 := cst_inv (by grind)
  have e1 : toI W = cst (r * b / a) * toI V := by
    have : toI W = cst (1 / a) * (cst a * toI W) := by grind
    rw [this, ← ea, e, eb]
    have : cst (r * b / a) = cst (1 / a) * (cst r * cst b) := by rw [← cst_mul, ← cst_mul]; congr 1; grind
    rw [this]; grind
  have e2 : toI V = cst (a / (r * b)) * toI W := by
    rw [e1]
    have : cst (a / (r * b)) * cst (r * b / a) = 1 := by rw [← cst_mul]; exact congrArg cst (by grind)
    grind
  have d1 := den_one k.pm e1
  have d2 := den_one h.pm e2
  generalize hc : r * b / a = c at e1 d1
  have hc0 : c ≠ 0 := by rw [← hc]; grind
  have hinv : a / (r * b) = 1 / c := by rw [← hc]; grind
  rw [hinv] at d2 e2
  have c1 := rat_int d1
  have c2 := rat_int d2
  have hp : c.num * (1 / c).num = 1 := by
    apply Rat.intCast_inj.mp
    rw [Rat.intCast_mul, ← c1, ← c2]
    show c * (1 / c) = 1
    grind
  have hu : c.num = 1 ∨ c.num = -1 := by
    have h1 := congrArg Int.natAbs hp
    rw [Int.natAbs_mul] at h1
    have h2 : c.num.natAbs = 1 := Nat.dvd_one.mp ⟨_, h1.symm⟩
    omega
  -- the leading ones
  obtain ⟨w, hw, pw⟩ := h.pos
  obtain ⟨v, hv, pv⟩ := k.pos
  have lw : lc (toI W) = (w : Rat) := by unfold lc; rw [h.lst, ci, List.getLast?_map, hw]; rfl
  have lv : lc (toI V) = (v : Rat) := by unfold lc; rw [k.lst, ci, List.getLast?_map, hv]; rfl
  have v0 : toI V ≠ 0 := fun z => by
    have : lc (toI V) = 0 := by rw [z, lc_zero]
    rw [lv] at this
    exact intR (show v ≠ 0 by omega) this
  have lm := (mul_top (cst_ne hc0) v0).2
  rw [← e1, lw, lv, (dg_cst hc0).2, c1, ← Rat.intCast_mul] at lm
  have lm := Rat.intCast_inj.mp lm
  have hone : c.num = 1 := by
    rcases hu with u | u
    · exact u
    · rw [u] at lm; omega
  have : toI W = toI V := by
    rw [e1, c1, hone, show cst ((1 : Int) : Rat) = 1 from rfl]; grind
  have e3 : ci W = ci V := by rw [← h.lst, ← k.lst, this]
  have inj : ∀ {l m : List Int}, ci l = ci m → l = m := by
    intro l
    induction l with
    | nil =>
      intro m hm
      cases m with
      | nil => rfl
      | cons b m => simp [ci] at hm
    | cons a l ih =>
      intro m hm
      cases m with
      | nil => simp [ci] at hm
      | cons b m =>
        unfold ci at hm
        rw [List.map_cons, List.map_cons] at hm
        have h1 := (List.cons.inj hm).1
        have h2 := (List.cons.inj hm).2
        rw [Rat.intCast_inj.mp h1, ih h2]
  exact inj e3
theorem whole_of_ok {f : Po} {b : Nat} (hf : Hb b f) (hb : b ≤ 4000) (f0 : f ≠ 0) (hN : dg f ≤ 1000) : ∃ W, f_whole_of [pl f] = some (.tup (W.map MV.int)) ∧ Wh f W ∧ ∀ w ∈ W, w.natAbs < 2 ^ (b + b) := by
  have hlen : (lst f).length ≤ 1000 := hN
  have hcl := hf.cl
  obtain ⟨d, B, hH, hd, hB⟩ := hf
  have hden : ∀ c ∈ lst f, c.den ∣ d := fun c hc => by
    obtain ⟨n, e, _⟩ := hH.2 c hc
    have k : c.num * (d : Int) = n * (c.den : Int) := by
      have m := mul_den c
      apply Rat.intCast_inj.mp
      rw [Rat.intCast_mul, Rat.intCast_mul, ← e, ← m]
      show c * (c.den : Rat) * (d : Rat) = c * (d : Rat) * (c.den : Rat)
      grind
    have k' : c.num.natAbs * d = n.natAbs * c.den := by
      have := congrArg Int.natAbs k
      rwa [Int.natAbs_mul, Int.natAbs_mul, Int.natAbs_natCast, Int.natAbs_natCast] at this
    exact c.reduced.symm.dvd_of_dvd_mul_left (by rw [k']; exact Nat.dvd_mul_left _ _)
  -- the common denominator
  obtain ⟨ρ1, e1, low, s2, s3, rfl, l1, l2, l3⟩ := forM_inv (g := gT 2 (gsCons (gN 2) (gsCons (gN 3) gsNil))) (b := dSet 1 (dVal (d2 fdivM (d2 mulM (dVar 1) (dVar 3)) (dCall f_common (dCons (dVar 1) (dCons (dVar 3) dNil))))))
    (ms := (lst f).map q) (ρ := [.val (pl f), .val (.int ((1 : Nat) : Int)), .no, .no, .no, .no, .no, .no])
    (fun i ρ => ∃ (low : Nat) (s2 s3 : Sl), ρ = [.val (pl f), .val (.int (low : Int)), s2, s3, .no, .no, .no, .no] ∧ 0 < low ∧ low ∣ d ∧ ∀ k c, k < i → (lst f)[k]? = some c → c.den ∣ low)
    ⟨1, .no, .no, rfl, by omega, Nat.one_dvd _, fun k c hk => by omega⟩ (by
      rintro i m ρ hm ⟨low, s2, s3, rfl, l1, l2, l3⟩
      rw [List.getElem?_map] at hm
      obtain ⟨c, hc, rfl⟩ := Option.map_eq_some_iff.mp hm
      have hcm := List.mem_of_getElem? hc
      have bc := hcl c hcm
      have hlow : low < 2 ^ b := Nat.lt_of_le_of_lt (Nat.le_of_dvd hH.1 l2) hd
      have g1 : 0 < Nat.gcd low c.den := Nat.gcd_pos_of_pos_left _ l1
      have g2 : Nat.gcd low c.den ≤ low := Nat.le_of_dvd l1 (Nat.gcd_dvd_left _ _)
      have mu := mulB (i := (low : Int)) (j := (c.den : Int)) (a := b) (b := b) (by simpa using hlow) (by simpa using bc.2) (by omega)
      have co := common_ok c.den low
      have fd := fdivM_i (i := (low : Int) * (c.den : Int)) (j := ((Nat.gcd low c.den : Nat) : Int)) (by omega) (log2_lt (Nat.lt_of_lt_of_le (Nat.lt_of_le_of_lt (show ((Nat.gcd low c.den : Nat) : Int).natAbs ≤ low by simpa using g2) hlow) (Nat.pow_le_pow_right (by omega) (show b ≤ 9000 by omega))) (by omega))
      have ev1 : (low : Int) * (c.den : Int) / ((Nat.gcd low c.den : Nat) : Int) = ((Nat.lcm low c.den : Nat) : Int) := rfl
      rw [ev1] at fd
      have dvl : Nat.lcm low c.den ∣ d := Nat.lcm_dvd l2 (hden c hcm)
      have p := Nat.pos_of_dvd_of_pos dvl hH.1
      refine ⟨[.val (pl f), .val (.int (low : Int)), .val (.int c.num), .val (.int c.den), .no, .no, .no, .no], [.val (pl f), .val (.int ((Nat.lcm low c.den : Nat) : Int)), .val (.int c.num), .val (.int c.den), .no, .no, .no, .no], rfl, ?_, Nat.lcm low c.den, _, _, rfl, p, dvl, fun k c' hk hc' => ?_⟩
      · generalize ((Nat.lcm low c.den : Nat) : Int) = T at fd ⊢
        generalize ((Nat.gcd low c.den : Nat) : Int) = T2 at fd co
        simp -implicitDefEqProofs [mu, co, fd]
      · by_cases hki : k = i
        · subst hki
          rw [hc] at hc'
          cases hc'
          exact Nat.dvd_lcm_right _ _
        · exact Nat.dvd_trans (l3 k c' (by omega) hc') (Nat.dvd_lcm_left _ _))
  rw [List.length_map] at l3
  have hall : ∀ c ∈ lst f, c.den ∣ low := fun c hc => by
    obtain ⟨k, hk, e⟩ := List.getElem_of_mem hc
    exact l3 k c hk (by rw [List.getElem?_eq_getElem hk, e])
  have hlow : low < 2 ^ b := Nat.lt_of_le_of_lt (Nat.le_of_dvd hH.1 l2) hd
  have low0 := natR (d := low) (by omega)
  -- the whole numbers
  generalize hI : ((lst f).map fun c => c.num * ((low / c.den : Nat) : Int)) = I
  have hIv : ∀ c ∈ lst f, ((c.num * ((low / c.den : Nat) : Int) : Int) : Rat) = (low : Rat) * c := fun c hc => by
    obtain ⟨t, ht⟩ := hall c hc
    have : low / c.den = t := by rw [ht]; exact Nat.mul_div_cancel_left _ c.den_pos
    rw [this, Rat.intCast_mul, ← mul_den c]
    have : (low : Rat) = (c.den : Rat) * (t : Rat) := by rw [← Rat.natCast_mul, ← ht]
    rw [this]
    show c * (c.den : Rat) * (t : Rat) = _
    grind
  have hIe : toI I = cst (low : Rat) * f := Po.ext fun x => by
    have : ci I = lsc (low : Rat) (lst f) := by
      rw [← hI]
      unfold ci lsc
      rw [List.map_map]
      exact List.map_congr_left fun c hc => hIv c hc
    unfold toI
    rw [toPo_v, this, ev_lsc, ev_lst]; rfl
  have hIlen : I.length = dg f := by rw [← hI, List.length_map]; rfl
  have hIb : ∀ n ∈ I, n.natAbs < 2 ^ (b + b) := fun n hn => by
    rw [← hI] at hn
    obtain ⟨c, hc, rfl⟩ := List.mem_map.mp hn
    rw [Int.natAbs_mul, Int.natAbs_natCast, Nat.pow_add]
    exact Nat.mul_lt_mul'' (hcl c hc).1 (Nat.lt_of_le_of_lt (Nat.div_le_self _ _) hlow)
  have e2 := lcM_zip (vs := [7, 3]) (g := gT 2 (gsCons (gN 7) (gsCons (gN 3) gsNil))) (t := dYes) (e := d2 mulM (dVar 7) (d2 fdivM (dVar 1) (dVar 3))) (ρ := [.val (pl f), .val (.int (low : Int)), s2, .no, .no, .no, .no, .no]) ((lst f).map q) (I.map MV.int) [] (by rw [List.length_map, List.length_map, hIlen]; rfl) (by simp; omega) (by
    intro i m o h1 h2
    rw [List.getElem?_map] at h1
    obtain ⟨c, hc, rfl⟩ := Option.map_eq_some_iff.mp h1
    rw [← hI, List.getElem?_map, List.getElem?_map, hc] at h2
    cases h2
    have bc := hcl c (List.mem_of_getElem? hc)
    have fd := fdivM_i (i := (low : Int)) (j := (c.den : Int)) (by have := c.den_pos; omega) (log2_lt (Nat.lt_of_lt_of_le (show ((c.den : Nat) : Int).natAbs < 2 ^ b by simpa using bc.2) (Nat.pow_le_pow_right (by omega) (show b ≤ 9000 by omega))) (by omega))
    have fd' : fdivM (.int (low : Int)) (.int (c.den : Int)) = some (.int ((low / c.den : Nat) : Int)) := fd
    have mu := mulB (i := c.num) (j := ((low / c.den : Nat) : Int)) (a := b) (b := b) bc.1 (by
      have := Nat.div_le_self low c.den
      rw [Int.natAbs_natCast]; omega) (by omega)
    refine ⟨_, _, [.val (pl f), .val (.int (low : Int)), s2, .val (.int c.den), .no, .no, .no, .val (.int c.num)], rfl, rfl, ?_, rfl⟩
    clear fd
    show _ = some (MV.int (c.num * ((low / c.den : Nat) : Int)), _)
    generalize ((low / c.den : Nat) : Int) = T at fd' mu ⊢
    simp -implicitDefEqProofs [fd', mu])
  rw [List.nil_append] at e2
  -- what goes into all
  obtain ⟨ρ3, e3, g0, s5, rfl, k1, k2⟩ := forM_inv (g := gN 5) (b := dSet 3 (dVal (dIf (dTruV 3) (dCall f_common (dCons (dCall absF (dCons (dVar 5) dNil)) (dCons (dVar 3) dNil))) (dCall absF (dCons (dVar 5) dNil)))))
    (ms := I.map MV.int) (ρ := [.val (pl f), .val (.int (low : Int)), s2, .val (.int ((0 : Nat) : Int)), .val (.lst (I.map MV.int)), .no, .no, .no])
    (fun i ρ => ∃ (g0 : Nat) (s5 : Sl), ρ = [.val (pl f), .val (.int (low : Int)), s2, .val (.int (g0 : Int)), .val (.lst (I.map MV.int)), s5, .no, .no] ∧ (∀ k n, k < i → I[k]? = some n → g0 ∣ n.natAbs) ∧ ∀ e : Nat, (∀ k n, k < i → I[k]? = some n → e ∣ n.natAbs) → e ∣ g0)
    ⟨0, .no, rfl, fun k n hk => by omega, fun e _ => Nat.dvd_zero _⟩ (by
      rintro i m ρ hm ⟨g0, s5, rfl, k1, k2⟩
      rw [List.getElem?_map] at hm
      obtain ⟨n, hn, rfl⟩ := Option.map_eq_some_iff.mp hm
      have co := common_ok g0 n.natAbs
      refine ⟨[.val (pl f), .val (.int (low : Int)), s2, .val (.int (g0 : Int)), .val (.lst (I.map MV.int)), .val (.int n), .no, .no], [.val (pl f), .val (.int (low : Int)), s2, .val (.int ((Nat.gcd n.natAbs g0 : Nat) : Int)), .val (.lst (I.map MV.int)), .val (.int n), .no, .no], rfl, ?_, Nat.gcd n.natAbs g0, _, rfl, fun k n' hk hn' => ?_, fun e he => ?_⟩
      · by_cases z : g0 = 0
        · subst z
          rw [Nat.gcd_zero_right]
          simp -implicitDefEqProofs
        · have nz : ((g0 : Int) != 0) = true := by simp; omega
          generalize ((Nat.gcd n.natAbs g0 : Nat) : Int) = T at co ⊢
          simp -implicitDefEqProofs [nz, co]
      · by_cases hki : k = i
        · subst hki
          rw [hn] at hn'
          cases hn'
          exact Nat.gcd_dvd_left _ _
        · exact Nat.dvd_trans (Nat.gcd_dvd_right _ _) (k1 k n' (by omega) hn')
      · exact Nat.dvd_gcd (he i n (by omega) hn) (k2 e fun k n' hk hn' => he k n' (by omega) hn'))
  rw [List.length_map] at k1 k2
  have hg : ∀ n ∈ I, g0 ∣ n.natAbs := fun n hn => by
    obtain ⟨k, hk, e⟩ := List.getElem_of_mem hn
    exact k1 k n hk (by rw [List.getElem?_eq_getElem hk, e])
  -- the last one
  have hI0 : I ≠ [] := fun z => by
    subst z
    have := dg_pos f0
    simp at hIlen; omega
  obtain ⟨n1, hn1⟩ : ∃ n, I.getLast? = some n := ⟨_, List.getLast?_eq_some_getLast hI0⟩
  have hn1m : n1 ∈ I := List.mem_of_getLast? hn1
  have hlast : ((n1 : Int) : Rat) = (low : Rat) * lc f := by
    rw [← hI, List.getLast?_map, last_lst f0] at hn1
    cases hn1
    exact hIv _ (lc_mem f0)
  have n1z : n1 ≠ 0 := fun z => by
    rw [z, show ((0 : Int) : Rat) = 0 from rfl] at hlast
    have := lc_ne f0
    grind
  have g0p : 0 < g0 := Nat.pos_of_dvd_of_pos (hg n1 hn1m) (by omega)
  have g0b : g0 < 2 ^ 9000 := Nat.lt_of_le_of_lt (Nat.le_of_dvd (by omega) (hg n1 hn1m)) (Nat.lt_of_lt_of_le (hIb n1 hn1m) (Nat.pow_le_pow_right (by omega) (by omega)))
  obtain ⟨s, hs, hs1⟩ : ∃ s : Int, (s = 1 ∨ s = -1) ∧ (if 0 < n1 then (1 : Int) else -1) = s := by
    by_cases z : 0 < n1
    · exact ⟨1, .inl rfl, if_pos z⟩
    · exact ⟨-1, .inr rfl, if_neg z⟩
  have hs2 : 0 < s * n1 := by
    rw [← hs1]
    split
    · omega
    · omega
  have hdv : ∀ n ∈ I, (g0 : Int) ∣ s * n := fun n hn => Int.dvd_mul_of_dvd_right (Int.ofNat_dvd_left.mpr (hg n hn))
  generalize hW : (I.map fun n => s * n / (g0 : Int)) = W
  have e4 := lcM_zip (vs := [5]) (g := gN 5) (t := dYes) (e := d2 fdivM (d2 mulM (dVar 6) (dVar 5)) (dVar 3)) (ρ := [.val (pl f), .val (.int (low : Int)), s2, .val (.int (g0 : Int)), .val (.lst (I.map MV.int)), .no, .val (.int s), .no]) (I.map MV.int) (W.map MV.int) [] (by rw [← hW]; simp) (by simp; omega) (by
    intro i m o h1 h2
    rw [List.getElem?_map] at h1
    obtain ⟨n, hn, rfl⟩ := Option.map_eq_some_iff.mp h1
    rw [← hW, List.getElem?_map, List.getElem?_map, hn] at h2
    cases h2
    have mu := mulB (i := s) (j := n) (a := 1) (b := b + b) (by rcases hs with rfl | rfl <;> decide) (hIb n (List.mem_of_getElem? hn)) (by omega)
    have fd := fdivM_i (i := s * n) (j := (g0 : Int)) (by omega) (log2_lt (show ((g0 : Nat) : Int).natAbs < 2 ^ 9000 by simpa using g0b) (by omega))
    refine ⟨_, _, [.val (pl f), .val (.int (low : Int)), s2, .val (.int (g0 : Int)), .val (.lst (I.map MV.int)), .val (.int n), .val (.int s), .no], rfl, rfl, ?_, rfl⟩
    simp -implicitDefEqProofs [mu, fd])
  rw [List.nil_append] at e4
  refine ⟨W, ?_, ?_, fun w hw => ?_⟩
  · have ix : ixM (.lst (I.map MV.int)) (.int (-1)) = some (.int n1) := by
      rw [ixM_last (ms := I.map MV.int) rfl (by simpa using List.length_pos_iff.mpr hI0), List.getLast?_map, hn1]; rfl
    have r1 : dSet 1 (dVal (dC (.int 1))) [.val (pl f), .no, .no, .no, .no, .no, .no, .no] = some (.nx, [.val (pl f), .val (.int ((1 : Nat) : Int)), .no, .no, .no, .no, .no, .no]) := rfl
    have r2 := for_of (dj := dItems (dVar 0)) (ρ := [.val (pl f), .val (.int ((1 : Nat) : Int)), .no, .no, .no, .no, .no, .no]) (ms := (lst f).map q) (by simp -implicitDefEqProofs [seq_pl]) e1
    have r3 : dSet 4 (dVal (dFrz (dLc (dItems (dVar 0)) [7, 3] (gT 2 (gsCons (gN 7) (gsCons (gN 3) gsNil))) dYes (d2 mulM (dVar 7) (d2 fdivM (dVar 1) (dVar 3)))))) [.val (pl f), .val (.int (low : Int)), s2, s3, .no, .no, .no, .no] = some (.nx, [.val (pl f), .val (.int (low : Int)), s2, .no, .val (.lst (I.map MV.int)), .no, .no, .no]) := by
      generalize I.map MV.int = G at e2 ⊢
      simp -implicitDefEqProofs [seq_pl, e2]
    have r4 : dSet 3 (dVal (dC (.int 0))) [.val (pl f), .val (.int (low : Int)), s2, .no, .val (.lst (I.map MV.int)), .no, .no, .no] = some (.nx, [.val (pl f), .val (.int (low : Int)), s2, .val (.int ((0 : Nat) : Int)), .val (.lst (I.map MV.int)), .no, .no, .no]) := rfl
    have r5 := for_of (dj := dItems (dVar 4)) (ρ := [.val (pl f), .val (.int (low : Int)), s2, .val (.int ((0 : Nat) : Int)), .val (.lst (I.map MV.int)), .no, .no, .no]) (ms := I.map MV.int) (by simp -implicitDefEqProofs) e3
    have r6 : dSet 6 (dVal (dIf (dT blM (d2 (cmpM fun i j => decide (j < i)) (dIxV 4 (d1 negM (dC (.int 1)))) (dC (.int 0)))) (dC (.int 1)) (d1 negM (dC (.int 1))))) [.val (pl f), .val (.int (low : Int)), s2, .val (.int (g0 : Int)), .val (.lst (I.map MV.int)), s5, .no, .no] = some (.nx, [.val (pl f), .val (.int (low : Int)), s2, .val (.int (g0 : Int)), .val (.lst (I.map MV.int)), s5, .val (.int s), .no]) := by
      generalize I.map MV.int = G at ix ⊢
      by_cases z : 0 < n1
      · rw [if_pos z] at hs1
        subst hs1
        simp -implicitDefEqProofs [ix, z]
      · rw [if_neg z] at hs1
        subst hs1
        simp -implicitDefEqProofs [ix, z]
    have r7 : dRet (dCall tupF (dCons (dFrz (dLc (dItems (dVar 4)) [5] (gN 5) dYes (d2 fdivM (d2 mulM (dVar 6) (dVar 5)) (dVar 3)))) dNil)) [.val (pl f), .val (.int (low : Int)), s2, .val (.int (g0 : Int)), .val (.lst (I.map MV.int)), s5, .val (.int s), .no] = some (.rt (.tup (W.map MV.int)), [.val (pl f), .val (.int (low : Int)), s2, .val (.int (g0 : Int)), .val (.lst (I.map MV.int)), .no, .val (.int s), .no]) := by
      generalize I.map MV.int = G at e4 ⊢
      generalize W.map MV.int = G2 at e4 ⊢
      simp -implicitDefEqProofs [e4]
    have e : f_whole_of = fnP 8 (dSeq (dSet 1 (dVal (dC (.int 1)))) (dSeq (dFor (dItems (dVar 0)) (gT 2 (gsCons (gN 2) (gsCons (gN 3) gsNil))) (dSet 1 (dVal (d2 fdivM (d2 mulM (dVar 1) (dVar 3)) (dCall f_common (dCons (dVar 1) (dCons (dVar 3) dNil))))))) (dSeq (dSet 4 (dVal (dFrz (dLc (dItems (dVar 0)) [7, 3] (gT 2 (gsCons (gN 7) (gsCons (gN 3) gsNil))) dYes (d2 mulM (dVar 7) (d2 fdivM (dVar 1) (dVar 3))))))) (dSeq (dSet 3 (dVal (dC (.int 0)))) (dSeq (dFor (dItems (dVar 4)) (gN 5) (dSet 3 (dVal (dIf (dTruV 3) (dCall f_common (dCons (dCall absF (dCons (dVar 5) dNil)) (dCons (dVar 3) dNil))) (dCall absF (dCons (dVar 5) dNil)))))) (dSeq (dSet 6 (dVal (dIf (dT blM (d2 (cmpM fun i j => decide (j < i)) (dIxV 4 (d1 negM (dC (.int 1)))) (dC (.int 0)))) (dC (.int 1)) (d1 negM (dC (.int 1)))))) (dRet (dCall tupF (dCons (dFrz (dLc (dItems (dVar 4)) [5] (gN 5) dYes (d2 fdivM (d2 mulM (dVar 6) (dVar 5)) (dVar 3)))) dNil))))))))) := rfl
    rw [e]
    unfold fnP
    rw [show env0 8 [pl f] = [.val (pl f), .no, .no, .no, .no, .no, .no, .no] from rfl, seq_nx r1, seq_nx r2, seq_nx r3, seq_nx r4, seq_nx r5, seq_nx r6, r7]
    rfl
  · have hWI : I.map (s * ·) = W.map ((g0 : Int) * ·) := by
      rw [← hW, List.map_map]
      exact List.map_congr_left fun n hn => (Int.mul_ediv_cancel' (hdv n hn)).symm
    have hWe : cst (((g0 : Nat) : Int) : Rat) * toI W = cst (s : Rat) * toI I := by rw [ci_sc, ci_sc, hWI]
    refine ⟨by rw [← hW, List.length_map, hIlen], fun p hp hall' => ?_, ?_, ?_⟩
    · -- a prime more would go into all
      have h1 : g0 * p ∣ g0 := k2 (g0 * p) fun k n hk hn => by
        have hnm := List.mem_of_getElem? hn
        obtain ⟨t, ht⟩ := hall' (s * n / (g0 : Int)) (by rw [← hW]; exact List.mem_map.mpr ⟨n, hnm, rfl⟩)
        have h2 := Int.mul_ediv_cancel' (hdv n hnm)
        rw [ht] at h2
        have h3 := congrArg Int.natAbs h2
        rw [Int.natAbs_mul, Int.natAbs_mul, Int.natAbs_natCast, Int.natAbs_natCast] at h3
        have h4 : (s * n).natAbs = n.natAbs := by rcases hs with rfl | rfl <;> simp
        rw [h4] at h3
        exact ⟨t.natAbs, by rw [← h3, Nat.mul_assoc]⟩
      have h2 := Nat.le_of_dvd g0p h1
      have h3 : g0 * 2 ≤ g0 * p := Nat.mul_le_mul_left _ hp.two
      omega
    · refine ⟨s * n1 / (g0 : Int), by rw [← hW, List.getLast?_map, hn1]; rfl, ?_⟩
      have h2 := Int.mul_ediv_cancel' (hdv n1 hn1m)
      apply Classical.byContradiction
      intro hneg
      have : (g0 : Int) * (s * n1 / (g0 : Int)) ≤ 0 := Int.mul_nonpos_of_nonneg_of_nonpos (by omega) (by omega)
      omega
    · have gz : (((g0 : Nat) : Int) : Rat) ≠ 0 := intR (by omega)
      have sz : (s : Rat) ≠ 0 := intR (by rcases hs with rfl | rfl <;> decide)
      refine ⟨(((g0 : Nat) : Int) : Rat) / ((s : Rat) * (low : Rat)), by grind, ?_⟩
      rw [hIe] at hWe
      have i1 : cst ((s : Rat) * (low : Rat)) * cst (1 / ((s : Rat) * (low : Rat))) = 1 := cst_inv (by grind)
      have : cst ((((g0 : Nat) : Int) : Rat) / ((s : Rat) * (low : Rat))) = cst (1 / ((s : Rat) * (low : Rat))) * cst (((g0 : Nat) : Int) : Rat) := by rw [← cst_mul]; congr 1; grind
      rw [this]
      rw [cst_mul] at i1
      have : cst (1 / ((s : Rat) * (low : Rat))) * cst (((g0 : Nat) : Int) : Rat) * toI W = cst (1 / ((s : Rat) * (low : Rat))) * (cst (((g0 : Nat) : Int) : Rat) * toI W) := by grind
      rw [this, hWe]; grind
  · rw [← hW] at hw
    obtain ⟨n, hn, rfl⟩ := List.mem_map.mp hw
    have h2 := Int.mul_ediv_cancel' (hdv n hn)
    have h3 := congrArg Int.natAbs h2
    rw [Int.natAbs_mul, Int.natAbs_natCast] at h3
    have h4 : (s * n).natAbs = n.natAbs := by rcases hs with rfl | rfl <;> simp
    rw [h4] at h3
    have h5 : (s * n / (g0 : Int)).natAbs ≤ g0 * (s * n / (g0 : Int)).natAbs := Nat.le_mul_of_pos_left _ g0p
    have h6 := hIb n hn
    omega
theorem whole_form_ok {f : Po} {b : Nat} (hf : Hb b f) (hb : b ≤ 199) (f0 : 2 ≤ dg f) (hN : dg f ≤ 25) : ∃ W, f_whole_form [pl f] = some (.tup (W.map MV.int)) ∧ Wh f W ∧ ∀ w ∈ W, w.natAbs < 2 ^ (b + b) := by
  have fz : f ≠ 0 := fun z => by rw [z, dg_zero] at f0; omega
  obtain ⟨W, h, k⟩ := whole_of_ok hf (by omega) fz (by omega)
  have h1 := check_poly_ok (hf.mono hb) hN
  refine ⟨W, ?_, k⟩
  generalize W.map MV.int = G at h ⊢
  have h3 : ¬ ((dg f : Nat) : Int) < 2 := by omega
  unfold f_whole_form
  simp -implicitDefEqProofs [fnP, env0, h1, h, h3, len_pl]
end K41
namespace ML
theorem if_then {t : DT} {a b : DS} {ρ ρ1 : MEnv} (h : t ρ = some (true, ρ1)) : dIfS t a b ρ = a ρ1 := by
  rw [dIfS_e, h]; rfl
theorem if_else {t : DT} {a b : DS} {ρ ρ1 : MEnv} (h : t ρ = some (false, ρ1)) : dIfS t a b ρ = b ρ1 := by
  rw [dIfS_e, h]; rfl
theorem forM_brk {g : DG} {b : DS} (I : Nat → MEnv → Prop) {ms : List MV} {ρ : MEnv} (h0 : I 0 ρ)
    (h : ∀ (i : Nat) (m : MV) (ρ : MEnv), ms[i]? = some m → I i ρ → ∃ ρ1 ρ2, g m ρ = some ρ1 ∧ ((b ρ1 = some (.nx, ρ2) ∧ I (i + 1) ρ2) ∨ (b ρ1 = some (.bk, ρ2) ∧ I i ρ2))) : ∃ k ρ', k ≤ ms.length ∧ forM g b ms ρ = some (.nx, ρ') ∧ I k ρ' := by
  have key : ∀ (ns : List MV) (k : Nat) (ρ : MEnv), (∀ i, ns[i]? = ms[k + i]?) → k + ns.length = ms.length → I k ρ → ∃ j ρ', j ≤ ms.length ∧ forM g b ns ρ = some (.nx, ρ') ∧ I j ρ' := by
    intro ns
    induction ns with
    | nil => intro k ρ _ hl hI; exact ⟨k, ρ, by simp at hl; omega, rfl, hI⟩
    | cons m ns ih =>
      intro k ρ he hl hI
      obtain ⟨ρ1, ρ2, e1, h2⟩ := h k m ρ (by have := he 0; simpa using this.symm) hI
      rcases h2 with ⟨e2, hI2⟩ | ⟨e2, hI2⟩
      · obtain ⟨j, ρ', hj, e3, hI3⟩ := ih (k + 1) ρ2 (fun i => by have := he (i + 1); rw [show k + (i + 1) = k + 1 + i by omega] at this; simpa using this) (by simp only [List.length_cons] at hl; omega) hI2
        refine ⟨j, ρ', hj, ?_, hI3⟩
        rw [forM_cons, e1]
        simp only [Option.bind_some, e2, e3]
      · refine ⟨k, ρ2, by omega, ?_, hI2⟩
        rw [forM_cons, e1]
        simp only [Option.bind_some, e2]
  exact key ms 0 ρ (fun i => by rw [Nat.zero_add]) (by simp) h0
theorem lcM_inv {vs : List Nat} {g : DG} {t : DT} {e : DE} (I : MEnv → Prop) (O : MV → Prop)
    (h : ∀ (m : MV) (ρ : MEnv), I ρ → ∃ ρ1 ρ2 ρ3 o, g m ρ = some ρ1 ∧ t ρ1 = some (true, ρ2) ∧ e ρ2 = some (o, ρ3) ∧ O o ∧ I (wipeM ρ3 vs)) :
    ∀ (ms acc : List MV) (ρ : MEnv), acc.length + ms.length ≤ 100000 → I ρ → ∃ os ρ', lcM vs g t e ms acc ρ = some (acc ++ os, ρ') ∧ I ρ' ∧ (∀ o ∈ os, O o) ∧ os.length = ms.length
  | [], acc, ρ, _, hI => ⟨[], ρ, by simp [lcM], hI, by simp, rfl⟩
  | m :: ms, acc, ρ, hn, hI => by
    obtain ⟨ρ1, ρ2, ρ3, o, e1, e2, e3, hO, hI2⟩ := h m ρ hI
    simp only [List.length_cons] at hn
    obtain ⟨os, ρ', e4, hI3, hOs, hl⟩ := lcM_inv I O h ms (acc ++ [o]) (wipeM ρ3 vs) (by simp; omega) hI2
    refine ⟨o :: os, ρ', ?_, hI3, ?_, by simp [hl]⟩
    · unfold lcM
      simp only [e1, e2, e3, Option.bind_some, if_true, lenOk_of (show acc.length + 1 ≤ 100000 by omega)]
      rw [e4]
      simp
    · intro o' ho'
      rcases List.mem_cons.mp ho' with rfl | ho'
      · exact hO
      · exact hOs o' ho'
end ML
namespace K41
open PySem L2 ML PA
/-- draws: whole numbers below 1000 -/
def Dr (ms : List MV) : Prop := ∀ m ∈ ms, ∃ i : Int, m = .int i ∧ 0 ≤ i ∧ i < 1000
theorem Dr.nil : Dr [] := fun m h => nomatch h
theorem Dr.app {a b : List MV} (h : Dr a) (k : Dr b) : Dr (a ++ b) := fun m hm => (List.mem_append.mp hm).elim (h m) (k m)
theorem Dr.one {i : Int} (h0 : 0 ≤ i) (h1 : i < 1000) : Dr [.int i] := fun m hm => by
  rw [List.mem_singleton] at hm
  exact ⟨i, hm, h0, h1⟩
theorem law_number_ok (i : Int) : f__law_number [.int i] = some (.int i.natAbs) := by
  unfold f__law_number
  by_cases h : i < 0
  · have : 0 - i = (i.natAbs : Int) := by omega
    simp -implicitDefEqProofs [fnP, env0, h]; omega
  · have : i = (i.natAbs : Int) := by omega
    simp -implicitDefEqProofs [fnP, env0, h]; omega
theorem law_draws_ok (ns : List Int) (hn : ns.length ≤ 63) : ∃ ds, f__law_draws [.scr (ns.map MV.int)] = some ds ∧ Dr ds ∧ ds.length ≤ 10000 := by
  have rng60 : dCallO rng1F (dCons (dC (.int 60)) dNil) = fun ρ => some (rng 0 60, ρ) := funext fun ρ => dCallO_of (ms := [.int ((60 : Nat) : Int)]) (by simp) (rngL 60 (by omega))
  obtain ⟨ρ', e1, ds, s2, s3, s4, s5, s6, rfl, hd, hl⟩ := forM_inv (g := gN 2) (b := (dSeq (dSet 3 (dVal (dCall f__law_number (dCons (dVar 2) dNil)))) (dIfS (dT blM (d2 (cmpM fun i j => decide (j ≤ i)) (dVar 3) (dC (.int 1000000000000000000)))) (dFor (dCallO rng1F (dCons (dC (.int 60)) dNil)) (gN 4) (dSeq (dIfS (dT blM (d2 eqvM (dVar 3) (dC (.int 0)))) dBk dNx) (dSeq (dDo (dApp 1 (d2 modM (dCall intF (dCons (dVar 3) dNil)) (dC (.int 1000))))) (dSet 3 (dVal (d2 fdivM (dVar 3) (dC (.int 1000)))))))) (dSeq (dSet 5 (dVal (d2 modM (dCall intF (dCons (d2 addM (d2 mulM (dVar 3) (dC (.int 48271))) (dC (.int 11))) dNil)) (dC (.int 2147483647))))) (dSeq (dSet 6 (dVal (d2 modM (dCall intF (dCons (d2 addM (d2 mulM (dVar 5) (dC (.int 69621))) (dVar 3)) dNil)) (dC (.int 2147483629))))) (dDo (dExt 1 (dFrz (dLst (dCons (d2 modM (dCall intF (dCons (dVar 3) dNil)) (dC (.int 1000))) (dCons (d2 modM (dCall intF (dCons (dVar 5) dNil)) (dC (.int 1000))) (dCons (d2 modM (dCall intF (dCons (dVar 6) dNil)) (dC (.int 1000))) dNil))))))))))))
    (ms := ns.map MV.int) (ρ := [.val (.scr (ns.map MV.int)), .own false [], .no, .no, .no, .no, .no])
    (fun i ρ => ∃ ds s2 s3 s4 s5 s6, ρ = [.val (.scr (ns.map MV.int)), .own false ds, s2, s3, s4, s5, s6] ∧ Dr ds ∧ ds.length ≤ 60 * i)
    ⟨[], _, _, _, _, _, rfl, Dr.nil, by simp⟩ (by
      rintro i m ρ hm ⟨ds, s2, s3, s4, s5, s6, rfl, hd, hl⟩
      have hi : i < 63 := by
        have := (List.getElem?_eq_some_iff.mp hm).1
        rw [List.length_map] at this; omega
      rw [List.getElem?_map] at hm
      obtain ⟨c, hc, rfl⟩ := Option.map_eq_some_iff.mp hm
      generalize hS : MV.scr (ns.map MV.int) = S
      have nb := law_number_ok c
      generalize c.natAbs = a at nb
      have s1 : dSet 3 (dVal (dCall f__law_number (dCons (dVar 2) dNil))) [.val S, .own false ds, .val (.int c), s3, s4, s5, s6] = some (.nx, [.val S, .own false ds, .val (.int c), .val (.int (a : Int)), s4, s5, s6]) := by
        simp -implicitDefEqProofs [nb]
      by_cases hbig : (1000000000000000000 : Int) ≤ (a : Int)
      · obtain ⟨k, ρ2, hk, e2, ds2, r2, s4', rfl, hd2, hl2⟩ := forM_brk (g := gN 4) (b := dSeq (dIfS (dT blM (d2 eqvM (dVar 3) (dC (.int 0)))) dBk dNx) (dSeq (dDo (dApp 1 (d2 modM (dCall intF (dCons (dVar 3) dNil)) (dC (.int 1000))))) (dSet 3 (dVal (d2 fdivM (dVar 3) (dC (.int 1000)))))))
          (ms := rng 0 60) (ρ := [.val S, .own false ds, .val (.int c), .val (.int (a : Int)), s4, s5, s6])
          (fun k ρ => ∃ (ds2 : List MV) (r : Nat) (s4' : Sl), ρ = [.val S, .own false ds2, .val (.int c), .val (.int (r : Int)), s4', s5, s6] ∧ Dr ds2 ∧ ds2.length ≤ ds.length + k)
          ⟨ds, a, s4, rfl, hd, by omega⟩ (by
            rintro k m ρ hm ⟨ds2, r, s4', rfl, hd2, hl2⟩
            have hk : k < 60 := by
              have := (List.getElem?_eq_some_iff.mp hm).1
              rwa [rng_len] at this
            by_cases z : r = 0
            · subst z
              refine ⟨[.val S, .own false ds2, .val (.int c), .val (.int ((0 : Nat) : Int)), .val m, s5, s6], [.val S, .own false ds2, .val (.int c), .val (.int ((0 : Nat) : Int)), .val m, s5, s6], rfl, .inr ⟨?_, ds2, 0, _, rfl, hd2, hl2⟩⟩
              simp -implicitDefEqProofs
            · have m1 : modM (.int (r : Int)) (.int 1000) = some (.int ((r % 1000 : Nat) : Int)) := modM_i (by omega)
              have f1 : fdivM (.int (r : Int)) (.int 1000) = some (.int ((r / 1000 : Nat) : Int)) := fdivM_i (by omega) (by decide)
              have lo : lenOk (ds2.length + 1) = true := lenOk_of (by omega)
              have dr1 : Dr [.int ((r % 1000 : Nat) : Int)] := Dr.one (by omega) (by omega)
              refine ⟨[.val S, .own false ds2, .val (.int c), .val (.int (r : Int)), .val m, s5, s6], [.val S, .own false (ds2 ++ [.int ((r % 1000 : Nat) : Int)]), .val (.int c), .val (.int ((r / 1000 : Nat) : Int)), .val m, s5, s6], rfl, .inl ⟨?_, ds2 ++ [.int ((r % 1000 : Nat) : Int)], r / 1000, _, rfl, hd2.app dr1, by simp; omega⟩⟩
              generalize ((r % 1000 : Nat) : Int) = T1 at m1 ⊢
              generalize ((r / 1000 : Nat) : Int) = T2 at f1 ⊢
              have z' : ((r : Int) == 0) = false := by simpa using z
              simp -implicitDefEqProofs [m1, f1, lo, z'])
        rw [rng_len] at hk
        refine ⟨[.val S, .own false ds, .val (.int c), s3, s4, s5, s6], [.val S, .own false ds2, .val (.int c), .val (.int (r2 : Int)), s4', s5, s6], rfl, ?_, ds2, _, _, _, _, _, rfl, hd2, by omega⟩
        rw [seq_nx s1]
        have hdec : decide ((1000000000000000000 : Int) ≤ (a : Int)) = true := decide_eq_true hbig
        rw [if_then (ρ1 := [.val S, .own false ds, .val (.int c), .val (.int (a : Int)), s4, s5, s6]) (by simp -implicitDefEqProofs [hbig])]
        exact for_of (congrFun rng60 _) e2
      · have ha : a < 1000000000000000000 := by omega
        have mA := mulB (i := (a : Int)) (j := 48271) (a := 60) (b := 16) (by rw [Int.natAbs_natCast]; omega) (by decide) (by omega)
        have d5 := modM_i (i := (a : Int) * 48271 + 11) (j := 2147483647) (by omega)
        have b5 : 0 ≤ ((a : Int) * 48271 + 11) % 2147483647 ∧ ((a : Int) * 48271 + 11) % 2147483647 < 2147483647 := ⟨Int.emod_nonneg _ (by omega), Int.emod_lt_of_pos _ (by omega)⟩
        generalize ((a : Int) * 48271 + 11) % 2147483647 = o at d5 b5
        have mB := mulB (i := o) (j := 69621) (a := 31) (b := 17) (by omega) (by decide) (by omega)
        have d6 := modM_i (i := o * 69621 + (a : Int)) (j := 2147483629) (by omega)
        generalize (o * 69621 + (a : Int)) % 2147483629 = w at d6
        have n1 := modM_i (i := (a : Int)) (j := 1000) (by omega)
        have n2 := modM_i (i := o) (j := 1000) (by omega)
        have n3 := modM_i (i := w) (j := 1000) (by omega)
        have bd : ∀ z : Int, 0 ≤ z % 1000 ∧ z % 1000 < 1000 := fun z => ⟨Int.emod_nonneg _ (by omega), Int.emod_lt_of_pos _ (by omega)⟩
        have q1 := bd (a : Int)
        have q2 := bd o
        have q3 := bd w
        generalize hu1 : (a : Int) % 1000 = u1 at n1 q1
        generalize o % 1000 = u2 at n2 q2
        generalize w % 1000 = u3 at n3 q3
        have lo : lenOk (ds.length + 3) = true := lenOk_of (by omega)
        have dr3 : Dr [.int u1, .int u2, .int u3] := show Dr ([.int u1] ++ ([.int u2] ++ [.int u3])) from (Dr.one q1.1 q1.2).app ((Dr.one q2.1 q2.2).app (Dr.one q3.1 q3.2))
        have hdec : decide ((1000000000000000000 : Int) ≤ (a : Int)) = false := decide_eq_false hbig
        refine ⟨[.val S, .own false ds, .val (.int c), s3, s4, s5, s6], [.val S, .own false (ds ++ [.int u1, .int u2, .int u3]), .val (.int c), .val (.int (a : Int)), s4, .val (.int o), .val (.int w)], rfl, ?_, ds ++ [.int u1, .int u2, .int u3], _, _, _, _, _, rfl, hd.app dr3, by simp; omega⟩
        rw [seq_nx s1]
        have hle : ¬ (1000000000000000000 : Int) ≤ (a : Int) := hbig
        simp -implicitDefEqProofs [hle, mA, d5, mB, d6, n1, n2, n3, lo, lenOk_of])
  rw [List.length_map] at hl
  refine ⟨ds.reverse, ?_, fun m hm => hd m (by simpa using hm), by rw [List.length_reverse]; omega⟩
  generalize hS : MV.scr (ns.map MV.int) = S at e1
  have s1 : dSet 1 (dOwn (dLst dNil)) [.val S, .no, .no, .no, .no, .no, .no] = some (.nx, [.val S, .own false [], .no, .no, .no, .no, .no]) := by simp -implicitDefEqProofs [lenOk_of]
  have hseq : seqM S = some (ns.map MV.int) := by rw [← hS]; rfl
  have hf := for_of (dj := dItems (dVar 0)) (ρ := [.val S, .own false [], .no, .no, .no, .no, .no]) (ms := ns.map MV.int) (by simp -implicitDefEqProofs [hseq]) e1
  have s3 : dDo (dRevL 1) [.val S, .own false ds, s2, s3, s4, s5, s6] = some (.nx, [.val S, .own false ds.reverse, s2, s3, s4, s5, s6]) := by simp -implicitDefEqProofs
  unfold f__law_draws fnO
  rw [show env0 7 [S] = [.val S, .no, .no, .no, .no, .no, .no] from rfl, seq_nx s1, seq_nx hf, seq_nx s3]
  rfl
/-- what a draw gives, what is left -/
def nxv (ds : List MV) : Int := match ds.getLast? with
  | some (.int i) => i
  | _ => 0
def nxr (ds : List MV) : List MV := ds.dropLast
theorem Dr.rest {ds : List MV} (h : Dr ds) : Dr (nxr ds) := fun m hm => h m ((List.dropLast_sublist ds).subset hm)
theorem Dr.val {ds : List MV} (h : Dr ds) : 0 ≤ nxv ds ∧ nxv ds < 1000 := by
  unfold nxv
  split
  · rename_i i e
    obtain ⟨j, e2, h1, h2⟩ := h _ (List.mem_of_getLast? e)
    cases e2
    exact ⟨h1, h2⟩
  · omega
theorem next_ok {ds : List MV} (h : Dr ds) : f__law_next ds [] = some (.int (nxv ds), nxr ds) := by
  unfold f__law_next fnI
  rw [show envI 1 ds [] = [.own true ds] from rfl]
  cases e : ds.getLast? with
  | none =>
    have := List.getLast?_eq_none_iff.mp e
    subst this
    rfl
  | some m =>
    obtain ⟨i, rfl, _, _⟩ := h _ (List.mem_of_getLast? e)
    have hv : nxv ds = i := by unfold nxv; rw [e]
    have hne : ds ≠ [] := fun z => by subst z; simp at e
    have e2 : ds[ds.length - 1]? = some (.int i) := by rw [← List.getLast?_eq_getElem?, e]
    have hemp : ds.isEmpty = false := by
      cases ds with
      | nil => exact absurd rfl hne
      | cons a l => rfl
    rw [hv]
    simp -implicitDefEqProofs [hemp, e2, hne, outI, nxr]
theorem nxr_len {ds : List MV} : (nxr ds).length ≤ ds.length := by unfold nxr; rw [List.length_dropLast]; omega
theorem law_more_ok {ds : List MV} (h : Dr ds) (hl : ds.length ≤ 10000) : ∃ out rest, f__law_more ds [.int 150] = some (out, rest) ∧ Dr out := by
  have v1 := h.val
  have v2 := h.rest.val
  have n1 := next_ok h
  have n2 := next_ok h.rest
  have l1 := nxr_len (ds := ds)
  have l2 := nxr_len (ds := nxr ds)
  have dr2 := h.rest.rest
  generalize nxv ds = a at v1 n1
  generalize nxr ds = ds1 at *
  generalize nxv ds1 = b at v2 n2
  generalize nxr ds1 = ds2 at *
  have mu : mulM (.int 1000) (.int a) = some (.int (1000 * a)) := mulB (a := 10) (b := 10) (by decide) (by omega) (by omega)
  have s1 : dSet 2 (dVal (d2 addM (d2 addM (d2 mulM (dC (.int 1000)) (dCallI f__law_next 0 dNil)) (dCallI f__law_next 0 dNil)) (dC (.int 1)))) [.own true ds, .val (.int 150), .no, .no, .no] = some (.nx, [.own true ds2, .val (.int 150), .val (.int (1000 * a + b + 1)), .no, .no]) := by
    simp -implicitDefEqProofs [n1, n2, mu]
  have s2 : dSet 3 (dOwn (dLst dNil)) [.own true ds2, .val (.int 150), .val (.int (1000 * a + b + 1)), .no, .no] = some (.nx, [.own true ds2, .val (.int 150), .val (.int (1000 * a + b + 1)), .own false [], .no]) := by
    simp -implicitDefEqProofs [lenOk_of]
  obtain ⟨ρ', e1, sd, more, s4, rfl, m1, m2, m3, m4⟩ := forM_inv (g := gN 4) (b := dSeq (dSet 2 (dVal (d2 modM (dCall intF (dCons (d2 addM (d2 mulM (dVar 2) (dC (.int 48271))) (dC (.int 12345))) dNil)) (dC (.int 2147483647))))) (dDo (dApp 3 (d2 modM (dCall intF (dCons (d2 fdivM (dVar 2) (dC (.int 7))) dNil)) (dC (.int 1000))))))
    (ms := rng 0 150) (ρ := [.own true ds2, .val (.int 150), .val (.int (1000 * a + b + 1)), .own false [], .no])
    (fun i ρ => ∃ (sd : Int) (more : List MV) (s4 : Sl), ρ = [.own true ds2, .val (.int 150), .val (.int sd), .own false more, s4] ∧ 0 ≤ sd ∧ sd < 2147483648 ∧ Dr more ∧ more.length ≤ i)
    ⟨_, [], .no, rfl, by omega, by omega, Dr.nil, by simp⟩ (by
      rintro i m ρ hm ⟨sd, more, s4, rfl, m1, m2, m3, m4⟩
      have hi : i < 150 := by
        have := (List.getElem?_eq_some_iff.mp hm).1
        rwa [rng_len] at this
      have mu := mulB (i := sd) (j := 48271) (a := 31) (b := 16) (by omega) (by decide) (by omega)
      have d5 := modM_i (i := sd * 48271 + 12345) (j := 2147483647) (by omega)
      have b5 : 0 ≤ (sd * 48271 + 12345) % 2147483647 ∧ (sd * 48271 + 12345) % 2147483647 < 2147483647 := ⟨Int.emod_nonneg _ (by omega), Int.emod_lt_of_pos _ (by omega)⟩
      generalize (sd * 48271 + 12345) % 2147483647 = o at d5 b5
      have fd := fdivM_i (i := o) (j := 7) (by omega) (by decide)
      have d6 := modM_i (i := o / 7) (j := 1000) (by omega)
      have b6 : 0 ≤ o / 7 % 1000 ∧ o / 7 % 1000 < 1000 := ⟨Int.emod_nonneg _ (by omega), Int.emod_lt_of_pos _ (by omega)⟩
      generalize o / 7 = w at fd d6 b6
      generalize w % 1000 = u at d6 b6
      have lo : lenOk (more.length + 1) = true := lenOk_of (by omega)
      refine ⟨[.own true ds2, .val (.int 150), .val (.int sd), .own false more, .val m], [.own true ds2, .val (.int 150), .val (.int o), .own false (more ++ [.int u]), .val m], rfl, ?_, o, more ++ [.int u], _, rfl, b5.1, by omega, m3.app (Dr.one b6.1 b6.2), by simp; omega⟩
      simp -implicitDefEqProofs [mu, d5, fd, d6, lo])
  rw [rng_len] at m4
  have cat := catF_l more ds2 (by omega)
  have hcall := rngN (ρ := [.own true ds2, .val (.int 150), .val (.int (1000 * a + b + 1)), .own false [], .no]) (i := 1) (n := 150) rfl (by omega)
  refine ⟨more ++ ds2, ds2, ?_, m3.app dr2⟩
  unfold f__law_more fnIO
  rw [show envI 5 ds [.int 150] = [.own true ds, .val (.int 150), .no, .no, .no] from rfl, seq_nx s1, seq_nx s2, seq_nx (for_of hcall e1)]
  simp -implicitDefEqProofs [cat, outI]
end K41
namespace K41
open PySem L2 ML PA
theorem get_set {ρ : MEnv} {j : Nat} {s t : Sl} (h : ρ[j]? = some s) : (ρ.set j t)[j]? = some t := by
  have := (List.getElem?_eq_some_iff.mp h).1
  rw [List.getElem?_set_self this]
theorem next_at {ρ : MEnv} {j : Nat} {b : Bool} {ds : List MV} (h : ρ[j]? = some (.own b ds)) (d : Dr ds) : dCallI f__law_next j dNil ρ = some (.int (nxv ds), ρ.set j (.own b (nxr ds))) := by
  have n := next_ok d
  simp -implicitDefEqProofs [h, n]
theorem mod_at {ρ : MEnv} {j : Nat} {b : Bool} {ds : List MV} (h : ρ[j]? = some (.own b ds)) (d : Dr ds) {B : Int} (hB : 0 < B) : d2 modM (dCall intF (dCons (dCallI f__law_next j dNil) dNil)) (dC (.int B)) ρ = some (.int (nxv ds % B), ρ.set j (.own b (nxr ds))) := by
  have n := next_at h d
  have m := modM_i (i := nxv ds) hB
  generalize ρ.set j (.own b (nxr ds)) = ρ1 at n ⊢
  simp -implicitDefEqProofs [-dCallI_e, n, m]
/-- a fraction drawn: its six times is whole and small -/
def O6 (o : MV) : Prop := ∃ (r : Rat) (k : Int), o = q r ∧ 6 * r = (k : Rat) ∧ k.natAbs ≤ 24
theorem six {a : Int} {b : Nat} (ha : a.natAbs ≤ 4) (hb : b = 1 ∨ b = 2 ∨ b = 3) : ∃ k : Int, 6 * mkRat a b = (k : Rat) ∧ k.natAbs ≤ 24 ∧ (0 < a → b ≤ 2 → 3 ≤ k) := by
  have key : ∀ t : Nat, b * t = 6 → 6 * mkRat a b = ((a * t : Int) : Rat) := fun t ht => by
    rw [Rat.mkRat_eq_div, Rat.intCast_mul]
    have : (b : Rat) * (t : Rat) = 6 := by rw [← Rat.natCast_mul, ht]; rfl
    have hb0 : (b : Rat) ≠ 0 := natR (by omega)
    show _ = (a : Rat) * (t : Rat)
    grind
  rcases hb with rfl | rfl | rfl
  · exact ⟨a * (6 : Nat), key 6 rfl, by omega, by omega⟩
  · exact ⟨a * (3 : Nat), key 3 rfl, by omega, by omega⟩
  · exact ⟨a * (2 : Nat), key 2 rfl, by omega, by omega⟩
theorem low_at {ρ ρ1 ρ2 : MEnv} {da db : DE} {a b : Int} {n : Nat} (h1 : da ρ = some (.int a, ρ1)) (h2 : db ρ1 = some (.int b, ρ2)) (hb : b = (n : Int)) (hn : 0 < n) (hn' : n < 1000) : dCall f__law_lowest (dCons da (dCons db dNil)) ρ = some (q (mkRat a n), ρ2) := by
  have l := law_lowest_ok (t := a) hn (Nat.lt_of_lt_of_le hn' (Nat.le_trans (show 1000 ≤ 2 ^ 10 by omega) (Nat.pow_le_pow_right (by omega) (by omega))))
  subst hb
  generalize ((n : Nat) : Int) = N at h2 l
  simp -implicitDefEqProofs [h1, h2, l]
theorem pair_at {ρ : MEnv} {j : Nat} {b : Bool} {ds : List MV} (h : ρ[j]? = some (.own b ds)) (d : Dr ds) {B : Nat} (hB : 0 < B) (hB' : B ≤ 4) :
    ∃ (r : Rat) (a : Int) (n : Nat) (ds' : List MV), dCall f__law_lowest (dCons (d2 subM (d2 modM (dCall intF (dCons (dCallI f__law_next j dNil) dNil)) (dC (.int 9))) (dC (.int 4))) (dCons (d2 addM (dC (.int 1)) (d2 modM (dCall intF (dCons (dCallI f__law_next j dNil) dNil)) (dC (.int (B : Int))))) dNil)) ρ = some (q r, ρ.set j (.own b ds')) ∧ Dr ds' ∧ r = mkRat a n ∧ a.natAbs ≤ 4 ∧ 0 < n ∧ n ≤ B := by
  have h2 := get_set (t := .own b (nxr ds)) h
  have m1 := mod_at h d (B := 9) (by omega)
  have m2 := mod_at h2 d.rest (B := (B : Int)) (by omega)
  have e1 : 0 ≤ nxv ds % 9 ∧ nxv ds % 9 < 9 := ⟨Int.emod_nonneg _ (by omega), Int.emod_lt_of_pos _ (by omega)⟩
  have e2 : 0 ≤ nxv (nxr ds) % (B : Int) ∧ nxv (nxr ds) % (B : Int) < (B : Int) := ⟨Int.emod_nonneg _ (by omega), Int.emod_lt_of_pos _ (by omega)⟩
  rw [List.set_set] at m2
  generalize nxv ds % 9 = u at m1 e1
  generalize nxv (nxr ds) % (B : Int) = v at m2 e2
  obtain ⟨n, hn⟩ : ∃ n : Nat, 1 + v = (n : Int) := ⟨(1 + v).toNat, by omega⟩
  have l := low_at (da := d2 subM (d2 modM (dCall intF (dCons (dCallI f__law_next j dNil) dNil)) (dC (.int 9))) (dC (.int 4))) (db := d2 addM (dC (.int 1)) (d2 modM (dCall intF (dCons (dCallI f__law_next j dNil) dNil)) (dC (.int (B : Int))))) (ρ := ρ) (ρ1 := ρ.set j (.own b (nxr ds))) (ρ2 := ρ.set j (.own b (nxr (nxr ds)))) (a := u - 4) (b := 1 + v) (n := n) (by
      generalize d2 modM (dCall intF (dCons (dCallI f__law_next j dNil) dNil)) (dC (.int 9)) = dd at m1 ⊢
      simp -implicitDefEqProofs [m1]) (by
      generalize d2 modM (dCall intF (dCons (dCallI f__law_next j dNil) dNil)) (dC (.int (B : Int))) = dd at m2 ⊢
      simp -implicitDefEqProofs [m2]) hn (by omega) (by omega)
  exact ⟨_, u - 4, n, _, l, d.rest.rest, rfl, by omega, by omega, by omega⟩
theorem O6.list : ∀ {os : List MV}, (∀ o ∈ os, O6 o) → ∃ (rs : List Rat) (ks : List Int), os = rs.map q ∧ ks.length = rs.length ∧ ci ks = lsc 6 rs ∧ ∀ k ∈ ks, k.natAbs ≤ 24
  | [], _ => ⟨[], [], rfl, rfl, rfl, by simp⟩
  | o :: os, h => by
    obtain ⟨r, k, e1, e2, e3⟩ := h o List.mem_cons_self
    obtain ⟨rs, ks, h1, h2, h3, h4⟩ := O6.list (os := os) fun o ho => h o (List.mem_cons_of_mem _ ho)
    refine ⟨r :: rs, k :: ks, by rw [List.map_cons, ← h1, e1], by simp [h2], ?_, ?_⟩
    · unfold ci lsc at h3 ⊢
      rw [List.map_cons, List.map_cons, h3, e2]
    · intro z hz
      rcases List.mem_cons.mp hz with rfl | hz
      · exact e3
      · exact h4 z hz
theorem toI_six {rs : List Rat} {ks : List Int} (h : ci ks = lsc 6 rs) : toI ks = cst 6 * toPo rs := Po.ext fun x => by
  unfold toI
  rw [toPo_v, h, ev_lsc]; rfl
/-- a polynomial drawn: six times it is whole, small, above 0 at the top -/
structure Loose (n : Nat) (f : Po) (k : List Int) : Prop where
  six : cst 6 * f = toI k
  len : k.length ≤ n
  dg : PA.dg f = k.length
  small : ∀ c ∈ k, c.natAbs ≤ 24
  top : ∃ c, k.getLast? = some c ∧ 3 ≤ c
  lead : 0 < lc f
theorem loose_ok {ds : List MV} {most : Nat} (h : Dr ds) (hm : most ≤ 10) : ∃ (f : Po) (k : List Int) (ds' : List MV), f__law_loose_poly ds [.int (most : Int)] = some (pl f, ds') ∧ Dr ds' ∧ Loose (most + 1) f k := by
  have mo := mod_at (ρ := [.own true ds, .val (.int (most : Int)), .no, .no]) (j := 0) rfl h (B := (most : Int) + 1) (by omega)
  have e1 : 0 ≤ nxv ds % ((most : Int) + 1) ∧ nxv ds % ((most : Int) + 1) < (most : Int) + 1 := ⟨Int.emod_nonneg _ (by omega), Int.emod_lt_of_pos _ (by omega)⟩
  have n0 := next_at (ρ := [.own true ds, .val (.int (most : Int)), .no, .no]) (j := 0) rfl h
  have mm := modM_i (i := nxv ds) (j := (most : Int) + 1) (by omega)
  generalize nxv ds % ((most : Int) + 1) = w at mo e1 mm
  generalize nxv ds = w0 at n0 mm
  obtain ⟨N, rfl⟩ : ∃ n : Nat, w = (n : Int) := ⟨w.toNat, by omega⟩
  have hcall : dCallO rng1F (dCons (d2 modM (dCall intF (dCons (dCallI f__law_next 0 dNil) dNil)) (d2 addM (dVar 1) (dC (.int 1)))) dNil) [.own true ds, .val (.int (most : Int)), .no, .no] = some (rng 0 N, [.own true (nxr ds), .val (.int (most : Int)), .no, .no]) := by
    refine dCallO_of (ms := [.int (N : Int)]) ?_ (rngL N (by omega))
    generalize dCallI f__law_next 0 dNil = dd at n0 ⊢
    simp -implicitDefEqProofs [n0, mm]
  obtain ⟨os, ρ1, e2, ⟨ds1, hd1, rfl⟩, hO, hlen⟩ := lcM_inv (vs := [3]) (g := gN 3) (t := dYes) (e := dCall f__law_lowest (dCons (d2 subM (d2 modM (dCall intF (dCons (dCallI f__law_next 0 dNil) dNil)) (dC (.int 9))) (dC (.int 4))) (dCons (d2 addM (dC (.int 1)) (d2 modM (dCall intF (dCons (dCallI f__law_next 0 dNil) dNil)) (dC (.int 3)))) dNil)))
    (fun ρ => ∃ ds1, Dr ds1 ∧ ρ = [.own true ds1, .val (.int (most : Int)), .no, .no]) O6 (by
      rintro m ρ ⟨ds1, hd1, rfl⟩
      obtain ⟨r, a, n, ds', e, hd', rfl, h1, h2, h3⟩ := pair_at (ρ := [.own true ds1, .val (.int (most : Int)), .no, .val m]) (j := 0) rfl hd1 (B := 3) (by omega) (by omega)
      obtain ⟨k, k1, k2, _⟩ := six (b := n) h1 (by omega)
      exact ⟨_, _, _, _, rfl, rfl, e, ⟨_, k, rfl, k1, k2⟩, ds', hd', rfl⟩)
    (rng 0 N) [] [.own true (nxr ds), .val (.int (most : Int)), .no, .no] (by rw [rng_len]; simp; omega) ⟨_, h.rest, rfl⟩
  rw [rng_len] at hlen
  rw [List.nil_append] at e2
  obtain ⟨rs, ks, rfl, h1, h2, h3⟩ := O6.list hO
  rw [List.length_map] at hlen
  have s1 : dSet 2 (dVal (dFrz (dLc (dCallO rng1F (dCons (d2 modM (dCall intF (dCons (dCallI f__law_next 0 dNil) dNil)) (d2 addM (dVar 1) (dC (.int 1)))) dNil)) [3] (gN 3) dYes (dCall f__law_lowest (dCons (d2 subM (d2 modM (dCall intF (dCons (dCallI f__law_next 0 dNil) dNil)) (dC (.int 9))) (dC (.int 4))) (dCons (d2 addM (dC (.int 1)) (d2 modM (dCall intF (dCons (dCallI f__law_next 0 dNil) dNil)) (dC (.int 3)))) dNil)))))) [.own true ds, .val (.int (most : Int)), .no, .no] = some (.nx, [.own true ds1, .val (.int (most : Int)), .val (.lst (rs.map q)), .no]) := by
    generalize rs.map q = G at e2 ⊢
    generalize dCallO rng1F _ = dj at hcall ⊢
    generalize dCall f__law_lowest _ = de at e2 ⊢
    simp -implicitDefEqProofs [hcall, e2]
  -- the top
  have m1 := mod_at (ρ := [.own true ds1, .val (.int (most : Int)), .val (.lst (rs.map q)), .no]) (j := 0) rfl hd1 (B := 4) (by omega)
  have m2 := mod_at (ρ := [.own true (nxr ds1), .val (.int (most : Int)), .val (.lst (rs.map q)), .no]) (j := 0) rfl hd1.rest (B := 2) (by omega)
  have b1 : 0 ≤ nxv ds1 % 4 ∧ nxv ds1 % 4 < 4 := ⟨Int.emod_nonneg _ (by omega), Int.emod_lt_of_pos _ (by omega)⟩
  have b2 : 0 ≤ nxv (nxr ds1) % 2 ∧ nxv (nxr ds1) % 2 < 2 := ⟨Int.emod_nonneg _ (by omega), Int.emod_lt_of_pos _ (by omega)⟩
  generalize nxv ds1 % 4 = u at m1 b1
  generalize nxv (nxr ds1) % 2 = v at m2 b2
  obtain ⟨n, hn⟩ : ∃ n : Nat, 1 + v = (n : Int) := ⟨(1 + v).toNat, by omega⟩
  have l := low_at (da := d2 addM (dC (.int 1)) (d2 modM (dCall intF (dCons (dCallI f__law_next 0 dNil) dNil)) (dC (.int 4)))) (db := d2 addM (dC (.int 1)) (d2 modM (dCall intF (dCons (dCallI f__law_next 0 dNil) dNil)) (dC (.int 2)))) (ρ := [.own true ds1, .val (.int (most : Int)), .val (.lst (rs.map q)), .no]) (ρ1 := [.own true (nxr ds1), .val (.int (most : Int)), .val (.lst (rs.map q)), .no]) (ρ2 := [.own true (nxr (nxr ds1)), .val (.int (most : Int)), .val (.lst (rs.map q)), .no]) (a := 1 + u) (b := 1 + v) (n := n) (by
      generalize d2 modM (dCall intF (dCons (dCallI f__law_next 0 dNil) dNil)) (dC (.int 4)) = dd at m1 ⊢
      generalize rs.map q = G at m1 ⊢
      simp -implicitDefEqProofs [m1]) (by
      generalize d2 modM (dCall intF (dCons (dCallI f__law_next 0 dNil) dNil)) (dC (.int 2)) = dd at m2 ⊢
      generalize rs.map q = G at m2 ⊢
      simp -implicitDefEqProofs [m2]) hn (by omega) (by omega)
  obtain ⟨k, k1, k2, k3⟩ := six (a := 1 + u) (b := n) (by omega) (by omega)
  have kp := k3 (by omega) (by omega)
  generalize hc : mkRat (1 + u) n = c at l k1
  have kR : (0 : Rat) < (k : Rat) := Rat.intCast_pos.mpr (by omega)
  have cp : 0 < c := by grind
  have hc0 : c ≠ 0 := by grind
  have tp := top_of (f := toPo (rs ++ [c])) (l := rs) (c := c) hc0 fun x => rfl
  refine ⟨toPo (rs ++ [c]), ks ++ [k], nxr (nxr ds1), ?_, hd1.rest.rest, ⟨?_, ?_, ?_, ?_, ⟨k, by simp, kp⟩, by rw [tp.2.2]; exact cp⟩⟩
  · have lo : lenOk (rs.length + 1) = true := lenOk_of (by omega)
    have ad : addM (.tup (rs.map q)) (.tup [q c]) = some (pl (toPo (rs ++ [c]))) := by
      unfold pl
      rw [tp.1, List.map_append]
      exact if_pos (by simpa using lo)
    generalize pl (toPo (rs ++ [c])) = R at ad ⊢
    generalize rs.map q = G at *
    unfold f__law_loose_poly fnI
    rw [show envI 4 ds [.int (most : Int)] = [.own true ds, .val (.int (most : Int)), .no, .no] from rfl, seq_nx s1]
    generalize dCall f__law_lowest _ = de at l ⊢
    simp -implicitDefEqProofs [l, ad, lenOk_of, outI]
  · refine (toI_six ?_).symm
    unfold ci lsc at h2 ⊢
    rw [List.map_append, List.map_append, h2, List.map_cons, List.map_cons, k1]
    rfl
  · rw [List.length_append, List.length_singleton]; omega
  · rw [tp.2.1]; simp [h1]
  · intro z hz
    rcases List.mem_append.mp hz with hz | hz
    · exact h3 z hz
    · rw [List.mem_singleton] at hz
      subst hz; exact k2
end K41
namespace ML
open PySem
/-- how deep a value is, when it is made of numbers, truth values and tuples or lists of such -/
def flat : Nat → MV → Bool
  | _, .non => true
  | _, .bl _ => true
  | _, .int _ => true
  | _, .str _ => false
  | 0, _ => false
  | n + 1, .tup ms => ms.all (flat n)
  | n + 1, .lst ms => ms.all (flat n)
  | n + 1, .scr ms => ms.all (flat n)
theorem flat_ok : ∀ (n : Nat) (m : MV), flat n m = true → (pdM m).canLay0 = true ∧ (pdM m).depth ≤ n := by
  intro n
  induction n with
  | zero =>
    intro m h
    cases m with
    | non => exact ⟨rfl, Nat.le_refl _⟩
    | bl b => exact ⟨rfl, Nat.le_refl _⟩
    | int i => exact ⟨rfl, Nat.le_refl _⟩
    | str s => simp [flat] at h
    | tup ms => simp [flat] at h
    | lst ms => simp [flat] at h
    | scr ms => simp [flat] at h
  | succ n ih =>
    have lists : ∀ ms : List MV, ms.all (flat n) = true → PyData.canLayAll0 (pdsM ms) = true ∧ PyData.depthAll (pdsM ms) ≤ n := by
      intro ms
      induction ms with
      | nil => intro _; exact ⟨rfl, Nat.zero_le _⟩
      | cons a ms ihm =>
        intro h
        rw [List.all_cons, Bool.and_eq_true] at h
        have h1 := ih a h.1
        have h2 := ihm h.2
        constructor
        · show ((pdM a).canLay0 && PyData.canLayAll0 (pdsM ms)) = true
          rw [h1.1, h2.1]; rfl
        · show max (pdM a).depth (PyData.depthAll (pdsM ms)) ≤ n
          omega
    intro m h
    cases m with
    | non => exact ⟨rfl, Nat.zero_le _⟩
    | bl b => exact ⟨rfl, Nat.zero_le _⟩
    | int i => exact ⟨rfl, Nat.zero_le _⟩
    | str s => simp [flat] at h
    | tup ms =>
      have := lists ms h
      exact ⟨this.1, Nat.succ_le_succ this.2⟩
    | lst ms =>
      have := lists ms h
      exact ⟨this.1, Nat.succ_le_succ this.2⟩
    | scr ms =>
      have := lists ms h
      exact ⟨this.1, Nat.succ_le_succ this.2⟩
theorem eqM_self {m : MV} (h : flat 9 m = true) : eqM m m = some true := by
  have := flat_ok 9 m h
  have sh : SeqAt.shaped (pdM m) = true := by
    unfold SeqAt.shaped
    rw [this.1, Bool.true_and]
    exact decide_eq_true (by omega)
  unfold eqM
  rw [sh, SeqAt.eqv_refl _ this.1]; rfl
theorem nev_self {m : MV} (h : flat 9 m = true) : nevM m m = some (.bl false) := by
  unfold nevM
  rw [eqM_self h]; rfl
theorem eqv_self {m : MV} (h : flat 9 m = true) : eqvM m m = some (.bl true) := by
  unfold eqvM
  rw [eqM_self h]; rfl
end ML
namespace K41
open PySem L2 ML PA
theorem flat_q (n : Nat) (r : Rat) : flat (n + 1) (q r) = true := by simp [flat, q]
theorem flat_pl (n : Nat) (f : Po) : flat (n + 2) (pl f) = true := by
  unfold pl flat
  rw [List.all_map, List.all_eq_true]
  intro c _
  exact flat_q n c
theorem flat_ints (n : Nat) (W : List Int) : flat (n + 1) (.tup (W.map MV.int)) = true := by
  unfold flat
  rw [List.all_map, List.all_eq_true]
  intro c _
  show flat n (.int c) = true
  cases n <;> rfl
theorem nev_pl (f : Po) : nevM (pl f) (pl f) = some (.bl false) := nev_self (flat_pl 7 f)
theorem nev_q (r : Rat) : nevM (q r) (q r) = some (.bl false) := nev_self (flat_q 8 r)
theorem nev_ints (W : List Int) : nevM (.tup (W.map MV.int)) (.tup (W.map MV.int)) = some (.bl false) := nev_self (flat_ints 8 W)
theorem eqv_pl (f : Po) : eqvM (pl f) (pl f) = some (.bl true) := eqv_self (flat_pl 7 f)
theorem nev_two (f g : Po) : nevM (.tup [pl f, pl g]) (.tup [pl f, pl g]) = some (.bl false) := nev_self (by
  unfold flat
  rw [List.all_cons, List.all_cons, flat_pl 6 f, flat_pl 6 g]; rfl)

/-! ### what is drawn: sizes, values -/
theorem Loose.f0 {n : Nat} {f : Po} {k : List Int} (h : Loose n f k) : f ≠ 0 := fun z => by
  have := h.lead
  rw [z, lc_zero] at this
  exact absurd this (by decide)
theorem Loose.ht {n : Nat} {f : Po} {k : List Int} (h : Loose n f k) : Ht 6 24 f := ⟨by omega, fun c hc => by
  have e : toPo (lsc 6 (lst f)) = toPo (ci k) := by
    have := h.six
    unfold toI at this
    rw [← this]
    exact Po.ext fun x => by rw [toPo_v, ev_lsc, ev_lst]; rfl
  have hm : (6 * c) ∈ lsc 6 (lst f) := List.mem_map.mpr ⟨c, hc, rfl⟩
  rcases coef_eq e hm with z | z
  · refine ⟨0, ?_, by simp⟩
    rw [show ((6 : Nat) : Rat) = 6 from rfl, show ((0 : Int) : Rat) = 0 from rfl]; grind
  · obtain ⟨n, hn, q⟩ := List.mem_map.mp z
    refine ⟨n, ?_, h.small n hn⟩
    rw [show ((6 : Nat) : Rat) = 6 from rfl, q]; grind⟩
def gm : Nat → Nat → Nat
  | 0, _ => 0
  | n + 1, x => 1 + x * gm n x
theorem gm_mono {n m x y : Nat} (h : n ≤ m) (k : x ≤ y) : gm n x ≤ gm m y := by
  induction n generalizing m with
  | zero => exact Nat.zero_le _
  | succ n ih =>
    obtain ⟨m', rfl⟩ : ∃ m', m = m' + 1 := ⟨m - 1, by omega⟩
    show 1 + x * gm n x ≤ 1 + y * gm m' y
    have := Nat.mul_le_mul k (ih (m := m') (by omega))
    omega
theorem evI_low : ∀ (k : List Int) (x : Nat), 10 ≤ x → (∀ c ∈ k, c.natAbs ≤ 24) → (∃ c, k.getLast? = some c ∧ 3 ≤ c) → 3 ≤ evI k x
  | [], x, _, _, h => by obtain ⟨c, e, _⟩ := h; simp at e
  | [a], x, _, _, h => by
    obtain ⟨c, e, hc⟩ := h
    simp at e
    subst e
    simp only [evI]; omega
  | a :: b :: t, x, hx, hs, h => by
    obtain ⟨c, e, hc⟩ := h
    rw [List.getLast?_cons_cons] at e
    have ih := evI_low (b :: t) x hx (fun c hc => hs c (List.mem_cons_of_mem _ hc)) ⟨c, e, hc⟩
    have ha := hs a List.mem_cons_self
    show 3 ≤ a + (x : Int) * evI (b :: t) x
    have : (10 : Int) * 3 ≤ (x : Int) * evI (b :: t) x := Int.mul_le_mul (by omega) ih (by omega) (by omega)
    omega
theorem evI_high : ∀ (k : List Int) (x : Nat), (∀ c ∈ k, c.natAbs ≤ 24) → evI k x ≤ ((24 * gm k.length x : Nat) : Int)
  | [], x, _ => by simp [evI, gm]
  | a :: t, x, hs => by
    have ih := evI_high t x (fun c hc => hs c (List.mem_cons_of_mem _ hc))
    have ha := hs a List.mem_cons_self
    show a + (x : Int) * evI t x ≤ ((24 * (1 + x * gm t.length x) : Nat) : Int)
    have h1 : (x : Int) * evI t x ≤ (x : Int) * ((24 * gm t.length x : Nat) : Int) := Int.mul_le_mul_of_nonneg_left ih (by omega)
    have h2 : (x : Int) * ((24 * gm t.length x : Nat) : Int) = ((24 * (x * gm t.length x) : Nat) : Int) := by
      rw [← Int.natCast_mul]; congr 1; grind
    rw [h2] at h1
    have h3 : 24 * (1 + x * gm t.length x) = 24 + 24 * (x * gm t.length x) := by omega
    rw [h3]
    omega
theorem Loose.val {n : Nat} {f : Po} {k : List Int} (h : Loose n f k) {x X : Nat} (hx : 10 ≤ x) (hX : x ≤ X) : 1 ≤ (evI k x).natAbs ∧ (evI k x).natAbs ≤ 24 * gm n X := by
  have h1 := evI_low k x hx h.small h.top
  have h2 := evI_high k x h.small
  have h3 := gm_mono h.len hX
  have h4 : 24 * gm k.length x ≤ 24 * gm n X := Nat.mul_le_mul_left _ h3
  omega
theorem evI_mul {K a b : List Int} (e : toI K = toI a * toI b) (x : Int) : evI K x = evI a x * evI b x := by
  apply Rat.intCast_inj.mp
  rw [Rat.intCast_mul, ← evI_v, ← evI_v, ← evI_v, e, mul_v]
/-- a polynomial whose multiple is whole, with bounded values at 10, 11, .. -/
def Vl (P : Po) (n V : Nat) : Prop := ∃ (N : Int) (K : List Int), cst (N : Rat) * P = toI K ∧ ∀ i : Nat, i ≤ n → 1 ≤ (evI K (10 + i : Nat)).natAbs ∧ (evI K (10 + i : Nat)).natAbs ≤ V
theorem Vl.mul {P Q : Po} {n V U : Nat} (h : Vl P n V) (k : Vl Q n U) : Vl (P * Q) n (V * U) := by
  obtain ⟨N, K, e, b⟩ := h
  obtain ⟨M, L, e2, b2⟩ := k
  obtain ⟨J, hJ⟩ := ci_mul K L
  refine ⟨N * M, J, ?_, fun i hi => ?_⟩
  · rw [← hJ, ← e, ← e2, Rat.intCast_mul, cst_mul]; grind
  · rw [evI_mul hJ.symm, Int.natAbs_mul]
    have h1 := b i hi
    have h2 := b2 i hi
    exact ⟨Nat.mul_pos h1.1 h2.1, Nat.mul_le_mul h1.2 h2.2⟩
theorem Vl.low {P : Po} {n m V : Nat} (h : Vl P n V) (k : m ≤ n) : Vl P m V := by
  obtain ⟨N, K, e, b⟩ := h
  exact ⟨N, K, e, fun i hi => b i (by omega)⟩
theorem Loose.vl {m : Nat} {f : Po} {k : List Int} (h : Loose m f k) (n : Nat) : Vl f n (24 * gm m (10 + n)) := ⟨6, k, h.six, fun i hi => h.val (by omega) (by omega)⟩
theorem Vl.hb {P g : Po} {n V b : Nat} (h : Vl P n V) (hg : lc g = 1) (d : Dv g P) (hn : dg g ≤ n + 1) (hb : KK n 10 * V < 2 ^ b) : Hb b g := by
  obtain ⟨N, K, e, bd⟩ := h
  obtain ⟨t, h1, h2⟩ := fine (m := 10) hg d e bd hn
  exact ⟨t, _, h2, by omega, hb⟩
theorem Hb.sc {a b : Nat} {c : Rat} {f : Po} (hc : Bd a c) (h : Hb b f) : Hb (a + b) (cst c * f) := by
  obtain ⟨d, B, k, h1, h2⟩ := h
  have := Nat.two_pow_pos a
  refine ⟨c.den * d, (2 ^ a - 1) * B, Ht.of (Nat.mul_pos c.den_pos k.1) (k.2.sc hc.hn) (Po.ext fun x => by rw [mul_v, cst_v, toPo_v, ev_lsc, ev_lst]), ?_, ?_⟩
  · rw [Nat.pow_add]; exact Nat.mul_lt_mul'' hc.2 h1
  · rw [Nat.pow_add]; exact Nat.mul_lt_mul'' (by omega) h2
theorem dgD {f : Po} (h : f ≠ 0) : dg (D f) = dg f - 1 := by
  have hp := dg_pos h
  by_cases h1 : dg f = 1
  · rw [dg_one_is h1, D_cst, dg_zero, (dg_cst (lc_ne h)).1]
  · have := (D_top (f := f) (by omega)).1
    omega
end K41
namespace PA
theorem dg_mul_le {f g : Po} : dg (f * g) ≤ dg f + dg g - 1 := by
  by_cases hf : f = 0
  · subst hf
    rw [show (0 : Po) * g = 0 by grind, dg_zero]; omega
  · by_cases hg : g = 0
    · subst hg
      rw [show f * (0 : Po) = 0 by grind, dg_zero]; omega
    · have := (mul_top hf hg).1
      omega
theorem Ht.mul4 {d e X Y : Nat} {f g : Po} {n : Nat} (h : Ht d X f) (k : Ht e Y g) (hn : dg f ≤ n) : Ht (d * e) (n * (X * Y)) (f * g) := (h.mul k).mono (Nat.mul_le_mul_right _ hn)
theorem gcd_dg {f g : Po} (hf : f ≠ 0) : 1 ≤ dg (gcd f g) := dg_pos (gcd_ne hf)
end PA
namespace K41
open PySem L2 ML PA
theorem Loose.hb {n : Nat} {f : Po} {k : List Int} (h : Loose n f k) : Hb 5 f := ⟨6, 24, h.ht, by omega, by omega⟩
theorem Loose.dgle {n : Nat} {f : Po} {k : List Int} (h : Loose n f k) : PA.dg f ≤ n := by rw [h.dg]; exact h.len
theorem Hb.of {d B b : Nat} {f : Po} (h : Ht d B f) (h1 : d < 2 ^ b) (h2 : B < 2 ^ b) : Hb b f := ⟨d, B, h, h1, h2⟩
section
variable {A B C L : Po} {ka kb kc : List Int} (hA : Loose 4 A ka) (hB : Loose 4 B kb) (hC : Loose 3 C kc)
include hA hB
theorem htAB : Ht 36 2304 (A * B) := hA.ht.mul4 hB.ht hA.dgle
theorem hbAB : Hb 12 (A * B) := Hb.of (htAB hA hB) (by omega) (by omega)
theorem dgAB : dg (A * B) ≤ 7 := by
  have := dg_mul_le (f := A) (g := B)
  have := hA.dgle
  have := hB.dgle
  omega
theorem law1 : f_product_of [pl A, pl B] = some (pl (A * B)) ∧ f__law_mul [pl A, pl B] = some (pl (A * B)) ∧ f_sum_of [pl A, pl B] = some (pl (A + B)) ∧ f__law_sum [pl A, pl B] = some (pl (A + B)) ∧
    f_product_of [pl A, .tup []] = some (.tup []) ∧ f_sum_of [pl A, .tup []] = some (pl A) := by
  have a := hA.hb
  have b := hB.hb
  have da := hA.dgle
  have db := hB.dgle
  have z : Hb 199 (0 : Po) := ⟨1, 0, ⟨by omega, by rw [lst_zero]; exact Hl.nil⟩, by omega, by omega⟩
  refine ⟨product_of_ok (a.mono (by omega)) (b.mono (by omega)) (by omega), law_mul_ok a b (by omega) (by omega) (by omega), sum_of_ok (a.mono (by omega)) (by omega) (b.mono (by omega)) (by omega), law_sum_ok a b (by omega) (by omega) (by omega) (by omega) (by omega), ?_, ?_⟩
  · have := product_of_ok (a.mono (by omega)) z (by rw [dg_zero]; omega)
    rw [show A * (0 : Po) = 0 by grind, pl_zero] at this
    exact this
  · have := sum_of_ok (a.mono (by omega)) (by omega) z (by rw [dg_zero]; omega)
    rw [show A + (0 : Po) = A by grind, pl_zero] at this
    exact this
theorem law2 (hL : Ht 6 24 L) (dL : dg L < dg B) : f__law_sum [pl (A * B), pl L] = some (pl (A * B + L)) ∧ f_division [pl (A * B + L), pl B] = some (.tup [pl A, pl L]) ∧ f_division [pl L, pl B] = some (.tup [.tup [], pl L]) := by
  have da := hA.dgle
  have db := hB.dgle
  have dab := dgAB hA hB
  have hL5 : Hb 5 L := Hb.of hL (by omega) (by omega)
  have hs : Hb 12 (A * B + L) := Hb.of ((htAB hA hB).add (hL.up (e := 6) (by omega))) (by omega) (by omega)
  have ds : dg (A * B + L) ≤ 7 := by
    have := dg_add (A * B) L
    omega
  have m : (dg (A * B + L) - dg B) * 6 ≤ 7 * 6 := Nat.mul_le_mul_right _ (by omega)
  have m2 : (dg L - dg B) * 6 ≤ 0 * 6 := Nat.mul_le_mul_right _ (by omega)
  refine ⟨law_sum_ok (hbAB hA hB) hL5 (by omega) (by omega) (by omega) (by omega) (by omega), division_ok hs (by omega) (by omega) hB.hb (by omega) (by omega) rfl dL (by omega) (by omega), ?_⟩
  have := division_ok (Q := 0) (R := L) hL5 (by omega) (by omega) hB.hb (by omega) (by omega) (by grind) dL (by omega) (by omega)
  rw [pl_zero] at this
  exact this
include hC
theorem law3 : f_sum_of [pl A, pl B] = some (pl (A + B)) ∧ f_product_of [pl (A + B), pl C] = some (pl ((A + B) * C)) ∧ f_product_of [pl A, pl C] = some (pl (A * C)) ∧ f_product_of [pl B, pl C] = some (pl (B * C)) ∧ f_sum_of [pl (A * C), pl (B * C)] = some (pl ((A + B) * C)) := by
  have da := hA.dgle
  have db := hB.dgle
  have dc := hC.dgle
  have hs : Hb 6 (A + B) := Hb.of (hA.ht.add hB.ht) (by omega) (by omega)
  have ds := dg_add A B
  have hac : Hb 12 (A * C) := Hb.of (hA.ht.mul4 hC.ht hA.dgle) (by omega) (by omega)
  have hbc : Hb 12 (B * C) := Hb.of (hB.ht.mul4 hC.ht hB.dgle) (by omega) (by omega)
  have d1 := dg_mul_le (f := A) (g := C)
  have d2 := dg_mul_le (f := B) (g := C)
  refine ⟨(law1 hA hB).2.2.1, product_of_ok (hs.mono (by omega)) (hC.hb.mono (by omega)) (by omega), product_of_ok (hA.hb.mono (by omega)) (hC.hb.mono (by omega)) (by omega), product_of_ok (hB.hb.mono (by omega)) (hC.hb.mono (by omega)) (by omega), ?_⟩
  have := sum_of_ok (hac.mono (by omega)) (by omega) (hbc.mono (by omega)) (by omega)
  rw [this]
  congr 2
  grind
omit hC
theorem shared_hb : Hb 30 (gcd A B) := by
  have := hA.dgle
  have d := (gcd_l A B).dg hA.f0
  exact (hA.vl 3).hb (gcd_lc hA.f0) (gcd_l A B) (by omega) (by decide)
theorem law5 : f_common_divisor [pl A, pl B] = some (pl (gcd A B)) ∧ f_common_divisor [pl B, pl A] = some (pl (gcd A B)) ∧ f_common_divisor [pl A, pl A] = some (pl (mon A)) ∧ f__law_monic [pl A] = some (pl (mon A)) ∧
    f_common_divisor [pl A, .tup []] = some (pl (mon A)) ∧ f_common_divisor [.tup [], .tup []] = some (.tup []) := by
  have da := hA.dgle
  have db := hB.dgle
  have pa := dg_pos hA.f0
  have pb := dg_pos hB.f0
  have ok : ∀ n, n < 5 → ∀ m, m < 5 → okE 40 n m 1 5 5 = true ∨ n = 0 := by decide +kernel
  have ok0 : ∀ n, n < 5 → okE 40 n 0 0 5 5 = true := by decide +kernel
  have z : Hb 5 (0 : Po) := ⟨1, 0, ⟨by omega, by rw [lst_zero]; exact Hl.nil⟩, by omega, by omega⟩
  refine ⟨?_, ?_, ?_, law_monic_ok hA.hb hA.f0 (by omega) (by omega), ?_, ?_⟩
  · exact common_divisor_ok (G := 1) ((ok _ (by omega) _ (by omega)).resolve_right (by omega)) hA.hb (by omega) (by omega) hB.hb (by omega) (by omega) (gcd_dg hA.f0)
  · have := common_divisor_ok (G := 1) ((ok _ (by omega) _ (by omega)).resolve_right (by omega)) hB.hb (by omega) (by omega) hA.hb (by omega) (by omega) (gcd_dg hB.f0)
    rw [gcd_comm B A] at this
    exact this
  · have := common_divisor_ok (G := 1) ((ok _ (by omega) _ (by omega)).resolve_right (by omega)) hA.hb (by omega) (by omega) hA.hb (by omega) (by omega) (gcd_dg hA.f0)
    rw [gcd_self] at this
    exact this
  · have := common_divisor_ok (f := A) (g := 0) (G := 0) (by rw [dg_zero]; exact ok0 _ (by omega)) hA.hb (by omega) (by omega) z (by omega) (by rw [dg_zero]; omega) (Nat.zero_le _)
    rw [gcd_zero, pl_zero] at this
    exact this
  · have := common_divisor_ok (f := 0) (g := 0) (G := 0) (by rw [dg_zero]; exact ok0 _ (by omega)) z (by omega) (by rw [dg_zero]; omega) z (by omega) (by rw [dg_zero]; omega) (Nat.zero_le _)
    rw [gcd_zero, mon_zero, pl_zero] at this
    exact this
theorem div_exact {f g : Po} {n : Nat} {k : List Int} (h : Loose n f k) (hn : n ≤ 4) (hg : Hb 30 g) (g1 : lc g = 1) (d : Dv g f) : ∃ Q : Po, f_division [pl f, pl g] = some (.tup [pl Q, .tup []]) := by
  have := h.dgle
  have dd := d.dg h.f0
  obtain ⟨Q, e⟩ := d
  have m : (dg f - dg g) * 31 ≤ 4 * 31 := Nat.mul_le_mul_right _ (by omega)
  have := division_ok (Q := Q) (R := 0) h.hb (by omega) (by omega) hg (by omega) (by omega) (by rw [e]; grind) (by rw [dg_zero]; exact dg_pos (lc1_ne g1)) (by omega) (by omega)
  rw [pl_zero] at this
  exact ⟨Q, this⟩
include hC
theorem law6 : f__law_mul [pl A, pl C] = some (pl (A * C)) ∧ f__law_mul [pl B, pl C] = some (pl (B * C)) ∧ f_common_divisor [pl (A * C), pl (B * C)] = some (pl (mon (gcd A B * C))) ∧ f__law_mul [pl (gcd A B), pl C] = some (pl (gcd A B * C)) ∧
    f__law_monic [pl (gcd A B * C)] = some (pl (mon (gcd A B * C))) ∧ (∃ Q, f_division [pl A, pl (gcd A B)] = some (.tup [pl Q, .tup []])) ∧ (∃ Q, f_division [pl B, pl (gcd A B)] = some (.tup [pl Q, .tup []])) := by
  have da := hA.dgle
  have db := hB.dgle
  have dc := hC.dgle
  have pa := dg_pos hA.f0
  have pc := dg_pos hC.f0
  have pb := dg_pos hB.f0
  have hac : Hb 12 (A * C) := Hb.of (hA.ht.mul4 hC.ht hA.dgle) (by omega) (by omega)
  have hbc : Hb 12 (B * C) := Hb.of (hB.ht.mul4 hC.ht hB.dgle) (by omega) (by omega)
  have d1 := (mul_top hA.f0 hC.f0).1
  have d2 := (mul_top hB.f0 hC.f0).1
  have sh := shared_hb hA hB
  have dsh := (gcd_l A B).dg hA.f0
  have sh0 := gcd_ne (g := B) hA.f0
  have d3 := (mul_top sh0 hC.f0).1
  have n1 := mul_ne hA.f0 hC.f0
  have ok : ∀ n, n < 7 → ∀ m, m < 7 → okE 40 n m 1 12 12 = true ∨ n = 0 := by decide +kernel
  have m1 := law_mul_ok sh hC.hb (by omega) (by omega) (by omega)
  have hshc : Hb 40 (gcd A B * C) := by
    obtain ⟨d, X, k, h1, h2⟩ := sh
    refine Hb.of (k.mul4 hC.ht (n := 4) (by omega)) ?_ ?_
    · omega
    · omega
  refine ⟨law_mul_ok hA.hb hC.hb (by omega) (by omega) (by omega), law_mul_ok hB.hb hC.hb (by omega) (by omega) (by omega), ?_, m1, law_monic_ok hshc (mul_ne sh0 hC.f0) (by omega) (by omega), div_exact hA hB hA (by omega) sh (gcd_lc hA.f0) (gcd_l A B), div_exact hA hB hB (by omega) sh (gcd_lc hA.f0) (gcd_r A B)⟩
  have := common_divisor_ok (G := 1) ((ok _ (by omega) _ (by omega)).resolve_right (by omega)) hac (by omega) (by omega) hbc (by omega) (by omega) (gcd_dg n1)
  rw [gcd_mul] at this
  exact this
theorem law7 : f__law_sum [pl (A * C), pl B] = some (pl (A * C + B)) ∧ f_common_divisor [pl A, pl (A * C + B)] = some (pl (gcd A B)) := by
  have da := hA.dgle
  have db := hB.dgle
  have dc := hC.dgle
  have pa := dg_pos hA.f0
  have hac : Ht 36 2304 (A * C) := hA.ht.mul4 hC.ht hA.dgle
  have hs : Hb 12 (A * C + B) := Hb.of (hac.add (hB.ht.up (e := 6) (by omega))) (by omega) (by omega)
  have d1 := dg_mul_le (f := A) (g := C)
  have d2 := dg_add (A * C) B
  have ok : ∀ n, n < 5 → ∀ m, m < 7 → okE 40 n m 1 5 12 = true ∨ n = 0 := by decide +kernel
  refine ⟨law_sum_ok (Hb.of (b := 12) hac (by omega) (by omega)) hB.hb (by omega) (by omega) (by omega) (by omega) (by omega), ?_⟩
  have := common_divisor_ok (G := 1) ((ok _ (by omega) _ (by omega)).resolve_right (by omega)) hA.hb (by omega) (by omega) hs (by omega) (by omega) (gcd_dg hA.f0)
  rw [gcd_more] at this
  exact this
end
end K41
namespace PA
theorem mul_pow (a b : Po) : ∀ k : Nat, (a * b) ^ k = a ^ k * b ^ k
  | 0 => by rw [pow_z, pow_z, pow_z]; grind
  | k + 1 => by rw [pow_s, pow_s, pow_s, mul_pow a b k]; grind
theorem pow_two (f : Po) : f ^ 2 = f * f := by rw [pow_s, pow_s, pow_z]; grind
theorem pow_three (f : Po) : f ^ 3 = f * f * f := by rw [pow_s, pow_s, pow_s, pow_z]; grind
end PA
namespace K41
open PySem L2 ML PA
theorem lc_bd {f : Po} {b : Nat} (h : Hb b f) (h0 : f ≠ 0) : Bd b (lc f) := h.cl _ (lc_mem h0)
/-- what is free of squares in f, found by the program -/
theorem sqf_run {f s : Po} {x w b : Nat} (f0 : f ≠ 0) (hf : Hb x f) (hN : dg f ≤ 16) (hs : Rad f s) (hbs : Hb b s) (hw : ∀ g, lc g = 1 → Dv g f → Hb w g)
    (ok : ∀ g, 1 ≤ g → g ≤ dg f → dg f + 1 = g + dg s → okE 40 (dg f) (dg f - 1) g x (x + 4) = true) (hv : 2 * (x + b) ≤ 9000) (hx : x ≤ 199)
    (c1 : x + dg s * (w + 1) + 2 * w ≤ 9000) (c2 : 2 * (x + dg s * (w + 1)) + w ≤ 9000) : f_squarefree [pl f] = some (pl s) := by
  obtain ⟨Q, eQ⟩ := gcd_l f (D f)
  have g1 : lc (gcd f (D f)) = 1 := gcd_lc f0
  have gne := lc1_ne g1
  have eQ' : f = Q * gcd f (D f) := by
    have : gcd f (D f) * Q = Q * gcd f (D f) := by grind
    rw [← this]; exact eQ
  have Q0 : Q ≠ 0 := fun z => f0 (by rw [eQ', z]; grind)
  have R := rad_of f0 eQ'
  have es : mon Q = s := R.uniq hs fun u hu => Iff.rfl
  have t := mul_top Q0 gne
  rw [← eQ', g1] at t
  have hQ : Hb (x + b) Q := by
    have : Q = cst (lc f) * s := by
      rw [← es]
      unfold mon
      have i := cst_inv (lc_ne Q0)
      have : lc f = lc Q := by rw [t.2]; grind
      rw [this]; grind
    rw [this]
    exact Hb.sc (lc_bd hf f0) hbs
  have dQ : dg s = dg Q := by rw [← es]; exact (mon_top Q0).1
  have dgg := (gcd_l f (D f)).dg f0
  have pg := dg_pos gne
  have m : (dg f - dg (gcd f (D f))) * (w + 1) ≤ dg s * (w + 1) := Nat.mul_le_mul_right _ (by omega)
  have := squarefree_of_ok f0 hf hN eQ' hQ hv (hw _ g1 (gcd_l f (D f))) (by rw [dgD f0]; exact ok _ pg dgg (by omega)) (by omega) (by omega) (by omega)
  rw [es] at this
  exact squarefree_ok f0 hf hx hN this
theorem rad_ex {f : Po} (f0 : f ≠ 0) : ∃ s, Rad f s := by
  obtain ⟨Q, eQ⟩ := gcd_l f (D f)
  exact ⟨mon Q, rad_of f0 (by
    have : gcd f (D f) * Q = Q * gcd f (D f) := by grind
    rw [← this]; exact eQ)⟩
section
variable {A B C : Po} {ka kb kc : List Int} (hA : Loose 4 A ka) (hB : Loose 4 B kb) (hC : Loose 3 C kc)
include hA hB
theorem vl_AB (n : Nat) : Vl (A * B) n (24 * gm 4 (10 + n) * (24 * gm 4 (10 + n))) := (hA.vl n).mul (hB.vl n)
theorem law8 : ∃ s, Rad (A * B) s ∧ f_squarefree [pl (A * B)] = some (pl s) ∧ f__law_power [pl A, .int 2] = some (pl (A ^ 2)) ∧ f__law_mul [pl (A ^ 2), pl B] = some (pl (A ^ 2 * B)) ∧ f_squarefree [pl (A ^ 2 * B)] = some (pl s) ∧ f_squarefree [pl s] = some (pl s) ∧ f_common_divisor [pl s, pl (A * B)] = some (pl s) := by
  have da := hA.dgle
  have db := hB.dgle
  have A0 := hA.f0
  have B0 := hB.f0
  have P0 := mul_ne A0 B0
  have dP := dgAB hA hB
  have pP := dg_pos P0
  obtain ⟨s, hs⟩ := rad_ex P0
  have s0 := lc1_ne hs.top
  have dvs := hs.dv
  have ds := dvs.dg P0
  have ps := dg_pos s0
  have bP : ∀ g, lc g = 1 → Dv g (A * B) → Hb 62 g := fun g g1 d => (vl_AB hA hB 6).hb g1 d (by have := d.dg P0; omega) (by decide)
  have hbs := bP s hs.top dvs
  -- once
  have ok1 : ∀ n, n < 8 → okE 40 n (n - 1) 1 12 16 = true := by decide +kernel
  have mono1 : ∀ n, n < 8 → ∀ g, g < 9 → 1 ≤ g → okE 40 n (n - 1) g 12 16 = true := by decide +kernel
  have m1 : dg s * 63 ≤ 7 * 63 := Nat.mul_le_mul_right _ (by omega)
  have r1 := sqf_run P0 (hbAB hA hB) (by omega) hs hbs bP (fun g h1 h2 h3 => mono1 _ (by omega) g (by omega) h1) (by omega) (by omega) (by omega) (by omega)
  -- a square more
  have A20 : A ^ 2 ≠ 0 := pow_ne A0 2
  have P20 := mul_ne A20 B0
  have htA2 : Ht 36 2304 (A ^ 2) := by rw [pow_two]; exact hA.ht.mul4 hA.ht hA.dgle
  have dA2 : dg (A ^ 2) ≤ 7 := by rw [pow_two]; exact dgAB hA hA
  have htP2 : Ht 216 221184 (A ^ 2 * B) := by
    have := (htA2.mul' hB.ht).mono (Nat.mul_le_mul_right (2304 * 24) hB.dgle)
    exact this
  have hbP2 : Hb 18 (A ^ 2 * B) := Hb.of htP2 (by omega) (by omega)
  have dP2 : dg (A ^ 2 * B) ≤ 10 := by
    have := dg_mul_le (f := A ^ 2) (g := B)
    omega
  have pP2 := dg_pos P20
  have same : ∀ u, Pr u → (Dv u (A ^ 2 * B) ↔ Dv u (A * B)) := fun u hu => by
    constructor
    · intro d
      rcases hu.mul d with d | d
      · exact (hu.pow 2 d).mul_right B
      · exact d.mul_left A
    · intro d
      have e : A ^ 2 * B = A * (A * B) := by rw [pow_two]; grind
      rw [e]; exact d.mul_left A
  have hs2 : Rad (A ^ 2 * B) s := ⟨hs.top, hs.sqf, fun u hu => (hs.pr u hu).trans (same u hu).symm⟩
  have bP2 : ∀ g, lc g = 1 → Dv g (A ^ 2 * B) → Hb 97 g := fun g g1 d => by
    have v := (((hA.vl 9).mul (hA.vl 9)).mul (hB.vl 9))
    rw [← pow_two] at v
    exact v.hb g1 d (by have := d.dg P20; omega) (by decide)
  have ok2 : ∀ n, n < 11 → ∀ g, g < 11 → 1 ≤ g → n ≤ g + 6 → okE 40 n (n - 1) g 18 22 = true := by decide +kernel
  have m2 : dg s * 98 ≤ 7 * 98 := Nat.mul_le_mul_right _ (by omega)
  have r2 := sqf_run P20 hbP2 (by omega) hs2 hbs bP2 (fun g h1 h2 h3 => ok2 _ (by omega) g (by omega) h1 (by omega)) (by omega) (by omega) (by omega) (by omega)
  -- once more of itself
  have self := Rad.self hs.top hs.sqf
  have bs : ∀ g, lc g = 1 → Dv g s → Hb 62 g := fun g g1 d => bP g g1 (d.trans dvs)
  have r3 : f_squarefree [pl s] = some (pl s) := by
    by_cases h7 : dg s ≤ 6
    · have hb57 : Hb 57 s := (vl_AB hA hB 5).hb hs.top dvs (by omega) (by decide)
      have ok3 : ∀ n, n < 7 → ∀ g, g < 8 → 1 ≤ g → okE 40 n (n - 1) g 57 61 = true := by decide +kernel
      exact sqf_run s0 hb57 (by omega) self hb57 bs (fun g h1 h2 h3 => ok3 _ (by omega) g (by omega) h1) (by omega) (by omega) (by omega) (by omega)
    · have e : s = mon (A * B) := (dvs.trans (dv_mon (A * B))).eq hs.top (mon_top P0).2 (by rw [(mon_top P0).1]; omega)
      have hb12 : Hb 12 s := by rw [e]; exact (hbAB hA hB).mon P0
      exact sqf_run s0 hb12 (by omega) self hb12 bs (fun g h1 h2 h3 => mono1 _ (by omega) g (by omega) h1) (by omega) (by omega) (by omega) (by omega)
  -- the divisor
  have gd : gcd s (A * B) = s := by rw [gcd_dv dvs, mon_of hs.top]
  have ok4 : ∀ n, n < 8 → ∀ m, m < 8 → n ≤ m → okE 40 n m n 62 12 = true := by decide +kernel
  have r4 := common_divisor_ok (G := dg s) (ok4 _ (by omega) _ (by omega) ds) hbs (by omega) (by omega) (hbAB hA hB) (by omega) (by omega) (by rw [gd]; exact Nat.le_refl _)
  rw [gd] at r4
  have r5 := law_power_ok (X := 12) hA.hb (by omega) (by omega) (n := 2) (fun k hk => by
    match k, hk with
    | 0, _ =>
      rw [pow_z]
      exact ⟨⟨1, 1, Ht.of (l := [1]) (by omega) (Hl.cons ⟨1, by rw [show ((1 : Nat) : Rat) = 1 from rfl, show ((1 : Int) : Rat) = 1 from rfl]; grind, by decide⟩ Hl.nil) (Po.ext fun x => by rw [one_v, toPo_v]; simp only [ev]; grind), by omega, by omega⟩, by rw [dg_one]; omega⟩
    | 1, _ =>
      have : A ^ 1 = A := by rw [pow_s, pow_z]; grind
      rw [this]
      exact ⟨hA.hb.mono (by omega), by omega⟩) (by omega)
  exact ⟨s, hs, r1, r5, law_mul_ok (Hb.of (b := 12) htA2 (by omega) (by omega)) hB.hb (by omega) (by omega) (by omega), r2, r3, r4⟩
end
end K41
namespace K41
open PySem L2 ML PA
theorem prodP_app : ∀ (L M : List Po) (i : Nat), prodP i (L ++ M) = prodP i L * prodP (i + L.length) M
  | [], M, i => by
    show prodP i M = 1 * prodP i M
    grind
  | p :: L, M, i => by
    show p ^ i * prodP (i + 1) (L ++ M) = p ^ i * prodP (i + 1) L * prodP (i + (L.length + 1)) M
    rw [prodP_app L M (i + 1), show i + (L.length + 1) = i + 1 + L.length by omega]; grind
theorem lc_mul1 {f g : Po} (hf : lc f = 1) (hg : lc g = 1) : lc (f * g) = 1 := by
  rw [(mul_top (lc1_ne hf) (lc1_ne hg)).2, hf, hg]; grind
theorem lc_pow1 {f : Po} (hf : lc f = 1) : ∀ k : Nat, lc (f ^ k) = 1
  | 0 => lc_one
  | k + 1 => lc_mul1 (lc_pow1 hf k) hf
theorem prodP_lc : ∀ (L : List Po) (i : Nat), (∀ p ∈ L, lc p = 1) → lc (prodP i L) = 1
  | [], i, _ => lc_one
  | p :: L, i, h => lc_mul1 (lc_pow1 (h p List.mem_cons_self) i) (prodP_lc L (i + 1) fun r hr => h r (List.mem_cons_of_mem _ hr))
theorem pow_dv (p : Po) {j k : Nat} (h : j ≤ k) : Dv (p ^ j) (p ^ k) := by
  induction h with
  | refl => exact Dv.refl _
  | step _ ih => exact ih.mul_right p
theorem hb_one : Hb 1 (1 : Po) := ⟨1, 1, Ht.of (l := [1]) (by omega) (Hl.cons ⟨1, by rw [show ((1 : Nat) : Rat) = 1 from rfl, show ((1 : Int) : Rat) = 1 from rfl]; grind, by decide⟩ Hl.nil) (Po.ext fun x => by rw [one_v, toPo_v]; simp only [ev]; grind), by omega, by omega⟩
theorem dg_pow_le {f : Po} (h : f ≠ 0) : ∀ k : Nat, dg (f ^ k) = k * (dg f - 1) + 1
  | 0 => by rw [pow_z, dg_one]; omega
  | k + 1 => by
    have := (mul_top (pow_ne h k) h).1
    have ih := dg_pow_le h k
    have := dg_pos h
    rw [pow_s, Nat.add_mul, Nat.one_mul]; omega
section
variable {A C : Po} {ka kc : List Int} (hA : Loose 4 A ka) (hC : Loose 3 C kc)
include hA hC
theorem law9 : f__law_mul [pl A, pl A] = some (pl (A * A)) ∧ f__law_power [pl C, .int 3] = some (pl (C ^ 3)) ∧ f__law_mul [pl (A * A), pl (C ^ 3)] = some (pl (A * A * C ^ 3)) ∧
    ∃ L : List Po, f_squarefree_parts [pl (A * A * C ^ 3)] = some (.tup (L.map pl)) ∧ L.length ≤ 40 ∧ (∀ p ∈ L, f_squarefree [pl p] = some (pl p)) ∧
      (∀ (a b : Nat) (p r : Po), b < a → L[a]? = some p → L[b]? = some r → f_common_divisor [pl p, pl r] = some (pl 1)) ∧
      (∀ (k : Nat) (p : Po), L[k]? = some p → f__law_power [pl p, .int ((k + 1 : Nat) : Int)] = some (pl (p ^ (k + 1))) ∧
        f__law_mul [pl (cst (lc (A * A * C ^ 3)) * prodP 1 (L.take k)), pl (p ^ (k + 1))] = some (pl (cst (lc (A * A * C ^ 3)) * prodP 1 (L.take (k + 1))))) ∧
      cst (lc (A * A * C ^ 3)) * prodP 1 (L.take L.length) = A * A * C ^ 3 ∧ A * A * C ^ 3 ≠ 0 := by
  have da := hA.dgle
  have dc := hC.dgle
  have A0 := hA.f0
  have C0 := hC.f0
  have AA0 := mul_ne A0 A0
  have C30 := pow_ne C0 3
  have W0 := mul_ne AA0 C30
  have htAA : Ht 36 2304 (A * A) := hA.ht.mul4 hA.ht hA.dgle
  have htCC : Ht 36 1728 (C * C) := hC.ht.mul4 hC.ht hC.dgle
  have htC3 : Ht 216 124416 (C ^ 3) := by
    rw [pow_three]
    exact (htCC.mul' hC.ht).mono (Nat.mul_le_mul_right (1728 * 24) hC.dgle)
  have dAA := dg_mul_le (f := A) (g := A)
  have dC3 := dg_pow_le C0 3
  have htW : Ht 7776 2006581248 (A * A * C ^ 3) := htAA.mul4 htC3 (n := 7) (by omega)
  have hbW : Hb 31 (A * A * C ^ 3) := Hb.of htW (by omega) (by omega)
  have dW := dg_mul_le (f := A * A) (g := C ^ 3)
  have vW : Vl (A * A * C ^ 3) 12 (24 * gm 4 22 * (24 * gm 4 22) * (24 * gm 3 22 * (24 * gm 3 22) * (24 * gm 3 22))) := by
    have := ((hA.vl 12).mul (hA.vl 12)).mul (((hC.vl 12).mul (hC.vl 12)).mul (hC.vl 12))
    rw [← pow_three] at this
    exact this
  have m1 := law_mul_ok hA.hb hA.hb (by omega) (by omega) (by omega)
  have m2 := law_power_ok (X := 12) hC.hb (by omega) (by omega) (n := 3) (fun k hk => by
    match k, hk with
    | 0, _ => rw [pow_z]; exact ⟨hb_one.mono (by omega), by rw [dg_one]; omega⟩
    | 1, _ =>
      have : C ^ 1 = C := by rw [pow_s, pow_z]; grind
      rw [this]
      exact ⟨hC.hb.mono (by omega), by omega⟩
    | 2, _ =>
      rw [pow_two]
      have := dg_mul_le (f := C) (g := C)
      exact ⟨Hb.of htCC (by omega) (by omega), by omega⟩) (by omega)
  have m3 := law_mul_ok (Hb.of (b := 12) htAA (by omega) (by omega)) (Hb.of (b := 17) htC3 (by omega) (by omega)) (by omega) (by omega) (by omega)
  refine ⟨m1, m2, m3, ?_⟩
  generalize hWd : A * A * C ^ 3 = W at *
  have mt := mon_top W0
  have P0 := lc1_ne mt.2
  obtain ⟨S, eS'⟩ := gcd_l (mon W) (D (mon W))
  have G1 : lc (gcd (mon W) (D (mon W))) = 1 := gcd_lc P0
  have eS : mon W = S * gcd (mon W) (D (mon W)) := by
    have : gcd (mon W) (D (mon W)) * S = S * gcd (mon W) (D (mon W)) := by grind
    rw [← this]; exact eS'
  have S1 : lc S = 1 := lc_of_mul (by rw [← eS]; exact mt.2) G1
  have rad := rad_of P0 eS
  rw [mon_of S1] at rad
  -- S goes into one times third
  have AC0 := mul_ne A0 C0
  have SAC : Dv S (A * C) := rad.sqf.into (lc1_ne S1) fun u hu d => by
    have d1 : Dv u W := dv_mon_iff.mp ((rad.pr u hu).mp d)
    rw [← hWd] at d1
    rcases hu.mul d1 with d2 | d2
    · rcases hu.mul d2 with d3 | d3
      · exact d3.mul_right C
      · exact d3.mul_right C
    · exact (hu.pow 3 d2).mul_left A
  have SG : Dv S (gcd (mon W) (D (mon W))) := by
    have d1 : Dv (S * S) W := by
      have d2 : Dv (A * C * (A * C)) W := ⟨C, by rw [← hWd, pow_three]; grind⟩
      exact (SAC.mul SAC).trans d2
    have d2 : Dv (S * S) (S * gcd (mon W) (D (mon W))) := by rw [← eS]; exact d1.trans (dv_mon W)
    exact d2.cancel (lc1_ne S1)
  have bF : ∀ s, lc s = 1 → Dv s (mon W) → Hb 137 s := fun s s1 d => vW.hb s1 (d.trans (mon_dv W)) (by have := (d.trans (mon_dv W)).dg W0; omega) (by decide)
  have dAC := dg_mul_le (f := A) (g := C)
  have bR : ∀ s, lc s = 1 → Dv s S → Hb 53 s := fun s s1 d => ((hA.vl 5).mul (hC.vl 5)).hb s1 (d.trans SAC) (by have := (d.trans SAC).dg AC0; omega) (by decide)
  have okFR : ∀ n, n < 14 → ∀ m, m < 7 → 1 ≤ m → n + 2 * (m - 1) ≤ 13 → okE 40 n m 1 137 53 = true := by decide +kernel
  have okF1 : ∀ n, n < 14 → ∀ m, m < 7 → m ≤ n → okE 40 n m m 137 53 = true := by decide +kernel
  have okW : ∀ n, n < 14 → ∀ g, g < 14 → 1 ≤ g → n ≤ g + 5 → okE 40 n (n - 1) g 31 35 = true := by decide +kernel
  have dS := SAC.dg AC0
  have dG := (mul_top (lc1_ne S1) (lc1_ne G1)).1
  rw [← eS, mt.1] at dG
  have pS := dg_pos (lc1_ne S1)
  have pG := dg_pos (lc1_ne G1)
  have pW := dg_pos W0
  obtain ⟨L, e1, e2, pts, hL⟩ := free_parts_ok (S := S) (z := 31) (x := 137) (y := 53) W0 hbW (by omega) (by omega) eS SG bF bR (fun i F R hi hF hR hd hRS h1 => by
      have F0 := lc1_ne hF
      have R0 := lc1_ne hR
      have pF := dg_pos F0
      have pR := dg_pos R0
      have dR := (hRS.trans SAC).dg AC0
      have dd := hd.dg P0
      have t := (mul_top F0 (pow_ne R0 i)).1
      rw [dg_pow_le R0 i] at t
      rw [mt.1] at dd
      by_cases hi1 : i = 1
      · have rf := h1 hi1
        have : gcd F R = R := by rw [gcd_comm, gcd_dv rf, mon_of hR]
        rw [this]
        subst hi1
        exact okF1 _ (by omega) _ (by omega) (rf.dg F0)
      · have : 2 * (dg R - 1) ≤ i * (dg R - 1) := Nat.mul_le_mul_right _ (by omega)
        have := okFR (dg F) (by omega) (dg R) (by omega) pR (by omega)
        -- a greater divisor only makes it shorter
        have mono : ∀ (k n m x y : Nat), okE k n m 1 x y = true → ∀ g, okE k n m g x y = true := by
          intro k
          induction k with
          | zero => intro n m x y h; simp [okE] at h
          | succ k ih =>
            intro n m x y h g
            unfold okE at h ⊢
            simp only [Bool.and_eq_true, Bool.or_eq_true, decide_eq_true_eq, List.all_eq_true] at h ⊢
            refine ⟨h.1, h.2.imp id fun h2 => ⟨h2.1, fun m' hm' => ?_⟩⟩
            have h3 := h2.2 m' hm'
            by_cases hg : m' < max g 1
            · exact .inl hg
            · refine .inr ((h3.resolve_left (by omega)).imp id fun h4 => ⟨h4.1, ih _ _ _ _ h4.2 g⟩)
        exact mono _ _ _ _ _ this _) (by
      rw [dgD P0, mt.1]
      exact okW _ (by omega) _ (by omega) pG (by omega)) (by omega) (by omega) (by omega) (by omega) (by omega) (by omega)
  have e3 := squarefree_parts_ok W0 (hbW.mono (by omega)) (by omega) e1
  have okp : ∀ n, n < 7 → ∀ g, g < 8 → 1 ≤ g → okE 40 n (n - 1) g 53 57 = true := by decide +kernel
  have okpp : ∀ n, n < 7 → ∀ m, m < 7 → okE 40 n m 1 53 53 = true := by decide +kernel
  have pd : ∀ p ∈ L, Hb 53 p ∧ dg p ≤ 6 ∧ 1 ≤ dg p := fun p hp => by
    have d := pts.dv p hp
    exact ⟨bR p (pts.top p hp) d, by have := (d.trans SAC).dg AC0; omega, dg_pos (lc1_ne (pts.top p hp))⟩
  have whole : cst (lc W) * mon W = W := by
    unfold mon
    have := cst_inv (lc_ne W0)
    grind
  have pre : ∀ k, Dv (prodP 1 (L.take k)) (mon W) := fun k => by
    have h : L = L.take k ++ L.drop k := (List.take_append_drop k L).symm
    rw [e2]
    conv => rhs; rw [h]
    rw [prodP_app]
    exact Dv.left _ _
  have prelc : ∀ k, lc (prodP 1 (L.take k)) = 1 := fun k => prodP_lc _ _ fun p hp => pts.top p (List.mem_of_mem_take hp)
  have snoc : ∀ (k : Nat) (p : Po), L[k]? = some p → prodP 1 (L.take (k + 1)) = prodP 1 (L.take k) * p ^ (k + 1) := fun k p hk => by
    have hl := (List.getElem?_eq_some_iff.mp hk).1
    rw [List.take_succ, hk, Option.toList_some, prodP_app, List.length_take, Nat.min_eq_left (by omega), show 1 + k = k + 1 by omega]
    show _ * (p ^ (k + 1) * 1) = _
    grind
  refine ⟨L, e3, hL, fun p hp => ?_, fun a b p r hab h1 h2 => ?_, fun k p hk => ?_, by rw [List.take_length, ← e2, whole], W0⟩
  · obtain ⟨b1, b2, b3⟩ := pd p hp
    have l1 := pts.top p hp
    have m : dg p * 54 ≤ 6 * 54 := Nat.mul_le_mul_right _ b2
    exact sqf_run (lc1_ne l1) b1 (by omega) (Rad.self l1 (pts.sqf p hp)) b1 (fun g g1 d => bR g g1 (d.trans (pts.dv p hp))) (fun g h1 h2 h3 => okp _ (by omega) g (by omega) h1) (by omega) (by omega) (by omega) (by omega)
  · have hp := List.mem_of_getElem? h1
    have hr := List.mem_of_getElem? h2
    obtain ⟨b1, b2, b3⟩ := pd p hp
    obtain ⟨c1, c2, c3⟩ := pd r hr
    have := common_divisor_ok (G := 1) (okpp _ (by omega) _ (by omega)) b1 (by omega) (by omega) c1 (by omega) (by omega) (gcd_dg (lc1_ne (pts.top p hp)))
    rw [gcd_comm, pts.cop b a r p hab h2 h1] at this
    exact this
  · have hp := List.mem_of_getElem? hk
    have hl := (List.getElem?_eq_some_iff.mp hk).1
    obtain ⟨b1, b2, b3⟩ := pd p hp
    have l1 := pts.top p hp
    have dpk : Dv (p ^ (k + 1)) (mon W) := by
      have := pre (k + 1)
      rw [snoc k p hk] at this
      exact (Dv.right _ _).trans this
    have bpow : ∀ j, j ≤ k + 1 → Hb 137 (p ^ j) ∧ dg (p ^ j) ≤ 30 := fun j hj => by
      have d := (pow_dv p hj).trans dpk
      have := d.dg P0
      exact ⟨bF _ (lc_pow1 l1 j) d, by omega⟩
    refine ⟨law_power_ok (X := 137) b1 (by omega) (by omega) (fun j hj => bpow j (by omega)) (by omega), ?_⟩
    have bf : Hb (31 + 137) (cst (lc W) * prodP 1 (L.take k)) := Hb.sc (lc_bd hbW W0) (bF _ (prelc k) (pre k))
    have df := (mul_top (cst_ne (lc_ne W0)) (lc1_ne (prelc k))).1
    rw [(dg_cst (lc_ne W0)).1] at df
    have dpr := (pre k).dg P0
    have := law_mul_ok bf (bpow (k + 1) (Nat.le_refl _)).1 (by omega) (by omega) (bpow (k + 1) (Nat.le_refl _)).2
    rw [this, snoc k p hk]
    congr 2
    grind
end
end K41
namespace ML
/-- items that pass a test all give one value -/
theorem lcM_flt {vs : List Nat} {g : DG} {t : DT} {e : DE} {ρ : MEnv} {v : MV} : ∀ (ms acc : List MV), acc.length + ms.length ≤ 100000 →
    (∀ m ∈ ms, (∃ ρ1 ρ2, g m ρ = some ρ1 ∧ t ρ1 = some (false, ρ2) ∧ wipeM ρ2 vs = ρ) ∨ (∃ ρ1 ρ2 ρ3, g m ρ = some ρ1 ∧ t ρ1 = some (true, ρ2) ∧ e ρ2 = some (v, ρ3) ∧ wipeM ρ3 vs = ρ)) →
    ∃ n, lcM vs g t e ms acc ρ = some (acc ++ List.replicate n v, ρ) ∧ n ≤ ms.length ∧ ((∃ m ∈ ms, ∀ ρ1 ρ2, g m ρ = some ρ1 → t ρ1 ≠ some (false, ρ2)) → 1 ≤ n)
  | [], acc, _, _ => ⟨0, by simp [lcM], Nat.le_refl _, fun ⟨m, hm, _⟩ => nomatch hm⟩
  | m :: ms, acc, hn, h => by
    simp only [List.length_cons] at hn
    rcases h m List.mem_cons_self with ⟨ρ1, ρ2, e1, e2, e3⟩ | ⟨ρ1, ρ2, ρ3, e1, e2, e3, e4⟩
    · obtain ⟨n, e4, hl, hp⟩ := lcM_flt ms acc (by omega) fun m hm => h m (List.mem_cons_of_mem _ hm)
      refine ⟨n, ?_, by simp only [List.length_cons]; omega, fun ⟨m', hm', k⟩ => ?_⟩
      · unfold lcM
        simp only [e1, e2, e3, Option.bind_some]
        exact e4
      · rcases List.mem_cons.mp hm' with rfl | hm'
        · exact absurd e2 (k ρ1 ρ2 e1)
        · exact hp ⟨m', hm', k⟩
    · obtain ⟨n, e5, hl, hp⟩ := lcM_flt ms (acc ++ [v]) (by simp; omega) fun m hm => h m (List.mem_cons_of_mem _ hm)
      refine ⟨n + 1, ?_, by simp only [List.length_cons]; omega, fun _ => by omega⟩
      unfold lcM
      simp only [e1, e2, e3, e4, Option.bind_some, if_true, lenOk_of (show acc.length + 1 ≤ 100000 by omega)]
      rw [e5, List.replicate_succ]
      simp
end ML
namespace K41
open PySem L2 ML PA
theorem hor_bd {x : Rat} {b : Nat} (hx : Bd 3 x) : ∀ (l : List Rat) (u : Rat) (c : Nat), Cl b l → Bd c u → Bd (c + l.length * (b + 4)) (hor x l u)
  | [], u, c, _, hu => by simpa [hor] using hu
  | a :: l, u, c, hl, hu => by
    have ad := (hu.mul hx).add (hl a List.mem_cons_self)
    have := hor_bd hx l (u * x + a) (c + 3 + b + 1) (fun d hd => hl d (List.mem_cons_of_mem _ hd)) ad
    rw [List.length_cons, Nat.add_mul, Nat.one_mul]
    exact this.mono (by omega)
theorem val_bd {f : Po} {x : Rat} {b : Nat} (hf : Hb b f) (hx : Bd 3 x) : Bd (1 + dg f * (b + 4)) (f.1 x) := by
  have := hor_bd hx (lst f).reverse 0 1 (fun c hc => hf.cl c (by simpa using hc)) (bd0 (Nat.le_refl _))
  rw [hor_ev, List.length_reverse, ev_lst] at this
  rw [show f.1 x + 0 * x ^ (lst f).length = f.1 x by grind] at this
  exact this
/-- x less a number -/
theorem lin_lst (x : Rat) : lst (toPo [-x, 1]) = [-x, 1] := (top_of (f := toPo [-x, 1]) (l := [-x]) (c := 1) (by decide) fun z => rfl).1
theorem pl_lin (x : Rat) : pl (toPo [-x, 1]) = .tup [.tup [.int (0 - x.num), .int x.den], .tup [.int 1, .int 1]] := by
  unfold pl
  rw [lin_lst]
  show MV.tup [q (-x), q 1] = _
  have h1 : q (-x) = .tup [.int (0 - x.num), .int x.den] := by
    unfold q
    rw [Rat.neg_num, Rat.neg_den, Int.zero_sub]
  rw [h1]; rfl
theorem lst_cst {c : Rat} (h : c ≠ 0) : lst (cst c) = [c] := (top_of (f := cst c) (l := []) h fun z => by rw [cst_v]; simp only [List.nil_append, ev]; grind).1
theorem pl_cst {c : Rat} (h : c ≠ 0) : pl (cst c) = .tup [q c] := by unfold pl; rw [lst_cst h]; rfl
theorem toPo_one (c : Rat) : toPo [c] = cst c := Po.ext fun z => by rw [toPo_v, cst_v]; simp only [ev]; grind
section
variable {A B C : Po} {ka kb kc : List Int} (hA : Loose 4 A ka) (hB : Loose 4 B kb)
include hA hB
theorem law16 {x : Rat} (hx : Bd 3 x) : f_value_of [pl (A * B), q x] = some (q ((A * B).1 x)) ∧ f_value_of [pl A, q x] = some (q (A.1 x)) ∧ f_value_of [pl B, q x] = some (q (B.1 x)) ∧ f__law_times [q (A.1 x), q (B.1 x)] = some (q ((A * B).1 x)) ∧
    f_value_of [pl (A + B), q x] = some (q ((A + B).1 x)) ∧ f__law_add [q (A.1 x), q (B.1 x)] = some (q ((A + B).1 x)) ∧ f__law_at [pl A, q x] = some (q (A.1 x)) ∧
    (∃ Q, f_division [pl A, pl (toPo [-x, 1])] = some (.tup [pl Q, pl (cst (A.1 x))])) ∧ f__law_trim [.tup [q (A.1 x)]] = some (pl (cst (A.1 x))) := by
  have da := hA.dgle
  have db := hB.dgle
  have dab := dgAB hA hB
  have hs : Hb 6 (A + B) := Hb.of (hA.ht.add hB.ht) (by omega) (by omega)
  have ds := dg_add A B
  have m1 : dg A * 9 ≤ 4 * 9 := Nat.mul_le_mul_right _ da
  have m2 : dg B * 9 ≤ 4 * 9 := Nat.mul_le_mul_right _ db
  have m3 : dg (A * B) * 16 ≤ 7 * 16 := Nat.mul_le_mul_right _ dab
  have m4 : dg (A + B) * 10 ≤ 4 * 10 := Nat.mul_le_mul_right _ (by omega)
  have va := val_bd hA.hb hx
  have vb := val_bd hB.hb hx
  refine ⟨value_of_ok (hbAB hA hB) hx (by omega) (by omega) (by omega), value_of_ok hA.hb hx (by omega) (by omega) (by omega), value_of_ok hB.hb hx (by omega) (by omega) (by omega), law_times_ok va vb (by omega), value_of_ok hs hx (by omega) (by omega) (by omega), law_add_ok va vb (by omega), (value_at_ok hA.hb hx (by omega) (by omega)).2, ?_, ?_⟩
  · have e : A = toPo (syn x (lst A)).1 * toPo [-x, 1] + cst (A.1 x) := Po.ext fun z => by
      rw [add_v, mul_v, cst_v, toPo_v, toPo_v, ← ev_lst A z, ← ev_lst A x, syn_ev x (lst A) z, syn_ev x (lst A) x]
      simp only [ev]; grind
    have dl : dg (toPo [-x, 1]) = 2 := by unfold dg; rw [lin_lst]; rfl
    have dc : dg (cst (A.1 x)) < dg (toPo [-x, 1]) := by
      rw [dl]
      have := dg_toPo [A.1 x]
      rw [toPo_one] at this
      simp at this; omega
    have hl : Hb 3 (toPo [-x, 1]) := by
      refine Hb.of (d := x.den) (B := 7) (Ht.of x.den_pos (l := [-x, 1]) (Hl.cons ⟨-x.num, ?_, ?_⟩ (Hl.cons ⟨x.den, ?_, ?_⟩ Hl.nil)) rfl) hx.2 (by omega)
      · rw [Rat.intCast_neg, ← mul_den x]; grind
      · have := hx.1
        rw [Int.natAbs_neg]; omega
      · show 1 * (x.den : Rat) = (x.den : Rat)
        grind
      · have := hx.2
        rw [Int.natAbs_natCast]; omega
    have m : (dg A - dg (toPo [-x, 1])) * 4 ≤ 4 * 4 := Nat.mul_le_mul_right _ (by omega)
    exact ⟨_, division_ok hA.hb (by omega) (by omega) hl (by omega) (by omega) e dc (by omega) (by omega)⟩
  · have := law_trim_ok (m := .tup [q (A.1 x)]) (l := [A.1 x]) (.inl rfl) (by simp)
    rw [toPo_one] at this
    exact this
omit hB
/-- the whole form's items by the polynomial's own -/
theorem scale_ok {W : List Int} (h : Wh A W) (hW : ∀ w ∈ W, w.natAbs < 2 ^ 10) : ∃ v : Rat, ∀ (k : Nat) (c : Rat), (lst A)[k]? = some c → c ≠ 0 → ∃ w, W[k]? = some w ∧ f__law_by [.tup [.int w, .int 1], q c] = some (q v) := by
  obtain ⟨t, t0, e⟩ := h.eq
  refine ⟨1 / t, fun k c hk hc => ?_⟩
  have hl : lst A = (ci W).map fun z => t * z := by
    refine lst_eq ?_ fun x => ?_
    · refine tr_of fun a ha => ?_
      rw [List.getLast?_map] at ha
      obtain ⟨z, hz, rfl⟩ := Option.map_eq_some_iff.mp ha
      have := h.tr.last hz
      grind
    · rw [show (ci W).map (fun z => t * z) = lsc t (ci W) from rfl, ev_lsc, e]; rfl
  have hcl := hA.hb.cl c (List.mem_of_getElem? hk)
  rw [hl, List.getElem?_map] at hk
  obtain ⟨z, hz, rfl⟩ := Option.map_eq_some_iff.mp hk
  unfold ci at hz
  rw [List.getElem?_map] at hz
  obtain ⟨w, hw, rfl⟩ := Option.map_eq_some_iff.mp hz
  have bw : Bd 10 (w : Rat) := ⟨hW w (List.mem_of_getElem? hw), by show 1 < _; omega⟩
  have := law_by_ok bw hcl (by omega) hc
  have hw0 : (w : Rat) ≠ 0 := fun z => hc (by rw [z]; grind)
  rw [show (w : Rat) / (t * (w : Rat)) = 1 / t by grind] at this
  exact ⟨w, hw, this⟩
theorem law18 (h2 : 2 ≤ dg A) : ∃ W, f_whole_form [pl A] = some (.tup (W.map MV.int)) ∧ Wh A W ∧ (∀ w ∈ W, w.natAbs < 2 ^ 10) ∧ f__law_mul [pl A, .tup [.tup [.int (-5), .int 3]]] = some (pl (A * cst (mkRat (-5) 3))) ∧ f_whole_form [pl (A * cst (mkRat (-5) 3))] = some (.tup (W.map MV.int)) := by
  have da := hA.dgle
  obtain ⟨W, e1, w1, bW⟩ := whole_form_ok hA.hb (by omega) h2 (by omega)
  have c0 : mkRat (-5) 3 ≠ 0 := by decide
  have bc : Bd 3 (mkRat (-5) 3) := ⟨by decide, by decide⟩
  have hc : Hb 4 (cst (mkRat (-5) 3)) := by
    have := Hb.sc bc hb_one
    rw [show cst (mkRat (-5) 3) * 1 = cst (mkRat (-5) 3) by grind] at this
    exact this
  have pc : pl (cst (mkRat (-5) 3)) = .tup [.tup [.int (-5), .int 3]] := by
    rw [pl_cst c0]
    have : q (mkRat (-5) 3) = .tup [.int (-5), .int 3] := by
      unfold q
      rw [show (mkRat (-5) 3).num = -5 by decide, show (mkRat (-5) 3).den = 3 by decide]; rfl
    rw [this]
  have dc := (dg_cst c0).1
  have t := (mul_top hA.f0 (cst_ne c0)).1
  have m := law_mul_ok hA.hb hc (by omega) (by omega) (by omega)
  rw [pc] at m
  have hp : Hb 10 (A * cst (mkRat (-5) 3)) := by
    have := Hb.sc bc hA.hb
    rw [show cst (mkRat (-5) 3) * A = A * cst (mkRat (-5) 3) by grind] at this
    exact this.mono (by omega)
  obtain ⟨V, e2, w2, _⟩ := whole_form_ok hp (by omega) (by omega) (by omega)
  have : V = W := w2.uniq w1 c0 (by grind)
  rw [this] at e2
  exact ⟨W, e1, w1, bW, m, e2⟩
theorem pl_toI {W : List Int} (h : Wh A W) : pl (toI W) = .tup (W.map fun w => .tup [.int w, .int 1]) := by
  unfold pl
  rw [h.lst, ci, List.map_map]
  rfl
include hB
theorem law19 (h2 : 2 ≤ dg A) (h3 : 2 ≤ dg B) {W : List Int} (hW : Wh A W) (bW : ∀ w ∈ W, w.natAbs < 2 ^ 10) : ∃ V U : List Int, f_whole_form [pl (A * B)] = some (.tup (V.map MV.int)) ∧ f_whole_form [pl B] = some (.tup (U.map MV.int)) ∧ U.length ≤ 10 ∧ V.length ≤ 10 ∧
    f__law_mul [.tup (W.map fun w => .tup [.int w, .int 1]), .tup (U.map fun w => .tup [.int w, .int 1])] = some (.tup (V.map fun w => .tup [.int w, .int 1])) := by
  have da := hA.dgle
  have db := hB.dgle
  have dab := dgAB hA hB
  have t := (mul_top hA.f0 hB.f0).1
  obtain ⟨V, e1, v1, _⟩ := whole_form_ok (hbAB hA hB) (by omega) (by omega) (by omega)
  obtain ⟨U, e2, u1, bU⟩ := whole_form_ok hB.hb (by omega) h3 (by omega)
  have hbI : ∀ {F : Po} {X : List Int}, Wh F X → (∀ w ∈ X, w.natAbs < 2 ^ 10) → Hb 10 (toI X) := fun {F X} h b => by
    refine Hb.of (d := 1) (B := 2 ^ 10 - 1) ⟨by omega, fun c hc => ?_⟩ (by omega) (by omega)
    rw [h.lst] at hc
    obtain ⟨w, hw, rfl⟩ := List.mem_map.mp hc
    exact ⟨w, by rw [show ((1 : Nat) : Rat) = 1 from rfl]; grind, by have := b w hw; omega⟩
  have dI : ∀ {F : Po} {X : List Int}, Wh F X → dg (toI X) = X.length := fun {F X} h => by unfold dg; rw [h.lst, ci, List.length_map]
  have l1 := hW.len
  have l2 := u1.len
  have l3 := v1.len
  have m := law_mul_ok (hbI hW bW) (hbI u1 bU) (by omega) (by rw [dI hW]; omega) (by rw [dI u1]; omega)
  rw [pl_toI hA hW, pl_toI hB u1] at m
  -- the product's items
  obtain ⟨K, hK⟩ := ci_mul W U
  obtain ⟨V', eV'⟩ := trimI K
  have eVt : toI V' = toI W * toI U := by
    rw [hK]
    refine Po.ext fun x => ?_
    show ev (ci V') x = ev (ci K) x
    rw [← eV', trim_ev]
  have trV : Tr (ci V') := by rw [← eV']; exact tr_trim _
  have lV : lst (toI V') = ci V' := by unfold toI; rw [lst_toPo, trV]
  obtain ⟨a, a0, ea⟩ := hW.eq
  obtain ⟨b, b0, eb⟩ := u1.eq
  have W0 : toI W ≠ 0 := fun z => hA.f0 (by rw [ea, z]; grind)
  have U0 : toI U ≠ 0 := fun z => hB.f0 (by rw [eb, z]; grind)
  have tm := mul_top W0 U0
  have lcOf : ∀ {F : Po} {X : List Int}, Wh F X → ∃ w : Int, lc (toI X) = (w : Rat) ∧ 0 < w := fun {F X} h => by
    obtain ⟨w, hw, pw⟩ := h.pos
    exact ⟨w, by unfold lc; rw [h.lst, ci, List.getLast?_map, hw]; rfl, pw⟩
  obtain ⟨w, hw, pw⟩ := lcOf hW
  obtain ⟨u, hu, pu⟩ := lcOf u1
  have hV' : Wh (A * B) V' := by
    refine ⟨?_, pm_mul hW.pm u1.pm eVt, ?_, ⟨a * b, by grind, by rw [eVt, cst_mul, ea, eb]; grind⟩⟩
    · have h1 : dg (toI V') = V'.length := by unfold dg; rw [lV, ci, List.length_map]
      rw [← eVt, h1, dI hW, dI u1] at tm
      omega
    · have h1 : lc (toI V') = ((w * u : Int) : Rat) := by rw [eVt, tm.2, hw, hu, Rat.intCast_mul]
      have h2 : toI V' ≠ 0 := by rw [eVt]; exact mul_ne W0 U0
      have h3 := last_lst h2
      rw [lV, ci, List.getLast?_map] at h3
      obtain ⟨z, hz, e⟩ := Option.map_eq_some_iff.mp h3
      rw [h1] at e
      exact ⟨z, hz, by rw [Rat.intCast_inj.mp e]; exact Int.mul_pos pw pu⟩
  have hVV : V' = V := hV'.uniq v1 (r := 1) (by decide) (by rw [show cst 1 = 1 from rfl]; grind)
  refine ⟨V, U, e1, e2, by omega, by omega, ?_⟩
  rw [m, ← eVt, hVV]
  congr 1
  unfold pl
  rw [v1.lst, ci, List.map_map]
  rfl
end
theorem intsM_q (v : Rat) : keyM (.tup [q v, .bl true]) = some [v.num, v.den] := rfl
theorem lend_rep {n : Nat} (v : Rat) (h : 1 ≤ n) : lendF [.lst (List.replicate n (.tup [q v, .bl true]))] = some (.int 1) := by
  obtain ⟨k, rfl⟩ : ∃ k, n = k + 1 := ⟨n - 1, by omega⟩
  have al : ∀ k, alikeM [v.num, (v.den : Int)] (List.replicate k (.tup [q v, .bl true])) = true := fun k => by
    induction k with
    | zero => rfl
    | succ k ih =>
      rw [List.replicate_succ]
      show (decide (keyM (.tup [q v, .bl true]) = some [v.num, (v.den : Int)]) && alikeM _ _) = true
      rw [ih, intsM_q]; simp
  rw [List.replicate_succ]
  show ((keyM (MV.tup [q v, MV.bl true])).bind fun ks => if alikeM ks (MV.tup [q v, MV.bl true] :: List.replicate k (MV.tup [q v, MV.bl true])) then some (MV.int 1) else none) = some (MV.int 1)
  rw [intsM_q, Option.bind_some]
  have := al (k + 1)
  rw [List.replicate_succ] at this
  exact if_pos this
end K41
set_option maxHeartbeats 1000000
namespace K41
open PySem L2 ML PA
theorem nev_nil : nevM (.tup []) (.tup []) = some (.bl false) := nev_self rfl
theorem nev_half (f : Po) : nevM (.tup [.tup [], pl f]) (.tup [.tup [], pl f]) = some (.bl false) := nev_self (by
  unfold flat
  rw [List.all_cons, List.all_cons, flat_pl 6 f]; rfl)
theorem bd_low {a : Int} {n : Nat} (ha : a.natAbs ≤ 4) (h0 : 0 < n) (hn : n ≤ 4) : Bd 3 (mkRat a n) := by
  refine bd_of (d := n) (B := 4) h0 ⟨a, ?_, ha⟩ (by omega) (by omega)
  rw [Rat.mkRat_eq_div]
  have := natR (d := n) (by omega)
  grind
theorem left_ok {rs : List Rat} {ks : List Int} (h : ci ks = lsc 6 rs) (b : ∀ k ∈ ks, k.natAbs ≤ 24) : Ht 6 24 (toPo rs) := Ht.of (l := rs) (by omega) (fun c hc => by
  have : 6 * c ∈ ci ks := by rw [h]; exact List.mem_map.mpr ⟨c, hc, rfl⟩
  obtain ⟨k, hk, e⟩ := List.mem_map.mp this
  refine ⟨k, ?_, b k hk⟩
  rw [show ((6 : Nat) : Rat) = 6 from rfl, e]; grind) rfl

theorem st0 (S : MV) {ds : List MV} (hd : Dr ds) (s2 s3 s4 s5 s6 s7 s8 s9 s10 s11 s12 s13 s14 s15 s16 s17 : Sl) : ∃ (A B C : Po) (ka kb kc : List Int) (ds' : List MV), Loose 4 A ka ∧ Loose 4 B kb ∧ Loose 3 C kc ∧ Dr ds' ∧ (dAsg (dTup (dCons (dCallI f__law_loose_poly 1 (dCons (dC (.int 3)) dNil)) (dCons (dCallI f__law_loose_poly 1 (dCons (dC (.int 3)) dNil)) (dCons (dCallI f__law_loose_poly 1 (dCons (dC (.int 2)) dNil)) dNil)))) (gT 3 (gsCons (gN 3) (gsCons (gN 4) (gsCons (gN 5) gsNil))))) [.val S, .own false ds, s2, s3, s4, s5, s6, s7, s8, s9, s10, s11, s12, s13, s14, s15, s16, s17] = some (.nx, [.val S, .own false ds', s2, .val (pl A), .val (pl B), .val (pl C), s6, s7, s8, s9, s10, s11, s12, s13, s14, s15, s16, s17]) := by
  obtain ⟨A, ka, d1, o1, h1, lA⟩ := loose_ok (most := 3) hd (by omega)
  obtain ⟨B, kb, d2, o2, h2, lB⟩ := loose_ok (most := 3) h1 (by omega)
  obtain ⟨C, kc, d3, o3, h3, lC⟩ := loose_ok (most := 2) h2 (by omega)
  have o1 : f__law_loose_poly ds [.int 3] = some (pl A, d1) := o1
  have o2 : f__law_loose_poly d1 [.int 3] = some (pl B, d2) := o2
  have o3 : f__law_loose_poly d2 [.int 2] = some (pl C, d3) := o3
  refine ⟨A, B, C, ka, kb, kc, d3, lA, lB, lC, h3, ?_⟩
  simp -implicitDefEqProofs [o1, o2, o3, lenOk_of]
theorem st1 (S : MV) {ds : List MV} (hd : Dr ds) {A B C : Po} {kb : List Int} (hB : Loose 4 B kb) (s2 s6 s7 s8 s9 s10 s11 s12 s13 s14 s15 s16 s17 : Sl) : ∃ (L : Po) (ds' : List MV), Ht 6 24 L ∧ dg L < dg B ∧ Dr ds' ∧ (dSet 6 (dVal (dCall f__law_trim (dCons (dCall tupF (dCons (dFrz (dLc (dCallO rng1F (dCons (d2 subM (dPeek lenM 4) (dC (.int 1))) dNil)) [12] (gN 12) dYes (dCall f__law_lowest (dCons (d2 subM (d2 modM (dCall intF (dCons (dCallI f__law_next 1 dNil) dNil)) (dC (.int 9))) (dC (.int 4))) (dCons (d2 addM (dC (.int 1)) (d2 modM (dCall intF (dCons (dCallI f__law_next 1 dNil) dNil)) (dC (.int 3)))) dNil))))) dNil)) dNil)))) [.val S, .own false ds, s2, .val (pl A), .val (pl B), .val (pl C), s6, s7, s8, s9, s10, s11, s12, s13, s14, s15, s16, s17] = some (.nx, [.val S, .own false ds', s2, .val (pl A), .val (pl B), .val (pl C), .val (pl L), s7, s8, s9, s10, s11, .no, s13, s14, s15, s16, s17]) := by
  have db := hB.dgle
  have pb := dg_pos hB.f0
  obtain ⟨N, hN⟩ : ∃ N : Nat, dg B = N + 1 := ⟨dg B - 1, by omega⟩
  have hcall : (dCallO rng1F (dCons (d2 subM (dPeek lenM 4) (dC (.int 1))) dNil)) [.val S, .own false ds, s2, .val (pl A), .val (pl B), .val (pl C), s6, s7, s8, s9, s10, s11, s12, s13, s14, s15, s16, s17] = some (rng 0 N, [.val S, .own false ds, s2, .val (pl A), .val (pl B), .val (pl C), s6, s7, s8, s9, s10, s11, s12, s13, s14, s15, s16, s17]) := by
    refine dCallO_of (ms := [.int (N : Int)]) ?_ (rngL N (by omega))
    have : ((dg B : Nat) : Int) - 1 = (N : Int) := by omega
    simp -implicitDefEqProofs [len_pl, this]
  obtain ⟨os, ρ1, e2, ⟨ds1, hd1, rfl⟩, hO, hlen⟩ := lcM_inv (vs := [12]) (g := (gN 12)) (t := dYes) (e := (dCall f__law_lowest (dCons (d2 subM (d2 modM (dCall intF (dCons (dCallI f__law_next 1 dNil) dNil)) (dC (.int 9))) (dC (.int 4))) (dCons (d2 addM (dC (.int 1)) (d2 modM (dCall intF (dCons (dCallI f__law_next 1 dNil) dNil)) (dC (.int 3)))) dNil))))
    (fun ρ => ∃ ds1, Dr ds1 ∧ ρ = [.val S, .own false ds1, s2, .val (pl A), .val (pl B), .val (pl C), s6, s7, s8, s9, s10, s11, .no, s13, s14, s15, s16, s17]) O6 (by
      rintro m ρ ⟨ds1, hd1, rfl⟩
      obtain ⟨r, a, n, ds', e, hd', rfl, h1, h2, h3⟩ := pair_at (ρ := [.val S, .own false ds1, s2, .val (pl A), .val (pl B), .val (pl C), s6, s7, s8, s9, s10, s11, .val m, s13, s14, s15, s16, s17]) (j := 1) rfl hd1 (B := 3) (by omega) (by omega)
      obtain ⟨k, k1, k2, _⟩ := six (b := n) h1 (by omega)
      exact ⟨_, _, _, _, rfl, rfl, e, ⟨_, k, rfl, k1, k2⟩, ds', hd', rfl⟩)
    (rng 0 N) [] [.val S, .own false ds, s2, .val (pl A), .val (pl B), .val (pl C), s6, s7, s8, s9, s10, s11, .no, s13, s14, s15, s16, s17] (by rw [rng_len]; simp; omega) ⟨_, hd, rfl⟩
  rw [rng_len] at hlen
  rw [List.nil_append] at e2
  obtain ⟨rs, ks, rfl, h1, h2, h3⟩ := O6.list hO
  rw [List.length_map] at hlen
  have tr := law_trim_ok (m := .tup (rs.map q)) (.inl rfl) (by omega)
  have dl := dg_toPo rs
  refine ⟨toPo rs, ds1, left_ok h2 h3, by omega, hd1, ?_⟩
  generalize rs.map q = G at e2 tr
  generalize (dCallO rng1F (dCons (d2 subM (dPeek lenM 4) (dC (.int 1))) dNil)) = dj at hcall ⊢
  generalize (dCall f__law_lowest (dCons (d2 subM (d2 modM (dCall intF (dCons (dCallI f__law_next 1 dNil) dNil)) (dC (.int 9))) (dC (.int 4))) (dCons (d2 addM (dC (.int 1)) (d2 modM (dCall intF (dCons (dCallI f__law_next 1 dNil) dNil)) (dC (.int 3)))) dNil))) = de at e2 ⊢
  simp -implicitDefEqProofs [hcall, e2, tr]
section
variable {A B C : Po} {ka kb kc : List Int} (hA : Loose 4 A ka) (hB : Loose 4 B kb) (hC : Loose 3 C kc)
include hA hB
theorem st2 (S : MV) (ds : List MV)  (s2 s3 s4 s5 s6 s7 s8 s9 s10 s11 s12 s13 s14 s15 s16 s17 : Sl) : (dIfS (dOr (dT blM (d2 nevM (dCall f_product_of (dCons (dVar 3) (dCons (dVar 4) dNil))) (dCall f__law_mul (dCons (dVar 3) (dCons (dVar 4) dNil))))) (dOr (dT blM (d2 nevM (dCall f_sum_of (dCons (dVar 3) (dCons (dVar 4) dNil))) (dCall f__law_sum (dCons (dVar 3) (dCons (dVar 4) dNil))))) (dOr (dT blM (d2 nevM (dCall f_product_of (dCons (dVar 3) (dCons (dTup dNil) dNil))) (dTup dNil))) (dT blM (d2 nevM (dCall f_sum_of (dCons (dVar 3) (dCons (dTup dNil) dNil))) (dVar 3)))))) (dRet (dC (.bl false))) dNx) [.val S, .own false ds, s2, .val (pl A), .val (pl B), .val (pl C), s6, s7, s8, s9, s10, s11, s12, s13, s14, s15, s16, s17] = some (.nx, [.val S, .own false ds, s2, .val (pl A), .val (pl B), .val (pl C), s6, s7, s8, s9, s10, s11, s12, s13, s14, s15, s16, s17]) := by
  obtain ⟨h1, h2, h3, h4, h5, h6⟩ := law1 hA hB
  simp -implicitDefEqProofs [h1, h2, h3, h4, h5, h6, nev_pl, nev_nil, lenOk_of]
theorem st3 (S : MV) (ds : List MV) {L : Po} (hL : Ht 6 24 L) (dL : dg L < dg B) (s2 s3 s4 s5 s6 s7 s8 s9 s10 s11 s12 s13 s14 s15 s16 s17 : Sl) : (dIfS (dOr (dT blM (d2 nevM (dCall f_division (dCons (dCall f__law_sum (dCons (dCall f__law_mul (dCons (dVar 3) (dCons (dVar 4) dNil))) (dCons (dVar 6) dNil))) (dCons (dVar 4) dNil))) (dTup (dCons (dVar 3) (dCons (dVar 6) dNil))))) (dT blM (d2 nevM (dCall f_division (dCons (dVar 6) (dCons (dVar 4) dNil))) (dTup (dCons (dTup dNil) (dCons (dVar 6) dNil)))))) (dRet (dC (.bl false))) dNx) [.val S, .own false ds, s2, .val (pl A), .val (pl B), .val (pl C), .val (pl L), s7, s8, s9, s10, s11, s12, s13, s14, s15, s16, s17] = some (.nx, [.val S, .own false ds, s2, .val (pl A), .val (pl B), .val (pl C), .val (pl L), s7, s8, s9, s10, s11, s12, s13, s14, s15, s16, s17]) := by
  obtain ⟨h1, h2, h3⟩ := law2 hA hB hL dL
  have h0 := (law1 hA hB).2.1
  simp -implicitDefEqProofs [h0, h1, h2, h3, nev_two, nev_half, lenOk_of]
include hC
theorem st4 (S : MV) (ds : List MV)  (s2 s3 s4 s5 s6 s7 s8 s9 s10 s11 s12 s13 s14 s15 s16 s17 : Sl) : (dIfS (dT blM (d2 nevM (dCall f_product_of (dCons (dCall f_sum_of (dCons (dVar 3) (dCons (dVar 4) dNil))) (dCons (dVar 5) dNil))) (dCall f_sum_of (dCons (dCall f_product_of (dCons (dVar 3) (dCons (dVar 5) dNil))) (dCons (dCall f_product_of (dCons (dVar 4) (dCons (dVar 5) dNil))) dNil))))) (dRet (dC (.bl false))) dNx) [.val S, .own false ds, s2, .val (pl A), .val (pl B), .val (pl C), s6, s7, s8, s9, s10, s11, s12, s13, s14, s15, s16, s17] = some (.nx, [.val S, .own false ds, s2, .val (pl A), .val (pl B), .val (pl C), s6, s7, s8, s9, s10, s11, s12, s13, s14, s15, s16, s17]) := by
  obtain ⟨h1, h2, h3, h4, h5⟩ := law3 hA hB hC
  simp -implicitDefEqProofs [h1, h2, h3, h4, h5, nev_pl]
omit hC
theorem st5 (S : MV) (ds : List MV)  (s2 s3 s4 s5 s6 s7 s8 s9 s10 s11 s12 s13 s14 s15 s16 s17 : Sl) : (dSet 7 (dVal (dCall f_common_divisor (dCons (dVar 3) (dCons (dVar 4) dNil))))) [.val S, .own false ds, s2, .val (pl A), .val (pl B), .val (pl C), s6, s7, s8, s9, s10, s11, s12, s13, s14, s15, s16, s17] = some (.nx, [.val S, .own false ds, s2, .val (pl A), .val (pl B), .val (pl C), s6, .val (pl (gcd A B)), s8, s9, s10, s11, s12, s13, s14, s15, s16, s17]) := by
  obtain ⟨h1, h2, h3, h4, h5, h6⟩ := law5 hA hB
  simp -implicitDefEqProofs [h1]
theorem st6 (S : MV) (ds : List MV)  (s2 s3 s4 s5 s6 s7 s8 s9 s10 s11 s12 s13 s14 s15 s16 s17 : Sl) : (dIfS (dOr (dT blM (d2 nevM (dCall f_common_divisor (dCons (dVar 4) (dCons (dVar 3) dNil))) (dVar 7))) (dOr (dT blM (d2 nevM (dCall f_common_divisor (dCons (dVar 3) (dCons (dVar 3) dNil))) (dCall f__law_monic (dCons (dVar 3) dNil)))) (dOr (dT blM (d2 nevM (dCall f_common_divisor (dCons (dVar 3) (dCons (dTup dNil) dNil))) (dCall f__law_monic (dCons (dVar 3) dNil)))) (dT blM (d2 nevM (dCall f_common_divisor (dCons (dTup dNil) (dCons (dTup dNil) dNil))) (dTup dNil)))))) (dRet (dC (.bl false))) dNx) [.val S, .own false ds, s2, .val (pl A), .val (pl B), .val (pl C), s6, .val (pl (gcd A B)), s8, s9, s10, s11, s12, s13, s14, s15, s16, s17] = some (.nx, [.val S, .own false ds, s2, .val (pl A), .val (pl B), .val (pl C), s6, .val (pl (gcd A B)), s8, s9, s10, s11, s12, s13, s14, s15, s16, s17]) := by
  obtain ⟨h1, h2, h3, h4, h5, h6⟩ := law5 hA hB
  simp -implicitDefEqProofs [h2, h3, h4, h5, h6, nev_pl, nev_nil, lenOk_of]
include hC
theorem st7 (S : MV) (ds : List MV)  (s2 s3 s4 s5 s6 s7 s8 s9 s10 s11 s12 s13 s14 s15 s16 s17 : Sl) : (dIfS (dOr (dT blM (d2 nevM (dCall f_common_divisor (dCons (dCall f__law_mul (dCons (dVar 3) (dCons (dVar 5) dNil))) (dCons (dCall f__law_mul (dCons (dVar 4) (dCons (dVar 5) dNil))) dNil))) (dCall f__law_monic (dCons (dCall f__law_mul (dCons (dVar 7) (dCons (dVar 5) dNil))) dNil)))) (dOr (dT blM (d2 nevM (d2 ixM (dCall f_division (dCons (dVar 3) (dCons (dVar 7) dNil))) (dC (.int 1))) (dTup dNil))) (dT blM (d2 nevM (d2 ixM (dCall f_division (dCons (dVar 4) (dCons (dVar 7) dNil))) (dC (.int 1))) (dTup dNil))))) (dRet (dC (.bl false))) dNx) [.val S, .own false ds, s2, .val (pl A), .val (pl B), .val (pl C), s6, .val (pl (gcd A B)), s8, s9, s10, s11, s12, s13, s14, s15, s16, s17] = some (.nx, [.val S, .own false ds, s2, .val (pl A), .val (pl B), .val (pl C), s6, .val (pl (gcd A B)), s8, s9, s10, s11, s12, s13, s14, s15, s16, s17]) := by
  obtain ⟨h1, h2, h3, h4, h5, ⟨Q1, h6⟩, ⟨Q2, h7⟩⟩ := law6 hA hB hC
  simp -implicitDefEqProofs [h1, h2, h3, h4, h5, h6, h7, nev_pl, nev_nil, lenOk_of]
theorem st8 (S : MV) (ds : List MV)  (s2 s3 s4 s5 s6 s7 s8 s9 s10 s11 s12 s13 s14 s15 s16 s17 : Sl) : (dIfS (dT blM (d2 nevM (dCall f_common_divisor (dCons (dVar 3) (dCons (dCall f__law_sum (dCons (dCall f__law_mul (dCons (dVar 3) (dCons (dVar 5) dNil))) (dCons (dVar 4) dNil))) dNil))) (dVar 7))) (dRet (dC (.bl false))) dNx) [.val S, .own false ds, s2, .val (pl A), .val (pl B), .val (pl C), s6, .val (pl (gcd A B)), s8, s9, s10, s11, s12, s13, s14, s15, s16, s17] = some (.nx, [.val S, .own false ds, s2, .val (pl A), .val (pl B), .val (pl C), s6, .val (pl (gcd A B)), s8, s9, s10, s11, s12, s13, s14, s15, s16, s17]) := by
  obtain ⟨h1, h2⟩ := law7 hA hB hC
  have h0 := (law6 hA hB hC).1
  simp -implicitDefEqProofs [h0, h1, h2, nev_pl]
omit hC
theorem st9 (S : MV) (ds : List MV) (s2 s3 s4 s5 s6 s7 s8 s9 s10 s11 s12 s13 s14 s15 s16 s17 : Sl) : ∃ s : Po, (dSet 8 (dVal (dCall f_squarefree (dCons (dCall f__law_mul (dCons (dVar 3) (dCons (dVar 4) dNil))) dNil)))) [.val S, .own false ds, s2, .val (pl A), .val (pl B), .val (pl C), s6, s7, s8, s9, s10, s11, s12, s13, s14, s15, s16, s17] = some (.nx, [.val S, .own false ds, s2, .val (pl A), .val (pl B), .val (pl C), s6, s7, .val (pl s), s9, s10, s11, s12, s13, s14, s15, s16, s17]) ∧ (dIfS (dOr (dT blM (d2 nevM (dCall f_squarefree (dCons (dCall f__law_mul (dCons (dCall f__law_power (dCons (dVar 3) (dCons (dC (.int 2)) dNil))) (dCons (dVar 4) dNil))) dNil)) (dVar 8))) (dOr (dT blM (d2 nevM (dCall f_squarefree (dCons (dVar 8) dNil)) (dVar 8))) (dT blM (d2 nevM (dCall f_common_divisor (dCons (dVar 8) (dCons (dCall f__law_mul (dCons (dVar 3) (dCons (dVar 4) dNil))) dNil))) (dVar 8))))) (dRet (dC (.bl false))) dNx) [.val S, .own false ds, s2, .val (pl A), .val (pl B), .val (pl C), s6, s7, .val (pl s), s9, s10, s11, s12, s13, s14, s15, s16, s17] = some (.nx, [.val S, .own false ds, s2, .val (pl A), .val (pl B), .val (pl C), s6, s7, .val (pl s), s9, s10, s11, s12, s13, s14, s15, s16, s17]) := by
  obtain ⟨s, _, h1, h2, h3, h4, h5, h6⟩ := law8 hA hB
  have h0 := (law1 hA hB).2.1
  refine ⟨s, ?_, ?_⟩
  · simp -implicitDefEqProofs [h0, h1]
  · simp -implicitDefEqProofs [h0, h2, h3, h4, h5, h6, nev_pl]
end
end K41
set_option maxHeartbeats 1000000
namespace ML
theorem lcM_mem {vs : List Nat} {g : DG} {t : DT} {e : DE} (I : MEnv → Prop) (O : MV → Prop) :
    ∀ (ms acc : List MV) (ρ : MEnv), (∀ m ∈ ms, ∀ (ρ : MEnv), I ρ → ∃ ρ1 ρ2 ρ3 o, g m ρ = some ρ1 ∧ t ρ1 = some (true, ρ2) ∧ e ρ2 = some (o, ρ3) ∧ O o ∧ I (wipeM ρ3 vs)) → acc.length + ms.length ≤ 100000 → I ρ → ∃ os ρ', lcM vs g t e ms acc ρ = some (acc ++ os, ρ') ∧ I ρ' ∧ (∀ o ∈ os, O o)
  | [], acc, ρ, _, _, hI => ⟨[], ρ, by simp [lcM], hI, by simp⟩
  | m :: ms, acc, ρ, h, hn, hI => by
    obtain ⟨ρ1, ρ2, ρ3, o, e1, e2, e3, hO, hI2⟩ := h m List.mem_cons_self ρ hI
    simp only [List.length_cons] at hn
    obtain ⟨os, ρ', e4, hI3, hOs⟩ := lcM_mem I O ms (acc ++ [o]) (wipeM ρ3 vs) (fun m hm => h m (List.mem_cons_of_mem _ hm)) (by simp; omega) hI2
    refine ⟨o :: os, ρ', ?_, hI3, ?_⟩
    · unfold lcM
      simp only [e1, e2, e3, Option.bind_some, if_true, lenOk_of (show acc.length + 1 ≤ 100000 by omega)]
      rw [e4]
      simp
    · intro o' ho'
      rcases List.mem_cons.mp ho' with rfl | ho'
      · exact hO
      · exact hOs o' ho'
theorem all_bl {os : List MV} (h : ∀ o ∈ os, o = .bl true) : allF [.lst os] = some (.bl true) := by
  have : os = (os.map fun _ => MV.bl true) := by
    conv => lhs; rw [← List.map_id os]
    exact List.map_congr_left fun o ho => h o ho
  rw [this]
  exact K41.all_true os
end ML
namespace K41
open PySem L2 ML PA
section
variable {A B C : Po} {ka kb kc : List Int} (hA : Loose 4 A ka) (hB : Loose 4 B kb) (hC : Loose 3 C kc)
include hA hC
theorem st11 (S : MV) (ds : List MV) (s2 s3 s4 s5 s6 s7 s8 s9 s10 s11 s12 s13 s14 s15 s16 s17 : Sl) : ∃ (L : List Po) (t12 : Sl), 
    (dSet 9 (dVal (dCall f__law_mul (dCons (dCall f__law_mul (dCons (dVar 3) (dCons (dVar 3) dNil))) (dCons (dCall f__law_power (dCons (dVar 5) (dCons (dC (.int 3)) dNil))) dNil))))) [.val S, .own false ds, s2, .val (pl A), .val (pl B), .val (pl C), s6, s7, s8, s9, s10, s11, s12, s13, s14, s15, s16, s17] = some (.nx, [.val S, .own false ds, s2, .val (pl A), .val (pl B), .val (pl C), s6, s7, s8, .val (pl (A * A * C ^ 3)), s10, s11, s12, s13, s14, s15, s16, s17]) ∧
    (dAsg (dTup (dCons (dCall f_squarefree_parts (dCons (dVar 9) dNil)) (dCons (dTup (dCons (dTup (dCons (d2 ixM (dIxV 9 (d1 negM (dC (.int 1)))) (dC (.int 0))) (dCons (d2 ixM (dIxV 9 (d1 negM (dC (.int 1)))) (dC (.int 1))) dNil))) dNil)) dNil))) (gT 2 (gsCons (gN 10) (gsCons (gN 11) gsNil)))) [.val S, .own false ds, s2, .val (pl A), .val (pl B), .val (pl C), s6, s7, s8, .val (pl (A * A * C ^ 3)), s10, s11, s12, s13, s14, s15, s16, s17] = some (.nx, [.val S, .own false ds, s2, .val (pl A), .val (pl B), .val (pl C), s6, s7, s8, .val (pl (A * A * C ^ 3)), .val (.tup (L.map pl)), .val (pl (cst (lc (A * A * C ^ 3)) * prodP 1 (L.take 0))), s12, s13, s14, s15, s16, s17]) ∧
    (dFor (dCallO rng1F (dCons (dPeek lenM 10) dNil)) (gN 12) (dSet 11 (dVal (dCall f__law_mul (dCons (dVar 11) (dCons (dCall f__law_power (dCons (dIxV 10 (dVar 12)) (dCons (d2 addM (dVar 12) (dC (.int 1))) dNil))) dNil)))))) [.val S, .own false ds, s2, .val (pl A), .val (pl B), .val (pl C), s6, s7, s8, .val (pl (A * A * C ^ 3)), .val (.tup (L.map pl)), .val (pl (cst (lc (A * A * C ^ 3)) * prodP 1 (L.take 0))), s12, s13, s14, s15, s16, s17] = some (.nx, [.val S, .own false ds, s2, .val (pl A), .val (pl B), .val (pl C), s6, s7, s8, .val (pl (A * A * C ^ 3)), .val (.tup (L.map pl)), .val (pl (A * A * C ^ 3)), t12, s13, s14, s15, s16, s17]) ∧
    (dIfS (dOr (dT blM (d2 nevM (dVar 11) (dVar 9))) (dNot (dT truM (dCall allF (dCons (dFrz (dLc (dItems (dVar 10)) [16] (gN 16) dYes (d2 eqvM (dCall f_squarefree (dCons (dVar 16) dNil)) (dVar 16)))) dNil))))) (dRet (dC (.bl false))) dNx) [.val S, .own false ds, s2, .val (pl A), .val (pl B), .val (pl C), s6, s7, s8, .val (pl (A * A * C ^ 3)), .val (.tup (L.map pl)), .val (pl (A * A * C ^ 3)), t12, s13, s14, s15, s16, s17] = some (.nx, [.val S, .own false ds, s2, .val (pl A), .val (pl B), .val (pl C), s6, s7, s8, .val (pl (A * A * C ^ 3)), .val (.tup (L.map pl)), .val (pl (A * A * C ^ 3)), t12, s13, s14, s15, .no, s17]) ∧
    ∃ t17 : Sl, (dIfS (dNot (dT truM (dCall allF (dCons (dFrz (dLc (dCallO rng1F (dCons (dPeek lenM 10) dNil)) [12] (gN 12) dYes (dCall allF (dCons (dFrz (dLc (dCallO rng1F (dCons (dVar 12) dNil)) [17] (gN 17) dYes (d2 eqvM (dCall f_common_divisor (dCons (dIxV 10 (dVar 12)) (dCons (dIxV 10 (dVar 17)) dNil))) (dTup (dCons (dTup (dCons (dC (.int 1)) (dCons (dC (.int 1)) dNil))) dNil))))) dNil)))) dNil)))) (dRet (dC (.bl false))) dNx) [.val S, .own false ds, s2, .val (pl A), .val (pl B), .val (pl C), s6, s7, s8, .val (pl (A * A * C ^ 3)), .val (.tup (L.map pl)), .val (pl (A * A * C ^ 3)), t12, s13, s14, s15, .no, s17] = some (.nx, [.val S, .own false ds, s2, .val (pl A), .val (pl B), .val (pl C), s6, s7, s8, .val (pl (A * A * C ^ 3)), .val (.tup (L.map pl)), .val (pl (A * A * C ^ 3)), .no, s13, s14, s15, .no, t17]) := by
  obtain ⟨m1, m2, m3, L, h1, hl, h2, h3, h4, h5, W0⟩ := law9 hA hC
  have f0 : pl (cst (lc (A * A * C ^ 3)) * prodP 1 (L.take 0)) = .tup [.tup [.int (lc (A * A * C ^ 3)).num, .int (lc (A * A * C ^ 3)).den]] := by
    have : cst (lc (A * A * C ^ 3)) * prodP 1 (L.take 0) = cst (lc (A * A * C ^ 3)) := by
      show _ * (1 : Po) = _
      grind
    rw [this, pl_cst (lc_ne W0)]; rfl
  have ixw := ixPL W0
  generalize (A * A * C ^ 3) = W at *
  -- the product of the parts
  obtain ⟨ρ', e1, t12, rfl⟩ := forM_inv (g := gN 12) (b := (dSet 11 (dVal (dCall f__law_mul (dCons (dVar 11) (dCons (dCall f__law_power (dCons (dIxV 10 (dVar 12)) (dCons (d2 addM (dVar 12) (dC (.int 1))) dNil))) dNil)))))) (ms := rng 0 L.length) (ρ := [.val S, .own false ds, s2, .val (pl A), .val (pl B), .val (pl C), s6, s7, s8, .val (pl W), .val (.tup (L.map pl)), .val (pl (cst (lc W) * prodP 1 (L.take 0))), s12, s13, s14, s15, s16, s17])
    (fun k ρ => ∃ t12, ρ = [.val S, .own false ds, s2, .val (pl A), .val (pl B), .val (pl C), s6, s7, s8, .val (pl W), .val (.tup (L.map pl)), .val (pl (cst (lc W) * prodP 1 (L.take k))), t12, s13, s14, s15, s16, s17]) ⟨s12, rfl⟩ (by
      rintro k m ρ hm ⟨t12, rfl⟩
      obtain ⟨hk, rfl⟩ := rng_get hm
      have hp : L[k]? = some (L[k]'hk) := List.getElem?_eq_getElem hk
      generalize L[k]'hk = p at hp
      obtain ⟨q1, q2⟩ := h4 k p hp
      have ix : ixM (.tup (L.map pl)) (.int (k : Int)) = some (pl p) := by
        rw [ixM_nat (ms := L.map pl) rfl (by simpa using hk), List.getElem?_map, hp]; rfl
      have q1 : f__law_power [pl p, .int ((k : Int) + 1)] = some (pl (p ^ (k + 1))) := q1
      simp only [Int.zero_add]
      refine ⟨[.val S, .own false ds, s2, .val (pl A), .val (pl B), .val (pl C), s6, s7, s8, .val (pl W), .val (.tup (L.map pl)), .val (pl (cst (lc W) * prodP 1 (L.take k))), .val (.int (k : Int)), s13, s14, s15, s16, s17], [.val S, .own false ds, s2, .val (pl A), .val (pl B), .val (pl C), s6, s7, s8, .val (pl W), .val (.tup (L.map pl)), .val (pl (cst (lc W) * prodP 1 (L.take (k + 1)))), .val (.int (k : Int)), s13, s14, s15, s16, s17], rfl, ?_, _, rfl⟩
      generalize L.map pl = G at ix ⊢
      simp -implicitDefEqProofs [ix, q1, q2])
  rw [rng_len, h5] at e1
  have hlen : lenM (.tup (L.map pl)) = some (.int (L.length : Nat)) := by simp
  refine ⟨L, t12, ?_, ?_, ?_, ?_, ?_⟩
  · simp -implicitDefEqProofs [m1, m2, m3]
  · rw [f0]
    generalize L.map pl = G at h1 ⊢
    simp -implicitDefEqProofs [h1, ixw, lenOk_of]
  · exact for_of (rngV (i := 10) rfl hlen (by omega)) e1
  · have z := lcM_zip (vs := [16]) (g := (gN 16)) (t := dYes) (e := (d2 eqvM (dCall f_squarefree (dCons (dVar 16) dNil)) (dVar 16))) (ρ := [.val S, .own false ds, s2, .val (pl A), .val (pl B), .val (pl C), s6, s7, s8, .val (pl W), .val (.tup (L.map pl)), .val (pl W), t12, s13, s14, s15, .no, s17]) (L.map pl) (L.map fun _ => .bl true) [] (by simp) (by simp; omega) (by
      intro i m o k1 k2
      rw [List.getElem?_map] at k1
      obtain ⟨p, hp, rfl⟩ := Option.map_eq_some_iff.mp k1
      rw [List.getElem?_map, hp] at k2
      cases k2
      have sq := h2 p (List.mem_of_getElem? hp)
      refine ⟨_, _, [.val S, .own false ds, s2, .val (pl A), .val (pl B), .val (pl C), s6, s7, s8, .val (pl W), .val (.tup (L.map pl)), .val (pl W), t12, s13, s14, s15, .val (pl p), s17], rfl, rfl, ?_, rfl⟩
      generalize L.map pl = G at h1 ⊢
      simp -implicitDefEqProofs [sq, eqv_pl])
    have at1 := all_true L
    generalize (L.map fun _ => MV.bl true) = G2 at z at1
    generalize L.map pl = G at z ⊢
    simp -implicitDefEqProofs [nev_pl, z, at1]
  · obtain ⟨os, ρ2, e2, ⟨t17, rfl⟩, hO⟩ := lcM_mem (vs := [12]) (g := (gN 12)) (t := dYes) (e := (dCall allF (dCons (dFrz (dLc (dCallO rng1F (dCons (dVar 12) dNil)) [17] (gN 17) dYes (d2 eqvM (dCall f_common_divisor (dCons (dIxV 10 (dVar 12)) (dCons (dIxV 10 (dVar 17)) dNil))) (dTup (dCons (dTup (dCons (dC (.int 1)) (dCons (dC (.int 1)) dNil))) dNil))))) dNil))) (fun ρ => ∃ t17 : Sl, ρ = [.val S, .own false ds, s2, .val (pl A), .val (pl B), .val (pl C), s6, s7, s8, .val (pl W), .val (.tup (L.map pl)), .val (pl W), .no, s13, s14, s15, .no, t17]) (fun o => o = .bl true) (rng 0 L.length) [] [.val S, .own false ds, s2, .val (pl A), .val (pl B), .val (pl C), s6, s7, s8, .val (pl W), .val (.tup (L.map pl)), .val (pl W), .no, s13, s14, s15, .no, s17] (by
      rintro m hm ρ ⟨t17, rfl⟩
      obtain ⟨a, ha, e⟩ := List.getElem_of_mem hm
      obtain ⟨hk, rfl⟩ := rng_get (show (rng 0 L.length)[a]? = some m by rw [List.getElem?_eq_getElem ha, e])
      have hp : L[a]? = some (L[a]'hk) := List.getElem?_eq_getElem hk
      generalize L[a]'hk = p at hp
      have ix : ixM (.tup (L.map pl)) (.int (a : Int)) = some (pl p) := by
        rw [ixM_nat (ms := L.map pl) rfl (by simpa using hk), List.getElem?_map, hp]; rfl
      have z := lcM_zip (vs := [17]) (g := (gN 17)) (t := dYes) (e := (d2 eqvM (dCall f_common_divisor (dCons (dIxV 10 (dVar 12)) (dCons (dIxV 10 (dVar 17)) dNil))) (dTup (dCons (dTup (dCons (dC (.int 1)) (dCons (dC (.int 1)) dNil))) dNil)))) (ρ := [.val S, .own false ds, s2, .val (pl A), .val (pl B), .val (pl C), s6, s7, s8, .val (pl W), .val (.tup (L.map pl)), .val (pl W), .val (.int (a : Int)), s13, s14, s15, .no, .no]) (rng 0 a) ((rng 0 a).map fun _ => .bl true) [] (by simp) (by rw [rng_len]; simp; omega) (by
        intro i m o k1 k2
        obtain ⟨hi, rfl⟩ := rng_get k1
        rw [List.getElem?_map, k1] at k2
        cases k2
        have hr : L[i]? = some (L[i]'(by omega)) := List.getElem?_eq_getElem _
        generalize L[i]'(by omega) = r at hr
        have ix2 : ixM (.tup (L.map pl)) (.int (i : Int)) = some (pl r) := by
          rw [ixM_nat (ms := L.map pl) rfl (by rw [List.length_map]; omega), List.getElem?_map, hr]; rfl
        have cd := h3 a i p r hi hp hr
        have e1 := eqv_pl 1
        rw [pl_one] at e1 cd
        simp only [Int.zero_add]
        refine ⟨_, _, [.val S, .own false ds, s2, .val (pl A), .val (pl B), .val (pl C), s6, s7, s8, .val (pl W), .val (.tup (L.map pl)), .val (pl W), .val (.int (a : Int)), s13, s14, s15, .no, .val (.int (i : Int))], rfl, rfl, ?_, rfl⟩
        generalize L.map pl = G at ix ix2 ⊢
        simp -implicitDefEqProofs [ix, ix2, cd, e1, lenOk_of])
      have at1 := all_true (rng 0 a)
      generalize ((rng 0 a).map fun _ => MV.bl true) = G2 at z at1
      simp only [Int.zero_add]
      refine ⟨[.val S, .own false ds, s2, .val (pl A), .val (pl B), .val (pl C), s6, s7, s8, .val (pl W), .val (.tup (L.map pl)), .val (pl W), .val (.int (a : Int)), s13, s14, s15, .no, t17], [.val S, .own false ds, s2, .val (pl A), .val (pl B), .val (pl C), s6, s7, s8, .val (pl W), .val (.tup (L.map pl)), .val (pl W), .val (.int (a : Int)), s13, s14, s15, .no, t17], [.val S, .own false ds, s2, .val (pl A), .val (pl B), .val (pl C), s6, s7, s8, .val (pl W), .val (.tup (L.map pl)), .val (pl W), .val (.int (a : Int)), s13, s14, s15, .no, .no], .bl true, rfl, rfl, ?_, rfl, .no, rfl⟩
      have hc := rngN (ρ := [.val S, .own false ds, s2, .val (pl A), .val (pl B), .val (pl C), s6, s7, s8, .val (pl W), .val (.tup (L.map pl)), .val (pl W), .val (.int (a : Int)), s13, s14, s15, .no, t17]) (i := 12) (n := a) rfl (by omega)
      generalize dCallO rng1F _ = dj at hc ⊢
      generalize L.map pl = G at hc z ⊢
      generalize d2 eqvM _ _ = dd at z ⊢
      simp -implicitDefEqProofs [hc, z, at1]) (by rw [rng_len]; simp; omega) ⟨_, rfl⟩
    refine ⟨t17, ?_⟩
    have hc := rngV (ρ := [.val S, .own false ds, s2, .val (pl A), .val (pl B), .val (pl C), s6, s7, s8, .val (pl W), .val (.tup (L.map pl)), .val (pl W), t12, s13, s14, s15, .no, s17]) (i := 10) (n := L.length) rfl hlen (by omega)
    have at1 := all_bl hO
    rw [List.nil_append] at e2
    generalize L.map pl = G at hc e2 ⊢
    generalize dCallO rng1F (dCons (dPeek lenM 10) dNil) = dj at hc ⊢
    generalize dCall allF (dCons (dFrz (dLc _ _ _ _ _)) dNil) = dd at e2 ⊢
    simp -implicitDefEqProofs [hc, e2, at1]

end
end K41
set_option maxHeartbeats 1000000
namespace K41
open PySem L2 ML PA
section
variable {A B C : Po} {ka kb kc : List Int} (hA : Loose 4 A ka) (hB : Loose 4 B kb)
theorem st16 (S : MV) {ds : List MV} (hd : Dr ds) (s2 s3 s4 s5 s6 s7 s8 s9 s10 s11 s12 s13 s14 s15 s16 s17 : Sl) : ∃ (x : Rat) (ds' : List MV), Bd 3 x ∧ Dr ds' ∧ (dSet 13 (dVal (dCall f__law_lowest (dCons (d2 subM (d2 modM (dCall intF (dCons (dCallI f__law_next 1 dNil) dNil)) (dC (.int 9))) (dC (.int 4))) (dCons (d2 addM (dC (.int 1)) (d2 modM (dCall intF (dCons (dCallI f__law_next 1 dNil) dNil)) (dC (.int 4)))) dNil))))) [.val S, .own false ds, s2, .val (pl A), .val (pl B), .val (pl C), s6, s7, s8, s9, s10, s11, s12, s13, s14, s15, s16, s17] = some (.nx, [.val S, .own false ds', s2, .val (pl A), .val (pl B), .val (pl C), s6, s7, s8, s9, s10, s11, s12, .val (q x), s14, s15, s16, s17]) := by
  obtain ⟨r, a, n, ds', e, hd', rfl, h1, h2, h3⟩ := pair_at (ρ := [.val S, .own false ds, s2, .val (pl A), .val (pl B), .val (pl C), s6, s7, s8, s9, s10, s11, s12, s13, s14, s15, s16, s17]) (j := 1) rfl hd (B := 4) (by omega) (by omega)
  refine ⟨_, ds', bd_low h1 h2 h3, hd', ?_⟩
  have e : (dCall f__law_lowest (dCons (d2 subM (d2 modM (dCall intF (dCons (dCallI f__law_next 1 dNil) dNil)) (dC (.int 9))) (dC (.int 4))) (dCons (d2 addM (dC (.int 1)) (d2 modM (dCall intF (dCons (dCallI f__law_next 1 dNil) dNil)) (dC (.int 4)))) dNil))) [.val S, .own false ds, s2, .val (pl A), .val (pl B), .val (pl C), s6, s7, s8, s9, s10, s11, s12, s13, s14, s15, s16, s17] = some (q (mkRat a n), [.val S, .own false ds', s2, .val (pl A), .val (pl B), .val (pl C), s6, s7, s8, s9, s10, s11, s12, s13, s14, s15, s16, s17]) := e
  generalize (dCall f__law_lowest (dCons (d2 subM (d2 modM (dCall intF (dCons (dCallI f__law_next 1 dNil) dNil)) (dC (.int 9))) (dC (.int 4))) (dCons (d2 addM (dC (.int 1)) (d2 modM (dCall intF (dCons (dCallI f__law_next 1 dNil) dNil)) (dC (.int 4)))) dNil))) = dd at e ⊢
  simp -implicitDefEqProofs [e]
include hA hB
theorem st17 (S : MV) (ds : List MV) {x : Rat} (hx : Bd 3 x) (s2 s3 s4 s5 s6 s7 s8 s9 s10 s11 s12 s13 s14 s15 s16 s17 : Sl) : (dIfS (dOr (dT blM (d2 nevM (dCall f_value_of (dCons (dCall f__law_mul (dCons (dVar 3) (dCons (dVar 4) dNil))) (dCons (dVar 13) dNil))) (dCall f__law_times (dCons (dCall f_value_of (dCons (dVar 3) (dCons (dVar 13) dNil))) (dCons (dCall f_value_of (dCons (dVar 4) (dCons (dVar 13) dNil))) dNil))))) (dT blM (d2 nevM (dCall f_value_of (dCons (dCall f__law_sum (dCons (dVar 3) (dCons (dVar 4) dNil))) (dCons (dVar 13) dNil))) (dCall f__law_add (dCons (dCall f_value_of (dCons (dVar 3) (dCons (dVar 13) dNil))) (dCons (dCall f_value_of (dCons (dVar 4) (dCons (dVar 13) dNil))) dNil)))))) (dRet (dC (.bl false))) dNx) [.val S, .own false ds, s2, .val (pl A), .val (pl B), .val (pl C), s6, s7, s8, s9, s10, s11, s12, .val (q x), s14, s15, s16, s17] = some (.nx, [.val S, .own false ds, s2, .val (pl A), .val (pl B), .val (pl C), s6, s7, s8, s9, s10, s11, s12, .val (q x), s14, s15, s16, s17]) ∧ (dIfS (dOr (dT blM (d2 nevM (dCall f_value_of (dCons (dVar 3) (dCons (dVar 13) dNil))) (dCall f__law_at (dCons (dVar 3) (dCons (dVar 13) dNil))))) (dT blM (d2 nevM (d2 ixM (dCall f_division (dCons (dVar 3) (dCons (dTup (dCons (dTup (dCons (d2 subM (dC (.int 0)) (dIxV 13 (dC (.int 0)))) (dCons (dIxV 13 (dC (.int 1))) dNil))) (dCons (dTup (dCons (dC (.int 1)) (dCons (dC (.int 1)) dNil))) dNil))) dNil))) (dC (.int 1))) (dCall f__law_trim (dCons (dTup (dCons (dCall f_value_of (dCons (dVar 3) (dCons (dVar 13) dNil))) dNil)) dNil))))) (dRet (dC (.bl false))) dNx) [.val S, .own false ds, s2, .val (pl A), .val (pl B), .val (pl C), s6, s7, s8, s9, s10, s11, s12, .val (q x), s14, s15, s16, s17] = some (.nx, [.val S, .own false ds, s2, .val (pl A), .val (pl B), .val (pl C), s6, s7, s8, s9, s10, s11, s12, .val (q x), s14, s15, s16, s17]) := by
  obtain ⟨h1, h2, h3, h4, h5, h6, h7, ⟨Q, h8⟩, h9⟩ := law16 hA hB hx
  have m0 := (law1 hA hB).2.1
  have m1 := (law1 hA hB).2.2.2.1
  rw [pl_lin] at h8
  constructor
  · simp -implicitDefEqProofs [m0, m1, h1, h2, h3, h4, h5, h6, nev_q]
  · rw [Int.zero_sub] at h8
    simp -implicitDefEqProofs [h2, h7, h8, h9, nev_q, nev_pl, lenOk_of]
theorem st19 (S : MV) (ds : List MV) (s2 s3 s4 s5 s6 s7 s8 s9 s10 s11 s12 s13 s14 s15 s16 s17 : Sl) : ∃ t12 t14 t15 t16 : Sl, (dIfS (dT blM (d2 (cmpM fun i j => decide (j < i)) (dPeek lenM 3) (dC (.int 1)))) (dSeq (dSet 14 (dVal (dCall f_whole_form (dCons (dVar 3) dNil)))) (dSeq (dSet 15 (dVal (dFrz (dLc (dCallO rng1F (dCons (dPeek lenM 3) dNil)) [12] (gN 12) (dT blM (d2 nevM (d2 ixM (dIxV 3 (dVar 12)) (dC (.int 0))) (dC (.int 0)))) (dCall f__law_by (dCons (dTup (dCons (dIxV 14 (dVar 12)) (dCons (dC (.int 1)) dNil))) (dCons (dIxV 3 (dVar 12)) dNil))))))) (dSeq (dIfS (dOr (dT blM (d2 nevM (dCall lendF (dCons (dFrz (dLc (dItems (dVar 15)) [16] (gN 16) dYes (dTup (dCons (dVar 16) (dCons (dC (.bl true)) dNil))))) dNil)) (dC (.int 1)))) (dOr (dT blM (d2 (cmpM fun i j => decide (i < j)) (dIxV 14 (d1 negM (dC (.int 1)))) (dC (.int 1)))) (dT blM (d2 nevM (dCall f_whole_form (dCons (dCall f__law_mul (dCons (dVar 3) (dCons (dTup (dCons (dTup (dCons (d1 negM (dC (.int 5))) (dCons (dC (.int 3)) dNil))) dNil)) dNil))) dNil)) (dVar 14))))) (dRet (dC (.bl false))) dNx) (dIfS (dAnd (dT blM (d2 (cmpM fun i j => decide (j < i)) (dPeek lenM 4) (dC (.int 1)))) (dT blM (d2 nevM (dCall f_whole_form (dCons (dCall f__law_mul (dCons (dVar 3) (dCons (dVar 4) dNil))) dNil)) (dCall tupF (dCons (dFrz (dLc (dItems (dCall f__law_mul (dCons (dCall tupF (dCons (dFrz (dLc (dItems (dVar 14)) [16] (gN 16) dYes (dTup (dCons (dVar 16) (dCons (dC (.int 1)) dNil))))) dNil)) (dCons (dCall tupF (dCons (dFrz (dLc (dItems (dCall f_whole_form (dCons (dVar 4) dNil))) [16] (gN 16) dYes (dTup (dCons (dVar 16) (dCons (dC (.int 1)) dNil))))) dNil)) dNil)))) [16] (gN 16) dYes (dIxV 16 (dC (.int 0))))) dNil))))) (dRet (dC (.bl false))) dNx)))) dNx) [.val S, .own false ds, s2, .val (pl A), .val (pl B), .val (pl C), s6, s7, s8, s9, s10, s11, s12, s13, s14, s15, s16, s17] = some (.nx, [.val S, .own false ds, s2, .val (pl A), .val (pl B), .val (pl C), s6, s7, s8, s9, s10, s11, t12, s13, t14, t15, t16, s17]) := by
  by_cases h2 : 2 ≤ dg A
  · obtain ⟨W, h1, hW, bW, h3, h4⟩ := law18 hA h2
    obtain ⟨v, hv⟩ := scale_ok hA hW bW
    have da := hA.dgle
    have htest : (dT blM (d2 (cmpM fun i j => decide (j < i)) (dPeek lenM 3) (dC (.int 1)))) [.val S, .own false ds, s2, .val (pl A), .val (pl B), .val (pl C), s6, s7, s8, s9, s10, s11, s12, s13, s14, s15, s16, s17] = some (true, [.val S, .own false ds, s2, .val (pl A), .val (pl B), .val (pl C), s6, s7, s8, s9, s10, s11, s12, s13, s14, s15, s16, s17]) := by
      have : (1 : Int) < ((dg A : Nat) : Int) := by omega
      simp -implicitDefEqProofs [len_pl, this]
    have r1 : (dSet 14 (dVal (dCall f_whole_form (dCons (dVar 3) dNil)))) [.val S, .own false ds, s2, .val (pl A), .val (pl B), .val (pl C), s6, s7, s8, s9, s10, s11, s12, s13, s14, s15, s16, s17] = some (.nx, [.val S, .own false ds, s2, .val (pl A), .val (pl B), .val (pl C), s6, s7, s8, s9, s10, s11, s12, s13, .val (.tup (W.map MV.int)), s15, s16, s17]) := by
      generalize W.map MV.int = G at h1 ⊢
      simp -implicitDefEqProofs [h1]
    -- the scale
    obtain ⟨n, z, hn, hn1⟩ := lcM_flt (vs := [12]) (g := (gN 12)) (t := (dT blM (d2 nevM (d2 ixM (dIxV 3 (dVar 12)) (dC (.int 0))) (dC (.int 0))))) (e := (dCall f__law_by (dCons (dTup (dCons (dIxV 14 (dVar 12)) (dCons (dC (.int 1)) dNil))) (dCons (dIxV 3 (dVar 12)) dNil)))) (ρ := [.val S, .own false ds, s2, .val (pl A), .val (pl B), .val (pl C), s6, s7, s8, s9, s10, s11, .no, s13, .val (.tup (W.map MV.int)), s15, s16, s17]) (v := q v) (rng 0 (dg A)) [] (by rw [rng_len]; simp; omega) (by
      intro m hm
      obtain ⟨k, ha, e⟩ := List.getElem_of_mem hm
      obtain ⟨hk, rfl⟩ := rng_get (show (rng 0 (dg A))[k]? = some m by rw [List.getElem?_eq_getElem ha, e])
      have hc : (lst A)[k]? = some ((lst A)[k]'hk) := List.getElem?_eq_getElem hk
      generalize (lst A)[k]'hk = c at hc
      have ix : ixM (pl A) (.int (k : Int)) = some (q c) := ixT hc
      simp only [Int.zero_add]
      by_cases c0 : c = 0
      · have hz : ((c.num == 0)) = true := by rw [num0]; simp [c0]
        refine .inl ⟨[.val S, .own false ds, s2, .val (pl A), .val (pl B), .val (pl C), s6, s7, s8, s9, s10, s11, .val (.int (k : Int)), s13, .val (.tup (W.map MV.int)), s15, s16, s17], [.val S, .own false ds, s2, .val (pl A), .val (pl B), .val (pl C), s6, s7, s8, s9, s10, s11, .val (.int (k : Int)), s13, .val (.tup (W.map MV.int)), s15, s16, s17], rfl, ?_, rfl⟩
        generalize W.map MV.int = G
        simp -implicitDefEqProofs [ix, hz]
      · obtain ⟨w, hw, lb⟩ := hv k c hc c0
        have hz : ((c.num == 0)) = false := by rw [num0]; simp [c0]
        have ixw : ixM (.tup (W.map MV.int)) (.int (k : Int)) = some (.int w) := by
          have hl := (List.getElem?_eq_some_iff.mp hw).1
          rw [ixM_nat (ms := W.map MV.int) rfl (by simpa using hl), List.getElem?_map, hw]; rfl
        refine .inr ⟨[.val S, .own false ds, s2, .val (pl A), .val (pl B), .val (pl C), s6, s7, s8, s9, s10, s11, .val (.int (k : Int)), s13, .val (.tup (W.map MV.int)), s15, s16, s17], [.val S, .own false ds, s2, .val (pl A), .val (pl B), .val (pl C), s6, s7, s8, s9, s10, s11, .val (.int (k : Int)), s13, .val (.tup (W.map MV.int)), s15, s16, s17], [.val S, .own false ds, s2, .val (pl A), .val (pl B), .val (pl C), s6, s7, s8, s9, s10, s11, .val (.int (k : Int)), s13, .val (.tup (W.map MV.int)), s15, s16, s17], rfl, ?_, ?_, rfl⟩
        · generalize W.map MV.int = G
          simp -implicitDefEqProofs [ix, hz]
        · generalize W.map MV.int = G at ixw ⊢
          simp -implicitDefEqProofs [ix, ixw, lb, lenOk_of])
    rw [rng_len] at hn
    rw [List.nil_append] at z
    have hn2 : 1 ≤ n := hn1 ⟨.int (0 + ((dg A - 1 : Nat) : Int)), by
      unfold rng
      exact List.mem_map.mpr ⟨dg A - 1, List.mem_range.mpr (by omega), rfl⟩, fun ρ1 ρ2 e1 e2 => by
      have hc : (lst A)[dg A - 1]? = some (lc A) := by
        have := last_lst hA.f0
        rw [List.getLast?_eq_getElem?] at this
        exact this
      have ix : ixM (pl A) (.int ((dg A - 1 : Nat) : Int)) = some (q (lc A)) := ixT hc
      have hz : (((lc A).num == 0)) = false := by rw [num0]; simp [lc_ne hA.f0]
      cases e1
      simp only [Int.zero_add] at e2
      generalize ((dg A - 1 : Nat) : Int) = K at ix e2
      generalize W.map MV.int = G at e2
      simp -implicitDefEqProofs [ix, hz] at e2⟩
    have r2 : (dSet 15 (dVal (dFrz (dLc (dCallO rng1F (dCons (dPeek lenM 3) dNil)) [12] (gN 12) (dT blM (d2 nevM (d2 ixM (dIxV 3 (dVar 12)) (dC (.int 0))) (dC (.int 0)))) (dCall f__law_by (dCons (dTup (dCons (dIxV 14 (dVar 12)) (dCons (dC (.int 1)) dNil))) (dCons (dIxV 3 (dVar 12)) dNil))))))) [.val S, .own false ds, s2, .val (pl A), .val (pl B), .val (pl C), s6, s7, s8, s9, s10, s11, s12, s13, .val (.tup (W.map MV.int)), s15, s16, s17] = some (.nx, [.val S, .own false ds, s2, .val (pl A), .val (pl B), .val (pl C), s6, s7, s8, s9, s10, s11, .no, s13, .val (.tup (W.map MV.int)), .val (.lst (List.replicate n (q v))), s16, s17]) := by
      have hc := rngV (ρ := [.val S, .own false ds, s2, .val (pl A), .val (pl B), .val (pl C), s6, s7, s8, s9, s10, s11, s12, s13, .val (.tup (W.map MV.int)), s15, s16, s17]) (i := 3) (n := dg A) rfl (len_pl A) (by omega)
      generalize dCallO rng1F _ = dj at hc ⊢
      generalize List.replicate n (q v) = R at z ⊢
      generalize W.map MV.int = G at hc z ⊢
      generalize dT blM (d2 nevM _ _) = tt at z ⊢
      generalize dCall f__law_by _ = ee at z ⊢
      simp -implicitDefEqProofs [hc, z]
    have r3 : (dIfS (dOr (dT blM (d2 nevM (dCall lendF (dCons (dFrz (dLc (dItems (dVar 15)) [16] (gN 16) dYes (dTup (dCons (dVar 16) (dCons (dC (.bl true)) dNil))))) dNil)) (dC (.int 1)))) (dOr (dT blM (d2 (cmpM fun i j => decide (i < j)) (dIxV 14 (d1 negM (dC (.int 1)))) (dC (.int 1)))) (dT blM (d2 nevM (dCall f_whole_form (dCons (dCall f__law_mul (dCons (dVar 3) (dCons (dTup (dCons (dTup (dCons (d1 negM (dC (.int 5))) (dCons (dC (.int 3)) dNil))) dNil)) dNil))) dNil)) (dVar 14))))) (dRet (dC (.bl false))) dNx) [.val S, .own false ds, s2, .val (pl A), .val (pl B), .val (pl C), s6, s7, s8, s9, s10, s11, .no, s13, .val (.tup (W.map MV.int)), .val (.lst (List.replicate n (q v))), s16, s17] = some (.nx, [.val S, .own false ds, s2, .val (pl A), .val (pl B), .val (pl C), s6, s7, s8, s9, s10, s11, .no, s13, .val (.tup (W.map MV.int)), .val (.lst (List.replicate n (q v))), .no, s17]) := by
      have z2 := lcM_zip (vs := [16]) (g := (gN 16)) (t := dYes) (e := (dTup (dCons (dVar 16) (dCons (dC (.bl true)) dNil)))) (ρ := [.val S, .own false ds, s2, .val (pl A), .val (pl B), .val (pl C), s6, s7, s8, s9, s10, s11, .no, s13, .val (.tup (W.map MV.int)), .val (.lst (List.replicate n (q v))), .no, s17]) (List.replicate n (q v)) (List.replicate n (.tup [q v, .bl true])) [] (by simp) (by simp; omega) (by
        intro i m o k1 k2
        obtain ⟨hi, rfl⟩ : i < n ∧ q v = m := by
          rw [List.getElem?_replicate] at k1
          split at k1
          · exact ⟨by assumption, Option.some.inj k1⟩
          · cases k1
        rw [List.getElem?_replicate, if_pos hi] at k2
        cases k2
        refine ⟨_, _, [.val S, .own false ds, s2, .val (pl A), .val (pl B), .val (pl C), s6, s7, s8, s9, s10, s11, .no, s13, .val (.tup (W.map MV.int)), .val (.lst (List.replicate n (q v))), .val (q v), s17], rfl, rfl, ?_, rfl⟩
        generalize List.replicate n (q v) = R
        generalize W.map MV.int = G
        simp -implicitDefEqProofs [lenOk_of])
      rw [List.nil_append] at z2
      have ld := lend_rep (n := n) v hn2
      obtain ⟨w, hw, pw⟩ := hW.pos
      have ixl : ixM (.tup (W.map MV.int)) (.int (-1)) = some (.int w) := by
        have hne : W ≠ [] := fun z => by subst z; simp at hw
        rw [ixM_last (ms := W.map MV.int) rfl (by simpa using List.length_pos_iff.mpr hne), List.getLast?_map, hw]; rfl
      have nv := nev_ints W
      have hlt : ¬ w < 1 := by omega
      generalize List.replicate n (q v) = R at z2 ⊢
      generalize List.replicate n (MV.tup [q v, .bl true]) = R2 at z2 ld
      generalize W.map MV.int = G at z2 ixl nv h4 ⊢
      simp -implicitDefEqProofs [z2, ld, ixl, nv, h3, h4, hlt, lenOk_of]
    have r4 : ∃ t16, (dIfS (dAnd (dT blM (d2 (cmpM fun i j => decide (j < i)) (dPeek lenM 4) (dC (.int 1)))) (dT blM (d2 nevM (dCall f_whole_form (dCons (dCall f__law_mul (dCons (dVar 3) (dCons (dVar 4) dNil))) dNil)) (dCall tupF (dCons (dFrz (dLc (dItems (dCall f__law_mul (dCons (dCall tupF (dCons (dFrz (dLc (dItems (dVar 14)) [16] (gN 16) dYes (dTup (dCons (dVar 16) (dCons (dC (.int 1)) dNil))))) dNil)) (dCons (dCall tupF (dCons (dFrz (dLc (dItems (dCall f_whole_form (dCons (dVar 4) dNil))) [16] (gN 16) dYes (dTup (dCons (dVar 16) (dCons (dC (.int 1)) dNil))))) dNil)) dNil)))) [16] (gN 16) dYes (dIxV 16 (dC (.int 0))))) dNil))))) (dRet (dC (.bl false))) dNx) [.val S, .own false ds, s2, .val (pl A), .val (pl B), .val (pl C), s6, s7, s8, s9, s10, s11, .no, s13, .val (.tup (W.map MV.int)), .val (.lst (List.replicate n (q v))), .no, s17] = some (.nx, [.val S, .own false ds, s2, .val (pl A), .val (pl B), .val (pl C), s6, s7, s8, s9, s10, s11, .no, s13, .val (.tup (W.map MV.int)), .val (.lst (List.replicate n (q v))), t16, s17]) := by
      by_cases g2 : 2 ≤ dg B
      · obtain ⟨V, U, k1, k2, k3, k4, k5⟩ := law19 hA hB h2 g2 hW bW
        have lW := hW.len
        have ones : ∀ X : List Int, X.length ≤ 10 → lcM [16] (gN 16) dYes (dTup (dCons (dVar 16) (dCons (dC (.int 1)) dNil))) (X.map MV.int) [] [.val S, .own false ds, s2, .val (pl A), .val (pl B), .val (pl C), s6, s7, s8, s9, s10, s11, .no, s13, .val (.tup (W.map MV.int)), .val (.lst (List.replicate n (q v))), .no, s17] = some (X.map fun w => .tup [.int w, .int 1], [.val S, .own false ds, s2, .val (pl A), .val (pl B), .val (pl C), s6, s7, s8, s9, s10, s11, .no, s13, .val (.tup (W.map MV.int)), .val (.lst (List.replicate n (q v))), .no, s17]) := fun X hX => by
          have := lcM_zip (vs := [16]) (g := (gN 16)) (t := dYes) (e := (dTup (dCons (dVar 16) (dCons (dC (.int 1)) dNil)))) (ρ := [.val S, .own false ds, s2, .val (pl A), .val (pl B), .val (pl C), s6, s7, s8, s9, s10, s11, .no, s13, .val (.tup (W.map MV.int)), .val (.lst (List.replicate n (q v))), .no, s17]) (X.map MV.int) (X.map fun w => .tup [.int w, .int 1]) [] (by simp) (by simp; omega) (by
            intro i m o k1 k2
            rw [List.getElem?_map] at k1
            obtain ⟨w, hw, rfl⟩ := Option.map_eq_some_iff.mp k1
            rw [List.getElem?_map, hw] at k2
            cases k2
            refine ⟨_, _, [.val S, .own false ds, s2, .val (pl A), .val (pl B), .val (pl C), s6, s7, s8, s9, s10, s11, .no, s13, .val (.tup (W.map MV.int)), .val (.lst (List.replicate n (q v))), .val (.int w), s17], rfl, rfl, ?_, rfl⟩
            generalize List.replicate n (q v) = R
            generalize W.map MV.int = G
            simp -implicitDefEqProofs [lenOk_of])
          rwa [List.nil_append] at this
        have o1 := ones W (by omega)
        have o2 := ones U k3
        have o3 : lcM [16] (gN 16) dYes (dIxV 16 (dC (.int 0))) (V.map fun w => .tup [.int w, .int 1]) [] [.val S, .own false ds, s2, .val (pl A), .val (pl B), .val (pl C), s6, s7, s8, s9, s10, s11, .no, s13, .val (.tup (W.map MV.int)), .val (.lst (List.replicate n (q v))), .no, s17] = some (V.map MV.int, [.val S, .own false ds, s2, .val (pl A), .val (pl B), .val (pl C), s6, s7, s8, s9, s10, s11, .no, s13, .val (.tup (W.map MV.int)), .val (.lst (List.replicate n (q v))), .no, s17]) := by
          have := lcM_zip (vs := [16]) (g := (gN 16)) (t := dYes) (e := (dIxV 16 (dC (.int 0)))) (ρ := [.val S, .own false ds, s2, .val (pl A), .val (pl B), .val (pl C), s6, s7, s8, s9, s10, s11, .no, s13, .val (.tup (W.map MV.int)), .val (.lst (List.replicate n (q v))), .no, s17]) (V.map fun w => .tup [.int w, .int 1]) (V.map MV.int) [] (by simp) (by simp; omega) (by
            intro i m o k1 k2
            rw [List.getElem?_map] at k1
            obtain ⟨w, hw, rfl⟩ := Option.map_eq_some_iff.mp k1
            rw [List.getElem?_map, hw] at k2
            cases k2
            refine ⟨_, _, [.val S, .own false ds, s2, .val (pl A), .val (pl B), .val (pl C), s6, s7, s8, s9, s10, s11, .no, s13, .val (.tup (W.map MV.int)), .val (.lst (List.replicate n (q v))), .val (.tup [.int w, .int 1]), s17], rfl, rfl, ?_, rfl⟩
            generalize List.replicate n (q v) = R
            generalize W.map MV.int = G
            simp -implicitDefEqProofs)
          rwa [List.nil_append] at this
        have m0 := (law1 hA hB).2.1
        have nv := nev_ints V
        have hg : (1 : Int) < ((dg B : Nat) : Int) := by omega
        refine ⟨.no, ?_⟩
        generalize (W.map fun w => MV.tup [.int w, .int 1]) = W1 at *
        generalize (U.map fun w => MV.tup [.int w, .int 1]) = U1 at *
        generalize (V.map fun w => MV.tup [.int w, .int 1]) = V1 at *
        generalize List.replicate n (q v) = R at o1 o2 o3 ⊢
        generalize W.map MV.int = G at o1 o2 o3 ⊢
        generalize U.map MV.int = GU at *
        generalize V.map MV.int = GV at *
        simp -implicitDefEqProofs [len_pl, hg, m0, k1, k2, k5, o1, o2, o3, nv]
      · refine ⟨.no, ?_⟩
        have hg : ¬ (1 : Int) < ((dg B : Nat) : Int) := by omega
        simp -implicitDefEqProofs [len_pl, hg]
    obtain ⟨t16, r4⟩ := r4
    refine ⟨.no, .val (.tup (W.map MV.int)), .val (.lst (List.replicate n (q v))), t16, ?_⟩
    rw [if_then htest, seq_nx r1, seq_nx r2, seq_nx r3, r4]
  · have : ¬ (1 : Int) < ((dg A : Nat) : Int) := by omega
    refine ⟨s12, s14, s15, s16, ?_⟩
    rw [if_else (ρ1 := [.val S, .own false ds, s2, .val (pl A), .val (pl B), .val (pl C), s6, s7, s8, s9, s10, s11, s12, s13, s14, s15, s16, s17])]
    · rfl
    · simp -implicitDefEqProofs [len_pl, this]
end
end K41
set_option maxHeartbeats 1000000
namespace K41
open PySem L2 ML PA
noncomputable abbrev turn : DS := (dSeq (dAsg (dTup (dCons (dCallI f__law_loose_poly 1 (dCons (dC (.int 3)) dNil)) (dCons (dCallI f__law_loose_poly 1 (dCons (dC (.int 3)) dNil)) (dCons (dCallI f__law_loose_poly 1 (dCons (dC (.int 2)) dNil)) dNil)))) (gT 3 (gsCons (gN 3) (gsCons (gN 4) (gsCons (gN 5) gsNil))))) (dSeq (dSet 6 (dVal (dCall f__law_trim (dCons (dCall tupF (dCons (dFrz (dLc (dCallO rng1F (dCons (d2 subM (dPeek lenM 4) (dC (.int 1))) dNil)) [12] (gN 12) dYes (dCall f__law_lowest (dCons (d2 subM (d2 modM (dCall intF (dCons (dCallI f__law_next 1 dNil) dNil)) (dC (.int 9))) (dC (.int 4))) (dCons (d2 addM (dC (.int 1)) (d2 modM (dCall intF (dCons (dCallI f__law_next 1 dNil) dNil)) (dC (.int 3)))) dNil))))) dNil)) dNil)))) (dSeq (dIfS (dOr (dT blM (d2 nevM (dCall f_product_of (dCons (dVar 3) (dCons (dVar 4) dNil))) (dCall f__law_mul (dCons (dVar 3) (dCons (dVar 4) dNil))))) (dOr (dT blM (d2 nevM (dCall f_sum_of (dCons (dVar 3) (dCons (dVar 4) dNil))) (dCall f__law_sum (dCons (dVar 3) (dCons (dVar 4) dNil))))) (dOr (dT blM (d2 nevM (dCall f_product_of (dCons (dVar 3) (dCons (dTup dNil) dNil))) (dTup dNil))) (dT blM (d2 nevM (dCall f_sum_of (dCons (dVar 3) (dCons (dTup dNil) dNil))) (dVar 3)))))) (dRet (dC (.bl false))) dNx) (dSeq (dIfS (dOr (dT blM (d2 nevM (dCall f_division (dCons (dCall f__law_sum (dCons (dCall f__law_mul (dCons (dVar 3) (dCons (dVar 4) dNil))) (dCons (dVar 6) dNil))) (dCons (dVar 4) dNil))) (dTup (dCons (dVar 3) (dCons (dVar 6) dNil))))) (dT blM (d2 nevM (dCall f_division (dCons (dVar 6) (dCons (dVar 4) dNil))) (dTup (dCons (dTup dNil) (dCons (dVar 6) dNil)))))) (dRet (dC (.bl false))) dNx) (dSeq (dIfS (dT blM (d2 nevM (dCall f_product_of (dCons (dCall f_sum_of (dCons (dVar 3) (dCons (dVar 4) dNil))) (dCons (dVar 5) dNil))) (dCall f_sum_of (dCons (dCall f_product_of (dCons (dVar 3) (dCons (dVar 5) dNil))) (dCons (dCall f_product_of (dCons (dVar 4) (dCons (dVar 5) dNil))) dNil))))) (dRet (dC (.bl false))) dNx) (dSeq (dSet 7 (dVal (dCall f_common_divisor (dCons (dVar 3) (dCons (dVar 4) dNil))))) (dSeq (dIfS (dOr (dT blM (d2 nevM (dCall f_common_divisor (dCons (dVar 4) (dCons (dVar 3) dNil))) (dVar 7))) (dOr (dT blM (d2 nevM (dCall f_common_divisor (dCons (dVar 3) (dCons (dVar 3) dNil))) (dCall f__law_monic (dCons (dVar 3) dNil)))) (dOr (dT blM (d2 nevM (dCall f_common_divisor (dCons (dVar 3) (dCons (dTup dNil) dNil))) (dCall f__law_monic (dCons (dVar 3) dNil)))) (dT blM (d2 nevM (dCall f_common_divisor (dCons (dTup dNil) (dCons (dTup dNil) dNil))) (dTup dNil)))))) (dRet (dC (.bl false))) dNx) (dSeq (dIfS (dOr (dT blM (d2 nevM (dCall f_common_divisor (dCons (dCall f__law_mul (dCons (dVar 3) (dCons (dVar 5) dNil))) (dCons (dCall f__law_mul (dCons (dVar 4) (dCons (dVar 5) dNil))) dNil))) (dCall f__law_monic (dCons (dCall f__law_mul (dCons (dVar 7) (dCons (dVar 5) dNil))) dNil)))) (dOr (dT blM (d2 nevM (d2 ixM (dCall f_division (dCons (dVar 3) (dCons (dVar 7) dNil))) (dC (.int 1))) (dTup dNil))) (dT blM (d2 nevM (d2 ixM (dCall f_division (dCons (dVar 4) (dCons (dVar 7) dNil))) (dC (.int 1))) (dTup dNil))))) (dRet (dC (.bl false))) dNx) (dSeq (dIfS (dT blM (d2 nevM (dCall f_common_divisor (dCons (dVar 3) (dCons (dCall f__law_sum (dCons (dCall f__law_mul (dCons (dVar 3) (dCons (dVar 5) dNil))) (dCons (dVar 4) dNil))) dNil))) (dVar 7))) (dRet (dC (.bl false))) dNx) (dSeq (dSet 8 (dVal (dCall f_squarefree (dCons (dCall f__law_mul (dCons (dVar 3) (dCons (dVar 4) dNil))) dNil)))) (dSeq (dIfS (dOr (dT blM (d2 nevM (dCall f_squarefree (dCons (dCall f__law_mul (dCons (dCall f__law_power (dCons (dVar 3) (dCons (dC (.int 2)) dNil))) (dCons (dVar 4) dNil))) dNil)) (dVar 8))) (dOr (dT blM (d2 nevM (dCall f_squarefree (dCons (dVar 8) dNil)) (dVar 8))) (dT blM (d2 nevM (dCall f_common_divisor (dCons (dVar 8) (dCons (dCall f__law_mul (dCons (dVar 3) (dCons (dVar 4) dNil))) dNil))) (dVar 8))))) (dRet (dC (.bl false))) dNx) (dSeq (dSet 9 (dVal (dCall f__law_mul (dCons (dCall f__law_mul (dCons (dVar 3) (dCons (dVar 3) dNil))) (dCons (dCall f__law_power (dCons (dVar 5) (dCons (dC (.int 3)) dNil))) dNil))))) (dSeq (dAsg (dTup (dCons (dCall f_squarefree_parts (dCons (dVar 9) dNil)) (dCons (dTup (dCons (dTup (dCons (d2 ixM (dIxV 9 (d1 negM (dC (.int 1)))) (dC (.int 0))) (dCons (d2 ixM (dIxV 9 (d1 negM (dC (.int 1)))) (dC (.int 1))) dNil))) dNil)) dNil))) (gT 2 (gsCons (gN 10) (gsCons (gN 11) gsNil)))) (dSeq (dFor (dCallO rng1F (dCons (dPeek lenM 10) dNil)) (gN 12) (dSet 11 (dVal (dCall f__law_mul (dCons (dVar 11) (dCons (dCall f__law_power (dCons (dIxV 10 (dVar 12)) (dCons (d2 addM (dVar 12) (dC (.int 1))) dNil))) dNil)))))) (dSeq (dIfS (dOr (dT blM (d2 nevM (dVar 11) (dVar 9))) (dNot (dT truM (dCall allF (dCons (dFrz (dLc (dItems (dVar 10)) [16] (gN 16) dYes (d2 eqvM (dCall f_squarefree (dCons (dVar 16) dNil)) (dVar 16)))) dNil))))) (dRet (dC (.bl false))) dNx) (dSeq (dIfS (dNot (dT truM (dCall allF (dCons (dFrz (dLc (dCallO rng1F (dCons (dPeek lenM 10) dNil)) [12] (gN 12) dYes (dCall allF (dCons (dFrz (dLc (dCallO rng1F (dCons (dVar 12) dNil)) [17] (gN 17) dYes (d2 eqvM (dCall f_common_divisor (dCons (dIxV 10 (dVar 12)) (dCons (dIxV 10 (dVar 17)) dNil))) (dTup (dCons (dTup (dCons (dC (.int 1)) (dCons (dC (.int 1)) dNil))) dNil))))) dNil)))) dNil)))) (dRet (dC (.bl false))) dNx) (dSeq (dSet 13 (dVal (dCall f__law_lowest (dCons (d2 subM (d2 modM (dCall intF (dCons (dCallI f__law_next 1 dNil) dNil)) (dC (.int 9))) (dC (.int 4))) (dCons (d2 addM (dC (.int 1)) (d2 modM (dCall intF (dCons (dCallI f__law_next 1 dNil) dNil)) (dC (.int 4)))) dNil))))) (dSeq (dIfS (dOr (dT blM (d2 nevM (dCall f_value_of (dCons (dCall f__law_mul (dCons (dVar 3) (dCons (dVar 4) dNil))) (dCons (dVar 13) dNil))) (dCall f__law_times (dCons (dCall f_value_of (dCons (dVar 3) (dCons (dVar 13) dNil))) (dCons (dCall f_value_of (dCons (dVar 4) (dCons (dVar 13) dNil))) dNil))))) (dT blM (d2 nevM (dCall f_value_of (dCons (dCall f__law_sum (dCons (dVar 3) (dCons (dVar 4) dNil))) (dCons (dVar 13) dNil))) (dCall f__law_add (dCons (dCall f_value_of (dCons (dVar 3) (dCons (dVar 13) dNil))) (dCons (dCall f_value_of (dCons (dVar 4) (dCons (dVar 13) dNil))) dNil)))))) (dRet (dC (.bl false))) dNx) (dSeq (dIfS (dOr (dT blM (d2 nevM (dCall f_value_of (dCons (dVar 3) (dCons (dVar 13) dNil))) (dCall f__law_at (dCons (dVar 3) (dCons (dVar 13) dNil))))) (dT blM (d2 nevM (d2 ixM (dCall f_division (dCons (dVar 3) (dCons (dTup (dCons (dTup (dCons (d2 subM (dC (.int 0)) (dIxV 13 (dC (.int 0)))) (dCons (dIxV 13 (dC (.int 1))) dNil))) (dCons (dTup (dCons (dC (.int 1)) (dCons (dC (.int 1)) dNil))) dNil))) dNil))) (dC (.int 1))) (dCall f__law_trim (dCons (dTup (dCons (dCall f_value_of (dCons (dVar 3) (dCons (dVar 13) dNil))) dNil)) dNil))))) (dRet (dC (.bl false))) dNx) (dIfS (dT blM (d2 (cmpM fun i j => decide (j < i)) (dPeek lenM 3) (dC (.int 1)))) (dSeq (dSet 14 (dVal (dCall f_whole_form (dCons (dVar 3) dNil)))) (dSeq (dSet 15 (dVal (dFrz (dLc (dCallO rng1F (dCons (dPeek lenM 3) dNil)) [12] (gN 12) (dT blM (d2 nevM (d2 ixM (dIxV 3 (dVar 12)) (dC (.int 0))) (dC (.int 0)))) (dCall f__law_by (dCons (dTup (dCons (dIxV 14 (dVar 12)) (dCons (dC (.int 1)) dNil))) (dCons (dIxV 3 (dVar 12)) dNil))))))) (dSeq (dIfS (dOr (dT blM (d2 nevM (dCall lendF (dCons (dFrz (dLc (dItems (dVar 15)) [16] (gN 16) dYes (dTup (dCons (dVar 16) (dCons (dC (.bl true)) dNil))))) dNil)) (dC (.int 1)))) (dOr (dT blM (d2 (cmpM fun i j => decide (i < j)) (dIxV 14 (d1 negM (dC (.int 1)))) (dC (.int 1)))) (dT blM (d2 nevM (dCall f_whole_form (dCons (dCall f__law_mul (dCons (dVar 3) (dCons (dTup (dCons (dTup (dCons (d1 negM (dC (.int 5))) (dCons (dC (.int 3)) dNil))) dNil)) dNil))) dNil)) (dVar 14))))) (dRet (dC (.bl false))) dNx) (dIfS (dAnd (dT blM (d2 (cmpM fun i j => decide (j < i)) (dPeek lenM 4) (dC (.int 1)))) (dT blM (d2 nevM (dCall f_whole_form (dCons (dCall f__law_mul (dCons (dVar 3) (dCons (dVar 4) dNil))) dNil)) (dCall tupF (dCons (dFrz (dLc (dItems (dCall f__law_mul (dCons (dCall tupF (dCons (dFrz (dLc (dItems (dVar 14)) [16] (gN 16) dYes (dTup (dCons (dVar 16) (dCons (dC (.int 1)) dNil))))) dNil)) (dCons (dCall tupF (dCons (dFrz (dLc (dItems (dCall f_whole_form (dCons (dVar 4) dNil))) [16] (gN 16) dYes (dTup (dCons (dVar 16) (dCons (dC (.int 1)) dNil))))) dNil)) dNil)))) [16] (gN 16) dYes (dIxV 16 (dC (.int 0))))) dNil))))) (dRet (dC (.bl false))) dNx)))) dNx))))))))))))))))))))
theorem turn_ok (S : MV) {ds : List MV} (hd : Dr ds) (s2 s3 s4 s5 s6 s7 s8 s9 s10 s11 s12 s13 s14 s15 s16 s17 : Sl) : ∃ (ds' : List MV) (t2 t3 t4 t5 t6 t7 t8 t9 t10 t11 t12 t13 t14 t15 t16 t17 : Sl), Dr ds' ∧ turn [.val S, .own false ds, s2, s3, s4, s5, s6, s7, s8, s9, s10, s11, s12, s13, s14, s15, s16, s17] = some (.nx, [.val S, .own false ds', t2, t3, t4, t5, t6, t7, t8, t9, t10, t11, t12, t13, t14, t15, t16, t17]) := by
  obtain ⟨A, B, C, ka, kb, kc, d0, hA, hB, hC, h0, r0⟩ := st0 S hd s2 s3 s4 s5 s6 s7 s8 s9 s10 s11 s12 s13 s14 s15 s16 s17
  obtain ⟨L, d1, hL, dL, h1, r1⟩ := st1 S h0 (A := A) (C := C) hB s2 s6 s7 s8 s9 s10 s11 s12 s13 s14 s15 s16 s17
  have r2 := st2 hA hB S d1 (C := C) s2 .no .no .no (.val (pl L)) s7 s8 s9 s10 s11 .no s13 s14 s15 s16 s17
  have r3 := st3 hA hB S d1 (C := C) hL dL s2 .no .no .no .no s7 s8 s9 s10 s11 .no s13 s14 s15 s16 s17
  have r4 := st4 hA hB hC S d1 s2 .no .no .no (.val (pl L)) s7 s8 s9 s10 s11 .no s13 s14 s15 s16 s17
  have r5 := st5 hA hB S d1 (C := C) s2 .no .no .no (.val (pl L)) s7 s8 s9 s10 s11 .no s13 s14 s15 s16 s17
  have r6 := st6 hA hB S d1 (C := C) s2 .no .no .no (.val (pl L)) .no s8 s9 s10 s11 .no s13 s14 s15 s16 s17
  have r7 := st7 hA hB hC S d1 s2 .no .no .no (.val (pl L)) .no s8 s9 s10 s11 .no s13 s14 s15 s16 s17
  have r8 := st8 hA hB hC S d1 s2 .no .no .no (.val (pl L)) .no s8 s9 s10 s11 .no s13 s14 s15 s16 s17
  obtain ⟨fr, r9, r10⟩ := st9 hA hB S d1 (C := C) s2 .no .no .no (.val (pl L)) (.val (pl (gcd A B))) s8 s9 s10 s11 .no s13 s14 s15 s16 s17
  obtain ⟨P, t12, r11, r12, r13, r14, t17, r15⟩ := st11 hA hC S d1 (B := B) s2 .no .no .no (.val (pl L)) (.val (pl (gcd A B))) (.val (pl fr)) s9 s10 s11 .no s13 s14 s15 s16 s17
  obtain ⟨x, d2, hx, h2, r16⟩ := st16 S h1 (A := A) (B := B) (C := C) s2 .no .no .no (.val (pl L)) (.val (pl (gcd A B))) (.val (pl fr)) (.val (pl (A * A * C ^ 3))) (.val (.tup (P.map pl))) (.val (pl (A * A * C ^ 3))) .no s13 s14 s15 .no t17
  obtain ⟨r17, r18⟩ := st17 hA hB S d2 (C := C) hx s2 .no .no .no (.val (pl L)) (.val (pl (gcd A B))) (.val (pl fr)) (.val (pl (A * A * C ^ 3))) (.val (.tup (P.map pl))) (.val (pl (A * A * C ^ 3))) .no .no s14 s15 .no t17
  obtain ⟨u12, u14, u15, u16, r19⟩ := st19 hA hB S d2 (C := C) s2 .no .no .no (.val (pl L)) (.val (pl (gcd A B))) (.val (pl fr)) (.val (pl (A * A * C ^ 3))) (.val (.tup (P.map pl))) (.val (pl (A * A * C ^ 3))) .no (.val (q x)) s14 s15 .no t17
  refine ⟨d2, s2, .val (pl A), .val (pl B), .val (pl C), .val (pl L), .val (pl (gcd A B)), .val (pl fr), .val (pl (A * A * C ^ 3)), .val (.tup (P.map pl)), .val (pl (A * A * C ^ 3)), u12, .val (q x), u14, u15, u16, t17, h2, ?_⟩
  unfold turn
  rw [seq_nx r0]
  rw [seq_nx r1]
  rw [seq_nx r2]
  rw [seq_nx r3]
  rw [seq_nx r4]
  rw [seq_nx r5]
  rw [seq_nx r6]
  rw [seq_nx r7]
  rw [seq_nx r8]
  rw [seq_nx r9]
  rw [seq_nx r10]
  rw [seq_nx r11]
  rw [seq_nx r12]
  rw [seq_nx r13]
  rw [seq_nx r14]
  rw [seq_nx r15]
  rw [seq_nx r16]
  rw [seq_nx r17]
  rw [seq_nx r18]
  exact r19
theorem main_ok (ns : List Int) (h : ns.length ≤ 63) : f__law_main [.scr (ns.map MV.int)] = some (.bl true) := by
  obtain ⟨d0, e0, h0, l0⟩ := law_draws_ok ns h
  obtain ⟨d1, rest, e1, h1⟩ := law_more_ok h0 l0
  generalize MV.scr (ns.map MV.int) = S at e0 ⊢
  obtain ⟨ρ', e2, dz, s2, s3, s4, s5, s6, s7, s8, s9, s10, s11, s12, s13, s14, s15, s16, s17, rfl, _⟩ := forM_inv (g := gN 2) (b := turn) (ms := rng 0 3) (ρ := [.val S, .own false d1, .no, .no, .no, .no, .no, .no, .no, .no, .no, .no, .no, .no, .no, .no, .no, .no])
    (fun i ρ => ∃ (ds : List MV) (s2 s3 s4 s5 s6 s7 s8 s9 s10 s11 s12 s13 s14 s15 s16 s17 : Sl), ρ = [.val S, .own false ds, s2, s3, s4, s5, s6, s7, s8, s9, s10, s11, s12, s13, s14, s15, s16, s17] ∧ Dr ds) ⟨d1, .no, .no, .no, .no, .no, .no, .no, .no, .no, .no, .no, .no, .no, .no, .no, .no, rfl, h1⟩ (by
      rintro i m ρ hm ⟨ds, s2, s3, s4, s5, s6, s7, s8, s9, s10, s11, s12, s13, s14, s15, s16, s17, rfl, hd⟩
      obtain ⟨ds', t2, t3, t4, t5, t6, t7, t8, t9, t10, t11, t12, t13, t14, t15, t16, t17, hd', e⟩ := turn_ok S hd (.val m) s3 s4 s5 s6 s7 s8 s9 s10 s11 s12 s13 s14 s15 s16 s17
      exact ⟨_, _, rfl, e, ds', t2, t3, t4, t5, t6, t7, t8, t9, t10, t11, t12, t13, t14, t15, t16, t17, rfl, hd'⟩)
  have a1 : (dSet 1 (dOwn (dCallO f__law_draws (dCons (dVar 0) dNil)))) [.val S, .no, .no, .no, .no, .no, .no, .no, .no, .no, .no, .no, .no, .no, .no, .no, .no, .no] = some (.nx, [.val S, .own false d0, .no, .no, .no, .no, .no, .no, .no, .no, .no, .no, .no, .no, .no, .no, .no, .no]) := by
    simp -implicitDefEqProofs [e0]
  have a2 : (dSet 1 (dOwn (dCallIO f__law_more 1 (dCons (dC (.int 150)) dNil)))) [.val S, .own false d0, .no, .no, .no, .no, .no, .no, .no, .no, .no, .no, .no, .no, .no, .no, .no, .no] = some (.nx, [.val S, .own false d1, .no, .no, .no, .no, .no, .no, .no, .no, .no, .no, .no, .no, .no, .no, .no, .no]) := by
    simp -implicitDefEqProofs [e1]
  have hc : dCallO rng1F (dCons (dC (.int 3)) dNil) [.val S, .own false d1, .no, .no, .no, .no, .no, .no, .no, .no, .no, .no, .no, .no, .no, .no, .no, .no] = some (rng 0 3, [.val S, .own false d1, .no, .no, .no, .no, .no, .no, .no, .no, .no, .no, .no, .no, .no, .no, .no, .no]) := dCallO_of (ms := [.int ((3 : Nat) : Int)]) (by simp) (rngL 3 (by omega))
  have e : f__law_main = fnP 18 (dSeq (dSet 1 (dOwn (dCallO f__law_draws (dCons (dVar 0) dNil)))) (dSeq (dSet 1 (dOwn (dCallIO f__law_more 1 (dCons (dC (.int 150)) dNil)))) (dSeq (dFor (dCallO rng1F (dCons (dC (.int 3)) dNil)) (gN 2) turn) (dRet (dC (.bl true)))))) := rfl
  rw [e]
  unfold fnP
  rw [show env0 18 [S] = [.val S, .no, .no, .no, .no, .no, .no, .no, .no, .no, .no, .no, .no, .no, .no, .no, .no, .no] from rfl, seq_nx a1, seq_nx a2, seq_nx (for_of hc e2)]
  rfl
theorem all (ns : List Int) (h : ns.length ≤ 63) : f_law [.scr (ns.map MV.int)] = some (.bl true) := by
  have := main_ok ns h
  unfold f_law
  simp -implicitDefEqProofs [fnP, env0, this]
end K41
set_option maxHeartbeats 4000000
namespace K41
open PySem L2 ML
def top (i : Nat) : Stmt := PySem.Challenge.pw_signsdecided_k41_division_and_divisors.main.body.getD i (.Pass ⟨0, 0, 0, 0⟩)
structure Names (K : PySem.W.Frag) (mg : Str → Option Value) : Prop where
  n_abs : mg "abs" = none
  n_all : mg "all" = none
  n_dict : mg "dict" = none
  n_enumerate : mg "enumerate" = none
  n_int : mg "int" = none
  n_len : mg "len" = none
  n_list : mg "list" = none
  n_max : mg "max" = none
  n_range : mg "range" = none
  n_tuple : mg "tuple" = none
  n_zip : mg "zip" = none
  c_MOST_DEGREE : GInt mg "MOST_DEGREE" 24
  c_MOST_SIZE : GInt mg "MOST_SIZE" (10 ^ 60)
  c_NOUGHT : GTup K mg "NOUGHT" [.int 0, .int 1]
section
variable {P : Program} {w : World} {K : PySem.W.Frag} {mg : Str → Option Value} {base : Heap}
abbrev s_common : Stmt := top 7
theorem sc_common : FnScope ["one", "other"] ["one", "other"] (defScope s_common) := ⟨rfl, rfl, rfl, by decide +kernel, rfl, by decide +kernel, by decide +kernel⟩
structure N_common (P : Program) (w : World) (K : PySem.W.Frag) (mg : Str → Option Value) (base : Heap) : Prop extends Names K mg where
theorem fok_common {f : Addr} {fd : FuncData} (F : Fun K "common" "common" s_common f fd) (T : N_common P w K mg base) : FnOk P w K mg base CX0 1 f fd ["one", "other"] (spP K f_common 2) := by
  have sc := sc_common
  refine fnP_ok F sc fun cdv Ar outer s H E hr => ?_
  exact (psm_cons (psm_while PassesOwn.never (ptm_name (pv 1)) (psm_one (psm_par (ps_par (i := 0) (j := 1) rfl sc.nd rfl rfl (by decide) rfl rfl (pa_cons (pei_val (pem_var (pv 1))) (pa_cons (pei_val (pem_mod (pem_var (pv 0)) (pem_var (pv 1)))) pa_nil)) (by rfl))))) (psm_one (psm_ret (pem_var (pv 0)))))
theorem ok_common (A : At K mg "common" s_common) (T : N_common P w K mg base) : Def P w K mg base "common" 1 ["one", "other"] (spP K f_common 2) := by
  obtain ⟨f, fd, F, hm⟩ := A.ex
  exact ⟨f, fd, fok_common F T, F.binds (ps := ["one", "other"]) (fun _ _ _ _ _ _ us hl => match us, hl with | [_, _], _ => rfl), hm, F.kp⟩
abbrev s_least_terms : Stmt := top 8
theorem sc_least_terms : FnScope ["top", "low", "part"] ["top", "low"] (defScope s_least_terms) := ⟨rfl, rfl, rfl, by decide +kernel, rfl, by decide +kernel, by decide +kernel⟩
structure N_least_terms (P : Program) (w : World) (K : PySem.W.Frag) (mg : Str → Option Value) (base : Heap) : Prop extends Names K mg where
  d_common : Def P w K mg base "common" 1 ["one", "other"] (spP K f_common 2)
theorem fok_least_terms {f : Addr} {fd : FuncData} (F : Fun K "least_terms" "least_terms" s_least_terms f fd) (T : N_least_terms P w K mg base) : FnOk P w K mg base CX0 2 f fd ["top", "low"] (spP K f_least_terms 2) := by
  have sc := sc_least_terms
  refine fnP_ok F sc fun cdv Ar outer s H E hr => ?_
  exact (psm_cons (psm_set (ps_set (i := 2) sc.nd rfl (Or.inl rfl) (pei_val (pem_call (call_def T.d_common hr (by decide) (by rfl) (pam_cons (pem_cb (pe_callB call_abs (by rfl) T.n_abs PyProof.Rows.boot_abs (pam_cons (pem_var (pv 0)) pam_nil)) on_abs) (pam_cons (pem_var (pv 1)) pam_nil))) (dlen_cons (dlen_cons dlen_nil)))))) (psm_one (psm_ret (pem_tup (pam_cons (pem_fdiv (pem_var (pv 0)) (pem_var (pv 2))) (pam_cons (pem_fdiv (pem_var (pv 1)) (pem_var (pv 2))) pam_nil))))))
theorem ok_least_terms (A : At K mg "least_terms" s_least_terms) (T : N_least_terms P w K mg base) : Def P w K mg base "least_terms" 2 ["top", "low"] (spP K f_least_terms 2) := by
  obtain ⟨f, fd, F, hm⟩ := A.ex
  exact ⟨f, fd, fok_least_terms F T, F.binds (ps := ["top", "low"]) (fun _ _ _ _ _ _ us hl => match us, hl with | [_, _], _ => rfl), hm, F.kp⟩
abbrev s_add : Stmt := top 9
theorem sc_add : FnScope ["one", "other"] ["one", "other"] (defScope s_add) := ⟨rfl, rfl, rfl, by decide +kernel, rfl, by decide +kernel, by decide +kernel⟩
structure N_add (P : Program) (w : World) (K : PySem.W.Frag) (mg : Str → Option Value) (base : Heap) : Prop extends Names K mg where
  d_least_terms : Def P w K mg base "least_terms" 2 ["top", "low"] (spP K f_least_terms 2)
theorem fok_add {f : Addr} {fd : FuncData} (F : Fun K "add" "add" s_add f fd) (T : N_add P w K mg base) : FnOk P w K mg base CX0 3 f fd ["one", "other"] (spP K f_add 2) := by
  have sc := sc_add
  refine fnP_ok F sc fun cdv Ar outer s H E hr => ?_
  exact (psm_one (psm_ret (pem_call (call_def T.d_least_terms hr (by decide) (by rfl) (pam_cons (pem_add (pem_mul (pem_ixv (pv 0) pem_int (fun _ _ => rfl)) (pem_ixv (pv 1) pem_int (fun _ _ => rfl))) (pem_mul (pem_ixv (pv 1) pem_int (fun _ _ => rfl)) (pem_ixv (pv 0) pem_int (fun _ _ => rfl)))) (pam_cons (pem_mul (pem_ixv (pv 0) pem_int (fun _ _ => rfl)) (pem_ixv (pv 1) pem_int (fun _ _ => rfl))) pam_nil))) (dlen_cons (dlen_cons dlen_nil)))))
theorem ok_add (A : At K mg "add" s_add) (T : N_add P w K mg base) : Def P w K mg base "add" 3 ["one", "other"] (spP K f_add 2) := by
  obtain ⟨f, fd, F, hm⟩ := A.ex
  exact ⟨f, fd, fok_add F T, F.binds (ps := ["one", "other"]) (fun _ _ _ _ _ _ us hl => match us, hl with | [_, _], _ => rfl), hm, F.kp⟩
abbrev s_less : Stmt := top 10
theorem sc_less : FnScope ["one", "other"] ["one", "other"] (defScope s_less) := ⟨rfl, rfl, rfl, by decide +kernel, rfl, by decide +kernel, by decide +kernel⟩
structure N_less (P : Program) (w : World) (K : PySem.W.Frag) (mg : Str → Option Value) (base : Heap) : Prop extends Names K mg where
  d_least_terms : Def P w K mg base "least_terms" 2 ["top", "low"] (spP K f_least_terms 2)
theorem fok_less {f : Addr} {fd : FuncData} (F : Fun K "less" "less" s_less f fd) (T : N_less P w K mg base) : FnOk P w K mg base CX0 3 f fd ["one", "other"] (spP K f_less 2) := by
  have sc := sc_less
  refine fnP_ok F sc fun cdv Ar outer s H E hr => ?_
  exact (psm_one (psm_ret (pem_call (call_def T.d_least_terms hr (by decide) (by rfl) (pam_cons (pem_sub (pem_mul (pem_ixv (pv 0) pem_int (fun _ _ => rfl)) (pem_ixv (pv 1) pem_int (fun _ _ => rfl))) (pem_mul (pem_ixv (pv 1) pem_int (fun _ _ => rfl)) (pem_ixv (pv 0) pem_int (fun _ _ => rfl)))) (pam_cons (pem_mul (pem_ixv (pv 0) pem_int (fun _ _ => rfl)) (pem_ixv (pv 1) pem_int (fun _ _ => rfl))) pam_nil))) (dlen_cons (dlen_cons dlen_nil)))))
theorem ok_less (A : At K mg "less" s_less) (T : N_less P w K mg base) : Def P w K mg base "less" 3 ["one", "other"] (spP K f_less 2) := by
  obtain ⟨f, fd, F, hm⟩ := A.ex
  exact ⟨f, fd, fok_less F T, F.binds (ps := ["one", "other"]) (fun _ _ _ _ _ _ us hl => match us, hl with | [_, _], _ => rfl), hm, F.kp⟩
abbrev s_times : Stmt := top 11
theorem sc_times : FnScope ["one", "other"] ["one", "other"] (defScope s_times) := ⟨rfl, rfl, rfl, by decide +kernel, rfl, by decide +kernel, by decide +kernel⟩
structure N_times (P : Program) (w : World) (K : PySem.W.Frag) (mg : Str → Option Value) (base : Heap) : Prop extends Names K mg where
  d_least_terms : Def P w K mg base "least_terms" 2 ["top", "low"] (spP K f_least_terms 2)
theorem fok_times {f : Addr} {fd : FuncData} (F : Fun K "times" "times" s_times f fd) (T : N_times P w K mg base) : FnOk P w K mg base CX0 3 f fd ["one", "other"] (spP K f_times 2) := by
  have sc := sc_times
  refine fnP_ok F sc fun cdv Ar outer s H E hr => ?_
  exact (psm_one (psm_ret (pem_call (call_def T.d_least_terms hr (by decide) (by rfl) (pam_cons (pem_mul (pem_ixv (pv 0) pem_int (fun _ _ => rfl)) (pem_ixv (pv 1) pem_int (fun _ _ => rfl))) (pam_cons (pem_mul (pem_ixv (pv 0) pem_int (fun _ _ => rfl)) (pem_ixv (pv 1) pem_int (fun _ _ => rfl))) pam_nil))) (dlen_cons (dlen_cons dlen_nil)))))
theorem ok_times (A : At K mg "times" s_times) (T : N_times P w K mg base) : Def P w K mg base "times" 3 ["one", "other"] (spP K f_times 2) := by
  obtain ⟨f, fd, F, hm⟩ := A.ex
  exact ⟨f, fd, fok_times F T, F.binds (ps := ["one", "other"]) (fun _ _ _ _ _ _ us hl => match us, hl with | [_, _], _ => rfl), hm, F.kp⟩
abbrev s_by : Stmt := top 12
theorem sc_by : FnScope ["one", "other", "sign"] ["one", "other"] (defScope s_by) := ⟨rfl, rfl, rfl, by decide +kernel, rfl, by decide +kernel, by decide +kernel⟩
structure N_by (P : Program) (w : World) (K : PySem.W.Frag) (mg : Str → Option Value) (base : Heap) : Prop extends Names K mg where
  d_least_terms : Def P w K mg base "least_terms" 2 ["top", "low"] (spP K f_least_terms 2)
theorem fok_by {f : Addr} {fd : FuncData} (F : Fun K "by" "by" s_by f fd) (T : N_by P w K mg base) : FnOk P w K mg base CX0 3 f fd ["one", "other"] (spP K f_by 2) := by
  have sc := sc_by
  refine fnP_ok F sc fun cdv Ar outer s H E hr => ?_
  exact (psm_cons (psm_set (ps_set (i := 2) sc.nd rfl (Or.inl rfl) (pei_val (pem_ifx (ptm_cmp op_gt o2_cmp (nomark _) (pem_ixv (pv 1) pem_int (fun _ _ => rfl)) pem_int) pem_int (pem_neg pem_int))))) (psm_one (psm_ret (pem_call (call_def T.d_least_terms hr (by decide) (by rfl) (pam_cons (pem_mul (pem_mul (pem_var (pv 2)) (pem_ixv (pv 0) pem_int (fun _ _ => rfl))) (pem_ixv (pv 1) pem_int (fun _ _ => rfl))) (pam_cons (pem_mul (pem_ixv (pv 0) pem_int (fun _ _ => rfl)) (pem_cb (pe_callB call_abs (by rfl) T.n_abs PyProof.Rows.boot_abs (pam_cons (pem_ixv (pv 1) pem_int (fun _ _ => rfl)) pam_nil)) on_abs)) pam_nil))) (dlen_cons (dlen_cons dlen_nil))))))
theorem ok_by (A : At K mg "by" s_by) (T : N_by P w K mg base) : Def P w K mg base "by" 3 ["one", "other"] (spP K f_by 2) := by
  obtain ⟨f, fd, F, hm⟩ := A.ex
  exact ⟨f, fd, fok_by F T, F.binds (ps := ["one", "other"]) (fun _ _ _ _ _ _ us hl => match us, hl with | [_, _], _ => rfl), hm, F.kp⟩
abbrev s_is_fraction : Stmt := top 13
theorem sc_is_fraction : FnScope ["pair"] ["pair"] (defScope s_is_fraction) := ⟨rfl, rfl, rfl, by decide +kernel, rfl, by decide +kernel, by decide +kernel⟩
structure N_is_fraction (P : Program) (w : World) (K : PySem.W.Frag) (mg : Str → Option Value) (base : Heap) : Prop extends Names K mg where
  d_common : Def P w K mg base "common" 1 ["one", "other"] (spP K f_common 2)
theorem fok_is_fraction {f : Addr} {fd : FuncData} (F : Fun K "is_fraction" "is_fraction" s_is_fraction f fd) (T : N_is_fraction P w K mg base) : FnOk P w K mg base CX0 2 f fd ["pair"] (spP K f_is_fraction 1) := by
  have sc := sc_is_fraction
  refine fnP_ok F sc fun cdv Ar outer s H E hr => ?_
  exact (psm_one (psm_ret (pem_andv (pem_cmp (op_eqD hr.units) o2_eq (nomark _) (pem_lenv (pe_callB call_len_seq (by rfl) T.n_len PySem.boot_len (pa_cons (pv 0) pa_nil))) pem_int) (pem_andv (pem_cmp op_gt o2_cmp (nomark _) (pem_ixv (pv 0) pem_int (fun _ _ => rfl)) pem_int) (pem_one (pem_cmp (op_eqD hr.units) o2_eq (nomark _) (pem_call (call_def T.d_common hr (by decide) (by rfl) (pam_cons (pem_cb (pe_callB call_abs (by rfl) T.n_abs PyProof.Rows.boot_abs (pam_cons (pem_ixv (pv 0) pem_int (fun _ _ => rfl)) pam_nil)) on_abs) (pam_cons (pem_ixv (pv 0) pem_int (fun _ _ => rfl)) pam_nil))) (dlen_cons (dlen_cons dlen_nil))) pem_int))))))
theorem ok_is_fraction (A : At K mg "is_fraction" s_is_fraction) (T : N_is_fraction P w K mg base) : Def P w K mg base "is_fraction" 2 ["pair"] (spP K f_is_fraction 1) := by
  obtain ⟨f, fd, F, hm⟩ := A.ex
  exact ⟨f, fd, fok_is_fraction F T, F.binds (ps := ["pair"]) (fun _ _ _ _ _ _ us hl => match us, hl with | [_], _ => rfl), hm, F.kp⟩
abbrev s_is_poly : Stmt := top 18
theorem sc_is_poly : FnScope ["poly", "part", "top", "low"] ["poly"] (defScope s_is_poly) := ⟨rfl, rfl, rfl, by decide +kernel, rfl, by decide +kernel, by decide +kernel⟩
structure N_is_poly (P : Program) (w : World) (K : PySem.W.Frag) (mg : Str → Option Value) (base : Heap) : Prop extends Names K mg where
  d_is_fraction : Def P w K mg base "is_fraction" 2 ["pair"] (spP K f_is_fraction 1)
theorem fok_is_poly {f : Addr} {fd : FuncData} (F : Fun K "is_poly" "is_poly" s_is_poly f fd) (T : N_is_poly P w K mg base) : FnOk P w K mg base CX0 3 f fd ["poly"] (spP K f_is_poly 1) := by
  have sc := sc_is_poly
  refine fnP_ok F sc fun cdv Ar outer s H E hr => ?_
  exact (psm_cons (psm_if (ptm_w (pwm_or (ptm_cmp op_gt o2_cmp (nomark _) (pem_lenv (pe_callB call_len_seq (by rfl) T.n_len PySem.boot_len (pa_cons (pv 0) pa_nil))) (pem_add (pem_gint T.c_MOST_DEGREE (by rfl)) pem_int)) (pwm_or1 (ptm_not (ptm_val (pem_cb (pe_callB (cr_all rfl) (by rfl) T.n_all PyProof.Rows.boot_all (pam_cons (pem_frz (peo_lc (pe_lc (own := [("part", 1)]) rfl sc.nd (pim_seq (pem_var (pv 0))) (blkOk_by (N := ["poly", "part", "top", "low"]) (sc := defScope s_is_poly) (by decide +kernel)) (fun _ _ _ _ _ => (pgm_name (pg_name (i := 1) sc.nd rfl (by first | exact Or.inl rfl | exact Or.inr rfl)) (by decide))) (fun _ _ _ _ _ => tests_nil) (fun _ _ _ _ _ => (pem_andv (pem_cmp (op_eqD hr.units) o2_eq (nomark _) (pem_lenv (pe_callB call_len_seq (by rfl) T.n_len PySem.boot_len (pa_cons (pv 1) pa_nil))) pem_int) (pem_one (pem_call (call_def T.d_is_fraction hr (by decide) (by rfl) (pam_cons (pem_var (pv 1)) pam_nil)) (dlen_cons dlen_nil)))))))) pam_nil)) on_all) (by intro _; rfl)))))) (psm_one (psm_ret pem_bl)) psm_nil) (psm_cons (psm_if (ptm_not (ptm_val (pem_cb (pe_callB (cr_all rfl) (by rfl) T.n_all PyProof.Rows.boot_all (pam_cons (pem_frz (peo_lc (pe_lc (own := [("top", 2), ("low", 3)]) rfl sc.nd (pim_seq (pem_var (pv 0))) (blkOk_by (N := ["poly", "part", "top", "low"]) (sc := defScope s_is_poly) (by decide +kernel)) (fun _ _ _ _ _ => (pgm_tup (n := 2) rfl (pgms_cons (pgm_name (pg_name (i := 2) sc.nd rfl (by first | exact Or.inl rfl | exact Or.inr rfl)) (by decide)) (pgms_cons (pgm_name (pg_name (i := 3) sc.nd rfl (by first | exact Or.inl rfl | exact Or.inr rfl)) (by decide)) pgms_nil)))) (fun _ _ _ _ _ => tests_nil) (fun _ _ _ _ _ => (pem_cmp op_lt o2_cmp (nomark _) (pem_cb (pe_callB (call_max2 rfl) (by rfl) T.n_max (by decide +kernel) (pam_cons (pem_cb (pe_callB call_abs (by rfl) T.n_abs PyProof.Rows.boot_abs (pam_cons (pem_var (pv 2)) pam_nil)) on_abs) (pam_cons (pem_var (pv 3)) pam_nil))) on_max) (pem_gint T.c_MOST_SIZE (by rfl))))))) pam_nil)) on_all) (by intro _; rfl))) (psm_one (psm_ret pem_bl)) psm_nil) (psm_one (psm_ret (pem_orv (pem_not (pem_var (pv 0))) (pem_one (pem_cmp (op_neD hr.units) o2_ne (nomark _) (pem_ix (pem_ixv (pv 0) (pem_neg pem_int) (fun _ _ => rfl)) pem_int (fun _ _ => rfl)) pem_int)))))))
theorem ok_is_poly (A : At K mg "is_poly" s_is_poly) (T : N_is_poly P w K mg base) : Def P w K mg base "is_poly" 3 ["poly"] (spP K f_is_poly 1) := by
  obtain ⟨f, fd, F, hm⟩ := A.ex
  exact ⟨f, fd, fok_is_poly F T, F.binds (ps := ["poly"]) (fun _ _ _ _ _ _ us hl => match us, hl with | [_], _ => rfl), hm, F.kp⟩
abbrev s_check_poly : Stmt := top 19
theorem sc_check_poly : FnScope ["poly"] ["poly"] (defScope s_check_poly) := ⟨rfl, rfl, rfl, by decide +kernel, rfl, by decide +kernel, by decide +kernel⟩
structure N_check_poly (P : Program) (w : World) (K : PySem.W.Frag) (mg : Str → Option Value) (base : Heap) : Prop extends Names K mg where
  d_is_poly : Def P w K mg base "is_poly" 3 ["poly"] (spP K f_is_poly 1)
theorem fok_check_poly {f : Addr} {fd : FuncData} (F : Fun K "check_poly" "check_poly" s_check_poly f fd) (T : N_check_poly P w K mg base) : FnOk P w K mg base CX0 4 f fd ["poly"] (spP K f_check_poly 1) := by
  have sc := sc_check_poly
  refine fnP_ok F sc fun cdv Ar outer s H E hr => ?_
  exact (psm_one (psm_if (ptm_not (ptm_val (pem_call (call_def T.d_is_poly hr (by decide) (by rfl) (pam_cons (pem_var (pv 0)) pam_nil)) (dlen_cons dlen_nil)) (by intro _; rfl))) (psm_one psm_never) psm_nil))
theorem ok_check_poly (A : At K mg "check_poly" s_check_poly) (T : N_check_poly P w K mg base) : Def P w K mg base "check_poly" 4 ["poly"] (spP K f_check_poly 1) := by
  obtain ⟨f, fd, F, hm⟩ := A.ex
  exact ⟨f, fd, fok_check_poly F T, F.binds (ps := ["poly"]) (fun _ _ _ _ _ _ us hl => match us, hl with | [_], _ => rfl), hm, F.kp⟩
abbrev s_trimmed : Stmt := top 20
theorem sc_trimmed : FnScope ["parts", "end", "part"] ["parts"] (defScope s_trimmed) := ⟨rfl, rfl, rfl, by decide +kernel, rfl, by decide +kernel, by decide +kernel⟩
structure N_trimmed (P : Program) (w : World) (K : PySem.W.Frag) (mg : Str → Option Value) (base : Heap) : Prop extends Names K mg where
theorem fok_trimmed {f : Addr} {fd : FuncData} (F : Fun K "trimmed" "trimmed" s_trimmed f fd) (T : N_trimmed P w K mg base) : FnOk P w K mg base CX0 1 f fd ["parts"] (spP K f_trimmed 1) := by
  have sc := sc_trimmed
  refine fnP_ok F sc fun cdv Ar outer s H E hr => ?_
  exact (psm_cons (psm_set (ps_set (i := 1) sc.nd rfl (Or.inl rfl) (pei_val (pem_lenv (pe_callB call_len_seq (by rfl) T.n_len PySem.boot_len (pa_cons (pv 0) pa_nil)))))) (psm_cons (psm_while PassesOwn.never (ptm_w (pwm_and (ptm_name (pv 1)) (pwm_and1 (ptm_cmp (op_eqD hr.units) o2_eq (nomark _) (pem_ix (pem_ixv (pv 0) (pem_sub (pem_var (pv 1)) pem_int) (fun _ _ => rfl)) pem_int (fun _ _ => rfl)) pem_int)))) (psm_one (psm_aug (ps_aug (i := 1) sc.nd rfl (Or.inl rfl) pem_int iop_sub) o2_sub))) (psm_one (psm_ret (pem_cb (pe_callTy call_tuple_of (by rfl) T.n_tuple PyProof.Rows.boot_tuple (pam_cons (pem_frz (peo_lc (pe_lc (own := [("part", 2)]) rfl sc.nd (pim_seq (pem_slv (pv 0) pom_none (pom_some (pem_var (pv 1))))) (blkOk_by (N := ["parts", "end", "part"]) (sc := defScope s_trimmed) (by decide +kernel)) (fun _ _ _ _ _ => (pgm_name (pg_name (i := 2) sc.nd rfl (by first | exact Or.inl rfl | exact Or.inr rfl)) (by decide))) (fun _ _ _ _ _ => tests_nil) (fun _ _ _ _ _ => (pem_tupv (pe_callTy call_tuple_of (by rfl) T.n_tuple PyProof.Rows.boot_tuple (pa_cons (pv 2) pa_nil))))))) pam_nil)) on_tup)))))
theorem ok_trimmed (A : At K mg "trimmed" s_trimmed) (T : N_trimmed P w K mg base) : Def P w K mg base "trimmed" 1 ["parts"] (spP K f_trimmed 1) := by
  obtain ⟨f, fd, F, hm⟩ := A.ex
  exact ⟨f, fd, fok_trimmed F T, F.binds (ps := ["parts"]) (fun _ _ _ _ _ _ us hl => match us, hl with | [_], _ => rfl), hm, F.kp⟩
abbrev s_degree : Stmt := top 21
theorem sc_degree : FnScope ["poly"] ["poly"] (defScope s_degree) := ⟨rfl, rfl, rfl, by decide +kernel, rfl, by decide +kernel, by decide +kernel⟩
structure N_degree (P : Program) (w : World) (K : PySem.W.Frag) (mg : Str → Option Value) (base : Heap) : Prop extends Names K mg where
theorem fok_degree {f : Addr} {fd : FuncData} (F : Fun K "degree" "degree" s_degree f fd) (T : N_degree P w K mg base) : FnOk P w K mg base CX0 1 f fd ["poly"] (spP K f_degree 1) := by
  have sc := sc_degree
  refine fnP_ok F sc fun cdv Ar outer s H E hr => ?_
  exact (psm_one (psm_ret (pem_sub (pem_lenv (pe_callB call_len_seq (by rfl) T.n_len PySem.boot_len (pa_cons (pv 0) pa_nil))) pem_int)))
theorem ok_degree (A : At K mg "degree" s_degree) (T : N_degree P w K mg base) : Def P w K mg base "degree" 1 ["poly"] (spP K f_degree 1) := by
  obtain ⟨f, fd, F, hm⟩ := A.ex
  exact ⟨f, fd, fok_degree F T, F.binds (ps := ["poly"]) (fun _ _ _ _ _ _ us hl => match us, hl with | [_], _ => rfl), hm, F.kp⟩
abbrev s_plus : Stmt := top 22
theorem sc_plus : FnScope ["one", "other", "size", "rows", "row", "a", "b"] ["one", "other"] (defScope s_plus) := ⟨rfl, rfl, rfl, by decide +kernel, rfl, by decide +kernel, by decide +kernel⟩
structure N_plus (P : Program) (w : World) (K : PySem.W.Frag) (mg : Str → Option Value) (base : Heap) : Prop extends Names K mg where
  d_add : Def P w K mg base "add" 3 ["one", "other"] (spP K f_add 2)
  d_trimmed : Def P w K mg base "trimmed" 1 ["parts"] (spP K f_trimmed 1)
theorem fok_plus {f : Addr} {fd : FuncData} (F : Fun K "plus" "plus" s_plus f fd) (T : N_plus P w K mg base) : FnOk P w K mg base CX0 4 f fd ["one", "other"] (spP K f_plus 2) := by
  have sc := sc_plus
  refine fnP_ok F sc fun cdv Ar outer s H E hr => ?_
  exact (psm_cons (psm_set (ps_set (i := 2) sc.nd rfl (Or.inr rfl) (pei_val (pem_cb (pe_callB (call_max2 rfl) (by rfl) T.n_max (by decide +kernel) (pam_cons (pem_lenv (pe_callB call_len_seq (by rfl) T.n_len PySem.boot_len (pa_cons (pv 0) pa_nil))) (pam_cons (pem_lenv (pe_callB call_len_seq (by rfl) T.n_len PySem.boot_len (pa_cons (pv 1) pa_nil))) pam_nil))) on_max)))) (psm_cons (psm_set (asg_imp (asg_imp (asg_imp (ps_setLc (i := 3) (own := [("row", 4)]) rfl sc.nd rfl rfl (sw_true rfl rfl rfl (by decide +kernel)) (pim_seq (pem_tup (pam_cons (pem_var (pv 0)) (pam_cons (pem_var (pv 1)) pam_nil)))) (blkOk_by (N := ["one", "other", "size", "rows", "row", "a", "b"]) (sc := defScope s_plus) (by decide +kernel)) (fun _ _ _ _ _ => (pgm_name (pg_name (i := 4) sc.nd rfl (by first | exact Or.inl rfl | exact Or.inr rfl)) (by decide))) (fun _ _ _ _ _ => tests_nil) (fun _ _ _ _ _ => (pem_frz (peo_lst (pam_star (pem_var (pv 4)) (pam_star (pem_frz (peo_rep (peo_lst (pam_cons (pem_gtup T.c_NOUGHT (by rfl)) pam_nil)) (pem_sub (pem_var (pv 2)) (pem_lenv (pe_callB call_len_seq (by rfl) T.n_len PySem.boot_len (pa_cons (pv 4) pa_nil)))))) pam_nil)))))) lc_imp) frz_imp) val_imp)) (psm_one (psm_ret (pem_call (call_def T.d_trimmed hr (by decide) (by rfl) (pam_cons (pem_frz (peo_lc (pe_lc (own := [("a", 5), ("b", 6)]) rfl sc.nd (pim_zip (RZ.pi_zipA rfl T.n_zip (pam_cons (pem_ixv (pv 3) pem_int (fun _ _ => rfl)) (pam_cons (pem_ixv (pv 3) pem_int (fun _ _ => rfl)) pam_nil)))) (blkOk_by (N := ["one", "other", "size", "rows", "row", "a", "b"]) (sc := defScope s_plus) (by decide +kernel)) (fun _ _ _ _ _ => (pgm_tup (n := 2) rfl (pgms_cons (pgm_name (pg_name (i := 5) sc.nd rfl (by first | exact Or.inl rfl | exact Or.inr rfl)) (by decide)) (pgms_cons (pgm_name (pg_name (i := 6) sc.nd rfl (by first | exact Or.inl rfl | exact Or.inr rfl)) (by decide)) pgms_nil)))) (fun _ _ _ _ _ => tests_nil) (fun _ _ _ _ _ => (pem_call (call_def T.d_add hr (by decide) (by rfl) (pam_cons (pem_var (pv 5)) (pam_cons (pem_var (pv 6)) pam_nil))) (dlen_cons (dlen_cons dlen_nil))))))) pam_nil)) (dlen_cons dlen_nil))))))
theorem ok_plus (A : At K mg "plus" s_plus) (T : N_plus P w K mg base) : Def P w K mg base "plus" 4 ["one", "other"] (spP K f_plus 2) := by
  obtain ⟨f, fd, F, hm⟩ := A.ex
  exact ⟨f, fd, fok_plus F T, F.binds (ps := ["one", "other"]) (fun _ _ _ _ _ _ us hl => match us, hl with | [_, _], _ => rfl), hm, F.kp⟩
abbrev s_product : Stmt := top 23
theorem sc_product : FnScope ["one", "other", "found", "at", "a", "spot", "b"] ["one", "other"] (defScope s_product) := ⟨rfl, rfl, rfl, by decide +kernel, rfl, by decide +kernel, by decide +kernel⟩
structure N_product (P : Program) (w : World) (K : PySem.W.Frag) (mg : Str → Option Value) (base : Heap) : Prop extends Names K mg where
  d_add : Def P w K mg base "add" 3 ["one", "other"] (spP K f_add 2)
  d_times : Def P w K mg base "times" 3 ["one", "other"] (spP K f_times 2)
  d_trimmed : Def P w K mg base "trimmed" 1 ["parts"] (spP K f_trimmed 1)
theorem fok_product {f : Addr} {fd : FuncData} (F : Fun K "product" "product" s_product f fd) (T : N_product P w K mg base) : FnOk P w K mg base CX0 4 f fd ["one", "other"] (spP K f_product 2) := by
  have sc := sc_product
  refine fnP_ok F sc fun cdv Ar outer s H E hr => ?_
  exact (psm_cons (psm_if (ptm_w (pwm_or (ptm_not (ptm_name (pv 0))) (pwm_or1 (ptm_not (ptm_name (pv 1)))))) (psm_one (psm_ret (pem_tup pam_nil))) psm_nil) (psm_cons (psm_set (ps_set (i := 2) sc.nd rfl (Or.inl rfl) (pei_own (peo_rep (peo_lst (pam_cons (pem_gtup T.c_NOUGHT (by rfl)) pam_nil)) (pem_sub (pem_add (pem_lenv (pe_callB call_len_seq (by rfl) T.n_len PySem.boot_len (pa_cons (pv 0) pa_nil))) (pem_lenv (pe_callB call_len_seq (by rfl) T.n_len PySem.boot_len (pa_cons (pv 1) pa_nil)))) pem_int))))) (psm_cons (psm_for (ws := [3, 4]) PassesOwn.never rfl (pim_enum (pi_enum2 rfl T.n_enumerate (pam_cons (pem_var (pv 0)) pam_nil))) (pgm_tup (n := 2) rfl (pgms_cons (pgm_name (pg_name (i := 3) sc.nd rfl (by first | exact Or.inl rfl | exact Or.inr rfl)) (by decide)) (pgms_cons (pgm_name (pg_name (i := 4) sc.nd rfl (by first | exact Or.inl rfl | exact Or.inr rfl)) (by decide)) pgms_nil))) (psm_one (psm_if (ptm_val (pem_ixv (pv 4) pem_int (fun _ _ => rfl)) (by intro _; rfl)) (psm_one (psm_for (ws := [5, 6]) PassesOwn.never rfl (pim_enum (pi_enum2 rfl T.n_enumerate (pam_cons (pem_var (pv 1)) pam_nil))) (pgm_tup (n := 2) rfl (pgms_cons (pgm_name (pg_name (i := 5) sc.nd rfl (by first | exact Or.inl rfl | exact Or.inr rfl)) (by decide)) (pgms_cons (pgm_name (pg_name (i := 6) sc.nd rfl (by first | exact Or.inl rfl | exact Or.inr rfl)) (by decide)) pgms_nil))) (psm_one (psm_setix (ps_asg (pem_call (call_def T.d_add hr (by decide) (by rfl) (pam_cons (pem_ixv (pv 2) (pem_add (pem_var (pv 3)) (pem_var (pv 5))) (fun _ _ => rfl)) (pam_cons (pem_call (call_def T.d_times hr (by decide) (by rfl) (pam_cons (pem_var (pv 4)) (pam_cons (pem_var (pv 6)) pam_nil))) (dlen_cons (dlen_cons dlen_nil))) pam_nil))) (dlen_cons (dlen_cons dlen_nil))) (pg_sub (pv 2) (pem_add (pem_var (pv 3)) (pem_var (pv 5))) set_list)))))) psm_nil))) (psm_one (psm_ret (pem_call (call_def T.d_trimmed hr (by decide) (by rfl) (pam_cons (pem_var (pv 2)) pam_nil)) (dlen_cons dlen_nil)))))))
theorem ok_product (A : At K mg "product" s_product) (T : N_product P w K mg base) : Def P w K mg base "product" 4 ["one", "other"] (spP K f_product 2) := by
  obtain ⟨f, fd, F, hm⟩ := A.ex
  exact ⟨f, fd, fok_product F T, F.binds (ps := ["one", "other"]) (fun _ _ _ _ _ _ us hl => match us, hl with | [_, _], _ => rfl), hm, F.kp⟩
abbrev s_divided : Stmt := top 24
theorem sc_divided : FnScope ["one", "other", "rest", "quotient", "part", "shift", "at", "b"] ["one", "other"] (defScope s_divided) := ⟨rfl, rfl, rfl, by decide +kernel, rfl, by decide +kernel, by decide +kernel⟩
structure N_divided (P : Program) (w : World) (K : PySem.W.Frag) (mg : Str → Option Value) (base : Heap) : Prop extends Names K mg where
  d_by : Def P w K mg base "by" 3 ["one", "other"] (spP K f_by 2)
  d_less : Def P w K mg base "less" 3 ["one", "other"] (spP K f_less 2)
  d_times : Def P w K mg base "times" 3 ["one", "other"] (spP K f_times 2)
  d_trimmed : Def P w K mg base "trimmed" 1 ["parts"] (spP K f_trimmed 1)
theorem fok_divided {f : Addr} {fd : FuncData} (F : Fun K "divided" "divided" s_divided f fd) (T : N_divided P w K mg base) : FnOk P w K mg base CX0 4 f fd ["one", "other"] (spP K f_divided 2) := by
  have sc := sc_divided
  refine fnP_ok F sc fun cdv Ar outer s H E hr => ?_
  exact (psm_cons (psm_par (ps_par (i := 2) (j := 3) rfl sc.nd rfl rfl (by decide) rfl rfl (pa_cons (pei_own (peo_listv (pe_callTy call_list_of (by rfl) T.n_list PyProof.Rows.boot_list (pa_cons (pv 0) pa_nil)))) (pa_cons (pei_own (peo_rep (peo_lst (pam_cons (pem_gtup T.c_NOUGHT (by rfl)) pam_nil)) (pem_cb (pe_callB (call_max2 rfl) (by rfl) T.n_max (by decide +kernel) (pam_cons pem_int (pam_cons (pem_add (pem_sub (pem_lenv (pe_callB call_len_seq (by rfl) T.n_len PySem.boot_len (pa_cons (pv 0) pa_nil))) (pem_lenv (pe_callB call_len_seq (by rfl) T.n_len PySem.boot_len (pa_cons (pv 1) pa_nil)))) pem_int) pam_nil))) on_max))) pa_nil)) (by rfl))) (psm_cons (psm_while PassesOwn.never (ptm_cmp op_ge o2_cmp (nomark _) (pem_lenv (pe_callB call_len_seq (by rfl) T.n_len PySem.boot_len (pa_cons (pv 2) pa_nil))) (pem_lenv (pe_callB call_len_seq (by rfl) T.n_len PySem.boot_len (pa_cons (pv 1) pa_nil)))) (psm_cons (psm_set (ps_set (i := 4) sc.nd rfl (Or.inl rfl) (pei_val (pem_call (call_def T.d_by hr (by decide) (by rfl) (pam_cons (pem_ixv (pv 2) (pem_neg pem_int) (fun _ _ => rfl)) (pam_cons (pem_ixv (pv 1) (pem_neg pem_int) (fun _ _ => rfl)) pam_nil))) (dlen_cons (dlen_cons dlen_nil)))))) (psm_cons (psm_set (ps_set (i := 5) sc.nd rfl (Or.inl rfl) (pei_val (pem_sub (pem_lenv (pe_callB call_len_seq (by rfl) T.n_len PySem.boot_len (pa_cons (pv 2) pa_nil))) (pem_lenv (pe_callB call_len_seq (by rfl) T.n_len PySem.boot_len (pa_cons (pv 1) pa_nil))))))) (psm_cons (psm_setix (ps_asg (pem_var (pv 4)) (pg_sub (pv 3) (pem_var (pv 5)) set_list))) (psm_cons (psm_for (ws := [6, 7]) PassesOwn.never rfl (pim_enum (pi_enum2 rfl T.n_enumerate (pam_cons (pem_var (pv 1)) pam_nil))) (pgm_tup (n := 2) rfl (pgms_cons (pgm_name (pg_name (i := 6) sc.nd rfl (by first | exact Or.inl rfl | exact Or.inr rfl)) (by decide)) (pgms_cons (pgm_name (pg_name (i := 7) sc.nd rfl (by first | exact Or.inl rfl | exact Or.inr rfl)) (by decide)) pgms_nil))) (psm_one (psm_setix (ps_asg (pem_call (call_def T.d_less hr (by decide) (by rfl) (pam_cons (pem_ixv (pv 2) (pem_add (pem_var (pv 5)) (pem_var (pv 6))) (fun _ _ => rfl)) (pam_cons (pem_call (call_def T.d_times hr (by decide) (by rfl) (pam_cons (pem_var (pv 4)) (pam_cons (pem_var (pv 7)) pam_nil))) (dlen_cons (dlen_cons dlen_nil))) pam_nil))) (dlen_cons (dlen_cons dlen_nil))) (pg_sub (pv 2) (pem_add (pem_var (pv 5)) (pem_var (pv 6))) set_list))))) (psm_cons (psm_do (pem_pop (pe_bm0 PySem.F.plainAttrs_list PySem.F.slot_list_pop PySem.F.type_list_pop mt_pop (pv 2)))) (psm_one (psm_set (ps_set (i := 2) sc.nd rfl (Or.inl rfl) (pei_own (peo_cb (pe_callTy call_list_of (by rfl) T.n_list PyProof.Rows.boot_list (pam_cons (pem_call (call_def T.d_trimmed hr (by decide) (by rfl) (pam_cons (pem_var (pv 2)) pam_nil)) (dlen_cons dlen_nil)) pam_nil)) oo_list))))))))))) (psm_one (psm_ret (pem_tup (pam_cons (pem_call (call_def T.d_trimmed hr (by decide) (by rfl) (pam_cons (pem_var (pv 3)) pam_nil)) (dlen_cons dlen_nil)) (pam_cons (pem_call (call_def T.d_trimmed hr (by decide) (by rfl) (pam_cons (pem_var (pv 2)) pam_nil)) (dlen_cons dlen_nil)) pam_nil)))))))
theorem ok_divided (A : At K mg "divided" s_divided) (T : N_divided P w K mg base) : Def P w K mg base "divided" 4 ["one", "other"] (spP K f_divided 2) := by
  obtain ⟨f, fd, F, hm⟩ := A.ex
  exact ⟨f, fd, fok_divided F T, F.binds (ps := ["one", "other"]) (fun _ _ _ _ _ _ us hl => match us, hl with | [_, _], _ => rfl), hm, F.kp⟩
abbrev s_monic : Stmt := top 25
theorem sc_monic : FnScope ["poly", "part"] ["poly"] (defScope s_monic) := ⟨rfl, rfl, rfl, by decide +kernel, rfl, by decide +kernel, by decide +kernel⟩
structure N_monic (P : Program) (w : World) (K : PySem.W.Frag) (mg : Str → Option Value) (base : Heap) : Prop extends Names K mg where
  d_by : Def P w K mg base "by" 3 ["one", "other"] (spP K f_by 2)
theorem fok_monic {f : Addr} {fd : FuncData} (F : Fun K "monic" "monic" s_monic f fd) (T : N_monic P w K mg base) : FnOk P w K mg base CX0 4 f fd ["poly"] (spP K f_monic 1) := by
  have sc := sc_monic
  refine fnP_ok F sc fun cdv Ar outer s H E hr => ?_
  exact (psm_one (psm_ret (pem_cb (pe_callTy call_tuple_of (by rfl) T.n_tuple PyProof.Rows.boot_tuple (pam_cons (pem_frz (peo_lc (pe_lc (own := [("part", 1)]) rfl sc.nd (pim_seq (pem_var (pv 0))) (blkOk_by (N := ["poly", "part"]) (sc := defScope s_monic) (by decide +kernel)) (fun _ _ _ _ _ => (pgm_name (pg_name (i := 1) sc.nd rfl (by first | exact Or.inl rfl | exact Or.inr rfl)) (by decide))) (fun _ _ _ _ _ => tests_nil) (fun _ _ _ _ _ => (pem_call (call_def T.d_by hr (by decide) (by rfl) (pam_cons (pem_var (pv 1)) (pam_cons (pem_ixv (pv 0) (pem_neg pem_int) (fun _ _ => rfl)) pam_nil))) (dlen_cons (dlen_cons dlen_nil))))))) pam_nil)) on_tup)))
theorem ok_monic (A : At K mg "monic" s_monic) (T : N_monic P w K mg base) : Def P w K mg base "monic" 4 ["poly"] (spP K f_monic 1) := by
  obtain ⟨f, fd, F, hm⟩ := A.ex
  exact ⟨f, fd, fok_monic F T, F.binds (ps := ["poly"]) (fun _ _ _ _ _ _ us hl => match us, hl with | [_], _ => rfl), hm, F.kp⟩
abbrev s_common_of : Stmt := top 26
theorem sc_common_of : FnScope ["one", "other"] ["one", "other"] (defScope s_common_of) := ⟨rfl, rfl, rfl, by decide +kernel, rfl, by decide +kernel, by decide +kernel⟩
structure N_common_of (P : Program) (w : World) (K : PySem.W.Frag) (mg : Str → Option Value) (base : Heap) : Prop extends Names K mg where
  d_divided : Def P w K mg base "divided" 4 ["one", "other"] (spP K f_divided 2)
  d_monic : Def P w K mg base "monic" 4 ["poly"] (spP K f_monic 1)
theorem fok_common_of {f : Addr} {fd : FuncData} (F : Fun K "common_of" "common_of" s_common_of f fd) (T : N_common_of P w K mg base) : FnOk P w K mg base CX0 5 f fd ["one", "other"] (spP K f_common_of 2) := by
  have sc := sc_common_of
  refine fnP_ok F sc fun cdv Ar outer s H E hr => ?_
  exact (psm_cons (psm_while PassesOwn.never (ptm_name (pv 1)) (psm_cons (psm_par (ps_par (i := 0) (j := 1) rfl sc.nd rfl rfl (by decide) rfl rfl (pa_cons (pei_val (pem_var (pv 1))) (pa_cons (pei_val (pem_ix (pem_call (call_def T.d_divided hr (by decide) (by rfl) (pam_cons (pem_var (pv 0)) (pam_cons (pem_var (pv 1)) pam_nil))) (dlen_cons (dlen_cons dlen_nil))) pem_int (fun _ _ => rfl))) pa_nil)) (by rfl))) (psm_one (psm_set (ps_set (i := 1) sc.nd rfl (Or.inl rfl) (pei_val (pem_ifx (ptm_name (pv 1)) (pem_call (call_def T.d_monic hr (by decide) (by rfl) (pam_cons (pem_var (pv 1)) pam_nil)) (dlen_cons dlen_nil)) (pem_var (pv 1))))))))) (psm_one (psm_ret (pem_ifx (ptm_name (pv 0)) (pem_call (call_def T.d_monic hr (by decide) (by rfl) (pam_cons (pem_var (pv 0)) pam_nil)) (dlen_cons dlen_nil)) (pem_tup pam_nil)))))
theorem ok_common_of (A : At K mg "common_of" s_common_of) (T : N_common_of P w K mg base) : Def P w K mg base "common_of" 5 ["one", "other"] (spP K f_common_of 2) := by
  obtain ⟨f, fd, F, hm⟩ := A.ex
  exact ⟨f, fd, fok_common_of F T, F.binds (ps := ["one", "other"]) (fun _ _ _ _ _ _ us hl => match us, hl with | [_, _], _ => rfl), hm, F.kp⟩
abbrev s_slope : Stmt := top 27
theorem sc_slope : FnScope ["poly", "at", "part"] ["poly"] (defScope s_slope) := ⟨rfl, rfl, rfl, by decide +kernel, rfl, by decide +kernel, by decide +kernel⟩
structure N_slope (P : Program) (w : World) (K : PySem.W.Frag) (mg : Str → Option Value) (base : Heap) : Prop extends Names K mg where
  d_times : Def P w K mg base "times" 3 ["one", "other"] (spP K f_times 2)
  d_trimmed : Def P w K mg base "trimmed" 1 ["parts"] (spP K f_trimmed 1)
theorem fok_slope {f : Addr} {fd : FuncData} (F : Fun K "slope" "slope" s_slope f fd) (T : N_slope P w K mg base) : FnOk P w K mg base CX0 4 f fd ["poly"] (spP K f_slope 1) := by
  have sc := sc_slope
  refine fnP_ok F sc fun cdv Ar outer s H E hr => ?_
  exact (psm_one (psm_ret (pem_call (call_def T.d_trimmed hr (by decide) (by rfl) (pam_cons (pem_frz (peo_lc (pe_lc (own := [("at", 1), ("part", 2)]) rfl sc.nd (pim_enum (pi_enum2 rfl T.n_enumerate (pam_cons (pem_var (pv 0)) pam_nil))) (blkOk_by (N := ["poly", "at", "part"]) (sc := defScope s_slope) (by decide +kernel)) (fun _ _ _ _ _ => (pgm_tup (n := 2) rfl (pgms_cons (pgm_name (pg_name (i := 1) sc.nd rfl (by first | exact Or.inl rfl | exact Or.inr rfl)) (by decide)) (pgms_cons (pgm_name (pg_name (i := 2) sc.nd rfl (by first | exact Or.inl rfl | exact Or.inr rfl)) (by decide)) pgms_nil)))) (fun _ _ _ _ _ => (tests_one (ptm_name (pv 1)))) (fun _ _ _ _ _ => (pem_call (call_def T.d_times hr (by decide) (by rfl) (pam_cons (pem_var (pv 2)) (pam_cons (pem_tup (pam_cons (pem_var (pv 1)) (pam_cons pem_int pam_nil))) pam_nil))) (dlen_cons (dlen_cons dlen_nil))))))) pam_nil)) (dlen_cons dlen_nil))))
theorem ok_slope (A : At K mg "slope" s_slope) (T : N_slope P w K mg base) : Def P w K mg base "slope" 4 ["poly"] (spP K f_slope 1) := by
  obtain ⟨f, fd, F, hm⟩ := A.ex
  exact ⟨f, fd, fok_slope F T, F.binds (ps := ["poly"]) (fun _ _ _ _ _ _ us hl => match us, hl with | [_], _ => rfl), hm, F.kp⟩
abbrev s_squarefree_of : Stmt := top 28
theorem sc_squarefree_of : FnScope ["poly"] ["poly"] (defScope s_squarefree_of) := ⟨rfl, rfl, rfl, by decide +kernel, rfl, by decide +kernel, by decide +kernel⟩
structure N_squarefree_of (P : Program) (w : World) (K : PySem.W.Frag) (mg : Str → Option Value) (base : Heap) : Prop extends Names K mg where
  d_common_of : Def P w K mg base "common_of" 5 ["one", "other"] (spP K f_common_of 2)
  d_divided : Def P w K mg base "divided" 4 ["one", "other"] (spP K f_divided 2)
  d_monic : Def P w K mg base "monic" 4 ["poly"] (spP K f_monic 1)
  d_slope : Def P w K mg base "slope" 4 ["poly"] (spP K f_slope 1)
theorem fok_squarefree_of {f : Addr} {fd : FuncData} (F : Fun K "squarefree_of" "squarefree_of" s_squarefree_of f fd) (T : N_squarefree_of P w K mg base) : FnOk P w K mg base CX0 6 f fd ["poly"] (spP K f_squarefree_of 1) := by
  have sc := sc_squarefree_of
  refine fnP_ok F sc fun cdv Ar outer s H E hr => ?_
  exact (psm_one (psm_ret (pem_call (call_def T.d_monic hr (by decide) (by rfl) (pam_cons (pem_ix (pem_call (call_def T.d_divided hr (by decide) (by rfl) (pam_cons (pem_var (pv 0)) (pam_cons (pem_call (call_def T.d_common_of hr (by decide) (by rfl) (pam_cons (pem_var (pv 0)) (pam_cons (pem_call (call_def T.d_slope hr (by decide) (by rfl) (pam_cons (pem_var (pv 0)) pam_nil)) (dlen_cons dlen_nil)) pam_nil))) (dlen_cons (dlen_cons dlen_nil))) pam_nil))) (dlen_cons (dlen_cons dlen_nil))) pem_int (fun _ _ => rfl)) pam_nil)) (dlen_cons dlen_nil))))
theorem ok_squarefree_of (A : At K mg "squarefree_of" s_squarefree_of) (T : N_squarefree_of P w K mg base) : Def P w K mg base "squarefree_of" 6 ["poly"] (spP K f_squarefree_of 1) := by
  obtain ⟨f, fd, F, hm⟩ := A.ex
  exact ⟨f, fd, fok_squarefree_of F T, F.binds (ps := ["poly"]) (fun _ _ _ _ _ _ us hl => match us, hl with | [_], _ => rfl), hm, F.kp⟩
abbrev s_value_at : Stmt := top 29
theorem sc_value_at : FnScope ["poly", "x", "found", "part"] ["poly", "x"] (defScope s_value_at) := ⟨rfl, rfl, rfl, by decide +kernel, rfl, by decide +kernel, by decide +kernel⟩
structure N_value_at (P : Program) (w : World) (K : PySem.W.Frag) (mg : Str → Option Value) (base : Heap) : Prop extends Names K mg where
  d_add : Def P w K mg base "add" 3 ["one", "other"] (spP K f_add 2)
  d_times : Def P w K mg base "times" 3 ["one", "other"] (spP K f_times 2)
theorem fok_value_at {f : Addr} {fd : FuncData} (F : Fun K "value_at" "value_at" s_value_at f fd) (T : N_value_at P w K mg base) : FnOk P w K mg base CX0 4 f fd ["poly", "x"] (spP K f_value_at 2) := by
  have sc := sc_value_at
  refine fnP_ok F sc fun cdv Ar outer s H E hr => ?_
  exact (psm_cons (psm_set (ps_set (i := 2) sc.nd rfl (Or.inl rfl) (pei_val (pem_gtup T.c_NOUGHT (by rfl))))) (psm_cons (psm_for (ws := [3]) PassesOwn.never rfl (pim_seq (pem_revt (pem_var (pv 0)))) (pgm_name (pg_name (i := 3) sc.nd rfl (by first | exact Or.inl rfl | exact Or.inr rfl)) (by decide)) (psm_one (psm_set (ps_set (i := 2) sc.nd rfl (Or.inl rfl) (pei_val (pem_call (call_def T.d_add hr (by decide) (by rfl) (pam_cons (pem_call (call_def T.d_times hr (by decide) (by rfl) (pam_cons (pem_var (pv 2)) (pam_cons (pem_var (pv 1)) pam_nil))) (dlen_cons (dlen_cons dlen_nil))) (pam_cons (pem_var (pv 3)) pam_nil))) (dlen_cons (dlen_cons dlen_nil)))))))) (psm_one (psm_ret (pem_var (pv 2))))))
theorem ok_value_at (A : At K mg "value_at" s_value_at) (T : N_value_at P w K mg base) : Def P w K mg base "value_at" 4 ["poly", "x"] (spP K f_value_at 2) := by
  obtain ⟨f, fd, F, hm⟩ := A.ex
  exact ⟨f, fd, fok_value_at F T, F.binds (ps := ["poly", "x"]) (fun _ _ _ _ _ _ us hl => match us, hl with | [_, _], _ => rfl), hm, F.kp⟩
abbrev s_whole_of : Stmt := top 30
theorem sc_whole_of : FnScope ["poly", "low", "_", "part", "ints", "number", "sign", "top"] ["poly"] (defScope s_whole_of) := ⟨rfl, rfl, rfl, by decide +kernel, rfl, by decide +kernel, by decide +kernel⟩
structure N_whole_of (P : Program) (w : World) (K : PySem.W.Frag) (mg : Str → Option Value) (base : Heap) : Prop extends Names K mg where
  d_common : Def P w K mg base "common" 1 ["one", "other"] (spP K f_common 2)
theorem fok_whole_of {f : Addr} {fd : FuncData} (F : Fun K "whole_of" "whole_of" s_whole_of f fd) (T : N_whole_of P w K mg base) : FnOk P w K mg base CX0 2 f fd ["poly"] (spP K f_whole_of 1) := by
  have sc := sc_whole_of
  refine fnP_ok F sc fun cdv Ar outer s H E hr => ?_
  exact (psm_cons (psm_set (ps_set (i := 1) sc.nd rfl (Or.inr rfl) (pei_val pem_int))) (psm_cons (psm_for (ws := [2, 3]) PassesOwn.never rfl (pim_seq (pem_var (pv 0))) (pgm_tup (n := 2) rfl (pgms_cons (pgm_name (pg_name (i := 2) sc.nd rfl (by first | exact Or.inl rfl | exact Or.inr rfl)) (by decide)) (pgms_cons (pgm_name (pg_name (i := 3) sc.nd rfl (by first | exact Or.inl rfl | exact Or.inr rfl)) (by decide)) pgms_nil))) (psm_one (psm_set (ps_set (i := 1) sc.nd rfl (Or.inr rfl) (pei_val (pem_fdiv (pem_mul (pem_var (pv 1)) (pem_var (pv 3))) (pem_call (call_def T.d_common hr (by decide) (by rfl) (pam_cons (pem_var (pv 1)) (pam_cons (pem_var (pv 3)) pam_nil))) (dlen_cons (dlen_cons dlen_nil))))))))) (psm_cons (psm_set (asg_imp (asg_imp (asg_imp (ps_setLc (i := 4) (own := [("top", 7), ("part", 3)]) rfl sc.nd rfl rfl (sw_true rfl rfl rfl (by decide +kernel)) (pim_seq (pem_var (pv 0))) (blkOk_by (N := ["poly", "low", "_", "part", "ints", "number", "sign", "top"]) (sc := defScope s_whole_of) (by decide +kernel)) (fun _ _ _ _ _ => (pgm_tup (n := 2) rfl (pgms_cons (pgm_name (pg_name (i := 7) sc.nd rfl (by first | exact Or.inl rfl | exact Or.inr rfl)) (by decide)) (pgms_cons (pgm_name (pg_name (i := 3) sc.nd rfl (by first | exact Or.inl rfl | exact Or.inr rfl)) (by decide)) pgms_nil)))) (fun _ _ _ _ _ => tests_nil) (fun _ _ _ _ _ => (pem_mul (pem_var (pv 7)) (pem_fdiv (pem_var (pv 1)) (pem_var (pv 3)))))) lc_imp) frz_imp) val_imp)) (psm_cons (psm_set (ps_set (i := 3) sc.nd rfl (Or.inr rfl) (pei_val pem_int))) (psm_cons (psm_for (ws := [5]) PassesOwn.never rfl (pim_seq (pem_var (pv 4))) (pgm_name (pg_name (i := 5) sc.nd rfl (by first | exact Or.inl rfl | exact Or.inr rfl)) (by decide)) (psm_one (psm_set (ps_set (i := 3) sc.nd rfl (Or.inr rfl) (pei_val (pem_ifx (ptm_name (pv 3)) (pem_call (call_def T.d_common hr (by decide) (by rfl) (pam_cons (pem_cb (pe_callB call_abs (by rfl) T.n_abs PyProof.Rows.boot_abs (pam_cons (pem_var (pv 5)) pam_nil)) on_abs) (pam_cons (pem_var (pv 3)) pam_nil))) (dlen_cons (dlen_cons dlen_nil))) (pem_cb (pe_callB call_abs (by rfl) T.n_abs PyProof.Rows.boot_abs (pam_cons (pem_var (pv 5)) pam_nil)) on_abs))))))) (psm_cons (psm_set (ps_set (i := 6) sc.nd rfl (Or.inr rfl) (pei_val (pem_ifx (ptm_cmp op_gt o2_cmp (nomark _) (pem_ixv (pv 4) (pem_neg pem_int) (fun _ _ => rfl)) pem_int) pem_int (pem_neg pem_int))))) (psm_one (psm_ret (pem_cb (pe_callTy call_tuple_of (by rfl) T.n_tuple PyProof.Rows.boot_tuple (pam_cons (pem_frz (peo_lc (pe_lc (own := [("number", 5)]) rfl sc.nd (pim_seq (pem_var (pv 4))) (blkOk_by (N := ["poly", "low", "_", "part", "ints", "number", "sign", "top"]) (sc := defScope s_whole_of) (by decide +kernel)) (fun _ _ _ _ _ => (pgm_name (pg_name (i := 5) sc.nd rfl (by first | exact Or.inl rfl | exact Or.inr rfl)) (by decide))) (fun _ _ _ _ _ => tests_nil) (fun _ _ _ _ _ => (pem_fdiv (pem_mul (pem_var (pv 6)) (pem_var (pv 5))) (pem_var (pv 3))))))) pam_nil)) on_tup)))))))))
theorem ok_whole_of (A : At K mg "whole_of" s_whole_of) (T : N_whole_of P w K mg base) : Def P w K mg base "whole_of" 2 ["poly"] (spP K f_whole_of 1) := by
  obtain ⟨f, fd, F, hm⟩ := A.ex
  exact ⟨f, fd, fok_whole_of F T, F.binds (ps := ["poly"]) (fun _ _ _ _ _ _ us hl => match us, hl with | [_], _ => rfl), hm, F.kp⟩
abbrev s_check_both : Stmt := top 31
theorem sc_check_both : FnScope ["one", "other"] ["one", "other"] (defScope s_check_both) := ⟨rfl, rfl, rfl, by decide +kernel, rfl, by decide +kernel, by decide +kernel⟩
structure N_check_both (P : Program) (w : World) (K : PySem.W.Frag) (mg : Str → Option Value) (base : Heap) : Prop extends Names K mg where
  d_check_poly : Def P w K mg base "check_poly" 4 ["poly"] (spP K f_check_poly 1)
theorem fok_check_both {f : Addr} {fd : FuncData} (F : Fun K "check_both" "check_both" s_check_both f fd) (T : N_check_both P w K mg base) : FnOk P w K mg base CX0 5 f fd ["one", "other"] (spP K f_check_both 2) := by
  have sc := sc_check_both
  refine fnP_ok F sc fun cdv Ar outer s H E hr => ?_
  exact (psm_cons (psm_do (pem_call (call_def T.d_check_poly hr (by decide) (by rfl) (pam_cons (pem_var (pv 0)) pam_nil)) (dlen_cons dlen_nil))) (psm_one (psm_do (pem_call (call_def T.d_check_poly hr (by decide) (by rfl) (pam_cons (pem_var (pv 1)) pam_nil)) (dlen_cons dlen_nil)))))
theorem ok_check_both (A : At K mg "check_both" s_check_both) (T : N_check_both P w K mg base) : Def P w K mg base "check_both" 5 ["one", "other"] (spP K f_check_both 2) := by
  obtain ⟨f, fd, F, hm⟩ := A.ex
  exact ⟨f, fd, fok_check_both F T, F.binds (ps := ["one", "other"]) (fun _ _ _ _ _ _ us hl => match us, hl with | [_, _], _ => rfl), hm, F.kp⟩
abbrev s_sum_of : Stmt := top 32
theorem sc_sum_of : FnScope ["one", "other"] ["one", "other"] (defScope s_sum_of) := ⟨rfl, rfl, rfl, by decide +kernel, rfl, by decide +kernel, by decide +kernel⟩
structure N_sum_of (P : Program) (w : World) (K : PySem.W.Frag) (mg : Str → Option Value) (base : Heap) : Prop extends Names K mg where
  d_check_both : Def P w K mg base "check_both" 5 ["one", "other"] (spP K f_check_both 2)
  d_plus : Def P w K mg base "plus" 4 ["one", "other"] (spP K f_plus 2)
theorem fok_sum_of {f : Addr} {fd : FuncData} (F : Fun K "sum_of" "sum_of" s_sum_of f fd) (T : N_sum_of P w K mg base) : FnOk P w K mg base CX0 6 f fd ["one", "other"] (spP K f_sum_of 2) := by
  have sc := sc_sum_of
  refine fnP_ok F sc fun cdv Ar outer s H E hr => ?_
  exact (psm_cons (psm_do (pem_call (call_def T.d_check_both hr (by decide) (by rfl) (pam_cons (pem_var (pv 0)) (pam_cons (pem_var (pv 1)) pam_nil))) (dlen_cons (dlen_cons dlen_nil)))) (psm_one (psm_ret (pem_call (call_def T.d_plus hr (by decide) (by rfl) (pam_cons (pem_var (pv 0)) (pam_cons (pem_var (pv 1)) pam_nil))) (dlen_cons (dlen_cons dlen_nil))))))
theorem ok_sum_of (A : At K mg "sum_of" s_sum_of) (T : N_sum_of P w K mg base) : Def P w K mg base "sum_of" 6 ["one", "other"] (spP K f_sum_of 2) := by
  obtain ⟨f, fd, F, hm⟩ := A.ex
  exact ⟨f, fd, fok_sum_of F T, F.binds (ps := ["one", "other"]) (fun _ _ _ _ _ _ us hl => match us, hl with | [_, _], _ => rfl), hm, F.kp⟩
abbrev s_product_of : Stmt := top 33
theorem sc_product_of : FnScope ["one", "other"] ["one", "other"] (defScope s_product_of) := ⟨rfl, rfl, rfl, by decide +kernel, rfl, by decide +kernel, by decide +kernel⟩
structure N_product_of (P : Program) (w : World) (K : PySem.W.Frag) (mg : Str → Option Value) (base : Heap) : Prop extends Names K mg where
  d_check_both : Def P w K mg base "check_both" 5 ["one", "other"] (spP K f_check_both 2)
  d_product : Def P w K mg base "product" 4 ["one", "other"] (spP K f_product 2)
theorem fok_product_of {f : Addr} {fd : FuncData} (F : Fun K "product_of" "product_of" s_product_of f fd) (T : N_product_of P w K mg base) : FnOk P w K mg base CX0 6 f fd ["one", "other"] (spP K f_product_of 2) := by
  have sc := sc_product_of
  refine fnP_ok F sc fun cdv Ar outer s H E hr => ?_
  exact (psm_cons (psm_do (pem_call (call_def T.d_check_both hr (by decide) (by rfl) (pam_cons (pem_var (pv 0)) (pam_cons (pem_var (pv 1)) pam_nil))) (dlen_cons (dlen_cons dlen_nil)))) (psm_cons (psm_if (ptm_cmp op_gt o2_cmp (nomark _) (pem_add (pem_lenv (pe_callB call_len_seq (by rfl) T.n_len PySem.boot_len (pa_cons (pv 0) pa_nil))) (pem_lenv (pe_callB call_len_seq (by rfl) T.n_len PySem.boot_len (pa_cons (pv 1) pa_nil)))) (pem_add (pem_gint T.c_MOST_DEGREE (by rfl)) pem_int)) (psm_one psm_never) psm_nil) (psm_one (psm_ret (pem_call (call_def T.d_product hr (by decide) (by rfl) (pam_cons (pem_var (pv 0)) (pam_cons (pem_var (pv 1)) pam_nil))) (dlen_cons (dlen_cons dlen_nil)))))))
theorem ok_product_of (A : At K mg "product_of" s_product_of) (T : N_product_of P w K mg base) : Def P w K mg base "product_of" 6 ["one", "other"] (spP K f_product_of 2) := by
  obtain ⟨f, fd, F, hm⟩ := A.ex
  exact ⟨f, fd, fok_product_of F T, F.binds (ps := ["one", "other"]) (fun _ _ _ _ _ _ us hl => match us, hl with | [_, _], _ => rfl), hm, F.kp⟩
abbrev s_division : Stmt := top 34
theorem sc_division : FnScope ["one", "other"] ["one", "other"] (defScope s_division) := ⟨rfl, rfl, rfl, by decide +kernel, rfl, by decide +kernel, by decide +kernel⟩
structure N_division (P : Program) (w : World) (K : PySem.W.Frag) (mg : Str → Option Value) (base : Heap) : Prop extends Names K mg where
  d_check_both : Def P w K mg base "check_both" 5 ["one", "other"] (spP K f_check_both 2)
  d_divided : Def P w K mg base "divided" 4 ["one", "other"] (spP K f_divided 2)
theorem fok_division {f : Addr} {fd : FuncData} (F : Fun K "division" "division" s_division f fd) (T : N_division P w K mg base) : FnOk P w K mg base CX0 6 f fd ["one", "other"] (spP K f_division 2) := by
  have sc := sc_division
  refine fnP_ok F sc fun cdv Ar outer s H E hr => ?_
  exact (psm_cons (psm_do (pem_call (call_def T.d_check_both hr (by decide) (by rfl) (pam_cons (pem_var (pv 0)) (pam_cons (pem_var (pv 1)) pam_nil))) (dlen_cons (dlen_cons dlen_nil)))) (psm_cons (psm_if (ptm_not (ptm_name (pv 1))) (psm_one psm_never) psm_nil) (psm_one (psm_ret (pem_call (call_def T.d_divided hr (by decide) (by rfl) (pam_cons (pem_var (pv 0)) (pam_cons (pem_var (pv 1)) pam_nil))) (dlen_cons (dlen_cons dlen_nil)))))))
theorem ok_division (A : At K mg "division" s_division) (T : N_division P w K mg base) : Def P w K mg base "division" 6 ["one", "other"] (spP K f_division 2) := by
  obtain ⟨f, fd, F, hm⟩ := A.ex
  exact ⟨f, fd, fok_division F T, F.binds (ps := ["one", "other"]) (fun _ _ _ _ _ _ us hl => match us, hl with | [_, _], _ => rfl), hm, F.kp⟩
abbrev s_common_divisor : Stmt := top 35
theorem sc_common_divisor : FnScope ["one", "other"] ["one", "other"] (defScope s_common_divisor) := ⟨rfl, rfl, rfl, by decide +kernel, rfl, by decide +kernel, by decide +kernel⟩
structure N_common_divisor (P : Program) (w : World) (K : PySem.W.Frag) (mg : Str → Option Value) (base : Heap) : Prop extends Names K mg where
  d_check_both : Def P w K mg base "check_both" 5 ["one", "other"] (spP K f_check_both 2)
  d_common_of : Def P w K mg base "common_of" 5 ["one", "other"] (spP K f_common_of 2)
theorem fok_common_divisor {f : Addr} {fd : FuncData} (F : Fun K "common_divisor" "common_divisor" s_common_divisor f fd) (T : N_common_divisor P w K mg base) : FnOk P w K mg base CX0 6 f fd ["one", "other"] (spP K f_common_divisor 2) := by
  have sc := sc_common_divisor
  refine fnP_ok F sc fun cdv Ar outer s H E hr => ?_
  exact (psm_cons (psm_do (pem_call (call_def T.d_check_both hr (by decide) (by rfl) (pam_cons (pem_var (pv 0)) (pam_cons (pem_var (pv 1)) pam_nil))) (dlen_cons (dlen_cons dlen_nil)))) (psm_one (psm_ret (pem_call (call_def T.d_common_of hr (by decide) (by rfl) (pam_cons (pem_var (pv 0)) (pam_cons (pem_var (pv 1)) pam_nil))) (dlen_cons (dlen_cons dlen_nil))))))
theorem ok_common_divisor (A : At K mg "common_divisor" s_common_divisor) (T : N_common_divisor P w K mg base) : Def P w K mg base "common_divisor" 6 ["one", "other"] (spP K f_common_divisor 2) := by
  obtain ⟨f, fd, F, hm⟩ := A.ex
  exact ⟨f, fd, fok_common_divisor F T, F.binds (ps := ["one", "other"]) (fun _ _ _ _ _ _ us hl => match us, hl with | [_, _], _ => rfl), hm, F.kp⟩
abbrev s_squarefree : Stmt := top 36
theorem sc_squarefree : FnScope ["poly"] ["poly"] (defScope s_squarefree) := ⟨rfl, rfl, rfl, by decide +kernel, rfl, by decide +kernel, by decide +kernel⟩
structure N_squarefree (P : Program) (w : World) (K : PySem.W.Frag) (mg : Str → Option Value) (base : Heap) : Prop extends Names K mg where
  d_check_poly : Def P w K mg base "check_poly" 4 ["poly"] (spP K f_check_poly 1)
  d_squarefree_of : Def P w K mg base "squarefree_of" 6 ["poly"] (spP K f_squarefree_of 1)
theorem fok_squarefree {f : Addr} {fd : FuncData} (F : Fun K "squarefree" "squarefree" s_squarefree f fd) (T : N_squarefree P w K mg base) : FnOk P w K mg base CX0 7 f fd ["poly"] (spP K f_squarefree 1) := by
  have sc := sc_squarefree
  refine fnP_ok F sc fun cdv Ar outer s H E hr => ?_
  exact (psm_cons (psm_do (pem_call (call_def T.d_check_poly hr (by decide) (by rfl) (pam_cons (pem_var (pv 0)) pam_nil)) (dlen_cons dlen_nil))) (psm_cons (psm_if (ptm_not (ptm_name (pv 0))) (psm_one psm_never) psm_nil) (psm_one (psm_ret (pem_call (call_def T.d_squarefree_of hr (by decide) (by rfl) (pam_cons (pem_var (pv 0)) pam_nil)) (dlen_cons dlen_nil))))))
theorem ok_squarefree (A : At K mg "squarefree" s_squarefree) (T : N_squarefree P w K mg base) : Def P w K mg base "squarefree" 7 ["poly"] (spP K f_squarefree 1) := by
  obtain ⟨f, fd, F, hm⟩ := A.ex
  exact ⟨f, fd, fok_squarefree F T, F.binds (ps := ["poly"]) (fun _ _ _ _ _ _ us hl => match us, hl with | [_], _ => rfl), hm, F.kp⟩
abbrev s_free_parts : Stmt := top 37
theorem sc_free_parts : FnScope ["poly", "found", "here", "first", "roots", "shared"] ["poly"] (defScope s_free_parts) := ⟨rfl, rfl, rfl, by decide +kernel, rfl, by decide +kernel, by decide +kernel⟩
structure N_free_parts (P : Program) (w : World) (K : PySem.W.Frag) (mg : Str → Option Value) (base : Heap) : Prop extends Names K mg where
  d_common_of : Def P w K mg base "common_of" 5 ["one", "other"] (spP K f_common_of 2)
  d_degree : Def P w K mg base "degree" 1 ["poly"] (spP K f_degree 1)
  d_divided : Def P w K mg base "divided" 4 ["one", "other"] (spP K f_divided 2)
  d_monic : Def P w K mg base "monic" 4 ["poly"] (spP K f_monic 1)
  d_slope : Def P w K mg base "slope" 4 ["poly"] (spP K f_slope 1)
theorem fok_free_parts {f : Addr} {fd : FuncData} (F : Fun K "free_parts" "free_parts" s_free_parts f fd) (T : N_free_parts P w K mg base) : FnOk P w K mg base CX0 6 f fd ["poly"] (spP K f_free_parts 1) := by
  have sc := sc_free_parts
  refine fnP_ok F sc fun cdv Ar outer s H E hr => ?_
  exact (psm_cons (psm_par (ps_par (i := 1) (j := 2) rfl sc.nd rfl rfl (by decide) rfl rfl (pa_cons (pei_own (peo_lst pam_nil)) (pa_cons (pei_val (pem_call (call_def T.d_monic hr (by decide) (by rfl) (pam_cons (pem_var (pv 0)) pam_nil)) (dlen_cons dlen_nil))) pa_nil)) (by rfl))) (psm_cons (psm_set (ps_set (i := 3) sc.nd rfl (Or.inl rfl) (pei_val (pem_call (call_def T.d_common_of hr (by decide) (by rfl) (pam_cons (pem_var (pv 2)) (pam_cons (pem_call (call_def T.d_slope hr (by decide) (by rfl) (pam_cons (pem_var (pv 2)) pam_nil)) (dlen_cons dlen_nil)) pam_nil))) (dlen_cons (dlen_cons dlen_nil)))))) (psm_cons (psm_set (ps_set (i := 4) sc.nd rfl (Or.inl rfl) (pei_val (pem_ix (pem_call (call_def T.d_divided hr (by decide) (by rfl) (pam_cons (pem_var (pv 2)) (pam_cons (pem_var (pv 3)) pam_nil))) (dlen_cons (dlen_cons dlen_nil))) pem_int (fun _ _ => rfl))))) (psm_cons (psm_while PassesOwn.never (ptm_cmp op_gt o2_cmp (nomark _) (pem_call (call_def T.d_degree hr (by decide) (by rfl) (pam_cons (pem_var (pv 4)) pam_nil)) (dlen_cons dlen_nil)) pem_int) (psm_cons (psm_set (ps_set (i := 5) sc.nd rfl (Or.inl rfl) (pei_val (pem_call (call_def T.d_common_of hr (by decide) (by rfl) (pam_cons (pem_var (pv 3)) (pam_cons (pem_var (pv 4)) pam_nil))) (dlen_cons (dlen_cons dlen_nil)))))) (psm_cons (psm_do (pem_app (pe_bm PySem.F.plainAttrs_list PySem.F.slot_list_append PySem.F.type_list_append mt_append (pv 1) (pam_cons (pem_ix (pem_call (call_def T.d_divided hr (by decide) (by rfl) (pam_cons (pem_var (pv 4)) (pam_cons (pem_var (pv 5)) pam_nil))) (dlen_cons (dlen_cons dlen_nil))) pem_int (fun _ _ => rfl)) pam_nil)))) (psm_one (psm_par (ps_par (i := 4) (j := 3) rfl sc.nd rfl rfl (by decide) rfl rfl (pa_cons (pei_val (pem_var (pv 5))) (pa_cons (pei_val (pem_ix (pem_call (call_def T.d_divided hr (by decide) (by rfl) (pam_cons (pem_var (pv 3)) (pam_cons (pem_var (pv 5)) pam_nil))) (dlen_cons (dlen_cons dlen_nil))) pem_int (fun _ _ => rfl))) pa_nil)) (by rfl))))))) (psm_one (psm_ret (pem_var (pv 1))))))))
theorem ok_free_parts (A : At K mg "free_parts" s_free_parts) (T : N_free_parts P w K mg base) : Def P w K mg base "free_parts" 6 ["poly"] (spP K f_free_parts 1) := by
  obtain ⟨f, fd, F, hm⟩ := A.ex
  exact ⟨f, fd, fok_free_parts F T, F.binds (ps := ["poly"]) (fun _ _ _ _ _ _ us hl => match us, hl with | [_], _ => rfl), hm, F.kp⟩
abbrev s_squarefree_parts : Stmt := top 38
theorem sc_squarefree_parts : FnScope ["poly"] ["poly"] (defScope s_squarefree_parts) := ⟨rfl, rfl, rfl, by decide +kernel, rfl, by decide +kernel, by decide +kernel⟩
structure N_squarefree_parts (P : Program) (w : World) (K : PySem.W.Frag) (mg : Str → Option Value) (base : Heap) : Prop extends Names K mg where
  d_check_poly : Def P w K mg base "check_poly" 4 ["poly"] (spP K f_check_poly 1)
  d_free_parts : Def P w K mg base "free_parts" 6 ["poly"] (spP K f_free_parts 1)
theorem fok_squarefree_parts {f : Addr} {fd : FuncData} (F : Fun K "squarefree_parts" "squarefree_parts" s_squarefree_parts f fd) (T : N_squarefree_parts P w K mg base) : FnOk P w K mg base CX0 7 f fd ["poly"] (spP K f_squarefree_parts 1) := by
  have sc := sc_squarefree_parts
  refine fnP_ok F sc fun cdv Ar outer s H E hr => ?_
  exact (psm_cons (psm_do (pem_call (call_def T.d_check_poly hr (by decide) (by rfl) (pam_cons (pem_var (pv 0)) pam_nil)) (dlen_cons dlen_nil))) (psm_cons (psm_if (ptm_not (ptm_name (pv 0))) (psm_one psm_never) psm_nil) (psm_one (psm_ret (pem_cb (pe_callTy call_tuple_of (by rfl) T.n_tuple PyProof.Rows.boot_tuple (pam_cons (pem_call (call_def T.d_free_parts hr (by decide) (by rfl) (pam_cons (pem_var (pv 0)) pam_nil)) (dlen_cons dlen_nil)) pam_nil)) on_tup)))))
theorem ok_squarefree_parts (A : At K mg "squarefree_parts" s_squarefree_parts) (T : N_squarefree_parts P w K mg base) : Def P w K mg base "squarefree_parts" 7 ["poly"] (spP K f_squarefree_parts 1) := by
  obtain ⟨f, fd, F, hm⟩ := A.ex
  exact ⟨f, fd, fok_squarefree_parts F T, F.binds (ps := ["poly"]) (fun _ _ _ _ _ _ us hl => match us, hl with | [_], _ => rfl), hm, F.kp⟩
abbrev s_value_of : Stmt := top 39
theorem sc_value_of : FnScope ["poly", "x"] ["poly", "x"] (defScope s_value_of) := ⟨rfl, rfl, rfl, by decide +kernel, rfl, by decide +kernel, by decide +kernel⟩
structure N_value_of (P : Program) (w : World) (K : PySem.W.Frag) (mg : Str → Option Value) (base : Heap) : Prop extends Names K mg where
  d_check_poly : Def P w K mg base "check_poly" 4 ["poly"] (spP K f_check_poly 1)
  d_is_fraction : Def P w K mg base "is_fraction" 2 ["pair"] (spP K f_is_fraction 1)
  d_value_at : Def P w K mg base "value_at" 4 ["poly", "x"] (spP K f_value_at 2)
theorem fok_value_of {f : Addr} {fd : FuncData} (F : Fun K "value_of" "value_of" s_value_of f fd) (T : N_value_of P w K mg base) : FnOk P w K mg base CX0 5 f fd ["poly", "x"] (spP K f_value_of 2) := by
  have sc := sc_value_of
  refine fnP_ok F sc fun cdv Ar outer s H E hr => ?_
  exact (psm_cons (psm_do (pem_call (call_def T.d_check_poly hr (by decide) (by rfl) (pam_cons (pem_var (pv 0)) pam_nil)) (dlen_cons dlen_nil))) (psm_cons (psm_if (ptm_not (ptm_val (pem_call (call_def T.d_is_fraction hr (by decide) (by rfl) (pam_cons (pem_var (pv 1)) pam_nil)) (dlen_cons dlen_nil)) (by intro _; rfl))) (psm_one psm_never) psm_nil) (psm_one (psm_ret (pem_call (call_def T.d_value_at hr (by decide) (by rfl) (pam_cons (pem_var (pv 0)) (pam_cons (pem_var (pv 1)) pam_nil))) (dlen_cons (dlen_cons dlen_nil)))))))
theorem ok_value_of (A : At K mg "value_of" s_value_of) (T : N_value_of P w K mg base) : Def P w K mg base "value_of" 5 ["poly", "x"] (spP K f_value_of 2) := by
  obtain ⟨f, fd, F, hm⟩ := A.ex
  exact ⟨f, fd, fok_value_of F T, F.binds (ps := ["poly", "x"]) (fun _ _ _ _ _ _ us hl => match us, hl with | [_, _], _ => rfl), hm, F.kp⟩
abbrev s_whole_form : Stmt := top 40
theorem sc_whole_form : FnScope ["poly"] ["poly"] (defScope s_whole_form) := ⟨rfl, rfl, rfl, by decide +kernel, rfl, by decide +kernel, by decide +kernel⟩
structure N_whole_form (P : Program) (w : World) (K : PySem.W.Frag) (mg : Str → Option Value) (base : Heap) : Prop extends Names K mg where
  d_check_poly : Def P w K mg base "check_poly" 4 ["poly"] (spP K f_check_poly 1)
  d_whole_of : Def P w K mg base "whole_of" 2 ["poly"] (spP K f_whole_of 1)
theorem fok_whole_form {f : Addr} {fd : FuncData} (F : Fun K "whole_form" "whole_form" s_whole_form f fd) (T : N_whole_form P w K mg base) : FnOk P w K mg base CX0 5 f fd ["poly"] (spP K f_whole_form 1) := by
  have sc := sc_whole_form
  refine fnP_ok F sc fun cdv Ar outer s H E hr => ?_
  exact (psm_cons (psm_do (pem_call (call_def T.d_check_poly hr (by decide) (by rfl) (pam_cons (pem_var (pv 0)) pam_nil)) (dlen_cons dlen_nil))) (psm_cons (psm_if (ptm_cmp op_lt o2_cmp (nomark _) (pem_lenv (pe_callB call_len_seq (by rfl) T.n_len PySem.boot_len (pa_cons (pv 0) pa_nil))) pem_int) (psm_one psm_never) psm_nil) (psm_one (psm_ret (pem_call (call_def T.d_whole_of hr (by decide) (by rfl) (pam_cons (pem_var (pv 0)) pam_nil)) (dlen_cons dlen_nil))))))
theorem ok_whole_form (A : At K mg "whole_form" s_whole_form) (T : N_whole_form P w K mg base) : Def P w K mg base "whole_form" 5 ["poly"] (spP K f_whole_form 1) := by
  obtain ⟨f, fd, F, hm⟩ := A.ex
  exact ⟨f, fd, fok_whole_form F T, F.binds (ps := ["poly"]) (fun _ _ _ _ _ _ us hl => match us, hl with | [_], _ => rfl), hm, F.kp⟩
abbrev s__law_number : Stmt := top 42
theorem sc__law_number : FnScope ["cell"] ["cell"] (defScope s__law_number) := ⟨rfl, rfl, rfl, by decide +kernel, rfl, by decide +kernel, by decide +kernel⟩
structure N__law_number (P : Program) (w : World) (K : PySem.W.Frag) (mg : Str → Option Value) (base : Heap) : Prop extends Names K mg where
theorem fok__law_number {f : Addr} {fd : FuncData} (F : Fun K "_law_number" "_law_number" s__law_number f fd) (T : N__law_number P w K mg base) : FnOk P w K mg base CX0 1 f fd ["cell"] (spP K f__law_number 1) := by
  have sc := sc__law_number
  refine fnP_ok F sc fun cdv Ar outer s H E hr => ?_
  exact (psm_cons (psm_if (ptm_cmp op_lt o2_cmp (nomark _) (pem_var (pv 0)) pem_int) (psm_one (psm_ret (pem_sub pem_int (pem_var (pv 0))))) psm_nil) (psm_one (psm_ret (pem_var (pv 0)))))
theorem ok__law_number (A : At K mg "_law_number" s__law_number) (T : N__law_number P w K mg base) : Def P w K mg base "_law_number" 1 ["cell"] (spP K f__law_number 1) := by
  obtain ⟨f, fd, F, hm⟩ := A.ex
  exact ⟨f, fd, fok__law_number F T, F.binds (ps := ["cell"]) (fun _ _ _ _ _ _ us hl => match us, hl with | [_], _ => rfl), hm, F.kp⟩
abbrev s__law_draws : Stmt := top 43
theorem sc__law_draws : FnScope ["script", "draws", "cell", "rest", "k", "once", "twice"] ["script"] (defScope s__law_draws) := ⟨rfl, rfl, rfl, by decide +kernel, rfl, by decide +kernel, by decide +kernel⟩
structure N__law_draws (P : Program) (w : World) (K : PySem.W.Frag) (mg : Str → Option Value) (base : Heap) : Prop extends Names K mg where
  d__law_number : Def P w K mg base "_law_number" 1 ["cell"] (spP K f__law_number 1)
theorem fok__law_draws {f : Addr} {fd : FuncData} (F : Fun K "_law_draws" "_law_draws" s__law_draws f fd) (T : N__law_draws P w K mg base) : FnOk P w K mg base CX0 2 f fd ["script"] (spO K f__law_draws 1) := by
  have sc := sc__law_draws
  refine fnO_ok F sc fun cdv Ar outer s H E hr => ?_
  exact (psm_cons (psm_set (ps_set (i := 1) sc.nd rfl (Or.inl rfl) (pei_own (peo_lst pam_nil)))) (psm_cons (psm_for (ws := [2]) PassesOwn.never rfl (pim_seq (pem_var (pv 0))) (pgm_name (pg_name (i := 2) sc.nd rfl (by first | exact Or.inl rfl | exact Or.inr rfl)) (by decide)) (psm_cons (psm_set (ps_set (i := 3) sc.nd rfl (Or.inl rfl) (pei_val (pem_call (call_def T.d__law_number hr (by decide) (by rfl) (pam_cons (pem_var (pv 2)) pam_nil)) (dlen_cons dlen_nil))))) (psm_one (psm_if (ptm_cmp op_ge o2_cmp (nomark _) (pem_var (pv 3)) pem_int) (psm_one (psm_for (ws := [4]) PassesOwn.never rfl (pim_rng1 (pi_range1 rfl T.n_range (pam_cons pem_int pam_nil))) (pgm_name (pg_name (i := 4) sc.nd rfl (by first | exact Or.inl rfl | exact Or.inr rfl)) (by decide)) (psm_cons (psm_if (ptm_cmp (op_eqD hr.units) o2_eq (nomark _) (pem_var (pv 3)) pem_int) (psm_one psm_break) psm_nil) (psm_cons (psm_do (pem_app (pe_bm PySem.F.plainAttrs_list PySem.F.slot_list_append PySem.F.type_list_append mt_append (pv 1) (pam_cons (pem_mod (pem_cb (pe_callTy call_int1 (by rfl) T.n_int PyProof.Rows.boot_int (pam_cons (pem_var (pv 3)) pam_nil)) on_int) pem_int) pam_nil)))) (psm_one (psm_set (ps_set (i := 3) sc.nd rfl (Or.inl rfl) (pei_val (pem_fdiv (pem_var (pv 3)) pem_int))))))))) (psm_cons (psm_set (ps_set (i := 5) sc.nd rfl (Or.inl rfl) (pei_val (pem_mod (pem_cb (pe_callTy call_int1 (by rfl) T.n_int PyProof.Rows.boot_int (pam_cons (pem_add (pem_mul (pem_var (pv 3)) pem_int) pem_int) pam_nil)) on_int) pem_int)))) (psm_cons (psm_set (ps_set (i := 6) sc.nd rfl (Or.inl rfl) (pei_val (pem_mod (pem_cb (pe_callTy call_int1 (by rfl) T.n_int PyProof.Rows.boot_int (pam_cons (pem_add (pem_mul (pem_var (pv 5)) pem_int) (pem_var (pv 3))) pam_nil)) on_int) pem_int)))) (psm_one (psm_do (pem_ext (pe_bm PySem.F.plainAttrs_list PySem.F.slot_list_extend PySem.F.type_list_extend mt_extend (pv 1) (pam_cons (pem_frz (peo_lst (pam_cons (pem_mod (pem_cb (pe_callTy call_int1 (by rfl) T.n_int PyProof.Rows.boot_int (pam_cons (pem_var (pv 3)) pam_nil)) on_int) pem_int) (pam_cons (pem_mod (pem_cb (pe_callTy call_int1 (by rfl) T.n_int PyProof.Rows.boot_int (pam_cons (pem_var (pv 5)) pam_nil)) on_int) pem_int) (pam_cons (pem_mod (pem_cb (pe_callTy call_int1 (by rfl) T.n_int PyProof.Rows.boot_int (pam_cons (pem_var (pv 6)) pam_nil)) on_int) pem_int) pam_nil))))) pam_nil))))))))))) (psm_cons (psm_do (pem_rev (pe_bm0 PySem.F.plainAttrs_list PySem.F.slot_list_reverse PySem.F.type_list_reverse mt_reverse (pv 1)))) (psm_one (psm_retv (pv 1))))))
theorem ok__law_draws (A : At K mg "_law_draws" s__law_draws) (T : N__law_draws P w K mg base) : Def P w K mg base "_law_draws" 2 ["script"] (spO K f__law_draws 1) := by
  obtain ⟨f, fd, F, hm⟩ := A.ex
  exact ⟨f, fd, fok__law_draws F T, F.binds (ps := ["script"]) (fun _ _ _ _ _ _ us hl => match us, hl with | [_], _ => rfl), hm, F.kp⟩
abbrev s__law_next : Stmt := top 44
theorem sc__law_next : FnScope ["draws"] ["draws"] (defScope s__law_next) := ⟨rfl, rfl, rfl, by decide +kernel, rfl, by decide +kernel, by decide +kernel⟩
structure N__law_next (P : Program) (w : World) (K : PySem.W.Frag) (mg : Str → Option Value) (base : Heap) : Prop extends Names K mg where
theorem fok__law_next {f : Addr} {fd : FuncData} (F : Fun K "_law_next" "_law_next" s__law_next f fd) (T : N__law_next P w K mg base) : FnOk P w K mg base CX0 1 f fd ["draws"] (spI K f__law_next 0) := by
  have sc := sc__law_next
  refine fnI_ok F sc fun cdv Ar outer s H E hr => ?_
  exact (psm_cons (psm_if (ptm_name (pv 0)) (psm_one (psm_ret (pem_pop (pe_bm0 PySem.F.plainAttrs_list PySem.F.slot_list_pop PySem.F.type_list_pop mt_pop (pv 0))))) psm_nil) (psm_one (psm_ret pem_int)))
theorem ok__law_next (A : At K mg "_law_next" s__law_next) (T : N__law_next P w K mg base) : Def P w K mg base "_law_next" 1 ["draws"] (spI K f__law_next 0) := by
  obtain ⟨f, fd, F, hm⟩ := A.ex
  exact ⟨f, fd, fok__law_next F T, F.binds (ps := ["draws"]) (fun _ _ _ _ _ _ us hl => match us, hl with | [_], _ => rfl), hm, F.kp⟩
abbrev s__law_more : Stmt := top 45
theorem sc__law_more : FnScope ["draws", "many", "seed", "more", "k"] ["draws", "many"] (defScope s__law_more) := ⟨rfl, rfl, rfl, by decide +kernel, rfl, by decide +kernel, by decide +kernel⟩
structure N__law_more (P : Program) (w : World) (K : PySem.W.Frag) (mg : Str → Option Value) (base : Heap) : Prop extends Names K mg where
  d__law_next : Def P w K mg base "_law_next" 1 ["draws"] (spI K f__law_next 0)
theorem fok__law_more {f : Addr} {fd : FuncData} (F : Fun K "_law_more" "_law_more" s__law_more f fd) (T : N__law_more P w K mg base) : FnOk P w K mg base CX0 2 f fd ["draws", "many"] (spIO K f__law_more 1) := by
  have sc := sc__law_more
  refine fnIO_ok F sc fun cdv Ar outer s H E hr => ?_
  exact (psm_cons (psm_set (ps_set (i := 2) sc.nd rfl (Or.inl rfl) (pei_val (pem_add (pem_add (pem_mul pem_int (pem_calli (call_def T.d__law_next hr (by decide) (by rfl) (pa_cons (pv 0) pam_nil)) dlen_nil)) (pem_calli (call_def T.d__law_next hr (by decide) (by rfl) (pa_cons (pv 0) pam_nil)) dlen_nil)) pem_int)))) (psm_cons (psm_set (ps_set (i := 3) sc.nd rfl (Or.inl rfl) (pei_own (peo_lst pam_nil)))) (psm_cons (psm_for (ws := [4]) PassesOwn.never rfl (pim_rng1 (pi_range1 rfl T.n_range (pam_cons (pem_var (pv 1)) pam_nil))) (pgm_name (pg_name (i := 4) sc.nd rfl (by first | exact Or.inl rfl | exact Or.inr rfl)) (by decide)) (psm_cons (psm_set (ps_set (i := 2) sc.nd rfl (Or.inl rfl) (pei_val (pem_mod (pem_cb (pe_callTy call_int1 (by rfl) T.n_int PyProof.Rows.boot_int (pam_cons (pem_add (pem_mul (pem_var (pv 2)) pem_int) pem_int) pam_nil)) on_int) pem_int)))) (psm_one (psm_do (pem_app (pe_bm PySem.F.plainAttrs_list PySem.F.slot_list_append PySem.F.type_list_append mt_append (pv 3) (pam_cons (pem_mod (pem_cb (pe_callTy call_int1 (by rfl) T.n_int PyProof.Rows.boot_int (pam_cons (pem_fdiv (pem_var (pv 2)) pem_int) pam_nil)) on_int) pem_int) pam_nil))))))) (psm_one (psm_reto (peo_catv (pv 3) (pv 0)))))))
theorem ok__law_more (A : At K mg "_law_more" s__law_more) (T : N__law_more P w K mg base) : Def P w K mg base "_law_more" 2 ["draws", "many"] (spIO K f__law_more 1) := by
  obtain ⟨f, fd, F, hm⟩ := A.ex
  exact ⟨f, fd, fok__law_more F T, F.binds (ps := ["draws", "many"]) (fun _ _ _ _ _ _ us hl => match us, hl with | [_, _], _ => rfl), hm, F.kp⟩
abbrev s__law_common : Stmt := top 46
theorem sc__law_common : FnScope ["one", "other", "turn"] ["one", "other"] (defScope s__law_common) := ⟨rfl, rfl, rfl, by decide +kernel, rfl, by decide +kernel, by decide +kernel⟩
structure N__law_common (P : Program) (w : World) (K : PySem.W.Frag) (mg : Str → Option Value) (base : Heap) : Prop extends Names K mg where
theorem fok__law_common {f : Addr} {fd : FuncData} (F : Fun K "_law_common" "_law_common" s__law_common f fd) (T : N__law_common P w K mg base) : FnOk P w K mg base CX0 1 f fd ["one", "other"] (spP K f__law_common 2) := by
  have sc := sc__law_common
  refine fnP_ok F sc fun cdv Ar outer s H E hr => ?_
  exact (psm_cons (psm_for (ws := [2]) PassesOwn.never rfl (pim_rng1 (pi_range1 rfl T.n_range (pam_cons pem_int pam_nil))) (pgm_name (pg_name (i := 2) sc.nd rfl (by first | exact Or.inl rfl | exact Or.inr rfl)) (by decide)) (psm_cons (psm_if (ptm_cmp (op_eqD hr.units) o2_eq (nomark _) (pem_var (pv 1)) pem_int) (psm_one (psm_ret (pem_var (pv 0)))) psm_nil) (psm_one (psm_par (ps_par (i := 0) (j := 1) rfl sc.nd rfl rfl (by decide) rfl rfl (pa_cons (pei_val (pem_var (pv 1))) (pa_cons (pei_val (pem_mod (pem_cb (pe_callTy call_int1 (by rfl) T.n_int PyProof.Rows.boot_int (pam_cons (pem_var (pv 0)) pam_nil)) on_int) (pem_cb (pe_callTy call_int1 (by rfl) T.n_int PyProof.Rows.boot_int (pam_cons (pem_var (pv 1)) pam_nil)) on_int))) pa_nil)) (by rfl)))))) (psm_one (psm_ret pem_int)))
theorem ok__law_common (A : At K mg "_law_common" s__law_common) (T : N__law_common P w K mg base) : Def P w K mg base "_law_common" 1 ["one", "other"] (spP K f__law_common 2) := by
  obtain ⟨f, fd, F, hm⟩ := A.ex
  exact ⟨f, fd, fok__law_common F T, F.binds (ps := ["one", "other"]) (fun _ _ _ _ _ _ us hl => match us, hl with | [_, _], _ => rfl), hm, F.kp⟩
abbrev s__law_lowest : Stmt := top 47
theorem sc__law_lowest : FnScope ["top", "low", "part"] ["top", "low"] (defScope s__law_lowest) := ⟨rfl, rfl, rfl, by decide +kernel, rfl, by decide +kernel, by decide +kernel⟩
structure N__law_lowest (P : Program) (w : World) (K : PySem.W.Frag) (mg : Str → Option Value) (base : Heap) : Prop extends Names K mg where
  d__law_common : Def P w K mg base "_law_common" 1 ["one", "other"] (spP K f__law_common 2)
theorem fok__law_lowest {f : Addr} {fd : FuncData} (F : Fun K "_law_lowest" "_law_lowest" s__law_lowest f fd) (T : N__law_lowest P w K mg base) : FnOk P w K mg base CX0 2 f fd ["top", "low"] (spP K f__law_lowest 2) := by
  have sc := sc__law_lowest
  refine fnP_ok F sc fun cdv Ar outer s H E hr => ?_
  exact (psm_cons (psm_set (ps_set (i := 2) sc.nd rfl (Or.inl rfl) (pei_val (pem_call (call_def T.d__law_common hr (by decide) (by rfl) (pam_cons (pem_cb (pe_callB call_abs (by rfl) T.n_abs PyProof.Rows.boot_abs (pam_cons (pem_var (pv 0)) pam_nil)) on_abs) (pam_cons (pem_var (pv 1)) pam_nil))) (dlen_cons (dlen_cons dlen_nil)))))) (psm_one (psm_ret (pem_tup (pam_cons (pem_fdiv (pem_var (pv 0)) (pem_var (pv 2))) (pam_cons (pem_fdiv (pem_var (pv 1)) (pem_var (pv 2))) pam_nil))))))
theorem ok__law_lowest (A : At K mg "_law_lowest" s__law_lowest) (T : N__law_lowest P w K mg base) : Def P w K mg base "_law_lowest" 2 ["top", "low"] (spP K f__law_lowest 2) := by
  obtain ⟨f, fd, F, hm⟩ := A.ex
  exact ⟨f, fd, fok__law_lowest F T, F.binds (ps := ["top", "low"]) (fun _ _ _ _ _ _ us hl => match us, hl with | [_, _], _ => rfl), hm, F.kp⟩
abbrev s__law_add : Stmt := top 48
theorem sc__law_add : FnScope ["one", "other"] ["one", "other"] (defScope s__law_add) := ⟨rfl, rfl, rfl, by decide +kernel, rfl, by decide +kernel, by decide +kernel⟩
structure N__law_add (P : Program) (w : World) (K : PySem.W.Frag) (mg : Str → Option Value) (base : Heap) : Prop extends Names K mg where
  d__law_lowest : Def P w K mg base "_law_lowest" 2 ["top", "low"] (spP K f__law_lowest 2)
theorem fok__law_add {f : Addr} {fd : FuncData} (F : Fun K "_law_add" "_law_add" s__law_add f fd) (T : N__law_add P w K mg base) : FnOk P w K mg base CX0 3 f fd ["one", "other"] (spP K f__law_add 2) := by
  have sc := sc__law_add
  refine fnP_ok F sc fun cdv Ar outer s H E hr => ?_
  exact (psm_one (psm_ret (pem_call (call_def T.d__law_lowest hr (by decide) (by rfl) (pam_cons (pem_add (pem_mul (pem_ixv (pv 0) pem_int (fun _ _ => rfl)) (pem_ixv (pv 1) pem_int (fun _ _ => rfl))) (pem_mul (pem_ixv (pv 1) pem_int (fun _ _ => rfl)) (pem_ixv (pv 0) pem_int (fun _ _ => rfl)))) (pam_cons (pem_mul (pem_ixv (pv 0) pem_int (fun _ _ => rfl)) (pem_ixv (pv 1) pem_int (fun _ _ => rfl))) pam_nil))) (dlen_cons (dlen_cons dlen_nil)))))
theorem ok__law_add (A : At K mg "_law_add" s__law_add) (T : N__law_add P w K mg base) : Def P w K mg base "_law_add" 3 ["one", "other"] (spP K f__law_add 2) := by
  obtain ⟨f, fd, F, hm⟩ := A.ex
  exact ⟨f, fd, fok__law_add F T, F.binds (ps := ["one", "other"]) (fun _ _ _ _ _ _ us hl => match us, hl with | [_, _], _ => rfl), hm, F.kp⟩
abbrev s__law_times : Stmt := top 49
theorem sc__law_times : FnScope ["one", "other"] ["one", "other"] (defScope s__law_times) := ⟨rfl, rfl, rfl, by decide +kernel, rfl, by decide +kernel, by decide +kernel⟩
structure N__law_times (P : Program) (w : World) (K : PySem.W.Frag) (mg : Str → Option Value) (base : Heap) : Prop extends Names K mg where
  d__law_lowest : Def P w K mg base "_law_lowest" 2 ["top", "low"] (spP K f__law_lowest 2)
theorem fok__law_times {f : Addr} {fd : FuncData} (F : Fun K "_law_times" "_law_times" s__law_times f fd) (T : N__law_times P w K mg base) : FnOk P w K mg base CX0 3 f fd ["one", "other"] (spP K f__law_times 2) := by
  have sc := sc__law_times
  refine fnP_ok F sc fun cdv Ar outer s H E hr => ?_
  exact (psm_one (psm_ret (pem_call (call_def T.d__law_lowest hr (by decide) (by rfl) (pam_cons (pem_mul (pem_ixv (pv 0) pem_int (fun _ _ => rfl)) (pem_ixv (pv 1) pem_int (fun _ _ => rfl))) (pam_cons (pem_mul (pem_ixv (pv 0) pem_int (fun _ _ => rfl)) (pem_ixv (pv 1) pem_int (fun _ _ => rfl))) pam_nil))) (dlen_cons (dlen_cons dlen_nil)))))
theorem ok__law_times (A : At K mg "_law_times" s__law_times) (T : N__law_times P w K mg base) : Def P w K mg base "_law_times" 3 ["one", "other"] (spP K f__law_times 2) := by
  obtain ⟨f, fd, F, hm⟩ := A.ex
  exact ⟨f, fd, fok__law_times F T, F.binds (ps := ["one", "other"]) (fun _ _ _ _ _ _ us hl => match us, hl with | [_, _], _ => rfl), hm, F.kp⟩
abbrev s__law_trim : Stmt := top 50
theorem sc__law_trim : FnScope ["parts", "found", "turn"] ["parts"] (defScope s__law_trim) := ⟨rfl, rfl, rfl, by decide +kernel, rfl, by decide +kernel, by decide +kernel⟩
structure N__law_trim (P : Program) (w : World) (K : PySem.W.Frag) (mg : Str → Option Value) (base : Heap) : Prop extends Names K mg where
theorem fok__law_trim {f : Addr} {fd : FuncData} (F : Fun K "_law_trim" "_law_trim" s__law_trim f fd) (T : N__law_trim P w K mg base) : FnOk P w K mg base CX0 1 f fd ["parts"] (spP K f__law_trim 1) := by
  have sc := sc__law_trim
  refine fnP_ok F sc fun cdv Ar outer s H E hr => ?_
  exact (psm_cons (psm_set (ps_set (i := 1) sc.nd rfl (Or.inl rfl) (pei_val (pem_frz (peo_listv (pe_callTy call_list_of (by rfl) T.n_list PyProof.Rows.boot_list (pa_cons (pv 0) pa_nil))))))) (psm_cons (psm_for (ws := [2]) PassesOwn.never rfl (pim_rng1 (pi_range1 rfl T.n_range (pam_cons (pem_lenv (pe_callB call_len_seq (by rfl) T.n_len PySem.boot_len (pa_cons (pv 0) pa_nil))) pam_nil))) (pgm_name (pg_name (i := 2) sc.nd rfl (by first | exact Or.inl rfl | exact Or.inr rfl)) (by decide)) (psm_one (psm_if (ptm_w (pwm_and (ptm_name (pv 1)) (pwm_and1 (ptm_cmp (op_eqD hr.units) o2_eq (nomark _) (pem_ix (pem_ixv (pv 1) (pem_neg pem_int) (fun _ _ => rfl)) pem_int (fun _ _ => rfl)) pem_int)))) (psm_one (psm_set (ps_set (i := 1) sc.nd rfl (Or.inl rfl) (pei_val (pem_slv (pv 1) pom_none (pom_some (pem_neg pem_int))))))) psm_nil))) (psm_one (psm_ret (pem_tupv (pe_callTy call_tuple_of (by rfl) T.n_tuple PyProof.Rows.boot_tuple (pa_cons (pv 1) pa_nil)))))))
theorem ok__law_trim (A : At K mg "_law_trim" s__law_trim) (T : N__law_trim P w K mg base) : Def P w K mg base "_law_trim" 1 ["parts"] (spP K f__law_trim 1) := by
  obtain ⟨f, fd, F, hm⟩ := A.ex
  exact ⟨f, fd, fok__law_trim F T, F.binds (ps := ["parts"]) (fun _ _ _ _ _ _ us hl => match us, hl with | [_], _ => rfl), hm, F.kp⟩
abbrev s__law_mul : Stmt := top 51
theorem sc__law_mul : FnScope ["one", "other", "found", "i", "j"] ["one", "other"] (defScope s__law_mul) := ⟨rfl, rfl, rfl, by decide +kernel, rfl, by decide +kernel, by decide +kernel⟩
structure N__law_mul (P : Program) (w : World) (K : PySem.W.Frag) (mg : Str → Option Value) (base : Heap) : Prop extends Names K mg where
  d__law_add : Def P w K mg base "_law_add" 3 ["one", "other"] (spP K f__law_add 2)
  d__law_times : Def P w K mg base "_law_times" 3 ["one", "other"] (spP K f__law_times 2)
  d__law_trim : Def P w K mg base "_law_trim" 1 ["parts"] (spP K f__law_trim 1)
theorem fok__law_mul {f : Addr} {fd : FuncData} (F : Fun K "_law_mul" "_law_mul" s__law_mul f fd) (T : N__law_mul P w K mg base) : FnOk P w K mg base CX0 4 f fd ["one", "other"] (spP K f__law_mul 2) := by
  have sc := sc__law_mul
  refine fnP_ok F sc fun cdv Ar outer s H E hr => ?_
  exact (psm_cons (psm_set (ps_set (i := 2) sc.nd rfl (Or.inl rfl) (pei_own (peo_rep (peo_lst (pam_cons (pem_tup (pam_cons pem_int (pam_cons pem_int pam_nil))) pam_nil)) (pem_cb (pe_callB (call_max2 rfl) (by rfl) T.n_max (by decide +kernel) (pam_cons pem_int (pam_cons (pem_sub (pem_add (pem_lenv (pe_callB call_len_seq (by rfl) T.n_len PySem.boot_len (pa_cons (pv 0) pa_nil))) (pem_lenv (pe_callB call_len_seq (by rfl) T.n_len PySem.boot_len (pa_cons (pv 1) pa_nil)))) pem_int) pam_nil))) on_max))))) (psm_cons (psm_for (ws := [3]) PassesOwn.never rfl (pim_rng1 (pi_range1 rfl T.n_range (pam_cons (pem_lenv (pe_callB call_len_seq (by rfl) T.n_len PySem.boot_len (pa_cons (pv 0) pa_nil))) pam_nil))) (pgm_name (pg_name (i := 3) sc.nd rfl (by first | exact Or.inl rfl | exact Or.inr rfl)) (by decide)) (psm_one (psm_for (ws := [4]) PassesOwn.never rfl (pim_rng1 (pi_range1 rfl T.n_range (pam_cons (pem_lenv (pe_callB call_len_seq (by rfl) T.n_len PySem.boot_len (pa_cons (pv 1) pa_nil))) pam_nil))) (pgm_name (pg_name (i := 4) sc.nd rfl (by first | exact Or.inl rfl | exact Or.inr rfl)) (by decide)) (psm_one (psm_setix (ps_asg (pem_call (call_def T.d__law_add hr (by decide) (by rfl) (pam_cons (pem_ixv (pv 2) (pem_add (pem_var (pv 3)) (pem_var (pv 4))) (fun _ _ => rfl)) (pam_cons (pem_call (call_def T.d__law_times hr (by decide) (by rfl) (pam_cons (pem_ixv (pv 0) (pem_var (pv 3)) (fun _ _ => rfl)) (pam_cons (pem_ixv (pv 1) (pem_var (pv 4)) (fun _ _ => rfl)) pam_nil))) (dlen_cons (dlen_cons dlen_nil))) pam_nil))) (dlen_cons (dlen_cons dlen_nil))) (pg_sub (pv 2) (pem_add (pem_var (pv 3)) (pem_var (pv 4))) set_list))))))) (psm_one (psm_ret (pem_call (call_def T.d__law_trim hr (by decide) (by rfl) (pam_cons (pem_var (pv 2)) pam_nil)) (dlen_cons dlen_nil))))))
theorem ok__law_mul (A : At K mg "_law_mul" s__law_mul) (T : N__law_mul P w K mg base) : Def P w K mg base "_law_mul" 4 ["one", "other"] (spP K f__law_mul 2) := by
  obtain ⟨f, fd, F, hm⟩ := A.ex
  exact ⟨f, fd, fok__law_mul F T, F.binds (ps := ["one", "other"]) (fun _ _ _ _ _ _ us hl => match us, hl with | [_, _], _ => rfl), hm, F.kp⟩
abbrev s__law_sum : Stmt := top 52
theorem sc__law_sum : FnScope ["one", "other", "size", "rows", "row", "at"] ["one", "other"] (defScope s__law_sum) := ⟨rfl, rfl, rfl, by decide +kernel, rfl, by decide +kernel, by decide +kernel⟩
structure N__law_sum (P : Program) (w : World) (K : PySem.W.Frag) (mg : Str → Option Value) (base : Heap) : Prop extends Names K mg where
  d__law_add : Def P w K mg base "_law_add" 3 ["one", "other"] (spP K f__law_add 2)
  d__law_trim : Def P w K mg base "_law_trim" 1 ["parts"] (spP K f__law_trim 1)
theorem fok__law_sum {f : Addr} {fd : FuncData} (F : Fun K "_law_sum" "_law_sum" s__law_sum f fd) (T : N__law_sum P w K mg base) : FnOk P w K mg base CX0 4 f fd ["one", "other"] (spP K f__law_sum 2) := by
  have sc := sc__law_sum
  refine fnP_ok F sc fun cdv Ar outer s H E hr => ?_
  exact (psm_cons (psm_set (ps_set (i := 2) sc.nd rfl (Or.inr rfl) (pei_val (pem_cb (pe_callB (call_max2 rfl) (by rfl) T.n_max (by decide +kernel) (pam_cons (pem_lenv (pe_callB call_len_seq (by rfl) T.n_len PySem.boot_len (pa_cons (pv 0) pa_nil))) (pam_cons (pem_lenv (pe_callB call_len_seq (by rfl) T.n_len PySem.boot_len (pa_cons (pv 1) pa_nil))) pam_nil))) on_max)))) (psm_cons (psm_set (ps_set (i := 3) sc.nd rfl (Or.inr rfl) (pei_val (pem_frz (peo_lc (pe_lc (own := [("row", 4)]) rfl sc.nd (pim_seq (pem_frz (peo_lst (pam_cons (pem_var (pv 0)) (pam_cons (pem_var (pv 1)) pam_nil))))) (blkOk_by (N := ["one", "other", "size", "rows", "row", "at"]) (sc := defScope s__law_sum) (by decide +kernel)) (fun _ _ _ _ _ => (pgm_name (pg_name (i := 4) sc.nd rfl (by first | exact Or.inl rfl | exact Or.inr rfl)) (by decide))) (fun _ _ _ _ _ => tests_nil) (fun _ _ _ _ _ => (pem_frz (peo_cat (pem_frz (peo_listv (pe_callTy call_list_of (by rfl) T.n_list PyProof.Rows.boot_list (pa_cons (pv 4) pa_nil)))) (pem_frz (peo_rep (peo_lst (pam_cons (pem_tup (pam_cons pem_int (pam_cons pem_int pam_nil))) pam_nil)) (pem_sub (pem_var (pv 2)) (pem_lenv (pe_callB call_len_seq (by rfl) T.n_len PySem.boot_len (pa_cons (pv 4) pa_nil))))))))))))))) (psm_one (psm_ret (pem_call (call_def T.d__law_trim hr (by decide) (by rfl) (pam_cons (pem_frz (peo_lc (pe_lc (own := [("at", 5)]) rfl sc.nd (pim_rng1 (pi_range1 rfl T.n_range (pam_cons (pem_var (pv 2)) pam_nil))) (blkOk_by (N := ["one", "other", "size", "rows", "row", "at"]) (sc := defScope s__law_sum) (by decide +kernel)) (fun _ _ _ _ _ => (pgm_name (pg_name (i := 5) sc.nd rfl (by first | exact Or.inl rfl | exact Or.inr rfl)) (by decide))) (fun _ _ _ _ _ => tests_nil) (fun _ _ _ _ _ => (pem_call (call_def T.d__law_add hr (by decide) (by rfl) (pam_cons (pem_ix (pem_ixv (pv 3) pem_int (fun _ _ => rfl)) (pem_var (pv 5)) (fun _ _ => rfl)) (pam_cons (pem_ix (pem_ixv (pv 3) pem_int (fun _ _ => rfl)) (pem_var (pv 5)) (fun _ _ => rfl)) pam_nil))) (dlen_cons (dlen_cons dlen_nil))))))) pam_nil)) (dlen_cons dlen_nil))))))
theorem ok__law_sum (A : At K mg "_law_sum" s__law_sum) (T : N__law_sum P w K mg base) : Def P w K mg base "_law_sum" 4 ["one", "other"] (spP K f__law_sum 2) := by
  obtain ⟨f, fd, F, hm⟩ := A.ex
  exact ⟨f, fd, fok__law_sum F T, F.binds (ps := ["one", "other"]) (fun _ _ _ _ _ _ us hl => match us, hl with | [_, _], _ => rfl), hm, F.kp⟩
abbrev s__law_at : Stmt := top 53
theorem sc__law_at : FnScope ["poly", "x", "found", "part"] ["poly", "x"] (defScope s__law_at) := ⟨rfl, rfl, rfl, by decide +kernel, rfl, by decide +kernel, by decide +kernel⟩
structure N__law_at (P : Program) (w : World) (K : PySem.W.Frag) (mg : Str → Option Value) (base : Heap) : Prop extends Names K mg where
  d__law_add : Def P w K mg base "_law_add" 3 ["one", "other"] (spP K f__law_add 2)
  d__law_times : Def P w K mg base "_law_times" 3 ["one", "other"] (spP K f__law_times 2)
theorem fok__law_at {f : Addr} {fd : FuncData} (F : Fun K "_law_at" "_law_at" s__law_at f fd) (T : N__law_at P w K mg base) : FnOk P w K mg base CX0 4 f fd ["poly", "x"] (spP K f__law_at 2) := by
  have sc := sc__law_at
  refine fnP_ok F sc fun cdv Ar outer s H E hr => ?_
  exact (psm_cons (psm_set (ps_set (i := 2) sc.nd rfl (Or.inl rfl) (pei_val (pem_tup (pam_cons pem_int (pam_cons pem_int pam_nil)))))) (psm_cons (psm_for (ws := [3]) PassesOwn.never rfl (pim_seq (pem_revt (pem_var (pv 0)))) (pgm_name (pg_name (i := 3) sc.nd rfl (by first | exact Or.inl rfl | exact Or.inr rfl)) (by decide)) (psm_one (psm_set (ps_set (i := 2) sc.nd rfl (Or.inl rfl) (pei_val (pem_call (call_def T.d__law_add hr (by decide) (by rfl) (pam_cons (pem_call (call_def T.d__law_times hr (by decide) (by rfl) (pam_cons (pem_var (pv 2)) (pam_cons (pem_var (pv 1)) pam_nil))) (dlen_cons (dlen_cons dlen_nil))) (pam_cons (pem_var (pv 3)) pam_nil))) (dlen_cons (dlen_cons dlen_nil)))))))) (psm_one (psm_ret (pem_var (pv 2))))))
theorem ok__law_at (A : At K mg "_law_at" s__law_at) (T : N__law_at P w K mg base) : Def P w K mg base "_law_at" 4 ["poly", "x"] (spP K f__law_at 2) := by
  obtain ⟨f, fd, F, hm⟩ := A.ex
  exact ⟨f, fd, fok__law_at F T, F.binds (ps := ["poly", "x"]) (fun _ _ _ _ _ _ us hl => match us, hl with | [_, _], _ => rfl), hm, F.kp⟩
abbrev s__law_by : Stmt := top 54
theorem sc__law_by : FnScope ["one", "other", "turn"] ["one", "other"] (defScope s__law_by) := ⟨rfl, rfl, rfl, by decide +kernel, rfl, by decide +kernel, by decide +kernel⟩
structure N__law_by (P : Program) (w : World) (K : PySem.W.Frag) (mg : Str → Option Value) (base : Heap) : Prop extends Names K mg where
  d__law_lowest : Def P w K mg base "_law_lowest" 2 ["top", "low"] (spP K f__law_lowest 2)
theorem fok__law_by {f : Addr} {fd : FuncData} (F : Fun K "_law_by" "_law_by" s__law_by f fd) (T : N__law_by P w K mg base) : FnOk P w K mg base CX0 3 f fd ["one", "other"] (spP K f__law_by 2) := by
  have sc := sc__law_by
  refine fnP_ok F sc fun cdv Ar outer s H E hr => ?_
  exact (psm_cons (psm_set (ps_set (i := 2) sc.nd rfl (Or.inl rfl) (pei_val (pem_ifx (ptm_cmp op_gt o2_cmp (nomark _) (pem_ixv (pv 1) pem_int (fun _ _ => rfl)) pem_int) pem_int (pem_neg pem_int))))) (psm_one (psm_ret (pem_call (call_def T.d__law_lowest hr (by decide) (by rfl) (pam_cons (pem_mul (pem_mul (pem_var (pv 2)) (pem_ixv (pv 0) pem_int (fun _ _ => rfl))) (pem_ixv (pv 1) pem_int (fun _ _ => rfl))) (pam_cons (pem_mul (pem_mul (pem_var (pv 2)) (pem_ixv (pv 0) pem_int (fun _ _ => rfl))) (pem_ixv (pv 1) pem_int (fun _ _ => rfl))) pam_nil))) (dlen_cons (dlen_cons dlen_nil))))))
theorem ok__law_by (A : At K mg "_law_by" s__law_by) (T : N__law_by P w K mg base) : Def P w K mg base "_law_by" 3 ["one", "other"] (spP K f__law_by 2) := by
  obtain ⟨f, fd, F, hm⟩ := A.ex
  exact ⟨f, fd, fok__law_by F T, F.binds (ps := ["one", "other"]) (fun _ _ _ _ _ _ us hl => match us, hl with | [_, _], _ => rfl), hm, F.kp⟩
abbrev s__law_monic : Stmt := top 55
theorem sc__law_monic : FnScope ["poly", "part"] ["poly"] (defScope s__law_monic) := ⟨rfl, rfl, rfl, by decide +kernel, rfl, by decide +kernel, by decide +kernel⟩
structure N__law_monic (P : Program) (w : World) (K : PySem.W.Frag) (mg : Str → Option Value) (base : Heap) : Prop extends Names K mg where
  d__law_by : Def P w K mg base "_law_by" 3 ["one", "other"] (spP K f__law_by 2)
theorem fok__law_monic {f : Addr} {fd : FuncData} (F : Fun K "_law_monic" "_law_monic" s__law_monic f fd) (T : N__law_monic P w K mg base) : FnOk P w K mg base CX0 4 f fd ["poly"] (spP K f__law_monic 1) := by
  have sc := sc__law_monic
  refine fnP_ok F sc fun cdv Ar outer s H E hr => ?_
  exact (psm_one (psm_ret (pem_cb (pe_callTy call_tuple_of (by rfl) T.n_tuple PyProof.Rows.boot_tuple (pam_cons (pem_frz (peo_lc (pe_lc (own := [("part", 1)]) rfl sc.nd (pim_seq (pem_var (pv 0))) (blkOk_by (N := ["poly", "part"]) (sc := defScope s__law_monic) (by decide +kernel)) (fun _ _ _ _ _ => (pgm_name (pg_name (i := 1) sc.nd rfl (by first | exact Or.inl rfl | exact Or.inr rfl)) (by decide))) (fun _ _ _ _ _ => tests_nil) (fun _ _ _ _ _ => (pem_call (call_def T.d__law_by hr (by decide) (by rfl) (pam_cons (pem_var (pv 1)) (pam_cons (pem_ixv (pv 0) (pem_neg pem_int) (fun _ _ => rfl)) pam_nil))) (dlen_cons (dlen_cons dlen_nil))))))) pam_nil)) on_tup)))
theorem ok__law_monic (A : At K mg "_law_monic" s__law_monic) (T : N__law_monic P w K mg base) : Def P w K mg base "_law_monic" 4 ["poly"] (spP K f__law_monic 1) := by
  obtain ⟨f, fd, F, hm⟩ := A.ex
  exact ⟨f, fd, fok__law_monic F T, F.binds (ps := ["poly"]) (fun _ _ _ _ _ _ us hl => match us, hl with | [_], _ => rfl), hm, F.kp⟩
abbrev s__law_loose_poly : Stmt := top 56
theorem sc__law_loose_poly : FnScope ["draws", "most", "parts", "at"] ["draws", "most"] (defScope s__law_loose_poly) := ⟨rfl, rfl, rfl, by decide +kernel, rfl, by decide +kernel, by decide +kernel⟩
structure N__law_loose_poly (P : Program) (w : World) (K : PySem.W.Frag) (mg : Str → Option Value) (base : Heap) : Prop extends Names K mg where
  d__law_lowest : Def P w K mg base "_law_lowest" 2 ["top", "low"] (spP K f__law_lowest 2)
  d__law_next : Def P w K mg base "_law_next" 1 ["draws"] (spI K f__law_next 0)
theorem fok__law_loose_poly {f : Addr} {fd : FuncData} (F : Fun K "_law_loose_poly" "_law_loose_poly" s__law_loose_poly f fd) (T : N__law_loose_poly P w K mg base) : FnOk P w K mg base CX0 3 f fd ["draws", "most"] (spI K f__law_loose_poly 1) := by
  have sc := sc__law_loose_poly
  refine fnI_ok F sc fun cdv Ar outer s H E hr => ?_
  exact (psm_cons (psm_set (asg_imp (asg_imp (asg_imp (ps_setLc (i := 2) (own := [("at", 3)]) rfl sc.nd rfl rfl (sw_true rfl rfl rfl (by decide +kernel)) (pim_rng1 (pi_range1 rfl T.n_range (pam_cons (pem_mod (pem_cb (pe_callTy call_int1 (by rfl) T.n_int PyProof.Rows.boot_int (pam_cons (pem_calli (call_def T.d__law_next hr (by decide) (by rfl) (pa_cons (pv 0) pam_nil)) dlen_nil) pam_nil)) on_int) (pem_add (pem_var (pv 1)) pem_int)) pam_nil))) (blkOk_by (N := ["draws", "most", "parts", "at"]) (sc := defScope s__law_loose_poly) (by decide +kernel)) (fun _ _ _ _ _ => (pgm_name (pg_name (i := 3) sc.nd rfl (by first | exact Or.inl rfl | exact Or.inr rfl)) (by decide))) (fun _ _ _ _ _ => tests_nil) (fun _ _ _ _ _ => (pem_call (call_def T.d__law_lowest hr (by decide) (by rfl) (pam_cons (pem_sub (pem_mod (pem_cb (pe_callTy call_int1 (by rfl) T.n_int PyProof.Rows.boot_int (pam_cons (pem_calli (call_def T.d__law_next hr (by decide) (by rfl) (pa_cons (pv 0) pam_nil)) dlen_nil) pam_nil)) on_int) pem_int) pem_int) (pam_cons (pem_add pem_int (pem_mod (pem_cb (pe_callTy call_int1 (by rfl) T.n_int PyProof.Rows.boot_int (pam_cons (pem_calli (call_def T.d__law_next hr (by decide) (by rfl) (pa_cons (pv 0) pam_nil)) dlen_nil) pam_nil)) on_int) pem_int)) pam_nil))) (dlen_cons (dlen_cons dlen_nil))))) lc_imp) frz_imp) val_imp)) (psm_one (psm_ret (pem_add (pem_tupv (pe_callTy call_tuple_of (by rfl) T.n_tuple PyProof.Rows.boot_tuple (pa_cons (pv 2) pa_nil))) (pem_tup (pam_cons (pem_call (call_def T.d__law_lowest hr (by decide) (by rfl) (pam_cons (pem_add pem_int (pem_mod (pem_cb (pe_callTy call_int1 (by rfl) T.n_int PyProof.Rows.boot_int (pam_cons (pem_calli (call_def T.d__law_next hr (by decide) (by rfl) (pa_cons (pv 0) pam_nil)) dlen_nil) pam_nil)) on_int) pem_int)) (pam_cons (pem_add pem_int (pem_mod (pem_cb (pe_callTy call_int1 (by rfl) T.n_int PyProof.Rows.boot_int (pam_cons (pem_calli (call_def T.d__law_next hr (by decide) (by rfl) (pa_cons (pv 0) pam_nil)) dlen_nil) pam_nil)) on_int) pem_int)) pam_nil))) (dlen_cons (dlen_cons dlen_nil))) pam_nil))))))
theorem ok__law_loose_poly (A : At K mg "_law_loose_poly" s__law_loose_poly) (T : N__law_loose_poly P w K mg base) : Def P w K mg base "_law_loose_poly" 3 ["draws", "most"] (spI K f__law_loose_poly 1) := by
  obtain ⟨f, fd, F, hm⟩ := A.ex
  exact ⟨f, fd, fok__law_loose_poly F T, F.binds (ps := ["draws", "most"]) (fun _ _ _ _ _ _ us hl => match us, hl with | [_, _], _ => rfl), hm, F.kp⟩
abbrev s__law_power : Stmt := top 57
theorem sc__law_power : FnScope ["poly", "n", "found", "turn"] ["poly", "n"] (defScope s__law_power) := ⟨rfl, rfl, rfl, by decide +kernel, rfl, by decide +kernel, by decide +kernel⟩
structure N__law_power (P : Program) (w : World) (K : PySem.W.Frag) (mg : Str → Option Value) (base : Heap) : Prop extends Names K mg where
  d__law_mul : Def P w K mg base "_law_mul" 4 ["one", "other"] (spP K f__law_mul 2)
theorem fok__law_power {f : Addr} {fd : FuncData} (F : Fun K "_law_power" "_law_power" s__law_power f fd) (T : N__law_power P w K mg base) : FnOk P w K mg base CX0 5 f fd ["poly", "n"] (spP K f__law_power 2) := by
  have sc := sc__law_power
  refine fnP_ok F sc fun cdv Ar outer s H E hr => ?_
  exact (psm_cons (psm_set (ps_set (i := 2) sc.nd rfl (Or.inl rfl) (pei_val (pem_tup (pam_cons (pem_tup (pam_cons pem_int (pam_cons pem_int pam_nil))) pam_nil))))) (psm_cons (psm_for (ws := [3]) PassesOwn.never rfl (pim_rng1 (pi_range1 rfl T.n_range (pam_cons (pem_var (pv 1)) pam_nil))) (pgm_name (pg_name (i := 3) sc.nd rfl (by first | exact Or.inl rfl | exact Or.inr rfl)) (by decide)) (psm_one (psm_set (ps_set (i := 2) sc.nd rfl (Or.inl rfl) (pei_val (pem_call (call_def T.d__law_mul hr (by decide) (by rfl) (pam_cons (pem_var (pv 2)) (pam_cons (pem_var (pv 0)) pam_nil))) (dlen_cons (dlen_cons dlen_nil)))))))) (psm_one (psm_ret (pem_var (pv 2))))))
theorem ok__law_power (A : At K mg "_law_power" s__law_power) (T : N__law_power P w K mg base) : Def P w K mg base "_law_power" 5 ["poly", "n"] (spP K f__law_power 2) := by
  obtain ⟨f, fd, F, hm⟩ := A.ex
  exact ⟨f, fd, fok__law_power F T, F.binds (ps := ["poly", "n"]) (fun _ _ _ _ _ _ us hl => match us, hl with | [_, _], _ => rfl), hm, F.kp⟩
abbrev s__law_main : Stmt := top 58
theorem sc__law_main : FnScope ["script", "draws", "turn", "one", "other", "third", "left", "shared", "free", "whole", "parts", "found", "at", "x", "ints", "scale", "part", "to"] ["script"] (defScope s__law_main) := ⟨rfl, rfl, rfl, by decide +kernel, rfl, by decide +kernel, by decide +kernel⟩
structure N__law_main (P : Program) (w : World) (K : PySem.W.Frag) (mg : Str → Option Value) (base : Heap) : Prop extends Names K mg where
  d__law_add : Def P w K mg base "_law_add" 3 ["one", "other"] (spP K f__law_add 2)
  d__law_at : Def P w K mg base "_law_at" 4 ["poly", "x"] (spP K f__law_at 2)
  d__law_by : Def P w K mg base "_law_by" 3 ["one", "other"] (spP K f__law_by 2)
  d__law_draws : Def P w K mg base "_law_draws" 2 ["script"] (spO K f__law_draws 1)
  d__law_loose_poly : Def P w K mg base "_law_loose_poly" 3 ["draws", "most"] (spI K f__law_loose_poly 1)
  d__law_lowest : Def P w K mg base "_law_lowest" 2 ["top", "low"] (spP K f__law_lowest 2)
  d__law_monic : Def P w K mg base "_law_monic" 4 ["poly"] (spP K f__law_monic 1)
  d__law_more : Def P w K mg base "_law_more" 2 ["draws", "many"] (spIO K f__law_more 1)
  d__law_mul : Def P w K mg base "_law_mul" 4 ["one", "other"] (spP K f__law_mul 2)
  d__law_next : Def P w K mg base "_law_next" 1 ["draws"] (spI K f__law_next 0)
  d__law_power : Def P w K mg base "_law_power" 5 ["poly", "n"] (spP K f__law_power 2)
  d__law_sum : Def P w K mg base "_law_sum" 4 ["one", "other"] (spP K f__law_sum 2)
  d__law_times : Def P w K mg base "_law_times" 3 ["one", "other"] (spP K f__law_times 2)
  d__law_trim : Def P w K mg base "_law_trim" 1 ["parts"] (spP K f__law_trim 1)
  d_common_divisor : Def P w K mg base "common_divisor" 6 ["one", "other"] (spP K f_common_divisor 2)
  d_division : Def P w K mg base "division" 6 ["one", "other"] (spP K f_division 2)
  d_product_of : Def P w K mg base "product_of" 6 ["one", "other"] (spP K f_product_of 2)
  d_squarefree : Def P w K mg base "squarefree" 7 ["poly"] (spP K f_squarefree 1)
  d_squarefree_parts : Def P w K mg base "squarefree_parts" 7 ["poly"] (spP K f_squarefree_parts 1)
  d_sum_of : Def P w K mg base "sum_of" 6 ["one", "other"] (spP K f_sum_of 2)
  d_value_of : Def P w K mg base "value_of" 5 ["poly", "x"] (spP K f_value_of 2)
  d_whole_form : Def P w K mg base "whole_form" 5 ["poly"] (spP K f_whole_form 1)
theorem fok__law_main {f : Addr} {fd : FuncData} (F : Fun K "_law_main" "_law_main" s__law_main f fd) (T : N__law_main P w K mg base) : FnOk P w K mg base CX0 8 f fd ["script"] (spP K f__law_main 1) := by
  have sc := sc__law_main
  refine fnP_ok F sc fun cdv Ar outer s H E hr => ?_
  exact (psm_cons (psm_set (ps_set (i := 1) sc.nd rfl (Or.inr rfl) (pei_own (peo_call (call_def T.d__law_draws hr (by decide) (by rfl) (pam_cons (pem_var (pv 0)) pam_nil)) (dlen_cons dlen_nil))))) (psm_cons (psm_set (ps_set (i := 1) sc.nd rfl (Or.inr rfl) (pei_own (peo_calli (call_def T.d__law_more hr (by decide) (by rfl) (pa_cons (pv 1) (pam_cons pem_int pam_nil))) (dlen_cons dlen_nil))))) (psm_cons (psm_for (ws := [2]) PassesOwn.never rfl (pim_rng1 (pi_range1 rfl T.n_range (pam_cons pem_int pam_nil))) (pgm_name (pg_name (i := 2) sc.nd rfl (by first | exact Or.inl rfl | exact Or.inr rfl)) (by decide)) (psm_cons (psm_asg (ws := [3, 4, 5]) (ps_asg (pem_tup (pam_cons (pem_calli (call_def T.d__law_loose_poly hr (by decide) (by rfl) (pa_cons (pv 1) (pam_cons pem_int pam_nil))) (dlen_cons dlen_nil)) (pam_cons (pem_calli (call_def T.d__law_loose_poly hr (by decide) (by rfl) (pa_cons (pv 1) (pam_cons pem_int pam_nil))) (dlen_cons dlen_nil)) (pam_cons (pem_calli (call_def T.d__law_loose_poly hr (by decide) (by rfl) (pa_cons (pv 1) (pam_cons pem_int pam_nil))) (dlen_cons dlen_nil)) pam_nil)))) (pgm_tup (n := 3) rfl (pgms_cons (pgm_name (pg_name (i := 3) sc.nd rfl (by first | exact Or.inl rfl | exact Or.inr rfl)) (by decide)) (pgms_cons (pgm_name (pg_name (i := 4) sc.nd rfl (by first | exact Or.inl rfl | exact Or.inr rfl)) (by decide)) (pgms_cons (pgm_name (pg_name (i := 5) sc.nd rfl (by first | exact Or.inl rfl | exact Or.inr rfl)) (by decide)) pgms_nil)))))) (psm_cons (psm_set (ps_set (i := 6) sc.nd rfl (Or.inl rfl) (pei_val (pem_call (call_def T.d__law_trim hr (by decide) (by rfl) (pam_cons (pem_cb (pe_callTy call_tuple_of (by rfl) T.n_tuple PyProof.Rows.boot_tuple (pam_cons (pem_frz (peo_lc (pe_lc (own := [("at", 12)]) rfl sc.nd (pim_rng1 (pi_range1 rfl T.n_range (pam_cons (pem_sub (pem_lenv (pe_callB call_len_seq (by rfl) T.n_len PySem.boot_len (pa_cons (pv 4) pa_nil))) pem_int) pam_nil))) (blkOk_by (N := ["script", "draws", "turn", "one", "other", "third", "left", "shared", "free", "whole", "parts", "found", "at", "x", "ints", "scale", "part", "to"]) (sc := defScope s__law_main) (by decide +kernel)) (fun _ _ _ _ _ => (pgm_name (pg_name (i := 12) sc.nd rfl (by first | exact Or.inl rfl | exact Or.inr rfl)) (by decide))) (fun _ _ _ _ _ => tests_nil) (fun _ _ _ _ _ => (pem_call (call_def T.d__law_lowest hr (by decide) (by rfl) (pam_cons (pem_sub (pem_mod (pem_cb (pe_callTy call_int1 (by rfl) T.n_int PyProof.Rows.boot_int (pam_cons (pem_calli (call_def T.d__law_next hr (by decide) (by rfl) (pa_cons (pv 1) pam_nil)) dlen_nil) pam_nil)) on_int) pem_int) pem_int) (pam_cons (pem_add pem_int (pem_mod (pem_cb (pe_callTy call_int1 (by rfl) T.n_int PyProof.Rows.boot_int (pam_cons (pem_calli (call_def T.d__law_next hr (by decide) (by rfl) (pa_cons (pv 1) pam_nil)) dlen_nil) pam_nil)) on_int) pem_int)) pam_nil))) (dlen_cons (dlen_cons dlen_nil))))))) pam_nil)) on_tup) pam_nil)) (dlen_cons dlen_nil))))) (psm_cons (psm_if (ptm_w (pwm_or (ptm_cmp (op_neD hr.units) o2_ne (nomark _) (pem_call (call_def T.d_product_of hr (by decide) (by rfl) (pam_cons (pem_var (pv 3)) (pam_cons (pem_var (pv 4)) pam_nil))) (dlen_cons (dlen_cons dlen_nil))) (pem_call (call_def T.d__law_mul hr (by decide) (by rfl) (pam_cons (pem_var (pv 3)) (pam_cons (pem_var (pv 4)) pam_nil))) (dlen_cons (dlen_cons dlen_nil)))) (pwm_or (ptm_cmp (op_neD hr.units) o2_ne (nomark _) (pem_call (call_def T.d_sum_of hr (by decide) (by rfl) (pam_cons (pem_var (pv 3)) (pam_cons (pem_var (pv 4)) pam_nil))) (dlen_cons (dlen_cons dlen_nil))) (pem_call (call_def T.d__law_sum hr (by decide) (by rfl) (pam_cons (pem_var (pv 3)) (pam_cons (pem_var (pv 4)) pam_nil))) (dlen_cons (dlen_cons dlen_nil)))) (pwm_or (ptm_cmp (op_neD hr.units) o2_ne (nomark _) (pem_call (call_def T.d_product_of hr (by decide) (by rfl) (pam_cons (pem_var (pv 3)) (pam_cons (pem_tup pam_nil) pam_nil))) (dlen_cons (dlen_cons dlen_nil))) (pem_tup pam_nil)) (pwm_or1 (ptm_cmp (op_neD hr.units) o2_ne (nomark _) (pem_call (call_def T.d_sum_of hr (by decide) (by rfl) (pam_cons (pem_var (pv 3)) (pam_cons (pem_tup pam_nil) pam_nil))) (dlen_cons (dlen_cons dlen_nil))) (pem_var (pv 3)))))))) (psm_one (psm_ret pem_bl)) psm_nil) (psm_cons (psm_if (ptm_w (pwm_or (ptm_cmp (op_neD hr.units) o2_ne (nomark _) (pem_call (call_def T.d_division hr (by decide) (by rfl) (pam_cons (pem_call (call_def T.d__law_sum hr (by decide) (by rfl) (pam_cons (pem_call (call_def T.d__law_mul hr (by decide) (by rfl) (pam_cons (pem_var (pv 3)) (pam_cons (pem_var (pv 4)) pam_nil))) (dlen_cons (dlen_cons dlen_nil))) (pam_cons (pem_var (pv 6)) pam_nil))) (dlen_cons (dlen_cons dlen_nil))) (pam_cons (pem_var (pv 4)) pam_nil))) (dlen_cons (dlen_cons dlen_nil))) (pem_tup (pam_cons (pem_var (pv 3)) (pam_cons (pem_var (pv 6)) pam_nil)))) (pwm_or1 (ptm_cmp (op_neD hr.units) o2_ne (nomark _) (pem_call (call_def T.d_division hr (by decide) (by rfl) (pam_cons (pem_var (pv 6)) (pam_cons (pem_var (pv 4)) pam_nil))) (dlen_cons (dlen_cons dlen_nil))) (pem_tup (pam_cons (pem_tup pam_nil) (pam_cons (pem_var (pv 6)) pam_nil))))))) (psm_one (psm_ret pem_bl)) psm_nil) (psm_cons (psm_if (ptm_cmp (op_neD hr.units) o2_ne (nomark _) (pem_call (call_def T.d_product_of hr (by decide) (by rfl) (pam_cons (pem_call (call_def T.d_sum_of hr (by decide) (by rfl) (pam_cons (pem_var (pv 3)) (pam_cons (pem_var (pv 4)) pam_nil))) (dlen_cons (dlen_cons dlen_nil))) (pam_cons (pem_var (pv 5)) pam_nil))) (dlen_cons (dlen_cons dlen_nil))) (pem_call (call_def T.d_sum_of hr (by decide) (by rfl) (pam_cons (pem_call (call_def T.d_product_of hr (by decide) (by rfl) (pam_cons (pem_var (pv 3)) (pam_cons (pem_var (pv 5)) pam_nil))) (dlen_cons (dlen_cons dlen_nil))) (pam_cons (pem_call (call_def T.d_product_of hr (by decide) (by rfl) (pam_cons (pem_var (pv 4)) (pam_cons (pem_var (pv 5)) pam_nil))) (dlen_cons (dlen_cons dlen_nil))) pam_nil))) (dlen_cons (dlen_cons dlen_nil)))) (psm_one (psm_ret pem_bl)) psm_nil) (psm_cons (psm_set (ps_set (i := 7) sc.nd rfl (Or.inl rfl) (pei_val (pem_call (call_def T.d_common_divisor hr (by decide) (by rfl) (pam_cons (pem_var (pv 3)) (pam_cons (pem_var (pv 4)) pam_nil))) (dlen_cons (dlen_cons dlen_nil)))))) (psm_cons (psm_if (ptm_w (pwm_or (ptm_cmp (op_neD hr.units) o2_ne (nomark _) (pem_call (call_def T.d_common_divisor hr (by decide) (by rfl) (pam_cons (pem_var (pv 4)) (pam_cons (pem_var (pv 3)) pam_nil))) (dlen_cons (dlen_cons dlen_nil))) (pem_var (pv 7))) (pwm_or (ptm_cmp (op_neD hr.units) o2_ne (nomark _) (pem_call (call_def T.d_common_divisor hr (by decide) (by rfl) (pam_cons (pem_var (pv 3)) (pam_cons (pem_var (pv 3)) pam_nil))) (dlen_cons (dlen_cons dlen_nil))) (pem_call (call_def T.d__law_monic hr (by decide) (by rfl) (pam_cons (pem_var (pv 3)) pam_nil)) (dlen_cons dlen_nil))) (pwm_or (ptm_cmp (op_neD hr.units) o2_ne (nomark _) (pem_call (call_def T.d_common_divisor hr (by decide) (by rfl) (pam_cons (pem_var (pv 3)) (pam_cons (pem_tup pam_nil) pam_nil))) (dlen_cons (dlen_cons dlen_nil))) (pem_call (call_def T.d__law_monic hr (by decide) (by rfl) (pam_cons (pem_var (pv 3)) pam_nil)) (dlen_cons dlen_nil))) (pwm_or1 (ptm_cmp (op_neD hr.units) o2_ne (nomark _) (pem_call (call_def T.d_common_divisor hr (by decide) (by rfl) (pam_cons (pem_tup pam_nil) (pam_cons (pem_tup pam_nil) pam_nil))) (dlen_cons (dlen_cons dlen_nil))) (pem_tup pam_nil))))))) (psm_one (psm_ret pem_bl)) psm_nil) (psm_cons (psm_if (ptm_w (pwm_or (ptm_cmp (op_neD hr.units) o2_ne (nomark _) (pem_call (call_def T.d_common_divisor hr (by decide) (by rfl) (pam_cons (pem_call (call_def T.d__law_mul hr (by decide) (by rfl) (pam_cons (pem_var (pv 3)) (pam_cons (pem_var (pv 5)) pam_nil))) (dlen_cons (dlen_cons dlen_nil))) (pam_cons (pem_call (call_def T.d__law_mul hr (by decide) (by rfl) (pam_cons (pem_var (pv 4)) (pam_cons (pem_var (pv 5)) pam_nil))) (dlen_cons (dlen_cons dlen_nil))) pam_nil))) (dlen_cons (dlen_cons dlen_nil))) (pem_call (call_def T.d__law_monic hr (by decide) (by rfl) (pam_cons (pem_call (call_def T.d__law_mul hr (by decide) (by rfl) (pam_cons (pem_var (pv 7)) (pam_cons (pem_var (pv 5)) pam_nil))) (dlen_cons (dlen_cons dlen_nil))) pam_nil)) (dlen_cons dlen_nil))) (pwm_or (ptm_cmp (op_neD hr.units) o2_ne (nomark _) (pem_ix (pem_call (call_def T.d_division hr (by decide) (by rfl) (pam_cons (pem_var (pv 3)) (pam_cons (pem_var (pv 7)) pam_nil))) (dlen_cons (dlen_cons dlen_nil))) pem_int (fun _ _ => rfl)) (pem_tup pam_nil)) (pwm_or1 (ptm_cmp (op_neD hr.units) o2_ne (nomark _) (pem_ix (pem_call (call_def T.d_division hr (by decide) (by rfl) (pam_cons (pem_var (pv 4)) (pam_cons (pem_var (pv 7)) pam_nil))) (dlen_cons (dlen_cons dlen_nil))) pem_int (fun _ _ => rfl)) (pem_tup pam_nil)))))) (psm_one (psm_ret pem_bl)) psm_nil) (psm_cons (psm_if (ptm_cmp (op_neD hr.units) o2_ne (nomark _) (pem_call (call_def T.d_common_divisor hr (by decide) (by rfl) (pam_cons (pem_var (pv 3)) (pam_cons (pem_call (call_def T.d__law_sum hr (by decide) (by rfl) (pam_cons (pem_call (call_def T.d__law_mul hr (by decide) (by rfl) (pam_cons (pem_var (pv 3)) (pam_cons (pem_var (pv 5)) pam_nil))) (dlen_cons (dlen_cons dlen_nil))) (pam_cons (pem_var (pv 4)) pam_nil))) (dlen_cons (dlen_cons dlen_nil))) pam_nil))) (dlen_cons (dlen_cons dlen_nil))) (pem_var (pv 7))) (psm_one (psm_ret pem_bl)) psm_nil) (psm_cons (psm_set (ps_set (i := 8) sc.nd rfl (Or.inl rfl) (pei_val (pem_call (call_def T.d_squarefree hr (by decide) (by rfl) (pam_cons (pem_call (call_def T.d__law_mul hr (by decide) (by rfl) (pam_cons (pem_var (pv 3)) (pam_cons (pem_var (pv 4)) pam_nil))) (dlen_cons (dlen_cons dlen_nil))) pam_nil)) (dlen_cons dlen_nil))))) (psm_cons (psm_if (ptm_w (pwm_or (ptm_cmp (op_neD hr.units) o2_ne (nomark _) (pem_call (call_def T.d_squarefree hr (by decide) (by rfl) (pam_cons (pem_call (call_def T.d__law_mul hr (by decide) (by rfl) (pam_cons (pem_call (call_def T.d__law_power hr (by decide) (by rfl) (pam_cons (pem_var (pv 3)) (pam_cons pem_int pam_nil))) (dlen_cons (dlen_cons dlen_nil))) (pam_cons (pem_var (pv 4)) pam_nil))) (dlen_cons (dlen_cons dlen_nil))) pam_nil)) (dlen_cons dlen_nil)) (pem_var (pv 8))) (pwm_or (ptm_cmp (op_neD hr.units) o2_ne (nomark _) (pem_call (call_def T.d_squarefree hr (by decide) (by rfl) (pam_cons (pem_var (pv 8)) pam_nil)) (dlen_cons dlen_nil)) (pem_var (pv 8))) (pwm_or1 (ptm_cmp (op_neD hr.units) o2_ne (nomark _) (pem_call (call_def T.d_common_divisor hr (by decide) (by rfl) (pam_cons (pem_var (pv 8)) (pam_cons (pem_call (call_def T.d__law_mul hr (by decide) (by rfl) (pam_cons (pem_var (pv 3)) (pam_cons (pem_var (pv 4)) pam_nil))) (dlen_cons (dlen_cons dlen_nil))) pam_nil))) (dlen_cons (dlen_cons dlen_nil))) (pem_var (pv 8))))))) (psm_one (psm_ret pem_bl)) psm_nil) (psm_cons (psm_set (ps_set (i := 9) sc.nd rfl (Or.inl rfl) (pei_val (pem_call (call_def T.d__law_mul hr (by decide) (by rfl) (pam_cons (pem_call (call_def T.d__law_mul hr (by decide) (by rfl) (pam_cons (pem_var (pv 3)) (pam_cons (pem_var (pv 3)) pam_nil))) (dlen_cons (dlen_cons dlen_nil))) (pam_cons (pem_call (call_def T.d__law_power hr (by decide) (by rfl) (pam_cons (pem_var (pv 5)) (pam_cons pem_int pam_nil))) (dlen_cons (dlen_cons dlen_nil))) pam_nil))) (dlen_cons (dlen_cons dlen_nil)))))) (psm_cons (psm_asg (ws := [10, 11]) (ps_asg (pem_tup (pam_cons (pem_call (call_def T.d_squarefree_parts hr (by decide) (by rfl) (pam_cons (pem_var (pv 9)) pam_nil)) (dlen_cons dlen_nil)) (pam_cons (pem_tup (pam_cons (pem_tup (pam_cons (pem_ix (pem_ixv (pv 9) (pem_neg pem_int) (fun _ _ => rfl)) pem_int (fun _ _ => rfl)) (pam_cons (pem_ix (pem_ixv (pv 9) (pem_neg pem_int) (fun _ _ => rfl)) pem_int (fun _ _ => rfl)) pam_nil))) pam_nil)) pam_nil))) (pgm_tup (n := 2) rfl (pgms_cons (pgm_name (pg_name (i := 10) sc.nd rfl (by first | exact Or.inl rfl | exact Or.inr rfl)) (by decide)) (pgms_cons (pgm_name (pg_name (i := 11) sc.nd rfl (by first | exact Or.inl rfl | exact Or.inr rfl)) (by decide)) pgms_nil))))) (psm_cons (psm_for (ws := [12]) PassesOwn.never rfl (pim_rng1 (pi_range1 rfl T.n_range (pam_cons (pem_lenv (pe_callB call_len_seq (by rfl) T.n_len PySem.boot_len (pa_cons (pv 10) pa_nil))) pam_nil))) (pgm_name (pg_name (i := 12) sc.nd rfl (by first | exact Or.inl rfl | exact Or.inr rfl)) (by decide)) (psm_one (psm_set (ps_set (i := 11) sc.nd rfl (Or.inl rfl) (pei_val (pem_call (call_def T.d__law_mul hr (by decide) (by rfl) (pam_cons (pem_var (pv 11)) (pam_cons (pem_call (call_def T.d__law_power hr (by decide) (by rfl) (pam_cons (pem_ixv (pv 10) (pem_var (pv 12)) (fun _ _ => rfl)) (pam_cons (pem_add (pem_var (pv 12)) pem_int) pam_nil))) (dlen_cons (dlen_cons dlen_nil))) pam_nil))) (dlen_cons (dlen_cons dlen_nil)))))))) (psm_cons (psm_if (ptm_w (pwm_or (ptm_cmp (op_neD hr.units) o2_ne (nomark _) (pem_var (pv 11)) (pem_var (pv 9))) (pwm_or1 (ptm_not (ptm_val (pem_cb (pe_callB (cr_all rfl) (by rfl) T.n_all PyProof.Rows.boot_all (pam_cons (pem_frz (peo_lc (pe_lc (own := [("part", 16)]) rfl sc.nd (pim_seq (pem_var (pv 10))) (blkOk_by (N := ["script", "draws", "turn", "one", "other", "third", "left", "shared", "free", "whole", "parts", "found", "at", "x", "ints", "scale", "part", "to"]) (sc := defScope s__law_main) (by decide +kernel)) (fun _ _ _ _ _ => (pgm_name (pg_name (i := 16) sc.nd rfl (by first | exact Or.inl rfl | exact Or.inr rfl)) (by decide))) (fun _ _ _ _ _ => tests_nil) (fun _ _ _ _ _ => (pem_cmp (op_eqD hr.units) o2_eq (nomark _) (pem_call (call_def T.d_squarefree hr (by decide) (by rfl) (pam_cons (pem_var (pv 16)) pam_nil)) (dlen_cons dlen_nil)) (pem_var (pv 16))))))) pam_nil)) on_all) (by intro _; rfl)))))) (psm_one (psm_ret pem_bl)) psm_nil) (psm_cons (psm_if (ptm_not (ptm_val (pem_cb (pe_callB (cr_all rfl) (by rfl) T.n_all PyProof.Rows.boot_all (pam_cons (pem_frz (peo_lc (pe_lc (own := [("at", 12)]) rfl sc.nd (pim_rng1 (pi_range1 rfl T.n_range (pam_cons (pem_lenv (pe_callB call_len_seq (by rfl) T.n_len PySem.boot_len (pa_cons (pv 10) pa_nil))) pam_nil))) (blkOk_by (N := ["script", "draws", "turn", "one", "other", "third", "left", "shared", "free", "whole", "parts", "found", "at", "x", "ints", "scale", "part", "to"]) (sc := defScope s__law_main) (by decide +kernel)) (fun _ _ _ _ _ => (pgm_name (pg_name (i := 12) sc.nd rfl (by first | exact Or.inl rfl | exact Or.inr rfl)) (by decide))) (fun _ _ _ _ _ => tests_nil) (fun _ _ _ _ _ => (pem_cb (pe_callB (cr_all rfl) (by rfl) T.n_all PyProof.Rows.boot_all (pam_cons (pem_frz (peo_lc (pe_lc (own := [("to", 17)]) rfl sc.nd (pim_rng1 (pi_range1 rfl T.n_range (pam_cons (pem_var (pv 12)) pam_nil))) (blkOk_by (by first | rfl | decide +kernel)) (fun _ _ _ _ _ => (pgm_name (pg_name (i := 17) sc.nd rfl (by first | exact Or.inl rfl | exact Or.inr rfl)) (by decide))) (fun _ _ _ _ _ => tests_nil) (fun _ _ _ _ _ => (pem_cmp (op_eqD hr.units) o2_eq (nomark _) (pem_call (call_def T.d_common_divisor hr (by decide) (by rfl) (pam_cons (pem_ixv (pv 10) (pem_var (pv 12)) (fun _ _ => rfl)) (pam_cons (pem_ixv (pv 10) (pem_var (pv 17)) (fun _ _ => rfl)) pam_nil))) (dlen_cons (dlen_cons dlen_nil))) (pem_tup (pam_cons (pem_tup (pam_cons pem_int (pam_cons pem_int pam_nil))) pam_nil))))))) pam_nil)) on_all))))) pam_nil)) on_all) (by intro _; rfl))) (psm_one (psm_ret pem_bl)) psm_nil) (psm_cons (psm_set (ps_set (i := 13) sc.nd rfl (Or.inl rfl) (pei_val (pem_call (call_def T.d__law_lowest hr (by decide) (by rfl) (pam_cons (pem_sub (pem_mod (pem_cb (pe_callTy call_int1 (by rfl) T.n_int PyProof.Rows.boot_int (pam_cons (pem_calli (call_def T.d__law_next hr (by decide) (by rfl) (pa_cons (pv 1) pam_nil)) dlen_nil) pam_nil)) on_int) pem_int) pem_int) (pam_cons (pem_add pem_int (pem_mod (pem_cb (pe_callTy call_int1 (by rfl) T.n_int PyProof.Rows.boot_int (pam_cons (pem_calli (call_def T.d__law_next hr (by decide) (by rfl) (pa_cons (pv 1) pam_nil)) dlen_nil) pam_nil)) on_int) pem_int)) pam_nil))) (dlen_cons (dlen_cons dlen_nil)))))) (psm_cons (psm_if (ptm_w (pwm_or (ptm_cmp (op_neD hr.units) o2_ne (nomark _) (pem_call (call_def T.d_value_of hr (by decide) (by rfl) (pam_cons (pem_call (call_def T.d__law_mul hr (by decide) (by rfl) (pam_cons (pem_var (pv 3)) (pam_cons (pem_var (pv 4)) pam_nil))) (dlen_cons (dlen_cons dlen_nil))) (pam_cons (pem_var (pv 13)) pam_nil))) (dlen_cons (dlen_cons dlen_nil))) (pem_call (call_def T.d__law_times hr (by decide) (by rfl) (pam_cons (pem_call (call_def T.d_value_of hr (by decide) (by rfl) (pam_cons (pem_var (pv 3)) (pam_cons (pem_var (pv 13)) pam_nil))) (dlen_cons (dlen_cons dlen_nil))) (pam_cons (pem_call (call_def T.d_value_of hr (by decide) (by rfl) (pam_cons (pem_var (pv 4)) (pam_cons (pem_var (pv 13)) pam_nil))) (dlen_cons (dlen_cons dlen_nil))) pam_nil))) (dlen_cons (dlen_cons dlen_nil)))) (pwm_or1 (ptm_cmp (op_neD hr.units) o2_ne (nomark _) (pem_call (call_def T.d_value_of hr (by decide) (by rfl) (pam_cons (pem_call (call_def T.d__law_sum hr (by decide) (by rfl) (pam_cons (pem_var (pv 3)) (pam_cons (pem_var (pv 4)) pam_nil))) (dlen_cons (dlen_cons dlen_nil))) (pam_cons (pem_var (pv 13)) pam_nil))) (dlen_cons (dlen_cons dlen_nil))) (pem_call (call_def T.d__law_add hr (by decide) (by rfl) (pam_cons (pem_call (call_def T.d_value_of hr (by decide) (by rfl) (pam_cons (pem_var (pv 3)) (pam_cons (pem_var (pv 13)) pam_nil))) (dlen_cons (dlen_cons dlen_nil))) (pam_cons (pem_call (call_def T.d_value_of hr (by decide) (by rfl) (pam_cons (pem_var (pv 4)) (pam_cons (pem_var (pv 13)) pam_nil))) (dlen_cons (dlen_cons dlen_nil))) pam_nil))) (dlen_cons (dlen_cons dlen_nil))))))) (psm_one (psm_ret pem_bl)) psm_nil) (psm_cons (psm_if (ptm_w (pwm_or (ptm_cmp (op_neD hr.units) o2_ne (nomark _) (pem_call (call_def T.d_value_of hr (by decide) (by rfl) (pam_cons (pem_var (pv 3)) (pam_cons (pem_var (pv 13)) pam_nil))) (dlen_cons (dlen_cons dlen_nil))) (pem_call (call_def T.d__law_at hr (by decide) (by rfl) (pam_cons (pem_var (pv 3)) (pam_cons (pem_var (pv 13)) pam_nil))) (dlen_cons (dlen_cons dlen_nil)))) (pwm_or1 (ptm_cmp (op_neD hr.units) o2_ne (nomark _) (pem_ix (pem_call (call_def T.d_division hr (by decide) (by rfl) (pam_cons (pem_var (pv 3)) (pam_cons (pem_tup (pam_cons (pem_tup (pam_cons (pem_sub pem_int (pem_ixv (pv 13) pem_int (fun _ _ => rfl))) (pam_cons (pem_ixv (pv 13) pem_int (fun _ _ => rfl)) pam_nil))) (pam_cons (pem_tup (pam_cons pem_int (pam_cons pem_int pam_nil))) pam_nil))) pam_nil))) (dlen_cons (dlen_cons dlen_nil))) pem_int (fun _ _ => rfl)) (pem_call (call_def T.d__law_trim hr (by decide) (by rfl) (pam_cons (pem_tup (pam_cons (pem_call (call_def T.d_value_of hr (by decide) (by rfl) (pam_cons (pem_var (pv 3)) (pam_cons (pem_var (pv 13)) pam_nil))) (dlen_cons (dlen_cons dlen_nil))) pam_nil)) pam_nil)) (dlen_cons dlen_nil)))))) (psm_one (psm_ret pem_bl)) psm_nil) (psm_one (psm_if (ptm_cmp op_gt o2_cmp (nomark _) (pem_lenv (pe_callB call_len_seq (by rfl) T.n_len PySem.boot_len (pa_cons (pv 3) pa_nil))) pem_int) (psm_cons (psm_set (ps_set (i := 14) sc.nd rfl (Or.inr rfl) (pei_val (pem_call (call_def T.d_whole_form hr (by decide) (by rfl) (pam_cons (pem_var (pv 3)) pam_nil)) (dlen_cons dlen_nil))))) (psm_cons (psm_set (asg_imp (asg_imp (asg_imp (ps_setLc (i := 15) (own := [("at", 12)]) rfl sc.nd rfl rfl (sw_true rfl rfl rfl (by decide +kernel)) (pim_rng1 (pi_range1 rfl T.n_range (pam_cons (pem_lenv (pe_callB call_len_seq (by rfl) T.n_len PySem.boot_len (pa_cons (pv 3) pa_nil))) pam_nil))) (blkOk_by (N := ["script", "draws", "turn", "one", "other", "third", "left", "shared", "free", "whole", "parts", "found", "at", "x", "ints", "scale", "part", "to"]) (sc := defScope s__law_main) (by decide +kernel)) (fun _ _ _ _ _ => (pgm_name (pg_name (i := 12) sc.nd rfl (by first | exact Or.inl rfl | exact Or.inr rfl)) (by decide))) (fun _ _ _ _ _ => (tests_one (ptm_cmp (op_neD hr.units) o2_ne (nomark _) (pem_ix (pem_ixv (pv 3) (pem_var (pv 12)) (fun _ _ => rfl)) pem_int (fun _ _ => rfl)) pem_int))) (fun _ _ _ _ _ => (pem_call (call_def T.d__law_by hr (by decide) (by rfl) (pam_cons (pem_tup (pam_cons (pem_ixv (pv 14) (pem_var (pv 12)) (fun _ _ => rfl)) (pam_cons pem_int pam_nil))) (pam_cons (pem_ixv (pv 3) (pem_var (pv 12)) (fun _ _ => rfl)) pam_nil))) (dlen_cons (dlen_cons dlen_nil))))) lc_imp) frz_imp) val_imp)) (psm_cons (psm_if (ptm_w (pwm_or (ptm_cmp (op_neD hr.units) o2_ne (nomark _) (pem_lend (pe_callB call_lenN (by rfl) T.n_len PySem.boot_len (pa_cons (pe_callTy (call_dict1 rfl hr.units) (by rfl) T.n_dict (by decide +kernel) (pam_cons (pem_frz (peo_lc (pe_lc (own := [("part", 16)]) rfl sc.nd (pim_seq (pem_var (pv 15))) (blkOk_by (N := ["script", "draws", "turn", "one", "other", "third", "left", "shared", "free", "whole", "parts", "found", "at", "x", "ints", "scale", "part", "to"]) (sc := defScope s__law_main) (by decide +kernel)) (fun _ _ _ _ _ => (pgm_name (pg_name (i := 16) sc.nd rfl (by first | exact Or.inl rfl | exact Or.inr rfl)) (by decide))) (fun _ _ _ _ _ => tests_nil) (fun _ _ _ _ _ => (pem_tup (pam_cons (pem_var (pv 16)) (pam_cons pem_bl pam_nil))))))) pam_nil)) pa_nil))) pem_int) (pwm_or (ptm_cmp op_lt o2_cmp (nomark _) (pem_ixv (pv 14) (pem_neg pem_int) (fun _ _ => rfl)) pem_int) (pwm_or1 (ptm_cmp (op_neD hr.units) o2_ne (nomark _) (pem_call (call_def T.d_whole_form hr (by decide) (by rfl) (pam_cons (pem_call (call_def T.d__law_mul hr (by decide) (by rfl) (pam_cons (pem_var (pv 3)) (pam_cons (pem_tup (pam_cons (pem_tup (pam_cons (pem_neg pem_int) (pam_cons pem_int pam_nil))) pam_nil)) pam_nil))) (dlen_cons (dlen_cons dlen_nil))) pam_nil)) (dlen_cons dlen_nil)) (pem_var (pv 14))))))) (psm_one (psm_ret pem_bl)) psm_nil) (psm_one (psm_if (ptm_w (pwm_and (ptm_cmp op_gt o2_cmp (nomark _) (pem_lenv (pe_callB call_len_seq (by rfl) T.n_len PySem.boot_len (pa_cons (pv 4) pa_nil))) pem_int) (pwm_and1 (ptm_cmp (op_neD hr.units) o2_ne (nomark _) (pem_call (call_def T.d_whole_form hr (by decide) (by rfl) (pam_cons (pem_call (call_def T.d__law_mul hr (by decide) (by rfl) (pam_cons (pem_var (pv 3)) (pam_cons (pem_var (pv 4)) pam_nil))) (dlen_cons (dlen_cons dlen_nil))) pam_nil)) (dlen_cons dlen_nil)) (pem_cb (pe_callTy call_tuple_of (by rfl) T.n_tuple PyProof.Rows.boot_tuple (pam_cons (pem_frz (peo_lc (pe_lc (own := [("part", 16)]) rfl sc.nd (pim_seq (pem_call (call_def T.d__law_mul hr (by decide) (by rfl) (pam_cons (pem_cb (pe_callTy call_tuple_of (by rfl) T.n_tuple PyProof.Rows.boot_tuple (pam_cons (pem_frz (peo_lc (pe_lc (own := [("part", 16)]) rfl sc.nd (pim_seq (pem_var (pv 14))) (blkOk_by (N := ["script", "draws", "turn", "one", "other", "third", "left", "shared", "free", "whole", "parts", "found", "at", "x", "ints", "scale", "part", "to"]) (sc := defScope s__law_main) (by decide +kernel)) (fun _ _ _ _ _ => (pgm_name (pg_name (i := 16) sc.nd rfl (by first | exact Or.inl rfl | exact Or.inr rfl)) (by decide))) (fun _ _ _ _ _ => tests_nil) (fun _ _ _ _ _ => (pem_tup (pam_cons (pem_var (pv 16)) (pam_cons pem_int pam_nil))))))) pam_nil)) on_tup) (pam_cons (pem_cb (pe_callTy call_tuple_of (by rfl) T.n_tuple PyProof.Rows.boot_tuple (pam_cons (pem_frz (peo_lc (pe_lc (own := [("part", 16)]) rfl sc.nd (pim_seq (pem_call (call_def T.d_whole_form hr (by decide) (by rfl) (pam_cons (pem_var (pv 4)) pam_nil)) (dlen_cons dlen_nil))) (blkOk_by (N := ["script", "draws", "turn", "one", "other", "third", "left", "shared", "free", "whole", "parts", "found", "at", "x", "ints", "scale", "part", "to"]) (sc := defScope s__law_main) (by decide +kernel)) (fun _ _ _ _ _ => (pgm_name (pg_name (i := 16) sc.nd rfl (by first | exact Or.inl rfl | exact Or.inr rfl)) (by decide))) (fun _ _ _ _ _ => tests_nil) (fun _ _ _ _ _ => (pem_tup (pam_cons (pem_var (pv 16)) (pam_cons pem_int pam_nil))))))) pam_nil)) on_tup) pam_nil))) (dlen_cons (dlen_cons dlen_nil)))) (blkOk_by (N := ["script", "draws", "turn", "one", "other", "third", "left", "shared", "free", "whole", "parts", "found", "at", "x", "ints", "scale", "part", "to"]) (sc := defScope s__law_main) (by decide +kernel)) (fun _ _ _ _ _ => (pgm_name (pg_name (i := 16) sc.nd rfl (by first | exact Or.inl rfl | exact Or.inr rfl)) (by decide))) (fun _ _ _ _ _ => tests_nil) (fun _ _ _ _ _ => (pem_ixv (pv 16) pem_int (fun _ _ => rfl)))))) pam_nil)) on_tup))))) (psm_one (psm_ret pem_bl)) psm_nil))))) psm_nil)))))))))))))))))))))) (psm_one (psm_ret pem_bl)))))
theorem ok__law_main (A : At K mg "_law_main" s__law_main) (T : N__law_main P w K mg base) : Def P w K mg base "_law_main" 8 ["script"] (spP K f__law_main 1) := by
  obtain ⟨f, fd, F, hm⟩ := A.ex
  exact ⟨f, fd, fok__law_main F T, F.binds (ps := ["script"]) (fun _ _ _ _ _ _ us hl => match us, hl with | [_], _ => rfl), hm, F.kp⟩
abbrev s_law : Stmt := top 59
theorem sc_law : FnScope ["script"] ["script"] (defScope s_law) := ⟨rfl, rfl, rfl, by decide +kernel, rfl, by decide +kernel, by decide +kernel⟩
structure N_law (P : Program) (w : World) (K : PySem.W.Frag) (mg : Str → Option Value) (base : Heap) : Prop extends Names K mg where
  d__law_main : Def P w K mg base "_law_main" 8 ["script"] (spP K f__law_main 1)
theorem fok_law {f : Addr} {fd : FuncData} (F : Fun K "law" "law" s_law f fd) (T : N_law P w K mg base) : FnOk P w K mg base CX0 9 f fd ["script"] (spP K f_law 1) := by
  have sc := sc_law
  refine fnP_ok F sc fun cdv Ar outer s H E hr => ?_
  exact (psm_one (psm_try (psm_one (psm_ret (pem_call (call_def T.d__law_main hr (by decide) (by rfl) (pam_cons (pem_var (pv 0)) pam_nil)) (dlen_cons dlen_nil))))))
theorem ok_law (A : At K mg "law" s_law) (T : N_law P w K mg base) : Def P w K mg base "law" 9 ["script"] (spP K f_law 1) := by
  obtain ⟨f, fd, F, hm⟩ := A.ex
  exact ⟨f, fd, fok_law F T, F.binds (ps := ["script"]) (fun _ _ _ _ _ _ us hl => match us, hl with | [_], _ => rfl), hm, F.kp⟩
end
end K41
set_option maxHeartbeats 0
namespace K41
open PySem L2 ML
abbrev R : PySem.W.OpenRow := PySem.W.OpenLaw.row PySem.Challenge.rw_signsdecided_k41_division_and_divisors
def fn : List He.DefD := [dd "common" s_common, dd "least_terms" s_least_terms, dd "add" s_add, dd "less" s_less, dd "times" s_times, dd "by" s_by, dd "is_fraction" s_is_fraction, dd "is_poly" s_is_poly, dd "check_poly" s_check_poly, dd "trimmed" s_trimmed, dd "degree" s_degree, dd "plus" s_plus, dd "product" s_product, dd "divided" s_divided, dd "monic" s_monic, dd "common_of" s_common_of, dd "slope" s_slope, dd "squarefree_of" s_squarefree_of, dd "value_at" s_value_at, dd "whole_of" s_whole_of, dd "check_both" s_check_both, dd "sum_of" s_sum_of, dd "product_of" s_product_of, dd "division" s_division, dd "common_divisor" s_common_divisor, dd "squarefree" s_squarefree, dd "free_parts" s_free_parts, dd "squarefree_parts" s_squarefree_parts, dd "value_of" s_value_of, dd "whole_form" s_whole_form, dd "_law_number" s__law_number, dd "_law_draws" s__law_draws, dd "_law_next" s__law_next, dd "_law_more" s__law_more, dd "_law_common" s__law_common, dd "_law_lowest" s__law_lowest, dd "_law_add" s__law_add, dd "_law_times" s__law_times, dd "_law_trim" s__law_trim, dd "_law_mul" s__law_mul, dd "_law_sum" s__law_sum, dd "_law_at" s__law_at, dd "_law_by" s__law_by, dd "_law_monic" s__law_monic, dd "_law_loose_poly" s__law_loose_poly, dd "_law_power" s__law_power, dd "_law_main" s__law_main, dd "law" s_law]
def fa : List He.Fa := [.glo "common", .glo "least_terms", .glo "add", .glo "less", .glo "times", .glo "by", .glo "is_fraction", .glo "is_poly", .glo "check_poly", .glo "trimmed", .glo "degree", .glo "plus", .glo "product", .glo "divided", .glo "monic", .glo "common_of", .glo "slope", .glo "squarefree_of", .glo "value_at", .glo "whole_of", .glo "check_both", .glo "sum_of", .glo "product_of", .glo "division", .glo "common_divisor", .glo "squarefree", .glo "free_parts", .glo "squarefree_parts", .glo "value_of", .glo "whole_form", .glo "_law_number", .glo "_law_draws", .glo "_law_next", .glo "_law_more", .glo "_law_common", .glo "_law_lowest", .glo "_law_add", .glo "_law_times", .glo "_law_trim", .glo "_law_mul", .glo "_law_sum", .glo "_law_at", .glo "_law_by", .glo "_law_monic", .glo "_law_loose_poly", .glo "_law_power", .glo "_law_main", .glo "law", .free "abs", .free "all", .free "dict", .free "enumerate", .free "int", .free "len", .free "list", .free "max", .free "range", .free "tuple", .free "zip", .int "MOST_DEGREE" 24, .int "MOST_SIZE" (10 ^ 60), .glo "NOUGHT"]
def ex (K : PySem.W.Frag) : Bool := He.tupB K "NOUGHT" [.int 0, .int 1]
abbrev hk : PySem.W.Hook := He.hookX 4 fa fn [] [] ex
def ob (s : PySem.W.SharedT) : He.AlX := He.obsX 4 fa fn [] [] ex (HandSHeadRun.getT s)
theorem ob_eq (s : PySem.W.SharedT) : ob s = hk.obs s.abs := He.obsX_eq (HandSHeadRun.getT_eq s)
def loose0 : List Str := [("SignError" : Str), ("NotPoly" : Str), ("BadNumber" : Str), ("NoAnswer" : Str), ("TooLarge" : Str), ("common" : Str), ("least_terms" : Str), ("add" : Str), ("less" : Str), ("times" : Str), ("by" : Str), ("is_fraction" : Str), ("MOST_DEGREE" : Str), ("MOST_SIZE" : Str), ("NOUGHT" : Str), ("is_poly" : Str), ("check_poly" : Str), ("trimmed" : Str), ("degree" : Str), ("plus" : Str), ("product" : Str), ("divided" : Str), ("monic" : Str), ("common_of" : Str), ("slope" : Str), ("squarefree_of" : Str), ("value_at" : Str), ("whole_of" : Str), ("check_both" : Str), ("sum_of" : Str), ("product_of" : Str), ("division" : Str), ("common_divisor" : Str), ("squarefree" : Str), ("free_parts" : Str), ("squarefree_parts" : Str), ("value_of" : Str), ("whole_form" : Str), ("_law_number" : Str), ("_law_draws" : Str)]
def loose1 : List Str := [("_law_next" : Str), ("_law_more" : Str), ("_law_common" : Str), ("_law_lowest" : Str), ("_law_add" : Str), ("_law_times" : Str), ("_law_trim" : Str), ("_law_mul" : Str), ("_law_sum" : Str), ("_law_at" : Str), ("_law_by" : Str), ("_law_monic" : Str), ("_law_loose_poly" : Str), ("_law_power" : Str), ("_law_main" : Str)]
def loose : List Str := loose0 ++ loose1
theorem run (w : World) : HandSHeadRun.RunEq R (PySem.W.view R.prog [59]) hk ob 4000 loose w := by
  intro os
  kernel_rfl
end K41
set_option maxHeartbeats 0
namespace K41
open PySem L2 ML
theorem facts {P : Program} {w : World} {K : PySem.W.Frag} {h : Heap} {mg : Str → Option Value} {fl : Addr} (X : K.In h) (G : h.Ns mainGlobals mg) (hfa : mg ("law" : Str) = some (.ref fl)) (c : He.SaysX fa fn [] [] ex w h K) :
    ∃ fd : FuncData, (∀ (s : Shared) (v : Value), BindsTo s fd ⟨[v], []⟩ [("script", v)]) ∧ ∀ base : Heap, K.In base → base.Ns mainGlobals mg → FnOk P w K mg base CX0 9 fl fd ["script"] (spP K f_law 1) := by
  have cd : He.SaysD fa fn K := c.t.d
  have A_common : At K mg "common" s_common := at_of (cd.def_ 0 (d := dd "common" s_common) rfl) (He.glo_ok X G (cd.fact 0 (f := .glo "common") rfl))
  have A_least_terms : At K mg "least_terms" s_least_terms := at_of (cd.def_ 1 (d := dd "least_terms" s_least_terms) rfl) (He.glo_ok X G (cd.fact 1 (f := .glo "least_terms") rfl))
  have A_add : At K mg "add" s_add := at_of (cd.def_ 2 (d := dd "add" s_add) rfl) (He.glo_ok X G (cd.fact 2 (f := .glo "add") rfl))
  have A_less : At K mg "less" s_less := at_of (cd.def_ 3 (d := dd "less" s_less) rfl) (He.glo_ok X G (cd.fact 3 (f := .glo "less") rfl))
  have A_times : At K mg "times" s_times := at_of (cd.def_ 4 (d := dd "times" s_times) rfl) (He.glo_ok X G (cd.fact 4 (f := .glo "times") rfl))
  have A_by : At K mg "by" s_by := at_of (cd.def_ 5 (d := dd "by" s_by) rfl) (He.glo_ok X G (cd.fact 5 (f := .glo "by") rfl))
  have A_is_fraction : At K mg "is_fraction" s_is_fraction := at_of (cd.def_ 6 (d := dd "is_fraction" s_is_fraction) rfl) (He.glo_ok X G (cd.fact 6 (f := .glo "is_fraction") rfl))
  have A_is_poly : At K mg "is_poly" s_is_poly := at_of (cd.def_ 7 (d := dd "is_poly" s_is_poly) rfl) (He.glo_ok X G (cd.fact 7 (f := .glo "is_poly") rfl))
  have A_check_poly : At K mg "check_poly" s_check_poly := at_of (cd.def_ 8 (d := dd "check_poly" s_check_poly) rfl) (He.glo_ok X G (cd.fact 8 (f := .glo "check_poly") rfl))
  have A_trimmed : At K mg "trimmed" s_trimmed := at_of (cd.def_ 9 (d := dd "trimmed" s_trimmed) rfl) (He.glo_ok X G (cd.fact 9 (f := .glo "trimmed") rfl))
  have A_degree : At K mg "degree" s_degree := at_of (cd.def_ 10 (d := dd "degree" s_degree) rfl) (He.glo_ok X G (cd.fact 10 (f := .glo "degree") rfl))
  have A_plus : At K mg "plus" s_plus := at_of (cd.def_ 11 (d := dd "plus" s_plus) rfl) (He.glo_ok X G (cd.fact 11 (f := .glo "plus") rfl))
  have A_product : At K mg "product" s_product := at_of (cd.def_ 12 (d := dd "product" s_product) rfl) (He.glo_ok X G (cd.fact 12 (f := .glo "product") rfl))
  have A_divided : At K mg "divided" s_divided := at_of (cd.def_ 13 (d := dd "divided" s_divided) rfl) (He.glo_ok X G (cd.fact 13 (f := .glo "divided") rfl))
  have A_monic : At K mg "monic" s_monic := at_of (cd.def_ 14 (d := dd "monic" s_monic) rfl) (He.glo_ok X G (cd.fact 14 (f := .glo "monic") rfl))
  have A_common_of : At K mg "common_of" s_common_of := at_of (cd.def_ 15 (d := dd "common_of" s_common_of) rfl) (He.glo_ok X G (cd.fact 15 (f := .glo "common_of") rfl))
  have A_slope : At K mg "slope" s_slope := at_of (cd.def_ 16 (d := dd "slope" s_slope) rfl) (He.glo_ok X G (cd.fact 16 (f := .glo "slope") rfl))
  have A_squarefree_of : At K mg "squarefree_of" s_squarefree_of := at_of (cd.def_ 17 (d := dd "squarefree_of" s_squarefree_of) rfl) (He.glo_ok X G (cd.fact 17 (f := .glo "squarefree_of") rfl))
  have A_value_at : At K mg "value_at" s_value_at := at_of (cd.def_ 18 (d := dd "value_at" s_value_at) rfl) (He.glo_ok X G (cd.fact 18 (f := .glo "value_at") rfl))
  have A_whole_of : At K mg "whole_of" s_whole_of := at_of (cd.def_ 19 (d := dd "whole_of" s_whole_of) rfl) (He.glo_ok X G (cd.fact 19 (f := .glo "whole_of") rfl))
  have A_check_both : At K mg "check_both" s_check_both := at_of (cd.def_ 20 (d := dd "check_both" s_check_both) rfl) (He.glo_ok X G (cd.fact 20 (f := .glo "check_both") rfl))
  have A_sum_of : At K mg "sum_of" s_sum_of := at_of (cd.def_ 21 (d := dd "sum_of" s_sum_of) rfl) (He.glo_ok X G (cd.fact 21 (f := .glo "sum_of") rfl))
  have A_product_of : At K mg "product_of" s_product_of := at_of (cd.def_ 22 (d := dd "product_of" s_product_of) rfl) (He.glo_ok X G (cd.fact 22 (f := .glo "product_of") rfl))
  have A_division : At K mg "division" s_division := at_of (cd.def_ 23 (d := dd "division" s_division) rfl) (He.glo_ok X G (cd.fact 23 (f := .glo "division") rfl))
  have A_common_divisor : At K mg "common_divisor" s_common_divisor := at_of (cd.def_ 24 (d := dd "common_divisor" s_common_divisor) rfl) (He.glo_ok X G (cd.fact 24 (f := .glo "common_divisor") rfl))
  have A_squarefree : At K mg "squarefree" s_squarefree := at_of (cd.def_ 25 (d := dd "squarefree" s_squarefree) rfl) (He.glo_ok X G (cd.fact 25 (f := .glo "squarefree") rfl))
  have A_free_parts : At K mg "free_parts" s_free_parts := at_of (cd.def_ 26 (d := dd "free_parts" s_free_parts) rfl) (He.glo_ok X G (cd.fact 26 (f := .glo "free_parts") rfl))
  have A_squarefree_parts : At K mg "squarefree_parts" s_squarefree_parts := at_of (cd.def_ 27 (d := dd "squarefree_parts" s_squarefree_parts) rfl) (He.glo_ok X G (cd.fact 27 (f := .glo "squarefree_parts") rfl))
  have A_value_of : At K mg "value_of" s_value_of := at_of (cd.def_ 28 (d := dd "value_of" s_value_of) rfl) (He.glo_ok X G (cd.fact 28 (f := .glo "value_of") rfl))
  have A_whole_form : At K mg "whole_form" s_whole_form := at_of (cd.def_ 29 (d := dd "whole_form" s_whole_form) rfl) (He.glo_ok X G (cd.fact 29 (f := .glo "whole_form") rfl))
  have A__law_number : At K mg "_law_number" s__law_number := at_of (cd.def_ 30 (d := dd "_law_number" s__law_number) rfl) (He.glo_ok X G (cd.fact 30 (f := .glo "_law_number") rfl))
  have A__law_draws : At K mg "_law_draws" s__law_draws := at_of (cd.def_ 31 (d := dd "_law_draws" s__law_draws) rfl) (He.glo_ok X G (cd.fact 31 (f := .glo "_law_draws") rfl))
  have A__law_next : At K mg "_law_next" s__law_next := at_of (cd.def_ 32 (d := dd "_law_next" s__law_next) rfl) (He.glo_ok X G (cd.fact 32 (f := .glo "_law_next") rfl))
  have A__law_more : At K mg "_law_more" s__law_more := at_of (cd.def_ 33 (d := dd "_law_more" s__law_more) rfl) (He.glo_ok X G (cd.fact 33 (f := .glo "_law_more") rfl))
  have A__law_common : At K mg "_law_common" s__law_common := at_of (cd.def_ 34 (d := dd "_law_common" s__law_common) rfl) (He.glo_ok X G (cd.fact 34 (f := .glo "_law_common") rfl))
  have A__law_lowest : At K mg "_law_lowest" s__law_lowest := at_of (cd.def_ 35 (d := dd "_law_lowest" s__law_lowest) rfl) (He.glo_ok X G (cd.fact 35 (f := .glo "_law_lowest") rfl))
  have A__law_add : At K mg "_law_add" s__law_add := at_of (cd.def_ 36 (d := dd "_law_add" s__law_add) rfl) (He.glo_ok X G (cd.fact 36 (f := .glo "_law_add") rfl))
  have A__law_times : At K mg "_law_times" s__law_times := at_of (cd.def_ 37 (d := dd "_law_times" s__law_times) rfl) (He.glo_ok X G (cd.fact 37 (f := .glo "_law_times") rfl))
  have A__law_trim : At K mg "_law_trim" s__law_trim := at_of (cd.def_ 38 (d := dd "_law_trim" s__law_trim) rfl) (He.glo_ok X G (cd.fact 38 (f := .glo "_law_trim") rfl))
  have A__law_mul : At K mg "_law_mul" s__law_mul := at_of (cd.def_ 39 (d := dd "_law_mul" s__law_mul) rfl) (He.glo_ok X G (cd.fact 39 (f := .glo "_law_mul") rfl))
  have A__law_sum : At K mg "_law_sum" s__law_sum := at_of (cd.def_ 40 (d := dd "_law_sum" s__law_sum) rfl) (He.glo_ok X G (cd.fact 40 (f := .glo "_law_sum") rfl))
  have A__law_at : At K mg "_law_at" s__law_at := at_of (cd.def_ 41 (d := dd "_law_at" s__law_at) rfl) (He.glo_ok X G (cd.fact 41 (f := .glo "_law_at") rfl))
  have A__law_by : At K mg "_law_by" s__law_by := at_of (cd.def_ 42 (d := dd "_law_by" s__law_by) rfl) (He.glo_ok X G (cd.fact 42 (f := .glo "_law_by") rfl))
  have A__law_monic : At K mg "_law_monic" s__law_monic := at_of (cd.def_ 43 (d := dd "_law_monic" s__law_monic) rfl) (He.glo_ok X G (cd.fact 43 (f := .glo "_law_monic") rfl))
  have A__law_loose_poly : At K mg "_law_loose_poly" s__law_loose_poly := at_of (cd.def_ 44 (d := dd "_law_loose_poly" s__law_loose_poly) rfl) (He.glo_ok X G (cd.fact 44 (f := .glo "_law_loose_poly") rfl))
  have A__law_power : At K mg "_law_power" s__law_power := at_of (cd.def_ 45 (d := dd "_law_power" s__law_power) rfl) (He.glo_ok X G (cd.fact 45 (f := .glo "_law_power") rfl))
  have A__law_main : At K mg "_law_main" s__law_main := at_of (cd.def_ 46 (d := dd "_law_main" s__law_main) rfl) (He.glo_ok X G (cd.fact 46 (f := .glo "_law_main") rfl))
  have A_law : At K mg "law" s_law := at_of (cd.def_ 47 (d := dd "law" s_law) rfl) (He.glo_ok X G (cd.fact 47 (f := .glo "law") rfl))
  have cm : (He.tupB K "NOUGHT" [.int 0, .int 1]) = true := c.more
  have nm : Names K mg := { n_abs := He.free_ok X G (cd.fact 48 (f := .free "abs") rfl), n_all := He.free_ok X G (cd.fact 49 (f := .free "all") rfl), n_dict := He.free_ok X G (cd.fact 50 (f := .free "dict") rfl), n_enumerate := He.free_ok X G (cd.fact 51 (f := .free "enumerate") rfl), n_int := He.free_ok X G (cd.fact 52 (f := .free "int") rfl), n_len := He.free_ok X G (cd.fact 53 (f := .free "len") rfl), n_list := He.free_ok X G (cd.fact 54 (f := .free "list") rfl), n_max := He.free_ok X G (cd.fact 55 (f := .free "max") rfl), n_range := He.free_ok X G (cd.fact 56 (f := .free "range") rfl), n_tuple := He.free_ok X G (cd.fact 57 (f := .free "tuple") rfl), n_zip := He.free_ok X G (cd.fact 58 (f := .free "zip") rfl), c_MOST_DEGREE := ⟨He.int_ok X G (cd.fact 59 (f := .int "MOST_DEGREE" 24) rfl)⟩, c_MOST_SIZE := ⟨He.int_ok X G (cd.fact 60 (f := .int "MOST_SIZE" (10 ^ 60)) rfl)⟩, c_NOUGHT := gtup_of (is := [0, 1]) (He.glo_ok X G (cd.fact 61 (f := .glo "NOUGHT") rfl)) cm }
  obtain ⟨f0, fd, F, hm⟩ := A_law.ex
  have e := hfa.symm.trans hm
  cases e
  refine ⟨fd, fun s v => bind1 F (fun _ _ _ _ _ _ us hl => match us, hl with | [_], _ => rfl) s v, fun base _ _ => ?_⟩
  have D_common := ok_common (P := P) (w := w) (base := base) A_common { toNames := nm }
  have D_least_terms := ok_least_terms (P := P) (w := w) (base := base) A_least_terms { toNames := nm, d_common := D_common }
  have D_add := ok_add (P := P) (w := w) (base := base) A_add { toNames := nm, d_least_terms := D_least_terms }
  have D_less := ok_less (P := P) (w := w) (base := base) A_less { toNames := nm, d_least_terms := D_least_terms }
  have D_times := ok_times (P := P) (w := w) (base := base) A_times { toNames := nm, d_least_terms := D_least_terms }
  have D_by := ok_by (P := P) (w := w) (base := base) A_by { toNames := nm, d_least_terms := D_least_terms }
  have D_is_fraction := ok_is_fraction (P := P) (w := w) (base := base) A_is_fraction { toNames := nm, d_common := D_common }
  have D_is_poly := ok_is_poly (P := P) (w := w) (base := base) A_is_poly { toNames := nm, d_is_fraction := D_is_fraction }
  have D_check_poly := ok_check_poly (P := P) (w := w) (base := base) A_check_poly { toNames := nm, d_is_poly := D_is_poly }
  have D_trimmed := ok_trimmed (P := P) (w := w) (base := base) A_trimmed { toNames := nm }
  have D_degree := ok_degree (P := P) (w := w) (base := base) A_degree { toNames := nm }
  have D_plus := ok_plus (P := P) (w := w) (base := base) A_plus { toNames := nm, d_add := D_add, d_trimmed := D_trimmed }
  have D_product := ok_product (P := P) (w := w) (base := base) A_product { toNames := nm, d_add := D_add, d_times := D_times, d_trimmed := D_trimmed }
  have D_divided := ok_divided (P := P) (w := w) (base := base) A_divided { toNames := nm, d_by := D_by, d_less := D_less, d_times := D_times, d_trimmed := D_trimmed }
  have D_monic := ok_monic (P := P) (w := w) (base := base) A_monic { toNames := nm, d_by := D_by }
  have D_common_of := ok_common_of (P := P) (w := w) (base := base) A_common_of { toNames := nm, d_divided := D_divided, d_monic := D_monic }
  have D_slope := ok_slope (P := P) (w := w) (base := base) A_slope { toNames := nm, d_times := D_times, d_trimmed := D_trimmed }
  have D_squarefree_of := ok_squarefree_of (P := P) (w := w) (base := base) A_squarefree_of { toNames := nm, d_common_of := D_common_of, d_divided := D_divided, d_monic := D_monic, d_slope := D_slope }
  have D_value_at := ok_value_at (P := P) (w := w) (base := base) A_value_at { toNames := nm, d_add := D_add, d_times := D_times }
  have D_whole_of := ok_whole_of (P := P) (w := w) (base := base) A_whole_of { toNames := nm, d_common := D_common }
  have D_check_both := ok_check_both (P := P) (w := w) (base := base) A_check_both { toNames := nm, d_check_poly := D_check_poly }
  have D_sum_of := ok_sum_of (P := P) (w := w) (base := base) A_sum_of { toNames := nm, d_check_both := D_check_both, d_plus := D_plus }
  have D_product_of := ok_product_of (P := P) (w := w) (base := base) A_product_of { toNames := nm, d_check_both := D_check_both, d_product := D_product }
  have D_division := ok_division (P := P) (w := w) (base := base) A_division { toNames := nm, d_check_both := D_check_both, d_divided := D_divided }
  have D_common_divisor := ok_common_divisor (P := P) (w := w) (base := base) A_common_divisor { toNames := nm, d_check_both := D_check_both, d_common_of := D_common_of }
  have D_squarefree := ok_squarefree (P := P) (w := w) (base := base) A_squarefree { toNames := nm, d_check_poly := D_check_poly, d_squarefree_of := D_squarefree_of }
  have D_free_parts := ok_free_parts (P := P) (w := w) (base := base) A_free_parts { toNames := nm, d_common_of := D_common_of, d_degree := D_degree, d_divided := D_divided, d_monic := D_monic, d_slope := D_slope }
  have D_squarefree_parts := ok_squarefree_parts (P := P) (w := w) (base := base) A_squarefree_parts { toNames := nm, d_check_poly := D_check_poly, d_free_parts := D_free_parts }
  have D_value_of := ok_value_of (P := P) (w := w) (base := base) A_value_of { toNames := nm, d_check_poly := D_check_poly, d_is_fraction := D_is_fraction, d_value_at := D_value_at }
  have D_whole_form := ok_whole_form (P := P) (w := w) (base := base) A_whole_form { toNames := nm, d_check_poly := D_check_poly, d_whole_of := D_whole_of }
  have D__law_number := ok__law_number (P := P) (w := w) (base := base) A__law_number { toNames := nm }
  have D__law_draws := ok__law_draws (P := P) (w := w) (base := base) A__law_draws { toNames := nm, d__law_number := D__law_number }
  have D__law_next := ok__law_next (P := P) (w := w) (base := base) A__law_next { toNames := nm }
  have D__law_more := ok__law_more (P := P) (w := w) (base := base) A__law_more { toNames := nm, d__law_next := D__law_next }
  have D__law_common := ok__law_common (P := P) (w := w) (base := base) A__law_common { toNames := nm }
  have D__law_lowest := ok__law_lowest (P := P) (w := w) (base := base) A__law_lowest { toNames := nm, d__law_common := D__law_common }
  have D__law_add := ok__law_add (P := P) (w := w) (base := base) A__law_add { toNames := nm, d__law_lowest := D__law_lowest }
  have D__law_times := ok__law_times (P := P) (w := w) (base := base) A__law_times { toNames := nm, d__law_lowest := D__law_lowest }
  have D__law_trim := ok__law_trim (P := P) (w := w) (base := base) A__law_trim { toNames := nm }
  have D__law_mul := ok__law_mul (P := P) (w := w) (base := base) A__law_mul { toNames := nm, d__law_add := D__law_add, d__law_times := D__law_times, d__law_trim := D__law_trim }
  have D__law_sum := ok__law_sum (P := P) (w := w) (base := base) A__law_sum { toNames := nm, d__law_add := D__law_add, d__law_trim := D__law_trim }
  have D__law_at := ok__law_at (P := P) (w := w) (base := base) A__law_at { toNames := nm, d__law_add := D__law_add, d__law_times := D__law_times }
  have D__law_by := ok__law_by (P := P) (w := w) (base := base) A__law_by { toNames := nm, d__law_lowest := D__law_lowest }
  have D__law_monic := ok__law_monic (P := P) (w := w) (base := base) A__law_monic { toNames := nm, d__law_by := D__law_by }
  have D__law_loose_poly := ok__law_loose_poly (P := P) (w := w) (base := base) A__law_loose_poly { toNames := nm, d__law_lowest := D__law_lowest, d__law_next := D__law_next }
  have D__law_power := ok__law_power (P := P) (w := w) (base := base) A__law_power { toNames := nm, d__law_mul := D__law_mul }
  have D__law_main := ok__law_main (P := P) (w := w) (base := base) A__law_main { toNames := nm, d__law_add := D__law_add, d__law_at := D__law_at, d__law_by := D__law_by, d__law_draws := D__law_draws, d__law_loose_poly := D__law_loose_poly, d__law_lowest := D__law_lowest, d__law_monic := D__law_monic, d__law_more := D__law_more, d__law_mul := D__law_mul, d__law_next := D__law_next, d__law_power := D__law_power, d__law_sum := D__law_sum, d__law_times := D__law_times, d__law_trim := D__law_trim, d_common_divisor := D_common_divisor, d_division := D_division, d_product_of := D_product_of, d_squarefree := D_squarefree, d_squarefree_parts := D_squarefree_parts, d_sum_of := D_sum_of, d_value_of := D_value_of, d_whole_form := D_whole_form }
  exact fok_law F { toNames := nm, d__law_main := D__law_main }
end K41
open PySem PySem.W PySem.Calls PyProof.Rows
theorem K41.closes (all : ∀ ns : List Int, ns.length ≤ 63 → K41.f_law [.scr (ns.map ML.MV.int)] = some (.bl true)) : PySem.Challenge.rw_signsdecided_k41_division_and_divisors.Holds := by
  w_on; o_law
  refine HandSHeadRun.head_any (r := OpenLaw.row PySem.Challenge.rw_signsdecided_k41_division_and_divisors) (q := view (OpenLaw.row PySem.Challenge.rw_signsdecided_k41_division_and_divisors).prog [59]) (H := K41.hk) (ob := K41.ob) (M := 4000) (loose := K41.loose) (d := HandSHeadRun.topDef (OpenLaw.row PySem.Challenge.rw_signsdecided_k41_division_and_divisors).prog 59) (kwd := []) K41.ob_eq
    (by kernel_rfl) (fun s => by kernel_rfl) K41.run (by kernel_rfl) (by kernel_rfl) (by kernel_rfl) (by rfl) (by first | assumption | decide +kernel) (by decide +kernel) ⟨rfl, rfl, rfl, rfl, rfl, by decide +kernel⟩ ?hw ?hc
  case hw => w_witness2
  case hc =>
    refine L2.walk_ofE (l := PySem.Challenge.rw_signsdecided_k41_division_and_divisors) (n := 63) (k := 9) (x := "script") (CX := L2.CX0) rfl (by decide) (by kernel_rfl) ⟨rfl, by decide, by decide⟩ ?F (fun _ _ _ _ z => z)
    intro w mg fa h Y G hmg0
    obtain ⟨K, KX, c⟩ := Y
    have hmg : mg ("law" : PySem.Str) = some (.ref fa) := by
      have e : (HandSHeadRun.topDef (OpenLaw.row PySem.Challenge.rw_signsdecided_k41_division_and_divisors).prog 59).name = ("law" : PySem.Str) := by kernel_rfl
      rw [← e]
      exact hmg0
    obtain ⟨fd, hb, hF⟩ := K41.facts (P := (PySem.Challenge.rw_signsdecided_k41_division_and_divisors).prog) (w := w) KX G hmg c
    exact ⟨K, fd, ML.spP K K41.f_law 1, KX, hb, fun H a ns hl _ hS => ML.law_ends hS (all ns hl), hF⟩
theorem PySem.Challenge.cw_signsdecided_k41_division_and_divisors_holds : PySem.Challenge.rw_signsdecided_k41_division_and_divisors.Holds := by
  exact K41.closes K41.all
