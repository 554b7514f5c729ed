import PyProof.Rows.All
import Wide.All
import OpenK.AllK
import Wide.FinOn
import HandS.ForMost
import HandS.IsInst
import HandS.Wide
import HandS.Gcd
import HandS.Deep
import HandS.TupAny
import HandS.Zip
import HandS.Codes
import KE.GoesEnumKw
import HandS.SortKw
import HandS.Exc
import HandS.ExcOwn
import HandS.TryOnly
import HandS.WordsExc
import HandS.TupMul
import HandS.Dict
import HandS.SortOrd
import HandS.SortRule
import HandS.SortInts
import HandS.DictTup
import HandS.More
import KE.KDictCopyH
import KE.KDictWalk
import KE.KDictExact
import HandS.DictComp
import HandS.TupLe
import HandS.Conv
import KE.SortData
import KE.DataMinMax
import KE.DatumOrd
import HandS.Iter
import KE.KDictDisplayH
import HandS.Comp
import HandS.Text
import HandS.Steps
import HandS.StrMore
import HandS.FStr
import HandS.Style
import PyProof.StrOps2
import KE.KRevSl
import HandS.ExcInit
import HandS.ExcField
import HandS.ExcSuper
import KE.KExcSuper
import KE.KSuper
import HandS.Lambda
import PySem.Challenge.RW_airwave_k51_faulty_rules
set_option Elab.async false
set_option linter.all false
set_option maxRecDepth 100000
/-! DL: a layer of data. D: trees of values; Rep: a value stands for a tree; Ev..: what a reading evaluates to, by trees. -/
namespace DL
open PySem PySem.Spec PyProof.Rows L2

inductive D where
  | non | bl (b : Bool) | int (i : Int) | str (x : Str) | tup (xs : List D) | lst (xs : List D) | raw (v : V) | dk (ks : List Key) (xs : List D) | dt (ks : List (List Key)) (xs : List D)

theorem same_tr {H H' : Hp} (s : Same H H') : ∀ a, H a ≠ none → H' a ≠ none := fun a h => by
  cases e : H a with
  | none => exact absurd e h
  | some o => rw [s a o e]; exact fun z => by cases z
theorem upd_tr {H : Hp} {l : Addr} {o : HO} : ∀ a, H a ≠ none → L2.upd H l o a ≠ none := fun a h => by
  by_cases e : a = l
  · rw [e, upd_same]; exact fun z => by cases z
  · rw [upd_ne e]; exact h
/-- what φ says is kept, nothing is lost from sight -/
structure But (φ : Addr → Prop) (H H' : Hp) : Prop where
  keep : ∀ a o, φ a → H a = some o → H' a = some o
  tr : ∀ a, H a ≠ none → H' a ≠ none
theorem But.refl (φ : Addr → Prop) (H : Hp) : But φ H H := ⟨fun _ _ _ e => e, fun _ h => h⟩
theorem But.trans {φ : Addr → Prop} {H H1 H2 : Hp} (a : But φ H H1) (b : But φ H1 H2) : But φ H H2 := ⟨fun x o h e => b.keep x o h (a.keep x o h e), fun x h => b.tr x (a.tr x h)⟩
theorem But.of {φ : Addr → Prop} {H H' : Hp} (s : Same H H') : But φ H H' := ⟨fun a o _ e => s a o e, same_tr s⟩
theorem But.upd {φ : Addr → Prop} {H H' : Hp} {l : Addr} {o : HO} (b : But φ H H') (h : ¬ φ l) : But φ H (L2.upd H' l o) := ⟨fun a u p e => by
  rw [L2.upd_ne (show a ≠ l from fun z => h (z ▸ p))]
  exact b.keep a u p e, fun a h => upd_tr a (b.tr a h)⟩
theorem But.imp {φ φ' : Addr → Prop} {H H' : Hp} (b : But φ' H H') (h : ∀ a, φ a → H a ≠ none → φ' a) : But φ H H' := ⟨fun a o p e => b.keep a o (h a p (by rw [e]; exact fun z => by cases z)) e, b.tr⟩
theorem same_new {H : Hp} {p : Addr} {o : HO} (h : H p = none) : Same H (upd H p o) := fun b x e => by
  rw [upd_ne (ne_of_none e h)]
  exact e

section
variable (K : PySem.W.Frag) (φ : Addr → Prop) (H : Hp)
def WrT (a : Addr) (xs : List V) : Prop := ∃ (o : Obj) (its : Array Value) (n : Nat), K.lookup a = some o ∧ o.cls = .type "tuple" ∧ o.data = .seq its n ∧ its.size ≤ sizeLine ∧ Vals xs its.toList
def WrL (a : Addr) (xs : List V) : Prop := ∃ (o : Obj) (its : Array Value) (n : Nat), K.lookup a = some o ∧ o.cls = .type "list" ∧ o.dict = none ∧ o.data = .seq its n ∧ its.size ≤ sizeLine ∧ Vals xs its.toList
def PT (a : Addr) (xs : List V) : Prop := (φ a ∧ (H a = some (.tup xs) ∨ False)) ∨ (False ∧ K.lookup a = none)
def PL (a : Addr) (xs : List V) : Prop := (φ a ∧ Rd H a (.lst xs)) ∨ WrL K a xs
mutual
def Rep : D → V → Prop
  | .non, v => v = .non
  | .bl b, v => v = .bl b
  | .int i, v => v = .int i
  | .str x, v => v = .str x
  | .tup ds, v => ∃ a vs, v = .ref a ∧ PT K φ H a vs ∧ Reps ds vs
  | .lst ds, v => ∃ a vs, v = .ref a ∧ PL K φ H a vs ∧ Reps ds vs
  | .raw w, v => v = w
  | .dk ks ds, v => ∃ a vs, v = .ref a ∧ (φ a ∧ H a = some (.dK (ks.zip vs)) ∧ ks.length = ds.length) ∧ Reps ds vs
  | .dt ks ds, v => ∃ a vs, v = .ref a ∧ (φ a ∧ H a = some (.dT (ks.zip vs)) ∧ ks.length = ds.length) ∧ Reps ds vs
def Reps : List D → List V → Prop
  | [], vs => vs = []
  | d :: ds, vs => ∃ v r, vs = v :: r ∧ Rep d v ∧ Reps ds r
end
end

section
variable {K : PySem.W.Frag} {φ φ' : Addr → Prop} {H H' : Hp} {a : Addr} {xs : List V} {ds es : List D} {d : D} {v : V} {vs ws : List V}
theorem PT.at (h : PT K φ H a xs) : φ a ∧ H a = some (.tup xs) := h.elim (fun z => ⟨z.1, z.2.elim id False.elim⟩) fun z => z.1.elim
theorem PT.sq (h : PT K φ H a xs) : SqT K H a xs := .inl (.inl h.at.2)
theorem PL.sq (h : PL K φ H a xs) : SqL K H a xs := h.elim (fun z => .inl z.2) .inr
/-- a change that keeps what Rep leans on -/
def Up (φ φ' : Addr → Prop) (H H' : Hp) : Prop := ∀ a o, φ a → H a = some o → φ' a ∧ H' a = some o
theorem Up.of (b : But φ H H') : Up φ φ H H' := fun a o p e => ⟨p, b.keep a o p e⟩
theorem Up.new {p : Addr} (h : H p = none) : Up φ (fun a => φ a ∧ a ≠ p) H H := fun a o q e => ⟨⟨q, ne_of_none e h⟩, e⟩
theorem Rd.up {u : HO} (k : Up φ φ' H H') (p : φ a) (h : Rd H a u) : φ' a ∧ Rd H' a u := by
  rcases h with h | ⟨o, h⟩
  · exact ⟨(k a _ p h).1, .inl (k a _ p h).2⟩
  · exact ⟨(k a _ p h).1, .inr ⟨o, (k a _ p h).2⟩⟩
theorem PT.up (k : Up φ φ' H H') (h : PT K φ H a xs) : PT K φ' H' a xs := .inl ⟨(k a _ h.at.1 h.at.2).1, .inl (k a _ h.at.1 h.at.2).2⟩
theorem PL.up (k : Up φ φ' H H') (h : PL K φ H a xs) : PL K φ' H' a xs := h.elim (fun z => .inl (Rd.up k z.1 z.2)) .inr
mutual
theorem Rep.up (k : Up φ φ' H H') : ∀ (d : D) (v : V), Rep K φ H d v → Rep K φ' H' d v
  | .non, _, h => h
  | .bl _, _, h => h
  | .int _, _, h => h
  | .str _, _, h => h
  | .raw _, _, h => h
  | .dk ks ds, v, h => by
    obtain ⟨a, vs, e, ⟨p, e2, hl⟩, r⟩ := (show ∃ a vs, v = .ref a ∧ (φ a ∧ H a = some (.dK (ks.zip vs)) ∧ ks.length = ds.length) ∧ Reps K φ H ds vs from h)
    exact ⟨a, vs, e, ⟨(k a _ p e2).1, (k a _ p e2).2, hl⟩, Reps.up k ds vs r⟩
  | .dt ks ds, v, h => by
    obtain ⟨a, vs, e, ⟨p, e2, hl⟩, r⟩ := (show ∃ a vs, v = .ref a ∧ (φ a ∧ H a = some (.dT (ks.zip vs)) ∧ ks.length = ds.length) ∧ Reps K φ H ds vs from h)
    exact ⟨a, vs, e, ⟨(k a _ p e2).1, (k a _ p e2).2, hl⟩, Reps.up k ds vs r⟩
  | .tup ds, v, h => by
    obtain ⟨a, vs, e, p, r⟩ := (show ∃ a vs, v = .ref a ∧ PT K φ H a vs ∧ Reps K φ H ds vs from h)
    exact ⟨a, vs, e, p.up k, Reps.up k ds vs r⟩
  | .lst ds, v, h => by
    obtain ⟨a, vs, e, p, r⟩ := (show ∃ a vs, v = .ref a ∧ PL K φ H a vs ∧ Reps K φ H ds vs from h)
    exact ⟨a, vs, e, p.up k, Reps.up k ds vs r⟩
theorem Reps.up (k : Up φ φ' H H') : ∀ (ds : List D) (vs : List V), Reps K φ H ds vs → Reps K φ' H' ds vs
  | [], _, h => h
  | d :: ds, vs, h => by
    obtain ⟨v, r, e, h1, h2⟩ := (show ∃ v r, vs = v :: r ∧ Rep K φ H d v ∧ Reps K φ H ds r from h)
    exact ⟨v, r, e, Rep.up k d v h1, Reps.up k ds r h2⟩
end
theorem Rep.mono (h : Rep K φ H d v) (b : But φ H H') : Rep K φ H' d v := Rep.up (Up.of b) d v h
theorem Reps.mono (h : Reps K φ H ds vs) (b : But φ H H') : Reps K φ H' ds vs := Reps.up (Up.of b) ds vs h
theorem Reps.length : ∀ {ds : List D} {vs : List V}, Reps K φ H ds vs → vs.length = ds.length
  | [], vs, h => by
    have e : vs = [] := h
    rw [e]
    rfl
  | d :: ds, vs, h => by
    obtain ⟨v, r, rfl, h1, h2⟩ := (show ∃ v r, vs = v :: r ∧ Rep K φ H d v ∧ Reps K φ H ds r from h)
    rw [List.length_cons, List.length_cons, Reps.length h2]
theorem Reps.nil : Reps K φ H [] [] := rfl
theorem Reps.cons (h1 : Rep K φ H d v) (h2 : Reps K φ H ds vs) : Reps K φ H (d :: ds) (v :: vs) := ⟨v, vs, rfl, h1, h2⟩
theorem Reps.get : ∀ {ds : List D} {vs : List V} {i : Nat} {d : D}, Reps K φ H ds vs → ds[i]? = some d → ∃ v, vs[i]? = some v ∧ Rep K φ H d v
  | [], vs, i, d, _, e => by simp at e
  | x :: ds, vs, i, d, h, e => by
    obtain ⟨v, r, rfl, h1, h2⟩ := (show ∃ v r, vs = v :: r ∧ Rep K φ H x v ∧ Reps K φ H ds r from h)
    cases i with
    | zero =>
      have e' : x = d := by simpa using e
      exact ⟨v, rfl, e' ▸ h1⟩
    | succ i =>
      obtain ⟨w, e1, r1⟩ := Reps.get (i := i) h2 (by simpa using e)
      exact ⟨w, by simpa using e1, r1⟩
theorem Reps.getV {i : Nat} (h : Reps K φ H ds vs) (e : vs[i]? = some v) : ∃ d, ds[i]? = some d ∧ Rep K φ H d v := by
  have hl := h.length
  obtain ⟨hi, _⟩ := List.getElem?_eq_some_iff.mp e
  obtain ⟨w, e1, r1⟩ := h.get (List.getElem?_eq_getElem (show i < ds.length by omega))
  rw [e] at e1
  cases e1
  exact ⟨_, List.getElem?_eq_getElem (show i < ds.length by omega), r1⟩
theorem Reps.append : ∀ {ds : List D} {vs : List V}, Reps K φ H ds vs → Reps K φ H es ws → Reps K φ H (ds ++ es) (vs ++ ws)
  | [], vs, h, k => by
    have e : vs = [] := h
    rw [e]
    exact k
  | d :: ds, vs, h, k => by
    obtain ⟨v, r, rfl, h1, h2⟩ := (show ∃ v r, vs = v :: r ∧ Rep K φ H d v ∧ Reps K φ H ds r from h)
    exact ⟨v, r ++ ws, rfl, h1, Reps.append h2 k⟩
theorem Reps.drop : ∀ (n : Nat) {ds : List D} {vs : List V}, Reps K φ H ds vs → Reps K φ H (ds.drop n) (vs.drop n)
  | 0, _, _, h => h
  | n + 1, [], vs, h => by
    have e : vs = [] := h
    rw [e]
    exact rfl
  | n + 1, d :: ds, vs, h => by
    obtain ⟨v, r, rfl, h1, h2⟩ := (show ∃ v r, vs = v :: r ∧ Rep K φ H d v ∧ Reps K φ H ds r from h)
    exact Reps.drop n h2
theorem Reps.take : ∀ (n : Nat) {ds : List D} {vs : List V}, Reps K φ H ds vs → Reps K φ H (ds.take n) (vs.take n)
  | 0, _, _, h => rfl
  | n + 1, [], vs, h => by
    have e : vs = [] := h
    rw [e]
    exact rfl
  | n + 1, d :: ds, vs, h => by
    obtain ⟨v, r, rfl, h1, h2⟩ := (show ∃ v r, vs = v :: r ∧ Rep K φ H d v ∧ Reps K φ H ds r from h)
    exact ⟨v, _, rfl, h1, Reps.take n h2⟩
theorem Reps.set : ∀ {ds : List D} {vs : List V} (i : Nat), Reps K φ H ds vs → Rep K φ H d v → Reps K φ H (ds.set i d) (vs.set i v)
  | [], vs, i, h, _ => by
    have e : vs = [] := h
    rw [e]
    exact rfl
  | x :: ds, vs, i, h, k => by
    obtain ⟨w, r, rfl, h1, h2⟩ := (show ∃ v r, vs = v :: r ∧ Rep K φ H x v ∧ Reps K φ H ds r from h)
    cases i with
    | zero => exact ⟨v, r, rfl, k, h2⟩
    | succ i => exact ⟨w, r.set i v, rfl, h1, Reps.set i h2 k⟩
theorem Reps.ints : ∀ {ns : List Int} {vs : List V}, Reps K φ H (ns.map D.int) vs → vs = ns.map V.int
  | [], vs, h => h
  | n :: ns, vs, h => by
    obtain ⟨v, r, rfl, h1, h2⟩ := (show ∃ v r, vs = v :: r ∧ Rep K φ H (.int n) v ∧ Reps K φ H (ns.map D.int) r from h)
    have e : v = .int n := h1
    rw [e, Reps.ints h2]
    rfl
theorem Reps.of_ints : ∀ {ns : List Int}, Reps K φ H (ns.map D.int) (ns.map V.int)
  | [] => rfl
  | n :: ns => ⟨.int n, ns.map V.int, rfl, rfl, Reps.of_ints⟩
theorem Reps.strs : ∀ {ns : List Str} {vs : List V}, Reps K φ H (ns.map D.str) vs → vs = ns.map V.str
  | [], vs, h => h
  | n :: ns, vs, h => by
    obtain ⟨v, r, rfl, h1, h2⟩ := (show ∃ v r, vs = v :: r ∧ Rep K φ H (.str n) v ∧ Reps K φ H (ns.map D.str) r from h)
    have e : v = .str n := h1
    rw [e, Reps.strs h2]
    rfl
end

/-! ### the slots -/
def SR (K : PySem.W.Frag) (φ : Addr → Prop) (H : Hp) (ρ : List (Option D)) (σ : L2.St) : Prop :=
  σ.length = ρ.length ∧ ∀ (i : Nat) (d : D), ρ[i]? = some (some d) → ∃ v, σ[i]? = some (some v) ∧ Rep K φ H d v
section
variable {K : PySem.W.Frag} {φ φ' : Addr → Prop} {H H' : Hp} {ρ ρ' : List (Option D)} {σ : L2.St} {d : D} {v : V}
theorem SR.up (k : Up φ φ' H H') (h : SR K φ H ρ σ) : SR K φ' H' ρ σ := ⟨h.1, fun i d e => by
  obtain ⟨v, e1, r⟩ := h.2 i d e
  exact ⟨v, e1, Rep.up k d v r⟩⟩
theorem SR.set (i : Nat) (h : SR K φ H ρ σ) (r : Rep K φ H d v) : SR K φ H (ρ.set i (some d)) (σ.set i (some v)) := by
  refine ⟨by rw [List.length_set, List.length_set]; exact h.1, fun j e hj => ?_⟩
  by_cases hij : i = j
  · subst hij
    have hl : i < ρ.length := by
      obtain ⟨z, _⟩ := List.getElem?_eq_some_iff.mp hj
      simpa using z
    rw [List.getElem?_set_self hl] at hj
    cases hj
    exact ⟨v, List.getElem?_set_self (by rw [h.1]; exact hl), r⟩
  · rw [List.getElem?_set_ne hij] at hj
    obtain ⟨w, e1, r1⟩ := h.2 j e hj
    exact ⟨w, by rw [List.getElem?_set_ne hij]; exact e1, r1⟩
/-- ρ' knows no more than ρ -/
inductive Le : List (Option D) → List (Option D) → Prop where
  | nil : Le [] []
  | keep {x : Option D} {a b : List (Option D)} : Le a b → Le (x :: a) (x :: b)
  | drop {x : Option D} {a b : List (Option D)} : Le a b → Le (none :: a) (x :: b)
theorem Le.length : ∀ {a b : List (Option D)}, Le a b → a.length = b.length
  | _, _, .nil => rfl
  | _, _, .keep h => by rw [List.length_cons, List.length_cons, h.length]
  | _, _, .drop h => by rw [List.length_cons, List.length_cons, h.length]
theorem Le.get : ∀ {a b : List (Option D)} {i : Nat} {d : D}, Le a b → a[i]? = some (some d) → b[i]? = some (some d)
  | _, _, _, _, .nil, e => e
  | _, _, 0, _, .keep h, e => e
  | _, _, i + 1, _, .keep h, e => by
    have z := Le.get (i := i) h (by simpa using e)
    simpa using z
  | _, _, 0, _, .drop h, e => by simp at e
  | _, _, i + 1, _, .drop h, e => by
    have z := Le.get (i := i) h (by simpa using e)
    simpa using z
theorem Le.refl : ∀ (a : List (Option D)), Le a a
  | [] => .nil
  | _ :: a => .keep (Le.refl a)
theorem SR.le (h : SR K φ H ρ σ) (l : Le ρ' ρ) : SR K φ H ρ' σ := ⟨by rw [h.1, l.length], fun i d e => h.2 i d (l.get e)⟩
theorem SR.start : ∀ {ds : List D} {vs : List V} {n : Nat}, Reps K φ H ds vs → SR K φ H (ds.map some ++ List.replicate n none) (vs.map some ++ List.replicate n none)
  | [], vs, n, h => by
    have e : vs = [] := h
    rw [e]
    refine ⟨by simp, fun i d hd => ?_⟩
    simp [List.getElem?_replicate] at hd
  | d :: ds, vs, n, h => by
    obtain ⟨v, r, rfl, h1, h2⟩ := (show ∃ v r, vs = v :: r ∧ Rep K φ H d v ∧ Reps K φ H ds r from h)
    obtain ⟨l, g⟩ := SR.start (n := n) h2
    refine ⟨by simp only [List.map_cons, List.cons_append, List.length_cons, l], fun i d' hd => ?_⟩
    cases i with
    | zero =>
      simp at hd
      exact ⟨v, rfl, hd ▸ h1⟩
    | succ i =>
      obtain ⟨w, e, q⟩ := g i d' (by simpa using hd)
      exact ⟨w, by simpa using e, q⟩
end

/-! ### a state: the slots by trees, the live facts J -/
/-- J leans on what H tracks alone -/
def Mo (H : Hp) (J : Hp → Prop) : Prop := ∀ H1 H2 : Hp, (∀ a o, H a ≠ none → H1 a = some o → H2 a = some o) → J H1 → J H2
theorem Mo.up {H H' : Hp} {J : Hp → Prop} (m : Mo H J) (s : ∀ a, H a ≠ none → H' a ≠ none) : Mo H' J := fun H1 H2 k j => m H1 H2 (fun a o h e => k a o (s a h) e) j
theorem Mo.same {H H' : Hp} {J : Hp → Prop} (m : Mo H J) (s : Same H H') : Mo H' J := m.up (same_tr s)
theorem Mo.upd {H : Hp} {J : Hp → Prop} {l : Addr} {o : HO} (m : Mo H J) : Mo (L2.upd H l o) J := m.up upd_tr
theorem Mo.and {H : Hp} {J J' : Hp → Prop} (m : Mo H J) (m' : Mo H J') : Mo H (fun H => J H ∧ J' H) := fun H1 H2 k j => ⟨m H1 H2 k j.1, m' H1 H2 k j.2⟩
theorem Mo.at {H : Hp} {l : Addr} {o : HO} (h : H l ≠ none) : Mo H (fun H => H l = some o) := fun H1 H2 k j => k l o h j
theorem Mo.sames {H H0 : Hp} (h : ∀ a, H0 a ≠ none → H a ≠ none) : Mo H (Same H0) := fun H1 H2 k j b o e => k b o (h b (by rw [e]; exact fun z => by cases z)) (j b o e)
theorem Mo.but {φ : Addr → Prop} {H H0 : Hp} (h : ∀ a, H0 a ≠ none → H a ≠ none) : Mo H (But φ H0) := fun H1 H2 k j => ⟨fun b o p e => k b o (h b (by rw [e]; exact fun z => by cases z)) (j.keep b o p e), fun b hb => by
  cases e : H1 b with
  | none => exact absurd e (j.tr b hb)
  | some o => rw [k b o (h b hb) e]; exact fun z => by cases z⟩
theorem Mo.tt {H : Hp} {p : Prop} : Mo H (fun _ => p) := fun H1 H2 k j => j
/-- what is free, and every tuple, is in φ -/
structure Frm (φ : Addr → Prop) (H : Hp) : Prop where
  new : ∀ a, H a = none → φ a
  tup : ∀ a xs, H a = some (.tup xs) → φ a
instance {φ : Addr → Prop} {H : Hp} : CoeFun (Frm φ H) (fun _ => ∀ a, H a = none → φ a) := ⟨Frm.new⟩
theorem Frm.same {φ : Addr → Prop} {H H' : Hp} (F : Frm φ H) (s : Same H H') : Frm φ H' := ⟨fun a h => F.new a (s.free h), fun a xs h => by
  cases e : H a with
  | none => exact F.new a e
  | some o =>
    have z := s a o e
    rw [h] at z
    cases z
    exact F.tup a xs e⟩
theorem Frm.fst {φ : Addr → Prop} {l : Addr} {H : Hp} (F : Frm (fun a => φ a ∧ a ≠ l) H) : Frm φ H := ⟨fun a h => (F.new a h).1, fun a xs h => (F.tup a xs h).1⟩
theorem Frm.upd {φ : Addr → Prop} {H : Hp} {l : Addr} {o : HO} (F : Frm φ H) (ho : ∀ xs, o ≠ .tup xs) : Frm φ (L2.upd H l o) := ⟨fun a h => by
  by_cases e : a = l
  · rw [e, upd_same] at h; cases h
  · rw [upd_ne e] at h; exact F.new a h, fun a xs h => by
  by_cases e : a = l
  · rw [e, upd_same] at h; exact absurd (Option.some.inj h) (ho xs)
  · rw [upd_ne e] at h; exact F.tup a xs h⟩
theorem Frm.updW {φ : Addr → Prop} {H : Hp} {l : Addr} {o : HO} (F : Frm φ H) (ho : ∀ xs, o ≠ .tup xs) : Frm (fun a => φ a ∧ a ≠ l) (L2.upd H l o) := ⟨fun a h => ⟨(F.upd ho).new a h, fun e => by rw [e, upd_same] at h; cases h⟩, fun a xs h => ⟨(F.upd ho).tup a xs h, fun e => by
  rw [e, upd_same] at h
  exact ho xs (Option.some.inj h)⟩⟩
theorem Frm.at {φ : Addr → Prop} {H : Hp} {l : Addr} {o : HO} (F : Frm φ H) (h : H l = some o) (ho : ∀ xs, o ≠ .tup xs) : Frm (fun a => φ a ∧ a ≠ l) H := ⟨fun a ha => ⟨F.new a ha, fun e => by rw [e, h] at ha; cases ha⟩, fun a xs ha => ⟨F.tup a xs ha, fun e => by
  rw [e, h] at ha
  exact ho xs (Option.some.inj ha)⟩⟩
structure At (K : PySem.W.Frag) (φ : Addr → Prop) (J : Hp → Prop) (ρ : List (Option D)) (σ : L2.St) (H : Hp) : Prop where
  sr : SR K φ H ρ σ
  fr : Frm φ H
  j : J H
  mono : Mo H J
section
variable {K : PySem.W.Frag} {φ φ' : Addr → Prop} {J J' : Hp → Prop} {H H' : Hp} {ρ ρ' : List (Option D)} {σ : L2.St} {d : D} {v : V}
theorem At.same (A : At K φ J ρ σ H) (s : Same H H') : At K φ J ρ σ H' :=
  ⟨A.sr.up (Up.of (But.of s)), A.fr.same s, A.mono _ _ (fun a o _ e => s a o e) A.j, A.mono.same s⟩
theorem At.le (A : At K φ J ρ σ H) (l : Le ρ' ρ) : At K φ J ρ' σ H := ⟨A.sr.le l, A.fr, A.j, A.mono⟩
theorem At.set (A : At K φ J ρ σ H) (i : Nat) (r : Rep K φ H d v) : At K φ J (ρ.set i (some d)) (σ.set i (some v)) H := ⟨A.sr.set i r, A.fr, A.j, A.mono⟩
theorem At.live (A : At K φ J ρ σ H) (j : J' H) (m : Mo H J') : At K φ J' ρ σ H := ⟨A.sr, A.fr, j, m⟩
/-- a new live object at p -/
theorem At.newLive {p : Addr} {o : HO} (A : At K φ J ρ σ H) (hp : H p = none) (j : J' (L2.upd H p o)) (m : Mo (L2.upd H p o) J') (ho : ∀ xs, o ≠ .tup xs := by intro xs h; cases h) : At K (fun a => φ a ∧ a ≠ p) J' ρ σ (L2.upd H p o) :=
  ⟨A.sr.up fun a u q e => ⟨⟨q, ne_of_none e hp⟩, by rw [upd_ne (ne_of_none e hp)]; exact e⟩, A.fr.updW ho, j, m⟩
/-- a live object is written -/
theorem At.upd {l : Addr} {o : HO} (A : At K φ J ρ σ H) (hl : ¬ φ l) (j : J' (L2.upd H l o)) (m : Mo (L2.upd H l o) J') (ho : ∀ xs, o ≠ .tup xs := by intro xs h; cases h) : At K φ J' ρ σ (L2.upd H l o) :=
  ⟨A.sr.up (Up.of ((But.refl φ H).upd hl)), A.fr.upd ho, j, m⟩
/-- slots and heap may be another's, if they say the same -/
theorem Same.upd_live {H H' : Hp} {l : Addr} {o : HO} (s : Same H H') (hl : H l = none) : Same H (L2.upd H' l o) := fun b u e => by
  rw [upd_ne (ne_of_none e hl)]
  exact s b u e
end

/-! ### what a reading evaluates to -/
section
variable (K : PySem.W.Frag) (φ : Addr → Prop) (J : Hp → Prop)
def EvP (te : TE) (ρ : List (Option D)) (P : D → Prop) : Prop := ∀ σ H, At K φ J ρ σ H → ∀ Q : VK, (∀ v d H', But φ H H' → At K φ J ρ σ H' → P d → Rep K φ H' d v → Q v H') → te σ H Q
abbrev EvD (te : TE) (ρ : List (Option D)) (d : D) : Prop := EvP K φ J te ρ (fun x => x = d)
abbrev EvI (te : TE) (ρ : List (Option D)) (p : Int → Prop) : Prop := EvP K φ J te ρ (fun x => ∃ i, x = .int i ∧ p i)
abbrev EvB (te : TE) (ρ : List (Option D)) (p : Bool → Prop) : Prop := EvP K φ J te ρ (fun x => ∃ b, x = .bl b ∧ p b)
def EvA (ta : TA) (ρ : List (Option D)) (P : List D → Prop) : Prop := ∀ σ H, At K φ J ρ σ H → ∀ Q : List V → Hp → Prop, (∀ vs ds H', But φ H H' → At K φ J ρ σ H' → P ds → Reps K φ H' ds vs → Q vs H') → ta σ H Q
def EvT (tt : TT) (ρ : List (Option D)) (p : Bool → Prop) : Prop := ∀ σ H, At K φ J ρ σ H → ∀ Q : Bool → Hp → Prop, (∀ b H', But φ H H' → At K φ J ρ σ H' → p b → Q b H') → tt σ H Q
def EvO (to : TO) (ρ : List (Option D)) (o : Option Int) : Prop := ∀ σ H, At K φ J ρ σ H → ∀ Q : Option Int → Hp → Prop, (∀ H', But φ H H' → At K φ J ρ σ H' → Q o H') → to σ H Q
/-- a two-place operation by trees -/
def Op2 (r : R2) (x y : D) (P : D → Prop) : Prop := ∀ (H : Hp) v w, Frm φ H → Rep K φ H x v → Rep K φ H y w → ∀ Q : VK, (∀ u z H', Same H H' → P z → Rep K φ H' z u → Q u H') → r v w H Q
/-- a call by trees -/
def Cl (r : List V → Hp → VK → Prop) (ds : List D) (P : D → Prop) : Prop := ∀ (H : Hp) vs, Frm φ H → Reps K φ H ds vs → ∀ Q : VK, (∀ u z H', Same H H' → P z → Rep K φ H' z u → Q u H') → r vs H Q
end
section
variable {K : PySem.W.Frag} {φ : Addr → Prop} {J : Hp → Prop} {ρ : List (Option D)} {ta tb te tc : TE} {x y z d : D} {P Pa Pb : D → Prop} {i j : Int} {p q : Int → Prop}
theorem EvP.imp {P' : D → Prop} (h : EvP K φ J te ρ P) (k : ∀ d, P d → P' d) : EvP K φ J te ρ P' := fun σ H A Q q => h σ H A Q fun v d H' b A' pd r => q v d H' b A' (k d pd) r
theorem EvP.is {d' : D} (h : EvD K φ J te ρ d) (e : d = d') : EvD K φ J te ρ d' := e ▸ h
theorem ev_var {i : Nat} (h : ρ[i]? = some (some d)) : EvD K φ J (tVar i) ρ d := fun σ H A Q q => by
  obtain ⟨v, e, r⟩ := A.sr.2 i d h
  exact ⟨v, e, q v d H (But.refl _ _) A rfl r⟩
theorem ev_int : EvD K φ J (tC (.int i)) ρ (.int i) := fun σ H A Q q => q _ _ H (But.refl _ _) A rfl rfl
theorem ev_bl {b : Bool} : EvD K φ J (tC (.bl b)) ρ (.bl b) := fun σ H A Q q => q _ _ H (But.refl _ _) A rfl rfl
theorem ev_str {s : Str} : EvD K φ J (tC (.str s)) ρ (.str s) := fun σ H A Q q => q _ _ H (But.refl _ _) A rfl rfl
theorem ev_non : EvD K φ J (tC .non) ρ .non := fun σ H A Q q => q _ _ H (But.refl _ _) A rfl rfl
theorem ev_ty {n : String} : EvD K φ J (tC (.ty n)) ρ (.raw (.ty n)) := fun σ H A Q q => q _ _ H (But.refl _ _) A rfl rfl
theorem ev_ref {a : Addr} : EvD K φ J (tC (.ref a)) ρ (.raw (.ref a)) := fun σ H A Q q => q _ _ H (But.refl _ _) A rfl rfl
theorem ev_op {r : R2} (ha : EvP K φ J ta ρ Pa) (hb : EvP K φ J tb ρ Pb) (hr : ∀ x y, Pa x → Pb y → Op2 K φ r x y P) : EvP K φ J (tOp r ta tb) ρ P := fun σ H A Q q =>
  ha σ H A _ fun v x H1 b1 A1 px r1 => hb σ H1 A1 _ fun w y H2 b2 A2 py r2 => hr x y px py H2 v w A2.fr (r1.mono b2) r2 Q fun u z H3 s pz r3 => q u z H3 ((b1.trans b2).trans (But.of s)) (A2.same s) pz r3
theorem ev_opD {r : R2} (ha : EvD K φ J ta ρ x) (hb : EvD K φ J tb ρ y) (hr : Op2 K φ r x y P) : EvP K φ J (tOp r ta tb) ρ P := ev_op ha hb fun _ _ e1 e2 => by
  subst e1 e2
  exact hr
/-! the operators on ints -/
theorem o2_I0 {g : Int → Int → V} {z : D} (hz : ∀ H, Rep K φ H z (g i j)) : Op2 K φ (rI0 g) (.int i) (.int j) (fun x => x = z) := fun H v w _ r1 r2 Q q => ⟨i, j, r1, r2, q _ _ H (Same.refl H) rfl (hz H)⟩
theorem o2_I {C : Int → Int → Prop} {g : Int → Int → V} {z : D} (hc : C i j) (hz : ∀ H, Rep K φ H z (g i j)) : Op2 K φ (rI C g) (.int i) (.int j) (fun x => x = z) := fun H v w _ r1 r2 Q q => ⟨i, j, r1, r2, hc, q _ _ H (Same.refl H) rfl (hz H)⟩
theorem ev_add (ha : EvD K φ J ta ρ (.int i)) (hb : EvD K φ J tb ρ (.int j)) : EvD K φ J (tOp (rI0 fun i j => .int (i + j)) ta tb) ρ (.int (i + j)) := ev_opD ha hb (o2_I0 fun _ => rfl)
theorem ev_sub (ha : EvD K φ J ta ρ (.int i)) (hb : EvD K φ J tb ρ (.int j)) : EvD K φ J (tOp (rI0 fun i j => .int (i - j)) ta tb) ρ (.int (i - j)) := ev_opD ha hb (o2_I0 fun _ => rfl)
theorem ev_lt (ha : EvD K φ J ta ρ (.int i)) (hb : EvD K φ J tb ρ (.int j)) : EvD K φ J (tOp (rI0 fun i j => .bl (decide (i < j))) ta tb) ρ (.bl (decide (i < j))) := ev_opD ha hb (o2_I0 fun _ => rfl)
theorem ev_le (ha : EvD K φ J ta ρ (.int i)) (hb : EvD K φ J tb ρ (.int j)) : EvD K φ J (tOp (rI0 fun i j => .bl (decide (i ≤ j))) ta tb) ρ (.bl (decide (i ≤ j))) := ev_opD ha hb (o2_I0 fun _ => rfl)
theorem ev_gt (ha : EvD K φ J ta ρ (.int i)) (hb : EvD K φ J tb ρ (.int j)) : EvD K φ J (tOp (rI0 fun i j => .bl (decide (j < i))) ta tb) ρ (.bl (decide (j < i))) := ev_opD ha hb (o2_I0 fun _ => rfl)
theorem ev_ge (ha : EvD K φ J ta ρ (.int i)) (hb : EvD K φ J tb ρ (.int j)) : EvD K φ J (tOp (rI0 fun i j => .bl (decide (j ≤ i))) ta tb) ρ (.bl (decide (j ≤ i))) := ev_opD ha hb (o2_I0 fun _ => rfl)
theorem ev_mul (ha : EvD K φ J ta ρ (.int i)) (hb : EvD K φ J tb ρ (.int j)) (hc : CMul i j) : EvD K φ J (tOp (rI CMul fun i j => .int (i * j)) ta tb) ρ (.int (i * j)) := ev_opD ha hb (o2_I hc fun _ => rfl)
theorem ev_mulW (ha : EvD K φ J ta ρ (.int i)) (hb : EvD K φ J tb ρ (.int j)) (hc : CMulW i j) : EvD K φ J (tOp (rI CMulW fun i j => .int (i * j)) ta tb) ρ (.int (i * j)) := ev_opD ha hb (o2_I hc fun _ => rfl)
theorem ev_fdiv (ha : EvD K φ J ta ρ (.int i)) (hb : EvD K φ J tb ρ (.int j)) (hc : CDiv i j) : EvD K φ J (tOp (rI CDiv fun i j => .int (i / j)) ta tb) ρ (.int (i / j)) := ev_opD ha hb (o2_I hc fun _ => rfl)
theorem ev_fdivW (ha : EvD K φ J ta ρ (.int i)) (hb : EvD K φ J tb ρ (.int j)) (hc : CDivW i j) : EvD K φ J (tOp (rI CDivW fun i j => .int (i / j)) ta tb) ρ (.int (i / j)) := ev_opD ha hb (o2_I hc fun _ => rfl)
theorem ev_mod (ha : EvD K φ J ta ρ (.int i)) (hb : EvD K φ J tb ρ (.int j)) (hc : 0 < j) : EvD K φ J (tOp (rI (fun _ j => 0 < j) fun i j => .int (i % j)) ta tb) ρ (.int (i % j)) := ev_opD ha hb (o2_I hc fun _ => rfl)
theorem ev_neg (ha : EvD K φ J ta ρ (.int i)) : EvD K φ J (tUn (rU fun i => .int (-i)) ta) ρ (.int (-i)) := fun σ H A Q q =>
  ha σ H A _ fun v x H1 b1 A1 px r1 => by
    subst px
    exact ⟨i, r1, q _ _ H1 b1 A1 rfl rfl⟩
/-- scalars compared -/
def scD : D → D → Bool
  | .non, .non => true
  | .bl _, .bl _ => true
  | .int _, .int _ => true
  | .str _, .str _ => true
  | _, _ => false
def eqS : D → D → Bool
  | .non, .non => true
  | .bl a, .bl b => a == b
  | .int a, .int b => decide (a = b)
  | .str a, .str b => decide (a = b)
  | _, _ => false
end
end DL
namespace DL
open PySem PySem.Spec PyProof.Rows L2

section
variable {K : PySem.W.Frag} {φ φ' : Addr → Prop} {J J' : Hp → Prop} {H H' : Hp} {ρ ρ' : List (Option D)} {σ : L2.St} {ta tb te tc : TE} {x y z d : D} {P Pa Pb Pc : D → Prop} {i j : Int} {p q : Int → Prop} {b c : Bool} {s t : Str} {ds es : List D} {v : V} {vs : List V}

/-! ### one-place forms -/
theorem ev_un {r : V → Hp → VK → Prop} (ha : EvP K φ J ta ρ Pa) (hr : ∀ x, Pa x → ∀ (H : Hp) v, Frm φ H → Rep K φ H x v → ∀ Q : VK, (∀ u z H', Same H H' → P z → Rep K φ H' z u → Q u H') → r v H Q) : EvP K φ J (tUn r ta) ρ P := fun σ H A Q q =>
  ha σ H A _ fun v x H1 b1 A1 px r1 => hr x px H1 v A1.fr r1 Q fun u z H2 s pz r2 => q u z H2 (b1.trans (But.of s)) (A1.same s) pz r2

/-! ### == of scalars -/
theorem o2_eqI : Op2 K φ rEq (.int i) (.int j) (fun x => x = .bl (decide (i = j))) := fun H v w _ r1 r2 Q q => by
  cases (show v = .int i from r1)
  cases (show w = .int j from r2)
  exact ⟨rfl, q _ _ H (Same.refl H) rfl (by rw [dec_int, Bool.beq_eq_decide_eq]; rfl)⟩
theorem o2_neI : Op2 K φ rNe (.int i) (.int j) (fun x => x = .bl (!decide (i = j))) := fun H v w _ r1 r2 Q q => by
  cases (show v = .int i from r1)
  cases (show w = .int j from r2)
  exact ⟨rfl, q _ _ H (Same.refl H) rfl (by rw [dec_int, Bool.beq_eq_decide_eq]; rfl)⟩
theorem o2_eqB : Op2 K φ rEq (.bl b) (.bl c) (fun x => x = .bl (b == c)) := fun H v w _ r1 r2 Q q => by
  cases (show v = .bl b from r1)
  cases (show w = .bl c from r2)
  exact ⟨rfl, q _ _ H (Same.refl H) rfl (by rw [dec_bl]; rfl)⟩
theorem o2_neB : Op2 K φ rNe (.bl b) (.bl c) (fun x => x = .bl (!(b == c))) := fun H v w _ r1 r2 Q q => by
  cases (show v = .bl b from r1)
  cases (show w = .bl c from r2)
  exact ⟨rfl, q _ _ H (Same.refl H) rfl (by rw [dec_bl]; rfl)⟩
theorem dec_strD : decide (V.str s = V.str t) = decide (s = t) := by
  by_cases h : s = t
  · subst h
    simp
  · rw [decide_eq_false h, decide_eq_false fun z => h (V.str.inj z)]
theorem o2_eqS : Op2 K φ rEq (.str s) (.str t) (fun x => x = .bl (decide (s = t))) := fun H v w _ r1 r2 Q q => by
  cases (show v = .str s from r1)
  cases (show w = .str t from r2)
  exact ⟨rfl, q _ _ H (Same.refl H) rfl (by rw [dec_strD]; rfl)⟩
theorem o2_neS : Op2 K φ rNe (.str s) (.str t) (fun x => x = .bl (!decide (s = t))) := fun H v w _ r1 r2 Q q => by
  cases (show v = .str s from r1)
  cases (show w = .str t from r2)
  exact ⟨rfl, q _ _ H (Same.refl H) rfl (by rw [dec_strD]; rfl)⟩
theorem ev_eqI (ha : EvD K φ J ta ρ (.int i)) (hb : EvD K φ J tb ρ (.int j)) : EvD K φ J (tOp rEq ta tb) ρ (.bl (decide (i = j))) := ev_opD ha hb o2_eqI
theorem ev_neI (ha : EvD K φ J ta ρ (.int i)) (hb : EvD K φ J tb ρ (.int j)) : EvD K φ J (tOp rNe ta tb) ρ (.bl (!decide (i = j))) := ev_opD ha hb o2_neI
theorem ev_eqB (ha : EvD K φ J ta ρ (.bl b)) (hb : EvD K φ J tb ρ (.bl c)) : EvD K φ J (tOp rEq ta tb) ρ (.bl (b == c)) := ev_opD ha hb o2_eqB
theorem ev_neB (ha : EvD K φ J ta ρ (.bl b)) (hb : EvD K φ J tb ρ (.bl c)) : EvD K φ J (tOp rNe ta tb) ρ (.bl (!(b == c))) := ev_opD ha hb o2_neB
theorem ev_eqS (ha : EvD K φ J ta ρ (.str s)) (hb : EvD K φ J tb ρ (.str t)) : EvD K φ J (tOp rEq ta tb) ρ (.bl (decide (s = t))) := ev_opD ha hb o2_eqS
theorem ev_neS (ha : EvD K φ J ta ρ (.str s)) (hb : EvD K φ J tb ρ (.str t)) : EvD K φ J (tOp rNe ta tb) ρ (.bl (!decide (s = t))) := ev_opD ha hb o2_neS

/-! ### is None -/
def isNon : D → Bool
  | .non => true
  | .raw w => decide (w = .non)
  | _ => false
def rIsN : R2 := fun x y H Q => y = .non ∧ Q (.bl (decide (x = .non))) H
def rNotN : R2 := fun x y H Q => y = .non ∧ Q (.bl (!decide (x = .non))) H
theorem op_isN1 {X : Cx} : OpR X (compareOp .Is) rIsN := op_isN
theorem op_notN1 {X : Cx} : OpR X (compareOp .IsNot) rNotN := op_notN
theorem isNon_rep : ∀ {d : D}, Rep K φ H d v → decide (v = .non) = isNon d
  | .non, h => by cases (show v = .non from h); rfl
  | .bl _, h => by cases (show v = _ from h); rfl
  | .int _, h => by cases (show v = _ from h); rfl
  | .str _, h => by cases (show v = _ from h); rfl
  | .raw w, h => by cases (show v = _ from h); rfl
  | .tup ds, h => by
    obtain ⟨a, vs, e, _⟩ := (show ∃ a vs, v = .ref a ∧ PT K φ H a vs ∧ Reps K φ H ds vs from h)
    subst e
    rfl
  | .lst ds, h => by
    obtain ⟨a, vs, e, _⟩ := (show ∃ a vs, v = .ref a ∧ PL K φ H a vs ∧ Reps K φ H ds vs from h)
    subst e
    rfl
  | .dk ks ds, h => by
    obtain ⟨a, vs, e, _⟩ := (show ∃ a vs, v = .ref a ∧ (φ a ∧ H a = some (.dK (ks.zip vs)) ∧ ks.length = ds.length) ∧ Reps K φ H ds vs from h)
    subst e
    rfl
  | .dt ks ds, h => by
    obtain ⟨a, vs, e, _⟩ := (show ∃ a vs, v = .ref a ∧ (φ a ∧ H a = some (.dT (ks.zip vs)) ∧ ks.length = ds.length) ∧ Reps K φ H ds vs from h)
    subst e
    rfl
theorem ev_isN (ha : EvD K φ J ta ρ x) : EvD K φ J (tOp rIsN ta (tC .non)) ρ (.bl (isNon x)) := ev_opD ha ev_non fun H v w _ r1 r2 Q q => ⟨r2, q _ _ H (Same.refl H) rfl (by rw [isNon_rep r1]; rfl)⟩
theorem ev_notN (ha : EvD K φ J ta ρ x) : EvD K φ J (tOp rNotN ta (tC .non)) ρ (.bl (!isNon x)) := ev_opD ha ev_non fun H v w _ r1 r2 Q q => ⟨r2, q _ _ H (Same.refl H) rfl (by rw [isNon_rep r1]; rfl)⟩

/-! ### chains, and, or, not, if-else -/
theorem ev_chain {r r' : R2} {k : Bool} (ha : EvD K φ J ta ρ x) (hb : EvD K φ J tb ρ y) (hr : Op2 K φ r x y (fun u => u = .bl k)) (hc : k = true → EvD K φ J tc ρ z) (hr' : k = true → Op2 K φ r' y z (fun u => u = .bl b)) :
    EvD K φ J (tChain r r' ta tb tc) ρ (.bl (k && b)) := fun σ H A Q q =>
  ha σ H A _ fun v x1 H1 b1 A1 e1 r1 => hb σ H1 A1 _ fun w y1 H2 b2 A2 e2 r2 => by
    subst e1 e2
    refine hr H2 v w A2.fr (r1.mono b2) r2 _ fun u z1 H3 s3 e3 r3 => ?_
    subst e3
    refine ⟨k, r3, ?_⟩
    cases k with
    | false =>
      rw [if_neg (by simp)]
      exact q _ _ H3 ((b1.trans b2).trans (But.of s3)) (A2.same s3) rfl rfl
    | true =>
      rw [if_pos rfl]
      refine hc rfl σ H3 (A2.same s3) _ fun w' z1 H4 b4 A4 e4 r4 => ?_
      subst e4
      exact hr' rfl H4 w w' A4.fr ((r2.mono (But.of s3)).mono b4) r4 Q fun u z1 H5 s5 e5 r5 => q u z1 H5 ((((b1.trans b2).trans (But.of s3)).trans b4).trans (But.of s5)) (A4.same s5) e5 r5
theorem ev_chainI {f g : Int → Int → Bool} {i j k : Int} (ha : EvD K φ J ta ρ (.int i)) (hb : EvD K φ J tb ρ (.int j)) (hc : EvD K φ J tc ρ (.int k)) :
    EvD K φ J (tChain (rI0 fun i j => .bl (f i j)) (rI0 fun i j => .bl (g i j)) ta tb tc) ρ (.bl (f i j && g j k)) := ev_chain ha hb (o2_I0 fun _ => rfl) (fun _ => hc) fun _ => o2_I0 fun _ => rfl
theorem ev_andV (ha : EvD K φ J ta ρ (.bl b)) (hb : b = true → EvD K φ J tb ρ (.bl c)) : EvD K φ J (tAndV ta tb) ρ (.bl (b && c)) := fun σ H A Q q =>
  ha σ H A _ fun v x1 H1 b1 A1 e1 r1 => by
    subst e1
    refine ⟨b, r1, ?_⟩
    cases b with
    | false =>
      rw [if_neg (by simp)]
      exact q _ _ H1 b1 A1 rfl rfl
    | true =>
      rw [if_pos rfl]
      exact hb rfl σ H1 A1 Q fun w y H2 b2 A2 e2 r2 => q w y H2 (b1.trans b2) A2 e2 r2
theorem ev_orV (ha : EvD K φ J ta ρ (.bl b)) (hb : b = false → EvD K φ J tb ρ (.bl c)) : EvD K φ J (tOrV ta tb) ρ (.bl (b || c)) := fun σ H A Q q =>
  ha σ H A _ fun v x1 H1 b1 A1 e1 r1 => by
    subst e1
    refine ⟨b, r1, ?_⟩
    cases b with
    | true =>
      rw [if_pos rfl]
      exact q _ _ H1 b1 A1 rfl rfl
    | false =>
      rw [if_neg (by simp)]
      exact hb rfl σ H1 A1 Q fun w y H2 b2 A2 e2 r2 => q w y H2 (b1.trans b2) A2 e2 r2
theorem ev_notV (ha : EvD K φ J ta ρ (.bl b)) : EvD K φ J (tNotV ta) ρ (.bl (!b)) := fun σ H A Q q =>
  ha σ H A _ fun v x1 H1 b1 A1 e1 r1 => by
    subst e1
    exact ⟨b, r1, q _ _ H1 b1 A1 rfl rfl⟩
theorem ev_one (ha : EvP K φ J ta ρ P) : EvP K φ J ta ρ P := ha
theorem ev_if {tt : TT} {p : Bool → Prop} (hc : EvT K φ J tt ρ p) (h1 : p true → EvP K φ J ta ρ P) (h2 : p false → EvP K φ J tb ρ P) : EvP K φ J (tIf tt ta tb) ρ P := fun σ H A Q q =>
  hc σ H A _ fun k H1 b1 A1 pk => by
    cases k with
    | true =>
      rw [if_pos rfl]
      exact h1 pk σ H1 A1 Q fun w y H2 b2 A2 e2 r2 => q w y H2 (b1.trans b2) A2 e2 r2
    | false =>
      rw [if_neg (by simp)]
      exact h2 pk σ H1 A1 Q fun w y H2 b2 A2 e2 r2 => q w y H2 (b1.trans b2) A2 e2 r2

/-! ### tests -/
abbrev EvX (K : PySem.W.Frag) (φ : Addr → Prop) (J : Hp → Prop) (tt : TT) (ρ : List (Option D)) (b : Bool) : Prop := EvT K φ J tt ρ fun x => x = b
theorem EvT.imp {tt : TT} {p p' : Bool → Prop} (h : EvT K φ J tt ρ p) (k : ∀ b, p b → p' b) : EvT K φ J tt ρ p' := fun σ H A Q q => h σ H A Q fun b H' bt A' pb => q b H' bt A' (k b pb)
theorem EvT.is {tt : TT} {b c : Bool} (h : EvX K φ J tt ρ b) (e : b = c) : EvX K φ J tt ρ c := e ▸ h
theorem et_testP {p : Bool → Prop} (h : EvB K φ J te ρ p) : EvT K φ J (tTest te) ρ p := fun σ H A Q q => h σ H A _ fun v d H' bt A' ⟨b, e, pb⟩ r => by
  subst e
  exact ⟨b, r, q b H' bt A' pb⟩
theorem et_BP {p : Bool → Prop} (h : EvB K φ J te ρ p) : EvT K φ J (tB te) ρ p := et_testP h
theorem ev_b (h : EvD K φ J te ρ (.bl b)) : EvB K φ J te ρ (fun x => x = b) := h.imp fun d e => ⟨b, e, rfl⟩
theorem ev_i (h : EvD K φ J te ρ (.int i)) : EvI K φ J te ρ (fun x => x = i) := h.imp fun d e => ⟨i, e, rfl⟩
theorem et_test (h : EvD K φ J te ρ (.bl b)) : EvX K φ J (tTest te) ρ b := et_testP (ev_b h)
theorem et_B (h : EvD K φ J te ρ (.bl b)) : EvX K φ J (tB te) ρ b := et_BP (ev_b h)
theorem et_and {t1 t2 : TT} (ha : EvX K φ J t1 ρ b) (hb : b = true → EvX K φ J t2 ρ c) : EvX K φ J (tAnd t1 t2) ρ (b && c) := fun σ H A Q q => ha σ H A _ fun k H1 b1 A1 e1 => by
  subst e1
  cases k with
  | false =>
    rw [if_neg (by simp)]
    exact q _ H1 b1 A1 rfl
  | true =>
    rw [if_pos rfl]
    exact hb rfl σ H1 A1 Q fun k2 H2 b2 A2 e2 => q k2 H2 (b1.trans b2) A2 e2
theorem et_or {t1 t2 : TT} (ha : EvX K φ J t1 ρ b) (hb : b = false → EvX K φ J t2 ρ c) : EvX K φ J (tOr t1 t2) ρ (b || c) := fun σ H A Q q => ha σ H A _ fun k H1 b1 A1 e1 => by
  subst e1
  cases k with
  | true =>
    rw [if_pos rfl]
    exact q _ H1 b1 A1 rfl
  | false =>
    rw [if_neg (by simp)]
    exact hb rfl σ H1 A1 Q fun k2 H2 b2 A2 e2 => q k2 H2 (b1.trans b2) A2 e2
theorem et_not {t1 : TT} (ha : EvX K φ J t1 ρ b) : EvX K φ J (tNot t1) ρ (!b) := fun σ H A Q q => ha σ H A _ fun k H1 b1 A1 e1 => by
  subst e1
  exact q _ H1 b1 A1 rfl
theorem et_notP {t1 : TT} {p : Bool → Prop} (ha : EvT K φ J t1 ρ p) : EvT K φ J (tNot t1) ρ (fun x => p (!x)) := fun σ H A Q q => ha σ H A _ fun k H1 b1 A1 e1 => q _ H1 b1 A1 (by show p (!(!k)); rw [Bool.not_not]; exact e1)

/-! ### arguments, displays -/
abbrev EvAD (K : PySem.W.Frag) (φ : Addr → Prop) (J : Hp → Prop) (ta : TA) (ρ : List (Option D)) (ds : List D) : Prop := EvA K φ J ta ρ fun x => x = ds
theorem ea_nil : EvAD K φ J tNil ρ [] := fun σ H A Q q => q [] [] H (But.refl _ _) A rfl rfl
theorem ea_consP {tr : TA} {Pr : List D → Prop} (ha : EvP K φ J ta ρ P) (hr : EvA K φ J tr ρ Pr) : EvA K φ J (tCons ta tr) ρ (fun x => ∃ d r, x = d :: r ∧ P d ∧ Pr r) := fun σ H A Q q =>
  ha σ H A _ fun v x H1 b1 A1 px r1 => hr σ H1 A1 _ fun ws ys H2 b2 A2 py r2 => q (v :: ws) (x :: ys) H2 (b1.trans b2) A2 ⟨x, ys, rfl, px, py⟩ (Reps.cons (r1.mono b2) r2)
theorem ea_cons {tr : TA} (ha : EvD K φ J ta ρ x) (hr : EvAD K φ J tr ρ ds) : EvAD K φ J (tCons ta tr) ρ (x :: ds) := fun σ H A Q q =>
  ha σ H A _ fun v y H1 b1 A1 e1 r1 => hr σ H1 A1 _ fun ws ys H2 b2 A2 e2 r2 => q (v :: ws) (y :: ys) H2 (b1.trans b2) A2 (by rw [e1, e2]) (Reps.cons (r1.mono b2) r2)
theorem sz {n : Nat} (h : n ≤ 1000000) : n ≤ sizeLine := Nat.le_trans h (by decide)
theorem szlt {n : Nat} (h : n ≤ 1000000) : n < sizeLine := Nat.lt_of_le_of_lt h (by decide)
theorem ev_tupP {ta : TA} {Pr : List D → Prop} (ha : EvA K φ J ta ρ Pr) (hl : ∀ r, Pr r → r.length ≤ 1000000) : EvP K φ J (tTup ta) ρ (fun x => ∃ r, x = .tup r ∧ Pr r) := fun σ H A Q q =>
  ha σ H A _ fun vs ds H1 b1 A1 pd r1 => ⟨by rw [r1.length]; exact sz (hl _ pd), fun p hp =>
    q _ _ _ (b1.trans (But.of (same_new hp))) (A1.same (same_new hp)) ⟨ds, rfl, pd⟩ ⟨p, vs, rfl, .inl ⟨A1.fr p hp, .inl upd_same⟩, r1.mono (But.of (same_new hp))⟩⟩
theorem ev_lstP {ta : TA} {Pr : List D → Prop} (ha : EvA K φ J ta ρ Pr) (hl : ∀ r, Pr r → r.length ≤ 1000000) : EvP K φ J (tLst ta) ρ (fun x => ∃ r, x = .lst r ∧ Pr r) := fun σ H A Q q =>
  ha σ H A _ fun vs ds H1 b1 A1 pd r1 => ⟨by rw [r1.length]; exact sz (hl _ pd), fun p hp =>
    q _ _ _ (b1.trans (But.of (same_new hp))) (A1.same (same_new hp)) ⟨ds, rfl, pd⟩ ⟨p, vs, rfl, .inl ⟨A1.fr p hp, .inl upd_same⟩, r1.mono (But.of (same_new hp))⟩⟩
theorem ev_tup {ta : TA} (ha : EvAD K φ J ta ρ ds) (hl : ds.length ≤ 1000000 := by first | exact Nat.le_of_ble_eq_true rfl | decide) : EvD K φ J (tTup ta) ρ (.tup ds) := (ev_tupP ha fun r e => by rw [e]; exact hl).imp fun x ⟨r, e, e2⟩ => by rw [e, e2]
theorem ev_lst {ta : TA} (ha : EvAD K φ J ta ρ ds) (hl : ds.length ≤ 1000000 := by first | exact Nat.le_of_ble_eq_true rfl | decide) : EvD K φ J (tLst ta) ρ (.lst ds) := (ev_lstP ha fun r e => by rw [e]; exact hl).imp fun x ⟨r, e, e2⟩ => by rw [e, e2]

/-! ### subscripts -/
theorem Reps.atI {i : Int} (h : Reps K φ H ds vs) (e : L2.atI ds i = some d) : ∃ v, L2.atI vs i = some v ∧ Rep K φ H d v := by
  unfold L2.atI at e ⊢
  rw [h.length]
  cases hj : ixN ds.length i with
  | none => rw [hj] at e; cases e
  | some j =>
    rw [hj] at e
    exact h.get e
theorem rep_tup (h : Rep K φ H (.tup ds) v) : ∃ a vs, v = .ref a ∧ PT K φ H a vs ∧ Reps K φ H ds vs := h
theorem rep_lst (h : Rep K φ H (.lst ds) v) : ∃ a vs, v = .ref a ∧ PL K φ H a vs ∧ Reps K φ H ds vs := h
theorem o2_ixT (e : L2.atI ds i = some d) : Op2 K φ (rIxT K) (.tup ds) (.int i) (fun x => x = d) := fun H v w _ r1 r2 Q q => by
  obtain ⟨a, vs, rfl, p, r⟩ := rep_tup r1
  obtain ⟨u, e1, r3⟩ := r.atI e
  exact ⟨a, vs, i, u, rfl, r2, p.sq, e1, q u d H (Same.refl H) rfl r3⟩
theorem o2_ixL (e : L2.atI ds i = some d) : Op2 K φ (rIxL K) (.lst ds) (.int i) (fun x => x = d) := fun H v w _ r1 r2 Q q => by
  obtain ⟨a, vs, rfl, p, r⟩ := rep_lst r1
  obtain ⟨u, e1, r3⟩ := r.atI e
  exact ⟨a, vs, i, u, rfl, r2, p.sq, e1, q u d H (Same.refl H) rfl r3⟩
theorem ev_ixT (ha : EvD K φ J ta ρ (.tup ds)) (hb : EvD K φ J tb ρ (.int i)) (e : L2.atI ds i = some d) : EvD K φ J (tOp (rIxT K) ta tb) ρ d := ev_opD ha hb (o2_ixT e)
theorem ev_ixL (ha : EvD K φ J ta ρ (.lst ds)) (hb : EvD K φ J tb ρ (.int i)) (e : L2.atI ds i = some d) : EvD K φ J (tOp (rIxL K) ta tb) ρ d := ev_opD ha hb (o2_ixL e)
theorem ev_ixTP (ha : EvP K φ J ta ρ Pa) (hb : EvI K φ J tb ρ p) (e : ∀ x i, Pa x → p i → ∃ ds d, x = .tup ds ∧ L2.atI ds i = some d ∧ P d) : EvP K φ J (tOp (rIxT K) ta tb) ρ P := ev_op ha hb fun x y px ⟨i, e1, pi⟩ => by
  obtain ⟨ds, d, e2, e3, pd⟩ := e x i px pi
  subst e1 e2
  exact fun H v w f r1 r2 Q q => o2_ixT e3 H v w f r1 r2 Q fun u z H' s ez r => q u z H' s (ez ▸ pd) r
theorem ev_ixLP (ha : EvP K φ J ta ρ Pa) (hb : EvI K φ J tb ρ p) (e : ∀ x i, Pa x → p i → ∃ ds d, x = .lst ds ∧ L2.atI ds i = some d ∧ P d) : EvP K φ J (tOp (rIxL K) ta tb) ρ P := ev_op ha hb fun x y px ⟨i, e1, pi⟩ => by
  obtain ⟨ds, d, e2, e3, pd⟩ := e x i px pi
  subst e1 e2
  exact fun H v w f r1 r2 Q q => o2_ixL e3 H v w f r1 r2 Q fun u z H' s ez r => q u z H' s (ez ▸ pd) r

/-! ### slices -/
def cutD {α : Type} (xs : List α) (lo hi : Option Int) : List α := (xs.drop (HT.sIx xs.length 0 lo)).take (HT.sIx xs.length xs.length hi - HT.sIx xs.length 0 lo)
theorem Reps.cut (h : Reps K φ H ds vs) (lo hi : Option Int) : Reps K φ H (cutD ds lo hi) (cutV vs lo hi) := by
  unfold cutD cutV
  rw [h.length]
  exact (h.drop _).take _
theorem cutD_length {α : Type} (xs : List α) (lo hi : Option Int) : (cutD xs lo hi).length ≤ xs.length := by
  unfold cutD
  rw [List.length_take, List.length_drop]
  omega
theorem eo_none : EvO K φ J tNoPart ρ none := fun σ H A Q q => q H (But.refl _ _) A
theorem eo_some (h : EvD K φ J te ρ (.int i)) : EvO K φ J (tPart te) ρ (some i) := fun σ H A Q q => h σ H A _ fun v d H' bt A' e r => by
  subst e
  exact ⟨i, r, q H' bt A'⟩
theorem ev_slL {tl th : TO} {lo hi : Option Int} (ha : EvD K φ J te ρ (.lst ds)) (hl : EvO K φ J tl ρ lo) (hh : EvO K φ J th ρ hi) : EvD K φ J (tSl (rSlL K) te tl th) ρ (.lst (cutD ds lo hi)) := fun σ H A Q q =>
  ha σ H A _ fun v x H1 b1 A1 e1 r1 => hl σ H1 A1 _ fun H2 b2 A2 => hh σ H2 A2 _ fun H3 b3 A3 => by
    subst e1
    obtain ⟨a, vs, rfl, pl, rs⟩ := rep_lst ((r1.mono b2).mono b3)
    exact ⟨a, vs, rfl, pl.sq, fun p hp => q _ _ _ (((b1.trans b2).trans b3).trans (But.of (same_new hp))) (A3.same (same_new hp)) rfl ⟨p, _, rfl, .inl ⟨A3.fr p hp, .inl upd_same⟩, (rs.mono (But.of (same_new hp))).cut lo hi⟩⟩
theorem take_all {α : Type} {xs : List α} {lo hi : Option Int} (h : HT.sIx xs.length 0 lo = 0 ∧ HT.sIx xs.length xs.length hi = xs.length) : cutD xs lo hi = xs := by
  unfold cutD
  rw [h.1, h.2, List.drop_zero, Nat.sub_zero, List.take_length]
theorem ev_slT {tl th : TO} {lo hi : Option Int} (ha : EvD K φ J te ρ (.tup ds)) (hl : EvO K φ J tl ρ lo) (hh : EvO K φ J th ρ hi) : EvD K φ J (tSl (rSlA K) te tl th) ρ (.tup (cutD ds lo hi)) := fun σ H A Q q =>
  ha σ H A _ fun v x H1 b1 A1 e1 r1 => hl σ H1 A1 _ fun H2 b2 A2 => hh σ H2 A2 _ fun H3 b3 A3 => by
    subst e1
    obtain ⟨a, vs, rfl, pl, rs⟩ := rep_tup ((r1.mono b2).mono b3)
    refine ⟨a, vs, rfl, pl.sq, fun hw => ?_, fun _ p hp => q _ _ _ (((b1.trans b2).trans b3).trans (But.of (same_new hp))) (A3.same (same_new hp)) rfl ⟨p, _, rfl, .inl ⟨A3.fr p hp, .inl upd_same⟩, (rs.mono (But.of (same_new hp))).cut lo hi⟩⟩
    rw [rs.length] at hw
    exact q _ _ _ ((b1.trans b2).trans b3) A3 rfl ⟨a, vs, rfl, pl, by rw [take_all hw]; exact rs⟩

/-! ### tuple + tuple, list + list -/
theorem o2_catT {es : List D} (hz : ds.length + es.length ≤ 1000000) : Op2 K φ (rCatA K) (.tup ds) (.tup es) (fun x => x = .tup (ds ++ es)) := fun H v w f r1 r2 Q q => by
  obtain ⟨a, vs, rfl, pa, ra⟩ := rep_tup r1
  obtain ⟨b, ws, rfl, pb, rb⟩ := rep_tup r2
  refine ⟨a, b, vs, ws, rfl, rfl, pa.sq, pb.sq, by rw [ra.length, rb.length]; exact sz hz, fun e => ?_, fun _ e => ?_, fun _ _ p hp => ?_⟩
  · subst e
    have e0 : ds = [] := List.eq_nil_of_length_eq_zero ra.length.symm
    subst e0
    exact q _ _ H (Same.refl H) rfl ⟨b, ws, rfl, pb, rb⟩
  · subst e
    have e0 : es = [] := List.eq_nil_of_length_eq_zero rb.length.symm
    subst e0
    exact q _ _ H (Same.refl H) rfl ⟨a, vs, rfl, pa, by rw [List.append_nil]; exact ra⟩
  · exact q _ _ _ (same_new hp) rfl ⟨p, _, rfl, .inl ⟨f p hp, .inl upd_same⟩, (ra.append rb).mono (But.of (same_new hp))⟩
theorem ev_catT (ha : EvD K φ J ta ρ (.tup ds)) (hb : EvD K φ J tb ρ (.tup es)) (hz : ds.length + es.length ≤ 1000000) : EvD K φ J (tOp (rCatA K) ta tb) ρ (.tup (ds ++ es)) := ev_opD ha hb (o2_catT hz)

/-! ### calls of built-ins -/
theorem ev_cb {ta : TA} {r : List V → Hp → VK → Prop} {Pr : List D → Prop} (ha : EvA K φ J ta ρ Pr) (hr : ∀ ds, Pr ds → Cl K φ r ds P) : EvP K φ J (tCB r ta) ρ P := fun σ H A Q q =>
  ha σ H A _ fun vs ds H1 b1 A1 pd r1 => hr ds pd H1 vs A1.fr r1 Q fun u z H2 s pz r2 => q u z H2 (b1.trans (But.of s)) (A1.same s) pz r2
theorem ev_cbD {ta : TA} {r : List V → Hp → VK → Prop} (ha : EvAD K φ J ta ρ ds) (hr : Cl K φ r ds P) : EvP K φ J (tCB r ta) ρ P := ev_cb ha fun ds' e => e ▸ hr
theorem Reps.one (h : Reps K φ H [d] vs) : ∃ v, vs = [v] ∧ Rep K φ H d v := by
  obtain ⟨v, r, rfl, h1, h2⟩ := (show ∃ v r, vs = v :: r ∧ Rep K φ H d v ∧ Reps K φ H [] r from h)
  have e : r = [] := h2
  subst e
  exact ⟨v, rfl, h1⟩
theorem Reps.two (h : Reps K φ H [d, x] vs) : ∃ v w, vs = [v, w] ∧ Rep K φ H d v ∧ Rep K φ H x w := by
  obtain ⟨v, r, rfl, h1, h2⟩ := (show ∃ v r, vs = v :: r ∧ Rep K φ H d v ∧ Reps K φ H [x] r from h)
  obtain ⟨w, rfl, h3⟩ := h2.one
  exact ⟨v, w, rfl, h1, h3⟩
def rLen (K : PySem.W.Frag) : List V → Hp → VK → Prop := fun xs H Q => ∃ p ys, xs = [.ref p] ∧ (SqL K H p ys ∨ SqT K H p ys) ∧ Q (.int ys.length) H
theorem c_len {X : Cx} : CallR X (.builtin "len") (rLen X.K) := call_len_seq
theorem cl_lenL : Cl K φ (rLen K) [.lst ds] (fun x => x = .int ds.length) := fun H vs f r Q q => by
  obtain ⟨v, rfl, r1⟩ := r.one
  obtain ⟨a, vs, rfl, p, rs⟩ := rep_lst r1
  exact ⟨a, vs, rfl, .inl p.sq, q _ _ H (Same.refl H) rfl (by rw [rs.length]; rfl)⟩
theorem cl_lenT : Cl K φ (rLen K) [.tup ds] (fun x => x = .int ds.length) := fun H vs f r Q q => by
  obtain ⟨v, rfl, r1⟩ := r.one
  obtain ⟨a, vs, rfl, p, rs⟩ := rep_tup r1
  exact ⟨a, vs, rfl, .inr p.sq, q _ _ H (Same.refl H) rfl (by rw [rs.length]; rfl)⟩
theorem ev_lenL (ha : EvD K φ J te ρ (.lst ds)) : EvD K φ J (tCB (rLen K) (tCons te tNil)) ρ (.int ds.length) := ev_cbD (ea_cons ha ea_nil) cl_lenL
theorem ev_lenT (ha : EvD K φ J te ρ (.tup ds)) : EvD K φ J (tCB (rLen K) (tCons te tNil)) ρ (.int ds.length) := ev_cbD (ea_cons ha ea_nil) cl_lenT
def rLenS : List V → Hp → VK → Prop := fun xs H Q => ∃ z, xs = [.str z] ∧ z.length ≤ sizeLine ∧ Q (.int z.length) H
theorem c_lenS {X : Cx} : CallR X (.builtin "len") rLenS := call_len_str
theorem ev_lenS (ha : EvD K φ J te ρ (.str s)) (hz : s.length ≤ 1000000) : EvD K φ J (tCB rLenS (tCons te tNil)) ρ (.int s.length) := ev_cbD (ea_cons ha ea_nil) fun H vs f r Q q => by
  obtain ⟨v, rfl, r1⟩ := r.one
  cases (show v = _ from r1)
  exact ⟨s, rfl, sz hz, q _ _ H (Same.refl H) rfl rfl⟩
def rInt1 : List V → Hp → VK → Prop := fun xs H Q => (∃ i, xs = [.int i] ∧ Q (.int i) H) ∨ ∃ k, xs = [.bl k] ∧ Q (.int (if k then 1 else 0)) H
theorem c_int1 {X : Cx} : CallR X (.type "int") rInt1 := call_int1
theorem cl_intI : Cl K φ rInt1 [.int i] (fun x => x = .int i) := fun H vs f r Q q => by
  obtain ⟨v, rfl, r1⟩ := r.one
  cases (show v = _ from r1)
  exact .inl ⟨i, rfl, q _ _ H (Same.refl H) rfl rfl⟩
theorem cl_intB : Cl K φ rInt1 [.bl b] (fun x => x = .int (if b then 1 else 0)) := fun H vs f r Q q => by
  obtain ⟨v, rfl, r1⟩ := r.one
  cases (show v = _ from r1)
  exact .inr ⟨b, rfl, q _ _ H (Same.refl H) rfl rfl⟩
theorem ev_intI (ha : EvD K φ J te ρ (.int i)) : EvD K φ J (tCB rInt1 (tCons te tNil)) ρ (.int i) := ev_cbD (ea_cons ha ea_nil) cl_intI
theorem ev_intB (ha : EvD K φ J te ρ (.bl b)) : EvD K φ J (tCB rInt1 (tCons te tNil)) ρ (.int (if b then 1 else 0)) := ev_cbD (ea_cons ha ea_nil) cl_intB
def rStrI : List V → Hp → VK → Prop := fun xs H Q => ∃ i, xs = [.int i] ∧ i.natAbs.log2 < 1920 ∧ Q (.str (toString i)) H
theorem c_strI {X : Cx} : CallR X (.type "str") rStrI := call_str_int
theorem ev_strI (ha : EvD K φ J te ρ (.int i)) (hz : i.natAbs.log2 < 1920) : EvD K φ J (tCB rStrI (tCons te tNil)) ρ (.str (toString i)) := ev_cbD (ea_cons ha ea_nil) fun H vs f r Q q => by
  obtain ⟨v, rfl, r1⟩ := r.one
  cases (show v = _ from r1)
  exact ⟨i, rfl, hz, q _ _ H (Same.refl H) rfl rfl⟩
def rListOf (K : PySem.W.Frag) : List V → Hp → VK → Prop := fun xs H Q => ∃ p ys, xs = [.ref p] ∧ (SqL K H p ys ∨ SqT K H p ys) ∧ ∀ l, H l = none → Q (.ref l) (upd H l (.lst ys))
theorem c_listOf {X : Cx} : CallR X (.type "list") (rListOf X.K) := call_list_of
theorem ev_listL (ha : EvD K φ J te ρ (.lst ds)) : EvD K φ J (tCB (rListOf K) (tCons te tNil)) ρ (.lst ds) := ev_cbD (ea_cons ha ea_nil) fun H vs f r Q q => by
  obtain ⟨v, rfl, r1⟩ := r.one
  obtain ⟨a, vs, rfl, p, rs⟩ := rep_lst r1
  exact ⟨a, vs, rfl, .inl p.sq, fun l hl => q _ _ _ (same_new hl) rfl ⟨l, vs, rfl, .inl ⟨f l hl, .inl upd_same⟩, rs.mono (But.of (same_new hl))⟩⟩
theorem ev_listT (ha : EvD K φ J te ρ (.tup ds)) : EvD K φ J (tCB (rListOf K) (tCons te tNil)) ρ (.lst ds) := ev_cbD (ea_cons ha ea_nil) fun H vs f r Q q => by
  obtain ⟨v, rfl, r1⟩ := r.one
  obtain ⟨a, vs, rfl, p, rs⟩ := rep_tup r1
  exact ⟨a, vs, rfl, .inr p.sq, fun l hl => q _ _ _ (same_new hl) rfl ⟨l, vs, rfl, .inl ⟨f l hl, .inl upd_same⟩, rs.mono (But.of (same_new hl))⟩⟩
def rTupOf (K : PySem.W.Frag) : List V → Hp → VK → Prop := fun xs H Q => ∃ p ys, xs = [.ref p] ∧ ((SqL K H p ys ∧ ∀ l, H l = none → Q (.ref l) (upd H l (.tup ys))) ∨ (SqT K H p ys ∧ Q (.ref p) H))
theorem c_tupOf {X : Cx} : CallR X (.type "tuple") (rTupOf X.K) := call_tuple_of
theorem cl_tupL : Cl K φ (rTupOf K) [.lst ds] (fun x => x = .tup ds) := fun H vs f r Q q => by
  obtain ⟨v, rfl, r1⟩ := r.one
  obtain ⟨a, vs, rfl, p, rs⟩ := rep_lst r1
  exact ⟨a, vs, rfl, .inl ⟨p.sq, fun l hl => q _ _ _ (same_new hl) rfl ⟨l, vs, rfl, .inl ⟨f l hl, .inl upd_same⟩, rs.mono (But.of (same_new hl))⟩⟩⟩
theorem ev_tupL (ha : EvD K φ J te ρ (.lst ds)) : EvD K φ J (tCB (rTupOf K) (tCons te tNil)) ρ (.tup ds) := ev_cbD (ea_cons ha ea_nil) cl_tupL
theorem ev_tupT (ha : EvD K φ J te ρ (.tup ds)) : EvD K φ J (tCB (rTupOf K) (tCons te tNil)) ρ (.tup ds) := ev_cbD (ea_cons ha ea_nil) fun H vs f r Q q => by
  obtain ⟨v, rfl, r1⟩ := r.one
  obtain ⟨a, vs, rfl, p, rs⟩ := rep_tup r1
  exact ⟨a, vs, rfl, .inr ⟨p.sq, q _ _ H (Same.refl H) rfl ⟨a, vs, rfl, p, rs⟩⟩⟩
def rAbs : List V → Hp → VK → Prop := fun xs H Q => ∃ i, xs = [.int i] ∧ Q (.int (if i < 0 then -i else i)) H
theorem c_abs {X : Cx} : CallR X (.builtin "abs") rAbs := call_abs
theorem abs_if (i : Int) : (if i < 0 then -i else i) = (i.natAbs : Int) := by split <;> omega
theorem ev_abs (ha : EvD K φ J te ρ (.int i)) : EvD K φ J (tCB rAbs (tCons te tNil)) ρ (.int (i.natAbs : Int)) := ev_cbD (ea_cons ha ea_nil) fun H vs f r Q q => by
  obtain ⟨v, rfl, r1⟩ := r.one
  cases (show v = _ from r1)
  exact ⟨i, rfl, q _ _ H (Same.refl H) rfl (by rw [abs_if]; rfl)⟩
def rMax2 : List V → Hp → VK → Prop := fun xs H Q => ∃ i j, xs = [.int i, .int j] ∧ Q (.int (if j > i then j else i)) H
def rMin2 : List V → Hp → VK → Prop := fun xs H Q => ∃ i j, xs = [.int i, .int j] ∧ Q (.int (if j < i then j else i)) H
theorem c_max2 {X : Cx} (hc : X.calm = true := by rfl) : CallR X (.builtin "max") rMax2 := call_max2 hc
theorem c_min2 {X : Cx} (hc : X.calm = true := by rfl) : CallR X (.builtin "min") rMin2 := call_min2 hc
theorem max_if (i j : Int) : (if j > i then j else i) = max i j := by split <;> omega
theorem min_if (i j : Int) : (if j < i then j else i) = min i j := by split <;> omega
theorem ev_max2 (ha : EvD K φ J ta ρ (.int i)) (hb : EvD K φ J tb ρ (.int j)) : EvD K φ J (tCB rMax2 (tCons ta (tCons tb tNil))) ρ (.int (max i j)) := ev_cbD (ea_cons ha (ea_cons hb ea_nil)) fun H vs f r Q q => by
  obtain ⟨v, w, rfl, r1, r2⟩ := r.two
  cases (show v = _ from r1)
  cases (show w = _ from r2)
  exact ⟨i, j, rfl, q _ _ H (Same.refl H) rfl (by rw [max_if]; rfl)⟩
theorem ev_min2 (ha : EvD K φ J ta ρ (.int i)) (hb : EvD K φ J tb ρ (.int j)) : EvD K φ J (tCB rMin2 (tCons ta (tCons tb tNil))) ρ (.int (min i j)) := ev_cbD (ea_cons ha (ea_cons hb ea_nil)) fun H vs f r Q q => by
  obtain ⟨v, w, rfl, r1, r2⟩ := r.two
  cases (show v = _ from r1)
  cases (show w = _ from r2)
  exact ⟨i, j, rfl, q _ _ H (Same.refl H) rfl (by rw [min_if]; rfl)⟩
theorem rep_ints {ns : List Int} (h : Rep K φ H (.lst (ns.map D.int)) v) : ∃ a, v = .ref a ∧ SqL K H a (ns.map V.int) := by
  obtain ⟨a, vs, rfl, p, r⟩ := rep_lst h
  exact ⟨a, rfl, r.ints ▸ p.sq⟩
theorem c_sum {X : Cx} (hc : X.calm = true := by rfl) : CallR X (.builtin "sum") (rSum X.K) := cr_sum hc
theorem ev_sum {ns : List Int} (ha : EvD K φ J te ρ (.lst (ns.map D.int))) : EvD K φ J (tCB (rSum K) (tCons te tNil)) ρ (.int ns.sum) := ev_cbD (ea_cons ha ea_nil) fun H vs f r Q q => by
  obtain ⟨v, rfl, r1⟩ := r.one
  obtain ⟨a, rfl, h⟩ := rep_ints r1
  exact ⟨a, ns, rfl, h, q _ _ H (Same.refl H) rfl rfl⟩
def rGcd1 : List V → Hp → VK → Prop := rGcd
theorem ev_gcd (ha : EvD K φ J ta ρ (.int i)) (hb : EvD K φ J tb ρ (.int j)) : EvD K φ J (tCB rGcd (tCons ta (tCons tb tNil))) ρ (.int ((Nat.gcd i.natAbs j.natAbs : Nat) : Int)) := ev_cbD (ea_cons ha (ea_cons hb ea_nil)) fun H vs f r Q q => by
  obtain ⟨v, w, rfl, r1, r2⟩ := r.two
  cases (show v = _ from r1)
  cases (show w = _ from r2)
  exact ⟨i, j, rfl, q _ _ H (Same.refl H) rfl rfl⟩

/-! ### isinstance -/
def tyD : D → String
  | .non => "NoneType"
  | .bl _ => "bool"
  | .int _ => "int"
  | .str _ => "str"
  | .tup _ => "tuple"
  | .lst _ => "list"
  | .raw _ => "?"
  | .dk _ _ => "dict"
  | .dt _ _ => "dict"
def isRaw : D → Bool
  | .raw _ => true
  | _ => false
theorem tyx_rep : ∀ {d : D}, Rep K φ H d v → isRaw d = false → TyX K H v (.type (tyD d))
  | .non, h, _ => by cases (show v = _ from h); exact .base .non
  | .bl b, h, _ => by cases (show v = _ from h); exact .base (.bl b)
  | .int b, h, _ => by cases (show v = _ from h); exact .base (.int b)
  | .str b, h, _ => by cases (show v = _ from h); exact .base (.str b)
  | .raw w, _, e => by cases e
  | .tup ds, h, _ => by
    obtain ⟨a, vs, rfl, p, _⟩ := rep_tup h
    exact .base (.tup p.at.2)
  | .dk ks ds, h, _ => by
    obtain ⟨a, vs, rfl, ⟨_, e, _⟩, _⟩ := (show ∃ a vs, v = .ref a ∧ (φ a ∧ H a = some (.dK (ks.zip vs)) ∧ ks.length = ds.length) ∧ Reps K φ H ds vs from h)
    exact .base (.dK e)
  | .dt ks ds, h, _ => by
    obtain ⟨a, vs, rfl, ⟨_, e, _⟩, _⟩ := (show ∃ a vs, v = .ref a ∧ (φ a ∧ H a = some (.dT (ks.zip vs)) ∧ ks.length = ds.length) ∧ Reps K φ H ds vs from h)
    exact .base (.dT e)
  | .lst ds, h, _ => by
    obtain ⟨a, vs, rfl, p, _⟩ := rep_lst h
    rcases p with ⟨_, p⟩ | ⟨o, its, n, hk, hc, _⟩
    · rcases p with p | ⟨o, p⟩
      · exact .base (.lst p)
      · exact .base (.frz p)
    · exact .kList hk hc
def isT (n : String) (d : D) : Bool := tyD d == n || (n == "int" && tyD d == "bool")
theorem kit_tab : ∀ t ∈ (["NoneType", "bool", "int", "str", "tuple", "list", "dict"] : List String), ∀ n ∈ (["tuple", "list", "bool", "int", "str", "dict"] : List String), kitB t n = some (t == n || (n == "int" && t == "bool")) := by decide +kernel
theorem ty_mem {d : D} (h : isRaw d = false) : tyD d ∈ (["NoneType", "bool", "int", "str", "tuple", "list", "dict"] : List String) := by
  cases d <;> first | (cases h; done) | simp [tyD]
theorem kit_all {d : D} {n : String} (hn : n ∈ (["tuple", "list", "bool", "int", "str", "dict"] : List String)) (h : isRaw d = false) : kitB (tyD d) n = some (isT n d) := kit_tab _ (ty_mem h) n hn
theorem ev_isi {n : String} (ha : EvD K φ J ta ρ x) (hb : EvD K φ J tb ρ (.raw (.ty n))) (hx : isRaw x = false) (hn : n ∈ (["tuple", "list", "bool", "int", "str", "dict"] : List String) := by simp) : EvD K φ J (tCB (rIsi K) (tCons ta (tCons tb tNil))) ρ (.bl (isT n x)) := ev_cbD (ea_cons ha (ea_cons hb ea_nil)) fun H vs f r Q q => by
  obtain ⟨v, w, rfl, r1, r2⟩ := r.two
  cases (show w = _ from r2)
  exact ⟨v, _, _, _, _, rfl, .ty n, tyx_rep r1 hx, kit_ty (kit_all hn hx), q _ _ H (Same.refl H) rfl rfl⟩
end
end DL
namespace DL
open PySem PySem.Spec PyProof.Rows L2

/-! ### the pool of draws -/
def PoolOk (p s : Addr) (ns : List Int) (H : Hp) : Prop := ∃ at_ cur cnt salt : Int, H p = some (.lst [.ref s, .int at_, .int cur, .int cnt, .int salt]) ∧ H s = some (.lst (ns.map V.int)) ∧ 0 ≤ at_
def ButP (p : Addr) (H H' : Hp) : Prop := ∀ a o, a ≠ p → H a = some o → H' a = some o
structure Pooled (φ : Addr → Prop) (J : Hp → Prop) (p s : Addr) (ns : List Int) : Prop where
  np : ¬ φ p
  ne : s ≠ p
  ok : ∀ H, J H → PoolOk p s ns H
  st : ∀ H H', J H → ButP p H H' → PoolOk p s ns H' → J H'
structure Ext (φ : Addr → Prop) (J : Hp → Prop) (φ' : Addr → Prop) (J' : Hp → Prop) : Prop where
  imp : ∀ H, J' H → J H
  pool : ∀ p s ns, Pooled φ J p s ns → Pooled φ' J' p s ns
  keep : ∀ a, φ a → (∀ H, J H → H a ≠ none) → φ' a
theorem Ext.refl {φ : Addr → Prop} {J : Hp → Prop} : Ext φ J φ J := ⟨fun _ h => h, fun _ _ _ h => h, fun _ p _ => p⟩
theorem Ext.trans {φ φ1 φ2 : Addr → Prop} {J J1 J2 : Hp → Prop} (a : Ext φ J φ1 J1) (b : Ext φ1 J1 φ2 J2) : Ext φ J φ2 J2 := ⟨fun H h => a.imp H (b.imp H h), fun p s ns h => b.pool p s ns (a.pool p s ns h), fun x p h => b.keep x (a.keep x p h) fun H j => h H (a.imp H j)⟩

/-! ### walks -/
def Walks (K : PySem.W.Frag) (φ : Addr → Prop) (J0 : It) (H : Hp) (ds : List D) : Prop := ∀ (φ' : Addr → Prop) (i : Nat) (H1 : Hp), Up φ φ' H H1 → Frm φ' H1 →
  (∀ d, ds[i]? = some d → J0.go i H1 ∧ ∀ x H2, J0.yld i H1 x H2 → Same H1 H2 ∧ Rep K φ' H2 d x) ∧ (i = ds.length → J0.stop i H1)
def IterP (K : PySem.W.Frag) (φ : Addr → Prop) (J : Hp → Prop) (wi : TI) (ρ : List (Option D)) (P : List D → Prop) : Prop := ∀ σ H, At K φ J ρ σ H → ∀ R : It → Hp → Prop, (∀ J0 ds H', But φ H H' → At K φ J ρ σ H' → P ds → Walks K φ J0 H' ds → R J0 H') → wi σ H R
abbrev IterD (K : PySem.W.Frag) (φ : Addr → Prop) (J : Hp → Prop) (wi : TI) (ρ : List (Option D)) (ds : List D) : Prop := IterP K φ J wi ρ fun x => x = ds
section
variable {K : PySem.W.Frag} {φ φ' : Addr → Prop} {J J' : Hp → Prop} {H H' H1 : Hp} {ρ ρ' : List (Option D)} {σ : L2.St} {ta tb te tc : TE} {x y z d : D} {P Pa Pb Pc : D → Prop} {i j : Int} {b c : Bool} {s t : Str} {ds es : List D} {v : V} {vs : List V} {a : Addr}
theorem IterP.imp {wi : TI} {P P' : List D → Prop} (h : IterP K φ J wi ρ P) (k : ∀ ds, P ds → P' ds) : IterP K φ J wi ρ P' := fun σ H A R q => h σ H A R fun J0 ds H' bt A' pd w => q J0 ds H' bt A' (k ds pd) w
theorem walks_list (p : PL K φ H a vs) (r : Reps K φ H ds vs) : Walks K φ (Itl K a) H ds := fun φ' i H1 u f => by
  have p1 := p.up u
  have r1 := Reps.up u ds vs r
  refine ⟨fun d hd => ?_, fun hi => ⟨vs, p1.sq, by rw [r1.length]; exact Nat.le_of_eq hi.symm⟩⟩
  obtain ⟨w, e, rw'⟩ := r1.get hd
  refine ⟨⟨vs, w, p1.sq, e⟩, fun x H2 hy => ?_⟩
  obtain ⟨rfl, hx⟩ := hy
  have e2 := hx vs p1.sq
  rw [e] at e2
  cases e2
  exact ⟨Same.refl _, rw'⟩
theorem walks_tup (p : PT K φ H a vs) (r : Reps K φ H ds vs) : Walks K φ (Itt K a) H ds := fun φ' i H1 u f => by
  have p1 := p.up u
  have r1 := Reps.up u ds vs r
  refine ⟨fun d hd => ?_, fun hi => ⟨vs, p1.sq, by rw [r1.length]; exact Nat.le_of_eq hi.symm⟩⟩
  obtain ⟨w, e, rw'⟩ := r1.get hd
  refine ⟨⟨vs, w, p1.sq, e⟩, fun x H2 hy => ?_⟩
  obtain ⟨rfl, hx⟩ := hy
  have e2 := hx vs p1.sq
  rw [e] at e2
  cases e2
  exact ⟨Same.refl _, rw'⟩
theorem it_list (h : EvD K φ J te ρ (.lst ds)) : IterD K φ J (iList K te) ρ ds := fun σ H A R q => h σ H A _ fun v d H1 b1 A1 e r => by
  subst e
  obtain ⟨a, vs, rfl, p, rs⟩ := rep_lst r
  exact ⟨a, rfl, ⟨vs, p.sq⟩, q _ ds H1 b1 A1 rfl (walks_list p rs)⟩
theorem it_listP {P : List D → Prop} (h : EvP K φ J te ρ (fun z => ∃ ds, z = .lst ds ∧ P ds)) : IterP K φ J (iList K te) ρ P := fun σ H A R q => h σ H A _ fun v d H1 b1 A1 ⟨ds, e, pd⟩ r => by
  subst e
  obtain ⟨a, vs, rfl, p, rs⟩ := rep_lst r
  exact ⟨a, rfl, ⟨vs, p.sq⟩, q _ ds H1 b1 A1 pd (walks_list p rs)⟩
theorem it_tup (h : EvD K φ J te ρ (.tup ds)) : IterD K φ J (iTup K te) ρ ds := fun σ H A R q => h σ H A _ fun v d H1 b1 A1 e r => by
  subst e
  obtain ⟨a, vs, rfl, p, rs⟩ := rep_tup r
  exact ⟨a, rfl, ⟨vs, p.sq⟩, q _ ds H1 b1 A1 rfl (walks_tup p rs)⟩
def rangeD (lo : Int) (n : Nat) : List D := (List.range n).map fun i => .int (lo + (i : Nat))
theorem rangeD_length {lo : Int} {n : Nat} : (rangeD lo n).length = n := by unfold rangeD; rw [List.length_map, List.length_range]
theorem rangeD_get {lo : Int} {n i : Nat} : (rangeD lo n)[i]? = if i < n then some (.int (lo + i)) else none := by
  unfold rangeD
  rw [List.getElem?_map]
  by_cases h : i < n
  · rw [List.getElem?_range h, if_pos h]
    rfl
  · rw [if_neg h, List.getElem?_eq_none (by rw [List.length_range]; omega)]
    rfl
theorem walks_range {lo : Int} {n : Nat} : Walks K φ (Itr lo n) H (rangeD lo n) := fun φ' i H1 u f => by
  refine ⟨fun d hd => ?_, fun hi => by rw [rangeD_length] at hi; exact Nat.le_of_eq hi.symm⟩
  rw [rangeD_get] at hd
  by_cases h : i < n
  · rw [if_pos h] at hd
    cases hd
    refine ⟨h, fun x H2 hy => ?_⟩
    obtain ⟨rfl, rfl⟩ := hy
    exact ⟨Same.refl _, rfl⟩
  · rw [if_neg h] at hd
    cases hd
theorem it_range1P {ta : TA} {p : Int → Prop} (h : EvA K φ J ta ρ (fun x => ∃ n, x = [.int n] ∧ p n)) (hn : ∀ n, p n → -(2 ^ 62) ≤ n ∧ n < 2 ^ 62) : IterP K φ J (iRng1 ta) ρ (fun x => ∃ n, p n ∧ x = rangeD 0 n.toNat) := fun σ H A R q => h σ H A _ fun vs ds H1 b1 A1 ⟨n, e, pn⟩ r => by
  subst e
  obtain ⟨v, rfl, r1⟩ := r.one
  cases (show v = _ from r1)
  exact ⟨n, rfl, (hn n pn).1, (hn n pn).2, q _ _ H1 b1 A1 ⟨n, pn, rfl⟩ walks_range⟩
theorem it_range1 {ta : TA} {n : Int} (h : EvAD K φ J ta ρ [.int n]) (hn : -(2 ^ 62) ≤ n ∧ n < 2 ^ 62) : IterD K φ J (iRng1 ta) ρ (rangeD 0 n.toNat) := fun σ H A R q => h σ H A _ fun vs ds H1 b1 A1 e r => by
  subst e
  obtain ⟨v, rfl, r1⟩ := r.one
  cases (show v = _ from r1)
  exact ⟨n, rfl, hn.1, hn.2, q _ _ H1 b1 A1 rfl walks_range⟩
theorem it_range2 {ta : TA} {m n : Int} (h : EvAD K φ J ta ρ [.int m, .int n]) (hn : (-(2 ^ 62) ≤ m ∧ m < 2 ^ 62) ∧ -(2 ^ 62) ≤ n ∧ n < 2 ^ 62) : IterD K φ J (iRng2 ta) ρ (rangeD m (n - m).toNat) := fun σ H A R q => h σ H A _ fun vs ds H1 b1 A1 e r => by
  subst e
  obtain ⟨v, w, rfl, r1, r2⟩ := r.two
  cases (show v = _ from r1)
  cases (show w = _ from r2)
  exact ⟨m, n, rfl, ⟨hn.1.1, hn.1.2, hn.2.1, hn.2.2⟩, q _ _ H1 b1 A1 rfl walks_range⟩
def enumD (k : Int) (ds : List D) : List D := ds.mapIdx fun i d => .tup [.int (k + (i : Nat)), d]
theorem enumD_length {k : Int} : (enumD k ds).length = ds.length := List.length_mapIdx
theorem enumD_get {k : Int} {i : Nat} : (enumD k ds)[i]? = (ds[i]?).map fun d => .tup [.int (k + (i : Nat)), d] := List.getElem?_mapIdx
theorem rep_pair {H : Hp} {T : Addr} {x1 x2 : V} {d1 d2 : D} (f : φ T) (h : H T = some (.tup [x1, x2])) (r1 : Rep K φ H d1 x1) (r2 : Rep K φ H d2 x2) : Rep K φ H (.tup [d1, d2]) (.ref T) := ⟨T, _, rfl, .inl ⟨f, .inl h⟩, Reps.cons r1 (Reps.cons r2 Reps.nil)⟩
theorem it_enum {ta : TA} (h : EvAD K φ J ta ρ [.lst ds]) : IterD K φ J (iEnum K ta) ρ (enumD 0 ds) := fun σ H A R q => h σ H A _ fun vs es H1 b1 A1 e r => by
  subst e
  obtain ⟨v, rfl, r1⟩ := r.one
  obtain ⟨a, vs, rfl, p, rs⟩ := rep_lst r1
  refine ⟨a, vs, rfl, p.sq, q _ _ H1 b1 A1 rfl fun φ' i H2 u f => ?_⟩
  have p1 := p.up u
  have r1 := Reps.up u ds vs rs
  refine ⟨fun d hd => ?_, fun hi => ⟨vs, p1.sq, by rw [r1.length]; rw [enumD_length] at hi; exact Nat.le_of_eq hi.symm⟩⟩
  rw [enumD_get] at hd
  cases hx : ds[i]? with
  | none => rw [hx] at hd; cases hd
  | some d0 =>
    rw [hx] at hd
    cases hd
    obtain ⟨w, e, rw'⟩ := r1.get hx
    refine ⟨⟨vs, w, p1.sq, e⟩, fun x H3 hy => ?_⟩
    obtain ⟨T, x1, rfl, hT, rfl, hx1⟩ := hy
    have e2 := hx1 vs p1.sq
    rw [e] at e2
    cases e2
    exact ⟨same_new hT, rep_pair (f T hT) upd_same (by show V.int _ = V.int _; congr 1; omega) (rw'.mono (But.of (same_new hT)))⟩
def zipD (ds es : List D) : List D := List.zipWith (fun a b => .tup [a, b]) ds es
theorem zipD_get {i : Nat} {d1 d2 : D} (h1 : ds[i]? = some d1) (h2 : es[i]? = some d2) : (zipD ds es)[i]? = some (.tup [d1, d2]) := by
  unfold zipD
  rw [List.getElem?_zipWith, h1, h2]
theorem zipD_getD {i : Nat} {d : D} (h : (zipD ds es)[i]? = some d) : ∃ d1 d2, ds[i]? = some d1 ∧ es[i]? = some d2 ∧ d = .tup [d1, d2] := by
  unfold zipD at h
  rw [List.getElem?_zipWith] at h
  cases h1 : ds[i]? with
  | none => rw [h1] at h; cases h
  | some d1 =>
    cases h2 : es[i]? with
    | none => rw [h1, h2] at h; cases h
    | some d2 =>
      rw [h1, h2] at h
      cases h
      exact ⟨d1, d2, rfl, rfl, rfl⟩
theorem it_zipL {ta : TA} (h : EvAD K φ J ta ρ [.lst ds, .lst es]) : IterD K φ J (RZ.iZipA K ta) ρ (zipD ds es) := fun σ H A R q => h σ H A _ fun vs fs H1 b1 A1 e r => by
  subst e
  obtain ⟨v, w, rfl, r1, r2⟩ := r.two
  obtain ⟨a, vs, rfl, p, rs⟩ := rep_lst r1
  obtain ⟨b, ws, rfl, p', rs'⟩ := rep_lst r2
  refine ⟨a, b, vs, ws, rfl, .inl ⟨p.sq, p'.sq, q _ _ H1 b1 A1 rfl fun φ' i H2 u f => ?_⟩⟩
  have p1 := p.up u
  have r1 := Reps.up u ds vs rs
  have p2 := p'.up u
  have r2 := Reps.up u es ws rs'
  refine ⟨fun d hd => ?_, fun hi => ⟨vs, ws, p1.sq, p2.sq, by rw [r1.length, r2.length]; unfold zipD at hi; rw [List.length_zipWith] at hi; omega⟩⟩
  obtain ⟨d1, d2, g1, g2, rfl⟩ := zipD_getD hd
  obtain ⟨v1, e1, q1⟩ := r1.get g1
  obtain ⟨v2, e2, q2⟩ := r2.get g2
  refine ⟨⟨vs, ws, v1, v2, p1.sq, p2.sq, e1, e2⟩, fun x H3 hy => ?_⟩
  obtain ⟨T, x1, x2, rfl, hT, rfl, hx1, hx2⟩ := hy
  have z1 := hx1 vs p1.sq
  have z2 := hx2 ws p2.sq
  rw [e1] at z1
  rw [e2] at z2
  cases z1
  cases z2
  exact ⟨same_new hT, rep_pair (f T hT) upd_same (q1.mono (But.of (same_new hT))) (q2.mono (But.of (same_new hT)))⟩
theorem it_zipT {ta : TA} (h : EvAD K φ J ta ρ [.tup ds, .tup es]) : IterD K φ J (RZ.iZipA K ta) ρ (zipD ds es) := fun σ H A R q => h σ H A _ fun vs fs H1 b1 A1 e r => by
  subst e
  obtain ⟨v, w, rfl, r1, r2⟩ := r.two
  obtain ⟨a, vs, rfl, p, rs⟩ := rep_tup r1
  obtain ⟨b, ws, rfl, p', rs'⟩ := rep_tup r2
  refine ⟨a, b, vs, ws, rfl, .inr ⟨p.sq, p'.sq, q _ _ H1 b1 A1 rfl fun φ' i H2 u f => ?_⟩⟩
  have p1 := p.up u
  have r1 := Reps.up u ds vs rs
  have p2 := p'.up u
  have r2 := Reps.up u es ws rs'
  refine ⟨fun d hd => ?_, fun hi => ⟨vs, ws, p1.sq, p2.sq, by rw [r1.length, r2.length]; unfold zipD at hi; rw [List.length_zipWith] at hi; omega⟩⟩
  obtain ⟨d1, d2, g1, g2, rfl⟩ := zipD_getD hd
  obtain ⟨v1, e1, q1⟩ := r1.get g1
  obtain ⟨v2, e2, q2⟩ := r2.get g2
  refine ⟨⟨vs, ws, v1, v2, p1.sq, p2.sq, e1, e2⟩, fun x H3 hy => ?_⟩
  obtain ⟨T, x1, x2, rfl, hT, rfl, hx1, hx2⟩ := hy
  have z1 := hx1 vs p1.sq
  have z2 := hx2 ws p2.sq
  rw [e1] at z1
  rw [e2] at z2
  cases z1
  cases z2
  exact ⟨same_new hT, rep_pair (f T hT) upd_same (q1.mono (But.of (same_new hT))) (q2.mono (But.of (same_new hT)))⟩
def strD (s : Str) : List D := s.cps.toList.map fun c => .str ⟨#[c]⟩
theorem it_str (h : EvD K φ J te ρ (.str s)) : IterD K φ J (iStr te) ρ (strD s) := fun σ H A R q => h σ H A _ fun v d H1 b1 A1 e r => by
  subst e
  cases (show v = _ from r)
  refine ⟨s, rfl, q _ _ H1 b1 A1 rfl fun φ' i H2 u f => ⟨fun d hd => ?_, fun hi => by unfold strD at hi; rw [List.length_map, Array.length_toList] at hi; exact Nat.le_of_eq hi.symm⟩⟩
  unfold strD at hd
  rw [List.getElem?_map] at hd
  cases hc : s.cps.toList[i]? with
  | none => rw [hc] at hd; cases hd
  | some c =>
    rw [hc] at hd
    cases hd
    have hc' : s.cps[i]? = some c := by rw [← hc]; simp
    obtain ⟨hi, _⟩ := Array.getElem?_eq_some_iff.mp hc'
    refine ⟨hi, fun x H3 hy => ?_⟩
    obtain ⟨rfl, c2, e2, rfl⟩ := hy
    rw [hc'] at e2
    cases e2
    exact ⟨Same.refl _, rfl⟩

/-! ### targets -/
def wipeR (ρ : List (Option D)) : List Nat → List (Option D)
  | [] => ρ
  | v :: vs => (wipeR ρ vs).set v none
theorem SR.none (i : Nat) (h : SR K φ H ρ σ) : SR K φ H (ρ.set i Option.none) (σ.set i Option.none) := by
  refine ⟨by rw [List.length_set, List.length_set]; exact h.1, fun j e hj => ?_⟩
  by_cases hij : i = j
  · subst hij
    by_cases hl : i < ρ.length
    · rw [List.getElem?_set_self hl] at hj
      cases hj
    · rw [List.getElem?_eq_none (by rw [List.length_set]; omega)] at hj
      cases hj
  · rw [List.getElem?_set_ne hij] at hj
    obtain ⟨w, e1, r1⟩ := h.2 j e hj
    exact ⟨w, by rw [List.getElem?_set_ne hij]; exact e1, r1⟩
theorem SR.wipe (h : SR K φ H ρ σ) : ∀ vs : List Nat, SR K φ H (wipeR ρ vs) (L2.wipe σ vs)
  | [] => h
  | v :: vs => SR.none v (SR.wipe h vs)
theorem wipe_set {i : Nat} {o : Option V} : ∀ {vs : List Nat}, i ∈ vs → L2.wipe (σ.set i o) vs = L2.wipe σ vs
  | v :: vs, h => by
    show (L2.wipe (σ.set i o) vs).set v none = (L2.wipe σ vs).set v none
    by_cases hi : i ∈ vs
    · rw [wipe_set hi]
    · have e : i = v := (List.mem_cons.mp h).resolve_right hi
      subst e
      have g : ∀ (us : List Nat), i ∉ us → L2.wipe (σ.set i o) us = (L2.wipe σ us).set i o := by
        intro us
        induction us with
        | nil => intro _; rfl
        | cons u us ih =>
          intro hu
          have h1 : i ≠ u := fun e => hu (by rw [e]; exact List.mem_cons_self)
          show (L2.wipe (σ.set i o) us).set u none = ((L2.wipe σ us).set u none).set i o
          rw [ih fun m => hu (List.mem_cons_of_mem _ m), List.set_comm _ _ h1]
      rw [g vs hi, List.set_set]
theorem wipe_get {j : Nat} : ∀ {vs : List Nat}, (L2.wipe σ vs)[j]? = if j ∈ vs then (σ[j]?).map (fun _ => none) else σ[j]?
  | [] => by simp [L2.wipe]
  | v :: vs => by
    show ((L2.wipe σ vs).set v none)[j]? = _
    rw [List.getElem?_set]
    by_cases e : v = j
    · subst e
      rw [if_pos rfl, if_pos List.mem_cons_self]
      rw [L2.wipe_length]
      by_cases h : v < σ.length
      · rw [if_pos h, List.getElem?_eq_getElem h]
        rfl
      · rw [if_neg h, List.getElem?_eq_none (by omega)]
        rfl
    · rw [if_neg e, wipe_get]
      have : (j ∈ v :: vs) ↔ j ∈ vs := by
        rw [List.mem_cons]
        exact ⟨fun z => z.resolve_left fun q => e q.symm, .inr⟩
      by_cases h : j ∈ vs
      · rw [if_pos h, if_pos (this.mpr h)]
      · rw [if_neg h, if_neg fun z => h (this.mp z)]
theorem wipe_wipe (vs : List Nat) : L2.wipe (L2.wipe σ vs) vs = L2.wipe σ vs := by
  apply List.ext_getElem?
  intro j
  rw [wipe_get]
  by_cases h : j ∈ vs
  · rw [if_pos h, wipe_get, if_pos h]
    cases σ[j]? <;> rfl
  · rw [if_neg h]
/-- a target: d is stored, ρ becomes ρ', the slots us are written -/
def EvG (K : PySem.W.Frag) (g : TG) (d : D) (ρ ρ' : List (Option D)) (us : List Nat) : Prop := ∀ (φ : Addr → Prop) (J : Hp → Prop) σ H v, At K φ J ρ σ H → Rep K φ H d v → ∀ Q : L2.St → Hp → Prop,
  (∀ σ', At K φ J ρ' σ' H → (∀ vs : List Nat, (∀ i ∈ us, i ∈ vs) → L2.wipe σ' vs = L2.wipe σ vs) → Q σ' H) → g v σ H Q
theorem eg_name {k : Nat} : EvG K (gName k) d ρ (ρ.set k (some d)) [k] := fun φ J σ H v A r Q q => q _ (A.set k r) fun vs h => wipe_set (h k (by simp))
def EvGs (K : PySem.W.Frag) (g : TGs) (ds : List D) (ρ ρ' : List (Option D)) (us : List Nat) : Prop := ∀ (φ : Addr → Prop) (J : Hp → Prop) σ H ws, At K φ J ρ σ H → Reps K φ H ds ws → ∀ Q : L2.St → Hp → Prop,
  (∀ σ', At K φ J ρ' σ' H → (∀ vs : List Nat, (∀ i ∈ us, i ∈ vs) → L2.wipe σ' vs = L2.wipe σ vs) → Q σ' H) → g ws σ H Q
theorem egs_nil : EvGs K gNil [] ρ ρ [] := fun φ J σ H ws A r Q q => ⟨r, q σ A fun _ _ => rfl⟩
theorem egs_cons {g : TG} {gs : TGs} {ρ1 ρ2 : List (Option D)} {us ws : List Nat} (h : EvG K g d ρ ρ1 us) (hs : EvGs K gs ds ρ1 ρ2 ws) : EvGs K (gCons g gs) (d :: ds) ρ ρ2 (us ++ ws) := fun φ J σ H xs A r Q q => by
  obtain ⟨v, r', rfl, h1, h2⟩ := (show ∃ v r, xs = v :: r ∧ Rep K φ H d v ∧ Reps K φ H ds r from r)
  refine ⟨v, r', rfl, h φ J σ H v A h1 _ fun σ1 A1 w1 => hs φ J σ1 H r' A1 h2 Q fun σ2 A2 w2 => q σ2 A2 fun vs hv => ?_⟩
  rw [w2 vs fun i hi => hv i (List.mem_append_right _ hi), w1 vs fun i hi => hv i (List.mem_append_left _ hi)]
theorem eg_tup {gs : TGs} {us : List Nat} (h : EvGs K gs ds ρ ρ' us) : EvG K (gTup K ds.length gs) (.tup ds) ρ ρ' us := fun φ J σ H v A r Q q => by
  obtain ⟨a, vs, rfl, p, rs⟩ := rep_tup r
  exact ⟨a, vs, rfl, p.sq, rs.length, h φ J σ H vs A rs Q q⟩

/-! ### list comprehensions -/
inductive Comp (pt : D → Bool → Prop) (pe : D → D → Prop) : List D → List D → Prop where
  | nil : Comp pt pe [] []
  | take {d y : D} {ds ys : List D} : pt d true → pe d y → Comp pt pe ds ys → Comp pt pe (d :: ds) (y :: ys)
  | skip {d : D} {ds ys : List D} : pt d false → Comp pt pe ds ys → Comp pt pe (d :: ds) ys
theorem Comp.snoc1 {pt : D → Bool → Prop} {pe : D → D → Prop} : ∀ {ds ys : List D}, Comp pt pe ds ys → pt d true → pe d y → Comp pt pe (ds ++ [d]) (ys ++ [y])
  | _, _, .nil, h, k => .take h k .nil
  | _, _, .take a b c, h, k => .take a b (Comp.snoc1 c h k)
  | _, _, .skip a c, h, k => .skip a (Comp.snoc1 c h k)
theorem Comp.snoc0 {pt : D → Bool → Prop} {pe : D → D → Prop} : ∀ {ds ys : List D}, Comp pt pe ds ys → pt d false → Comp pt pe (ds ++ [d]) ys
  | _, _, .nil, h => .skip h .nil
  | _, _, .take a b c, h => .take a b (Comp.snoc0 c h)
  | _, _, .skip a c, h => .skip a (Comp.snoc0 c h)
theorem Comp.map {f : D → D} : ∀ {ds ys : List D}, Comp (fun _ b => b = true) (fun d y => y = f d) ds ys → ys = ds.map f
  | _, _, .nil => rfl
  | _, _, .take _ e c => by rw [e, c.map]; rfl
  | _, _, .skip e _ => by cases e
theorem Comp.filter {p : D → Bool} {f : D → D} : ∀ {ds ys : List D}, Comp (fun d b => b = p d) (fun d y => y = f d) ds ys → ys = (ds.filter p).map f
  | _, _, .nil => rfl
  | _, _, .take e1 e c => by rw [List.filter_cons, if_pos e1.symm, e, c.filter]; rfl
  | _, _, .skip e c => by rw [List.filter_cons, if_neg (by rw [← e]; simp), c.filter]
theorem Comp.len {pt : D → Bool → Prop} {pe : D → D → Prop} : ∀ {ds ys : List D}, Comp pt pe ds ys → ys.length ≤ ds.length
  | _, _, .nil => Nat.le_refl _
  | _, _, .take _ _ c => Nat.succ_le_succ c.len
  | _, _, .skip _ c => Nat.le_succ_of_le c.len
theorem Comp.all {pe : D → D → Prop} : ∀ {ds ys : List D}, Comp (fun _ b => b = true) pe ds ys → ys.length = ds.length ∧ ∀ y ∈ ys, ∃ d ∈ ds, pe d y
  | _, _, .nil => ⟨rfl, fun _ h => by simp at h⟩
  | _, _, .take _ e c => ⟨by rw [List.length_cons, List.length_cons, c.all.1], fun z h => by
    rcases List.mem_cons.mp h with rfl | h
    · exact ⟨_, List.mem_cons_self, e⟩
    · obtain ⟨d, hd, p⟩ := c.all.2 z h
      exact ⟨d, List.mem_cons_of_mem _ hd, p⟩⟩
  | _, _, .skip e _ => by cases e
theorem ev_lcP {wi : TI} {g : TG} {tt : TT} {te : TE} {ws us : List Nat} {Pi : List D → Prop} {ρd : D → List (Option D)} {pt : D → Bool → Prop} {pe : D → D → Prop} (hi : IterP K φ J wi ρ Pi) (hl : ∀ ds, Pi ds → ds.length ≤ 1000000) (hu : ∀ i ∈ us, i ∈ ws)
    (hg : ∀ ds, Pi ds → ∀ d ∈ ds, EvG K g d (wipeR ρ ws) (ρd d) us)
    (ht : ∀ ds, Pi ds → ∀ d ∈ ds, ∀ φ' J', Ext φ J φ' J' → EvT K φ' J' tt (ρd d) (pt d))
    (he : ∀ ds, Pi ds → ∀ d ∈ ds, pt d true → ∀ φ' J', Ext φ J φ' J' → EvP K φ' J' te (ρd d) (pe d)) :
    EvP K φ J (tLc wi g tt te ws) ρ (fun z => ∃ ds ys, Pi ds ∧ z = .lst ys ∧ Comp pt pe ds ys) := fun σ H A Q q => by
  refine hi σ H A _ fun J0 ds H1 b1 A1 pd w => ?_
  intro D0 hD
  -- inside: the list at D0 is live
  have neP : ∀ p s ns, Pooled φ J p s ns → p ≠ D0 := fun p s ns hp => by
    obtain ⟨a1, a2, a3, a4, h1, _⟩ := hp.ok _ A1.j
    exact ne_of_none h1 hD
  let φ' : Addr → Prop := fun a => φ a ∧ a ≠ D0
  have ext : ∀ acc : List V, Ext φ J φ' (fun H => J H ∧ H D0 = some (.lst acc)) := fun acc => ⟨fun _ h => h.1, fun p s ns hp => ⟨fun z => hp.np z.1, hp.ne, fun H h => hp.ok H h.1, fun H H' h k o => ⟨hp.st H H' h.1 k o, k _ _ (neP p s ns hp).symm h.2⟩⟩, fun a p h => ⟨p, fun e => h H1 A1.j (by rw [e]; exact hD)⟩⟩
  have mono : ∀ (acc : List V) (H2 : Hp), (∀ a, H1 a ≠ none → H2 a ≠ none) → H2 D0 ≠ none → Mo H2 (fun H => J H ∧ H D0 = some (.lst acc)) := fun acc H2 s h => (A1.mono.up s).and (Mo.at h)
  refine ⟨fun i m H2 => m = ds.length - i ∧ i ≤ ds.length ∧ But φ H1 H2 ∧ ∃ acc ys, Reps K φ' H2 ys acc ∧ Comp pt pe (ds.take i) ys ∧ At K φ' (fun H => J H ∧ H D0 = some (.lst acc)) (wipeR ρ ws) (L2.wipe σ ws) H2,
    ⟨ds.length, rfl, Nat.zero_le _, But.of (same_new hD), [], [], Reps.nil, .nil, ?_⟩, ?_⟩
  · have A2 := A1.newLive (o := .lst []) (J' := fun H => J H ∧ H D0 = some (.lst [])) hD ⟨A1.mono _ _ (fun a o _ e => same_new hD a o e) A1.j, upd_same⟩ (mono [] _ upd_tr (by rw [upd_same]; exact fun z => by cases z))
    exact ⟨A2.sr.wipe ws, A2.fr, A2.j, A2.mono⟩
  · rintro i m H2 ⟨rfl, hi, b2, acc, ys, rs, cp, A2⟩
    have upw : Up φ φ' H1 H2 := fun a o p e => ⟨⟨p, ne_of_none e hD⟩, b2.keep a o p e⟩
    have fr2 : Frm φ' H2 := A2.fr
    obtain ⟨wg, wstop⟩ := w φ' i H2 upw fr2
    by_cases hlt : i < ds.length
    · have hd : ds[i]? = some ds[i] := List.getElem?_eq_getElem hlt
      obtain ⟨go, yl⟩ := wg _ hd
      refine .inr ⟨go, fun H3 => But φ H1 H3 ∧ ∃ acc ys, Reps K φ' H3 ys acc ∧ Comp pt pe (ds.take (i + 1)) ys ∧ At K φ' (fun H => J H ∧ H D0 = some (.lst acc)) (wipeR ρ ws) (L2.wipe σ ws) H3, ?_, ?_⟩
      · rintro H3 ⟨b3, acc3, ys3, r3, c3, A3⟩
        exact ⟨ds.length - (i + 1), by omega, rfl, hlt, b3, acc3, ys3, r3, c3, A3⟩
      · intro x H3 hy
        obtain ⟨s3, r3⟩ := yl x H3 hy
        have A3 := A2.same s3
        have rs3 := rs.mono (But.of (φ := φ') s3)
        have b3 : But φ H1 H3 := b2.trans (But.of s3)
        have hmem : ds[i] ∈ ds := List.getElem_mem hlt
        have tk : ds.take (i + 1) = ds.take i ++ [ds[i]] := by rw [List.take_add_one, hd]; rfl
        refine hg ds pd _ hmem φ' _ _ H3 x A3 r3 _ fun σ4 A4 hw4 => ⟨?_, ?_⟩
        · rw [hw4 ws hu]
          exact wipe_wipe ws
        · refine ht ds pd _ hmem φ' _ (ext acc) σ4 H3 A4 _ fun bb H5 b5 A5 hp => ?_
          have b35 : But φ H1 H5 := ⟨fun a o p e => b5.keep a o ⟨p, ne_of_none e hD⟩ (b3.keep a o p e), fun a h => b5.tr a (b3.tr a h)⟩
          have A5' : At K φ' (fun H => J H ∧ H D0 = some (.lst acc)) (wipeR ρ ws) (L2.wipe σ ws) H5 := ⟨A3.sr.up (Up.of b5), A5.fr, A5.j, A5.mono⟩
          cases bb with
          | false =>
            rw [if_neg (by simp)]
            exact ⟨b35, acc, ys, rs3.mono b5, by rw [tk]; exact cp.snoc0 hp, A5'⟩
          | true =>
            rw [if_pos rfl]
            refine he ds pd _ hmem hp φ' _ (ext acc) σ4 H5 A5 _ fun v d H6 b6 A6 pv r6 => ?_
            have rl := (rs3.mono b5).mono b6
            have nD : ¬ φ' D0 := fun z => z.2 rfl
            have cl := cp.len
            refine ⟨acc, A6.j.2, ?_, ?_, acc ++ [v], ys ++ [d], ?_, by rw [tk]; exact cp.snoc1 hp pv, ?_⟩
            · rw [rl.length]
              have h1 := hl ds pd
              rw [List.length_take] at cl
              exact szlt (by omega)
            · refine ⟨fun a o p e => ?_, fun a h => upd_tr a (b6.tr a (b35.tr a h))⟩
              have ne := ne_of_none e hD
              rw [upd_ne ne]
              exact b6.keep a o ⟨p, ne⟩ (b35.keep a o p e)
            · exact (rl.append (Reps.cons r6 Reps.nil)).mono ((But.refl φ' H6).upd nD)
            · have A6' : At K φ' (fun H => J H ∧ H D0 = some (.lst acc)) (wipeR ρ ws) (L2.wipe σ ws) H6 := ⟨A5'.sr.up (Up.of b6), A6.fr, A6.j, A6.mono⟩
              have jj : J (upd H6 D0 (.lst (acc ++ [v]))) := A1.mono H6 _ (fun a o h e => by
                rw [upd_ne (show a ≠ D0 from fun z => h (by rw [z]; exact hD))]
                exact e) A6.j.1
              exact A6'.upd nD ⟨jj, upd_same⟩ (mono _ _ (fun a h => upd_tr a (b6.tr a (b35.tr a h))) (by rw [upd_same]; exact fun z => by cases z))
    · have e : i = ds.length := by omega
      subst e
      refine .inl ⟨wstop rfl, ?_⟩
      rw [List.take_length] at cp
      have A3 : At K φ J ρ σ H2 := ⟨A1.sr.up (Up.of b2), A2.fr.fst, A2.j.1, A1.mono.up b2.tr⟩
      refine q _ (.lst ys) H2 (b1.trans b2) A3 ⟨ds, ys, pd, rfl, cp⟩ ⟨D0, acc, rfl, .inl ⟨A1.fr D0 hD, .inl A2.j.2⟩, ?_⟩
      exact Reps.up (fun a o p e => ⟨p.1, e⟩) ys acc rs
end
end DL
namespace DL
open PySem PySem.Spec PyProof.Rows L2

section
variable {K : PySem.W.Frag} {φ φ' : Addr → Prop} {J J' : Hp → Prop} {H H' H1 : Hp} {ρ ρ' : List (Option D)} {σ : L2.St} {ta tb te tc : TE} {x y z d : D} {P Pa Pb Pc : D → Prop} {i j : Int} {b c : Bool} {ds es : List D} {v : V} {vs : List V} {a : Addr} {D0 : Ends} {t u : TS}

/-! ### comprehensions, by one name -/
/-- [e for x in ds]: all by f -/
theorem ev_lc {wi : TI} {te : TE} {k : Nat} {f : D → D} (hi : IterD K φ J wi ρ ds) (hl : ds.length ≤ 1000000) (he : ∀ d ∈ ds, ∀ φ' J', Ext φ J φ' J' → EvD K φ' J' te ((wipeR ρ [k]).set k (some d)) (f d)) :
    EvD K φ J (tLc wi (gName k) tYes te [k]) ρ (.lst (ds.map f)) :=
  (ev_lcP (ρd := fun d => (wipeR ρ [k]).set k (some d)) (us := [k]) (pt := fun _ b => b = true) (pe := fun d y => y = f d) hi (fun ds' e => by rw [e]; exact hl) (fun _ h => h) (fun _ _ d _ => eg_name)
    (fun _ _ d _ φ' J' _ σ H A Q q => q true H (But.refl _ _) A rfl) (fun ds' e d hd _ φ' J' x => he d (e ▸ hd) φ' J' x)).imp fun z ⟨ds', ys, e1, e2, c⟩ => by
      subst e1
      rw [e2, c.map]
/-- [e for x in ds if t] -/
theorem ev_lcF {wi : TI} {tt : TT} {te : TE} {k : Nat} {p : D → Bool} {f : D → D} (hi : IterD K φ J wi ρ ds) (hl : ds.length ≤ 1000000) (ht : ∀ d ∈ ds, ∀ φ' J', Ext φ J φ' J' → EvX K φ' J' tt ((wipeR ρ [k]).set k (some d)) (p d))
    (he : ∀ d ∈ ds, p d = true → ∀ φ' J', Ext φ J φ' J' → EvD K φ' J' te ((wipeR ρ [k]).set k (some d)) (f d)) :
    EvD K φ J (tLc wi (gName k) tt te [k]) ρ (.lst ((ds.filter p).map f)) :=
  (ev_lcP (ρd := fun d => (wipeR ρ [k]).set k (some d)) (us := [k]) (pt := fun d b => b = p d) (pe := fun d y => y = f d) hi (fun ds' e => by rw [e]; exact hl) (fun _ h => h) (fun _ _ d _ => eg_name)
    (fun ds' e d hd φ' J' x => ht d (e ▸ hd) φ' J' x) (fun ds' e d hd pd φ' J' x => he d (e ▸ hd) pd.symm φ' J' x)).imp fun z ⟨ds', ys, e1, e2, c⟩ => by
      subst e1
      rw [e2, c.filter]
theorem et_yes : EvT K φ J tYes ρ (fun b => b = true) := fun σ H A Q q => q true H (But.refl _ _) A rfl
/-- any element: a property of each -/
theorem ev_lcE {wi : TI} {te : TE} {k : Nat} {Pi : List D → Prop} {pe : D → D → Prop} (hi : IterP K φ J wi ρ Pi) (hl : ∀ ds, Pi ds → ds.length ≤ 1000000) (he : ∀ ds, Pi ds → ∀ d ∈ ds, ∀ φ' J', Ext φ J φ' J' → EvP K φ' J' te ((wipeR ρ [k]).set k (some d)) (pe d)) :
    EvP K φ J (tLc wi (gName k) tYes te [k]) ρ (fun z => ∃ ds ys, Pi ds ∧ z = .lst ys ∧ Comp (fun _ b => b = true) pe ds ys) :=
  ev_lcP (ρd := fun d => (wipeR ρ [k]).set k (some d)) (us := [k]) hi hl (fun _ h => h) (fun _ _ d _ => eg_name) (fun _ _ d _ φ' J' _ => et_yes) (fun ds' e d hd _ φ' J' x => he ds' e d hd φ' J' x)

/-! ### statements -/
theorem q (h : t { D0 with nx := u D0 } σ H) : tSeq t u D0 σ H := h
theorem st_next (h : D0.nx σ H) : tNext D0 σ H := h
theorem st_asg {k : Nat} (A : At K φ J ρ σ H) (h : EvP K φ J te ρ P) (kk : ∀ d σ' H', P d → At K φ J (ρ.set k (some d)) σ' H' → D0.nx σ' H') : tAsg te (gName k) D0 σ H :=
  h σ H A _ fun v d H' b A' pd r => kk d _ H' pd (A'.set k r)
/-- .. where the value is known -/
theorem st_set {k : Nat} (A : At K φ J ρ σ H) (h : EvD K φ J te ρ d) (kk : ∀ σ' H', At K φ J (ρ.set k (some d)) σ' H' → D0.nx σ' H') : tAsg te (gName k) D0 σ H :=
  st_asg A h fun d' σ' H' e A' => kk σ' H' (e ▸ A')
theorem st_asgG {g : TG} {us : List Nat} {ρ2 : D → List (Option D)} (A : At K φ J ρ σ H) (h : EvP K φ J te ρ P) (hg : ∀ d, P d → EvG K g d ρ (ρ2 d) us) (kk : ∀ d σ' H', P d → At K φ J (ρ2 d) σ' H' → D0.nx σ' H') : tAsg te g D0 σ H :=
  h σ H A _ fun v d H' b A' pd r => hg d pd φ J σ H' v A' r _ fun σ' A2 _ => kk d σ' H' pd A2
theorem st_ret (A : At K φ J ρ σ H) (h : EvP K φ J te ρ P) (kk : ∀ v d H', P d → At K φ J ρ σ H' → Rep K φ H' d v → D0.rt v H') : tRet te D0 σ H :=
  h σ H A _ fun v d H' b A' pd r => kk v d H' pd A' r
theorem st_retN (h : D0.rt .non H) : tRetN D0 σ H := h
theorem st_drop (A : At K φ J ρ σ H) (h : EvP K φ J te ρ P) (kk : ∀ d H', P d → At K φ J ρ σ H' → D0.nx σ H') : tDrop te D0 σ H :=
  h σ H A _ fun v d H' b A' pd r => kk d H' pd A'
theorem st_if {tt : TT} {p : Bool → Prop} (A : At K φ J ρ σ H) (h : EvT K φ J tt ρ p) (k1 : p true → ∀ H', At K φ J ρ σ H' → t D0 σ H') (k2 : p false → ∀ H', At K φ J ρ σ H' → u D0 σ H') : tIfS tt t u D0 σ H :=
  h σ H A _ fun b H' bt A' pb => by
    cases b with
    | true =>
      rw [if_pos rfl]
      exact k1 pb H' A'
    | false =>
      rw [if_neg (by simp)]
      exact k2 pb H' A'
/-- the test is known -/
theorem st_yes {tt : TT} (A : At K φ J ρ σ H) (h : EvX K φ J tt ρ b) (e : b = true) (k1 : ∀ H', At K φ J ρ σ H' → t D0 σ H') : tIfS tt t u D0 σ H :=
  st_if A h (fun _ H' A' => k1 H' A') fun z => by rw [e] at z; cases z
theorem st_no {tt : TT} (A : At K φ J ρ σ H) (h : EvX K φ J tt ρ b) (e : b = false) (k2 : ∀ H', At K φ J ρ σ H' → u D0 σ H') : tIfS tt t u D0 σ H :=
  st_if A h (fun z => by rw [e] at z; cases z) fun _ H' A' => k2 H' A'
theorem st_aug {k : Nat} {f : Int → Int → Int} (A : At K φ J ρ σ H) (hx : ρ[k]? = some (some (.int i))) (h : EvD K φ J te ρ (.int j)) (kk : ∀ σ' H', At K φ J (ρ.set k (some (.int (f i j)))) σ' H' → D0.nx σ' H') : tAug k te (ipI f) D0 σ H := by
  obtain ⟨v, e, r⟩ := A.sr.2 k _ hx
  cases (show v = _ from r)
  refine ⟨_, e, h σ H A _ fun w d H' b A' pd r' => ?_⟩
  subst pd
  exact ⟨i, j, rfl, r', kk _ H' (A'.set k rfl)⟩

/-! ### for -/
def NX (K : PySem.W.Frag) (φ : Addr → Prop) (H1 : Hp) (Inv : Nat → List (Option D) → (Hp → Prop) → Prop) (i : Nat) : L2.St → Hp → Prop := fun σ H => ∃ ρ'' J'', Inv i ρ'' J'' ∧ At K φ (fun H => J'' H ∧ But φ H1 H) ρ'' σ H
theorem NX.go {Inv : Nat → List (Option D) → (Hp → Prop) → Prop} {n : Nat} (A : At K φ (fun H => J H ∧ But φ H1 H) ρ σ H) (h : Inv n ρ J) : NX K φ H1 Inv n σ H := ⟨ρ, J, h, A⟩
theorem Ext.but {H1 : Hp} (h : ∀ p s ns, Pooled φ J p s ns → H1 p ≠ none) : Ext φ J φ (fun H => J H ∧ But φ H1 H) := ⟨fun _ h => h.1, fun p s ns hp => ⟨hp.np, hp.ne, fun H h => hp.ok H h.1, fun H H' hh k o => ⟨hp.st H H' hh.1 k o, ⟨fun a u pa e => k a u (fun z => hp.np (z ▸ pa)) (hh.2.keep a u pa e), fun a ha => by
  by_cases z : a = p
  · subst z
    obtain ⟨_, _, _, _, e, _⟩ := o
    rw [e]
    exact fun z => by cases z
  · cases e : H a with
    | none => exact absurd e (hh.2.tr a ha)
    | some u => rw [k a u z e]; exact fun z => by cases z⟩⟩⟩, fun _ p _ => p⟩
theorem Ext.but' {H1 : Hp} : Ext φ J φ (fun H => J H ∧ But φ H1 H) := ⟨fun _ h => h.1, fun p s ns hp => ⟨hp.np, hp.ne, fun H h => hp.ok H h.1, fun H H' hh k o => ⟨hp.st H H' hh.1 k o, ⟨fun a u pa e => k a u (fun z => hp.np (z ▸ pa)) (hh.2.keep a u pa e), fun a ha => by
  by_cases z : a = p
  · subst z
    obtain ⟨_, _, _, _, e, _⟩ := o
    rw [e]
    exact fun z => by cases z
  · cases e : H a with
    | none => exact absurd e (hh.2.tr a ha)
    | some u => rw [k a u z e]; exact fun z => by cases z⟩⟩⟩, fun _ p _ => p⟩
def ForG (K : PySem.W.Frag) (φ : Addr → Prop) (g : TG) (tb : TS) (ds : List D) (D0 : Ends) (σ : L2.St) (H1 : Hp) : Prop := ∀ J0, Walks K φ J0 H1 ds → ∃ W : Nat → Nat → L2.St → Hp → Prop, (∃ m, W 0 m σ H1) ∧ ∀ i m σ H, W i m σ H →
  (J0.stop i H ∧ D0.nx σ H) ∨ (J0.go i H ∧ ∃ N : L2.St → Hp → Prop, (∀ σ' H', N σ' H' → ∃ m', m' < m ∧ W (i + 1) m' σ' H') ∧ ∀ x H', J0.yld i H x H' → g x σ H' fun σ2 H2 => tb { D0 with nx := N, ct := N, bk := D0.nx } σ2 H2)
theorem st_forP {wi : TI} {g : TG} {tb : TS} {Pi : List D → Prop} (A : At K φ J ρ σ H) (hi : IterP K φ J wi ρ Pi) (k : ∀ ds H1, Pi ds → At K φ J ρ σ H1 → ForG K φ g tb ds D0 σ H1) : tFor wi g tb D0 σ H :=
  hi σ H A _ fun J0 ds H1 b A1 pd w => k ds H1 pd A1 J0 w
theorem forG_by {g : TG} {tb : TS} (A : At K φ J ρ σ H1) (Inv : Nat → List (Option D) → (Hp → Prop) → Prop) (h0 : Inv 0 ρ J)
    (hs : ∀ i d ρ' J', ds[i]? = some d → Inv i ρ' J' → ∃ ρ2 us, EvG K g d ρ' ρ2 us ∧ ∀ σ' H', At K φ (fun H => J' H ∧ But φ H1 H) ρ2 σ' H' → tb { D0 with nx := NX K φ H1 Inv (i + 1), ct := NX K φ H1 Inv (i + 1), bk := D0.nx } σ' H')
    (hd : ∀ ρ' J' σ' H', Inv ds.length ρ' J' → At K φ (fun H => J' H ∧ But φ H1 H) ρ' σ' H' → D0.nx σ' H') : ForG K φ g tb ds D0 σ H1 := fun J0 w => by
  refine ⟨fun i m σ H => m = ds.length - i ∧ i ≤ ds.length ∧ NX K φ H1 Inv i σ H, ⟨ds.length, rfl, Nat.zero_le _, ρ, J, h0, A.live ⟨A.j, But.refl _ _⟩ (A.mono.and (Mo.but fun _ h => h))⟩, ?_⟩
  rintro i m σ2 H2 ⟨rfl, hi, ρ2, J2, inv, A2⟩
  obtain ⟨wg, ws⟩ := w φ i H2 (Up.of A2.j.2) A2.fr
  by_cases hlt : i < ds.length
  · have hx : ds[i]? = some ds[i] := List.getElem?_eq_getElem hlt
    obtain ⟨go, yl⟩ := wg _ hx
    obtain ⟨ρ3, us, eg, body⟩ := hs i _ ρ2 J2 hx inv
    refine .inr ⟨go, NX K φ H1 Inv (i + 1), fun σ' H' n => ⟨ds.length - (i + 1), by omega, rfl, hlt, n⟩, fun x H3 hy => ?_⟩
    obtain ⟨s3, r3⟩ := yl x H3 hy
    exact eg φ _ σ2 H3 x (A2.same s3) r3 _ fun σ4 A4 _ => body σ4 H3 A4
  · have e : i = ds.length := by omega
    subst e
    exact .inl ⟨ws rfl, hd ρ2 J2 σ2 H2 inv A2⟩
/-- by one name -/
theorem st_for {wi : TI} {tb : TS} {k : Nat} (A : At K φ J ρ σ H) (hi : IterD K φ J wi ρ ds) (Inv : Nat → List (Option D) → (Hp → Prop) → Prop) (h0 : Inv 0 ρ J)
    (hs : ∀ H1 i d ρ' J', But φ H H1 → J H1 → ds[i]? = some d → Inv i ρ' J' → ∀ σ' H', At K φ (fun H => J' H ∧ But φ H1 H) (ρ'.set k (some d)) σ' H' → tb { D0 with nx := NX K φ H1 Inv (i + 1), ct := NX K φ H1 Inv (i + 1), bk := D0.nx } σ' H')
    (hd : ∀ H1 ρ' J' σ' H', But φ H H1 → J H1 → Inv ds.length ρ' J' → At K φ (fun H => J' H ∧ But φ H1 H) ρ' σ' H' → D0.nx σ' H') : tFor wi (gName k) tb D0 σ H :=
  hi σ H A _ fun J0 ds' H1 b A1 pd w => by
    subst pd
    exact forG_by (D0 := D0) A1 Inv h0 (fun i d ρ' J' hx inv => ⟨_, _, eg_name, fun σ' H' A' => hs H1 i d ρ' J' b A1.j hx inv σ' H' A'⟩) (fun ρ' J' σ' H' inv A' => hd H1 ρ' J' σ' H' b A1.j inv A') J0 w
/-- by a target of any form -/
theorem st_forT {wi : TI} {tb : TS} {g : TG} {us : List Nat} {ρt : D → List (Option D) → List (Option D)} (A : At K φ J ρ σ H) (hi : IterD K φ J wi ρ ds) (Inv : Nat → List (Option D) → (Hp → Prop) → Prop) (h0 : Inv 0 ρ J)
    (hg : ∀ i d ρ' J', ds[i]? = some d → Inv i ρ' J' → EvG K g d ρ' (ρt d ρ') us)
    (hs : ∀ H1 i d ρ' J', But φ H H1 → J H1 → ds[i]? = some d → Inv i ρ' J' → ∀ σ' H', At K φ (fun H => J' H ∧ But φ H1 H) (ρt d ρ') σ' H' → tb { D0 with nx := NX K φ H1 Inv (i + 1), ct := NX K φ H1 Inv (i + 1), bk := D0.nx } σ' H')
    (hd : ∀ H1 ρ' J' σ' H', But φ H H1 → J H1 → Inv ds.length ρ' J' → At K φ (fun H => J' H ∧ But φ H1 H) ρ' σ' H' → D0.nx σ' H') : tFor wi g tb D0 σ H :=
  hi σ H A _ fun J0 ds' H1 b A1 pd w => by
    subst pd
    exact forG_by (D0 := D0) A1 Inv h0 (fun i d ρ' J' hx inv => ⟨_, _, hg i d ρ' J' hx inv, fun σ' H' A' => hs H1 i d ρ' J' b A1.j hx inv σ' H' A'⟩) (fun ρ' J' σ' H' inv A' => hd H1 ρ' J' σ' H' b A1.j inv A') J0 w
theorem st_while {tt : TT} {tb : TS} (A : At K φ J ρ σ H) (Inv : Nat → List (Option D) → (Hp → Prop) → Prop) (m0 : Nat) (h0 : Inv m0 ρ J)
    (hs : ∀ m ρ' J', Inv m ρ' J' → ∃ p, EvT K φ (fun H1 => J' H1 ∧ But φ H H1) tt ρ' p ∧
      (p true → ∀ σ' H', At K φ (fun H1 => J' H1 ∧ But φ H H1) ρ' σ' H' → ∀ N : L2.St → Hp → Prop, (∀ m' σ' H', m' < m → NX K φ H Inv m' σ' H' → N σ' H') → tb { D0 with nx := N, ct := N, bk := D0.nx } σ' H') ∧
      (p false → ∀ σ' H', At K φ (fun H1 => J' H1 ∧ But φ H H1) ρ' σ' H' → D0.nx σ' H')) : tWhile tt tb D0 σ H := by
  refine ⟨NX K φ H Inv, ⟨m0, ρ, J, h0, A.live ⟨A.j, But.refl _ _⟩ (A.mono.and (Mo.but fun _ h => h))⟩, ?_⟩
  rintro m σ2 H2 ⟨ρ2, J2, inv, A2⟩
  obtain ⟨p, ht, h1, h2⟩ := hs m ρ2 J2 inv
  refine ht σ2 H2 A2 _ fun b H3 b3 A3 pb => ?_
  cases b with
  | true =>
    rw [if_pos rfl]
    exact ⟨fun σ' H' => ∃ m', m' < m ∧ NX K φ H Inv m' σ' H', fun σ' H' n => n, h1 pb σ2 H3 A3 _ fun m' σ' H' l n => ⟨m', l, n⟩⟩
  | false =>
    rw [if_neg (by simp)]
    exact h2 pb σ2 H3 A3

/-! ### defs of pure values -/
/-- the promise: a relation of trees -/
def SpD (K : PySem.W.Frag) (n : Nat) (R : List D → D → Prop) : Sp := fun vs H Q _ => ∃ φ ds d, ds.length = n ∧ Reps K φ H ds vs ∧ Frm φ H ∧ R ds d ∧ ∀ v H', Same H H' → Rep K φ H' d v → Q v H'
theorem ev_call {n : Nat} {R : List D → D → Prop} {E : XK} {ta : TA} {Pr : List D → Prop} (ha : EvA K φ J ta ρ Pr) (hr : ∀ ds, Pr ds → ∃ d, ds.length = n ∧ R ds d ∧ P d) : EvP K φ J (tCall (SpD K n R) [] E ta) ρ P := fun σ H A Q q =>
  ha σ H A _ fun vs ds H1 b1 A1 pd r1 => by
    obtain ⟨d, hl, hd, pd'⟩ := hr ds pd
    refine ⟨φ, ds, d, hl, by rw [List.append_nil]; exact r1, A1.fr, hd, fun v H' s r => ?_⟩
    exact q v d H' (b1.trans (But.of s)) (A1.same s) pd' r
theorem ev_callD {n : Nat} {R : List D → D → Prop} {E : XK} {ta : TA} (ha : EvAD K φ J ta ρ ds) (hr : R ds d) (hl : ds.length = n := by rfl) : EvD K φ J (tCall (SpD K n R) [] E ta) ρ d := ev_call ha fun ds' e => ⟨d, by rw [e]; exact hl, by rw [e]; exact hr, rfl⟩
section
variable {PP : Program} {w : World} {mg : Str → Option Value} {base : Heap}
/-- a def keeps the promise, by its body's reading -/
theorem fn_ok {x qual : Str} {st : Stmt} {f : Addr} {fd : FuncData} {N ps : List Str} {k n : Nat} {R : List D → D → Prop} (F : Fun K x qual st f fd) (S : FnScope N ps (defScope st)) (hn : ps.length = n) (m : Nat) (hm : N.length = n + m)
    (hbody : ∀ (cdv : Value) (A : Around) (outer : List Env) (s : Shared) (H : Hp) (E : XK), Room k (A.deeper (envOfC qual (defScope st) s.heap.objs.size f cdv)) →
      ∃ t, PSs (cxOf CX0 PP w K mg base N qual (defScope st) f cdv A outer s H E).nox (defBody st) t ∧
        ∀ (φ : Addr → Prop) (ds : List D) (d : D) (H : Hp) (D0 : Ends) (σ : L2.St), ds.length = n → R ds d → (∀ v H', Same H H' → Rep K φ H' d v → D0.rt v H') → (d = .non → ∀ H', Same H H' → ∀ σ', D0.nx σ' H') → At K φ (Same H) (ds.map some ++ List.replicate m none) σ H → t D0 σ H) :
    FnOk PP w K mg base CX0 (k + 1) f fd ps (SpD K n R) := by
  refine F.ok S (fun vs H Q E h => ?_) (fun cdv A outer s H vs Q E hr h => ?_)
  · obtain ⟨φ, ds, d, hl, r, _⟩ := h
    rw [r.length, hl, hn]
  · obtain ⟨φ, ds, d, hl, r, fr, hd, q⟩ := h
    obtain ⟨t, ht, run⟩ := hbody cdv A outer s H E hr
    refine ⟨t, ht, run φ ds d H _ _ hl hd (fun v H' s r => q v H' s r) (fun e H' s σ' => q .non H' s (by rw [e]; rfl)) ⟨?_, fr, Same.refl H, Mo.sames fun _ h => h⟩⟩
    have e : N.length - vs.length = m := by rw [hm, r.length, hl]; omega
    unfold L2.start
    rw [e]
    exact SR.start r
end

theorem Frm.butP {φ : Addr → Prop} {H H' : Hp} {p s : Addr} {ns : List Int} (F : Frm φ H) (bp : ButP p H H') (po : PoolOk p s ns H') (tr : ∀ a, H a ≠ none → H' a ≠ none) : Frm φ H' := ⟨fun a h => F.new a (by
  cases e : H a with
  | none => rfl
  | some u => exact absurd h (tr a (by rw [e]; exact fun z => by cases z))), fun a xs h => by
  cases e : H a with
  | none => exact F.new a e
  | some u =>
    by_cases ea : a = p
    · subst ea
      obtain ⟨_, _, _, _, e1, _⟩ := po
      rw [e1] at h
      cases h
    · have z := bp a u ea e
      rw [h] at z
      cases z
      exact F.tup a xs e⟩
/-! ### draws -/
def spDraw : Sp := fun vs H Q _ => ∃ p s ns n, vs = [.ref p, .int n] ∧ PoolOk p s ns H ∧ s ≠ p ∧ 0 < n ∧ n < 4294967296 ∧ ∀ r H', 0 ≤ r → r < n → ButP p H H' → PoolOk p s ns H' → Q (.int r) H'
theorem butP_but {p : Addr} (h : ButP p H H') (np : ¬ φ p) {s : Addr} {ns : List Int} (o : PoolOk p s ns H') : But φ H H' := ⟨fun a u pa e => h a u (fun z => np (z ▸ pa)) e, fun a ha => by
  by_cases z : a = p
  · subst z
    obtain ⟨_, _, _, _, e, _⟩ := o
    rw [e]
    exact fun z => by cases z
  · cases e : H a with
    | none => exact absurd e ha
    | some u => rw [h a u z e]; exact fun z => by cases z⟩
theorem ev_draw {E : XK} {p s : Addr} {ns : List Int} {n : Int} {k : Nat} (hp : Pooled φ J p s ns) (hk : ρ[k]? = some (some (.raw (.ref p)))) (he : EvD K φ J te ρ (.int n)) (h0 : 0 < n) (h1 : n < 4294967296) :
    EvI K φ J (tCall spDraw [] E (tCons (tVar k) (tCons te tNil))) ρ (fun r => 0 ≤ r ∧ r < n) := fun σ H A Q q =>
  ev_var hk σ H A _ fun v d H1 b1 A1 e1 r1 => he σ H1 A1 _ fun v2 d2 H2 b2 A2 e2 r2 => by
    subst e1 e2
    cases (show v = _ from r1)
    cases (show v2 = _ from r2)
    refine ⟨p, s, ns, n, rfl, hp.ok _ A2.j, hp.ne, h0, h1, fun r H' g0 g1 bp po => ?_⟩
    have bt : But φ H2 H' := butP_but bp hp.np po
    have bt' : ∀ a, H2 a ≠ none → H' a ≠ none := bt.tr
    refine q _ (.int r) H' ((b1.trans b2).trans bt) ⟨A2.sr.up (Up.of bt), A2.fr.butP bp po bt', hp.st _ _ A2.j bp po, A2.mono.up bt'⟩ ⟨r, rfl, g0, g1⟩ rfl
/-- where the bound is drawn too -/
theorem ev_drawP {E : XK} {p s : Addr} {ns : List Int} {pn : Int → Prop} {k : Nat} (hp : Pooled φ J p s ns) (hk : ρ[k]? = some (some (.raw (.ref p)))) (he : EvI K φ J te ρ pn) (h0 : ∀ n, pn n → 0 < n ∧ n < 4294967296) :
    EvI K φ J (tCall spDraw [] E (tCons (tVar k) (tCons te tNil))) ρ (fun r => 0 ≤ r ∧ ∃ n, pn n ∧ r < n) := fun σ H A Q q =>
  ev_var hk σ H A _ fun v d H1 b1 A1 e1 r1 => he σ H1 A1 _ fun v2 d2 H2 b2 A2 ⟨n, e2, hn⟩ r2 => by
    subst e1 e2
    cases (show v = _ from r1)
    cases (show v2 = _ from r2)
    refine ⟨p, s, ns, n, rfl, hp.ok _ A2.j, hp.ne, (h0 n hn).1, (h0 n hn).2, fun r H' g0 g1 bp po => ?_⟩
    have bt : But φ H2 H' := butP_but bp hp.np po
    have bt' : ∀ a, H2 a ≠ none → H' a ≠ none := bt.tr
    refine q _ (.int r) H' ((b1.trans b2).trans bt) ⟨A2.sr.up (Up.of bt), A2.fr.butP bp po bt', hp.st _ _ A2.j bp po, A2.mono.up bt'⟩ ⟨r, rfl, g0, n, hn, g1⟩ rfl
/-! P-mode operators on ints -/
theorem ei_add {p q : Int → Prop} (ha : EvI K φ J ta ρ p) (hb : EvI K φ J tb ρ q) : EvI K φ J (tOp (rI0 fun i j => .int (i + j)) ta tb) ρ (fun k => ∃ i j, p i ∧ q j ∧ k = i + j) := ev_op ha hb fun x y ⟨i, e1, pi⟩ ⟨j, e2, qj⟩ => by
  subst e1 e2
  exact fun H v w _ r1 r2 Q k => ⟨i, j, r1, r2, k _ _ H (Same.refl H) ⟨_, rfl, i, j, pi, qj, rfl⟩ rfl⟩
theorem ei_sub {p q : Int → Prop} (ha : EvI K φ J ta ρ p) (hb : EvI K φ J tb ρ q) : EvI K φ J (tOp (rI0 fun i j => .int (i - j)) ta tb) ρ (fun k => ∃ i j, p i ∧ q j ∧ k = i - j) := ev_op ha hb fun x y ⟨i, e1, pi⟩ ⟨j, e2, qj⟩ => by
  subst e1 e2
  exact fun H v w _ r1 r2 Q k => ⟨i, j, r1, r2, k _ _ H (Same.refl H) ⟨_, rfl, i, j, pi, qj, rfl⟩ rfl⟩
theorem ei_mul {p q : Int → Prop} (ha : EvI K φ J ta ρ p) (hb : EvI K φ J tb ρ q) (hc : ∀ i j, p i → q j → CMul i j) : EvI K φ J (tOp (rI CMul fun i j => .int (i * j)) ta tb) ρ (fun k => ∃ i j, p i ∧ q j ∧ k = i * j) := ev_op ha hb fun x y ⟨i, e1, pi⟩ ⟨j, e2, qj⟩ => by
  subst e1 e2
  exact fun H v w _ r1 r2 Q k => ⟨i, j, r1, r2, hc i j pi qj, k _ _ H (Same.refl H) ⟨_, rfl, i, j, pi, qj, rfl⟩ rfl⟩
theorem eb_cmp {f : Int → Int → Bool} {p q : Int → Prop} (ha : EvI K φ J ta ρ p) (hb : EvI K φ J tb ρ q) : EvB K φ J (tOp (rI0 fun i j => .bl (f i j)) ta tb) ρ (fun k => ∃ i j, p i ∧ q j ∧ k = f i j) := ev_op ha hb fun x y ⟨i, e1, pi⟩ ⟨j, e2, qj⟩ => by
  subst e1 e2
  exact fun H v w _ r1 r2 Q k => ⟨i, j, r1, r2, k _ _ H (Same.refl H) ⟨_, rfl, i, j, pi, qj, rfl⟩ rfl⟩
theorem eb_eq {p q : Int → Prop} (ha : EvI K φ J ta ρ p) (hb : EvI K φ J tb ρ q) : EvB K φ J (tOp rEq ta tb) ρ (fun k => ∃ i j, p i ∧ q j ∧ k = decide (i = j)) := ev_op ha hb fun x y ⟨i, e1, pi⟩ ⟨j, e2, qj⟩ => by
  subst e1 e2
  exact fun H v w f r1 r2 Q k => o2_eqI (φ := φ) (K := K) H v w f r1 r2 Q fun u z H' s e r => k u z H' s ⟨_, e, i, j, pi, qj, rfl⟩ r
theorem ei_intB {p : Bool → Prop} (ha : EvB K φ J te ρ p) : EvI K φ J (tCB rInt1 (tCons te tNil)) ρ (fun k => ∃ b, p b ∧ k = if b then 1 else 0) := ev_cb (ea_consP ha ea_nil) fun ds ⟨d, r, e, ⟨b, e1, pb⟩, e2⟩ => by
  subst e e1 e2
  exact fun H vs f r Q k => cl_intB (K := K) (φ := φ) H vs f r Q fun u z H' s e r => k u z H' s ⟨_, e, b, pb, rfl⟩ r
end
end DL
namespace DL
open PySem PySem.Spec PyProof.Rows L2

/-- a def of the top as others call it -/
structure Lk (K : PySem.W.Frag) (mg : Str → Option Value) (x : Str) (f : Addr) (fd : FuncData) (ps : List Str) : Prop where
  m : mg x = some (.ref f)
  kp : PySem.W.keepIn K (.ref f) = true
  bi : Binds K fd ps []
section
variable {X : Cx} {x : Str} {pos : Pos}
/-- a built-in class as a value -/
theorem pe_ty {n : String} (hm : X.mg x = none) (hv : bootBuiltins x = some (.type n)) (hg : Gl X x := by rfl) (hn : x ≠ "__name__" := by decide) (hd : (x == ("__debug__" : Str)) = false := by decide) : PE X (.Name x pos) (tC (.ty n)) := pe_bltn hg hm hv rfl hn hd
/-- a constant of the module -/
theorem pe_cst {v : V} (h : ∃ u, X.mg x = some u ∧ RelV v u) (hg : Gl X x := by rfl) (hd : (x == ("__debug__" : Str)) = false := by decide) : PE X (.Name x pos) (tC v) := by
  obtain ⟨u, hm, r⟩ := h
  exact pe_glob hg hm r hd
end

def Stab (p : Addr) (J : Hp → Prop) : Prop := ∀ H o, J H → J (L2.upd H p o)
theorem Stab.and {p : Addr} {J J' : Hp → Prop} (a : Stab p J) (b : Stab p J') : Stab p (fun H => J H ∧ J' H) := fun H o h => ⟨a H o h.1, b H o h.2⟩
theorem Stab.but {p : Addr} {φ : Addr → Prop} {H0 : Hp} (h : ¬ φ p ∨ H0 p = none) : Stab p (But φ H0) := fun H o b => ⟨fun a u pa e => by
  have ne : a ≠ p := fun z => h.elim (fun n => n (z ▸ pa)) fun n => by rw [z, n] at e; cases e
  rw [upd_ne ne]
  exact b.keep a u pa e, fun a h => upd_tr a (b.tr a h)⟩
theorem Stab.at {p l : Addr} {u : HO} (h : l ≠ p) : Stab p (fun H => H l = some u) := fun H o e => by
  show L2.upd H p o l = some u
  rw [upd_ne h]
  exact e
theorem Stab.of {p : Addr} {J : Hp → Prop} {H0 : Hp} (m : Mo H0 J) (h : H0 p = none) : Stab p J := fun H o j => m H _ (fun a u ha e => by
  rw [upd_ne (show a ≠ p from fun z => ha (by rw [z]; exact h))]
  exact e) j

section
variable {K : PySem.W.Frag} {φ φ' : Addr → Prop} {J J' : Hp → Prop} {H H' H1 : Hp} {ρ ρ' : List (Option D)} {σ : L2.St} {ta tb te tc : TE} {x y z d : D} {P Pa Pb Pc : D → Prop} {i j : Int} {b c : Bool} {ds es : List D} {v : V} {vs : List V} {a : Addr} {D0 : Ends} {t u : TS}
/-- a new list comes out -/
def EvN (K : PySem.W.Frag) (φ : Addr → Prop) (J : Hp → Prop) (te : TE) (ρ : List (Option D)) (P : List D → Prop) : Prop := ∀ σ H, At K φ J ρ σ H → ∀ Q : VK, (∀ p vs ds H0 H', But φ H H0 → At K φ J ρ σ H0 → H0 p = none → But φ H0 H' → At K φ J ρ σ H' → P ds → H' p = some (.lst vs) → Reps K (fun a => φ a ∧ a ≠ p) H' ds vs → Q (.ref p) H') → te σ H Q
theorem ev_new {P : List D → Prop} (h : EvN K φ J te ρ P) : EvP K φ J te ρ (fun z => ∃ ds, z = .lst ds ∧ P ds) := fun σ H A Q q => h σ H A Q fun p vs ds H0 H' b0 A0 hp b A' pd e r =>
  q _ (.lst ds) H' (b0.trans b) A' ⟨ds, rfl, pd⟩ ⟨p, vs, rfl, .inl ⟨A0.fr p hp, .inl e⟩, Reps.up (fun a o p e => ⟨p.1, e⟩) ds vs r⟩
theorem ev_newD (h : EvN K φ J te ρ (fun x => x = ds)) : EvD K φ J te ρ (.lst ds) := (ev_new h).imp fun z ⟨ds', e, e2⟩ => by rw [e, e2]
theorem reps_new {p : Addr} {o : HO} (hp : H p = none) (r : Reps K φ H ds vs) : Reps K (fun a => φ a ∧ a ≠ p) (L2.upd H p o) ds vs :=
  Reps.up (fun a u q e => ⟨⟨q, ne_of_none e hp⟩, by rw [upd_ne (ne_of_none e hp)]; exact e⟩) ds vs r
theorem en_lst {ta : TA} {Pr : List D → Prop} (ha : EvA K φ J ta ρ Pr) (hl : ∀ r, Pr r → r.length ≤ 1000000) : EvN K φ J (tLst ta) ρ Pr := fun σ H A Q q =>
  ha σ H A _ fun vs ds H1 b1 A1 pd r1 => ⟨by rw [r1.length]; exact sz (hl _ pd), fun p hp => q p vs ds H1 _ b1 A1 hp (But.of (same_new hp)) (A1.same (same_new hp)) pd upd_same (reps_new hp r1)⟩
theorem en_lstD {ta : TA} (ha : EvAD K φ J ta ρ ds) (hl : ds.length ≤ 1000000 := by first | exact Nat.le_of_ble_eq_true rfl | decide) : EvN K φ J (tLst ta) ρ (fun x => x = ds) := en_lst ha fun r e => by rw [e]; exact hl
theorem en_list (ha : EvD K φ J te ρ (.lst ds)) : EvN K φ J (tCB (rListOf K) (tCons te tNil)) ρ (fun x => x = ds) := fun σ H A Q q => ha σ H A _ fun v d H1 b1 A1 e r => by
  subst e
  obtain ⟨a, vs, rfl, p, rs⟩ := rep_lst r
  exact ⟨a, vs, rfl, .inl p.sq, fun l hl => q l vs ds H1 _ b1 A1 hl (But.of (same_new hl)) (A1.same (same_new hl)) rfl upd_same (reps_new hl rs)⟩
theorem en_listT (ha : EvD K φ J te ρ (.tup ds)) : EvN K φ J (tCB (rListOf K) (tCons te tNil)) ρ (fun x => x = ds) := fun σ H A Q q => ha σ H A _ fun v d H1 b1 A1 e r => by
  subst e
  obtain ⟨a, vs, rfl, p, rs⟩ := rep_tup r
  exact ⟨a, vs, rfl, .inr p.sq, fun l hl => q l vs ds H1 _ b1 A1 hl (But.of (same_new hl)) (A1.same (same_new hl)) rfl upd_same (reps_new hl rs)⟩
theorem en_lcP {wi : TI} {g : TG} {tt : TT} {te : TE} {ws us : List Nat} {Pi : List D → Prop} {ρd : D → List (Option D)} {pt : D → Bool → Prop} {pe : D → D → Prop} (hi : IterP K φ J wi ρ Pi) (hl : ∀ ds, Pi ds → ds.length ≤ 1000000) (hu : ∀ i ∈ us, i ∈ ws)
    (hg : ∀ ds, Pi ds → ∀ d ∈ ds, EvG K g d (wipeR ρ ws) (ρd d) us)
    (ht : ∀ ds, Pi ds → ∀ d ∈ ds, ∀ φ' J', Ext φ J φ' J' → EvT K φ' J' tt (ρd d) (pt d))
    (he : ∀ ds, Pi ds → ∀ d ∈ ds, pt d true → ∀ φ' J', Ext φ J φ' J' → EvP K φ' J' te (ρd d) (pe d)) :
    EvN K φ J (tLc wi g tt te ws) ρ (fun ys => ∃ ds, Pi ds ∧ Comp pt pe ds ys) := fun σ H A Q q => by
  refine hi σ H A _ fun J0 ds H1 b1 A1 pd w => ?_
  intro D0 hD
  have neP : ∀ p s ns, Pooled φ J p s ns → p ≠ D0 := fun p s ns hp => by
    obtain ⟨a1, a2, a3, a4, h1, _⟩ := hp.ok _ A1.j
    exact ne_of_none h1 hD
  let φ' : Addr → Prop := fun a => φ a ∧ a ≠ D0
  have ext : ∀ acc : List V, Ext φ J φ' (fun H => J H ∧ H D0 = some (.lst acc)) := fun acc => ⟨fun _ h => h.1, fun p s ns hp => ⟨fun z => hp.np z.1, hp.ne, fun H h => hp.ok H h.1, fun H H' h k o => ⟨hp.st H H' h.1 k o, k _ _ (neP p s ns hp).symm h.2⟩⟩, fun a p h => ⟨p, fun e => h H1 A1.j (by rw [e]; exact hD)⟩⟩
  have mono : ∀ (acc : List V) (H2 : Hp), (∀ a, H1 a ≠ none → H2 a ≠ none) → H2 D0 ≠ none → Mo H2 (fun H => J H ∧ H D0 = some (.lst acc)) := fun acc H2 s h => (A1.mono.up s).and (Mo.at h)
  refine ⟨fun i m H2 => m = ds.length - i ∧ i ≤ ds.length ∧ But φ H1 H2 ∧ ∃ acc ys, Reps K φ' H2 ys acc ∧ Comp pt pe (ds.take i) ys ∧ At K φ' (fun H => J H ∧ H D0 = some (.lst acc)) (wipeR ρ ws) (L2.wipe σ ws) H2,
    ⟨ds.length, rfl, Nat.zero_le _, But.of (same_new hD), [], [], Reps.nil, .nil, ?_⟩, ?_⟩
  · have A2 := A1.newLive (o := .lst []) (J' := fun H => J H ∧ H D0 = some (.lst [])) hD ⟨A1.mono _ _ (fun a o _ e => same_new hD a o e) A1.j, upd_same⟩ (mono [] _ upd_tr (by rw [upd_same]; exact fun z => by cases z))
    exact ⟨A2.sr.wipe ws, A2.fr, A2.j, A2.mono⟩
  · rintro i m H2 ⟨rfl, hi, b2, acc, ys, rs, cp, A2⟩
    have upw : Up φ φ' H1 H2 := fun a o p e => ⟨⟨p, ne_of_none e hD⟩, b2.keep a o p e⟩
    have fr2 : Frm φ' H2 := A2.fr
    obtain ⟨wg, wstop⟩ := w φ' i H2 upw fr2
    by_cases hlt : i < ds.length
    · have hd : ds[i]? = some ds[i] := List.getElem?_eq_getElem hlt
      obtain ⟨go, yl⟩ := wg _ hd
      refine .inr ⟨go, fun H3 => But φ H1 H3 ∧ ∃ acc ys, Reps K φ' H3 ys acc ∧ Comp pt pe (ds.take (i + 1)) ys ∧ At K φ' (fun H => J H ∧ H D0 = some (.lst acc)) (wipeR ρ ws) (L2.wipe σ ws) H3, ?_, ?_⟩
      · rintro H3 ⟨b3, acc3, ys3, r3, c3, A3⟩
        exact ⟨ds.length - (i + 1), by omega, rfl, hlt, b3, acc3, ys3, r3, c3, A3⟩
      · intro x H3 hy
        obtain ⟨s3, r3⟩ := yl x H3 hy
        have A3 := A2.same s3
        have rs3 := rs.mono (But.of (φ := φ') s3)
        have b3 : But φ H1 H3 := b2.trans (But.of s3)
        have hmem : ds[i] ∈ ds := List.getElem_mem hlt
        have tk : ds.take (i + 1) = ds.take i ++ [ds[i]] := by rw [List.take_add_one, hd]; rfl
        refine hg ds pd _ hmem φ' _ _ H3 x A3 r3 _ fun σ4 A4 hw4 => ⟨?_, ?_⟩
        · rw [hw4 ws hu]
          exact wipe_wipe ws
        · refine ht ds pd _ hmem φ' _ (ext acc) σ4 H3 A4 _ fun bb H5 b5 A5 hp => ?_
          have b35 : But φ H1 H5 := ⟨fun a o p e => b5.keep a o ⟨p, ne_of_none e hD⟩ (b3.keep a o p e), fun a h => b5.tr a (b3.tr a h)⟩
          have A5' : At K φ' (fun H => J H ∧ H D0 = some (.lst acc)) (wipeR ρ ws) (L2.wipe σ ws) H5 := ⟨A3.sr.up (Up.of b5), A5.fr, A5.j, A5.mono⟩
          cases bb with
          | false =>
            rw [if_neg (by simp)]
            exact ⟨b35, acc, ys, rs3.mono b5, by rw [tk]; exact cp.snoc0 hp, A5'⟩
          | true =>
            rw [if_pos rfl]
            refine he ds pd _ hmem hp φ' _ (ext acc) σ4 H5 A5 _ fun v d H6 b6 A6 pv r6 => ?_
            have rl := (rs3.mono b5).mono b6
            have nD : ¬ φ' D0 := fun z => z.2 rfl
            have cl := cp.len
            refine ⟨acc, A6.j.2, ?_, ?_, acc ++ [v], ys ++ [d], ?_, by rw [tk]; exact cp.snoc1 hp pv, ?_⟩
            · rw [rl.length]
              have h1 := hl ds pd
              rw [List.length_take] at cl
              exact szlt (by omega)
            · refine ⟨fun a o p e => ?_, fun a h => upd_tr a (b6.tr a (b35.tr a h))⟩
              have ne := ne_of_none e hD
              rw [upd_ne ne]
              exact b6.keep a o ⟨p, ne⟩ (b35.keep a o p e)
            · exact (rl.append (Reps.cons r6 Reps.nil)).mono ((But.refl φ' H6).upd nD)
            · have A6' : At K φ' (fun H => J H ∧ H D0 = some (.lst acc)) (wipeR ρ ws) (L2.wipe σ ws) H6 := ⟨A5'.sr.up (Up.of b6), A6.fr, A6.j, A6.mono⟩
              have jj : J (upd H6 D0 (.lst (acc ++ [v]))) := A1.mono H6 _ (fun a o h e => by
                rw [upd_ne (show a ≠ D0 from fun z => h (by rw [z]; exact hD))]
                exact e) A6.j.1
              exact A6'.upd nD ⟨jj, upd_same⟩ (mono _ _ (fun a h => upd_tr a (b6.tr a (b35.tr a h))) (by rw [upd_same]; exact fun z => by cases z))
    · have e : i = ds.length := by omega
      subst e
      refine .inl ⟨wstop rfl, ?_⟩
      rw [List.take_length] at cp
      have A3 : At K φ J ρ σ H2 := ⟨A1.sr.up (Up.of b2), A2.fr.fst, A2.j.1, A1.mono.up b2.tr⟩
      exact q D0 acc ys H1 H2 b1 A1 hD b2 A3 ⟨ds, pd, cp⟩ A2.j.2 rs
theorem en_lc {wi : TI} {te : TE} {k : Nat} {f : D → D} (hi : IterD K φ J wi ρ ds) (hl : ds.length ≤ 1000000) (he : ∀ d ∈ ds, ∀ φ' J', Ext φ J φ' J' → EvD K φ' J' te ((wipeR ρ [k]).set k (some d)) (f d)) :
    EvN K φ J (tLc wi (gName k) tYes te [k]) ρ (fun x => x = ds.map f) := fun σ H A Q q =>
  (en_lcP (ρd := fun d => (wipeR ρ [k]).set k (some d)) (us := [k]) (pt := fun _ b => b = true) (pe := fun d y => y = f d) hi (fun ds' e => by rw [e]; exact hl) (fun _ h => h) (fun _ _ d _ => eg_name)
    (fun _ _ d _ φ' J' _ => et_yes) (fun ds' e d hd _ φ' J' x => he d (e ▸ hd) φ' J' x)) σ H A Q fun p vs ys H0 H' b0 A0 hp b A' pd e r => by
      obtain ⟨ds', e1, c⟩ := pd
      subst e1
      exact q p vs ys H0 H' b0 A0 hp b A' c.map e r
theorem en_lcE {wi : TI} {te : TE} {k : Nat} {Pi : List D → Prop} {pe : D → D → Prop} (hi : IterP K φ J wi ρ Pi) (hl : ∀ ds, Pi ds → ds.length ≤ 1000000) (he : ∀ ds, Pi ds → ∀ d ∈ ds, ∀ φ' J', Ext φ J φ' J' → EvP K φ' J' te ((wipeR ρ [k]).set k (some d)) (pe d)) :
    EvN K φ J (tLc wi (gName k) tYes te [k]) ρ (fun ys => ∃ ds, Pi ds ∧ Comp (fun _ b => b = true) pe ds ys) :=
  en_lcP (ρd := fun d => (wipeR ρ [k]).set k (some d)) (us := [k]) hi hl (fun _ h => h) (fun _ _ d _ => eg_name) (fun _ _ d _ φ' J' _ => et_yes) (fun ds' e d hd _ φ' J' x => he ds' e d hd φ' J' x)
/-- xs + ys, both new -/
theorem en_cat (ha : EvN K φ J ta ρ (fun x => x = ds)) (hb : EvN K φ J tb ρ (fun x => x = es)) (hz : ds.length + es.length ≤ 1000000) : EvN K φ J (tOp rCat ta tb) ρ (fun x => x = ds ++ es) := fun σ H A Q q =>
  ha σ H A _ fun p vs ds' H0 H1 b0 A0 hp b1 A1 pd e1 r1 => hb σ H1 A1 _ fun p2 ws es' H2 H3 b2 A2 hp2 b3 A3 pe e3 r3 => by
    subst pd pe
    have e1' : H3 p = some (.lst vs) := b3.keep _ _ (A0.fr p hp) (b2.keep _ _ (A0.fr p hp) e1)
    have r1' : Reps K φ H3 ds' vs := (Reps.up (fun a o q e => ⟨q.1, e⟩) ds' vs r1).mono (b2.trans b3)
    have r3' : Reps K φ H3 es' ws := Reps.up (fun a o q e => ⟨q.1, e⟩) es' ws r3
    refine ⟨p, p2, vs, ws, rfl, rfl, e1', e3, by rw [r1.length, r3.length]; exact sz hz, fun p4 hp4 => ?_⟩
    exact q p4 _ _ H3 _ (((b0.trans b1).trans b2).trans b3) A3 hp4 (But.of (same_new hp4)) (A3.same (same_new hp4)) rfl upd_same (reps_new hp4 (r1'.append r3'))
/-- x = a new list; it is live from then on -/
theorem st_new {k : Nat} {P : List D → Prop} (A : At K φ J ρ σ H) (h : EvN K φ J te ρ P) (kk : ∀ p vs ds σ' H', P ds → H p = none → φ p → Reps K (fun a => φ a ∧ a ≠ p) H' ds vs → Stab p J → (∀ s ps ns, Pooled φ J ps s ns → ps ≠ p ∧ s ≠ p) → But φ H H' → H' p = some (.lst vs) →
    At K (fun a => φ a ∧ a ≠ p) (fun H => (J H ∧ H p = some (.lst vs)) ∧ But (fun a => φ a ∧ a ≠ p) H' H) (ρ.set k (some (.raw (.ref p)))) σ' H' → D0.nx σ' H') : tAsg te (gName k) D0 σ H :=
  h σ H A _ fun p vs ds H0 H' b0 A0 hp b A' pd e r => by
    have hpH : H p = none := by
      cases z : H p with
      | none => rfl
      | some u => exact absurd hp (b0.tr p (by rw [z]; exact fun w => by cases w))
    have st : Stab p J := Stab.of A0.mono hp
    have neP : ∀ s ps ns, Pooled φ J ps s ns → ps ≠ p ∧ s ≠ p := fun s ps ns hq => by
      obtain ⟨a1, a2, a3, a4, h1, h2⟩ := hq.ok _ A0.j
      exact ⟨ne_of_none h1 hp, ne_of_none h2.1 hp⟩
    have u : Up φ (fun a => φ a ∧ a ≠ p) H H' := fun a o q e2 => ⟨⟨q, ne_of_none e2 hpH⟩, (b0.trans b).keep a o q e2⟩
    have sr : SR K (fun a => φ a ∧ a ≠ p) H' ρ σ := A.sr.up u
    have A2 : At K (fun a => φ a ∧ a ≠ p) (fun H => (J H ∧ H p = some (.lst vs)) ∧ But (fun a => φ a ∧ a ≠ p) H' H) ρ σ H' :=
      ⟨sr, A'.fr.at e (fun xs h => nomatch h), ⟨⟨A'.j, e⟩, But.refl _ _⟩, (A'.mono.and (Mo.at (by rw [e]; exact fun w => by cases w))).and (Mo.but fun _ h => h)⟩
    exact kk p vs ds _ H' pd hpH (A0.fr p hp) r st neP (b0.trans b) e (A2.set k rfl)
/-- .append on a live list -/
theorem st_app {k : Nat} {l : Addr} (A : At K φ J ρ σ H) (hk : ρ[k]? = some (some (.raw (.ref l)))) (hv : ∀ H, J H → H l = some (.lst vs)) (he : EvP K φ J te ρ P) (hz : vs.length ≤ 1000000)
    (kk : ∀ v d H', P d → Rep K φ H' d v → But φ H H' → At K φ J ρ σ H' → D0.nx σ (L2.upd H' l (.lst (vs ++ [v])))) : tDrop (tBM K "list" rAppend (tVar k) (tCons te tNil)) D0 σ H := by
  obtain ⟨w, e, r⟩ := A.sr.2 k _ hk
  cases (show w = _ from r)
  refine ⟨_, e, .inl ⟨rfl, _, SqL.of (hv H A.j)⟩, he σ H A _ fun v d H' b A' pd r' => ⟨l, vs, v, rfl, rfl, hv H' A'.j, szlt hz, kk v d H' pd r' b A'⟩⟩
/-- len of a live list -/
theorem ev_lenLive {l : Addr} (hk : EvD K φ J ta ρ (.raw (.ref l))) (hv : ∀ H, J H → H l = some (.lst vs)) : EvD K φ J (tCB (rLen K) (tCons ta tNil)) ρ (.int vs.length) := fun σ H A Q q =>
  hk σ H A _ fun v d H1 b1 A1 e1 r1 => by
    subst e1
    cases (show v = _ from r1)
    exact ⟨l, vs, rfl, .inl (SqL.of (hv H1 A1.j)), q _ _ H1 b1 A1 rfl rfl⟩
/-- a live list's item -/
theorem ev_ixLive {l : Addr} (hk : EvD K φ J ta ρ (.raw (.ref l))) (hb : EvD K φ J tb ρ (.int i)) (hv : ∀ H, J H → ∃ vs, H l = some (.lst vs) ∧ ∃ v, atI vs i = some v ∧ Rep K φ H d v) : EvD K φ J (tOp (rIxL K) ta tb) ρ d := fun σ H A Q q =>
  hk σ H A _ fun v x H1 b1 A1 e1 r1 => hb σ H1 A1 _ fun w y H2 b2 A2 e2 r2 => by
    subst e1 e2
    cases (show v = _ from r1)
    cases (show w = _ from r2)
    obtain ⟨vs, e, u, hu, ru⟩ := hv H2 A2.j
    exact ⟨l, vs, i, u, rfl, rfl, SqL.of e, hu, q u d H2 (b1.trans b2) A2 rfl ru⟩
/-- xs[i] = e on a live list -/
theorem st_setL {k n : Nat} {l : Addr} (A : At K φ J ρ σ H) (he : EvP K φ J te ρ P) (hk : ρ[k]? = some (some (.raw (.ref l)))) (hi : EvD K φ J tb ρ (.int i)) (hv : ∀ H, J H → H l = some (.lst vs)) (hj : ixN vs.length i = some n)
    (kk : ∀ v d H', P d → Rep K φ H' d v → But φ H H' → At K φ J ρ σ H' → D0.nx σ (L2.upd H' l (.lst (vs.set n v)))) : tAsg te (gSub (tVar k) tb rSetL) D0 σ H :=
  he σ H A _ fun v d H1 b1 A1 pd r1 => ev_var hk σ H1 A1 _ fun w x H2 b2 A2 e2 r2 => hi σ H2 A2 _ fun u y H3 b3 A3 e3 r3 => by
    subst e2 e3
    cases (show w = _ from r2)
    cases (show u = _ from r3)
    exact ⟨l, vs, i, n, rfl, rfl, hv H3 A3.j, hj, kk v d H3 pd ((r1.mono b2).mono b3) ((b1.trans b2).trans b3) A3⟩
/-- a subscript of a tuple or a list -/
def seqOf : D → Option (List D)
  | .tup ds => some ds
  | .lst ds => some ds
  | _ => none
theorem ev_ixQ (ha : EvD K φ J ta ρ x) (hx : seqOf x = some ds) (hb : EvD K φ J tb ρ (.int i)) (e : L2.atI ds i = some d) : EvD K φ J (tOp (rIx K) ta tb) ρ d := ev_opD ha hb fun H v w f r1 r2 Q q => by
  cases x with
  | tup es =>
    cases hx
    exact .inr (.inl (o2_ixT (φ := φ) e H v w f r1 r2 Q q))
  | lst es =>
    cases hx
    exact .inl (o2_ixL (φ := φ) e H v w f r1 r2 Q q)
  | _ => cases hx
theorem q_cut {M : L2.St → Hp → Prop} (h : t { D0 with nx := M } σ H) (k : ∀ σ' H', M σ' H' → u D0 σ' H') : C8.tCut t u D0 σ H := ⟨M, h, k⟩
theorem ev_lenQ (ha : EvD K φ J te ρ x) (hx : seqOf x = some ds) : EvD K φ J (tCB (rLen K) (tCons te tNil)) ρ (.int ds.length) := by
  cases x with
  | tup es => cases hx; exact ev_lenT ha
  | lst es => cases hx; exact ev_lenL ha
  | _ => cases hx
end
end DL
namespace DL
open PySem PySem.Spec PyProof.Rows L2
def top (i : Nat) : Stmt := PySem.Challenge.pw_airwave_k51_faulty_rules.main.body.getD i (.Pass ⟨0, 0, 0, 0⟩)
abbrev s_InvalidLine___init__ : Stmt := inClass (top 2) 0
abbrev s_is_name : Stmt := top 6
abbrev s_read_number : Stmt := top 12
abbrev s_Reader___init__ : Stmt := inClass (top 13) 0
abbrev s_Reader_next_word : Stmt := inClass (top 13) 1
abbrev s_Reader_joined : Stmt := inClass (top 13) 2
abbrev s_Reader_part : Stmt := inClass (top 13) 3
abbrev s_Reader_single : Stmt := inClass (top 13) 4
abbrev s_Reader_comparison : Stmt := inClass (top 13) 5
abbrev s_read_condition : Stmt := top 14
abbrev s_values_of : Stmt := top 15
abbrev s_compare : Stmt := top 16
abbrev s_is_true : Stmt := top 17
abbrev s_Rules___init__ : Stmt := inClass (top 18) 0
abbrev s_Rules_take : Stmt := inClass (top 18) 1
abbrev s_Rules_names : Stmt := inClass (top 18) 2
abbrev s_Rules_broken : Stmt := inClass (top 18) 3
abbrev s__law_same : Stmt := top 20
abbrev s__law_is_integer : Stmt := top 21
abbrev s__law_pool : Stmt := top 22
abbrev s__law_spread : Stmt := top 23
abbrev s__law_draw : Stmt := top 24
abbrev s__law_terrain : Stmt := top 25
abbrev s__law_antenna : Stmt := top 26
abbrev s__law_station : Stmt := top 27
abbrev s__law_net : Stmt := top 28
abbrev s__law_spot : Stmt := top 29
abbrev s__law_condition : Stmt := top 30
abbrev s__law_show : Stmt := top 31
abbrev s__law_truth : Stmt := top 32
abbrev s__law_some_rules : Stmt := top 33
abbrev s__law_rules_text : Stmt := top 34
abbrev s__law_told : Stmt := top 35
abbrev s_law : Stmt := top 36
-- import KE.GoesEnumKw
-- import HandS.SortKw
/-! ### enumerate over a list or a tuple, from any count -/
section
variable {P : Program} {w : World} {K : PySem.W.Frag}
def Itn (Sq : Hp → List V → Prop) (k : Int) : It :=
  ⟨fun i H => ∃ (xs : List V) (x : V), Sq H xs ∧ xs[i]? = some x, fun i H v H' => ∃ T x, v = .ref T ∧ H T = none ∧ H' = upd H T (.tup [.int (k + (i : Nat)), x]) ∧ ∀ xs, Sq H xs → xs[i]? = some x, fun i H => ∃ xs : List V, Sq H xs ∧ xs.length = i⟩
structure EnSrc (P : Program) (w : World) (K : PySem.W.Frag) (a it : Addr) (Sq : Hp → List V → Prop) (Ho : Heap → Array Value → Prop) (Is : Nat → Heap → Prop) : Prop where
  src : ∀ (X : Cx) pins σ H s xs, X.K = K → Inv X pins σ H s → Sq H xs → ∃ its : List Value, Vals xs its ∧ Ho s.heap its.toArray ∧ xs.length ≤ sizeLine
  inj : ∀ (X : Cx) pins σ H s xs ys, X.K = K → Inv X pins σ H s → Sq H xs → Sq H ys → xs = ys
  draws : ∀ (A : Around) (items : Array Value), A.handled = none → a ≠ it → Draws P w A it [it, a] items.size (fun i v => items[i]? = some v) (fun i h => Is i h ∧ Ho h items)
  at' : ∀ i h h', Is i h → (∀ o, h.get? it = some o → h'.get? it = some o) → Is i h'
  live : ∀ i h, Is i h → ∃ o, h.get? it = some o ∧ (∀ v, o.data ≠ .cell v)
  ne : ∀ i h items, Is i h → Ho h items → a ≠ it
  nea : ∀ h items e c old, Ho h items → IsEnum h e it c old → e ≠ a
  nei : ∀ i h e c old, Is i h → IsEnum h e it c old → e ≠ it
theorem turn_enumN {elts : List Expr} {kk : Nat} {tpos : Pos} {a e it : Addr} {Sq : Hp → List V → Prop} {Ho : Heap → Array Value → Prop} {Is : Nat → Heap → Prop} (k : Int) (Z : EnSrc P w K a it Sq Ho Is) :
    Turn P w K (.Tuple elts kk tpos) (Itn Sq k) [e, it] e (fun i h => (∃ old, IsEnum h e it (k + ((i : Nat) : Int)) old) ∧ Is i h) where
  mem := by simp
  obj := fun i h st b hb => by
    obtain ⟨⟨old, he⟩, hi⟩ := st
    obtain ⟨o, ho, hd⟩ := Z.live i h hi
    have e' : b = e ∨ b = it := by simpa using hb
    rcases e' with z | z
    · rw [z]; exact ⟨_, he, fun v q => nomatch q⟩
    · rw [z]; exact ⟨o, ho, hd⟩
  keep := fun i h h' st kp => ⟨let ⟨old, he⟩ := st.1; ⟨old, kp e (by simp) _ he⟩, Z.at' i h h' st.2 fun o q => kp it (by simp) o q⟩
  item := by
    intro X hP hw hK hc i pins s σ H E I hf st hg
    obtain ⟨⟨old, he⟩, hit⟩ := st
    obtain ⟨xs, x, hq, hx⟩ := hg
    obtain ⟨its, rv, p, hz⟩ := Z.src X pins σ H s xs hK I hq
    obtain ⟨u, hu, ru⟩ := rv.get hx
    have hne : e ≠ it := Z.nei i _ e _ _ hit he
    have hea : e ≠ a := Z.nea _ _ e _ _ p he
    have hel : e < s.heap.objs.size := Heap.lt_size he
    have hil : it < s.heap.objs.size := by obtain ⟨_, q, _⟩ := Z.live i _ hit; exact Heap.lt_size q
    have hilt : i < its.toArray.size := by
      have := (List.getElem?_eq_some_iff.mp hu).1
      simpa using this
    subst hP hw
    refine wpAny_pyNext_enum_itemC (Z.draws X.A.in1 its.toArray (I.ok.hd hc) (Z.ne i _ _ hit p)) he ⟨hit, p⟩ hilt hne (by simp [hne, hea]) fun u' h' tk hP' ho hit' hT hsz hk => ?_
    have hu' : u' = u := by
      have : its.toArray[i]? = some u := by simpa using hu
      rw [this] at hP'
      exact (Option.some.inj hP').symm
    subst hu'
    refine ⟨_, rfl, wpAny_letOwnedTupleGo_enum (s := { s with heap := h', toks := tk + 1 }) ho fun h'' he' sb => ?_⟩
    have hT2 : h''.get? s.heap.objs.size = some { cls := .type "tuple", data := .seq #[.int (k + (i : Int)) tk, u'] } := (sb.2 _ (Nat.ne_of_gt hel)).trans hT
    have new : ObjOk X.prog X.w (upd H s.heap.objs.size (.tup [.int (k + (i : Nat)), x])) h'' s.heap.objs.size (.tup [.int (k + (i : Nat)), x]) :=
      ⟨by show 2 ≤ sizeLine; decide, [.int (k + (i : Int)) tk, u'], .cons ⟨_, rfl⟩ (.cons ru .nil), ⟨_, hT2, rfl, _, rfl⟩⟩
    have I1 : Inv X pins σ (upd H s.heap.objs.size (.tup [.int (k + (i : Nat)), x])) { s with heap := h'', toks := tk + 1 } :=
      I.turnedNew (ch := [e, it]) (fun b ob hb q => (sb.2 b (fun z => hb (by simp [z]))).trans (hk b ob (fun z => hb (by simp [z])) (fun z => hb (by simp [z])) q)) hf (Nat.le_refl _) new
    refine ⟨.ref s.heap.objs.size, _, I1, rfl, ⟨_, x, rfl, I.hok.fresh (Nat.le_refl _), rfl, fun ys hy => by rw [Z.inj X pins σ H s ys xs hK I hy hq]; exact hx⟩, ⟨⟨u', ?_⟩, Z.at' _ _ _ hit'.1 fun o q => (sb.2 it (Ne.symm hne)).trans q⟩, fun b hb => ?_⟩
    · have e1 : k + ((i + 1 : Nat) : Int) = k + (i : Int) + 1 := by omega
      rw [e1]; exact he'
    · have hb' : b < s.heap.objs.size := by
        have e' : b = e ∨ b = it := by simpa using hb
        rcases e' with z | z
        · rw [z]; exact hel
        · rw [z]; exact hil
      rw [upd_ne (Nat.ne_of_lt hb')]
      exact (hf b hb).1
  done := by
    intro X hP hw hK hc i pins s σ H E I hf st hg
    obtain ⟨⟨old, he⟩, hit⟩ := st
    obtain ⟨xs, hq, hx⟩ := hg
    obtain ⟨its, rv, p, hz⟩ := Z.src X pins σ H s xs hK I hq
    obtain ⟨f0, f1, f2, f3, f4, f5⟩ := hf it (by simp)
    have hl := rv.length
    have en : i = its.toArray.size := by rw [List.size_toArray]; omega
    subst hP hw
    exact wpAny_pyNext_enum_endD (Z.draws X.A.in1 its.toArray (I.ok.hd hc) (Z.ne i _ _ hit p)) he ⟨en ▸ hit, p⟩ fun h' eb => ⟨rfl, I.turned (t' := s.toks) (fun b o hb q => eb b o hb q) f0 f1 f3 f4 f5⟩
  self := fun A i s Q E st h => let ⟨⟨_, he⟩, _⟩ := st; wpAny_pyIter_enum he h
theorem apart_of {h : Heap} {a b : Addr} {o u : Obj} (h1 : h.get? a = some o) (h2 : h.get? b = some u) (hc : o.cls ≠ u.cls) : a ≠ b := fun e => by
  subst e
  rw [h1] at h2
  cases h2
  exact hc rfl
theorem enSrc_list (a it : Addr) : EnSrc P w K a it (fun H xs => SqL K H a xs) (fun h its => h.IsList a its) (fun i h => h.IsListIter it a i) where
  src := fun X pins σ H s xs hK I h => by
    subst hK
    obtain ⟨its, rv, p, hz⟩ := I.list h
    exact ⟨its, rv, p.isList, hz⟩
  inj := fun X pins σ H s xs ys hK I h h' => by
    subst hK
    exact I.list_inj h h'
  draws := fun A items hh hne => Draws.list hh it a hne items
  at' := fun i h h' st k => st.at fun o e => k o e
  live := fun i h st => by
    obtain ⟨o, e, c, d⟩ := st
    exact ⟨o, e, fun v z => by rw [d] at z; cases z⟩
  ne := fun i h items st hl => by
    obtain ⟨o, e, c, d⟩ := st
    obtain ⟨u, e2, c2, _⟩ := hl
    exact apart_of e2 e (by rw [c, c2]; decide)
  nea := fun h items e c old hl he => by
    obtain ⟨u, e2, c2, _⟩ := hl
    exact apart_of he e2 (by rw [c2]; show Value.type "enumerate" ≠ _; decide)
  nei := fun i h e c old st he => by
    obtain ⟨o, e1, c1, d⟩ := st
    exact apart_of he e1 (by rw [c1]; show Value.type "enumerate" ≠ _; decide)
theorem enSrc_tup (a it : Addr) : EnSrc P w K a it (fun H xs => SqT K H a xs) (fun h its => h.IsTuple a its) (fun i h => h.IsTupleIter it a i) where
  src := fun X pins σ H s xs hK I h => by
    subst hK
    obtain ⟨its, rv, p, hz⟩ := I.tuple h
    exact ⟨its, rv, p, hz⟩
  inj := fun X pins σ H s xs ys hK I h h' => by
    subst hK
    exact I.tuple_inj h h'
  draws := fun A items hh hne => Draws.tuple hh it a hne items
  at' := fun i h h' st k => by
    obtain ⟨o, e, r⟩ := st
    exact ⟨o, k o e, r⟩
  live := fun i h st => by
    obtain ⟨o, e, c, d⟩ := st
    exact ⟨o, e, fun v z => by rw [d] at z; cases z⟩
  ne := fun i h items st hl => by
    obtain ⟨o, e, c, d⟩ := st
    obtain ⟨u, e2, c2, _⟩ := hl
    exact apart_of e2 e (by rw [c, c2]; decide)
  nea := fun h items e c old hl he => by
    obtain ⟨u, e2, c2, _⟩ := hl
    exact apart_of he e2 (by rw [c2]; show Value.type "enumerate" ≠ _; decide)
  nei := fun i h e c old st he => by
    obtain ⟨o, e1, c1, d⟩ := st
    exact apart_of he e1 (by rw [c1]; show Value.type "enumerate" ≠ _; decide)
section
variable {M : Model} {A : Around} {E : Value → Shared → Prop} {s : Shared} {env : Env}
theorem callWith_type_kwB {pos : Pos} {T : String} {e : Expr} {rest : List Expr} {kws : List Keyword} {Q : Value → Shared → Prop}
    (h : wpAny M A (spliced (backTo pos (starEach (e :: rest) env))) (fun vs s₁ => wpAny M A (evalAll ((backToKw pos (keywordEach kws env)).map (·.2)))
      (fun kvs s₂ => wpAny M A (call (.type T) vs (((backToKw pos (keywordEach kws env)).filterMap (·.1)).zip kvs)) Q E s₂) E s₁) E s)
    (he : backTo pos (starEach (e :: rest) env) = (false, eval e env) :: backTo pos (starEach rest env))
    (hplain : (backTo pos (starEach (e :: rest) env)).any (·.1) = false)
    (hall : (backToKw pos (keywordEach kws env)).all (·.1.isSome) = true)
    (hkw : (backToKw pos (keywordEach kws env)).any (·.1.isNone) = false) :
    wpAny M A (callWith pos (.type T) [] (backTo pos (starEach (e :: rest) env)) (backToKw pos (keywordEach kws env))) Q E s := by
  unfold callWith
  refine wpAny_bind (wpAny_holding (wpAny_mono (Q := fun a s₁ => wpAny M A (call (.type T) ([] ++ a.pos) a.kw) Q E s₁) ?_ (fun a s₁ h₁ => wpAny_bind (wpAny_standAt ?_)) fun _ _ x => x))
  · rw [he] at h ⊢
    exact evalArgs_kwB hall h
  · simp only [hplain, hkw, Bool.or_false]
    refine wpAny_bind (wpAny_pure ?_)
    exact wpAny_bind (wpAny_mono h₁ (fun r s₂ hr => wpAny_bind (wpAny_holding (wpAny_point (wpAny_pure hr)))) fun _ _ x => x)
end
section
variable {X : Cx} {e : Expr} {ta tb : TE} {ta1 : TA} {p pos tpos kpos : Pos} {elts : List Expr} {kk : Nat}
/-- what a made enumerate object gives -/
theorem enum_pie {pins : List (Addr × Obj)} {σ : L2.St} {H1 : Hp} {s1 : Shared} {R : It → Hp → Prop} {h' : Heap} {Sq : Hp → List V → Prop} {Ho : Heap → Array Value → Prop} {Is : Addr → Nat → Heap → Prop} {a : Addr} {k : Int}
    (I1 : Inv X pins σ H1 s1) (Z : EnSrc X.prog X.w X.K a s1.heap.objs.size Sq Ho (Is s1.heap.objs.size)) (he : IsEnum h' (s1.heap.objs.size + 1) s1.heap.objs.size k .none) (hit : Is s1.heap.objs.size 0 h') (hk : ∀ b o, s1.heap.get? b = some o → h'.get? b = some o) (q : R (Itn Sq k) H1) :
    wpAny (model X.prog X.w) X.A (pyIter (.ref (s1.heap.objs.size + 1))) (PIE X pins σ (.Tuple elts kk tpos) R) X.xe { s1 with heap := h' } := by
  refine wpAny_pyIter_enum he ?_
  have I2 : Inv X pins σ H1 { s1 with heap := h' } := I1.kept (t' := s1.toks) hk
  refine ⟨s1.heap.objs.size + 1, [s1.heap.objs.size + 1, s1.heap.objs.size], _, _, H1, rfl, I2, turn_enumN k Z, ⟨⟨.none, by rw [show k + ((0 : Nat) : Int) = k by omega]; exact he⟩, hit⟩, fun b hb => ?_, q⟩
  have e' : b = s1.heap.objs.size + 1 ∨ b = s1.heap.objs.size := by simpa using hb
  have hle : s1.heap.objs.size ≤ b := by
    rcases e' with z | z
    · rw [z]; exact Nat.le_add_right _ _
    · rw [z]; exact Nat.le_refl _
  exact I1.fpOk hle (I1.hok.fresh hle)
def iEnumS (K : PySem.W.Frag) (ta tb : TE) : TI := fun σ H R => ta σ H fun v H1 => tb σ H1 fun u H2 => ∃ a k xs, v = .ref a ∧ u = .int k ∧ -(2 ^ 63) ≤ k ∧ k < 2 ^ 63 ∧ ((SqL K H2 a xs ∧ R (Itn (fun H xs => SqL K H a xs) k) H2) ∨ (SqT K H2 a xs ∧ R (Itn (fun H xs => SqT K H a xs) k) H2))
/-- enumerate(xs, start=k) -/
theorem pi_enumS {b : Expr} (hg : Gl X "enumerate") (hm : X.mg "enumerate" = none) (ha : PE X e ta) (hb : PE X b tb) (hs : starEach [e] X.env = [(false, eval e X.env)] := by rfl)
    (hall : (backToKw pos (keywordEach [⟨some "start", b, kpos⟩] X.env)).all (·.1.isSome) = true := by rfl) (hnone : (backToKw pos (keywordEach [⟨some "start", b, kpos⟩] X.env)).any (·.1.isNone) = false := by rfl)
    (hks : (backToKw pos (keywordEach [⟨some "start", b, kpos⟩] X.env)).filterMap (·.1) = [Str.ofString "start"] := by rfl) (he : backTo pos (starEach [e] X.env) = (false, eval e X.env) :: backTo pos (starEach [] X.env) := by rfl) (hpl : (backTo pos (starEach [e] X.env)).any (·.1) = false := by rfl) :
    PI X (.Tuple elts kk tpos) (.Call (.Name "enumerate" p) [e] [⟨some "start", b, kpos⟩] pos) (iEnumS X.K ta tb) := by
  refine ⟨fun pins s σ H R I h => ?_⟩
  refine wpAny_Call_Name_kw (ld_blt I hg hm boot_enumerate ?_)
  refine callWith_type_kwB (thn ((pa_cons (X := X) ha pa_nil hs).run pos pins s σ H (fun vs H1 => match vs with
    | [v] => tb σ H1 fun u H2 => ∃ a k xs, v = .ref a ∧ u = .int k ∧ -(2 ^ 63) ≤ k ∧ k < 2 ^ 63 ∧ ((SqL X.K H2 a xs ∧ R (Itn (fun H xs => SqL X.K H a xs) k) H2) ∨ (SqT X.K H2 a xs ∧ R (Itn (fun H xs => SqT X.K H a xs) k) H2))
    | _ => False) I ?_) fun us s1 ⟨vs, H1, I1, r1, q1⟩ => ?_) he hpl hall hnone
  · exact h
  · obtain ⟨v, rfl⟩ : ∃ v, vs = [v] := by
      cases vs with
      | nil => exact q1.elim
      | cons v r =>
        cases r with
        | nil => exact ⟨v, rfl⟩
        | cons _ _ => exact q1.elim
    rw [hks]
    refine PyProof.Rows.kws_cons (thn (hb.run pins s1 σ H1 _ I1 q1) fun u s2 ⟨x, H2, I2, rx, a, k, xs, e1, e2, k0, k1, q2⟩ => PyProof.Rows.kws_nil ?_)
    subst e1 e2
    obtain ⟨t, rfl⟩ := rx
    cases r1 with
    | cons r rr =>
      cases rr
      cases r
      rcases q2 with ⟨hq, q⟩ | ⟨hq, q⟩
      · obtain ⟨its, rv, p', hz⟩ := I2.list hq
        exact enum_begins_start (begins_list a its.toArray) p'.isList k0 k1 fun h' he' hit hsz hk => enum_pie (Is := fun it i h => h.IsListIter it a i) I2 (enSrc_list a _) he' ⟨_, hit, rfl, rfl⟩ hk q
      · obtain ⟨its, rv, p', hz⟩ := I2.tuple hq
        exact enum_begins_start (begins_tuple a its.toArray) p' k0 k1 fun h' he' hit hsz hk => enum_pie (Is := fun it i h => h.IsTupleIter it a i) I2 (enSrc_tup a _) he' ⟨_, hit, rfl, rfl⟩ hk q
end
section
variable {φ : Addr → Prop} {J : Hp → Prop} {ρ : List (Option D)} {ta tb : TE} {ds : List D} {k : Int} {x : D}
theorem it_enumS (h : EvD K φ J ta ρ x) (hx : seqOf x = some ds) (hb : EvD K φ J tb ρ (.int k)) (hk : -(2 ^ 63) ≤ k ∧ k < 2 ^ 63) : IterD K φ J (iEnumS K ta tb) ρ (enumD k ds) := fun σ H A R q => h σ H A _ fun v d H1 b1 A1 e r => hb σ H1 A1 _ fun u d2 H2 b2 A2 e2 r2 => by
  subst e e2
  cases (show u = _ from r2)
  have r := r.mono b2
  have fin : ∀ {Sq : Hp → List V → Prop} {vs : List V}, Reps K φ H2 ds vs → (∀ φ' H3, Up φ φ' H2 H3 → Sq H3 vs) → Walks K φ (Itn Sq k) H2 (enumD k ds) := fun {Sq vs} rs hS φ' i H3 up f => by
    have r1 := Reps.up up ds vs rs
    have s1 := hS φ' H3 up
    refine ⟨fun d hd => ?_, fun hi => ⟨vs, s1, by rw [r1.length, hi, enumD_length]⟩⟩
    rw [enumD_get] at hd
    cases hx : ds[i]? with
    | none => rw [hx] at hd; cases hd
    | some d0 =>
      rw [hx] at hd
      cases hd
      obtain ⟨w, e, rw'⟩ := r1.get hx
      refine ⟨⟨vs, w, s1, e⟩, fun x H4 hy => ?_⟩
      obtain ⟨T, x1, rfl, hT, rfl, hx1⟩ := hy
      have e2 := hx1 vs s1
      rw [e] at e2
      cases e2
      exact ⟨same_new hT, rep_pair (f T hT) upd_same rfl (rw'.mono (But.of (same_new hT)))⟩
  cases d with
  | tup es =>
    cases hx
    obtain ⟨a, vs, rfl, p, rs⟩ := rep_tup r
    exact ⟨a, k, vs, rfl, rfl, hk.1, hk.2, .inr ⟨p.sq, q _ _ H2 (b1.trans b2) A2 rfl (fin rs fun φ' H3 up => (p.up up).sq)⟩⟩
  | lst es =>
    cases hx
    obtain ⟨a, vs, rfl, p, rs⟩ := rep_lst r
    exact ⟨a, k, vs, rfl, rfl, hk.1, hk.2, .inl ⟨p.sq, q _ _ H2 (b1.trans b2) A2 rfl (fin rs fun φ' H3 up => (p.up up).sq)⟩⟩
  | _ => cases hx
end
end

/-! ### == and != of data -/
mutual
def toPy : D → PyData
  | .non => .none
  | .bl b => .bool b
  | .int i => .int i
  | .str x => .str x
  | .tup ds => .tuple (toPys ds)
  | .lst ds => .list (toPys ds)
  | .raw _ => .none
  | .dk _ _ => .none
  | .dt _ _ => .none
def toPys : List D → List PyData
  | [] => []
  | d :: ds => toPy d :: toPys ds
end
/-- bounded depth, no raw values, texts within the bounds -/
def okq : Nat → D → Bool
  | _, .non => true
  | _, .bl _ => true
  | _, .int _ => true
  | _, .str x => PyData.strOk x
  | n + 1, .tup ds => ds.all (okq n)
  | n + 1, .lst ds => ds.all (okq n)
  | 0, .tup _ => false
  | 0, .lst _ => false
  | _, .raw _ => false
  | _, .dk _ _ => false
  | _, .dt _ _ => false
theorem okq_lay : ∀ (n : Nat) (d : D), okq n d = true → (toPy d).canLay0 = true ∧ (toPy d).depth ≤ n := by
  intro n
  induction n with
  | zero =>
    intro d h
    cases d with
    | non => exact ⟨rfl, Nat.le_refl _⟩
    | bl b => exact ⟨rfl, Nat.le_refl _⟩
    | int i => exact ⟨rfl, Nat.le_refl _⟩
    | str x => exact ⟨h, Nat.le_refl _⟩
    | tup ds => cases h
    | lst ds => cases h
    | raw v => cases h
    | dk ks ds => cases h
    | dt ks ds => cases h
  | succ n ih =>
    have all : ∀ ds : List D, ds.all (okq n) = true → PyData.canLayAll0 (toPys ds) = true ∧ PyData.depthAll (toPys ds) ≤ n := by
      intro ds
      induction ds with
      | nil => intro _; exact ⟨rfl, Nat.zero_le _⟩
      | cons d ds ihd =>
        intro h
        rw [List.all_cons, Bool.and_eq_true] at h
        obtain ⟨h1, h2⟩ := ih d h.1
        obtain ⟨h3, h4⟩ := ihd h.2
        refine ⟨?_, ?_⟩
        · show ((toPy d).canLay0 && PyData.canLayAll0 (toPys ds)) = true
          rw [h1, h3]
          rfl
        · show max (toPy d).depth (PyData.depthAll (toPys ds)) ≤ n
          omega
    intro d h
    cases d with
    | non => exact ⟨rfl, Nat.zero_le _⟩
    | bl b => exact ⟨rfl, Nat.zero_le _⟩
    | int i => exact ⟨rfl, Nat.zero_le _⟩
    | str x => exact ⟨h, Nat.zero_le _⟩
    | tup ds => exact ⟨(all ds h).1, Nat.succ_le_succ (all ds h).2⟩
    | lst ds => exact ⟨(all ds h).1, Nat.succ_le_succ (all ds h).2⟩
    | raw v => cases h
    | dk ks ds => cases h
    | dt ks ds => cases h
theorem okq_shaped {n : Nat} {d : D} (h : okq n d = true) (hn : n ≤ 64) : SeqAt.shaped (toPy d) = true := by
  obtain ⟨h1, h2⟩ := okq_lay n d h
  unfold SeqAt.shaped
  rw [h1, decide_eq_true (Nat.le_trans h2 hn)]
  rfl
def eqvD (x y : D) : Bool := PyData.eqv (toPy x) (toPy y)
section
variable {K : PySem.W.Frag} {φ : Addr → Prop} {J : Hp → Prop} {H : Hp} {ρ : List (Option D)} {ta tb : TE} {x y : D} {v : V} {ds : List D} {vs : List V}
mutual
theorem dp_of : ∀ (d : D) (v : V) (n : Nat), okq n d = true → Rep K φ H d v → Dp K H v (toPy d)
  | .non, v, n, _, r => by cases (show v = _ from r); exact .non
  | .bl b, v, n, _, r => by cases (show v = _ from r); exact .bl b
  | .int i, v, n, _, r => by cases (show v = _ from r); exact .int i
  | .str x, v, n, _, r => by cases (show v = _ from r); exact .str x
  | .raw w, v, n, h, _ => by cases n <;> cases h
  | .dk ks ds, v, n, h, _ => by cases n <;> cases h
  | .dt ks ds, v, n, h, _ => by cases n <;> cases h
  | .tup ds, v, 0, h, _ => by cases h
  | .lst ds, v, 0, h, _ => by cases h
  | .tup ds, v, n + 1, h, r => by
    obtain ⟨a, vs, rfl, p, rs⟩ := rep_tup r
    exact .tup p.sq (dps_of ds vs n h rs)
  | .lst ds, v, n + 1, h, r => by
    obtain ⟨a, vs, rfl, p, rs⟩ := rep_lst r
    exact .lst p.sq (dps_of ds vs n h rs)
theorem dps_of : ∀ (ds : List D) (vs : List V) (n : Nat), ds.all (okq n) = true → Reps K φ H ds vs → DpAll K H vs (toPys ds)
  | [], vs, n, _, r => by
    have e : vs = [] := r
    subst e
    exact .nil
  | d :: ds, vs, n, h, r => by
    obtain ⟨v, r', rfl, h1, h2⟩ := (show ∃ v r, vs = v :: r ∧ Rep K φ H d v ∧ Reps K φ H ds r from r)
    rw [List.all_cons, Bool.and_eq_true] at h
    exact .cons (dp_of d v n h.1 h1) (dps_of ds r' n h.2 h2)
end
theorem ev_eqQ (ha : EvD K φ J ta ρ x) (hb : EvD K φ J tb ρ y) (hx : okq 64 x = true) (hy : okq 64 y = true) : EvD K φ J (tOp (rEqD K) ta tb) ρ (.bl (eqvD x y)) := ev_opD ha hb fun H v w _ r1 r2 Q q =>
  ⟨_, _, dp_of x v 64 hx r1, dp_of y w 64 hy r2, okq_shaped hx (Nat.le_refl _), okq_shaped hy (Nat.le_refl _), q _ _ H (Same.refl H) rfl rfl⟩
theorem ev_neQ (ha : EvD K φ J ta ρ x) (hb : EvD K φ J tb ρ y) (hx : okq 64 x = true) (hy : okq 64 y = true) : EvD K φ J (tOp (rNeD K) ta tb) ρ (.bl (!eqvD x y)) := ev_opD ha hb fun H v w _ r1 r2 Q q =>
  ⟨_, _, dp_of x v 64 hx r1, dp_of y w 64 hy r2, okq_shaped hx (Nat.le_refl _), okq_shaped hy (Nat.le_refl _), q _ _ H (Same.refl H) rfl rfl⟩
theorem eqvD_refl {n : Nat} (h : okq n x = true) : eqvD x x = true := SeqAt.eqv_refl _ (okq_lay n x h).1
theorem toPys_ints : ∀ ns : List Int, toPys (ns.map D.int) = ns.map PyData.int
  | [] => rfl
  | n :: ns => by
    show PyData.int n :: toPys (ns.map D.int) = _
    rw [toPys_ints ns]
    rfl
theorem okq_ints {n : Nat} {ns : List Int} : okq (n + 1) (.lst (ns.map D.int)) = true := by
  show (ns.map D.int).all (okq n) = true
  rw [List.all_map, List.all_eq_true]
  intro i _
  cases n <;> rfl
theorem eqvD_nil {ds : List D} : eqvD (.lst ds) (.lst []) = ds.isEmpty := by
  unfold eqvD
  show PyData.eqvAll (toPys ds) [] = _
  cases ds <;> rfl
end

-- import HandS.Exc
-- import HandS.ExcOwn
-- import HandS.TryOnly
-- import HandS.WordsExc
-- import HandS.TupMul
/-! ### exceptions -/
/-- a class of exceptions of the program, without own __init__ -/
structure ExC (K : PySem.W.Frag) (mg : Str → Option Value) (x : Str) (c : Addr) : Prop where
  m : mg x = some (.ref c)
  e : PySem.W.excIn K c [.type "ValueError", .type "Exception", .type "BaseException", .type "object"] "ValueError.__new__" = true
  k : PySem.W.keepIn K (.ref c) = true
  s : PySem.W.subIn K (.ref c) (.type "BaseException") = some true
  t : PySem.W.typeIn K (.ref c) = some (.type "type")
  x : PySem.W.exmOne K (.ref c) (.ref c) = some true
theorem exm_sub {K : PySem.W.Frag} {S T : Addr} {b : Bool} (h1 : PySem.W.subIn K (.ref T) (.type "BaseException") = some true) (h2 : PySem.W.isClsIn K T = true) (h3 : PySem.W.typeIn K (.ref T) = some (.type "type")) (h4 : PySem.W.subIn K (.ref S) (.ref T) = some b) : PySem.W.exmOne K (.ref S) (.ref T) = some b := by
  have e2 : ((PySem.W.clsIn K T).isSome && PySem.W.typeIn K (.ref T) == some (.type "type")) = true := by
    rw [show (PySem.W.clsIn K T).isSome = true from h2, h3]
    rfl
  unfold PySem.W.exmOne
  rw [if_pos (by rw [h1]; rfl)]
  unfold PySem.W.kitCls
  dsimp only
  rw [if_pos e2]
  exact h4
/-- the promise of a def that may raise: a tree or a class -/
def SpX (K : PySem.W.Frag) (n : Nat) (R : List D → D ⊕ Addr → Prop) : Sp := fun vs H Q E => ∃ φ ds o, ds.length = n ∧ Reps K φ H ds vs ∧ Frm φ H ∧ R ds o ∧ (∀ d, o = .inl d → ∀ v H', Same H H' → Rep K φ H' d v → Q v H') ∧ (∀ c, o = .inr c → ∀ H', Same H H' → E (.ref c) none H')
section
variable {K : PySem.W.Frag} {φ φ' : Addr → Prop} {J J' : Hp → Prop} {H H' H1 : Hp} {ρ ρ' : List (Option D)} {σ : L2.St} {ta : TA} {te tb : TE} {x y z d : D} {P Pa Pb : D → Prop} {ds es : List D} {v : V} {D0 : Ends} {t u : TS} {W : WX} {c : Addr}
/-- a reading that raises -/
def Rs (K : PySem.W.Frag) (φ : Addr → Prop) (J : Hp → Prop) (te : TE) (ρ : List (Option D)) (W : WX) (c : Addr) : Prop := ∀ σ H, At K φ J ρ σ H → (∀ H', But φ H H' → At K φ J ρ σ H' → W (.ref c) none σ H') → ∀ Q, te σ H Q
theorem ev_callX {n : Nat} {R : List D → D ⊕ Addr → Prop} (ha : EvAD K φ J ta ρ ds) (hr : R ds (.inl d)) (hl : ds.length = n := by rfl) : EvD K φ J (tCallS (SpX K n R) (WE W) ta) ρ d := fun σ H A Q q =>
  ha σ H A _ fun vs ds' H1 b1 A1 e r1 => by
    subst e
    refine ⟨φ, _, _, hl, r1, A1.fr, hr, fun d' e v H' s r => ?_, fun c' e => nomatch e⟩
    cases e
    exact q v d H' (b1.trans (But.of s)) (A1.same s) rfl r
theorem rs_call {n : Nat} {R : List D → D ⊕ Addr → Prop} (ha : EvAD K φ J ta ρ ds) (hr : R ds (.inr c)) (hl : ds.length = n := by rfl) : Rs K φ J (tCallS (SpX K n R) (WE W) ta) ρ W c := fun σ H A k Q =>
  ha σ H A _ fun vs ds' H1 b1 A1 e r1 => by
    subst e
    refine ⟨φ, _, _, hl, r1, A1.fr, hr, (fun d' e => nomatch e), fun c' e H' s => ?_⟩
    cases e
    exact k H' (b1.trans (But.of s)) (A1.same s)
/-- an assignment, a return .. whose expression raises -/
theorem st_rs (A : At K φ J ρ σ H) (h : Rs K φ J te ρ W c) (k : ∀ H', But φ H H' → At K φ J ρ σ H' → W (.ref c) none σ H') {Q : VK} : te σ H Q := h σ H A k Q
theorem wonly_yes {C : Value} {ts : Addr → Value → Option Addr → TS} (hx : PySem.W.exmOne K (.ref c) C = some true) (h : ∀ a, H a = none → ts a (.ref c) none D0 σ H) : wOnly K C ts W D0 (.ref c) none σ H := ⟨true, hx, fun _ => h, fun e => nomatch e⟩
section
variable {PP : Program} {w : World} {mg : Str → Option Value} {base : Heap}
/-- a def that may raise keeps its promise -/
theorem fn_okX {x qual : Str} {st : Stmt} {f : Addr} {fd : FuncData} {N ps : List Str} {k n : Nat} {R : List D → D ⊕ Addr → Prop} (F : Fun K x qual st f fd) (S : FnScope N ps (defScope st)) (hn : ps.length = n) (m : Nat) (hm : N.length = n + m)
    (hbody : ∀ (cdv : Value) (A : Around) (outer : List Env) (s : Shared) (H : Hp) (E : XK), Room k (A.deeper (envOfC qual (defScope st) s.heap.objs.size f cdv)) →
      ∃ t, PSs (cxOf (L2.CX PP w) PP w K mg base N qual (defScope st) f cdv A outer s H E) (defBody st) t ∧
        ∀ (φ : Addr → Prop) (ds : List D) (o : D ⊕ Addr) (H : Hp) (D0 : Ends) (σ : L2.St), ds.length = n → R ds o → (∀ d, o = .inl d → ∀ v H', Same H H' → Rep K φ H' d v → D0.rt v H') → (∀ c, o = .inr c → ∀ H', Same H H' → E (.ref c) none H') → At K φ (Same H) (ds.map some ++ List.replicate m none) σ H → t D0 σ H) :
    FnOk PP w K mg base (L2.CX PP w) (k + 1) f fd ps (SpX K n R) := by
  refine F.okX S (fun vs H Q E h => ?_) (fun cdv A outer s H vs Q E hr h => ?_)
  · obtain ⟨φ, ds, d, hl, r, _⟩ := h
    rw [r.length, hl, hn]
  · obtain ⟨φ, ds, o, hl, r, fr, hd, q, qe⟩ := h
    obtain ⟨t, ht, run⟩ := hbody cdv A outer s H E hr
    refine ⟨t, ht, run φ ds o H _ _ hl hd (fun d e v H' s r => q d e v H' s r) qe ⟨?_, fr, Same.refl H, Mo.sames fun _ h => h⟩⟩
    have e : N.length - vs.length = m := by rw [hm, r.length, hl]; omega
    unfold L2.start
    rw [e]
    exact SR.start r
end
/-! ### two fors in a comprehension -/
theorem ev_lc2 {wi wi1 : TI} {g g1 : TG} {te : TE} {ws us us1 vs1 : List Nat} {es : D → List D} {f : D → D → D} {ρ1 : D → List (Option D)} {ρ2 : D → D → List (Option D)}
    (hi : IterD K φ J wi ρ ds) (hl : (ds.flatMap es).length ≤ 1000000) (hu : ∀ i ∈ us, i ∈ ws) (hu1 : ∀ i ∈ us1, i ∈ vs1) (hv : ∀ i ∈ vs1, i ∈ ws)
    (hg : ∀ d ∈ ds, EvG K g d (wipeR ρ ws) (ρ1 d) us)
    (hi1 : ∀ d ∈ ds, ∀ φ' J', Ext φ J φ' J' → IterD K φ' J' wi1 (ρ1 d) (es d))
    (hg1 : ∀ d ∈ ds, ∀ e ∈ es d, EvG K g1 e (wipeR (ρ1 d) vs1) (ρ2 d e) us1)
    (he : ∀ d ∈ ds, ∀ e ∈ es d, ∀ φ' J', Ext φ J φ' J' → EvD K φ' J' te (ρ2 d e) (f d e)) :
    EvD K φ J (tLc2 wi g tYes wi1 g1 tYes te ws vs1) ρ (.lst (ds.flatMap fun d => (es d).map (f d))) := fun σ H A Q q => by
  refine hi σ H A _ fun J0 ds' H1 b1 A1 pd w => ?_
  subst pd
  intro D0 hD
  have neP : ∀ p s ns, Pooled φ J p s ns → p ≠ D0 := fun p s ns hp => by
    obtain ⟨a1, a2, a3, a4, h1, _⟩ := hp.ok _ A1.j
    exact ne_of_none h1 hD
  let φ' : Addr → Prop := fun a => φ a ∧ a ≠ D0
  let F : Nat → List D := fun i => (ds'.take i).flatMap fun d => (es d).map (f d)
  have ext : ∀ acc : List V, Ext φ J φ' (fun H => J H ∧ H D0 = some (.lst acc)) := fun acc => ⟨fun _ h => h.1, fun p s ns hp => ⟨fun z => hp.np z.1, hp.ne, fun H h => hp.ok H h.1, fun H H' h k o => ⟨hp.st H H' h.1 k o, k _ _ (neP p s ns hp).symm h.2⟩⟩, fun a p h => ⟨p, fun e => h H1 A1.j (by rw [e]; exact hD)⟩⟩
  have mono : ∀ (acc : List V) (H2 : Hp), (∀ a, H1 a ≠ none → H2 a ≠ none) → H2 D0 ≠ none → Mo H2 (fun H => J H ∧ H D0 = some (.lst acc)) := fun acc H2 s h => (A1.mono.up s).and (Mo.at h)
  have lenT : ∀ i, i < ds'.length → ∀ d, ds'[i]? = some d → ∀ j, j < (es d).length → (F i ++ ((es d).take j).map (f d)).length < 1000000 := fun i hi d hd j hj => by
    have e1 : ds' = ds'.take i ++ d :: ds'.drop (i + 1) := by
      have z := (List.getElem?_eq_some_iff.mp hd)
      obtain ⟨z1, z2⟩ := z
      rw [← z2, List.getElem_cons_drop, List.take_append_drop]
    have e2 : (ds'.flatMap es).length = ((ds'.take i).flatMap es).length + ((es d).length + ((ds'.drop (i + 1)).flatMap es).length) := by
      conv => lhs; rw [e1]
      rw [List.flatMap_append, List.length_append, List.flatMap_cons, List.length_append]
    have e3 : (F i).length = ((ds'.take i).flatMap es).length := by
      show ((ds'.take i).flatMap fun d => (es d).map (f d)).length = _
      simp only [List.length_flatMap, List.length_map]
    rw [List.length_append, List.length_map, List.length_take, e3]
    omega
  refine ⟨fun i m H2 => m = ds'.length - i ∧ i ≤ ds'.length ∧ But φ H1 H2 ∧ ∃ acc, Reps K φ' H2 (F i) acc ∧ At K φ' (fun H => J H ∧ H D0 = some (.lst acc)) (wipeR ρ ws) (L2.wipe σ ws) H2,
    ⟨ds'.length, rfl, Nat.zero_le _, But.of (same_new hD), [], Reps.nil, ?_⟩, ?_⟩
  · have A2 := A1.newLive (o := .lst []) (J' := fun H => J H ∧ H D0 = some (.lst [])) hD ⟨A1.mono _ _ (fun a o _ e => same_new hD a o e) A1.j, upd_same⟩ (mono [] _ upd_tr (by rw [upd_same]; exact fun z => by cases z))
    exact ⟨A2.sr.wipe ws, A2.fr, A2.j, A2.mono⟩
  · rintro i m H2 ⟨rfl, hi, b2, acc, rs, A2⟩
    have upw : Up φ φ' H1 H2 := fun a o p e => ⟨⟨p, ne_of_none e hD⟩, b2.keep a o p e⟩
    have fr2 : Frm φ' H2 := A2.fr
    obtain ⟨wg, wstop⟩ := w φ' i H2 upw fr2
    by_cases hlt : i < ds'.length
    · have hd : ds'[i]? = some ds'[i] := List.getElem?_eq_getElem hlt
      obtain ⟨go, yl⟩ := wg _ hd
      have hmem : ds'[i] ∈ ds' := List.getElem_mem hlt
      have tk : F (i + 1) = F i ++ (es ds'[i]).map (f ds'[i]) := by
        show (ds'.take (i + 1)).flatMap _ = _
        rw [List.take_add_one, hd, List.flatMap_append]
        show _ ++ List.flatMap _ [ds'[i]] = _
        rw [List.flatMap_cons, List.flatMap_nil, List.append_nil]
      refine .inr ⟨go, fun H3 => But φ H1 H3 ∧ ∃ acc, Reps K φ' H3 (F (i + 1)) acc ∧ At K φ' (fun H => J H ∧ H D0 = some (.lst acc)) (wipeR ρ ws) (L2.wipe σ ws) H3, ?_, ?_⟩
      · rintro H3 ⟨b3, acc3, r3, A3⟩
        exact ⟨ds'.length - (i + 1), by omega, rfl, hlt, b3, acc3, r3, A3⟩
      · intro x H3 hy
        obtain ⟨s3, r3⟩ := yl x H3 hy
        have A3 := A2.same s3
        have rs3 := rs.mono (But.of (φ := φ') s3)
        have b3 : But φ H1 H3 := b2.trans (But.of s3)
        refine hg _ hmem φ' _ _ H3 x A3 r3 _ fun σ4 A4 hw4 => ⟨?_, ?_⟩
        · rw [hw4 ws hu]
          exact wipe_wipe ws
        · refine et_yes (K := K) (φ := φ') σ4 H3 A4 _ fun bb H4 b4 A4' hbb => ?_
          subst hbb
          rw [if_pos rfl]
          replace rs3 := rs3.mono b4
          replace b3 : But φ H1 H4 := ⟨fun a o p e => b4.keep a o ⟨p, ne_of_none e hD⟩ (b3.keep a o p e), fun a h => b4.tr a (b3.tr a h)⟩
          refine hi1 _ hmem φ' _ (ext acc) σ4 H4 A4' _ fun J1 es' H5 b5 A5 pe1 w1 => ?_
          subst pe1
          have b15 : But φ H1 H5 := ⟨fun a o p e => b5.keep a o ⟨p, ne_of_none e hD⟩ (b3.keep a o p e), fun a h => b5.tr a (b3.tr a h)⟩
          let G : Nat → List D := fun j => F i ++ ((es ds'[i]).take j).map (f ds'[i])
          refine ⟨fun j k H6 => k = (es ds'[i]).length - j ∧ j ≤ (es ds'[i]).length ∧ But φ H1 H6 ∧ (∀ a o, φ' a → H5 a = some o → H6 a = some o) ∧ ∃ acc, Reps K φ' H6 (G j) acc ∧ At K φ' (fun H => J H ∧ H D0 = some (.lst acc)) (wipeR (ρ1 ds'[i]) vs1) (L2.wipe σ4 vs1) H6,
            ⟨(es ds'[i]).length, rfl, Nat.zero_le _, b15, fun _ _ _ e => e, acc, ?_, ?_⟩, ?_⟩
          · show Reps K φ' H5 (F i ++ List.map _ (List.take 0 _)) acc
            rw [List.take_zero, List.map_nil, List.append_nil]
            exact rs3.mono b5
          · exact ⟨A5.sr.wipe vs1, A5.fr, A5.j, A5.mono⟩
          · rintro j k H6 ⟨rfl, hj, b6, kp6, acc6, rs6, A6⟩
            have up6 : Up φ' φ' H5 H6 := fun a o p e => ⟨p, kp6 a o p e⟩
            obtain ⟨wg1, ws1⟩ := w1 φ' j H6 up6 A6.fr
            by_cases hlt1 : j < (es ds'[i]).length
            · have hd1 : (es ds'[i])[j]? = some (es ds'[i])[j] := List.getElem?_eq_getElem hlt1
              obtain ⟨go1, yl1⟩ := wg1 _ hd1
              have hmem1 : (es ds'[i])[j] ∈ es ds'[i] := List.getElem_mem hlt1
              have tk1 : G (j + 1) = G j ++ [f ds'[i] (es ds'[i])[j]] := by
                show F i ++ _ = (F i ++ _) ++ _
                rw [List.take_add_one, hd1, List.map_append, List.append_assoc]
                rfl
              refine .inr ⟨go1, fun H7 => But φ H1 H7 ∧ (∀ a o, φ' a → H5 a = some o → H7 a = some o) ∧ ∃ acc, Reps K φ' H7 (G (j + 1)) acc ∧ At K φ' (fun H => J H ∧ H D0 = some (.lst acc)) (wipeR (ρ1 ds'[i]) vs1) (L2.wipe σ4 vs1) H7, ?_, ?_⟩
              · rintro H7 ⟨b7, kp7, acc7, r7, A7⟩
                exact ⟨(es ds'[i]).length - (j + 1), by omega, rfl, hlt1, b7, kp7, acc7, r7, A7⟩
              · intro x1 H7 hy1
                obtain ⟨s7, r7⟩ := yl1 x1 H7 hy1
                have A7 := A6.same s7
                have rs7 := rs6.mono (But.of (φ := φ') s7)
                have b7 : But φ H1 H7 := b6.trans (But.of s7)
                have kp7 : ∀ a o, φ' a → H5 a = some o → H7 a = some o := fun a o p e => s7 a o (kp6 a o p e)
                refine hg1 _ hmem _ hmem1 φ' _ _ H7 x1 A7 r7 _ fun σ8 A8 hw8 => ⟨?_, ?_⟩
                · rw [hw8 vs1 hu1]
                  exact wipe_wipe vs1
                · refine et_yes (K := K) (φ := φ') σ8 H7 A8 _ fun bb H8 b8 A8' hbb => ?_
                  subst hbb
                  rw [if_pos rfl]
                  replace rs7 := rs7.mono b8
                  replace b7 : But φ H1 H8 := ⟨fun a o p e => b8.keep a o ⟨p, ne_of_none e hD⟩ (b7.keep a o p e), fun a h => b8.tr a (b7.tr a h)⟩
                  replace kp7 : ∀ a o, φ' a → H5 a = some o → H8 a = some o := fun a o p e => b8.keep a o p (kp7 a o p e)
                  replace A7 : At K φ' (fun H => J H ∧ H D0 = some (.lst acc6)) (wipeR (ρ1 ds'[i]) vs1) (L2.wipe σ4 vs1) H8 := ⟨A7.sr.up (Up.of b8), A8'.fr, A8'.j, A8'.mono⟩
                  refine he _ hmem _ hmem1 φ' _ (ext acc6) σ8 H8 A8' _ fun v d H9 b9 A9 pv r9 => ?_
                  subst pv
                  have rl := rs7.mono b9
                  have nD : ¬ φ' D0 := fun z => z.2 rfl
                  refine ⟨acc6, A9.j.2, ?_, ?_, ?_, acc6 ++ [v], ?_, ?_⟩
                  · rw [rl.length]
                    exact szlt (Nat.le_of_lt (lenT i hlt _ hd j hlt1))
                  · refine ⟨fun a o p e => ?_, fun a h => upd_tr a (b9.tr a (b7.tr a h))⟩
                    have ne := ne_of_none e hD
                    rw [upd_ne ne]
                    exact b9.keep a o ⟨p, ne⟩ (b7.keep a o p e)
                  · intro a o p e
                    rw [upd_ne p.2]
                    exact b9.keep a o p (kp7 a o p e)
                  · rw [tk1]
                    exact (rl.append (Reps.cons r9 Reps.nil)).mono ((But.refl φ' H9).upd nD)
                  · have A9' : At K φ' (fun H => J H ∧ H D0 = some (.lst acc6)) (wipeR (ρ1 ds'[i]) vs1) (L2.wipe σ4 vs1) H9 := ⟨A7.sr.up (Up.of b9), A9.fr, A9.j, A9.mono⟩
                    have jj : J (upd H9 D0 (.lst (acc6 ++ [v]))) := A1.mono H9 _ (fun a o h e => by
                      rw [upd_ne (show a ≠ D0 from fun z => h (by rw [z]; exact hD))]
                      exact e) A9.j.1
                    exact A9'.upd nD ⟨jj, upd_same⟩ (mono _ _ (fun a h => upd_tr a (b9.tr a (b7.tr a h))) (by rw [upd_same]; exact fun z => by cases z))
            · have e : j = (es ds'[i]).length := by omega
              subst e
              refine .inl ⟨ws1 rfl, b6, acc6, ?_, ?_⟩
              · rw [tk]
                have e2 : G (es ds'[i]).length = F i ++ (es ds'[i]).map (f ds'[i]) := by
                  show F i ++ _ = _
                  rw [List.take_length]
                rw [← e2]
                exact rs6
              · have b26 : Up φ' φ' H2 H6 := fun a o p e => ⟨p, kp6 a o p (b5.keep a o p (b4.keep a o p (s3 a o e)))⟩
                exact ⟨A2.sr.up b26, A6.fr, A6.j, A6.mono⟩
    · have e : i = ds'.length := by omega
      subst e
      refine .inl ⟨wstop rfl, ?_⟩
      have eF : F ds'.length = ds'.flatMap fun d => (es d).map (f d) := by
        show (ds'.take _).flatMap _ = _
        rw [List.take_length]
      rw [eF] at rs
      have A3 : At K φ J ρ σ H2 := ⟨A1.sr.up (Up.of b2), A2.fr.fst, A2.j.1, A1.mono.up b2.tr⟩
      exact q _ (.lst (ds'.flatMap fun d => (es d).map (f d))) H2 (b1.trans b2) A3 rfl ⟨D0, acc, rfl, .inl ⟨A1.fr D0 hD, .inl A2.j.2⟩, Reps.up (fun a o p e => ⟨p.1, e⟩) _ _ rs⟩
/-! ### a tuple times an int -/
theorem replicate_reps {vs : List V} (r : Reps K φ H ds vs) : ∀ n : Nat, Reps K φ H (List.replicate n ds).flatten (List.replicate n vs).flatten
  | 0 => Reps.nil
  | n + 1 => by
    rw [List.replicate_succ, List.replicate_succ, List.flatten_cons, List.flatten_cons]
    exact r.append (replicate_reps r n)
theorem ev_repT {i : Int} (ha : EvD K φ J te ρ (.tup ds)) (hb : EvD K φ J tb ρ (.int i)) (hne : ds ≠ []) (h2 : 2 ≤ i) (h3 : i ≤ 1000) (hz : ds.length ≤ 1000) : EvD K φ J (tOp (rRepT K) te tb) ρ (.tup (List.replicate i.toNat ds).flatten) :=
  ev_opD ha hb fun H v w fr r1 r2 Q q => by
    obtain ⟨a, vs, rfl, p, rs⟩ := rep_tup r1
    cases (show w = _ from r2)
    refine ⟨a, i, vs, rfl, rfl, p.sq, fun z => hne (List.eq_nil_of_length_eq_zero (by rw [← rs.length, z]; rfl)), h2, h3, by rw [rs.length]; exact hz, fun l hl => q _ _ _ (same_new hl) rfl ⟨l, _, rfl, .inl ⟨fr l hl, .inl upd_same⟩, ?_⟩⟩
    exact (replicate_reps rs _).mono (But.of (same_new hl))
end

theorem _root_.L2.Room.units1 {k : Nat} {A : Around} (r : Room k A) : A.units + 1 < cLine := by have := r.un; omega
theorem _root_.L2.Room.units65 {k : Nat} {A : Around} (r : Room k A) : A.units + 65 < cLine := by have := r.un; omega
/-! ### rules with the frame K told (in comprehensions), chains of three operators -/
section
variable {X : Cx} {K : PySem.W.Frag}
theorem kix_list (h : X.K = K) : IxR X (rIxL K) := h ▸ ix_list
theorem kix_tup (h : X.K = K) : IxR X (rIxT K) := h ▸ ix_tup
theorem kix_seq (h : X.K = K) : IxR X (rIx K) := h ▸ ix_seq
theorem ksl_list (h : X.K = K) : SlR X (rSlL K) := h ▸ sl_list
theorem ksl_tupA (h : X.K = K) : SlR X (rSlA K) := h ▸ sl_tupA
theorem kop_catA (h : X.K = K) : OpR X (binaryOp .Add) (rCatA K) := h ▸ op_catA
theorem kop_repT (h : X.K = K) : OpR X (binaryOp .Mult) (rRepT K) := h ▸ op_repT
theorem kop_inD (h : X.K = K) (hu : X.A.units + 65 < cLine) : OpR X (compareOp .In) (rInD K) := h ▸ op_inD hu
theorem kop_notInD (h : X.K = K) (hu : X.A.units + 65 < cLine) : OpR X (compareOp .NotIn) (rNotInD K) := h ▸ op_notInD hu
theorem kop_eqD (h : X.K = K) (hu : X.A.units + 64 < cLine) : OpR X (compareOp .Eq) (rEqD K) := h ▸ op_eqD hu
theorem kop_neD (h : X.K = K) (hu : X.A.units + 64 < cLine) : OpR X (compareOp .NotEq) (rNeD K) := h ▸ op_neD hu
theorem kop_in_seq (h : X.K = K) : OpR X (compareOp .In) (rIn K false) := h ▸ op_in_seq
theorem kop_notIn_seq (h : X.K = K) : OpR X (compareOp .NotIn) (rIn K true) := h ▸ op_notIn_seq
theorem kc_len (h : X.K = K) : CallR X (.builtin "len") (rLen K) := h ▸ c_len
theorem kc_listOf (h : X.K = K) : CallR X (.type "list") (rListOf K) := h ▸ c_listOf
theorem kc_tupOf (h : X.K = K) : CallR X (.type "tuple") (rTupOf K) := h ▸ c_tupOf
theorem kcall_isi (h : X.K = K) : CallR X (.builtin "isinstance") (rIsi K) := h ▸ call_isi
theorem kc_sum (h : X.K = K) (hc : X.calm = true := by rfl) : CallR X (.builtin "sum") (rSum K) := h ▸ c_sum hc
theorem kcr_max (h : X.K = K) (hc : X.calm = true) : CallR X (.builtin "max") (rMax K) := h ▸ cr_max hc
theorem kcr_min (h : X.K = K) (hc : X.calm = true) : CallR X (.builtin "min") (rMin K) := h ▸ cr_min hc
theorem kpi_list {tg l : Expr} {tl : TE} (h : X.K = K) (hl : PE X l tl) : PI X tg l (iList K tl) := h ▸ pi_list hl
theorem kpi_tup {tg l : Expr} {tl : TE} (h : X.K = K) (hl : PE X l tl) : PI X tg l (iTup K tl) := h ▸ pi_tup hl
end
/-- a < b <= c < d -/
def tChain3 (r r' r2 : R2) (ta tb tc td : TE) : TE := fun σ H Q => ta σ H fun x H1 => tb σ H1 fun y H2 => r x y H2 fun z H3 => ∃ k, z = .bl k ∧
  (if k = true then tc σ H3 fun w' H4 => r' y w' H4 fun z2 H5 => ∃ k2, z2 = .bl k2 ∧ (if k2 = true then td σ H5 fun w2 H6 => r2 w' w2 H6 Q else Q (.bl false) H5) else Q (.bl false) H3)
section
variable {X : Cx} {a b c e : Expr} {ta tb tc td : TE} {pos : Pos}
theorem pe_chain3 {op op' op2 : CmpOp} {r r' r2 : R2} (ho : OpR X (compareOp op) r) (ho' : OpR X (compareOp op') r') (ho2 : OpR X (compareOp op2) r2) (ha : PE X a ta) (hb : PE X b tb) (hc : PE X c tc) (hd : PE X e td)
    (hm : lastMarks [op, op', op2] [b, c, e] = false := by with_unfolding_all rfl) : PE X (.Compare a [op, op', op2] [b, c, e] pos) (tChain3 r r' r2 ta tb tc td) := by
  refine ⟨fun pins s σ H Q I h => ?_⟩
  refine Compare_chain (thn (ha.run pins s σ H _ I h) fun v s1 ⟨x, H1, I1, r1, q1⟩ => chain_link (thn (hb.run pins s1 σ H1 _ I1 q1) fun u s2 ⟨y, H2, I2, rr2, q2⟩ =>
    thn (ho pins s2 σ H2 x y v u _ I2 r1 rr2 q2) fun d s3 ⟨z, H3, I3, r3, k, e, q3⟩ => ?_)) hm
  subst e
  cases r3
  refine wpAny_truthy_bool ?_
  cases k with
  | false => exact ite_ff ⟨.bl false, H3, I3, rfl, q3⟩
  | true =>
    refine ite_tt (chain_link (thn (hc.run pins s3 σ H3 _ I3 q3) fun w' s4 ⟨z', H4, I4, r4, q4⟩ => thn (ho' pins s4 σ H4 y z' u w' _ I4 rr2 r4 q4) fun d' s5 ⟨z5, H5, I5, r5, k2, e2, q5⟩ => ?_))
    subst e2
    cases r5
    refine wpAny_truthy_bool ?_
    cases k2 with
    | false => exact ite_ff ⟨.bl false, H5, I5, rfl, q5⟩
    | true => exact ite_tt (chain_last (thn (hd.run pins s5 σ H5 _ I5 q5) fun w2 s6 ⟨z6, H6, I6, r6, q6⟩ => ho2 pins s6 σ H6 z' z6 w' w2 Q I6 r4 r6 q6))
theorem pt_chain3 {op op' op2 : CmpOp} {r r' r2 : R2} (ho : OpR X (compareOp op) r) (ho' : OpR X (compareOp op') r') (ho2 : OpR X (compareOp op2) r2) (ha : PE X a ta) (hb : PE X b tb) (hc : PE X c tc) (hd : PE X e td)
    (hm : lastMarks [op, op', op2] [b, c, e] = false := by with_unfolding_all rfl) : L2.PT X (.Compare a [op, op', op2] [b, c, e] pos) (tTest (tChain3 r r' r2 ta tb tc td)) := by
  refine ⟨fun pins s σ H Q I h => ?_⟩
  refine isTrue_chain (thn (ha.run pins s σ H _ I h) fun v s1 ⟨x, H1, I1, r1, q1⟩ => test_link (thn (hb.run pins s1 σ H1 _ I1 q1) fun u s2 ⟨y, H2, I2, rr2, q2⟩ =>
    thn (ho pins s2 σ H2 x y v u _ I2 r1 rr2 q2) fun d s3 ⟨z, H3, I3, r3, k, e, q3⟩ => ?_)) hm
  subst e
  cases r3
  refine wpAny_truthy_bool ?_
  cases k with
  | false =>
    obtain ⟨k', e', q'⟩ := q3
    cases e'
    exact ite_ff ⟨H3, I3, q'⟩
  | true =>
    refine ite_tt (test_link (thn (hc.run pins s3 σ H3 _ I3 q3) fun w' s4 ⟨z', H4, I4, r4, q4⟩ => thn (ho' pins s4 σ H4 y z' u w' _ I4 rr2 r4 q4) fun d' s5 ⟨z5, H5, I5, r5, k2, e2, q5⟩ => ?_))
    subst e2
    cases r5
    refine wpAny_truthy_bool ?_
    cases k2 with
    | false =>
      obtain ⟨k', e', q'⟩ := q5
      cases e'
      exact ite_ff ⟨H5, I5, q'⟩
    | true =>
      refine ite_tt (test_last (thn (hd.run pins s5 σ H5 _ I5 q5) fun w2 s6 ⟨z6, H6, I6, r6, q6⟩ => thn (ho2 pins s6 σ H6 z' z6 w' w2 _ I6 r4 r6 q6) fun d2 s7 ⟨z7, H7, I7, r7, k7, e7, q7⟩ => ?_))
      subst e7
      cases r7
      exact wpAny_truthy_bool ⟨H7, I7, q7⟩
end
section
variable {K : PySem.W.Frag} {φ : Addr → Prop} {J : Hp → Prop} {ρ : List (Option D)} {ta tb tc td : TE}
theorem ev_chainI3 {f g h : Int → Int → Bool} {i j k l : Int} (ha : EvD K φ J ta ρ (.int i)) (hb : EvD K φ J tb ρ (.int j)) (hc : EvD K φ J tc ρ (.int k)) (hd : EvD K φ J td ρ (.int l)) :
    EvD K φ J (tChain3 (rI0 fun i j => .bl (f i j)) (rI0 fun i j => .bl (g i j)) (rI0 fun i j => .bl (h i j)) ta tb tc td) ρ (.bl (f i j && (g j k && h k l))) := fun σ H A Q q =>
  ha σ H A _ fun v x1 H1 b1 A1 e1 r1 => hb σ H1 A1 _ fun w y1 H2 b2 A2 e2 r2 => by
    subst e1 e2
    cases (show v = _ from r1)
    cases (show w = _ from r2)
    refine ⟨i, j, rfl, rfl, f i j, rfl, ?_⟩
    cases hf : f i j with
    | false =>
      rw [if_neg (by simp)]
      exact q _ _ H2 (b1.trans b2) A2 rfl (by rw [hf]; rfl)
    | true =>
      rw [if_pos rfl]
      refine hc σ H2 A2 _ fun v3 x3 H3 b3 A3 e3 r3 => ?_
      subst e3
      cases (show v3 = _ from r3)
      refine ⟨j, k, rfl, rfl, g j k, rfl, ?_⟩
      cases hg : g j k with
      | false =>
        rw [if_neg (by simp)]
        exact q _ _ H3 ((b1.trans b2).trans b3) A3 rfl (by rw [hf, hg]; rfl)
      | true =>
        rw [if_pos rfl]
        refine hd σ H3 A3 _ fun v4 x4 H4 b4 A4 e4 r4 => ?_
        subst e4
        cases (show v4 = _ from r4)
        exact ⟨k, l, rfl, rfl, q _ _ H4 (((b1.trans b2).trans b3).trans b4) A4 rfl (by rw [hf, hg]; rfl)⟩
end

/-! ### live lists of trees -/
/-- the frame without l -/
abbrev wo (φ : Addr → Prop) (l : Addr) : Addr → Prop := fun a => φ a ∧ a ≠ l
structure LivO (K : PySem.W.Frag) (φ : Addr → Prop) (Jb J : Hp → Prop) (l : Addr) (C : List V → HO) (ds : List D) : Prop where
  np : ¬ φ l
  st : Stab l Jb
  pl : ∀ p s ns, Pooled φ Jb p s ns → p ≠ l ∧ s ≠ l
  ex : ∃ vs H0, Reps K φ H0 ds vs ∧ Mo H0 Jb ∧ H0 l ≠ none ∧ J = fun H => (Jb H ∧ H l = some (C vs)) ∧ But φ H0 H
abbrev Liv (K : PySem.W.Frag) (φ : Addr → Prop) (Jb J : Hp → Prop) (l : Addr) (ds : List D) : Prop := LivO K φ Jb J l HO.lst ds
/-- a new object comes out, C of values -/
def EvNO (K : PySem.W.Frag) (φ : Addr → Prop) (J : Hp → Prop) (te : TE) (ρ : List (Option D)) (P : List D → (List V → HO) → Prop) : Prop := ∀ σ H, At K φ J ρ σ H → ∀ Q : VK, (∀ p vs ds C H0 H', But φ H H0 → At K φ J ρ σ H0 → H0 p = none → But φ H0 H' → At K φ J ρ σ H' → P ds C → (∀ xs, C vs ≠ .tup xs) → H' p = some (C vs) → Reps K (wo φ p) H' ds vs → Q (.ref p) H') → te σ H Q
section
variable {K : PySem.W.Frag} {φ φ' : Addr → Prop} {Jb J J' : Hp → Prop} {H H' H1 : Hp} {ρ ρ' : List (Option D)} {σ : L2.St} {ta : TA} {te tb : TE} {x y z d : D} {P Pa Pb : D → Prop} {ds es : List D} {v : V} {vs : List V} {D0 : Ends} {t u : TS} {l : Addr} {C : List V → HO}
theorem Ext.but2 {p s : Addr} {ns : List Int} {H0 : Hp} (np : ¬ φ p) : ∀ H H', But φ H0 H → ButP p H H' → PoolOk p s ns H' → But φ H0 H' := fun H H' b k o => ⟨fun a u pa e => k a u (fun z => np (z ▸ pa)) (b.keep a u pa e), fun a ha => by
  by_cases z : a = p
  · subst z
    obtain ⟨_, _, _, _, e, _⟩ := o
    rw [e]
    exact fun z => by cases z
  · cases e : H a with
    | none => exact absurd e (b.tr a ha)
    | some u => rw [k a u z e]; exact fun z => by cases z⟩
theorem LivO.ext (L : LivO K φ Jb J l C ds) : Ext φ Jb φ J := by
  obtain ⟨vs, H0, r, m, hl, rfl⟩ := L.ex
  exact ⟨fun H h => h.1.1, fun p s ns hp => ⟨hp.np, hp.ne, fun H h => hp.ok H h.1.1, fun H H' h k o => ⟨⟨hp.st H H' h.1.1 k o, k _ _ (L.pl p s ns hp).1.symm h.1.2⟩, Ext.but2 hp.np H H' h.2 k o⟩⟩, fun _ p _ => p⟩
theorem LivO.len (L : Liv K φ Jb J l ds) : ∃ vs, vs.length = ds.length ∧ ∀ H, J H → H l = some (.lst vs) := by
  obtain ⟨vs, H0, r, m, hl, rfl⟩ := L.ex
  exact ⟨vs, r.length, fun H h => h.1.2⟩
/-- x = a new object -/
theorem st_newO {k : Nat} {P : List D → (List V → HO) → Prop} (A : At K φ J ρ σ H) (h : EvNO K φ J te ρ P) (kk : ∀ l ds C J' σ' H', P ds C → φ l → H l = none → Ext φ J (wo φ l) J → LivO K (wo φ l) J J' l C ds → At K (wo φ l) J' (ρ.set k (some (.raw (.ref l)))) σ' H' → D0.nx σ' H') : tAsg te (gName k) D0 σ H :=
  h σ H A _ fun p vs ds C H0 H' b0 A0 hp b A' pd nt e r => by
    have hpH : H p = none := by
      cases z : H p with
      | none => rfl
      | some u => exact absurd hp (b0.tr p (by rw [z]; exact fun w => by cases w))
    have st : Stab p J := Stab.of A0.mono hp
    have u : Up φ (wo φ p) H H' := fun a o q e2 => ⟨⟨q, ne_of_none e2 hpH⟩, (b0.trans b).keep a o q e2⟩
    have sr : SR K (wo φ p) H' ρ σ := A.sr.up u
    have A2 : At K (wo φ p) (fun H => (J H ∧ H p = some (C vs)) ∧ But (wo φ p) H' H) ρ σ H' :=
      ⟨sr, A'.fr.at e nt, ⟨⟨A'.j, e⟩, But.refl _ _⟩, (A'.mono.and (Mo.at (by rw [e]; exact fun w => by cases w))).and (Mo.but fun _ h => h)⟩
    exact kk p ds C _ _ H' pd (A0.fr p hp) hpH ⟨fun _ h => h, fun p s ns q => ⟨fun z => q.np z.1, q.ne, q.ok, q.st⟩, fun a p' h => ⟨p', fun e => h H0 A0.j (by rw [e]; exact hp)⟩⟩
      ⟨fun z => z.2 rfl, st, fun s ps ns q => by
        obtain ⟨_, _, _, _, h1, h2, _⟩ := q.ok _ A0.j
        exact ⟨ne_of_none h1 hp, ne_of_none h2 hp⟩, vs, H', r, A'.mono, (by rw [e]; exact fun z => nomatch z), rfl⟩ (A2.set k rfl)
/-- x = a new list -/
theorem st_newL {k : Nat} {P : List D → Prop} (A : At K φ J ρ σ H) (h : EvN K φ J te ρ P) (kk : ∀ l ds J' σ' H', P ds → φ l → H l = none → Ext φ J (wo φ l) J → Liv K (wo φ l) J J' l ds → At K (wo φ l) J' (ρ.set k (some (.raw (.ref l)))) σ' H' → D0.nx σ' H') : tAsg te (gName k) D0 σ H :=
  st_new A h fun l vs ds σ' H' pd hn hp r st ne b e A' => kk l ds _ σ' H' pd hp hn ⟨fun _ h => h, fun p s ns q => ⟨fun z => q.np z.1, q.ne, q.ok, q.st⟩, fun a p' h => ⟨p', fun e' => h H A.j (by rw [e']; exact hn)⟩⟩
    ⟨fun z => z.2 rfl, st, fun p s ns q => by
      obtain ⟨_, _, _, _, h1, h2, _⟩ := q.ok _ A.j
      exact ⟨ne_of_none h1 hn, ne_of_none h2 hn⟩, vs, H', r, A.mono.up b.tr, (by rw [e]; exact fun z => nomatch z), rfl⟩ A'
/-- .append -/
theorem st_appL {k : Nat} (A : At K φ J ρ σ H) (L : Liv K φ Jb J l ds) (hk : ρ[k]? = some (some (.raw (.ref l)))) (he : EvP K φ J te ρ P) (hz : ds.length ≤ 1000000)
    (kk : ∀ d J' H', P d → Liv K φ Jb J' l (ds ++ [d]) → At K φ J' ρ σ H' → D0.nx σ H') : tDrop (tBM K "list" rAppend (tVar k) (tCons te tNil)) D0 σ H := by
  obtain ⟨vs, H0, r, m, hl, rfl⟩ := L.ex
  refine st_app (vs := vs) A hk (fun H h => h.1.2) he (by rw [r.length]; exact hz) fun v d H' pd rv b A' => ?_
  have b0 : But φ H0 H' := A'.j.2
  have trl : H' l ≠ none := b0.tr l hl
  refine kk d _ _ pd ⟨L.np, L.st, L.pl, vs ++ [v], L2.upd H' l (.lst (vs ++ [v])), ?_, m.up fun a h => upd_tr a (b0.tr a h), (by rw [upd_same]; exact fun z => nomatch z), rfl⟩ (A'.upd L.np ⟨⟨L.st _ _ A'.j.1.1, upd_same⟩, But.refl _ _⟩ ?_)
  · exact ((r.mono b0).append (Reps.cons rv Reps.nil)).mono ((But.refl φ H').upd L.np)
  · exact (((m.up fun a h => upd_tr a (b0.tr a h))).and (Mo.at (by rw [upd_same]; exact fun z => by cases z))).and (Mo.but fun _ h => h)
/-- xs[i] = e -/
theorem st_setLL {k n : Nat} {i : Int} (A : At K φ J ρ σ H) (L : Liv K φ Jb J l ds) (he : EvP K φ J te ρ P) (hk : ρ[k]? = some (some (.raw (.ref l)))) (hi : EvD K φ J tb ρ (.int i)) (hj : ixN ds.length i = some n)
    (kk : ∀ d J' H', P d → Liv K φ Jb J' l (ds.set n d) → At K φ J' ρ σ H' → D0.nx σ H') : tAsg te (gSub (tVar k) tb rSetL) D0 σ H := by
  obtain ⟨vs, H0, r, m, hl, rfl⟩ := L.ex
  refine st_setL (vs := vs) A he hk hi (fun H h => h.1.2) (by rw [r.length]; exact hj) fun v d H' pd rv b A' => ?_
  have b0 : But φ H0 H' := A'.j.2
  refine kk d _ _ pd ⟨L.np, L.st, L.pl, vs.set n v, L2.upd H' l (.lst (vs.set n v)), ?_, m.up fun a h => upd_tr a (b0.tr a h), (by rw [upd_same]; exact fun z => nomatch z), rfl⟩ (A'.upd L.np ⟨⟨L.st _ _ A'.j.1.1, upd_same⟩, But.refl _ _⟩ ?_)
  · exact ((r.mono b0).set n rv).mono ((But.refl φ H').upd L.np)
  · exact (((m.up fun a h => upd_tr a (b0.tr a h))).and (Mo.at (by rw [upd_same]; exact fun z => by cases z))).and (Mo.but fun _ h => h)
/-- into a loop's turn and out of it -/
theorem LivO.push {H1 : Hp} (L : LivO K φ Jb J l C ds) (A : At K φ (fun H => J H ∧ But φ H1 H) ρ σ H) : ∃ J2, LivO K φ (fun H => Jb H ∧ But φ H1 H) J2 l C ds ∧ At K φ J2 ρ σ H ∧ Ext φ Jb φ (fun H => Jb H ∧ But φ H1 H) := by
  obtain ⟨vs, H0, r, m, hl, rfl⟩ := L.ex
  have sb : Stab l (But φ H1) := fun H o b => ⟨fun a u pa e => by
    rw [upd_ne (show a ≠ l from fun z => L.np (z ▸ pa))]
    exact b.keep a u pa e, fun a ha => upd_tr a (b.tr a ha)⟩
  have b0 : But φ H0 H := A.j.1.2
  have e : Ext φ Jb φ (fun H => Jb H ∧ But φ H1 H) := Ext.but'
  refine ⟨_, ⟨L.np, L.st.and sb, fun p s ns q => ?_, vs, H, r.mono b0, (m.up b0.tr).and (Mo.but A.j.2.tr), b0.tr l hl, rfl⟩, A.live ⟨⟨⟨A.j.1.1.1, A.j.2⟩, A.j.1.1.2⟩, But.refl _ _⟩ (((m.up b0.tr).and (Mo.but A.j.2.tr)).and (Mo.at (b0.tr l hl)) |>.and (Mo.but fun _ h => h)), e⟩
  obtain ⟨_, _, _, _, h1, h2, _⟩ := q.ok H ⟨A.j.1.1.1, A.j.2⟩
  refine ⟨fun z => ?_, fun z => ?_⟩
  · -- the pool is no live list of ours: its content would be rewritten
    subst z
    have po := q.ok _ ((L.st.and sb) H (.lst []) ⟨A.j.1.1.1, A.j.2⟩)
    obtain ⟨_, _, _, _, e1, _⟩ := po
    rw [upd_same] at e1
    cases e1
  · subst z
    have po := q.ok _ ((L.st.and sb) H (.tup []) ⟨A.j.1.1.1, A.j.2⟩)
    obtain ⟨_, _, _, _, e1, e2, _⟩ := po
    rw [upd_same] at e2
    cases e2
theorem LivO.pop {H1 : Hp} {J2 : Hp → Prop} (L : LivO K φ (fun H => Jb H ∧ But φ H1 H) J2 l C ds) (hm : Mo H1 Jb) (hs : Stab l Jb) (hp : ∀ p s ns, Pooled φ Jb p s ns → p ≠ l ∧ s ≠ l) (A : At K φ J2 ρ σ H) : ∃ J, LivO K φ Jb J l C ds ∧ At K φ (fun H => J H ∧ But φ H1 H) ρ σ H := by
  obtain ⟨vs, H0, r, m, hl, rfl⟩ := L.ex
  have b0 : But φ H0 H := A.j.2
  have b1 : But φ H1 H := A.j.1.1.2
  have m1 : Mo H Jb := hm.up b1.tr
  exact ⟨_, ⟨L.np, hs, hp, vs, H, r.mono b0, m1, b0.tr l hl, rfl⟩, A.live ⟨⟨⟨A.j.1.1.1, A.j.1.2⟩, But.refl _ _⟩, b1⟩ (((m1.and (Mo.at (b0.tr l hl))).and (Mo.but fun _ h => h)).and (Mo.but b1.tr))⟩
/-- the list is left as it is from here on -/
theorem LivO.freeze (L : Liv K (wo φ l) Jb J l ds) (hl : φ l) {k : Nat} (A : At K (wo φ l) J ρ σ H) (hk : ρ[k]? = some (some (.raw (.ref l)))) : At K φ Jb (ρ.set k (some (.lst ds))) σ H := by
  obtain ⟨vs, H0, r, m, hn, rfl⟩ := L.ex
  have b0 : But (wo φ l) H0 H := A.j.2
  have up : Up (wo φ l) φ H H := fun a o p e => ⟨p.1, e⟩
  have rr : Rep K φ H (.lst ds) (.ref l) := ⟨l, vs, rfl, .inl ⟨hl, .inl A.j.1.2⟩, Reps.up up ds vs (r.mono b0)⟩
  obtain ⟨w, ew, rw'⟩ := A.sr.2 k _ hk
  cases (show w = _ from rw')
  refine ⟨?_, A.fr.fst, A.j.1.1, m.up b0.tr⟩
  have s1 := (A.sr.up up)
  refine ⟨by rw [List.length_set]; exact s1.1, fun i d hd => ?_⟩
  by_cases e : k = i
  · subst e
    have hlt : k < ρ.length := (List.getElem?_eq_some_iff.mp hk).1
    rw [List.getElem?_set_self hlt] at hd
    cases hd
    exact ⟨_, ew, rr⟩
  · rw [List.getElem?_set_ne e] at hd
    exact s1.2 i d hd
theorem ev_lenLL (L : Liv K φ Jb J l ds) (hk : EvD K φ J te ρ (.raw (.ref l))) : EvD K φ J (tCB (rLen K) (tCons te tNil)) ρ (.int ds.length) := by
  obtain ⟨vs, e, hv⟩ := L.len
  rw [← e]
  exact ev_lenLive hk hv
theorem ev_ixLL {i : Int} (L : Liv K φ Jb J l ds) (hk : EvD K φ J te ρ (.raw (.ref l))) (hb : EvD K φ J tb ρ (.int i)) (e : L2.atI ds i = some d) : EvD K φ J (tOp (rIxL K) te tb) ρ d := by
  obtain ⟨vs, H0, r, m, hn, rfl⟩ := L.ex
  refine ev_ixLive hk hb fun H h => ⟨vs, h.1.2, ?_⟩
  unfold L2.atI at e ⊢
  rw [r.length]
  cases hx : L2.ixN ds.length i with
  | none => rw [hx] at e; cases e
  | some n =>
    rw [hx] at e
    obtain ⟨v, hv, rv⟩ := r.get (i := n) e
    exact ⟨v, hv, rv.mono h.2⟩
end
theorem Mo.liv {K : PySem.W.Frag} {φ : Addr → Prop} {Jb J : Hp → Prop} {l : Addr} {C : List V → HO} {ds : List D} {H1 : Hp} (L : LivO K φ Jb J l C ds) (j : J H1) : Mo H1 Jb := by
  obtain ⟨vs, H0, r, m, hl, rfl⟩ := L.ex
  exact m.up j.2.tr
/-! ### slices, tuples of unknown trees -/
theorem cutD_hi {α : Type} {xs : List α} {i : Int} (h0 : 0 ≤ i) : cutD xs none (some i) = xs.take i.toNat := by
  have e : HT.sIx xs.length xs.length (some i) = min i.toNat xs.length := by
    have z := HT.sIx_nat xs.length xs.length i.toNat
    rw [Int.toNat_of_nonneg h0] at z
    exact z
  unfold cutD
  rw [e, HT.sIx_none, List.drop_zero, Nat.sub_zero, List.take_eq_take_iff]
  omega
theorem cutD_lo {α : Type} {xs : List α} {i : Int} (h0 : 0 ≤ i) : cutD xs (some i) none = xs.drop i.toNat := by
  have e : HT.sIx xs.length 0 (some i) = min i.toNat xs.length := by
    have z := HT.sIx_nat xs.length 0 i.toNat
    rw [Int.toNat_of_nonneg h0] at z
    exact z
  unfold cutD
  rw [e, HT.sIx_none]
  by_cases hl : i.toNat ≤ xs.length
  · rw [Nat.min_eq_left hl, List.take_of_length_le (by rw [List.length_drop]; omega)]
  · rw [Nat.min_eq_right (by omega), List.drop_eq_nil_of_le (Nat.le_refl _), List.drop_eq_nil_of_le (by omega), List.take_nil]
section
variable {K : PySem.W.Frag} {φ : Addr → Prop} {J : Hp → Prop} {ρ : List (Option D)} {te ta tb : TE} {P : D → Prop}
theorem Op2.imp {r : R2} {x y : D} {P P' : D → Prop} (h : Op2 K φ r x y P) (k : ∀ d, P d → P' d) : Op2 K φ r x y P' := fun H v w f r1 r2 Q q => h H v w f r1 r2 Q fun u z H' s p r => q u z H' s (k z p) r
theorem ev_catTP {Pa Pb : List D → Prop} (ha : EvP K φ J ta ρ (fun z => ∃ ds, z = .tup ds ∧ Pa ds)) (hb : EvP K φ J tb ρ (fun z => ∃ ds, z = .tup ds ∧ Pb ds)) (hz : ∀ a b, Pa a → Pb b → a.length + b.length ≤ 1000000) : EvP K φ J (tOp (rCatA K) ta tb) ρ (fun z => ∃ ds, z = .tup ds ∧ ∃ a b, ds = a ++ b ∧ Pa a ∧ Pb b) :=
  ev_op ha hb fun x y ⟨a, e1, pa⟩ ⟨b, e2, pb⟩ => by
    subst e1 e2
    exact (o2_catT (hz a b pa pb)).imp fun z e => ⟨_, e, a, b, rfl, pa, pb⟩
theorem ev_tupLP {Pl : List D → Prop} (h : EvP K φ J te ρ (fun z => ∃ ds, z = .lst ds ∧ Pl ds)) : EvP K φ J (tCB (rTupOf K) (tCons te tNil)) ρ (fun z => ∃ ds, z = .tup ds ∧ Pl ds) := ev_cb (ea_consP h ea_nil) fun ds ⟨d, r, e, ⟨es, e1, pe⟩, e2⟩ => by
  subst e e1 e2
  exact fun H vs f r Q q => cl_tupL H vs f r Q fun u z H' s e r => q u z H' s ⟨es, e, pe⟩ r
/-- a tuple of one unknown value -/
theorem ev_tup1P (h : EvP K φ J te ρ P) : EvP K φ J (tTup (tCons te tNil)) ρ (fun z => ∃ ds, z = .tup ds ∧ ∃ d, ds = [d] ∧ P d) := (ev_tupP (ea_consP h ea_nil) fun r ⟨d, r', e, p, e2⟩ => by rw [e, e2]; exact Nat.le_of_ble_eq_true rfl).imp fun z ⟨r, e, d, r', e1, p, e2⟩ => ⟨r, e, d, by rw [e1, e2], p⟩
end
section
variable {K : PySem.W.Frag} {φ : Addr → Prop} {J : Hp → Prop} {ρ : List (Option D)} {te ta tb : TE}
theorem ev_repTP {ds : List D} {p : Int → Prop} (ha : EvD K φ J te ρ (.tup ds)) (hb : EvI K φ J tb ρ p) (hne : ds ≠ []) (hp : ∀ i, p i → 2 ≤ i ∧ i ≤ 1000) (hz : ds.length ≤ 1000) : EvP K φ J (tOp (rRepT K) te tb) ρ (fun z => ∃ i : Int, p i ∧ z = .tup (List.replicate i.toNat ds).flatten) :=
  ev_op ha hb fun x y e ⟨i, e2, pi⟩ => by
    subst e e2
    intro H v w fr r1 r2 Q q
    obtain ⟨a, vs, rfl, p', rs⟩ := rep_tup r1
    cases (show w = _ from r2)
    refine ⟨a, i, vs, rfl, rfl, p'.sq, fun z => hne (List.eq_nil_of_length_eq_zero (by rw [← rs.length, z]; rfl)), (hp i pi).1, (hp i pi).2, by rw [rs.length]; exact hz, fun l hl => q _ _ _ (same_new hl) ⟨i, pi, rfl⟩ ⟨l, _, rfl, .inl ⟨fr l hl, .inl upd_same⟩, ?_⟩⟩
    exact (replicate_reps rs _).mono (But.of (same_new hl))
end

-- import HandS.Dict
/-! ### dicts: keys ints and texts, or tuples of these -/
def keyD : Key → D
  | .inl i => .int i
  | .inr s => .str s
class DKind (κ : Type) [DecidableEq κ] where
  kd : κ → D
  ho : List (κ × V) → HO
  nt : ∀ kvs xs, ho kvs ≠ .tup xs
  d : List κ → List D → D
  get : ∀ {K : PySem.W.Frag} {φ : Addr → Prop} {H : Hp} {a : Addr} {kvs : List (κ × V)} {k : κ} {v : V}, Rep K φ H (kd k) v → H a = some (ho kvs) → DGet H a v (valV kvs k)
  put : ∀ {K : PySem.W.Frag} {φ : Addr → Prop} {H : Hp} {a : Addr} {kvs : List (κ × V)} {k : κ} {y v : V}, Rep K φ H (kd k) y → H a = some (ho kvs) → kvs.length < sizeLine → DPut H a y v (upd H a (ho (putK kvs k v)))
  isd : ∀ {H : Hp} {a : Addr} {kvs : List (κ × V)}, H a = some (ho kvs) → IsD H a
  rep : ∀ {K : PySem.W.Frag} {φ : Addr → Prop} {H : Hp} {ks : List κ} {ds : List D} {v : V}, Rep K φ H (d ks ds) v ↔ ∃ a vs, v = .ref a ∧ (φ a ∧ H a = some (ho (ks.zip vs)) ∧ ks.length = ds.length) ∧ Reps K φ H ds vs
theorem keyD_v {K : PySem.W.Frag} {φ : Addr → Prop} {H : Hp} {k : Key} {v : V} (h : Rep K φ H (keyD k) v) : v = kV k := by
  cases k <;> exact h
theorem keysD_v {K : PySem.W.Frag} {φ : Addr → Prop} {H : Hp} : ∀ {ks : List Key} {vs : List V}, Reps K φ H (ks.map keyD) vs → vs = ks.map kV
  | [], _, h => h
  | k :: ks, vs, h => by
    obtain ⟨v, r, rfl, h1, h2⟩ := (show ∃ v r, vs = v :: r ∧ Rep K φ H (keyD k) v ∧ Reps K φ H (ks.map keyD) r from h)
    rw [keyD_v h1, keysD_v h2]
    rfl
instance : DKind Key where
  kd := keyD
  ho := HO.dK
  nt := fun _ _ h => nomatch h
  d := D.dk
  get := fun r e => by
    rw [keyD_v r]
    exact DGet.k e
  put := fun r e hl => by
    rw [keyD_v r]
    exact DPut.k e hl
  isd := fun e => .inl ⟨_, .inl e⟩
  rep := Iff.rfl
instance : DKind (List Key) where
  kd := fun ks => .tup (ks.map keyD)
  ho := HO.dT
  nt := fun _ _ h => nomatch h
  d := D.dt
  get := fun r e => by
    obtain ⟨b, vs, rfl, p, rs⟩ := rep_tup r
    rw [keysD_v rs] at p
    exact DGet.t e p.at.2
  put := fun r e hl => by
    obtain ⟨b, vs, rfl, p, rs⟩ := rep_tup r
    rw [keysD_v rs] at p
    exact DPut.t e p.at.2 hl
  isd := fun e => .inr ⟨_, .inl e⟩
  rep := Iff.rfl
section
variable {κ : Type} [DecidableEq κ] [DKind κ]
def valD (kds : List (κ × D)) (k : κ) : Option D := (kds.find? fun kv => decide (kv.1 = k)).map (·.2)
def putD (kds : List (κ × D)) (k : κ) (d : D) : List (κ × D) :=
  if (kds.any fun kv => decide (kv.1 = k)) = true then kds.map (fun kv => if kv.1 = k then (kv.1, d) else kv) else kds ++ [(k, d)]
theorem valD_nil {k : κ} : valD ([] : List (κ × D)) k = none := rfl
theorem valD_pos {p : κ × D} {r : List (κ × D)} {k : κ} (e : p.1 = k) : valD (p :: r) k = some p.2 := by simp [valD, List.find?_cons, e]
theorem valD_neg {p : κ × D} {r : List (κ × D)} {k : κ} (e : ¬ p.1 = k) : valD (p :: r) k = valD r k := by simp [valD, List.find?_cons, e]
theorem valD_any (k : κ) : ∀ kds : List (κ × D), (kds.any fun kv => decide (kv.1 = k)) = (valD kds k).isSome
  | [] => rfl
  | p :: r => by
    rw [List.any_cons]
    by_cases e : p.1 = k
    · simp only [valD_pos e, decide_eq_true e, Bool.true_or, Option.isSome_some]
    · rw [valD_neg e, decide_eq_false e, Bool.false_or]; exact valD_any k r
theorem valD_map (k j : κ) (y : D) : ∀ kds : List (κ × D), valD (kds.map fun kv => if kv.1 = k then (kv.1, y) else kv) j = (valD kds j).map fun x => if j = k then y else x
  | [] => rfl
  | p :: r => by
    have ih := valD_map k j y r
    rw [List.map_cons]
    by_cases h : p.1 = k
    · rw [if_pos h]
      by_cases e : p.1 = j
      · rw [valD_pos (p := (p.1, y)) e, valD_pos e, Option.map_some, if_pos (e.symm.trans h)]
      · rw [valD_neg (p := (p.1, y)) e, valD_neg e, ih]
    · rw [if_neg h]
      by_cases e : p.1 = j
      · rw [valD_pos (p := p) e, valD_pos e, Option.map_some, if_neg (fun z => h (e.trans z))]
      · rw [valD_neg (p := p) e, valD_neg e, ih]
theorem valD_snoc (k j : κ) (y : D) : ∀ kds : List (κ × D), valD kds k = none → valD (kds ++ [(k, y)]) j = if j = k then some y else valD kds j
  | [], _ => by
    by_cases e : k = j
    · rw [if_pos e.symm]; exact valD_pos (p := (k, y)) e
    · rw [if_neg (fun z => e z.symm)]; exact valD_neg (p := (k, y)) e
  | p :: r, hn => by
    rw [List.cons_append]
    have hk : ¬ p.1 = k := fun z => by rw [valD_pos z] at hn; cases hn
    rw [valD_neg hk] at hn
    have ih := valD_snoc k j y r hn
    by_cases e : p.1 = j
    · rw [valD_pos e, valD_pos e, if_neg (fun z => hk (e.trans z))]
    · rw [valD_neg e, valD_neg e, ih]
/-- what a dict holds behind a store -/
theorem valD_put (kds : List (κ × D)) (k j : κ) (y : D) : valD (putD kds k y) j = if j = k then some y else valD kds j := by
  unfold putD
  rw [valD_any]
  cases h : valD kds k with
  | none =>
    rw [if_neg (by simp)]
    exact valD_snoc k j y kds h
  | some x =>
    rw [if_pos (show (some x).isSome = true from rfl), valD_map]
    by_cases e : j = k
    · subst e
      rw [h, if_pos rfl]
      simp
    · rw [if_neg e]
      simp [e]
theorem putD_len (kds : List (κ × D)) (k : κ) (y : D) : (putD kds k y).length ≤ kds.length + 1 := by
  unfold putD
  split
  · rw [List.length_map]; omega
  · rw [List.length_append]; exact Nat.le_refl _
theorem putD_keys_old {kds : List (κ × D)} {k : κ} {y x : D} (h : valD kds k = some x) : (putD kds k y).map (·.1) = kds.map (·.1) := by
  unfold putD
  rw [valD_any, h, if_pos (show (some x).isSome = true from rfl), List.map_map]
  refine List.map_congr_left fun p _ => ?_
  show (if p.1 = k then (p.1, y) else p).1 = p.1
  split <;> rfl
theorem putD_new {kds : List (κ × D)} {k : κ} {y : D} (h : valD kds k = none) : putD kds k y = kds ++ [(k, y)] := by
  unfold putD
  rw [valD_any, h, if_neg (by simp)]
theorem valD_some {kds : List (κ × D)} {k : κ} : (valD kds k).isSome = true ↔ k ∈ kds.map (·.1) := by
  rw [← valD_any, List.any_eq_true]
  constructor
  · rintro ⟨p, hp, e⟩
    exact List.mem_map.mpr ⟨p, hp, of_decide_eq_true e⟩
  · intro h
    obtain ⟨p, hp, e⟩ := List.mem_map.mp h
    exact ⟨p, hp, decide_eq_true e⟩
variable {K : PySem.W.Frag} {φ φ' : Addr → Prop} {Jb J J' : Hp → Prop} {H H' H1 : Hp} {ρ ρ' : List (Option D)} {σ : L2.St} {ta : TA} {te tb td ty tv tx : TE} {x y z d : D} {P : D → Prop} {ds es : List D} {v : V} {vs : List V} {D0 : Ends} {l : Addr} {kds : List (κ × D)} {k : κ}
theorem zip_val : ∀ {kds : List (κ × D)} {vs : List V}, Reps K φ H (kds.map (·.2)) vs → ∀ k, (valD kds k = none ∧ valV ((kds.map (·.1)).zip vs) k = none) ∨ ∃ d v, valD kds k = some d ∧ valV ((kds.map (·.1)).zip vs) k = some v ∧ Rep K φ H d v
  | [], vs, h, k => .inl ⟨rfl, rfl⟩
  | p :: kds, vs, h, k => by
    obtain ⟨v, r, rfl, h1, h2⟩ := (show ∃ v r, vs = v :: r ∧ Rep K φ H p.2 v ∧ Reps K φ H (kds.map (·.2)) r from h)
    rw [List.map_cons, List.zip_cons_cons]
    by_cases e : p.1 = k
    · exact .inr ⟨p.2, v, valD_pos e, valV_pos e, h1⟩
    · rw [valD_neg e, valV_neg (p := (p.1, v)) e]
      exact zip_val h2 k
theorem zip_put (hd : Rep K φ H d v) {kds : List (κ × D)} {vs : List V} (h : Reps K φ H (kds.map (·.2)) vs) : ∃ vs', putK ((kds.map (·.1)).zip vs) k v = ((putD kds k d).map (·.1)).zip vs' ∧ Reps K φ H ((putD kds k d).map (·.2)) vs' := by
  have hl := h.length
  rw [List.length_map] at hl
  have hsome : (valV ((kds.map (·.1)).zip vs) k).isSome = (valD kds k).isSome := by
    rcases zip_val h k with ⟨e1, e2⟩ | ⟨d, v, e1, e2, _⟩ <;> rw [e1, e2] <;> rfl
  unfold putK putD
  rw [valV_any, valD_any, hsome]
  by_cases hs : (valD kds k).isSome = true
  · rw [if_pos hs, if_pos hs]
    clear hsome hs
    induction kds generalizing vs with
    | nil => exact ⟨vs, rfl, h⟩
    | cons p kds ih =>
      obtain ⟨u, r, rfl, h1, h2⟩ := (show ∃ v r, vs = v :: r ∧ Rep K φ H p.2 v ∧ Reps K φ H (kds.map (·.2)) r from h)
      obtain ⟨vs', e, r'⟩ := ih h2 (by simpa using hl)
      rw [List.map_cons, List.zip_cons_cons, List.map_cons, List.map_cons]
      by_cases hk : p.1 = k
      · refine ⟨v :: vs', ?_, ?_⟩
        · rw [List.map_cons, List.zip_cons_cons, ← e, if_pos hk, if_pos hk]
        · rw [List.map_cons, if_pos hk]
          exact Reps.cons hd r'
      · refine ⟨u :: vs', ?_, ?_⟩
        · rw [List.map_cons, List.zip_cons_cons, ← e, if_neg hk, if_neg hk]
        · rw [List.map_cons, if_neg hk]
          exact Reps.cons h1 r'
  · rw [if_neg hs, if_neg hs]
    refine ⟨vs ++ [v], ?_, ?_⟩
    · rw [List.map_append, List.zip_append (by rw [List.length_map, hl])]
      rfl
    · rw [List.map_append]
      exact h.append (Reps.cons hd Reps.nil)
/-- a live dict -/
abbrev LivD (K : PySem.W.Frag) (φ : Addr → Prop) (Jb J : Hp → Prop) (l : Addr) (kds : List (κ × D)) : Prop := LivO K φ Jb J l (fun vs => DKind.ho ((kds.map (·.1)).zip vs)) (kds.map (·.2))
def dictD (kds : List (κ × D)) : D := DKind.d (kds.map (·.1)) (kds.map (·.2))
/-- a dict, live or left as it is -/
def EvDict (K : PySem.W.Frag) (φ : Addr → Prop) (J : Hp → Prop) (td : TE) (ρ : List (Option D)) (kds : List (κ × D)) : Prop := ∀ σ H, At K φ J ρ σ H → ∀ Q : VK, (∀ a H', But φ H H' → At K φ J ρ σ H' → (∀ H'', But φ H' H'' → J H'' → ∃ vs, H'' a = some (DKind.ho ((kds.map (·.1)).zip vs)) ∧ Reps K φ H'' (kds.map (·.2)) vs) → Q (.ref a) H') → td σ H Q
theorem ed_frozen (h : EvD K φ J td ρ (dictD kds)) : EvDict K φ J td ρ kds := fun σ H A Q q => h σ H A _ fun v d H' b A' e r => by
  subst e
  obtain ⟨a, vs, rfl, ⟨p, e, hl⟩, rs⟩ := DKind.rep.mp r
  exact q a H' b A' fun H'' b' j => ⟨vs, b'.keep a _ p e, rs.mono b'⟩
theorem ed_live (L : LivD K φ Jb J l kds) (h : EvD K φ J td ρ (.raw (.ref l))) : EvDict K φ J td ρ kds := fun σ H A Q q => h σ H A _ fun v d H' b A' e r => by
  subst e
  cases (show v = _ from r)
  obtain ⟨vs, H0, rs, m, hl, rfl⟩ := L.ex
  exact q l H' b A' fun H'' b' j => ⟨vs, j.1.2, rs.mono j.2⟩
theorem ev_dget (hd : EvDict K φ J td ρ kds) (hy : EvD K φ J ty ρ (DKind.kd k)) (e : valD kds k = some d) : EvD K φ J (tDGet td ty) ρ d := fun σ H A Q q =>
  hd σ H A _ fun a H1 b1 A1 per => hy σ H1 A1 _ fun y d' H2 b2 A2 e2 r2 => by
    subst e2
    obtain ⟨vs, ea, rs⟩ := per H2 b2 A2.j
    rcases zip_val rs k with ⟨e1, _⟩ | ⟨d1, v1, e1, ev, r1⟩
    · rw [e] at e1; cases e1
    · rw [e] at e1
      cases e1
      refine ⟨a, v1, rfl, ?_, q v1 _ H2 (b1.trans b2) A2 rfl r1⟩
      rw [← ev]
      exact DKind.get r2 ea
theorem ev_din (hy : EvD K φ J ty ρ (DKind.kd k)) (hd : EvDict K φ J td ρ kds) : EvD K φ J (tDIn ty td) ρ (.bl (valD kds k).isSome) := fun σ H A Q q =>
  hy σ H A _ fun y d' H1 b1 A1 e1 r1 => hd σ H1 A1 _ fun a H2 b2 A2 per => by
    subst e1
    obtain ⟨vs, ea, rs⟩ := per H2 (But.refl _ _) A2.j
    refine ⟨a, _, rfl, DKind.get (r1.mono b2) ea, q _ _ H2 (b1.trans b2) A2 rfl ?_⟩
    rcases zip_val rs k with ⟨e1, e2⟩ | ⟨d1, v1, e1, e2, _⟩ <;> rw [e1, e2] <;> rfl
theorem ev_dnotin (hy : EvD K φ J ty ρ (DKind.kd k)) (hd : EvDict K φ J td ρ kds) : EvD K φ J (tDNotIn ty td) ρ (.bl (!(valD kds k).isSome)) := fun σ H A Q q =>
  hy σ H A _ fun y d' H1 b1 A1 e1 r1 => hd σ H1 A1 _ fun a H2 b2 A2 per => by
    subst e1
    obtain ⟨vs, ea, rs⟩ := per H2 (But.refl _ _) A2.j
    refine ⟨a, _, rfl, DKind.get (r1.mono b2) ea, q _ _ H2 (b1.trans b2) A2 rfl ?_⟩
    rcases zip_val rs k with ⟨e1, e2⟩ | ⟨d1, v1, e1, e2, _⟩ <;> rw [e1, e2] <;> rfl
theorem ev_dget2 (hd : EvDict K φ J td ρ kds) (hy : EvD K φ J ty ρ (DKind.kd k)) (hx : EvD K φ J tx ρ x) : EvD K φ J (tDGet2 td ty tx) ρ ((valD kds k).getD x) := fun σ H A Q q =>
  hd σ H A _ fun a H1 b1 A1 per => by
    obtain ⟨vs1, ea1, _⟩ := per H1 (But.refl _ _) A1.j
    refine ⟨a, rfl, DKind.isd ea1, hy σ H1 A1 _ fun y d' H2 b2 A2 e2 r2 => hx σ H2 A2 _ fun u d3 H3 b3 A3 e3 r3 => ?_⟩
    subst e2 e3
    obtain ⟨vs, ea, rs⟩ := per H3 (b2.trans b3) A3.j
    refine ⟨_, DKind.get (r2.mono b3) ea, q _ _ H3 ((b1.trans b2).trans b3) A3 rfl ?_⟩
    rcases zip_val rs k with ⟨e1, e2⟩ | ⟨d1, v1, e1, e2, r1⟩
    · rw [e1, e2]; exact r3
    · rw [e1, e2]; exact r1
/-- d[y] = v -/
theorem st_dputL {i : Nat} (A : At K φ J ρ σ H) (L : LivD K φ Jb J l kds) (hv : EvP K φ J tv ρ P) (hk : ρ[i]? = some (some (.raw (.ref l)))) (hy : EvD K φ J ty ρ (DKind.kd k)) (hz : kds.length ≤ 1000000)
    (kk : ∀ d J' H', P d → LivD K φ Jb J' l (putD kds k d) → At K φ J' ρ σ H' → D0.nx σ H') : sDPut (tVar i) ty tv D0 σ H := by
  obtain ⟨vs, H0, r, m, hl, rfl⟩ := L.ex
  refine hv σ H A _ fun v d H1 b1 A1 pd r1 => ev_var hk σ H1 A1 _ fun w d2 H2 b2 A2 e2 r2 => hy σ H2 A2 _ fun y d3 H3 b3 A3 e3 r3 => ?_
  subst e2 e3
  cases (show w = _ from r2)
  have b0 : But φ H0 H3 := A3.j.2
  have trl : H3 l ≠ none := b0.tr l hl
  obtain ⟨vs', ep, rp⟩ := zip_put (k := k) ((r1.mono b2).mono b3) (r.mono b0)
  have hlen : ((kds.map (·.1)).zip vs).length < sizeLine := szlt (by
    rw [List.length_zip, List.length_map]
    omega)
  refine ⟨l, _, rfl, DKind.put r3 A3.j.1.2 hlen, ?_⟩
  rw [ep]
  refine kk d _ _ pd ⟨L.np, L.st, L.pl, vs', L2.upd H3 l (DKind.ho (((putD kds k d).map (·.1)).zip vs')), rp.mono ((But.refl φ H3).upd L.np), m.up fun a h => upd_tr a (b0.tr a h), (by rw [upd_same]; exact fun z => nomatch z), rfl⟩ (A3.upd (ho := fun xs => DKind.nt _ xs) L.np ⟨⟨L.st _ _ A3.j.1.1, upd_same⟩, But.refl _ _⟩ ?_)
  exact ((m.up fun a h => upd_tr a (b0.tr a h)).and (Mo.at (by rw [upd_same]; exact fun z => nomatch z))).and (Mo.but fun _ h => h)
theorem LivO.freezeD (L : LivD K (wo φ l) Jb J l kds) (hl : φ l) {i : Nat} (A : At K (wo φ l) J ρ σ H) (hk : ρ[i]? = some (some (.raw (.ref l)))) : At K φ Jb (ρ.set i (some (dictD kds))) σ H := by
  obtain ⟨vs, H0, r, m, hn, rfl⟩ := L.ex
  have b0 : But (wo φ l) H0 H := A.j.2
  have up : Up (wo φ l) φ H H := fun a o p e => ⟨p.1, e⟩
  have rr : Rep K φ H (dictD kds) (.ref l) := DKind.rep.mpr ⟨l, vs, rfl, ⟨hl, A.j.1.2, by rw [List.length_map, List.length_map]⟩, Reps.up up _ vs (r.mono b0)⟩
  obtain ⟨w, ew, rw'⟩ := A.sr.2 i _ hk
  cases (show w = _ from rw')
  refine ⟨?_, A.fr.fst, A.j.1.1, m.up b0.tr⟩
  have s1 := (A.sr.up up)
  refine ⟨by rw [List.length_set]; exact s1.1, fun j d hd => ?_⟩
  by_cases e : i = j
  · subst e
    have hlt : i < ρ.length := (List.getElem?_eq_some_iff.mp hk).1
    rw [List.getElem?_set_self hlt] at hd
    cases hd
    exact ⟨_, ew, rr⟩
  · rw [List.getElem?_set_ne e] at hd
    exact s1.2 j d hd
end
section
variable {K : PySem.W.Frag} {φ : Addr → Prop} {J : Hp → Prop} {ρ : List (Option D)} {te tk tv : TE}
/-- {} -/
theorem en_dnewK : EvNO K φ J tDNewK ρ (fun ds C => ds = (([] : List (Key × D)).map (·.2)) ∧ C = fun vs => HO.dK ((([] : List (Key × D)).map (·.1)).zip vs)) := fun σ H A Q q p hp =>
  q p [] [] _ H _ (But.refl _ _) A hp (But.of (same_new hp)) (A.same (same_new hp)) ⟨rfl, rfl⟩ (fun _ h => nomatch h) upd_same Reps.nil
theorem en_dnewT : EvNO K φ J tDNewT ρ (fun ds C => ds = (([] : List (List Key × D)).map (·.2)) ∧ C = fun vs => HO.dT ((([] : List (List Key × D)).map (·.1)).zip vs)) := fun σ H A Q q p hp =>
  q p [] [] _ H _ (But.refl _ _) A hp (But.of (same_new hp)) (A.same (same_new hp)) ⟨rfl, rfl⟩ (fun _ h => nomatch h) upd_same Reps.nil
/-- {k: v} -/
theorem en_disp1 {k : Key} {d : D} (hk : ∀ J' φ', Ext φ J φ' J' → EvD K φ' J' tk ρ (keyD k)) (hv : ∀ J' φ', Ext φ J φ' J' → EvD K φ' J' tv ρ d) : EvNO K φ J (tDisp [(tk, tv)]) ρ (fun ds C => ds = ([(k, d)].map (·.2)) ∧ C = fun vs => HO.dK (([(k, d)].map (·.1)).zip vs)) := fun σ H A Q q p hp => by
  have ext : Ext φ J (wo φ p) (fun H => J H ∧ H p = some (.dK [])) := ⟨fun _ h => h.1, fun p' s ns hq => ⟨fun z => hq.np z.1, hq.ne, fun H h => hq.ok H h.1, fun H' H'' h k o => ⟨hq.st H' H'' h.1 k o, k _ _ (by
    obtain ⟨_, _, _, _, h1, _⟩ := hq.ok _ A.j
    exact (ne_of_none h1 hp).symm) h.2⟩⟩, fun a p' h => ⟨p', fun e => h H A.j (by rw [e]; exact hp)⟩⟩
  have A1 : At K (wo φ p) (fun H => J H ∧ H p = some (.dK [])) ρ σ (upd H p (.dK [])) := A.newLive hp ⟨A.mono _ _ (fun a o _ e => same_new hp a o e) A.j, upd_same⟩ ((A.mono.up upd_tr).and (Mo.at (by rw [upd_same]; exact fun z => nomatch z)))
  refine hk _ _ ext σ _ A1 _ fun v1 d1 H2 b2 A2 e1 r1 => hv _ _ ext σ H2 A2 _ fun v2 d2 H3 b3 A3 e2 r2 => ?_
  subst e1 e2
  have hv1 : v1 = kV k := keyD_v r1
  subst hv1
  refine ⟨A3.j.2, [(k, v2)], rfl, Nat.le_of_ble_eq_true rfl, ?_⟩
  have np : ¬ wo φ p p := fun z => z.2 rfl
  have bb : But φ H (upd H3 p (.dK [(k, v2)])) := ⟨fun a o pa e => by
    have ne := ne_of_none e hp
    rw [upd_ne ne]
    exact b3.keep a o ⟨pa, ne⟩ (b2.keep a o ⟨pa, ne⟩ (by rw [upd_ne ne]; exact e)), fun a h => upd_tr a (b3.tr a (b2.tr a (upd_tr a h)))⟩
  have jj : J (upd H3 p (.dK [(k, v2)])) := A.mono H3 _ (fun a o h e => by
    rw [upd_ne (show a ≠ p from fun z => h (by rw [z]; exact hp))]
    exact e) A3.j.1
  refine q p [v2] [d2] _ H _ (But.refl _ _) A hp bb ⟨A.sr.up (Up.of bb), A3.fr.fst.upd (fun _ h => nomatch h), jj, A.mono.up bb.tr⟩ ⟨rfl, rfl⟩ (fun _ h => nomatch h) upd_same (Reps.cons (r2.mono ((But.refl _ H3).upd np)) Reps.nil)
end

-- import HandS.SortKw
-- import HandS.SortOrd
-- import HandS.SortRule
-- import HandS.SortInts
-- import HandS.DictTup
-- import HandS.More
-- import KE.KDictCopyH
-- import KE.KDictWalk
-- import KE.KDictExact
/-! ### sorted(d): the keys of a dict, in order -/
section
variable {prog : Program} {w : World} {A : Around} {E : Value → Shared → Prop} {s : Shared}
open SrtO in
theorem sorted_raw {d : Addr} {es : Array DictEntry} {ep : Nat} {b : Bool} {kw : List (Str × Value)} {ltv : Value → Value → Bool} {Q : Value → Shared → Prop} (lo : (d == sysModules) = false) (hh : A.handled = none) (hm : s.heap.DictRaw d es ep) (hz : es.size ≤ sizeLine)
    (hk : ∀ a, Builtin.«list.sort» ⟨[.ref a], kw⟩ = Builtin.«list.sort» ⟨[.ref a], [(Str.ofString "reverse", .bool b)]⟩) (ha1 : argsOk "sorted" ⟨[.ref d], kw⟩) (ha2 : ∀ a, argsOk "list.sort" ⟨[a], kw⟩) (O : Swo ltv)
    (hS : 2 ≤ (es.toList.map (·.key)).length → ∀ (h₁ : Heap) (tk : Nat) (a : Addr), h₁.get? a = some (seqObj "list" (es.toList.map (·.key)).toArray 0) → (∀ b o, s.heap.get? b = some o → b ≠ a ∧ h₁.get? b = some o) → SortableO prog w A.in1.in1 { s with heap := h₁, toks := tk } a (es.toList.map (·.key)) ltv)
    (h : ∀ (out : List Value) (h1 h' : Heap) (tk : Nat) (a : Addr) (n : Nat), Srtd ltv out → Stb ltv out (if b = true then (es.toList.map (·.key)).reverse else es.toList.map (·.key)) → (∀ b o, s.heap.get? b = some o → h1.get? b = some o) → (∀ b o, h1.get? b = some o → h'.get? b = some o) → h1.objs.size ≤ a → h'.get? a = some (seqObj "list" (if b = true then out.toArray.reverse else out.toArray) n) → Q (.ref a) { s with heap := h', toks := tk }) :
    wpAny (model prog w) A (call (.builtin "sorted") [.ref d] kw) Q E s := by
  refine PyProof.Rows.call_function_entry_kw PyProof.Rows.kind_sorted PyProof.Rows.plain_sorted PyProof.Rows.entry_sorted ha1 ?_
  unfold Builtin.«sorted»
  refine wpAny_bind (m := checkCount "sorted" 1 1 _) (wpAny_pure ?_)
  refine wpAny_bind (PySem.W.kdu_collect (A := A.in1) (KdlSrc.rawDict (es := es) (ep := ep) lo) hh hm hz fun h' tk acc hkp hacc => ?_)
  have eacc : acc.toList = es.toList.map (·.key) := by
    refine List.ext_getElem? fun j => ?_
    rw [List.getElem?_map]
    cases e : acc.toList[j]? with
    | none =>
      have h1 : acc.toList.length ≤ j := List.getElem?_eq_none_iff.mp e
      rw [Array.length_toList, hacc.1] at h1
      rw [List.getElem?_eq_none (by rw [Array.length_toList]; exact h1)]
      rfl
    | some v =>
      obtain ⟨hi, ev⟩ := hacc.2 j v (by rw [← Array.getElem?_toList]; exact e)
      rw [Array.getElem?_toList, Array.getElem?_eq_getElem hi, ev]
      rfl
  have hlen : acc.toList.length = es.size := by rw [Array.length_toList, hacc.1]
  refine wpAny_bind (wpAny_newList ?_ (by rw [hlen]; exact hz))
  rw [eacc]
  have hoL : (h'.push (seqObj "list" (es.toList.map (·.key)).toArray 0)).get? h'.objs.size = some (seqObj "list" (es.toList.map (·.key)).toArray 0) := Heap.get?_push_size _ rfl
  show wpAny _ _ _ _ _ { s with heap := h'.push (seqObj "list" (es.toList.map (·.key)).toArray 0), toks := tk }
  have keep : ∀ b o, s.heap.get? b = some o → b ≠ h'.objs.size ∧ (h'.push (seqObj "list" (es.toList.map (·.key)).toArray 0)).get? b = some o := fun b o q =>
    ⟨Nat.ne_of_lt (Heap.lt_size (hkp b o q)), Heap.get?_push_of_some _ (hkp b o q)⟩
  refine wpAny_bind (wpAny_holding (PyProof.Rows.wpAny_call_entry_kw PyProof.Rows.slot_list_sort ⟨_, hoL, rfl⟩ PyProof.Rows.entry_list_sort ?_ (ha2 _)))
  rw [hk]
  refine SrtR.list_sort_ordR O hoL (by rw [← eacc, hlen]; exact hz) (fun h2 => hS h2 _ _ _ hoL keep) fun out hs hb => ⟨_, rfl, ?_⟩
  obtain ⟨n, hn⟩ := PyProof.Rows.sortedHeap_at (vs := es.toList.map (·.key)) (out := if b = true then out.toArray.reverse else out.toArray) hoL
  refine wpAny_pure ⟨_, rfl, h out h' _ _ _ n hs hb hkp (fun b o q => ?_) (Nat.le_refl _) hn⟩
  have hlt : b < h'.objs.size := Heap.lt_size q
  rw [PyProof.Rows.sortedHeap_old (Nat.ne_of_lt hlt) (by rw [PyProof.Rows.size_push']; exact Nat.lt_succ_of_lt hlt)]
  exact Heap.get?_push_of_some _ q
end
/-- the raw entries of a dict with keys ints and texts -/
theorem mixRaw {P : Program} {w : World} {h : Heap} {a : Addr} {vs : List (Key × Value)} (x : h.DictOf (mixKind P w) a vs) : ∃ es ep, h.DictRaw a es ep ∧ es.size = vs.length ∧ ∀ (j : Nat) (k : Key), (vs.map (·.1))[j]? = some k → ∃ v, (es.toList.map (·.key))[j]? = some v ∧ keyIs k v = true := by
  obtain ⟨ep, hat⟩ := x.dictAt
  obtain ⟨es, hr, hsz, hall⟩ := PySem.Heap.DictAt.raw hat
  refine ⟨es, ep, hr, hsz, fun j k hk => ?_⟩
  rw [List.getElem?_map] at hk
  obtain ⟨p, hp, e⟩ := Option.map_eq_some_iff.mp hk
  have hj : j < vs.length := (List.getElem?_eq_some_iff.mp hp).1
  have hi : j < es.size := by omega
  refine ⟨es[j].key, by rw [List.getElem?_map, Array.getElem?_toList, Array.getElem?_eq_getElem hi]; rfl, ?_⟩
  have z := hall j hi p.1 p.2 hp
  rw [← e]
  first | exact z | exact z.1
def OrdB' (b : Bool) (ns : List Int) : Prop := if b = true then ns.Pairwise (· ≥ ·) else ns.Pairwise (· ≤ ·)
def rSortD (b : Bool) (zs0 : List V) : List V → List V → Hp → VK → Prop := fun xs zs H Q => ∃ (a : Addr) (kvs : List (Key × V)) (ks : List Int), xs = [.ref a] ∧ zs = zs0 ∧ H a = some (.dK kvs) ∧ kvs.map (·.1) = ks.map Sum.inl ∧
  ∀ (ys : List Int) (p : Addr), ys.Perm ks → OrdB b ys → H p = none → Q (.ref p) (upd H p (.lst (ys.map V.int)))
section
variable {X : Cx}
theorem sortD_run (hcalm : X.calm = true) {b : Bool} {kw : List (Str × Value)} {pins : List (Addr × Obj)} {s : Shared} {σ : L2.St} {H : Hp} {a : Addr} {kvs : List (Key × V)} {ks : List Int} {Q : VK} (I : Inv X pins σ H s) (hd : H a = some (.dK kvs)) (hks : kvs.map (·.1) = ks.map Sum.inl)
    (hk : ∀ a, Builtin.«list.sort» ⟨[.ref a], kw⟩ = Builtin.«list.sort» ⟨[.ref a], [(Str.ofString "reverse", .bool b)]⟩) (ha1 : argsOk "sorted" ⟨[.ref a], kw⟩) (ha2 : ∀ a, argsOk "list.sort" ⟨[a], kw⟩)
    (q : ∀ (ys : List Int) (p : Addr), ys.Perm ks → OrdB b ys → H p = none → Q (.ref p) (upd H p (.lst (ys.map V.int)))) : wpAny (model X.prog X.w) X.A (call (.builtin "sorted") [.ref a] kw) (EP X pins σ Q) X.xe s := by
  obtain ⟨z, lo, vs, rel, dd⟩ := dk_of I.hok hd
  have hkeys : vs.map (·.1) = ks.map Sum.inl := rel.keys.symm.trans hks
  obtain ⟨es, ep, hr, hsz, hall⟩ := mixRaw dd
  have hl : vs.length = ks.length := by
    have e := congrArg List.length hkeys
    rw [List.length_map, List.length_map] at e
    exact e
  have hz : es.size ≤ sizeLine := by rw [hsz, ← rel.length]; exact z
  have hi : IntsAre (es.toList.map (·.key)) ks := ints_each (by rw [List.length_map, Array.length_toList, hsz, hl]) fun j v e => by
    have hj : j < ks.length := by
      have := (List.getElem?_eq_some_iff.mp e).1
      rw [List.length_map, Array.length_toList, hsz, hl] at this
      exact this
    have e3 : (vs.map (·.1))[j]? = some (Sum.inl ks[j]) := by rw [hkeys, List.getElem?_map, List.getElem?_eq_getElem hj]; rfl
    obtain ⟨v', e4, k4⟩ := hall j _ e3
    rw [e] at e4
    cases e4
    rcases keyIs_shape k4 with ⟨i, t, ek, ev⟩ | ⟨y, t, ek, ev⟩
    · cases ek
      exact ⟨_, t, List.getElem?_eq_getElem hj, ev⟩
    · cases ek
  refine sorted_raw lo (I.ok.hd hcalm) hr hz hk ha1 ha2 SrtO.swo_int (fun h2 h₁ tk a' _ _ => SrtO.ints_sortable hi h2) fun out h1 h' tk a' n h2 h3 k1 k2 ha' hn => ?_
  obtain ⟨ns', g1, g2, g3⟩ := SrtR.ints_outR hi h2 h3
  have I1 : Inv X pins σ H { s with heap := h1, toks := tk } := I.kept k1
  have e0 : ((if b = true then out.toArray.reverse else out.toArray).toList).toArray = (if b = true then out.toArray.reverse else out.toArray) := by rw [Array.toArray_toList]
  have hlen : (ns'.map V.int).length ≤ sizeLine := by
    rw [List.length_map, g2.length_eq, ← hl, ← hsz]
    exact hz
  exact ⟨.ref a', upd H a' (.lst (ns'.map V.int)), I1.laid (t' := tk) k2 ha' ⟨hlen, _, n, vals_of_ints g1, by rw [e0]; exact hn⟩, rfl, q _ _ g2 g3 (I1.hok.fresh ha')⟩
theorem cr_sortDRev (hcalm : X.calm = true) {b : Bool} : CallRK X (.builtin "sorted") [Str.ofString "reverse"] (rSortD b [.bl b]) := by
  intro pins s σ H vs zs us ws Q I r rz h
  obtain ⟨a, kvs, ks, rfl, rfl, hs, hks, q⟩ := h
  obtain rfl := Vals.ref1 r
  obtain ⟨w1, rfl, e1⟩ := vals1 rz
  obtain rfl : w1 = Value.bool b := e1
  exact sortD_run hcalm I hs hks (fun _ => rfl) (PyProof.Rows.args_sorted_rev _ _) (fun _ => PyProof.Rows.args_list_sort_rev _ _) q
end

-- import HandS.DictComp
/-! ### dict comprehensions, pop(i), in a tuple of ints -/
section
variable {K : PySem.W.Frag} {φ φ' : Addr → Prop} {Jb J J' : Hp → Prop} {H H' H1 : Hp} {ρ ρ' : List (Option D)} {σ : L2.St} {te tb tk tv : TE} {x y z d : D} {P : D → Prop} {ds es : List D} {v : V} {vs : List V} {D0 : Ends} {l : Addr}
def foldK (kf : D → Key) (vf : D → D) (ds : List D) : List (Key × D) := ds.foldl (fun acc d => putD acc (kf d) (vf d)) []
theorem foldK_snoc {kf : D → Key} {vf : D → D} {ds : List D} {d : D} : foldK kf vf (ds ++ [d]) = putD (foldK kf vf ds) (kf d) (vf d) := by
  unfold foldK
  rw [List.foldl_append]
  rfl
theorem foldK_len {kf : D → Key} {vf : D → D} {ds : List D} : (foldK kf vf ds).length ≤ ds.length := by
  suffices h : ∀ acc : List (Key × D), (ds.foldl (fun acc d => putD acc (kf d) (vf d)) acc).length ≤ acc.length + ds.length by
    have := h []
    rw [List.length_nil, Nat.zero_add] at this
    exact this
  induction ds with
  | nil => intro acc; exact Nat.le_refl _
  | cons d ds ih =>
    intro acc
    have h1 := ih (putD acc (kf d) (vf d))
    have h2 := putD_len acc (kf d) (vf d)
    rw [List.foldl_cons, List.length_cons]
    omega
/-- {k: v for x in ds} -/
theorem en_dc {wi : TI} {g : TG} {ws us : List Nat} {ρd : D → List (Option D)} {kf : D → Key} {vf : D → D} (hi : IterD K φ J wi ρ ds) (hl : ds.length ≤ 1000000) (hu : ∀ i ∈ us, i ∈ ws)
    (hg : ∀ d ∈ ds, EvG K g d (wipeR ρ ws) (ρd d) us)
    (hk : ∀ d ∈ ds, ∀ φ' J', Ext φ J φ' J' → EvD K φ' J' tk (ρd d) (keyD (kf d)))
    (he : ∀ d ∈ ds, ∀ φ' J', Ext φ J φ' J' → EvD K φ' J' tv (ρd d) (vf d)) :
    EvNO K φ J (tDc wi g tYes tk tv ws) ρ (fun xs C => xs = ((foldK kf vf ds).map (·.2)) ∧ C = fun vs => HO.dK (((foldK kf vf ds).map (·.1)).zip vs)) := fun σ H A Q q => by
  refine hi σ H A _ fun J0 ds' H1 b1 A1 pd w => ?_
  subst pd
  intro D0 hD
  have neP : ∀ p s ns, Pooled φ J p s ns → p ≠ D0 := fun p s ns hp => by
    obtain ⟨a1, a2, a3, a4, h1, _⟩ := hp.ok _ A1.j
    exact ne_of_none h1 hD
  let φ' : Addr → Prop := fun a => φ a ∧ a ≠ D0
  let KV (i : Nat) : List (Key × D) := foldK kf vf (ds'.take i)
  have ext : ∀ acc : HO, Ext φ J φ' (fun H => J H ∧ H D0 = some acc) := fun acc => ⟨fun _ h => h.1, fun p s ns hp => ⟨fun z => hp.np z.1, hp.ne, fun H h => hp.ok H h.1, fun H H' h k o => ⟨hp.st H H' h.1 k o, k _ _ (neP p s ns hp).symm h.2⟩⟩, fun a p h => ⟨p, fun e => h H1 A1.j (by rw [e]; exact hD)⟩⟩
  have mono : ∀ (acc : HO) (H2 : Hp), (∀ a, H1 a ≠ none → H2 a ≠ none) → H2 D0 ≠ none → Mo H2 (fun H => J H ∧ H D0 = some acc) := fun acc H2 s h => (A1.mono.up s).and (Mo.at h)
  refine ⟨fun i m H2 => m = ds'.length - i ∧ i ≤ ds'.length ∧ But φ H1 H2 ∧ ∃ acc, Reps K φ' H2 ((KV i).map (·.2)) acc ∧ At K φ' (fun H => J H ∧ H D0 = some (.dK (((KV i).map (·.1)).zip acc))) (wipeR ρ ws) (L2.wipe σ ws) H2,
    ⟨ds'.length, rfl, Nat.zero_le _, But.of (same_new hD), [], Reps.nil, ?_⟩, ?_⟩
  · have A2 := A1.newLive (o := .dK []) (J' := fun H => J H ∧ H D0 = some (.dK [])) hD ⟨A1.mono _ _ (fun a o _ e => same_new hD a o e) A1.j, upd_same⟩ (mono _ _ upd_tr (by rw [upd_same]; exact fun z => by cases z))
    exact ⟨A2.sr.wipe ws, A2.fr, A2.j, A2.mono⟩
  · rintro i m H2 ⟨rfl, hi, b2, acc, rs, A2⟩
    have upw : Up φ φ' H1 H2 := fun a o p e => ⟨⟨p, ne_of_none e hD⟩, b2.keep a o p e⟩
    have fr2 : Frm φ' H2 := A2.fr
    obtain ⟨wg, wstop⟩ := w φ' i H2 upw fr2
    by_cases hlt : i < ds'.length
    · have hd : ds'[i]? = some ds'[i] := List.getElem?_eq_getElem hlt
      obtain ⟨go, yl⟩ := wg _ hd
      have hmem : ds'[i] ∈ ds' := List.getElem_mem hlt
      have tkk : KV (i + 1) = putD (KV i) (kf ds'[i]) (vf ds'[i]) := by
        show foldK kf vf (ds'.take (i + 1)) = _
        rw [List.take_add_one, hd]
        exact foldK_snoc
      refine .inr ⟨go, fun H3 => But φ H1 H3 ∧ ∃ acc, Reps K φ' H3 ((KV (i + 1)).map (·.2)) acc ∧ At K φ' (fun H => J H ∧ H D0 = some (.dK (((KV (i + 1)).map (·.1)).zip acc))) (wipeR ρ ws) (L2.wipe σ ws) H3, ?_, ?_⟩
      · rintro H3 ⟨b3, acc3, r3, A3⟩
        exact ⟨ds'.length - (i + 1), by omega, rfl, hlt, b3, acc3, r3, A3⟩
      · intro x H3 hy
        obtain ⟨s3, r3⟩ := yl x H3 hy
        have A3 := A2.same s3
        have rs3 := rs.mono (But.of (φ := φ') s3)
        have b3 : But φ H1 H3 := b2.trans (But.of s3)
        refine hg _ hmem φ' _ _ H3 x A3 r3 _ fun σ4 A4 hw4 => ⟨?_, ?_⟩
        · rw [hw4 ws hu]
          exact wipe_wipe ws
        · refine et_yes (K := K) (φ := φ') σ4 H3 A4 _ fun bb H4 b4 A4' hbb => ?_
          subst hbb
          rw [if_pos rfl]
          refine hk _ hmem φ' _ (ext _) σ4 H4 A4' _ fun u d5 H5 b5 A5 e5 r5 => he _ hmem φ' _ (ext _) σ4 H5 A5 _ fun v d6 H6 b6 A6 e6 r6 => ?_
          subst e5 e6
          have ek : u = kV (kf ds'[i]) := keyD_v r5
          have nD : ¬ φ' D0 := fun z => z.2 rfl
          have b46 : But φ' H3 H6 := (b4.trans b5).trans b6
          obtain ⟨acc', ep, rp⟩ := zip_put (k := kf ds'[i]) r6 (rs3.mono b46)
          have bb6 : But φ H1 H6 := ⟨fun a o p e => b46.keep a o ⟨p, ne_of_none e hD⟩ (b3.keep a o p e), fun a h => b46.tr a (b3.tr a h)⟩
          have hlen : (((KV i).map (·.1)).zip acc).length < sizeLine := szlt (by
            have h1 : (KV i).length ≤ (ds'.take i).length := foldK_len
            rw [List.length_zip, List.length_map]
            rw [List.length_take] at h1
            omega)
          refine ⟨_, kf ds'[i], ek, A6.j.2, hlen, ?_⟩
          rw [ep, tkk]
          refine ⟨⟨fun a o p e => ?_, fun a h => upd_tr a (bb6.tr a h)⟩, acc', rp.mono ((But.refl φ' H6).upd nD), ?_⟩
          · rw [upd_ne (ne_of_none e hD)]
            exact bb6.keep a o p e
          · have A6' : At K φ' (fun H => J H ∧ H D0 = some (.dK (((KV i).map (·.1)).zip acc))) (wipeR ρ ws) (L2.wipe σ ws) H6 := ⟨A3.sr.up (Up.of b46), A6.fr, A6.j, A6.mono⟩
            have jj : ∀ o, J (upd H6 D0 o) := fun o => A1.mono H6 _ (fun a o h e => by
              rw [upd_ne (show a ≠ D0 from fun z => h (by rw [z]; exact hD))]
              exact e) A6.j.1
            exact A6'.upd nD ⟨jj _, upd_same⟩ (mono _ _ (fun a h => upd_tr a (bb6.tr a h)) (by rw [upd_same]; exact fun z => by cases z))
    · have e : i = ds'.length := by omega
      subst e
      refine .inl ⟨wstop rfl, ?_⟩
      have eF : KV ds'.length = foldK kf vf ds' := by
        show foldK kf vf (ds'.take _) = _
        rw [List.take_length]
      rw [eF] at rs A2
      have A3 : At K φ J ρ σ H2 := ⟨A1.sr.up (Up.of b2), A2.fr.fst, A2.j.1, A1.mono.up b2.tr⟩
      exact q D0 acc _ _ H1 H2 b1 A1 hD b2 A3 ⟨rfl, rfl⟩ (fun _ h => nomatch h) A2.j.2 rs
/-- x = xs.pop(i) -/
theorem st_popL {j k n : Nat} {i : Int} (A : At K φ J ρ σ H) (L : Liv K φ Jb J l ds) (hk : ρ[k]? = some (some (.raw (.ref l)))) (hn : seqIndex? i ds.length = some n) (hd : ds[n]? = some d) (h1 : -(2 ^ 63) ≤ i) (h2 : i < 2 ^ 63)
    (kk : ∀ J' σ' H', Liv K φ Jb J' l (ds.eraseIdx n) → At K φ J' (ρ.set j (some d)) σ' H' → D0.nx σ' H') : tAsg (tBM K "list" rPopAt (tVar k) (tCons (tC (.int i)) tNil)) (gName j) D0 σ H := by
  obtain ⟨vs, H0, r, m, hl, rfl⟩ := L.ex
  obtain ⟨w, e, rw'⟩ := A.sr.2 k _ hk
  cases (show w = _ from rw')
  obtain ⟨v, hv, rv⟩ := r.get hd
  have b0 : But φ H0 H := A.j.2
  refine ⟨_, e, .inl ⟨rfl, _, SqL.of A.j.1.2⟩, l, vs, i, n, v, rfl, rfl, A.j.1.2, h1, h2, by rw [r.length]; exact hn, hv, ?_⟩
  have re : ∀ (ds : List D) (vs : List V) (n : Nat), Reps K φ H0 ds vs → Reps K φ H0 (ds.eraseIdx n) (vs.eraseIdx n) := by
    intro ds
    induction ds with
    | nil =>
      intro vs n h
      cases (show vs = [] from h)
      exact Reps.nil
    | cons x ds ih =>
      intro vs n h
      obtain ⟨u, r', rfl, g1, g2⟩ := (show ∃ v r, vs = v :: r ∧ Rep K φ H0 x v ∧ Reps K φ H0 ds r from h)
      cases n with
      | zero => exact g2
      | succ n => exact Reps.cons g1 (ih r' n g2)
  have bu : But φ H0 (L2.upd H l (.lst (vs.eraseIdx n))) := b0.upd L.np
  refine kk _ _ _ ⟨L.np, L.st, L.pl, vs.eraseIdx n, L2.upd H l (.lst (vs.eraseIdx n)), (re ds vs n r).mono bu, m.up bu.tr, (by rw [upd_same]; exact fun z => nomatch z), rfl⟩ ?_
  have A2 := A.upd (J' := fun H'' => (Jb H'' ∧ H'' l = some (.lst (vs.eraseIdx n))) ∧ But φ (L2.upd H l (.lst (vs.eraseIdx n))) H'') L.np ⟨⟨L.st _ _ A.j.1.1, upd_same⟩, But.refl _ _⟩ (((m.up bu.tr).and (Mo.at (by rw [upd_same]; exact fun z => nomatch z))).and (Mo.but fun _ h => h))
  exact A2.set j (rv.mono bu)
/-- an int in a tuple or list of ints -/
theorem inV_ints {i : Int} : ∀ ns : List Int, inV (.int i) (ns.map V.int) = decide (i ∈ ns)
  | [] => rfl
  | n :: ns => by
    have ih := inV_ints (i := i) ns
    unfold inV at ih ⊢
    rw [List.map_cons, List.any_cons, ih]
    by_cases h : i = n
    · subst h
      simp [eqV]
    · have h' : ¬ n = i := fun z => h z.symm
      simp [eqV, h, h']
theorem flat_ints {ns : List Int} : (ns.map V.int).all flatV = true := by
  rw [List.all_map, List.all_eq_true]
  intro _ _
  rfl
theorem ev_inT {i : Int} {ns : List Int} (ha : EvD K φ J te ρ (.int i)) (hb : EvD K φ J tb ρ (.tup (ns.map D.int))) : EvD K φ J (tOp (rIn K false) te tb) ρ (.bl (decide (i ∈ ns))) := ev_opD ha hb fun H v w _ r1 r2 Q q => by
  cases (show v = _ from r1)
  obtain ⟨a, vs, rfl, p, rs⟩ := rep_tup r2
  rw [rs.ints] at p
  exact ⟨a, _, rfl, .inr p.sq, rfl, flat_ints, q _ _ H (Same.refl H) rfl (by rw [if_neg (by simp), inV_ints]; rfl)⟩
theorem ev_inL {i : Int} {ns : List Int} (ha : EvD K φ J te ρ (.int i)) (hb : EvD K φ J tb ρ (.lst (ns.map D.int))) : EvD K φ J (tOp (rIn K false) te tb) ρ (.bl (decide (i ∈ ns))) := ev_opD ha hb fun H v w _ r1 r2 Q q => by
  cases (show v = _ from r1)
  obtain ⟨a, vs, rfl, p, rs⟩ := rep_lst r2
  rw [rs.ints] at p
  exact ⟨a, _, rfl, .inl p.sq, rfl, flat_ints, q _ _ H (Same.refl H) rfl (by rw [if_neg (by simp), inV_ints]; rfl)⟩
/-- .. in a live list -/
theorem ev_inLL {i : Int} {ns : List Int} (L : Liv K φ Jb J l (ns.map D.int)) (ha : EvD K φ J te ρ (.int i)) (hb : EvD K φ J tb ρ (.raw (.ref l))) : EvD K φ J (tOp (rIn K false) te tb) ρ (.bl (decide (i ∈ ns))) := fun σ H A Q q =>
  ha σ H A _ fun v x H1 b1 A1 e1 r1 => hb σ H1 A1 _ fun w y H2 b2 A2 e2 r2 => by
    subst e1 e2
    cases (show v = _ from r1)
    cases (show w = _ from r2)
    obtain ⟨vs, H0, r, m, hl, rfl⟩ := L.ex
    have ev := r.ints
    subst ev
    exact ⟨l, _, rfl, .inl (SqL.of A2.j.1.2), rfl, flat_ints, q _ _ H2 (b1.trans b2) A2 rfl (by rw [if_neg (by simp), inV_ints]; rfl)⟩
theorem ev_notInLL {i : Int} {ns : List Int} (L : Liv K φ Jb J l (ns.map D.int)) (ha : EvD K φ J te ρ (.int i)) (hb : EvD K φ J tb ρ (.raw (.ref l))) : EvD K φ J (tOp (rIn K true) te tb) ρ (.bl (!decide (i ∈ ns))) := fun σ H A Q q =>
  ha σ H A _ fun v x H1 b1 A1 e1 r1 => hb σ H1 A1 _ fun w y H2 b2 A2 e2 r2 => by
    subst e1 e2
    cases (show v = _ from r1)
    cases (show w = _ from r2)
    obtain ⟨vs, H0, r, m, hl, rfl⟩ := L.ex
    have ev := r.ints
    subst ev
    exact ⟨l, _, rfl, .inl (SqL.of A2.j.1.2), rfl, flat_ints, q _ _ H2 (b1.trans b2) A2 rfl (by rw [if_pos rfl, inV_ints]; rfl)⟩
/-- sorted(d, reverse=b), the keys ints -/
theorem ev_sortDRev {td : TE} {b : Bool} {tb' : TA} {kds : List (Key × D)} {ks : List Int} (hd : EvDict K φ J td ρ kds) (hks : kds.map (·.1) = ks.map Sum.inl) (hb : EvAD K φ J tb' ρ [.bl b]) :
    EvP K φ J (tCKw (rSortD b [.bl b]) (tCons td tNil) tb') ρ (fun z => ∃ ns : List Int, z = .lst (ns.map D.int) ∧ ns.Perm ks ∧ OrdB b ns) := fun σ H A Q q =>
  hd σ H A _ fun a H1 b1 A1 per => hb σ H1 A1 _ fun ws ds H2 b2 A2 e2 r2 => by
    subst e2
    obtain ⟨w, rfl, r⟩ := r2.one
    cases (show w = _ from r)
    obtain ⟨vs, ea, rs⟩ := per H2 b2 A2.j
    have hl : vs.length = kds.length := by rw [rs.length, List.length_map]
    refine ⟨a, _, ks, rfl, rfl, ea, ?_, fun ys p hp ho hn => ?_⟩
    · rw [List.map_fst_zip (by rw [List.length_map]; omega), hks]
    · exact q _ (.lst (ys.map D.int)) _ ((b1.trans b2).trans (But.of (same_new hn))) (A2.same (same_new hn)) ⟨ys, rfl, hp, ho⟩ ⟨p, _, rfl, .inl ⟨A2.fr p hn, .inl upd_same⟩, Reps.of_ints⟩
end
section
variable {K : PySem.W.Frag} {φ : Addr → Prop} {J : Hp → Prop} {ρ : List (Option D)} {te : TE} {Jb : Hp → Prop} {l : Addr}
/-- sorted of ints, any number of them -/
theorem c_sortedA {X : Cx} : CallR X (.builtin "sorted") (rSortedI X.K) := cr_sortedI
theorem ev_sortedA {ns : List Int} (ha : EvD K φ J te ρ (.lst (ns.map D.int))) : EvP K φ J (tCB (rSortedI K) (tCons te tNil)) ρ (fun z => ∃ ns' : List Int, z = .lst (ns'.map D.int) ∧ ns'.Perm ns ∧ ns'.Pairwise (· ≤ ·)) := ev_cbD (ea_cons ha ea_nil) fun H vs f r Q q => by
  obtain ⟨v, rfl, r1⟩ := r.one
  obtain ⟨a, rfl, h⟩ := rep_ints r1
  exact ⟨a, ns, rfl, h, fun ns' p hp hs hn => q _ _ _ (same_new hn) ⟨ns', rfl, hp, hs⟩ ⟨p, _, rfl, .inl ⟨f p hn, .inl upd_same⟩, Reps.of_ints⟩⟩
end
section
variable {X : Cx}
theorem sw_trueD {kx vx : Expr} {gs : List Comprehension} {scope : Scope} {pos py : Pos} {y : Str} {l : Nat} {env : Env} (hk : env.scope.kind = .function) (hy : env.scope.names.lookup y = some .local) (hl : (py.line == pos.line) = true)
    (ha : (scope.names.any fun (n, k) => n == y && (k == .local || k == .cell)) = false) : swapsWith (.DictComp kx vx gs scope pos) (some (.Name y py)) l env = pure true := by
  have ky : env.kindOf y = some .local := hy
  have hb : env.blockKind = .function := by unfold Env.blockKind; rw [hk]; rfl
  unfold swapsWith
  simp only [hb, ky, ha, Expr.pos, hl]
  rfl
/-- x = {k: v for ..} -/
theorem ps_setDc {i : Nat} {y : Str} {py : Pos} {kx vx tg iter : Expr} {ifs : List Expr} {scope : Scope} {own : List (Str × Nat)} {pos spos : Pos} {wi : TI} {g : TG} {tt : TT} {tk tv : TE} (hc : X.calm = true) (hN : X.N.Nodup) (hy : X.N[i]? = some y) (hyl : X.env.scope.names.lookup y = some .local)
    (hsw : swapsWith (.DictComp kx vx [⟨tg, iter, ifs, 0⟩] scope pos) (some (.Name y py)) spos.line X.env = pure true) (hi : PI X tg iter wi) (ok : BlkOk X.N X.env.scope scope own)
    (hg : ∀ (s : Shared) (H : Hp) (C : Addr) (cl : List (Str × Addr)) (fp : List Addr), PG (X.blk s H scope (compEnvC scope cl C X.env) fp) tg g) (ht : ∀ (s : Shared) (H : Hp) (C : Addr) (cl : List (Str × Addr)) (fp : List Addr), PTs (X.blk s H scope (compEnvC scope cl C X.env) fp) ifs tt)
    (hk : ∀ (s : Shared) (H : Hp) (C : Addr) (cl : List (Str × Addr)) (fp : List Addr), PE (X.blk s H scope (compEnvC scope cl C X.env) fp) kx tk)
    (he : ∀ (s : Shared) (H : Hp) (C : Addr) (cl : List (Str × Addr)) (fp : List Addr), PE (X.blk s H scope (compEnvC scope cl C X.env) fp) vx tv) (hs : ∀ x, foldedSetIterable iter X.env x = pure x := by intro _; rfl) :
    PS X (.Assign [.Name y py] (.DictComp kx vx [⟨tg, iter, ifs, 0⟩] scope pos) spos) (tAsg (tDc wi g tt tk tv (own.map (·.2))) (gName i)) := by
  refine ⟨fun pins s σ H D I h => ?_⟩
  rw [exec_Assign_Name_used _ _ _ _ hsw]
  refine wpAny_bind (wpAny_standAt (wpAny_bind ?_))
  show wpAny _ X.A (do let _ ← comprehension (.DictComp kx vx [⟨tg, iter, ifs, 0⟩] scope pos) scope X.env (firstIterPos [⟨tg, iter, ifs, 0⟩] pos) newDict false (eval iter X.env) (some (assign (.Name y py) X.env))) _ _ s
  have h : tDc wi g tt tk tv (own.map (·.2)) σ H (fun x H1 => gName i x σ H1 D.nx) := h
  refine wpAny_bind (thn (dc_core (Qf := fun _ s' => SP X pins D .next s') hc hN I hi ok hg ht hk he hs h fun L C s' m H' I' q hn f => ?_) fun _ s' hq => wpAny_pure (wpAny_pure hq))
  show wpAny _ _ (assign (.Name y py) X.env (.ref L)) _ _ _
  refine wpAny_assign_Name (store_ok2 (v := V.ref L) I' hN hy (.inl hyl) rfl (fun s2 I2 ⟨a, sb, ha⟩ => ?_) (.inr hyl))
  obtain ⟨f0, f1, f2, f3, f4, f5⟩ := f
  have haC : C ≠ a := by
    rcases ha with z | z
    · rw [z]; exact f1
    · exact fun e => f4 y a z e.symm
  refine ⟨m, hn.sameBut sb haC, fun h3 sb3 => ?_⟩
  exact ⟨_, H', I2.turned (t' := s2.toks) (fun b o hb e => (sb3.2 b hb).trans e) f0 f1 f3 f4 f5, q⟩
end

/-! ### live objects, any number of them: what J says of each -/
structure LivS (K : PySem.W.Frag) (φ : Addr → Prop) (J : Hp → Prop) (l : Addr) (C : List V → HO) (ds : List D) : Prop where
  np : ¬ φ l
  ex : ∃ vs H0, Reps K φ H0 ds vs ∧ H0 l ≠ none ∧ ∀ H, J H → H l = some (C vs) ∧ But φ H0 H
/-- J' : l is written, the rest is as J has it -/
structure Wr (K : PySem.W.Frag) (φ : Addr → Prop) (J J' : Hp → Prop) (l : Addr) : Prop where
  base : ∀ Jb : Hp → Prop, (∀ H, J H → Jb H) → Stab l Jb → ∀ H, J' H → Jb H
  pool : ∀ p s ns, Pooled φ J p s ns → p ≠ l → s ≠ l → Pooled φ J' p s ns
  liv : ∀ l2 C2 ds2, LivS K φ J l2 C2 ds2 → l2 ≠ l → LivS K φ J' l2 C2 ds2
/-- a new object at l: J' has what J has -/
structure Nw (K : PySem.W.Frag) (φ : Addr → Prop) (J J' : Hp → Prop) (l : Addr) : Prop where
  fr : φ l
  ext : Ext φ J (wo φ l) J'
  pl : ∀ p s ns, Pooled φ J p s ns → p ≠ l ∧ s ≠ l
  liv : ∀ l2 C2 ds2, LivS K φ J l2 C2 ds2 → l2 ≠ l ∧ LivS K (wo φ l) J' l2 C2 ds2
  st : Stab l J
  hc : ∃ Hc, J Hc ∧ Hc l = none
section
variable {K : PySem.W.Frag} {φ φ' : Addr → Prop} {Jb J J' : Hp → Prop} {H H' H1 : Hp} {ρ ρ' : List (Option D)} {σ : L2.St} {ta : TA} {te tb td ty tv : TE} {x y z d : D} {P Pa Pb : D → Prop} {ds es : List D} {v : V} {vs : List V} {D0 : Ends} {t u : TS} {l : Addr} {C : List V → HO}
theorem LivS.imp (L : LivS K φ J l C ds) (h : ∀ H, J' H → J H) : LivS K φ J' l C ds := ⟨L.np, let ⟨vs, H0, r, n, k⟩ := L.ex; ⟨vs, H0, r, n, fun H j => k H (h H j)⟩⟩
theorem LivS.but (L : LivS K φ J l C ds) : LivS K φ (fun H => J H ∧ But φ H1 H) l C ds := L.imp fun _ h => h.1
theorem upd_upd {H : Hp} {l : Addr} {o u : HO} (h : H l = some o) : L2.upd (L2.upd H l u) l o = H := funext fun a => by
  by_cases e : a = l
  · rw [e, upd_same, h]
  · rw [upd_ne e, upd_ne e]
theorem But.unupd {l : Addr} {u : HO} {H0 H : Hp} (np : ¬ φ l) (hl : H l ≠ none) (b : But φ H0 (L2.upd H l u)) : But φ H0 H := ⟨fun a o p e => by
  have z := b.keep a o p e
  rw [upd_ne (show a ≠ l from fun z => np (z ▸ p))] at z
  exact z, fun a h => by
  by_cases e : a = l
  · rw [e]; exact hl
  · have z := b.tr a h
    rw [upd_ne e] at z
    exact z⟩
/-- l is written -/
def wrJ (φ : Addr → Prop) (J : Hp → Prop) (l : Addr) (o : HO) (H3 : Hp) : Hp → Prop := fun H => (H l = some o ∧ ∃ u, J (L2.upd H l u)) ∧ But φ H3 H
theorem LivS.write {C' : List V → HO} {ds' : List D} {vs' : List V} (L : LivS K φ J l C ds) (A : At K φ J ρ σ H) (r : Reps K φ H ds' vs') (hC : ∀ xs, C' vs' ≠ .tup xs := by intro xs h; cases h) :
    At K φ (wrJ φ J l (C' vs') (L2.upd H l (C' vs'))) ρ σ (L2.upd H l (C' vs')) ∧ LivS K φ (wrJ φ J l (C' vs') (L2.upd H l (C' vs'))) l C' ds' ∧ Wr K φ J (wrJ φ J l (C' vs') (L2.upd H l (C' vs'))) l := by
  obtain ⟨vs, H0, r0, n0, k0⟩ := L.ex
  have hl := (k0 H A.j).1
  have hln : H l ≠ none := by rw [hl]; exact fun z => nomatch z
  refine ⟨A.upd (ho := hC) L.np ⟨⟨upd_same, C vs, by rw [show L2.upd (L2.upd H l (C' vs')) l (C vs) = H from upd_upd hl]; exact A.j⟩, But.refl _ _⟩ ?_, ⟨L.np, vs', _, r.mono ((But.refl φ H).upd L.np), (by rw [upd_same]; exact fun z => nomatch z), fun H' h => ⟨h.1.1, h.2⟩⟩, ⟨fun Jb hb st H' h => ?_, fun p s ns hp hpl hsl => ?_, fun l2 C2 ds2 L2' hne => ?_⟩⟩
  · refine Mo.and (fun Ha Hb k j => ⟨k l _ (by rw [upd_same]; exact fun z => nomatch z) j.1, ?_⟩) (Mo.but fun _ h => h)
    obtain ⟨u, ju⟩ := j.2
    refine ⟨u, A.mono _ _ (fun a o h e => ?_) ju⟩
    by_cases ea : a = l
    · rw [ea, upd_same] at e ⊢
      exact e
    · rw [upd_ne ea] at e ⊢
      exact k a o (upd_tr a h) e
  · obtain ⟨⟨e, u, ju⟩, _⟩ := h
    have z := st _ (C' vs') (hb _ ju)
    rw [upd_upd e] at z
    exact z
  · refine ⟨hp.np, hp.ne, fun H' h => ?_, fun Ha Hb h k o => ?_⟩
    · obtain ⟨⟨e, u, ju⟩, _⟩ := h
      obtain ⟨a, c, n, z, e1, e2, h0⟩ := hp.ok _ ju
      rw [upd_ne hpl] at e1
      rw [upd_ne hsl] at e2
      exact ⟨a, c, n, z, e1, e2, h0⟩
    · obtain ⟨⟨e, u, ju⟩, b⟩ := h
      refine ⟨⟨k l _ hpl.symm e, u, hp.st _ _ ju (fun a w na ea => ?_) ?_⟩, Ext.but2 hp.np _ _ b k o⟩
      · by_cases eal : a = l
        · rw [eal, upd_same] at ea ⊢
          exact ea
        · rw [upd_ne eal] at ea ⊢
          exact k a w na ea
      · obtain ⟨a, c, n, z, e1, e2, h0⟩ := o
        exact ⟨a, c, n, z, by rw [upd_ne hpl]; exact e1, by rw [upd_ne hsl]; exact e2, h0⟩
  · obtain ⟨vs2, H2, r2, n2, k2⟩ := L2'.ex
    refine ⟨L2'.np, vs2, H2, r2, n2, fun H' h => ?_⟩
    obtain ⟨⟨e, u, ju⟩, _⟩ := h
    obtain ⟨e2, b2⟩ := k2 _ ju
    rw [upd_ne hne] at e2
    exact ⟨e2, b2.unupd L.np (by rw [e]; exact fun z => nomatch z)⟩
theorem Nw.same {H0 : Hp} (N : Nw K φ J J' l) (hb : ∀ H', J H' → Same H0 H') : Stab l (Same H0) := fun H' o s => by
  obtain ⟨Hc, jc, e⟩ := N.hc
  exact Same.upd_live s ((hb Hc jc).free e)
theorem stab_pool {p s : Addr} {ns : List Int} (h1 : p ≠ l) (h2 : s ≠ l) : Stab l (PoolOk p s ns) := fun H' o j => by
  obtain ⟨a, c, n, z, e1, e2, h0⟩ := j
  exact ⟨a, c, n, z, by rw [upd_ne h1]; exact e1, by rw [upd_ne h2]; exact e2, h0⟩
/-- x = a new object -/
theorem st_newS {k : Nat} {P : List D → (List V → HO) → Prop} (A : At K φ J ρ σ H) (h : EvNO K φ J te ρ P) (kk : ∀ l ds C J' σ' H', P ds C → Nw K φ J J' l → LivS K (wo φ l) J' l C ds → At K (wo φ l) J' (ρ.set k (some (.raw (.ref l)))) σ' H' → D0.nx σ' H') : tAsg te (gName k) D0 σ H :=
  h σ H A _ fun p vs ds C H0 H' b0 A0 hp b A' pd nt e r => by
    have hpH : H p = none := by
      cases z : H p with
      | none => rfl
      | some u => exact absurd hp (b0.tr p (by rw [z]; exact fun w => by cases w))
    have u : Up φ (wo φ p) H H' := fun a o q e2 => ⟨⟨q, ne_of_none e2 hpH⟩, (b0.trans b).keep a o q e2⟩
    have pne : ∀ s ps ns, Pooled φ J s ps ns → s ≠ p ∧ ps ≠ p := fun s ps ns q => by
      obtain ⟨_, _, _, _, h1, h2, _⟩ := q.ok _ A0.j
      exact ⟨ne_of_none h1 hp, ne_of_none h2 hp⟩
    have hpn : H' p ≠ none := by rw [e]; exact fun z => nomatch z
    have A2 : At K (wo φ p) (fun H => (J H ∧ H p = some (C vs)) ∧ But (wo φ p) H' H) ρ σ H' :=
      ⟨A.sr.up u, A'.fr.at e nt, ⟨⟨A'.j, e⟩, But.refl _ _⟩, (A'.mono.and (Mo.at hpn)).and (Mo.but fun _ h => h)⟩
    refine kk p ds C _ _ H' pd ⟨A0.fr p hp, ⟨fun _ h => h.1.1, fun s ps ns q => ⟨fun z => q.np z.1, q.ne, fun H h => q.ok H h.1.1, fun Ha Hb h k o => ⟨⟨q.st _ _ h.1.1 k o, k _ _ (pne s ps ns q).1.symm h.1.2⟩, Ext.but2 (fun z => q.np z.1) _ _ h.2 k o⟩⟩, fun a p' h => ⟨p', fun e' => h H0 A0.j (by rw [e']; exact hp)⟩⟩, pne, fun l2 C2 ds2 L2' => ?_, Stab.of A0.mono hp, H0, A0.j, hp⟩ ⟨fun z => z.2 rfl, vs, H', r, hpn, fun H h => ⟨h.1.2, h.2⟩⟩ (A2.set k rfl)
    obtain ⟨vs2, H2, r2, n2, k2⟩ := L2'.ex
    obtain ⟨e0, b2⟩ := k2 _ A0.j
    have ne : l2 ≠ p := ne_of_none e0 hp
    refine ⟨ne, fun z => L2'.np z.1, vs2, H', ?_, (by rw [(k2 _ A'.j).1]; exact fun z => nomatch z), fun H h => ⟨(k2 _ h.1.1).1, h.2⟩⟩
    have r3 : Reps K φ H0 ds2 vs2 := r2.mono b2
    exact Reps.up (fun a o q e2 => ⟨⟨q, ne_of_none e2 hp⟩, b.keep a o q e2⟩) ds2 vs2 r3
theorem en_ofN {P : List D → Prop} (h : EvN K φ J te ρ P) : EvNO K φ J te ρ (fun ds C => P ds ∧ C = HO.lst) := fun σ H A Q q => h σ H A Q fun p vs ds H0 H' b0 A0 hp b A' pd e r => q p vs ds HO.lst H0 H' b0 A0 hp b A' ⟨pd, rfl⟩ (fun xs h => nomatch h) e r
/-- .append -/
theorem st_appS {k : Nat} (A : At K φ J ρ σ H) (L : LivS K φ J l HO.lst ds) (hk : ρ[k]? = some (some (.raw (.ref l)))) (he : EvP K φ J te ρ P) (hz : ds.length ≤ 1000000)
    (kk : ∀ d J' H', P d → Wr K φ J J' l → LivS K φ J' l HO.lst (ds ++ [d]) → At K φ J' ρ σ H' → D0.nx σ H') : tDrop (tBM K "list" rAppend (tVar k) (tCons te tNil)) D0 σ H := by
  obtain ⟨vs, H0, r, n, k0⟩ := L.ex
  refine st_app (vs := vs) A hk (fun H h => (k0 H h).1) he (by rw [r.length]; exact hz) fun v d H' pd rv b A' => ?_
  obtain ⟨A2, L2', W⟩ := L.write (C' := HO.lst) A' ((r.mono (k0 _ A'.j).2).append (Reps.cons rv Reps.nil))
  exact kk d _ _ pd W L2' A2
/-- xs[i] = e -/
theorem st_setLS {k n : Nat} {i : Int} (A : At K φ J ρ σ H) (L : LivS K φ J l HO.lst ds) (he : EvP K φ J te ρ P) (hk : ρ[k]? = some (some (.raw (.ref l)))) (hi : EvD K φ J tb ρ (.int i)) (hj : ixN ds.length i = some n)
    (kk : ∀ d J' H', P d → Wr K φ J J' l → LivS K φ J' l HO.lst (ds.set n d) → At K φ J' ρ σ H' → D0.nx σ H') : tAsg te (gSub (tVar k) tb rSetL) D0 σ H := by
  obtain ⟨vs, H0, r, n, k0⟩ := L.ex
  refine st_setL (vs := vs) A he hk hi (fun H h => (k0 H h).1) (by rw [r.length]; exact hj) fun v d H' pd rv b A' => ?_
  obtain ⟨A2, L2', W⟩ := L.write (C' := HO.lst) A' ((r.mono (k0 _ A'.j).2).set _ rv)
  exact kk d _ _ pd W L2' A2
theorem reps_erase : ∀ {ds : List D} {vs : List V} (n : Nat), Reps K φ H ds vs → Reps K φ H (ds.eraseIdx n) (vs.eraseIdx n)
  | [], vs, n, h => by
    cases (show vs = [] from h)
    exact Reps.nil
  | x :: ds, vs, n, h => by
    obtain ⟨u, r', rfl, g1, g2⟩ := (show ∃ v r, vs = v :: r ∧ Rep K φ H x v ∧ Reps K φ H ds r from h)
    cases n with
    | zero => exact g2
    | succ n => exact Reps.cons g1 (reps_erase n g2)
/-- x = xs.pop(i) -/
theorem st_popS {j k n : Nat} {i : Int} (A : At K φ J ρ σ H) (L : LivS K φ J l HO.lst ds) (hk : ρ[k]? = some (some (.raw (.ref l)))) (hn : seqIndex? i ds.length = some n) (hd : ds[n]? = some d) (h1 : -(2 ^ 63) ≤ i) (h2 : i < 2 ^ 63)
    (kk : ∀ J' σ' H', Wr K φ J J' l → LivS K φ J' l HO.lst (ds.eraseIdx n) → At K φ J' (ρ.set j (some d)) σ' H' → D0.nx σ' H') : tAsg (tBM K "list" rPopAt (tVar k) (tCons (tC (.int i)) tNil)) (gName j) D0 σ H := by
  obtain ⟨vs, H0, r, m, k0⟩ := L.ex
  obtain ⟨w, e, rw'⟩ := A.sr.2 k _ hk
  cases (show w = _ from rw')
  have r1 := r.mono (k0 _ A.j).2
  obtain ⟨v, hv, rv⟩ := r1.get hd
  refine ⟨_, e, .inl ⟨rfl, _, SqL.of (k0 _ A.j).1⟩, l, vs, i, n, v, rfl, rfl, (k0 _ A.j).1, h1, h2, by rw [r.length]; exact hn, hv, ?_⟩
  obtain ⟨A2, L2', W⟩ := L.write (C' := HO.lst) (vs' := vs.eraseIdx n) A (reps_erase n r1)
  exact kk _ _ _ W L2' (A2.set j (rv.mono ((But.refl φ H).upd L.np)))
theorem ev_lenS' (L : LivS K φ J l HO.lst ds) (hk : EvD K φ J te ρ (.raw (.ref l))) : EvD K φ J (tCB (rLen K) (tCons te tNil)) ρ (.int ds.length) := by
  obtain ⟨vs, H0, r, m, k0⟩ := L.ex
  rw [← r.length]
  exact ev_lenLive hk fun H h => (k0 H h).1
theorem ev_ixS {i : Int} (L : LivS K φ J l HO.lst ds) (hk : EvD K φ J te ρ (.raw (.ref l))) (hb : EvD K φ J tb ρ (.int i)) (e : L2.atI ds i = some d) : EvD K φ J (tOp (rIxL K) te tb) ρ d := by
  obtain ⟨vs, H0, r, m, k0⟩ := L.ex
  refine ev_ixLive hk hb fun H h => ⟨vs, (k0 H h).1, ?_⟩
  unfold L2.atI at e ⊢
  rw [r.length]
  cases hx : L2.ixN ds.length i with
  | none => rw [hx] at e; cases e
  | some n =>
    rw [hx] at e
    obtain ⟨v, hv, rv⟩ := r.get (i := n) e
    exact ⟨v, hv, rv.mono (k0 H h).2⟩
theorem ev_inS_ {i : Int} {ns : List Int} (L : LivS K φ J l HO.lst (ns.map D.int)) (ha : EvD K φ J te ρ (.int i)) (hb : EvD K φ J tb ρ (.raw (.ref l))) : EvD K φ J (tOp (rIn K false) te tb) ρ (.bl (decide (i ∈ ns))) := fun σ H A Q q =>
  ha σ H A _ fun v x H1 b1 A1 e1 r1 => hb σ H1 A1 _ fun w y H2 b2 A2 e2 r2 => by
    subst e1 e2
    cases (show v = _ from r1)
    cases (show w = _ from r2)
    obtain ⟨vs, H0, r, m, k0⟩ := L.ex
    have ev := r.ints
    subst ev
    exact ⟨l, _, rfl, .inl (SqL.of (k0 _ A2.j).1), rfl, flat_ints, q _ _ H2 (b1.trans b2) A2 rfl (by rw [if_neg (by simp), inV_ints]; rfl)⟩
theorem ev_notInS_ {i : Int} {ns : List Int} (L : LivS K φ J l HO.lst (ns.map D.int)) (ha : EvD K φ J te ρ (.int i)) (hb : EvD K φ J tb ρ (.raw (.ref l))) : EvD K φ J (tOp (rIn K true) te tb) ρ (.bl (!decide (i ∈ ns))) := fun σ H A Q q =>
  ha σ H A _ fun v x H1 b1 A1 e1 r1 => hb σ H1 A1 _ fun w y H2 b2 A2 e2 r2 => by
    subst e1 e2
    cases (show v = _ from r1)
    cases (show w = _ from r2)
    obtain ⟨vs, H0, r, m, k0⟩ := L.ex
    have ev := r.ints
    subst ev
    exact ⟨l, _, rfl, .inl (SqL.of (k0 _ A2.j).1), rfl, flat_ints, q _ _ H2 (b1.trans b2) A2 rfl (by rw [if_pos rfl, inV_ints]; rfl)⟩
/-- xs != [] -/
theorem ev_neNilS {n : Nat} (L : LivS K φ J l HO.lst ds) (hq : okq 64 (.lst ds) = true) (ha : EvD K φ J te ρ (.raw (.ref l))) : EvD K φ J (tOp (rNeD K) te (tLst tNil)) ρ (.bl (!ds.isEmpty)) := fun σ H A Q q =>
  ha σ H A _ fun v x H1 b1 A1 e1 r1 => (show EvD K φ J (tLst tNil) ρ (.lst []) from ev_lst ea_nil) σ H1 A1 _ fun w y H2 b2 A2 e2 r2 => by
    subst e1 e2
    cases (show v = _ from r1)
    obtain ⟨vs, H0, r, m, k0⟩ := L.ex
    obtain ⟨el, b0⟩ := k0 _ A2.j
    have dp : Dp K H2 (.ref l) (toPy (.lst ds)) := .lst (SqL.of el) (dps_of ds vs 63 hq (r.mono b0))
    exact ⟨_, _, dp, dp_of (.lst []) w 64 rfl r2, okq_shaped hq (Nat.le_refl _), okq_shaped (d := .lst []) rfl (Nat.le_refl 64), q _ (.bl (!eqvD (.lst ds) (.lst []))) H2 (b1.trans b2) A2 (by rw [eqvD_nil]) rfl⟩
/-- the list is left as it is from here on -/
theorem LivS.freeze (L : LivS K (wo φ l) J l HO.lst ds) (hl : φ l) {k : Nat} (A : At K (wo φ l) J ρ σ H) (hk : ρ[k]? = some (some (.raw (.ref l)))) : At K φ (fun H' => J H' ∧ But φ H H') (ρ.set k (some (.lst ds))) σ H := by
  obtain ⟨vs, H0, r, hn, k0⟩ := L.ex
  obtain ⟨el, b0⟩ := k0 _ A.j
  have up : Up (wo φ l) φ H H := fun a o p e => ⟨p.1, e⟩
  have rr : Rep K φ H (.lst ds) (.ref l) := ⟨l, vs, rfl, .inl ⟨hl, .inl el⟩, Reps.up up ds vs (r.mono b0)⟩
  obtain ⟨w, ew, rw'⟩ := A.sr.2 k _ hk
  cases (show w = _ from rw')
  refine ⟨?_, A.fr.fst, ⟨A.j, But.refl _ _⟩, A.mono.and (Mo.but fun _ h => h)⟩
  have s1 := (A.sr.up up)
  refine ⟨by rw [List.length_set]; exact s1.1, fun i d hd => ?_⟩
  by_cases e : k = i
  · subst e
    have hlt : k < ρ.length := (List.getElem?_eq_some_iff.mp hk).1
    rw [List.getElem?_set_self hlt] at hd
    cases hd
    exact ⟨_, ew, rr⟩
  · rw [List.getElem?_set_ne e] at hd
    exact s1.2 i d hd
/-- others stay live -/
theorem LivS.thaw {l2 : Addr} {C2 : List V → HO} {ds2 : List D} (L : LivS K (wo φ l) J l2 C2 ds2) (ne : l2 ≠ l) (j : J H) : LivS K φ (fun H' => J H' ∧ But φ H H') l2 C2 ds2 := by
  obtain ⟨vs, H0, r, hn, k0⟩ := L.ex
  obtain ⟨el, b0⟩ := k0 _ j
  exact ⟨fun z => L.np ⟨z, ne⟩, vs, H, Reps.up (fun a o p e => ⟨p.1, e⟩) ds2 vs (r.mono b0), (by rw [el]; exact fun z => nomatch z), fun H' h => ⟨(k0 _ h.1).1, h.2⟩⟩
theorem pool_thaw {p s : Addr} {ns : List Int} (hp : Pooled (wo φ l) J p s ns) (ne : p ≠ l) : Pooled φ (fun H' => J H' ∧ But φ H H') p s ns := by
  have np : ¬ φ p := fun z => hp.np ⟨z, ne⟩
  exact ⟨np, hp.ne, fun H' h => hp.ok _ h.1, fun Ha Hb h k o => ⟨hp.st _ _ h.1 k o, Ext.but2 np _ _ h.2 k o⟩⟩
/-! dicts -/
variable {κ : Type} [DecidableEq κ] [DKind κ] {kds : List (κ × D)} {k : κ}
abbrev LivDS (K : PySem.W.Frag) (φ : Addr → Prop) (J : Hp → Prop) (l : Addr) (kds : List (κ × D)) : Prop := LivS K φ J l (fun vs => DKind.ho ((kds.map (·.1)).zip vs)) (kds.map (·.2))
theorem ed_liveS (L : LivDS K φ J l kds) (h : EvD K φ J td ρ (.raw (.ref l))) : EvDict K φ J td ρ kds := fun σ H A Q q => h σ H A _ fun v d H' b A' e r => by
  subst e
  cases (show v = _ from r)
  obtain ⟨vs, H0, rs, m, k0⟩ := L.ex
  exact q l H' b A' fun H'' b' j => ⟨vs, (k0 _ j).1, rs.mono (k0 _ j).2⟩
/-- d[y] = v -/
theorem st_dputS {i : Nat} (A : At K φ J ρ σ H) (L : LivDS K φ J l kds) (hv : EvP K φ J tv ρ P) (hk : ρ[i]? = some (some (.raw (.ref l)))) (hy : EvD K φ J ty ρ (DKind.kd k)) (hz : kds.length ≤ 1000000)
    (kk : ∀ d J' H', P d → Wr K φ J J' l → LivDS K φ J' l (putD kds k d) → At K φ J' ρ σ H' → D0.nx σ H') : sDPut (tVar i) ty tv D0 σ H := by
  obtain ⟨vs, H0, r, m, k0⟩ := L.ex
  refine hv σ H A _ fun v d H1 b1 A1 pd r1 => ev_var hk σ H1 A1 _ fun w d2 H2 b2 A2 e2 r2 => hy σ H2 A2 _ fun y d3 H3 b3 A3 e3 r3 => ?_
  subst e2 e3
  cases (show w = _ from r2)
  obtain ⟨el, b0⟩ := k0 _ A3.j
  obtain ⟨vs', ep, rp⟩ := zip_put (k := k) ((r1.mono b2).mono b3) (r.mono b0)
  have hlen : ((kds.map (·.1)).zip vs).length < sizeLine := szlt (by
    rw [List.length_zip, List.length_map]
    omega)
  refine ⟨l, _, rfl, DKind.put r3 el hlen, ?_⟩
  rw [ep]
  obtain ⟨A4, L4, W⟩ := L.write (C' := fun vs => DKind.ho (((putD kds k d).map (·.1)).zip vs)) A3 rp (fun xs => DKind.nt _ xs)
  exact kk d _ _ pd W L4 A4
theorem LivS.freezeD (L : LivDS K (wo φ l) J l kds) (hl : φ l) {i : Nat} (A : At K (wo φ l) J ρ σ H) (hk : ρ[i]? = some (some (.raw (.ref l)))) : At K φ (fun H' => J H' ∧ But φ H H') (ρ.set i (some (dictD kds))) σ H := by
  obtain ⟨vs, H0, r, hn, k0⟩ := L.ex
  obtain ⟨el, b0⟩ := k0 _ A.j
  have up : Up (wo φ l) φ H H := fun a o p e => ⟨p.1, e⟩
  have rr : Rep K φ H (dictD kds) (.ref l) := DKind.rep.mpr ⟨l, vs, rfl, ⟨hl, el, by rw [List.length_map, List.length_map]⟩, Reps.up up _ vs (r.mono b0)⟩
  obtain ⟨w, ew, rw'⟩ := A.sr.2 i _ hk
  cases (show w = _ from rw')
  refine ⟨?_, A.fr.fst, ⟨A.j, But.refl _ _⟩, A.mono.and (Mo.but fun _ h => h)⟩
  have s1 := (A.sr.up up)
  refine ⟨by rw [List.length_set]; exact s1.1, fun j d hd => ?_⟩
  by_cases e : i = j
  · subst e
    have hlt : i < ρ.length := (List.getElem?_eq_some_iff.mp hk).1
    rw [List.getElem?_set_self hlt] at hd
    cases hd
    exact ⟨_, ew, rr⟩
  · rw [List.getElem?_set_ne e] at hd
    exact s1.2 j d hd
end

/-! ### defs whose result is told by a property -/
def SpR (K : PySem.W.Frag) (n : Nat) (Pre : List D → Prop) (R : List D → D → Prop) : Sp := fun vs H Q _ => ∃ φ ds, ds.length = n ∧ Reps K φ H ds vs ∧ Frm φ H ∧ Pre ds ∧ ∀ d v H', R ds d → Same H H' → Rep K φ H' d v → Q v H'
section
variable {K : PySem.W.Frag} {φ : Addr → Prop} {J : Hp → Prop} {ρ : List (Option D)} {ds : List D}
theorem ev_callR {n : Nat} {Pre : List D → Prop} {R : List D → D → Prop} {E : XK} {ta : TA} (ha : EvAD K φ J ta ρ ds) (hp : Pre ds) (hl : ds.length = n := by rfl) : EvP K φ J (tCall (SpR K n Pre R) [] E ta) ρ (R ds) := fun σ H A Q q =>
  ha σ H A _ fun vs ds' H1 b1 A1 e r1 => by
    subst e
    exact ⟨φ, _, hl, by rw [List.append_nil]; exact r1, A1.fr, hp, fun d v H' rd s r => q v d H' (b1.trans (But.of s)) (A1.same s) rd r⟩
variable {PP : Program} {w : World} {mg : Str → Option Value} {base : Heap}
theorem fn_okR {x qual : Str} {st : Stmt} {f : Addr} {fd : FuncData} {N ps : List Str} {k n : Nat} {Pre : List D → Prop} {R : List D → D → Prop} (F : Fun K x qual st f fd) (S : FnScope N ps (defScope st)) (hn : ps.length = n) (m : Nat) (hm : N.length = n + m)
    (hbody : ∀ (cdv : Value) (A : Around) (outer : List Env) (s : Shared) (H : Hp) (E : XK), Room k (A.deeper (envOfC qual (defScope st) s.heap.objs.size f cdv)) →
      ∃ t, PSs (cxOf CX0 PP w K mg base N qual (defScope st) f cdv A outer s H E).nox (defBody st) t ∧
        ∀ (φ : Addr → Prop) (ds : List D) (H : Hp) (D0 : Ends) (σ : L2.St), ds.length = n → Pre ds → (∀ d v H', R ds d → Same H H' → Rep K φ H' d v → D0.rt v H') → At K φ (Same H) (ds.map some ++ List.replicate m none) σ H → t D0 σ H) :
    FnOk PP w K mg base CX0 (k + 1) f fd ps (SpR K n Pre R) := by
  refine F.ok S (fun vs H Q E h => ?_) (fun cdv A outer s H vs Q E hr h => ?_)
  · obtain ⟨φ, ds, hl, r, _⟩ := h
    rw [r.length, hl, hn]
  · obtain ⟨φ, ds, hl, r, fr, hp, q⟩ := h
    obtain ⟨t, ht, run⟩ := hbody cdv A outer s H E hr
    refine ⟨t, ht, run φ ds H _ _ hl hp (fun d v H' rd s r => q d v H' rd s r) ⟨?_, fr, Same.refl H, Mo.sames fun _ h => h⟩⟩
    have e : N.length - vs.length = m := by rw [hm, r.length, hl]; omega
    unfold L2.start
    rw [e]
    exact SR.start r
end

-- import HandS.SortRule
-- import HandS.DictTup
/-! ### sorted(d) of dicts with pairs of ints as keys -/
def prK (p : Int × Int) : List Key := [Sum.inl p.1, Sum.inl p.2]
theorem prK_inj {p q : Int × Int} (h : prK p = prK q) : p = q := by
  have h1 := (List.cons.inj h).1
  have h2 := (List.cons.inj (List.cons.inj h).2).1
  injection h1 with h1
  injection h2 with h2
  exact Prod.ext h1 h2
def prDD (p : Int × Int) : D := .tup [.int p.1, .int p.2]
theorem prDD_kd (p : Int × Int) : DKind.kd (prK p) = prDD p := rfl
/-- sorted, by pairs -/
def LexS (ps : List (Int × Int)) : Prop := ps.Pairwise fun a b => SrtO.lexB b a = false
def rSortT : List V → Hp → VK → Prop := fun vs H Q => ∃ (a : Addr) (kvs : List (List Key × V)) (ks : List (Int × Int)), vs = [.ref a] ∧ H a = some (.dT kvs) ∧ kvs.map (·.1) = ks.map prK ∧
  ∀ (out : List (Addr × Int × Int)) (p : Addr), (out.map (·.2)).Perm ks → LexS (out.map (·.2)) → (∀ z ∈ out, H z.1 = some (.tup [.int z.2.1, .int z.2.2])) → H p = none → Q (.ref p) (upd H p (.lst (out.map fun z => V.ref z.1)))
section
variable {X : Cx}
/-- the pair that a reference is, by H -/
def prOf (H : Hp) (v : Value) : Int × Int := match v with
  | .ref b => match H b with
    | some (.tup [.int i, .int j]) => (i, j)
    | _ => (0, 0)
  | _ => (0, 0)
theorem prOf_at {H : Hp} {b : Addr} {p : Int × Int} (h : H b = some (.tup [.int p.1, .int p.2])) : prOf H (.ref b) = p := by
  unfold prOf
  simp only [h]
def adOf : Value → Addr
  | .ref b => b
  | _ => 0
theorem cr_sortT (hcalm : X.calm = true) : CallR X (.builtin "sorted") rSortT := by
  intro pins s σ H vs us Q I r h
  obtain ⟨a, kvs, ks, rfl, hd, hks, q⟩ := h
  obtain rfl := Vals.ref1 r
  obtain ⟨z, lo, xs', rel, o, es, ep, ho, hx, hdat, hes, his, hn⟩ := dt_of I.hok hd
  have l1 : kvs.length = xs'.length := Paired.length rel
  have l2 : es.size = xs'.length := size_of_entries hes
  have lk : kvs.length = ks.length := by
    have e := congrArg List.length hks
    rw [List.length_map, List.length_map] at e
    exact e
  have hz : es.size ≤ sizeLine := by rw [l2, ← l1]; exact z
  have hr : s.heap.DictRaw a es ep := ⟨o, ho, hx, hdat⟩
  have at_ : ∀ (j : Nat) (v : Value), (es.toList.map (·.key))[j]? = some v → ∃ b p, v = .ref b ∧ ks[j]? = some p ∧ H b = some (.tup [.int p.1, .int p.2]) := by
    intro j v hv
    rw [List.getElem?_map, Array.getElem?_toList, entry_at hes j, Option.map_map] at hv
    obtain ⟨x, hxj, e⟩ := Option.map_eq_some_iff.mp hv
    obtain ⟨e0, he0, r1, r2, r3⟩ := L2.DX.pget rel hxj
    have e1 : (kvs.map (·.1))[j]? = some e0.1 := by rw [List.getElem?_map, he0]; rfl
    rw [hks, List.getElem?_map] at e1
    obtain ⟨p, hp, ep1⟩ := Option.map_eq_some_iff.mp e1
    refine ⟨x.2.1, p, e.symm, hp, ?_⟩
    rw [r2, ← ep1]
    rfl
  have hkeys : (es.toList.map (·.key)).map (prOf H) = ks := by
    refine List.ext_getElem? fun j => ?_
    rw [List.getElem?_map]
    cases e : (es.toList.map (·.key))[j]? with
    | none =>
      have h1 := List.getElem?_eq_none_iff.mp e
      rw [List.length_map, Array.length_toList, l2, ← l1, lk] at h1
      rw [List.getElem?_eq_none h1]
      rfl
    | some v =>
      obtain ⟨b, p, rfl, hp, hb⟩ := at_ j v e
      rw [hp]
      show some (prOf H (.ref b)) = some p
      rw [prOf_at hb]
  have mem_ : ∀ v ∈ es.toList.map (·.key), v = .ref (adOf v) ∧ H (adOf v) = some (.tup [.int (prOf H v).1, .int (prOf H v).2]) := by
    intro v hv
    obtain ⟨j, hj⟩ := List.mem_iff_getElem?.mp hv
    obtain ⟨b, p, rfl, _, hb⟩ := at_ j v hj
    exact ⟨rfl, by rw [prOf_at hb]; exact hb⟩
  have pairs : ∀ v ∈ es.toList.map (·.key), Srt.IsPair s.heap v (prOf H v).1 (prOf H v).2 := by
    intro v hv
    obtain ⟨e, hb⟩ := mem_ v hv
    obtain ⟨_, its2, r2, o2, ho2, hc, n, hd2⟩ := I.hok _ _ hb
    obtain ⟨u1, u2, rfl, ri, rj⟩ := vals2 r2
    obtain ⟨t1, rfl⟩ := ri
    obtain ⟨t2, rfl⟩ := rj
    exact ⟨_, o2, t1, t2, n, e, ho2, hc, hd2⟩
  refine sorted_raw (b := false) (kw := []) lo (I.ok.hd hcalm) hr hz (fun _ => rfl) (by unfold argsOk; kernel_rfl) (fun _ => PyProof.Rows.args_list_sort _) (SrtO.swo_lex (prOf H)) (fun h2 h₁ tk a' ha' kk => ?_) fun out h1 h' tk a' n hs hb k1 k2 ha' hn' => ?_
  · refine SrtO.pairs_sortableO (by omega) (fun v hv => (pairs v hv).keeps fun b o e _ => (kk b o e).2) fun o e => ?_
    have e' := e.symm.trans ha'
    cases e'
    intro c
    exact absurd (Value.type.inj c) (by decide)
  · have h3 : ∀ v ∈ out, v = .ref (adOf v) ∧ H (adOf v) = some (.tup [.int (prOf H v).1, .int (prOf H v).2]) := fun v hv => mem_ v (hb.perm.mem_iff.mp hv)
    have I1 : Inv X pins σ H { s with heap := h1, toks := tk } := I.kept k1
    have hv : Vals (out.map fun v => V.ref (adOf v)) out := by
      clear hs hb hn'
      induction out with
      | nil => exact .nil
      | cons v out ih =>
        refine .cons (show v = .ref (adOf v) from (h3 v List.mem_cons_self).1) (ih fun u hu => h3 u (List.mem_cons_of_mem _ hu))
    have el : (out.map fun v => V.ref (adOf v)) = (out.map fun v => (adOf v, prOf H v)).map fun z => V.ref z.1 := by rw [List.map_map]; rfl
    have e2 : (out.map fun v => (adOf v, prOf H v)).map (·.2) = out.map (prOf H) := by rw [List.map_map]; rfl
    refine ⟨.ref a', upd H a' (.lst ((out.map fun v => (adOf v, prOf H v)).map fun z => V.ref z.1)), I1.laid (t' := tk) k2 ha' ⟨?_, out, n, el ▸ hv, hn'⟩, rfl, q _ a' ?_ ?_ ?_ (I1.hok.fresh ha')⟩
    · rw [List.length_map, List.length_map, hb.len]
      show (es.toList.map (·.key)).length ≤ _
      rw [List.length_map, Array.length_toList]
      exact hz
    · rw [e2, ← hkeys]
      exact hb.perm.map _
    · rw [e2]
      exact List.pairwise_map.mpr hs
    · intro z hz
      obtain ⟨v, hv, rfl⟩ := List.mem_map.mp hz
      exact (h3 v hv).2
end
section
variable {K : PySem.W.Frag} {φ : Addr → Prop} {J : Hp → Prop} {ρ : List (Option D)} {td : TE}
theorem reps_prs {H : Hp} (F : Frm φ H) : ∀ {out : List (Addr × Int × Int)}, (∀ z ∈ out, H z.1 = some (.tup [.int z.2.1, .int z.2.2])) → Reps K φ H ((out.map (·.2)).map prDD) (out.map fun z => V.ref z.1)
  | [], _ => Reps.nil
  | z :: out, h => Reps.cons ⟨z.1, _, rfl, .inl ⟨F.tup _ _ (h z List.mem_cons_self), .inl (h z List.mem_cons_self)⟩, Reps.cons rfl (Reps.cons rfl Reps.nil)⟩ (reps_prs F fun u hu => h u (List.mem_cons_of_mem _ hu))
/-- sorted(d): the pairs in order -/
theorem ev_sortT {kds : List (List Key × D)} {ks : List (Int × Int)} (hd : EvDict K φ J td ρ kds) (hks : kds.map (·.1) = ks.map prK) : EvP K φ J (tCB rSortT (tCons td tNil)) ρ (fun z => ∃ ps : List (Int × Int), z = .lst (ps.map prDD) ∧ ps.Perm ks ∧ LexS ps) := fun σ H A Q q =>
  hd σ H A _ fun a H1 b1 A1 per => by
    obtain ⟨vs, ea, rs⟩ := per H1 (But.refl _ _) A1.j
    have hl := rs.length
    rw [List.length_map] at hl
    refine ⟨a, _, ks, rfl, ea, ?_, fun out p hp hs ht hn => ?_⟩
    · rw [← hks]
      have e : (kds.map (·.1)).length = vs.length := by rw [List.length_map, hl]
      exact List.map_fst_zip (by omega)
    · refine q _ (.lst ((out.map (·.2)).map prDD)) _ (b1.trans (But.of (same_new hn))) (A1.same (same_new hn)) ⟨_, rfl, hp, hs⟩ ⟨p, _, rfl, .inl ⟨A1.fr.new p hn, .inl upd_same⟩, (reps_prs A1.fr ht).mono (But.of (same_new hn))⟩
end

-- import HandS.TupLe
-- import HandS.Conv
-- import KE.SortData
-- import KE.DataMinMax
-- import KE.DatumOrd
/-! ### t >= u, list + list, list * int, list(range(..)), min and max of tuples, sorted of data -/
theorem _root_.L2.Room.units66 {k : Nat} {A : Around} (r : Room k A) : A.units + 66 < cLine := by have := r.un; omega
def rGeT (K : PySem.W.Frag) : R2 := fun x y H Q => ∃ (a b : Addr) (ns ms : List Int), x = .ref a ∧ y = .ref b ∧ SqT K H a (ns.map V.int) ∧ SqT K H b (ms.map V.int) ∧
  Q (.bl (Ob.lexAt (fun j => decide (ns.getD j 0 = ms.getD j 0)) (fun j => decide (ms.getD j 0 ≤ ns.getD j 0)) (decide (ns.length ≥ ms.length)) 0 (min ns.length ms.length))) H
theorem op_geT {X : Cx} (hu : X.A.units < cLine) : OpR X (compareOp .GtE) (rGeT X.K) := by
  intro pins s σ H x y v u Q I rx ry h
  obtain ⟨a, b, ns, ms, rfl, rfl, ha, hb, q⟩ := h
  cases rx
  cases ry
  obtain ⟨its, r1, p1, _⟩ := I.tuple ha
  obtain ⟨its2, r2, p2, _⟩ := I.tuple hb
  have i1 : PyProof.Rows.IntsAre its ns := Vals.ints r1
  have i2 : PyProof.Rows.IntsAre its2 ms := Vals.ints r2
  have e1 : its.toArray.size = ns.length := by rw [List.size_toArray]; exact i1.length
  have e2 : its2.toArray.size = ms.length := by rw [List.size_toArray]; exact i2.length
  have at1 : ∀ j (h1 : j < its.toArray.size), ∃ t, its.toArray[j] = .int (ns.getD j 0) t := fun j h1 => PyProof.Rows.IntsAre.int_at i1 _ _ (by simp at h1; simp [h1])
  have at2 : ∀ j (h1 : j < its2.toArray.size), ∃ t, its2.toArray[j] = .int (ms.getD j 0) t := fun j h1 => PyProof.Rows.IntsAre.int_at i2 _ _ (by simp at h1; simp [h1])
  have R := Ob.RcOp.tuples_ge (A := X.A) (s := s) (e := fun j => decide (ns.getD j 0 = ms.getD j 0)) (r := fun j => decide (ms.getD j 0 ≤ ns.getD j 0)) p1 p2 hu (fun j h1 h2 => by
    obtain ⟨t, et⟩ := at1 j h1
    obtain ⟨t', et'⟩ := at2 j h2
    rw [et, et']
    have z : (ns.getD j 0 == ms.getD j 0) = decide (ns.getD j 0 = ms.getD j 0) := by
      by_cases q : ns.getD j 0 = ms.getD j 0
      · rw [decide_eq_true q]; exact beq_iff_eq.mpr q
      · rw [decide_eq_false q]; exact beq_eq_false_iff_ne.mpr q
    rw [← z]
    exact SeqAt.EqAt.int_int _ _ _ _) (fun j h1 h2 _ => by
    obtain ⟨t, et⟩ := at1 j h1
    obtain ⟨t', et'⟩ := at2 j h2
    rw [et, et']
    exact Ob.RcOp.ge_int _ _ _ _)
  rw [e1, e2] at R
  exact R _ _ _ _ ⟨.bl _, H, I, rfl, q⟩
theorem kop_geT {X : Cx} {K : PySem.W.Frag} (h : X.K = K) (hu : X.A.units < cLine) : OpR X (compareOp .GtE) (rGeT K) := h ▸ op_geT hu
def rCatL (K : PySem.W.Frag) : R2 := fun x y H Q => ∃ l b xs zs, x = .ref l ∧ y = .ref b ∧ SqL K H l xs ∧ SqL K H b zs ∧ xs.length + zs.length ≤ sizeLine ∧ ∀ p, H p = none → Q (.ref p) (upd H p (.lst (xs ++ zs)))
theorem op_catL {X : Cx} : OpR X (binaryOp .Add) (rCatL X.K) := by
  intro pins s σ H x y v u Q I rx ry h
  obtain ⟨l, b, xs, zs, rfl, rfl, hH, hB, hz, q⟩ := h
  cases rx
  cases ry
  obtain ⟨its, r, p, hl⟩ := I.list hH
  obtain ⟨its2, r2, p2, hl2⟩ := I.list hB
  have e0 := r.length
  have e02 := r2.length
  obtain ⟨⟨cls, dd, data, sl⟩, ho, hc, n, hd⟩ := p.isList
  obtain ⟨⟨cls2, dd2, data2, sl2⟩, ho2, hc2, n2, hd2⟩ := p2.isList
  simp only at hc hd hc2 hd2
  subst hc hd hc2 hd2
  have ea : its.toArray ++ its2.toArray = (its ++ its2).toArray := by simp
  refine concat_meets ⟨_, ho, rfl⟩ ⟨_, ho2, rfl⟩ noFill_list_add seq_list_add PySem.F.slot_list_add PySem.F.entry_list_add (PySem.F.args_list_add_2 _ _) (list_addW l b its.toArray its2.toArray n n2 dd dd2 sl sl2 (by rw [List.size_toArray, List.size_toArray]; omega)) ⟨ho, ho2, ?_⟩
  rw [ea]
  exact ⟨.ref _, _, I.lnew (t' := s.toks) (r.append r2) (by rw [List.length_append]; omega), rfl, q _ I.fresh⟩
theorem kop_catL {X : Cx} {K : PySem.W.Frag} (h : X.K = K) : OpR X (binaryOp .Add) (rCatL K) := h ▸ op_catL
/-- min, max of a tuple of ints -/
def rMinT (K : PySem.W.Frag) : List V → Hp → VK → Prop := fun vs H Q => ∃ (a : Addr) (ns : List Int), vs = [V.ref a] ∧ SqT K H a (ns.map V.int) ∧ 0 < ns.length ∧ ∀ m, m ∈ ns → (∀ y, y ∈ ns → m ≤ y) → Q (.int m) H
def rMaxT (K : PySem.W.Frag) : List V → Hp → VK → Prop := fun vs H Q => ∃ (a : Addr) (ns : List Int), vs = [V.ref a] ∧ SqT K H a (ns.map V.int) ∧ 0 < ns.length ∧ ∀ m, m ∈ ns → (∀ y, y ∈ ns → y ≤ m) → Q (.int m) H
theorem minOf_int (x : Int) : ∀ xs : List Int, PySem.W.minOf x xs ∈ x :: xs ∧ ∀ y ∈ x :: xs, PySem.W.minOf x xs ≤ y := by
  intro xs
  unfold PySem.W.minOf
  induction xs generalizing x with
  | nil => exact ⟨List.mem_cons_self, fun y hy => by rw [List.mem_singleton.mp hy]; exact Int.le_refl _⟩
  | cons z xs ih =>
    rw [List.foldl_cons]
    show (List.foldl _ (if decide (z < x) = true then z else x) xs) ∈ _ ∧ ∀ y ∈ _, List.foldl _ (if decide (z < x) = true then z else x) xs ≤ y
    by_cases h : z < x
    · rw [if_pos (decide_eq_true h)]
      obtain ⟨h1, h2⟩ := ih z
      refine ⟨List.mem_cons_of_mem _ h1, fun y hy => ?_⟩
      rcases List.mem_cons.mp hy with rfl | hy
      · have := h2 z List.mem_cons_self
        omega
      · exact h2 y hy
    · rw [if_neg (by simp [h])]
      obtain ⟨h1, h2⟩ := ih x
      refine ⟨?_, fun y hy => ?_⟩
      · rcases List.mem_cons.mp h1 with e | e
        · rw [e]; exact List.mem_cons_self
        · exact List.mem_cons_of_mem _ (List.mem_cons_of_mem _ e)
      · rcases List.mem_cons.mp hy with rfl | hy
        · exact h2 y List.mem_cons_self
        · rcases List.mem_cons.mp hy with rfl | hy
          · have := h2 x List.mem_cons_self
            omega
          · exact h2 y (List.mem_cons_of_mem _ hy)
theorem maxOf_int (x : Int) : ∀ xs : List Int, PySem.W.maxOf x xs ∈ x :: xs ∧ ∀ y ∈ x :: xs, y ≤ PySem.W.maxOf x xs := by
  intro xs
  unfold PySem.W.maxOf
  induction xs generalizing x with
  | nil => exact ⟨List.mem_cons_self, fun y hy => by rw [List.mem_singleton.mp hy]; exact Int.le_refl _⟩
  | cons z xs ih =>
    rw [List.foldl_cons]
    show (List.foldl _ (if decide (x < z) = true then z else x) xs) ∈ _ ∧ ∀ y ∈ _, y ≤ List.foldl _ (if decide (x < z) = true then z else x) xs
    by_cases h : x < z
    · rw [if_pos (decide_eq_true h)]
      obtain ⟨h1, h2⟩ := ih z
      refine ⟨List.mem_cons_of_mem _ h1, fun y hy => ?_⟩
      rcases List.mem_cons.mp hy with rfl | hy
      · have := h2 z List.mem_cons_self
        omega
      · exact h2 y hy
    · rw [if_neg (by simp [h])]
      obtain ⟨h1, h2⟩ := ih x
      refine ⟨?_, fun y hy => ?_⟩
      · rcases List.mem_cons.mp h1 with e | e
        · rw [e]; exact List.mem_cons_self
        · exact List.mem_cons_of_mem _ (List.mem_cons_of_mem _ e)
      · rcases List.mem_cons.mp hy with rfl | hy
        · exact h2 y List.mem_cons_self
        · rcases List.mem_cons.mp hy with rfl | hy
          · have := h2 x List.mem_cons_self
            omega
          · exact h2 y (List.mem_cons_of_mem _ hy)
theorem dpAll_ints {K : PySem.W.Frag} {H : Hp} : ∀ ns : List Int, DpAll K H (ns.map V.int) (ns.map PyData.int)
  | [] => .nil
  | n :: ns => .cons (.int n) (dpAll_ints ns)
theorem cr_minT {X : Cx} (hc : X.calm = true) (hu : X.A.units + 1 < cLine) : CallR X (.builtin "min") (rMinT X.K) := by
  intro pins s σ H vs us Q I r h
  obtain ⟨a, ns, rfl, hs, hn, q⟩ := h
  obtain rfl := Vals.ref1 r
  obtain ⟨its, rv, p, hz⟩ := I.tuple hs
  obtain ⟨as, rd⟩ := Dp.readsAll I (ns.map PyData.int) _ its (dpAll_ints ns) rv
  obtain ⟨x, xs, rfl⟩ : ∃ x xs, ns = x :: xs := by cases ns with | nil => cases hn | cons x xs => exact ⟨x, xs, rfl⟩
  refine PySem.W.min_tuple_datum (α := Int) (x := x) (xs := xs) (I.ok.hd hc) p ⟨as, by rw [List.toList_toArray]; exact rd⟩ (by show X.A.units + 1 + 0 < cLine; omega) fun i v h' tk hi ⟨bs, rb⟩ kp => ?_
  have e : ∃ t, v = Value.int (PySem.W.minOf x xs) t := by cases rb; exact ⟨_, rfl⟩
  obtain ⟨t, rfl⟩ := e
  exact ⟨.int _, H, I.kept (t' := tk) kp, ⟨t, rfl⟩, q _ (minOf_int x xs).1 (minOf_int x xs).2⟩
theorem cr_maxT {X : Cx} (hc : X.calm = true) (hu : X.A.units + 1 < cLine) : CallR X (.builtin "max") (rMaxT X.K) := by
  intro pins s σ H vs us Q I r h
  obtain ⟨a, ns, rfl, hs, hn, q⟩ := h
  obtain rfl := Vals.ref1 r
  obtain ⟨its, rv, p, hz⟩ := I.tuple hs
  obtain ⟨as, rd⟩ := Dp.readsAll I (ns.map PyData.int) _ its (dpAll_ints ns) rv
  obtain ⟨x, xs, rfl⟩ : ∃ x xs, ns = x :: xs := by cases ns with | nil => cases hn | cons x xs => exact ⟨x, xs, rfl⟩
  refine PySem.W.max_tuple_datum (α := Int) (x := x) (xs := xs) (I.ok.hd hc) p ⟨as, by rw [List.toList_toArray]; exact rd⟩ (by show X.A.units + 1 + 0 < cLine; omega) fun i v h' tk hi ⟨bs, rb⟩ kp => ?_
  have e : ∃ t, v = Value.int (PySem.W.maxOf x xs) t := by cases rb; exact ⟨_, rfl⟩
  obtain ⟨t, rfl⟩ := e
  exact ⟨.int _, H, I.kept (t' := tk) kp, ⟨t, rfl⟩, q _ (maxOf_int x xs).1 (maxOf_int x xs).2⟩
theorem kcr_minT {X : Cx} {K : PySem.W.Frag} (h : X.K = K) (hc : X.calm = true) (hu : X.A.units + 1 < cLine) : CallR X (.builtin "min") (rMinT K) := h ▸ cr_minT hc hu
theorem kcr_maxT {X : Cx} {K : PySem.W.Frag} (h : X.K = K) (hc : X.calm = true) (hu : X.A.units + 1 < cLine) : CallR X (.builtin "max") (rMaxT K) := h ▸ cr_maxT hc hu
/-- sorted(xs) of data of one kind -/
def rSortQ (K : PySem.W.Frag) : List V → Hp → VK → Prop := fun vs H Q => ∃ (a : Addr) (xs : List V) (ds : List PyData), vs = [V.ref a] ∧ SqL K H a xs ∧ DpAll K H xs ds ∧ PySem.W.AllAlike ds ∧ PySem.W.Sortable ds ∧ (∀ d ∈ ds, d.depth ≤ 64) ∧
  ∀ (zs : List (V × PyData)) (p : Addr), zs.Perm (xs.zip ds) → (zs.map (·.2)).Pairwise (fun a b => PySem.W.dataLt b a = false) → H p = none → Q (.ref p) (upd H p (.lst (zs.map (·.1))))
theorem dpAll_len {K : PySem.W.Frag} {H : Hp} : ∀ (xs : List V) (ds : List PyData), DpAll K H xs ds → xs.length = ds.length
  | [], _, h => by cases h; rfl
  | x :: xs, _, h => by
    cases h with
    | cons _ h2 => rw [List.length_cons, List.length_cons, dpAll_len xs _ h2]
theorem dpAll_vals {K : PySem.W.Frag} {H : Hp} : ∀ (xs : List V) (ds : List PyData) (its : List Value), DpAll K H xs ds → Vals xs its → PySem.W.EachIs (fun (v : Value) (b : V × PyData) => RelV b.1 v) its (xs.zip ds)
  | [], _, _, h, r => by cases h; cases r; exact .nil
  | x :: xs, _, _, h, r => by
    cases h with
    | cons _ h2 =>
      cases r with
      | cons r0 r1 => exact .cons r0 (dpAll_vals xs _ _ h2 r1)
theorem dpAll_reads {X : Cx} {pins : List (Addr × Obj)} {σ : L2.St} {H : Hp} {s : Shared} (I : Inv X pins σ H s) : ∀ (xs : List V) (ds : List PyData) (its : List Value), DpAll X.K H xs ds → Vals xs its → PySem.W.EachIs (fun (v : Value) (b : V × PyData) => ∃ as, Reads s.heap v b.2 as) its (xs.zip ds)
  | [], _, _, h, r => by cases h; cases r; exact .nil
  | x :: xs, _, _, h, r => by
    cases h with
    | cons h1 h2 =>
      cases r with
      | cons r0 r1 => exact .cons (Dp.reads I _ _ _ h1 r0) (dpAll_reads I xs _ _ h2 r1)
theorem cr_sortQ {X : Cx} (hu : X.A.units + 66 < cLine) : CallR X (.builtin "sorted") (rSortQ X.K) := by
  intro pins s σ H vs us Q I r h
  obtain ⟨a, xs, ds, rfl, hs, hd, hal, hso, hdep, q⟩ := h
  obtain rfl := Vals.ref1 r
  obtain ⟨its, rv, p, hz⟩ := I.list hs
  have lxd := dpAll_len xs ds hd
  have em : (xs.zip ds).map (·.2) = ds := List.map_snd_zip (by omega)
  have e1 := dpAll_vals (K := X.K) (H := H) xs ds its hd rv
  have e2 := dpAll_reads I xs ds its hd rv
  have e3 : (xs.zip ds).map Prod.snd = ds := em
  refine PySem.W.sorted_data (enc := Prod.snd) p.isList e1 e2 (by rw [e3]; exact hal) (by rw [e3]; exact hso) (by rw [List.length_zip]; omega) (fun b hb => ?_) fun out hl he => ?_
  · have := hdep b.2 (by rw [← e3]; exact List.mem_map.mpr ⟨b, hb, rfl⟩)
    omega
  · have hv : Vals (((xs.zip ds).mergeSort (PySem.W.dataLe false Prod.snd)).map (·.1)) out := by
      generalize (xs.zip ds).mergeSort (PySem.W.dataLe false Prod.snd) = zs at he
      clear hl
      induction he with
      | nil => exact .nil
      | cons r0 _ ih => exact .cons r0 ih
    obtain ⟨ep, he'⟩ := PyProof.Rows.sortedAll_at s.heap its out.toArray
    refine ⟨.ref _, upd H (s.heap.objs.size + 1) (.lst (((xs.zip ds).mergeSort (PySem.W.dataLe false Prod.snd)).map (·.1))), I.laid (t' := s.toks) (fun _ _ => PyProof.Rows.sortedAll_old) (Nat.le_succ _) ⟨?_, out, ep, hv, he'⟩, rfl, q _ _ (List.mergeSort_perm _ _) ?_ (I.hok.fresh (Nat.le_succ _))⟩
    · rw [hv.length, hl, List.length_zip]; omega
    · refine List.pairwise_map.mpr ((PySem.W.sort_pairwise (PySem.W.sortLe_total (PyProof.Rows.listOrd PyProof.Rows.itemOrd) false fun b : V × PyData => PySem.W.keyToks b.2) (xs.zip ds)).imp fun {a b} h => ?_)
      have h' : PySem.W.dataLe false (Prod.snd : V × PyData → PyData) a b = true := h
      rw [PySem.W.dataLe_eq] at h'
      have h2 : (!PySem.W.dataLt b.2 a.2) = true := h'
      cases e : PySem.W.dataLt b.2 a.2 with
      | false => rfl
      | true => rw [e] at h2; cases h2
theorem kcr_sortQ {X : Cx} {K : PySem.W.Frag} (h : X.K = K) (hu : X.A.units + 66 < cLine) : CallR X (.builtin "sorted") (rSortQ K) := h ▸ cr_sortQ hu
section
variable {K : PySem.W.Frag} {φ : Addr → Prop} {J : Hp → Prop} {ρ : List (Option D)} {ta tb te : TE} {x y d : D} {ds es : List D} {i j : Int} {ns ms : List Int}
theorem rep_tupI {H : Hp} {v : V} (h : Rep K φ H (.tup (ns.map D.int)) v) : ∃ a, v = .ref a ∧ SqT K H a (ns.map V.int) := by
  obtain ⟨a, vs, rfl, p, r⟩ := rep_tup h
  exact ⟨a, rfl, r.ints ▸ p.sq⟩
theorem ev_geT (ha : EvD K φ J ta ρ (.tup (ns.map D.int))) (hb : EvD K φ J tb ρ (.tup (ms.map D.int))) : EvD K φ J (tOp (rGeT K) ta tb) ρ (.bl (Ob.lexAt (fun j => decide (ns.getD j 0 = ms.getD j 0)) (fun j => decide (ms.getD j 0 ≤ ns.getD j 0)) (decide (ns.length ≥ ms.length)) 0 (min ns.length ms.length))) := ev_opD ha hb fun H v w _ r1 r2 Q q => by
  obtain ⟨a, rfl, h1⟩ := rep_tupI r1
  obtain ⟨b, rfl, h2⟩ := rep_tupI r2
  exact ⟨a, b, ns, ms, rfl, rfl, h1, h2, q _ _ H (Same.refl H) rfl rfl⟩
theorem lexAt2 (a b c d : Int) : Ob.lexAt (fun j => decide (([a, b] : List Int).getD j 0 = ([c, d] : List Int).getD j 0)) (fun j => decide (([c, d] : List Int).getD j 0 ≤ ([a, b] : List Int).getD j 0)) (decide (([a, b] : List Int).length ≥ ([c, d] : List Int).length)) 0 (min ([a, b] : List Int).length ([c, d] : List Int).length) = !SrtO.lexB (a, b) (c, d) := by
  have e : min ([a, b] : List Int).length ([c, d] : List Int).length = 2 := rfl
  rw [e, Ob.lexAt_succ]
  show (if decide (a = c) = true then _ else decide (c ≤ a)) = _
  by_cases h1 : a = c
  · rw [if_pos (decide_eq_true h1), Ob.lexAt_succ]
    show (if decide (b = d) = true then _ else decide (d ≤ b)) = _
    by_cases h2 : b = d
    · rw [if_pos (decide_eq_true h2), Ob.lexAt_zero]
      unfold SrtO.lexB
      rw [if_pos (show (a, b).1 = (c, d).1 from h1), decide_eq_false (show ¬ b < d by omega)]
      rfl
    · rw [if_neg (by simp [h2])]
      unfold SrtO.lexB
      rw [if_pos (show (a, b).1 = (c, d).1 from h1)]
      show decide (d ≤ b) = !decide (b < d)
      by_cases h3 : b < d
      · rw [decide_eq_true h3, decide_eq_false (by omega)]; rfl
      · rw [decide_eq_false h3, decide_eq_true (by omega)]; rfl
  · rw [if_neg (by simp [h1])]
    unfold SrtO.lexB
    rw [if_neg (show ¬ (a, b).1 = (c, d).1 from h1)]
    show decide (c ≤ a) = !decide (a < c)
    by_cases h3 : a < c
    · rw [decide_eq_true h3, decide_eq_false (by omega)]; rfl
    · rw [decide_eq_false h3, decide_eq_true (by omega)]; rfl
theorem ev_geP2 {p q : Int × Int} (ha : EvD K φ J ta ρ (prDD p)) (hb : EvD K φ J tb ρ (prDD q)) : EvD K φ J (tOp (rGeT K) ta tb) ρ (.bl (!SrtO.lexB p q)) := by
  rw [show (!SrtO.lexB p q) = _ from (lexAt2 p.1 p.2 q.1 q.2).symm]
  exact ev_geT (ns := [p.1, p.2]) (ms := [q.1, q.2]) ha hb
theorem en_catL (ha : EvD K φ J ta ρ (.lst ds)) (hb : EvD K φ J tb ρ (.lst es)) (hz : ds.length + es.length ≤ 1000000) : EvN K φ J (tOp (rCatL K) ta tb) ρ (fun x => x = ds ++ es) := fun σ H A Q q =>
  ha σ H A _ fun v x H1 b1 A1 e1 r1 => hb σ H1 A1 _ fun w y H2 b2 A2 e2 r2 => by
    subst e1 e2
    obtain ⟨a, vs, rfl, pa, ra⟩ := rep_lst (r1.mono b2)
    obtain ⟨b, ws, rfl, pb, rb⟩ := rep_lst r2
    refine ⟨a, b, vs, ws, rfl, rfl, pa.sq, pb.sq, by rw [ra.length, rb.length]; exact sz hz, fun p hp => ?_⟩
    exact q p _ _ H2 _ (b1.trans b2) A2 hp (But.of (same_new hp)) (A2.same (same_new hp)) rfl upd_same (reps_new hp (ra.append rb))
theorem ev_catL (ha : EvD K φ J ta ρ (.lst ds)) (hb : EvD K φ J tb ρ (.lst es)) (hz : ds.length + es.length ≤ 1000000) : EvD K φ J (tOp (rCatL K) ta tb) ρ (.lst (ds ++ es)) := ev_newD (en_catL ha hb hz)
/-- [..] * n -/
theorem ev_repL (ha : EvN K φ J ta ρ (fun x => x = ds)) (hb : EvD K φ J tb ρ (.int i)) (hi : -(2 ^ 63) ≤ i ∧ i < 2 ^ 63) (hz : ds.length * i.toNat ≤ 1000000) : EvN K φ J (tOp rRep ta tb) ρ (fun x => x = (List.replicate i.toNat ds).flatten) := fun σ H A Q q =>
  ha σ H A _ fun p vs ds' H0 H1 b0 A0 hp b1 A1 pd e1 r1 => hb σ H1 A1 _ fun w y H2 b2 A2 e2 r2 => by
    subst pd e2
    cases (show w = _ from r2)
    have e1' : H2 p = some (.lst vs) := b2.keep _ _ (A0.fr.new p hp) e1
    have r1' : Reps K φ H2 ds' vs := (Reps.up (fun a o q e => ⟨q.1, e⟩) ds' vs r1).mono b2
    refine ⟨p, i, vs, rfl, rfl, e1', hi.1, hi.2, by rw [r1'.length]; exact sz hz, fun p4 hp4 => ?_⟩
    exact q p4 _ _ H2 _ ((b0.trans b1).trans b2) A2 hp4 (But.of (same_new hp4)) (A2.same (same_new hp4)) rfl upd_same (reps_new hp4 (replicate_reps r1' _))
/-- list(range(a, b)) -/
theorem reps_rg {H : Hp} {a b : Int} : Reps K φ H (rangeD a (b - a).toNat) (rgV a b) := by
  unfold rangeD rgV
  generalize List.range (b - a).toNat = ks
  induction ks with
  | nil => exact Reps.nil
  | cons k ks ih => exact Reps.cons rfl ih
theorem en_listRg2 (ha : EvD K φ J ta ρ (.int i)) (hb : EvD K φ J tb ρ (.int j)) (hr : RgOk i j) : EvN K φ J (tLstRg (tRg2 ta tb)) ρ (fun x => x = rangeD i (j - i).toNat) := fun σ H A Q q =>
  ha σ H A _ fun v x H1 b1 A1 e1 r1 => hb σ H1 A1 _ fun w y H2 b2 A2 e2 r2 => by
    subst e1 e2
    exact ⟨i, j, r1, r2, hr, fun p hp => q p _ _ H2 _ (b1.trans b2) A2 hp (But.of (same_new hp)) (A2.same (same_new hp)) rfl upd_same (reps_new hp reps_rg)⟩
theorem ev_listRg2 (ha : EvD K φ J ta ρ (.int i)) (hb : EvD K φ J tb ρ (.int j)) (hr : RgOk i j) : EvD K φ J (tLstRg (tRg2 ta tb)) ρ (.lst (rangeD i (j - i).toNat)) := ev_newD (en_listRg2 ha hb hr)
theorem en_listRg1 (hb : EvD K φ J tb ρ (.int j)) (hr : RgOk 0 j) : EvN K φ J (tLstRg (tRg1 tb)) ρ (fun x => x = rangeD 0 (j - 0).toNat) := fun σ H A Q q =>
  hb σ H A _ fun w y H2 b2 A2 e2 r2 => by
    subst e2
    exact ⟨j, r2, hr, fun p hp => q p _ _ H2 _ b2 A2 hp (But.of (same_new hp)) (A2.same (same_new hp)) rfl upd_same (reps_new hp reps_rg)⟩
theorem ev_minT (ha : EvD K φ J te ρ (.tup (ns.map D.int))) (hn : 0 < ns.length) : EvI K φ J (tCB (rMinT K) (tCons te tNil)) ρ (fun m => m ∈ ns ∧ ∀ y ∈ ns, m ≤ y) := ev_cbD (ea_cons ha ea_nil) fun H vs f r Q q => by
  obtain ⟨v, rfl, r1⟩ := r.one
  obtain ⟨a, rfl, h⟩ := rep_tupI r1
  exact ⟨a, ns, rfl, h, hn, fun m h1 h2 => q _ _ H (Same.refl H) ⟨m, rfl, h1, h2⟩ rfl⟩
theorem ev_maxT (ha : EvD K φ J te ρ (.tup (ns.map D.int))) (hn : 0 < ns.length) : EvI K φ J (tCB (rMaxT K) (tCons te tNil)) ρ (fun m => m ∈ ns ∧ ∀ y ∈ ns, y ≤ m) := ev_cbD (ea_cons ha ea_nil) fun H vs f r Q q => by
  obtain ⟨v, rfl, r1⟩ := r.one
  obtain ⟨a, rfl, h⟩ := rep_tupI r1
  exact ⟨a, ns, rfl, h, hn, fun m h1 h2 => q _ _ H (Same.refl H) ⟨m, rfl, h1, h2⟩ rfl⟩
theorem toPys_map : ∀ ds : List D, toPys ds = ds.map toPy
  | [] => rfl
  | d :: ds => by show toPy d :: toPys ds = _; rw [toPys_map ds]; rfl
theorem zip_map2 {α β γ : Type} (f : β → γ) : ∀ (as : List α) (bs : List β), as.zip (bs.map f) = (as.zip bs).map fun z => (z.1, f z.2)
  | [], _ => rfl
  | _ :: _, [] => rfl
  | a :: as, b :: bs => by rw [List.map_cons, List.zip_cons_cons, List.zip_cons_cons, zip_map2 f as bs]; rfl
theorem reps_zip {H : Hp} {vs : List V} (r : Reps K φ H ds vs) : ∀ z ∈ vs.zip ds, Rep K φ H z.2 z.1 := by
  induction ds generalizing vs with
  | nil => intro z hz; simp at hz
  | cons d ds ih =>
    obtain ⟨v, r', rfl, h1, h2⟩ := (show ∃ v r, vs = v :: r ∧ Rep K φ H d v ∧ Reps K φ H ds r from r)
    intro z hz
    rw [List.zip_cons_cons] at hz
    rcases List.mem_cons.mp hz with rfl | hz
    · exact h1
    · exact ih h2 z hz
/-- each listed value stands for some tree of that data -/
theorem sort_back {H : Hp} {vs : List V} (r : Reps K φ H ds vs) : ∀ {zs : List (V × PyData)}, (∀ z ∈ zs, z ∈ vs.zip (ds.map toPy)) → ∃ es : List D, Reps K φ H es (zs.map (·.1)) ∧ es.map toPy = zs.map (·.2) ∧ ∀ e ∈ es, e ∈ ds
  | [], _ => ⟨[], Reps.nil, rfl, fun _ h => nomatch h⟩
  | z :: zs, h => by
    obtain ⟨es, h1, h2, h3⟩ := sort_back r (zs := zs) fun u hu => h u (List.mem_cons_of_mem _ hu)
    have hz := h z List.mem_cons_self
    rw [zip_map2] at hz
    obtain ⟨u, hu, e⟩ := List.mem_map.mp hz
    have hr := reps_zip r u hu
    subst e
    exact ⟨u.2 :: es, Reps.cons hr h1, by rw [List.map_cons, h2]; rfl, fun e he => by
      rcases List.mem_cons.mp he with rfl | he
      · exact (List.of_mem_zip hu).2
      · exact h3 e he⟩
theorem ev_sortQ (ha : EvD K φ J te ρ (.lst ds)) (hq : okq 64 (.lst ds) = true) (hal : PySem.W.AllAlike (ds.map toPy)) (hso : PySem.W.Sortable (ds.map toPy)) : EvP K φ J (tCB (rSortQ K) (tCons te tNil)) ρ (fun z => ∃ es : List D, z = .lst es ∧ (es.map toPy).Perm (ds.map toPy) ∧ (∀ e ∈ es, e ∈ ds) ∧ (es.map toPy).Pairwise (fun a b => PySem.W.dataLt b a = false)) := ev_cbD (ea_cons ha ea_nil) fun H vs f r Q q => by
  obtain ⟨v, rfl, r1⟩ := r.one
  obtain ⟨a, vs, rfl, p, rs⟩ := rep_lst r1
  have hl := rs.length
  have hd := dps_of ds vs 63 hq rs
  rw [toPys_map] at hd
  refine ⟨a, vs, ds.map toPy, rfl, p.sq, hd, hal, hso, fun d hd => ?_, fun zs p hp hs hn => ?_⟩
  · obtain ⟨e, he, rfl⟩ := List.mem_map.mp hd
    exact Nat.le_succ_of_le (okq_lay 63 e (List.all_eq_true.mp (show ds.all (okq 63) = true from hq) e he)).2
  · obtain ⟨es, h1, h2, h3⟩ := sort_back rs (zs := zs) fun z hz => hp.mem_iff.mp hz
    refine q _ (.lst es) _ (same_new hn) ⟨es, rfl, ?_, h3, by rw [h2]; exact hs⟩ ⟨p, _, rfl, .inl ⟨f.new p hn, .inl upd_same⟩, h1.mono (But.of (same_new hn))⟩
    rw [h2]
    have := hp.map Prod.snd
    rw [List.map_snd_zip (by rw [List.length_map]; omega)] at this
    exact this
end

-- import HandS.Iter
-- import KE.KDictDisplayH
/-! ### a tuple times 1; walks over dicts (locked meanwhile) -/
theorem tuple_mul1W (l : Addr) (items : Array Value) (n : Nat) (dd : Option Addr) (sl : Array (Option Value)) (u : Tok) :
    Meets (Builtin.«tuple.__mul__» ⟨[.ref l, .int 1 u], []⟩) (fun _ R s => s.heap.get? l = some { cls := .type "tuple", dict := dd, data := .seq items n, slots := sl } ∧ R (.ok (.ret (Value.ref l))) s) :=
  .of_wp fun prog w A R s h => by
    obtain ⟨hp, g, d, tk, os⟩ := s
    obtain ⟨hl, h⟩ := h
    have f1 := AutoSeq1.idx_int
    have c1 : (items.isEmpty || (1 : Int) == 1) = true := by simp
    wp_walk using wpAny_loadPart' hl
    repeat (first
      | (refine wpAny_ite_true (decide_eq_true (by rw [c1])) ?_; wp_walk using wpAny_loadPart' hl)
      | (refine wpAny_ite_false (by decide) ?_; wp_walk using wpAny_loadPart' hl))
    exact ⟨_, rfl, h⟩
def rRepT1 (K : PySem.W.Frag) : R2 := fun x y H Q => ∃ l k xs, x = .ref l ∧ y = .int k ∧ SqT K H l xs ∧ xs ≠ [] ∧ xs.length ≤ 1000 ∧ 1 ≤ k ∧ k ≤ 1000 ∧ (k = 1 → Q (.ref l) H) ∧ (2 ≤ k → ∀ p, H p = none → Q (.ref p) (upd H p (.tup (List.replicate k.toNat xs).flatten)))
theorem op_repT1 {X : Cx} : OpR X (binaryOp .Mult) (rRepT1 X.K) := by
  intro pins s σ H x y v u Q I rx ry h
  obtain ⟨l, k, xs, rfl, rfl, hT, hne, hz, h1, h2, q1, q2⟩ := h
  by_cases e : k = 1
  · subst e
    cases rx
    obtain ⟨t, rfl⟩ := ry
    obtain ⟨its, r, ⟨⟨cls, dd, data, sl⟩, ho, hc, n, hd⟩, hs⟩ := I.tuple hT
    simp only at hc hd
    subst hc hd
    exact wpAny_binaryOp_repeat_ref (T := "tuple") (U := "int") (by decide) ⟨_, ho, rfl⟩ (fun s' => typeIs_int s' 1 t) noFill_tuple_mul PySem.F.fills_int_mul PySem.F.slot_int_rmul repeat_tuple PySem.F.slot_int_index.lookup
      (call_meets PySem.F.slot_int_rmul (typeIs_int s 1 t) PySem.F.entry_int_rmul (PySem.F.args_int_rmul_2 _ _) (int_rmul_tuple 1 t l its.toArray n dd sl)
        ⟨ho, rfl, ⟨_, ho, rfl⟩, call_meets PySem.F.slot_tuple_mul ⟨_, ho, rfl⟩ PySem.F.entry_tuple_mul (PySem.F.args_tuple_mul_2 _ _) (tuple_mul1W l its.toArray n dd sl t) ⟨ho, .ref l, H, I, rfl, q1 rfl⟩⟩)
  · exact op_repT pins s σ H _ _ v u Q I rx ry ⟨l, k, xs, rfl, rfl, hT, hne, by omega, h2, hz, q2 (by omega)⟩
theorem kop_repT1 {X : Cx} {K : PySem.W.Frag} (h : X.K = K) : OpR X (binaryOp .Mult) (rRepT1 K) := h ▸ op_repT1
/-- what a tree may stand at -/
def TreeO (o : HO) : Prop := (∃ xs, o = .tup xs) ∨ (∃ xs, o = .lst xs) ∨ (∃ od xs, o = .frz od (.lst xs)) ∨ (∃ kvs, o = .dK kvs) ∨ ∃ kvs, o = .dT kvs
section
variable {K : PySem.W.Frag} {φ φ' : Addr → Prop} {H H' : Hp}
def UpW (φ φ' : Addr → Prop) (H H' : Hp) : Prop := ∀ a o, φ a → H a = some o → TreeO o → φ' a ∧ H' a = some o
mutual
theorem Rep.upW (k : UpW φ φ' H H') : ∀ (d : D) (v : V), Rep K φ H d v → Rep K φ' H' d v
  | .non, _, h => h
  | .bl _, _, h => h
  | .int _, _, h => h
  | .str _, _, h => h
  | .raw _, _, h => h
  | .dk ks ds, v, h => by
    obtain ⟨a, vs, e, ⟨p, e2, hl⟩, r⟩ := (show ∃ a vs, v = .ref a ∧ (φ a ∧ H a = some (.dK (ks.zip vs)) ∧ ks.length = ds.length) ∧ Reps K φ H ds vs from h)
    have z := k a _ p e2 (.inr (.inr (.inr (.inl ⟨_, rfl⟩))))
    exact ⟨a, vs, e, ⟨z.1, z.2, hl⟩, Reps.upW k ds vs r⟩
  | .dt ks ds, v, h => by
    obtain ⟨a, vs, e, ⟨p, e2, hl⟩, r⟩ := (show ∃ a vs, v = .ref a ∧ (φ a ∧ H a = some (.dT (ks.zip vs)) ∧ ks.length = ds.length) ∧ Reps K φ H ds vs from h)
    have z := k a _ p e2 (.inr (.inr (.inr (.inr ⟨_, rfl⟩))))
    exact ⟨a, vs, e, ⟨z.1, z.2, hl⟩, Reps.upW k ds vs r⟩
  | .tup ds, v, h => by
    obtain ⟨a, vs, e, p, r⟩ := (show ∃ a vs, v = .ref a ∧ PT K φ H a vs ∧ Reps K φ H ds vs from h)
    have z := k a _ p.at.1 p.at.2 (.inl ⟨_, rfl⟩)
    exact ⟨a, vs, e, .inl ⟨z.1, .inl z.2⟩, Reps.upW k ds vs r⟩
  | .lst ds, v, h => by
    obtain ⟨a, vs, e, p, r⟩ := (show ∃ a vs, v = .ref a ∧ PL K φ H a vs ∧ Reps K φ H ds vs from h)
    refine ⟨a, vs, e, p.elim (fun ⟨pa, rd⟩ => ?_) .inr, Reps.upW k ds vs r⟩
    rcases rd with rd | ⟨od, rd⟩
    · have z := k a _ pa rd (.inr (.inl ⟨_, rfl⟩))
      exact .inl ⟨z.1, .inl z.2⟩
    · have z := k a _ pa rd (.inr (.inr (.inl ⟨_, _, rfl⟩)))
      exact .inl ⟨z.1, .inr ⟨od, z.2⟩⟩
theorem Reps.upW (k : UpW φ φ' H H') : ∀ (ds : List D) (vs : List V), Reps K φ H ds vs → Reps K φ' H' ds vs
  | [], _, h => h
  | d :: ds, vs, h => by
    obtain ⟨v, r, e, h1, h2⟩ := (show ∃ v r, vs = v :: r ∧ Rep K φ H d v ∧ Reps K φ H ds r from h)
    exact ⟨v, r, e, Rep.upW k d v h1, Reps.upW k ds r h2⟩
end
end
section
variable {K : PySem.W.Frag} {φ : Addr → Prop} {J : Hp → Prop} {ρ : List (Option D)} {td ty : TE} {κ : Type} [DecidableEq κ] [DKind κ] {kds : List (κ × D)} {l : Addr} {d : D}
theorem ho_mut (kvs : List (κ × V)) (h : DKind.ho kvs = .dK [] ∨ True) : True := trivial
theorem frz_tree {od : Obj} {u : HO} (hu : ∀ xs, u ≠ .lst xs) : ¬ TreeO (.frz od u) := fun h => by
  rcases h with ⟨_, e⟩ | ⟨_, e⟩ | ⟨_, _, e⟩ | ⟨_, e⟩ | ⟨_, e⟩
  · cases e
  · cases e
  · injection e with _ e
    exact hu _ e
  · cases e
  · cases e
/-- a live dict is locked while it is walked -/
theorem ev_lockS {t : TE} {P : D → Prop} (L : LivDS K (wo φ l) J l kds) (hl : φ l) (hm : ∀ vs, Mut (some (DKind.ho ((kds.map (·.1)).zip vs)))) (hn : ∀ vs xs, DKind.ho ((kds.map (·.1)).zip vs) ≠ .lst xs)
    (h : ∀ (od : Obj) (vs : List V) (J1 : Hp → Prop), vs.length = kds.length → (∀ H, J1 H → H l = some (.frz od (DKind.ho ((kds.map (·.1)).zip vs))) ∧ Reps K (fun a => φ a ∧ ∀ H, J1 H → H a ≠ none) H (kds.map (·.2)) vs) → EvP K φ J1 t ρ P) : EvP K (wo φ l) J (tLockE t) ρ P := fun σ H A Q q => by
  obtain ⟨vs, H0, r0, n0, k0⟩ := L.ex
  have hd := (k0 H A.j).1
  generalize hu : DKind.ho ((kds.map (·.1)).zip vs) = u at hd
  refine ⟨l, u, hd, hu ▸ hm vs, fun od => ?_⟩
  have nlst : ∀ xs, u ≠ .lst xs := hu ▸ hn vs
  have A1 : At K φ (fun H2 => H2 l = some (.frz od u) ∧ J (L2.upd H2 l u)) ρ σ (L2.upd H l (.frz od u)) := by
    refine ⟨A.sr.up fun a o p e => ⟨p.1, by rw [upd_ne p.2]; exact e⟩, ⟨fun a ha => ?_, fun a xs ha => ?_⟩, ⟨upd_same, by rw [upd_upd hd]; exact A.j⟩, fun Ha Hb k j => ⟨k l _ (by rw [upd_same]; exact fun z => nomatch z) j.1, A.mono _ _ (fun a o ha e => ?_) j.2⟩⟩
    · by_cases e : a = l
      · rw [e]; exact hl
      · rw [upd_ne e] at ha; exact (A.fr.new a ha).1
    · by_cases e : a = l
      · rw [e]; exact hl
      · rw [upd_ne e] at ha; exact (A.fr.tup a xs ha).1
    · by_cases ea : a = l
      · rw [ea, upd_same] at e ⊢; exact e
      · rw [upd_ne ea] at e ⊢
        exact k a o (upd_tr a ha) e
  refine h od vs _ (by rw [r0.length, List.length_map]) (fun H2 j => ⟨hu ▸ j.1, ?_⟩) σ _ A1 _ fun v x H2 b2 A2 px r2 => ⟨A2.j.1, ?_⟩
  · have b := (k0 _ j.2).2
    exact Reps.up (fun a o p e => ⟨⟨p.1, fun H3 j3 => by
      have z := (k0 _ j3.2).2.keep a o p e
      rw [upd_ne p.2] at z
      rw [z]
      exact fun z => nomatch z⟩, by
      have z := b.keep a o p e
      rw [upd_ne p.2] at z
      exact z⟩) _ vs r0
  · have el := A2.j.1
    have ub : But (wo φ l) H (L2.upd H2 l u) := ⟨fun a o p e => by
      rw [upd_ne p.2]
      exact b2.keep a o p.1 (by rw [upd_ne p.2]; exact e), fun a ha => upd_tr a (b2.tr a (upd_tr a ha))⟩
    refine q v x (L2.upd H2 l u) ub ⟨A.sr.up (Up.of ub), ?_, A2.j.2, A.mono.up ub.tr⟩ px (Rep.upW (fun a o p e ht => ?_) x v r2)
    · refine A2.fr.updW fun xs e => ?_
      rw [← hu] at e
      exact DKind.nt _ xs e
    · have na : a ≠ l := fun z => by
        subst z
        rw [el] at e
        cases e
        exact frz_tree nlst ht
      exact ⟨⟨p, na⟩, by rw [upd_ne na]; exact e⟩
/-- .. a dict left as it is: what else the slots hold is forgotten meanwhile -/
theorem ev_lockD {k n : Nat} {t : TE} {P : D → Prop} (hn0 : ρ.length = n) (hk : ρ[k]? = some (some (dictD kds))) (hm : ∀ vs, Mut (some (DKind.ho ((kds.map (·.1)).zip vs)))) (hn : ∀ vs xs, DKind.ho ((kds.map (·.1)).zip vs) ≠ .lst xs)
    (h : ∀ (l : Addr) (od : Obj) (vs : List V) (J1 : Hp → Prop), vs.length = kds.length → φ l → (∀ H, J1 H → H l = some (.frz od (DKind.ho ((kds.map (·.1)).zip vs)))) → EvP K φ J1 t ((List.replicate n none).set k (some (.raw (.ref l)))) P) : EvP K φ J (tLockE t) ρ P := fun σ H A Q q => by
  obtain ⟨v0, ev0, rv0⟩ := A.sr.2 k _ hk
  obtain ⟨l, vs, rfl, ⟨hl, hd, _⟩, rs⟩ := DKind.rep.mp rv0
  have hlen : vs.length = kds.length := by rw [rs.length, List.length_map]
  generalize hu : DKind.ho ((kds.map (·.1)).zip vs) = u at hd
  refine ⟨l, u, hd, hu ▸ hm vs, fun od => ?_⟩
  have nlst : ∀ xs, u ≠ .lst xs := hu ▸ hn vs
  have A1 : At K φ (fun H2 => H2 l = some (.frz od u) ∧ J (L2.upd H2 l u)) ((List.replicate n none).set k (some (.raw (.ref l)))) σ (L2.upd H l (.frz od u)) := by
    refine ⟨⟨by rw [List.length_set, List.length_replicate, A.sr.1, hn0], fun i x hi => ?_⟩, A.fr.upd (fun _ h => nomatch h), ⟨upd_same, by rw [upd_upd hd]; exact A.j⟩, fun Ha Hb k j => ⟨k l _ (by rw [upd_same]; exact fun z => nomatch z) j.1, A.mono _ _ (fun a o ha e => ?_) j.2⟩⟩
    · by_cases e : k = i
      · subst e
        have hlt : k < n := by rw [← hn0]; exact (List.getElem?_eq_some_iff.mp hk).1
        rw [List.getElem?_set_self (by rw [List.length_replicate]; exact hlt)] at hi
        cases hi
        exact ⟨_, ev0, rfl⟩
      · rw [List.getElem?_set_ne e, List.getElem?_replicate] at hi
        split at hi <;> cases hi
    · by_cases ea : a = l
      · rw [ea, upd_same] at e ⊢; exact e
      · rw [upd_ne ea] at e ⊢
        exact k a o (upd_tr a ha) e
  refine h l od vs _ hlen hl (fun H2 j => hu ▸ j.1) σ _ A1 _ fun v x H2 b2 A2 px r2 => ⟨A2.j.1, ?_⟩
  have el := A2.j.1
  have ub : But φ H (L2.upd H2 l u) := ⟨fun a o p e => by
    by_cases ea : a = l
    · rw [ea] at e ⊢
      rw [hd] at e
      rw [upd_same]; exact e
    · rw [upd_ne ea]
      exact b2.keep a o p (by rw [upd_ne ea]; exact e), fun a ha => upd_tr a (b2.tr a (upd_tr a ha))⟩
  refine q v x (L2.upd H2 l u) ub ⟨A.sr.up (Up.of ub), A2.fr.upd (fun xs e => ?_), A2.j.2, A.mono.up ub.tr⟩ px (Rep.upW (fun a o p e ht => ?_) x v r2)
  · rw [← hu] at e
    exact DKind.nt _ xs e
  · have na : a ≠ l := fun z => by
      subst z
      rw [el] at e
      cases e
      exact frz_tree nlst ht
    exact ⟨p, by rw [upd_ne na]; exact e⟩
theorem reps_keys {H : Hp} : ∀ ks : List Key, Reps K φ H (ks.map keyD) (ks.map kV)
  | [] => Reps.nil
  | k :: ks => Reps.cons (by cases k <;> rfl) (reps_keys ks)
/-- the keys of a locked dict -/
theorem it_keysT {od : Obj} {kvs : List (List Key × V)} (h : EvD K φ J td ρ (.raw (.ref l))) (hl : φ l) (hJ : ∀ H, J H → H l = some (.frz od (.dT kvs))) : IterD K φ J (iKeys td) ρ (kvs.map fun kv => .tup (kv.1.map keyD)) := fun σ H A R q => h σ H A _ fun v x H1 b1 A1 e r => by
  subst e
  cases (show v = _ from r)
  refine ⟨l, od, rfl, .inr ⟨kvs, hJ _ A1.j, q _ _ H1 b1 A1 rfl fun φ' i H2 u f => ?_⟩⟩
  have e2 := (u l _ hl (hJ _ A1.j)).2
  refine ⟨fun x hx => ?_, fun hi => ⟨e2, by rw [hi, List.length_map]; exact Nat.le_refl _⟩⟩
  rw [List.getElem?_map] at hx
  obtain ⟨kv, hkv, rfl⟩ := Option.map_eq_some_iff.mp hx
  refine ⟨⟨e2, (List.getElem?_eq_some_iff.mp hkv).1⟩, fun y H3 hy => ?_⟩
  obtain ⟨rfl, k, w, a, hk, rfl, ha⟩ := hy
  rw [hkv] at hk
  cases hk
  exact ⟨Same.refl _, a, _, rfl, .inl ⟨f.tup a _ ha, .inl ha⟩, reps_keys _⟩
theorem it_keysK {od : Obj} {kvs : List (Key × V)} (h : EvD K φ J td ρ (.raw (.ref l))) (hl : φ l) (hJ : ∀ H, J H → H l = some (.frz od (.dK kvs))) : IterD K φ J (iKeys td) ρ (kvs.map fun kv => keyD kv.1) := fun σ H A R q => h σ H A _ fun v x H1 b1 A1 e r => by
  subst e
  cases (show v = _ from r)
  refine ⟨l, od, rfl, .inl ⟨kvs, hJ _ A1.j, q _ _ H1 b1 A1 rfl fun φ' i H2 u f => ?_⟩⟩
  have e2 := (u l _ hl (hJ _ A1.j)).2
  refine ⟨fun x hx => ?_, fun hi => ⟨e2, by rw [hi, List.length_map]; exact Nat.le_refl _⟩⟩
  rw [List.getElem?_map] at hx
  obtain ⟨kv, hkv, rfl⟩ := Option.map_eq_some_iff.mp hx
  refine ⟨⟨e2, (List.getElem?_eq_some_iff.mp hkv).1⟩, fun y H3 hy => ?_⟩
  obtain ⟨rfl, k, w, hk, rfl⟩ := hy
  rw [hkv] at hk
  cases hk
  exact ⟨Same.refl _, by cases k <;> rfl⟩
/-- d[k] while d is locked -/
theorem ev_dgetF {od : Obj} {kds : List (Key × D)} {vs : List V} {k : Key} (hd : EvD K φ J td ρ (.raw (.ref l))) (hJ : ∀ H, J H → H l = some (.frz od (.dK ((kds.map (·.1)).zip vs))) ∧ Reps K φ H (kds.map (·.2)) vs) (hy : EvD K φ J ty ρ (keyD k)) (e : valD kds k = some d) : EvD K φ J (tDGet td ty) ρ d := fun σ H A Q q =>
  hd σ H A _ fun a x H1 b1 A1 ex rx => hy σ H1 A1 _ fun y d' H2 b2 A2 e2 r2 => by
    subst ex e2
    cases (show a = _ from rx)
    obtain ⟨ea, rs⟩ := hJ H2 A2.j
    rcases zip_val rs k with ⟨e1, _⟩ | ⟨d1, v1, e1, ev, r1⟩
    · rw [e] at e1; cases e1
    · rw [e] at e1
      cases e1
      refine ⟨l, v1, rfl, ?_, q v1 _ H2 (b1.trans b2) A2 rfl r1⟩
      rw [← ev, keyD_v r2]
      exact .inl ⟨_, k, .inr ⟨od, ea⟩, rfl, rfl⟩
/-- t * n, n at least 1 -/
theorem ev_repT1 {ta tb : TE} {ds : List D} {i : Int} (ha : EvD K φ J ta ρ (.tup ds)) (hb : EvD K φ J tb ρ (.int i)) (hne : ds ≠ []) (h1 : 1 ≤ i) (h3 : i ≤ 1000) (hz : ds.length ≤ 1000) : EvD K φ J (tOp (rRepT1 K) ta tb) ρ (.tup (List.replicate i.toNat ds).flatten) :=
  ev_opD ha hb fun H v w fr r1 r2 Q q => by
    obtain ⟨a, vs, rfl, p, rs⟩ := rep_tup r1
    cases (show w = _ from r2)
    refine ⟨a, i, vs, rfl, rfl, p.sq, fun z => hne (List.eq_nil_of_length_eq_zero (by rw [← rs.length, z]; rfl)), by rw [rs.length]; exact hz, h1, h3, fun e => ?_, fun h2 l hl => q _ _ _ (same_new hl) rfl ⟨l, _, rfl, .inl ⟨fr l hl, .inl upd_same⟩, ?_⟩⟩
    · subst e
      refine q _ _ H (Same.refl H) rfl ⟨a, vs, rfl, p, ?_⟩
      show Reps K φ H (List.replicate 1 ds).flatten vs
      rw [List.replicate_succ, List.replicate_zero, List.flatten_cons, List.flatten_nil, List.append_nil]
      exact rs
    · exact (replicate_reps rs _).mono (But.of (same_new hl))
end
/-! ### {t: v}, t a tuple of ints and texts -/
def tDispT1 (tk tv : TE) : TE := fun σ H Q => ∀ p, H p = none → tk σ (upd H p (.dT [])) fun x H1 => tv σ H1 fun y H2 => H2 p = some (.dT []) ∧ ∃ (k : List Key) (b : Addr), x = .ref b ∧ H2 b = some (.tup (k.map kV)) ∧ Q (.ref p) (upd H2 p (.dT [(k, y)]))
theorem pe_dispT1 {X : Cx} {pos : Pos} {ke ve : Expr} {tk tv : TE} (hu : X.A.units + 1 < cLine) (h : PPs X pos [some ke] [ve] [(tk, tv)]) : PE X (.Dict [some ke] [ve] pos) (tDispT1 tk tv) := by
  refine ⟨fun pins s σ H Q I q => ?_⟩
  have hn := I.hok.fresh (Nat.le_refl s.heap.objs.size)
  have I1 := I.laid (a := s.heap.objs.size) (o := .dT []) (h' := s.heap.push { cls := .type "dict", data := .dict #[] }) (t' := s.toks) (fun _ _ q => Heap.get?_push_of_some _ q) (Nat.le_refl _) (dt_empty s.heap I.big)
  have q' := q _ hn
  rw [arm_eval_Dict, zip_pairTrees [some ke] [ve] X.env pos rfl rfl, dictDisplay_pairs (pairTrees [some ke] [ve] X.env pos) (by intro z; cases z) (Nat.le_of_ble_eq_true rfl)]
  refine wpAny_bind (wpAny_standAt (wpAny_bind (wpAny_subDictH (knd := tupleKind (mixKind X.prog X.w)) (Q := fun d s' => wpAny (model X.prog X.w) X.A (pure (Value.ref d)) (EP X pins σ Q) X.xe s') (show X.A.units < cLine by omega) (Nat.le_of_ble_eq_true rfl) ?_)))
  refine thn (h.run pins _ σ _ (fun ps H2 => match ps with
    | [(x, y)] => H2 s.heap.objs.size = some (.dT []) ∧ ∃ (k : List Key) (b : Addr), x = .ref b ∧ H2 b = some (.tup (k.map kV)) ∧ Q (.ref s.heap.objs.size) (upd H2 s.heap.objs.size (.dT [(k, y)]))
    | _ => False) I1 q') fun ws s2 ⟨ps, H2, I2, rel, q2⟩ => ?_
  obtain ⟨x, y, rfl⟩ : ∃ x y, ps = [(x, y)] := by
    cases ps with
    | nil => exact q2.elim
    | cons p r =>
      cases r with
      | nil => exact ⟨p.1, p.2, rfl⟩
      | cons _ _ => exact q2.elim
  obtain ⟨e, k, b, rfl, eb, q3⟩ := q2
  cases rel with
  | @cons a b1 as bs hp t =>
    cases t
    obtain ⟨b2, b3⟩ := hp
    have exw : b1.1 = .ref b := b2
    obtain ⟨z, hd, xs0, r0, dd⟩ := dt_of I2.hok e
    cases r0
    refine ⟨[(k, b, b1.2)], ⟨exw, rfl, key_of I2.hok eb, trivial⟩, dd, fun h' tk dd' hs => wpAny_pure ⟨.ref s.heap.objs.size, _, ?_, rfl, q3⟩⟩
    obtain ⟨o, es, ep, hq, h2, h3, h4, _, h5⟩ := dd'
    refine d_write I2 (by rw [e]; exact True.intro) hs ⟨o, hq⟩ ⟨by show 1 ≤ sizeLine; decide, hd, _, (.cons ⟨rfl, ?_, b3⟩ .nil : KT (upd H2 s.heap.objs.size (.dT [(k, y)])) [(k, y)] [(k, b, b1.2)]), o, es, ep, hq, h2, h3, h4, h5⟩
    show upd H2 s.heap.objs.size _ b = _
    rw [upd_ne (fun z => by rw [z, e] at eb; cases eb)]
    exact eb
section
variable {K : PySem.W.Frag} {φ : Addr → Prop} {J : Hp → Prop} {ρ : List (Option D)} {tk tv : TE}
theorem en_dispT1 {k : List Key} {d : D} (hk : ∀ J' φ', Ext φ J φ' J' → EvD K φ' J' tk ρ (.tup (k.map keyD))) (hv : ∀ J' φ', Ext φ J φ' J' → EvD K φ' J' tv ρ d) : EvNO K φ J (tDispT1 tk tv) ρ (fun ds C => ds = ([(k, d)].map (·.2)) ∧ C = fun vs => HO.dT (([(k, d)].map (·.1)).zip vs)) := fun σ H A Q q p hp => by
  have ext : Ext φ J (wo φ p) (fun H => J H ∧ H p = some (.dT [])) := ⟨fun _ h => h.1, fun p' s ns hq => ⟨fun z => hq.np z.1, hq.ne, fun H h => hq.ok H h.1, fun H' H'' h k o => ⟨hq.st H' H'' h.1 k o, k _ _ (by
    obtain ⟨_, _, _, _, h1, _⟩ := hq.ok _ A.j
    exact (ne_of_none h1 hp).symm) h.2⟩⟩, fun a p' h => ⟨p', fun e => h H A.j (by rw [e]; exact hp)⟩⟩
  have A1 : At K (wo φ p) (fun H => J H ∧ H p = some (.dT [])) ρ σ (upd H p (.dT [])) := A.newLive hp ⟨A.mono _ _ (fun a o _ e => same_new hp a o e) A.j, upd_same⟩ ((A.mono.up upd_tr).and (Mo.at (by rw [upd_same]; exact fun z => nomatch z)))
  refine hk _ _ ext σ _ A1 _ fun v1 d1 H2 b2 A2 e1 r1 => hv _ _ ext σ H2 A2 _ fun v2 d2 H3 b3 A3 e2 r2 => ?_
  subst e1 e2
  obtain ⟨b, vs, rfl, pb, rs⟩ := rep_tup (r1.mono b3)
  rw [keysD_v rs] at pb
  refine ⟨A3.j.2, k, b, rfl, pb.at.2, ?_⟩
  have np : ¬ wo φ p p := fun z => z.2 rfl
  have bb : But φ H (upd H3 p (.dT [(k, v2)])) := ⟨fun a o pa e => by
    have ne := ne_of_none e hp
    rw [upd_ne ne]
    exact b3.keep a o ⟨pa, ne⟩ (b2.keep a o ⟨pa, ne⟩ (by rw [upd_ne ne]; exact e)), fun a h => upd_tr a (b3.tr a (b2.tr a (upd_tr a h)))⟩
  have jj : J (upd H3 p (.dT [(k, v2)])) := A.mono H3 _ (fun a o h e => by
    rw [upd_ne (show a ≠ p from fun z => h (by rw [z]; exact hp))]
    exact e) A3.j.1
  exact q p [v2] [d2] _ H _ (But.refl _ _) A hp bb ⟨A.sr.up (Up.of bb), A3.fr.fst.upd (fun _ h => nomatch h), jj, A.mono.up bb.tr⟩ ⟨rfl, rfl⟩ (fun _ h => nomatch h) upd_same (Reps.cons (r2.mono ((But.refl _ H3).upd np)) Reps.nil)
end
/-! ### sorted, the trees told themselves -/
theorem perm_lift {α β : Type} (f : α → β) : ∀ {l k : List β}, l.Perm k → ∀ {m : List α}, k = m.map f → ∃ m' : List α, m'.Perm m ∧ l = m'.map f := by
  intro l k p
  induction p with
  | nil => intro m e; exact ⟨m, List.Perm.refl _, e⟩
  | cons x _ ih =>
    intro m e
    cases m with
    | nil => cases e
    | cons a m =>
      obtain ⟨e1, e2⟩ := List.cons.inj e
      obtain ⟨m', p', e'⟩ := ih e2
      exact ⟨a :: m', p'.cons a, by rw [List.map_cons, ← e', e1]⟩
  | swap x y t =>
    intro m e
    cases m with
    | nil => cases e
    | cons a m =>
      cases m with
      | nil => have := (List.cons.inj e).2; cases this
      | cons b m =>
        obtain ⟨e1, e2⟩ := List.cons.inj e
        obtain ⟨e3, e4⟩ := List.cons.inj e2
        exact ⟨b :: a :: m, List.Perm.swap a b m, by rw [List.map_cons, List.map_cons, e1, e3, e4]⟩
  | trans _ _ ih1 ih2 =>
    intro m e
    obtain ⟨m2, p2, e2⟩ := ih2 e
    obtain ⟨m1, p1, e1⟩ := ih1 e2
    exact ⟨m1, p1.trans p2, e1⟩
theorem perm_uniq {α : Type} {R : α → α → Prop} (anti : ∀ a b, R a b → R b a → a = b) : ∀ {a b : List α}, a.Pairwise R → b.Pairwise R → a.Perm b → a = b
  | [], b, _, _, h => (List.Perm.eq_nil h.symm).symm
  | x :: a, [], _, _, h => absurd h.length_eq (by simp)
  | x :: a, y :: b, ha, hb, h => by
    have e : x = y := by
      rcases List.mem_cons.mp (h.mem_iff.mp (List.mem_cons_self (a := x) (l := a))) with e | hx
      · exact e
      · rcases List.mem_cons.mp (h.mem_iff.mpr (List.mem_cons_self (a := y) (l := b))) with e | hy
        · exact e.symm
        · exact anti x y ((List.pairwise_cons.mp ha).1 y hy) ((List.pairwise_cons.mp hb).1 x hx)
    subst e
    rw [perm_uniq anti (List.pairwise_cons.mp ha).2 (List.pairwise_cons.mp hb).2 h.cons_inv]
theorem dataLt_anti {x y : PyData} (ha : PySem.W.alike x y = true) (h1 : PySem.W.dataLt x y = false) (h2 : PySem.W.dataLt y x = false) : PyData.eqv x y = true := by
  have e : PySem.W.keyToks x = PySem.W.keyToks y := PyProof.Rows.lex_total _ _ h1 h2
  cases h : PyData.eqv x y with
  | true => rfl
  | false =>
    have z := (PySem.W.toks_eqv x y ha).2 h [] [.inl 0]
    have z2 := (PySem.W.toks_eqv x y ha).2 h [] []
    rw [e] at z z2
    have z3 : PyProof.Rows.lexLt PyProof.Rows.itemOrd (PySem.W.keyToks y ++ []) (PySem.W.keyToks y ++ [.inl 0]) = true := by
      rw [PySem.W.lex_pre]; rfl
    have z4 : PyProof.Rows.lexLt PyProof.Rows.itemOrd (PySem.W.keyToks y ++ []) (PySem.W.keyToks y ++ []) = false := by
      rw [PySem.W.lex_pre]; rfl
    rw [z3] at z
    rw [z4] at z2
    rw [← z2] at z
    cases z
section
variable {K : PySem.W.Frag} {φ : Addr → Prop} {J : Hp → Prop} {ρ : List (Option D)} {te : TE} {ds : List D}
theorem ev_sortQP (ha : EvD K φ J te ρ (.lst ds)) (hq : okq 64 (.lst ds) = true) (hal : PySem.W.AllAlike (ds.map toPy)) (hso : PySem.W.Sortable (ds.map toPy)) : EvP K φ J (tCB (rSortQ K) (tCons te tNil)) ρ (fun z => ∃ es : List D, z = .lst es ∧ es.Perm ds ∧ es.Pairwise (fun a b => PySem.W.dataLt (toPy b) (toPy a) = false)) := ev_cbD (ea_cons ha ea_nil) fun H vs f r Q q => by
  obtain ⟨v, rfl, r1⟩ := r.one
  obtain ⟨a, vs, rfl, p, rs⟩ := rep_lst r1
  have hl := rs.length
  have hd := dps_of ds vs 63 hq rs
  rw [toPys_map] at hd
  refine ⟨a, vs, ds.map toPy, rfl, p.sq, hd, hal, hso, fun d hd => ?_, fun zs p hp hs hn => ?_⟩
  · obtain ⟨e, he, rfl⟩ := List.mem_map.mp hd
    exact Nat.le_succ_of_le (okq_lay 63 e (List.all_eq_true.mp (show ds.all (okq 63) = true from hq) e he)).2
  · rw [zip_map2] at hp
    obtain ⟨us, hu, rfl⟩ := perm_lift (fun z : V × D => (z.1, toPy z.2)) hp rfl
    have hr : Reps K φ H (us.map (·.2)) (us.map (·.1)) := by
      have hall : ∀ z ∈ us, Rep K φ H z.2 z.1 := fun z hz => reps_zip rs z (hu.mem_iff.mp hz)
      clear hu hp hs
      induction us with
      | nil => exact Reps.nil
      | cons z us ih => exact Reps.cons (hall z List.mem_cons_self) (ih fun u hu => hall u (List.mem_cons_of_mem _ hu))
    rw [List.map_map] at hs ⊢
    refine q _ (.lst (us.map (·.2))) _ (same_new hn) ⟨us.map (·.2), rfl, ?_, ?_⟩ ⟨p, _, rfl, .inl ⟨f.new p hn, .inl upd_same⟩, hr.mono (But.of (same_new hn))⟩
    · have := hu.map Prod.snd
      rw [List.map_snd_zip (by omega)] at this
      exact this
    · rw [List.pairwise_map] at hs ⊢
      exact hs
end

-- import HandS.Comp
-- import HandS.Exc
-- import HandS.ExcOwn
/-! ### an exception that leaves a list comprehension -/
/-- an exception in the air of X, the frame L told -/
def XEL (X : Cx) (L : Addr) (W : WX) (u : Value) (s' : Shared) : Prop :=
  ∃ (a : Addr) (B : Heap) (sI : Shared) (pins : List (Addr × Obj)) (σ : L2.St) (H : Hp) (cls : Value) (d : Option Addr),
    u = .ref a ∧ Inv X pins σ H sI ∧ (∀ b o, sI.heap.get? b = some o → b ∉ frs X.stack → B.get? b = some o) ∧ sI.heap.UpToSlots s'.heap ∧
      Sky B X.stack a (Zc cls d) L s'.heap ∧ H a = none ∧ s'.os = sI.os ∧ AllBare s'.gens ∧ W cls d σ H
/-- what X wants of exceptions takes those that leave its frame L -/
structure TakesL (X : Cx) (L : Addr) (W : WX) : Prop where
  tk : ∀ u s', XEL X L W u s' → X.xe u s'
  st : ∃ e0 outer, X.stack = e0 :: outer ∧ e0.frame = some L
  fr : X.env.frame = some L
theorem takesL {X : Cx} {W : WX} (tk : Takes X W) (hs : X.stack = X.env :: X.outer) (hf : X.env.frame = some X.env.locals) : TakesL X X.env.locals W := ⟨tk, ⟨_, _, hs, hf⟩, hf⟩
section
variable {X : Cx} {pins : List (Addr × Obj)} {σ : L2.St} {H : Hp} {sI s s' : Shared} {B : Heap} {W : WX} {E : XK} {L : Addr}
theorem XEL.of_call (I : Inv X pins σ H s) (hW : ∀ cls d H', E cls d H' → W cls d σ H') {u : Value} (c : L2.CX X.prog X.w X.stack H s E u s') : XEL X L W u s' := by
  obtain ⟨a, B, H', cls, d, rfl, fl, hok, ub, na, os, ag, hE⟩ := c
  obtain ⟨G, g1, g2⟩ := restrict s'.heap fun b => (B.get? b).isSome || decide (b ∈ frs X.stack)
  have st : B.StaysIn s'.heap := fl.1
  have gB : ∀ b o, B.get? b = some o → G.get? b = some o := fun b o e => by
    rw [g1 b (by simp [e])]
    exact st b o e
  have gF : ∀ b, b ∈ frs X.stack → G.get? b = s'.heap.get? b := fun b hb => g1 b (by simp [hb])
  have og : ∀ b o, G.get? b = some o → s'.heap.get? b = some o ∧ ((B.get? b).isSome = true ∨ b ∈ frs X.stack) := fun b o e => by
    cases q : ((B.get? b).isSome || decide (b ∈ frs X.stack)) with
    | false => rw [g2 b q] at e; cases e
    | true =>
      rw [g1 b q] at e
      exact ⟨e, by simpa [Bool.or_eq_true] using q⟩
  refine ⟨a, B, { s with heap := G, gens := s'.gens, drawn := s'.drawn, toks := s'.toks }, pins, σ, H', cls, d, rfl, ?_, fun b o e hb => ?_, Heap.UpToSlots.of_keeps fun b o e => (og b o e).1, .inr (.inl fl), na, os, ag, hW _ _ _ hE⟩
  · refine I.call (ch := []) ⟨fun b o e n hb _ => gB b o (ub.keep b o e n hb), fun b o e n hb _ => ?_, fun b o e n _ => ub.free b o e n, fun b o e _ => ?_, ub.tups, ub.frzs, ub.tbls⟩ (hok.kept gB) ag (fun _ z => nomatch z)
    · obtain ⟨sl, q⟩ := ub.slot b o e hb
      exact ⟨sl, by rw [gF b hb]; exact q⟩
    · by_cases hb : b ∈ frs X.stack
      · obtain ⟨sl, q⟩ := ub.slot b o e hb
        exact ⟨_, by rw [gF b hb]; exact q⟩
      · obtain ⟨o', q⟩ := ub.there b o e hb
        exact ⟨o', gB b o' q⟩
  · obtain ⟨e', h⟩ := og b o e
    rcases h with h | h
    · obtain ⟨o', q⟩ := Option.isSome_iff_exists.mp h
      have z := st b o' q
      rw [e'] at z; cases z
      exact q
    · exact absurd h hb
theorem passAtL {X : Cx} {W : WX} {L : Addr} (tk : TakesL X L W) (σ : L2.St) : PassesAt (L2.CX X.prog X.w) X σ (WE W σ) := fun _ _ _ e s' I c => tk.tk e s' (XEL.of_call I (fun _ _ _ h => h) c)
/-- noting asks for the frame alone -/
theorem note_congr {e : Value} {env env' : Env} (h : env.frame = env'.frame) : noteFrame e env = noteFrame e env' := by
  unfold noteFrame PySem.frameOf
  rw [h]
theorem funFrames_but {B B2 h h2 : Heap} {C : Addr} (k : ∀ b, b ≠ C → h2.get? b = h.get? b) (hB : ∀ b, B.get? b = none → B2.get? b = none) : ∀ {l : List Env}, h.FunFrames B l → C ∉ frs l → h2.FunFrames B2 l
  | [], _, _ => trivial
  | env :: l, ⟨hk, ⟨L, o, hf, hn, ho, hd⟩, hr⟩, hC => by
    have hL : L ∈ frs (env :: l) := List.mem_filterMap.mpr ⟨env, List.mem_cons_self, hf⟩
    refine ⟨hk, ⟨L, o, hf, hB _ hn, ?_, hd⟩, funFrames_but k hB hr fun z => hC ?_⟩
    · rw [k L fun z => hC (z ▸ hL)]
      exact ho
    · obtain ⟨e, he, q⟩ := List.mem_filterMap.mp z
      exact List.mem_filterMap.mpr ⟨e, List.mem_cons_of_mem _ he, q⟩
/-- Sky, noted by the frame -/
theorem Sky.note {M : Model} {A : Around} {E₁ : Value → Shared → Prop} {env : Env} {outer : List Env} {L a : Addr} {Z : Obj → Prop} {Q : Unit → Shared → Prop} (hZ : HandSPX.Steady Z) (hfr : A.frames = some (env :: outer)) (hf : env.frame = some L)
    (x : Sky B (env :: outer) a Z L s.heap) (hQ : ∀ h', HandSPX.HeldZ B (env :: outer) a Z L h' → s.heap.UpToSlots h' → Q () { s with heap := h' }) : wpAny M A (noteFrame (.ref a) env) Q E₁ s := by
  rcases x with ⟨hB, hn, hl, oe, vs, he, hz, hd, h1⟩ | fl | hh
  · exact HandSPX.look_newZ hZ hfr hl hf he hB hn hd h1 hz hQ
  · exact HandSPX.looks_onZ hZ hfr hf fl hQ
  · exact HandSPX.againZ hf hh.2.2.2 (hQ s.heap hh (Heap.UpToSlots.refl _))
end
/-- as compPost, the frame of the block told -/
def compPostF (M : Model) (A : Around) (E : Value → Shared → Prop) (use : Option (Value → Sem Unit)) (Q : Value → Shared → Prop) (acc : Value) (C : Addr) (F : Option Addr) (r : Result) (s' : Shared) : Prop :=
  match r with
  | .ok f => compPost M A E use Q acc C (.ok f) s'
  | .error x => ∃ m, s'.heap.Ns C m ∧ ∀ h', Heap.SameBut C s'.heap h' → ∀ cenv : Env, cenv.locals = C → cenv.frame = F → wpAny M A (passOn "comprehension.variables-let-go" x cenv : Sem Value) (fun _ _ => False) E { s' with heap := h' }
/-- the library's wpAny_comprehension_free, an exception allowed -/
theorem comp_freeF {M : Model} {A : Around} {E : Value → Shared → Prop} {s : Shared} {env : Env} {e : Expr} {scope : Scope} {pos : Pos} {newAcc first : Sem Value} {g : Comprehension} {gs : List Comprehension} {cl : List (Str × Addr)} {use : Option (Value → Sem Unit)}
    {Q : Value → Shared → Prop}
    (hcl : clausesOf e = g :: gs) (hs : ∀ x, foldedSetIterable g.iter env x = pure x) (hclos : closureFor scope env = pure cl)
    (hkind : scope.kind = .function) (hnames : ∀ x ∈ scope.names, x.2 = .local → scope.names.lookup x.1 = some .local)
    (h : wpAny M A first (fun x s₁ => wpAny M A (pyIter x) (fun it s₂ => wpAny M A newAcc (fun acc s₃ =>
      wpAny M A (newFunctionEnv scope env.globals cl [] env.qual none .none (some env)) (fun cenv s₄ =>
        codeAny M A (.compStart e 0 it acc { cenv with scope := relabel scope env }) (compPostF M A E use Q acc cenv.locals cenv.frame) s₄) E s₃) E s₂) E s₁) E s) :
    wpAny M A (comprehension e scope env pos newAcc false first use) Q E s := by
  unfold comprehension
  rw [hclos, hcl]
  refine wpAny_bind (wpAny_mono h (fun x s₁ h₁ => wpAny_bind (wpAny_standAt (wpAny_bind (wpAny_of_eq (hs x) (wpAny_bind (wpAny_holding (wpAny_mono h₁ (fun it s₂ h₂ =>
    wpAny_standIf (wpAny_bind (wpAny_mono h₂ (fun acc s₃ h₃ => wpAny_bind (wpAny_pure (wpAny_bind (wpAny_mono h₃ (fun cenv s₄ h₄ => ?_) fun _ _ h' => h')))) fun _ _ h' => h')))
      fun _ _ h' => h'))))))) fun _ _ h' => h')
  dsimp only
  have hv : ∀ x ∈ (scope.names.filter fun x => (x.2 == .local || x.2 == .cell) && x.1 != (".0" : Str)).reverse, x.2 = .local →
      Env.kindOf { cenv with scope := relabel scope env } x.1 = some .local := fun x hx hl => lookup_relabel_local (hnames x (List.mem_filter.mp (List.mem_reverse.mp hx)).1 hl)
  have hv' : ∀ x ∈ (scope.names.filter fun x => (x.2 == .local || x.2 == .cell) && x.1 != (".0" : Str)).reverse.drop 1 ++ (scope.names.filter fun x => (x.2 == .local || x.2 == .cell) && x.1 != (".0" : Str)).reverse.take 1,
      x.2 = .local → Env.kindOf { cenv with scope := relabel scope env } x.1 = some .local := fun x hx hl => by
    rcases List.mem_append.mp hx with h1 | h1
    · exact hv x (List.mem_of_mem_drop h1) hl
    · exact hv x (List.mem_of_mem_take h1) hl
  refine wpAny_holding (wpAny_bind (wpAny_attempt (wpAny_holding (wpAny_run (codeAny_mono h₄ fun r s' hr => ?_)))))
  cases r with
  | ok f =>
    cases use with
    | none =>
      obtain ⟨m, hn, hr⟩ := hr
      exact wpAny_bind (wpAny_holding (wpAny_comp_letGo (cenv := { cenv with scope := relabel scope env }) hkind _ s' m hv hn fun h' m' _ hs' => wpAny_pure (hr h' hs')))
    | some u =>
      refine wpAny_bind (wpAny_rule (wpAny_bind (wpAny_holding (wpAny_mono hr (fun _ s'' hr' => ?_) fun _ _ h' => h'))))
      obtain ⟨m, hn, hr'⟩ := hr'
      exact wpAny_bind (wpAny_comp_letGo (cenv := { cenv with scope := relabel scope env }) hkind _ s'' m hv' hn fun h' m' _ hs' => wpAny_pure (hr' h' hs'))
  | error x =>
    obtain ⟨m, hn, hr⟩ := hr
    exact wpAny_bind (wpAny_holding (wpAny_comp_letGo (cenv := { cenv with scope := relabel scope env }) hkind _ s' m hv hn fun h' m' _ hs' => wpAny_mono (hr h' hs' _ rfl rfl) (fun _ _ f => f.elim) fun _ _ y => y))
section
variable {X : Cx}
/-- a block's exception, out of the block -/
theorem block_out {pins : List (Addr × Obj)} {σ : L2.St} {H3 : Hp} {s3 : Shared} {scope : Scope} {ce : Env} {fp : List Addr} {E : XK} {L C : Addr} {use : Option (Value → Sem Unit)} {Q : Value → Shared → Prop} {acc u : Value} {s' : Shared}
    (I3 : Inv X pins σ H3 s3) (tk : TakesL X L fun cls d _ H => E cls d H) (hce : ce.frame = X.env.frame) (cL : ce.locals = C) (hC : s3.heap.objs.size = C) (f3 : ∀ b ∈ fp, FpOk X pins H3 b ∧ b < s3.heap.objs.size)
    (x : XEL (X.blk s3 H3 scope ce fp) L (fun cls d _ H => E cls d H) u s') : notedBy (model X.prog X.w) X.A ce (fun e s' => compPostF (model X.prog X.w) X.A X.xe use Q acc C X.env.frame (.error e) s') u s' := by
  obtain ⟨a, B, sI, p, σ', H, cls, d, rfl, IB, nb, up, sky, na, os, ag, hE⟩ := x
  obtain ⟨e0, outer, hst, he0⟩ := tk.st
  have I7 : Inv X pins σ H sI := I3.call' (ch := fp) IB.os IB.base IB.hok IB.bare fun b hb => ⟨(f3 b hb).1.2.2.2.1, (f3 b hb).1.2.1, (f3 b hb).1.2.2.2.2.1, (f3 b hb).1.2.2.2.2.2⟩
  have nC : H C = none := by
    have z : H ce.locals = none := IB.free
    rw [cL] at z
    exact z
  have fC : FpOk X pins H C := I3.fpOk (Nat.le_of_eq hC) nC
  obtain ⟨m, hn, _⟩ := IB.loc
  have hn : sI.heap.Ns ce.locals m := hn
  rw [cL] at hn
  obtain ⟨oC, es, ep, hoC, hdC, hsk, hfd⟩ := hn
  have hCs : C ∉ frs X.stack := fun z => by
    rcases List.mem_cons.mp (I3.stkSub C z) with e | e
    · exact fC.2.1 e
    · exact fC.2.2.1 e
  have hBC : B.get? C = some oC := nb C oC hoC hCs
  have hfr : X.A.frames = some (e0 :: outer) := by rw [I3.ok.frames, hst]
  unfold notedBy
  rw [note_congr (env' := e0) (by rw [hce, tk.fr, he0])]
  have sky : Sky B (e0 :: outer) a (Zc cls d) L s'.heap := by
    have z : Sky B X.stack a (Zc cls d) L s'.heap := sky
    rw [hst] at z
    exact z
  refine Sky.note Zc.steady hfr he0 sky fun h1 hh up1 => ?_
  refine ⟨m, ⟨oC, es, ep, hh.1 _ _ hBC, hdC, hsk, hfd⟩, fun h2 sb cenv _ hcf => ?_⟩
  obtain ⟨k1, k2, k3, oe, vs, T, oT, ts, he, hz, hd, h1', hnT, hTe, hT, hdT, hfl⟩ := hh
  have aC : a ≠ C := fun z => by
    rw [z, hBC] at k2
    cases k2
  have TC : T ≠ C := fun z => by
    rw [z, hBC] at hnT
    cases hnT
  have at2 : ∀ b, b ≠ C → h2.get? b = h1.get? b := sb.2
  obtain ⟨B2, hB2⟩ : ∃ B2, B2 = PySem.W.hideAll B [C] := ⟨_, rfl⟩
  have b2n : ∀ b, B.get? b = none → B2.get? b = none := fun b e => by
    rw [hB2]
    cases q : (PySem.W.hideAll B [C]).get? b with
    | none => rfl
    | some o =>
      rw [PySem.W.of_hideAll _ q] at e
      cases e
  have b2C : B2.get? C = none := by
    rw [hB2]
    exact PySem.W.hideAll_none _ List.mem_cons_self
  have b2g : ∀ b o, b ≠ C → B.get? b = some o → B2.get? b = some o := fun b o h e => by
    rw [hB2]
    exact PySem.W.hideAll_get _ e fun z => h (List.mem_singleton.mp z)
  have b2o : ∀ b o, B2.get? b = some o → B.get? b = some o ∧ b ≠ C := fun b o e => ⟨by rw [hB2] at e; exact PySem.W.of_hideAll _ e, fun z => by rw [z, b2C] at e; cases e⟩
  have s2 : B2.StaysIn h2 := fun b o e => by
    rw [at2 b (b2o b o e).2]
    exact k1 b o (b2o b o e).1
  have ff2 : h2.FunFrames B2 (e0 :: outer) := funFrames_but at2 b2n k3 (by rw [← hst]; exact hCs)
  have he2 : h2.get? a = some oe := by
    rw [at2 a aC]
    exact he
  have tr2 : HandSPX.TracedZ h2 B2 a (Zc cls d) (rawInt L) := ⟨oe, vs, T, oT, ts, he2, hz, hd, h1', b2n _ hnT, hTe, by rw [at2 T TC]; exact hT, hdT, hfl⟩
  unfold PySem.passOn
  refine wpAny_bind (wpAny_field he2 hd h1' ?_)
  rw [if_neg (show ¬ ((Value.ref T == Value.none) = true) from by simp)]
  have fin : wpAny (model X.prog X.w) X.A (setFlight (.ref a) cenv.frame) (fun _ s4 => wpAny (model X.prog X.w) X.A (throw (.ref a) : Sem Value) (fun _ _ => False) X.xe s4) X.xe { s' with heap := h2 } := by
    rw [hcf, tk.fr]
    refine HandSPX.setFlight_anyZ s2 ff2 tr2 fun h3 s3' ff3 tr3 up3 => wpAny_throw (tk.tk _ _ ?_)
    obtain ⟨G, g1, g2⟩ := restrict h3 fun b => (B2.get? b).isSome || decide (b ∈ frs X.stack)
    have gB : ∀ b o, B2.get? b = some o → G.get? b = some o := fun b o e => by
      rw [g1 b (by simp [e])]
      exact s3' b o e
    have gF : ∀ b, b ∈ frs X.stack → G.get? b = h3.get? b := fun b hb => g1 b (by simp [hb])
    have og : ∀ b o, G.get? b = some o → h3.get? b = some o ∧ ((B2.get? b).isSome = true ∨ b ∈ frs X.stack) := fun b o e => by
      cases q : ((B2.get? b).isSome || decide (b ∈ frs X.stack)) with
      | false => rw [g2 b q] at e; cases e
      | true =>
        rw [g1 b q] at e
        exact ⟨e, by simpa [Bool.or_eq_true] using q⟩
    have slot : ∀ b o, sI.heap.get? b = some o → b ∈ frs X.stack → ∃ sl, G.get? b = some { o with slots := sl } := fun b o e hb => by
      obtain ⟨_, o', e', hnf⟩ := I7.stack.mem hb
      rw [e] at e'; cases e'
      obtain ⟨sl1, q1⟩ := up b o e hnf
      obtain ⟨sl2, q2⟩ := up1 b _ q1 hnf
      have q2' : h2.get? b = _ := (at2 b fun z => hCs (z ▸ hb)).trans q2
      obtain ⟨sl3, q3⟩ := up3 b _ q2' hnf
      exact ⟨sl3, by rw [gF b hb]; exact q3⟩
    refine ⟨a, B2, { sI with heap := G, gens := s'.gens, drawn := s'.drawn, toks := s'.toks }, pins, σ, H, cls, d, rfl, ?_, fun b o e hb => ?_, Heap.UpToSlots.of_keeps fun b o e => (og b o e).1, .inr (.inr ⟨s3', b2n _ k2, by rw [hst]; exact ff3, tr3⟩), na, os, ag, hE⟩
    · refine I7.call (ch := [C]) ⟨fun b o e n hb hc => gB b o (b2g b o (fun z => hc (by rw [z]; exact List.mem_cons_self)) (nb b o e hb)), fun b o e n hb _ => slot b o e hb, fun b o e n _ => n, fun b o e hc => ?_, fun _ _ e => e, fun _ _ _ e => e, fun b ps e => ⟨#[], by rw [e]; simp⟩⟩ ?_ ag fun b z => ?_
      · by_cases hb : b ∈ frs X.stack
        · obtain ⟨sl, q⟩ := slot b o e hb
          exact ⟨_, q⟩
        · exact ⟨o, gB b o (b2g b o (fun z => hc (by rw [z]; exact List.mem_cons_self)) (nb b o e hb))⟩
      · exact fun b o q => (I7.hok b o q).stay (fun c u hc r => gB c u (b2g c u (fun z => by
          rw [z] at hc
          rcases hc with hc | hc
          · rw [← hc, nC] at q; cases q
          · rw [nC] at hc; cases hc) (nb c u r fun hm => by
          have z := I7.stkFree c hm
          rcases hc with hc | hc
          · rw [hc, q] at z; cases z
          · rw [hc] at z; cases z))) (fun _ r => r) fun _ _ r => r
      · rw [List.mem_singleton.mp z]
        exact ⟨fC.2.2.2.1, fC.2.1, fC.2.2.2.2.1, fC.2.2.2.2.2⟩
    · obtain ⟨e', h⟩ := og b o e
      rcases h with h | h
      · obtain ⟨o', q⟩ := Option.isSome_iff_exists.mp h
        have z := s3' b o' q
        rw [e'] at z; cases z
        exact q
      · exact absurd h hb
  first
    | exact wpAny_bind (wpAny_pure (wpAny_bind fin))
    | exact wpAny_bind fin
end
/-- HandS's lc_core, an exception of the element allowed -/
theorem lc_coreX {X : Cx} {pins : List (Addr × Obj)} {s : Shared} {σ : L2.St} {H : Hp} {Q : VK} {elt tg iter : Expr} {ifs : List Expr} {scope : Scope} {own : List (Str × Nat)} {pos pos' : Pos} {wi : TI} {g : TG} {tt : TT} {te : TE} {use : Option (Value → Sem Unit)} {Qf : Value → Shared → Prop} {E : XK} {L : Addr}
    (tk : TakesL X L fun cls d _ H => E cls d H) (hc : X.calm = true) (hN : X.N.Nodup) (I : Inv X pins σ H s) (hi : PI X tg iter wi) (ok : BlkOk X.N X.env.scope scope own)
    (hg : ∀ (s : Shared) (H : Hp) (C : Addr) (cl : List (Str × Addr)) (fp : List Addr), PG (X.blk s H scope (compEnvC scope cl C X.env) fp) tg g) (ht : ∀ (s : Shared) (H : Hp) (C : Addr) (cl : List (Str × Addr)) (fp : List Addr), PTs (X.blk s H scope (compEnvC scope cl C X.env) fp) ifs tt)
    (he : ∀ (s : Shared) (H : Hp) (C : Addr) (cl : List (Str × Addr)) (fp : List Addr) (xe : Value → Shared → Prop), TakesL ((X.blk s H scope (compEnvC scope cl C X.env) fp).wish xe) L (fun cls d _ H => E cls d H) → PE ((X.blk s H scope (compEnvC scope cl C X.env) fp).wish xe) elt te) (hs : ∀ x, foldedSetIterable iter X.env x = pure x)
    (h : tLc wi g tt te (own.map (·.2)) σ H Q)
    (hRR : ∀ D C s' m H', Inv X pins σ H' s' → Q (.ref D) H' → s'.heap.Ns C m → FpOk X pins H' C → compPost (model X.prog X.w) X.A X.xe use Qf (.ref D) C (.ok .next) s') :
    wpAny (model X.prog X.w) X.A (comprehension (.ListComp elt [⟨tg, iter, ifs, 0⟩] scope pos) scope X.env pos' (newList []) false (eval iter X.env) use) Qf X.xe s := by
  have hfree : ∀ y ∈ scope.names, y.2 = .free → ∃ c, X.env.cells.lookup y.1 = some c := fun y hy e => by
    rcases ok.free y hy e with k | k
    · exact I.ok.has _ (.inl k)
    · exact I.ok.has _ (.inr k)
  refine comp_freeF (use := use) rfl hs (closure_ok hfree) ok.kind (fun y hy e => by rw [ok.uniq y hy, e])
    (thn (hi.run pins s σ H _ I h) fun xv s1 hx => thn hx fun itv s2 h2 => ?_)
  obtain ⟨it, fp, tn, J, H2, e, I2, T, st2, f2, q⟩ := h2
  subst e
  refine wpAny_newObj_type (newEnv_comp ?_) (by show 0 ≤ sizeLine; decide)
  generalize hD : s2.heap.objs.size = D
  have hDn : H2 D = none := I2.hok.fresh (Nat.le_of_eq hD)
  obtain ⟨W, ⟨m0, w0⟩, turn⟩ := q D hDn
  generalize hs3 : ({ s2 with heap := s2.heap.push { cls := .type "list", data := .seq ([] : List Value).toArray } } : Shared) = s3
  have I3 : Inv X pins σ (upd H2 D (.lst [])) s3 := by
    rw [← hs3]
    refine I2.laid (t' := s2.toks) (fun b o e => Heap.get?_push_of_some _ e) (Nat.le_of_eq hD) ⟨Nat.zero_le _, [], 0, .nil, ?_⟩
    rw [← hD]
    exact Heap.get?_push_size _ rfl
  have h3 : s3.heap = s2.heap.push { cls := .type "list", data := .seq ([] : List Value).toArray } := by rw [← hs3]
  have sz : ∀ b ∈ fp, b < s2.heap.objs.size := fun b hb => by
    obtain ⟨o, e, _⟩ := T.obj _ _ st2 b hb
    exact Heap.lt_size e
  have f3 : ∀ b ∈ fp, FpOk X pins (upd H2 D (.lst [])) b ∧ b < s3.heap.objs.size := fun b hb => by
    have hlt := sz b hb
    refine ⟨⟨?_, (f2 b hb).2⟩, by rw [h3, Heap.size_push]; exact Nat.lt_succ_of_lt hlt⟩
    rw [upd_ne (by rw [← hD]; exact Nat.ne_of_lt hlt)]
    exact (f2 b hb).1
  have st3 : tn 0 s3.heap := T.keep _ _ _ st2 fun b _ o e => by rw [h3]; exact Heap.get?_push_of_some _ e
  have I4 := block_start I3 ok hN f3
  have pg := hg s3 (upd H2 D (.lst [])) s3.heap.objs.size (cellsFrom (s3.heap.objs.size + 1) scope.names (cloFrom X.env.cells scope.names [])) fp
  have pt := ht s3 (upd H2 D (.lst [])) s3.heap.objs.size (cellsFrom (s3.heap.objs.size + 1) scope.names (cloFrom X.env.cells scope.names [])) fp
  have pe := he s3 (upd H2 D (.lst [])) s3.heap.objs.size (cellsFrom (s3.heap.objs.size + 1) scope.names (cloFrom X.env.cells scope.names [])) fp
  show codeAny _ _ (.compStart (.ListComp elt [⟨tg, iter, ifs, 0⟩] scope pos) 0 (.ref it) (.ref D) (compEnvC scope (cellsFrom (s3.heap.objs.size + 1) scope.names (cloFrom X.env.cells scope.names [])) s3.heap.objs.size X.env)) (compPostF (model X.prog X.w) X.A X.xe use Qf (.ref D) s3.heap.objs.size X.env.frame) { s3 with heap := pushCells (s3.heap.push { cls := .type "dict", data := .dict #[] }) scope.names }
  have nfp : ∀ b ∈ fp, (upd H2 D (.lst [])) b = none := fun b hb => (f3 b hb).1.1
  generalize hce : compEnvC scope (cellsFrom (s3.heap.objs.size + 1) scope.names (cloFrom X.env.cells scope.names [])) s3.heap.objs.size X.env = ce at I4 pg pt pe ⊢
  have cL : ce.locals = s3.heap.objs.size := by subst hce; rfl
  have cF : ce.frame = X.env.frame := by subst hce; rfl
  generalize hH3 : upd H2 D (.lst []) = H3 at I3 I4 pg pt pe w0 nfp f3
  generalize hs4 : ({ s3 with heap := pushCells (s3.heap.push { cls := .type "dict", data := .dict #[] }) scope.names } : Shared) = s4 at I4 ⊢
  have st4 : tn 0 s4.heap := T.keep _ _ _ st3 fun b _ o e => by rw [← hs4]; exact pushCells_keeps _ _ _ _ (Heap.get?_push_of_some _ e)
  have stat : ∀ {σ' : L2.St} {H' : Hp} {s' : Shared}, Inv (X.blk s3 H3 scope ce fp) [] σ' H' s' → (∀ b ∈ fp, H' b = none) → ∀ b ∈ fp, FpOk (X.blk s3 H3 scope ce fp) [] H' b := fun {σ' H' s'} I' hn b hb =>
    ⟨hn b hb, (I'.ok.exf b hb).1, I'.ok.exfs b hb, .inl hb, fun x c e => (I'.ok.exf b hb).2 x c e, fun p hp => absurd (show p ∈ ([] : List (Addr × Obj)) ++ [] from hp) (by simp)⟩
  have pe' := pe (XEL (X.blk s3 H3 scope ce fp) L fun cls d _ H => E cls d H) ⟨fun u s' ⟨a, B, sI, p, σ', H, cls, d, e, IB, z⟩ => ⟨a, B, sI, p, σ', H, cls, d, e, IB.unwish, z⟩, tk.st, cF.trans tk.fr⟩
  have loop : codeAny (model X.prog X.w) X.A (.compLoop (.ListComp elt [⟨tg, iter, ifs, 0⟩] scope pos) 0 (.ref it) (.ref D) ce) (compPostF (model X.prog X.w) X.A X.xe use Qf (.ref D) s3.heap.objs.size X.env.frame) s4 := by
    refine compLoop_any (fun n s' => ∃ i H', Inv (X.blk s3 H3 scope ce fp) [] (wipe σ (own.map (·.2))) H' s' ∧ tn i s'.heap ∧ (∀ b ∈ fp, H' b = none) ∧ W i n H') ?_ m0 ⟨0, H3, I4, st4, nfp, w0⟩
    rintro n s5 ⟨i, H5, I5, st5, n5, w5⟩
    rcases turn i n H5 w5 with ⟨stop, qq⟩ | ⟨go, Nx, hNx, step⟩
    · have td := T.done (X.blk s3 H3 scope ce fp) rfl rfl rfl hc i [] s5 _ H5 (fun _ _ => False) I5 (stat I5 n5) st5 stop
      refine thnF td fun r s6 ⟨hr, I6⟩ => ?_
      subst hr
      have I7 : Inv X pins σ H5 s6 := I3.call' (ch := fp) I6.os I6.base I6.hok I6.bare fun b hb => ⟨(f3 b hb).1.2.2.2.1, (f3 b hb).1.2.1, (f3 b hb).1.2.2.2.2.1, (f3 b hb).1.2.2.2.2.2⟩
      have nC : H5 s3.heap.objs.size = none := by
        have z : H5 ce.locals = none := I6.free
        rw [cL] at z
        exact z
      obtain ⟨m, hn, _⟩ := I6.loc
      have hn : s6.heap.Ns ce.locals m := hn
      rw [cL] at hn
      exact hRR D s3.heap.objs.size s6 m H5 I7 qq hn (I3.fpOk (Nat.le_refl _) nC)
    · have ti := T.item (X.blk s3 H3 scope ce fp) rfl rfl rfl hc i [] s5 _ H5 (fun _ _ => False) I5 (stat I5 n5) st5 go
      refine thnF ti fun r s6 ⟨u, hr, h6⟩ => ?_
      subst hr
      refine thnF h6 fun _ s7 ⟨x, H7, I7, r7, y7, st7, n7⟩ => ?_
      have I7' := I7.pinned (stat I7 n7) (T.obj _ _ st7)
      refine thnF (pg.run _ s7 _ H7 x u _ I7' r7 (step x H7 y7)) fun _ s8 ⟨σ8, H8, I8, hw8, q8⟩ => ?_
      refine thnF (pt.run _ s8 σ8 H8 _ I8 q8) fun b s9 ⟨H9, I9, q9⟩ => ?_
      have fin : ∀ {s' : Shared} {H' : Hp}, Inv (X.blk s3 H3 scope ce fp) ([] ++ pinsAt fp s7.heap) σ8 H' s' → Nx H' → ∃ m, m < n ∧ ∃ i H', Inv (X.blk s3 H3 scope ce fp) [] (wipe σ (own.map (·.2))) H' s' ∧ tn i s'.heap ∧ (∀ b ∈ fp, H' b = none) ∧ W i m H' := fun {s' H'} I' nx => by
        obtain ⟨m', hm, w'⟩ := hNx H' nx
        have pin' : ∀ b ∈ fp, ∀ o, s7.heap.get? b = some o → s'.heap.get? b = some o ∧ H' b = none := fun b hb o e =>
          let z := I'.pin (b, o) (List.mem_append_right _ (List.mem_append_right _ (mem_pinsAt hb e)))
          ⟨z.1, z.2.1⟩
        have hl : (wipe σ (own.map (·.2))).length = σ8.length := by rw [← hw8, wipe_length]
        refine ⟨m', hm, i + 1, H', (I'.unpinned (pins := [])).weak hl (fun j v e => ?_), T.keep _ _ _ st7 fun b hb o e => (pin' b hb o e).1, fun b hb => ?_, w'⟩
        · rw [← hw8] at e
          exact (wipe_some e).1
        · obtain ⟨o, e, _⟩ := T.obj _ _ st7 b hb
          exact (pin' b hb o e).2
      cases b with
      | false =>
        simp only [Bool.false_eq_true, if_false] at q9 ⊢
        exact fin I9 q9
      | true =>
        simp only [if_true] at q9 ⊢
        refine wpAny_mono (pe'.run _ s9 σ8 H9 _ (I9.wish _) q9) (fun z s10 ⟨yv, H10, I10, r10, acc, hD10, hz10, nx⟩ => ?_) fun u s10 hx => block_out I3 tk cF cL rfl f3 hx
        exact app_ok (X := X.blk s3 H3 scope ce fp) I10.unwish hD10 hz10 r10 fun s11 I11 => fin I11 nx
  exact codeAny_compStart_list loop (T.self X.A 0 _ _ _ st4 loop)
section
variable {X : Cx}
/-- as a value -/
theorem pe_lcX {elt tg iter : Expr} {ifs : List Expr} {scope : Scope} {own : List (Str × Nat)} {pos : Pos} {wi : TI} {g : TG} {tt : TT} {te : TE} {E : XK} {L : Addr} (tk : TakesL X L fun cls d _ H => E cls d H) (hc : X.calm = true) (hN : X.N.Nodup) (hi : PI X tg iter wi) (ok : BlkOk X.N X.env.scope scope own)
    (hg : ∀ (s : Shared) (H : Hp) (C : Addr) (cl : List (Str × Addr)) (fp : List Addr), PG (X.blk s H scope (compEnvC scope cl C X.env) fp) tg g) (ht : ∀ (s : Shared) (H : Hp) (C : Addr) (cl : List (Str × Addr)) (fp : List Addr), PTs (X.blk s H scope (compEnvC scope cl C X.env) fp) ifs tt)
    (he : ∀ (s : Shared) (H : Hp) (C : Addr) (cl : List (Str × Addr)) (fp : List Addr) (xe : Value → Shared → Prop), TakesL ((X.blk s H scope (compEnvC scope cl C X.env) fp).wish xe) L (fun cls d _ H => E cls d H) → PE ((X.blk s H scope (compEnvC scope cl C X.env) fp).wish xe) elt te) (hs : ∀ x, foldedSetIterable iter X.env x = pure x := by intro _; rfl) :
    PE X (.ListComp elt [⟨tg, iter, ifs, 0⟩] scope pos) (tLc wi g tt te (own.map (·.2))) := by
  refine ⟨fun pins s σ H Q I h => ?_⟩
  rw [eval_ListComp]
  refine lc_coreX tk hc hN I hi ok hg ht he hs h fun D C s' m H' I' q hn f => ⟨m, hn, fun h'' sb => ?_⟩
  obtain ⟨f0, f1, f2, f3, f4, f5⟩ := f
  exact ⟨.ref D, H', I'.turned (t' := s'.toks) (fun b o hb e => (sb.2 b hb).trans e) f0 f1 f3 f4 f5, rfl, q⟩
/-- name = [..] on one line, the name a local -/
theorem ps_setLcX {i : Nat} {y : Str} {py : Pos} {elt tg iter : Expr} {ifs : List Expr} {scope : Scope} {own : List (Str × Nat)} {pos spos : Pos} {wi : TI} {g : TG} {tt : TT} {te : TE} {E : XK} {L : Addr} (tk : TakesL X L fun cls d _ H => E cls d H) (hc : X.calm = true) (hN : X.N.Nodup) (hy : X.N[i]? = some y) (hyl : X.env.scope.names.lookup y = some .local)
    (hsw : swapsWith (.ListComp elt [⟨tg, iter, ifs, 0⟩] scope pos) (some (.Name y py)) spos.line X.env = pure true) (hi : PI X tg iter wi) (ok : BlkOk X.N X.env.scope scope own)
    (hg : ∀ (s : Shared) (H : Hp) (C : Addr) (cl : List (Str × Addr)) (fp : List Addr), PG (X.blk s H scope (compEnvC scope cl C X.env) fp) tg g) (ht : ∀ (s : Shared) (H : Hp) (C : Addr) (cl : List (Str × Addr)) (fp : List Addr), PTs (X.blk s H scope (compEnvC scope cl C X.env) fp) ifs tt)
    (he : ∀ (s : Shared) (H : Hp) (C : Addr) (cl : List (Str × Addr)) (fp : List Addr) (xe : Value → Shared → Prop), TakesL ((X.blk s H scope (compEnvC scope cl C X.env) fp).wish xe) L (fun cls d _ H => E cls d H) → PE ((X.blk s H scope (compEnvC scope cl C X.env) fp).wish xe) elt te) (hs : ∀ x, foldedSetIterable iter X.env x = pure x := by intro _; rfl) :
    PS X (.Assign [.Name y py] (.ListComp elt [⟨tg, iter, ifs, 0⟩] scope pos) spos) (tAsg (tLc wi g tt te (own.map (·.2))) (gName i)) := by
  refine ⟨fun pins s σ H D I h => ?_⟩
  rw [exec_Assign_Name_used _ _ _ _ hsw]
  refine wpAny_bind (wpAny_standAt (wpAny_bind ?_))
  show wpAny _ X.A (do let _ ← comprehension (.ListComp elt [⟨tg, iter, ifs, 0⟩] scope pos) scope X.env (firstIterPos [⟨tg, iter, ifs, 0⟩] pos) (newList []) false (eval iter X.env) (some (assign (.Name y py) X.env))) _ _ s
  have h : tLc wi g tt te (own.map (·.2)) σ H (fun x H1 => gName i x σ H1 D.nx) := h
  refine wpAny_bind (thn (lc_coreX (Qf := fun _ s' => SP X pins D .next s') tk hc hN I hi ok hg ht he hs h fun L C s' m H' I' q hn f => ?_) fun _ s' hq => wpAny_pure (wpAny_pure hq))
  show wpAny _ _ (assign (.Name y py) X.env (.ref L)) _ _ _
  refine wpAny_assign_Name (store_ok2 (v := V.ref L) I' hN hy (.inl hyl) rfl (fun s2 I2 ⟨a, sb, ha⟩ => ?_) (.inr hyl))
  obtain ⟨f0, f1, f2, f3, f4, f5⟩ := f
  have haC : C ≠ a := by
    rcases ha with z | z
    · rw [z]; exact f1
    · exact fun e => f4 y a z e.symm
  refine ⟨m, hn.sameBut sb haC, fun h3 sb3 => ?_⟩
  exact ⟨_, H', I2.turned (t' := s2.toks) (fun b o hb e => (sb3.2 b hb).trans e) f0 f1 f3 f4 f5, q⟩
end
/-! ### .. as a reading: the first element that raises -/
abbrev XW (E : XK) : WX := fun cls d _ H => E cls d H
section
variable {K : PySem.W.Frag} {φ φ' : Addr → Prop} {J J' : Hp → Prop} {H H' H1 : Hp} {ρ ρ' : List (Option D)} {σ : L2.St} {E : XK} {c : Addr}
theorem rs_lc {wi : TI} {te : TE} {k : Nat} {pre post : List D} {d : D} {f : D → D} (hi : IterD K φ J wi ρ (pre ++ d :: post)) (hl : pre.length ≤ 1000000)
    (he : ∀ e ∈ pre, ∀ φ' J', Ext φ J φ' J' → EvD K φ' J' te ((wipeR ρ [k]).set k (some e)) (f e))
    (hr : ∀ φ' J', Ext φ J φ' J' → Rs K φ' J' te ((wipeR ρ [k]).set k (some d)) (XW E) c) : Rs K φ J (tLc wi (gName k) tYes te [k]) ρ (XW E) c := fun σ H A kx Q => by
  refine hi σ H A _ fun J0 ds H1 b1 A1 pd w => ?_
  subst pd
  intro D0 hD
  have neP : ∀ p s ns, Pooled φ J p s ns → p ≠ D0 := fun p s ns hp => by
    obtain ⟨a1, a2, a3, a4, h1, _⟩ := hp.ok _ A1.j
    exact ne_of_none h1 hD
  let φ' : Addr → Prop := fun a => φ a ∧ a ≠ D0
  have ext : ∀ acc : List V, Ext φ J φ' (fun H => J H ∧ H D0 = some (.lst acc)) := fun acc => ⟨fun _ h => h.1, fun p s ns hp => ⟨fun z => hp.np z.1, hp.ne, fun H h => hp.ok H h.1, fun H H' h k o => ⟨hp.st H H' h.1 k o, k _ _ (neP p s ns hp).symm h.2⟩⟩, fun a p h => ⟨p, fun e => h H1 A1.j (by rw [e]; exact hD)⟩⟩
  have mono : ∀ (acc : List V) (H2 : Hp), (∀ a, H1 a ≠ none → H2 a ≠ none) → H2 D0 ≠ none → Mo H2 (fun H => J H ∧ H D0 = some (.lst acc)) := fun acc H2 s h => (A1.mono.up s).and (Mo.at h)
  refine ⟨fun i m H2 => m = pre.length + 1 - i ∧ i ≤ pre.length ∧ But φ H1 H2 ∧ ∃ acc, Reps K φ' H2 ((pre.take i).map f) acc ∧ At K φ' (fun H => J H ∧ H D0 = some (.lst acc)) (wipeR ρ [k]) (L2.wipe σ [k]) H2,
    ⟨pre.length + 1, rfl, Nat.zero_le _, But.of (same_new hD), [], Reps.nil, ?_⟩, ?_⟩
  · have A2 := A1.newLive (o := .lst []) (J' := fun H => J H ∧ H D0 = some (.lst [])) hD ⟨A1.mono _ _ (fun a o _ e => same_new hD a o e) A1.j, upd_same⟩ (mono [] _ upd_tr (by rw [upd_same]; exact fun z => by cases z))
    exact ⟨A2.sr.wipe [k], A2.fr, A2.j, A2.mono⟩
  · rintro i m H2 ⟨rfl, hi, b2, acc, rs, A2⟩
    have upw : Up φ φ' H1 H2 := fun a o p e => ⟨⟨p, ne_of_none e hD⟩, b2.keep a o p e⟩
    obtain ⟨wg, _⟩ := w φ' i H2 upw A2.fr
    by_cases hlt : i < pre.length
    · have hd : (pre ++ d :: post)[i]? = some pre[i] := by rw [List.getElem?_append_left hlt]; exact List.getElem?_eq_getElem hlt
      obtain ⟨go, yl⟩ := wg _ hd
      refine .inr ⟨go, fun H3 => But φ H1 H3 ∧ ∃ acc, Reps K φ' H3 ((pre.take (i + 1)).map f) acc ∧ At K φ' (fun H => J H ∧ H D0 = some (.lst acc)) (wipeR ρ [k]) (L2.wipe σ [k]) H3, ?_, ?_⟩
      · rintro H3 ⟨b3, acc3, r3, A3⟩
        exact ⟨pre.length + 1 - (i + 1), by omega, rfl, hlt, b3, acc3, r3, A3⟩
      · intro x H3 hy
        obtain ⟨s3, r3⟩ := yl x H3 hy
        have A3 := A2.same s3
        have rs3 := rs.mono (But.of (φ := φ') s3)
        have b3 : But φ H1 H3 := b2.trans (But.of s3)
        have hmem : pre[i] ∈ pre := List.getElem_mem hlt
        have tk : (pre.take (i + 1)).map f = (pre.take i).map f ++ [f pre[i]] := by rw [List.take_add_one, List.getElem?_eq_getElem hlt, List.map_append]; rfl
        refine ⟨(wipe_set (o := some x) (show k ∈ [k] by simp)).trans (wipe_wipe [k]), ?_⟩
        show tYes _ _ _
        refine he _ hmem φ' _ (ext acc) _ H3 (A3.set k r3) _ fun v y H6 b6 A6 pv r6 => ?_
        subst pv
        have rl := rs3.mono b6
        have nD : ¬ φ' D0 := fun z => z.2 rfl
        refine ⟨acc, A6.j.2, ?_, ?_, acc ++ [v], ?_, ?_⟩
        · rw [rl.length, List.length_map, List.length_take]
          exact szlt (by omega)
        · refine ⟨fun a o p e => ?_, fun a h => upd_tr a (b6.tr a (b3.tr a h))⟩
          have ne := ne_of_none e hD
          rw [upd_ne ne]
          exact b6.keep a o ⟨p, ne⟩ (b3.keep a o p e)
        · rw [tk]
          exact (rl.append (Reps.cons r6 Reps.nil)).mono ((But.refl φ' H6).upd nD)
        · have A6' : At K φ' (fun H => J H ∧ H D0 = some (.lst acc)) (wipeR ρ [k]) (L2.wipe σ [k]) H6 := ⟨A3.sr.up (Up.of b6), A6.fr, A6.j, A6.mono⟩
          have jj : J (upd H6 D0 (.lst (acc ++ [v]))) := A1.mono H6 _ (fun a o h e => by
            rw [upd_ne (show a ≠ D0 from fun z => h (by rw [z]; exact hD))]
            exact e) A6.j.1
          exact A6'.upd nD ⟨jj, upd_same⟩ (mono _ _ (fun a h => upd_tr a (b6.tr a (b3.tr a h))) (by rw [upd_same]; exact fun z => by cases z))
    · have e : i = pre.length := by omega
      subst e
      have hd : (pre ++ d :: post)[pre.length]? = some d := by rw [List.getElem?_append_right (Nat.le_refl _), Nat.sub_self]; rfl
      obtain ⟨go, yl⟩ := wg _ hd
      refine .inr ⟨go, fun _ => False, fun _ z => z.elim, ?_⟩
      intro x H3 hy
      obtain ⟨s3, r3⟩ := yl x H3 hy
      have A3 := A2.same s3
      have b3 : But φ H1 H3 := b2.trans (But.of s3)
      refine ⟨(wipe_set (o := some x) (show k ∈ [k] by simp)).trans (wipe_wipe [k]), ?_⟩
      show tYes _ _ _
      refine hr φ' _ (ext acc) _ H3 (A3.set k r3) (fun H' b' A' => ?_) _
      have bb : But φ H1 H' := ⟨fun a o p e => b'.keep a o ⟨p, ne_of_none e hD⟩ (b3.keep a o p e), fun a h => b'.tr a (b3.tr a h)⟩
      exact kx H' (b1.trans bb) ⟨A1.sr.up (Up.of bb), A'.fr.fst, A'.j.1, A1.mono.up bb.tr⟩
end

-- import HandS.Text
-- import HandS.Steps
-- import HandS.StrMore
-- import HandS.FStr
-- import HandS.Style
-- import HandS.TupLe
/-! ### texts -/
open TL
def rSplit : V → List V → Hp → VK → Prop := fun x xs H Q => ∃ a b, x = .str a ∧ xs = [.str b] ∧ (b.length == 0) = false ∧ a.length + 2 ≤ sizeLine ∧ rNewStrs (Txt.split a b) H Q
theorem mu_split {X : Cx} : MtR X "str.split" rSplit := mt_split
def rJoin (K : PySem.W.Frag) : V → List V → Hp → VK → Prop := fun x xs H Q => ∃ a p, ∃ ys : List Str, x = .str a ∧ xs = [.ref p] ∧ (SqL K H p (ys.map V.str) ∨ SqT K H p (ys.map V.str)) ∧ (ys.map (·.length)).sum + ys.length * a.length ≤ 16777216 ∧ Q (.str (Txt.join a ys)) H
theorem mu_join {X : Cx} : MtR X "str.join" (rJoin X.K) := mt_join
theorem kmu_join {X : Cx} {K : PySem.W.Frag} (h : X.K = K) : MtR X "str.join" (rJoin K) := h ▸ mt_join
def rStarts : V → List V → Hp → VK → Prop := fun x xs H Q => ∃ a b, x = .str a ∧ xs = [.str b] ∧ Q (.bl (Txt.startswith a b)) H
theorem mu_startswith {X : Cx} : MtR X "str.startswith" rStarts := mt_startswith
def rRemP : V → List V → Hp → VK → Prop := fun x xs H Q => ∃ a b, x = .str a ∧ xs = [.str b] ∧ a.length ≤ sizeLine ∧ Q (.str (Txt.removeprefix a b)) H
theorem mu_removeprefix {X : Cx} : MtR X "str.removeprefix" rRemP := mt_removeprefix
def rIntS : List V → Hp → VK → Prop := fun xs H Q => ∃ a n, xs = [.str a] ∧ PySem.intText? a = some n ∧ a.length ≤ 640 ∧ Q (.int n) H
theorem c_intS {X : Cx} : CallR X (.type "int") rIntS := call_int_str
theorem op_addS {X : Cx} : OpR X (binaryOp .Add) rAddS := op_add_str
section
variable {K : PySem.W.Frag} {φ φ' : Addr → Prop} {J J' : Hp → Prop} {H H' H1 : Hp} {ρ ρ' : List (Option D)} {σ : L2.St} {te ta tb to : TE} {s t : Str} {i : Int}
theorem reps_strs : ∀ ys : List Str, Reps K φ H (ys.map D.str) (ys.map V.str)
  | [] => Reps.nil
  | _ :: ys => Reps.cons rfl (reps_strs ys)
theorem ev_split (ha : EvD K φ J to ρ (.str s)) (hb : EvD K φ J te ρ (.str t)) (ht : (t.length == 0) = false) (hz : s.length ≤ 1000000) : EvN K φ J (tM1 rSplit to te) ρ (fun x => x = (Txt.split s t).map D.str) := fun σ H A Q q =>
  ha σ H A _ fun v x H1 b1 A1 e1 r1 => by
    subst e1
    cases (show v = _ from r1)
    refine ⟨⟨s, rfl⟩, hb σ H1 A1 _ fun w y H2 b2 A2 e2 r2 => ?_⟩
    subst e2
    cases (show w = _ from r2)
    refine ⟨s, t, rfl, rfl, ht, Nat.le_trans (Nat.add_le_add_right hz 2) (by decide), fun p hp => ?_⟩
    refine q p _ _ H2 _ (b1.trans b2) A2 hp (But.of (same_new hp)) (A2.same (same_new hp)) rfl upd_same ?_
    exact reps_strs _
theorem ev_splitD (ha : EvD K φ J to ρ (.str s)) (hb : EvD K φ J te ρ (.str t)) (ht : (t.length == 0) = false) (hz : s.length ≤ 1000000) : EvD K φ J (tM1 rSplit to te) ρ (.lst ((Txt.split s t).map D.str)) := ev_newD (ev_split ha hb ht hz)
theorem ev_join {ys : List Str} (ha : EvD K φ J to ρ (.str s)) (hb : EvD K φ J te ρ (.lst (ys.map D.str))) (hz : (ys.map (·.length)).sum + ys.length * s.length ≤ 16777216) : EvD K φ J (tM1 (rJoin K) to te) ρ (.str (Txt.join s ys)) := fun σ H A Q q =>
  ha σ H A _ fun v x H1 b1 A1 e1 r1 => by
    subst e1
    cases (show v = _ from r1)
    refine ⟨⟨s, rfl⟩, hb σ H1 A1 _ fun w y H2 b2 A2 e2 r2 => ?_⟩
    subst e2
    obtain ⟨a, vs, rfl, pa, ra⟩ := rep_lst r2
    cases Reps.strs ra
    exact ⟨s, a, ys, rfl, rfl, .inl pa.sq, hz, q _ _ H2 (b1.trans b2) A2 rfl rfl⟩
theorem ev_startswith (ha : EvD K φ J to ρ (.str s)) (hb : EvD K φ J te ρ (.str t)) : EvD K φ J (tM1 rStarts to te) ρ (.bl (Txt.startswith s t)) := fun σ H A Q q =>
  ha σ H A _ fun v x H1 b1 A1 e1 r1 => by
    subst e1
    cases (show v = _ from r1)
    refine ⟨⟨s, rfl⟩, hb σ H1 A1 _ fun w y H2 b2 A2 e2 r2 => ?_⟩
    subst e2
    cases (show w = _ from r2)
    exact ⟨s, t, rfl, rfl, q _ _ H2 (b1.trans b2) A2 rfl rfl⟩
theorem ev_removeprefix (ha : EvD K φ J to ρ (.str s)) (hb : EvD K φ J te ρ (.str t)) (hz : s.length ≤ 1000000) : EvD K φ J (tM1 rRemP to te) ρ (.str (Txt.removeprefix s t)) := fun σ H A Q q =>
  ha σ H A _ fun v x H1 b1 A1 e1 r1 => by
    subst e1
    cases (show v = _ from r1)
    refine ⟨⟨s, rfl⟩, hb σ H1 A1 _ fun w y H2 b2 A2 e2 r2 => ?_⟩
    subst e2
    cases (show w = _ from r2)
    exact ⟨s, t, rfl, rfl, sz hz, q _ _ H2 (b1.trans b2) A2 rfl rfl⟩
theorem ev_intS {n : Int} (ha : EvD K φ J te ρ (.str s)) (hn : PySem.intText? s = some n) (hz : s.length ≤ 640) : EvD K φ J (tCB rIntS (tCons te tNil)) ρ (.int n) := ev_cbD (ea_cons ha ea_nil) fun H vs f r Q q => by
  obtain ⟨v, rfl, r1⟩ := r.one
  cases (show v = _ from r1)
  exact ⟨s, n, rfl, hn, hz, q _ _ H (Same.refl H) rfl rfl⟩
theorem ev_addS (ha : EvD K φ J ta ρ (.str s)) (hb : EvD K φ J tb ρ (.str t)) (hz : s.length + t.length ≤ 1000000) : EvD K φ J (tOp rAddS ta tb) ρ (.str (s ++ t)) := ev_opD ha hb fun H v w f r1 r2 Q q => by
  cases (show v = _ from r1)
  cases (show w = _ from r2)
  exact ⟨s, t, rfl, rfl, sz hz, q _ _ H (Same.refl H) rfl rfl⟩
theorem ev_inS {c : Nat} (ha : EvD K φ J ta ρ (.str ⟨#[c]⟩)) (hb : EvD K φ J tb ρ (.str t)) : EvD K φ J (tOp rInS ta tb) ρ (.bl (decide (c ∈ tl t))) := ev_opD ha hb fun H v w f r1 r2 Q q => by
  cases (show v = _ from r1)
  cases (show w = _ from r2)
  exact ⟨c, t, rfl, rfl, q _ _ H (Same.refl H) rfl rfl⟩
theorem ev_notInS {c : Nat} (ha : EvD K φ J ta ρ (.str ⟨#[c]⟩)) (hb : EvD K φ J tb ρ (.str t)) : EvD K φ J (tOp rNotInS ta tb) ρ (.bl (!decide (c ∈ tl t))) := ev_opD ha hb fun H v w f r1 r2 Q q => by
  cases (show v = _ from r1)
  cases (show w = _ from r2)
  exact ⟨c, t, rfl, rfl, q _ _ H (Same.refl H) rfl rfl⟩
theorem ev_ixStr {c : Nat} (ha : EvD K φ J ta ρ (.str s)) (hb : EvD K φ J tb ρ (.int i)) (hz : s.length ≤ 1000000) (h : L2.atI (tl s) i = some c) : EvD K φ J (tOp rIxS ta tb) ρ (.str ⟨#[c]⟩) := ev_opD ha hb fun H v w f r1 r2 Q q => by
  cases (show v = _ from r1)
  cases (show w = _ from r2)
  exact ⟨s, i, c, rfl, rfl, sz hz, h, q _ _ H (Same.refl H) rfl rfl⟩
theorem ev_slS {tl th : TO} {lo hi : Option Int} (ha : EvD K φ J te ρ (.str s)) (hl : EvO K φ J tl ρ lo) (hh : EvO K φ J th ρ hi) (hz : s.length ≤ 1000000) : EvD K φ J (tSl rSlS te tl th) ρ (.str (cutS s lo hi)) := fun σ H A Q q =>
  ha σ H A _ fun v x H1 b1 A1 e1 r1 => hl σ H1 A1 _ fun H2 b2 A2 => hh σ H2 A2 _ fun H3 b3 A3 => by
    subst e1
    cases (show v = _ from r1)
    exact ⟨s, rfl, sz hz, q _ _ H3 ((b1.trans b2).trans b3) A3 rfl rfl⟩
/-- the texts of an f-string -/
inductive EvJ (K : PySem.W.Frag) (φ : Addr → Prop) (J : Hp → Prop) (ρ : List (Option D)) : List TE → List Str → Prop where
  | nil : EvJ K φ J ρ [] []
  | cons {te : TE} {ts : List TE} {s : Str} {ss : List Str} (h : EvD K φ J te ρ (.str s)) (r : EvJ K φ J ρ ts ss) : EvJ K φ J ρ (te :: ts) (s :: ss)
theorem evj_run {ts : List TE} {ss : List Str} (h : EvJ K φ J ρ ts ss) : ∀ (acc : Str) (σ : L2.St) (H : Hp), At K φ J ρ σ H → acc.length + (ss.map (·.length)).sum ≤ 1000000 → ∀ Q : Str → Hp → Prop, (∀ H', But φ H H' → At K φ J ρ σ H' → Q (ss.foldl (· ++ ·) acc) H') → tJs ts acc σ H Q := by
  induction h with
  | nil => exact fun acc σ H A _ Q q => q H (But.refl _ _) A
  | @cons te ts s ss h r ih =>
    intro acc σ H A hz Q q
    rw [List.map_cons, List.sum_cons] at hz
    refine h σ H A _ fun v d H1 b1 A1 e r1 => ?_
    subst e
    cases (show v = _ from r1)
    have hl : (acc ++ s).length = acc.length + s.length := by simp only [len_tl, tl_append, List.length_append]
    exact ⟨s, rfl, sz (by rw [hl]; omega), ih (acc ++ s) σ H1 A1 (by rw [hl]; omega) Q fun H' b A' => q H' (b1.trans b) A'⟩
theorem ev_fstr {ts : List TE} {ss : List Str} (h : EvJ K φ J ρ ts ss) (hz : (ss.map (·.length)).sum ≤ 1000000) : EvD K φ J (fun σ H Q => tJs ts Str.empty σ H fun out H1 => Q (.str out) H1) ρ (.str (ss.foldl (· ++ ·) Str.empty)) := fun σ H A Q q =>
  evj_run h Str.empty σ H A (by show 0 + _ ≤ _; omega) _ fun H' b A' => q _ _ H' b A' rfl rfl
theorem ev_fmtI (h : EvD K φ J te ρ (.int i)) (hz : i.natAbs.log2 < 1920) : EvD K φ J (tFmt te) ρ (.str (toString i)) := fun σ H A Q q =>
  h σ H A _ fun v d H1 b1 A1 e r1 => by
    subst e
    exact .inr ⟨i, r1, hz, q _ _ H1 b1 A1 rfl rfl⟩
theorem ev_fmtS (h : EvD K φ J te ρ (.str s)) (hz : s.length ≤ 1000000) : EvD K φ J (tFmt te) ρ (.str s) := fun σ H A Q q =>
  h σ H A _ fun v d H1 b1 A1 e r1 => by
    subst e
    exact .inl ⟨s, r1, sz hz, q _ _ H1 b1 A1 rfl rfl⟩
end
/-! ### xs.pop() as a part of a reading -/
section
variable {K : PySem.W.Frag} {φ φ' : Addr → Prop} {J J' : Hp → Prop} {H H' H1 : Hp} {ρ ρ' : List (Option D)} {σ : L2.St} {te ta tb to : TE} {s : Str} {D0 : Ends} {t u : TS} {l : Addr} {ds : List D} {d : D}
theorem pop_run {k : Nat} (A : At K φ J ρ σ H) (L : LivS K φ J l HO.lst (ds ++ [d])) (hk : ρ[k]? = some (some (.raw (.ref l)))) {Q : VK}
    (kk : ∀ v J' H', Wr K φ J J' l → LivS K φ J' l HO.lst ds → At K φ J' ρ σ H' → Rep K φ H' d v → Q v H') : tBM0 K "list" rPop (tVar k) σ H Q := by
  obtain ⟨vs, H0, r, m, k0⟩ := L.ex
  obtain ⟨w, e, rw'⟩ := A.sr.2 k _ hk
  cases (show w = _ from rw')
  have r1 := r.mono (k0 _ A.j).2
  have hl : vs.length = ds.length + 1 := by rw [r1.length, List.length_append]; rfl
  obtain ⟨v, hv, rv⟩ := r1.get (i := ds.length) (d := d) (by rw [List.getElem?_append_right (Nat.le_refl _), Nat.sub_self]; rfl)
  have e2 : (ds ++ [d]).eraseIdx ds.length = ds := by rw [List.eraseIdx_append_of_length_le (Nat.le_refl _), Nat.sub_self]; exact List.append_nil ds
  have e3 : vs.eraseIdx ds.length = vs.dropLast := by rw [← show vs.length - 1 = ds.length by omega]; exact List.eraseIdx_length_sub_one
  refine ⟨_, e, .inl ⟨rfl, _, SqL.of (k0 _ A.j).1⟩, l, vs, v, rfl, rfl, (k0 _ A.j).1, by rw [hl]; exact hv, ?_⟩
  have r2 := reps_erase ds.length r1
  rw [e2, e3] at r2
  obtain ⟨A2, L2', W⟩ := L.write (C' := HO.lst) (vs' := vs.dropLast) A r2
  exact kk v _ _ W L2' A2 (rv.mono ((But.refl φ H).upd L.np))
/-- if xs.pop() != "..": -/
theorem st_popNe {k : Nat} (A : At K φ J ρ σ H) (L : LivS K φ J l HO.lst (ds ++ [.str s])) (hk : ρ[k]? = some (some (.raw (.ref l))))
    (kk : ∀ J' H', Wr K φ J J' l → LivS K φ J' l HO.lst ds → At K φ J' ρ σ H' → tIfS (tTest (tOp rNe (tC (.str s)) tb)) t u D0 σ H') : tIfS (tTest (tOp rNe (tBM0 K "list" rPop (tVar k)) tb)) t u D0 σ H :=
  pop_run A L hk fun v J' H' W L' A' r => by
    cases (show v = _ from r)
    exact kk J' H' W L' A'
/-- if xs.pop() != ".." or ..: -/
theorem st_popOr {k : Nat} {rest : TT} (A : At K φ J ρ σ H) (L : LivS K φ J l HO.lst (ds ++ [.str s])) (hk : ρ[k]? = some (some (.raw (.ref l))))
    (kk : ∀ J' H', Wr K φ J J' l → LivS K φ J' l HO.lst ds → At K φ J' ρ σ H' → tIfS (tOr (tTest (tOp rNe (tC (.str s)) tb)) rest) t u D0 σ H') : tIfS (tOr (tTest (tOp rNe (tBM0 K "list" rPop (tVar k)) tb)) rest) t u D0 σ H :=
  pop_run A L hk fun v J' H' W L' A' r => by
    cases (show v = _ from r)
    exact kk J' H' W L' A'
end
/-! ### xs[::-1], t <= u -/
section
variable {K : PySem.W.Frag} {φ : Addr → Prop} {J : Hp → Prop} {ρ : List (Option D)} {ta tb te : TE} {ds : List D} {ns ms : List Int}
theorem reps_rev {H : Hp} : ∀ {ds : List D} {vs : List V}, Reps K φ H ds vs → Reps K φ H ds.reverse vs.reverse
  | [], vs, h => by
    cases (show vs = [] from h)
    exact Reps.nil
  | x :: ds, vs, h => by
    obtain ⟨u, r', rfl, g1, g2⟩ := (show ∃ v r, vs = v :: r ∧ Rep K φ H x v ∧ Reps K φ H ds r from h)
    rw [List.reverse_cons, List.reverse_cons]
    exact (reps_rev g2).append (Reps.cons g1 Reps.nil)
theorem en_revL (ha : EvD K φ J te ρ (.lst ds)) : EvN K φ J (tRevL K te) ρ (fun x => x = ds.reverse) := fun σ H A Q q =>
  ha σ H A _ fun v x H1 b1 A1 e1 r1 => by
    subst e1
    obtain ⟨a, vs, rfl, pa, ra⟩ := rep_lst r1
    exact ⟨a, vs, rfl, pa.sq, fun p hp => q p _ _ H1 _ b1 A1 hp (But.of (same_new hp)) (A1.same (same_new hp)) rfl upd_same (reps_new hp (reps_rev ra))⟩
theorem ev_revL (ha : EvD K φ J te ρ (.lst ds)) : EvD K φ J (tRevL K te) ρ (.lst ds.reverse) := ev_newD (en_revL ha)
theorem ev_leT (ha : EvD K φ J ta ρ (.tup (ns.map D.int))) (hb : EvD K φ J tb ρ (.tup (ms.map D.int))) : EvD K φ J (tOp (rLeT K) ta tb) ρ (.bl (Ob.lexAt (fun j => decide (ns.getD j 0 = ms.getD j 0)) (fun j => decide (ns.getD j 0 ≤ ms.getD j 0)) (decide (ns.length ≤ ms.length)) 0 (min ns.length ms.length))) := ev_opD ha hb fun H v w _ r1 r2 Q q => by
  obtain ⟨a, rfl, h1⟩ := rep_tupI r1
  obtain ⟨b, rfl, h2⟩ := rep_tupI r2
  exact ⟨a, b, ns, ms, rfl, rfl, h1, h2, q _ _ H (Same.refl H) rfl rfl⟩
theorem lexAtLe2 (a b c d : Int) : Ob.lexAt (fun j => decide (([a, b] : List Int).getD j 0 = ([c, d] : List Int).getD j 0)) (fun j => decide (([a, b] : List Int).getD j 0 ≤ ([c, d] : List Int).getD j 0)) (decide (([a, b] : List Int).length ≤ ([c, d] : List Int).length)) 0 (min ([a, b] : List Int).length ([c, d] : List Int).length) = !SrtO.lexB (c, d) (a, b) := by
  have e : min ([a, b] : List Int).length ([c, d] : List Int).length = 2 := rfl
  rw [e, Ob.lexAt_succ]
  show (if decide (a = c) = true then _ else decide (a ≤ c)) = _
  by_cases h1 : a = c
  · rw [if_pos (decide_eq_true h1), Ob.lexAt_succ]
    show (if decide (b = d) = true then _ else decide (b ≤ d)) = _
    by_cases h2 : b = d
    · rw [if_pos (decide_eq_true h2), Ob.lexAt_zero]
      unfold SrtO.lexB
      rw [if_pos (show (c, d).1 = (a, b).1 from h1.symm), decide_eq_false (show ¬ d < b by omega)]
      rfl
    · rw [if_neg (by simp [h2])]
      unfold SrtO.lexB
      rw [if_pos (show (c, d).1 = (a, b).1 from h1.symm)]
      show decide (b ≤ d) = !decide (d < b)
      by_cases h3 : d < b
      · rw [decide_eq_true h3, decide_eq_false (by omega)]; rfl
      · rw [decide_eq_false h3, decide_eq_true (by omega)]; rfl
  · rw [if_neg (by simp [h1])]
    unfold SrtO.lexB
    rw [if_neg (show ¬ (c, d).1 = (a, b).1 from fun z => h1 z.symm)]
    show decide (a ≤ c) = !decide (c < a)
    by_cases h3 : c < a
    · rw [decide_eq_true h3, decide_eq_false (by omega)]; rfl
    · rw [decide_eq_false h3, decide_eq_true (by omega)]; rfl
theorem ev_leP2 {p q : Int × Int} (ha : EvD K φ J ta ρ (prDD p)) (hb : EvD K φ J tb ρ (prDD q)) : EvD K φ J (tOp (rLeT K) ta tb) ρ (.bl (!SrtO.lexB q p)) := by
  rw [show (!SrtO.lexB q p) = _ from (lexAtLe2 p.1 p.2 q.1 q.2).symm]
  exact ev_leT (ns := [p.1, p.2]) (ms := [q.1, q.2]) ha hb
/-- a comprehension by three names -/
theorem en_lcT3 {wi : TI} {k1 k2 k3 : Nat} {f : D → D} (hi : IterD K φ J wi ρ ds) (hl : ds.length ≤ 1000000) (hd : ∀ d ∈ ds, ∃ a b c, d = .tup [a, b, c])
    (he : ∀ a b c, .tup [a, b, c] ∈ ds → ∀ φ' J', Ext φ J φ' J' → EvD K φ' J' te ((((wipeR ρ [k1, k2, k3]).set k1 (some a)).set k2 (some b)).set k3 (some c)) (f (.tup [a, b, c]))) :
    EvN K φ J (tLc wi (gTup K 3 (gCons (gName k1) (gCons (gName k2) (gCons (gName k3) gNil)))) tYes te [k1, k2, k3]) ρ (fun x => x = ds.map f) := fun σ H A Q q =>
  (en_lcP (ρd := fun d => match d with | .tup [a, b, c] => (((wipeR ρ [k1, k2, k3]).set k1 (some a)).set k2 (some b)).set k3 (some c) | _ => ρ) (us := [k1, k2, k3]) (pt := fun _ b => b = true) (pe := fun d y => y = f d) hi (fun ds' e => by rw [e]; exact hl) (fun _ h => h) (fun ds' e d hm => by
      subst e
      obtain ⟨a, b, c, rfl⟩ := hd d hm
      exact eg_tup (ds := [a, b, c]) (egs_cons eg_name (egs_cons eg_name (egs_cons eg_name egs_nil))))
    (fun ds' e d hm φ' J' x => by
      subst e
      obtain ⟨a, b, c, rfl⟩ := hd d hm
      exact et_yes) (fun ds' e d hm pd φ' J' x => by
      subst e
      obtain ⟨a, b, c, rfl⟩ := hd d hm
      exact he a b c hm φ' J' x)) σ H A Q fun p vs ys H0 H' b0 A0 hp b A' pd e r => by
      obtain ⟨ds', e1, c⟩ := pd
      subst e1
      exact q p vs ys H0 H' b0 A0 hp b A' c.map e r
end

-- import PyProof.StrOps2
-- import HandS.Style
-- import KE.KRevSl
/-! ### text * int, t[::-1] of a tuple -/
def mulS (a : Str) (n : Nat) : Str := ⟨(List.replicate n a.cps).foldl (· ++ ·) #[]⟩
def rMulS : R2 := fun x y H Q => ∃ (a : Str) (n : Int), x = .str a ∧ y = .int n ∧ 2 ≤ n ∧ n ≤ 1000 ∧ 1 ≤ a.length ∧ a.length ≤ 1000 ∧ Q (.str (mulS a n.toNat)) H
theorem foldl_app_size {α : Type} (xs : Array α) : ∀ (n : Nat) (acc : Array α), ((List.replicate n xs).foldl (· ++ ·) acc).size = acc.size + n * xs.size
  | 0, acc => by simp
  | n + 1, acc => by
    rw [List.replicate_succ, List.foldl_cons, foldl_app_size xs n, Array.size_append, Nat.succ_mul]
    omega
theorem mulS_length (a : Str) (n : Nat) : (mulS a n).length = n * a.length := by
  show ((List.replicate n a.cps).foldl (· ++ ·) #[]).size = n * a.cps.size
  rw [foldl_app_size]
  simp
theorem foldl_app_list {α : Type} (xs : Array α) : ∀ (n : Nat) (acc : Array α), ((List.replicate n xs).foldl (· ++ ·) acc).toList = acc.toList ++ (List.replicate n xs.toList).flatten
  | 0, acc => by simp
  | n + 1, acc => by
    rw [List.replicate_succ, List.foldl_cons, foldl_app_list xs n, Array.toList_append, List.replicate_succ, List.flatten_cons, List.append_assoc]
theorem tl_mulS (a : Str) (n : Nat) : TL.tl (mulS a n) = (List.replicate n (TL.tl a)).flatten := by
  show ((List.replicate n a.cps).foldl (· ++ ·) #[]).toList = _
  rw [foldl_app_list]
  rfl
theorem op_mulS {X : Cx} : OpR X (binaryOp .Mult) rMulS := by
  intro pins s σ H x y v u Q I rx ry h
  obtain ⟨a, n, rfl, rfl, h1, h2, h3, h4, q⟩ := h
  obtain ⟨t, rfl⟩ := rx
  obtain ⟨t', rfl⟩ := ry
  have hl : a.length * n.toNat ≤ 1000000 := by
    have : n.toNat ≤ 1000 := by omega
    exact Nat.mul_le_mul h4 this
  have e1 : ¬ n < 1 := by omega
  have e2 : ¬ (n == 1 || a.length == 0) = true := by
    rw [Bool.or_eq_true, beq_iff_eq, beq_iff_eq]
    omega
  refine PySem.P.mul_str (by rw [decide_eq_false (show ¬ n < -(2 ^ 63 : Int) by omega), decide_eq_false (show ¬ n ≥ 2 ^ 63 by omega)]; rfl) (fun _ _ => ?_) (fun _ _ => ?_) ?_
  · have : (2 ^ 63 - 1) / n ≥ 1000 := by
      refine (Int.le_ediv_iff_mul_le (by omega)).mpr ?_
      omega
    omega
  · have hs : a.length * n.toNat ≤ sizeLine := sz hl
    show decide (a.length * n.toNat > sizeLine) = false
    exact decide_eq_false (Nat.not_lt.mpr hs)
  · rw [if_neg e1, if_neg e2]
    refine ⟨?_, .str (mulS a n.toNat), H, I.tok _, ⟨_, rfl⟩, q⟩
    show ((List.replicate n.toNat a.cps).foldl (· ++ ·) #[]).size ≤ _
    have := mulS_length a n.toNat
    unfold mulS at this
    exact Nat.le_trans (Nat.le_of_eq this) (by rw [Nat.mul_comm]; exact sz hl)
section
variable {K : PySem.W.Frag} {φ : Addr → Prop} {J : Hp → Prop} {ρ : List (Option D)} {ta tb : TE} {s : Str} {i : Int}
theorem ev_mulS (ha : EvD K φ J ta ρ (.str s)) (hb : EvD K φ J tb ρ (.int i)) (h1 : 2 ≤ i) (h2 : i ≤ 1000) (h3 : 1 ≤ s.length) (h4 : s.length ≤ 1000) : EvD K φ J (tOp rMulS ta tb) ρ (.str (mulS s i.toNat)) := ev_opD ha hb fun H v w f r1 r2 Q q => by
  cases (show v = _ from r1)
  cases (show w = _ from r2)
  exact ⟨s, i, rfl, rfl, h1, h2, h3, h4, q _ _ H (Same.refl H) rfl rfl⟩
end
/-! ### t[::-1] -/
section
open HT PyProof.Rows PySem.SeqAt PySem.MeetsSeq PySem.MeetsSeq2 PySem.MeetsSeq3
open PySem.AutoSeq1 (wpAny_loadPart')
variable {prog : Program} {w : World} {A : Around} {E : Value → Shared → Prop} {s : Shared}
theorem sliceApplied_rev {sl : Addr} {vl vu vs : Value} {n : Nat} {Q : Int × Int × Nat → Shared → Prop} (hs : s.heap.IsSliceOf sl vl vu vs) (pl : IsPart vl none) (pu : IsPart vu none) (ps : IsPart vs (some (-1)))
    (h : Q ((n : Int) - 1, -1, n) s) : wpAny (model prog w) A (Builtin.Slice.sliceApplied (.ref sl) (pure (n : Int))) Q E s := by
  obtain ⟨os, hos, hcs, hds⟩ := id hs
  unfold Builtin.Slice.sliceApplied Builtin.Slice.sliceFields
  refine wpAny_bind (wpAny_bind (wpAny_field hos hds (x := vl) rfl (wpAny_bind (wpAny_field hos hds (x := vu) rfl (wpAny_bind (wpAny_field hos hds (x := vs) rfl (wpAny_pure ?_)))))))
  refine wpAny_bind (HT.slicePart_ ps ?_)
  show wpAny _ _ (if ((-1 : Int) == 0) = true then _ else _) _ _ s
  rw [if_neg (by decide)]
  refine wpAny_bind (HT.slicePart_ pl (wpAny_bind (HT.slicePart_ pu (wpAny_bind (wpAny_pure ?_)))))
  have e : Builtin.Slice.slicePlaces ((n : Int) - 1) (-1) (-1) = n := by
    unfold Builtin.Slice.slicePlaces
    rw [if_neg (by decide)]
    by_cases h0 : n = 0
    · subst h0
      rfl
    · rw [if_pos (by omega), show (- -1 : Int) = 1 by decide, Int.ediv_one]
      omega
  show wpAny _ _ (pure ((n : Int) - 1, (-1 : Int), Builtin.Slice.slicePlaces ((n : Int) - 1) (-1) (-1))) _ _ s
  rw [e]
  exact wpAny_pure h
theorem filterMap_same {α β : Type} {f g : α → Option β} : ∀ {l : List α}, (∀ m ∈ l, f m = g m) → l.filterMap f = l.filterMap g
  | [], _ => rfl
  | a :: l, h => by
    rw [List.filterMap_cons, List.filterMap_cons, h a List.mem_cons_self, filterMap_same fun m hm => h m (List.mem_cons_of_mem _ hm)]
theorem pick_rev (xs : Array Value) : ((List.range xs.size).filterMap fun (m : Nat) => xs[((xs.size : Int) - 1 + (m : Int) * -1).toNat]?).toArray = xs.toList.reverse.toArray := by
  have h1 : (List.range xs.size).filterMap (fun (m : Nat) => xs[((xs.size : Int) - 1 + (m : Int) * -1).toNat]?) = ((List.range xs.size).map (fun k => xs.size - 1 - k)).filterMap (xs[·]?) := by
    rw [List.filterMap_map]
    refine filterMap_same fun m hm => ?_
    have := List.mem_range.mp hm
    show _ = xs[xs.size - 1 - m]?
    rw [show ((xs.size : Int) - 1 + (m : Int) * -1).toNat = xs.size - 1 - m by omega]
  rw [h1, PySem.W.krv_range, List.filterMap_reverse, PySem.W.krv_all]
theorem getItem_tuple_rev {t sl : Addr} {items : Array Value} {vl vu vs : Value} {Q : Value → Shared → Prop} (ht : IsTup s.heap t items) (hs : s.heap.IsSliceOf sl vl vu vs) (pl : IsPart vl none) (pu : IsPart vu none) (ps : IsPart vs (some (-1)))
    (h : Q (.ref s.heap.objs.size) { s with heap := s.heap.push { cls := .type "tuple", data := .seq items.toList.reverse.toArray } })
    (hsz : items.size ≤ sizeLine) : wpAny (model prog w) A (getItem (.ref t) (.ref sl)) Q E s := by
  have htake : sizeOk (.seq items.toList.reverse.toArray) := by
    show items.toList.reverse.toArray.size ≤ sizeLine
    rw [List.size_toArray, List.length_reverse, Array.length_toList]
    exact hsz
  obtain ⟨os, hos, hcs, hds⟩ := id hs
  have hTs : s.TypeIs (.ref sl) "slice" := ⟨os, hos, hcs⟩
  unfold getItem
  try with_reducible refine wpAny_holding ?_
  first | refine wpAny_bind (wpAny_pure ?_) | skip
  refine wpAny_bind (wpAny_sequenceKey ht.typeIs (by decide) ?_)
  refine wpAny_bind (wpAny_callSpecial?_slot (name := Str.ofString "__getitem__") ht.typeIs PyProof.Rows.slot_tuple_getitem
    (wpAny_call_entry PyProof.Rows.slot_tuple_getitem ht.typeIs entry_tuple_getitem ?_ (args_tuple_getitem _ _)))
  show wpAny _ _ (Builtin.Tuple.tupleItemsOf (.ref t) >>= _) _ _ s
  refine wpAny_bind (tupleItemsOf_ ht ?_)
  refine wpAny_bind (wpAny_typeOf hTs ?_)
  rw [if_pos (by decide)]
  refine wpAny_bind (sliceApplied_rev hs pl pu ps ?_)
  have hno : ¬ ((((items.size : Int) - 1) == 0 && (-1 : Int) == 1 && items.size == items.size) = true) := by
    intro q
    rw [Bool.and_eq_true, Bool.and_eq_true] at q
    exact absurd q.1.2 (by decide)
  show wpAny _ _ (if (((items.size : Int) - 1) == 0 && (-1 : Int) == 1 && items.size == items.size) = true then _ else _) _ _ s
  rw [if_neg hno, pick_rev]
  first
    | exact wpAny_bind (m := Builtin.Tuple.tupleExact _) (wpAny_newObj_type (wpAny_pure ⟨_, rfl, wpAny_pure h⟩) htake)
    | exact wpAny_bind (m := Builtin.Tuple.tupleExact _) (wpAny_newObj_type (wpAny_bind (wpAny_pure (wpAny_pure ⟨_, rfl, wpAny_pure h⟩))) htake)
    | exact wpAny_bind (wpAny_bind (m := Builtin.Tuple.tupleExact _) (wpAny_newObj_type (wpAny_pure (wpAny_pure ⟨_, rfl, wpAny_pure h⟩)) htake))
    | exact wpAny_bind (wpAny_bind (m := Builtin.Tuple.tupleExact _) (wpAny_newObj_type (wpAny_pure ⟨_, rfl, wpAny_pure h⟩) htake))
end
def tRevT (K : PySem.W.Frag) (te : TE) : TE := fun σ H Q => te σ H fun x H1 => ∃ a xs, x = .ref a ∧ SqT K H1 a xs ∧ ∀ p, H1 p = none → Q (.ref p) (upd H1 p (.tup xs.reverse))
theorem pe_revT {X : Cx} {te : TE} {e : Expr} {k : Nat} {p1 p2 p3 pos : Pos} (he : PE X e te) : PE X (.Subscript e (.Slice none none (some (.UnaryOp .USub (.Constant (.int 1) k p1) p2)) p3) pos) (tRevT X.K te) := by
  refine ⟨fun pins s σ H Q I h => ?_⟩
  refine Subscript_ (thn (he.run pins s σ H _ I h) fun v s1 ⟨x, H1, I1, r1, q1⟩ => ?_)
  obtain ⟨a, xs, ex, hx, q⟩ := q1
  subst ex
  cases r1
  have hst : PO X (some (.UnaryOp .USub (.Constant (.int 1) k p1) p2)) (tPart (tUn (rU fun i => .int (-i)) (tC (.int 1)))) := po_some (pe_un un_neg pe_int)
  refine wpAny_Slice (thn (po_none.run pins s1 σ H1 (fun o H2 => o = none ∧ H2 = H1) I1 ⟨rfl, rfl⟩) fun vl s2 ⟨l, H2, I2, pl, el, e2⟩ => ?_)
  subst el e2
  refine thn (po_none.run pins s2 σ H2 (fun o H3 => o = none ∧ H3 = H2) I2 ⟨rfl, rfl⟩) fun vu s3 ⟨u, H3, I3, pu, eu, e3⟩ => ?_
  subst eu e3
  refine thn (hst.run pins s3 σ H3 (fun o H4 => o = some (-1) ∧ H4 = H3) I3 ⟨1, rfl, -1, rfl, rfl, rfl⟩) fun vs s4 ⟨o, H4, I4, ps, eo, e4⟩ => ?_
  subst eo e4
  have I5 : Inv X pins σ H4 { s4 with heap := s4.heap.push { cls := .type "slice", data := .fields #[vl, vu, vs] } } := I4.kept (t' := s4.toks) fun b ob q => Heap.get?_push_of_some _ q
  obtain ⟨its, r, ht, hz⟩ := I5.tuple hx
  have hlen := r.length
  show wpAny (model X.prog X.w) X.A (subscriptTail e (.Slice none none (some (.UnaryOp .USub (.Constant (.int 1) k p1) p2)) p3) (.ref a) (.ref s4.heap.objs.size)) (EP X pins σ Q) X.xe { s4 with heap := s4.heap.push { cls := .type "slice", data := .fields #[vl, vu, vs] } }
  refine PyProof.Rows.tail_any (ops := [.ref a, .ref s4.heap.objs.size]) ht.typeIs (PyProof.Rows.slot_tuple_getitem.lookup) ?_ (by with_unfolding_all rfl)
  refine getItem_tuple_rev ht (Heap.IsSliceOf.new _ vl vu vs) pl pu ps ?_ (by rw [List.size_toArray]; omega)
  refine ⟨.ref _, _, I5.laid (t' := s4.toks) (o := .tup xs.reverse) (fun b ob q => Heap.get?_push_of_some _ q) (Nat.le_refl _) ?_, rfl, q _ (I5.hok.fresh (Nat.le_refl _))⟩
  exact ⟨by rw [List.length_reverse]; exact hz, _, r.reverse, IsTup.new _ _⟩
section
variable {K : PySem.W.Frag} {φ : Addr → Prop} {J : Hp → Prop} {ρ : List (Option D)} {te : TE} {ds : List D}
theorem ev_revT (ha : EvD K φ J te ρ (.tup ds)) : EvD K φ J (tRevT K te) ρ (.tup ds.reverse) := fun σ H A Q q =>
  ha σ H A _ fun v x H1 b1 A1 e1 r1 => by
    subst e1
    obtain ⟨a, vs, rfl, pa, ra⟩ := rep_tup r1
    exact ⟨a, vs, rfl, pa.sq, fun p hp => q _ _ _ (b1.trans (But.of (same_new hp))) (A1.same (same_new hp)) rfl ⟨p, _, rfl, .inl ⟨A1.fr p hp, .inl upd_same⟩, (reps_rev ra).mono (But.of (same_new hp))⟩⟩
end
/-! ### a comprehension within a comprehension -/
theorem blk_in {N : List Str} {sc scope scope2 : Scope} {own : List (Str × Nat)} {cl : List (Str × Addr)} {C : Addr} {env : Env} (hs : env.scope = sc) (h : blkC N (relS scope sc) scope2 own = true) : BlkOk N (compEnvC scope cl C env).scope scope2 own := by
  have e : (compEnvC scope cl C env).scope = relS scope env.scope := rfl
  rw [e, hs]
  exact blkOk_by h

-- import HandS.ExcInit
-- import HandS.ExcField
-- import HandS.ExcSuper
-- import KE.KExcSuper
-- import KE.KSuper
-- import HandS.Lambda
/-! ### an own exception over own classes: def __init__(self, f): super().__init__(text); self.f = f -/
section
open PySem.W PySem.Calls
/-- the context of a method whose frame has the cell of its class -/
def supCx (P : Program) (w : World) (K : PySem.W.Frag) (mg : Str → Option Value) (base : Heap) (A : Around) (outer : List Env) (s : Shared) (H : Hp) (E : XK) (N : List Str) (qual : Str) (scope : Scope) (f : Addr) (cdv : Value) (cc : Addr) : Cx where
  prog := P
  w := w
  K := K
  mg := mg
  base := base
  A := A.deeper (ksEnv qual scope s.heap.objs.size f cdv cc)
  N := N
  s_0 := s
  H_0 := H
  env := ksEnv qual scope s.heap.objs.size f cdv cc
  outer := outer
  stack := ksEnv qual scope s.heap.objs.size f cdv cc :: outer
  ex := []
  fn := fun _ => false
  calm := true
  pn := []
  xe := fun e s' => wpAny (model P w) (A.deeper (ksEnv qual scope s.heap.objs.size f cdv cc)) (leaving (ksEnv qual scope s.heap.objs.size f cdv cc) e) (fun _ s'' => L2.CX P w outer H s E e s'') (fun e' s'' => L2.CX P w outer H s E e' s'') s'
/-- what the written part says of the class and its __init__ -/
structure SupC (P : Program) (K : PySem.W.Frag) (C fI : Addr) (qual : Str) (st : Stmt) (fd : FuncData) (cc cda : Addr) : Prop where
  fn : ∃ (oc : Value) (od : Option Addr) (kV doc pm : Value) (an : Option Addr) (ct : Value) (osl : Array (Option Value)),
    fd = ksFn "__init__" qual (defArgs st) (defBody st) (defScope st) .none kV doc pm an (.ref cda) ct cc ∧ K.lookup fI = some ⟨oc, od, .func fd, osl⟩
  cd : PySem.W.codeIn K (.ref cda) qual = true
  code : ∃ (ccl : Value) (cdd : Option Addr) (vs : Array Value) (ccs : Array (Option Value)) (file : Str) (tf : Tok), K.lookup cda = some ⟨ccl, cdd, .fields vs, ccs⟩ ∧ vs[2]? = some (.str file tf) ∧ ((P.main.file : Str) == file) = true
  cell : ∃ (cl : Value) (cld : Option Addr) (csl : Array (Option Value)), K.lookup cc = some ⟨cl, cld, .cell (some (.ref C)), csl⟩
  cls : ∃ cd, PySem.W.clsIn K C = some cd
  sub : PySem.W.mroIn K C (.ref C) = some true
  top : (P.main.scope.names.lookup ("super" : Str)).isSome = false
  sup : ks_superIn K C C "__init__" = some (some (.builtin "ValueError.__init__"))
  any : PySem.W.nsIn K cStatics "thirdparty.any" = some none
  ve : PySem.W.subIn K (.ref C) (.type "ValueError") = some true
  ex : OexC K C
section
variable {P : Program} {w : World} {K : PySem.W.Frag} {mg : Str → Option Value} {base : Heap}
/-- what is asked and told of it -/
def SpIL (C : Addr) (fl : Str) : Sp := fun vs H Q _ => ∃ (a : Addr) (v : V), vs = [.ref a, v] ∧ H a = some (exo a C none) ∧ ∀ dx, H dx = none → dx ≠ a → Q .non (upd (upd H dx (exd dx [(fl, v)])) a (exo a C (some dx)))
end
end

/-! ### the law's own helpers -/
structure Bi (mg : Str → Option Value) : Prop where
  len : mg "len" = none
  range : mg "range" = none
  isinstance : mg "isinstance" = none
  int : mg "int" = none
  str : mg "str" = none
  bool : mg "bool" = none
  list : mg "list" = none
  tuple : mg "tuple" = none
  dict : mg "dict" = none
  sum : mg "sum" = none
  max : mg "max" = none
  min : mg "min" = none
  abs : mg "abs" = none
  sorted : mg "sorted" = none
  enumerate : mg "enumerate" = none
  zip : mg "zip" = none
  set : mg "set" = none
local macro_rules | `(tactic| walk_at "ev") => `(tactic| repeat' (first
  | exact ev_int | exact ev_bl | exact ev_str | exact ev_non | exact ev_ty | exact ev_var rfl
  | refine ev_add ?_ ?_ | refine ev_sub ?_ ?_ | refine ev_mul ?_ ?_ ?_ | refine ev_mulW ?_ ?_ ?_ | refine ev_fdiv ?_ ?_ ?_ | refine ev_fdivW ?_ ?_ ?_ | refine ev_mod ?_ ?_ ?_ | refine ev_neg ?_
  | refine ev_lt ?_ ?_ | refine ev_le ?_ ?_ | refine ev_gt ?_ ?_ | refine ev_ge ?_ ?_
  | refine ev_eqI ?_ ?_ | refine ev_neI ?_ ?_ | refine ev_isN ?_ | refine ev_notN ?_
  | refine ea_cons ?_ ?_ | exact ea_nil
  | refine ev_intI ?_ | refine ev_abs ?_ | refine ev_max2 ?_ ?_ | refine ev_min2 ?_ ?_
  | refine et_test ?_ | refine et_B ?_))
/-- no raw values, a bounded depth -/
def plain : Nat → D → Bool
  | 0, _ => false
  | _ + 1, .non => true
  | _ + 1, .bl _ => true
  | _ + 1, .int _ => true
  | _ + 1, .str _ => true
  | n + 1, .tup ds => decide (ds.length ≤ 1000000) && ds.all (plain n)
  | n + 1, .lst ds => decide (ds.length ≤ 1000000) && ds.all (plain n)
  | _ + 1, .raw _ => false
  | _ + 1, .dk _ _ => false
  | _ + 1, .dt _ _ => false
theorem plain_raw {n : Nat} {d : D} (h : plain n d = true) : isRaw d = false := by
  cases n with
  | zero => cases h
  | succ n => cases d <;> first | rfl | cases h
theorem plain_seq {n : Nat} {d : D} {es : List D} (h : plain (n + 1) d = true) (e : seqOf d = some es) : es.length ≤ 1000000 ∧ ∀ x ∈ es, plain n x = true := by
  cases d <;> first | (cases e; done) | skip
  all_goals
    cases e
    simp only [plain, Bool.and_eq_true, decide_eq_true_eq, List.all_eq_true] at h
    exact h
def RSame (n : Nat) : List D → D → Prop := fun ds r => ∃ d, ds = [d, d] ∧ plain n d = true ∧ r = .bl true
section
variable {P : Program} {w : World} {K : PySem.W.Frag} {mg : Str → Option Value} {base : Heap}
theorem atI_ofNat {α : Type} {xs : List α} {i : Nat} {x : α} (h : xs[i]? = some x) : L2.atI xs (i : Int) = some x := by
  have hi : i < xs.length := (List.getElem?_eq_some_iff.mp h).1
  unfold L2.atI L2.ixN
  rw [if_pos (by omega), if_pos (by omega)]
  exact h
theorem sc__law_same : FnScope ["actual", "due", "k"] ["actual", "due"] (defScope s__law_same) := ⟨rfl, rfl, rfl, by decide +kernel, rfl, by decide +kernel, by decide +kernel⟩
theorem ok__law_same (B : Bi mg) {f : Addr} {fd : FuncData} (F : Fun K "_law_same" "_law_same" s__law_same f fd) (L__law_same : Lk K mg "_law_same" f fd ["actual", "due"]) : ∀ n : Nat, FnOk P w K mg base CX0 n f fd ["actual", "due"] (SpD K 2 (RSame n))
  | 0 => by
    have no : ∀ vs H Q E, ¬ SpD K 2 (RSame 0) vs H Q E := fun vs H Q E h => by
      obtain ⟨_, _, _, _, _, _, ⟨_, _, h, _⟩, _⟩ := h
      cases h
    exact ⟨fun vs H Q E h => absurd h (no vs H Q E), fun A outer s H args us vs Q E _ _ _ _ h => absurd h (no vs H Q E)⟩
  | n + 1 => by
    have G__law_same : FnOk P w K mg base CX0 n f fd ["actual", "due"] (SpD K 2 (RSame n)) := ok__law_same B F L__law_same n
    have S := sc__law_same
    refine fn_ok F S rfl 1 rfl fun cdv A outer s H E hr => ⟨_, ((pss_cons (ps_if (PW.pt (pw_or (pt_val (pe_callB call_isi (by rfl) B.isinstance (by decide +kernel) (pa_cons (pv 1) (pa_cons (pe_ty (n := "tuple") B.tuple (by decide +kernel)) pa_nil)))) (pw_or1 (pt_val (pe_callB call_isi (by rfl) B.isinstance (by decide +kernel) (pa_cons (pv 1) (pa_cons (pe_ty (n := "list") B.list (by decide +kernel)) pa_nil)))))))
 (pss_cons (ps_if (PW.pt (pw_or (pt_cmpR op_ne (pe_callB call_isi (by rfl) B.isinstance (by decide +kernel) (pa_cons (pv 1) (pa_cons (pe_ty (n := "tuple") B.tuple (by decide +kernel)) pa_nil))) (pe_callB call_isi (by rfl) B.isinstance (by decide +kernel) (pa_cons (pv 0) (pa_cons (pe_ty (n := "tuple") B.tuple (by decide +kernel)) pa_nil))) (nomark _)) (pw_or1 (pt_cmpR op_ne (pe_callB call_isi (by rfl) B.isinstance (by decide +kernel) (pa_cons (pv 1) (pa_cons (pe_ty (n := "list") B.list (by decide +kernel)) pa_nil))) (pe_callB call_isi (by rfl) B.isinstance (by decide +kernel) (pa_cons (pv 0) (pa_cons (pe_ty (n := "list") B.list (by decide +kernel)) pa_nil))) (nomark _)))))
 (pss_one (ps_ret pe_bl))
 pss_nil)
 (pss_cons (ps_if (pt_cmpR op_ne (pe_callB c_len (by rfl) B.len (by decide +kernel) (pa_cons (pv 0) pa_nil)) (pe_callB c_len (by rfl) B.len (by decide +kernel) (pa_cons (pv 1) pa_nil)) (nomark _))
 (pss_one (ps_ret pe_bl))
 pss_nil)
 (pss_cons (ps_for PassesOwn.never rfl (pi_range1 (by rfl) B.range (pa_cons (pe_callB c_len (by rfl) B.len (by decide +kernel) (pa_cons (pv 1) pa_nil)) pa_nil)) (pg_name (i := 2) S.nd rfl (by first | exact Or.inl rfl | exact Or.inr rfl))
 (pss_one (ps_if (pt_not (pt_val (pe_call G__law_same (hr.mono (by first | exact Nat.le_refl _ | decide | omega)) (by rfl) L__law_same.m L__law_same.kp L__law_same.bi .nil pass0 (pa_cons (pe_ix ix_seq (pv 0) (pv 2) (fun _ _ => rfl)) (pa_cons (pe_ix ix_seq (pv 1) (pv 2) (fun _ _ => rfl)) pa_nil)))))
 (pss_one (ps_ret pe_bl))
 pss_nil)))
 (pss_one (ps_ret pe_bl)))))
 pss_nil)
 (pss_cons (ps_if (pt_cmpR op_isN1 (pv 1) pe_non (nomark _))
 (pss_one (ps_ret (pe_cmpR op_isN1 (pv 0) pe_non (nomark _))))
 pss_nil)
 (pss_cons (ps_if (pt_val (pe_callB call_isi (by rfl) B.isinstance (by decide +kernel) (pa_cons (pv 1) (pa_cons (pe_ty (n := "bool") B.bool (by decide +kernel)) pa_nil))))
 (pss_one (ps_ret (pe_and (pe_callB call_isi (by rfl) B.isinstance (by decide +kernel) (pa_cons (pv 0) (pa_cons (pe_ty (n := "bool") B.bool (by decide +kernel)) pa_nil))) (pe_one (pe_cmpR op_eq (pv 0) (pv 1) (nomark _))))))
 pss_nil)
 (pss_cons (ps_if (pt_val (pe_callB call_isi (by rfl) B.isinstance (by decide +kernel) (pa_cons (pv 1) (pa_cons (pe_ty (n := "int") B.int (by decide +kernel)) pa_nil))))
 (pss_one (ps_ret (pe_and (pe_callB call_isi (by rfl) B.isinstance (by decide +kernel) (pa_cons (pv 0) (pa_cons (pe_ty (n := "int") B.int (by decide +kernel)) pa_nil))) (pe_and (pe_not (pe_callB call_isi (by rfl) B.isinstance (by decide +kernel) (pa_cons (pv 0) (pa_cons (pe_ty (n := "bool") B.bool (by decide +kernel)) pa_nil)))) (pe_one (pe_cmpR op_eq (pv 0) (pv 1) (nomark _)))))))
 pss_nil)
 (pss_one (ps_ret (pe_and (pe_callB call_isi (by rfl) B.isinstance (by decide +kernel) (pa_cons (pv 0) (pa_cons (pe_ty (n := "str") B.str (by decide +kernel)) pa_nil))) (pe_one (pe_cmpR op_eq (pv 0) (pv 1) (nomark _))))))))))), fun φ ds d H D0 σ hl hR hrt hnx A => ?_⟩
    obtain ⟨d, rfl, hp, rfl⟩ := hR
    replace A : At K φ (Same H) [some d, some d, none] σ H := A
    have hraw := plain_raw hp
    have isi : ∀ {ρ : List (Option D)} {J : Hp → Prop} {i : Nat} {n : String}, ρ[i]? = some (some d) → n ∈ (["tuple", "list", "bool", "int", "str", "dict"] : List String) → EvD K φ J (tCB (rIsi K) (tCons (tVar i) (tCons (tC (.ty n)) tNil))) ρ (.bl (isT n d)) := fun h hn => ev_isi (ev_var h) ev_ty hraw hn
    refine q ?_
    refine st_if A (et_or (et_B (isi rfl (by simp))) fun _ => et_B (isi rfl (by simp))) (fun hb H1 A1 => ?_) (fun hb H1 A1 => ?_)
    · -- a tuple or a list
      obtain ⟨es, hes⟩ : ∃ es, seqOf d = some es := by
        cases d <;> first | exact ⟨_, rfl⟩ | (simp [isT, tyD] at hb)
      obtain ⟨hlen, hpl⟩ := plain_seq hp hes
      refine q ?_
      refine st_no A1 (et_or (et_test (ev_neB (isi rfl (by simp)) (isi rfl (by simp)))) fun _ => et_test (ev_neB (isi rfl (by simp)) (isi rfl (by simp)))) (by simp) fun H2 A2 => ?_
      refine q ?_
      refine st_no A2 (et_test (ev_neI (ev_lenQ (ev_var rfl) hes) (ev_lenQ (ev_var rfl) hes))) (by simp) fun H3 A3 => ?_
      refine q ?_
      refine st_for A3 (it_range1 (ea_cons (ev_lenQ (ev_var rfl) hes) ea_nil) (by omega)) (fun i ρ' J' => (∃ o, ρ' = [some d, some d, o]) ∧ J' = Same H) ⟨⟨none, rfl⟩, rfl⟩ ?_ ?_
      · rintro H4 i x ρ' J' b4 j4 hx ⟨⟨o, rfl⟩, rfl⟩ σ' H' A5
        rw [rangeD_get] at hx
        have hi : i < es.length := by
          by_cases h : i < (es.length : Int).toNat
          · omega
          · rw [if_neg h] at hx; cases hx
        rw [if_pos (by omega)] at hx
        cases hx
        have hxi : L2.atI es (0 + (i : Int)) = some es[i] := by
          rw [Int.zero_add]
          exact atI_ofNat (List.getElem?_eq_getElem hi)
        have A5' : At K φ (fun H_1 => Same H H_1 ∧ But φ H4 H_1) [some d, some d, some (.int (0 + (i : Int)))] σ' H' := A5
        refine st_no A5' (et_not (et_B (ev_callD (ea_cons (ev_ixQ (ev_var rfl) hes (ev_var rfl) hxi) (ea_cons (ev_ixQ (ev_var rfl) hes (ev_var rfl) hxi) ea_nil)) ⟨es[i], rfl, hpl _ (List.getElem_mem hi), rfl⟩))) rfl fun H6 A6 => ?_
        exact ⟨_, _, ⟨⟨_, rfl⟩, rfl⟩, A6⟩
      · rintro H4 ρ' J' σ' H' b4 j4 ⟨⟨o, rfl⟩, rfl⟩ A5
        exact st_ret A5 ev_bl fun v d' H6 e A6 r => hrt v H6 A6.j.1 (e ▸ r)
    · refine st_next ?_
      have hnt : isT "tuple" d = false ∧ isT "list" d = false := by
        exact Bool.or_eq_false_iff.mp hb.symm
      refine q ?_
      refine st_if A1 (et_test (ev_isN (ev_var rfl))) (fun hn H2 A2 => ?_) (fun hn H2 A2 => ?_)
      · exact st_ret A2 (ev_isN (ev_var rfl)) fun v d' H6 e A6 r => hrt v H6 A6.j (by rw [e, ← hn] at r; exact r)
      · refine st_next (q ?_)
        refine st_if A2 (et_B (isi rfl (by simp))) (fun hB H3 A3 => ?_) (fun hB H3 A3 => ?_)
        · obtain ⟨b, rfl⟩ : ∃ b, d = .bl b := by
            cases d <;> first | exact ⟨_, rfl⟩ | (simp [isT, tyD] at hB)
          exact st_ret A3 (ev_andV (isi rfl (by simp)) fun _ => ev_one (ev_eqB (ev_var rfl) (ev_var rfl))) fun v d' H6 e A6 r => hrt v H6 A6.j (by rw [e, ← hB] at r; simpa using r)
        · refine st_next (q ?_)
          refine st_if A3 (et_B (isi rfl (by simp))) (fun hI H4 A4 => ?_) (fun hI H4 A4 => ?_)
          · obtain ⟨b, rfl⟩ : ∃ b, d = .int b := by
              cases d <;> first | exact ⟨_, rfl⟩ | (simp [isT, tyD] at hI hB)
            exact st_ret A4 (ev_andV (isi rfl (by simp)) fun _ => ev_andV (ev_notV (isi rfl (by simp))) fun _ => ev_one (ev_eqI (ev_var rfl) (ev_var rfl))) fun v d' H6 e A6 r => hrt v H6 A6.j (by rw [e, ← hI, ← hB] at r; simpa using r)
          · refine st_next ?_
            obtain ⟨b, rfl⟩ : ∃ b, d = .str b := by
              cases d <;> first | exact ⟨_, rfl⟩ | (cases hraw; done) | (cases hp; done) | (simp [isT, tyD, isNon] at hI hB hnt hn)
            exact st_ret A4 (ev_andV (isi rfl (by simp)) fun _ => ev_one (ev_eqS (ev_var rfl) (ev_var rfl))) fun v d' H6 e A6 r => hrt v H6 A6.j (by rw [e] at r; simpa [isT, tyD] using r)
end
/-! ### spread, pool, draw -/
section
variable {P : Program} {w : World} {K : PySem.W.Frag} {mg : Str → Option Value} {base : Heap}
def spreadN (c : Int) : Nat → Int × Int
  | 0 => (c % 2147483647, 1)
  | n + 1 => (((spreadN c n).1 * 48271 + 12345 + (0 + (n : Int))) % 2147483647, (spreadN c n).2 * 2147483647 + ((spreadN c n).1 * 48271 + 12345 + (0 + (n : Int))) % 2147483647)
theorem spreadN_lt (c : Int) : ∀ n, 0 ≤ (spreadN c n).1 ∧ (spreadN c n).1 < 2147483647
  | 0 => ⟨Int.emod_nonneg _ (by decide), Int.emod_lt_of_pos _ (by decide)⟩
  | n + 1 => ⟨Int.emod_nonneg _ (by decide), Int.emod_lt_of_pos _ (by decide)⟩
def RSpread : List D → D → Prop := fun ds r => ∃ c : Int, ds = [.int c] ∧ r = .int (spreadN c 4).2
theorem sc__law_spread : FnScope ["cell", "mixed", "total", "k"] ["cell"] (defScope s__law_spread) := ⟨rfl, rfl, rfl, by decide +kernel, rfl, by decide +kernel, by decide +kernel⟩
theorem ok__law_spread (B : Bi mg) {f : Addr} {fd : FuncData} (F : Fun K "_law_spread" "_law_spread" s__law_spread f fd) : FnOk P w K mg base CX0 1 f fd ["cell"] (SpD K 1 RSpread) := by
  have S := sc__law_spread
  refine fn_ok F S rfl 3 rfl fun cdv A outer s H E hr => ⟨_, ((pss_cons (ps_set (i := 1) S.nd rfl (by first | exact Or.inl rfl | exact Or.inr rfl) (pe_op op_mod (pe_callTy c_int1 (by rfl) B.int (by decide +kernel) (pa_cons (pv 0) pa_nil)) pe_int))
 (pss_cons (ps_set (i := 2) S.nd rfl (by first | exact Or.inl rfl | exact Or.inr rfl) pe_int)
 (pss_cons (ps_for PassesOwn.never rfl (pi_range1 (by rfl) B.range (pa_cons pe_int pa_nil)) (pg_name (i := 3) S.nd rfl (by first | exact Or.inl rfl | exact Or.inr rfl))
 (pss_cons (ps_set (i := 1) S.nd rfl (by first | exact Or.inl rfl | exact Or.inr rfl) (pe_op op_mod (pe_callTy c_int1 (by rfl) B.int (by decide +kernel) (pa_cons (pe_op op_add (pe_op op_add (pe_op op_mul (pv 1) pe_int) pe_int) (pv 3)) pa_nil)) pe_int))
 (pss_one (ps_set (i := 2) S.nd rfl (by first | exact Or.inl rfl | exact Or.inr rfl) (pe_op op_add (pe_op op_mul (pv 2) pe_int) (pv 1))))))
 (pss_one (ps_ret (pv 2))))))), fun φ ds d H D0 σ hl hR hrt hnx A => ?_⟩
  obtain ⟨c, rfl, rfl⟩ := hR
  replace A : At K φ (Same H) [some (.int c), none, none, none] σ H := A
  refine q (st_set A (ev_mod (ev_intI (ev_var rfl)) ev_int (by decide)) fun σ1 H1 A1 => q (st_set A1 ev_int fun σ2 H2 A2 => q ?_))
  refine st_for A2 (it_range1 (ea_cons ev_int ea_nil) (by decide)) (fun i ρ' J' => (∃ o, ρ' = [some (.int c), some (.int (spreadN c i).1), some (.int (spreadN c i).2), o]) ∧ J' = Same H) ⟨⟨none, rfl⟩, rfl⟩ ?_ ?_
  · rintro H4 i x ρ' J' b4 j4 hx ⟨⟨o, rfl⟩, rfl⟩ σ' H' A5
    rw [rangeD_get] at hx
    split at hx
    · cases hx
      have h := spreadN_lt c i
      refine q (st_set A5 (ev_mod (ev_intI (ev_add (ev_add (ev_mul (ev_var rfl) ev_int (.inl (by omega))) ev_int) (ev_var rfl))) ev_int (by decide)) fun σ6 H6 A6 => ?_)
      refine st_set A6 (ev_add (ev_mul (ev_var rfl) ev_int (.inr (by decide))) (ev_var rfl)) fun σ7 H7 A7 => ?_
      exact ⟨_, _, ⟨⟨_, rfl⟩, rfl⟩, A7⟩
    · cases hx
  · rintro H4 ρ' J' σ' H' b4 j4 ⟨⟨o, rfl⟩, rfl⟩ A5
    exact st_ret A5 (ev_var rfl) fun v d' H6 e A6 r => hrt v H6 A6.j.1 (e ▸ r)
/-- a new pool for the script -/
def spPool (K : PySem.W.Frag) : Sp := fun vs H Q _ => ∃ (a : Addr) (ns : List Int), vs = [.ref a] ∧ SqL K H a (ns.map V.int) ∧ ns.length ≤ 63 ∧ ∀ p s H', Same H H' → H p = none → H s = none → s ≠ p → PoolOk p s ns H' → Q (.ref p) H'
theorem sc__law_pool : FnScope ["script", "salt", "cell"] ["script"] (defScope s__law_pool) := ⟨rfl, rfl, rfl, by decide +kernel, rfl, by decide +kernel, by decide +kernel⟩
theorem ok__law_pool (B : Bi mg) {f : Addr} {fd : FuncData} (F : Fun K "_law_pool" "_law_pool" s__law_pool f fd) : FnOk P w K mg base CX0 1 f fd ["script"] (spPool K) := by
  have S := sc__law_pool
  refine F.ok S (fun vs H Q E h => ?_) (fun cdv A outer s H vs Q E hr h => ?_)
  · obtain ⟨a, ns, rfl, _⟩ := h
    rfl
  obtain ⟨a, ns, rfl, hS, hlen, kq⟩ := h
  refine ⟨_, ((pss_cons (ps_set (i := 1) S.nd rfl (by first | exact Or.inl rfl | exact Or.inr rfl) pe_int)
 (pss_cons (ps_for PassesOwn.never rfl (pi_list (pe_slice sl_list (pv 0) po_none (po_some pe_int))) (pg_name (i := 2) S.nd rfl (by first | exact Or.inl rfl | exact Or.inr rfl))
 (pss_one (ps_set (i := 1) S.nd rfl (by first | exact Or.inl rfl | exact Or.inr rfl) (pe_op op_mod (pe_callTy c_int1 (by rfl) B.int (by decide +kernel) (pa_cons (pe_op op_add (pe_op op_mul (pv 1) pe_int) (pv 2)) pa_nil)) pe_int))))
 (pss_one (ps_ret (pe_lst (pa_cons (pe_callTy c_listOf (by rfl) B.list (by decide +kernel) (pa_cons (pv 0) pa_nil)) (pa_cons pe_int (pa_cons pe_int (pa_cons pe_int (pa_cons (pv 1) pa_nil))))))))))), ?_⟩
  have A0 : At K (fun _ => True) (Same H) [some (.lst (ns.map D.int)), none, none] [some (.ref a), none, none] H := by
    have hpl : PL K (fun _ => True) H a (ns.map V.int) := hS.elim (fun z => .inl ⟨trivial, z⟩) .inr
    exact ⟨SR.start (ds := [.lst (ns.map D.int)]) (n := 2) (Reps.cons ⟨a, _, rfl, hpl, Reps.of_ints⟩ Reps.nil), ⟨fun _ _ => trivial, fun _ _ _ => trivial⟩, Same.refl H, Mo.sames fun _ h => h⟩
  refine q (st_set A0 ev_int fun σ1 H1 A1 => q ?_)
  refine st_for A1 (it_list (ev_slL (ev_var rfl) eo_none (eo_some ev_int))) (fun i ρ' J' => (∃ o, ∃ z : Int, 0 ≤ z ∧ z < 1000003 ∧ ρ' = [some (.lst (ns.map D.int)), some (.int z), o]) ∧ J' = Same H) ⟨⟨none, 7, by decide, by decide, rfl⟩, rfl⟩ ?_ ?_
  · rintro H4 i x ρ' J' b4 j4 hx ⟨⟨o, z, hz, hz2, rfl⟩, rfl⟩ σ' H' A5
    obtain ⟨n, rfl⟩ : ∃ n, x = .int n := by
      have hm : x ∈ cutD (ns.map D.int) none (some 63) := List.mem_of_getElem? hx
      have hm2 : x ∈ ns.map D.int := List.mem_of_mem_drop (List.mem_of_mem_take hm)
      obtain ⟨n, _, e⟩ := List.mem_map.mp hm2
      exact ⟨n, e.symm⟩
    refine st_set A5 (ev_mod (ev_intI (ev_add (ev_mul (ev_var rfl) ev_int (.inl (by omega))) (ev_var rfl))) ev_int (by decide)) fun σ7 H7 A7 => ?_
    exact ⟨_, _, ⟨⟨_, _, Int.emod_nonneg _ (by decide), Int.emod_lt_of_pos _ (by decide), rfl⟩, rfl⟩, A7⟩
  · rintro H4 ρ' J' σ' H' b4 j4 ⟨⟨o, z, hz, hz2, rfl⟩, rfl⟩ A5
    refine en_list (ev_var rfl) σ' H' A5 _ fun s vs ds H5 H6 b5 A6 hs b6 A7 e hst r => ?_
    subst e
    have ev : vs = ns.map V.int := r.ints
    subst ev
    obtain ⟨v, ev, rv⟩ := A7.sr.2 1 _ rfl
    cases (show v = _ from rv)
    refine ⟨_, ev, by show 5 ≤ sizeLine; decide, fun p hp => ?_⟩
    have nsp : s ≠ p := ne_of_none hst hp
    refine kq p s _ (A7.j.1.trans (same_new hp)) (Same.free A7.j.1 hp) (Same.free A6.j.1 hs) nsp ⟨0, 0, 0, z, upd_same, ?_, Int.le_refl _⟩
    rw [upd_ne nsp]
    exact hst
/-- the pool's list -/
def plV (s : Addr) (a c n z : Int) : List V := [.ref s, .int a, .int c, .int n, .int z]
theorem sc__law_draw : FnScope ["pool", "many", "cell", "mixed", "value"] ["pool", "many"] (defScope s__law_draw) := ⟨rfl, rfl, rfl, by decide +kernel, rfl, by decide +kernel, by decide +kernel⟩
theorem ok__law_draw (B : Bi mg) {f g : Addr} {fd gd : FuncData} (F : Fun K "_law_draw" "_law_draw" s__law_draw f fd) (L__law_spread : Lk K mg "_law_spread" g gd ["cell"]) (G__law_spread : FnOk P w K mg base CX0 1 g gd ["cell"] (SpD K 1 RSpread)) : FnOk P w K mg base CX0 2 f fd ["pool", "many"] spDraw := by
  have S := sc__law_draw
  refine F.ok S (fun vs H Q E h => ?_) (fun cdv A outer s H vs Q E hr h => ?_)
  · obtain ⟨p, s, ns, n, rfl, _⟩ := h
    rfl
  obtain ⟨p, s, ns, many, rfl, ⟨a0, c0, n0, z0, hp, hs, ha0⟩, nsp, hm0, hm1, kq⟩ := h
  refine ⟨_, ((C8.pss_cut (ps_if (PW.pt (pw_and (pt_cmpR op_le (pe_ix ix_list (pv 0) pe_int (fun _ _ => rfl)) pe_int (nomark _)) (pw_and1 (pt_cmpR op_lt (pe_ix ix_list (pv 0) pe_int (fun _ _ => rfl)) (pe_callB c_len (by rfl) B.len (by decide +kernel) (pa_cons (pe_ix ix_list (pv 0) pe_int (fun _ _ => rfl)) pa_nil)) (nomark _)))))
 (pss_cons (ps_set (i := 2) S.nd rfl (by first | exact Or.inl rfl | exact Or.inr rfl) (pe_ix ix_list (pe_ix ix_list (pv 0) pe_int (fun _ _ => rfl)) (pe_ix ix_list (pv 0) pe_int (fun _ _ => rfl)) (fun _ _ => rfl)))
 (pss_cons (ps_asg (pe_op op_add (pe_ix ix_list (pv 0) pe_int (fun _ _ => rfl)) pe_int) (pg_sub (pv 0) pe_int set_list))
 (pss_cons (ps_asg (pv 2) (pg_sub (pv 0) pe_int set_list))
 (pss_one (ps_if (pt_cmpR op_lt (pv 2) pe_int (nomark _))
 (pss_one (ps_asg (pe_call G__law_spread (hr.mono (by first | exact Nat.le_refl _ | decide | omega)) (by rfl) L__law_spread.m L__law_spread.kp L__law_spread.bi .nil pass0 (pa_cons (pv 2) pa_nil)) (pg_sub (pv 0) pe_int set_list)))
 pss_nil)))))
 pss_nil)
 (pss_cons (ps_asg (pe_op op_add (pe_ix ix_list (pv 0) pe_int (fun _ _ => rfl)) pe_int) (pg_sub (pv 0) pe_int set_list))
 (pss_cons (ps_if (pt_cmpR op_le (pe_ix ix_list (pv 0) pe_int (fun _ _ => rfl)) pe_int (nomark _))
 (pss_cons (ps_set (i := 3) S.nd rfl (by first | exact Or.inl rfl | exact Or.inr rfl) (pe_op op_mod (pe_callTy c_int1 (by rfl) B.int (by decide +kernel) (pa_cons (pe_op op_add (pe_op op_add (pe_op op_mul (pe_ix ix_list (pv 0) pe_int (fun _ _ => rfl)) pe_int) (pe_op op_mul (pe_ix ix_list (pv 0) pe_int (fun _ _ => rfl)) pe_int)) pe_int) pa_nil)) pe_int))
 (pss_cons (ps_set (i := 3) S.nd rfl (by first | exact Or.inl rfl | exact Or.inr rfl) (pe_op op_mod (pe_callTy c_int1 (by rfl) B.int (by decide +kernel) (pa_cons (pe_op op_add (pe_op op_mul (pv 3) pe_int) (pe_ix ix_list (pv 0) pe_int (fun _ _ => rfl))) pa_nil)) pe_int))
 (pss_one (ps_ret (pe_op op_mod (pe_op op_fdiv (pv 3) pe_int) (pv 1))))))
 pss_nil)
 (pss_cons (ps_set (i := 4) S.nd rfl (by first | exact Or.inl rfl | exact Or.inr rfl) (pe_op op_mod (pe_callTy c_int1 (by rfl) B.int (by decide +kernel) (pa_cons (pe_ix ix_list (pv 0) pe_int (fun _ _ => rfl)) pa_nil)) (pv 1)))
 (pss_cons (ps_asg (pe_op op_fdivW (pe_ix ix_list (pv 0) pe_int (fun _ _ => rfl)) (pv 1)) (pg_sub (pv 0) pe_int set_list))
 (pss_one (ps_ret (pv 4))))))))), ?_⟩
  let φ : Addr → Prop := fun a => a ≠ p
  let JJ : Int → Int → Int → Hp → Prop := fun a c n H' => H' p = some (.lst (plV s a c n z0)) ∧ But φ H H'
  have trp : ∀ {H' : Hp}, But φ H H' → H' p ≠ none := fun b => b.tr p (by rw [hp]; exact fun z => by cases z)
  have moJ : ∀ {a c n : Int} {H' : Hp}, But φ H H' → Mo H' (JJ a c n) := fun b => (Mo.at (trp b)).and (Mo.but b.tr)
  have nφ : ¬ φ p := fun z => z rfl
  have updA : ∀ {a c n a' c' n' : Int} {ρ : List (Option D)} {σ : L2.St} {H' : Hp}, At K φ (JJ a c n) ρ σ H' → At K φ (JJ a' c' n') ρ σ (L2.upd H' p (.lst (plV s a' c' n' z0))) := fun {a c n a' c' n' ρ σ H'} A =>
    A.upd nφ ⟨upd_same, A.j.2.upd nφ⟩ (moJ (A.j.2.upd nφ))
  have A0 : At K φ (JJ a0 c0 n0) [some (.raw (.ref p)), some (.int many), none, none, none] [some (.ref p), some (.int many), none, none, none] H :=
    ⟨SR.start (ds := [.raw (.ref p), .int many]) (n := 3) (Reps.cons rfl (Reps.cons rfl Reps.nil)), ⟨fun a h z => (by rw [z, hp] at h; cases h), fun a xs h z => (by rw [z, hp] at h; cases h)⟩, ⟨hp, But.refl _ _⟩, moJ (But.refl _ _)⟩
  -- the pool's cells
  have ix : ∀ {a c n : Int} {ρ : List (Option D)} {i : Int} {d : D} {v : V}, ρ[0]? = some (some (.raw (.ref p))) → atI (plV s a c n z0) i = some v → (∀ H', Rep K φ H' d v) → EvD K φ (JJ a c n) (tOp (rIxL K) (tVar 0) (tC (.int i))) ρ d := fun h e r => ev_ixLive (ev_var h) ev_int fun H' j => ⟨_, j.1, _, e, r H'⟩
  have fin : ∀ {a c n : Int} {ρ : List (Option D)} {σ : L2.St} {H' : Hp} {r : Int}, At K φ (JJ a c n) ρ σ H' → 0 ≤ a → 0 ≤ r → r < many → Q (.int r) H' := fun {a c n ρ σ H' r} A ha h0 h1 =>
    kq r H' h0 h1 (fun b o nb e => A.j.2.keep b o nb e) ⟨a, c, n, z0, A.j.1, A.j.2.keep _ _ nsp hs, ha⟩
  refine q_cut (M := fun σ' H' => ∃ a c o, 0 ≤ a ∧ At K φ (JJ a c n0) [some (.raw (.ref p)), some (.int many), o, none, none] σ' H') ?_ ?_
  · refine st_if A0 (et_and (et_test (ev_le (ix rfl rfl fun _ => rfl) ev_int)) fun _ => et_test (ev_lt (ix rfl rfl fun _ => rfl) (ev_lenLive (ix rfl rfl fun _ => rfl) fun H' j => j.2.keep _ _ nsp hs))) (fun hb H1 A1 => ?_) (fun hb H1 A1 => ⟨a0, c0, none, ha0, A1⟩)
    have hlt : a0 < ((ns.map V.int).length : Nat) := by
      have h1 := hb.symm
      rw [Bool.and_eq_true] at h1
      exact of_decide_eq_true h1.2
    have hltn : a0.toNat < ns.length := by rw [List.length_map] at hlt; omega
    have hat : atI (ns.map V.int) a0 = some (.int ns[a0.toNat]) := by
      have z := atI_ofNat (xs := ns.map V.int) (i := a0.toNat) (x := .int ns[a0.toNat]) (by rw [List.getElem?_map, List.getElem?_eq_getElem hltn]; rfl)
      rw [Int.toNat_of_nonneg ha0] at z
      exact z
    refine q (st_set A1 (ev_ixLive (d := .int ns[a0.toNat]) (ix rfl rfl fun _ => rfl) (ix rfl rfl fun _ => rfl) fun H' j => ⟨_, j.2.keep _ _ nsp hs, _, hat, rfl⟩) fun σ2 H2 A2 => q ?_)
    refine st_setL (n := 1) A2 (ev_add (ix rfl rfl fun _ => rfl) ev_int) rfl ev_int (fun H' j => j.1) rfl fun v d H3 e r b A3 => ?_
    subst e
    cases (show v = _ from r)
    have A4 : At K φ (JJ (a0 + 1) c0 n0) [some (.raw (.ref p)), some (.int many), some (.int ns[a0.toNat]), none, none] σ2 _ := updA (a' := a0 + 1) (c' := c0) (n' := n0) A3
    refine q (st_setL (n := 2) A4 (ev_var rfl) rfl ev_int (fun H' j => j.1) rfl fun v d H5 e r b A5 => ?_)
    subst e
    cases (show v = _ from r)
    have A6 : At K φ (JJ (a0 + 1) ns[a0.toNat] n0) [some (.raw (.ref p)), some (.int many), some (.int ns[a0.toNat]), none, none] σ2 _ := updA (a' := a0 + 1) (c' := ns[a0.toNat]) (n' := n0) A5
    refine st_if A6 (et_test (ev_lt (ev_var rfl) ev_int)) (fun _ H7 A7 => ?_) (fun _ H7 A7 => ⟨_, _, _, by omega, A7⟩)
    refine st_setL (n := 2) A7 (ev_callD (ea_cons (ev_var rfl) ea_nil) ⟨_, rfl, rfl⟩) rfl ev_int (fun H' j => j.1) rfl fun v d H8 e r b A8 => ?_
    subst e
    cases (show v = _ from r)
    exact ⟨a0 + 1, (spreadN ns[a0.toNat] 4).2, _, by omega, updA (a' := a0 + 1) (n' := n0) A8⟩
  · rintro σ1 H1 ⟨a, c, o, ha, A1⟩
    refine q (st_setL (n := 3) A1 (ev_add (ix rfl rfl fun _ => rfl) ev_int) rfl ev_int (fun H' j => j.1) rfl fun v d H3 e r b A3 => ?_)
    subst e
    cases (show v = _ from r)
    have A4 : At K φ (JJ a c (n0 + 1)) [some (.raw (.ref p)), some (.int many), o, none, none] σ1 _ := updA (a' := a) (c' := c) (n' := n0 + 1) A3
    refine q (st_if A4 (et_test (ev_le (ix rfl rfl fun _ => rfl) ev_int)) (fun _ H5 A5 => ?_) (fun hc H5 A5 => st_next ?_))
    · refine q (st_set A5 (ev_mod (ev_intI (ev_add (ev_add (ev_mul (ix rfl rfl fun _ => rfl) ev_int (.inr (by decide))) (ev_mul (ix rfl rfl fun _ => rfl) ev_int (.inr (by decide)))) ev_int)) ev_int (by decide)) fun σ6 H6 A6 => q ?_)
      refine st_set A6 (ev_mod (ev_intI (ev_add (ev_mul (ev_var rfl) ev_int (.inr (by decide))) (ix rfl rfl fun _ => rfl))) ev_int (by decide)) fun σ7 H7 A7 => ?_
      refine st_ret A7 (ev_mod (ev_fdiv (ev_var rfl) ev_int ⟨by decide, by decide⟩) (ev_var rfl) hm0) fun v d H8 e A8 r => ?_
      subst e
      cases (show v = _ from r)
      exact fin A8 ha (Int.emod_nonneg _ (by omega)) (Int.emod_lt_of_pos _ hm0)
    · refine q (st_set A5 (ev_mod (ev_intI (ix rfl rfl fun _ => rfl)) (ev_var rfl) hm0) fun σ6 H6 A6 => q ?_)
      refine st_setL (n := 2) A6 (ev_fdivW (ix rfl rfl fun _ => rfl) (ev_var rfl) ⟨hm0, (Nat.log2_lt (by omega)).mpr (Nat.lt_of_lt_of_le (show _ < 2 ^ 32 by omega) (Nat.pow_le_pow_right (by decide) (by decide)))⟩) rfl ev_int (fun H' j => j.1) rfl fun v d H8 e r b A8 => ?_
      subst e
      cases (show v = _ from r)
      have A9 : At K φ (JJ a (c / many) (n0 + 1)) [some (.raw (.ref p)), some (.int many), o, none, some (.int (c % many))] σ6 _ := updA (a' := a) (c' := c / many) (n' := n0 + 1) A8
      refine st_ret A9 (ev_var rfl) fun v d H10 e A10 r => ?_
      subst e
      cases (show v = _ from r)
      exact fin A10 ha (Int.emod_nonneg _ (by omega)) (Int.emod_lt_of_pos _ hm0)
end
def spLaw (K : PySem.W.Frag) : Sp := fun vs H Q _ => ∃ (a : Addr) (ns : List Int), vs = [.ref a] ∧ SqL K H a (ns.map V.int) ∧ ns.length ≤ 63 ∧ ∀ H', Q (.bl true) H'
/-- behind the making of the pool -/
def JP (p s : Addr) (ns : List Int) : Hp → Prop := PoolOk p s ns
theorem mo_pool {p s : Addr} {ns : List Int} {H : Hp} (hp : H p ≠ none) (hs : H s ≠ none) : Mo H (PoolOk p s ns) := fun H1 H2 k j => by
  obtain ⟨a, c, n, z, e1, e2, h⟩ := j
  exact ⟨a, c, n, z, k p _ hp e1, k s _ hs e2, h⟩
theorem mo_poolOf {p s : Addr} {ns : List Int} {H : Hp} (j : PoolOk p s ns H) : Mo H (PoolOk p s ns) := by
  obtain ⟨_, _, _, _, e1, e2, _⟩ := id j
  exact mo_pool (by rw [e1]; exact fun z => by cases z) (by rw [e2]; exact fun z => by cases z)
theorem mo_of {p s : Addr} {ns : List Int} {φ : Addr → Prop} {H H2 : Hp} (j : PoolOk p s ns H ∧ But φ H2 H) : Mo H (fun H => PoolOk p s ns H ∧ But φ H2 H) := (mo_poolOf j.1).and (Mo.but j.2.tr)
theorem pooled {p s : Addr} {ns : List Int} {φ : Addr → Prop} (np : ¬ φ p) (ne : s ≠ p) : Pooled φ (PoolOk p s ns) p s ns := ⟨np, ne, fun _ h => h, fun _ _ _ _ o => o⟩
section
variable {K : PySem.W.Frag} {D0 : Ends} {σ : L2.St} {H : Hp} {ρ : List (Option D)}
/-- pool = _law_pool(script), the first row of a law: from then on only the pool is live -/
theorem st_pool {E : XK} {k n : Nat} {a : Addr} {ns : List Int} (hS : SqL K H a (ns.map V.int)) (hl : ns.length ≤ 63) (h0 : σ[0]? = some (some (.ref a))) (hk : σ.length = n) (hkn : k < n)
    (kk : ∀ p s σ' H', s ≠ p → At K (fun b => b ≠ p) (PoolOk p s ns) ((List.replicate n none).set k (some (.raw (.ref p)))) σ' H' → D0.nx σ' H') : tAsg (tCall (spPool K) [] E (tCons (tVar 0) tNil)) (gName k) D0 σ H := by
  refine ⟨_, h0, a, ns, rfl, hS, hl, fun p s H' sm hp hs ne po => ?_⟩
  have hp' : H' p ≠ none := by obtain ⟨_, _, _, _, e, _⟩ := po; rw [e]; exact fun z => by cases z
  have hs' : H' s ≠ none := by obtain ⟨_, _, _, _, _, e, _⟩ := po; rw [e]; exact fun z => by cases z
  refine kk p s _ H' ne ⟨⟨by rw [List.length_set, List.length_set, List.length_replicate]; exact hk, fun i d hd => ?_⟩, ⟨fun b hb z => hp' (z ▸ hb), fun b xs hb z => by obtain ⟨_, _, _, _, e, _⟩ := po; rw [z, e] at hb; cases hb⟩, po, mo_pool hp' hs'⟩
  by_cases e : k = i
  · subst e
    rw [List.getElem?_set_self (by rw [List.length_replicate]; exact hkn)] at hd
    cases hd
    exact ⟨_, List.getElem?_set_self (by rw [hk]; exact hkn), rfl⟩
  · rw [List.getElem?_set_ne e, List.getElem?_replicate] at hd
    split at hd <;> cases hd
end

/-! ### defs that take the pool ahead of other values -/
theorem ButP.trans {p : Addr} {H H' H2 : Hp} (a : ButP p H H') (b : ButP p H' H2) : ButP p H H2 := fun x o n e => b x o n (a x o n e)
theorem ButP.of {p : Addr} {H H' : Hp} (s : Same H H') : ButP p H H' := fun x o _ e => s x o e
def SpP (K : PySem.W.Frag) (n : Nat) (Pre : List D → Prop) (R : List D → D → Prop) : Sp := fun vs H Q _ => ∃ φ p s ns ds ws, vs = .ref p :: ws ∧ ds.length = n ∧ Reps K φ H ds ws ∧ Frm φ H ∧ ¬ φ p ∧ s ≠ p ∧ PoolOk p s ns H ∧ Pre ds ∧
  ∀ v d H', R ds d → ButP p H H' → PoolOk p s ns H' → Rep K φ H' d v → Q v H'
section
variable {K : PySem.W.Frag} {φ φ' : Addr → Prop} {J J' : Hp → Prop} {H H' H1 : Hp} {ρ ρ' : List (Option D)} {σ : L2.St} {ta : TA} {te tb : TE} {x y z d : D} {P Pa Pb : D → Prop} {ds es : List D} {v : V} {D0 : Ends} {t u : TS}
theorem mo_butP {p : Addr} {H0 : Hp} (h : ∀ a, H0 a ≠ none → H a ≠ none) : Mo H (ButP p H0) := fun H1 H2 k j a o n e => k a o (h a (by rw [e]; exact fun z => by cases z)) (j a o n e)
theorem butP_tr {p s : Addr} {ns : List Int} (b : ButP p H H') (o : PoolOk p s ns H') : ∀ a, H a ≠ none → H' a ≠ none := fun a h => by
  by_cases e : a = p
  · obtain ⟨_, _, _, _, e1, _⟩ := o
    rw [e, e1]
    exact fun z => by cases z
  · cases q : H a with
    | none => exact absurd q h
    | some u => rw [b a u e q]; exact fun z => by cases z
abbrev JB (p s : Addr) (ns : List Int) (H0 : Hp) : Hp → Prop := fun H' => PoolOk p s ns H' ∧ ButP p H0 H'
theorem pooledB {p s : Addr} {ns : List Int} {H0 : Hp} (np : ¬ φ p) (ne : s ≠ p) : Pooled φ (JB p s ns H0) p s ns := ⟨np, ne, fun _ h => h.1, fun _ _ h k o => ⟨o, h.2.trans k⟩⟩
theorem ev_callP {n k : Nat} {Pre Pr : List D → Prop} {R : List D → D → Prop} {E : XK} {p s : Addr} {ns : List Int} (hp : Pooled φ J p s ns) (hk : ρ[k]? = some (some (.raw (.ref p)))) (ha : EvA K φ J ta ρ Pr) (hr : ∀ ds, Pr ds → ds.length = n ∧ Pre ds) :
    EvP K φ J (tCall (SpP K n Pre R) [] E (tCons (tVar k) ta)) ρ (fun d => ∃ ds, Pr ds ∧ R ds d) := fun σ H A Q q =>
  ev_var hk σ H A _ fun v d H1 b1 A1 e1 r1 => ha σ H1 A1 _ fun vs ds H2 b2 A2 pd r2 => by
    subst e1
    cases (show v = _ from r1)
    obtain ⟨hl, pre⟩ := hr ds pd
    refine ⟨φ, p, s, ns, ds, vs, by rw [List.append_nil], hl, r2, A2.fr, hp.np, hp.ne, hp.ok _ A2.j, pre, fun v d H' rd bp po r => ?_⟩
    have bt : But φ H2 H' := butP_but bp hp.np po
    have bt' : ∀ a, H2 a ≠ none → H' a ≠ none := bt.tr
    refine q v d H' ((b1.trans b2).trans bt) ⟨A2.sr.up (Up.of bt), A2.fr.butP bp po bt', hp.st _ _ A2.j bp po, A2.mono.up bt'⟩ ⟨ds, pd, rd⟩ r
section
variable {PP : Program} {w : World} {mg : Str → Option Value} {base : Heap}
/-- .. keeps its promise -/
theorem fn_okP {x qual : Str} {st : Stmt} {f : Addr} {fd : FuncData} {N ps : List Str} {k n : Nat} {Pre : List D → Prop} {R : List D → D → Prop} (F : Fun K x qual st f fd) (S : FnScope N ps (defScope st)) (hn : ps.length = n + 1) (m : Nat) (hm : N.length = n + 1 + m)
    (hbody : ∀ (cdv : Value) (A : Around) (outer : List Env) (s : Shared) (H : Hp) (E : XK), Room k (A.deeper (envOfC qual (defScope st) s.heap.objs.size f cdv)) →
      ∃ t, PSs (cxOf CX0 PP w K mg base N qual (defScope st) f cdv A outer s H E).nox (defBody st) t ∧
        ∀ (φ : Addr → Prop) (p q : Addr) (ns : List Int) (ds : List D) (H : Hp) (D0 : Ends) (σ : L2.St), ds.length = n → Pre ds → ¬ φ p → q ≠ p → (∀ v d H', R ds d → JB p q ns H H' → Rep K φ H' d v → D0.rt v H') → At K φ (JB p q ns H) (some (.raw (.ref p)) :: (ds.map some ++ List.replicate m none)) σ H → t D0 σ H) :
    FnOk PP w K mg base CX0 (k + 1) f fd ps (SpP K n Pre R) := by
  refine F.ok S (fun vs H Q E h => ?_) (fun cdv A outer s H vs Q E hr h => ?_)
  · obtain ⟨φ, p, s, ns, ds, ws, rfl, hl, r, _⟩ := h
    rw [List.length_cons, r.length, hl, hn]
  · obtain ⟨φ, p, s', ns, ds, ws, rfl, hl, r, fr, np, ne, po, pre, q⟩ := h
    obtain ⟨t, ht, run⟩ := hbody cdv A outer s H E hr
    refine ⟨t, ht, run φ p s' ns ds H _ _ hl pre np ne (fun v d H' rd j r => q v d H' rd j.2 j.1 r) ⟨?_, fr, ⟨po, ButP.of (Same.refl H)⟩, (mo_poolOf po).and (mo_butP fun _ h => h)⟩⟩
    have e : N.length - (V.ref p :: ws).length = m := by rw [hm, List.length_cons, r.length, hl]; omega
    unfold L2.start
    rw [e]
    have z := SR.start (K := K) (φ := φ) (H := H) (ds := .raw (.ref p) :: ds) (vs := .ref p :: ws) (n := m) (Reps.cons rfl r)
    exact z
end
end

-- import HandS.Exc
-- import HandS.ExcOwn
/-! ### o.m(..) of a method that may raise, at the caller's slots -/
def tMethX (C : Addr) (m : Str) (sp : Sp) (E : L2.St → XK) (ta : TE) (t : TA) : TE := fun σ H Q => ta σ H fun x H1 => ∃ a dx fs, x = .ref a ∧ H1 a = some (.ins C dx fs) ∧ fs.lookup m = none ∧ t σ H1 fun vs H2 => sp (x :: vs) H2 Q (E σ)
section
variable {X : Cx} {CX : CXT} {k : Nat} {f C : Addr} {fd : FuncData} {ps : List Str} {sp : Sp} {E : L2.St → XK} {m : Str} {pos apos : Pos} {e o : Expr} {es : List Expr} {ta : TE} {t : TA}
theorem pe_methX {pl : Sem Bool} (he : PE X o ta) (c : Cls X.K C) (hm : Meth X.K C m f) (F : FnOk X.prog X.w X.K X.mg X.base CX k f fd ps sp) (hr : Room k X.A) (hb : Binds X.K fd ps []) (hx : ∀ σ, PassesAt CX X σ (E σ)) (ha : PA X (e :: es) t)
    (hst : starEach (e :: es) X.env = (false, eval e X.env) :: starEach es X.env := by rfl) (hpl : (backTo pos (starEach es X.env)).any (·.1) = false := by rfl)
    (ht : eval (.Call (.Attribute o m apos) (e :: es) [] pos) X.env = (do
      let ov ← eval o X.env
      standAt apos.atName
      let (f, first) ← holding [ov] (getMethod ov m pl)
      callWith pos f first (backTo pos (starEach (e :: es) X.env)) (backToKw pos (keywordEach [] X.env))) := by rfl) :
    PE X (.Call (.Attribute o m apos) (e :: es) [] pos) (tMethX C m sp E ta t) := by
  refine ⟨fun pins s σ H Q I h => ?_⟩
  refine PySem.W.methodCall_KW (pl := pl) (thn (he.run pins s σ H _ I h) fun u s1 ⟨x, H1, I1, rx, a, dx, fs, ex, ea, l, q⟩ => ?_) ht
  subst ex
  obtain rfl : u = Value.ref a := rx
  refine getmeth_ok I1 ea c hm l ?_
  refine PySem.W.callWith_K (first := [.ref a]) (h₀ := X.base) I.ok.mod.kin hm.kp (thn (ha.run pos pins s1 σ H1 _ I1 q) fun us s2 ⟨vs, H2, I2, r, q2⟩ => ⟨I2.kIn, ?_⟩) hst hpl
  exact run_fnS (us := .ref a :: us) (vs := .ref a :: vs) F hr hb (hx σ) I2 (.cons rfl r) q2
theorem pe_methX0 {pl : Sem Bool} (he : PE X o ta) (c : Cls X.K C) (hm : Meth X.K C m f) (F : FnOk X.prog X.w X.K X.mg X.base CX k f fd ps sp) (hr : Room k X.A) (hb : Binds X.K fd ps []) (hx : ∀ σ, PassesAt CX X σ (E σ))
    (ht : eval (.Call (.Attribute o m apos) [] [] pos) X.env = (do
      let ov ← eval o X.env
      standAt apos.atName
      let (f, first) ← holding [ov] (getMethod ov m pl)
      callWith pos f first (backTo pos (starEach [] X.env)) (backToKw pos (keywordEach [] X.env))) := by rfl) :
    PE X (.Call (.Attribute o m apos) [] [] pos) (tMethX C m sp E ta tNil) := by
  refine ⟨fun pins s σ H Q I h => ?_⟩
  refine PySem.W.methodCall_KW (pl := pl) (thn (he.run pins s σ H _ I h) fun u s1 ⟨x, H1, I1, rx, a, dx, fs, ex, ea, l, q⟩ => ?_) ht
  subst ex
  obtain rfl : u = Value.ref a := rx
  refine getmeth_ok I1 ea c hm l ?_
  exact PySem.W.callWith_K0 (first := [.ref a]) I1.kIn hm.kp (run_fnS (us := [.ref a]) (vs := [.ref a]) F hr hb (hx σ) I1 (.cons rfl .nil) q)
end
/-! ### an instance that its methods change: a family of what is told, by its state -/
section
variable {K : PySem.W.Frag} {φ φ' : Addr → Prop} {H H' H0 H1 : Hp} {p C dx : Addr} {o : HO}
theorem butP_trI (b : ButP p H H') (e : H' p = some o) : ∀ a, H a ≠ none → H' a ≠ none := fun a h => by
  by_cases z : a = p
  · rw [z, e]; exact fun z => by cases z
  · cases q : H a with
    | none => exact absurd q h
    | some u => rw [b a u z q]; exact fun z => by cases z
theorem butP_butI (np : ¬ φ p) (b : ButP p H H') (e : H' p = some o) : But φ H H' := ⟨fun a u pa h => b a u (fun z => np (z ▸ pa)) h, butP_trI b e⟩
theorem Frm.butI (F : Frm φ H) (b : ButP p H H') (e : H' p = some o) (no : ∀ xs, o ≠ .tup xs) : Frm φ H' := ⟨fun a h => F.new a (by
  cases q : H a with
  | none => rfl
  | some u => exact absurd h (butP_trI b e a (by rw [q]; exact fun z => by cases z))), fun a xs h => by
  cases q : H a with
  | none => exact F.new a q
  | some u =>
    by_cases z : a = p
    · rw [z, e] at h
      exact absurd (Option.some.inj h) (no xs)
    · have w := b a u z q
      rw [h] at w
      cases w
      exact F.tup a xs q⟩
end
structure ObjF {ι : Type} (K : PySem.W.Frag) (φ : Addr → Prop) (p C dx : Addr) (F : ι → List (Str × V)) (sd : List D) (sv : List V) (J : ι → Hp → Prop) : Prop where
  np : ¬ φ p
  at_ : ∀ i H, J i H → H p = some (.ins C dx (F i))
  sr : ∀ i H, J i H → Reps K φ H sd sv
  st : ∀ i i' H H', J i H → ButP p H H' → H' p = some (.ins C dx (F i')) → J i' H'
  mo : ∀ i H, J i H → Mo H (J i)
section
variable {ι : Type} {K : PySem.W.Frag} {φ φ' : Addr → Prop} {J : ι → Hp → Prop} {Jb : Hp → Prop} {H H' H0 H1 : Hp} {p C dx : Addr} {F : ι → List (Str × V)} {G : List V → ι → List (Str × V)} {sd ds : List D} {sv : List V} {ρ : List (Option D)} {σ : L2.St} {i i' i1 i2 : ι} {d : D} {te tv : TE} {ta : TA} {E : XK} {D0 : Ends} {c : Addr} {m f : Str}
theorem At.obj (T : ObjF K φ p C dx F sd sv J) (A : At K φ (J i) ρ σ H) (b : ButP p H H') (e : H' p = some (.ins C dx (F i'))) : At K φ (J i') ρ σ H' :=
  ⟨A.sr.up (Up.of (butP_butI T.np b e)), A.fr.butI b e (fun xs h => nomatch h), T.st _ _ _ _ A.j b e, T.mo _ _ (T.st _ _ _ _ A.j b e)⟩
theorem ObjF.but (T : ObjF K φ p C dx F sd sv J) : ObjF K φ p C dx F sd sv (fun i H => J i H ∧ But φ H1 H) := ⟨T.np, fun i H h => T.at_ i H h.1, fun i H h => T.sr i H h.1, fun i i' H H' h b e => ⟨T.st i i' H H' h.1 b e, h.2.trans (butP_butI T.np b e)⟩, fun i H h => (T.mo i H h.1).and (Mo.but h.2.tr)⟩
/-- what an expression comes to where the instance may change, and where it may raise -/
def EvM (K : PySem.W.Frag) (φ : Addr → Prop) (J : ι → Hp → Prop) (E : XK) (te : TE) (ρ : List (Option D)) (i : ι) (o : (D × ι) ⊕ Addr) : Prop := ∀ σ H, At K φ (J i) ρ σ H → ∀ Q : VK,
  (∀ d i', o = .inl (d, i') → ∀ v H', But φ H H' → At K φ (J i') ρ σ H' → Rep K φ H' d v → Q v H') → (∀ c, o = .inr c → ∀ i' H', But φ H H' → At K φ (J i') ρ σ H' → E (.ref c) none H') → te σ H Q
def EvMA (K : PySem.W.Frag) (φ : Addr → Prop) (J : ι → Hp → Prop) (E : XK) (ta : TA) (ρ : List (Option D)) (i : ι) (o : (List D × ι) ⊕ Addr) : Prop := ∀ σ H, At K φ (J i) ρ σ H → ∀ Q : List V → Hp → Prop,
  (∀ ds i', o = .inl (ds, i') → ∀ vs H', But φ H H' → At K φ (J i') ρ σ H' → Reps K φ H' ds vs → Q vs H') → (∀ c, o = .inr c → ∀ i' H', But φ H H' → At K φ (J i') ρ σ H' → E (.ref c) none H') → ta σ H Q
theorem em_of (h : EvD K φ (J i) te ρ d) : EvM K φ J E te ρ i (.inl (d, i)) := fun σ H A Q k _ => h σ H A Q fun v d' H' b A' e r => by
  subst e
  exact k _ _ rfl v H' b A' r
theorem ema_of (h : EvAD K φ (J i) ta ρ ds) : EvMA K φ J E ta ρ i (.inl (ds, i)) := fun σ H A Q k _ => h σ H A Q fun v d' H' b A' e r => by
  subst e
  exact k _ _ rfl v H' b A' r
theorem ema_nil : EvMA K φ J E tNil ρ i (.inl ([], i)) := fun σ H A Q k _ => k _ _ rfl [] H (But.refl _ _) A rfl
theorem ema_cons (h : EvM K φ J E te ρ i (.inl (d, i1))) (hs : EvMA K φ J E ta ρ i1 (.inl (ds, i2))) : EvMA K φ J E (tCons te ta) ρ i (.inl (d :: ds, i2)) := fun σ H A Q k _ =>
  h σ H A _ (fun d' i' e v H1 b1 A1 r1 => by
    cases e
    exact hs σ H1 A1 _ (fun ds' i'' e vs H2 b2 A2 r2 => by
      cases e
      exact k _ _ rfl (v :: vs) H2 (b1.trans b2) A2 (Reps.cons (r1.mono b2) r2)) fun c e => nomatch e) fun c e => nomatch e
theorem ema_bad1 (h : EvM K φ J E te ρ i (.inr c)) : EvMA K φ J E (tCons te ta) ρ i (.inr c) := fun σ H A Q _ bad => h σ H A _ (fun d' i' e => nomatch e) fun c' e i' H' b A' => by
  cases e
  exact bad _ rfl i' H' b A'
theorem ema_bad2 (h : EvM K φ J E te ρ i (.inl (d, i1))) (hs : EvMA K φ J E ta ρ i1 (.inr c)) : EvMA K φ J E (tCons te ta) ρ i (.inr c) := fun σ H A Q _ bad =>
  h σ H A _ (fun d' i' e v H1 b1 A1 r1 => by
    cases e
    exact hs σ H1 A1 _ (fun ds' i'' e => nomatch e) fun c' e i' H' b A' => by
      cases e
      exact bad _ rfl i' H' (b1.trans b) A') fun c e => nomatch e
theorem em_tup (h : EvMA K φ J E ta ρ i (.inl (ds, i'))) (hl : ds.length ≤ 1000000) : EvM K φ J E (tTup ta) ρ i (.inl (.tup ds, i')) := fun σ H A Q k _ => h σ H A _ (fun ds' i1 e vs H1 b1 A1 r1 => by
  cases e
  exact ⟨by rw [r1.length]; exact sz hl, fun p hp => k _ _ rfl _ _ (b1.trans (But.of (same_new hp))) (A1.same (same_new hp)) ⟨p, vs, rfl, .inl ⟨A1.fr p hp, .inl upd_same⟩, r1.mono (But.of (same_new hp))⟩⟩) fun c e => nomatch e
theorem em_tup_bad (h : EvMA K φ J E ta ρ i (.inr c)) : EvM K φ J E (tTup ta) ρ i (.inr c) := fun σ H A Q _ bad => h σ H A _ (fun d' i' e => nomatch e) fun c' e i' H' b A' => by
  cases e
  exact bad _ rfl i' H' b A'
theorem em_cb {r : List V → Hp → VK → Prop} (h : EvMA K φ J E ta ρ i (.inl (ds, i'))) (hc : Cl K φ r ds (fun x => x = d)) : EvM K φ J E (tCB r ta) ρ i (.inl (d, i')) := fun σ H A Q k _ => h σ H A _ (fun ds' i1 e vs H1 b1 A1 r1 => by
  cases e
  exact hc H1 vs A1.fr r1 Q fun u z H2 s2 e r => by
    subst e
    exact k _ _ rfl u H2 (b1.trans (But.of s2)) (A1.same s2) r) fun c e => nomatch e
theorem em_cb_bad {r : List V → Hp → VK → Prop} (h : EvMA K φ J E ta ρ i (.inr c)) : EvM K φ J E (tCB r ta) ρ i (.inr c) := fun σ H A Q _ bad => h σ H A _ (fun d' i' e => nomatch e) fun c' e i' H' b A' => by
  cases e
  exact bad _ rfl i' H' b A'
theorem em_tupL (h : EvM K φ J E te ρ i (.inl (.lst ds, i'))) : EvM K φ J E (tCB (rTupOf K) (tCons te tNil)) ρ i (.inl (.tup ds, i')) := em_cb (ema_cons h ema_nil) cl_tupL
/-- the promise of a method: what it is told, the state behind it, or a class of exceptions -/
def SpO (K : PySem.W.Frag) (C : Addr) (G : List V → ι → List (Str × V)) (n : Nat) (R : List D → ι → List D → (D × ι) ⊕ Addr → Prop) : Sp := fun vs H Q E => ∃ φ p dx sd sv i ds ws o, vs = .ref p :: ws ∧ ds.length = n ∧ Reps K φ H ds ws ∧ Reps K φ H sd sv ∧ Frm φ H ∧ ¬ φ p ∧ H p = some (.ins C dx (G sv i)) ∧ R sd i ds o ∧
  (∀ d i', o = .inl (d, i') → ∀ v H', ButP p H H' → H' p = some (.ins C dx (G sv i')) → Rep K φ H' d v → Q v H') ∧ (∀ c, o = .inr c → ∀ i' H', ButP p H H' → H' p = some (.ins C dx (G sv i')) → E (.ref c) none H')
theorem em_meth {n k : Nat} {R : List D → ι → List D → (D × ι) ⊕ Addr → Prop} {o : (D × ι) ⊕ Addr} (T : ObjF K φ p C dx (G sv) sd sv J) (hk : ρ[k]? = some (some (.raw (.ref p)))) (hm : ∀ i, (G sv i).lookup m = none) (ha : EvMA K φ J E ta ρ i (.inl (ds, i1))) (hR : R sd i1 ds o) (hl : ds.length = n := by rfl) :
    EvM K φ J E (tMethX C m (SpO K C G n R) (fun _ => E) (tVar k) ta) ρ i o := fun σ H A Q ok bad => by
  obtain ⟨v, e, r⟩ := A.sr.2 k _ hk
  cases (show v = _ from r)
  refine ⟨_, e, p, dx, _, rfl, T.at_ _ _ A.j, hm i, ha σ H A _ (fun ds' i' e vs H1 b1 A1 r1 => ?_) fun c e => nomatch e⟩
  cases e
  exact ⟨φ, p, dx, sd, sv, i1, ds, vs, o, rfl, hl, r1, T.sr _ _ A1.j, A1.fr, T.np, T.at_ _ _ A1.j, hR, fun d i' e v H' b e2 r => ok d i' e v H' (b1.trans (butP_butI T.np b e2)) (At.obj T A1 b e2) r, fun c e i' H' b e2 => bad c e i' H' (b1.trans (butP_butI T.np b e2)) (At.obj T A1 b e2)⟩
def liftO (i : ι) : D ⊕ Addr → (D × ι) ⊕ Addr
  | .inl d => .inl (d, i)
  | .inr c => .inr c
theorem em_callX {n : Nat} {R : List D → D ⊕ Addr → Prop} {o : D ⊕ Addr} (ha : EvMA K φ J E ta ρ i (.inl (ds, i1))) (hR : R ds o) (hl : ds.length = n := by rfl) : EvM K φ J E (tCallS (SpX K n R) (fun _ => E) ta) ρ i (liftO i1 o) := fun σ H A Q ok bad =>
  ha σ H A _ (fun ds' i' e vs H1 b1 A1 r1 => by
    cases e
    refine ⟨φ, _, o, hl, r1, A1.fr, hR, fun d e v H' s r => ?_, fun c e H' s => ?_⟩
    · subst e
      exact ok _ _ rfl v H' (b1.trans (But.of s)) (A1.same s) r
    · subst e
      exact bad _ rfl i1 H' (b1.trans (But.of s)) (A1.same s)) fun c e => nomatch e
/-- a field -/
theorem ev_fldO {k : Nat} {v : V} (T : ObjF K φ p C dx F sd sv J) (hk : ρ[k]? = some (some (.raw (.ref p)))) (cl : Cls K C) (na : NoAttr K C f) (hf : (F i).lookup f = some v) (hv : ∀ H, J i H → Rep K φ H d v) : EvD K φ (J i) (tFld K (tVar k) f) ρ d := fun σ H A Q q => by
  obtain ⟨u, e, r⟩ := A.sr.2 k _ hk
  cases (show u = _ from r)
  exact ⟨_, e, p, C, dx, _, v, rfl, T.at_ _ _ A.j, cl, na, hf, q v d H (But.refl _ _) A rfl (hv H A.j)⟩
/-- o.f += n -/
theorem st_fldAug {k : Nat} {a b : Int} (T : ObjF K φ p C dx F sd sv J) (A : At K φ (J i) ρ σ H) (hk : ρ[k]? = some (some (.raw (.ref p)))) (cl : Cls K C) (na : NoAttr K C f) (hf : (F i).lookup f = some (.int a)) (hp : putF f (.int (a + b)) (F i) = F i') (hl : (F i).length < 1000)
    (kk : ∀ H', But φ H H' → At K φ (J i') ρ σ H' → D0.nx σ H') : sFldAug K (tVar k) (tC (.int b)) rAdd f D0 σ H := by
  obtain ⟨u, e, r⟩ := A.sr.2 k _ hk
  cases (show u = _ from r)
  refine ⟨_, e, p, C, dx, _, _, rfl, T.at_ _ _ A.j, cl, na, hf, a, b, rfl, rfl, dx, _, T.at_ _ _ A.j, hl, ?_⟩
  rw [hp]
  have b1 : ButP p H (L2.upd H p (.ins C dx (F i'))) := fun x o n e => by
    rw [upd_ne n]
    exact e
  exact kk _ (butP_butI T.np b1 upd_same) (At.obj T A b1 upd_same)
theorem st_setM {k : Nat} {o : (D × ι) ⊕ Addr} (A : At K φ (J i) ρ σ H) (h : EvM K φ J E te ρ i o) (ok : ∀ d i' σ' H', o = .inl (d, i') → But φ H H' → At K φ (J i') (ρ.set k (some d)) σ' H' → D0.nx σ' H') (bad : ∀ c i' H', o = .inr c → But φ H H' → At K φ (J i') ρ σ H' → E (.ref c) none H') : tAsg te (gName k) D0 σ H :=
  h σ H A _ (fun d i' e v H' b A' r => ok d i' _ H' e b (A'.set k r)) fun c e i' H' b A' => bad c i' H' e b A'
theorem st_retM {o : (D × ι) ⊕ Addr} (A : At K φ (J i) ρ σ H) (h : EvM K φ J E te ρ i o) (ok : ∀ v d i' H', o = .inl (d, i') → But φ H H' → At K φ (J i') ρ σ H' → Rep K φ H' d v → D0.rt v H') (bad : ∀ c i' H', o = .inr c → But φ H H' → At K φ (J i') ρ σ H' → E (.ref c) none H') : tRet te D0 σ H :=
  h σ H A _ (fun d i' e v H' b A' r => ok v d i' H' e b A' r) fun c e i' H' b A' => bad c i' H' e b A'
/-! ### an instance is made -/
def SpI (C : Addr) (n : Nat) (G : List V → List (Str × V)) : Sp := fun vs H Q _ => ∃ p dx ws, vs = .ref p :: ws ∧ ws.length = n ∧ H p = some (.ins C dx []) ∧ ∀ H', ButP p H H' → H' p = some (.ins C dx (G ws)) → Q .non H'
theorem st_make {n k : Nat} {i0 : ι} {E0 : XK} (A : At K φ Jb ρ σ H) (ha : EvAD K φ Jb ta ρ ds) (hl : ds.length = n)
    (kk : ∀ p dx sv (J : ι → Hp → Prop) σ' H', φ p → H p = none → ObjF K (wo φ p) p C dx (G sv) ds sv J → (∀ i H', J i H' → Jb H' ∧ But φ H H') → At K (wo φ p) (J i0) (ρ.set k (some (.raw (.ref p)))) σ' H' → D0.nx σ' H') : tAsg (tMake C (SpI C n fun sv => G sv i0) [] E0 ta) (gName k) D0 σ H :=
  ha σ H A _ fun vs ds' H1 b1 A1 e r1 => by
    subst e
    intro x dx hx hdx ne
    refine ⟨x, dx, vs, by rw [List.append_nil], by rw [r1.length]; exact hl, upd_same, fun H3 b3 e3 => ⟨rfl, ?_⟩⟩
    have s13 : Same H1 H3 := fun b o e => by
      have n1 := ne_of_none e hx
      refine b3 b o n1 ?_
      rw [upd_ne n1, upd_ne (ne_of_none e hdx)]
      exact e
    have hxH : H x = none := by
      cases q : H x with
      | none => rfl
      | some u => exact absurd hx (b1.tr x (by rw [q]; exact fun z => by cases z))
    have nx : ∀ a, H1 a ≠ none → a ≠ x := fun a h z => h (by rw [z]; exact hx)
    have up3 : ∀ H4, ButP x H3 H4 → H4 x ≠ none → ∀ a o, H1 a = some o → H4 a = some o := fun H4 b4 _ a o e => b4 a o (ne_of_none e hx) (s13 a o e)
    let J : ι → Hp → Prop := fun i H4 => (H4 x = some (.ins C dx (G vs i)) ∧ ButP x H3 H4) ∧ Jb H4
    have rp : ∀ i H4, J i H4 → Reps K (wo φ x) H4 ds' vs := fun i H4 j => Reps.up (fun a o q e => ⟨⟨q, ne_of_none e hx⟩, up3 H4 j.1.2 (by rw [j.1.1]; exact fun z => by cases z) a o e⟩) ds' vs r1
    have tr4 : ∀ i H4, J i H4 → ∀ a, H1 a ≠ none → H4 a ≠ none := fun i H4 j a h => by
      cases q : H1 a with
      | none => exact absurd q h
      | some u => rw [up3 H4 j.1.2 (by rw [j.1.1]; exact fun z => by cases z) a u q]; exact fun z => by cases z
    have T : ObjF K (wo φ x) x C dx (G vs) ds' vs J := ⟨fun z => z.2 rfl, fun i H4 j => j.1.1, rp, fun i i' H4 H5 j b e => ⟨⟨e, j.1.2.trans b⟩, A1.mono H4 H5 (fun a o h e => b a o (nx a h) e) j.2⟩,
      fun i H4 j => ((Mo.at (by rw [j.1.1]; exact fun z => by cases z)).and (mo_butP (butP_trI j.1.2 j.1.1))).and (A1.mono.up (tr4 i H4 j))⟩
    have j3 : J i0 H3 := ⟨⟨e3, fun _ _ _ h => h⟩, A1.mono H1 H3 (fun a o _ e => s13 a o e) A1.j⟩
    refine kk x dx vs J _ H3 (A1.fr.new x hx) hxH T (fun i H4 j => ⟨j.2, ⟨fun a o q e => up3 H4 j.1.2 (by rw [j.1.1]; exact fun z => by cases z) a o (b1.keep a o q e), fun a h => tr4 i H4 j a (b1.tr a h)⟩⟩) (At.set ⟨A1.sr.up fun a o q e => ⟨⟨q, ne_of_none e hx⟩, s13 a o e⟩, ⟨fun a h => ?_, fun a xs h => ?_⟩, j3, T.mo _ _ j3⟩ k rfl)
    · refine ⟨A1.fr.new a (s13.free h), fun z => ?_⟩
      rw [z, e3] at h
      cases h
    · have na : a ≠ x := fun z => by
        rw [z, e3] at h
        cases h
      refine ⟨?_, na⟩
      cases q : H1 a with
      | none => exact A1.fr.new a q
      | some u =>
        have w := s13 a u q
        rw [h] at w
        cases w
        exact A1.fr.tup a xs q
section
variable {PP : Program} {w : World} {mg : Str → Option Value} {base : Heap}
theorem fn_never {CX : CXT} {k : Nat} {f : Addr} {fd : FuncData} {ps : List Str} {sp : Sp} (no : ∀ vs H Q E, ¬ sp vs H Q E) : FnOk PP w K mg base CX k f fd ps sp := ⟨fun vs H Q E h => absurd h (no vs H Q E), fun A outer s H args us vs Q E _ _ _ _ h => absurd h (no vs H Q E)⟩
/-- a method that may raise keeps its promise -/
theorem fn_okO {x qual : Str} {st : Stmt} {f : Addr} {fd : FuncData} {N ps : List Str} {k n : Nat} {R : List D → ι → List D → (D × ι) ⊕ Addr → Prop} (F : Fun K x qual st f fd) (S : FnScope N ps (defScope st)) (hn : ps.length = n + 1) (m : Nat) (hm : N.length = n + 1 + m)
    (hbody : ∀ (cdv : Value) (A : Around) (outer : List Env) (s : Shared) (H : Hp) (E : XK), Room k (A.deeper (envOfC qual (defScope st) s.heap.objs.size f cdv)) →
      ∃ t, PSs (cxOf (L2.CX PP w) PP w K mg base N qual (defScope st) f cdv A outer s H E) (defBody st) t ∧
        ∀ (φ : Addr → Prop) (p dx : Addr) (sd : List D) (sv : List V) (J : ι → Hp → Prop) (i : ι) (ds : List D) (o : (D × ι) ⊕ Addr) (H : Hp) (D0 : Ends) (σ : L2.St), ds.length = n → R sd i ds o → ObjF K φ p C dx (G sv) sd sv J → (∀ d i', o = .inl (d, i') → ∀ v H', J i' H' → Rep K φ H' d v → D0.rt v H') → (∀ c, o = .inr c → ∀ i' H', J i' H' → E (.ref c) none H') →
          At K φ (J i) (some (.raw (.ref p)) :: ds.map some ++ List.replicate m none) σ H → t D0 σ H) :
    FnOk PP w K mg base (L2.CX PP w) (k + 1) f fd ps (SpO K C G n R) := by
  refine F.okX S (fun vs H Q E h => ?_) (fun cdv A outer s H vs Q E hr h => ?_)
  · obtain ⟨φ, p, dx, sd, sv, i, ds, ws, o, rfl, hl, r, _⟩ := h
    rw [List.length_cons, r.length, hl, hn]
  · obtain ⟨φ, p, dx, sd, sv, i, ds, ws, o, rfl, hl, r, rs, fr, np, hp, hR, q, qe⟩ := h
    obtain ⟨t, ht, run⟩ := hbody cdv A outer s H E hr
    let J : ι → Hp → Prop := fun i H' => H' p = some (.ins C dx (G sv i)) ∧ ButP p H H'
    have mo : ∀ i H', J i H' → Mo H' (J i) := fun i H' j => (Mo.at (by rw [j.1]; exact fun z => by cases z)).and (mo_butP (butP_trI j.2 j.1))
    have T : ObjF K φ p C dx (G sv) sd sv J := ⟨np, fun i H' j => j.1, fun i H' j => rs.mono (butP_butI np j.2 j.1), fun i i' H1 H2 j b e => ⟨e, j.2.trans b⟩, mo⟩
    have j0 : J i H := ⟨hp, fun _ _ _ h => h⟩
    refine ⟨t, ht, run φ p dx sd sv J i ds o H _ _ hl hR T (fun d i' e v H' j r => q d i' e v H' j.2 j.1 r) (fun c e i' H' j => qe c e i' H' j.2 j.1) ⟨?_, fr, j0, mo i H j0⟩⟩
    have e : N.length - (V.ref p :: ws).length = m := by rw [hm, List.length_cons, r.length, hl]; omega
    unfold L2.start
    rw [e]
    exact SR.start (ds := .raw (.ref p) :: ds) (Reps.cons rfl r)
end
/-! ### a comprehension whose elements change the instance and may raise -/
def iterM (f : D → ι → (D × ι) ⊕ Addr) : List D → ι → (List D × ι) ⊕ Addr
  | [], i => .inl ([], i)
  | d :: ds, i => match f d i with
    | .inr c => .inr c
    | .inl (y, i1) => match iterM f ds i1 with
      | .inr c => .inr c
      | .inl (ys, i2) => .inl (y :: ys, i2)
theorem iterM_app {g : D → ι → (D × ι) ⊕ Addr} : ∀ {as bs : List D} {i i1 : ι} {ys : List D}, iterM g as i = .inl (ys, i1) → iterM g (as ++ bs) i = match iterM g bs i1 with | .inr c => .inr c | .inl (zs, i2) => .inl (ys ++ zs, i2)
  | [], bs, i, i1, ys, h => by
    cases h
    show iterM g bs i = _
    cases iterM g bs i with
    | inr c => rfl
    | inl z => rfl
  | a :: as, bs, i, i1, ys, h => by
    show (match g a i with | .inr c => _ | .inl (y, i1) => _) = _
    have h : (match g a i with | .inr c => (.inr c : (List D × ι) ⊕ Addr) | .inl (y, i1) => match iterM g as i1 with | .inr c => .inr c | .inl (ys, i2) => .inl (y :: ys, i2)) = .inl (ys, i1) := h
    cases ha : g a i with
    | inr c => rw [ha] at h; cases h
    | inl z =>
      obtain ⟨y, j⟩ := z
      rw [ha] at h
      dsimp only at h ⊢
      cases hb : iterM g as j with
      | inr c => rw [hb] at h; cases h
      | inl z =>
        obtain ⟨ys', j'⟩ := z
        rw [hb] at h
        cases h
        rw [List.append_eq, iterM_app hb]
        cases iterM g bs i1 with
        | inr c => rfl
        | inl z => rfl
def lstO : (List D × ι) ⊕ Addr → (D × ι) ⊕ Addr
  | .inl (ys, i) => .inl (.lst ys, i)
  | .inr c => .inr c
theorem em_lc {wi : TI} {k : Nat} {g : D → ι → (D × ι) ⊕ Addr} (Inv : ι → Prop) (T : ObjF K φ p C dx F sd sv J) (hi : IterD K φ (J i) wi ρ ds) (hl : ds.length ≤ 1000000) (h0 : Inv i) (hI : ∀ d ∈ ds, ∀ i1 y i2, Inv i1 → g d i1 = .inl (y, i2) → Inv i2)
    (he : ∀ d ∈ ds, ∀ φ' J' i1, Inv i1 → ObjF K φ' p C dx F sd sv J' → EvM K φ' J' E te ((wipeR ρ [k]).set k (some d)) i1 (g d i1)) : EvM K φ J E (tLc wi (gName k) tYes te [k]) ρ i (lstO (iterM g ds i)) := fun σ H A Q ok bad => by
  refine hi σ H A _ fun J0 ds' H1 b1 A1 pd w => ?_
  subst pd
  intro D0 hD
  have pD : p ≠ D0 := ne_of_none (T.at_ _ _ A1.j) hD
  let φ' : Addr → Prop := fun a => φ a ∧ a ≠ D0
  let J' : List V → ι → Hp → Prop := fun acc i H => (J i H ∧ But φ H1 H) ∧ H D0 = some (.lst acc)
  have moJ : ∀ acc i H, J' acc i H → Mo H (J' acc i) := fun acc i H j => ((T.mo i H j.1.1).and (Mo.but j.1.2.tr)).and (Mo.at (by rw [j.2]; exact fun z => by cases z))
  have T' : ∀ acc, ObjF K φ' p C dx F sd sv (J' acc) := fun acc => ⟨fun z => T.np z.1, fun i H j => T.at_ i H j.1.1, fun i H j => Reps.up (fun a o q e => ⟨⟨q, ne_of_none e hD⟩, j.1.2.keep a o q e⟩) sd sv (T.sr _ _ A1.j), fun i i' H H' j b e => ⟨⟨T.st i i' H H' j.1.1 b e, j.1.2.trans (butP_butI T.np b e)⟩, b D0 _ pD.symm j.2⟩, moJ acc⟩
  refine ⟨fun n m H2 => m = ds'.length - n ∧ n ≤ ds'.length ∧ But φ H1 H2 ∧ ∃ acc ys i1, Inv i1 ∧ Reps K φ' H2 ys acc ∧ ys.length = n ∧ iterM g (ds'.take n) i = .inl (ys, i1) ∧ At K φ' (J' acc i1) (wipeR ρ [k]) (L2.wipe σ [k]) H2,
    ⟨ds'.length, rfl, Nat.zero_le _, But.of (same_new hD), [], [], i, h0, Reps.nil, rfl, rfl, ?_⟩, ?_⟩
  · have j : J' [] i (upd H1 D0 (.lst [])) := ⟨⟨A1.mono _ _ (fun a o _ e => same_new hD a o e) A1.j, But.of (same_new hD)⟩, upd_same⟩
    have A2 := A1.newLive (o := .lst []) (J' := J' [] i) hD j (moJ _ _ _ j)
    exact ⟨A2.sr.wipe [k], A2.fr, A2.j, A2.mono⟩
  · rintro n m H2 ⟨rfl, hi, b2, acc, ys, i1, hI1, rs, hys, hit, A2⟩
    have upw : Up φ φ' H1 H2 := fun a o p e => ⟨⟨p, ne_of_none e hD⟩, b2.keep a o p e⟩
    have fr2 : Frm φ' H2 := A2.fr
    obtain ⟨wg, wstop⟩ := w φ' n H2 upw fr2
    by_cases hlt : n < ds'.length
    · have hd : ds'[n]? = some ds'[n] := List.getElem?_eq_getElem hlt
      obtain ⟨go, yl⟩ := wg _ hd
      refine .inr ⟨go, fun H3 => But φ H1 H3 ∧ ∃ acc ys i1, Inv i1 ∧ Reps K φ' H3 ys acc ∧ ys.length = n + 1 ∧ iterM g (ds'.take (n + 1)) i = .inl (ys, i1) ∧ At K φ' (J' acc i1) (wipeR ρ [k]) (L2.wipe σ [k]) H3, ?_, ?_⟩
      · rintro H3 ⟨b3, acc3, ys3, i3, hI3, r3, l3, c3, A3⟩
        exact ⟨ds'.length - (n + 1), by omega, rfl, hlt, b3, acc3, ys3, i3, hI3, r3, l3, c3, A3⟩
      · intro x H3 hy
        obtain ⟨s3, r3⟩ := yl x H3 hy
        have A3 := A2.same s3
        have rs3 := rs.mono (But.of (φ := φ') s3)
        have b3 : But φ H1 H3 := b2.trans (But.of s3)
        have hmem : ds'[n] ∈ ds' := List.getElem_mem hlt
        have tk : ds'.take (n + 1) = ds'.take n ++ [ds'[n]] := by rw [List.take_add_one, hd]; rfl
        refine eg_name φ' _ _ H3 x A3 r3 _ fun σ4 A4 hw4 => ⟨?_, ?_⟩
        · rw [hw4 [k] fun _ h => h]
          exact wipe_wipe [k]
        · unfold tYes
          dsimp only
          rw [if_pos rfl]
          refine he _ hmem φ' (J' acc) i1 hI1 (T' acc) σ4 H3 A4 _ (fun d i2 eo v H6 b6 A6 r6 => ?_) fun c eo i2 H6 b6 A6 => ?_
          · have rl := rs3.mono b6
            have nD : ¬ φ' D0 := fun z => z.2 rfl
            have b36 : But φ H1 H6 := A6.j.1.2
            refine ⟨acc, A6.j.2, ?_, ⟨fun a o p e => ?_, fun a h => upd_tr a (b36.tr a h)⟩, acc ++ [v], ys ++ [d], i2, hI _ hmem i1 d i2 hI1 eo, ?_, by rw [List.length_append, hys]; rfl, ?_, ?_⟩
            · rw [rl.length, hys]
              exact szlt (by omega)
            · rw [upd_ne (ne_of_none e hD)]
              exact b36.keep a o p e
            · exact (rl.append (Reps.cons r6 Reps.nil)).mono ((But.refl φ' H6).upd nD)
            · rw [tk, iterM_app hit]
              show (match (match g ds'[n] i1 with | .inr c => (.inr c : (List D × ι) ⊕ Addr) | .inl (y, i1) => match iterM g [] i1 with | .inr c => .inr c | .inl (ys, i2) => .inl (y :: ys, i2)) with | .inr c => _ | .inl (zs, i2) => _) = _
              rw [eo]
              rfl
            · have j6 : J' (acc ++ [v]) i2 (upd H6 D0 (.lst (acc ++ [v]))) := by
                refine ⟨⟨?_, ⟨fun a o p e => ?_, fun a h => upd_tr a (b36.tr a h)⟩⟩, upd_same⟩
                · have hb : ButP p H1 (upd H1 p (.ins C dx (F i2))) := fun x o n e => by
                    rw [upd_ne n]
                    exact e
                  have jq := T.st i i2 H1 _ A1.j hb upd_same
                  refine T.mo i2 _ jq H6 _ (fun a o h e => ?_) A6.j.1.1
                  rw [upd_ne (show a ≠ D0 from fun z => h (by rw [z, upd_ne pD.symm]; exact hD))]
                  exact e
                · rw [upd_ne (ne_of_none e hD)]
                  exact b36.keep a o p e
              have A6' : At K φ' (J' acc i2) (wipeR ρ [k]) (L2.wipe σ [k]) H6 := ⟨A3.sr.up (Up.of b6), A6.fr, A6.j, A6.mono⟩
              exact A6'.upd nD j6 (moJ _ _ _ j6)
          · refine bad c ?_ i2 H6 (b1.trans A6.j.1.2) ⟨A1.sr.up (Up.of A6.j.1.2), A6.fr.fst, A6.j.1.1, T.mo _ _ A6.j.1.1⟩
            have e2 : iterM g ds' i = .inr c := by
              have e3 : ds' = ds'.take n ++ (ds'[n] :: ds'.drop (n + 1)) := by rw [← List.drop_eq_getElem_cons hlt, List.take_append_drop]
              rw [e3, iterM_app hit]
              show (match (match g ds'[n] i1 with | .inr c => (.inr c : (List D × ι) ⊕ Addr) | .inl (y, i1) => match iterM g (ds'.drop (n + 1)) i1 with | .inr c => .inr c | .inl (ys, i2) => .inl (y :: ys, i2)) with | .inr c => _ | .inl (zs, i2) => _) = _
              rw [eo]
            rw [e2]
            rfl
    · have e : n = ds'.length := by omega
      subst e
      refine .inl ⟨wstop rfl, ?_⟩
      rw [List.take_length] at hit
      rw [hit] at ok
      exact ok (.lst ys) i1 rfl _ H2 (b1.trans b2) ⟨A1.sr.up (Up.of b2), A2.fr.fst, A2.j.1.1, T.mo _ _ A2.j.1.1⟩ ⟨D0, acc, rfl, .inl ⟨A1.fr D0 hD, .inl A2.j.2⟩, Reps.up (fun a o p e => ⟨p.1, e⟩) ys acc rs⟩
end
/-- a method as a caller wants it -/
structure LkM (K : PySem.W.Frag) (C : Addr) (m : Str) (f : Addr) (fd : FuncData) (ps : List Str) : Prop where
  me : Meth K C m f
  bi : Binds K fd ps []

/-! ### methods that raise nothing; a list beside an instance -/
section
variable {ι : Type} {K : PySem.W.Frag} {φ φ' : Addr → Prop} {J 𝒥 : ι → Hp → Prop} {Jb : Hp → Prop} {H H' H0 H1 : Hp} {p C dx l : Addr} {F : ι → List (Str × V)} {G : List V → ι → List (Str × V)} {sd ds ys : List D} {sv vs : List V} {ρ : List (Option D)} {σ : L2.St} {i i' i1 i2 : ι} {d : D} {te tv : TE} {ta : TA} {E E' : XK} {D0 : Ends} {c : Addr} {m f : Str}
theorem em_meth0 {n k : Nat} {R : List D → ι → List D → (D × ι) ⊕ Addr → Prop} (T : ObjF K φ p C dx (G sv) sd sv J) (hk : ρ[k]? = some (some (.raw (.ref p)))) (hm : ∀ i, (G sv i).lookup m = none) (ha : EvMA K φ J E ta ρ i (.inl (ds, i1))) (hR : R sd i1 ds (.inl (d, i2))) (hl : ds.length = n := by rfl) :
    EvM K φ J E (tMeth C m (SpO K C G n R) [] E' (tVar k) ta) ρ i (.inl (d, i2)) := fun σ H A Q ok _ => by
  obtain ⟨v, e, r⟩ := A.sr.2 k _ hk
  cases (show v = _ from r)
  refine ⟨_, e, p, dx, _, rfl, T.at_ _ _ A.j, hm i, ha σ H A _ (fun ds' i' e vs H1 b1 A1 r1 => ?_) fun c e => nomatch e⟩
  cases e
  refine ⟨φ, p, dx, sd, sv, i1, ds, vs, .inl (d, i2), by rw [List.append_nil], hl, r1, T.sr _ _ A1.j, A1.fr, T.np, T.at_ _ _ A1.j, hR, fun d i' e v H' b e2 r => ?_, fun c e => nomatch e⟩
  cases e
  exact ok _ _ rfl v H' (b1.trans (butP_butI T.np b e2)) (At.obj T A1 b e2) r
/-- the instance stays as it is -/
theorem evd_em (h : EvM K φ J E te ρ i (.inl (d, i))) : EvD K φ (J i) te ρ d := fun σ H A Q q => h σ H A Q (fun d' i' e v H' b A' r => by
  cases e
  exact q v _ H' b A' rfl r) fun c e => nomatch e
section
variable {PP : Program} {w : World} {mg : Str → Option Value} {base : Heap}
theorem fn_okO0 {x qual : Str} {st : Stmt} {f : Addr} {fd : FuncData} {N ps : List Str} {k n : Nat} {R : List D → ι → List D → (D × ι) ⊕ Addr → Prop} (F : Fun K x qual st f fd) (S : FnScope N ps (defScope st)) (hn : ps.length = n + 1) (m : Nat) (hm : N.length = n + 1 + m) (hR0 : ∀ sd i ds o, R sd i ds o → ∃ d i', o = .inl (d, i'))
    (hbody : ∀ (cdv : Value) (A : Around) (outer : List Env) (s : Shared) (H : Hp) (E : XK), Room k (A.deeper (envOfC qual (defScope st) s.heap.objs.size f cdv)) →
      ∃ t, PSs (cxOf CX0 PP w K mg base N qual (defScope st) f cdv A outer s H E).nox (defBody st) t ∧
        ∀ (φ : Addr → Prop) (p dx : Addr) (sd : List D) (sv : List V) (J : ι → Hp → Prop) (i : ι) (ds : List D) (d : D) (i' : ι) (H : Hp) (D0 : Ends) (σ : L2.St), ds.length = n → R sd i ds (.inl (d, i')) → ObjF K φ p C dx (G sv) sd sv J → (∀ v H', J i' H' → Rep K φ H' d v → D0.rt v H') →
          At K φ (J i) (some (.raw (.ref p)) :: ds.map some ++ List.replicate m none) σ H → t D0 σ H) :
    FnOk PP w K mg base CX0 (k + 1) f fd ps (SpO K C G n R) := by
  refine F.ok S (fun vs H Q E h => ?_) (fun cdv A outer s H vs Q E hr h => ?_)
  · obtain ⟨φ, p, dx, sd, sv, i, ds, ws, o, rfl, hl, r, _⟩ := h
    rw [List.length_cons, r.length, hl, hn]
  · obtain ⟨φ, p, dx, sd, sv, i, ds, ws, o, rfl, hl, r, rs, fr, np, hp, hR, q, qe⟩ := h
    obtain ⟨d, i', rfl⟩ := hR0 _ _ _ _ hR
    obtain ⟨t, ht, run⟩ := hbody cdv A outer s H E hr
    let J : ι → Hp → Prop := fun i H' => H' p = some (.ins C dx (G sv i)) ∧ ButP p H H'
    have mo : ∀ i H', J i H' → Mo H' (J i) := fun i H' j => (Mo.at (by rw [j.1]; exact fun z => by cases z)).and (mo_butP (butP_trI j.2 j.1))
    have T : ObjF K φ p C dx (G sv) sd sv J := ⟨np, fun i H' j => j.1, fun i H' j => rs.mono (butP_butI np j.2 j.1), fun i i' H1 H2 j b e => ⟨e, j.2.trans b⟩, mo⟩
    have j0 : J i H := ⟨hp, fun _ _ _ h => h⟩
    refine ⟨t, ht, run φ p dx sd sv J i ds d i' H _ _ hl hR T (fun v H' j r => q d i' rfl v H' j.2 j.1 r) ⟨?_, fr, j0, mo i H j0⟩⟩
    have e : N.length - (V.ref p :: ws).length = m := by rw [hm, List.length_cons, r.length, hl]; omega
    unfold L2.start
    rw [e]
    exact SR.start (ds := .raw (.ref p) :: ds) (Reps.cons rfl r)
end
/-! ### a list that grows beside an instance -/
def famL (J : ι → Hp → Prop) (l : Addr) (vs : List V) (φ : Addr → Prop) (H0 : Hp) : ι → Hp → Prop := fun i H => (J i H ∧ But φ H0 H) ∧ H l = some (.lst vs)
structure LstF (K : PySem.W.Frag) (φ : Addr → Prop) (p C dx : Addr) (F : ι → List (Str × V)) (sd : List D) (sv : List V) (J : ι → Hp → Prop) (l : Addr) : Prop where
  T : ObjF K φ p C dx F sd sv J
  fr : φ l
  ex : ∃ i H, J i H ∧ H l = none
def InL (K : PySem.W.Frag) (φ : Addr → Prop) (sd : List D) (sv : List V) (J : ι → Hp → Prop) (l : Addr) (ys : List D) (𝒥 : ι → Hp → Prop) : Prop := ∃ vs H0, 𝒥 = famL J l vs (wo φ l) H0 ∧ Reps K (wo φ l) H0 ys vs ∧ Reps K (wo φ l) H0 sd sv ∧ H0 l ≠ none
theorem LstF.ne (L : LstF K φ p C dx F sd sv J l) : p ≠ l := by
  obtain ⟨i, H, j, h⟩ := L.ex
  exact ne_of_none (L.T.at_ _ _ j) h
theorem LstF.stab (L : LstF K φ p C dx F sd sv J l) (j : J i H) (o : HO) : J i (upd H l o) := by
  obtain ⟨i0, H2, j2, h⟩ := L.ex
  have hb : ButP p H2 (upd H2 p (.ins C dx (F i))) := fun x o n e => by
    rw [upd_ne n]
    exact e
  refine L.T.mo i _ (L.T.st i0 i H2 _ j2 hb upd_same) H _ (fun a o h' e => ?_) j
  rw [upd_ne (show a ≠ l from fun z => h' (by rw [z, upd_ne L.ne.symm]; exact h))]
  exact e
theorem famL_mo (L : LstF K φ p C dx F sd sv J l) {vs : List V} {i : ι} {H : Hp} (j : famL J l vs (wo φ l) H0 i H) : Mo H (famL J l vs (wo φ l) H0 i) := ((L.T.mo i H j.1.1).and (Mo.but j.1.2.tr)).and (Mo.at (by rw [j.2]; exact fun z => by cases z))
theorem InL.obj (I : InL K φ sd sv J l ys 𝒥) (L : LstF K φ p C dx F sd sv J l) : ObjF K (wo φ l) p C dx F sd sv 𝒥 := by
  obtain ⟨vs, H0, rfl, r, rs, h0⟩ := I
  have np : ¬ wo φ l p := fun z => L.T.np z.1
  exact ⟨np, fun i H j => L.T.at_ i H j.1.1, fun i H j => rs.mono j.1.2, fun i i' H H' j b e => ⟨⟨L.T.st i i' H H' j.1.1 b e, j.1.2.trans (butP_butI np b e)⟩, b l _ L.ne.symm j.2⟩, fun i H j => famL_mo L j⟩
theorem InL.base (I : InL K φ sd sv J l ys 𝒥) (j : 𝒥 i H) : J i H := by
  obtain ⟨vs, H0, rfl, _⟩ := I
  exact j.1.1
/-- x = [..], the items by the instance -/
theorem st_newM {k : Nat} (T : ObjF K φ p C dx F sd sv J) (A : At K φ (J i) ρ σ H) (h : EvMA K φ J E ta ρ i (.inl (ds, i'))) (hl : ds.length ≤ 1000000)
    (kk : ∀ l 𝒥 σ' H', LstF K φ p C dx F sd sv J l → InL K φ sd sv J l ds 𝒥 → At K (wo φ l) (𝒥 i') (ρ.set k (some (.raw (.ref l)))) σ' H' → D0.nx σ' H') : tAsg (tLst ta) (gName k) D0 σ H :=
  h σ H A _ (fun ds' i2 e vs H1 b1 A1 r1 => by
    cases e
    refine ⟨by rw [r1.length]; exact sz hl, fun l hn => ?_⟩
    have L : LstF K φ p C dx F sd sv J l := ⟨T, A1.fr.new l hn, _, H1, A1.j, hn⟩
    have j : famL J l vs (wo φ l) (upd H1 l (.lst vs)) i' (upd H1 l (.lst vs)) := ⟨⟨L.stab A1.j _, But.refl _ _⟩, upd_same⟩
    exact kk l (famL J l vs (wo φ l) (upd H1 l (.lst vs))) _ _ L ⟨vs, _, rfl, reps_new hn r1, reps_new hn (T.sr _ _ A1.j), by rw [upd_same]; exact fun z => by cases z⟩ ((A1.newLive (o := .lst vs) (J' := famL J l vs (wo φ l) (upd H1 l (.lst vs)) i') hn j (famL_mo L j)).set k rfl)) fun c e => nomatch e
theorem st_appM {k : Nat} (L : LstF K φ p C dx F sd sv J l) (I : InL K φ sd sv J l ys 𝒥) (A : At K (wo φ l) (𝒥 i) ρ σ H) (hk : ρ[k]? = some (some (.raw (.ref l)))) (h : EvM K (wo φ l) 𝒥 E te ρ i (.inl (d, i'))) (hz : ys.length ≤ 1000000)
    (kk : ∀ 𝒥2 H', InL K φ sd sv J l (ys ++ [d]) 𝒥2 → But (wo φ l) H H' → At K (wo φ l) (𝒥2 i') ρ σ H' → D0.nx σ H') : tDrop (tBM K "list" rAppend (tVar k) (tCons te tNil)) D0 σ H := by
  obtain ⟨w, e, r⟩ := A.sr.2 k _ hk
  cases (show w = _ from r)
  obtain ⟨vs, H0, rfl, rs, rsd, h0⟩ := I
  refine ⟨_, e, .inl ⟨rfl, _, SqL.of A.j.2⟩, h σ H A _ (fun d' i2 e v H' b A' r' => ?_) fun c e => nomatch e⟩
  cases e
  have nD : ¬ wo φ l l := fun z => z.2 rfl
  have rl := rs.mono A'.j.1.2
  have up := (But.refl (wo φ l) H').upd (o := .lst (vs ++ [v])) nD
  have j : famL J l (vs ++ [v]) (wo φ l) (upd H' l (.lst (vs ++ [v]))) i' (upd H' l (.lst (vs ++ [v]))) := ⟨⟨L.stab A'.j.1.1 _, But.refl _ _⟩, upd_same⟩
  exact ⟨l, vs, v, rfl, rfl, A'.j.2, by rw [rl.length]; exact szlt hz, kk (famL J l (vs ++ [v]) (wo φ l) (upd H' l (.lst (vs ++ [v])))) _ ⟨_, _, rfl, (rl.append (Reps.cons r' Reps.nil)).mono up, (rsd.mono A'.j.1.2).mono up, by rw [upd_same]; exact fun z => by cases z⟩ (b.trans up) (A'.upd nD j (famL_mo L j))⟩
theorem InL.freeze {k : Nat} (I : InL K φ sd sv J l ys 𝒥) (L : LstF K φ p C dx F sd sv J l) (A : At K (wo φ l) (𝒥 i) ρ σ H) (hk : ρ[k]? = some (some (.raw (.ref l)))) : At K φ (J i) (ρ.set k (some (.lst ys))) σ H := by
  obtain ⟨vs, H0, rfl, rs, rsd, h0⟩ := I
  have up : Up (wo φ l) φ H H := fun a o q e => ⟨q.1, e⟩
  obtain ⟨v, e, r⟩ := A.sr.2 k _ hk
  cases (show v = _ from r)
  refine ⟨⟨by rw [List.length_set]; exact A.sr.1, fun j d hj => ?_⟩, A.fr.fst, A.j.1.1, L.T.mo _ _ A.j.1.1⟩
  by_cases ejk : k = j
  · subst ejk
    have hkl : k < ρ.length := (List.getElem?_eq_some_iff.mp hk).1
    rw [List.getElem?_set_self hkl] at hj
    cases hj
    exact ⟨_, e, l, vs, rfl, .inl ⟨L.fr, .inl A.j.2⟩, Reps.up up ys vs (rs.mono A.j.1.2)⟩
  · rw [List.getElem?_set_ne ejk] at hj
    obtain ⟨u, e1, r1⟩ := A.sr.2 j d hj
    exact ⟨u, e1, Rep.up up d u r1⟩
/-- the turn's frame is let go -/
theorem At.objBut (T : ObjF K φ p C dx F sd sv J) (A : At K φ (fun H => J i H ∧ But φ H1 H) ρ σ H) : At K φ (J i) ρ σ H := A.live A.j.1 (T.mo i _ A.j.1)
end
/-! ### None in [..] of Nones and tuples; x in a tuple of texts -/
def rInNone (K : PySem.W.Frag) : R2 := fun x y H Q => ∃ p xs, x = .non ∧ y = .ref p ∧ SqL K H p xs ∧ (∀ u ∈ xs, u = .non ∨ ∃ t ys, u = .ref t ∧ SqT K H t ys) ∧ Q (.bl (xs.any fun u => decide (u = .non))) H
def isNoneV : Value → Bool
  | .none => true
  | _ => false
theorem any_none : ∀ {xs : List V} {us : List Value}, Vals xs us → (∀ u ∈ xs, u = .non ∨ ∃ t, u = .ref t) → us.any isNoneV = xs.any fun u => decide (u = .non)
  | _, _, .nil, _ => rfl
  | x :: xs, u :: us, .cons r t, h => by
    rw [List.any_cons, List.any_cons, any_none t fun y hy => h y (List.mem_cons_of_mem _ hy)]
    rcases h x List.mem_cons_self with rfl | ⟨a, rfl⟩
    · cases (show u = Value.none from r)
      rfl
    · cases (show u = Value.ref a from r)
      rfl
theorem op_inNone {X : Cx} (hu : X.A.units + 1 < cLine) : OpR X (compareOp .In) (rInNone X.K) := by
  intro pins s σ H x y v u Q I rx ry h
  obtain ⟨p, xs, rfl, rfl, hq, hx, q⟩ := h
  cases ry
  cases (show v = Value.none from rx)
  obtain ⟨its, r, pl, hz⟩ := I.list hq
  have one : ∀ {xs : List V} {us : List Value}, Vals xs us → (∀ u ∈ xs, u = .non ∨ ∃ t ys, u = .ref t ∧ SqT X.K H t ys) → ∀ u ∈ us, SeqAt.EqAt X.A.in1 s u .none (isNoneV u) := by
    intro xs us r
    induction r with
    | nil => intro _ u hu; cases hu
    | @cons a b as bs ra rb ih =>
      intro hx u hu'
      rcases List.mem_cons.mp hu' with rfl | hu'
      · rcases hx a List.mem_cons_self with rfl | ⟨t, ys, rfl, ht⟩
        · cases (show u = Value.none from ra)
          exact SeqAt.EqAt.same _
        · cases (show u = Value.ref t from ra)
          obtain ⟨its, _, pt, _⟩ := I.tuple ht
          exact SeqAt.EqAt.tuple_none pt (by show X.A.units + 1 < cLine; exact hu)
      · exact ih (fun u hu => hx u (List.mem_cons_of_mem _ hu)) u hu'
  refine SeqAt.in_listAt isNoneV pl.isList (fun w hw => one r hx w (by simpa using hw)) ⟨.bl _, H, I, rfl, ?_⟩
  rw [show its.toArray.any isNoneV = its.any isNoneV by simp, any_none r fun u hu => (hx u hu).imp id fun ⟨t, _, e, _⟩ => ⟨t, e⟩]
  exact q
section
variable {K : PySem.W.Frag} {φ : Addr → Prop} {J : Hp → Prop} {ρ : List (Option D)} {ta tb : TE}
def TN (d : D) : Prop := d = .non ∨ ∃ es, d = .tup es
theorem reps_none {H : Hp} : ∀ {ds : List D} {vs : List V}, Reps K φ H ds vs → (∀ d ∈ ds, TN d) → (∀ u ∈ vs, u = .non ∨ ∃ t ys, u = .ref t ∧ SqT K H t ys) ∧ (vs.any fun u => decide (u = .non)) = ds.any isNon
  | [], vs, r, _ => by
    cases (show vs = [] from r)
    exact ⟨(fun u hu => by cases hu), rfl⟩
  | d :: ds, vs, r, h => by
    obtain ⟨v, vs', rfl, r1, r2⟩ := r
    obtain ⟨h1, h2⟩ := reps_none r2 fun x hx => h x (List.mem_cons_of_mem _ hx)
    rcases h d List.mem_cons_self with rfl | ⟨es, rfl⟩
    · cases (show v = .non from r1)
      refine ⟨fun u hu => ?_, ?_⟩
      · rcases List.mem_cons.mp hu with rfl | hu
        · exact .inl rfl
        · exact h1 u hu
      · rw [List.any_cons, List.any_cons, h2]
        rfl
    · obtain ⟨a, ys, rfl, p, _⟩ := rep_tup r1
      refine ⟨fun u hu => ?_, ?_⟩
      · rcases List.mem_cons.mp hu with rfl | hu
        · exact .inr ⟨a, ys, rfl, p.sq⟩
        · exact h1 u hu
      · rw [List.any_cons, List.any_cons, h2]
        rfl
theorem ev_inNone {ds : List D} (hb : EvD K φ J tb ρ (.lst ds)) (h : ∀ d ∈ ds, TN d) : EvD K φ J (tOp (rInNone K) (tC .non) tb) ρ (.bl (ds.any isNon)) := ev_opD ev_non hb fun H v w _ r1 r2 Q q => by
  obtain ⟨a, vs, rfl, p, rs⟩ := rep_lst r2
  obtain ⟨h1, h2⟩ := reps_none rs h
  exact ⟨a, vs, r1, rfl, p.sq, h1, q _ _ H (Same.refl H) rfl (by rw [h2]; rfl)⟩
theorem flat_strs' (ys : List Str) : (ys.map V.str).all flatV = true := by
  rw [List.all_map]
  exact List.all_eq_true.mpr fun _ _ => rfl
theorem inV_strs (s : Str) (ys : List Str) : inV (.str s) (ys.map V.str) = decide (s ∈ ys) := by
  unfold inV
  rw [List.any_map, Bool.eq_iff_iff, List.any_eq_true, decide_eq_true_eq]
  constructor
  · rintro ⟨y, hy, h⟩
    have h : eqV (.str y) (.str s) = true := h
    have e : y = s := by simpa [eqV] using h
    exact e ▸ hy
  · intro h
    exact ⟨s, h, by show eqV (.str s) (.str s) = true; simp [eqV]⟩
/-- s in (written or made) tuple of texts -/
theorem ev_inTS {s : Str} {ys : List Str} (ha : EvD K φ J ta ρ (.str s)) (hb : EvD K φ J tb ρ (.tup (ys.map D.str))) : EvD K φ J (tOp (rIn K false) ta tb) ρ (.bl (decide (s ∈ ys))) := ev_opD ha hb fun H v w _ r1 r2 Q q => by
  cases (show v = _ from r1)
  obtain ⟨a, vs, rfl, p, rs⟩ := rep_tup r2
  have ev := rs.strs
  subst ev
  exact ⟨a, _, rfl, .inr p.sq, rfl, flat_strs' ys, q _ _ H (Same.refl H) rfl (by rw [inV_strs]; rfl)⟩
/-- .. of a constant of the module -/
theorem ev_inGS {s : Str} {a : Addr} {ys : List Str} (ha : EvD K φ J ta ρ (.str s)) (hw : WrT K a (ys.map V.str)) : EvD K φ J (tOp (rIn K false) ta (tC (.ref a))) ρ (.bl (decide (s ∈ ys))) := ev_opD ha (ev_ref (a := a)) fun H v w _ r1 r2 Q q => by
  cases (show v = _ from r1)
  cases (show w = _ from r2)
  exact ⟨a, _, rfl, .inr (.inr hw), rfl, flat_strs' ys, q _ _ H (Same.refl H) rfl (by rw [inV_strs]; rfl)⟩
theorem ev_notInGS {s : Str} {a : Addr} {ys : List Str} (ha : EvD K φ J ta ρ (.str s)) (hw : WrT K a (ys.map V.str)) : EvD K φ J (tOp (rIn K true) ta (tC (.ref a))) ρ (.bl (!decide (s ∈ ys))) := ev_opD ha (ev_ref (a := a)) fun H v w _ r1 r2 Q q => by
  cases (show v = _ from r1)
  cases (show w = _ from r2)
  exact ⟨a, _, rfl, .inr (.inr hw), rfl, flat_strs' ys, q _ _ H (Same.refl H) rfl (by rw [inV_strs]; rfl)⟩
end

/-! ### sorted lists of ints -/
section
variable {P : Program} {w : World} {K : PySem.W.Frag} {mg : Str → Option Value} {base : Heap}
theorem c_sortedI {X : Cx} : CallR X (.builtin "sorted") (rSorted X.K) := cr_sorted
theorem ev_sortedI {φ : Addr → Prop} {J : Hp → Prop} {ρ : List (Option D)} {te : TE} {ns : List Int} (ha : EvD K φ J te ρ (.lst (ns.map D.int))) (hl : ns.length < 64) : EvP K φ J (tCB (rSorted K) (tCons te tNil)) ρ (fun z => ∃ ns' : List Int, z = .lst (ns'.map D.int) ∧ ns'.Perm ns ∧ ns'.Pairwise (· ≤ ·)) := ev_cbD (ea_cons ha ea_nil) fun H vs f r Q q => by
  obtain ⟨v, rfl, r1⟩ := r.one
  obtain ⟨a, rfl, h⟩ := rep_ints r1
  exact ⟨a, ns, rfl, h, hl, fun ns' p hp hs hn => q _ _ _ (same_new hn) ⟨ns', rfl, hp, hs⟩ ⟨p, _, rfl, .inl ⟨f p hn, .inl upd_same⟩, Reps.of_ints⟩⟩
theorem all_ints : ∀ {ys : List D}, (∀ y ∈ ys, ∃ i, y = .int i) → ∃ ns : List Int, ys = ns.map D.int
  | [], _ => ⟨[], rfl⟩
  | y :: ys, h => by
    obtain ⟨i, rfl⟩ := h y List.mem_cons_self
    obtain ⟨ns, rfl⟩ := all_ints fun z hz => h z (List.mem_cons_of_mem _ hz)
    exact ⟨i :: ns, rfl⟩
end

/-! ### plain trees: no raw values, a bounded depth, bounded lengths, texts within the bounds -/
def okD (s : Nat) : Nat → D → Bool
  | 0, _ => false
  | _ + 1, .non => true
  | _ + 1, .bl _ => true
  | _ + 1, .int _ => true
  | _ + 1, .str x => PyData.strOk x
  | n + 1, .tup ds => decide (ds.length ≤ s) && ds.all (okD s n)
  | n + 1, .lst ds => decide (ds.length ≤ s) && ds.all (okD s n)
  | _ + 1, .raw _ => false
  | _ + 1, .dk _ _ => false
  | _ + 1, .dt _ _ => false
theorem okD_raw {s n : Nat} {d : D} (h : okD s n d = true) : isRaw d = false := by
  cases n with
  | zero => cases h
  | succ n => cases d <;> first | rfl | cases h
theorem okD_tup {s n : Nat} {es : List D} : okD s (n + 1) (.tup es) = true ↔ es.length ≤ s ∧ ∀ x ∈ es, okD s n x = true := by
  show (decide (es.length ≤ s) && es.all (okD s n)) = true ↔ _
  rw [Bool.and_eq_true, decide_eq_true_eq, List.all_eq_true]
theorem okD_lst {s n : Nat} {es : List D} : okD s (n + 1) (.lst es) = true ↔ es.length ≤ s ∧ ∀ x ∈ es, okD s n x = true := by
  show (decide (es.length ≤ s) && es.all (okD s n)) = true ↔ _
  rw [Bool.and_eq_true, decide_eq_true_eq, List.all_eq_true]
theorem okD_mono {s s' : Nat} (hs : s ≤ s') : ∀ {n n' : Nat} {d : D}, n ≤ n' → okD s n d = true → okD s' n' d = true := by
  intro n
  induction n with
  | zero => intro n' d _ h; cases h
  | succ n ih =>
    intro n' d hn h
    obtain ⟨k, rfl⟩ : ∃ k, n' = k + 1 := ⟨n' - 1, by omega⟩
    cases d with
    | tup ds =>
      rw [okD_tup] at h ⊢
      exact ⟨by omega, fun x hx => ih (by omega) (h.2 x hx)⟩
    | lst ds =>
      rw [okD_lst] at h ⊢
      exact ⟨by omega, fun x hx => ih (by omega) (h.2 x hx)⟩
    | str x => exact h
    | raw v => cases h
    | dk ks ds => cases h
    | dt ks ds => cases h
    | _ => rfl
theorem okD_okq {s : Nat} : ∀ {n : Nat} {d : D}, okD s n d = true → okq n d = true := by
  intro n
  induction n with
  | zero => intro d h; cases h
  | succ n ih =>
    intro d h
    cases d with
    | tup ds => exact List.all_eq_true.mpr fun x hx => ih ((okD_tup.mp h).2 x hx)
    | lst ds => exact List.all_eq_true.mpr fun x hx => ih ((okD_lst.mp h).2 x hx)
    | str x => exact h
    | raw v => cases h
    | dk ks ds => cases h
    | dt ks ds => cases h
    | _ => rfl
theorem okq_mono : ∀ {n n' : Nat} {d : D}, n ≤ n' → okq n d = true → okq n' d = true := by
  intro n
  induction n with
  | zero =>
    intro n' d _ h
    cases d with
    | tup ds => cases h
    | lst ds => cases h
    | raw v => cases h
    | dk ks ds => cases h
    | dt ks ds => cases h
    | str x => cases n' <;> exact h
    | _ => cases n' <;> rfl
  | succ n ih =>
    intro n' d hn h
    obtain ⟨k, rfl⟩ : ∃ k, n' = k + 1 := ⟨n' - 1, by omega⟩
    cases d with
    | tup ds => exact List.all_eq_true.mpr fun x hx => ih (by omega) (List.all_eq_true.mp h x hx)
    | lst ds => exact List.all_eq_true.mpr fun x hx => ih (by omega) (List.all_eq_true.mp h x hx)
    | str x => exact h
    | raw v => cases h
    | dk ks ds => cases h
    | dt ks ds => cases h
    | _ => rfl
theorem okD_okq' {s n n' : Nat} {d : D} (h : okD s n d = true) (hn : n ≤ n') : okq n' d = true := okq_mono hn (okD_okq h)
theorem okD_plain {s : Nat} (hs : s ≤ 1000000) : ∀ {n : Nat} {d : D}, okD s n d = true → plain n d = true := by
  intro n
  induction n with
  | zero => intro d h; cases h
  | succ n ih =>
    intro d h
    cases d with
    | tup ds =>
      have z := okD_tup.mp h
      simp only [plain, Bool.and_eq_true, decide_eq_true_eq, List.all_eq_true]
      exact ⟨by omega, fun x hx => ih (z.2 x hx)⟩
    | lst ds =>
      have z := okD_lst.mp h
      simp only [plain, Bool.and_eq_true, decide_eq_true_eq, List.all_eq_true]
      exact ⟨by omega, fun x hx => ih (z.2 x hx)⟩
    | raw v => cases h
    | dk ks ds => cases h
    | dt ks ds => cases h
    | _ => rfl
def isIntD : D → Bool
  | .int _ => true
  | _ => false
def intV : D → Int
  | .int i => i
  | _ => 0
theorem isIntD_ex {d : D} (h : isIntD d = true) : ∃ i, d = .int i := by
  cases d with
  | int i => exact ⟨i, rfl⟩
  | _ => cases h
theorem isIntD_of {d : D} (h : isRaw d = false) : (isT "int" d && !isT "bool" d) = isIntD d := by
  cases d <;> first | (cases h; done) | rfl
section
variable {K : PySem.W.Frag} {φ : Addr → Prop} {J : Hp → Prop} {ρ : List (Option D)} {te : TE} {x : D} {b : Bool} {t1 t2 : TT} {p : Bool → Prop}
theorem et_andP (ha : EvX K φ J t1 ρ b) (hb : b = true → EvT K φ J t2 ρ p) : EvT K φ J (tAnd t1 t2) ρ (fun x => (b = true ∧ p x) ∨ (b = false ∧ x = false)) := fun σ H A Q q => ha σ H A _ fun k H1 b1 A1 e1 => by
  subst e1
  cases k with
  | false => exact q false H1 b1 A1 (.inr ⟨rfl, rfl⟩)
  | true => exact hb rfl σ H1 A1 _ fun k H2 b2 A2 pk => q k H2 (b1.trans b2) A2 (.inl ⟨rfl, pk⟩)
theorem et_orP (ha : EvX K φ J t1 ρ b) (hb : b = false → EvT K φ J t2 ρ p) : EvT K φ J (tOr t1 t2) ρ (fun x => (b = false ∧ p x) ∨ (b = true ∧ x = true)) := fun σ H A Q q => ha σ H A _ fun k H1 b1 A1 e1 => by
  subst e1
  cases k with
  | true => exact q true H1 b1 A1 (.inr ⟨rfl, rfl⟩)
  | false => exact hb rfl σ H1 A1 _ fun k H2 b2 A2 pk => q k H2 (b1.trans b2) A2 (.inl ⟨rfl, pk⟩)
theorem et_cmpP {f : Int → Int → Bool} {ta tb : TE} {p q : Int → Prop} (ha : EvI K φ J ta ρ p) (hb : EvI K φ J tb ρ q) : EvT K φ J (tTest (tOp (rI0 fun i j => .bl (f i j)) ta tb)) ρ (fun k => ∃ i j, p i ∧ q j ∧ k = f i j) := et_testP (eb_cmp ha hb)
theorem et_eqP {ta tb : TE} {p q : Int → Prop} (ha : EvI K φ J ta ρ p) (hb : EvI K φ J tb ρ q) : EvT K φ J (tTest (tOp rEq ta tb)) ρ (fun k => ∃ i j, p i ∧ q j ∧ k = decide (i = j)) := et_testP (eb_eq ha hb)
theorem any_toPys {x : D} : ∀ ds : List D, ((toPys ds).any fun z => PyData.eqv z (toPy x)) = ds.any fun z => eqvD z x
  | [] => rfl
  | d :: ds => by
    show (PyData.eqv (toPy d) (toPy x) || (toPys ds).any _) = (eqvD d x || ds.any _)
    rw [any_toPys ds]
    rfl
/-- `in` a list of data -/
theorem ev_inQ {ta tb : TE} {ds : List D} (ha : EvD K φ J ta ρ x) (hb : EvD K φ J tb ρ (.lst ds)) (hx : okq 64 x = true) (hy : okq 64 (.lst ds) = true) : EvD K φ J (tOp (rInD K) ta tb) ρ (.bl (ds.any fun z => eqvD z x)) := ev_opD ha hb fun H v w _ r1 r2 Q q => by
  refine ⟨toPy x, toPys ds, dp_of x v 64 hx r1, dp_of _ w 64 hy r2, okq_shaped hx (Nat.le_refl _), okq_shaped hy (Nat.le_refl _), ?_⟩
  rw [any_toPys ds]
  exact q _ _ H (Same.refl H) rfl rfl
end
section
variable {P : Program} {w : World} {K : PySem.W.Frag} {mg : Str → Option Value} {base : Heap}
def RIsInt : List D → D → Prop := fun ds r => ∃ d, ds = [d] ∧ isRaw d = false ∧ r = .bl (isIntD d)
end

/-! ### InvalidLine.__init__ -/
section
open PySem.W PySem.Calls
variable {P : Program} {w : World} {K : PySem.W.Frag} {mg : Str → Option Value} {base : Heap}
set_option maxHeartbeats 4000000 in
theorem ok_supinit {C fI cc cda : Addr} {fd : FuncData} (T : SupC P K C fI "InvalidLine.__init__" s_InvalidLine___init__ fd cc cda) (hmg : mg "super" = none) (hno : PySem.W.findIn K (.ref C) "line" = some none) :
    FnOk P w K mg base CX0 2 fI fd ["self", "line"] (SpIL C "line") := by
  obtain ⟨oc, od, kV, doc, pm, an, ct, osl, rfl, lk⟩ := T.fn
  obtain ⟨ccl, cdd, vsc, ccs, file, tf, hcode, hvs, hfile⟩ := T.code
  obtain ⟨cl, cld, csl, hcl⟩ := T.cell
  obtain ⟨cdD, hD⟩ := T.cls
  refine ⟨fun vs H Q E ⟨a, v, e, _⟩ => by rw [e]; rfl, fun A outer s H args us vs Q E hr e0 hb r hsp => ?_⟩
  obtain ⟨a, v, rfl, ea, hq⟩ := hsp
  obtain ⟨u, rfl, ru⟩ : ∃ u, us = [.ref a, u] ∧ RelV v u := by
    cases r with
    | cons r1 r2 =>
      cases r2 with
      | cons r3 r4 =>
        cases r4
        cases r1
        exact ⟨_, rfl, r3⟩
  have KX : K.In s.heap := e0.mod.kin.keeps fun b o e => (e0.bs b o e).1
  have lim : s.heap.NoLimit := e0.mod.nolimit.keeps fun b o e => (e0.bs b o e).1
  have kbase : ∀ {b : Addr} {o : Obj}, K.lookup b = some o → base.get? b = some o := fun {b o} e => e0.mod.kin b o e
  refine ks_codeAny_call_defAt (fd := ksFn "__init__" "InvalidLine.__init__" (defArgs s_InvalidLine___init__) (defBody s_InvalidLine___init__) (defScope s_InvalidLine___init__) .none kV doc pm an (.ref cda) ct cc) (body := defBody s_InvalidLine___init__) (binds := [(("self" : Str), Value.ref a), (("line" : Str), u)]) hr.depth (KX _ _ lk) rfl lim (PySem.W.codeRec_of KX T.cd) rfl hb (show ∀ x ∈ (defScope s_InvalidLine___init__).names, x.2 ≠ .cell by decide +kernel) (fun y hy => ?_) (fun h₀ hns kp => ?_) rfl rfl rfl
  · rcases List.mem_cons.mp hy with rfl | hy
    · rfl
    · rw [List.mem_singleton.mp hy]; rfl
  generalize hX : supCx P w K mg base A outer s H E ["self", "line"] "InvalidLine.__init__" (defScope s_InvalidLine___init__) fI (.ref cda) cc = X
  have I : Inv X [] [some (.ref a), some v] H { s with heap := h₀, toks := s.toks + ([(("self" : Str), Value.ref a), (("line" : Str), u)] : List (Str × Value)).length } := by
    subst hX
    have cl1 : ∀ {x : Str} {c : Addr}, List.lookup x [(("__class__" : Str), cc)] = some c → x = "__class__" ∧ c = cc := fun {x c} e => by
      rw [List.lookup_cons] at e
      cases z : (x == ("__class__" : Str)) with
      | true => rw [z] at e; cases e; exact ⟨eq_of_beq z, rfl⟩
      | false => rw [z] at e; cases e
    refine ⟨⟨e0.mod, rfl, rfl, rfl, Nat.le_refl _, fun x y c e1 e2 => (cl1 e1).1.trans (cl1 e2).1.symm, fun x hx => ?_, fun x c z _ => (nomatch (show false = true from z)), fun _ => hr.hd, Around.frames_deeper e0.frames, .inr ⟨rfl, rfl⟩, fun b z => (nomatch (show b ∈ ([] : List Addr) from z)), e0.bs, e0.bsz, fun b _ _ z => (nomatch (show b ∈ ([] : List Addr) from z)), fun b z => (nomatch (show b ∈ ([] : List Addr) from z)), e0.funs, e0.frf⟩,
      rfl, e0.bare, Un.kept kp, ⟨_, hns, fun i x w' e1 e2 e3 => ?_⟩, fun x c e => ?_, e0.hok.fresh (Nat.le_refl _), fun x c e => ?_, fun q hq => absurd (show q ∈ ([] : List (Addr × Obj)) ++ [] from hq) (by simp), e0.hok.kept kp, rfl⟩
    · have nm : ∀ y ∈ (defScope s_InvalidLine___init__).names, y.2 ≠ .cell ∧ (y.2 = .free → y.1 = ("__class__" : Str)) := by decide +kernel
      have hx : (defScope s_InvalidLine___init__).names.lookup x = some .cell ∨ (defScope s_InvalidLine___init__).names.lookup x = some .free := hx
      rcases hx with hx | hx
      · exact absurd rfl (nm _ (PySem.mem_of_lookup hx)).1
      · have e : x = ("__class__" : Str) := (nm _ (PySem.mem_of_lookup hx)).2 rfl
        subst e
        exact ⟨cc, rfl⟩
    · have e1 : ([("self" : Str), "line"] : List Str)[i]? = some x := e1
      have e2 : ([some (.ref a), some v] : List (Option V))[i]? = some (some w') := e2
      rcases i with _ | _ | i
      · cases e1
        cases e2
        exact ⟨.ref a, rfl, .inl ⟨rfl, rfl⟩⟩
      · cases e1
        cases e2
        exact ⟨u, ru, .inl ⟨rfl, rfl⟩⟩
      · cases e1
    · obtain ⟨_, rfl⟩ := cl1 e
      exact ⟨some (.ref C), ⟨_, kp _ _ (KX _ _ hcl), rfl⟩⟩
    · obtain ⟨_, rfl⟩ := cl1 e
      exact (e0.bs _ _ (kbase hcl)).2
  have hXA : X.A = A.deeper (ksEnv "InvalidLine.__init__" (defScope s_InvalidLine___init__) s.heap.objs.size fI (.ref cda) cc) := by subst hX; rfl
  have fin : ∀ {σ' : L2.St} {H' : Hp} {s' : Shared}, Inv X [] σ' H' s' → Q .non H' → CE outer P w H s Q .none s' := fun {σ' H' s'} J q => by
    subst hX
    exact ⟨.non, H', J.os, J.bare, J.base, J.hok, rfl, q⟩
  have room : X.A.units + 64 < cLine ∧ X.A.depth < recursionLimit := by
    rw [hXA]
    exact ⟨(hr.deeper (k := 1) _).units, (hr.deeper (k := 1) _).depth⟩
  obtain ⟨oD, hD1, hD2⟩ : ∃ oD, K.lookup C = some oD ∧ oD.data = .cls cdD := by
    unfold PySem.W.clsIn at hD
    split at hD
    · rename_i c d cd' sl ho
      cases hD
      exact ⟨_, ho, rfl⟩
    · cases hD
  obtain ⟨nm, qn, N, bs, bm, sn, sub, ab, col, dd, k0, k1, k2', k3, k5, hC, hbm⟩ := T.ex.cls
  have kin : ∀ {h : Heap}, (∀ b o, h₀.get? b = some o → h.get? b = some o) → K.In h := fun {h} k b o e => k _ _ (kp _ _ (KX b o e))
  obtain ⟨t1, hea⟩ := exo_at I.hok ea
  have hea : h₀.get? a = some ({ cls := .ref C, dict := none, data := .fields #[.ref t1, .none, .none, .none, .bool false, .none] } : Obj) := hea
  have KX0 := kin (h := h₀) fun _ _ e => e
  have inst : ∀ {h : Heap}, (∀ b o, h₀.get? b = some o → h.get? b = some o) → PySem.W.InstAt h a { cls := .ref C, dict := none, data := .fields #[.ref t1, .none, .none, .none, .bool false, .none] } C none := fun {h} k => ⟨k _ _ hea, rfl, rfl, trivial⟩
  refine ks_wpAt_execs_cons (ks_wpAt_Expr_any (ks_wpAt_MethodCall (ks_wpAt_super_base (fd := ksFn "__init__" "InvalidLine.__init__" (defArgs s_InvalidLine___init__) (defBody s_InvalidLine___init__) (defScope s_InvalidLine___init__) .none kV doc pm an (.ref cda) ct cc) (vs := vsc) (f := fI) (cc := cda) rfl rfl (by decide) rfl (kp _ _ (KX _ _ lk)) rfl rfl rfl (kp _ _ (KX _ _ hcode)) rfl hvs hfile T.top ?_)))
  obtain ⟨mb, b1, b2⟩ := e0.mod.blt
  have kb : ∀ b o, base.get? b = some o → h₀.get? b = some o := fun b o e => kp b o (e0.bs b o e).1
  refine ks_loadName_global rfl rfl (Calls.loadGlobal_builtin (e0.mod.glob.keeps kb) hmg (b1.keeps kb) ((b2 "super" (by decide)).trans (by decide +kernel)) ⟨rfl, ?_⟩)
  refine wpAny_loadName_free rfl rfl rfl ⟨_, kp _ _ (KX _ _ hcl), rfl⟩ ?_
  refine wpAny_loadName_local rfl rfl hns rfl ?_
  refine ks_wpAny_isType_cls (kp _ _ (KX _ _ hD1)) hD2 ⟨rfl, ?_⟩
  refine ks_wpAny_call_super (kp _ _ (KX _ _ hD1)) hD2 hea rfl (fun c z => nomatch z) (looks_mroIn KX0 T.sub) fun h' e' k' => ?_
  have hsup : PySem.W.alongIn K "__init__" ((cdD.mro.dropWhile (· != .ref C)).drop 1) = some (some (.builtin "ValueError.__init__")) := by
    have z := T.sup
    unfold ks_superIn at z
    rw [hD] at z
    exact z
  have X1 := kin k'
  refine kxs_getMethod kxs_ValueError e' (looks_opaque X1 T.any) (l₀ := cdD.mro) (fun A Q E s k q => wpAny_bind ((looks_clsIn X1 hD) A _ E s k (wpAny_pure q))) rfl X1 hsup ((inst k').type.andThen (looks_subIn X1 T.ve)) (ks_ne X1 (inst k') hD) (by decide) ?_
  have k2 : ∀ b o, h₀.get? b = some o → (h'.push (kxs_mw "ValueError.__init__" a)).get? b = some o := fun b o e => Heap.get?_push_of_some _ (k' b o e)
  have hmw : (h'.push (kxs_mw "ValueError.__init__" a)).get? h'.objs.size = some (kxs_mw "ValueError.__init__" a) := Heap.get?_push_at rfl rfl
  generalize (h'.push (kxs_mw "ValueError.__init__" a)) = h2 at k2 hmw ⊢
  generalize h'.objs.size = um at hmw ⊢
  refine kxs_callWith (i := "ValueError.__init__") (x := a) rfl (evalArgs_plain ?_)
  refine Calls.spliced_cons ?_
  rw [if_neg (by decide)]
  refine Calls.Constant_str ?_
  refine Calls.spliced_nil ⟨hmw, ?_⟩
  have hC2 : h2.get? C = some (excClassObj nm qn C N bs bm true sn sub ab col dd k0 k1 k2' k3 k5 "ValueError.__new__") := kin k2 _ _ hC
  have he2 : h2.get? a = some ({ cls := .ref C, dict := none, data := .fields #[.ref t1, .none, .none, .none, .bool false, .none] } : Obj) := k2 _ _ hea
  refine wpAny_call (codeAny_of_tree ?_)
  show wpAny _ _ (callAny (.ref um) ⟨[_], []⟩) _ _ _
  simp only [callAny]
  refine wpAny_bind (wpAny_load hmw ?_)
  simp only [kxs_mw, show (Value.type "method-wrapper" == Value.type "method" || Value.type "method-wrapper" == Value.type "builtin_function_or_method" || Value.type "method-wrapper" == Value.type "method-wrapper") = true by decide, if_true]
  refine KFB.if_so (by decide) ?_
  refine wpAny_bind (check_bound_init PySem.F.excBase_ValueError.toExcCallFacts hC2 he2 rfl ?_)
  refine wpAny_bind (wpAny_pure (wpAny_pure ?_))
  refine ⟨plainId_quiet PySem.F.excBase_ValueError.init.plain _, codeAny_builtin PySem.F.excBase_ValueError.initEntry ?_⟩
  refine exc_init_tree (cls := .ref C) (t0 := t1) (dv := none) (c2 := .none) (c3 := .none) (b4 := .bool false) he2 (by rw [sizeLine_eq]; exact Nat.le_of_ble_eq_true rfl) fun h3 k3 hx3 ht3 => ?_
  have I3 : ∀ tk, Inv X [] [some (.ref a), some v] H { s with heap := h3, toks := tk } := fun tk => by
    have J := (I.kept (t' := tk) k2).write (t' := tk) (x := a) (e := a) (o := exo a C none) (by rw [ea]; exact True.intro) (.inl rfl) k3 ⟨_, hx3⟩ (exo_ok hx3)
    have eu : upd H a (exo a C none) = H := by
      funext b
      by_cases hb : b = a
      · rw [hb, upd_same, ea]
      · rw [upd_ne hb]
    rw [eu] at J
    exact J
  have J3 := I3 (s.toks + ([(("self" : Str), Value.ref a), (("line" : Str), u)] : List (Str × Value)).length + 1 + 1)
  refine wpAt_of_wpAny ?_
  subst hX
  refine wpAny_mono ((pss_one (ps_ost (X := (supCx P w K mg base A outer s H E ["self", "line"] "InvalidLine.__init__" (defScope s_InvalidLine___init__) fI (.ref cda) cc).nox) (f := "line") (pv 0) (pv 1))).run [] _ [some (.ref a), some v] H { nx := fun _ H' => Q .non H', rt := fun _ _ => False } (J3.wish _) ?_) (fun f s' hs => ?_) fun e s' hs => hs.elim
  · exact ⟨v, rfl, .ref a, rfl, a, C, rfl, T.ex, hno, .inl ⟨ea, fun dx n ne => hq dx n ne⟩⟩
  · cases f with
    | next =>
      obtain ⟨σ', H', J, q⟩ := hs
      exact fin J.unwish q
    | ret u =>
      obtain ⟨_, _, _, _, _, q⟩ := hs
      exact q.elim
    | brk =>
      obtain ⟨_, _, _, q⟩ := hs
      exact q.elim
    | cont =>
      obtain ⟨_, _, _, q⟩ := hs
      exact q.elim
end

-- import HandS.Text
/-! ### texts cut at one sign, numbers in texts -/
section
open TL
def splC (c : Nat) : List Nat → List (List Nat)
  | [] => [[]]
  | x :: r => if x = c then [] :: splC c r else match splC c r with
    | p :: q => (x :: p) :: q
    | [] => [[x]]
theorem splC_ne (c : Nat) : ∀ l, splC c l ≠ []
  | [] => by simp [splC]
  | x :: r => by
    unfold splC
    split
    · simp
    · split <;> simp
theorem splC_join (c : Nat) : ∀ l, joinL [c] (splC c l) = l
  | [] => rfl
  | x :: r => by
    have ih := splC_join c r
    have ne := splC_ne c r
    unfold splC
    split
    · rename_i h
      subst h
      cases e : splC x r with
      | nil => exact absurd e ne
      | cons p q =>
        rw [e] at ih
        show [] ++ ([x] ++ joinL [x] (p :: q)) = _
        rw [ih]
        rfl
    · cases e : splC c r with
      | nil => exact absurd e ne
      | cons p q =>
        rw [e] at ih
        show joinL [c] ((x :: p) :: q) = x :: r
        rw [← ih]
        cases q <;> rfl
theorem splC_free (c : Nat) : ∀ l, ∀ p ∈ splC c l, c ∉ p
  | [], p, h => by
    rw [List.mem_singleton.mp h]
    simp
  | x :: r, p, h => by
    have ih := splC_free c r
    unfold splC at h
    split at h
    · rcases List.mem_cons.mp h with rfl | h
      · simp
      · exact ih p h
    · rename_i hx
      cases e : splC c r with
      | nil => exact absurd e (splC_ne c r)
      | cons a q =>
        rw [e] at h ih
        rcases List.mem_cons.mp h with rfl | h
        · rw [List.mem_cons, not_or]
          exact ⟨fun z => hx z.symm, ih a List.mem_cons_self⟩
        · exact ih p (List.mem_cons_of_mem _ h)
theorem splC_spl (c : Nat) (l : List Nat) : spl [c] 0 [] l = splC c l := by
  have h := spl_join (s := c) (S := []) (splC_ne c l) (splC_free c l)
  rw [splC_join] at h
  exact h
theorem splC_uniq {c : Nat} {ps : List (List Nat)} (hne : ps ≠ []) (hf : ∀ p ∈ ps, c ∉ p) : splC c (joinL [c] ps) = ps := by
  rw [← splC_spl]
  exact spl_join (s := c) (S := []) hne hf
theorem tl_split {c : Nat} (hc : c < 256) (x : Str) : (Txt.split x ⟨#[c]⟩).map tl = splC c (tl x) := by
  rw [← splC_spl]
  exact split_spl x ⟨#[c]⟩ (by simp [tl]) (kind_ok (by simp [hc]))
theorem joinL_snoc {S p : List Nat} : ∀ {ps : List (List Nat)}, ps ≠ [] → joinL S (ps ++ [p]) = joinL S ps ++ (S ++ p)
  | [], h => absurd rfl h
  | [a], _ => rfl
  | a :: b :: r, _ => by
    have ih := joinL_snoc (S := S) (p := p) (ps := b :: r) (by simp)
    show a ++ (S ++ joinL S (b :: r ++ [p])) = a ++ (S ++ joinL S (b :: r)) ++ (S ++ p)
    rw [ih, List.append_assoc, List.append_assoc]
theorem splC_snoc (c : Nat) (l : List Nat) : splC c (l ++ [c]) = splC c l ++ [[]] := by
  have h : l ++ [c] = joinL [c] (splC c l ++ [[]]) := by
    rw [joinL_snoc (splC_ne c l), splC_join]
    rfl
  rw [h]
  refine splC_uniq (by simp) fun p hp => ?_
  rcases List.mem_append.mp hp with hp | hp
  · exact splC_free c l p hp
  · rw [List.mem_singleton.mp hp]
    simp
theorem splC_last {c : Nat} {l : List Nat} {xs : List (List Nat)} (h : splC c l = xs ++ [[]]) (hx : xs ≠ []) : ∃ l', l = l' ++ [c] ∧ xs = splC c l' := by
  refine ⟨joinL [c] xs, ?_, ?_⟩
  · rw [← splC_join c l, h, joinL_snoc hx]
    rfl
  · exact (splC_uniq hx fun p hp => splC_free c l p (by rw [h]; exact List.mem_append_left _ hp)).symm
theorem splC_app {c : Nat} {a l : List Nat} (h : c ∉ a) : splC c (a ++ c :: l) = a :: splC c l := by
  have e : a ++ c :: l = joinL [c] (a :: splC c l) := by
    cases e : splC c l with
    | nil => exact absurd e (splC_ne c l)
    | cons p q =>
      show _ = a ++ ([c] ++ joinL [c] (p :: q))
      rw [← e, splC_join]
      rfl
  rw [e]
  refine splC_uniq (by simp) fun p hp => ?_
  rcases List.mem_cons.mp hp with rfl | hp
  · exact h
  · exact splC_free c l p hp
theorem splC_one {c : Nat} {a : List Nat} (h : c ∉ a) : splC c a = [a] := splC_uniq (ps := [a]) (by simp) fun p hp => by rw [List.mem_singleton.mp hp]; exact h
theorem splC_two {c : Nat} {l a b : List Nat} (h : splC c l = [a, b]) : l = a ++ c :: b ∧ c ∉ a ∧ c ∉ b := by
  refine ⟨?_, splC_free c l a (by rw [h]; simp), splC_free c l b (by rw [h]; simp)⟩
  rw [← splC_join c l, h]
  rfl
theorem splC_len (c : Nat) : ∀ l, (splC c l).length ≤ l.length + 1
  | [] => Nat.le_refl _
  | x :: r => by
    have ih := splC_len c r
    unfold splC
    split
    · rw [List.length_cons, List.length_cons]
      omega
    · cases e : splC c r with
      | nil => exact absurd e (splC_ne c r)
      | cons p q =>
        rw [e] at ih
        rw [List.length_cons] at ih ⊢
        rw [List.length_cons]
        omega
theorem splC_mem_len {c : Nat} : ∀ {l p : List Nat}, p ∈ splC c l → p.length ≤ l.length
  | [], p, h => by rw [List.mem_singleton.mp h]; exact Nat.le_refl _
  | x :: r, p, h => by
    unfold splC at h
    split at h
    · rcases List.mem_cons.mp h with rfl | h
      · exact Nat.zero_le _
      · exact Nat.le_succ_of_le (splC_mem_len h)
    · cases e : splC c r with
      | nil => exact absurd e (splC_ne c r)
      | cons a q =>
        rw [e] at h
        rcases List.mem_cons.mp h with rfl | h
        · exact Nat.succ_le_succ (splC_mem_len (by rw [e]; exact List.mem_cons_self))
        · exact Nat.le_succ_of_le (splC_mem_len (by rw [e]; exact List.mem_cons_of_mem _ h))
/-! ### numbers -/
def digB (l : List Nat) : Bool := l.all fun c => decide (48 ≤ c ∧ c ≤ 57)
theorem digB_all {l : List Nat} : digB l = true ↔ NumText.AllDigits l := by
  unfold digB NumText.AllDigits
  rw [List.all_eq_true]
  exact ⟨fun h c hc => of_decide_eq_true (h c hc), fun h c hc => decide_eq_true (h c hc)⟩
/-- no needless zero ahead -/
def leadB (l : List Nat) : Bool := !(decide (l.head? = some 48) && !decide (l = [48]))
def okNum (k : Nat) (l : List Nat) : Option Nat := if digB l && (decide (1 ≤ l.length) && decide (l.length ≤ k)) && leadB l then some (NumText.digitsVal l) else none
theorem digitsVal_snoc (l : List Nat) (c : Nat) : NumText.digitsVal (l ++ [c]) = NumText.digitsVal l * 10 + (c - 48) := by
  unfold NumText.digitsVal
  rw [List.foldl_append]
  rfl
theorem digitsVal_ge (l : List Nat) : ∀ a : Nat, a ≤ l.foldl (fun acc c => acc * 10 + (c - 48)) a := by
  induction l with
  | nil => exact fun a => Nat.le_refl a
  | cons c l ih =>
    intro a
    rw [List.foldl_cons]
    exact Nat.le_trans (by omega) (ih _)
theorem digitsVal_pos {c : Nat} {l : List Nat} (h : 48 < c) : 1 ≤ NumText.digitsVal (c :: l) := by
  unfold NumText.digitsVal
  rw [List.foldl_cons]
  exact Nat.le_trans (by omega) (digitsVal_ge l _)
theorem num_back : ∀ (n : Nat) (l : List Nat), l.length = n → l ≠ [] → NumText.AllDigits l → l.head? ≠ some 48 ∨ l = [48] → numL (NumText.digitsVal l) = l
  | 0, l, hn, hne, _, _ => absurd (List.length_eq_zero_iff.mp hn) hne
  | n + 1, l, hn, hne, hd, hl => by
    have e := List.dropLast_concat_getLast hne
    generalize hm : l.dropLast = m at e
    generalize l.getLast hne = c at e
    subst e
    have hc := hd c (by simp)
    rw [digitsVal_snoc]
    cases m with
    | nil =>
      rw [show NumText.digitsVal [] = 0 from rfl, numL_lt (by omega), List.nil_append]
      congr 1
      omega
    | cons a m =>
      have ha := hd a (by simp)
      have hl' : (a :: m).head? ≠ some 48 := by
        rcases hl with h | h
        · exact h
        · exact absurd (congrArg List.length h) (by simp)
      have h48 : 48 < a := by
        have : a ≠ 48 := fun z => hl' (by rw [z]; rfl)
        omega
      have hp := digitsVal_pos (l := m) h48
      rw [numL_step (by omega), show (NumText.digitsVal (a :: m) * 10 + (c - 48)) / 10 = NumText.digitsVal (a :: m) by omega, show (NumText.digitsVal (a :: m) * 10 + (c - 48)) % 10 = c - 48 by omega,
        num_back n (a :: m) (by simp only [List.length_append, List.length_cons, List.length_nil] at hn ⊢; omega) (by simp) (fun x hx => hd x (List.mem_append_left _ hx)) (.inl hl'), show 48 + (c - 48) = c by omega]
theorem numL_head : ∀ n : Nat, (numL n).head? ≠ some 48 ∨ n = 0 := fun n => by
  induction n using Nat.strongRecOn with
  | _ n ih =>
    by_cases h : n < 10
    · rw [numL_lt h]
      by_cases h0 : n = 0
      · exact .inr h0
      · exact .inl fun z => by
          have := Option.some.inj z
          omega
    · rw [numL_step (by omega)]
      rcases ih (n / 10) (by omega) with z | z
      · left
        cases e : numL (n / 10) with
        | nil => exact absurd e (numL_ne _)
        | cons a r =>
          rw [e] at z
          exact z
      · omega
theorem leadB_num (n : Nat) : leadB (numL n) = true := by
  unfold leadB
  rcases numL_head n with h | h
  · rw [decide_eq_false h]
    rfl
  · rw [h, numL_lt (by decide)]
    rfl
theorem leadB_or {l : List Nat} : leadB l = true ↔ l.head? ≠ some 48 ∨ l = [48] := by
  unfold leadB
  by_cases h1 : l.head? = some 48 <;> by_cases h2 : l = [48] <;> simp [h1, h2]
/-- str(int(l)) == l -/
theorem leadB_iff {l : List Nat} (hd : NumText.AllDigits l) (hne : l ≠ []) : decide (numL (NumText.digitsVal l) = l) = leadB l := by
  cases h : leadB l with
  | true => exact decide_eq_true (num_back _ l rfl hne hd (leadB_or.mp h))
  | false =>
    refine decide_eq_false fun z => ?_
    rw [← z, leadB_num] at h
    cases h
theorem okNum_num {n k : Nat} (hk : 0 < k) (h : n < 10 ^ k) : okNum k (numL n) = some n := by
  unfold okNum
  have h1 : 1 ≤ (numL n).length := List.length_pos_iff.mpr (numL_ne n)
  rw [digB_all.mpr (numL_digits n), decide_eq_true h1, decide_eq_true (numL_len hk h), leadB_num, numL_val]
  rfl
theorem okNum_some {k n : Nat} {l : List Nat} (h : okNum k l = some n) : l = numL n ∧ NumText.AllDigits l ∧ l.length ≤ k := by
  unfold okNum at h
  split at h
  · rename_i hc
    simp only [Bool.and_eq_true, decide_eq_true_eq] at hc
    obtain ⟨⟨h1, h2, h3⟩, h4⟩ := hc
    refine ⟨?_, digB_all.mp h1, h3⟩
    rw [← Option.some.inj h]
    exact (num_back _ l rfl (List.length_pos_iff.mp h2) (digB_all.mp h1) (leadB_or.mp h4)).symm
  · cases h
def textL (ls : List (List Nat)) : List Nat := ls.flatMap fun l => l ++ [10]
theorem splC_text : ∀ {ls : List (List Nat)}, (∀ l ∈ ls, 10 ∉ l) → splC 10 (textL ls) = ls ++ [[]]
  | [], _ => rfl
  | l :: ls, h => by
    show splC 10 ((l ++ [10]) ++ textL ls) = _
    rw [List.append_assoc]
    show splC 10 (l ++ 10 :: textL ls) = _
    rw [splC_app (h l List.mem_cons_self), splC_text fun x hx => h x (List.mem_cons_of_mem _ hx)]
    rfl
end

/-! ### the readers of papertexts -/
section
open TL
def asc (l : List Nat) : Prop := ∀ c ∈ l, c < 128
theorem asc_strOk {s : Str} (h : asc (tl s)) : PyData.strOk s = true := by
  unfold PyData.strOk
  rw [Array.all_eq_true_iff_forall_mem]
  intro c hc
  have := h c (by simpa [tl] using hc)
  exact decide_eq_true (by omega)
theorem asc_spl {c : Nat} {l p : List Nat} (h : asc l) (hp : p ∈ splC c l) : asc p := fun x hx => by
  have : ∀ {l : List Nat}, p ∈ splC c l → x ∈ l := fun {l} => by
    intro hp
    have e := splC_join c l
    generalize splC c l = ps at hp e
    subst e
    induction ps with
    | nil => cases hp
    | cons a ps ih =>
      cases ps with
      | nil =>
        rw [List.mem_singleton.mp hp] at hx
        exact hx
      | cons b ps =>
        show x ∈ a ++ ([c] ++ joinL [c] (b :: ps))
        rcases List.mem_cons.mp hp with e | hp
        · rw [e] at hx
          exact List.mem_append_left _ hx
        · exact List.mem_append_right _ (List.mem_append_right _ (ih hp))
  exact h x (this hp)
theorem lit_sp : (" " : Str) = ⟨#[32]⟩ := by decide +kernel
theorem lit_nl : ("\n" : Str) = ⟨#[10]⟩ := by decide +kernel
theorem lit_0 : ("0" : Str) = ⟨#[48]⟩ := by decide +kernel
theorem tl_digits : tl ("0123456789" : Str) = [48, 49, 50, 51, 52, 53, 54, 55, 56, 57] := by decide +kernel
theorem mem_digits {c : Nat} : decide (c ∈ tl ("0123456789" : Str)) = decide (48 ≤ c ∧ c ≤ 57) := by
  rw [tl_digits, decide_eq_decide]
  simp only [List.mem_cons, List.not_mem_nil, or_false]
  omega
theorem str_eq_tl {a b : Str} : decide (a = b) = decide (tl a = tl b) := by
  rw [decide_eq_decide]
  exact ⟨fun e => by rw [e], ext_tl⟩
/-- the words of a text, the lines -/
theorem split_tl {c : Nat} (hc : c < 256) (x : Str) : ∃ ys : List Str, Txt.split x ⟨#[c]⟩ = ys ∧ ys.map tl = splC c (tl x) := ⟨_, rfl, tl_split hc x⟩
/-- the signs that are no digits -/
def noDig : D → Bool
  | .str s => !(tl s).all fun c => decide (48 ≤ c ∧ c ≤ 57)
  | _ => true
theorem noDig_empty (w : Str) : ((strD w).filter noDig).isEmpty = digB (tl w) := by
  unfold strD digB
  show ((((tl w).map fun c => D.str ⟨#[c]⟩)).filter noDig).isEmpty = _
  induction tl w with
  | nil => rfl
  | cons c l ih =>
    rw [List.map_cons, List.filter_cons, List.all_cons]
    have e : noDig (.str ⟨#[c]⟩) = !decide (48 ≤ c ∧ c ≤ 57) := by
      show (!([c].all fun c => decide (48 ≤ c ∧ c ≤ 57))) = _
      rw [List.all_cons, List.all_nil, Bool.and_true]
    rw [e]
    cases decide (48 ≤ c ∧ c ≤ 57) with
    | true => rw [Bool.true_and]; exact ih
    | false => rfl
theorem okq_chars {w : Str} (h : PyData.strOk w = true) (p : D → Bool) : okq 64 (.lst ((strD w).filter p)) = true := by
  show ((strD w).filter p).all (okq 63) = true
  rw [List.all_eq_true]
  intro d hd
  obtain ⟨c, hc, rfl⟩ := List.mem_map.mp (List.mem_filter.mp hd).1
  show PyData.strOk ⟨#[c]⟩ = true
  unfold PyData.strOk at h ⊢
  rw [Array.all_eq_true_iff_forall_mem] at h ⊢
  intro x hx
  rw [show x = c by simpa using hx]
  exact h c (by simpa using hc)
theorem lead_test {w : Str} {c : Nat} {r : List Nat} (e : tl w = c :: r) : (decide ((⟨#[c]⟩ : Str) = "0") && !decide (w = "0")) = !leadB (tl w) := by
  unfold leadB
  rw [Bool.not_not, str_eq_tl, str_eq_tl, lit_0, show tl (⟨#[c]⟩ : Str) = [c] from rfl, show tl (⟨#[48]⟩ : Str) = [48] from rfl, e]
  congr 1
  rw [decide_eq_decide, List.head?_cons]
  constructor
  · intro h; injection h with h; rw [h]
  · intro h; injection h with h; rw [h]
theorem first_bad {α : Type} (p : α → Bool) : ∀ xs : List α, (∀ x ∈ xs, p x = true) ∨ ∃ pre x post, xs = pre ++ x :: post ∧ (∀ y ∈ pre, p y = true) ∧ p x = false
  | [] => .inl fun _ h => nomatch h
  | a :: xs => by
    cases h : p a with
    | false => exact .inr ⟨[], a, xs, rfl, fun _ h => (nomatch h), h⟩
    | true =>
      rcases first_bad p xs with h2 | ⟨pre, x, post, e, h2, h3⟩
      · exact .inl fun x hx => by
          rcases List.mem_cons.mp hx with rfl | hx
          · exact h
          · exact h2 x hx
      · refine .inr ⟨a :: pre, x, post, by rw [e]; rfl, fun y hy => ?_, h3⟩
        rcases List.mem_cons.mp hy with rfl | hy
        · exact h
        · exact h2 y hy
section
variable {K : PySem.W.Frag} {φ : Addr → Prop} {J : Hp → Prop} {ρ : List (Option D)} {te ta tb : TE} {t : TA} {W : WX} {c : Addr} {P : D → Prop}
theorem rs_cb1 {r : List V → Hp → VK → Prop} (h : Rs K φ J te ρ W c) : Rs K φ J (tCB r (tCons te t)) ρ W c := fun σ H A k Q => h σ H A k _
theorem rs_tup2 (ha : EvP K φ J ta ρ P) (h : Rs K φ J te ρ W c) : Rs K φ J (tTup (tCons ta (tCons te t))) ρ W c := fun σ H A k Q => ha σ H A _ fun v d H1 b1 A1 pd r => h σ H1 A1 (fun H' b A' => k H' (b1.trans b) A') _
end
theorem word_ok {t : Str} {c : Nat} (hz : t.length ≤ 1000000) (ha : asc (tl t)) {ys : List Str} (hy : ys.map tl = splC c (tl t)) : ∀ y ∈ ys, y.length ≤ 1000000 ∧ asc (tl y) := fun y hm => by
  have h1 : tl y ∈ splC c (tl t) := by rw [← hy]; exact List.mem_map.mpr ⟨y, hm, rfl⟩
  refine ⟨?_, asc_spl ha h1⟩
  rw [len_tl] at hz ⊢
  exact Nat.le_trans (splC_mem_len h1) hz
theorem startswith_tl (x y : Str) : Txt.startswith x y = (tl y).isPrefixOf (tl x) := by
  unfold PySem.Txt.startswith
  rw [Bool.eq_iff_iff, Bool.and_eq_true, decide_eq_true_eq, List.isPrefixOf_iff_prefix, PySem.StrLaws.subAt_eq, List.prefix_iff_eq_take, List.drop_zero, beq_iff_eq, len_tl, len_tl]
  constructor
  · rintro ⟨_, h⟩; exact h.symm
  · intro h
    refine ⟨?_, h.symm⟩
    have := congrArg List.length h
    rw [List.length_take] at this
    omega
theorem removeprefix_tl {x y : Str} (h : (tl y).isPrefixOf (tl x) = true) : tl (Txt.removeprefix x y) = (tl x).drop (tl y).length := by
  have h2 := startswith_tl x y
  rw [h] at h2
  unfold PySem.Txt.startswith at h2
  rw [PySem.StrLaws.removeprefix_eq, if_pos h2]
  show ((tl x).drop y.length).take (x.length - y.length) = _
  rw [len_tl y, len_tl x]
  refine List.take_of_length_le ?_
  rw [List.length_drop]
  exact Nat.le_refl _
theorem okq_strs {ys : List Str} (h : ∀ y ∈ ys, PyData.strOk y = true) : okq 64 (.lst (ys.map D.str)) = true := by
  show (ys.map D.str).all (okq 63) = true
  rw [List.all_map, List.all_eq_true]
  exact fun y hy => h y hy
def numS (i : Int) : Str := Str.ofString (toString i)
def nlS (s : Str) : Str := s ++ "\n"
theorem empty_app (a : Str) : Str.empty ++ a = a := ext_tl (by rw [tl_append]; rfl)
theorem joinL_nil : ∀ ps : List (List Nat), joinL [] ps = ps.flatten
  | [] => rfl
  | [p] => by simp [joinL]
  | p :: q :: r => by
    show p ++ ([] ++ joinL [] (q :: r)) = _
    rw [joinL_nil (q :: r)]
    rfl
theorem tl_joinE (ys : List Str) : tl (Txt.join "" ys) = (ys.map tl).flatten := by
  rw [join_eq, tl_join, show tl ("" : Str) = [] from rfl, joinL_nil]
theorem tl_nlS (s : Str) : tl (nlS s) = tl s ++ [10] := by
  unfold nlS
  rw [tl_append, lit_nl]
theorem len_app (a b : Str) : (a ++ b).length = a.length + b.length := by simp only [len_tl, tl_append, List.length_append]
theorem sum_le {b : Nat} : ∀ {ys : List Str}, (∀ y ∈ ys, y.length ≤ b) → (ys.map (·.length)).sum ≤ ys.length * b
  | [], _ => Nat.zero_le _
  | y :: ys, h => by
    have ih := sum_le fun x hx => h x (List.mem_cons_of_mem _ hx)
    have h1 := h y List.mem_cons_self
    rw [List.map_cons, List.sum_cons, List.length_cons, Nat.succ_mul]
    omega
theorem len_nlS (s : Str) : (nlS s).length = s.length + 1 := by
  unfold nlS
  rw [len_app, lit_nl]
  rfl
theorem asc_numL (n : Nat) : asc (numL n) := fun c hc => by
  have := numL_digits n c hc
  omega
theorem digitsVal_lt : ∀ (n : Nat) (l : List Nat), l.length = n → NumText.AllDigits l → NumText.digitsVal l < 10 ^ n
  | 0, l, hn, _ => by
    rw [List.length_eq_zero_iff.mp hn]
    decide
  | n + 1, l, hn, hd => by
    have hne : l ≠ [] := fun z => by rw [z] at hn; cases hn
    have e := List.dropLast_concat_getLast hne
    generalize hm : l.dropLast = m at e
    generalize l.getLast hne = c at e
    subst e
    have hc := hd c (by simp)
    have ih := digitsVal_lt n m (by rw [List.length_append] at hn; exact Nat.succ.inj hn) fun x hx => hd x (List.mem_append_left _ hx)
    rw [digitsVal_snoc, Nat.pow_succ]
    omega
theorem tl_cut (z : Str) (lo hi : Option Int) : tl (cutS z lo hi) = ((tl z).drop (HT.sIx (tl z).length 0 lo)).take (HT.sIx (tl z).length (tl z).length hi - HT.sIx (tl z).length 0 lo) := by
  rw [← len_tl]
  rfl
theorem tl_last (t : Str) : tl (cutS t (some (-1)) none) = (tl t).drop ((tl t).length - 1) := by
  rw [tl_cut]
  have e : HT.sIx (tl t).length 0 (some (-1)) = (tl t).length - 1 := by
    show (if (-1 : Int) < 0 then ((-1 : Int) + ((tl t).length : Int)).toNat else min (-1 : Int).toNat (tl t).length) = _
    rw [if_pos (by decide)]
    omega
  rw [e]
  show List.take ((tl t).length - _) _ = _
  refine List.take_of_length_le ?_
  rw [List.length_drop]
  exact Nat.le_refl _
theorem tl_init (t : Str) : tl (cutS t none (some (-1))) = (tl t).dropLast := by
  rw [tl_cut]
  have e : HT.sIx (tl t).length (tl t).length (some (-1)) = (tl t).length - 1 := by
    show (if (-1 : Int) < 0 then ((-1 : Int) + ((tl t).length : Int)).toNat else min (-1 : Int).toNat (tl t).length) = _
    rw [if_pos (by decide)]
    omega
  rw [e, List.dropLast_eq_take]
  rfl
theorem last_test (t : Str) : decide (cutS t (some (-1)) none = "\n") = decide ((tl t).getLast? = some 10) := by
  rw [str_eq_tl, tl_last, lit_nl, show tl (⟨#[10]⟩ : Str) = [10] from rfl, decide_eq_decide]
  rcases List.eq_nil_or_concat (tl t) with h | ⟨i, x, h⟩
  · rw [h]
    simp
  · rw [h, List.concat_eq_append, List.length_append]
    simp
end

structure Cs (mg : Str → Option Value) : Prop where
  DIGITS_rules : ∃ u, mg "DIGITS_rules" = some u ∧ RelV (.str "0123456789") u
  MOST_NEST : ∃ u, mg "MOST_NEST" = some u ∧ RelV (.int (40)) u
  LETTERS : ∃ u, mg "LETTERS" = some u ∧ RelV (.str "abcdefghijklmnopqrstuvwxyz") u
  DIGITS_networks : ∃ u, mg "DIGITS_networks" = some u ∧ RelV (.str "0123456789") u
  all : mg "all" = none
  any : mg "any" = none

/-! ### rules.read_number -/
section
open TL
def neg9 (r : List Nat) : Option Int := if (digB r && (decide (1 ≤ r.length) && decide (r.length ≤ 9))) && !decide (r.head? = some 48) then some (-((NumText.digitsVal r : Nat) : Int)) else none
def ok9 (l : List Nat) : Option Int := if l.head? = some 45 then neg9 l.tail else (okNum 9 l).map fun n => ((n : Nat) : Int)
def rd9 (x w : Str) : Bool := !(decide (1 ≤ (x.length : Int)) && decide ((x.length : Int) ≤ 9)) || (!digB (tl x) || (decide ((tl x).head? = some 48) && !decide (tl w = [48])))
theorem tl_minus : tl ("-" : Str) = [45] := by decide +kernel
theorem head_pre {l : List Nat} : ([45] : List Nat).isPrefixOf l = decide (l.head? = some 45) := by
  cases l with
  | nil => rfl
  | cons a r =>
    show ((45 == a) && true) = _
    rw [Bool.and_true, List.head?_cons, Bool.eq_iff_iff, decide_eq_true_eq, beq_iff_eq]
    exact ⟨fun h => by rw [h], fun h => (Option.some.inj h).symm⟩
theorem rd_neg {w : Str} (h : (tl w).head? = some 45) : tl (Txt.removeprefix w "-") = (tl w).tail := by
  rw [removeprefix_tl (by rw [tl_minus, head_pre]; exact decide_eq_true h), tl_minus]
  cases tl w <;> rfl
theorem rd_pos {w : Str} (h : ¬ (tl w).head? = some 45) : Txt.removeprefix w "-" = w := by
  have h2 := startswith_tl w "-"
  rw [tl_minus, head_pre, decide_eq_false h] at h2
  unfold PySem.Txt.startswith at h2
  rw [PySem.StrLaws.removeprefix_eq, if_neg (by rw [h2]; exact Bool.false_ne_true)]
theorem rd9_key (w : Str) : (rd9 (Txt.removeprefix w "-") w = true → ok9 (tl w) = none) ∧ (rd9 (Txt.removeprefix w "-") w = false → ∃ v, ok9 (tl w) = some v ∧ intText? w = some v ∧ w.length ≤ 10) := by
  have len : ∀ x : Str, (decide (1 ≤ (x.length : Int)) && decide ((x.length : Int) ≤ 9)) = (decide (1 ≤ (tl x).length) && decide ((tl x).length ≤ 9)) := fun x => by
    rw [len_tl, show decide (1 ≤ ((tl x).length : Int)) = decide (1 ≤ (tl x).length) from decide_eq_decide.mpr (by omega), show decide (((tl x).length : Int) ≤ 9) = decide ((tl x).length ≤ 9) from decide_eq_decide.mpr (by omega)]
  unfold rd9
  rw [len]
  by_cases hneg : (tl w).head? = some 45
  · rw [rd_neg hneg]
    have hw : decide (tl w = [48]) = false := decide_eq_false fun z => by rw [z] at hneg; cases hneg
    unfold ok9
    rw [if_pos hneg, hw, Bool.not_false, Bool.and_true]
    have hcons : tl w = 45 :: (tl w).tail := by
      cases e : tl w with
      | nil => rw [e] at hneg; cases hneg
      | cons a r =>
        rw [e] at hneg
        rw [Option.some.inj hneg]
        rfl
    unfold neg9
    generalize hr : (tl w).tail = r at hcons
    cases h1 : decide (1 ≤ r.length) && decide (r.length ≤ 9) with
    | false => exact ⟨(fun _ => by rw [Bool.and_false, Bool.false_and]; rfl), fun z => nomatch z⟩
    | true =>
      cases h2 : digB r with
      | false => exact ⟨fun _ => rfl, fun z => nomatch z⟩
      | true =>
        cases h3 : decide (r.head? = some 48) with
        | true => exact ⟨fun _ => rfl, fun z => nomatch z⟩
        | false =>
          rw [Bool.and_eq_true, decide_eq_true_eq, decide_eq_true_eq] at h1
          have hl : w.length = r.length + 1 := by rw [len_tl, hcons]; rfl
          refine ⟨(fun z => nomatch z), fun _ => ⟨_, rfl, intText_neg hcons (digB_all.mp h2) (fun z => ?_) (by omega), by omega⟩⟩
          rw [z] at h1
          exact absurd h1.1 (by decide)
  · rw [rd_pos hneg]
    unfold ok9
    rw [if_neg hneg]
    unfold okNum leadB
    cases h1 : decide (1 ≤ (tl w).length) && decide ((tl w).length ≤ 9) with
    | false => exact ⟨(fun _ => by rw [Bool.and_false, Bool.false_and]; rfl), fun z => nomatch z⟩
    | true =>
      cases h2 : digB (tl w) with
      | false => exact ⟨fun _ => rfl, fun z => nomatch z⟩
      | true =>
        cases h3 : decide ((tl w).head? = some 48) && !decide (tl w = [48]) with
        | true => exact ⟨fun _ => rfl, fun z => nomatch z⟩
        | false =>
          rw [Bool.and_eq_true, decide_eq_true_eq, decide_eq_true_eq] at h1
          refine ⟨(fun z => nomatch z), fun _ => ⟨_, rfl, intText_digits (x := w) (digB_all.mp h2) (fun z => ?_) (by rw [len_tl]; omega), by rw [len_tl]; omega⟩⟩
          have z' : tl w = [] := z
          rw [z'] at h1
          exact absurd h1.1 (by decide)
section
variable {P : Program} {w : World} {K : PySem.W.Frag} {mg : Str → Option Value} {base : Heap}
def RRN : List D → D → Prop := fun ds d => ∃ w : Str, ds = [.str w] ∧ w.length ≤ 1000000 ∧ asc (tl w) ∧ d = match ok9 (tl w) with
  | some v => .int v
  | none => .non
theorem ev_noDig {φ : Addr → Prop} {J : Hp → Prop} {ρ : List (Option D)} {te : TE} {k : Nat} {x : Str} (h : EvD K φ J te ρ (.str x)) (hz : x.length ≤ 1000000) (hk : ∀ d : D, ((wipeR ρ [k]).set k (some d))[k]? = some (some d)) :
    EvD K φ J (tLc (iStr te) (gName k) (tTest (tOp rNotInS (tVar k) (tC (.str "0123456789")))) (tVar k) [k]) ρ (.lst ((strD x).filter noDig)) :=
  (ev_lcF (k := k) (p := noDig) (f := fun d => d) (it_str h) (by unfold strD; rw [List.length_map, Array.length_toList]; exact hz) (fun d hd φ' J' hx => by
    obtain ⟨c, hc, rfl⟩ := List.mem_map.mp hd
    refine (et_test (ev_notInS (c := c) (ev_var (hk _)) ev_str)).is ?_
    rw [mem_digits]
    show _ = !([c].all fun c => decide (48 ≤ c ∧ c ≤ 57))
    rw [List.all_cons, List.all_nil, Bool.and_true]) fun d hd pd φ' J' hx => ev_var (hk _)).is (congrArg D.lst (List.map_id' _))
theorem sc_read_number : FnScope ["word", "digits", "wrong", "char"] ["word"] (defScope s_read_number) := ⟨rfl, rfl, rfl, by decide +kernel, rfl, by decide +kernel, by decide +kernel⟩
theorem ok_read_number (B : Bi mg) (C : Cs mg) {f : Addr} {fd : FuncData} (F : Fun K "read_number" "read_number" s_read_number f fd) : FnOk P w K mg base CX0 1 f fd ["word"] (SpD K 1 RRN) := by
  have S := sc_read_number
  refine fn_ok F S rfl 3 rfl fun cdv A outer s H E hr => ⟨_, ((pss_cons (ps_set (i := 1) S.nd rfl (by first | exact Or.inl rfl | exact Or.inr rfl) (pe_m1 PySem.F.slot_str_removeprefix PySem.F.type_str_removeprefix mu_removeprefix (pv 0) pe_str))
 (pss_cons (ps_setLc (i := 2) (own := [("char", 3)]) (g := (gName 3)) (by rfl) S.nd rfl rfl (sw_true rfl rfl rfl (by decide +kernel)) (pi_str (pv 1)) (blkOk_by (N := ["word", "digits", "wrong", "char"]) (sc := defScope s_read_number) (own := [("char", 3)]) (by decide +kernel)) (fun _ _ _ _ _ => (pg_name (i := 3) S.nd rfl (by first | exact Or.inl rfl | exact Or.inr rfl))) (fun _ _ _ _ _ => pts_one (pt_cmpR op_notInS (pv 3) (pe_cst C.DIGITS_rules) rfl)) (fun _ _ _ _ _ => (pv 3)))
 (pss_cons (ps_if (PW.pt (pw_or (pt_not (pt_chain op_le op_le pe_int (pe_callB c_lenS (by rfl) B.len (by decide +kernel) (pa_cons (pv 1) pa_nil)) pe_int)) (pw_or (pt_cmpR (op_neD hr.units) (pv 2) (pe_lst pa_nil) (nomark _)) (pw_or1 (PW.pt (pw_and (pt_cmpR op_eq (pe_ix ix_str (pv 1) pe_int (fun _ _ => rfl)) pe_str (nomark _)) (pw_and1 (pt_cmpR op_ne (pv 0) pe_str (nomark _)))))))))
 (pss_one (ps_ret pe_non))
 pss_nil)
 (pss_one (ps_ret (pe_callTy c_intS (by rfl) B.int (by decide +kernel) (pa_cons (pv 0) pa_nil)))))))), fun φ ds d H D0 σ hl hR hrt _ A => ?_⟩
  obtain ⟨w, rfl, hz, ha, rfl⟩ := hR
  replace A : At K φ (Same H) [some (.str w), none, none, none] σ H := A
  obtain ⟨key1, key2⟩ := rd9_key w
  have hxl : (Txt.removeprefix w "-").length ≤ 1000000 := by
    by_cases h : (tl w).head? = some 45
    · rw [len_tl, rd_neg h, List.length_tail, ← len_tl]
      omega
    · rw [rd_pos h]
      exact hz
  have hxa : asc (tl (Txt.removeprefix w "-")) := by
    by_cases h : (tl w).head? = some 45
    · rw [rd_neg h]
      exact fun x hx => ha x (List.mem_of_mem_tail hx)
    · rw [rd_pos h]
      exact ha
  refine q (st_set A (ev_removeprefix (ev_var rfl) ev_str hz) fun σ1 H1 A1 => ?_)
  generalize Txt.removeprefix w "-" = x at key1 key2 hxl hxa A1
  replace A1 : At K φ (Same H) [some (.str w), some (.str x), none, none] σ1 H1 := A1
  dsimp only
  refine q (st_set A1 (ev_noDig (k := 3) (ev_var (i := 1) rfl) hxl fun _ => rfl) fun σ2 H2 A2 => ?_)
  replace A2 : At K φ (Same H) [some (.str w), some (.str x), some (.lst ((strD x).filter noDig)), none] σ2 H2 := A2
  dsimp only
  refine q (st_if A2 ((et_or (et_not (et_test (ev_chainI ev_int (ev_lenS (ev_var (i := 1) rfl) hxl) ev_int))) fun hb1 => et_or (b := !digB (tl x)) (c := decide ((tl x).head? = some 48) && !decide (tl w = [48])) ((et_test (ev_neQ (ev_var (i := 2) rfl) (ev_lst ea_nil) (okq_chars (asc_strOk hxa) _) rfl)).is (by rw [eqvD_nil, noDig_empty])) fun hb2 => ?_).is (c := rd9 x w) rfl) (fun hb H3 A3 => ?_) (fun hb H3 A3 => st_next ?_))
  · cases e : tl x with
    | nil =>
      exfalso
      have h0 : x.length = 0 := by rw [len_tl, e]; rfl
      rw [h0] at hb1
      exact absurd hb1 (by decide)
    | cons a r =>
      refine (et_and (et_test (ev_eqS (ev_ixStr (ev_var (i := 1) rfl) ev_int hxl (by rw [e]; exact atI_ofNat (i := 0) rfl)) ev_str)) fun _ => et_test (ev_neS (ev_var (i := 0) rfl) ev_str)).is ?_
      rw [str_eq_tl, str_eq_tl, lit_0, show tl (⟨#[a]⟩ : Str) = [a] from rfl, show tl (⟨#[48]⟩ : Str) = [48] from rfl, List.head?_cons]
      congr 1
      rw [decide_eq_decide]
      constructor
      · intro h; injection h with h; rw [h]
      · intro h; injection h with h; rw [h]
  · rw [key1 hb.symm] at hrt
    exact st_ret A3 ev_non fun v d H4 e A4 r => hrt v H4 A4.j (by rw [e] at r; exact r)
  · obtain ⟨v, hv, hi, hl5⟩ := key2 hb.symm
    rw [hv] at hrt
    exact st_ret A3 (ev_intS (ev_var (i := 0) rfl) hi (by omega)) fun v d H4 e A4 r => hrt v H4 A4.j (by rw [e] at r; exact r)
end
end

/-! ### the reader of conditions -/
structure TReader (K : PySem.W.Frag) (mg : Str → Option Value) (C : Addr) : Prop where
  cl : Cls K C
  n_words : NoAttr K C "words"
  n_at : NoAttr K C "at"
  mgC : mg "Reader" = some (.ref C)
structure TRules (K : PySem.W.Frag) (mg : Str → Option Value) (C : Addr) : Prop where
  cl : Cls K C
  n_rules : NoAttr K C "rules"
  mgC : mg "Rules" = some (.ref C)
structure TStr (K : PySem.W.Frag) (mg : Str → Option Value) (x : Str) (a : Addr) (ss : List Str) : Prop where
  c : ∃ u, mg x = some u ∧ RelV (.ref a) u
  w : WrT K a (ss.map V.str)
def C_FIELDS : List Str := ["power", "megahertz", "mast", "x", "y", "gain"]
def C_SIGNS : List Str := ["<", "<=", "=", ">=", ">", "!="]
section
open TL
theorem lk_hit {f : Str} {v : V} {r : List (Str × V)} : ((f, v) :: r).lookup f = some v := by simp [List.lookup]
theorem lk_miss {f g : Str} {v : V} {r : List (Str × V)} (h : (g == f) = false) : ((f, v) :: r).lookup g = r.lookup g := by simp [List.lookup, h]
theorem pf_hit {f : Str} {v u : V} {r : List (Str × V)} : putF f v ((f, u) :: r) = (f, v) :: r := if_pos rfl
theorem pf_miss {f g : Str} {v u : V} {r : List (Str × V)} (h : ¬ g = f) : putF f v ((g, u) :: r) = (g, u) :: putF f v r := if_neg h
def G50 : List V → Nat → List (Str × V) := fun sv k => [("words", sv.getD 0 .non), ("at", .int (k : Int))]
theorem G50_words {sv : List V} {k : Nat} : (G50 sv k).lookup ("words" : Str) = some (sv.getD 0 .non) := lk_hit
theorem G50_at {sv : List V} {k : Nat} : (G50 sv k).lookup ("at" : Str) = some (.int (k : Int)) := (lk_miss (by decide +kernel)).trans lk_hit
theorem G50_put {sv : List V} {k n : Nat} : putF "at" (.int ((k : Int) + (n : Int))) (G50 sv k) = G50 sv (k + n) := by
  show putF "at" (.int ((k : Int) + (n : Int))) [(("words" : Str), sv.getD 0 .non), ("at", .int (k : Int))] = _
  rw [pf_miss (by decide +kernel), pf_hit]
  rfl
def WordsOk (ws : List Str) : Prop := ws.length ≤ 1000000 ∧ ∀ w ∈ ws, w.length ≤ 1000000 ∧ asc (tl w)
/-- the next word -/
def nw (ws : List Str) (k : Nat) : Str := ws.getD k ""
def cmpW (a b c : Str) : D := if a ∈ C_FIELDS ∧ b ∈ C_SIGNS then (match ok9 (tl c) with
  | some v => .tup [.str "compare", .str a, .str b, .int v]
  | none => .non) else .non
def threeW : List Str → D
  | [a, b, c] => cmpW a b c
  | _ => .non
def cmpT (ws : List Str) (k : Nat) : D := threeW ((ws.drop k).take 3)
def loopT (f : Nat → D × Nat) (w : Str) (ws : List Str) : Nat → Nat → List D → List D × Nat
  | 0, k, acc => (acc, k)
  | n + 1, k, acc => if nw ws k = w then loopT f w ws n (f (k + 1)).2 (acc ++ [(f (k + 1)).1]) else (acc, k)
def oneT (w : Str) : List D → D
  | [d] => d
  | ps => .tup [.str w, .lst ps]
def finT (w : Str) (ps : List D) : D := if ps.any isNon = true then .non else oneT w ps
def joinT (f : Nat → D × Nat) (w : Str) (ws : List Str) (k : Nat) : D × Nat :=
  (finT w (loopT f w ws ws.length (f k).2 [(f k).1]).1, (loopT f w ws ws.length (f k).2 [(f k).1]).2)
def andT (f : Nat → D × Nat) (ws : List Str) : Nat → D × Nat := joinT f "and" ws
def orT (f : Nat → D × Nat) (ws : List Str) : Nat → D × Nat := joinT (andT f ws) "or" ws
def singleT (ws : List Str) : Nat → Nat → D × Nat
  | 0, k => if nw ws k = "not" ∨ nw ws k = "(" then (.non, k) else (cmpT ws k, k + 3)
  | r + 1, k => if nw ws k = "not" then (if isNon (singleT ws r (k + 1)).1 = true then .non else .tup [.str "not", (singleT ws r (k + 1)).1], (singleT ws r (k + 1)).2)
    else if nw ws k = "(" then (if nw ws (orT (singleT ws r) ws (k + 1)).2 = ")" then ((orT (singleT ws r) ws (k + 1)).1, (orT (singleT ws r) ws (k + 1)).2 + 1) else (.non, (orT (singleT ws r) ws (k + 1)).2))
    else (cmpT ws k, k + 3)
/-- a reading goes on, and comes to None or a tuple -/
def Fwd (f : Nat → D × Nat) : Prop := ∀ k, k ≤ (f k).2 ∧ TN (f k).1
theorem nw_lt {ws : List Str} {k : Nat} {w : Str} (h : nw ws k = w) (hw : w ≠ "") : k < ws.length := by
  by_cases hk : k < ws.length
  · exact hk
  · exfalso
    apply hw
    rw [← h]
    unfold nw
    rw [List.getD_eq_getElem?_getD, List.getElem?_eq_none (by omega)]
    rfl
theorem loopT_ge {f : Nat → D × Nat} {w : Str} {ws : List Str} (F : Fwd f) : ∀ (n k : Nat) (acc : List D), k ≤ (loopT f w ws n k acc).2
  | 0, k, acc => Nat.le_refl _
  | n + 1, k, acc => by
    unfold loopT
    split
    · have := loopT_ge (w := w) (ws := ws) F n (f (k + 1)).2 (acc ++ [(f (k + 1)).1])
      have := (F (k + 1)).1
      omega
    · exact Nat.le_refl _
theorem loopT_tn {f : Nat → D × Nat} {w : Str} {ws : List Str} (F : Fwd f) : ∀ (n k : Nat) (acc : List D), (∀ d ∈ acc, TN d) → ∀ d ∈ (loopT f w ws n k acc).1, TN d
  | 0, k, acc, h => h
  | n + 1, k, acc, h => by
    unfold loopT
    split
    · refine loopT_tn F n _ _ fun d hd => ?_
      rcases List.mem_append.mp hd with hd | hd
      · exact h d hd
      · rw [List.mem_singleton.mp hd]
        exact (F _).2
    · exact h
theorem finT_tn {w : Str} {ps : List D} (h : ∀ d ∈ ps, TN d) : TN (finT w ps) := by
  unfold finT
  split
  · exact .inl rfl
  · unfold oneT
    split
    · exact h _ List.mem_cons_self
    · exact .inr ⟨_, rfl⟩
theorem joinT_fwd {f : Nat → D × Nat} {w : Str} {ws : List Str} (F : Fwd f) : Fwd (joinT f w ws) := fun k => by
  refine ⟨Nat.le_trans (F k).1 (loopT_ge F _ _ _), finT_tn (loopT_tn F _ _ _ fun d hd => ?_)⟩
  rw [List.mem_singleton.mp hd]
  exact (F k).2
theorem cmpT_tn {ws : List Str} {k : Nat} : TN (cmpT ws k) := by
  unfold cmpT threeW
  split
  · unfold cmpW
    split
    · split
      · exact .inr ⟨_, rfl⟩
      · exact .inl rfl
    · exact .inl rfl
  · exact .inl rfl
theorem singleT_fwd {ws : List Str} : ∀ r, Fwd (singleT ws r)
  | 0 => fun k => by
    unfold singleT
    split
    · exact ⟨Nat.le_refl _, .inl rfl⟩
    · exact ⟨Nat.le_add_right _ _, cmpT_tn⟩
  | r + 1 => fun k => by
    have F := singleT_fwd (ws := ws) r
    have G : Fwd (orT (singleT ws r) ws) := joinT_fwd (joinT_fwd F)
    have h1 := (F (k + 1)).1
    have h2 := (G (k + 1)).1
    unfold singleT
    split
    · refine ⟨by dsimp only; omega, ?_⟩
      dsimp only
      split
      · exact .inl rfl
      · exact .inr ⟨_, rfl⟩
    · split
      · split
        · exact ⟨by dsimp only; omega, (G (k + 1)).2⟩
        · exact ⟨by dsimp only; omega, .inl rfl⟩
      · exact ⟨Nat.le_add_right _ _, cmpT_tn⟩
/-- with fuel enough it is the same -/
theorem loopT_fuel {f : Nat → D × Nat} {w : Str} {ws : List Str} (F : Fwd f) (hw : w ≠ "") : ∀ (n m k : Nat) (acc : List D), ws.length ≤ k + n → ws.length ≤ k + m → loopT f w ws n k acc = loopT f w ws m k acc
  | 0, 0, k, acc, _, _ => rfl
  | 0, m + 1, k, acc, h1, _ => by
    unfold loopT
    rw [if_neg fun z => by have := nw_lt z hw; omega]
  | n + 1, 0, k, acc, _, h2 => by
    unfold loopT
    rw [if_neg fun z => by have := nw_lt z hw; omega]
  | n + 1, m + 1, k, acc, h1, h2 => by
    unfold loopT
    have := (F (k + 1)).1
    split
    · exact loopT_fuel F hw n m _ _ (by omega) (by omega)
    · rfl
def sdW (ws : List Str) : List D := [.lst (ws.map D.str)]
def RNext : List D → Nat → List D → (D × Nat) ⊕ Addr → Prop := fun sd k ds o => ∃ ws, sd = sdW ws ∧ WordsOk ws ∧ ds = [] ∧ o = .inl (.str (nw ws k), k)
def RComp : List D → Nat → List D → (D × Nat) ⊕ Addr → Prop := fun sd k ds o => ∃ ws, sd = sdW ws ∧ WordsOk ws ∧ ds = [] ∧ o = .inl (cmpT ws k, k + 3)
/-- a method told by a reading; with n = 0 it is never called -/
def RSing (n : Nat) : List D → Nat → List D → (D × Nat) ⊕ Addr → Prop := fun sd k ds o => ∃ ws r, n = r + 1 ∧ sd = sdW ws ∧ WordsOk ws ∧ r ≤ 40 ∧ ds = [.int (40 - (r : Int))] ∧ o = .inl (singleT ws r k)
def RJoin (w : Str) (g : (Nat → D × Nat) → List Str → Nat → D × Nat) (n : Nat) : List D → Nat → List D → (D × Nat) ⊕ Addr → Prop := fun sd k ds o => ∃ ws r, n = r + 1 ∧ sd = sdW ws ∧ WordsOk ws ∧ r ≤ 40 ∧ ds = [.str w, .int (40 - (r : Int))] ∧ o = .inl (g (singleT ws r) ws k)
def idT (f : Nat → D × Nat) (_ : List Str) : Nat → D × Nat := f
section
variable {ι : Type} {K : PySem.W.Frag} {φ : Addr → Prop} {J : ι → Hp → Prop} {ρ : List (Option D)} {i : ι} {o : (D × ι) ⊕ Addr} {ta tb : TE} {E : XK}
theorem em_if {tt : TT} {p : Bool → Prop} (hc : EvT K φ (J i) tt ρ p) (h1 : p true → EvM K φ J E ta ρ i o) (h2 : p false → EvM K φ J E tb ρ i o) : EvM K φ J E (tIf tt ta tb) ρ i o := fun σ H A Q ok bad =>
  hc σ H A _ fun b H1 b1 A1 pb => by
    cases b with
    | true => exact h1 pb σ H1 A1 Q (fun d i' e v H' b' => ok d i' e v H' (b1.trans b')) fun c e i' H' b' => bad c e i' H' (b1.trans b')
    | false => exact h2 pb σ H1 A1 Q (fun d i' e v H' b' => ok d i' e v H' (b1.trans b')) fun c e i' H' b' => bad c e i' H' (b1.trans b')
end
section
variable {P : Program} {w : World} {K : PySem.W.Frag} {mg : Str → Option Value} {base : Heap}
section
variable {φ : Addr → Prop} {p C dx : Addr} {sv : List V} {J : Nat → Hp → Prop} {ws : List Str} {ρ : List (Option D)} {k i : Nat}
theorem ev_words (T : ObjF K φ p C dx (G50 sv) (sdW ws) sv J) (TC : TReader K mg C) (hk : ρ[k]? = some (some (.raw (.ref p)))) : EvD K φ (J i) (tFld K (tVar k) "words") ρ (.lst (ws.map D.str)) := ev_fldO T hk TC.cl TC.n_words G50_words fun H j => by
  obtain ⟨v, r, rfl, h1, _⟩ := T.sr _ _ j
  exact h1
theorem ev_at (T : ObjF K φ p C dx (G50 sv) (sdW ws) sv J) (TC : TReader K mg C) (hk : ρ[k]? = some (some (.raw (.ref p)))) : EvD K φ (J i) (tFld K (tVar k) "at") ρ (.int (i : Int)) := ev_fldO T hk TC.cl TC.n_at G50_at fun H j => rfl
theorem no50 {sv : List V} {m : Str} (h1 : (m == ("words" : Str)) = false) (h2 : (m == ("at" : Str)) = false) : ∀ i, (G50 sv i).lookup m = none := fun i => (lk_miss h1).trans ((lk_miss h2).trans rfl)
theorem ev_next {E E' : XK} (T : ObjF K φ p C dx (G50 sv) (sdW ws) sv J) (W : WordsOk ws) (hk : ρ[k]? = some (some (.raw (.ref p)))) : EvD K φ (J i) (tMeth C "next_word" (SpO K C G50 0 RNext) [] E' (tVar k) tNil) ρ (.str (nw ws i)) :=
  evd_em (E := E) (em_meth0 T hk (no50 (by decide +kernel) (by decide +kernel)) ema_nil ⟨ws, rfl, W, rfl, rfl⟩)
end
theorem sc_Reader_next_word : FnScope ["self"] ["self"] (defScope s_Reader_next_word) := ⟨rfl, rfl, rfl, by decide +kernel, rfl, by decide +kernel, by decide +kernel⟩
theorem ok_Reader_next_word (B : Bi mg) {CT : Addr} (T_Reader : TReader K mg CT) {f : Addr} {fd : FuncData} (F : Fun K "next_word" "Reader.next_word" s_Reader_next_word f fd) : FnOk P w K mg base CX0 1 f fd ["self"] (SpO K CT G50 0 RNext) := by
  have S := sc_Reader_next_word
  refine fn_okO0 F S rfl 0 rfl (fun sd i ds o ⟨_, _, _, _, h⟩ => ⟨_, _, h⟩) fun cdv A outer s H E hr => ⟨_, ((pss_one (ps_ret (pe_ifExp (pt_cmpR op_lt (pe_fld (pv 0) rfl) (pe_callB c_len (by rfl) B.len (by decide +kernel) (pa_cons (pe_fld (pv 0) rfl) pa_nil)) (nomark _)) (pe_ix ix_list (pe_fld (pv 0) rfl) (pe_fld (pv 0) rfl) (fun _ _ => rfl)) pe_str)))), fun φ p dx sd sv J k ds d i' H D0 σ hl hR T hrt A => ?_⟩
  obtain ⟨ws, rfl, W, rfl, e⟩ := hR
  cases e
  replace A : At K φ (J k) [some (.raw (.ref p))] σ H := A
  refine st_ret A (ev_if (P := fun d => d = .str (nw ws k)) (et_test (ev_lt (ev_at T T_Reader rfl) (ev_lenL (ds := ws.map D.str) (ev_words T T_Reader rfl)))) (fun hb => ?_) (fun hb => ?_)) fun v d H1 e A1 r => hrt v H1 A1.j (by rw [e] at r; exact r)
  · have hb := decide_eq_true_iff.mp hb.symm
    rw [List.length_map] at hb
    have hlt : k < ws.length := by omega
    refine ev_ixL (d := .str (nw ws k)) (ev_words T T_Reader rfl) (ev_at T T_Reader rfl) (atI_ofNat ?_)
    unfold nw
    rw [List.getElem?_map, List.getD_eq_getElem?_getD, List.getElem?_eq_getElem hlt]
    rfl
  · have hb : ¬ ((k : Int) < ((ws.map D.str).length : Int)) := fun z => by rw [decide_eq_true z] at hb; cases hb
    rw [List.length_map] at hb
    refine ev_str.is ?_
    unfold nw
    rw [List.getD_eq_getElem?_getD, List.getElem?_eq_none (by omega)]
    rfl
theorem cut3 {α : Type} (xs : List α) (k : Nat) : cutD xs (some (k : Int)) (some ((k : Int) + 3)) = (xs.drop k).take 3 := by
  unfold cutD
  have h1 : HT.sIx xs.length 0 (some (k : Int)) = min k xs.length := by
    simp [HT.sIx]
    omega
  have h2 : HT.sIx xs.length xs.length (some ((k : Int) + 3)) = min (k + 3) xs.length := by
    simp [HT.sIx]
    rw [if_neg (by omega)]
    omega
  rw [h1, h2]
  by_cases h : k ≤ xs.length
  · rw [Nat.min_eq_left h]
    by_cases h3 : k + 3 ≤ xs.length
    · rw [Nat.min_eq_left h3, show k + 3 - k = 3 by omega]
    · rw [Nat.min_eq_right (by omega), List.take_of_length_le (by rw [List.length_drop]; exact Nat.le_refl _), List.take_of_length_le (by rw [List.length_drop]; omega)]
  · rw [Nat.min_eq_right (by omega), Nat.min_eq_right (by omega), Nat.sub_self, List.take_zero, List.drop_eq_nil_of_le (show xs.length ≤ k by omega)]
    rfl
theorem sc_Reader_comparison : FnScope ["self", "words", "number"] ["self"] (defScope s_Reader_comparison) := ⟨rfl, rfl, rfl, by decide +kernel, rfl, by decide +kernel, by decide +kernel⟩
theorem ok_Reader_comparison (B : Bi mg) {a_FIELDS a_SIGNS : Addr} (Y_FIELDS : TStr K mg "FIELDS" a_FIELDS C_FIELDS) (Y_SIGNS : TStr K mg "SIGNS" a_SIGNS C_SIGNS) {CT : Addr} (T_Reader : TReader K mg CT) {f g : Addr} {fd gd : FuncData} (F : Fun K "comparison" "Reader.comparison" s_Reader_comparison f fd)
    (L_read_number : Lk K mg "read_number" g gd ["word"]) (G_read_number : FnOk P w K mg base CX0 1 g gd ["word"] (SpD K 1 RRN)) : FnOk P w K mg base CX0 2 f fd ["self"] (SpO K CT G50 0 RComp) := by
  have S := sc_Reader_comparison
  refine fn_okO0 F S rfl 2 rfl (fun sd i ds o ⟨_, _, _, _, h⟩ => ⟨_, _, h⟩) fun cdv A outer s H E hr => ⟨_, ((pss_cons (ps_set (i := 1) S.nd rfl (by first | exact Or.inl rfl | exact Or.inr rfl) (pe_slice sl_list (pe_fld (pv 0) rfl) (po_some (pe_fld (pv 0) rfl)) (po_some (pe_op op_add (pe_fld (pv 0) rfl) pe_int))))
 (pss_cons (ps_fldaug (pv 0) pe_int in_add)
 (pss_cons (ps_if (PW.pt (pw_or (pt_cmpR op_ne (pe_callB c_len (by rfl) B.len (by decide +kernel) (pa_cons (pv 1) pa_nil)) pe_int (nomark _)) (pw_or (pt_cmpR op_notIn_seq (pe_ix ix_list (pv 1) pe_int (fun _ _ => rfl)) (pe_cst Y_FIELDS.c) (by rfl)) (pw_or1 (pt_cmpR op_notIn_seq (pe_ix ix_list (pv 1) pe_int (fun _ _ => rfl)) (pe_cst Y_SIGNS.c) (by rfl))))))
 (pss_one (ps_ret pe_non))
 pss_nil)
 (pss_cons (ps_set (i := 2) S.nd rfl (by first | exact Or.inl rfl | exact Or.inr rfl) (pe_call G_read_number (hr.mono (by first | exact Nat.le_refl _ | decide | omega)) (by rfl) L_read_number.m L_read_number.kp L_read_number.bi .nil pass0 (pa_cons (pe_ix ix_list (pv 1) pe_int (fun _ _ => rfl)) pa_nil)))
 (pss_one (ps_ret (pe_ifExp (pt_cmpR op_isN1 (pv 2) pe_non (nomark _)) pe_non (pe_tup (pa_cons pe_str (pa_cons (pe_ix ix_list (pv 1) pe_int (fun _ _ => rfl)) (pa_cons (pe_ix ix_list (pv 1) pe_int (fun _ _ => rfl)) (pa_cons (pv 2) pa_nil))))))))))))), fun φ p dx sd sv J k ds d i' H D0 σ hl hR T hrt A => ?_⟩
  obtain ⟨ws, rfl, W, rfl, e⟩ := hR
  cases e
  replace A : At K φ (J k) [some (.raw (.ref p)), none, none] σ H := A
  refine q (st_set (d := .lst (((ws.drop k).take 3).map D.str)) A ((ev_slL (ev_words (k := 0) T T_Reader rfl) (eo_some (ev_at (k := 0) T T_Reader rfl)) (eo_some (ev_add (ev_at (k := 0) T T_Reader rfl) ev_int))).is (by rw [cut3, List.map_take, List.map_drop])) fun σ1 H1 A1 => q ?_)
  replace A1 : At K φ (J k) [some (.raw (.ref p)), some (.lst (((ws.drop k).take 3).map D.str)), none] σ1 H1 := A1
  refine st_fldAug (i' := k + 3) T A1 rfl T_Reader.cl T_Reader.n_at G50_at (G50_put (n := 3)) (by show 2 < 1000; decide) fun H2 b2 A2 => q ?_
  unfold cmpT at hrt
  have hmem : ∀ x ∈ (ws.drop k).take 3, x ∈ ws := fun x hx => List.mem_of_mem_drop (List.mem_of_mem_take hx)
  have hlen : ((ws.drop k).take 3).length ≤ 3 := by rw [List.length_take]; omega
  generalize (ws.drop k).take 3 = us at A2 hrt hmem hlen
  have bad : us.length ≠ 3 → threeW us = D.non := fun h => by
    unfold threeW
    split
    · exact absurd rfl h
    · rfl
  by_cases h3 : us.length = 3
  · obtain ⟨a, b, c, rfl⟩ : ∃ a b c, us = [a, b, c] := by
      match us, h3 with
      | [a, b, c], _ => exact ⟨a, b, c, rfl⟩
    replace hrt : ∀ v H', J (k + 3) H' → Rep K φ H' (cmpW a b c) v → D0.rt v H' := hrt
    refine st_if A2 ((et_or (b := false) ((et_test (ev_neI (ev_lenL (ev_var (i := 1) rfl)) ev_int)).is (by rw [List.length_map]; rfl)) fun _ => et_or (et_test (ev_notInGS (ev_ixL (ev_var (i := 1) rfl) ev_int rfl) Y_FIELDS.w)) fun _ => et_test (ev_notInGS (ev_ixL (ev_var (i := 1) rfl) ev_int rfl) Y_SIGNS.w)).is (c := !decide (a ∈ C_FIELDS ∧ b ∈ C_SIGNS)) (by
        by_cases h1 : a ∈ C_FIELDS <;> by_cases h2 : b ∈ C_SIGNS <;> simp [h1, h2])) (fun hb H3 A3 => ?_) (fun hb H3 A3 => st_next (q ?_))
    · have hb : ¬ (a ∈ C_FIELDS ∧ b ∈ C_SIGNS) := by
        have hb : true = !decide (a ∈ C_FIELDS ∧ b ∈ C_SIGNS) := hb
        intro z
        rw [decide_eq_true z] at hb
        cases hb
      refine st_ret A3 ev_non fun v d H4 e A4 r => hrt v H4 A4.j (by
        unfold cmpW
        rw [if_neg hb]
        rw [e] at r
        exact r)
    · have hb : a ∈ C_FIELDS ∧ b ∈ C_SIGNS := by
        have hb : false = !decide (a ∈ C_FIELDS ∧ b ∈ C_SIGNS) := hb
        by_cases z : a ∈ C_FIELDS ∧ b ∈ C_SIGNS
        · exact z
        · rw [decide_eq_false z] at hb
          cases hb
      obtain ⟨cl, ca⟩ := W.2 c (hmem c (by simp))
      have e2 : cmpW a b c = match ok9 (tl c) with
        | some v => .tup [.str "compare", .str a, .str b, .int v]
        | none => .non := if_pos hb
      rw [e2] at hrt
      refine st_set (d := match ok9 (tl c) with
        | some v => .int v
        | none => .non) A3 (ev_callD (ea_cons (ev_ixL (d := .str c) (ev_var (i := 1) rfl) ev_int rfl) ea_nil) ⟨c, rfl, cl, ca, rfl⟩) fun σ4 H4 A4 => ?_
      refine st_ret A4 (ev_if (P := fun d => d = match ok9 (tl c) with
        | some v => .tup [.str "compare", .str a, .str b, .int v]
        | none => .non) (et_test (ev_isN (ev_var (i := 2) rfl))) (fun hn => ?_) fun hn => ?_) fun v d H5 e A5 r => hrt v H5 A5.j (by rw [e] at r; exact r)
      · cases h : ok9 (tl c) with
        | none => exact ev_non
        | some v => rw [h] at hn; cases hn
      · cases h : ok9 (tl c) with
        | none => rw [h] at hn; cases hn
        | some v => exact ev_tup (ea_cons ev_str (ea_cons (ev_ixL (ev_var (i := 1) rfl) ev_int rfl) (ea_cons (ev_ixL (ev_var (i := 1) rfl) ev_int rfl) (ea_cons (ev_var (i := 2) rfl) ea_nil))))
  · rw [bad h3] at hrt
    refine st_if A2 ((et_or (b := true) (c := true) ((et_test (ev_neI (ev_lenL (ev_var (i := 1) rfl)) ev_int)).is (by rw [List.length_map]; simp; omega)) fun z => nomatch z).is (c := true) rfl) (fun hb H3 A3 => ?_) (fun hb H3 A3 => nomatch hb)
    exact st_ret A3 ev_non fun v d H4 e A4 r => hrt v H4 A4.j (by rw [e] at r; exact r)
theorem sc_Reader_part : FnScope ["self", "word", "depth"] ["self", "word", "depth"] (defScope s_Reader_part) := ⟨rfl, rfl, rfl, by decide +kernel, rfl, by decide +kernel, by decide +kernel⟩
/-- part("and", ..) -/
theorem ok_Reader_partA {CT : Addr} (T_Reader : TReader K mg CT) {f g1 g2 : Addr} {fd gd1 gd2 : FuncData} (F : Fun K "part" "Reader.part" s_Reader_part f fd) {n k : Nat} {sp : Sp}
    (L_Reader_joined : LkM K CT "joined" g1 gd1 ["self", "word", "depth"]) (G_Reader_joined : FnOk P w K mg base CX0 k g1 gd1 ["self", "word", "depth"] sp)
    (L_Reader_single : LkM K CT "single" g2 gd2 ["self", "depth"]) (G_Reader_single : FnOk P w K mg base CX0 k g2 gd2 ["self", "depth"] (SpO K CT G50 1 (RSing n))) : FnOk P w K mg base CX0 (k + 1) f fd ["self", "word", "depth"] (SpO K CT G50 2 (RJoin "and" idT n)) := by
  have S := sc_Reader_part
  refine fn_okO0 F S rfl 0 rfl (fun sd i ds o ⟨_, _, _, _, _, _, _, h⟩ => ⟨_, _, h⟩) fun cdv A outer s H E hr => ⟨_, ((pss_one (ps_ret (pe_ifExp (pt_cmpR op_eq (pv 1) pe_str (nomark _)) (pe_meth (pv 0) T_Reader.cl L_Reader_joined.me G_Reader_joined (hr.mono (by first | exact Nat.le_refl _ | decide | omega)) L_Reader_joined.bi .nil pass0 (pa_cons pe_str (pa_cons (pv 2) pa_nil))) (pe_meth (pv 0) T_Reader.cl L_Reader_single.me G_Reader_single (hr.mono (by first | exact Nat.le_refl _ | decide | omega)) L_Reader_single.bi .nil pass0 (pa_cons (pv 2) pa_nil)))))), fun φ p dx sd sv J k ds d i' H D0 σ hl hR T hrt A => ?_⟩
  obtain ⟨ws, r, rfl, rfl, W, hr40, rfl, e⟩ := hR
  replace A : At K φ (J k) [some (.raw (.ref p)), some (.str "and"), some (.int (40 - (r : Int)))] σ H := A
  refine st_retM (E := E) (o := .inl (d, i')) A (em_if (et_test (ev_eqS (ev_var (i := 1) rfl) ev_str)) (fun hb => nomatch (show true = false from hb.trans (by decide +kernel))) fun hb => em_meth0 (i1 := k) T rfl (no50 (by decide +kernel) (by decide +kernel)) (ema_of (ea_cons (ev_var (i := 2) rfl) ea_nil)) ⟨ws, r, rfl, rfl, W, hr40, rfl, e⟩) (fun v d2 i2 H1 e1 b A1 r1 => ?_) fun c i2 H1 e1 => nomatch e1
  cases e1
  exact hrt v H1 A1.j r1
/-- part("or", ..) -/
theorem ok_Reader_partO {CT : Addr} (T_Reader : TReader K mg CT) {f g1 g2 : Addr} {fd gd1 gd2 : FuncData} (F : Fun K "part" "Reader.part" s_Reader_part f fd) {n k : Nat} {sp : Sp}
    (L_Reader_joined : LkM K CT "joined" g1 gd1 ["self", "word", "depth"]) (G_Reader_joined : FnOk P w K mg base CX0 k g1 gd1 ["self", "word", "depth"] (SpO K CT G50 2 (RJoin "and" andT n)))
    (L_Reader_single : LkM K CT "single" g2 gd2 ["self", "depth"]) (G_Reader_single : FnOk P w K mg base CX0 k g2 gd2 ["self", "depth"] sp) : FnOk P w K mg base CX0 (k + 1) f fd ["self", "word", "depth"] (SpO K CT G50 2 (RJoin "or" andT n)) := by
  have S := sc_Reader_part
  refine fn_okO0 F S rfl 0 rfl (fun sd i ds o ⟨_, _, _, _, _, _, _, h⟩ => ⟨_, _, h⟩) fun cdv A outer s H E hr => ⟨_, ((pss_one (ps_ret (pe_ifExp (pt_cmpR op_eq (pv 1) pe_str (nomark _)) (pe_meth (pv 0) T_Reader.cl L_Reader_joined.me G_Reader_joined (hr.mono (by first | exact Nat.le_refl _ | decide | omega)) L_Reader_joined.bi .nil pass0 (pa_cons pe_str (pa_cons (pv 2) pa_nil))) (pe_meth (pv 0) T_Reader.cl L_Reader_single.me G_Reader_single (hr.mono (by first | exact Nat.le_refl _ | decide | omega)) L_Reader_single.bi .nil pass0 (pa_cons (pv 2) pa_nil)))))), fun φ p dx sd sv J k ds d i' H D0 σ hl hR T hrt A => ?_⟩
  obtain ⟨ws, r, rfl, rfl, W, hr40, rfl, e⟩ := hR
  replace A : At K φ (J k) [some (.raw (.ref p)), some (.str "or"), some (.int (40 - (r : Int)))] σ H := A
  refine st_retM (E := E) (o := .inl (d, i')) A (em_if (et_test (ev_eqS (ev_var (i := 1) rfl) ev_str)) (fun hb => em_meth0 (i1 := k) T rfl (no50 (by decide +kernel) (by decide +kernel)) (ema_of (ea_cons ev_str (ea_cons (ev_var (i := 2) rfl) ea_nil))) ⟨ws, r, rfl, rfl, W, hr40, rfl, e⟩) fun hb => nomatch (show false = true from hb.trans (by decide +kernel))) (fun v d2 i2 H1 e1 b A1 r1 => ?_) fun c i2 H1 e1 => nomatch e1
  cases e1
  exact hrt v H1 A1.j r1
end
end

/-! ### the reader of conditions: joined, single -/
section
open TL
theorem singleT_succ {ws : List Str} {r k : Nat} : singleT ws (r + 1) k = if nw ws k = "not" then (if isNon (singleT ws r (k + 1)).1 = true then .non else .tup [.str "not", (singleT ws r (k + 1)).1], (singleT ws r (k + 1)).2)
    else if nw ws k = "(" then (if nw ws (orT (singleT ws r) ws (k + 1)).2 = ")" then ((orT (singleT ws r) ws (k + 1)).1, (orT (singleT ws r) ws (k + 1)).2 + 1) else (.non, (orT (singleT ws r) ws (k + 1)).2))
    else (cmpT ws k, k + 3) := rfl
section
variable {P : Program} {w : World} {K : PySem.W.Frag} {mg : Str → Option Value} {base : Heap}
theorem sc_Reader_joined : FnScope ["self", "word", "depth", "parts"] ["self", "word", "depth"] (defScope s_Reader_joined) := ⟨rfl, rfl, rfl, by decide +kernel, rfl, by decide +kernel, by decide +kernel⟩
theorem ok_Reader_joined (B : Bi mg) {CT : Addr} (T_Reader : TReader K mg CT) {f g1 g2 : Addr} {fd gd1 gd2 : FuncData} (F : Fun K "joined" "Reader.joined" s_Reader_joined f fd) {n k : Nat} (x : Str) (hx : x ≠ "") (g : (Nat → D × Nat) → List Str → Nat → D × Nat) (hg : ∀ f ws, Fwd f → Fwd (g f ws))
    (L_Reader_next_word : LkM K CT "next_word" g1 gd1 ["self"]) (G_Reader_next_word : FnOk P w K mg base CX0 1 g1 gd1 ["self"] (SpO K CT G50 0 RNext))
    (L_Reader_part : LkM K CT "part" g2 gd2 ["self", "word", "depth"]) (G_Reader_part : FnOk P w K mg base CX0 (k + 1) g2 gd2 ["self", "word", "depth"] (SpO K CT G50 2 (RJoin x g n))) : FnOk P w K mg base CX0 (k + 2) f fd ["self", "word", "depth"] (SpO K CT G50 2 (RJoin x (fun f ws => joinT (g f ws) x ws) n)) := by
  have S := sc_Reader_joined
  refine fn_okO0 F S rfl 1 rfl (fun sd i ds o ⟨_, _, _, _, _, _, _, h⟩ => ⟨_, _, h⟩) fun cdv A outer s H E hr => ⟨_, ((pss_cons (ps_set (i := 3) S.nd rfl (by first | exact Or.inl rfl | exact Or.inr rfl) (pe_lst (pa_cons (pe_meth (pv 0) T_Reader.cl L_Reader_part.me G_Reader_part (hr.mono (by first | exact Nat.le_refl _ | decide | omega)) L_Reader_part.bi .nil pass0 (pa_cons (pv 1) (pa_cons (pv 2) pa_nil))) pa_nil)))
 (pss_cons (ps_while PassesOwn.never (pt_cmpR op_eq (pe_meth0 (pv 0) T_Reader.cl L_Reader_next_word.me G_Reader_next_word (hr.mono (by first | exact Nat.le_refl _ | decide | omega)) L_Reader_next_word.bi .nil pass0 ) (pv 1) (nomark _))
 (pss_cons (ps_fldaug (pv 0) pe_int in_add)
 (pss_one (ps_expr (pe_bm PySem.F.plainAttrs_list PySem.F.slot_list_append PySem.F.type_list_append mt_append (pv 3) (pa_cons (pe_meth (pv 0) T_Reader.cl L_Reader_part.me G_Reader_part (hr.mono (by first | exact Nat.le_refl _ | decide | omega)) L_Reader_part.bi .nil pass0 (pa_cons (pv 1) (pa_cons (pv 2) pa_nil))) pa_nil))))))
 (pss_cons (ps_if (pt_cmpR (op_inNone hr.units1) pe_non (pv 3) (by rfl))
 (pss_one (ps_ret pe_non))
 pss_nil)
 (pss_one (ps_ret (pe_ifExp (pt_cmpR op_eq (pe_callB c_len (by rfl) B.len (by decide +kernel) (pa_cons (pv 3) pa_nil)) pe_int (nomark _)) (pe_ix ix_list (pv 3) pe_int (fun _ _ => rfl)) (pe_tup (pa_cons (pv 1) (pa_cons (pv 3) pa_nil)))))))))), fun φ p dx sd sv J k ds d i' H D0 σ hl hR T hrt A => ?_⟩
  obtain ⟨ws, r, rfl, rfl, W, hr40, rfl, e⟩ := hR
  have ed : d = _ := congrArg Prod.fst (Sum.inl.inj e)
  have ei : i' = _ := congrArg Prod.snd (Sum.inl.inj e)
  subst ed
  subst ei
  have FW : Fwd (g (singleT ws r) ws) := hg _ _ (singleT_fwd r)
  have hRJ : ∀ i, RJoin x g (r + 1) (sdW ws) i [.str x, .int (40 - (r : Int))] (.inl ((g (singleT ws r) ws i).1, (g (singleT ws r) ws i).2)) := fun i => ⟨ws, r, rfl, rfl, W, hr40, rfl, rfl⟩
  replace hrt : ∀ v H', J (joinT (g (singleT ws r) ws) x ws k).2 H' → Rep K φ H' (joinT (g (singleT ws r) ws) x ws k).1 v → D0.rt v H' := hrt
  generalize hf : g (singleT ws r) ws = fT at FW hRJ hrt
  unfold joinT at hrt
  replace A : At K φ (J k) [some (.raw (.ref p)), some (.str x), some (.int (40 - (r : Int))), none] σ H := A
  refine q (st_newM (E := E) (k := 3) T A (ema_cons (em_meth0 T rfl (no50 (by decide +kernel) (by decide +kernel)) (ema_of (ea_cons (ev_var (i := 1) rfl) (ea_cons (ev_var (i := 2) rfl) ea_nil))) (hRJ k)) ema_nil) (Nat.le_of_ble_eq_true rfl) fun l 𝒥 σ1 H1 L I A1 => q ?_)
  replace A1 : At K (wo φ l) (𝒥 (fT k).2) [some (.raw (.ref p)), some (.str x), some (.int (40 - (r : Int))), some (.raw (.ref l))] σ1 H1 := A1
  have step1 : ∀ m kk (ys : List D), nw ws kk ≠ x → loopT fT x ws m kk ys = (ys, kk) := fun m kk ys h => by
    cases m with
    | zero => rfl
    | succ m =>
      unfold loopT
      rw [if_neg h]
  have tn0 : ∀ d ∈ [(fT k).1], TN d := fun d hd => by
    rw [List.mem_singleton.mp hd]
    exact (FW k).2
  refine st_while A1 (fun m ρ' J' => ∃ 𝒥 ys kk, J' = 𝒥 kk ∧ ρ' = [some (.raw (.ref p)), some (.str x), some (.int (40 - (r : Int))), some (.raw (.ref l))] ∧ InL K φ (sdW ws) sv J l ys 𝒥 ∧ (∀ d ∈ ys, TN d) ∧ m = ws.length - kk ∧ ys.length + m ≤ ws.length + 1 ∧ loopT fT x ws m kk ys = loopT fT x ws ws.length (fT k).2 [(fT k).1]) (ws.length - (fT k).2)
    ⟨𝒥, _, _, rfl, rfl, I, tn0, rfl, (by show 1 + _ ≤ _; omega), loopT_fuel FW hx _ _ _ _ (by omega) (by omega)⟩ ?_
  rintro m ρ' J' ⟨𝒥, ys, kk, rfl, rfl, I, tn, hm, hy, hlo⟩
  have T' := I.obj L
  refine ⟨_, et_test (ev_eqS (ev_next (E := E) T'.but W rfl) (ev_var (i := 1) rfl)), fun hp σ' H' A' N hN => ?_, fun hp σ' H' A' => ?_⟩
  · have hp : nw ws kk = x := decide_eq_true_iff.mp hp.symm
    have hlt := nw_lt hp hx
    have hw1 := W.1
    obtain ⟨m, rfl⟩ : ∃ m', m = m' + 1 := ⟨m - 1, by omega⟩
    have fw := (FW (kk + 1)).1
    have b0 := A'.j.2
    refine q (st_fldAug (i' := kk + 1) T' (At.objBut T' A') rfl T_Reader.cl T_Reader.n_at G50_at (G50_put (n := 1)) (by show 2 < 1000; decide) fun H2 b2 A2 => ?_)
    refine st_appM (E := E) L I A2 rfl (em_meth0 T' rfl (no50 (by decide +kernel) (by decide +kernel)) (ema_of (ea_cons (ev_var (i := 1) rfl) (ea_cons (ev_var (i := 2) rfl) ea_nil))) (hRJ (kk + 1))) (by omega) fun 𝒥2 H3 I2 b3 A3 => ?_
    refine hN (ws.length - (fT (kk + 1)).2) _ _ (by omega) ⟨_, _, ⟨𝒥2, ys ++ [(fT (kk + 1)).1], (fT (kk + 1)).2, rfl, rfl, I2, fun d hd => ?_, rfl, ?_, ?_⟩, A3.live ⟨A3.j, (b0.trans b2).trans b3⟩ (A3.mono.and (Mo.but ((b0.trans b2).trans b3).tr))⟩
    · rcases List.mem_append.mp hd with hd | hd
      · exact tn d hd
      · rw [List.mem_singleton.mp hd]
        exact (FW _).2
    · rw [List.length_append]
      show ys.length + 1 + _ ≤ _
      omega
    · rw [← hlo]
      conv => rhs; unfold loopT
      rw [if_pos hp]
      exact loopT_fuel FW hx _ _ _ _ (by omega) (by omega)
  · have hp : nw ws kk ≠ x := fun z => by
      have hp : false = decide (nw ws kk = x) := hp
      rw [decide_eq_true z] at hp
      cases hp
    rw [← hlo, step1 m kk ys hp] at hrt
    dsimp only at hrt
    have A2 := I.freeze (k := 3) L (At.objBut T' A') rfl
    replace A2 : At K φ (J kk) [some (.raw (.ref p)), some (.str x), some (.int (40 - (r : Int))), some (.lst ys)] σ' H' := A2
    dsimp only
    refine q (st_if A2 (et_test (ev_inNone (ev_var (i := 3) rfl) tn)) (fun hb H3 A3 => ?_) (fun hb H3 A3 => st_next ?_))
    · refine st_ret A3 ev_non fun v d H4 e A4 r => hrt v H4 A4.j ?_
      unfold finT
      rw [if_pos hb.symm]
      rw [e] at r
      exact r
    · have hb : ys.any isNon = false := Eq.symm hb
      have ef : finT x ys = oneT x ys := if_neg (by rw [hb]; exact Bool.false_ne_true)
      refine st_ret A3 (ev_if (P := fun d => d = finT x ys) (et_test (ev_eqI (ev_lenL (ev_var (i := 3) rfl)) ev_int)) (fun h1 => ?_) fun h1 => ?_) fun v d H4 e A4 r => hrt v H4 A4.j (by rw [e] at r; exact r)
      · have h1 : (ys.length : Int) = 1 := decide_eq_true_iff.mp (Eq.symm h1)
        obtain ⟨d, rfl⟩ : ∃ d, ys = [d] := by
          match ys, (show ys.length = 1 by omega) with
          | [d], _ => exact ⟨d, rfl⟩
        rw [ef]
        exact ev_ixL (ev_var (i := 3) rfl) ev_int rfl
      · have h1 : ¬ (ys.length : Int) = 1 := fun z => by
          have h1 : false = decide ((ys.length : Int) = 1) := h1
          rw [decide_eq_true z] at h1
          cases h1
        rw [ef]
        refine (ev_tup (ea_cons (ev_var (i := 1) rfl) (ea_cons (ev_var (i := 3) rfl) ea_nil))).is ?_
        match ys, h1 with
        | [], _ => rfl
        | [d], h => exact absurd rfl h
        | _ :: _ :: _, _ => rfl
theorem sc_Reader_single : FnScope ["self", "depth", "word", "inner"] ["self", "depth"] (defScope s_Reader_single) := ⟨rfl, rfl, rfl, by decide +kernel, rfl, by decide +kernel, by decide +kernel⟩
theorem ok_Reader_single (B : Bi mg) (C : Cs mg) {CT : Addr} (T_Reader : TReader K mg CT) {f g1 g2 g3 : Addr} {fd gd1 gd2 gd3 : FuncData} (F : Fun K "single" "Reader.single" s_Reader_single f fd) {n k : Nat}
    (L_Reader_next_word : LkM K CT "next_word" g1 gd1 ["self"]) (G_Reader_next_word : FnOk P w K mg base CX0 1 g1 gd1 ["self"] (SpO K CT G50 0 RNext))
    (L_Reader_comparison : LkM K CT "comparison" g3 gd3 ["self"]) (G_Reader_comparison : FnOk P w K mg base CX0 2 g3 gd3 ["self"] (SpO K CT G50 0 RComp))
    (L_Reader_single : LkM K CT "single" f fd ["self", "depth"]) (G_Reader_single : FnOk P w K mg base CX0 (k + 2) f fd ["self", "depth"] (SpO K CT G50 1 (RSing n)))
    (L_Reader_joined : LkM K CT "joined" g2 gd2 ["self", "word", "depth"]) (G_Reader_joined : FnOk P w K mg base CX0 (k + 2) g2 gd2 ["self", "word", "depth"] (SpO K CT G50 2 (RJoin "or" orT n))) : FnOk P w K mg base CX0 (k + 3) f fd ["self", "depth"] (SpO K CT G50 1 (RSing (n + 1))) := by
  have S := sc_Reader_single
  refine fn_okO0 F S rfl 2 rfl (fun sd i ds o ⟨_, _, _, _, _, _, _, h⟩ => ⟨_, _, h⟩) fun cdv A outer s H E hr => ⟨_, ((pss_cons (ps_set (i := 2) S.nd rfl (by first | exact Or.inl rfl | exact Or.inr rfl) (pe_meth0 (pv 0) T_Reader.cl L_Reader_next_word.me G_Reader_next_word (hr.mono (by first | exact Nat.le_refl _ | decide | omega)) L_Reader_next_word.bi .nil pass0 ))
 (pss_cons (ps_if (pt_cmpR op_in_seq (pv 2) (pe_tup (pa_cons pe_str (pa_cons pe_str pa_nil))) (by rfl))
 (pss_cons (ps_if (pt_cmpR op_eq (pv 1) (pe_cst C.MOST_NEST) (nomark _))
 (pss_one (ps_ret pe_non))
 pss_nil)
 (pss_cons (ps_fldaug (pv 0) pe_int in_add)
 (pss_cons (ps_if (pt_cmpR op_eq (pv 2) pe_str (nomark _))
 (pss_cons (ps_set (i := 3) S.nd rfl (by first | exact Or.inl rfl | exact Or.inr rfl) (pe_meth (pv 0) T_Reader.cl L_Reader_single.me G_Reader_single (hr.mono (by first | exact Nat.le_refl _ | decide | omega)) L_Reader_single.bi .nil pass0 (pa_cons (pe_op op_add (pv 1) pe_int) pa_nil)))
 (pss_one (ps_ret (pe_ifExp (pt_cmpR op_isN1 (pv 3) pe_non (nomark _)) pe_non (pe_tup (pa_cons pe_str (pa_cons (pv 3) pa_nil)))))))
 pss_nil)
 (pss_cons (ps_set (i := 3) S.nd rfl (by first | exact Or.inl rfl | exact Or.inr rfl) (pe_meth (pv 0) T_Reader.cl L_Reader_joined.me G_Reader_joined (hr.mono (by first | exact Nat.le_refl _ | decide | omega)) L_Reader_joined.bi .nil pass0 (pa_cons pe_str (pa_cons (pe_op op_add (pv 1) pe_int) pa_nil))))
 (pss_cons (ps_if (pt_cmpR op_ne (pe_meth0 (pv 0) T_Reader.cl L_Reader_next_word.me G_Reader_next_word (hr.mono (by first | exact Nat.le_refl _ | decide | omega)) L_Reader_next_word.bi .nil pass0 ) pe_str (nomark _))
 (pss_one (ps_ret pe_non))
 pss_nil)
 (pss_cons (ps_fldaug (pv 0) pe_int in_add)
 (pss_one (ps_ret (pv 3)))))))))
 pss_nil)
 (pss_one (ps_ret (pe_meth0 (pv 0) T_Reader.cl L_Reader_comparison.me G_Reader_comparison (hr.mono (by first | exact Nat.le_refl _ | decide | omega)) L_Reader_comparison.bi .nil pass0 )))))), fun φ p dx sd sv J k ds d i' H D0 σ hl hR T hrt A => ?_⟩
  obtain ⟨ws, r, hn, rfl, W, hr40, rfl, e⟩ := hR
  have hn : n = r := by omega
  subst hn
  have fin : ∀ z : D × Nat, singleT ws n k = z → ∀ v H', J z.2 H' → Rep K φ H' z.1 v → D0.rt v H' := fun z ez => by
    have e3 := Sum.inl.inj e
    rw [ez] at e3
    rw [← e3]
    exact hrt
  replace A : At K φ (J k) [some (.raw (.ref p)), some (.int (40 - (n : Int))), none, none] σ H := A
  refine q (st_set (d := .str (nw ws k)) A (ev_next (E := E) T W rfl) fun σ1 H1 A1 => q ?_)
  replace A1 : At K φ (J k) [some (.raw (.ref p)), some (.int (40 - (n : Int))), some (.str (nw ws k)), none] σ1 H1 := A1
  refine st_if A1 (et_test (ev_inTS (ys := ["not", "("]) (ev_var (i := 2) rfl) (ev_tup (ea_cons ev_str (ea_cons ev_str ea_nil))))) (fun hb H2 A2 => ?_) (fun hb H2 A2 => st_next ?_)
  · have hb : nw ws k ∈ (["not", "("] : List Str) := decide_eq_true_iff.mp (Eq.symm hb)
    have hb : nw ws k = "not" ∨ nw ws k = "(" := by simpa using hb
    cases n with
    | zero =>
      refine q (st_yes A2 (et_test (ev_eqI (ev_var (i := 1) rfl) ev_int)) (by decide) fun H3 A3 => ?_)
      exact st_ret A3 ev_non fun v d H4 e A4 r => fin (.non, k) (by unfold singleT; rw [if_pos hb]) v H4 A4.j (by rw [e] at r; exact r)
    | succ n =>
      refine q (st_no A2 (et_test (ev_eqI (ev_var (i := 1) rfl) ev_int)) (decide_eq_false (by omega)) fun H3 A3 => st_next (q ?_))
      have hd : (40 : Int) - ((n + 1 : Nat) : Int) + 1 = 40 - (n : Int) := by omega
      have harg : ∀ {J : Nat → Hp → Prop} {o : Option D} {i : Nat}, EvD K φ (J i) (tOp (rI0 fun i j => .int (i + j)) (tVar 1) (tC (.int 1))) [some (.raw (.ref p)), some (.int (40 - ((n + 1 : Nat) : Int))), some (.str (nw ws k)), o] (.int (40 - (n : Int))) := (ev_add (ev_var rfl) ev_int).is (by rw [hd])
      refine st_fldAug (i' := k + 1) T A3 rfl T_Reader.cl T_Reader.n_at G50_at (G50_put (n := 1)) (by show 2 < 1000; decide) fun H4 b4 A4 => q ?_
      refine st_if A4 (et_test (ev_eqS (ev_var (i := 2) rfl) ev_str)) (fun h1 H5 A5 => ?_) (fun h1 H5 A5 => st_next (q ?_))
      · have h1 : nw ws k = "not" := decide_eq_true_iff.mp (Eq.symm h1)
        refine q (st_setM (E := E) (o := .inl ((singleT ws n (k + 1)).1, (singleT ws n (k + 1)).2)) A5 (em_meth0 T rfl (no50 (by decide +kernel) (by decide +kernel)) (ema_of (ea_cons harg ea_nil)) ⟨ws, n, rfl, rfl, W, by omega, rfl, rfl⟩) (fun d i' σ6 H6 e6 b6 A6 => ?_) fun c i' H6 e6 => nomatch e6)
        cases e6
        replace A6 : At K φ (J (singleT ws n (k + 1)).2) [some (.raw (.ref p)), some (.int (40 - ((n + 1 : Nat) : Int))), some (.str (nw ws k)), some (singleT ws n (k + 1)).1] σ6 H6 := A6
        refine st_ret A6 (ev_if (P := fun d => d = if isNon (singleT ws n (k + 1)).1 = true then .non else .tup [.str "not", (singleT ws n (k + 1)).1]) (et_test (ev_isN (ev_var (i := 3) rfl))) (fun hn => ?_) fun hn => ?_) fun v d H7 e A7 r => fin (if isNon (singleT ws n (k + 1)).1 = true then .non else .tup [.str "not", (singleT ws n (k + 1)).1], (singleT ws n (k + 1)).2) (by rw [singleT_succ, if_pos h1]) v H7 A7.j (by rw [e] at r; exact r)
        · rw [if_pos (Eq.symm hn)]
          exact ev_non
        · rw [if_neg (by rw [← (show false = isNon (singleT ws n (k + 1)).1 from hn)]; exact Bool.false_ne_true)]
          exact ev_tup (ea_cons ev_str (ea_cons (ev_var (i := 3) rfl) ea_nil))
      · have h1 : ¬ nw ws k = "not" := fun z => by
          have h1 : false = decide (nw ws k = ("not" : Str)) := h1
          rw [decide_eq_true z] at h1
          cases h1
        have h2 : nw ws k = "(" := hb.resolve_left h1
        refine st_setM (E := E) (o := .inl ((orT (singleT ws n) ws (k + 1)).1, (orT (singleT ws n) ws (k + 1)).2)) A5 (em_meth0 T rfl (no50 (by decide +kernel) (by decide +kernel)) (ema_of (ea_cons ev_str (ea_cons harg ea_nil))) ⟨ws, n, rfl, rfl, W, by omega, rfl, rfl⟩) (fun d i' σ6 H6 e6 b6 A6 => q ?_) fun c i' H6 e6 => nomatch e6
        cases e6
        have sg : singleT ws (n + 1) k = (if nw ws (orT (singleT ws n) ws (k + 1)).2 = ")" then ((orT (singleT ws n) ws (k + 1)).1, (orT (singleT ws n) ws (k + 1)).2 + 1) else (.non, (orT (singleT ws n) ws (k + 1)).2)) := by
          rw [singleT_succ, if_neg h1, if_pos h2]
        generalize orT (singleT ws n) ws (k + 1) = z at A6 sg
        replace A6 : At K φ (J z.2) [some (.raw (.ref p)), some (.int (40 - ((n + 1 : Nat) : Int))), some (.str (nw ws k)), some z.1] σ6 H6 := A6
        refine st_if A6 (et_test (ev_neS (ev_next (E := E) T W rfl) ev_str)) (fun h3 H7 A7 => ?_) (fun h3 H7 A7 => st_next (q ?_))
        · have h3 : ¬ nw ws z.2 = ")" := fun y => by
            have h3 : true = !decide (nw ws z.2 = (")" : Str)) := h3
            rw [decide_eq_true y] at h3
            cases h3
          exact st_ret A7 ev_non fun v d H8 e A8 r => fin (.non, z.2) (by rw [sg, if_neg h3]) v H8 A8.j (by rw [e] at r; exact r)
        · have h3 : nw ws z.2 = ")" := by
            have h3 : false = !decide (nw ws z.2 = (")" : Str)) := h3
            by_cases y : nw ws z.2 = ")"
            · exact y
            · rw [decide_eq_false y] at h3
              cases h3
          refine st_fldAug (i' := z.2 + 1) T A7 rfl T_Reader.cl T_Reader.n_at G50_at (G50_put (n := 1)) (by show 2 < 1000; decide) fun H8 b8 A8 => ?_
          exact st_ret A8 (ev_var (i := 3) rfl) fun v d H9 e A9 r => fin (z.1, z.2 + 1) (by rw [sg, if_pos h3]) v H9 A9.j (by rw [e] at r; exact r)
  · have hb : ¬ (nw ws k = "not" ∨ nw ws k = "(") := fun z => by
      have hb : false = decide (nw ws k ∈ (["not", "("] : List Str)) := hb
      rw [decide_eq_true (by simpa using z)] at hb
      cases hb
    refine st_retM (E := E) (o := .inl (cmpT ws k, k + 3)) A2 (em_meth0 T rfl (no50 (by decide +kernel) (by decide +kernel)) ema_nil ⟨ws, rfl, W, rfl, rfl⟩) (fun v d2 i2 H3 e1 b A3 r1 => ?_) fun c i2 H1 e1 => nomatch e1
    cases e1
    refine fin (cmpT ws k, k + 3) ?_ v H3 A3.j r1
    cases n with
    | zero =>
      unfold singleT
      rw [if_neg hb]
    | succ n =>
      rw [singleT_succ, if_neg fun z => hb (.inl z), if_neg fun z => hb (.inr z)]
end
end

/-! ### read_condition -/
section
open TL
section
variable {P : Program} {w : World} {K : PySem.W.Frag} {mg : Str → Option Value} {base : Heap}
theorem ok_readers (B : Bi mg) (C : Cs mg) {a_FIELDS a_SIGNS : Addr} (Y_FIELDS : TStr K mg "FIELDS" a_FIELDS C_FIELDS) (Y_SIGNS : TStr K mg "SIGNS" a_SIGNS C_SIGNS) {CT : Addr} (T_Reader : TReader K mg CT) {g f1 f2 f3 f4 f5 : Addr} {gd fd1 fd2 fd3 fd4 fd5 : FuncData}
    (F_read_number : Fun K "read_number" "read_number" s_read_number g gd) (L_read_number : Lk K mg "read_number" g gd ["word"])
    (F_next : Fun K "next_word" "Reader.next_word" s_Reader_next_word f1 fd1) (L_next : LkM K CT "next_word" f1 fd1 ["self"])
    (F_joined : Fun K "joined" "Reader.joined" s_Reader_joined f2 fd2) (L_joined : LkM K CT "joined" f2 fd2 ["self", "word", "depth"])
    (F_part : Fun K "part" "Reader.part" s_Reader_part f3 fd3) (L_part : LkM K CT "part" f3 fd3 ["self", "word", "depth"])
    (F_single : Fun K "single" "Reader.single" s_Reader_single f4 fd4) (L_single : LkM K CT "single" f4 fd4 ["self", "depth"])
    (F_comp : Fun K "comparison" "Reader.comparison" s_Reader_comparison f5 fd5) (L_comp : LkM K CT "comparison" f5 fd5 ["self"]) :
    ∀ n, FnOk P w K mg base CX0 (5 * n + 2) f4 fd4 ["self", "depth"] (SpO K CT G50 1 (RSing n)) ∧ FnOk P w K mg base CX0 (5 * n + 6) f2 fd2 ["self", "word", "depth"] (SpO K CT G50 2 (RJoin "or" orT n)) := by
  have hN := ok_Reader_next_word (P := P) (w := w) (base := base) B T_Reader F_next
  have hC := ok_Reader_comparison (P := P) (w := w) (base := base) B Y_FIELDS Y_SIGNS T_Reader F_comp L_read_number (ok_read_number B C F_read_number)
  have up : ∀ n, FnOk P w K mg base CX0 (5 * n + 2) f4 fd4 ["self", "depth"] (SpO K CT G50 1 (RSing n)) → FnOk P w K mg base CX0 (5 * n + 6) f2 fd2 ["self", "word", "depth"] (SpO K CT G50 2 (RJoin "or" orT n)) := fun n h => by
    have pA := ok_Reader_partA (sp := fun _ _ _ _ => False) T_Reader F_part L_joined (fn_never fun _ _ _ _ h => h) L_single h
    have jA : FnOk P w K mg base CX0 (5 * n + 4) f2 fd2 ["self", "word", "depth"] (SpO K CT G50 2 (RJoin "and" andT n)) := ok_Reader_joined B T_Reader F_joined (n := n) "and" (by decide +kernel) idT (fun f ws h => h) L_next hN L_part pA
    have pO := ok_Reader_partO (sp := fun _ _ _ _ => False) T_Reader F_part L_joined jA L_single (fn_never fun _ _ _ _ h => h)
    exact ok_Reader_joined B T_Reader F_joined (n := n) "or" (by decide +kernel) andT (fun f ws h => joinT_fwd h) L_next hN L_part pO
  intro n
  induction n with
  | zero =>
    have h0 : FnOk P w K mg base CX0 (5 * 0 + 2) f4 fd4 ["self", "depth"] (SpO K CT G50 1 (RSing 0)) := fn_never fun vs H Q E h => by
      obtain ⟨_, _, _, _, _, _, _, _, _, _, _, _, _, _, _, _, ⟨_, _, h, _⟩, _⟩ := h
      cases h
    exact ⟨h0, up 0 h0⟩
  | succ n ih =>
    have h1 : FnOk P w K mg base CX0 (5 * (n + 1) + 2) f4 fd4 ["self", "depth"] (SpO K CT G50 1 (RSing (n + 1))) := ok_Reader_single (k := 5 * n + 4) B C T_Reader F_single L_next hN L_comp hC L_single (ih.1.mono (by omega)) L_joined ih.2
    exact ⟨h1, up _ h1⟩
def condT (ws : List Str) : D := if (orT (singleT ws 40) ws 0).2 = ws.length then (orT (singleT ws 40) ws 0).1 else .non
def RCond : List D → D → Prop := fun ds d => ∃ ws, ds = [.lst (ws.map D.str)] ∧ WordsOk ws ∧ d = condT ws
theorem sc_Reader_init : FnScope ["self", "words"] ["self", "words"] (defScope s_Reader___init__) := ⟨rfl, rfl, rfl, by decide +kernel, rfl, by decide +kernel, by decide +kernel⟩
theorem ok_Reader_init {CT : Addr} (T_Reader : TReader K mg CT) {f : Addr} {fd : FuncData} (F : Fun K "__init__" "Reader.__init__" s_Reader___init__ f fd) : FnOk P w K mg base CX0 1 f fd ["self", "words"] (SpI CT 1 fun sv => G50 sv 0) := by
  have S := sc_Reader_init
  refine F.ok S (fun vs H Q E h => ?_) (fun cdv A outer s H vs Q E hr h => ?_)
  · obtain ⟨p, dx, ws, rfl, hl, _⟩ := h
    rw [List.length_cons, hl]
    rfl
  · obtain ⟨p, dx, ws, rfl, hl, hp, k⟩ := h
    obtain ⟨a, rfl⟩ : ∃ a, ws = [a] := by
      match ws, hl with
      | [a], _ => exact ⟨a, rfl⟩
    refine ⟨_, ((pss_cons (ps_fld (pv 0) (pv 1) rfl)
 (pss_one (ps_fld (pv 0) pe_int rfl)))), ?_⟩
    refine ⟨a, rfl, .ref p, rfl, p, CT, dx, [], rfl, hp, T_Reader.cl, T_Reader.n_words, (by decide), ?_⟩
    refine ⟨.ref p, rfl, p, CT, dx, _, rfl, upd_same, T_Reader.cl, T_Reader.n_at, ?_, ?_⟩
    · have := length_putF "words" a []
      have : ([] : List (Str × V)).length = 0 := rfl
      omega
    · refine k _ (fun x o n e => ?_) (by
        rw [upd_same]
        congr 2)
      rw [upd_ne n, upd_ne n]
      exact e
theorem sc_read_condition : FnScope ["words", "reader", "tree"] ["words"] (defScope s_read_condition) := ⟨rfl, rfl, rfl, by decide +kernel, rfl, by decide +kernel, by decide +kernel⟩
theorem ok_read_condition (B : Bi mg) {CT : Addr} (T_Reader : TReader K mg CT) {f f1 g : Addr} {fd fd1 gd : FuncData} (F : Fun K "read_condition" "read_condition" s_read_condition f fd)
    (L_Reader___init__ : LkM K CT "__init__" f1 fd1 ["self", "words"]) (M_Reader : Mk K CT f1) (G_Reader___init__ : FnOk P w K mg base CX0 1 f1 fd1 ["self", "words"] (SpI CT 1 fun sv => G50 sv 0))
    (L_Reader_joined : LkM K CT "joined" g gd ["self", "word", "depth"]) (G_Reader_joined : FnOk P w K mg base CX0 211 g gd ["self", "word", "depth"] (SpO K CT G50 2 (RJoin "or" orT 41))) : FnOk P w K mg base CX0 212 f fd ["words"] (SpD K 1 RCond) := by
  have S := sc_read_condition
  refine fn_ok F S rfl 2 rfl fun cdv A outer s H E hr => ⟨_, ((pss_cons (ps_set (i := 1) S.nd rfl (by first | exact Or.inl rfl | exact Or.inr rfl) (pe_make M_Reader G_Reader___init__ (hr.mono (by first | exact Nat.le_refl _ | decide | omega)) (by rfl) T_Reader.mgC L_Reader___init__.bi .nil pass0 (pa_cons (pv 0) pa_nil)))
 (pss_cons (ps_set (i := 2) S.nd rfl (by first | exact Or.inl rfl | exact Or.inr rfl) (pe_meth (pv 1) T_Reader.cl L_Reader_joined.me G_Reader_joined (hr.mono (by first | exact Nat.le_refl _ | decide | omega)) L_Reader_joined.bi .nil pass0 (pa_cons pe_str (pa_cons pe_int pa_nil))))
 (pss_one (ps_ret (pe_ifExp (pt_cmpR op_eq (pe_fld (pv 1) rfl) (pe_callB c_len (by rfl) B.len (by decide +kernel) (pa_cons (pv 0) pa_nil)) (nomark _)) (pv 2) pe_non)))))), fun φ ds d H D0 σ hl hR hrt _ A => ?_⟩
  obtain ⟨ws, rfl, W, rfl⟩ := hR
  replace A : At K φ (Same H) [some (.lst (ws.map D.str)), none, none] σ H := A
  refine q (st_make (G := G50) (i0 := 0) A (ea_cons (ev_var (i := 0) rfl) ea_nil) rfl fun p dx sv J σ1 H1 hp hn T imp A1 => q ?_)
  replace A1 : At K (wo φ p) (J 0) [some (.lst (ws.map D.str)), some (.raw (.ref p)), none] σ1 H1 := A1
  replace T : ObjF K (wo φ p) p CT dx (G50 sv) (sdW ws) sv J := T
  refine st_setM (E := E) (k := 2) (o := .inl ((orT (singleT ws 40) ws 0).1, (orT (singleT ws 40) ws 0).2)) A1 (em_meth0 T rfl (no50 (by decide +kernel) (by decide +kernel)) (ema_of (ea_cons ev_str (ea_cons ev_int ea_nil))) ⟨ws, 40, rfl, rfl, W, Nat.le_refl _, rfl, rfl⟩) (fun d i' σ2 H2 e b2 A2 => ?_) fun c' i' H2 e => nomatch e
  cases e
  unfold condT at hrt
  generalize orT (singleT ws 40) ws 0 = z at A2 hrt
  replace A2 : At K (wo φ p) (J z.2) [some (.lst (ws.map D.str)), some (.raw (.ref p)), some z.1] σ2 H2 := A2
  refine st_ret A2 (ev_if (P := fun d => d = if z.2 = ws.length then z.1 else .non) (et_test (ev_eqI (ev_at (k := 1) T T_Reader rfl) (ev_lenL (ev_var (i := 0) rfl)))) (fun hb => ?_) fun hb => ?_) fun v d' H4 e A4 r => hrt v H4 (imp _ _ A4.j).1 (by
    subst e
    exact Rep.up (fun a o q e => ⟨q.1, e⟩) _ v r)
  · have hb : (z.2 : Int) = ((ws.map D.str).length : Int) := decide_eq_true_iff.mp (Eq.symm hb)
    rw [List.length_map] at hb
    rw [if_pos (by omega)]
    exact ev_var (i := 2) rfl
  · have hb : ¬ (z.2 : Int) = ((ws.map D.str).length : Int) := fun y => by
      have hb : false = decide ((z.2 : Int) = ((ws.map D.str).length : Int)) := hb
      rw [decide_eq_true y] at hb
      cases hb
    rw [List.length_map] at hb
    rw [if_neg (by omega)]
    exact ev_non
end
end

/-! ### displays of dicts with evaluated values; all, any -/
section
variable {K : PySem.W.Frag} {φ : Addr → Prop} {J : Hp → Prop} {ρ : List (Option D)} {te : TE} {Q0 : List (V × V) → Hp → Prop}
inductive EvPs (K : PySem.W.Frag) (φ : Addr → Prop) (J : Hp → Prop) (ρ : List (Option D)) : List (TE × TE) → List (Key × D) → Prop where
  | nil : EvPs K φ J ρ [] []
  | cons {tk tv : TE} {k : Key} {d : D} {trs : List (TE × TE)} {kds : List (Key × D)} : EvD K φ J tk ρ (keyD k) → EvD K φ J tv ρ d → EvPs K φ J ρ trs kds → EvPs K φ J ρ ((tk, tv) :: trs) ((k, d) :: kds)
theorem EvPs.run {σ : L2.St} : ∀ {trs : List (TE × TE)} {kds : List (Key × D)} {H : Hp} {Q : List (V × V) → Hp → Prop}, EvPs K φ J ρ trs kds → At K φ J ρ σ H →
    (∀ vs H', vs.length = kds.length → But φ H H' → At K φ J ρ σ H' → Reps K φ H' (kds.map (·.2)) vs → Q (((kds.map (·.1)).zip vs).map fun kv => (kV kv.1, kv.2)) H') → L2.tPairs trs σ H Q
  | _, _, H, Q, .nil, A, q => q [] H rfl (But.refl _ _) A rfl
  | _, _, H, Q, .cons hk hv hr, A, q => hk σ H A _ fun v1 d1 H1 b1 A1 e1 r1 => hv σ H1 A1 _ fun v2 d2 H2 b2 A2 e2 r2 => by
    subst e1 e2
    have e : v1 = kV _ := keyD_v r1
    subst e
    exact EvPs.run hr A2 fun vs H3 hl b3 A3 r3 => q (v2 :: vs) H3 (by rw [List.length_cons, hl]; rfl) ((b1.trans b2).trans b3) A3 (Reps.cons (r2.mono b3) r3)
theorem merge_new : ∀ {more acc : List (Key × V)}, (∀ kv ∈ more, ∀ p ∈ acc, p.1 ≠ kv.1) → (more.map (·.1)).Nodup → mergeK acc more = acc ++ more
  | [], acc, _, _ => (List.append_nil _).symm
  | kv :: more, acc, h, nd => by
    have e : putK acc kv.1 kv.2 = acc ++ [kv] := by
      unfold putK
      rw [if_neg]
      intro z
      obtain ⟨p, hp, e⟩ := List.any_eq_true.mp z
      exact h kv List.mem_cons_self p hp (decide_eq_true_iff.mp e)
    show mergeK (putK acc kv.1 kv.2) more = _
    have nd2 := List.nodup_cons.mp (show ((kv.1) :: more.map (·.1)).Nodup from nd)
    rw [e, merge_new (fun q hq p hp => ?_) nd2.2, List.append_assoc]
    · rfl
    · rcases List.mem_append.mp hp with hp | hp
      · exact h q (List.mem_cons_of_mem _ hq) p hp
      · rw [List.mem_singleton.mp hp]
        intro z
        exact nd2.1 (List.mem_map.mpr ⟨q, hq, z.symm⟩)
/-- {k: v, ..}, the keys all different -/
theorem ev_dispN {trs : List (TE × TE)} {kds : List (Key × D)} (h : ∀ J' φ', Ext φ J φ' J' → EvPs K φ' J' ρ trs kds) (nd : (kds.map (·.1)).Nodup) (h15 : kds.length ≤ 15) : EvD K φ J (tDisp trs) ρ (dictD kds) := fun σ H A Q q p hp => by
  have ext : Ext φ J (wo φ p) (fun H => J H ∧ H p = some (.dK [])) := ⟨fun _ h => h.1, fun p' s ns hq => ⟨fun z => hq.np z.1, hq.ne, fun H h => hq.ok H h.1, fun H' H'' h k o => ⟨hq.st H' H'' h.1 k o, k _ _ (by
    obtain ⟨_, _, _, _, h1, _⟩ := hq.ok _ A.j
    exact (ne_of_none h1 hp).symm) h.2⟩⟩, fun a p' h => ⟨p', fun e => h H A.j (by rw [e]; exact hp)⟩⟩
  have A1 : At K (wo φ p) (fun H => J H ∧ H p = some (.dK [])) ρ σ (upd H p (.dK [])) := A.newLive hp ⟨A.mono _ _ (fun a o _ e => same_new hp a o e) A.j, upd_same⟩ ((A.mono.up upd_tr).and (Mo.at (by rw [upd_same]; exact fun z => nomatch z)))
  refine EvPs.run (h _ _ ext) A1 fun vs H3 hl b3 A3 r3 => ⟨A3.j.2, _, rfl, ?_, ?_⟩
  · rw [List.length_zip, List.length_map, hl]
    omega
  · have hm : mergeK [] ((kds.map (·.1)).zip vs) = (kds.map (·.1)).zip vs := by
      rw [merge_new (fun _ _ p hp => by cases hp)]
      · rfl
      · rw [List.map_fst_zip (by rw [List.length_map, hl]; exact Nat.le_refl _)]
        exact nd
    rw [hm]
    have np : ¬ wo φ p p := fun z => z.2 rfl
    have bb : But φ H (upd H3 p (.dK ((kds.map (·.1)).zip vs))) := ⟨fun a o pa e => by
      have ne := ne_of_none e hp
      rw [upd_ne ne]
      exact b3.keep a o ⟨pa, ne⟩ (by rw [upd_ne ne]; exact e), fun a h => upd_tr a (b3.tr a (upd_tr a h))⟩
    have jj : J (upd H3 p (.dK ((kds.map (·.1)).zip vs))) := A.mono H3 _ (fun a o h e => by
      rw [upd_ne (show a ≠ p from fun z => h (by rw [z]; exact hp))]
      exact e) A3.j.1
    have rs : Reps K φ (upd H3 p (.dK ((kds.map (·.1)).zip vs))) (kds.map (·.2)) vs := Reps.up (fun a o q e => by
      refine ⟨q.1, ?_⟩
      rw [upd_ne q.2]
      exact e) _ _ r3
    exact q (.ref p) _ _ bb ⟨A.sr.up (Up.of bb), A3.fr.fst.upd (fun _ h => nomatch h), jj, A.mono.up bb.tr⟩ rfl (DKind.rep.mpr ⟨p, vs, rfl, ⟨A.fr.new p hp, upd_same, by rw [List.length_map, List.length_map]⟩, rs⟩)
theorem reps_bls {H : Hp} : ∀ {bs : List Bool} {vs : List V}, Reps K φ H (bs.map D.bl) vs → vs = bs.map V.bl
  | [], _, r => r
  | b :: bs, _, r => by
    obtain ⟨v, vs', rfl, r1, r2⟩ := r
    rw [reps_bls r2]
    cases (show v = .bl b from r1)
    rfl
theorem ev_all {bs : List Bool} (ha : EvD K φ J te ρ (.lst (bs.map D.bl))) : EvD K φ J (tCB (rAll K) (tCons te tNil)) ρ (.bl (bs.all id)) := ev_cbD (ea_cons ha ea_nil) fun H vs f r Q q => by
  obtain ⟨v, rfl, r1⟩ := r.one
  obtain ⟨a, vs, rfl, p, rs⟩ := rep_lst r1
  exact ⟨a, bs, rfl, by rw [← reps_bls rs]; exact p.sq, q _ _ H (Same.refl H) rfl rfl⟩
theorem ev_any {bs : List Bool} (ha : EvD K φ J te ρ (.lst (bs.map D.bl))) : EvD K φ J (tCB (rAny K) (tCons te tNil)) ρ (.bl (bs.any id)) := ev_cbD (ea_cons ha ea_nil) fun H vs f r Q q => by
  obtain ⟨v, rfl, r1⟩ := r.one
  obtain ⟨a, vs, rfl, p, rs⟩ := rep_lst r1
  exact ⟨a, bs, rfl, by rw [← reps_bls rs]; exact p.sq, q _ _ H (Same.refl H) rfl rfl⟩
end

/-! ### is_name -/
section
open TL
theorem ps_never {X : Cx} {st : Stmt} : PS X st (fun _ _ _ => False) := ⟨fun _ _ _ _ _ _ h => h.elim⟩
def letB (c : Nat) : Bool := decide (c ∈ tl ("abcdefghijklmnopqrstuvwxyz" : Str))
def digC (c : Nat) : Bool := decide (c ∈ tl ("0123456789" : Str))
def noNm : D → Bool
  | .str s => !letB ((tl s).headD 0) && !digC ((tl s).headD 0)
  | _ => false
def nameB (s : Str) (m : Int) : Bool := !(!(decide (1 ≤ (s.length : Int)) && decide ((s.length : Int) ≤ m)) || !letB ((tl s).headD 0)) && ((strD s).filter noNm).isEmpty
def RName : List D → D → Prop := fun ds d => ∃ (s : Str) (m : Int), ds = [.str s, .int m] ∧ s.length ≤ 1000000 ∧ PyData.strOk s = true ∧ d = .bl (nameB s m)
section
variable {P : Program} {w : World} {K : PySem.W.Frag} {mg : Str → Option Value} {base : Heap}
theorem sc_is_name : FnScope ["value", "most", "char"] ["value", "most"] (defScope s_is_name) := ⟨rfl, rfl, rfl, by decide +kernel, rfl, by decide +kernel, by decide +kernel⟩
theorem ok_is_name (B : Bi mg) (C : Cs mg) {f : Addr} {fd : FuncData} (F : Fun K "is_name" "is_name" s_is_name f fd) : FnOk P w K mg base CX0 1 f fd ["value", "most"] (SpD K 2 RName) := by
  have S := sc_is_name
  refine fn_ok F S rfl 1 rfl fun cdv A outer s H E hr => ⟨_, ((pss_cons (ps_if (PW.pt (pw_or (pt_not (pt_val (pe_callB call_isi (by rfl) B.isinstance (by decide +kernel) (pa_cons (pv 0) (pa_cons (pe_ty (n := "str") B.str (by decide +kernel)) pa_nil))))) (pw_or (pt_not (pt_chain op_le op_le pe_int (pe_callB c_lenS (by rfl) B.len (by decide +kernel) (pa_cons (pv 0) pa_nil)) (pv 1))) (pw_or1 (pt_cmpR op_notInS (pe_ix ix_str (pv 0) pe_int (fun _ _ => rfl)) (pe_cst C.LETTERS) rfl)))))
 (pss_one (ps_ret pe_bl))
 pss_nil)
 (pss_one (ps_ret (pe_cmpR (op_eqD hr.units) (pe_lc (own := [("char", 2)]) (g := (gName 2)) (by rfl) S.nd (pi_str (pv 0)) (blkOk_by (N := ["value", "most", "char"]) (sc := defScope s_is_name) (own := [("char", 2)]) (by decide +kernel)) (fun _ _ _ _ _ => (pg_name (i := 2) S.nd rfl (by first | exact Or.inl rfl | exact Or.inr rfl))) (fun _ _ _ _ _ => pts_one (PW.pt (pw_and (pt_cmpR op_notInS (pv 2) (pe_cst C.LETTERS) rfl) (pw_and1 (pt_cmpR op_notInS (pv 2) (pe_cst C.DIGITS_networks) rfl))))) (fun _ _ _ _ _ => (pv 2))) (pe_lst pa_nil) (nomark _)))))), fun φ ds d H D0 σ hl hR hrt _ A => ?_⟩
  obtain ⟨s, m, rfl, hz, hok, rfl⟩ := hR
  replace A : At K φ (Same H) [some (.str s), some (.int m), none] σ H := A
  refine q (st_if A ((et_or (b := false) ((et_not (et_B (ev_isi (ev_var (i := 0) rfl) ev_ty rfl))).is rfl) fun _ => et_or (et_not (et_test (ev_chainI ev_int (ev_lenS (ev_var (i := 0) rfl) hz) (ev_var (i := 1) rfl)))) (c := !letB ((tl s).headD 0)) fun hb2 => ?_).is (c := !(decide (1 ≤ (s.length : Int)) && decide ((s.length : Int) ≤ m)) || !letB ((tl s).headD 0)) (by rw [Bool.false_or])) (fun hb H1 A1 => ?_) (fun hb H1 A1 => st_next ?_))
  · cases e : tl s with
    | nil =>
      exfalso
      have h0 : s.length = 0 := by rw [len_tl, e]; rfl
      rw [h0] at hb2
      exact absurd hb2 (by rw [show decide ((1 : Int) ≤ ((0 : Nat) : Int)) = false from rfl]; exact fun z => nomatch z)
    | cons a r => exact et_test (ev_notInS (c := a) (ev_ixStr (ev_var (i := 0) rfl) ev_int hz (by rw [e]; exact atI_ofNat (i := 0) rfl)) ev_str)
  · exact st_ret A1 ev_bl fun v d H4 e A4 r => hrt v H4 A4.j (by
      unfold nameB
      rw [← (show true = _ from hb)]
      rw [e] at r
      exact r)
  · refine st_ret A1 ((ev_eqQ (ev_lcF (k := 2) (p := noNm) (f := fun d => d) (it_str (ev_var (i := 0) rfl)) (by unfold strD; rw [List.length_map, Array.length_toList]; exact hz) (fun d hd φ' J' hx => ?_) fun d hd pd φ' J' hx => ev_var rfl) (ev_lst ea_nil) (by rw [List.map_id']; exact okq_chars hok _) rfl).is (d' := .bl (nameB s m)) ?_) fun v d H4 e A4 r => hrt v H4 A4.j (by rw [e] at r; exact r)
    · obtain ⟨x, hx', rfl⟩ := List.mem_map.mp hd
      exact et_and (et_test (ev_notInS (c := x) (ev_var rfl) ev_str)) fun _ => et_test (ev_notInS (c := x) (ev_var rfl) ev_str)
    · unfold nameB
      rw [← (show false = _ from hb), List.map_id', eqvD_nil]
      rfl
end
end

/-! ### InvalidLine: raised, caught, its line read -/
section
/-- the class, as the written part has it -/
def oexIn (K : PySem.W.Frag) (C : Addr) : Bool := match K.lookup C with
  | some ⟨.type "type", _, .cls cd, sl⟩ => (match cd.mro, sl.toList with
    | .ref C' :: bm, [_, _, _, _, some (.builtin n), _] => (C' == C && n == "ValueError.__new__") && (!cd.hasDel && (cd.hasDict && PySem.HandSPX.refsVE bm))
    | _, _ => false)
  | _ => false
theorem oex_cls {K : PySem.W.Frag} {C : Addr} (q : oexIn K C = true) : ∃ nm q N bs bm sn sub ab col dd k0 k1 k2 k3 k5, K.lookup C = some (excClassObj nm q C N bs bm true sn sub ab col dd k0 k1 k2 k3 k5 "ValueError.__new__") ∧ PySem.HandSPX.refsVE bm = true := by
  unfold oexIn at q
  split at q
  · rename_i dd cd sl ho
    split at q
    · rename_i C' bm k0 k1 k2 k3 n k5 hm hs
      simp only [Bool.and_eq_true, beq_iff_eq, Bool.not_eq_true'] at q
      obtain ⟨⟨rfl, rfl⟩, hdel, hdic, ht⟩ := q
      obtain ⟨nm, bs, mro, ns, qn, hd, sn, sub, ab, col, del⟩ := cd
      dsimp only at hm hdel hdic
      subst hm hdel hdic
      have hsl : sl = #[k0, k1, k2, k3, some (.builtin "ValueError.__new__"), k5] := by
        obtain ⟨l⟩ := sl
        simp only at hs
        rw [hs]
      subst hsl
      exact ⟨nm, qn, ns, bs, bm, sn, sub, ab, col, dd, k0, k1, k2, k3, k5, ho, ht⟩
    · cases q
  · cases q
/-- the facts of the class -/
structure IL (P : Program) (K : PySem.W.Frag) (mg : Str → Option Value) (C fI : Addr) (fd : FuncData) (cc cda : Addr) : Prop where
  sup : SupC P K C fI "InvalidLine.__init__" s_InvalidLine___init__ fd cc cda
  m : mg "InvalidLine" = some (.ref C)
  ic : PySem.W.findIn K (.ref C) "__init__" = some (some (.ref fI))
  ti : PySem.W.typeIn K (.ref fI) = some (.type "function")
  bi : Binds K fd ["self", "line"] []
  nl : PySem.W.findIn K (.ref C) "line" = some none
  xf : XfC K C
  s0 : mg "super" = none
  xm : PySem.W.exmOne K (.ref C) (.ref C) = some true
theorem IL.ok {P : Program} {w : World} {K : PySem.W.Frag} {mg : Str → Option Value} {base : Heap} {C fI cc cda : Addr} {fd : FuncData} (X : IL P K mg C fI fd cc cda) : FnOk P w K mg base CX0 2 fI fd ["self", "line"] (SpIL C "line") := ok_supinit X.sup X.s0 X.nl
section
variable {K : PySem.W.Frag} {φ φ' : Addr → Prop} {J : Hp → Prop} {H H' : Hp} {ρ : List (Option D)} {σ : L2.St} {te : TE} {n : Int} {C : Addr} {D0 : Ends} {W : WX}
/-- raise C(e): the dict of the exception is told -/
theorem st_raiseL (A : At K φ J ρ σ H) (h : EvD K φ J te ρ (.int n)) (k : ∀ d H1 H', But φ H H1 → At K φ J ρ σ H1 → H1 d = none → Same H1 H' → H' d = some (.xd [("line", .int n)]) → W (.ref C) (some d) σ H') :
    tMkO C (SpIL C "line") [] (tCons te tNil) σ H (fun cls d H' => W cls d σ H') :=
  h σ H A _ fun v d' H1 b A1 e r => by
    subst e
    cases (show v = _ from r)
    refine ⟨Nat.le_of_ble_eq_true rfl, fun a ha => ⟨a, .int n, rfl, upd_same, fun dx hdx nda => ⟨rfl, dx, [("line", .int n)], upd_same, ?_, ?_, ?_⟩⟩⟩
    · exact (upd_ne nda).trans upd_same
    · rw [upd_ne nda] at hdx
      exact hdx
    · have hdx' : H1 dx = none := by
        rw [upd_ne nda] at hdx
        exact hdx
      refine k dx H1 _ b A1 hdx' (fun c o e => ?_) upd_same
      have n1 : c ≠ dx := ne_of_none e hdx'
      have n2 : c ≠ a := ne_of_none e ha
      rw [upd_ne n1, del_ne n2, upd_ne n2, upd_ne n1, upd_ne n2]
      exact e
/-- except C as e: return e.line -/
theorem ev_xf {a d : Addr} {k : Nat} {f : Str} {m : Int} (hk : ρ[k]? = some (some (.raw (.ref a)))) (hd : ∀ H, J H → H d = some (.xd [(f, .int m)])) : EvD K φ J (tXf a (.ref C) (some d) C f (tVar k)) ρ (.int m) := fun σ H A Q q => by
  obtain ⟨u, e, r⟩ := A.sr.2 k _ hk
  cases (show u = _ from r)
  exact ⟨_, e, rfl, rfl, d, _, .int m, rfl, hd H A.j, by simp [List.lookup], q _ _ H (But.refl _ _) A rfl rfl⟩
theorem wAs_yes {c : Addr} {C : Value} {i : Nat} {ts : Addr → Value → Option Addr → TS} {d : Option Addr} (hx : PySem.W.exmOne K (.ref c) C = some true)
    (h : ∀ a, H a = none → ts a (.ref c) d { nx := fun σ' H' => D0.nx (σ'.set i none) H', rt := D0.rt, bk := fun σ' H' => D0.bk (σ'.set i none) H', ct := fun σ' H' => D0.ct (σ'.set i none) H' } (σ.set i (some (.ref a))) H) : wAs K C i ts W D0 (.ref c) d σ H := ⟨true, hx, fun _ => h, fun e => nomatch e⟩
end
/-- C(..) whose __init__ may raise -/
def tMakeX (C : Addr) (sp : Sp) (E : L2.St → XK) (t : TA) : TE := fun σ H Q => t σ H fun vs H1 => ∀ x dx, H1 x = none → H1 dx = none → dx ≠ x →
  sp (.ref x :: vs) (upd (upd H1 dx (.own x)) x (.ins C dx [])) (fun v H2 => v = .non ∧ Q (.ref x) H2) (E σ)
section
variable {X : Cx} {CX : CXT} {k : Nat} {f C : Addr} {fd : FuncData} {ps : List Str} {sp : Sp} {E : L2.St → XK} {x : Str} {pos p : Pos} {e : Expr} {es : List Expr} {t : TA}
theorem pe_makeX (M : Mk X.K C f) (F : FnOk X.prog X.w X.K X.mg X.base CX k f fd ps sp) (hr : Room (k + 1) X.A) (hg : Gl X x) (hm : X.mg x = some (.ref C)) (hb : Binds X.K fd ps []) (hx : ∀ σ, PassesAt CX X σ (E σ))
    (ha : PA X (e :: es) t) (hdb : (x == ("__debug__" : Str)) = false := by decide) (he : starEach (e :: es) X.env = (false, eval e X.env) :: starEach es X.env := by rfl) (hpl : (backTo pos (starEach es X.env)).any (·.1) = false := by rfl) :
    PE X (.Call (.Name x p) (e :: es) [] pos) (tMakeX C sp E t) := by
  refine ⟨fun pins s σ H Q I h => ?_⟩
  refine wpAny_Call_Name_kw (ld_glob I hg hm ?_ hdb)
  refine PySem.W.callWith_K (h₀ := X.base) I.ok.mod.kin M.kp (thn (ha.run pos pins s σ H _ I h) fun us s1 ⟨vs, H1, I1, r, q⟩ => ⟨I1.kIn, ?_⟩) he hpl
  show wpAny _ _ (call (.ref C) us) _ _ _
  have hq := q (s1.heap.objs.size + 1) s1.heap.objs.size (I1.hok.fresh (Nat.le_succ _)) (I1.hok.fresh (Nat.le_refl _)) (Nat.ne_of_lt (Nat.lt_succ_self _))
  have I2 := Inv.made (C := C) I1
  have r2 : Vals (V.ref (s1.heap.objs.size + 1) :: vs) (Value.ref (s1.heap.objs.size + 1) :: us) := .cons rfl r
  have hl : (Value.ref (s1.heap.objs.size + 1) :: us).length = ps.length := by
    have e := r2.length
    rw [F.len _ _ _ _ hq] at e
    exact e.symm
  have b := hb { s1 with heap := _ } (Value.ref (s1.heap.objs.size + 1) :: us) I2.kIn (by rw [List.append_nil]; exact hl)
  rw [List.append_nil] at b
  refine wpAny_call (make_map (f := f) I1.kIn M.makes M.init (beq_iff_eq.mp M.fn) (codeAny_mono (F.run _ X.stack _ _ ⟨Value.ref (s1.heap.objs.size + 1) :: us, []⟩ (Value.ref (s1.heap.objs.size + 1) :: us) _ _ (E σ) (hr.make C us [])
    (I2.env0.make C us []) b r2 hq) fun r s' hq' => ?_))
  cases r with
  | error e => exact hx σ pins _ _ e s' I2 hq'
  | ok fl =>
    cases fl with
    | ret u =>
      obtain ⟨v, H', I3, rv, ev, q3⟩ := I2.after hq'
      subst ev
      exact ⟨rv, ⟨V.ref (s1.heap.objs.size + 1), H', I3, rfl, q3⟩⟩
    | next => exact False.elim hq'
    | brk => exact False.elim hq'
    | cont => exact False.elim hq'
end
end

/-! ### Rules: a list that its methods let grow -/
section
open TL
def rulD (z : Str × D) : D := .tup [.str z.1, z.2]
def FR (l : Addr) : List (Str × V) := [("rules", .ref l)]
/-- what stays of an instance of Rules -/
def RP (C p dx l : Addr) (J : Hp → Prop) : Prop := ∀ H, J H → H p = some (.ins C dx (FR l))
section
variable {K : PySem.W.Frag} {φ φ' : Addr → Prop} {J J' : Hp → Prop} {H H' H1 : Hp} {ρ ρ' : List (Option D)} {σ : L2.St} {ta : TA} {te tb : TE} {d : D} {P Pa : D → Prop} {ds : List D} {D0 : Ends} {C p dx l : Addr} {zs : List (Str × D)} {m : Str} {E E' : XK}
/-- methods that tell texts and change nothing -/
def SpQ (K : PySem.W.Frag) (C : Addr) (n : Nat) (R : List (Str × D) → List D → List Str → Prop) : Sp := fun vs H Q _ => ∃ φ p l dx zs ds ws ws' ns, vs = .ref p :: ws ∧ ds.length = n ∧ Reps K φ H ds ws ∧ Frm φ H ∧ H p = some (.ins C dx (FR l)) ∧ H l = some (.lst ws') ∧ Reps K φ H (zs.map rulD) ws' ∧ R zs ds ns ∧
  ∀ v H', Same H H' → Rep K φ H' (.lst (ns.map D.str)) v → Q v H'
theorem ev_callQ {n k : Nat} {R : List (Str × D) → List D → List Str → Prop} {ns : List Str} (hp : RP C p dx l J) (L : ∀ H, J H → ∃ ws, H l = some (.lst ws) ∧ Reps K φ H (zs.map rulD) ws) (hk : ρ[k]? = some (some (.raw (.ref p)))) (hm : (FR l).lookup m = none) (ha : EvAD K φ J ta ρ ds) (hR : R zs ds ns) (hl : ds.length = n := by rfl) :
    EvD K φ J (tMeth C m (SpQ K C n R) [] E' (tVar k) ta) ρ (.lst (ns.map D.str)) := fun σ H A Q q => by
  obtain ⟨v, e, r⟩ := A.sr.2 k _ hk
  cases (show v = _ from r)
  refine ⟨_, e, p, dx, _, rfl, hp _ A.j, hm, ha σ H A _ fun vs ds' H1 b1 A1 e1 r1 => ?_⟩
  subst e1
  obtain ⟨ws, hw, rw'⟩ := L _ A1.j
  exact ⟨φ, p, l, dx, zs, ds', vs, ws, ns, by rw [List.append_nil], hl, r1, A1.fr, hp _ A1.j, hw, rw', hR, fun v H' s r => q v _ H' (b1.trans (But.of s)) (A1.same s) rfl r⟩
/-- take: one rule more, nothing else -/
def SpA (K : PySem.W.Frag) (C : Addr) (n : Nat) (R : List (Str × D) → List D → List (Str × D) → Prop) : Sp := fun vs H Q _ => ∃ φ p l dx zs ds ws ws' zs', vs = .ref p :: ws ∧ ds.length = n ∧ Reps K φ H ds ws ∧ Frm φ H ∧ ¬ φ l ∧ p ≠ l ∧ H p = some (.ins C dx (FR l)) ∧ H l = some (.lst ws') ∧ Reps K φ H (zs.map rulD) ws' ∧ R zs ds zs' ∧
  ∀ H' ws'', ButP l H H' → H' l = some (.lst ws'') → Reps K φ H' (zs'.map rulD) ws'' → Q .non H'
/-- self.rules is the list -/
theorem ev_rules {k : Nat} (hp : RP C p dx l J) (hk : ρ[k]? = some (some (.raw (.ref p)))) (cl : Cls K C) (na : NoAttr K C "rules") : EvD K φ J (tFld K (tVar k) "rules") ρ (.raw (.ref l)) := fun σ H A Q q => by
  obtain ⟨u, e, r⟩ := A.sr.2 k _ hk
  cases (show u = _ from r)
  exact ⟨_, e, p, C, dx, _, .ref l, rfl, hp _ A.j, cl, na, lk_hit, q _ _ H (But.refl _ _) A rfl rfl⟩
theorem en_lcT2F {wi : TI} {k1 k2 : Nat} {tt : TT} {pp : D → Bool} {f : D → D} (hi : IterD K φ J wi ρ ds) (hl : ds.length ≤ 1000000) (hd : ∀ d ∈ ds, ∃ a b, d = .tup [a, b])
    (ht : ∀ a b, .tup [a, b] ∈ ds → ∀ φ' J', Ext φ J φ' J' → EvX K φ' J' tt (((wipeR ρ [k1, k2]).set k1 (some a)).set k2 (some b)) (pp (.tup [a, b])))
    (he : ∀ a b, .tup [a, b] ∈ ds → ∀ φ' J', Ext φ J φ' J' → EvD K φ' J' te (((wipeR ρ [k1, k2]).set k1 (some a)).set k2 (some b)) (f (.tup [a, b]))) :
    EvN K φ J (tLc wi (gTup K 2 (gCons (gName k1) (gCons (gName k2) gNil))) tt te [k1, k2]) ρ (fun x => x = (ds.filter pp).map f) := fun σ H A Q q =>
  (en_lcP (ρd := fun d => match d with | .tup [a, b] => ((wipeR ρ [k1, k2]).set k1 (some a)).set k2 (some b) | _ => ρ) (us := [k1, k2]) (pt := fun d b => b = pp d) (pe := fun d y => y = f d) hi (fun ds' e => by rw [e]; exact hl) (fun _ h => h) (fun ds' e d hm => by
      subst e
      obtain ⟨a, b, rfl⟩ := hd d hm
      exact eg_tup (ds := [a, b]) (egs_cons eg_name (egs_cons eg_name egs_nil)))
    (fun ds' e d hm φ' J' x => by
      subst e
      obtain ⟨a, b, rfl⟩ := hd d hm
      exact ht a b hm φ' J' x) (fun ds' e d hm pd φ' J' x => by
      subst e
      obtain ⟨a, b, rfl⟩ := hd d hm
      exact he a b hm φ' J' x)) σ H A Q fun p vs ys H0 H' b0 A0 hp b A' pd e r => by
      obtain ⟨ds', e1, c⟩ := pd
      subst e1
      exact q p vs ys H0 H' b0 A0 hp b A' c.filter e r
/-- xs.append(..), xs told by any reading; the heap behind it in full -/
theorem st_appF {t0 : TE} (A : At K φ J ρ σ H) (L : LivS K φ J l HO.lst ds) (h0 : EvD K φ J t0 ρ (.raw (.ref l))) (he : EvD K φ J te ρ d) (hz : ds.length ≤ 1000000)
    (kk : ∀ H1 H' ws, J H1 → (∀ a o, a ≠ l → H1 a = some o → H' a = some o) → H' l = some (.lst ws) → Reps K φ H' (ds ++ [d]) ws → D0.nx σ H') : tDrop (tBM K "list" rAppend t0 (tCons te tNil)) D0 σ H := by
  refine h0 σ H A _ fun v0 d0 H0 b0 A0 e0 r0 => ?_
  subst e0
  cases (show v0 = _ from r0)
  obtain ⟨vs, Hb, r, n, k0⟩ := L.ex
  refine ⟨.inl ⟨rfl, _, SqL.of (k0 _ A0.j).1⟩, ?_⟩
  refine he σ H0 A0 _ fun v d' H' b A' e r' => ?_
  subst e
  have rl := r.mono (k0 _ A'.j).2
  refine ⟨l, vs, v, rfl, rfl, (k0 _ A'.j).1, by rw [rl.length]; exact szlt hz, ?_⟩
  have up := (But.refl φ H').upd (o := .lst (vs ++ [v])) L.np
  refine kk H' _ _ A'.j (fun a o na e => ?_) upd_same ((rl.append (Reps.cons r' Reps.nil)).mono up)
  rw [upd_ne na]
  exact e
end
section
variable {PP : Program} {w : World} {K : PySem.W.Frag} {mg : Str → Option Value} {base : Heap} {C : Addr}
theorem fn_okQ {x qual : Str} {st : Stmt} {f : Addr} {fd : FuncData} {N ps : List Str} {k n : Nat} {R : List (Str × D) → List D → List Str → Prop} (cl : Cls K C) (na : NoAttr K C "rules") (F : Fun K x qual st f fd) (S : FnScope N ps (defScope st)) (hn : ps.length = n + 1) (m : Nat) (hm : N.length = n + 1 + m)
    (hbody : ∀ (cdv : Value) (A : Around) (outer : List Env) (s : Shared) (H : Hp) (E : XK), Room k (A.deeper (envOfC qual (defScope st) s.heap.objs.size f cdv)) →
      ∃ t, PSs (cxOf CX0 PP w K mg base N qual (defScope st) f cdv A outer s H E).nox (defBody st) t ∧
        ∀ (φ : Addr → Prop) (p : Addr) (zs : List (Str × D)) (ds : List D) (ns : List Str) (H : Hp) (D0 : Ends) (σ : L2.St), ds.length = n → R zs ds ns → zs.length ≤ 1000000 →
          (∀ ρ : List (Option D), ρ[0]? = some (some (.raw (.ref p))) → EvD K φ (Same H) (tFld K (tVar 0) "rules") ρ (.lst (zs.map rulD))) →
          (∀ v vs H', H v = none → Same H H' → H' v = some (.lst vs) → Reps K φ H' (ns.map D.str) vs → D0.rt (.ref v) H') →
          At K φ (Same H) (some (.raw (.ref p)) :: ds.map some ++ List.replicate m none) σ H → t D0 σ H) :
    FnOk PP w K mg base CX0 (k + 1) f fd ps (SpQ K C n fun zs ds ns => zs.length ≤ 1000000 ∧ R zs ds ns) := by
  refine F.ok S (fun vs H Q E h => ?_) (fun cdv A outer s H vs Q E hr h => ?_)
  · obtain ⟨φ, p, l, dx, zs, ds, ws, ws', ns, rfl, hl, r, _⟩ := h
    rw [List.length_cons, r.length, hl, hn]
  · obtain ⟨φ, p, l, dx, zs, ds, ws, ws', ns, rfl, hl, r, fr, hp, hw, rz, ⟨hz, hR⟩, q⟩ := h
    obtain ⟨t, ht, run⟩ := hbody cdv A outer s H E hr
    have up : Up φ (fun a => φ a ∨ a = l) H H := fun a o p e => ⟨.inl p, e⟩
    have fr1 : Frm (fun a => φ a ∨ a = l) H := ⟨fun a h => .inl (fr.new a h), fun a xs h => .inl (fr.tup a xs h)⟩
    refine ⟨t, ht, run (fun a => φ a ∨ a = l) p zs ds ns H _ _ hl hR hz (fun ρ hk σ H1 A1 Q1 q1 => ?_) (fun v vs H' hv s e rs => q _ H' s ?_) ⟨?_, fr1, Same.refl H, Mo.sames fun _ h => h⟩⟩
    · obtain ⟨u, e, r1⟩ := A1.sr.2 0 _ hk
      cases (show u = _ from r1)
      refine ⟨_, e, p, C, dx, _, .ref l, rfl, A1.j _ _ hp, cl, na, lk_hit, q1 _ _ H1 (But.refl _ _) A1 rfl ⟨l, ws', rfl, .inl ⟨.inr rfl, .inl (A1.j _ _ hw)⟩, ?_⟩⟩
      exact Reps.up (fun a o p e => ⟨.inl p, A1.j _ _ e⟩) _ _ rz
    · refine ⟨v, vs, rfl, .inl ⟨fr.new v hv, .inl e⟩, ?_⟩
      rw [rs.strs]
      exact reps_strs ns
    · have e : N.length - (V.ref p :: ws).length = m := by rw [hm, List.length_cons, r.length, hl]; omega
      unfold L2.start
      rw [e]
      exact SR.start (ds := .raw (.ref p) :: ds) (Reps.cons rfl (Reps.up up ds ws r))
theorem fn_okA {x qual : Str} {st : Stmt} {f : Addr} {fd : FuncData} {N ps : List Str} {k n : Nat} {R : List (Str × D) → List D → List (Str × D) → Prop} (F : Fun K x qual st f fd) (S : FnScope N ps (defScope st)) (hn : ps.length = n + 1) (m : Nat) (hm : N.length = n + 1 + m)
    (hbody : ∀ (cdv : Value) (A : Around) (outer : List Env) (s : Shared) (H : Hp) (E : XK), Room k (A.deeper (envOfC qual (defScope st) s.heap.objs.size f cdv)) →
      ∃ t, PSs (cxOf CX0 PP w K mg base N qual (defScope st) f cdv A outer s H E).nox (defBody st) t ∧
        ∀ (φ : Addr → Prop) (p l dx : Addr) (zs : List (Str × D)) (ds : List D) (zs' : List (Str × D)) (H : Hp) (D0 : Ends) (σ : L2.St), ds.length = n → R zs ds zs' → RP C p dx l (Same H) → LivS K φ (Same H) l HO.lst (zs.map rulD) →
          (∀ σ' H' ws'', ButP l H H' → H' l = some (.lst ws'') → Reps K φ H' (zs'.map rulD) ws'' → D0.nx σ' H') →
          At K φ (Same H) (some (.raw (.ref p)) :: ds.map some ++ List.replicate m none) σ H → t D0 σ H) :
    FnOk PP w K mg base CX0 (k + 1) f fd ps (SpA K C n R) := by
  refine F.ok S (fun vs H Q E h => ?_) (fun cdv A outer s H vs Q E hr h => ?_)
  · obtain ⟨φ, p, l, dx, zs, ds, ws, ws', zs', rfl, hl, r, _⟩ := h
    rw [List.length_cons, r.length, hl, hn]
  · obtain ⟨φ, p, l, dx, zs, ds, ws, ws', zs', rfl, hl, r, fr, nl, ne, hp, hw, rz, hR, q⟩ := h
    obtain ⟨t, ht, run⟩ := hbody cdv A outer s H E hr
    refine ⟨t, ht, run φ p l dx zs ds zs' H _ _ hl hR (fun H' s => s _ _ hp) ⟨nl, ws', H, rz, (by rw [hw]; exact fun z => nomatch z), fun H' s => ⟨s _ _ hw, But.of s⟩⟩ (fun σ' H' ws'' b e r => q H' ws'' b e r) ⟨?_, fr, Same.refl H, Mo.sames fun _ h => h⟩⟩
    have e : N.length - (V.ref p :: ws).length = m := by rw [hm, List.length_cons, r.length, hl]; omega
    unfold L2.start
    rw [e]
    exact SR.start (ds := .raw (.ref p) :: ds) (Reps.cons rfl r)
def RNames : List (Str × D) → List D → List Str → Prop := fun zs ds ns => zs.length ≤ 1000000 ∧ ds = [] ∧ ns = zs.map (·.1)
theorem names_of {zs : List (Str × D)} {d : D} (h : d ∈ zs.map rulD) : ∃ a b, d = .tup [a, b] := by
  obtain ⟨z, _, rfl⟩ := List.mem_map.mp h
  exact ⟨_, _, rfl⟩
theorem sc_Rules_names : FnScope ["self", "name", "_"] ["self"] (defScope s_Rules_names) := ⟨rfl, rfl, rfl, by decide +kernel, rfl, by decide +kernel, by decide +kernel⟩
theorem ok_Rules_names {CT : Addr} (T_Rules : TRules K mg CT) {f : Addr} {fd : FuncData} (F : Fun K "names" "Rules.names" s_Rules_names f fd) : FnOk PP w K mg base CX0 1 f fd ["self"] (SpQ K CT 0 RNames) := by
  have S := sc_Rules_names
  refine fn_okQ T_Rules.cl T_Rules.n_rules F S rfl 2 rfl fun cdv A outer s H E hr => ⟨_, ((pss_one (ps_ret (pe_lc (own := [("name", 1), ("_", 2)]) (g := (gTup K 2 (gCons (gName 1) (gCons (gName 2) gNil)))) (tt := tYes) (by rfl) S.nd (pi_list (pe_fld (pv 0) rfl)) (blkOk_by (N := ["self", "name", "_"]) (sc := defScope s_Rules_names) (own := [("name", 1), ("_", 2)]) (by decide +kernel)) (fun _ _ _ _ _ => (pg_tup (by rfl) (pgs_cons (pg_name (i := 1) S.nd rfl (by first | exact Or.inl rfl | exact Or.inr rfl)) (pgs_cons (pg_name (i := 2) S.nd rfl (by first | exact Or.inl rfl | exact Or.inr rfl)) pgs_nil)))) (fun _ _ _ _ _ => pts_nil) (fun _ _ _ _ _ => (pv 1)))))), fun φ p zs ds ns H D0 σ hl hR hz hs hrt A => ?_⟩
  obtain ⟨rfl, rfl⟩ := hR
  replace A : At K φ (Same H) [some (.raw (.ref p)), none, none] σ H := A
  refine (en_lcT2F (pp := fun _ => true) (f := fun d => match d with
    | .tup [a, _] => a
    | d => d) (it_list (hs _ rfl)) (by rw [List.length_map]; exact hz) (fun d hd => names_of hd) (fun a b hm φ' J' hx => et_yes) fun a b hm φ' J' hx => ev_var rfl) σ H A _ fun a vs ds0 H0 H' b0 A0 hn b A' e1 e2 r => ?_
  subst e1
  rw [List.filter_eq_self.mpr (fun _ _ => rfl), List.map_map] at r
  refine hrt a vs H' ?_ A'.j e2 (by
    rw [List.map_map]
    exact Reps.up (fun b o (p : φ b ∧ b ≠ a) e => ⟨p.1, e⟩) _ _ r)
  cases z : H a with
  | none => rfl
  | some u =>
    rw [A0.j _ _ z] at hn
    cases hn
end
end

/-! ### Rules: take and a new one, with InvalidLine -/
section
open TL
section
variable {K : PySem.W.Frag} {φ : Addr → Prop} {J : Hp → Prop} {ρ : List (Option D)} {ta tb : TE} {H H' : Hp} {σ : L2.St} {D0 : Ends} {l : Addr} {ds : List D} {d : D}
theorem ev_inLS {s : Str} {ys : List Str} (ha : EvD K φ J ta ρ (.str s)) (hb : EvD K φ J tb ρ (.lst (ys.map D.str))) : EvD K φ J (tOp (rIn K false) ta tb) ρ (.bl (decide (s ∈ ys))) := ev_opD ha hb fun H v w _ r1 r2 Q q => by
  cases (show v = _ from r1)
  obtain ⟨a, vs, rfl, p, rs⟩ := rep_lst r2
  have ev := rs.strs
  subst ev
  exact ⟨a, _, rfl, .inl p.sq, rfl, flat_strs' ys, q _ _ H (Same.refl H) rfl (by rw [inV_strs]; rfl)⟩
theorem cut2 {α : Type} (a b : α) (us : List α) : cutD (a :: b :: us) (some 2) none = us := by
  unfold cutD
  have h1 : HT.sIx (a :: b :: us).length 0 (some 2) = 2 := by
    simp [HT.sIx]
  have h2 : HT.sIx (a :: b :: us).length (a :: b :: us).length none = us.length + 2 := rfl
  rw [h1, h2]
  show us.take (us.length + 2 - 2) = us
  rw [Nat.add_sub_cancel, List.take_length]
/-- x = xs.pop() -/
theorem st_popE {k j : Nat} (A : At K φ J ρ σ H) (L : LivS K φ J l HO.lst (ds ++ [d])) (hk : ρ[k]? = some (some (.raw (.ref l))))
    (kk : ∀ J' σ' H', Wr K φ J J' l → LivS K φ J' l HO.lst ds → At K φ J' (ρ.set j (some d)) σ' H' → D0.nx σ' H') : tAsg (tBM0 K "list" rPop (tVar k)) (gName j) D0 σ H :=
  pop_run A L hk fun v J' H' W L' A' r => kk J' _ H' W L' (A'.set j r)
end
/-! #### what take and the reader of lines do -/
def goodW (us : List Str) : Bool := !isNon (condT us)
def headOk : List Str → Bool
  | nm :: c :: u :: us => decide (c = ":") && (nameB nm 12 && goodW (u :: us))
  | _ => false
def takeM (zs : List (Str × D)) (line : Str) : Option (List (Str × D)) := if headOk (Txt.split line " ") = true ∧ (Txt.split line " ").headD "" ∉ zs.map (·.1) then some (zs ++ [((Txt.split line " ").headD "", condT ((Txt.split line " ").drop 2))]) else none
def TakeOk (zs : List (Str × D)) (line : Str) : Prop := line.length ≤ 900000 ∧ asc (tl line) ∧ zs.length ≤ 100000
theorem words_ok5 {t : Str} (hz : t.length ≤ 900000) (ha : asc (tl t)) : WordsOk (Txt.split t " ") := by
  have e : (Txt.split t " ").map tl = splC 32 (tl t) := by
    rw [lit_sp]
    exact tl_split (by decide) t
  refine ⟨?_, word_ok (c := 32) (by omega) ha e⟩
  have := splC_len 32 (tl t)
  rw [← e, List.length_map, ← len_tl] at this
  omega
def blankB (l : Str) : Bool := decide (l = "") || Txt.startswith l "#"
/-- what the text tells: 0, or the number of the faulty line -/
def ToldR (t : Str) (n : Int) : Prop := t.length ≤ 900000 ∧ ∃ (lines : List Str) (last : Str) (zf : Nat → List (Str × D)) (m : Nat), Txt.split t "\n" = lines ++ [last] ∧ lines.length ≤ 1000000 ∧ zf 0 = [] ∧ m ≤ lines.length ∧
  (∀ (i : Nat) (line : Str), i < m → lines[i]? = some line → line.length ≤ 900000 ∧ (if blankB line = true then zf (i + 1) = zf i else TakeOk (zf i) line ∧ takeM (zf i) line = some (zf (i + 1)))) ∧
  (∀ line : Str, lines[m]? = some line → line.length ≤ 900000 ∧ blankB line = false ∧ TakeOk (zf m) line ∧ takeM (zf m) line = none) ∧
  n = (if m < lines.length then ((m : Nat) : Int) + 1 else if last = "" then 0 else ((lines.length : Nat) : Int) + 1)
/-- take -/
def SpTk (K : PySem.W.Frag) (C cE : Addr) : Sp := fun vs H Q E => ∃ φ p l dx zs line num ws', vs = [.ref p, .str line, .int num] ∧ Frm φ H ∧ ¬ φ l ∧ p ≠ l ∧ H p = some (.ins C dx (FR l)) ∧ H l = some (.lst ws') ∧ Reps K φ H (zs.map rulD) ws' ∧ TakeOk zs line ∧
  (∀ zs', takeM zs line = some zs' → ∀ H' ws'', ButP l H H' → H' l = some (.lst ws'') → Reps K φ H' (zs'.map rulD) ws'' → Q .non H') ∧
  (takeM zs line = none → ∀ H' d, Same H H' → H' d = some (.xd [("line", .int num)]) → E (.ref cE) (some d) H')
/-- Rules(t) -/
def SpRl (K : PySem.W.Frag) (C cE : Addr) : Sp := fun vs H Q E => ∃ φ p dx t n, vs = [.ref p, .str t] ∧ Frm φ H ∧ ¬ φ p ∧ H p = some (.ins C dx []) ∧ ToldR t n ∧
  (n = 0 → ∀ H', (∀ a o, a ≠ p → H a = some o → H' a = some o) → Q .non H') ∧
  (n ≠ 0 → ∀ H' d, (∀ a o, a ≠ p → H a = some o → H' a = some o) → H' d = some (.xd [("line", .int n)]) → E (.ref cE) (some d) H')
section
variable {P : Program} {w : World} {K : PySem.W.Frag} {mg : Str → Option Value} {base : Heap}
theorem sc_Rules_take : FnScope ["self", "line", "number", "words", "tree"] ["self", "line", "number"] (defScope s_Rules_take) := ⟨rfl, rfl, rfl, by decide +kernel, rfl, by decide +kernel, by decide +kernel⟩
theorem ok_Rules_take (B : Bi mg) {CT : Addr} (T_Rules : TRules K mg CT) {cE fI cc cda : Addr} {fdI : FuncData} (X_InvalidLine : IL P K mg cE fI fdI cc cda) {f g1 g2 g3 : Addr} {fd gd1 gd2 gd3 : FuncData} (F : Fun K "take" "Rules.take" s_Rules_take f fd)
    (L_is_name : Lk K mg "is_name" g1 gd1 ["value", "most"]) (G_is_name : FnOk P w K mg base CX0 1 g1 gd1 ["value", "most"] (SpD K 2 RName))
    (L_read_condition : Lk K mg "read_condition" g2 gd2 ["words"]) (G_read_condition : FnOk P w K mg base CX0 212 g2 gd2 ["words"] (SpD K 1 RCond))
    (L_Rules_names : LkM K CT "names" g3 gd3 ["self"]) (G_Rules_names : FnOk P w K mg base CX0 1 g3 gd3 ["self"] (SpQ K CT 0 RNames)) : FnOk P w K mg base (L2.CX P w) 213 f fd ["self", "line", "number"] (SpTk K CT cE) := by
  have S := sc_Rules_take
  refine F.okX S (fun vs H Q E h => ?_) (fun cdv A outer s H vs Q E hr h => ?_)
  · obtain ⟨φ, p, l, dx, zs, line, num, ws', rfl, _⟩ := h
    rfl
  obtain ⟨φ, p, l, dx, zs, line, num, ws', rfl, fr, nl, ne, hp0, hw, rz, ⟨hline, hasc, hzl⟩, hyes, hno⟩ := h
  refine ⟨_, ((pss_cons (ps_set (i := 3) S.nd rfl (by first | exact Or.inl rfl | exact Or.inr rfl) (pe_m1 PySem.F.slot_str_split PySem.F.type_str_split mu_split (pv 1) pe_str))
 (pss_cons (ps_if (PW.pt (pw_or (pt_cmpR op_lt (pe_callB c_len (by rfl) B.len (by decide +kernel) (pa_cons (pv 3) pa_nil)) pe_int (nomark _)) (pw_or (pt_cmpR op_ne (pe_ix ix_list (pv 3) pe_int (fun _ _ => rfl)) pe_str (nomark _)) (pw_or (pt_not (pt_val (pe_call G_is_name (hr.mono (by first | exact Nat.le_refl _ | decide | omega)) (by rfl) L_is_name.m L_is_name.kp L_is_name.bi .nil pass0 (pa_cons (pe_ix ix_list (pv 3) pe_int (fun _ _ => rfl)) (pa_cons pe_int pa_nil))))) (pw_or1 (pt_cmpR op_in_seq (pe_ix ix_list (pv 3) pe_int (fun _ _ => rfl)) (pe_meth0 (pv 0) T_Rules.cl L_Rules_names.me G_Rules_names (hr.mono (by first | exact Nat.le_refl _ | decide | omega)) L_Rules_names.bi .nil pass0 ) (by rfl)))))))
 (pss_one (ps_raise rfl (takes_of rfl rfl rfl rfl) (pmk_oex X_InvalidLine.sup.ex X_InvalidLine.ic X_InvalidLine.ti X_InvalidLine.ok (hr.mono (by first | exact Nat.le_refl _ | decide | omega)) X_InvalidLine.bi .nil pass0 (by rfl) X_InvalidLine.m (pa_cons (pv 2) pa_nil))))
 pss_nil)
 (pss_cons (ps_set (i := 4) S.nd rfl (by first | exact Or.inl rfl | exact Or.inr rfl) (pe_call G_read_condition (hr.mono (by first | exact Nat.le_refl _ | decide | omega)) (by rfl) L_read_condition.m L_read_condition.kp L_read_condition.bi .nil pass0 (pa_cons (pe_slice sl_list (pv 3) (po_some pe_int) po_none) pa_nil)))
 (pss_cons (ps_if (pt_cmpR op_isN1 (pv 4) pe_non (nomark _))
 (pss_one (ps_raise rfl (takes_of rfl rfl rfl rfl) (pmk_oex X_InvalidLine.sup.ex X_InvalidLine.ic X_InvalidLine.ti X_InvalidLine.ok (hr.mono (by first | exact Nat.le_refl _ | decide | omega)) X_InvalidLine.bi .nil pass0 (by rfl) X_InvalidLine.m (pa_cons (pv 2) pa_nil))))
 pss_nil)
 (pss_one (ps_expr (pe_bm PySem.F.plainAttrs_list PySem.F.slot_list_append PySem.F.type_list_append mt_append (pe_fld (pv 0) rfl) (pa_cons (pe_tup (pa_cons (pe_ix ix_list (pv 3) pe_int (fun _ _ => rfl)) (pa_cons (pv 4) pa_nil))) pa_nil))))))))), ?_⟩
  have A : At K φ (Same H) [some (.raw (.ref p)), some (.str line), some (.int num), none, none] (L2.start ["self", "line", "number", "words", "tree"] [.ref p, .str line, .int num]) H := ⟨SR.start (ds := [.raw (.ref p), .str line, .int num]) (n := 2) (Reps.cons rfl (Reps.cons rfl (Reps.cons rfl Reps.nil))), fr, Same.refl H, Mo.sames fun _ h => h⟩
  have hp : RP CT p dx l (Same H) := fun H' s => s _ _ hp0
  have L : LivS K φ (Same H) l HO.lst (zs.map rulD) := ⟨nl, ws', H, rz, (by rw [hw]; exact fun z => nomatch z), fun H' s => ⟨s _ _ hw, But.of s⟩⟩
  have hL : ∀ H', Same H H' → ∃ ws, H' l = some (.lst ws) ∧ Reps K φ H' (zs.map rulD) ws := fun H' j => by
    obtain ⟨vs, H0, r, n, k0⟩ := L.ex
    exact ⟨vs, (k0 _ j).1, r.mono (k0 _ j).2⟩
  have W := words_ok5 hline hasc
  have noNm1 : (FR l).lookup ("names" : Str) = none := (lk_miss (by decide +kernel)).trans rfl
  refine q (st_set (d := .lst ((Txt.split line " ").map D.str)) A (ev_splitD (ev_var (i := 1) rfl) ev_str (by rw [lit_sp]; rfl) (by omega)) fun σ1 H1 A1 => ?_)
  replace A1 : At K φ (Same H) [some (.raw (.ref p)), some (.str line), some (.int num), some (.lst ((Txt.split line " ").map D.str)), none] σ1 H1 := A1
  dsimp only
  have key : takeM zs line = if headOk (Txt.split line " ") = true ∧ (Txt.split line " ").headD "" ∉ zs.map (·.1) then some (zs ++ [((Txt.split line " ").headD "", condT ((Txt.split line " ").drop 2))]) else none := rfl
  rw [key] at hyes hno
  clear key
  generalize Txt.split line " " = ws at A1 W hyes hno
  have rs : ∀ {ρ : List (Option D)} {σ H1} {W : WX}, ρ[2]? = some (some (.int num)) → At K φ (Same H) ρ σ H1 → (if headOk ws = true ∧ ws.headD "" ∉ zs.map (·.1) then some (zs ++ [(ws.headD "", condT (ws.drop 2))]) else none) = none → (∀ d H', Same H H' → H' d = some (.xd [("line", .int num)]) → W (.ref cE) (some d) σ H') →
      tMkO cE (SpIL cE "line") [] (tCons (tVar 2) tNil) σ H1 (fun cls d H' => W cls d σ H') := fun hk A e k => st_raiseL A (ev_var hk) fun d H2 H3 b A2 hd s e2 => k d H3 (fun a o h => s a o (A2.j a o h)) e2
  by_cases hlen : ws.length < 3
  · have hn : headOk ws = false := by
      match ws, hlen with
      | [], _ => rfl
      | [_], _ => rfl
      | [_, _], _ => rfl
      | _ :: _ :: _ :: r, h => exact absurd h (by simp only [List.length_cons]; omega)
    have T0 : EvX K φ (Same H) (tTest (tOp (rI0 fun i j => .bl (decide (i < j))) (tCB (rLen K) (tCons (tVar 3) tNil)) (tC (.int 3)))) [some (.raw (.ref p)), some (.str line), some (.int num), some (.lst (ws.map D.str)), none] true := by
      have := et_test (ev_lt (ev_lenL (ev_var (K := K) (φ := φ) (J := Same H) (ρ := [some (.raw (.ref p)), some (.str line), some (.int num), some (.lst (ws.map D.str)), none]) (i := 3) rfl)) (ev_int (i := 3)))
      rw [decide_eq_true (show (((ws.map D.str).length : Int) < 3) by rw [List.length_map]; omega)] at this
      exact this
    refine q (st_yes A1 (et_or (c := true) T0 fun z => nomatch z) rfl fun H2 A2 => ?_)
    refine rs (W := fun cls d _ H' => E cls d H') rfl A2 (if_neg (by rw [hn]; exact fun z => nomatch z.1)) fun d H' s e => hno (if_neg (by rw [hn]; exact fun z => nomatch z.1)) H' d s e
  · obtain ⟨nm, c, u, us, rfl⟩ : ∃ nm c u us, ws = nm :: c :: u :: us := by
      match ws, hlen with
      | [], h => exact absurd (by decide) h
      | [_], h => exact absurd (by simp) h
      | [_, _], h => exact absurd (by simp) h
      | nm :: c :: u :: us, _ => exact ⟨nm, c, u, us, rfl⟩
    have W0 : ∀ {J : Hp → Prop} {o : Option D}, EvD K φ J (tOp (rIxL K) (tVar 3) (tC (.int 0))) [some (.raw (.ref p)), some (.str line), some (.int num), some (.lst ((nm :: c :: u :: us).map D.str)), o] (.str nm) := ev_ixL (ev_var (i := 3) rfl) ev_int (atI_ofNat (i := 0) rfl)
    have W1 : ∀ {J : Hp → Prop} {o : Option D}, EvD K φ J (tOp (rIxL K) (tVar 3) (tC (.int 1))) [some (.raw (.ref p)), some (.str line), some (.int num), some (.lst ((nm :: c :: u :: us).map D.str)), o] (.str c) := ev_ixL (ev_var (i := 3) rfl) ev_int (atI_ofNat (i := 1) rfl)
    have T0 := et_test (ev_lt (ev_lenL (ev_var (K := K) (φ := φ) (J := Same H) (ρ := [some (.raw (.ref p)), some (.str line), some (.int num), some (.lst ((nm :: c :: u :: us).map D.str)), none]) (i := 3) rfl)) (ev_int (i := 3)))
    rw [decide_eq_false (show ¬ ((((nm :: c :: u :: us).map D.str).length : Int) < 3) by rw [List.length_map]; simp only [List.length_cons]; omega)] at T0
    have T1 := et_test (ev_neS (W1 (J := Same H) (o := none)) (ev_str (s := ":")))
    have hnm := W.2 nm List.mem_cons_self
    have T2 := fun E' => et_not (et_B (ev_callD (E := E') (ea_cons (W0 (J := Same H) (o := none)) (ea_cons (ev_int (i := 12)) ea_nil)) (show RName [.str nm, .int 12] (.bl (nameB nm 12)) from ⟨nm, 12, rfl, hnm.1, asc_strOk hnm.2, rfl⟩)))
    have T3 := fun E' => et_test (ev_inLS (W0 (J := Same H) (o := none)) (ev_callQ (R := RNames) (m := "names") (E' := E') (C := CT) (n := 0) (zs := zs) (k := 0) hp hL rfl noNm1 ea_nil ⟨by omega, rfl, rfl⟩))
    refine q (st_if A1 (et_or T0 fun _ => et_or T1 fun _ => et_or (T2 _) fun _ => T3 _) (fun hb H2 A2 => ?_) fun hb H2 A2 => st_next ?_)
    · have hb : true = (false || (!decide (c = ":") || (!nameB nm 12 || decide (nm ∈ zs.map (·.1))))) := hb
      have hn : ¬ (headOk (nm :: c :: u :: us) = true ∧ (nm :: c :: u :: us).headD "" ∉ zs.map (·.1)) := by
        rintro ⟨h1, h2⟩
        have h1 : (decide (c = ":") && (nameB nm 12 && goodW (u :: us))) = true := h1
        have h2 : nm ∉ zs.map (·.1) := h2
        rw [Bool.and_eq_true, Bool.and_eq_true] at h1
        rw [h1.1, h1.2.1, decide_eq_false h2] at hb
        cases hb
      exact rs (W := fun cls d _ H' => E cls d H') rfl A2 (if_neg hn) fun d H' s e => hno (if_neg hn) H' d s e
    · have hb : false = (false || (!decide (c = ":") || (!nameB nm 12 || decide (nm ∈ zs.map (·.1))))) := hb
      rw [Bool.false_or, eq_comm, Bool.or_eq_false_iff, Bool.or_eq_false_iff, Bool.not_eq_false', Bool.not_eq_false', decide_eq_true_eq, decide_eq_false_iff_not] at hb
      obtain ⟨rfl, hn2, hnew⟩ := hb
      have Wu : WordsOk (u :: us) := ⟨by have := W.1; simp only [List.length_cons] at this ⊢; omega, fun x hx => W.2 x (List.mem_cons_of_mem _ (List.mem_cons_of_mem _ hx))⟩
      refine q ?_
      refine st_set (d := condT (u :: us)) A2 (ev_callD (ea_cons (x := .lst ((u :: us).map D.str)) ((ev_slL (ev_var (i := 3) rfl) (eo_some ev_int) eo_none).is (by rw [List.map_cons, List.map_cons, cut2])) ea_nil) ⟨u :: us, rfl, Wu, rfl⟩) fun σ3 H3 A3 => ?_
      replace A3 : At K φ (Same H) [some (.raw (.ref p)), some (.str line), some (.int num), some (.lst ((nm :: ":" :: u :: us).map D.str)), some (condT (u :: us))] σ3 H3 := A3
      dsimp only
      refine q (st_if A3 (et_test (ev_isN (ev_var (i := 4) rfl))) (fun hc H4 A4 => ?_) fun hc H4 A4 => st_next ?_)
      · have hc : true = isNon (condT (u :: us)) := hc
        have hn : ¬ (headOk (nm :: ":" :: u :: us) = true ∧ (nm :: ":" :: u :: us).headD "" ∉ zs.map (·.1)) := by
          rintro ⟨h1, _⟩
          have h1 : (decide ((":" : Str) = ":") && (nameB nm 12 && !isNon (condT (u :: us)))) = true := h1
          rw [← hc, Bool.not_true, Bool.and_false, Bool.and_false] at h1
          cases h1
        exact rs (W := fun cls d _ H' => E cls d H') rfl A4 (if_neg hn) fun d H' s e => hno (if_neg hn) H' d s e
      · have hc : false = isNon (condT (u :: us)) := hc
        have hn : headOk (nm :: ":" :: u :: us) = true ∧ (nm :: ":" :: u :: us).headD "" ∉ zs.map (·.1) := by
          refine ⟨?_, hnew⟩
          show (decide ((":" : Str) = ":") && (nameB nm 12 && !isNon (condT (u :: us)))) = true
          rw [← hc, hn2, decide_eq_true rfl]
          rfl
        refine st_appF A4 L (ev_rules (k := 0) hp rfl T_Rules.cl T_Rules.n_rules) (ev_tup (ea_cons W0 (ea_cons (ev_var (i := 4) rfl) ea_nil))) (by rw [List.length_map]; omega) fun H5 H6 ws s5 k6 e6 r6 => hyes _ (if_pos hn) H6 ws (fun a o na e => k6 a o na (s5 a o e)) e6 ?_
        rw [List.map_append]
        exact r6
end
end

/-! ### Rules(text), with InvalidLine -/
section
open TL
section
variable {P : Program} {w : World} {K : PySem.W.Frag} {mg : Str → Option Value} {base : Heap}
theorem sc_Rules_init : FnScope ["self", "text", "lines", "last", "number", "line"] ["self", "text"] (defScope s_Rules___init__) := ⟨rfl, rfl, rfl, by decide +kernel, rfl, by decide +kernel, by decide +kernel⟩
theorem ok_Rules_init (B : Bi mg) {CT : Addr} (T_Rules : TRules K mg CT) {cE fI cc cda : Addr} {fdI : FuncData} (X_InvalidLine : IL P K mg cE fI fdI cc cda) {f g : Addr} {fd gd : FuncData} (F : Fun K "__init__" "Rules.__init__" s_Rules___init__ f fd)
    (L_Rules_take : LkM K CT "take" g gd ["self", "line", "number"]) (G_Rules_take : FnOk P w K mg base (L2.CX P w) 213 g gd ["self", "line", "number"] (SpTk K CT cE)) : FnOk P w K mg base (L2.CX P w) 214 f fd ["self", "text"] (SpRl K CT cE) := by
  have S := sc_Rules_init
  refine F.okX S (fun vs H Q E h => ?_) (fun cdv A outer s H vs Q E hr h => ?_)
  · obtain ⟨φ, p, dx, t, n, rfl, _⟩ := h
    rfl
  · obtain ⟨φ, p, dx, t, n, rfl, fr, np, hp, ⟨hz, lines, last, zf, m, hsp, hll, z0, hm, hst, hbad, hn⟩, hyes, hno⟩ := h
    refine ⟨_, ((pss_cons (ps_fld (pv 0) (pe_lst pa_nil) rfl)
 (pss_cons (ps_set (i := 2) S.nd rfl (by first | exact Or.inl rfl | exact Or.inr rfl) (pe_m1 PySem.F.slot_str_split PySem.F.type_str_split mu_split (pv 1) pe_str))
 (pss_cons (ps_set (i := 3) S.nd rfl (by first | exact Or.inl rfl | exact Or.inr rfl) (pe_bm0 PySem.F.plainAttrs_list PySem.F.slot_list_pop PySem.F.type_list_pop mt_pop (pv 2)))
 (pss_cons (ps_for (passes_of rfl) rfl (pi_enumS (by rfl) B.enumerate (pv 2) pe_int) (pg_tup (by rfl) (pgs_cons (pg_name (i := 4) S.nd rfl (by first | exact Or.inl rfl | exact Or.inr rfl)) (pgs_cons (pg_name (i := 5) S.nd rfl (by first | exact Or.inl rfl | exact Or.inr rfl)) pgs_nil)))
 (pss_one (ps_if (PW.pt (pw_and (pt_cmpR op_ne (pv 5) pe_str (nomark _)) (pw_and1 (pt_not (pt_val (pe_m1 PySem.F.slot_str_startswith PySem.F.type_str_startswith mu_startswith (pv 5) pe_str))))))
 (pss_one (ps_expr (pe_methX (pv 0) T_Rules.cl L_Rules_take.me G_Rules_take (hr.mono (by first | exact Nat.le_refl _ | decide | omega)) L_Rules_take.bi (fun σ => passAt (takes_of rfl rfl rfl rfl) σ) (pa_cons (pv 5) (pa_cons (pv 4) pa_nil)))))
 pss_nil)))
 (pss_one (ps_if (pt_cmpR op_ne (pv 3) pe_str (nomark _))
 (pss_one (ps_raise rfl (takes_of rfl rfl rfl rfl) (pmk_oex X_InvalidLine.sup.ex X_InvalidLine.ic X_InvalidLine.ti X_InvalidLine.ok (hr.mono (by first | exact Nat.le_refl _ | decide | omega)) X_InvalidLine.bi .nil pass0 (by rfl) X_InvalidLine.m (pa_cons (pe_op op_add (pe_callB c_len (by rfl) B.len (by decide +kernel) (pa_cons (pv 2) pa_nil)) pe_int) pa_nil))))
 pss_nil))))))), ?_⟩
    refine ⟨by decide, fun l hl => ⟨.ref p, rfl, p, CT, dx, [], rfl, (upd_ne (ne_of_none hp hl)).trans hp, T_Rules.cl, T_Rules.n_rules, (by decide), q ?_⟩⟩
    have lp : l ≠ p := (ne_of_none hp hl).symm
    -- what stays, whatever the lists do
    let Bs : Hp → Prop := fun H' => H' p = some (.ins CT dx (FR l)) ∧ ∀ a o, a ≠ p → a ≠ l → H a = some o → H' a = some o
    have keepB : ∀ {H'}, Bs H' → ∀ a o, a ≠ p → H a = some o → H' a = some o := fun {H'} h a o na e => h.2 a o na (ne_of_none e hl) e
    let H1 : Hp := upd (upd H l (.lst [])) p (.ins CT dx (putF "rules" (.ref l) []))
    have e1p : H1 p = some (.ins CT dx (FR l)) := upd_same
    have e1l : H1 l = some (.lst []) := (upd_ne lp).trans upd_same
    have keep1 : ∀ a o, a ≠ p → H a = some o → H1 a = some o := fun a o na e => (upd_ne na).trans ((upd_ne (ne_of_none e hl)).trans e)
    have tr1 : ∀ a, H a ≠ none → H1 a ≠ none := fun a h => upd_tr a (upd_tr a h)
    have bs1 : Bs H1 := ⟨e1p, fun a o na _ e => keep1 a o na e⟩
    have fr1 : Frm (wo φ l) H1 := by
      refine ⟨fun a h => ?_, fun a xs h => ?_⟩
      · refine ⟨fr.new a ?_, fun z => ?_⟩
        · cases q : H a with
          | none => rfl
          | some u => exact absurd h (tr1 a (by rw [q]; exact fun z => nomatch z))
        · rw [z, e1l] at h
          cases h
      · by_cases ea : a = p
        · rw [ea, e1p] at h
          cases h
        · by_cases el : a = l
          · rw [el, e1l] at h
            cases h
          · have h2 : H a = some (.tup xs) := by
              have z : H1 a = H a := (upd_ne ea).trans (upd_ne el)
              rw [← z]
              exact h
            exact ⟨fr.tup a xs h2, el⟩
    let J1 : Hp → Prop := fun H' => Bs H' ∧ (H' l = some (.lst []) ∧ But (wo φ l) H1 H')
    have hpn : H1 p ≠ none := by rw [e1p]; exact fun z => nomatch z
    have hln : H1 l ≠ none := by rw [e1l]; exact fun z => nomatch z
    have moB : ∀ {H2 : Hp}, Bs H2 → Mo H2 Bs := fun {H2} bs Ha Hb kk j => ⟨kk p _ (by rw [bs.1]; exact fun z => nomatch z) j.1, fun a o n1 n2 e => kk a o (by rw [bs.2 a o n1 n2 e]; exact fun z => nomatch z) (j.2 a o n1 n2 e)⟩
    have A1 : At K (wo φ l) J1 [some (.raw (.ref p)), some (.str t), none, none, none, none] (L2.start ["self", "text", "lines", "last", "number", "line"] [.ref p, .str t]) H1 := by
      refine ⟨?_, fr1, ⟨bs1, e1l, But.refl _ _⟩, (moB bs1).and ((Mo.at hln).and (Mo.but fun _ h => h))⟩
      exact SR.start (ds := [.raw (.ref p), .str t]) (n := 4) (Reps.cons rfl (Reps.cons rfl Reps.nil))
    have L1 : LivS K (wo φ l) J1 l HO.lst [] := ⟨fun z => z.2 rfl, [], H1, Reps.nil, hln, fun H' h => h.2⟩
    refine st_newS A1 (en_ofN (ev_split (ev_var (i := 1) rfl) ev_str (by rw [lit_nl]; rfl) (by omega))) fun l2 ds0 C J2 σ2 H2 hC N2 L2' A2 => q ?_
    obtain ⟨e, rfl⟩ := hC
    subst e
    rw [hsp, List.map_append] at L2'
    obtain ⟨nl2, L1'⟩ := N2.liv _ _ _ L1
    have sb : Stab l2 Bs := fun H' o j => by
      obtain ⟨Hc, jc, ec⟩ := N2.hc
      refine ⟨(upd_ne (fun z => by rw [← z, jc.1.1] at ec; cases ec)).trans j.1, fun a o' n1 n2 e => (upd_ne (fun z => ?_)).trans (j.2 a o' n1 n2 e)⟩
      rw [← z, jc.1.2 a o' n1 n2 e] at ec
      cases ec
    refine st_popE (k := 2) (j := 3) (d := .str last) A2 L2' rfl fun J3 σ3 H3 W3 L3 A3 => ?_
    have hb3 : ∀ H', J3 H' → Bs H' := W3.base _ (fun H' h => (N2.ext.imp H' h).1) sb
    have L1b := (W3.liv _ _ _ L1' nl2).thaw nl2 A3.j
    have A4 := L3.freeze N2.fr A3 (k := 2) rfl
    replace A4 : At K (wo φ l) (fun H' => J3 H' ∧ But (wo φ l) H3 H') [some (.raw (.ref p)), some (.str t), some (.lst (lines.map D.str)), some (.str last), none, none] σ3 H3 := A4
    refine q (st_forT (us := [4, 5]) (ρt := fun d ρ' => match d with | .tup [a, b] => (ρ'.set 4 (some a)).set 5 (some b) | _ => ρ') A4 (it_enumS (ev_var (i := 2) rfl) rfl ev_int (by decide)) (fun i ρ' J' => i ≤ m ∧ (∀ H', J' H' → Bs H') ∧ LivS K (wo φ l) J' l HO.lst ((zf i).map rulD) ∧ ∃ o1 o2, ρ' = [some (.raw (.ref p)), some (.str t), some (.lst (lines.map D.str)), some (.str last), o1, o2])
      ⟨Nat.zero_le _, fun H' h => hb3 H' h.1, by rw [z0]; exact L1b, none, none, rfl⟩ ?_ ?_ ?_)
    · rintro i d ρ' J' hd ⟨_, _, _, o1, o2, rfl⟩
      rw [enumD_get, List.getElem?_map] at hd
      cases hx : lines[i]? with
      | none => rw [hx] at hd; cases hd
      | some x =>
        rw [hx] at hd
        cases hd
        exact eg_tup (ds := [.int (1 + (i : Nat)), .str x]) (egs_cons eg_name (egs_cons eg_name egs_nil))
    · rintro H5 i d ρ' J' b5 j5 hd ⟨him, hB, LJ, o1, o2, rfl⟩ σ6 H6 A6
      rw [enumD_get, List.getElem?_map] at hd
      cases hx : lines[i]? with
      | none => rw [hx] at hd; cases hd
      | some x =>
        rw [hx] at hd
        cases hd
        have hil : i < lines.length := (List.getElem?_eq_some_iff.mp hx).1
        have hxl : x.length ≤ 900000 := by
          by_cases e : i < m
          · exact (hst i x e hx).1
          · exact (hbad x (by rw [show m = i by omega]; exact hx)).1
        replace A6 : At K (wo φ l) (fun H' => J' H' ∧ But (wo φ l) H5 H') [some (.raw (.ref p)), some (.str t), some (.lst (lines.map D.str)), some (.str last), some (.int (1 + (i : Nat))), some (.str x)] σ6 H6 := A6
        refine st_if A6 (et_and (et_test (ev_neS (ev_var (i := 5) rfl) ev_str)) fun _ => et_not (et_B (ev_startswith (ev_var (i := 5) rfl) ev_str))) (fun hb H7 A7 => ?_) (fun hb H7 A7 => st_next ?_)
        · have hb : blankB x = false := by
            have hb : true = (!decide (x = "") && !Txt.startswith x "#") := hb
            unfold blankB
            rw [← Bool.not_or] at hb
            rw [← Bool.not_eq_true', ← hb]
          have pB := hB _ A7.j.1
          obtain ⟨vs, Hb, r, n0, k0⟩ := LJ.ex
          have hl7 := (k0 _ A7.j.1).1
          obtain ⟨v, ev, rv⟩ := A7.sr.2 0 _ rfl
          cases (show v = _ from rv)
          refine ⟨_, ev, p, dx, _, rfl, pB.1, (lk_miss (by decide +kernel)).trans rfl, ?_⟩
          refine ev_var (i := 5) rfl σ6 H7 A7 _ fun v5 d5 H8 b8 A8 e8 r8 => ev_var (i := 4) rfl σ6 H8 A8 _ fun v4 d4 H9 b9 A9 e9 r9 => ?_
          subst e8 e9
          cases (show v5 = _ from r8)
          cases (show v4 = _ from r9)
          have pB := hB _ A9.j.1
          have hl9 := (k0 _ A9.j.1)
          have tkok : TakeOk (zf i) x := by
            by_cases e : i < m
            · have := (hst i x e hx).2
              rw [if_neg (by rw [hb]; exact fun z => nomatch z)] at this
              exact this.1
            · have e : m = i := by omega
              subst e
              exact (hbad x hx).2.2.1
          refine ⟨wo φ l, p, l, dx, zf i, x, 1 + (i : Nat), vs, rfl, A9.fr, fun z => z.2 rfl, lp.symm, pB.1, hl9.1, r.mono hl9.2, tkok, fun zs' hzs H' ws'' b e r' => ?_, fun hnone H' d s hd => ?_⟩
          · have hlt : i < m := by
              by_cases e : i < m
              · exact e
              · have e : m = i := by omega
                subst e
                rw [(hbad x hx).2.2.2] at hzs
                cases hzs
            have hz2 := (hst i x hlt hx).2
            rw [if_neg (by rw [hb]; exact fun z => nomatch z)] at hz2
            rw [hz2.2] at hzs
            obtain rfl := Option.some.inj hzs
            have bl : But (wo φ l) H9 H' := butP_butI (fun z => z.2 rfl) b e
            refine ⟨[some (.raw (.ref p)), some (.str t), some (.lst (lines.map D.str)), some (.str last), some (.int (1 + (i : Nat))), some (.str x)], fun H'' => (Bs H'' ∧ H'' l = some (.lst ws'')) ∧ But (wo φ l) H' H'', ⟨hlt, fun H'' h => h.1.1, ⟨fun z => z.2 rfl, ws'', H', r', (by rw [e]; exact fun z => nomatch z), fun H'' h => ⟨h.1.2, h.2⟩⟩, _, _, rfl⟩, ?_⟩
            have bs' : Bs H' := ⟨b p _ lp.symm pB.1, fun a o n1 n2 e0 => b a o n2 (pB.2 a o n1 n2 e0)⟩
            refine ⟨A9.sr.up (Up.of bl), A9.fr.butI b e (fun xs h => nomatch h), ⟨⟨⟨bs', e⟩, But.refl _ _⟩, A9.j.2.trans bl⟩, ?_⟩
            exact (((moB bs').and (Mo.at (by rw [e]; exact fun z => nomatch z))).and (Mo.but fun _ h => h)).and (Mo.but (A9.j.2.trans bl).tr)
          · have e : m = i := by
              by_cases e : i < m
              · have hz2 := (hst i x e hx).2
                rw [if_neg (by rw [hb]; exact fun z => nomatch z), hnone] at hz2
                cases hz2.2
              · omega
            have hn1 : n = 1 + ((i : Nat) : Int) := by
              rw [hn, if_pos (by omega), e]
              omega
            exact hno (by omega) H' d (fun a o na e => s a o (keepB pB a o na e)) (by rw [hn1]; exact hd)
        · have hb : blankB x = true := by
            have hb : false = (!decide (x = "") && !Txt.startswith x "#") := hb
            unfold blankB
            rw [← Bool.not_or] at hb
            rw [eq_comm, Bool.not_eq_false'] at hb
            exact hb
          have hlt : i < m := by
            by_cases e : i < m
            · exact e
            · have e : m = i := by omega
              subst e
              rw [(hbad x hx).2.1] at hb
              cases hb
          have hz2 := (hst i x hlt hx).2
          rw [if_pos hb] at hz2
          exact ⟨_, J', ⟨hlt, hB, by rw [hz2]; exact LJ, _, _, rfl⟩, A7⟩
    · rintro H5 ρ' J' σ6 H6 b5 j5 ⟨him, hB, LJ, o1, o2, rfl⟩ A6
      rw [enumD_length, List.length_map] at him
      have hme : m = lines.length := by omega
      rw [if_neg (by omega)] at hn
      dsimp only
      refine st_if A6 (et_test (ev_neS (ev_var (i := 3) rfl) ev_str)) (fun hb H7 A7 => ?_) (fun hb H7 A7 => st_next ?_)
      · have hb : true = !decide (last = "") := hb
        have hlast : ¬ last = "" := fun z => by rw [decide_eq_true z] at hb; cases hb
        rw [if_neg hlast] at hn
        refine st_raiseL (W := fun cls d _ H' => E cls d H') (n := n) A7 ((ev_add (ev_lenL (ev_var (i := 2) rfl)) ev_int).is (by rw [List.length_map, hn])) fun d H8 H9 b8 A8 hd s e => hno (by omega) H9 d (fun a o na e0 => s a o (keepB (hB _ A8.j.1) a o na e0)) e
      · have hb : false = !decide (last = "") := hb
        have hlast : last = "" := by
          rw [eq_comm, Bool.not_eq_false', decide_eq_true_eq] at hb
          exact hb
        rw [if_pos hlast] at hn
        exact hyes hn H7 (keepB (hB _ A7.j.1))
end
end

/-! ### _law_told -/
section
open TL
def RTold : List D → D → Prop := fun ds d => ∃ (t : Str) (n : Int), ds = [.str t] ∧ ToldR t n ∧ d = .int n
section
variable {P : Program} {w : World} {K : PySem.W.Frag} {mg : Str → Option Value} {base : Heap}
theorem sc__law_told : FnScope ["text", "e"] ["text"] (defScope s__law_told) := ⟨rfl, rfl, rfl, by decide +kernel, rfl, by decide +kernel, by decide +kernel⟩
theorem ok__law_told {CT : Addr} (T_Rules : TRules K mg CT) {cE fI cc cda : Addr} {fdI : FuncData} (X_InvalidLine : IL P K mg cE fI fdI cc cda) {f f_Rules___init__ : Addr} {fd fd_Rules___init__ : FuncData} (F : Fun K "_law_told" "_law_told" s__law_told f fd)
    (L_Rules___init__ : LkM K CT "__init__" f_Rules___init__ fd_Rules___init__ ["self", "text"]) (M_Rules : Mk K CT f_Rules___init__) (G_Rules___init__ : FnOk P w K mg base (L2.CX P w) 214 f_Rules___init__ fd_Rules___init__ ["self", "text"] (SpRl K CT cE)) : FnOk P w K mg base CX0 216 f fd ["text"] (SpD K 1 RTold) := by
  have S := sc__law_told
  refine fn_ok F S rfl 1 rfl fun cdv A outer s H E hr => ⟨_, ((pss_cons (ps_try_as (i := 1) rfl rfl S.nd rfl (by rfl) ⟨(by rfl), by decide, .inl X_InvalidLine.m⟩ takes0 (fun W pn xe tk po => (pss_one (ps_expr (pe_makeX M_Rules G_Rules___init__ (hr.mono (by first | exact Nat.le_refl _ | decide | omega)) (by rfl) T_Rules.mgC L_Rules___init__.bi (fun σ => passAt tk σ) (pa_cons (pv 0) pa_nil)))))
 (fun a oe cls d pn hz hf => (pss_one (ps_ret (pe_xf X_InvalidLine.xf X_InvalidLine.nl hz hf (pv 1))))))
 (pss_one (ps_ret pe_int)))), fun φ ds d H D0 σ hl hR hrt hnx A => ?_⟩
  obtain ⟨t, n, rfl, hT, rfl⟩ := hR
  replace A : At K φ (Same H) [some (.str t), none] σ H := A
  refine q ?_
  unfold tDrop tMakeX
  refine (ea_cons (ev_var (i := 0) rfl) ea_nil : EvAD K φ (Same H) (tCons (tVar 0) tNil) [some (.str t), none] [.str t]) σ H A _ fun vs ds' H1 b1 A1 e r1 => ?_
  subst e
  obtain ⟨v, rfl, rv⟩ := r1.one
  cases (show v = _ from rv)
  intro x dx hx hdx ne
  have k2 : ∀ a o, H1 a = some o → a ≠ x ∧ upd (upd H1 dx (.own x)) x (.ins CT dx []) a = some o := fun a o e => by
    have n1 := ne_of_none e hx
    exact ⟨n1, (upd_ne n1).trans ((upd_ne (ne_of_none e hdx)).trans e)⟩
  refine ⟨wo φ x, x, dx, t, n, rfl, ⟨fun a h => ?_, fun a xs h => ?_⟩, fun z => z.2 rfl, upd_same, hT, fun hn H3 keep => ⟨rfl, ?_⟩, fun hn H3 d3 keep hd3 => ?_⟩
  · refine ⟨A1.fr.new a ?_, fun z => ?_⟩
    · cases q : H1 a with
      | none => rfl
      | some u => rw [(k2 a u q).2] at h; cases h
    · rw [z, upd_same] at h
      cases h
  · by_cases ea : a = x
    · rw [ea, upd_same] at h
      cases h
    · rw [upd_ne ea] at h
      by_cases ed : a = dx
      · rw [ed, upd_same] at h
        cases h
      · rw [upd_ne ed] at h
        exact ⟨A1.fr.tup a xs h, ea⟩
  · have s13 : Same H1 H3 := fun a o e => keep a o (k2 a o e).1 (k2 a o e).2
    have A3 := A1.same s13
    refine st_ret A3 ev_int fun v d H4 e A4 r => hrt v H4 A4.j (by rw [e] at r; rw [hn]; exact r)
  · have s13 : Same H1 H3 := fun a o e => keep a o (k2 a o e).1 (k2 a o e).2
    have A3 := A1.same s13
    refine wAs_yes X_InvalidLine.xm fun a ha => ?_
    have A4 : At K φ (fun H' => Same H H' ∧ H' d3 = some (.xd [("line", .int n)])) [some (.str t), some (.raw (.ref a))] (σ.set 1 (some (.ref a))) H3 := At.set (A3.live ⟨A3.j, hd3⟩ (A3.mono.and (Mo.at (by rw [hd3]; exact fun z => nomatch z)))) 1 rfl
    exact st_ret A4 (ev_xf (k := 1) rfl fun H h => h.2) fun v d H5 e A5 r => hrt v H5 A5.j.1 (by rw [e] at r; exact r)
end
end

/-! ### the truth of conditions -/
section
open TL
structure Sta where
  nm : Str
  x : Int
  y : Int
  mast : Int
  power : Int
  mhz : Int
  ant : List (Int × Int × Int)
def lobeD (l : Int × Int × Int) : D := .tup [.int l.1, .int l.2.1, .int l.2.2]
def staD (s : Sta) : D := .tup [.str s.nm, .tup [.int s.x, .int s.y], .int s.mast, .int s.power, .int s.mhz, .tup (s.ant.map lobeD)]
def maxI : List Int → Int
  | [] => 0
  | n :: ns => ns.foldl max n
theorem foldl_max : ∀ (ns : List Int) (a : Int), a ≤ ns.foldl max a ∧ (∀ y ∈ ns, y ≤ ns.foldl max a) ∧ (ns.foldl max a = a ∨ ns.foldl max a ∈ ns)
  | [], a => ⟨Int.le_refl _, fun y h => (List.not_mem_nil h).elim, .inl rfl⟩
  | n :: ns, a => by
    obtain ⟨h1, h2, h3⟩ := foldl_max ns (max a n)
    refine ⟨Int.le_trans (Int.le_max_left a n) h1, fun y hy => ?_, ?_⟩
    · rcases List.mem_cons.mp hy with rfl | hy
      · exact Int.le_trans (Int.le_max_right a y) h1
      · exact h2 y hy
    · rw [List.foldl_cons]
      rcases h3 with h3 | h3
      · rw [h3]
        by_cases h : a ≤ n
        · rw [Int.max_eq_right h]
          exact .inr List.mem_cons_self
        · rw [Int.max_eq_left (by omega)]
          exact .inl rfl
      · exact .inr (List.mem_cons_of_mem _ h3)
theorem maxI_of {ns : List Int} {m : Int} (hm : m ∈ ns) (h : ∀ y ∈ ns, y ≤ m) : m = maxI ns := by
  cases ns with
  | nil => cases hm
  | cons n ns =>
    obtain ⟨h1, h2, h3⟩ := foldl_max ns n
    show m = ns.foldl max n
    have a1 : ns.foldl max n ≤ m := by
      rcases h3 with h3 | h3
      · rw [h3]
        exact h n List.mem_cons_self
      · exact h _ (List.mem_cons_of_mem _ h3)
    have a2 : m ≤ ns.foldl max n := by
      rcases List.mem_cons.mp hm with rfl | hm
      · exact h1
      · exact h2 m hm
    omega
def gainS (s : Sta) : Int := maxI (s.ant.map (·.2.2))
def knownL (s : Sta) : List (Key × D) := [(Sum.inr "power", .int s.power), (Sum.inr "megahertz", .int s.mhz), (Sum.inr "mast", .int s.mast), (Sum.inr "x", .int s.x), (Sum.inr "y", .int s.y), (Sum.inr "gain", .int (gainS s))]
def knownD (s : Sta) : D := dictD (knownL s)
def fieldV (s : Sta) (f : Str) : Option Int := if f = "power" then some s.power else if f = "megahertz" then some s.mhz else if f = "mast" then some s.mast else if f = "x" then some s.x else if f = "y" then some s.y else if f = "gain" then some (gainS s) else none
def cmpB (s : Str) (a b : Int) : Bool := if s = "<" then decide (a < b) else if s = "<=" then decide (a ≤ b) else if s = "=" then decide (a = b) else if s = ">=" then decide (b ≤ a) else if s = ">" then decide (b < a) else !decide (a = b)
theorem fieldV_get {s : Sta} {f : Str} {v : Int} (h : fieldV s f = some v) : valD (knownL s) (Sum.inr f : Key) = some (.int v) := by
  unfold fieldV at h
  unfold knownL
  by_cases h1 : f = "power"
  · subst h1; rw [if_pos rfl] at h; cases h; rfl
  rw [if_neg h1] at h
  by_cases h2 : f = "megahertz"
  · subst h2; rw [if_pos rfl] at h; cases h; rfl
  rw [if_neg h2] at h
  by_cases h3 : f = "mast"
  · subst h3; rw [if_pos rfl] at h; cases h; rfl
  rw [if_neg h3] at h
  by_cases h4 : f = "x"
  · subst h4; rw [if_pos rfl] at h; cases h; rfl
  rw [if_neg h4] at h
  by_cases h5 : f = "y"
  · subst h5; rw [if_pos rfl] at h; cases h; rfl
  rw [if_neg h5] at h
  by_cases h6 : f = "gain"
  · subst h6; rw [if_pos rfl] at h; cases h; rfl
  rw [if_neg h6] at h
  cases h
section
variable {K : PySem.W.Frag} {φ : Addr → Prop} {J : Hp → Prop} {ρ : List (Option D)} {te : TE} {ns : List Int}
theorem ev_maxL (ha : EvD K φ J te ρ (.lst (ns.map D.int))) (hn : 0 < ns.length) : EvD K φ J (tCB (rMax K) (tCons te tNil)) ρ (.int (maxI ns)) := ev_cbD (ea_cons ha ea_nil) fun H vs f r Q q => by
  obtain ⟨v, rfl, r1⟩ := r.one
  obtain ⟨a, vs, rfl, p, rs⟩ := rep_lst r1
  exact ⟨a, ns, rfl, by rw [← rs.ints]; exact p.sq, hn, fun m h1 h2 => q _ (.int m) H (Same.refl H) (congrArg D.int (maxI_of h1 h2)) rfl⟩
end
/-- the truth told by a condition's tree -/
inductive TrD (s : Sta) : Nat → D → Bool → Prop where
  | cmp {n : Nat} {f g : Str} {v c : Int} : fieldV s f = some v → TrD s (n + 1) (.tup [.str "compare", .str f, .str g, .int c]) (cmpB g v c)
  | neg {n : Nat} {d : D} {b : Bool} : TrD s n d b → TrD s (n + 1) (.tup [.str "not", d]) (!b)
  | all {n : Nat} {ds : List D} {b : D → Bool} : ds.length ≤ 1000000 → (∀ d ∈ ds, TrD s n d (b d)) → TrD s (n + 1) (.tup [.str "and", .lst ds]) (ds.all b)
  | any {n : Nat} {ds : List D} {b : D → Bool} : ds.length ≤ 1000000 → (∀ d ∈ ds, TrD s n d (b d)) → TrD s (n + 1) (.tup [.str "or", .lst ds]) (ds.any b)
def RVal : List D → D → Prop := fun ds d => ∃ s : Sta, ds = [staD s] ∧ 0 < s.ant.length ∧ s.ant.length ≤ 1000000 ∧ d = knownD s
def RCmp : List D → D → Prop := fun ds d => ∃ s a b, ds = [.str s, .int a, .int b] ∧ d = .bl (cmpB s a b)
def RTrue (n : Nat) : List D → D → Prop := fun ds d => ∃ s t b, ds = [t, knownD s] ∧ TrD s n t b ∧ d = .bl b
section
variable {P : Program} {w : World} {K : PySem.W.Frag} {mg : Str → Option Value} {base : Heap}
theorem sc_values_of : FnScope ["station", "_", "place", "mast", "power", "megahertz", "antenna", "gain", "lobe"] ["station"] (defScope s_values_of) := ⟨rfl, rfl, rfl, by decide +kernel, rfl, by decide +kernel, by decide +kernel⟩
theorem ok_values_of (B : Bi mg) {f : Addr} {fd : FuncData} (F : Fun K "values_of" "values_of" s_values_of f fd) : FnOk P w K mg base CX0 1 f fd ["station"] (SpD K 1 RVal) := by
  have S := sc_values_of
  refine fn_ok F S rfl 8 rfl fun cdv A outer s H E hr => ⟨_, ((pss_cons (ps_asg (pv 0) (pg_tup (by rfl) (pgs_cons (pg_name (i := 1) S.nd rfl (by first | exact Or.inl rfl | exact Or.inr rfl)) (pgs_cons (pg_name (i := 2) S.nd rfl (by first | exact Or.inl rfl | exact Or.inr rfl)) (pgs_cons (pg_name (i := 3) S.nd rfl (by first | exact Or.inl rfl | exact Or.inr rfl)) (pgs_cons (pg_name (i := 4) S.nd rfl (by first | exact Or.inl rfl | exact Or.inr rfl)) (pgs_cons (pg_name (i := 5) S.nd rfl (by first | exact Or.inl rfl | exact Or.inr rfl)) (pgs_cons (pg_name (i := 6) S.nd rfl (by first | exact Or.inl rfl | exact Or.inr rfl)) pgs_nil))))))))
 (pss_cons (ps_set (i := 7) S.nd rfl (by first | exact Or.inl rfl | exact Or.inr rfl) (pe_callB (cr_max rfl) (by rfl) B.max (by decide +kernel) (pa_cons (pe_lc (own := [("lobe", 8)]) (g := (gName 8)) (tt := tYes) (by rfl) S.nd (pi_tup (pv 6)) (blkOk_by (N := ["station", "_", "place", "mast", "power", "megahertz", "antenna", "gain", "lobe"]) (sc := defScope s_values_of) (own := [("lobe", 8)]) (by decide +kernel)) (fun _ _ _ _ _ => (pg_name (i := 8) S.nd rfl (by first | exact Or.inl rfl | exact Or.inr rfl))) (fun _ _ _ _ _ => pts_nil) (fun _ _ _ _ _ => (pe_ix (kix_tup (K := K) (by rfl)) (pv 8) pe_int (fun _ _ => rfl)))) pa_nil)))
 (pss_one (ps_ret (pe_disp (pps_cons pe_str (pv 4) (pps_cons pe_str (pv 5) (pps_cons pe_str (pv 3) (pps_cons pe_str (pe_ix ix_tup (pv 2) pe_int (fun _ _ => rfl)) (pps_cons pe_str (pe_ix ix_tup (pv 2) pe_int (fun _ _ => rfl)) (pps_cons pe_str (pv 7) pps_nil)))))) rfl rfl (by simp) (by decide))))))), fun φ ds d H D0 σ hl hR hrt _ A => ?_⟩
  obtain ⟨t, rfl, hn, hn2, rfl⟩ := hR
  replace A : At K φ (Same H) [some (staD t), none, none, none, none, none, none, none, none] σ H := A
  refine q (st_asgG (ρ2 := fun _ => [some (staD t), some (.str t.nm), some (.tup [.int t.x, .int t.y]), some (.int t.mast), some (.int t.power), some (.int t.mhz), some (.tup (t.ant.map lobeD)), none, none]) A (ev_var rfl) (fun d e => by
    subst e
    exact eg_tup (egs_cons eg_name (egs_cons eg_name (egs_cons eg_name (egs_cons eg_name (egs_cons eg_name (egs_cons eg_name egs_nil))))))) fun d σ1 H1 e A1 => q ?_)
  dsimp only at A1 ⊢
  refine st_set (d := .int (gainS t)) A1 (ev_maxL (ns := t.ant.map (·.2.2)) ((ev_lc (k := 8) (f := fun d => match d with
    | .tup [_, _, z] => z
    | d => d) (it_tup (ev_var (i := 6) rfl)) (by rw [List.length_map]; exact hn2) (fun d hd φ' J' hx => by
      obtain ⟨l, hl, rfl⟩ := List.mem_map.mp hd
      exact ev_ixT (ev_var rfl) ev_int rfl)).is (by rw [List.map_map, List.map_map]; rfl)) (by rw [List.length_map]; exact hn)) fun σ2 H2 A2 => ?_
  replace A2 : At K φ (Same H) [some (staD t), some (.str t.nm), some (.tup [.int t.x, .int t.y]), some (.int t.mast), some (.int t.power), some (.int t.mhz), some (.tup (t.ant.map lobeD)), some (.int (gainS t)), none] σ2 H2 := A2
  refine st_ret A2 (ev_dispN (kds := knownL t) (fun J' φ' hx => .cons ev_str (ev_var (i := 4) rfl) (.cons ev_str (ev_var (i := 5) rfl) (.cons ev_str (ev_var (i := 3) rfl) (.cons ev_str (ev_ixT (ev_var (i := 2) rfl) ev_int rfl) (.cons ev_str (ev_ixT (ev_var (i := 2) rfl) ev_int rfl) (.cons ev_str (ev_var (i := 7) rfl) .nil)))))) ?_ (by show 6 ≤ 15; decide)) fun v d H3 e A3 r => hrt v H3 A3.j (by rw [e] at r; exact r)
  show ([Sum.inr "power", Sum.inr "megahertz", Sum.inr "mast", Sum.inr "x", Sum.inr "y", Sum.inr "gain"] : List Key).Nodup
  decide +kernel
theorem sc_compare : FnScope ["sign", "first", "second"] ["sign", "first", "second"] (defScope s_compare) := ⟨rfl, rfl, rfl, by decide +kernel, rfl, by decide +kernel, by decide +kernel⟩
theorem ok_compare (B : Bi mg) {f : Addr} {fd : FuncData} (F : Fun K "compare" "compare" s_compare f fd) : FnOk P w K mg base CX0 1 f fd ["sign", "first", "second"] (SpD K 3 RCmp) := by
  have S := sc_compare
  refine fn_ok F S rfl 0 rfl fun cdv A outer s H E hr => ⟨_, ((pss_cons (ps_if (pt_cmpR op_eq (pv 0) pe_str (nomark _))
 (pss_one (ps_ret (pe_cmpR op_lt (pv 1) (pv 2) (nomark _))))
 pss_nil)
 (pss_cons (ps_if (pt_cmpR op_eq (pv 0) pe_str (nomark _))
 (pss_one (ps_ret (pe_cmpR op_le (pv 1) (pv 2) (nomark _))))
 pss_nil)
 (pss_cons (ps_if (pt_cmpR op_eq (pv 0) pe_str (nomark _))
 (pss_one (ps_ret (pe_cmpR op_eq (pv 1) (pv 2) (nomark _))))
 pss_nil)
 (pss_cons (ps_if (pt_cmpR op_eq (pv 0) pe_str (nomark _))
 (pss_one (ps_ret (pe_cmpR op_ge (pv 1) (pv 2) (nomark _))))
 pss_nil)
 (pss_one (ps_ret (pe_ifExp (pt_cmpR op_eq (pv 0) pe_str (nomark _)) (pe_cmpR op_gt (pv 1) (pv 2) (nomark _)) (pe_cmpR op_ne (pv 1) (pv 2) (nomark _)))))))))), fun φ ds d H D0 σ hl hR hrt _ A => ?_⟩
  obtain ⟨g, a, b, rfl, rfl⟩ := hR
  replace A : At K φ (Same H) [some (.str g), some (.int a), some (.int b)] σ H := A
  have fin : ∀ {te : TE} {x : Bool} {σ' : L2.St} {H' : Hp} {ρ : List (Option D)}, cmpB g a b = x → At K φ (Same H) ρ σ' H' → EvD K φ (Same H) te ρ (.bl x) → tRet te D0 σ' H' := fun e A h => st_ret A h fun v d H3 e2 A3 r => hrt v H3 A3.j (by rw [e]; rw [e2] at r; exact r)
  have no : ∀ {x : Str}, false = decide (g = x) → ¬ g = x := fun h z => by rw [decide_eq_true z] at h; cases h
  refine q (st_if A (et_test (ev_eqS (ev_var (i := 0) rfl) ev_str)) (fun hb H1 A1 => ?_) fun hb H1 A1 => st_next (q ?_))
  · exact fin (by unfold cmpB; rw [if_pos (decide_eq_true_iff.mp (Eq.symm hb))]) A1 (ev_lt (ev_var (i := 1) rfl) (ev_var (i := 2) rfl))
  refine st_if A1 (et_test (ev_eqS (ev_var (i := 0) rfl) ev_str)) (fun hb2 H2 A2 => ?_) fun hb2 H2 A2 => st_next (q ?_)
  · exact fin (by unfold cmpB; rw [if_neg (no hb), if_pos (decide_eq_true_iff.mp (Eq.symm hb2))]) A2 (ev_le (ev_var (i := 1) rfl) (ev_var (i := 2) rfl))
  refine st_if A2 (et_test (ev_eqS (ev_var (i := 0) rfl) ev_str)) (fun hb3 H3 A3 => ?_) fun hb3 H3 A3 => st_next (q ?_)
  · exact fin (by unfold cmpB; rw [if_neg (no hb), if_neg (no hb2), if_pos (decide_eq_true_iff.mp (Eq.symm hb3))]) A3 (ev_eqI (ev_var (i := 1) rfl) (ev_var (i := 2) rfl))
  refine st_if A3 (et_test (ev_eqS (ev_var (i := 0) rfl) ev_str)) (fun hb4 H4 A4 => ?_) fun hb4 H4 A4 => st_next ?_
  · exact fin (by unfold cmpB; rw [if_neg (no hb), if_neg (no hb2), if_neg (no hb3), if_pos (decide_eq_true_iff.mp (Eq.symm hb4))]) A4 (ev_ge (ev_var (i := 1) rfl) (ev_var (i := 2) rfl))
  have e0 : cmpB g a b = if g = ">" then decide (b < a) else !decide (a = b) := by unfold cmpB; rw [if_neg (no hb), if_neg (no hb2), if_neg (no hb3), if_neg (no hb4)]
  refine fin e0 A4 (ev_if (P := fun d => d = .bl (if g = ">" then decide (b < a) else !decide (a = b))) (et_test (ev_eqS (ev_var (i := 0) rfl) ev_str)) (fun hb5 => ?_) fun hb5 => ?_)
  · exact (ev_gt (ev_var (i := 1) rfl) (ev_var (i := 2) rfl)).is (by rw [if_pos (decide_eq_true_iff.mp (Eq.symm hb5))])
  · exact (ev_neI (ev_var (i := 1) rfl) (ev_var (i := 2) rfl)).is (by rw [if_neg (no hb5)])
theorem sc_is_true : FnScope ["tree", "known", "truths", "part"] ["tree", "known"] (defScope s_is_true) := ⟨rfl, rfl, rfl, by decide +kernel, rfl, by decide +kernel, by decide +kernel⟩
theorem ok_is_true (B : Bi mg) (C : Cs mg) {f g : Addr} {fd gd : FuncData} (F : Fun K "is_true" "is_true" s_is_true f fd) (L_is_true : Lk K mg "is_true" f fd ["tree", "known"]) (L_compare : Lk K mg "compare" g gd ["sign", "first", "second"]) (G_compare : FnOk P w K mg base CX0 1 g gd ["sign", "first", "second"] (SpD K 3 RCmp)) : ∀ n, FnOk P w K mg base CX0 (n + 1) f fd ["tree", "known"] (SpD K 2 (RTrue n))
  | 0 => fn_never fun vs H Q E h => by
    obtain ⟨_, _, _, _, _, _, ⟨_, _, _, _, h, _⟩, _⟩ := h
    cases h
  | n + 1 => by
    have G_is_true : FnOk P w K mg base CX0 (n + 1) f fd ["tree", "known"] (SpD K 2 (RTrue n)) := ok_is_true B C F L_is_true L_compare G_compare n
    have S := sc_is_true
    refine fn_ok F S rfl 2 rfl fun cdv A outer s H E hr => ⟨_, ((pss_cons (ps_if (pt_cmpR op_eq (pe_ix ix_tup (pv 0) pe_int (fun _ _ => rfl)) pe_str (nomark _))
 (pss_one (ps_ret (pe_call G_compare (hr.mono (by first | exact Nat.le_refl _ | decide | omega)) (by rfl) L_compare.m L_compare.kp L_compare.bi .nil pass0 (pa_cons (pe_ix ix_tup (pv 0) pe_int (fun _ _ => rfl)) (pa_cons (pe_dget hr.units1 (pv 1) (pe_ix ix_tup (pv 0) pe_int (fun _ _ => rfl)) (fun _ _ => rfl)) (pa_cons (pe_ix ix_tup (pv 0) pe_int (fun _ _ => rfl)) pa_nil))))))
 pss_nil)
 (pss_cons (ps_if (pt_cmpR op_eq (pe_ix ix_tup (pv 0) pe_int (fun _ _ => rfl)) pe_str (nomark _))
 (pss_one (ps_ret (pe_not (pe_call G_is_true (hr.mono (by first | exact Nat.le_refl _ | decide | omega)) (by rfl) L_is_true.m L_is_true.kp L_is_true.bi .nil pass0 (pa_cons (pe_ix ix_tup (pv 0) pe_int (fun _ _ => rfl)) (pa_cons (pv 1) pa_nil))))))
 pss_nil)
 (pss_cons (ps_setLc (i := 2) (own := [("part", 3)]) (g := (gName 3)) (tt := tYes) (by rfl) S.nd rfl rfl (sw_true rfl rfl rfl (by decide +kernel)) (pi_list (pe_ix ix_tup (pv 0) pe_int (fun _ _ => rfl))) (blkOk_by (N := ["tree", "known", "truths", "part"]) (sc := defScope s_is_true) (own := [("part", 3)]) (by decide +kernel)) (fun _ _ _ _ _ => (pg_name (i := 3) S.nd rfl (by first | exact Or.inl rfl | exact Or.inr rfl))) (fun _ _ _ _ _ => pts_nil) (fun _ _ _ _ _ => (pe_call G_is_true (hr.mono (by first | exact Nat.le_refl _ | decide | omega)) (by rfl) L_is_true.m L_is_true.kp L_is_true.bi .nil pass0 (pa_cons (pv 3) (pa_cons (pv 1) pa_nil)))))
 (pss_one (ps_ret (pe_ifExp (pt_cmpR op_eq (pe_ix ix_tup (pv 0) pe_int (fun _ _ => rfl)) pe_str (nomark _)) (pe_callB (cr_all rfl) (by rfl) C.all (by decide +kernel) (pa_cons (pv 2) pa_nil)) (pe_callB (cr_any rfl) (by rfl) C.any (by decide +kernel) (pa_cons (pv 2) pa_nil))))))))), fun φ ds d H D0 σ hl hR hrt _ A => ?_⟩
    obtain ⟨t, tree, b, rfl, ht, rfl⟩ := hR
    replace A : At K φ (Same H) [some tree, some (knownD t), none, none] σ H := A
    have s1 : ¬ (("not" : Str) = "compare") := by decide +kernel
    have s2 : ¬ (("and" : Str) = "compare") := by decide +kernel
    have s3 : ¬ (("or" : Str) = "compare") := by decide +kernel
    have s4 : ¬ (("and" : Str) = "not") := by decide +kernel
    have s5 : ¬ (("or" : Str) = "not") := by decide +kernel
    have s6 : ¬ (("or" : Str) = "and") := by decide +kernel
    cases ht with
    | cmp hv =>
      refine q (st_yes A (et_test (ev_eqS (ev_ixT (ev_var (i := 0) rfl) ev_int rfl) ev_str)) (decide_eq_true rfl) fun H1 A1 => ?_)
      exact st_ret A1 (ev_callD (ea_cons (ev_ixT (ev_var (i := 0) rfl) ev_int rfl) (ea_cons (ev_dget (ed_frozen (ev_var (i := 1) rfl)) (ev_ixT (ev_var (i := 0) rfl) ev_int rfl) (fieldV_get hv)) (ea_cons (ev_ixT (ev_var (i := 0) rfl) ev_int rfl) ea_nil))) ⟨_, _, _, rfl, rfl⟩) fun v d H2 e A2 r => hrt v H2 A2.j (by rw [e] at r; exact r)
    | neg hd =>
      refine q (st_no A (et_test (ev_eqS (ev_ixT (ev_var (i := 0) rfl) ev_int rfl) ev_str)) (decide_eq_false s1) fun H1 A1 => st_next (q ?_))
      refine st_yes A1 (et_test (ev_eqS (ev_ixT (ev_var (i := 0) rfl) ev_int rfl) ev_str)) (decide_eq_true rfl) fun H2 A2 => ?_
      exact st_ret A2 (ev_notV (ev_callD (ea_cons (ev_ixT (ev_var (i := 0) rfl) ev_int rfl) (ea_cons (ev_var (i := 1) rfl) ea_nil)) ⟨_, _, _, rfl, hd, rfl⟩)) fun v d H2 e A2 r => hrt v H2 A2.j (by rw [e] at r; exact r)
    | @all _ ds b hz hd =>
      refine q (st_no A (et_test (ev_eqS (ev_ixT (ev_var (i := 0) rfl) ev_int rfl) ev_str)) (decide_eq_false s2) fun H1 A1 => st_next (q ?_))
      refine st_no A1 (et_test (ev_eqS (ev_ixT (ev_var (i := 0) rfl) ev_int rfl) ev_str)) (decide_eq_false s4) fun H2 A2 => st_next (q ?_)
      refine st_set (d := .lst ((ds.map b).map D.bl)) A2 ((ev_lc (k := 3) (f := fun d => .bl (b d)) (it_list (ev_ixT (ev_var (i := 0) rfl) ev_int rfl)) hz fun d hm φ' J' hx => ev_callD (ea_cons (ev_var rfl) (ea_cons (ev_var (i := 1) rfl) ea_nil)) ⟨_, _, _, rfl, hd d hm, rfl⟩).is (by rw [List.map_map]; rfl)) fun σ3 H3 A3 => ?_
      refine st_ret A3 (ev_if (P := fun d => d = .bl (ds.all b)) (et_test (ev_eqS (ev_ixT (ev_var (i := 0) rfl) ev_int rfl) ev_str)) (fun _ => ?_) fun hb => ?_) fun v d H2 e A2 r => hrt v H2 A2.j (by rw [e] at r; exact r)
      · exact (ev_all (bs := ds.map b) (ev_var (i := 2) rfl)).is (by rw [List.all_map]; rfl)
      · rw [decide_eq_true rfl] at hb
        cases hb
    | @any _ ds b hz hd =>
      refine q (st_no A (et_test (ev_eqS (ev_ixT (ev_var (i := 0) rfl) ev_int rfl) ev_str)) (decide_eq_false s3) fun H1 A1 => st_next (q ?_))
      refine st_no A1 (et_test (ev_eqS (ev_ixT (ev_var (i := 0) rfl) ev_int rfl) ev_str)) (decide_eq_false s5) fun H2 A2 => st_next (q ?_)
      refine st_set (d := .lst ((ds.map b).map D.bl)) A2 ((ev_lc (k := 3) (f := fun d => .bl (b d)) (it_list (ev_ixT (ev_var (i := 0) rfl) ev_int rfl)) hz fun d hm φ' J' hx => ev_callD (ea_cons (ev_var rfl) (ea_cons (ev_var (i := 1) rfl) ea_nil)) ⟨_, _, _, rfl, hd d hm, rfl⟩).is (by rw [List.map_map]; rfl)) fun σ3 H3 A3 => ?_
      refine st_ret A3 (ev_if (P := fun d => d = .bl (ds.any b)) (et_test (ev_eqS (ev_ixT (ev_var (i := 0) rfl) ev_int rfl) ev_str)) (fun hb => ?_) fun hb => ?_) fun v d H2 e A2 r => hrt v H2 A2.j (by rw [e] at r; exact r)
      · rw [decide_eq_false s6] at hb
        cases hb
      · exact (ev_any (bs := ds.map b) (ev_var (i := 2) rfl)).is (by rw [List.any_map]; rfl)
end
end

/-! ### the grammar of conditions: what is so built is so read -/
section
open TL
def joinW (w : Str) : List (List Str) → List Str
  | [] => []
  | u :: us => u ++ (us.map (w :: ·)).flatten
inductive Gr : Nat → Nat → List Str → D → Prop where
  | cmp {r : Nat} {f g c : Str} {v : Int} : f ∈ C_FIELDS → g ∈ C_SIGNS → ok9 (tl c) = some v → Gr r 3 [f, g, c] (.tup [.str "compare", .str f, .str g, .int v])
  | neg {r : Nat} {us : List Str} {d : D} : Gr r 3 us d → Gr (r + 1) 3 (("not" : Str) :: us) (.tup [.str "not", d])
  | par {r : Nat} {us : List Str} {d : D} : Gr r 1 us d → Gr (r + 1) 3 (("(" : Str) :: (us ++ [(")" : Str)])) d
  | one2 {r : Nat} {us : List Str} {d : D} : Gr r 3 us d → Gr r 2 us d
  | one1 {r : Nat} {us : List Str} {d : D} : Gr r 2 us d → Gr r 1 us d
  | and_ {r : Nat} {ps : List (List Str × D)} : 2 ≤ ps.length → (∀ p ∈ ps, Gr r 3 p.1 p.2) → Gr r 2 (joinW "and" (ps.map (·.1))) (.tup [.str "and", .lst (ps.map (·.2))])
  | or_ {r : Nat} {ps : List (List Str × D)} : 2 ≤ ps.length → (∀ p ∈ ps, Gr r 2 p.1 p.2) → Gr r 1 (joinW "or" (ps.map (·.1))) (.tup [.str "or", .lst (ps.map (·.2))])
theorem Gr.up {r r' l : Nat} {us : List Str} {d : D} (h : Gr r l us d) : r ≤ r' → Gr r' l us d := by
  induction h generalizing r' with
  | cmp h1 h2 h3 => exact fun _ => .cmp h1 h2 h3
  | neg h ih =>
    intro hr
    obtain ⟨r', rfl⟩ : ∃ x, r' = x + 1 := ⟨r' - 1, by omega⟩
    exact .neg (ih (by omega))
  | par h ih =>
    intro hr
    obtain ⟨r', rfl⟩ : ∃ x, r' = x + 1 := ⟨r' - 1, by omega⟩
    exact .par (ih (by omega))
  | one2 h ih => exact fun hr => .one2 (ih hr)
  | one1 h ih => exact fun hr => .one1 (ih hr)
  | and_ h2 h ih => exact fun hr => .and_ h2 fun p hp => ih p hp hr
  | or_ h2 h ih => exact fun hr => .or_ h2 fun p hp => ih p hp hr
theorem Gr.tup {r l : Nat} {us : List Str} {d : D} (h : Gr r l us d) : isNon d = false := by
  induction h with
  | cmp => rfl
  | neg => rfl
  | par _ ih => exact ih
  | one2 _ ih => exact ih
  | one1 _ ih => exact ih
  | and_ => rfl
  | or_ => rfl
def stopB (l : Nat) (post : List Str) : Prop := (l ≤ 2 → post.head? ≠ some "and") ∧ (l ≤ 1 → post.head? ≠ some "or")
def rdL (l : Nat) (ws : List Str) (r : Nat) : Nat → D × Nat := if l = 3 then singleT ws r else if l = 2 then andT (singleT ws r) ws else orT (singleT ws r) ws
theorem nw_drop {ws : List Str} {k : Nat} : nw ws k = (ws.drop k).headD "" := by
  unfold nw
  rw [List.headD_eq_head?_getD, List.head?_drop, List.getD_eq_getElem?_getD]
theorem nw_cons {ws post : List Str} {x : Str} {k : Nat} (h : ws.drop k = x :: post) : nw ws k = x := by
  rw [nw_drop, h]
  rfl
theorem drop_app {ws us post : List Str} {k : Nat} (h : ws.drop k = us ++ post) : ws.drop (k + us.length) = post := by
  rw [← List.drop_drop, h, List.drop_left]
theorem nw_stop {ws post : List Str} {k : Nat} {w : Str} (h : ws.drop k = post) (hw : w ≠ "") (hs : post.head? ≠ some w) : nw ws k ≠ w := by
  rw [nw_drop, h]
  cases post with
  | nil => exact fun z => hw z.symm
  | cons a r => exact fun z => hs (congrArg some z)
theorem loopT_stop {f : Nat → D × Nat} {w : Str} {ws : List Str} {n k : Nat} {acc : List D} (h : nw ws k ≠ w) : loopT f w ws n k acc = (acc, k) := by
  cases n with
  | zero => rfl
  | succ n =>
    unfold loopT
    rw [if_neg h]
theorem loopT_parts {f : Nat → D × Nat} {w : Str} {ws post : List Str} {S : List Str → Prop} (hw : w ≠ "") (hS : S post) (hn : post.head? ≠ some w) : ∀ (ps : List (List Str × D)) (n k : Nat) (acc : List D),
    (∀ p ∈ ps, ∀ k post, ws.drop k = p.1 ++ post → (post.head? = some w ∨ S post) → f k = (p.2, k + p.1.length)) → ws.drop k = ((ps.map (·.1)).map (w :: ·)).flatten ++ post → ps.length ≤ n →
    loopT f w ws n k acc = (acc ++ ps.map (·.2), k + ((ps.map (·.1)).map (w :: ·)).flatten.length)
  | [], n, k, acc, _, hd, _ => by
    rw [loopT_stop (nw_stop hd hw hn)]
    simp
  | p :: ps, 0, k, acc, _, _, hl => absurd hl (by simp)
  | p :: ps, n + 1, k, acc, hf, hd, hl => by
    have hd0 : ws.drop k = w :: (p.1 ++ (((ps.map (·.1)).map (w :: ·)).flatten ++ post)) := by
      rw [hd]
      simp
    have hd1 : ws.drop (k + 1) = p.1 ++ (((ps.map (·.1)).map (w :: ·)).flatten ++ post) := drop_app (us := [w]) hd0
    have hd2 := drop_app hd1
    have e1 := hf p List.mem_cons_self (k + 1) _ hd1 (by
      cases ps with
      | nil => exact .inr hS
      | cons a r => exact .inl rfl)
    unfold loopT
    rw [if_pos (nw_cons hd0), e1]
    dsimp only
    rw [loopT_parts hw hS hn ps n _ _ (fun q hq => hf q (List.mem_cons_of_mem _ hq)) hd2 (by simpa using hl)]
    refine Prod.ext ?_ ?_
    · simp
    · simp
      omega
theorem joinT_read {f : Nat → D × Nat} {w : Str} {ws post : List Str} {S : List Str → Prop} {k : Nat} (hw : w ≠ "") (hS : S post) (hn : post.head? ≠ some w) {ps : List (List Str × D)} (h1 : 1 ≤ ps.length)
    (hf : ∀ p ∈ ps, ∀ k post, ws.drop k = p.1 ++ post → (post.head? = some w ∨ S post) → f k = (p.2, k + p.1.length)) (ht : ∀ p ∈ ps, isNon p.2 = false) (hd : ws.drop k = joinW w (ps.map (·.1)) ++ post) :
    joinT f w ws k = (oneT w (ps.map (·.2)), k + (joinW w (ps.map (·.1))).length) := by
  cases ps with
  | nil => exact absurd h1 (by simp)
  | cons p ps =>
    have hd0 : ws.drop k = p.1 ++ (((ps.map (·.1)).map (w :: ·)).flatten ++ post) := by
      rw [hd]
      unfold joinW
      simp
    have e1 := hf p List.mem_cons_self k _ hd0 (by
      cases ps with
      | nil => exact .inr hS
      | cons a r => exact .inl rfl)
    have hd1 := drop_app hd0
    have fuel : ps.length ≤ ws.length := by
      have h2 := congrArg List.length hd1
      rw [List.length_append, List.length_drop] at h2
      have h3 : ∀ qs : List (List Str × D), qs.length ≤ ((qs.map (·.1)).map (w :: ·)).flatten.length := fun qs => by
        induction qs with
        | nil => exact Nat.zero_le _
        | cons q qs ih =>
          simp only [List.map_cons, List.flatten_cons, List.length_append, List.length_cons]
          omega
      have := h3 ps
      omega
    unfold joinT
    rw [e1]
    dsimp only
    rw [loopT_parts hw hS hn ps _ _ _ (fun q hq => hf q (List.mem_cons_of_mem _ hq)) hd1 fuel]
    have hany : ([p.2] ++ ps.map (·.2)).any isNon = false := by
      rw [List.any_eq_false]
      intro d hd
      have hd : d ∈ (p :: ps).map (·.2) := hd
      obtain ⟨q, hq, rfl⟩ := List.mem_map.mp hd
      rw [ht q hq]
      exact Bool.false_ne_true
    refine Prod.ext ?_ ?_
    · show finT w ([p.2] ++ ps.map (·.2)) = _
      unfold finT
      rw [if_neg (by rw [hany]; exact Bool.false_ne_true)]
      rfl
    · show k + p.1.length + _ = _
      unfold joinW
      simp
      omega
theorem fields_no : ∀ f ∈ C_FIELDS, f ≠ "not" ∧ f ≠ "(" := by decide +kernel
theorem oneT_two {w : Str} {ds : List D} (h : 2 ≤ ds.length) : oneT w ds = .tup [.str w, .lst ds] := by
  match ds, h with
  | _ :: _ :: _, _ => rfl
theorem Gr.read {r l : Nat} {us : List Str} {d : D} (h : Gr r l us d) : ∀ (r' : Nat) (ws : List Str) (k : Nat) (post : List Str), r ≤ r' → ws.drop k = us ++ post → stopB l post → rdL l ws r' k = (d, k + us.length) := by
  induction h with
  | @cmp r f g c v h1 h2 h3 =>
    intro r' ws k post _ hd _
    have hd0 : ws.drop k = f :: ([g, c] ++ post) := hd
    obtain ⟨n1, n2⟩ := fields_no f h1
    have hc : cmpT ws k = .tup [.str "compare", .str f, .str g, .int v] := by
      unfold cmpT
      rw [hd]
      show cmpW f g c = _
      unfold cmpW
      rw [if_pos ⟨h1, h2⟩, h3]
    show singleT ws r' k = _
    cases r' with
    | zero =>
      unfold singleT
      rw [nw_cons hd0, if_neg (fun z => z.elim n1 n2), hc]
      rfl
    | succ r' =>
      rw [singleT_succ, nw_cons hd0, if_neg n1, if_neg n2, hc]
      rfl
  | @neg r us d h ih =>
    intro r' ws k post hr hd _
    obtain ⟨r', rfl⟩ : ∃ x, r' = x + 1 := ⟨r' - 1, by omega⟩
    have hd0 : ws.drop k = ("not" : Str) :: (us ++ post) := hd
    have e := ih r' ws (k + 1) post (by omega) (drop_app (us := ["not"]) hd0) ⟨(fun z => absurd z (by decide)), fun z => absurd z (by decide)⟩
    have e : singleT ws r' (k + 1) = (d, k + 1 + us.length) := e
    show singleT ws (r' + 1) k = _
    rw [singleT_succ, nw_cons hd0, if_pos rfl, e]
    dsimp only
    rw [if_neg (by rw [h.tup]; exact Bool.false_ne_true), List.length_cons]
    congr 1
    omega
  | @par r us d h ih =>
    intro r' ws k post hr hd _
    obtain ⟨r', rfl⟩ : ∃ x, r' = x + 1 := ⟨r' - 1, by omega⟩
    have hd0 : ws.drop k = ("(" : Str) :: (us ++ ((")" : Str) :: post)) := by rw [hd]; simp
    have hd1 := drop_app (us := ["("]) hd0
    have e := ih r' ws (k + 1) ((")" : Str) :: post) (by omega) hd1 ⟨(fun _ => by show some _ ≠ _; decide +kernel), fun _ => by show some _ ≠ _; decide +kernel⟩
    have e : orT (singleT ws r') ws (k + 1) = (d, k + 1 + us.length) := e
    have hd2 : ws.drop (k + 1 + us.length) = (")" : Str) :: post := drop_app hd1
    show singleT ws (r' + 1) k = _
    rw [singleT_succ, nw_cons hd0, if_neg (by decide +kernel), if_pos rfl, e]
    dsimp only
    rw [if_pos (nw_cons hd2), List.length_cons, List.length_append, List.length_singleton]
    congr 1
    omega
  | @one2 r us d h ih =>
    intro r' ws k post hr hd hs
    have e := joinT_read (f := singleT ws r') (w := "and") (ws := ws) (post := post) (S := fun _ => True) (k := k) (ps := [(us, d)]) (by decide +kernel) trivial (hs.1 (Nat.le_refl _)) (Nat.le_refl _) (fun p hp k post hd _ => by
      rw [List.mem_singleton.mp hp] at hd ⊢
      exact ih r' ws k post hr hd ⟨(fun z => absurd z (by decide)), fun z => absurd z (by decide)⟩) (fun p hp => by rw [List.mem_singleton.mp hp]; exact h.tup) (by rw [hd]; unfold joinW; simp)
    show joinT (singleT ws r') "and" ws k = _
    rw [e]
    unfold joinW
    simp
    rfl
  | @one1 r us d h ih =>
    intro r' ws k post hr hd hs
    have e := joinT_read (f := andT (singleT ws r') ws) (w := "or") (ws := ws) (post := post) (S := fun post => post.head? ≠ some "and") (k := k) (ps := [(us, d)]) (by decide +kernel) (hs.1 (by decide)) (hs.2 (Nat.le_refl _)) (Nat.le_refl _) (fun p hp k post hd h2 => by
      rw [List.mem_singleton.mp hp] at hd ⊢
      refine ih r' ws k post hr hd ⟨(fun _ => ?_), fun z => absurd z (by decide)⟩
      rcases h2 with h2 | h2
      · rw [h2]
        decide +kernel
      · exact h2) (fun p hp => by rw [List.mem_singleton.mp hp]; exact h.tup) (by rw [hd]; unfold joinW; simp)
    show joinT (andT (singleT ws r') ws) "or" ws k = _
    rw [e]
    unfold joinW
    simp
    rfl
  | @and_ r ps h2 h ih =>
    intro r' ws k post hr hd hs
    have e := joinT_read (f := singleT ws r') (w := "and") (ws := ws) (post := post) (S := fun _ => True) (k := k) (ps := ps) (by decide +kernel) trivial (hs.1 (Nat.le_refl _)) (by omega) (fun p hp k post hd _ =>
      ih p hp r' ws k post hr hd ⟨(fun z => absurd z (by decide)), fun z => absurd z (by decide)⟩) (fun p hp => (h p hp).tup) hd
    show joinT (singleT ws r') "and" ws k = _
    rw [e, oneT_two (by rw [List.length_map]; exact h2)]
  | @or_ r ps h2 h ih =>
    intro r' ws k post hr hd hs
    have e := joinT_read (f := andT (singleT ws r') ws) (w := "or") (ws := ws) (post := post) (S := fun post => post.head? ≠ some "and") (k := k) (ps := ps) (by decide +kernel) (hs.1 (by decide)) (hs.2 (Nat.le_refl _)) (by omega) (fun p hp k post hd h2 => by
      refine ih p hp r' ws k post hr hd ⟨(fun _ => ?_), fun z => absurd z (by decide)⟩
      rcases h2 with h2 | h2
      · rw [h2]
        decide +kernel
      · exact h2) (fun p hp => (h p hp).tup) hd
    show joinT (andT (singleT ws r') ws) "or" ws k = _
    rw [e, oneT_two (by rw [List.length_map]; exact h2)]
theorem Gr.cond {r : Nat} {us : List Str} {d : D} (h : Gr r 1 us d) (hr : r ≤ 40) : condT us = d := by
  have e := h.read 40 us 0 [] hr (by rw [List.append_nil]; rfl) ⟨(fun _ => by show none ≠ _; exact fun z => nomatch z), fun _ => by show none ≠ _; exact fun z => nomatch z⟩
  have e : orT (singleT us 40) us 0 = (d, 0 + us.length) := e
  unfold condT
  rw [e]
  dsimp only
  rw [if_pos (by omega)]
end

/-! ### texts joined by blanks -/
section
open TL
def lenS : List Str → Nat := fun ys => (ys.map fun y => y.length + 1).sum
theorem joinL_le : ∀ ps : List (List Nat), (joinL [32] ps).length ≤ (ps.map fun p => p.length + 1).sum
  | [] => Nat.le_refl _
  | [p] => by simp [joinL]
  | p :: q :: r => by
    have := joinL_le (q :: r)
    show (p ++ ([32] ++ joinL [32] (q :: r))).length ≤ (p.length + 1) + ((q :: r).map fun p => p.length + 1).sum
    rw [List.length_append, List.length_append]
    show p.length + (1 + _) ≤ _
    omega
theorem tl_joinSp (ys : List Str) : tl (Txt.join " " ys) = joinL [32] (ys.map tl) := by
  have e : tl (" " : Str) = [32] := by rw [lit_sp]
  rw [join_eq, tl_join, e]
theorem len_join (ys : List Str) : (Txt.join " " ys).length ≤ lenS ys := by
  rw [len_tl, tl_joinSp]
  refine Nat.le_trans (joinL_le _) ?_
  unfold lenS
  rw [List.map_map]
  exact Nat.le_of_eq (congrArg List.sum (List.map_congr_left fun y _ => by show (tl y).length + 1 = y.length + 1; rw [len_tl]))
theorem asc_joinL : ∀ {ps : List (List Nat)}, (∀ p ∈ ps, asc p) → asc (joinL [32] ps)
  | [], _, c, hc => by cases hc
  | [p], h, c, hc => h p List.mem_cons_self c hc
  | p :: q :: r, h, c, hc => by
    rcases List.mem_append.mp (show c ∈ p ++ ([32] ++ joinL [32] (q :: r)) from hc) with z | z
    · exact h p List.mem_cons_self c z
    · rcases List.mem_append.mp z with z | z
      · rw [List.mem_singleton.mp z]
        decide
      · exact asc_joinL (fun p hp => h p (List.mem_cons_of_mem _ hp)) c z
theorem asc_join {ys : List Str} (h : ∀ y ∈ ys, asc (tl y)) : asc (tl (Txt.join " " ys)) := by
  rw [tl_joinSp]
  refine asc_joinL fun p hp => ?_
  obtain ⟨y, hy, rfl⟩ := List.mem_map.mp hp
  exact h y hy
theorem lenS_map {α : Type} {f : α → Str} {b : Nat} : ∀ {xs : List α}, (∀ x ∈ xs, (f x).length + 1 ≤ b) → lenS (xs.map f) ≤ xs.length * b
  | [], _ => Nat.zero_le _
  | x :: xs, h => by
    have h1 := h x List.mem_cons_self
    have h2 := lenS_map (xs := xs) fun y hy => h y (List.mem_cons_of_mem _ hy)
    show ((f x).length + 1) + lenS (xs.map f) ≤ (xs.length + 1) * b
    rw [Nat.add_mul]
    omega
theorem asc_lit {s : Str} (h : (tl s).all (fun c => decide (c < 128)) = true) : asc (tl s) := fun c hc => of_decide_eq_true (List.all_eq_true.mp h c hc)
theorem asc_app {a b : Str} (ha : asc (tl a)) (hb : asc (tl b)) : asc (tl (a ++ b)) := by
  rw [tl_append]
  intro c hc
  rcases List.mem_append.mp hc with z | z
  · exact ha c z
  · exact hb c z
end

/-! ### the law's own conditions -/
section
open TL
def numZ (i : Int) : List Nat := if i < 0 then 45 :: numL (-i).toNat else numL i.toNat
theorem tl_neg (m : Nat) : tl (Str.ofString (toString (Int.negSucc m))) = 45 :: numL (m + 1) := by
  have e := tl_num (m + 1)
  rw [tl_ofString] at e ⊢
  have e2 : toString (Int.negSucc m) = "-" ++ toString (((m + 1 : Nat)) : Int) := rfl
  rw [e2, String.toList_append, List.map_append, e]
  rfl
theorem tl_numZ (i : Int) : tl (numS i) = numZ i := by
  unfold numZ
  cases i with
  | ofNat n =>
    rw [if_neg (by have : (0 : Int) ≤ Int.ofNat n := Int.natCast_nonneg n; omega)]
    exact tl_num n
  | negSucc m =>
    rw [if_pos (Int.negSucc_lt_zero m)]
    exact tl_neg m
theorem numZ_free {s : Nat} (h : s ≠ 45) (h2 : s < 48 ∨ 57 < s) (i : Int) : s ∉ numZ i := by
  unfold numZ
  split
  · rw [List.mem_cons, not_or]
    exact ⟨h, numL_free h2⟩
  · exact numL_free h2
theorem numZ_asc (i : Int) : asc (numZ i) := by
  unfold numZ
  split
  · intro c hc
    rcases List.mem_cons.mp hc with rfl | hc
    · decide
    · exact asc_numL _ c hc
  · exact asc_numL _
theorem ok9_numZ {i : Int} (h1 : -999999999 ≤ i) (h2 : i ≤ 999999999) : ok9 (numZ i) = some i := by
  unfold numZ ok9
  by_cases h : i < 0
  · rw [if_pos h, if_pos (show (45 :: numL (-i).toNat).head? = some 45 from rfl)]
    show neg9 (numL (-i).toNat) = _
    unfold neg9
    have hn : 1 ≤ (numL (-i).toNat).length := List.length_pos_iff.mpr (numL_ne _)
    rw [digB_all.mpr (numL_digits _), decide_eq_true hn, decide_eq_true (numL_len (k := 9) (by decide) (by omega)), numL_val]
    have hh : ¬ (numL (-i).toNat).head? = some 48 := by
      rcases numL_head (-i).toNat with z | z
      · exact z
      · omega
    rw [decide_eq_false hh]
    show some (-(((-i).toNat : Nat) : Int)) = _
    congr 1
    omega
  · rw [if_neg h, if_neg, okNum_num (by decide) (by omega)]
    · show some ((i.toNat : Nat) : Int) = _
      congr 1
      omega
    · intro z
      cases e : numL i.toNat with
      | nil => exact absurd e (numL_ne _)
      | cons a r =>
        rw [e] at z
        have ha := numL_digits i.toNat a (by rw [e]; exact List.mem_cons_self)
        have := Option.some.inj z
        omega

def jn (us : List Str) : Str := Txt.join " " us
theorem tl_jn (us : List Str) : tl (jn us) = joinL [32] (us.map tl) := tl_joinSp us
theorem joinL_cons {S p : List Nat} {ps : List (List Nat)} (h : ps ≠ []) : joinL S (p :: ps) = p ++ (S ++ joinL S ps) := by
  cases ps with
  | nil => exact absurd rfl h
  | cons q r => rfl
theorem joinL_app {S : List Nat} : ∀ {ps qs : List (List Nat)}, ps ≠ [] → qs ≠ [] → joinL S (ps ++ qs) = joinL S ps ++ (S ++ joinL S qs)
  | [], _, h, _ => absurd rfl h
  | [p], qs, _, hq => joinL_cons hq
  | p :: q :: r, qs, _, hq => by
    show p ++ (S ++ joinL S ((q :: r) ++ qs)) = (p ++ (S ++ joinL S (q :: r))) ++ _
    rw [joinL_app (by simp) hq]
    simp
theorem jn_app {us vs : List Str} (hu : us ≠ []) (hv : vs ≠ []) : jn (us ++ vs) = jn us ++ " " ++ jn vs := ext_tl (by
  have e : tl (" " : Str) = [32] := by rw [lit_sp]
  rw [tl_jn, List.map_append, joinL_app (by simpa using hu) (by simpa using hv), tl_append, tl_append, tl_jn, tl_jn, e, List.append_assoc])
theorem jn_one (u : Str) : jn [u] = u := ext_tl (by rw [tl_jn]; rfl)
theorem jn_cons {u : Str} {vs : List Str} (hv : vs ≠ []) : jn (u :: vs) = u ++ " " ++ jn vs := by
  have e := jn_app (us := [u]) (by simp) hv
  rw [jn_one] at e
  exact e
theorem app_assoc (a b c : Str) : a ++ b ++ c = a ++ (b ++ c) := ext_tl (by rw [tl_append, tl_append, tl_append, tl_append, List.append_assoc])
theorem lit_not : ("not " : Str) = ("not" : Str) ++ " " := by decide +kernel
theorem lit_lp : ("( " : Str) = ("(" : Str) ++ " " := by decide +kernel
theorem lit_rp : (" )" : Str) = (" " : Str) ++ ")" := by decide +kernel
def parW (us : List Str) : List Str := ("(" : Str) :: (us ++ [(")" : Str)])
theorem jn_par {us : List Str} (h : us ≠ []) : jn (parW us) = "( " ++ jn us ++ " )" := by
  unfold parW
  rw [jn_cons (by simp), jn_app h (by simp), jn_one, lit_lp, lit_rp]
  simp only [app_assoc]
theorem joinW_ne {w : Str} {us : List (List Str)} (h : us ≠ []) (hn : ∀ u ∈ us, u ≠ []) : joinW w us ≠ [] := by
  cases us with
  | nil => exact absurd rfl h
  | cons u r =>
    intro z
    unfold joinW at z
    exact hn u List.mem_cons_self (List.append_eq_nil_iff.mp z).1
theorem joinW_two {w : Str} {u v : List Str} {r : List (List Str)} : joinW w (u :: v :: r) = u ++ (w :: joinW w (v :: r)) := by
  unfold joinW
  simp
theorem jn_join {w : Str} : ∀ {us : List (List Str)}, us ≠ [] → (∀ u ∈ us, u ≠ []) → Txt.join (" " ++ w ++ " ") (us.map jn) = jn (joinW w us)
  | [], h, _ => absurd rfl h
  | [u], _, _ => ext_tl (by
    rw [join_eq, tl_join, tl_jn]
    show tl (jn u) = joinL [32] ((joinW w [u]).map tl)
    rw [tl_jn]
    unfold joinW
    simp)
  | u :: v :: r, _, hn => by
    have ih := jn_join (w := w) (us := v :: r) (by simp) fun x hx => hn x (List.mem_cons_of_mem _ hx)
    have hne := joinW_ne (w := w) (us := v :: r) (by simp) fun x hx => hn x (List.mem_cons_of_mem _ hx)
    rw [joinW_two, jn_app (hn u List.mem_cons_self) (by simp), jn_cons hne, ← ih]
    refine ext_tl ?_
    rw [join_eq, join_eq, tl_join]
    simp only [tl_append, tl_join, List.map_cons]
    rw [joinL_cons (by simp)]
    simp
structure Cd where
  d : D
  p : D
  sh : Nat → List Str
  fu : List Str
  tr : Sta → Bool
def numB (v : Int) : Prop := -100000 ≤ v ∧ v ≤ 100000
def wd (w : Bool) : Str := if w then "and" else "or"
def own (w : Bool) : Nat := if w then 2 else 1
def cmpC (f g : Str) (v : Int) : Cd := ⟨.tup [.str f, .str g, .int v], .tup [.str "compare", .str f, .str g, .int v], fun _ => [f, g, numS v], [f, g, numS v], fun s => cmpB g ((fieldV s f).getD 0) v⟩
def negC (c : Cd) : Cd := ⟨.tup [.str "not", c.d], .tup [.str "not", c.p], fun _ => ("not" : Str) :: c.sh 3, ("not" : Str) :: parW c.fu, fun s => !c.tr s⟩
def appC (w : Bool) (cs : List Cd) : Cd := ⟨.tup [.str (wd w), .lst (cs.map (·.d))], .tup [.str (wd w), .lst (cs.map (·.p))],
  fun s => if s ≤ own w then joinW (wd w) (cs.map (·.sh (own w + 1))) else parW (joinW (wd w) (cs.map (·.sh (own w + 1)))), joinW (wd w) (cs.map fun c => parW c.fu), fun s => if w then cs.all (·.tr s) else cs.any (·.tr s)⟩
inductive LC : Nat → Cd → Prop where
  | cmp {n : Nat} {f g : Str} {v : Int} : f ∈ C_FIELDS → g ∈ C_SIGNS → numB v → LC n (cmpC f g v)
  | neg {n : Nat} {c : Cd} : LC n c → LC (n + 1) (negC c)
  | app {n : Nat} {w : Bool} {cs : List Cd} : 2 ≤ cs.length → cs.length ≤ 3 → (∀ c ∈ cs, LC n c) → LC (n + 1) (appC w cs)
theorem num_ok9 {v : Int} (h : numB v) : ok9 (tl (numS v)) = some v := by
  rw [tl_numZ]
  exact ok9_numZ (by have := h.1; omega) (by have := h.2; omega)
theorem LC.gr {n : Nat} {c : Cd} (h : LC n c) : Gr n 3 (c.sh 3) c.p ∧ Gr n 2 (c.sh 2) c.p ∧ Gr n 1 (c.sh 1) c.p ∧ Gr n 1 (c.sh 0) c.p := by
  induction h with
  | @cmp n f g v h1 h2 h3 =>
    have e : Gr n 3 [f, g, numS v] (cmpC f g v).p := .cmp h1 h2 (num_ok9 h3)
    exact ⟨e, e.one2, e.one2.one1, e.one2.one1⟩
  | neg _ ih =>
    have e := ih.1.neg
    exact ⟨e, e.one2, e.one2.one1, e.one2.one1⟩
  | @app n w cs h2 h3 h ih =>
    cases w with
    | true =>
      have J := Gr.and_ (r := n) (ps := cs.map fun c => (c.sh 3, c.p)) (by rw [List.length_map]; exact h2) fun p hp => by
        obtain ⟨c, hc, rfl⟩ := List.mem_map.mp hp
        exact (ih c hc).1
      rw [List.map_map, List.map_map] at J
      have J2 := J.up (Nat.le_succ n)
      exact ⟨J.one1.par, J2, J2.one1, J2.one1⟩
    | false =>
      have J := Gr.or_ (r := n) (ps := cs.map fun c => (c.sh 2, c.p)) (by rw [List.length_map]; exact h2) fun p hp => by
        obtain ⟨c, hc, rfl⟩ := List.mem_map.mp hp
        exact (ih c hc).2.1
      rw [List.map_map, List.map_map] at J
      have J2 := J.up (Nat.le_succ n)
      exact ⟨J.par, J.par.one2, J2, J2⟩
theorem LC.gf {n : Nat} {c : Cd} (h : LC n c) : Gr (2 * n) 1 c.fu c.p := by
  induction h with
  | @cmp n f g v h1 h2 h3 => exact (Gr.cmp h1 h2 (num_ok9 h3)).one2.one1
  | neg _ ih => exact ih.par.neg.one2.one1
  | @app n w cs h2 h3 h ih =>
    cases w with
    | true =>
      have J := Gr.and_ (r := 2 * n + 1) (ps := cs.map fun c => (parW c.fu, c.p)) (by rw [List.length_map]; exact h2) fun p hp => by
        obtain ⟨c, hc, rfl⟩ := List.mem_map.mp hp
        exact (ih c hc).par
      rw [List.map_map, List.map_map] at J
      exact J.one1.up (by omega)
    | false =>
      have J := Gr.or_ (r := 2 * n + 1) (ps := cs.map fun c => (parW c.fu, c.p)) (by rw [List.length_map]; exact h2) fun p hp => by
        obtain ⟨c, hc, rfl⟩ := List.mem_map.mp hp
        exact (ih c hc).par.one2
      rw [List.map_map, List.map_map] at J
      exact J.up (by omega)
theorem field_some {s : Sta} : ∀ f ∈ C_FIELDS, ∃ v, fieldV s f = some v := fun f hf => by
  have hf : f = "power" ∨ f = "megahertz" ∨ f = "mast" ∨ f = "x" ∨ f = "y" ∨ f = "gain" := by simpa [C_FIELDS] using hf
  unfold fieldV
  repeat' split
  any_goals exact ⟨_, rfl⟩
  rename_i h1 h2 h3 h4 h5 h6
  rcases hf with h | h | h | h | h | h
  · exact absurd h h1
  · exact absurd h h2
  · exact absurd h h3
  · exact absurd h h4
  · exact absurd h h5
  · exact absurd h h6
/-- the truth, by the tree -/
def truD (s : Sta) : Nat → D → Bool
  | n + 1, .tup [.str a, .lst ds] => if a = "and" then ds.all (truD s n) else ds.any (truD s n)
  | n + 1, .tup [.str _, .tup es] => !truD s n (.tup es)
  | _ + 1, .tup [.str _, .str f, .str g, .int c] => cmpB g ((fieldV s f).getD 0) c
  | _, _ => false
theorem LC.ptup {n : Nat} {c : Cd} (h : LC n c) : ∃ es, c.p = .tup es := by
  cases h <;> exact ⟨_, rfl⟩
theorem LC.tr_ {n : Nat} {c : Cd} {s : Sta} (h : LC n c) : TrD s (n + 1) c.p (c.tr s) ∧ truD s (n + 1) c.p = c.tr s := by
  induction h with
  | @cmp n f g v h1 h2 h3 =>
    obtain ⟨x, hx⟩ := field_some (s := s) f h1
    refine ⟨?_, rfl⟩
    show TrD s (n + 1) _ (cmpB g ((fieldV s f).getD 0) v)
    rw [hx]
    exact .cmp hx
  | @neg n c hc ih =>
    refine ⟨.neg ih.1, ?_⟩
    obtain ⟨es, e⟩ := hc.ptup
    show truD s (n + 2) (.tup [.str "not", c.p]) = !c.tr s
    rw [← ih.2, e]
    rfl
  | @app n w cs h2 h3 h ih =>
    have hb : ∀ d ∈ cs.map (·.p), TrD s (n + 1) d (truD s (n + 1) d) := fun d hd => by
      obtain ⟨c, hc, rfl⟩ := List.mem_map.mp hd
      rw [(ih c hc).2]
      exact (ih c hc).1
    have hz : (cs.map (·.p)).length ≤ 1000000 := by rw [List.length_map]; omega
    have ea : (cs.map (·.p)).all (truD s (n + 1)) = cs.all (·.tr s) := by
      rw [List.all_map, Bool.eq_iff_iff, List.all_eq_true, List.all_eq_true]
      exact ⟨fun h c hc => (ih c hc).2 ▸ h c hc, fun h c hc => by show truD s (n + 1) c.p = true; rw [(ih c hc).2]; exact h c hc⟩
    have eo : (cs.map (·.p)).any (truD s (n + 1)) = cs.any (·.tr s) := by
      rw [List.any_map, Bool.eq_iff_iff, List.any_eq_true, List.any_eq_true]
      exact ⟨fun ⟨c, hc, h⟩ => ⟨c, hc, (ih c hc).2 ▸ h⟩, fun ⟨c, hc, h⟩ => ⟨c, hc, by show truD s (n + 1) c.p = true; rw [(ih c hc).2]; exact h⟩⟩
    cases w with
    | true =>
      refine ⟨?_, ?_⟩
      · show TrD s (n + 2) (.tup [.str "and", .lst (cs.map (·.p))]) (cs.all (·.tr s))
        rw [← ea]
        exact .all hz hb
      · exact (if_pos rfl).trans ea
    | false =>
      refine ⟨?_, ?_⟩
      · show TrD s (n + 2) (.tup [.str "or", .lst (cs.map (·.p))]) (cs.any (·.tr s))
        rw [← eo]
        exact .any hz hb
      · exact (if_neg (by decide +kernel)).trans eo
end

/-! ### the law's own conditions: shown, and their truth -/
section
open TL
def okW (w : Str) : Prop := w.length ≤ 12 ∧ asc (tl w) ∧ 32 ∉ tl w ∧ 10 ∉ tl w
def okWb (w : Str) : Bool := decide (w.length ≤ 12) && ((tl w).all (fun c => decide (c < 128)) && (decide (32 ∉ tl w) && decide (10 ∉ tl w)))
theorem okW_of {w : Str} (h : okWb w = true) : okW w := by
  unfold okWb at h
  simp only [Bool.and_eq_true, decide_eq_true_eq] at h
  exact ⟨h.1, asc_lit h.2.1, h.2.2.1, h.2.2.2⟩
theorem okW_fields : ∀ f ∈ C_FIELDS, okWb f = true := by decide +kernel
theorem okW_signs : ∀ f ∈ C_SIGNS, okWb f = true := by decide +kernel
theorem fields_no2 : ∀ f ∈ C_FIELDS, f ≠ "not" ∧ f ∉ (["and", "or"] : List Str) := by decide +kernel
theorem okW_lit : okW "not" ∧ okW "and" ∧ okW "or" ∧ okW "(" ∧ okW ")" := ⟨okW_of (by decide +kernel), okW_of (by decide +kernel), okW_of (by decide +kernel), okW_of (by decide +kernel), okW_of (by decide +kernel)⟩
theorem numZ_len {v : Int} (h : numB v) : (numZ v).length ≤ 10 := by
  unfold numZ
  have h1 := h.1
  have h2 := h.2
  split
  · have := numL_len (n := (-v).toNat) (k := 6) (by decide) (by omega)
    rw [List.length_cons]
    omega
  · have := numL_len (n := v.toNat) (k := 6) (by decide) (by omega)
    omega
theorem okW_num {v : Int} (h : numB v) : okW (numS v) := ⟨by rw [len_tl, tl_numZ]; have := numZ_len h; omega, by rw [tl_numZ]; exact numZ_asc v, by rw [tl_numZ]; exact numZ_free (by decide) (by decide) v, by rw [tl_numZ]; exact numZ_free (by decide) (by decide) v⟩
theorem okW_wd (w : Bool) : okW (wd w) := by
  cases w
  · exact okW_lit.2.2.1
  · exact okW_lit.2.1
theorem joinW_all {P : Str → Prop} {w : Str} (hw : P w) {us : List (List Str)} (h : ∀ u ∈ us, ∀ x ∈ u, P x) : ∀ x ∈ joinW w us, P x := by
  cases us with
  | nil => intro x hx; cases hx
  | cons u r =>
    intro x hx
    unfold joinW at hx
    rcases List.mem_append.mp hx with hx | hx
    · exact h u List.mem_cons_self x hx
    · obtain ⟨l, hl, hx⟩ := List.mem_flatten.mp hx
      obtain ⟨v, hv, rfl⟩ := List.mem_map.mp hl
      rcases List.mem_cons.mp hx with rfl | hx
      · exact hw
      · exact h v (List.mem_cons_of_mem _ hv) x hx
theorem joinW_len {w : Str} {b : Nat} : ∀ {us : List (List Str)}, (∀ u ∈ us, u.length ≤ b) → (joinW w us).length ≤ us.length * (b + 1) := by
  have key : ∀ {us : List (List Str)}, (∀ u ∈ us, u.length ≤ b) → ((us.map (w :: ·)).flatten).length ≤ us.length * (b + 1) := by
    intro us
    induction us with
    | nil => intro _; exact Nat.zero_le _
    | cons u r ih =>
      intro h
      have h1 := h u List.mem_cons_self
      have h2 := ih fun v hv => h v (List.mem_cons_of_mem _ hv)
      rw [List.map_cons, List.flatten_cons, List.length_append, List.length_cons, List.length_cons, Nat.add_mul]
      omega
  intro us h
  cases us with
  | nil => exact Nat.zero_le _
  | cons u r =>
    have h1 := h u List.mem_cons_self
    have h2 := key (us := r) fun v hv => h v (List.mem_cons_of_mem _ hv)
    unfold joinW
    rw [List.length_append, List.length_cons, Nat.add_mul]
    omega
theorem parW_all {P : Str → Prop} (h1 : P "(") (h2 : P ")") {us : List Str} (h : ∀ x ∈ us, P x) : ∀ x ∈ parW us, P x := fun x hx => by
  unfold parW at hx
  rcases List.mem_cons.mp hx with rfl | hx
  · exact h1
  · rcases List.mem_append.mp hx with hx | hx
    · exact h x hx
    · rw [List.mem_singleton.mp hx]
      exact h2
theorem parW_len (us : List Str) : (parW us).length = us.length + 2 := by
  unfold parW
  rw [List.length_cons, List.length_append, List.length_singleton]
def bW : Nat → Nat
  | 0 => 3
  | n + 1 => 3 * bW n + 11
theorem bW3 : ∀ n, 3 ≤ bW n
  | 0 => Nat.le_refl _
  | n + 1 => by
    have := bW3 n
    show 3 ≤ 3 * bW n + 11
    omega
theorem LC.words {n : Nat} {c : Cd} (h : LC n c) : (∀ s, ∀ x ∈ c.sh s, okW x) ∧ ∀ x ∈ c.fu, okW x := by
  induction h with
  | @cmp n f g v h1 h2 h3 =>
    have a : ∀ x ∈ [f, g, numS v], okW x := fun x hx => by
      simp only [List.mem_cons, List.not_mem_nil, or_false] at hx
      rcases hx with rfl | rfl | rfl
      · exact okW_of (okW_fields _ h1)
      · exact okW_of (okW_signs _ h2)
      · exact okW_num h3
    exact ⟨fun _ => a, a⟩
  | @neg n c hc ih =>
    refine ⟨fun s x hx => ?_, fun x hx => ?_⟩
    · rcases List.mem_cons.mp hx with rfl | hx
      · exact okW_lit.1
      · exact ih.1 3 x hx
    · rcases List.mem_cons.mp hx with rfl | hx
      · exact okW_lit.1
      · exact parW_all okW_lit.2.2.2.1 okW_lit.2.2.2.2 ih.2 x hx
  | @app n w cs h2 h3 h ih =>
    have a : ∀ x ∈ joinW (wd w) (cs.map (·.sh (own w + 1))), okW x := joinW_all (okW_wd w) fun u hu x hx => by
      obtain ⟨c, hc, rfl⟩ := List.mem_map.mp hu
      exact (ih c hc).1 _ x hx
    refine ⟨fun s x hx => ?_, joinW_all (okW_wd w) fun u hu x hx => ?_⟩
    · have hx : x ∈ if s ≤ own w then joinW (wd w) (cs.map (·.sh (own w + 1))) else parW (joinW (wd w) (cs.map (·.sh (own w + 1)))) := hx
      split at hx
      · exact a x hx
      · exact parW_all okW_lit.2.2.2.1 okW_lit.2.2.2.2 a x hx
    · obtain ⟨c, hc, rfl⟩ := List.mem_map.mp hu
      exact parW_all okW_lit.2.2.2.1 okW_lit.2.2.2.2 (ih c hc).2 x hx
theorem LC.len {n : Nat} {c : Cd} (h : LC n c) : (∀ s, c.sh s ≠ [] ∧ (c.sh s).length ≤ bW n) ∧ c.fu ≠ [] ∧ c.fu.length ≤ bW n := by
  induction h with
  | @cmp n f g v h1 h2 h3 => exact ⟨fun _ => ⟨(fun z => nomatch z), bW3 n⟩, (fun z => nomatch z), bW3 n⟩
  | @neg n c hc ih =>
    refine ⟨fun s => ⟨(fun z => nomatch z), ?_⟩, (fun z => nomatch z), ?_⟩
    · have := (ih.1 3).2
      show (c.sh 3).length + 1 ≤ 3 * bW n + 11
      omega
    · have := ih.2.2
      show (parW c.fu).length + 1 ≤ 3 * bW n + 11
      rw [parW_len]
      omega
  | @app n w cs h2 h3 h ih =>
    have b3 := bW3 n
    have a : (joinW (wd w) (cs.map (·.sh (own w + 1)))).length ≤ (cs.map (·.sh (own w + 1))).length * (bW n + 1) := joinW_len fun u hu => by
      obtain ⟨c, hc, rfl⟩ := List.mem_map.mp hu
      exact ((ih c hc).1 _).2
    have b : (joinW (wd w) (cs.map fun c => parW c.fu)).length ≤ (cs.map fun c => parW c.fu).length * (bW n + 2 + 1) := joinW_len fun u hu => by
      obtain ⟨c, hc, rfl⟩ := List.mem_map.mp hu
      rw [parW_len]
      have := (ih c hc).2.2
      omega
    rw [List.length_map] at a b
    have a2 : cs.length * (bW n + 1) ≤ 3 * (bW n + 1) := Nat.mul_le_mul_right _ h3
    have b2 : cs.length * (bW n + 2 + 1) ≤ 3 * (bW n + 2 + 1) := Nat.mul_le_mul_right _ h3
    have cne : ∀ {f : Cd → List Str}, cs.map f ≠ [] := fun {f} z => by
      have := congrArg List.length z
      rw [List.length_map] at this
      have e0 : ([] : List (List Str)).length = 0 := rfl
      omega
    refine ⟨fun s => ⟨?_, ?_⟩, ?_, ?_⟩
    · show (if s ≤ own w then joinW (wd w) (cs.map (·.sh (own w + 1))) else parW (joinW (wd w) (cs.map (·.sh (own w + 1))))) ≠ []
      split
      · exact joinW_ne cne fun u hu => by
          obtain ⟨c, hc, rfl⟩ := List.mem_map.mp hu
          exact ((ih c hc).1 _).1
      · exact fun z => nomatch z
    · show (if s ≤ own w then joinW (wd w) (cs.map (·.sh (own w + 1))) else parW (joinW (wd w) (cs.map (·.sh (own w + 1))))).length ≤ 3 * bW n + 11
      split
      · omega
      · rw [parW_len]
        omega
    · exact joinW_ne cne fun u hu => by
        obtain ⟨c, hc, rfl⟩ := List.mem_map.mp hu
        exact fun z => nomatch z
    · exact Nat.le_trans b (by show _ ≤ 3 * bW n + 11; omega)
theorem jn_len {us : List Str} (h : ∀ x ∈ us, okW x) : (jn us).length ≤ us.length * 13 := by
  refine Nat.le_trans (len_join us) ?_
  have := lenS_map (f := fun x : Str => x) (b := 13) (xs := us) fun x hx => by have := (h x hx).1; omega
  rw [List.map_id'] at this
  exact this
theorem bW2 {n : Nat} (h : n ≤ 2) : bW n ≤ 71 := by
  match n, h with
  | 0, _ => decide
  | 1, _ => decide
  | 2, _ => decide
theorem LC.jl {n : Nat} {c : Cd} (h : LC n c) (h2 : n ≤ 2) : (∀ s, (jn (c.sh s)).length ≤ 1000) ∧ (jn c.fu).length ≤ 1000 := by
  have b := bW2 h2
  refine ⟨fun s => ?_, ?_⟩
  · have := jn_len (h.words.1 s)
    have := (h.len.1 s).2
    omega
  · have := jn_len h.words.2
    have := h.len.2.2
    omega
theorem LC.dtup {n : Nat} {c : Cd} (h : LC n c) : ∃ es, c.d = .tup es := by
  cases h <;> exact ⟨_, rfl⟩
theorem map_d_inj {m : Nat} : ∀ {cs cs' : List Cd}, (∀ c ∈ cs, ∀ c', LC m c' → c.d = c'.d → c = c') → (∀ c ∈ cs', LC m c) → cs.map (·.d) = cs'.map (·.d) → cs = cs'
  | [], [], _, _, _ => rfl
  | [], c :: r, _, _, e => by simp at e
  | c :: r, [], _, _, e => by simp at e
  | c :: r, c' :: r', h, h', e => by
    rw [List.map_cons, List.map_cons] at e
    obtain ⟨e1, e2⟩ := List.cons.inj e
    rw [h c List.mem_cons_self c' (h' c' List.mem_cons_self) e1, map_d_inj (fun x hx => h x (List.mem_cons_of_mem _ hx)) (fun x hx => h' x (List.mem_cons_of_mem _ hx)) e2]
theorem wd_inj {w w' : Bool} (h : wd w = wd w') : w = w' := by
  cases w <;> cases w' <;> first | rfl | exact absurd h (by decide +kernel)
theorem LC.inj {n : Nat} {c : Cd} (h : LC n c) : ∀ {m : Nat} {c' : Cd}, LC m c' → c.d = c'.d → c = c' := by
  induction h with
  | @cmp n f g v h1 h2 h3 =>
    intro m c' h' e
    cases h' with
    | @cmp _ f' g' v' =>
      simp only [cmpC, D.tup.injEq, List.cons.injEq, D.str.injEq, D.int.injEq] at e
      obtain ⟨rfl, rfl, rfl, _⟩ := e
      rfl
    | neg => simp [cmpC, negC] at e
    | app => simp [cmpC, appC] at e
  | @neg n c hc ih =>
    intro m c' h' e
    cases h' with
    | cmp => simp [cmpC, negC] at e
    | @neg _ c' hc' =>
      simp only [negC, D.tup.injEq, List.cons.injEq] at e
      rw [ih hc' e.2.1]
    | @app _ w cs =>
      obtain ⟨es, h⟩ := hc.dtup
      simp [appC, negC, h] at e
  | @app n w cs h2 h3 h ih =>
    intro m c' h' e
    cases h' with
    | cmp => simp [cmpC, appC] at e
    | @neg _ c' hc' =>
      obtain ⟨es, h⟩ := hc'.dtup
      simp [appC, negC, h] at e
    | @app k w' cs' _ _ h' =>
      simp only [appC, D.tup.injEq, List.cons.injEq, D.str.injEq, D.lst.injEq] at e
      rw [wd_inj e.1, map_d_inj (m := k) (fun c hc c' hc' e => ih c hc hc' e) h' e.2.1]
open Classical in
noncomputable def pick (cs : List Cd) (d : D) : Cd := if h : ∃ c ∈ cs, c.d = d then h.choose else cmpC "" "" 0
theorem pick_at {n : Nat} {cs : List Cd} (h : ∀ c ∈ cs, LC n c) {c : Cd} (hc : c ∈ cs) : pick cs c.d = c := by
  have hx : ∃ x ∈ cs, x.d = c.d := ⟨c, hc, rfl⟩
  unfold pick
  rw [dif_pos hx]
  exact (h _ hx.choose_spec.1).inj (h c hc) hx.choose_spec.2
theorem pick_map {n : Nat} {cs : List Cd} (h : ∀ c ∈ cs, LC n c) {α : Type} (f : Cd → α) : (cs.map (·.d)).map (fun d => f (pick cs d)) = cs.map f := by
  rw [List.map_map]
  exact List.map_congr_left fun c hc => congrArg f (pick_at h hc)
section
variable {K : PySem.W.Frag} {φ : Addr → Prop} {J : Hp → Prop} {ρ : List (Option D)} {ta tb : TE}
theorem inV_bls (b : Bool) (bs : List Bool) : inV (.bl b) (bs.map V.bl) = decide (b ∈ bs) := by
  unfold inV
  rw [List.any_map, Bool.eq_iff_iff, List.any_eq_true, decide_eq_true_eq]
  constructor
  · rintro ⟨y, hy, h⟩
    have h : eqV (.bl y) (.bl b) = true := h
    have e : y = b := by cases y <;> cases b <;> first | rfl | (exact absurd h (by decide))
    exact e ▸ hy
  · intro h
    exact ⟨b, h, by show eqV (.bl b) (.bl b) = true; cases b <;> decide⟩
theorem flat_bls (bs : List Bool) : (bs.map V.bl).all flatV = true := by
  rw [List.all_map]
  exact List.all_eq_true.mpr fun _ _ => rfl
theorem ev_inLB {b : Bool} {bs : List Bool} (ha : EvD K φ J ta ρ (.bl b)) (hb : EvD K φ J tb ρ (.lst (bs.map D.bl))) : EvD K φ J (tOp (rIn K false) ta tb) ρ (.bl (decide (b ∈ bs))) := ev_opD ha hb fun H v w _ r1 r2 Q q => by
  cases (show v = _ from r1)
  obtain ⟨a, vs, rfl, p, rs⟩ := rep_lst r2
  have ev := reps_bls rs
  subst ev
  exact ⟨a, _, rfl, .inl p.sq, rfl, flat_bls bs, q _ _ H (Same.refl H) rfl (by rw [inV_bls]; rfl)⟩
theorem ev_notInLB {b : Bool} {bs : List Bool} (ha : EvD K φ J ta ρ (.bl b)) (hb : EvD K φ J tb ρ (.lst (bs.map D.bl))) : EvD K φ J (tOp (rIn K true) ta tb) ρ (.bl (!decide (b ∈ bs))) := ev_opD ha hb fun H v w _ r1 r2 Q q => by
  cases (show v = _ from r1)
  obtain ⟨a, vs, rfl, p, rs⟩ := rep_lst r2
  have ev := reps_bls rs
  subst ev
  exact ⟨a, _, rfl, .inl p.sq, rfl, flat_bls bs, q _ _ H (Same.refl H) rfl (by rw [inV_bls]; rfl)⟩
end
def RShow (n : Nat) : List D → D → Prop := fun ds d => ∃ (m : Nat) (c : Cd) (s : Nat), n = m + 1 ∧ m ≤ 2 ∧ LC m c ∧ ds = [c.d, .int (s : Int)] ∧ d = .str (jn (c.sh s))
def RFull (n : Nat) : List D → D → Prop := fun ds d => ∃ (m : Nat) (c : Cd), n = m + 1 ∧ m ≤ 2 ∧ LC m c ∧ ds = [c.d] ∧ d = .str (jn c.fu)
theorem jn_cmp (f g v : Str) : jn [f, g, v] = f ++ " " ++ g ++ " " ++ v := by
  rw [jn_cons (by simp), jn_cons (by simp), jn_one]
  simp only [app_assoc]
theorem jn_sum {us : List Str} {b : Nat} (h : ∀ u ∈ us, u.length ≤ b) : (us.map (·.length)).sum ≤ us.length * b := sum_le h
theorem wd_len (w : Bool) : (" " ++ wd w ++ " ").length ≤ 5 := by cases w <;> decide +kernel
theorem wd_no (w : Bool) : ¬ wd w = "not" ∧ wd w ∈ (["and", "or"] : List Str) := by cases w <;> decide +kernel
theorem log_num {v : Int} (h : numB v) : v.natAbs.log2 < 1920 := by
  have h1 := h.1
  have h2 := h.2
  by_cases z : v.natAbs = 0
  · rw [z]
    decide
  · exact (Nat.log2_lt z).mpr (Nat.lt_of_lt_of_le (show v.natAbs < 2 ^ 20 by omega) (Nat.pow_le_pow_right (by decide) (by decide)))
section
variable {P : Program} {w : World} {K : PySem.W.Frag} {mg : Str → Option Value} {base : Heap}
theorem sc__law_show : FnScope ["tree", "strength", "own", "text", "part"] ["tree", "strength"] (defScope s__law_show) := ⟨rfl, rfl, rfl, by decide +kernel, rfl, by decide +kernel, by decide +kernel⟩
theorem ok__law_show (B : Bi mg) {f : Addr} {fd : FuncData} (F : Fun K "_law_show" "_law_show" s__law_show f fd) (L__law_show : Lk K mg "_law_show" f fd ["tree", "strength"]) : ∀ n, FnOk P w K mg base CX0 n f fd ["tree", "strength"] (SpD K 2 (RShow n))
  | 0 => fn_never fun vs H Q E h => by
    obtain ⟨_, _, _, _, _, _, ⟨_, _, _, h, _⟩, _⟩ := h
    cases h
  | n + 1 => by
    have G__law_show : FnOk P w K mg base CX0 n f fd ["tree", "strength"] (SpD K 2 (RShow n)) := ok__law_show B F L__law_show n
    have S := sc__law_show
    refine fn_ok F S rfl 3 rfl fun cdv A outer s H E hr => ⟨_, ((pss_cons (ps_if (pt_cmpR op_eq (pe_ix ix_tup (pv 0) pe_int (fun _ _ => rfl)) pe_str (nomark _))
 (pss_one (ps_ret (pe_op op_addS pe_str (pe_call G__law_show (hr.mono (by first | exact Nat.le_refl _ | decide | omega)) (by rfl) L__law_show.m L__law_show.kp L__law_show.bi .nil pass0 (pa_cons (pe_ix ix_tup (pv 0) pe_int (fun _ _ => rfl)) (pa_cons pe_int pa_nil))))))
 pss_nil)
 (pss_cons (ps_if (pt_cmpR op_in_seq (pe_ix ix_tup (pv 0) pe_int (fun _ _ => rfl)) (pe_tup (pa_cons pe_str (pa_cons pe_str pa_nil))) (by rfl))
 (pss_cons (ps_set (i := 2) S.nd rfl (by first | exact Or.inl rfl | exact Or.inr rfl) (pe_ifExp (pt_cmpR op_eq (pe_ix ix_tup (pv 0) pe_int (fun _ _ => rfl)) pe_str (nomark _)) pe_int pe_int))
 (pss_cons (ps_set (i := 3) S.nd rfl (by first | exact Or.inl rfl | exact Or.inr rfl) (pe_m1 PySem.F.slot_str_join PySem.F.type_str_join mu_join (pe_op op_addS (pe_op op_addS pe_str (pe_ix ix_tup (pv 0) pe_int (fun _ _ => rfl))) pe_str) (pe_lc (own := [("part", 4)]) (g := (gName 4)) (tt := tYes) (by rfl) S.nd (pi_list (pe_ix ix_tup (pv 0) pe_int (fun _ _ => rfl))) (blkOk_by (N := ["tree", "strength", "own", "text", "part"]) (sc := defScope s__law_show) (own := [("part", 4)]) (by decide +kernel)) (fun _ _ _ _ _ => (pg_name (i := 4) S.nd rfl (by first | exact Or.inl rfl | exact Or.inr rfl))) (fun _ _ _ _ _ => pts_nil) (fun _ _ _ _ _ => (pe_call G__law_show (hr.mono (by first | exact Nat.le_refl _ | decide | omega)) (by rfl) L__law_show.m L__law_show.kp L__law_show.bi .nil pass0 (pa_cons (pv 4) (pa_cons (pe_op op_add (pv 2) pe_int) pa_nil)))))))
 (pss_one (ps_ret (pe_ifExp (pt_cmpR op_ge (pv 2) (pv 1) (nomark _)) (pv 3) (pe_op op_addS (pe_op op_addS pe_str (pv 3)) pe_str))))))
 pss_nil)
 (pss_one (ps_ret (pe_op op_addS (pe_op op_addS (pe_op op_addS (pe_op op_addS (pe_ix ix_tup (pv 0) pe_int (fun _ _ => rfl)) pe_str) (pe_ix ix_tup (pv 0) pe_int (fun _ _ => rfl))) pe_str) (pe_callTy c_strI (by rfl) B.str (by decide +kernel) (pa_cons (pe_ix ix_tup (pv 0) pe_int (fun _ _ => rfl)) pa_nil)))))))), fun φ ds d H D0 σ hl hR hrt _ A => ?_⟩
    obtain ⟨m, c, s, hn, hm, hc, rfl, rfl⟩ := hR
    have hn : n = m := by omega
    subst hn
    replace A : At K φ (Same H) [some c.d, some (.int (s : Int)), none, none, none] σ H := A
    cases hc with
    | @cmp _ f g v h1 h2 h3 =>
      obtain ⟨n1, n2⟩ := fields_no2 f h1
      have l1 := (okW_of (okW_fields f h1)).1
      have l2 := (okW_of (okW_signs g h2)).1
      have l3 := (okW_num h3).1
      have lsp : (" " : Str).length = 1 := by decide +kernel
      replace A : At K φ (Same H) [some (.tup [.str f, .str g, .int v]), some (.int (s : Int)), none, none, none] σ H := A
      refine q (st_no A (et_test (ev_eqS (ev_ixT (ev_var (i := 0) rfl) ev_int rfl) ev_str)) (decide_eq_false n1) fun H1 A1 => st_next (q ?_))
      refine st_no A1 (et_test (ev_inTS (ys := ["and", "or"]) (ev_ixT (ev_var (i := 0) rfl) ev_int rfl) (ev_tup (ea_cons ev_str (ea_cons ev_str ea_nil))))) (decide_eq_false n2) fun H2 A2 => st_next ?_
      refine st_ret A2 (ev_addS (ev_addS (ev_addS (ev_addS (ev_ixT (ev_var (i := 0) rfl) ev_int rfl) ev_str (by omega)) (ev_ixT (ev_var (i := 0) rfl) ev_int rfl) (by rw [len_app]; omega)) ev_str (by rw [len_app, len_app]; omega)) (ev_strI (ev_ixT (ev_var (i := 0) rfl) ev_int rfl) (log_num h3)) (by
        rw [len_app, len_app, len_app]
        have : (numS v).length = (Str.ofString (toString v)).length := rfl
        omega)) fun v d H4 e A4 r => hrt v H4 A4.j (by
          show Rep K φ H4 (.str (jn [f, g, numS _])) v
          rw [jn_cmp]
          rw [e] at r
          exact r)
    | @neg k c hc =>
      replace A : At K φ (Same H) [some (.tup [.str "not", c.d]), some (.int (s : Int)), none, none, none] σ H := A
      have hl := (hc.jl (by omega)).1 3
      refine q (st_yes A (et_test (ev_eqS (ev_ixT (ev_var (i := 0) rfl) ev_int rfl) ev_str)) (decide_eq_true rfl) fun H1 A1 => ?_)
      refine st_ret A1 (ev_addS ev_str (ev_callD (ea_cons (ev_ixT (ev_var (i := 0) rfl) ev_int rfl) (ea_cons ev_int ea_nil)) ⟨k, c, 3, rfl, by omega, hc, rfl, rfl⟩) (by
        have : ("not " : Str).length = 4 := by decide +kernel
        omega)) fun v d H4 e A4 r => hrt v H4 A4.j (by
          show Rep K φ H4 (.str (jn (("not" : Str) :: c.sh 3))) v
          rw [jn_cons (hc.len.1 3).1, ← lit_not]
          rw [e] at r
          exact r)
    | @app k x cs h2 h3 hcs =>
      have hk : k ≤ 2 := by omega
      obtain ⟨n1, n2⟩ := wd_no x
      replace A : At K φ (Same H) [some (.tup [.str (wd x), .lst (cs.map (·.d))]), some (.int (s : Int)), none, none, none] σ H := A
      refine q (st_no A (et_test (ev_eqS (ev_ixT (ev_var (i := 0) rfl) ev_int rfl) ev_str)) (decide_eq_false n1) fun H1 A1 => st_next (q ?_))
      refine st_yes A1 (et_test (ev_inTS (ys := ["and", "or"]) (ev_ixT (ev_var (i := 0) rfl) ev_int rfl) (ev_tup (ea_cons ev_str (ea_cons ev_str ea_nil))))) (decide_eq_true n2) fun H2 A2 => q ?_
      refine st_set (d := .int (own x : Int)) A2 (ev_if (et_test (ev_eqS (ev_ixT (ev_var (i := 0) rfl) ev_int rfl) ev_str)) (fun hb => ?_) fun hb => ?_) fun σ3 H3 A3 => q ?_
      · cases x with
        | true => exact ev_int
        | false => exact absurd (show true = decide ((wd false) = ("and" : Str)) from hb) (by decide +kernel)
      · cases x with
        | true => exact absurd (show false = decide ((wd true) = ("and" : Str)) from hb) (by decide +kernel)
        | false => exact ev_int
      replace A3 : At K φ (Same H) [some (.tup [.str (wd x), .lst (cs.map (·.d))]), some (.int (s : Int)), some (.int (own x : Int)), none, none] σ3 H3 := A3
      have lW := wd_len x
      have lw1 : (" " ++ wd x).length ≤ 5 := by
        have e := len_app (" " ++ wd x) " "
        omega
      have hU : ∀ u ∈ cs.map (·.sh (own x + 1)), u ≠ [] := fun u hu => by
        obtain ⟨c, hc, rfl⟩ := List.mem_map.mp hu
        exact ((hcs c hc).len.1 _).1
      have cne : cs.map (·.sh (own x + 1)) ≠ [] := fun z => by
        have := congrArg List.length z
        rw [List.length_map] at this
        have e0 : ([] : List (List Str)).length = 0 := rfl
        omega
      have hsum : (((cs.map (·.sh (own x + 1))).map jn).map (·.length)).sum ≤ 3000 := by
        have a := jn_sum (us := (cs.map (·.sh (own x + 1))).map jn) (b := 1000) fun u hu => by
          obtain ⟨y, hy, rfl⟩ := List.mem_map.mp hu
          obtain ⟨c, hc, rfl⟩ := List.mem_map.mp hy
          exact ((hcs c hc).jl hk).1 _
        rw [List.length_map, List.length_map] at a
        omega
      have htx : Txt.join (" " ++ wd x ++ " ") ((cs.map (·.sh (own x + 1))).map jn) = jn (joinW (wd x) (cs.map (·.sh (own x + 1)))) := jn_join cne hU
      have hjne := joinW_ne (w := wd x) cne hU
      have hjl : (jn (joinW (wd x) (cs.map (·.sh (own x + 1))))).length ≤ 900000 := by
        have a := jn_len (us := joinW (wd x) (cs.map (·.sh (own x + 1)))) (joinW_all (okW_wd x) fun u hu y hy => by
          obtain ⟨c, hc, rfl⟩ := List.mem_map.mp hu
          exact (hcs c hc).words.1 _ y hy)
        have b := joinW_len (w := wd x) (us := cs.map (·.sh (own x + 1))) (b := 71) fun u hu => by
          obtain ⟨c, hc, rfl⟩ := List.mem_map.mp hu
          exact Nat.le_trans ((hcs c hc).len.1 _).2 (bW2 hk)
        rw [List.length_map] at b
        have : cs.length * (71 + 1) ≤ 3 * 72 := Nat.mul_le_mul_right _ h3
        omega
      refine st_set (d := .str (jn (joinW (wd x) (cs.map (·.sh (own x + 1)))))) A3 ((ev_join (ys := (cs.map (·.sh (own x + 1))).map jn) (ev_addS (ev_addS ev_str (ev_ixT (ev_var (i := 0) rfl) ev_int rfl) (by rw [← len_app]; omega)) ev_str (by rw [← len_app]; omega)) ((ev_lc (k := 4) (f := fun d => .str (jn ((pick cs d).sh (own x + 1)))) (it_list (ds := cs.map (·.d)) (ev_ixT (ev_var (i := 0) rfl) ev_int rfl)) (by rw [List.length_map]; omega) fun d hd φ' J' hx => ?_).is (by rw [pick_map hcs fun c => D.str (jn (c.sh (own x + 1))), List.map_map, List.map_map]; rfl)) (by
        have a : ((cs.map (·.sh (own x + 1))).map jn).length * (" " ++ wd x ++ " ").length ≤ 3 * 5 := Nat.mul_le_mul (by rw [List.length_map, List.length_map]; exact h3) lW
        omega)).is (congrArg D.str htx)) fun σ4 H4 A4 => ?_
      · obtain ⟨c, hc, rfl⟩ := List.mem_map.mp hd
        rw [pick_at hcs hc]
        exact ev_callD (ea_cons (ev_var rfl) (ea_cons (ev_add (ev_var (i := 2) rfl) ev_int) ea_nil)) ⟨k, c, own x + 1, rfl, hk, hcs c hc, rfl, rfl⟩
      generalize hT : joinW (wd x) (cs.map (·.sh (own x + 1))) = T at A4 hjne hjl
      refine st_ret A4 (ev_if (P := fun d => d = .str (jn (if s ≤ own x then T else parW T))) (et_test (ev_ge (ev_var (i := 2) rfl) (ev_var (i := 1) rfl))) (fun hb => ?_) fun hb => ?_) fun v d H5 e A5 r => hrt v H5 A5.j (by
        show Rep K φ H5 (.str (jn (if s ≤ own x then joinW (wd x) (cs.map (·.sh (own x + 1))) else parW (joinW (wd x) (cs.map (·.sh (own x + 1))))))) v
        rw [hT]
        rw [e] at r
        exact r)
      · have hb : (s : Int) ≤ (own x : Int) := decide_eq_true_iff.mp (Eq.symm hb)
        rw [if_pos (by omega)]
        exact ev_var (i := 3) rfl
      · have hb : ¬ (s : Int) ≤ (own x : Int) := fun z => by
          have hb : false = decide ((s : Int) ≤ (own x : Int)) := hb
          rw [decide_eq_true z] at hb
          cases hb
        rw [if_neg (by omega), jn_par hjne]
        have e1 : ("( " : Str).length = 2 := by decide +kernel
        have e2 : (" )" : Str).length = 2 := by decide +kernel
        exact ev_addS (ev_addS ev_str (ev_var (i := 3) rfl) (by omega)) ev_str (by rw [len_app]; omega)
end
end

/-! ### drawn stations and conditions -/
section
open TL
theorem Comp.each {pt : D → Bool → Prop} {pe : D → D → Prop} : ∀ {ds ys : List D}, Comp pt pe ds ys → ∀ y ∈ ys, ∃ d ∈ ds, pe d y
  | _, _, .nil, y, h => by cases h
  | _, _, .take (d := d) a b c, y, h => by
    rcases List.mem_cons.mp h with rfl | h
    · exact ⟨d, List.mem_cons_self, b⟩
    · obtain ⟨d, hd, e⟩ := Comp.each c y h
      exact ⟨d, List.mem_cons_of_mem _ hd, e⟩
  | _, _, .skip a c, y, h => by
    obtain ⟨d, hd, e⟩ := Comp.each c y h
    exact ⟨d, List.mem_cons_of_mem _ hd, e⟩
theorem all_map {α : Type} {f : α → D} {P : α → Prop} : ∀ {ys : List D}, (∀ y ∈ ys, ∃ a, y = f a ∧ P a) → ∃ xs : List α, ys = xs.map f ∧ ∀ x ∈ xs, P x
  | [], _ => ⟨[], rfl, fun _ h => by cases h⟩
  | y :: ys, h => by
    obtain ⟨a, e, pa⟩ := h y List.mem_cons_self
    obtain ⟨xs, e2, px⟩ := all_map (f := f) (P := P) (ys := ys) fun z hz => h z (List.mem_cons_of_mem _ hz)
    refine ⟨a :: xs, by rw [e, e2]; rfl, fun x hx => ?_⟩
    rcases List.mem_cons.mp hx with rfl | hx
    · exact pa
    · exact px x hx
section
variable {K : PySem.W.Frag} {φ : Addr → Prop} {J : Hp → Prop} {ρ : List (Option D)} {ta : TE}
theorem ea_i {p : Int → Prop} (h : EvI K φ J ta ρ p) : EvA K φ J (tCons ta tNil) ρ (fun x => ∃ n, x = [.int n] ∧ p n) := fun σ H A Q k => ea_consP h ea_nil σ H A Q fun vs ds H' b A' h r => k vs ds H' b A' (by
  obtain ⟨d, r', rfl, ⟨n, rfl, hp⟩, rfl⟩ := h
  exact ⟨n, rfl, hp⟩) r
end
def lobes0 : List (Int × Int) := [(1, 0), (3, 1), (1, 2), (0, 1), (-1, 3), (-2, 1), (-1, 0), (-1, -2), (0, -1), (2, -1)]
def RAnt : List D → D → Prop := fun _ d => ∃ ls : List (Int × Int × Int), d = .tup (ls.map lobeD) ∧ 0 < ls.length ∧ ls.length ≤ 1000000
def RSta : List D → D → Prop := fun _ d => ∃ s : Sta, d = staD s ∧ 0 < s.ant.length ∧ s.ant.length ≤ 1000000 ∧ 0 ≤ s.x ∧ s.x ≤ 5
def midL : List (Key × D) := [(Sum.inr "power", .int 3000), (Sum.inr "megahertz", .int 402), (Sum.inr "mast", .int 30), (Sum.inr "x", .int 2), (Sum.inr "y", .int 1), (Sum.inr "gain", .int 300)]
theorem mid_get {f : Str} (hf : f ∈ C_FIELDS) : ∃ v : Int, valD midL (Sum.inr f : Key) = some (.int v) ∧ 0 ≤ v ∧ v ≤ 3000 := by
  have hf : f = "power" ∨ f = "megahertz" ∨ f = "mast" ∨ f = "x" ∨ f = "y" ∨ f = "gain" := by simpa [C_FIELDS] using hf
  rcases hf with rfl | rfl | rfl | rfl | rfl | rfl
  · exact ⟨3000, rfl, by decide, by decide⟩
  · exact ⟨402, rfl, by decide, by decide⟩
  · exact ⟨30, rfl, by decide, by decide⟩
  · exact ⟨2, rfl, by decide, by decide⟩
  · exact ⟨1, rfl, by decide, by decide⟩
  · exact ⟨300, rfl, by decide, by decide⟩
def PreCond (n : Nat) : List D → Prop := fun ds => ∃ m : Nat, n = m + 1 ∧ ds = [.int (m : Int)]
def RCondD : List D → D → Prop := fun ds d => ∃ (m : Nat) (c : Cd), ds = [.int (m : Int)] ∧ LC m c ∧ d = c.d
section
variable {P : Program} {w : World} {K : PySem.W.Frag} {mg : Str → Option Value} {base : Heap}
theorem sc__law_antenna : FnScope ["pool", "lobes", "scale", "found", "row"] ["pool"] (defScope s__law_antenna) := ⟨rfl, rfl, rfl, by decide +kernel, rfl, by decide +kernel, by decide +kernel⟩
theorem ok__law_antenna (B : Bi mg) {f g : Addr} {fd gd : FuncData} (F : Fun K "_law_antenna" "_law_antenna" s__law_antenna f fd) (L__law_draw : Lk K mg "_law_draw" g gd ["pool", "many"]) (G__law_draw : FnOk P w K mg base CX0 2 g gd ["pool", "many"] spDraw) : FnOk P w K mg base CX0 3 f fd ["pool"] (SpP K 0 (fun _ => True) RAnt) := by
  have S := sc__law_antenna
  refine fn_okP F S rfl 4 rfl fun cdv A outer s H E hr => ⟨_, ((pss_cons (ps_set (i := 1) S.nd rfl (by first | exact Or.inl rfl | exact Or.inr rfl) (pe_tup (pa_cons (pe_tup (pa_cons pe_int (pa_cons pe_int pa_nil))) (pa_cons (pe_tup (pa_cons pe_int (pa_cons pe_int pa_nil))) (pa_cons (pe_tup (pa_cons pe_int (pa_cons pe_int pa_nil))) (pa_cons (pe_tup (pa_cons pe_int (pa_cons pe_int pa_nil))) (pa_cons (pe_tup (pa_cons (pe_un un_neg pe_int) (pa_cons pe_int pa_nil))) (pa_cons (pe_tup (pa_cons (pe_un un_neg pe_int) (pa_cons pe_int pa_nil))) (pa_cons (pe_tup (pa_cons (pe_un un_neg pe_int) (pa_cons pe_int pa_nil))) (pa_cons (pe_tup (pa_cons (pe_un un_neg pe_int) (pa_cons (pe_un un_neg pe_int) pa_nil))) (pa_cons (pe_tup (pa_cons pe_int (pa_cons (pe_un un_neg pe_int) pa_nil))) (pa_cons (pe_tup (pa_cons pe_int (pa_cons (pe_un un_neg pe_int) pa_nil))) pa_nil))))))))))))
 (pss_cons (ps_set (i := 2) S.nd rfl (by first | exact Or.inl rfl | exact Or.inr rfl) (pe_ix ix_list (pe_lst (pa_cons pe_int (pa_cons pe_int (pa_cons pe_int pa_nil)))) (pe_call G__law_draw (hr.mono (by first | exact Nat.le_refl _ | decide | omega)) (by rfl) L__law_draw.m L__law_draw.kp L__law_draw.bi .nil pass0 (pa_cons (pv 0) (pa_cons pe_int pa_nil))) (fun _ _ => rfl)))
 (pss_cons (ps_set (i := 3) S.nd rfl (by first | exact Or.inl rfl | exact Or.inr rfl) (pe_callTy c_tupOf (by rfl) B.tuple (by decide +kernel) (pa_cons (pe_lc (own := [("row", 4)]) (g := (gName 4)) (by rfl) S.nd (pi_tup (pv 1)) (blkOk_by (N := ["pool", "lobes", "scale", "found", "row"]) (sc := defScope s__law_antenna) (own := [("row", 4)]) (by decide +kernel)) (fun _ _ _ _ _ => (pg_name (i := 4) S.nd rfl (by first | exact Or.inl rfl | exact Or.inr rfl))) (fun _ _ _ _ _ => pts_one (pt_cmpR op_eq (pe_call G__law_draw (hr.mono (by first | exact Nat.le_refl _ | decide | omega)) (by rfl) L__law_draw.m L__law_draw.kp L__law_draw.bi .nil pass0 (pa_cons (pv 0) (pa_cons pe_int pa_nil))) pe_int (nomark _))) (fun _ _ _ _ _ => (pe_op (kop_catA (K := K) (by rfl)) (pv 4) (pe_tup (pa_cons (pe_op op_mul (pv 2) (pe_op op_sub (pe_call G__law_draw (hr.mono (by first | exact Nat.le_refl _ | decide | omega)) (by rfl) L__law_draw.m L__law_draw.kp L__law_draw.bi .nil pass0 (pa_cons (pv 0) (pa_cons pe_int pa_nil))) pe_int)) pa_nil))))) pa_nil)))
 (pss_one (ps_ret (pe_ifExp (pt_cmpR op_gt (pe_callB c_len (by rfl) B.len (by decide +kernel) (pa_cons (pv 3) pa_nil)) pe_int (nomark _)) (pv 3) (pe_tup (pa_cons (pe_tup (pa_cons pe_int (pa_cons pe_int (pa_cons pe_int pa_nil)))) pa_nil))))))))), fun φ p pl ns ds H D0 σ hl pre np ne hrt A => ?_⟩
  have hds : ds = [] := List.length_eq_zero_iff.mp hl
  subst hds
  replace A : At K φ (JB p pl ns H) [some (.raw (.ref p)), none, none, none, none] σ H := A
  have hP : Pooled φ (JB p pl ns H) p pl ns := pooledB np ne
  refine q (st_set (d := .tup (lobes0.map prDD)) A ((ev_tup (ea_cons (ev_tup (ea_cons ev_int (ea_cons ev_int ea_nil))) (ea_cons (ev_tup (ea_cons ev_int (ea_cons ev_int ea_nil))) (ea_cons (ev_tup (ea_cons ev_int (ea_cons ev_int ea_nil))) (ea_cons (ev_tup (ea_cons ev_int (ea_cons ev_int ea_nil))) (ea_cons (ev_tup (ea_cons (ev_neg ev_int) (ea_cons ev_int ea_nil))) (ea_cons (ev_tup (ea_cons (ev_neg ev_int) (ea_cons ev_int ea_nil))) (ea_cons (ev_tup (ea_cons (ev_neg ev_int) (ea_cons ev_int ea_nil))) (ea_cons (ev_tup (ea_cons (ev_neg ev_int) (ea_cons (ev_neg ev_int) ea_nil))) (ea_cons (ev_tup (ea_cons ev_int (ea_cons (ev_neg ev_int) ea_nil))) (ea_cons (ev_tup (ea_cons ev_int (ea_cons (ev_neg ev_int) ea_nil))) ea_nil))))))))))).is rfl) fun σ1 H1 A1 => q ?_)
  replace A1 : At K φ (JB p pl ns H) [some (.raw (.ref p)), some (.tup (lobes0.map prDD)), none, none, none] σ1 H1 := A1
  refine st_asg A1 (ev_ixLP (P := fun d => ∃ s : Int, d = .int s ∧ 0 ≤ s ∧ s ≤ 1000) (ev_lst (ea_cons ev_int (ea_cons ev_int (ea_cons ev_int ea_nil)))) (ev_draw hP rfl ev_int (by decide) (by decide)) ?_) fun d σ2 H2 hd A2 => q ?_
  · rintro x i rfl ⟨h0, h4⟩
    have : i = 0 ∨ i = 1 ∨ i = 2 := by omega
    rcases this with rfl | rfl | rfl <;> exact ⟨_, _, rfl, rfl, _, rfl, by decide, by decide⟩
  obtain ⟨sc, rfl, sc0, sc1⟩ := hd
  replace A2 : At K φ (JB p pl ns H) [some (.raw (.ref p)), some (.tup (lobes0.map prDD)), some (.int sc), none, none] σ2 H2 := A2
  refine st_asg A2 (ev_tupLP (Pl := fun ys => ∃ ls : List (Int × Int × Int), ys = ls.map lobeD ∧ ls.length ≤ 10) ((ev_lcP (ρd := fun d => (wipeR [some (.raw (.ref p)), some (.tup (lobes0.map prDD)), some (.int sc), none, none] [4]).set 4 (some d)) (us := [4]) (pt := fun _ _ => True) (pe := fun d y => ∃ l : Int × Int × Int, y = lobeD l) (it_tup (ev_var (i := 1) rfl)) (fun ds' e => by rw [e, List.length_map]; decide) (fun _ h => h) (fun _ _ d _ => eg_name)
    (fun ds' e d hd φ' J' x => ?_) (fun ds' e d hd pd φ' J' x => ?_)).imp fun z ⟨ds', ys, e1, e2, c⟩ => ?_)) fun d σ3 H3 hd A3 => ?_
  · exact et_testP ((eb_eq (ev_draw (x.pool _ _ _ hP) rfl ev_int (by decide) (by decide)) (ev_i ev_int)).imp fun d ⟨b, e, _⟩ => ⟨b, e, trivial⟩)
  · subst e
    obtain ⟨pr, hpr, rfl⟩ := List.mem_map.mp hd
    refine (ev_catTP (Pa := fun xs => xs = [.int pr.1, .int pr.2]) (Pb := fun xs => ∃ g : Int, xs = [.int g]) ((ev_var (d := prDD pr) rfl).imp fun z e => ⟨_, e, rfl⟩) ((ev_tup1P (ei_mul (ev_i (ev_var (i := 2) rfl)) (ei_sub (ev_draw (x.pool _ _ _ hP) rfl ev_int (by decide) (by decide)) (ev_i ev_int)) (fun i j hi hj => .inr (by
      obtain ⟨a, b, ⟨a0, a1⟩, rfl, rfl⟩ := hj
      subst hi
      omega)))).imp fun z ⟨ds, e, d, e2, g, e3, _⟩ => ⟨ds, e, g, by rw [e2, e3]⟩) (fun a b ha hb => by
        obtain ⟨g, rfl⟩ := hb
        subst ha
        exact Nat.le_of_ble_eq_true rfl)).imp fun z ⟨ds, e, a, b, e2, ha, g, hb⟩ => ⟨(pr.1, pr.2, g), by
        subst e e2 ha hb
        rfl⟩
  · subst e1 e2
    obtain ⟨ls, e, _⟩ := all_map (f := lobeD) (P := fun _ => True) (ys := ys) fun y hy => by
      obtain ⟨d, _, l, e⟩ := c.each y hy
      exact ⟨l, e, trivial⟩
    refine ⟨ys, rfl, ls, e, ?_⟩
    have := c.len
    rw [e, List.length_map, List.length_map] at this
    exact this
  obtain ⟨ys, rfl, ls, rfl, hl10⟩ := hd
  replace A3 : At K φ (JB p pl ns H) [some (.raw (.ref p)), some (.tup (lobes0.map prDD)), some (.int sc), some (.tup (ls.map lobeD)), none] σ3 H3 := A3
  refine st_ret A3 (ev_if (P := fun d => ∃ ls : List (Int × Int × Int), d = .tup (ls.map lobeD) ∧ 0 < ls.length ∧ ls.length ≤ 1000000) (et_test (ev_gt (ev_lenT (ev_var (i := 3) rfl)) ev_int)) (fun hb => ?_) fun hb => ?_) fun v d H4 e A4 r => hrt v d H4 e A4.j r
  · have hb : (0 : Int) < ((ls.map lobeD).length : Int) := decide_eq_true_iff.mp (Eq.symm hb)
    rw [List.length_map] at hb
    exact (ev_var (i := 3) rfl).imp fun z e => ⟨ls, e, by omega, by omega⟩
  · exact (ev_tup (ea_cons (ev_tup (ea_cons ev_int (ea_cons ev_int (ea_cons ev_int ea_nil)))) ea_nil)).imp fun z e => ⟨[(1, 0, 0)], e, by decide, by decide⟩
theorem sc__law_station : FnScope ["pool", "k", "width", "height", "place", "megahertz"] ["pool", "k", "width", "height"] (defScope s__law_station) := ⟨rfl, rfl, rfl, by decide +kernel, rfl, by decide +kernel, by decide +kernel⟩
theorem ok__law_station (B : Bi mg) {f g g2 : Addr} {fd gd gd2 : FuncData} (F : Fun K "_law_station" "_law_station" s__law_station f fd) (L__law_draw : Lk K mg "_law_draw" g gd ["pool", "many"]) (G__law_draw : FnOk P w K mg base CX0 2 g gd ["pool", "many"] spDraw)
    (L__law_antenna : Lk K mg "_law_antenna" g2 gd2 ["pool"]) (G__law_antenna : FnOk P w K mg base CX0 3 g2 gd2 ["pool"] (SpP K 0 (fun _ => True) RAnt)) : FnOk P w K mg base CX0 4 f fd ["pool", "k", "width", "height"] (SpP K 3 (fun ds => ds = [.int 0, .int 6, .int 4]) RSta) := by
  have S := sc__law_station
  refine fn_okP F S rfl 2 rfl fun cdv A outer s H E hr => ⟨_, ((pss_cons (ps_set (i := 4) S.nd rfl (by first | exact Or.inl rfl | exact Or.inr rfl) (pe_tup (pa_cons (pe_call G__law_draw (hr.mono (by first | exact Nat.le_refl _ | decide | omega)) (by rfl) L__law_draw.m L__law_draw.kp L__law_draw.bi .nil pass0 (pa_cons (pv 0) (pa_cons (pv 2) pa_nil))) (pa_cons (pe_call G__law_draw (hr.mono (by first | exact Nat.le_refl _ | decide | omega)) (by rfl) L__law_draw.m L__law_draw.kp L__law_draw.bi .nil pass0 (pa_cons (pv 0) (pa_cons (pv 3) pa_nil))) pa_nil))))
 (pss_cons (ps_set (i := 5) S.nd rfl (by first | exact Or.inl rfl | exact Or.inr rfl) (pe_ix ix_tup (pe_tup (pa_cons pe_int (pa_cons pe_int (pa_cons pe_int (pa_cons pe_int pa_nil))))) (pe_call G__law_draw (hr.mono (by first | exact Nat.le_refl _ | decide | omega)) (by rfl) L__law_draw.m L__law_draw.kp L__law_draw.bi .nil pass0 (pa_cons (pv 0) (pa_cons pe_int pa_nil))) (fun _ _ => rfl)))
 (pss_one (ps_ret (pe_tup (pa_cons (pe_op op_addS pe_str (pe_callTy c_strI (by rfl) B.str (by decide +kernel) (pa_cons (pv 1) pa_nil))) (pa_cons (pv 4) (pa_cons (pe_op op_add pe_int (pe_call G__law_draw (hr.mono (by first | exact Nat.le_refl _ | decide | omega)) (by rfl) L__law_draw.m L__law_draw.kp L__law_draw.bi .nil pass0 (pa_cons (pv 0) (pa_cons pe_int pa_nil)))) (pa_cons (pe_op op_add pe_int (pe_call G__law_draw (hr.mono (by first | exact Nat.le_refl _ | decide | omega)) (by rfl) L__law_draw.m L__law_draw.kp L__law_draw.bi .nil pass0 (pa_cons (pv 0) (pa_cons pe_int pa_nil)))) (pa_cons (pv 5) (pa_cons (pe_call G__law_antenna (hr.mono (by first | exact Nat.le_refl _ | decide | omega)) (by rfl) L__law_antenna.m L__law_antenna.kp L__law_antenna.bi .nil pass0 (pa_cons (pv 0) pa_nil)) pa_nil)))))))))))), fun φ p pl ns ds H D0 σ hl pre np ne hrt A => ?_⟩
  subst pre
  replace A : At K φ (JB p pl ns H) [some (.raw (.ref p)), some (.int 0), some (.int 6), some (.int 4), none, none] σ H := A
  have hP : Pooled φ (JB p pl ns H) p pl ns := pooledB np ne
  refine q (st_asg (P := fun d => ∃ x y : Int, d = .tup [.int x, .int y] ∧ 0 ≤ x ∧ x < 6) A ((ev_tupP (ea_consP (ev_draw hP rfl (ev_var (i := 2) rfl) (by decide) (by decide)) (ea_consP (ev_draw hP rfl (ev_var (i := 3) rfl) (by decide) (by decide)) ea_nil)) ?_).imp ?_) fun d σ1 H1 hd A1 => q ?_)
  · rintro r ⟨d, r', rfl, _, d2, r2, rfl, _, rfl⟩
    exact Nat.le_of_ble_eq_true rfl
  · rintro z ⟨r, rfl, d, r', rfl, ⟨x, rfl, h1, h2⟩, d2, r2, rfl, ⟨y, rfl, _⟩, rfl⟩
    exact ⟨x, y, rfl, h1, h2⟩
  obtain ⟨x, y, rfl, x0, x6⟩ := hd
  replace A1 : At K φ (JB p pl ns H) [some (.raw (.ref p)), some (.int 0), some (.int 6), some (.int 4), some (.tup [.int x, .int y]), none] σ1 H1 := A1
  refine st_asg A1 (ev_ixTP (P := fun d => ∃ s : Int, d = .int s) (ev_tup (ea_cons ev_int (ea_cons ev_int (ea_cons ev_int (ea_cons ev_int ea_nil))))) (ev_draw hP rfl ev_int (by decide) (by decide)) ?_) fun d σ2 H2 hd A2 => ?_
  · rintro x i rfl ⟨h0, h4⟩
    have : i = 0 ∨ i = 1 ∨ i = 2 ∨ i = 3 := by omega
    rcases this with rfl | rfl | rfl | rfl <;> exact ⟨_, _, rfl, rfl, _, rfl⟩
  obtain ⟨mz, rfl⟩ := hd
  replace A2 : At K φ (JB p pl ns H) [some (.raw (.ref p)), some (.int 0), some (.int 6), some (.int 4), some (.tup [.int x, .int y]), some (.int mz)] σ2 H2 := A2
  refine st_ret A2 ((ev_tupP (ea_consP (ev_addS ev_str (ev_strI (ev_var (i := 1) rfl) (by decide)) (by decide +kernel)) (ea_consP (ev_var (i := 4) rfl) (ea_consP (ei_add (ev_i ev_int) (ev_draw hP rfl ev_int (by decide) (by decide))) (ea_consP (ei_add (ev_i ev_int) (ev_draw hP rfl ev_int (by decide) (by decide))) (ea_consP (ev_var (i := 5) rfl) (ea_consP (ev_callP (Pr := fun ds => ds = []) hP rfl ea_nil (fun ds e => ⟨by rw [e]; rfl, trivial⟩)) ea_nil)))))) ?_).imp ?_) fun v d H4 e A4 r => hrt v d H4 e A4.j r
  · rintro r ⟨d, r', rfl, _, d2, r2, rfl, _, d3, r3, rfl, _, d4, r4, rfl, _, d5, r5, rfl, _, d6, r6, rfl, _, rfl⟩
    exact Nat.le_of_ble_eq_true rfl
  · rintro z ⟨r, rfl, d, r', rfl, rfl, d2, r2, rfl, rfl, d3, r3, rfl, ⟨m1, rfl, _⟩, d4, r4, rfl, ⟨m2, rfl, _⟩, d5, r5, rfl, rfl, d6, r6, rfl, ⟨_, _, ls, rfl, l0, l1⟩, rfl⟩
    exact ⟨⟨_, x, y, m1, m2, mz, ls⟩, rfl, l0, l1, x0, by show x ≤ 5; omega⟩
theorem sc__law_condition : FnScope ["pool", "depth", "turn", "word", "k", "field", "middle", "number"] ["pool", "depth"] (defScope s__law_condition) := ⟨rfl, rfl, rfl, by decide +kernel, rfl, by decide +kernel, by decide +kernel⟩
theorem ok__law_condition (B : Bi mg) {f g : Addr} {fd gd : FuncData} (F : Fun K "_law_condition" "_law_condition" s__law_condition f fd) (L__law_condition : Lk K mg "_law_condition" f fd ["pool", "depth"]) (L__law_draw : Lk K mg "_law_draw" g gd ["pool", "many"]) (G__law_draw : FnOk P w K mg base CX0 2 g gd ["pool", "many"] spDraw) : ∀ n, FnOk P w K mg base CX0 (n + 2) f fd ["pool", "depth"] (SpP K 1 (PreCond n) RCondD)
  | 0 => fn_never fun vs H Q E h => by
    obtain ⟨_, _, _, _, _, _, _, _, _, _, _, _, _, ⟨_, h, _⟩, _⟩ := h
    cases h
  | n + 1 => by
    have G__law_condition : FnOk P w K mg base CX0 (n + 2) f fd ["pool", "depth"] (SpP K 1 (PreCond n) RCondD) := ok__law_condition B F L__law_condition L__law_draw G__law_draw n
    have S := sc__law_condition
    refine fn_okP F S rfl 6 rfl fun cdv A outer s H E hr => ⟨_, ((pss_cons (ps_set (i := 2) S.nd rfl (by first | exact Or.inl rfl | exact Or.inr rfl) (pe_call G__law_draw (hr.mono (by first | exact Nat.le_refl _ | decide | omega)) (by rfl) L__law_draw.m L__law_draw.kp L__law_draw.bi .nil pass0 (pa_cons (pv 0) (pa_cons pe_int pa_nil))))
 (pss_cons (ps_if (PW.pt (pw_and (pt_cmpR op_eq (pv 2) pe_int (nomark _)) (pw_and1 (pt_cmpR op_gt (pv 1) pe_int (nomark _)))))
 (pss_one (ps_ret (pe_tup (pa_cons pe_str (pa_cons (pe_call G__law_condition (hr.mono (by first | exact Nat.le_refl _ | decide | omega)) (by rfl) L__law_condition.m L__law_condition.kp L__law_condition.bi .nil pass0 (pa_cons (pv 0) (pa_cons (pe_op op_sub (pv 1) pe_int) pa_nil))) pa_nil)))))
 pss_nil)
 (pss_cons (ps_if (PW.pt (pw_and (pt_cmpR op_lt (pv 2) pe_int (nomark _)) (pw_and1 (pt_cmpR op_gt (pv 1) pe_int (nomark _)))))
 (pss_cons (ps_set (i := 3) S.nd rfl (by first | exact Or.inl rfl | exact Or.inr rfl) (pe_ix ix_tup (pe_tup (pa_cons pe_str (pa_cons pe_str pa_nil))) (pe_call G__law_draw (hr.mono (by first | exact Nat.le_refl _ | decide | omega)) (by rfl) L__law_draw.m L__law_draw.kp L__law_draw.bi .nil pass0 (pa_cons (pv 0) (pa_cons pe_int pa_nil))) (fun _ _ => rfl)))
 (pss_one (ps_ret (pe_tup (pa_cons (pv 3) (pa_cons (pe_lc (own := [("k", 4)]) (g := (gName 4)) (tt := tYes) (by rfl) S.nd (pi_range1 (by rfl) B.range (pa_cons (pe_op op_add pe_int (pe_call G__law_draw (hr.mono (by first | exact Nat.le_refl _ | decide | omega)) (by rfl) L__law_draw.m L__law_draw.kp L__law_draw.bi .nil pass0 (pa_cons (pv 0) (pa_cons pe_int pa_nil)))) pa_nil)) (blkOk_by (N := ["pool", "depth", "turn", "word", "k", "field", "middle", "number"]) (sc := defScope s__law_condition) (own := [("k", 4)]) (by decide +kernel)) (fun _ _ _ _ _ => (pg_name (i := 4) S.nd rfl (by first | exact Or.inl rfl | exact Or.inr rfl))) (fun _ _ _ _ _ => pts_nil) (fun _ _ _ _ _ => (pe_call G__law_condition (hr.mono (by first | exact Nat.le_refl _ | decide | omega)) (by rfl) L__law_condition.m L__law_condition.kp L__law_condition.bi .nil pass0 (pa_cons (pv 0) (pa_cons (pe_op op_sub (pv 1) pe_int) pa_nil))))) pa_nil))))))
 pss_nil)
 (pss_cons (ps_set (i := 5) S.nd rfl (by first | exact Or.inl rfl | exact Or.inr rfl) (pe_ix ix_tup (pe_tup (pa_cons pe_str (pa_cons pe_str (pa_cons pe_str (pa_cons pe_str (pa_cons pe_str (pa_cons pe_str pa_nil))))))) (pe_call G__law_draw (hr.mono (by first | exact Nat.le_refl _ | decide | omega)) (by rfl) L__law_draw.m L__law_draw.kp L__law_draw.bi .nil pass0 (pa_cons (pv 0) (pa_cons pe_int pa_nil))) (fun _ _ => rfl)))
 (pss_cons (ps_set (i := 6) S.nd rfl (by first | exact Or.inl rfl | exact Or.inr rfl) (pe_dget hr.units1 (pe_disp (pps_cons pe_str pe_int (pps_cons pe_str pe_int (pps_cons pe_str pe_int (pps_cons pe_str pe_int (pps_cons pe_str pe_int (pps_cons pe_str pe_int pps_nil)))))) rfl rfl (by simp) (by decide)) (pv 5) (fun _ _ => rfl)))
 (pss_cons (ps_set (i := 7) S.nd rfl (by first | exact Or.inl rfl | exact Or.inr rfl) (pe_op op_add (pv 6) (pe_op op_mul (pe_op op_sub (pe_call G__law_draw (hr.mono (by first | exact Nat.le_refl _ | decide | omega)) (by rfl) L__law_draw.m L__law_draw.kp L__law_draw.bi .nil pass0 (pa_cons (pv 0) (pa_cons pe_int pa_nil))) pe_int) (pe_op op_add pe_int (pe_op op_mul pe_int (pe_callTy c_int1 (by rfl) B.int (by decide +kernel) (pa_cons (pe_cmpR op_in_seq (pv 5) (pe_tup (pa_cons pe_str (pa_cons pe_str pa_nil))) (by rfl)) pa_nil)))))))
 (pss_one (ps_ret (pe_tup (pa_cons (pv 5) (pa_cons (pe_ix ix_tup (pe_tup (pa_cons pe_str (pa_cons pe_str (pa_cons pe_str (pa_cons pe_str (pa_cons pe_str (pa_cons pe_str pa_nil))))))) (pe_call G__law_draw (hr.mono (by first | exact Nat.le_refl _ | decide | omega)) (by rfl) L__law_draw.m L__law_draw.kp L__law_draw.bi .nil pass0 (pa_cons (pv 0) (pa_cons pe_int pa_nil))) (fun _ _ => rfl)) (pa_cons (pv 7) pa_nil))))))))))))), fun φ p pl ns ds H D0 σ hl pre np ne hrt A => ?_⟩
    obtain ⟨m, hm, rfl⟩ := pre
    have hm : n = m := by omega
    subst hm
    replace A : At K φ (JB p pl ns H) [some (.raw (.ref p)), some (.int (n : Int)), none, none, none, none, none, none] σ H := A
    have hP : Pooled φ (JB p pl ns H) p pl ns := pooledB np ne
    refine q (st_asg A (ev_draw hP rfl ev_int (by decide) (by decide)) fun d σ1 H1 hd A1 => q ?_)
    obtain ⟨i, rfl, i0, i6⟩ := hd
    replace A1 : At K φ (JB p pl ns H) [some (.raw (.ref p)), some (.int (n : Int)), some (.int i), none, none, none, none, none] σ1 H1 := A1
    refine st_if A1 (et_and (et_test (ev_eqI (ev_var (i := 2) rfl) ev_int)) fun _ => et_test (ev_gt (ev_var (i := 1) rfl) ev_int)) (fun hb H2 A2 => ?_) (fun hb H2 A2 => st_next (q ?_))
    · have hb : true = (decide (i = 0) && decide ((0 : Int) < (n : Int))) := hb
      have hb := hb.symm
      rw [Bool.and_eq_true, decide_eq_true_eq, decide_eq_true_eq] at hb
      obtain ⟨k, rfl⟩ : ∃ k, n = k + 1 := ⟨n - 1, by omega⟩
      refine st_ret A2 ((ev_tupP (ea_consP (ev_str (s := "not")) (ea_consP (ev_callP (Pr := fun ds => ds = [.int (k : Int)]) hP rfl (ea_cons ((ev_sub (ev_var (i := 1) rfl) ev_int).is (congrArg D.int (by omega))) ea_nil) (fun ds e => ⟨by rw [e]; rfl, k, rfl, e⟩)) ea_nil)) ?_).imp ?_) fun v d H4 e A4 r => hrt v d H4 e A4.j r
      · rintro r ⟨d, r', rfl, _, d2, r2, rfl, _, rfl⟩
        exact Nat.le_of_ble_eq_true rfl
      · rintro z ⟨r, rfl, d, r', rfl, rfl, d2, r2, rfl, ⟨ds, rfl, m, c, e, hc, rfl⟩, rfl⟩
        simp only [List.cons.injEq, D.int.injEq, and_true] at e
        have e : m = k := by omega
        subst e
        exact ⟨m + 1, negC c, rfl, .neg hc, rfl⟩
    refine st_if A2 (et_and (et_test (ev_lt (ev_var (i := 2) rfl) ev_int)) fun _ => et_test (ev_gt (ev_var (i := 1) rfl) ev_int)) (fun hb2 H3 A3 => q ?_) (fun hb2 H3 A3 => st_next (q ?_))
    · have hb2 : true = (decide (i < 3) && decide ((0 : Int) < (n : Int))) := hb2
      have hb2 := hb2.symm
      rw [Bool.and_eq_true, decide_eq_true_eq, decide_eq_true_eq] at hb2
      obtain ⟨k, rfl⟩ : ∃ k, n = k + 1 := ⟨n - 1, by omega⟩
      refine st_asg A3 (ev_ixTP (P := fun d => ∃ x : Bool, d = .str (wd x)) (ev_tup (ea_cons ev_str (ea_cons ev_str ea_nil))) (ev_draw hP rfl ev_int (by decide) (by decide)) ?_) fun d σ4 H4 hd A4 => ?_
      · rintro x i rfl ⟨h0, h4⟩
        have : i = 0 ∨ i = 1 := by omega
        rcases this with rfl | rfl
        · exact ⟨_, _, rfl, rfl, true, rfl⟩
        · exact ⟨_, _, rfl, rfl, false, rfl⟩
      obtain ⟨x, rfl⟩ := hd
      replace A4 : At K φ (JB p pl ns H) [some (.raw (.ref p)), some (.int ((k + 1 : Nat) : Int)), some (.int i), some (.str (wd x)), none, none, none, none] σ4 H4 := A4
      refine st_ret A4 ((ev_tupP (ea_consP (ev_var (i := 3) rfl) (ea_consP (ev_lcE (k := 4) (pe := fun _ y => ∃ c, y = c.d ∧ LC k c) (it_range1P (p := fun n => 2 ≤ n ∧ n < 4) (ea_i ((ei_add (ev_i ev_int) (ev_draw hP rfl ev_int (by decide) (by decide))).imp fun d ⟨n, e, i, j, hi, hj, e2⟩ => ⟨n, e, by omega, by omega⟩)) (fun n h => by omega)) (fun ds ⟨n, h, e⟩ => by rw [e, rangeD_length]; omega) fun ds _ d hd φ' J' hx => (ev_callP (Pr := fun ds => ds = [.int (k : Int)]) (hx.pool _ _ _ hP) rfl (ea_cons ((ev_sub (ev_var (i := 1) rfl) ev_int).is (congrArg D.int (by omega))) ea_nil) (fun ds e => ⟨by rw [e]; rfl, k, rfl, e⟩)).imp ?_) ea_nil)) ?_).imp ?_) fun v d H4 e A4 r => hrt v d H4 e A4.j r
      · rintro y ⟨ds, rfl, m, c, e, hc, rfl⟩
        simp only [List.cons.injEq, D.int.injEq, and_true] at e
        have e : m = k := by omega
        subst e
        exact ⟨c, rfl, hc⟩
      · rintro r ⟨d, r', rfl, _, d2, r2, rfl, _, rfl⟩
        exact Nat.le_of_ble_eq_true rfl
      · rintro z ⟨r, rfl, d, r', rfl, rfl, d2, r2, rfl, ⟨ds, ys, ⟨n, hn, rfl⟩, rfl, c⟩, rfl⟩
        obtain ⟨c1, c2⟩ := c.all
        obtain ⟨cs, rfl, hcs⟩ := all_map (f := fun c : Cd => c.d) (P := fun c => LC k c) (ys := ys) fun y hy => by
          obtain ⟨d, _, c, e, hc⟩ := c2 y hy
          exact ⟨c, e, hc⟩
        rw [List.length_map, rangeD_length] at c1
        exact ⟨k + 1, appC x cs, rfl, .app (by omega) (by omega) hcs, rfl⟩
    refine st_asg A3 (ev_ixTP (P := fun d => ∃ f ∈ C_FIELDS, d = .str f) (ev_tup (ea_cons ev_str (ea_cons ev_str (ea_cons ev_str (ea_cons ev_str (ea_cons ev_str (ea_cons ev_str ea_nil))))))) (ev_draw hP rfl ev_int (by decide) (by decide)) ?_) fun d σ4 H4 hd A4 => q ?_
    · rintro x i rfl ⟨h0, h4⟩
      have : i = 0 ∨ i = 1 ∨ i = 2 ∨ i = 3 ∨ i = 4 ∨ i = 5 := by omega
      rcases this with rfl | rfl | rfl | rfl | rfl | rfl <;> exact ⟨_, _, rfl, rfl, _, (by unfold C_FIELDS; simp), rfl⟩
    obtain ⟨fl, hf, rfl⟩ := hd
    replace A4 : At K φ (JB p pl ns H) [some (.raw (.ref p)), some (.int (n : Int)), some (.int i), none, none, some (.str fl), none, none] σ4 H4 := A4
    obtain ⟨mv, hmv, mv0, mv1⟩ := mid_get hf
    refine st_set (d := .int mv) A4 (ev_dget (ed_frozen (ev_dispN (kds := midL) (fun J' φ' hx => .cons ev_str ev_int (.cons ev_str ev_int (.cons ev_str ev_int (.cons ev_str ev_int (.cons ev_str ev_int (.cons ev_str ev_int .nil)))))) (by
      show ([Sum.inr "power", Sum.inr "megahertz", Sum.inr "mast", Sum.inr "x", Sum.inr "y", Sum.inr "gain"] : List Key).Nodup
      decide +kernel) (by show 6 ≤ 15; decide))) (ev_var (i := 5) rfl) hmv) fun σ5 H5 A5 => q ?_
    replace A5 : At K φ (JB p pl ns H) [some (.raw (.ref p)), some (.int (n : Int)), some (.int i), none, none, some (.str fl), some (.int mv), none] σ5 H5 := A5
    refine st_asg (P := fun d => ∃ v : Int, d = .int v ∧ numB v) A5 ((ei_add (ev_i (ev_var (i := 6) rfl)) (ei_mul (ei_sub (ev_draw hP rfl ev_int (by decide) (by decide)) (ev_i ev_int)) (ei_add (ev_i ev_int) (ei_mul (ev_i ev_int) (ev_i (ev_intB (ev_inTS (ys := ["power", "gain"]) (ev_var (i := 5) rfl) (ev_tup (ea_cons ev_str (ea_cons ev_str ea_nil)))))) (fun i j hi hj => .inl (by subst hi; omega)))) (fun i j hi hj => .inl ?_))).imp ?_) fun d σ6 H6 hd A6 => ?_
    · obtain ⟨a, b, ⟨a0, a1⟩, rfl, rfl⟩ := hi
      omega
    · rintro z ⟨k, rfl, a, b, rfl, ⟨c, e, ⟨a2, b2, ⟨a0, a1⟩, rfl, rfl⟩, ⟨c3, e3, rfl, ⟨u, v, rfl, rfl, rfl⟩, rfl⟩, rfl⟩, rfl⟩
      refine ⟨_, rfl, ?_⟩
      unfold numB
      split <;> omega
    obtain ⟨v, rfl, hv⟩ := hd
    replace A6 : At K φ (JB p pl ns H) [some (.raw (.ref p)), some (.int (n : Int)), some (.int i), none, none, some (.str fl), some (.int mv), some (.int v)] σ6 H6 := A6
    refine st_ret A6 ((ev_tupP (ea_consP (ev_var (i := 5) rfl) (ea_consP (ev_ixTP (P := fun d => ∃ f ∈ C_SIGNS, d = .str f) (ev_tup (ea_cons ev_str (ea_cons ev_str (ea_cons ev_str (ea_cons ev_str (ea_cons ev_str (ea_cons ev_str ea_nil))))))) (ev_draw hP rfl ev_int (by decide) (by decide)) ?_) (ea_consP (ev_var (i := 7) rfl) ea_nil))) ?_).imp ?_) fun v d H4 e A4 r => hrt v d H4 e A4.j r
    · rintro x i rfl ⟨h0, h4⟩
      have : i = 0 ∨ i = 1 ∨ i = 2 ∨ i = 3 ∨ i = 4 ∨ i = 5 := by omega
      rcases this with rfl | rfl | rfl | rfl | rfl | rfl <;> exact ⟨_, _, rfl, rfl, _, (by unfold C_SIGNS; simp), rfl⟩
    · rintro r ⟨d, r', rfl, _, d2, r2, rfl, _, d3, r3, rfl, _, rfl⟩
      exact Nat.le_of_ble_eq_true rfl
    · rintro z ⟨r, rfl, d, r', rfl, rfl, d2, r2, rfl, ⟨g, hg, rfl⟩, d3, r3, rfl, rfl, rfl⟩
      exact ⟨n, cmpC fl g v, rfl, .cmp hf hg hv, rfl⟩
end
end

/-! ### drawn lines of rules -/
section
open TL
def lawZ (z : Str × Cd) : D := .tup [.str z.1, z.2.d]
def zP (z : Str × Cd) : Str × D := (z.1, z.2.p)
def NM : List Str := ["low", "band", "r2", "high"]
def ALLN : List Str := ["low", "band", "r2", "high", "abcdefghijkl"]
theorem alln : ∀ n ∈ ALLN, (nameB n 12 && (okWb n && PyData.strOk n)) = true := by decide +kernel
theorem okW_colon : okW ":" := okW_of (by decide +kernel)
theorem map_tl_inj : ∀ {xs ys : List Str}, xs.map tl = ys.map tl → xs = ys
  | [], [], _ => rfl
  | [], y :: ys, h => by cases h
  | x :: xs, [], h => by cases h
  | x :: xs, y :: ys, h => by
    rw [List.map_cons, List.map_cons] at h
    obtain ⟨h1, h2⟩ := List.cons.inj h
    rw [ext_tl h1, map_tl_inj h2]
theorem split_jn {ws : List Str} (hne : ws ≠ []) (h : ∀ w ∈ ws, 32 ∉ tl w) : Txt.split (jn ws) " " = ws := by
  refine map_tl_inj ?_
  rw [lit_sp, tl_split (by decide), tl_jn]
  exact splC_uniq (by simpa using hne) fun p hp => by
    obtain ⟨w, hw, rfl⟩ := List.mem_map.mp hp
    exact h w hw
theorem jn_free {c : Nat} (hc : c ≠ 32) {ws : List Str} (h : ∀ w ∈ ws, c ∉ tl w) : c ∉ tl (jn ws) := by
  rw [tl_jn]
  induction ws with
  | nil => exact fun z => by cases z
  | cons w r ih =>
    cases r with
    | nil => exact h w List.mem_cons_self
    | cons v r =>
      rw [List.map_cons, joinL_cons (by simp)]
      intro z
      rcases List.mem_append.mp z with z | z
      · exact h w List.mem_cons_self z
      · rcases List.mem_append.mp z with z | z
        · exact hc (List.mem_singleton.mp z)
        · exact ih (fun x hx => h x (List.mem_cons_of_mem _ hx)) z
def lineW (nm : Str) (us : List Str) : List Str := nm :: (":" : Str) :: us
theorem lineW_ok {nm : Str} {us : List Str} (hn : nm ∈ ALLN) (hu : ∀ x ∈ us, okW x) : ∀ x ∈ lineW nm us, okW x := fun x hx => by
  have h := alln nm hn
  rw [Bool.and_eq_true, Bool.and_eq_true] at h
  rcases List.mem_cons.mp hx with rfl | hx
  · exact okW_of h.2.1
  · rcases List.mem_cons.mp hx with rfl | hx
    · exact okW_colon
    · exact hu x hx
/-- what is asked of a line -/
def LnOk (l : Str) : Prop := l.length ≤ 2000 ∧ asc (tl l) ∧ 10 ∉ tl l
theorem lineW_ln {nm : Str} {us : List Str} (hn : nm ∈ ALLN) (hu : ∀ x ∈ us, okW x) (hl : us.length ≤ 100) : LnOk (jn (lineW nm us)) := by
  have ok := lineW_ok hn hu
  have l := jn_len ok
  have ll : (lineW nm us).length = us.length + 2 := rfl
  exact ⟨by omega, asc_join fun w hw => (ok w hw).2.1, jn_free (by decide) fun w hw => (ok w hw).2.2.2⟩
theorem take_line {nm : Str} {us : List Str} {d : D} {r : Nat} {zs : List (Str × D)} (hn : nm ∈ ALLN) (hnew : nm ∉ zs.map (·.1)) (hg : Gr r 1 us d) (hr : r ≤ 40) (hu : ∀ x ∈ us, okW x) (hne : us ≠ []) : takeM zs (jn (lineW nm us)) = some (zs ++ [(nm, d)]) := by
  have h := alln nm hn
  rw [Bool.and_eq_true, Bool.and_eq_true] at h
  have ok := lineW_ok hn hu
  have sp : Txt.split (jn (lineW nm us)) " " = nm :: ":" :: us := split_jn (fun z => nomatch z) fun w hw => (ok w hw).2.2.1
  unfold takeM
  rw [sp]
  obtain ⟨u, us, rfl⟩ : ∃ u vs, us = u :: vs := by
    cases us with
    | nil => exact absurd rfl hne
    | cons u vs => exact ⟨u, vs, rfl⟩
  have hh : headOk (nm :: ":" :: u :: us) = true := by
    show (decide ((":" : Str) = ":") && (nameB nm 12 && !isNon (condT (u :: us)))) = true
    rw [hg.cond hr, hg.tup, h.1, decide_eq_true rfl]
    rfl
  rw [if_pos ⟨hh, hnew⟩]
  show some (zs ++ [(nm, condT (u :: us))]) = _
  rw [hg.cond hr]
/-- lines, and the rules that they give -/
def Steps (L : List Str) (zs : List (Str × D)) : Prop := (∀ l ∈ L, LnOk l) ∧ ∃ zf : Nat → List (Str × D), zf 0 = [] ∧ zf L.length = zs ∧ ∀ (i : Nat) (line : Str), L[i]? = some line → (if blankB line = true then zf (i + 1) = zf i else takeM (zf i) line = some (zf (i + 1)))
theorem steps_nil : Steps [] [] := ⟨(fun l h => by cases h), fun _ => [], rfl, rfl, fun i line h => by cases h⟩
theorem Steps.snoc {L : List Str} {zs zs' : List (Str × D)} {l : Str} (h : Steps L zs) (hl : LnOk l) (hs : if blankB l = true then zs' = zs else takeM zs l = some zs') : Steps (L ++ [l]) zs' := by
  obtain ⟨h1, zf, z0, z1, hst⟩ := h
  refine ⟨fun x hx => ?_, fun i => if i ≤ L.length then zf i else zs', ?_, ?_, fun i line hi => ?_⟩
  · rcases List.mem_append.mp hx with hx | hx
    · exact h1 x hx
    · rw [List.mem_singleton.mp hx]
      exact hl
  · show (if 0 ≤ L.length then zf 0 else zs') = []
    rw [if_pos (Nat.zero_le _), z0]
  · show (if (L ++ [l]).length ≤ L.length then _ else zs') = zs'
    rw [if_neg (by rw [List.length_append]; show ¬ L.length + 1 ≤ _; omega)]
  · by_cases hlt : i < L.length
    · rw [List.getElem?_append_left hlt] at hi
      have := hst i line hi
      dsimp only
      rw [if_pos (show i ≤ L.length by omega), if_pos (show i + 1 ≤ L.length by omega)]
      exact this
    · have hlen := (List.getElem?_eq_some_iff.mp hi).1
      rw [List.length_append] at hlen
      have hlen : i < L.length + 1 := hlen
      have hie : i = L.length := by omega
      subst hie
      rw [List.getElem?_append_right (Nat.le_refl _), Nat.sub_self] at hi
      cases hi
      dsimp only
      rw [if_pos (show L.length ≤ L.length from Nat.le_refl _), if_neg (show ¬ (L.length + 1 ≤ L.length) by omega), z1]
      exact hs
theorem Steps.take {L : List Str} {zs : List (Str × D)} (h : Steps L zs) (k : Nat) (hk : k ≤ L.length) : ∃ zs', Steps (L.take k) zs' := by
  obtain ⟨h1, zf, z0, z1, hst⟩ := h
  refine ⟨zf k, fun l hl => h1 l (List.mem_of_mem_take hl), zf, z0, by rw [List.length_take, Nat.min_eq_left hk], fun i line hi => hst i line ?_⟩
  rw [List.getElem?_take] at hi
  split at hi
  · exact hi
  · cases hi
def hdS (l : Str) : Str := (Txt.split l " ").headD ""
theorem takeM_some {zs zs' : List (Str × D)} {l : Str} (h : takeM zs l = some zs') : zs'.map (·.1) = zs.map (·.1) ++ [hdS l] ∧ zs'.length = zs.length + 1 := by
  unfold takeM at h
  split at h
  · obtain rfl := Option.some.inj h
    exact ⟨by rw [List.map_append]; rfl, by rw [List.length_append]; rfl⟩
  · cases h
theorem Steps.names {L : List Str} {zs : List (Str × D)} (h : Steps L zs) : (L.filter fun l => !blankB l).map hdS = zs.map (·.1) ∧ zs.length ≤ L.length := by
  obtain ⟨h1, zf, z0, z1, hst⟩ := h
  have key : ∀ i, i ≤ L.length → ((L.take i).filter fun l => !blankB l).map hdS = (zf i).map (·.1) ∧ (zf i).length ≤ i := by
    intro i
    induction i with
    | zero => intro _; rw [z0]; exact ⟨rfl, Nat.le_refl _⟩
    | succ i ih =>
      intro hi
      obtain ⟨ih1, ih2⟩ := ih (by omega)
      have hx : L[i]? = some L[i] := List.getElem?_eq_getElem (by omega)
      have tks : L.take (i + 1) = L.take i ++ [L[i]] := by rw [List.take_add_one, hx]; rfl
      have h2 := hst i _ hx
      rw [tks, List.filter_append, List.map_append, ih1]
      by_cases hb : blankB L[i] = true
      · rw [if_pos hb] at h2
        rw [h2]
        have e : [L[i]].filter (fun l => !blankB l) = [] := by simp [hb]
        rw [e]
        exact ⟨by simp, by omega⟩
      · rw [if_neg hb] at h2
        obtain ⟨t1, t2⟩ := takeM_some h2
        have e : [L[i]].filter (fun l => !blankB l) = [L[i]] := by simp [hb]
        rw [e, t1, t2]
        exact ⟨rfl, by omega⟩
  have := key L.length (Nat.le_refl _)
  rw [List.take_length, z1] at this
  exact this
theorem starts_hash {w : Str} {us : List Str} (hne : us ≠ []) (h : (tl w).head? ≠ some 35) (h0 : tl w ≠ []) : ¬ (jn (w :: us) = "" ∨ Txt.startswith (jn (w :: us)) "#" = true) := by
  have e : tl (jn (w :: us)) = tl w ++ (32 :: tl (jn us)) := by
    rw [tl_jn, tl_jn, List.map_cons, joinL_cons (by simpa using hne)]
    rfl
  rintro (z | z)
  · have := congrArg tl z
    rw [e] at this
    exact h0 (List.append_eq_nil_iff.mp this).1
  · rw [startswith_tl, e, show tl ("#" : Str) = [35] by decide +kernel] at z
    cases hw : tl w with
    | nil => exact h0 hw
    | cons a r =>
      rw [hw] at z h
      have z : ((35 == a) && true) = true := z
      rw [Bool.and_true, beq_iff_eq] at z
      exact h (by rw [← z]; rfl)
theorem alln2 : ∀ n ∈ ALLN, (decide ((tl n).head? ≠ some 35) && decide (tl n ≠ [])) = true := by decide +kernel
theorem line_nb {nm : Str} {us : List Str} (hn : nm ∈ ALLN) : blankB (jn (lineW nm us)) = false := by
  have h2 := alln2 nm hn
  rw [Bool.and_eq_true, decide_eq_true_eq, decide_eq_true_eq] at h2
  have hs : ¬ (jn (lineW nm us) = "" ∨ Txt.startswith (jn (lineW nm us)) "#" = true) := starts_hash (us := (":" : Str) :: us) (fun z => nomatch z) h2.1 h2.2
  rw [not_or] at hs
  unfold blankB
  rw [decide_eq_false hs.1, Bool.false_or]
  exact Bool.not_eq_true _ ▸ hs.2
theorem Steps.rule {L : List Str} {zs : List (Str × D)} {nm : Str} {us : List Str} {d : D} {r : Nat} (h : Steps L zs) (hn : nm ∈ ALLN) (hnew : nm ∉ zs.map (·.1)) (hg : Gr r 1 us d) (hr : r ≤ 40) (hu : ∀ x ∈ us, okW x) (hne : us ≠ []) (hl : us.length ≤ 100) : Steps (L ++ [jn (lineW nm us)]) (zs ++ [(nm, d)]) := by
  refine h.snoc (lineW_ln hn hu hl) ?_
  rw [if_neg (by rw [line_nb hn]; exact fun z => nomatch z)]
  exact take_line hn hnew hg hr hu hne
theorem steps_blank {L : List Str} {zs : List (Str × D)} {l : Str} (h : Steps L zs) (hl : l = "" ∨ l = "#" ∨ l = "# not a rule") : Steps (L ++ [l]) zs := by
  have a : LnOk "" ∧ LnOk "#" ∧ LnOk "# not a rule" := ⟨⟨by decide +kernel, asc_lit (by decide +kernel), by decide +kernel⟩, ⟨by decide +kernel, asc_lit (by decide +kernel), by decide +kernel⟩, ⟨by decide +kernel, asc_lit (by decide +kernel), by decide +kernel⟩⟩
  have b : blankB "" = true ∧ blankB "#" = true ∧ blankB "# not a rule" = true := by decide +kernel
  rcases hl with rfl | rfl | rfl
  · exact h.snoc a.1 (by rw [if_pos b.1])
  · exact h.snoc a.2.1 (by rw [if_pos b.2.1])
  · exact h.snoc a.2.2 (by rw [if_pos b.2.2])
theorem textL_app {a b : List (List Nat)} : textL (a ++ b) = textL a ++ textL b := by
  unfold textL
  rw [List.flatMap_append]
/-- the text of lines, and what stands behind the last line feed -/
def TxL (t : Str) (L : List Str) (last : Str) : Prop := tl t = textL (L.map tl) ++ tl last
theorem TxL.split {t last : Str} {L : List Str} (h : TxL t L last) (hL : ∀ l ∈ L, 10 ∉ tl l) (hl : 10 ∉ tl last) : Txt.split t "\n" = L ++ [last] := by
  refine map_tl_inj ?_
  rw [lit_nl, tl_split (by decide), show tl t = _ from h, List.map_append]
  have key : ∀ (ls : List (List Nat)) (p : List Nat), (∀ l ∈ ls, 10 ∉ l) → 10 ∉ p → splC 10 (textL ls ++ p) = ls ++ [p] := by
    intro ls
    induction ls with
    | nil => intro p _ hp; exact splC_one hp
    | cons l ls ih =>
      intro p h hp
      show splC 10 (((l ++ [10]) ++ textL ls) ++ p) = _
      rw [List.append_assoc, List.append_assoc]
      show splC 10 (l ++ 10 :: (textL ls ++ p)) = _
      rw [splC_app (h l List.mem_cons_self), ih p (fun x hx => h x (List.mem_cons_of_mem _ hx)) hp]
      rfl
  exact key _ _ (fun l hl => by
    obtain ⟨x, hx, rfl⟩ := List.mem_map.mp hl
    exact hL x hx) hl
theorem Steps.ok {L : List Str} {zs : List (Str × D)} (h : Steps L zs) (hl : L.length ≤ 1000) : ∃ zf : Nat → List (Str × D), zf 0 = [] ∧ zf L.length = zs ∧ ∀ (i : Nat) (line : Str), i < L.length → L[i]? = some line → line.length ≤ 900000 ∧ (if blankB line = true then zf (i + 1) = zf i else TakeOk (zf i) line ∧ takeM (zf i) line = some (zf (i + 1))) := by
  obtain ⟨h1, zf, z0, z1, hst⟩ := h
  refine ⟨zf, z0, z1, fun i line hi hx => ?_⟩
  have ok := h1 line (List.mem_of_getElem? hx)
  refine ⟨by have := ok.1; omega, ?_⟩
  have h2 := hst i line hx
  have hz : (zf i).length ≤ i := by
    have : Steps (L.take i) (zf i) := ⟨fun l hl => h1 l (List.mem_of_mem_take hl), zf, z0, by rw [List.length_take, Nat.min_eq_left (by omega)], fun j line hj => hst j line (by
      rw [List.getElem?_take] at hj
      split at hj
      · exact hj
      · cases hj)⟩
    have := this.names.2
    rw [List.length_take] at this
    omega
  by_cases hb : blankB line = true
  · rw [if_pos hb] at h2 ⊢
    exact h2
  · rw [if_neg hb] at h2 ⊢
    exact ⟨⟨by have := ok.1; omega, ok.2.1, by omega⟩, h2⟩
/-- no fault, or a last line without its line feed -/
theorem told_last {L : List Str} {zs : List (Str × D)} {t last : Str} (h : Steps L zs) (hl : L.length ≤ 1000) (ht : t.length ≤ 900000) (e : TxL t L last) (hla : 10 ∉ tl last) : ToldR t (if last = "" then 0 else ((L.length : Nat) : Int) + 1) := by
  obtain ⟨zf, z0, z1, hst⟩ := h.ok hl
  refine ⟨ht, L, last, zf, L.length, e.split (fun l hl => (h.1 l hl).2.2) hla, by omega, z0, Nat.le_refl _, hst, fun line hx => ?_, by rw [if_neg (Nat.lt_irrefl _)]⟩
  exact absurd (List.getElem?_eq_some_iff.mp hx).1 (Nat.lt_irrefl _)
/-- a faulty line -/
theorem told_bad {L R : List Str} {zs : List (Str × D)} {t bad : Str} (h : Steps L zs) (hb : LnOk bad) (hbb : blankB bad = false) (hbt : takeM zs bad = none) (hR : ∀ l ∈ R, LnOk l) (hl : L.length + R.length ≤ 900) (ht : t.length ≤ 900000) (e : TxL t (L ++ bad :: R) "") : ToldR t (((L.length : Nat) : Int) + 1) := by
  obtain ⟨zf, z0, z1, hst⟩ := h.ok (by omega)
  have hz := h.names.2
  have hlen : (L ++ bad :: R).length = L.length + (R.length + 1) := by rw [List.length_append]; rfl
  refine ⟨ht, L ++ bad :: R, "", zf, L.length, e.split (fun l hl => ?_) (by decide +kernel), by rw [hlen]; omega, z0, by rw [hlen]; omega, fun i line hi hx => hst i line hi (by rw [List.getElem?_append_left hi] at hx; exact hx), fun line hx => ?_, by rw [if_pos (by rw [hlen]; omega)]⟩
  · rcases List.mem_append.mp hl with hl | hl
    · exact (h.1 l hl).2.2
    · rcases List.mem_cons.mp hl with rfl | hl
      · exact hb.2.2
      · exact (hR l hl).2.2
  · rw [List.getElem?_append_right (Nat.le_refl _), Nat.sub_self] at hx
    cases hx
    rw [z1]
    exact ⟨by have := hb.1; omega, hbb, ⟨by have := hb.1; omega, hb.2.1, by omega⟩, hbt⟩
theorem lc_line {z : Str × Cd} (h : LC 2 z.2) : (∀ x ∈ z.2.sh 0, okW x) ∧ z.2.sh 0 ≠ [] ∧ (z.2.sh 0).length ≤ 71 ∧ (∀ x ∈ z.2.fu, okW x) ∧ z.2.fu ≠ [] ∧ z.2.fu.length ≤ 71 :=
  ⟨h.words.1 0, (h.len.1 0).1, Nat.le_trans (h.len.1 0).2 (bW2 (Nat.le_refl _)), h.words.2, h.len.2.1, Nat.le_trans h.len.2.2 (bW2 (Nat.le_refl _))⟩
theorem line_split {nm : Str} {us : List Str} (hne : us ≠ []) : jn (lineW nm us) = nm ++ " : " ++ jn us := by
  have e : (" : " : Str) = (" " : Str) ++ ":" ++ " " := by decide +kernel
  unfold lineW
  rw [jn_cons (by simp), jn_cons hne, e]
  simp only [app_assoc]
theorem tl_nl : tl ("\n" : Str) = [10] := by rw [lit_nl]
/-! #### the written faulty lines -/
def wrongL : List Str := ["a", "a :", "a : x", "a : x <", "a : x < 01", "a : x < -0", "a : x < 1234567890", "a : z < 1", "a : x == 1", "a : x < 1 and", "a : not", "a : ( x < 1", "a : x < 1 )", "a : x < 1 x < 2", "a  : x < 1", "a: x < 1", "A : x < 1", "1a : x < 1", "abcdefghijklm : x < 1", "a : " ++ mulS "not " 41 ++ "x < 1", "a : " ++ mulS "( " 41 ++ "x < 1" ++ mulS " )" 41, " a : x < 1"]
def furtherL : List Str := ["a = x < 1", "a : x < 3x", "a : ( x < 1 and y < 2", "a : x < 1 or", "a : ( )", "a : x < 1 ) )", "a : ( x < 1 x"]
def badB (l : Str) : Bool := decide (l.length ≤ 2000) && ((tl l).all (fun c => decide (c < 128)) && (decide (10 ∉ tl l) && (!blankB l && !headOk (Txt.split l " "))))
theorem bad_all : (wrongL ++ furtherL).all badB = true := by decide +kernel
theorem bad_of {l : Str} (h : l ∈ wrongL ++ furtherL) : LnOk l ∧ blankB l = false ∧ ∀ zs, takeM zs l = none := by
  have := List.all_eq_true.mp bad_all l h
  unfold badB at this
  simp only [Bool.and_eq_true, decide_eq_true_eq, Bool.not_eq_true', List.all_eq_true] at this
  obtain ⟨h1, h2, h3, h4, h5⟩ := this
  refine ⟨⟨h1, fun c hc => h2 c hc, h3⟩, h4, fun zs => ?_⟩
  unfold takeM
  rw [h5, if_neg (fun z => nomatch z.1)]
def RSome : List D → D → Prop := fun _ d => ∃ zs : List (Str × Cd), d = .lst (zs.map lawZ) ∧ zs.map (·.1) = NM.take zs.length ∧ zs.length ≤ 3 ∧ ∀ z ∈ zs, LC 2 z.2
theorem nm_at : ∀ i : Nat, i < 4 → L2.atI (NM.map D.str) (i : Int) = some (.str (NM.getD i "")) ∧ NM.take i ++ [NM.getD i ""] = NM.take (i + 1) ∧ NM.getD i "" ∈ ALLN ∧ NM.getD i "" ∉ NM.take i := by
  intro i hi
  have : i = 0 ∨ i = 1 ∨ i = 2 ∨ i = 3 := by omega
  rcases this with rfl | rfl | rfl | rfl
  · exact ⟨rfl, rfl, by decide +kernel, by decide +kernel⟩
  · exact ⟨rfl, rfl, by decide +kernel, by decide +kernel⟩
  · exact ⟨rfl, rfl, by decide +kernel, by decide +kernel⟩
  · exact ⟨rfl, rfl, by decide +kernel, by decide +kernel⟩
theorem NM_len : NM.length = 4 := rfl
section
variable {P : Program} {w : World} {K : PySem.W.Frag} {mg : Str → Option Value} {base : Heap}
theorem sc__law_some_rules : FnScope ["pool", "most", "found", "k"] ["pool", "most"] (defScope s__law_some_rules) := ⟨rfl, rfl, rfl, by decide +kernel, rfl, by decide +kernel, by decide +kernel⟩
theorem ok__law_some_rules (B : Bi mg) {f g g2 : Addr} {fd gd gd2 : FuncData} (F : Fun K "_law_some_rules" "_law_some_rules" s__law_some_rules f fd) (L__law_draw : Lk K mg "_law_draw" g gd ["pool", "many"]) (G__law_draw : FnOk P w K mg base CX0 2 g gd ["pool", "many"] spDraw)
    (L__law_condition : Lk K mg "_law_condition" g2 gd2 ["pool", "depth"]) (G__law_condition : FnOk P w K mg base CX0 5 g2 gd2 ["pool", "depth"] (SpP K 1 (PreCond 3) RCondD)) : FnOk P w K mg base CX0 6 f fd ["pool", "most"] (SpP K 1 (fun ds => ds = [.int 3]) RSome) := by
  have S := sc__law_some_rules
  refine fn_okP F S rfl 2 rfl fun cdv A outer s H E hr => ⟨_, ((pss_cons (ps_set (i := 2) S.nd rfl (by first | exact Or.inl rfl | exact Or.inr rfl) (pe_lst pa_nil))
 (pss_cons (ps_for PassesOwn.never rfl (pi_range1 (by rfl) B.range (pa_cons (pe_call G__law_draw (hr.mono (by first | exact Nat.le_refl _ | decide | omega)) (by rfl) L__law_draw.m L__law_draw.kp L__law_draw.bi .nil pass0 (pa_cons (pv 0) (pa_cons (pe_op op_add (pv 1) pe_int) pa_nil))) pa_nil)) (pg_name (i := 3) S.nd rfl (by first | exact Or.inl rfl | exact Or.inr rfl))
 (pss_one (ps_expr (pe_bm PySem.F.plainAttrs_list PySem.F.slot_list_append PySem.F.type_list_append mt_append (pv 2) (pa_cons (pe_tup (pa_cons (pe_ix ix_tup (pe_tup (pa_cons pe_str (pa_cons pe_str (pa_cons pe_str (pa_cons pe_str pa_nil))))) (pv 3) (fun _ _ => rfl)) (pa_cons (pe_call G__law_condition (hr.mono (by first | exact Nat.le_refl _ | decide | omega)) (by rfl) L__law_condition.m L__law_condition.kp L__law_condition.bi .nil pass0 (pa_cons (pv 0) (pa_cons pe_int pa_nil))) pa_nil))) pa_nil)))))
 (pss_one (ps_ret (pv 2)))))), fun φ p pl ns ds H D0 σ hl pre np ne hrt A => ?_⟩
  subst pre
  replace A : At K φ (JB p pl ns H) [some (.raw (.ref p)), some (.int 3), none, none] σ H := A
  have hP : Pooled φ (JB p pl ns H) p pl ns := pooledB np ne
  refine q (st_newS A (en_ofN (en_lstD ea_nil)) fun l ds0 C J1 σ2 H2 hC N1 L1 A2 => q ?_)
  obtain ⟨e, rfl⟩ := hC
  subst e
  have hP1 : Pooled (wo φ l) J1 p pl ns := N1.ext.pool _ _ _ hP
  obtain ⟨npl, nsl⟩ := N1.pl _ _ _ hP
  let ρ0 : Option D → List (Option D) := fun o => [some (.raw (.ref p)), some (.int 3), some (.raw (.ref l)), o]
  replace A2 : At K (wo φ l) J1 (ρ0 none) σ2 H2 := A2
  have sb := N1.st
  refine st_forP A2 (it_range1P (p := fun n => 0 ≤ n ∧ n < 4) (ea_i (ev_draw hP1 rfl ((ev_add (i := 3) (j := 1) (ev_var (i := 1) rfl) ev_int).is (d' := .int 4) rfl) (by decide) (by decide))) (fun n h => by omega)) fun ds3 H3 h3 A3 => ?_
  obtain ⟨n, ⟨n0, n5⟩, rfl⟩ := h3
  refine forG_by A3 (fun i ρ' J' => ∃ (zs : List (Str × Cd)) (o : Option D), zs.length = i ∧ zs.map (·.1) = NM.take zs.length ∧ (∀ z ∈ zs, LC 2 z.2) ∧ LivS K (wo φ l) J' l HO.lst (zs.map lawZ) ∧ (∀ H', J' H' → JB p pl ns H H') ∧ Pooled (wo φ l) J' p pl ns ∧ ρ' = ρ0 o) ⟨[], none, rfl, rfl, (fun z h => by cases h), L1, fun H' h => N1.ext.imp H' h, hP1, rfl⟩ ?_ ?_
  · rintro i x ρ' J' hx ⟨zs, o, hzs, hnm, hlc, L4, hb4, hP4, rfl⟩
    refine ⟨_, _, eg_name, fun σ' H' A4 => ?_⟩
    have hi : i < 4 := by
      have := (List.getElem?_eq_some_iff.mp hx).1
      rw [rangeD_length] at this
      omega
    have hlt : i < n.toNat := by
      have := (List.getElem?_eq_some_iff.mp hx).1
      rw [rangeD_length] at this
      exact this
    rw [rangeD_get, if_pos hlt] at hx
    have hx : x = .int (i : Int) := by
      have := (Option.some.inj hx).symm
      rw [this]
      congr 1
      omega
    subst hx
    obtain ⟨nm1, nm2, nm3, nm4⟩ := nm_at i hi
    replace A4 : At K (wo φ l) (fun H => J' H ∧ But (wo φ l) H3 H) (ρ0 (some (.int (i : Int)))) σ' H' := A4
    have hP5 : Pooled (wo φ l) (fun H => J' H ∧ But (wo φ l) H3 H) p pl ns := Ext.but'.pool _ _ _ hP4
    refine st_appS (P := fun d => ∃ c : Cd, d = lawZ (NM.getD i "", c) ∧ LC 2 c) A4 L4.but rfl ((ev_tupP (ea_consP (ev_ixT (ds := NM.map D.str) (d := .str (NM.getD i "")) (ev_tup (ea_cons ev_str (ea_cons ev_str (ea_cons ev_str (ea_cons ev_str ea_nil))))) (ev_var (i := 3) rfl) nm1) (ea_consP (ev_callP (Pr := fun ds => ds = [.int 2]) hP5 rfl (ea_cons ev_int ea_nil) (fun ds e => ⟨by rw [e]; rfl, 2, rfl, e⟩)) ea_nil)) ?_).imp ?_) (by rw [List.length_map]; omega) fun d J8 H8 hd W8 L8 A8 => ?_
    · rintro r ⟨d, r', rfl, _, d2, r2, rfl, _, rfl⟩
      exact Nat.le_of_ble_eq_true rfl
    · rintro z ⟨r, rfl, d, r', rfl, rfl, d2, r2, rfl, ⟨ds, rfl, m, c, e, hc, rfl⟩, rfl⟩
      simp only [List.cons.injEq, D.int.injEq, and_true] at e
      have e : m = 2 := by omega
      subst e
      exact ⟨c, rfl, hc⟩
    · obtain ⟨c, rfl, hc⟩ := hd
      have hb8 := W8.base _ (fun H h => h.2) (Stab.but (.inl L4.np))
      refine ⟨_, J8, ⟨zs ++ [(NM.getD i "", c)], _, by rw [List.length_append, hzs]; rfl, ?_, fun z hz => ?_, by rw [List.map_append]; exact L8, W8.base _ (fun H h => hb4 H h.1) sb, W8.pool _ _ _ hP5 npl nsl, rfl⟩, A8.live ⟨A8.j, hb8 _ A8.j⟩ (A8.mono.and (Mo.but (hb8 _ A8.j).tr))⟩
      · rw [List.map_append, hnm, hzs, List.length_append, hzs]
        exact nm2
      · rcases List.mem_append.mp hz with hz | hz
        · exact hlc z hz
        · rw [List.mem_singleton.mp hz]
          exact hc
  · rintro ρ' J' σ' H' ⟨zs, o, hzs, hnm, hlc, L4, hb4, hP4, rfl⟩ A4
    rw [rangeD_length] at hzs
    have A5 := L4.but.freeze N1.fr A4 (k := 2) rfl
    replace A5 : At K φ (fun H_1 => (J' H_1 ∧ But (wo φ l) H3 H_1) ∧ But φ H' H_1) [some (.raw (.ref p)), some (.int 3), some (.lst (zs.map lawZ)), o] σ' H' := A5
    exact st_ret A5 (ev_var (i := 2) rfl) fun v d H6 e A6 r => hrt v d H6 ⟨zs, e, hnm, by omega, hlc⟩ (hb4 _ A6.j.1.1) r
end
end

/-! ### law_k51_faulty_rules -/
section
open TL
section
variable {P : Program} {w : World} {K : PySem.W.Frag} {mg : Str → Option Value} {base : Heap}
theorem sqL_same {H H' : Hp} {a : Addr} {xs : List V} (h : SqL K H a xs) (s : Same H H') : SqL K H' a xs := by
  rcases h with h | h
  · rcases h with h | ⟨o, h⟩
    · exact .inl (.inl (s _ _ h))
    · exact .inl (.inr ⟨o, s _ _ h⟩)
  · exact .inr h
def nl1 : D → D
  | .str s => .str (nlS s)
  | d => d
def nbD : D → Bool
  | .str s => !blankB s
  | _ => false
def hdD : D → D
  | .str s => .str (hdS s)
  | d => d
/-- the text of lines -/
def txtS (L : List Str) : Str := Txt.join "" (L.map nlS)
theorem txtS_tx (L : List Str) : TxL (txtS L) L "" := by
  show tl (txtS L) = textL (L.map tl) ++ tl ""
  rw [show tl ("" : Str) = [] from rfl, List.append_nil]
  unfold txtS
  rw [tl_joinE, List.map_map]
  unfold textL
  rw [List.flatMap_map, List.flatMap_def]
  congr 1
  exact List.map_congr_left fun l _ => tl_nlS l
theorem txtS_sum {L : List Str} (h : ∀ l ∈ L, LnOk l) (hl : L.length ≤ 20) : ((L.map nlS).map (·.length)).sum ≤ 45000 := by
  have a := jn_sum (us := L.map nlS) (b := 2010) fun u hu => by
    obtain ⟨z, hz, rfl⟩ := List.mem_map.mp hu
    have := (h z hz).1
    unfold nlS
    rw [len_app]
    have : ("\n" : Str).length = 1 := by decide +kernel
    omega
  rw [List.length_map] at a
  omega
theorem txtS_len {L : List Str} (h : ∀ l ∈ L, LnOk l) (hl : L.length ≤ 20) : (txtS L).length ≤ 45000 := by
  unfold txtS
  rw [len_tl, tl_joinE, List.length_flatten, List.map_map]
  refine Nat.le_trans (Nat.le_of_eq (congrArg List.sum ?_)) (txtS_sum h hl)
  exact List.map_congr_left fun y _ => by
    show (tl y).length = y.length
    rw [len_tl]
theorem ev_txt {φ : Addr → Prop} {J : Hp → Prop} {ρ : List (Option D)} {wi : TI} {L : List Str} (hi : IterD K φ J wi ρ (L.map D.str)) (h : ∀ l ∈ L, LnOk l) (hl : L.length ≤ 20) (hk : ∀ d : D, ((wipeR ρ [8]).set 8 (some d))[8]? = some (some d)) :
    EvD K φ J (tM1 (rJoin K) (tC (.str "")) (tLc wi (gName 8) tYes (tOp rAddS (tVar 8) (tC (.str "\n"))) [8])) ρ (.str (txtS L)) := by
  refine ev_join ev_str ((ev_lc (k := 8) (f := nl1) hi (by rw [List.length_map]; omega) fun d hd φ' J' hx => ?_).is (by rw [List.map_map, List.map_map]; rfl)) ?_
  · obtain ⟨l, hm, rfl⟩ := List.mem_map.mp hd
    have := (h l hm).1
    exact ev_addS (ev_var (hk _)) ev_str (by have : ("\n" : Str).length = 1 := by decide +kernel
                                             omega)
  · have := txtS_sum h hl
    have : ("" : Str).length = 0 := by decide +kernel
    rw [this]
    omega
theorem TxL.snoc {t a b : Str} {L : List Str} (h : TxL t L "") (e : tl a = tl b ++ [10]) : TxL (t ++ a) (L ++ [b]) "" := by
  have h : tl t = textL (L.map tl) ++ tl "" := h
  show tl (t ++ a) = textL ((L ++ [b]).map tl) ++ tl ""
  rw [show tl ("" : Str) = [] from rfl, List.append_nil] at h ⊢
  rw [tl_append, h, e, List.map_append, textL_app]
  unfold textL
  simp
theorem TxL.behind {t a : Str} {L : List Str} (h : TxL t L "") : TxL (t ++ a) L a := by
  have h : tl t = textL (L.map tl) ++ tl "" := h
  show tl (t ++ a) = textL (L.map tl) ++ tl a
  rw [show tl ("" : Str) = [] from rfl, List.append_nil] at h
  rw [tl_append, h]
theorem hash_eq {s : Str} {a : Nat} {r : List Nat} (e : tl s = a :: r) : decide ((⟨#[a]⟩ : Str) = "#") = Txt.startswith s "#" := by
  rw [startswith_tl, e, show tl ("#" : Str) = [35] by decide +kernel]
  show _ = ((35 == a) && true)
  rw [Bool.and_true, Bool.eq_iff_iff, decide_eq_true_eq, beq_iff_eq]
  constructor
  · intro h
    have := congrArg tl h
    rw [show tl ("#" : Str) = [35] by decide +kernel] at this
    exact ((List.cons.inj this).1).symm
  · rintro rfl
    exact ext_tl (by rw [show tl ("#" : Str) = [35] by decide +kernel])
theorem split_hd (s : Str) : (Txt.split s " ")[0]? = some (hdS s) := by
  have h : (Txt.split s " ").map tl = splC 32 (tl s) := by
    rw [lit_sp]
    exact tl_split (by decide) s
  unfold hdS
  cases e : Txt.split s " " with
  | nil =>
    rw [e] at h
    exact absurd h.symm (splC_ne 32 (tl s))
  | cons a r => rfl
theorem told_one {l : Str} (h : l ∈ wrongL ++ furtherL) : ToldR (l ++ "\n") 1 := by
  obtain ⟨h1, h2, h3⟩ := bad_of h
  have l1 : ("\n" : Str).length = 1 := by decide +kernel
  have e : TxL (l ++ "\n") ([] ++ l :: []) "" := by
    show tl (l ++ "\n") = textL ([l].map tl) ++ tl ""
    rw [tl_append, tl_nl, show tl ("" : Str) = [] from rfl, List.append_nil]
    unfold textL
    simp
  have := told_bad (t := l ++ "\n") (R := []) steps_nil h1 h2 (h3 []) (fun l hl => by cases hl) (by decide) (by have := h1.1; rw [len_app]; omega) e
  exact this
def endW : List Str := ["x", "<", "1"]
def endV : List Str := ["x", "<", "-999999999"]
theorem end_ok : (∀ x ∈ endW, okW x) ∧ (∀ x ∈ endV, okW x) := by
  have h : (endW.all okWb && endV.all okWb) = true := by decide +kernel
  rw [Bool.and_eq_true, List.all_eq_true, List.all_eq_true] at h
  exact ⟨fun x hx => okW_of (h.1 x hx), fun x hx => okW_of (h.2 x hx)⟩
theorem end_jn (n : Str) : tl (n ++ " : x < 1\n") = tl (jn (lineW n endW)) ++ [10] ∧ tl ("abcdefghijkl : x < -999999999\n" : Str) = tl (jn (lineW "abcdefghijkl" endV)) ++ [10] := by
  refine ⟨?_, by decide +kernel⟩
  rw [line_split (us := endW) (by decide), tl_append, tl_append, tl_append]
  have : tl (" : x < 1\n" : Str) = tl (" : " : Str) ++ tl (jn endW) ++ [10] := by decide +kernel
  rw [this, List.append_assoc, List.append_assoc, List.append_assoc]
theorem g_end : Gr 0 1 endV (.tup [.str "compare", .str "x", .str "<", .int (-999999999)]) := .one1 (.one2 (.cmp (by decide +kernel) (by decide +kernel) (by decide +kernel)))
theorem scL : FnScope ["script", "pool", "lines", "rule", "wrong", "further", "bad", "text", "line", "place", "broken", "names"] ["script"] (defScope s_law) := ⟨rfl, rfl, rfl, by decide +kernel, rfl, by decide +kernel, by decide +kernel⟩
set_option maxHeartbeats 2000000 in
theorem ok_all (B : Bi mg) (C : Cs mg) {c_InvalidLine fI_InvalidLine cc_InvalidLine cda_InvalidLine : Addr} {fdI_InvalidLine : FuncData} (X_InvalidLine : IL P K mg c_InvalidLine fI_InvalidLine fdI_InvalidLine cc_InvalidLine cda_InvalidLine) {a_FIELDS : Addr} (Y_FIELDS : TStr K mg "FIELDS" a_FIELDS C_FIELDS) {a_SIGNS : Addr} (Y_SIGNS : TStr K mg "SIGNS" a_SIGNS C_SIGNS) {C_Reader : Addr} (T_Reader : TReader K mg C_Reader) {f_Reader___init__ : Addr} {fd_Reader___init__ : FuncData} (F_Reader___init__ : Fun K "__init__" "Reader.__init__" s_Reader___init__ f_Reader___init__ fd_Reader___init__) (L_Reader___init__ : LkM K C_Reader "__init__" f_Reader___init__ fd_Reader___init__ ["self", "words"]) (M_Reader : Mk K C_Reader f_Reader___init__) {f_Reader_next_word : Addr} {fd_Reader_next_word : FuncData} (F_Reader_next_word : Fun K "next_word" "Reader.next_word" s_Reader_next_word f_Reader_next_word fd_Reader_next_word) (L_Reader_next_word : LkM K C_Reader "next_word" f_Reader_next_word fd_Reader_next_word ["self"]) {f_Reader_joined : Addr} {fd_Reader_joined : FuncData} (F_Reader_joined : Fun K "joined" "Reader.joined" s_Reader_joined f_Reader_joined fd_Reader_joined) (L_Reader_joined : LkM K C_Reader "joined" f_Reader_joined fd_Reader_joined ["self", "word", "depth"]) {f_Reader_part : Addr} {fd_Reader_part : FuncData} (F_Reader_part : Fun K "part" "Reader.part" s_Reader_part f_Reader_part fd_Reader_part) (L_Reader_part : LkM K C_Reader "part" f_Reader_part fd_Reader_part ["self", "word", "depth"]) {f_Reader_single : Addr} {fd_Reader_single : FuncData} (F_Reader_single : Fun K "single" "Reader.single" s_Reader_single f_Reader_single fd_Reader_single) (L_Reader_single : LkM K C_Reader "single" f_Reader_single fd_Reader_single ["self", "depth"]) {f_Reader_comparison : Addr} {fd_Reader_comparison : FuncData} (F_Reader_comparison : Fun K "comparison" "Reader.comparison" s_Reader_comparison f_Reader_comparison fd_Reader_comparison) (L_Reader_comparison : LkM K C_Reader "comparison" f_Reader_comparison fd_Reader_comparison ["self"]) {C_Rules : Addr} (T_Rules : TRules K mg C_Rules) {f_Rules___init__ : Addr} {fd_Rules___init__ : FuncData} (F_Rules___init__ : Fun K "__init__" "Rules.__init__" s_Rules___init__ f_Rules___init__ fd_Rules___init__) (L_Rules___init__ : LkM K C_Rules "__init__" f_Rules___init__ fd_Rules___init__ ["self", "text"]) (M_Rules : Mk K C_Rules f_Rules___init__) {f_Rules_take : Addr} {fd_Rules_take : FuncData} (F_Rules_take : Fun K "take" "Rules.take" s_Rules_take f_Rules_take fd_Rules_take) (L_Rules_take : LkM K C_Rules "take" f_Rules_take fd_Rules_take ["self", "line", "number"]) {f_Rules_names : Addr} {fd_Rules_names : FuncData} (F_Rules_names : Fun K "names" "Rules.names" s_Rules_names f_Rules_names fd_Rules_names) (L_Rules_names : LkM K C_Rules "names" f_Rules_names fd_Rules_names ["self"]) {f_Rules_broken : Addr} {fd_Rules_broken : FuncData} (F_Rules_broken : Fun K "broken" "Rules.broken" s_Rules_broken f_Rules_broken fd_Rules_broken) (L_Rules_broken : LkM K C_Rules "broken" f_Rules_broken fd_Rules_broken ["self", "station"]) {f_is_name : Addr} {fd_is_name : FuncData} (F_is_name : Fun K "is_name" "is_name" s_is_name f_is_name fd_is_name) (L_is_name : Lk K mg "is_name" f_is_name fd_is_name ["value", "most"]) {f_read_number : Addr} {fd_read_number : FuncData} (F_read_number : Fun K "read_number" "read_number" s_read_number f_read_number fd_read_number) (L_read_number : Lk K mg "read_number" f_read_number fd_read_number ["word"]) {f_read_condition : Addr} {fd_read_condition : FuncData} (F_read_condition : Fun K "read_condition" "read_condition" s_read_condition f_read_condition fd_read_condition) (L_read_condition : Lk K mg "read_condition" f_read_condition fd_read_condition ["words"]) {f_values_of : Addr} {fd_values_of : FuncData} (F_values_of : Fun K "values_of" "values_of" s_values_of f_values_of fd_values_of) (L_values_of : Lk K mg "values_of" f_values_of fd_values_of ["station"]) {f_compare : Addr} {fd_compare : FuncData} (F_compare : Fun K "compare" "compare" s_compare f_compare fd_compare) (L_compare : Lk K mg "compare" f_compare fd_compare ["sign", "first", "second"]) {f_is_true : Addr} {fd_is_true : FuncData} (F_is_true : Fun K "is_true" "is_true" s_is_true f_is_true fd_is_true) (L_is_true : Lk K mg "is_true" f_is_true fd_is_true ["tree", "known"]) {f__law_same : Addr} {fd__law_same : FuncData} (F__law_same : Fun K "_law_same" "_law_same" s__law_same f__law_same fd__law_same) (L__law_same : Lk K mg "_law_same" f__law_same fd__law_same ["actual", "due"]) {f__law_pool : Addr} {fd__law_pool : FuncData} (F__law_pool : Fun K "_law_pool" "_law_pool" s__law_pool f__law_pool fd__law_pool) (L__law_pool : Lk K mg "_law_pool" f__law_pool fd__law_pool ["script"]) {f__law_spread : Addr} {fd__law_spread : FuncData} (F__law_spread : Fun K "_law_spread" "_law_spread" s__law_spread f__law_spread fd__law_spread) (L__law_spread : Lk K mg "_law_spread" f__law_spread fd__law_spread ["cell"]) {f__law_draw : Addr} {fd__law_draw : FuncData} (F__law_draw : Fun K "_law_draw" "_law_draw" s__law_draw f__law_draw fd__law_draw) (L__law_draw : Lk K mg "_law_draw" f__law_draw fd__law_draw ["pool", "many"]) {f__law_condition : Addr} {fd__law_condition : FuncData} (F__law_condition : Fun K "_law_condition" "_law_condition" s__law_condition f__law_condition fd__law_condition) (L__law_condition : Lk K mg "_law_condition" f__law_condition fd__law_condition ["pool", "depth"]) {f__law_show : Addr} {fd__law_show : FuncData} (F__law_show : Fun K "_law_show" "_law_show" s__law_show f__law_show fd__law_show) (L__law_show : Lk K mg "_law_show" f__law_show fd__law_show ["tree", "strength"]) {f__law_some_rules : Addr} {fd__law_some_rules : FuncData} (F__law_some_rules : Fun K "_law_some_rules" "_law_some_rules" s__law_some_rules f__law_some_rules fd__law_some_rules) (L__law_some_rules : Lk K mg "_law_some_rules" f__law_some_rules fd__law_some_rules ["pool", "most"]) {f__law_told : Addr} {fd__law_told : FuncData} (F__law_told : Fun K "_law_told" "_law_told" s__law_told f__law_told fd__law_told) (L__law_told : Lk K mg "_law_told" f__law_told fd__law_told ["text"]) {f_law : Addr} {fd_law : FuncData} (F_law : Fun K "law" "law" s_law f_law fd_law) (L_law : Lk K mg "law" f_law fd_law ["script"]) : FnOk P w K mg base CX0 217 f_law fd_law ["script"] (spLaw K) := by
  have GR := ok_readers (P := P) (w := w) (base := base) B C Y_FIELDS Y_SIGNS T_Reader F_read_number L_read_number F_Reader_next_word L_Reader_next_word F_Reader_joined L_Reader_joined F_Reader_part L_Reader_part F_Reader_single L_Reader_single F_Reader_comparison L_Reader_comparison 41
  have G_Reader_joined : FnOk P w K mg base CX0 211 _ _ _ _ := GR.2
  have G_Reader___init__ : FnOk P w K mg base CX0 1 _ _ _ _ := ok_Reader_init T_Reader F_Reader___init__
  have G_read_condition : FnOk P w K mg base CX0 212 _ _ _ _ := ok_read_condition B T_Reader F_read_condition L_Reader___init__ M_Reader G_Reader___init__ L_Reader_joined G_Reader_joined
  have G_is_name : FnOk P w K mg base CX0 1 _ _ _ _ := ok_is_name B C F_is_name
  have G_Rules_names : FnOk P w K mg base CX0 1 _ _ _ _ := ok_Rules_names T_Rules F_Rules_names
  have G_Rules_take : FnOk P w K mg base (L2.CX P w) 213 _ _ _ _ := ok_Rules_take B T_Rules X_InvalidLine F_Rules_take L_is_name G_is_name L_read_condition G_read_condition L_Rules_names G_Rules_names
  have G_Rules___init__ : FnOk P w K mg base (L2.CX P w) 214 _ _ _ _ := ok_Rules_init B T_Rules X_InvalidLine F_Rules___init__ L_Rules_take G_Rules_take
  have G__law_same : FnOk P w K mg base CX0 3 _ _ _ _ := ok__law_same B F__law_same L__law_same 3
  have G__law_pool : FnOk P w K mg base CX0 1 _ _ _ _ := ok__law_pool B F__law_pool
  have G__law_spread : FnOk P w K mg base CX0 1 _ _ _ _ := ok__law_spread B F__law_spread
  have G__law_draw : FnOk P w K mg base CX0 2 _ _ _ _ := ok__law_draw B F__law_draw L__law_spread G__law_spread
  have G__law_condition : FnOk P w K mg base CX0 5 _ _ _ _ := ok__law_condition B F__law_condition L__law_condition L__law_draw G__law_draw 3
  have G__law_some_rules : FnOk P w K mg base CX0 6 _ _ _ _ := ok__law_some_rules B F__law_some_rules L__law_draw G__law_draw L__law_condition G__law_condition
  have G__law_show : FnOk P w K mg base CX0 3 _ _ _ _ := ok__law_show B F__law_show L__law_show 3
  have G__law_told : FnOk P w K mg base CX0 216 _ _ _ _ := ok__law_told T_Rules X_InvalidLine F__law_told L_Rules___init__ M_Rules G_Rules___init__
  have S := scL
  refine F_law.ok S (fun vs H Q E h => ?_) (fun cdv A outer s H vs Q E hr h => ?_)
  · obtain ⟨a, ns, rfl, _⟩ := h
    rfl
  obtain ⟨a, ns, rfl, hS, hlen, kq⟩ := h
  refine ⟨_, ((pss_cons (ps_set (i := 1) S.nd rfl (by first | exact Or.inl rfl | exact Or.inr rfl) (pe_call G__law_pool (hr.mono (by first | exact Nat.le_refl _ | decide | omega)) (by rfl) L__law_pool.m L__law_pool.kp L__law_pool.bi .nil pass0 (pa_cons (pv 0) pa_nil)))
 (pss_cons (ps_set (i := 2) S.nd rfl (by first | exact Or.inl rfl | exact Or.inr rfl) (pe_lst pa_nil))
 (pss_cons (ps_for PassesOwn.never rfl (pi_list (pe_call G__law_some_rules (hr.mono (by first | exact Nat.le_refl _ | decide | omega)) (by rfl) L__law_some_rules.m L__law_some_rules.kp L__law_some_rules.bi .nil pass0 (pa_cons (pv 1) (pa_cons pe_int pa_nil)))) (pg_name (i := 3) S.nd rfl (by first | exact Or.inl rfl | exact Or.inr rfl))
 (C8.pss_cut (ps_if (pt_cmpR op_eq (pe_call G__law_draw (hr.mono (by first | exact Nat.le_refl _ | decide | omega)) (by rfl) L__law_draw.m L__law_draw.kp L__law_draw.bi .nil pass0 (pa_cons (pv 1) (pa_cons pe_int pa_nil))) pe_int (nomark _))
 (pss_one (ps_expr (pe_bm PySem.F.plainAttrs_list PySem.F.slot_list_append PySem.F.type_list_append mt_append (pv 2) (pa_cons (pe_ix ix_tup (pe_tup (pa_cons pe_str (pa_cons pe_str (pa_cons pe_str pa_nil)))) (pe_call G__law_draw (hr.mono (by first | exact Nat.le_refl _ | decide | omega)) (by rfl) L__law_draw.m L__law_draw.kp L__law_draw.bi .nil pass0 (pa_cons (pv 1) (pa_cons pe_int pa_nil))) (fun _ _ => rfl)) pa_nil))))
 pss_nil)
 (pss_one (ps_expr (pe_bm PySem.F.plainAttrs_list PySem.F.slot_list_append PySem.F.type_list_append mt_append (pv 2) (pa_cons (pe_op op_addS (pe_op op_addS (pe_ix ix_tup (pv 3) pe_int (fun _ _ => rfl)) pe_str) (pe_call G__law_show (hr.mono (by first | exact Nat.le_refl _ | decide | omega)) (by rfl) L__law_show.m L__law_show.kp L__law_show.bi .nil pass0 (pa_cons (pe_ix ix_tup (pv 3) pe_int (fun _ _ => rfl)) (pa_cons pe_int pa_nil)))) pa_nil))))))
 (pss_cons (ps_set (i := 4) S.nd rfl (by first | exact Or.inl rfl | exact Or.inr rfl) (pe_tup (pa_cons pe_str (pa_cons pe_str (pa_cons pe_str (pa_cons pe_str (pa_cons pe_str (pa_cons pe_str (pa_cons pe_str (pa_cons pe_str (pa_cons pe_str (pa_cons pe_str (pa_cons pe_str (pa_cons pe_str (pa_cons pe_str (pa_cons pe_str (pa_cons pe_str (pa_cons pe_str (pa_cons pe_str (pa_cons pe_str (pa_cons pe_str (pa_cons (pe_op op_addS (pe_op op_addS pe_str (pe_op op_mulS pe_str pe_int)) pe_str) (pa_cons (pe_op op_addS (pe_op op_addS (pe_op op_addS pe_str (pe_op op_mulS pe_str pe_int)) pe_str) (pe_op op_mulS pe_str pe_int)) (pa_cons pe_str pa_nil))))))))))))))))))))))))
 (pss_cons (ps_set (i := 5) S.nd rfl (by first | exact Or.inl rfl | exact Or.inr rfl) (pe_tup (pa_cons pe_str (pa_cons pe_str (pa_cons pe_str (pa_cons pe_str (pa_cons pe_str (pa_cons pe_str (pa_cons pe_str pa_nil)))))))))
 (pss_cons (ps_if (pt_cmpR op_gt (pe_callB c_len (by rfl) B.len (by decide +kernel) (pa_cons (pe_lc (own := [("bad", 6)]) (g := (gName 6)) (by rfl) S.nd (pi_tup (pe_op op_catA (pv 4) (pv 5))) (blkOk_by (N := ["script", "pool", "lines", "rule", "wrong", "further", "bad", "text", "line", "place", "broken", "names"]) (sc := defScope s_law) (own := [("bad", 6)]) (by decide +kernel)) (fun _ _ _ _ _ => (pg_name (i := 6) S.nd rfl (by first | exact Or.inl rfl | exact Or.inr rfl))) (fun _ _ _ _ _ => pts_one (pt_not (pt_val (pe_call G__law_same (hr.mono (by first | exact Nat.le_refl _ | decide | omega)) (by rfl) L__law_same.m L__law_same.kp L__law_same.bi .nil pass0 (pa_cons (pe_call G__law_told (hr.mono (by first | exact Nat.le_refl _ | decide | omega)) (by rfl) L__law_told.m L__law_told.kp L__law_told.bi .nil pass0 (pa_cons (pe_op op_addS (pv 6) pe_str) pa_nil)) (pa_cons pe_int pa_nil)))))) (fun _ _ _ _ _ => (pv 6))) pa_nil)) pe_int (nomark _))
 (pss_one (ps_ret pe_bl))
 pss_nil)
 (pss_cons (ps_set (i := 7) S.nd rfl (by first | exact Or.inl rfl | exact Or.inr rfl) (pe_m1 PySem.F.slot_str_join PySem.F.type_str_join mu_join pe_str (pe_lc (own := [("line", 8)]) (g := (gName 8)) (tt := tYes) (by rfl) S.nd (pi_list (pv 2)) (blkOk_by (N := ["script", "pool", "lines", "rule", "wrong", "further", "bad", "text", "line", "place", "broken", "names"]) (sc := defScope s_law) (own := [("line", 8)]) (by decide +kernel)) (fun _ _ _ _ _ => (pg_name (i := 8) S.nd rfl (by first | exact Or.inl rfl | exact Or.inr rfl))) (fun _ _ _ _ _ => pts_nil) (fun _ _ _ _ _ => (pe_op op_addS (pv 8) pe_str)))))
 (pss_cons (ps_if (pt_not (pt_val (pe_call G__law_same (hr.mono (by first | exact Nat.le_refl _ | decide | omega)) (by rfl) L__law_same.m L__law_same.kp L__law_same.bi .nil pass0 (pa_cons (pe_call G__law_told (hr.mono (by first | exact Nat.le_refl _ | decide | omega)) (by rfl) L__law_told.m L__law_told.kp L__law_told.bi .nil pass0 (pa_cons (pv 7) pa_nil)) (pa_cons pe_int pa_nil)))))
 (pss_one (ps_ret pe_bl))
 pss_nil)
 (pss_cons (ps_set (i := 9) S.nd rfl (by first | exact Or.inl rfl | exact Or.inr rfl) (pe_call G__law_draw (hr.mono (by first | exact Nat.le_refl _ | decide | omega)) (by rfl) L__law_draw.m L__law_draw.kp L__law_draw.bi .nil pass0 (pa_cons (pv 1) (pa_cons (pe_op op_add (pe_callB c_len (by rfl) B.len (by decide +kernel) (pa_cons (pv 2) pa_nil)) pe_int) pa_nil))))
 (pss_cons (ps_set (i := 6) S.nd rfl (by first | exact Or.inl rfl | exact Or.inr rfl) (pe_ix ix_tup (pv 4) (pe_call G__law_draw (hr.mono (by first | exact Nat.le_refl _ | decide | omega)) (by rfl) L__law_draw.m L__law_draw.kp L__law_draw.bi .nil pass0 (pa_cons (pv 1) (pa_cons pe_int pa_nil))) (fun _ _ => rfl)))
 (pss_cons (ps_set (i := 10) S.nd rfl (by first | exact Or.inl rfl | exact Or.inr rfl) (pe_op op_catL (pe_op op_catL (pe_slice sl_list (pv 2) po_none (po_some (pv 9))) (pe_lst (pa_cons (pv 6) pa_nil))) (pe_slice sl_list (pv 2) (po_some (pv 9)) po_none)))
 (pss_cons (ps_if (pt_not (pt_val (pe_call G__law_same (hr.mono (by first | exact Nat.le_refl _ | decide | omega)) (by rfl) L__law_same.m L__law_same.kp L__law_same.bi .nil pass0 (pa_cons (pe_call G__law_told (hr.mono (by first | exact Nat.le_refl _ | decide | omega)) (by rfl) L__law_told.m L__law_told.kp L__law_told.bi .nil pass0 (pa_cons (pe_m1 PySem.F.slot_str_join PySem.F.type_str_join mu_join pe_str (pe_lc (own := [("line", 8)]) (g := (gName 8)) (tt := tYes) (by rfl) S.nd (pi_list (pv 10)) (blkOk_by (N := ["script", "pool", "lines", "rule", "wrong", "further", "bad", "text", "line", "place", "broken", "names"]) (sc := defScope s_law) (own := [("line", 8)]) (by decide +kernel)) (fun _ _ _ _ _ => (pg_name (i := 8) S.nd rfl (by first | exact Or.inl rfl | exact Or.inr rfl))) (fun _ _ _ _ _ => pts_nil) (fun _ _ _ _ _ => (pe_op op_addS (pv 8) pe_str)))) pa_nil)) (pa_cons (pe_op op_add (pv 9) pe_int) pa_nil)))))
 (pss_one (ps_ret pe_bl))
 pss_nil)
 (pss_cons (ps_if (pt_not (pt_val (pe_call G__law_same (hr.mono (by first | exact Nat.le_refl _ | decide | omega)) (by rfl) L__law_same.m L__law_same.kp L__law_same.bi .nil pass0 (pa_cons (pe_call G__law_told (hr.mono (by first | exact Nat.le_refl _ | decide | omega)) (by rfl) L__law_told.m L__law_told.kp L__law_told.bi .nil pass0 (pa_cons (pe_op op_addS (pv 7) pe_str) pa_nil)) (pa_cons (pe_op op_add (pe_callB c_len (by rfl) B.len (by decide +kernel) (pa_cons (pv 2) pa_nil)) pe_int) pa_nil)))))
 (pss_one (ps_ret pe_bl))
 pss_nil)
 (pss_cons (ps_setLc (i := 11) (own := [("line", 8)]) (g := (gName 8)) (by rfl) S.nd rfl rfl (sw_true rfl rfl rfl (by decide +kernel)) (pi_list (pv 2)) (blkOk_by (N := ["script", "pool", "lines", "rule", "wrong", "further", "bad", "text", "line", "place", "broken", "names"]) (sc := defScope s_law) (own := [("line", 8)]) (by decide +kernel)) (fun _ _ _ _ _ => (pg_name (i := 8) S.nd rfl (by first | exact Or.inl rfl | exact Or.inr rfl))) (fun _ _ _ _ _ => pts_one (PW.pt (pw_and (pt_cmpR op_ne (pv 8) pe_str (nomark _)) (pw_and1 (pt_cmpR op_ne (pe_ix ix_str (pv 8) pe_int (fun _ _ => rfl)) pe_str (nomark _)))))) (fun _ _ _ _ _ => (pe_ix (kix_list (K := K) (by rfl)) (pe_m1 PySem.F.slot_str_split PySem.F.type_str_split mu_split (pv 8) pe_str) pe_int (fun _ _ => rfl))))
 (pss_cons (ps_if (PW.pt (pw_and (pt_cmpR op_gt (pe_callB c_len (by rfl) B.len (by decide +kernel) (pa_cons (pv 11) pa_nil)) pe_int (nomark _)) (pw_and1 (pt_not (pt_val (pe_call G__law_same (hr.mono (by first | exact Nat.le_refl _ | decide | omega)) (by rfl) L__law_same.m L__law_same.kp L__law_same.bi .nil pass0 (pa_cons (pe_call G__law_told (hr.mono (by first | exact Nat.le_refl _ | decide | omega)) (by rfl) L__law_told.m L__law_told.kp L__law_told.bi .nil pass0 (pa_cons (pe_op op_addS (pe_op op_addS (pv 7) (pe_ix ix_list (pv 11) pe_int (fun _ _ => rfl))) pe_str) pa_nil)) (pa_cons (pe_op op_add (pe_callB c_len (by rfl) B.len (by decide +kernel) (pa_cons (pv 2) pa_nil)) pe_int) pa_nil))))))))
 (pss_one (ps_ret pe_bl))
 pss_nil)
 (pss_one (ps_ret (pe_call G__law_same (hr.mono (by first | exact Nat.le_refl _ | decide | omega)) (by rfl) L__law_same.m L__law_same.kp L__law_same.bi .nil pass0 (pa_cons (pe_call G__law_told (hr.mono (by first | exact Nat.le_refl _ | decide | omega)) (by rfl) L__law_told.m L__law_told.kp L__law_told.bi .nil pass0 (pa_cons (pe_op op_addS (pv 7) pe_str) pa_nil)) (pa_cons pe_int pa_nil))))))))))))))))))))), ?_⟩
  have A0 : At K (fun _ => True) (Same H) [some (.raw (.ref a)), none, none, none, none, none, none, none, none, none, none, none] (L2.start ["script", "pool", "lines", "rule", "wrong", "further", "bad", "text", "line", "place", "broken", "names"] [.ref a]) H := ⟨SR.start (ds := [.raw (.ref a)]) (n := 11) (Reps.cons rfl Reps.nil), ⟨fun _ _ => trivial, fun _ _ _ => trivial⟩, Same.refl H, Mo.sames fun _ h => h⟩
  obtain ⟨v0, e0, r0⟩ := A0.sr.2 0 _ rfl
  cases (show v0 = _ from r0)
  refine q (st_pool (n := 12) (sqL_same hS A0.j) hlen e0 A0.sr.1 (by decide) fun p s σ3 H3 hne A3 => q ?_)
  replace A3 : At K (fun b => b ≠ p) (PoolOk p s ns) [none, some (.raw (.ref p)), none, none, none, none, none, none, none, none, none, none] σ3 H3 := A3
  have hP : Pooled (fun b => b ≠ p) (PoolOk p s ns) p s ns := pooled (fun z => z rfl) hne
  generalize (fun b => b ≠ p : Addr → Prop) = φ at A3 hP
  clear A0 e0 r0 hS hlen
  refine st_newS A3 (en_ofN (en_lstD ea_nil)) fun l ds0 C0 J4 σ4 H4 hC N4 L4 A4 => q ?_
  obtain ⟨e, rfl⟩ := hC
  subst e
  have hP4 : Pooled (wo φ l) J4 p s ns := N4.ext.pool _ _ _ hP
  obtain ⟨npl, nsl⟩ := N4.pl _ _ _ hP
  replace A4 : At K (wo φ l) J4 [none, some (.raw (.ref p)), some (.raw (.ref l)), none, none, none, none, none, none, none, none, none] σ4 H4 := A4
  refine st_forP A4 (it_listP (P := fun ds => ∃ zs : List (Str × Cd), ds = zs.map lawZ ∧ zs.map (·.1) = NM.take zs.length ∧ zs.length ≤ 3 ∧ ∀ z ∈ zs, LC 2 z.2) ((ev_callP (Pr := fun ds => ds = [.int 3]) hP4 rfl (ea_cons ev_int ea_nil) (fun ds e => ⟨by rw [e]; rfl, e⟩)).imp fun d h => by
    obtain ⟨_, _, zs, e, h⟩ := h
    exact ⟨_, e, zs, rfl, h⟩)) fun ds5 H5 h5 A5 => ?_
  obtain ⟨zs, rfl, hnm, hz3, hlc⟩ := h5
  have tk : ∀ i, i ≤ zs.length → (zs.take i).map (·.1) = NM.take i := fun i hi => by
    rw [List.map_take, hnm, List.take_take, Nat.min_eq_left hi]
  refine forG_by A5 (fun i ρ' J' => ∃ (L : List Str) (o : Option D), Steps L ((zs.take i).map zP) ∧ L.length ≤ 2 * i ∧ LivS K (wo φ l) J' l HO.lst (L.map D.str) ∧ Pooled (wo φ l) J' p s ns ∧ ρ' = [none, some (.raw (.ref p)), some (.raw (.ref l)), o, none, none, none, none, none, none, none, none]) ⟨[], none, steps_nil, Nat.le_refl _, L4, hP4, rfl⟩ ?_ ?_
  · rintro i x ρ' J' hx ⟨L, o, hst, hll, L6, hP6, rfl⟩
    refine ⟨_, _, eg_name, fun σ' H' A6 => ?_⟩
    rw [List.getElem?_map] at hx
    cases hz : zs[i]? with
    | none => rw [hz] at hx; cases hx
    | some z =>
      rw [hz] at hx
      cases hx
      have hi := (List.getElem?_eq_some_iff.mp hz).1
      have hzl := hlc z (List.mem_of_getElem? hz)
      obtain ⟨n1, n2, n3, n4⟩ := nm_at i (by omega)
      have tks : zs.take (i + 1) = zs.take i ++ [z] := by rw [List.take_add_one, hz]; rfl
      have z1 : z.1 = NM.getD i "" := by
        have a := tk (i + 1) (by omega)
        rw [tks, List.map_append, tk i (by omega), ← n2] at a
        have a := List.append_cancel_left a
        exact (List.cons.inj a).1
      obtain ⟨w1, w2, w3, _⟩ := lc_line hzl
      have hjl := (hzl.jl (Nat.le_refl _)).1 0
      have z1l : z.1.length ≤ 12 := by
        have h := alln _ n3
        rw [Bool.and_eq_true, Bool.and_eq_true] at h
        rw [z1]
        exact (okW_of h.2.1).1
      replace A6 : At K (wo φ l) (fun H => J' H ∧ But (wo φ l) H5 H) [none, some (.raw (.ref p)), some (.raw (.ref l)), some (lawZ z), none, none, none, none, none, none, none, none] σ' H' := A6
      have hP6' : Pooled (wo φ l) (fun H => J' H ∧ But (wo φ l) H5 H) p s ns := Ext.but'.pool _ _ _ hP6
      refine q_cut (M := fun σ' H' => ∃ (L2 : List Str) (J2 : Hp → Prop), Steps L2 ((zs.take i).map zP) ∧ L2.length ≤ 2 * i + 1 ∧ LivS K (wo φ l) J2 l HO.lst (L2.map D.str) ∧ Pooled (wo φ l) J2 p s ns ∧ (∀ H, J2 H → But (wo φ l) H5 H) ∧ At K (wo φ l) J2 [none, some (.raw (.ref p)), some (.raw (.ref l)), some (lawZ z), none, none, none, none, none, none, none, none] σ' H') ?_ ?_
      · refine st_if A6 (et_testP (eb_eq (ev_draw hP6' rfl ev_int (by decide) (by decide)) (ev_i ev_int))) (fun _ H7 A7 => ?_) (fun _ H7 A7 => st_next ⟨L, _, hst, by omega, L6.but, hP6', fun H h => h.2, A7⟩)
        refine st_appS (P := fun d => ∃ b : Str, d = .str b ∧ (b = "" ∨ b = "#" ∨ b = "# not a rule")) A7 L6.but rfl (ev_ixTP (P := fun d => ∃ b : Str, d = .str b ∧ (b = "" ∨ b = "#" ∨ b = "# not a rule")) (ev_tup (ea_cons ev_str (ea_cons ev_str (ea_cons ev_str ea_nil)))) (ev_draw hP6' rfl ev_int (by decide) (by decide)) ?_) (by rw [List.length_map]; omega) fun d J8 H8 hd W8 L8 A8 => ?_
        · rintro x j rfl ⟨h0, h4⟩
          have : j = 0 ∨ j = 1 ∨ j = 2 := by omega
          rcases this with rfl | rfl | rfl
          · exact ⟨_, _, rfl, rfl, _, rfl, .inl rfl⟩
          · exact ⟨_, _, rfl, rfl, _, rfl, .inr (.inl rfl)⟩
          · exact ⟨_, _, rfl, rfl, _, rfl, .inr (.inr rfl)⟩
        · obtain ⟨b, rfl, hb⟩ := hd
          exact ⟨L ++ [b], J8, steps_blank hst hb, by rw [List.length_append]; show L.length + 1 ≤ _; omega, by rw [List.map_append]; exact L8, W8.pool _ _ _ hP6' npl nsl, W8.base _ (fun H h => h.2) (Stab.but (.inl L6.np)), A8⟩
      clear A6
      rintro σ9 H9 ⟨L2, J2, hst2, hl2, L9, hP9, hb9, A9⟩
      have l3 : (" : " : Str).length = 3 := by decide +kernel
      refine st_appS (P := fun d => d = .str (jn (lineW z.1 (z.2.sh 0)))) A9 L9 rfl ((ev_addS (ev_addS (ev_ixT (d := .str z.1) (ev_var (d := lawZ z) (i := 3) rfl) ev_int rfl) ev_str (by omega)) (ev_callD (ea_cons (ev_ixT (d := z.2.d) (ev_var (d := lawZ z) (i := 3) rfl) ev_int rfl) (ea_cons ev_int ea_nil)) ⟨2, z.2, 0, rfl, Nat.le_refl _, hzl, rfl, rfl⟩) (by rw [len_app]; omega)).is (by rw [line_split w2])) (by rw [List.length_map]; omega) fun d J8 H8 hd W8 L8 A8 => ?_
      subst hd
      have hb8 := W8.base _ hb9 (Stab.but (.inl L9.np))
      refine ⟨_, J8, ⟨L2 ++ [jn (lineW z.1 (z.2.sh 0))], _, ?_, by rw [List.length_append]; show L2.length + 1 ≤ _; omega, by rw [List.map_append]; exact L8, W8.pool _ _ _ hP9 npl nsl, rfl⟩, A8.live ⟨A8.j, hb8 _ A8.j⟩ (A8.mono.and (Mo.but (hb8 _ A8.j).tr))⟩
      rw [tks, List.map_append]
      have hin : NM.getD i "" ∈ ALLN := n3
      refine hst2.rule (by rw [z1]; exact hin) ?_ hzl.gr.2.2.2 (by decide) w1 w2 (by omega)
      rw [List.map_map, show ((·.1) ∘ zP : Str × Cd → Str) = (·.1) from rfl, tk i (by omega), z1]
      exact n4
  rintro ρ' J' σ6 H6 ⟨L, o, hst, hll, L6, hP6, rfl⟩ A6
  rw [List.length_map, List.take_length] at hst
  rw [List.length_map] at hll
  have A7 := L6.but.freeze N4.fr A6 (k := 2) rfl
  have hP7 := pool_thaw (H := H6) (Ext.but' (H1 := H5) |>.pool _ _ _ hP6) npl
  dsimp only
  replace A7 : At K φ (fun H_1 => (J' H_1 ∧ But (wo φ l) H5 H_1) ∧ But φ H6 H_1) [none, some (.raw (.ref p)), some (.lst (L.map D.str)), o, none, none, none, none, none, none, none, none] σ6 H6 := A7
  generalize (fun H_1 => (J' H_1 ∧ But (wo φ l) H5 H_1) ∧ But φ H6 H_1 : Hp → Prop) = J at A7 hP7
  clear A6 L6 hP6 A5 A4 L4 hP4 N4
  have hLn := hst.1
  have hnames := hst.names
  have hzn : (zs.map zP).map (·.1) = zs.map (·.1) := by rw [List.map_map]; rfl
  rw [hzn] at hnames
  have hL6 : L.length ≤ 6 := by omega
  have l1 : ("\n" : Str).length = 1 := by decide +kernel
  have m1 : 1 ≤ ("not " : Str).length ∧ ("not " : Str).length ≤ 1000 ∧ 1 ≤ ("( " : Str).length ∧ ("( " : Str).length ≤ 1000 ∧ 1 ≤ (" )" : Str).length ∧ (" )" : Str).length ≤ 1000 := by decide +kernel
  refine q (st_set (d := .tup (wrongL.map D.str)) A7 (ev_tup (ea_cons ev_str (ea_cons ev_str (ea_cons ev_str (ea_cons ev_str (ea_cons ev_str (ea_cons ev_str (ea_cons ev_str (ea_cons ev_str (ea_cons ev_str (ea_cons ev_str (ea_cons ev_str (ea_cons ev_str (ea_cons ev_str (ea_cons ev_str (ea_cons ev_str (ea_cons ev_str (ea_cons ev_str (ea_cons ev_str (ea_cons ev_str (ea_cons (ev_addS (ev_addS ev_str (ev_mulS ev_str (ev_int (i := 41)) (by decide) (by decide) m1.1 m1.2.1) (by decide +kernel)) ev_str (by decide +kernel)) (ea_cons (ev_addS (ev_addS (ev_addS ev_str (ev_mulS ev_str (ev_int (i := 41)) (by decide) (by decide) m1.2.2.1 m1.2.2.2.1) (by decide +kernel)) ev_str (by decide +kernel)) (ev_mulS ev_str (ev_int (i := 41)) (by decide) (by decide) m1.2.2.2.2.1 m1.2.2.2.2.2) (by decide +kernel)) (ea_cons ev_str ea_nil))))))))))))))))))))))) fun σ8 H8 A8 => q ?_)
  replace A8 : At K φ J [none, some (.raw (.ref p)), some (.lst (L.map D.str)), o, some (.tup (wrongL.map D.str)), none, none, none, none, none, none, none] σ8 H8 := A8
  refine st_set (d := .tup (furtherL.map D.str)) A8 (ev_tup (ea_cons ev_str (ea_cons ev_str (ea_cons ev_str (ea_cons ev_str (ea_cons ev_str (ea_cons ev_str (ea_cons ev_str ea_nil)))))))) fun σ9 H9 A9 => q ?_
  replace A9 : At K φ J [none, some (.raw (.ref p)), some (.lst (L.map D.str)), o, some (.tup (wrongL.map D.str)), some (.tup (furtherL.map D.str)), none, none, none, none, none, none] σ9 H9 := A9
  have same : ∀ {φ J ρ E1 E2 t u} {te : TE} {n : Int}, EvD K φ J te ρ (.str t) → ToldR t n → EvD K φ J u ρ (.int n) → EvX K φ J (tNot (tB (tCall (SpD K 2 (RSame 3)) [] E1 (tCons (tCall (SpD K 1 RTold) [] E2 (tCons te tNil)) (tCons u tNil))))) ρ false := fun {φ J ρ E1 E2 t u te n} h hT hu => et_not (et_B (ev_callD (R := RSame 3) (d := .bl true) (ea_cons (ev_callD (R := RTold) (d := .int n) (ea_cons h ea_nil) ⟨t, n, rfl, hT, rfl⟩) (ea_cons hu ea_nil)) ⟨.int n, rfl, rfl, rfl⟩))
  refine st_no (b := false) A9 ((et_test (ev_gt (ev_lenL (ev_lcF (k := 6) (p := fun _ => false) (f := fun d => d) (it_tup (ev_catT (ev_var (i := 4) rfl) (ev_var (i := 5) rfl) (by decide))) (by decide) (fun d hd φ' J' hx => ?_) fun d hd hp φ' J' hx => nomatch hp)) ev_int)).is (by rw [show (wrongL.map D.str ++ furtherL.map D.str).filter (fun _ => false) = [] by simp]; rfl)) rfl fun H10 A10 => st_next (q ?_)
  · rw [← List.map_append] at hd
    obtain ⟨b, hb, rfl⟩ := List.mem_map.mp hd
    have := (bad_of hb).1.1
    exact same (ev_addS (ev_var rfl) ev_str (by omega)) (told_one hb) ev_int
  refine st_set (d := .str (txtS L)) A10 (ev_txt (it_list (ev_var (i := 2) rfl)) hLn (by omega) fun d => rfl) fun σ11 H11 A11 => q ?_
  replace A11 : At K φ J [none, some (.raw (.ref p)), some (.lst (L.map D.str)), o, some (.tup (wrongL.map D.str)), some (.tup (furtherL.map D.str)), none, some (.str (txtS L)), none, none, none, none] σ11 H11 := A11
  have tx := txtS_tx L
  have txl := txtS_len hLn (by omega)
  have T0 := told_last hst (by omega) (by omega) tx (by decide +kernel)
  rw [if_pos rfl] at T0
  refine st_no A11 (same (ev_var (i := 7) rfl) T0 ev_int) rfl fun H12 A12 => st_next (q ?_)
  refine st_asg (P := fun d => ∃ k : Nat, k ≤ L.length ∧ d = .int (k : Int)) A12 ((ev_draw hP7 rfl (ev_add (ev_lenL (ev_var (i := 2) rfl)) ev_int) (by rw [List.length_map]; omega) (by rw [List.length_map]; omega)).imp ?_) fun d σ13 H13 hd A13 => q ?_
  · rintro d ⟨n, rfl, h0, h1⟩
    rw [List.length_map] at h1
    exact ⟨n.toNat, by omega, by rw [Int.toNat_of_nonneg h0]⟩
  obtain ⟨k, hk, rfl⟩ := hd
  replace A13 : At K φ J [none, some (.raw (.ref p)), some (.lst (L.map D.str)), o, some (.tup (wrongL.map D.str)), some (.tup (furtherL.map D.str)), none, some (.str (txtS L)), none, some (.int (k : Int)), none, none] σ13 H13 := A13
  refine st_asg (P := fun d => ∃ b ∈ wrongL, d = .str b) A13 (ev_ixTP (Pa := fun d => d = .tup (wrongL.map D.str)) (P := fun d => ∃ b ∈ wrongL, d = .str b) (ev_var (i := 4) rfl) (ev_draw hP7 rfl ev_int (by decide) (by decide)) ?_) fun d σ14 H14 hd A14 => q ?_
  · rintro x j rfl ⟨h0, h1⟩
    have hj : j.toNat < wrongL.length := by
      have : wrongL.length = 22 := rfl
      omega
    refine ⟨_, _, rfl, ?_, wrongL[j.toNat], List.getElem_mem hj, rfl⟩
    have z := atI_ofNat (xs := wrongL.map D.str) (i := j.toNat) (x := .str wrongL[j.toNat]) (by rw [List.getElem?_map, List.getElem?_eq_getElem hj]; rfl)
    rw [Int.toNat_of_nonneg h0] at z
    exact z
  obtain ⟨b, hb, rfl⟩ := hd
  obtain ⟨b1, b2, b3⟩ := bad_of (List.mem_append_left furtherL hb)
  replace A14 : At K φ J [none, some (.raw (.ref p)), some (.lst (L.map D.str)), o, some (.tup (wrongL.map D.str)), some (.tup (furtherL.map D.str)), some (.str b), some (.str (txtS L)), none, some (.int (k : Int)), none, none] σ14 H14 := A14
  have hk0 : (0 : Int) ≤ (k : Int) := by omega
  have lenTk : (L.take k).length = k := by rw [List.length_take, Nat.min_eq_left hk]
  have lenBr : (L.take k ++ b :: L.drop k).length ≤ 7 := by
    rw [List.length_append, lenTk, List.length_cons, List.length_drop]
    omega
  refine st_set (d := .lst ((L.take k ++ b :: L.drop k).map D.str)) A14 ((ev_catL (ev_catL (ev_slL (ev_var (i := 2) rfl) eo_none (eo_some (ev_var (i := 9) rfl))) (ev_lst (ea_cons (ev_var (i := 6) rfl) ea_nil)) (by
      rw [cutD_hi hk0, List.length_take, List.length_map]
      show _ + 1 ≤ _
      omega)) (ev_slL (ev_var (i := 2) rfl) (eo_some (ev_var (i := 9) rfl)) eo_none) (by
      rw [cutD_hi hk0, cutD_lo hk0, List.length_append, List.length_take, List.length_drop, List.length_map]
      show _ + 1 + _ ≤ _
      omega)).is (by
      rw [cutD_hi hk0, cutD_lo hk0, show ((k : Int)).toNat = k from rfl, ← List.map_take, ← List.map_drop, List.map_append, List.map_cons, List.append_assoc]
      rfl)) fun σ15 H15 A15 => q ?_
  replace A15 : At K φ J [none, some (.raw (.ref p)), some (.lst (L.map D.str)), o, some (.tup (wrongL.map D.str)), some (.tup (furtherL.map D.str)), some (.str b), some (.str (txtS L)), none, some (.int (k : Int)), some (.lst ((L.take k ++ b :: L.drop k).map D.str)), none] σ15 H15 := A15
  have hBr : ∀ x ∈ L.take k ++ b :: L.drop k, LnOk x := fun x hx => by
    rcases List.mem_append.mp hx with hx | hx
    · exact hLn x (List.mem_of_mem_take hx)
    · rcases List.mem_cons.mp hx with rfl | hx
      · exact b1
      · exact hLn x (List.mem_of_mem_drop hx)
  obtain ⟨zs', hst'⟩ := hst.take k hk
  have T1 := told_bad (t := txtS (L.take k ++ b :: L.drop k)) (R := L.drop k) hst' b1 b2 (b3 zs') (fun x hx => hLn x (List.mem_of_mem_drop hx)) (by rw [lenTk, List.length_drop]; omega) (by have := txtS_len hBr (by omega); omega) (txtS_tx _)
  rw [lenTk] at T1
  refine st_no A15 (same (ev_txt (it_list (ev_var (i := 10) rfl)) hBr (by omega) fun d => rfl) T1 (ev_add (ev_var (i := 9) rfl) ev_int)) rfl fun H16 A16 => st_next (q ?_)
  have la : ("a : x < 1" : Str).length = 9 := by decide +kernel
  have T2 := told_last (t := txtS L ++ "a : x < 1") (last := "a : x < 1") hst (by omega) (by rw [len_app]; omega) tx.behind (by decide +kernel)
  rw [if_neg (by decide +kernel)] at T2
  refine st_no A16 (same (ev_addS (ev_var (i := 7) rfl) ev_str (by omega)) T2 ((ev_add (ev_lenL (ev_var (i := 2) rfl)) ev_int).is (by rw [List.length_map]))) rfl fun H17 A17 => st_next (q ?_)
  refine st_set (d := .lst ((zs.map (·.1)).map D.str)) A17 ((ev_lcF (k := 8) (p := nbD) (f := hdD) (it_list (ev_var (i := 2) rfl)) (by rw [List.length_map]; omega) (fun d hd φ' J' hx => ?_) fun d hd hp φ' J' hx => ?_).is (by
      rw [← hnames.1, List.filter_map, List.map_map, List.map_map]
      rfl)) fun σ18 H18 A18 => q ?_
  · obtain ⟨x, hm, rfl⟩ := List.mem_map.mp hd
    have hxl := (hLn x hm).1
    refine (et_and (c := !Txt.startswith x "#") (et_test (ev_neS (ev_var (d := .str x) rfl) ev_str)) fun hne => ?_).is ?_
    · cases e : tl x with
      | nil =>
        have : x = "" := ext_tl e
        rw [decide_eq_true this] at hne
        cases hne
      | cons a r =>
        rw [← hash_eq e]
        exact et_test (ev_neS (ev_ixStr (c := a) (ev_var (d := .str x) rfl) ev_int (by omega) (by rw [e]; exact atI_ofNat (i := 0) rfl)) ev_str)
    · show (!decide (x = "") && !Txt.startswith x "#") = !blankB x
      unfold blankB
      rw [Bool.not_or]
  · obtain ⟨x, hm, rfl⟩ := List.mem_map.mp hd
    have hxl := (hLn x hm).1
    exact ev_ixL (d := .str (hdS x)) (ev_splitD (ev_var (d := .str x) rfl) ev_str (by rw [lit_sp]; rfl) (by omega)) ev_int (atI_ofNat (i := 0) (by rw [List.getElem?_map, split_hd]; rfl))
  replace A18 : At K φ J [none, some (.raw (.ref p)), some (.lst (L.map D.str)), o, some (.tup (wrongL.map D.str)), some (.tup (furtherL.map D.str)), some (.str b), some (.str (txtS L)), none, some (.int (k : Int)), some (.lst ((L.take k ++ b :: L.drop k).map D.str)), some (.lst ((zs.map (·.1)).map D.str))] σ18 H18 := A18
  have lastOk : ∀ n ∈ zs.map (·.1), n ∈ NM := fun n hn => by
    rw [hnm] at hn
    exact List.mem_of_mem_take hn
  have nmA : ∀ n ∈ NM, n ∈ ALLN ∧ n.length ≤ 12 := by decide +kernel
  have tl9 : (" : x < 1\n" : Str).length = 9 := by decide +kernel
  refine st_no (b := false) A18 ((et_and (c := false) (et_test (ev_gt (ev_lenL (ev_var (i := 11) rfl)) ev_int)) fun hne => ?_).is (by rw [Bool.and_false])) rfl fun H19 A19 => st_next ?_
  · cases hzs : zs with
    | nil => rw [hzs] at hne; cases hne
    | cons z r =>
      have hz1 : z.1 ∈ zs.map (·.1) := by rw [hzs]; exact List.mem_cons_self
      obtain ⟨za, zl⟩ := nmA z.1 (lastOk _ hz1)
      have T3 := told_bad (t := txtS L ++ z.1 ++ " : x < 1\n") (bad := jn (lineW z.1 endW)) (R := []) hst (lineW_ln za end_ok.1 (by decide)) (line_nb za) (by
        have ok := lineW_ok za end_ok.1
        have sp : Txt.split (jn (lineW z.1 endW)) " " = z.1 :: ":" :: endW := split_jn (fun z => nomatch z) fun w hw => (ok w hw).2.2.1
        unfold takeM
        rw [sp, if_neg]
        rintro ⟨_, h2⟩
        exact h2 (by rw [hzn]; exact hz1)) (fun l hl => by cases hl) (by show L.length + 0 ≤ _; omega) (by rw [len_app, len_app]; omega) (by rw [app_assoc]; exact tx.snoc (end_jn z.1).1)
      rw [← hzs]
      exact same (ev_addS (ev_addS (ev_var (i := 7) rfl) (ev_ixL (d := .str z.1) (ev_var (i := 11) rfl) ev_int (atI_ofNat (i := 0) (by rw [hzs]; rfl))) (by omega)) ev_str (by rw [len_app]; omega)) T3 ((ev_add (ev_lenL (ev_var (i := 2) rfl)) ev_int).is (by rw [List.length_map]))
  have lf : ("abcdefghijkl : x < -999999999\n" : Str).length = 30 := by decide +kernel
  have hnew : ("abcdefghijkl" : Str) ∉ (zs.map zP).map (·.1) := by
    rw [hzn]
    intro h
    exact absurd (lastOk _ h) (by decide +kernel)
  have hst4 := hst.rule (nm := "abcdefghijkl") (by decide +kernel) hnew g_end (by decide) end_ok.2 (fun z => nomatch z) (by decide)
  have T4 := told_last (t := txtS L ++ "abcdefghijkl : x < -999999999\n") (last := "") hst4 (by rw [List.length_append]; show L.length + 1 ≤ _; omega) (by rw [len_app]; omega) (tx.snoc (end_jn "").2) (by decide +kernel)
  rw [if_pos rfl] at T4
  refine st_ret A19 (ev_callD (R := RSame 3) (d := .bl true) (ea_cons (ev_callD (R := RTold) (d := .int 0) (ea_cons (ev_addS (ev_var (i := 7) rfl) ev_str (by omega)) ea_nil) ⟨_, 0, rfl, T4, rfl⟩) (ea_cons ev_int ea_nil)) ⟨.int 0, rfl, rfl, rfl⟩) fun v d H20 e A20 r => ?_
  rw [e] at r
  cases (show v = .bl true from r)
  exact kq H20
end
end
/-! ### what the top has written; the law's own head -/
theorem all_mk {l : PySem.W.OpenLaw} {w : World} {K : PySem.W.Frag} {h : Heap} {mg : Str → Option Value} {fa : Addr} (X : K.In h) (G : h.Ns mainGlobals mg) (hfa : mg "law" = some (.ref fa))
    {f0 : Addr} {od0 an0 : Option Addr} {sl0 : Array (Option Value)} {oc0 kV0 dc0 pm0 cd0 ct0 : Value} {f1 : Addr} {od1 an1 : Option Addr} {sl1 : Array (Option Value)} {oc1 kV1 dc1 pm1 cd1 ct1 : Value} {f2 : Addr} {od2 an2 : Option Addr} {sl2 : Array (Option Value)} {oc2 kV2 dc2 pm2 cd2 ct2 : Value} {f3 : Addr} {od3 an3 : Option Addr} {sl3 : Array (Option Value)} {oc3 kV3 dc3 pm3 cd3 ct3 : Value} {f4 : Addr} {od4 an4 : Option Addr} {sl4 : Array (Option Value)} {oc4 kV4 dc4 pm4 cd4 ct4 : Value} {f5 : Addr} {od5 an5 : Option Addr} {sl5 : Array (Option Value)} {oc5 kV5 dc5 pm5 cd5 ct5 : Value} {f6 : Addr} {od6 an6 : Option Addr} {sl6 : Array (Option Value)} {oc6 kV6 dc6 pm6 cd6 ct6 : Value} {f7 : Addr} {od7 an7 : Option Addr} {sl7 : Array (Option Value)} {oc7 kV7 dc7 pm7 cd7 ct7 : Value} {f8 : Addr} {od8 an8 : Option Addr} {sl8 : Array (Option Value)} {oc8 kV8 dc8 pm8 cd8 ct8 : Value} {f9 : Addr} {od9 an9 : Option Addr} {sl9 : Array (Option Value)} {oc9 kV9 dc9 pm9 cd9 ct9 : Value} {f10 : Addr} {od10 an10 : Option Addr} {sl10 : Array (Option Value)} {oc10 kV10 dc10 pm10 cd10 ct10 : Value} {f11 : Addr} {od11 an11 : Option Addr} {sl11 : Array (Option Value)} {oc11 kV11 dc11 pm11 cd11 ct11 : Value} {f12 : Addr} {od12 an12 : Option Addr} {sl12 : Array (Option Value)} {oc12 kV12 dc12 pm12 cd12 ct12 : Value} {f13 : Addr} {od13 an13 : Option Addr} {sl13 : Array (Option Value)} {oc13 kV13 dc13 pm13 cd13 ct13 : Value} {f14 : Addr} {od14 an14 : Option Addr} {sl14 : Array (Option Value)} {oc14 kV14 dc14 pm14 cd14 ct14 : Value} {t_DIGITS_rules : Tok} {t_MOST_NEST : Tok} {t_LETTERS : Tok} {t_DIGITS_networks : Tok} {c_InvalidLine fI_InvalidLine cc_InvalidLine cda_InvalidLine : Addr} {oc_InvalidLine : Value} {od_InvalidLine an_InvalidLine : Option Addr} {kV_InvalidLine dc_InvalidLine pm_InvalidLine ct_InvalidLine : Value} {sl_InvalidLine : Array (Option Value)} {ccl_InvalidLine : Value} {cdd_InvalidLine : Option Addr} {vs_InvalidLine : Array Value} {ccs_InvalidLine : Array (Option Value)} {file_InvalidLine : Str} {tf_InvalidLine : Tok} {cl_InvalidLine : Value} {cld_InvalidLine : Option Addr} {csl_InvalidLine : Array (Option Value)} {a_FIELDS : Addr} {oy_FIELDS : Option Addr} {ny_FIELDS : Nat} {sy_FIELDS : Array (Option Value)} {ty_FIELDS_0 : Tok} {ty_FIELDS_1 : Tok} {ty_FIELDS_2 : Tok} {ty_FIELDS_3 : Tok} {ty_FIELDS_4 : Tok} {ty_FIELDS_5 : Tok} {a_SIGNS : Addr} {oy_SIGNS : Option Addr} {ny_SIGNS : Nat} {sy_SIGNS : Array (Option Value)} {ty_SIGNS_0 : Tok} {ty_SIGNS_1 : Tok} {ty_SIGNS_2 : Tok} {ty_SIGNS_3 : Tok} {ty_SIGNS_4 : Tok} {ty_SIGNS_5 : Tok} {C_Reader : Addr} {f_Reader___init__ : Addr} {od_Reader___init__ an_Reader___init__ : Option Addr} {sl_Reader___init__ : Array (Option Value)} {oc_Reader___init__ kV_Reader___init__ dc_Reader___init__ pm_Reader___init__ cd_Reader___init__ ct_Reader___init__ : Value} {f_Reader_next_word : Addr} {od_Reader_next_word an_Reader_next_word : Option Addr} {sl_Reader_next_word : Array (Option Value)} {oc_Reader_next_word kV_Reader_next_word dc_Reader_next_word pm_Reader_next_word cd_Reader_next_word ct_Reader_next_word : Value} {f_Reader_joined : Addr} {od_Reader_joined an_Reader_joined : Option Addr} {sl_Reader_joined : Array (Option Value)} {oc_Reader_joined kV_Reader_joined dc_Reader_joined pm_Reader_joined cd_Reader_joined ct_Reader_joined : Value} {f_Reader_part : Addr} {od_Reader_part an_Reader_part : Option Addr} {sl_Reader_part : Array (Option Value)} {oc_Reader_part kV_Reader_part dc_Reader_part pm_Reader_part cd_Reader_part ct_Reader_part : Value} {f_Reader_single : Addr} {od_Reader_single an_Reader_single : Option Addr} {sl_Reader_single : Array (Option Value)} {oc_Reader_single kV_Reader_single dc_Reader_single pm_Reader_single cd_Reader_single ct_Reader_single : Value} {f_Reader_comparison : Addr} {od_Reader_comparison an_Reader_comparison : Option Addr} {sl_Reader_comparison : Array (Option Value)} {oc_Reader_comparison kV_Reader_comparison dc_Reader_comparison pm_Reader_comparison cd_Reader_comparison ct_Reader_comparison : Value} {C_Rules : Addr} {f_Rules___init__ : Addr} {od_Rules___init__ an_Rules___init__ : Option Addr} {sl_Rules___init__ : Array (Option Value)} {oc_Rules___init__ kV_Rules___init__ dc_Rules___init__ pm_Rules___init__ cd_Rules___init__ ct_Rules___init__ : Value} {f_Rules_take : Addr} {od_Rules_take an_Rules_take : Option Addr} {sl_Rules_take : Array (Option Value)} {oc_Rules_take kV_Rules_take dc_Rules_take pm_Rules_take cd_Rules_take ct_Rules_take : Value} {f_Rules_names : Addr} {od_Rules_names an_Rules_names : Option Addr} {sl_Rules_names : Array (Option Value)} {oc_Rules_names kV_Rules_names dc_Rules_names pm_Rules_names cd_Rules_names ct_Rules_names : Value} {f_Rules_broken : Addr} {od_Rules_broken an_Rules_broken : Option Addr} {sl_Rules_broken : Array (Option Value)} {oc_Rules_broken kV_Rules_broken dc_Rules_broken pm_Rules_broken cd_Rules_broken ct_Rules_broken : Value}
    (a0 : PySem.W.nsIn K mainGlobals "is_name" = some (some (.ref f0))) (l0 : K.lookup f0 = some ⟨oc0, od0, .func (PySem.W.fnOf "is_name" "is_name" (defArgs s_is_name) (defBody s_is_name) (defScope s_is_name) .none kV0 dc0 pm0 an0 cd0 ct0), sl0⟩) (c0 : PySem.W.codeIn K cd0 "is_name" = true) (k0 : PySem.W.keepIn K (.ref f0) = true) (a1 : PySem.W.nsIn K mainGlobals "read_number" = some (some (.ref f1))) (l1 : K.lookup f1 = some ⟨oc1, od1, .func (PySem.W.fnOf "read_number" "read_number" (defArgs s_read_number) (defBody s_read_number) (defScope s_read_number) .none kV1 dc1 pm1 an1 cd1 ct1), sl1⟩) (c1 : PySem.W.codeIn K cd1 "read_number" = true) (k1 : PySem.W.keepIn K (.ref f1) = true) (a2 : PySem.W.nsIn K mainGlobals "read_condition" = some (some (.ref f2))) (l2 : K.lookup f2 = some ⟨oc2, od2, .func (PySem.W.fnOf "read_condition" "read_condition" (defArgs s_read_condition) (defBody s_read_condition) (defScope s_read_condition) .none kV2 dc2 pm2 an2 cd2 ct2), sl2⟩) (c2 : PySem.W.codeIn K cd2 "read_condition" = true) (k2 : PySem.W.keepIn K (.ref f2) = true) (a3 : PySem.W.nsIn K mainGlobals "values_of" = some (some (.ref f3))) (l3 : K.lookup f3 = some ⟨oc3, od3, .func (PySem.W.fnOf "values_of" "values_of" (defArgs s_values_of) (defBody s_values_of) (defScope s_values_of) .none kV3 dc3 pm3 an3 cd3 ct3), sl3⟩) (c3 : PySem.W.codeIn K cd3 "values_of" = true) (k3 : PySem.W.keepIn K (.ref f3) = true) (a4 : PySem.W.nsIn K mainGlobals "compare" = some (some (.ref f4))) (l4 : K.lookup f4 = some ⟨oc4, od4, .func (PySem.W.fnOf "compare" "compare" (defArgs s_compare) (defBody s_compare) (defScope s_compare) .none kV4 dc4 pm4 an4 cd4 ct4), sl4⟩) (c4 : PySem.W.codeIn K cd4 "compare" = true) (k4 : PySem.W.keepIn K (.ref f4) = true) (a5 : PySem.W.nsIn K mainGlobals "is_true" = some (some (.ref f5))) (l5 : K.lookup f5 = some ⟨oc5, od5, .func (PySem.W.fnOf "is_true" "is_true" (defArgs s_is_true) (defBody s_is_true) (defScope s_is_true) .none kV5 dc5 pm5 an5 cd5 ct5), sl5⟩) (c5 : PySem.W.codeIn K cd5 "is_true" = true) (k5 : PySem.W.keepIn K (.ref f5) = true) (a6 : PySem.W.nsIn K mainGlobals "_law_same" = some (some (.ref f6))) (l6 : K.lookup f6 = some ⟨oc6, od6, .func (PySem.W.fnOf "_law_same" "_law_same" (defArgs s__law_same) (defBody s__law_same) (defScope s__law_same) .none kV6 dc6 pm6 an6 cd6 ct6), sl6⟩) (c6 : PySem.W.codeIn K cd6 "_law_same" = true) (k6 : PySem.W.keepIn K (.ref f6) = true) (a7 : PySem.W.nsIn K mainGlobals "_law_pool" = some (some (.ref f7))) (l7 : K.lookup f7 = some ⟨oc7, od7, .func (PySem.W.fnOf "_law_pool" "_law_pool" (defArgs s__law_pool) (defBody s__law_pool) (defScope s__law_pool) .none kV7 dc7 pm7 an7 cd7 ct7), sl7⟩) (c7 : PySem.W.codeIn K cd7 "_law_pool" = true) (k7 : PySem.W.keepIn K (.ref f7) = true) (a8 : PySem.W.nsIn K mainGlobals "_law_spread" = some (some (.ref f8))) (l8 : K.lookup f8 = some ⟨oc8, od8, .func (PySem.W.fnOf "_law_spread" "_law_spread" (defArgs s__law_spread) (defBody s__law_spread) (defScope s__law_spread) .none kV8 dc8 pm8 an8 cd8 ct8), sl8⟩) (c8 : PySem.W.codeIn K cd8 "_law_spread" = true) (k8 : PySem.W.keepIn K (.ref f8) = true) (a9 : PySem.W.nsIn K mainGlobals "_law_draw" = some (some (.ref f9))) (l9 : K.lookup f9 = some ⟨oc9, od9, .func (PySem.W.fnOf "_law_draw" "_law_draw" (defArgs s__law_draw) (defBody s__law_draw) (defScope s__law_draw) .none kV9 dc9 pm9 an9 cd9 ct9), sl9⟩) (c9 : PySem.W.codeIn K cd9 "_law_draw" = true) (k9 : PySem.W.keepIn K (.ref f9) = true) (a10 : PySem.W.nsIn K mainGlobals "_law_condition" = some (some (.ref f10))) (l10 : K.lookup f10 = some ⟨oc10, od10, .func (PySem.W.fnOf "_law_condition" "_law_condition" (defArgs s__law_condition) (defBody s__law_condition) (defScope s__law_condition) .none kV10 dc10 pm10 an10 cd10 ct10), sl10⟩) (c10 : PySem.W.codeIn K cd10 "_law_condition" = true) (k10 : PySem.W.keepIn K (.ref f10) = true) (a11 : PySem.W.nsIn K mainGlobals "_law_show" = some (some (.ref f11))) (l11 : K.lookup f11 = some ⟨oc11, od11, .func (PySem.W.fnOf "_law_show" "_law_show" (defArgs s__law_show) (defBody s__law_show) (defScope s__law_show) .none kV11 dc11 pm11 an11 cd11 ct11), sl11⟩) (c11 : PySem.W.codeIn K cd11 "_law_show" = true) (k11 : PySem.W.keepIn K (.ref f11) = true) (a12 : PySem.W.nsIn K mainGlobals "_law_some_rules" = some (some (.ref f12))) (l12 : K.lookup f12 = some ⟨oc12, od12, .func (PySem.W.fnOf "_law_some_rules" "_law_some_rules" (defArgs s__law_some_rules) (defBody s__law_some_rules) (defScope s__law_some_rules) .none kV12 dc12 pm12 an12 cd12 ct12), sl12⟩) (c12 : PySem.W.codeIn K cd12 "_law_some_rules" = true) (k12 : PySem.W.keepIn K (.ref f12) = true) (a13 : PySem.W.nsIn K mainGlobals "_law_told" = some (some (.ref f13))) (l13 : K.lookup f13 = some ⟨oc13, od13, .func (PySem.W.fnOf "_law_told" "_law_told" (defArgs s__law_told) (defBody s__law_told) (defScope s__law_told) .none kV13 dc13 pm13 an13 cd13 ct13), sl13⟩) (c13 : PySem.W.codeIn K cd13 "_law_told" = true) (k13 : PySem.W.keepIn K (.ref f13) = true) (a14 : PySem.W.nsIn K mainGlobals "law" = some (some (.ref f14))) (l14 : K.lookup f14 = some ⟨oc14, od14, .func (PySem.W.fnOf "law" "law" (defArgs s_law) (defBody s_law) (defScope s_law) .none kV14 dc14 pm14 an14 cd14 ct14), sl14⟩) (c14 : PySem.W.codeIn K cd14 "law" = true) (k14 : PySem.W.keepIn K (.ref f14) = true) (z_len : PySem.W.nsIn K mainGlobals "len" = some none) (z_range : PySem.W.nsIn K mainGlobals "range" = some none) (z_isinstance : PySem.W.nsIn K mainGlobals "isinstance" = some none) (z_int : PySem.W.nsIn K mainGlobals "int" = some none) (z_str : PySem.W.nsIn K mainGlobals "str" = some none) (z_bool : PySem.W.nsIn K mainGlobals "bool" = some none) (z_list : PySem.W.nsIn K mainGlobals "list" = some none) (z_tuple : PySem.W.nsIn K mainGlobals "tuple" = some none) (z_dict : PySem.W.nsIn K mainGlobals "dict" = some none) (z_sum : PySem.W.nsIn K mainGlobals "sum" = some none) (z_max : PySem.W.nsIn K mainGlobals "max" = some none) (z_min : PySem.W.nsIn K mainGlobals "min" = some none) (z_abs : PySem.W.nsIn K mainGlobals "abs" = some none) (z_sorted : PySem.W.nsIn K mainGlobals "sorted" = some none) (z_enumerate : PySem.W.nsIn K mainGlobals "enumerate" = some none) (z_zip : PySem.W.nsIn K mainGlobals "zip" = some none) (z_set : PySem.W.nsIn K mainGlobals "set" = some none) (y_DIGITS_rules : PySem.W.nsIn K mainGlobals "DIGITS_rules" = some (some (.str "0123456789" t_DIGITS_rules))) (y_MOST_NEST : PySem.W.nsIn K mainGlobals "MOST_NEST" = some (some (.int (40) t_MOST_NEST))) (y_LETTERS : PySem.W.nsIn K mainGlobals "LETTERS" = some (some (.str "abcdefghijklmnopqrstuvwxyz" t_LETTERS))) (y_DIGITS_networks : PySem.W.nsIn K mainGlobals "DIGITS_networks" = some (some (.str "0123456789" t_DIGITS_networks))) (y_all : PySem.W.nsIn K mainGlobals "all" = some none) (y_any : PySem.W.nsIn K mainGlobals "any" = some none) (xa_InvalidLine : PySem.W.nsIn K mainGlobals "InvalidLine" = some (some (.ref c_InvalidLine))) (xi_InvalidLine : PySem.W.findIn K (.ref c_InvalidLine) "__init__" = some (some (.ref fI_InvalidLine))) (xl_InvalidLine : K.lookup fI_InvalidLine = some ⟨oc_InvalidLine, od_InvalidLine, .func (PySem.W.ksFn "__init__" "InvalidLine.__init__" (defArgs s_InvalidLine___init__) (defBody s_InvalidLine___init__) (defScope s_InvalidLine___init__) .none kV_InvalidLine dc_InvalidLine pm_InvalidLine an_InvalidLine (.ref cda_InvalidLine) ct_InvalidLine cc_InvalidLine), sl_InvalidLine⟩) (xc_InvalidLine : PySem.W.codeIn K (.ref cda_InvalidLine) "InvalidLine.__init__" = true) (xd_InvalidLine : K.lookup cda_InvalidLine = some ⟨ccl_InvalidLine, cdd_InvalidLine, .fields vs_InvalidLine, ccs_InvalidLine⟩) (kf1_InvalidLine : vs_InvalidLine[2]? = some (.str file_InvalidLine tf_InvalidLine)) (kr1_InvalidLine : ((l.prog.main.file : Str) == file_InvalidLine) = true) (xe_InvalidLine : K.lookup cc_InvalidLine = some ⟨cl_InvalidLine, cld_InvalidLine, .cell (some (.ref c_InvalidLine)), csl_InvalidLine⟩) (xf_InvalidLine : PySem.W.isClsIn K c_InvalidLine = true) (xm_InvalidLine : PySem.W.mroIn K c_InvalidLine (.ref c_InvalidLine) = some true) (kr2_InvalidLine : (l.prog.main.scope.names.lookup ("super" : Str)).isSome = false) (kr3_InvalidLine : PySem.W.ks_superIn K c_InvalidLine c_InvalidLine "__init__" = some (some (.builtin "ValueError.__init__"))) (xn_InvalidLine : PySem.W.nsIn K cStatics "thirdparty.any" = some none) (xv_InvalidLine : PySem.W.subIn K (.ref c_InvalidLine) (.type "ValueError") = some true) (kr4_InvalidLine : oexIn K c_InvalidLine = true) (xsa_InvalidLine : PySem.W.findIn K (.ref c_InvalidLine) "__setattr__" = some (some (.builtin "object.__setattr__"))) (xs_InvalidLine : PySem.W.subIn K (.ref c_InvalidLine) (.type "BaseException") = some true) (xt_InvalidLine : PySem.W.typeIn K (.ref c_InvalidLine) = some (.type "type")) (xk_InvalidLine : PySem.W.keepIn K (.ref c_InvalidLine) = true) (xti_InvalidLine : PySem.W.typeIn K (.ref fI_InvalidLine) = some (.type "function")) (xnl_InvalidLine : PySem.W.findIn K (.ref c_InvalidLine) "line" = some none) (xga_InvalidLine : PySem.W.findIn K (.ref c_InvalidLine) "__getattribute__" = some (some (.builtin "BaseException.__getattribute__"))) (xgg_InvalidLine : PySem.W.findIn K (.ref c_InvalidLine) "__getattr__" = some none) (xhd_InvalidLine : PySem.W.hasDictIn K c_InvalidLine = true) (xz_InvalidLine : PySem.W.nsIn K mainGlobals "super" = some none) (xy_InvalidLine : PySem.W.subIn K (.ref c_InvalidLine) (.ref c_InvalidLine) = some true) (ya_FIELDS : PySem.W.nsIn K mainGlobals "FIELDS" = some (some (.ref a_FIELDS))) (yl_FIELDS : K.lookup a_FIELDS = some ⟨.type "tuple", oy_FIELDS, .seq #[.str "power" ty_FIELDS_0, .str "megahertz" ty_FIELDS_1, .str "mast" ty_FIELDS_2, .str "x" ty_FIELDS_3, .str "y" ty_FIELDS_4, .str "gain" ty_FIELDS_5] ny_FIELDS, sy_FIELDS⟩) (ya_SIGNS : PySem.W.nsIn K mainGlobals "SIGNS" = some (some (.ref a_SIGNS))) (yl_SIGNS : K.lookup a_SIGNS = some ⟨.type "tuple", oy_SIGNS, .seq #[.str "<" ty_SIGNS_0, .str "<=" ty_SIGNS_1, .str "=" ty_SIGNS_2, .str ">=" ty_SIGNS_3, .str ">" ty_SIGNS_4, .str "!=" ty_SIGNS_5] ny_SIGNS, sy_SIGNS⟩) (qa_Reader : PySem.W.nsIn K mainGlobals "Reader" = some (some (.ref C_Reader))) (qpg_Reader : PySem.W.plainGet K C_Reader Str.empty = true) (qhd_Reader : PySem.W.hasDictIn K C_Reader = true) (qpo_Reader : PySem.W.plainOver K C_Reader = true) (qsa_Reader : PySem.W.findIn K (.ref C_Reader) "__setattr__" = some (some (.builtin "object.__setattr__"))) (qmk_Reader : PySem.W.makesIn K C_Reader = true) (qkc_Reader : PySem.W.keepIn K (.ref C_Reader) = true) (qn_Reader_words : PySem.W.findIn K (.ref C_Reader) "words" = some none) (qn_Reader_at : PySem.W.findIn K (.ref C_Reader) "at" = some none) (ma_Reader___init__ : PySem.W.findIn K (.ref C_Reader) "__init__" = some (some (.ref f_Reader___init__))) (mi_Reader___init__ : PySem.W.isFn K (.ref f_Reader___init__) = true) (ml_Reader___init__ : K.lookup f_Reader___init__ = some ⟨oc_Reader___init__, od_Reader___init__, .func (PySem.W.fnOf "__init__" "Reader.__init__" (defArgs s_Reader___init__) (defBody s_Reader___init__) (defScope s_Reader___init__) .none kV_Reader___init__ dc_Reader___init__ pm_Reader___init__ an_Reader___init__ cd_Reader___init__ ct_Reader___init__), sl_Reader___init__⟩) (mc_Reader___init__ : PySem.W.codeIn K cd_Reader___init__ "Reader.__init__" = true) (mk_Reader___init__ : PySem.W.keepIn K (.ref f_Reader___init__) = true) (ma_Reader_next_word : PySem.W.findIn K (.ref C_Reader) "next_word" = some (some (.ref f_Reader_next_word))) (mi_Reader_next_word : PySem.W.isFn K (.ref f_Reader_next_word) = true) (ml_Reader_next_word : K.lookup f_Reader_next_word = some ⟨oc_Reader_next_word, od_Reader_next_word, .func (PySem.W.fnOf "next_word" "Reader.next_word" (defArgs s_Reader_next_word) (defBody s_Reader_next_word) (defScope s_Reader_next_word) .none kV_Reader_next_word dc_Reader_next_word pm_Reader_next_word an_Reader_next_word cd_Reader_next_word ct_Reader_next_word), sl_Reader_next_word⟩) (mc_Reader_next_word : PySem.W.codeIn K cd_Reader_next_word "Reader.next_word" = true) (mk_Reader_next_word : PySem.W.keepIn K (.ref f_Reader_next_word) = true) (ma_Reader_joined : PySem.W.findIn K (.ref C_Reader) "joined" = some (some (.ref f_Reader_joined))) (mi_Reader_joined : PySem.W.isFn K (.ref f_Reader_joined) = true) (ml_Reader_joined : K.lookup f_Reader_joined = some ⟨oc_Reader_joined, od_Reader_joined, .func (PySem.W.fnOf "joined" "Reader.joined" (defArgs s_Reader_joined) (defBody s_Reader_joined) (defScope s_Reader_joined) .none kV_Reader_joined dc_Reader_joined pm_Reader_joined an_Reader_joined cd_Reader_joined ct_Reader_joined), sl_Reader_joined⟩) (mc_Reader_joined : PySem.W.codeIn K cd_Reader_joined "Reader.joined" = true) (mk_Reader_joined : PySem.W.keepIn K (.ref f_Reader_joined) = true) (ma_Reader_part : PySem.W.findIn K (.ref C_Reader) "part" = some (some (.ref f_Reader_part))) (mi_Reader_part : PySem.W.isFn K (.ref f_Reader_part) = true) (ml_Reader_part : K.lookup f_Reader_part = some ⟨oc_Reader_part, od_Reader_part, .func (PySem.W.fnOf "part" "Reader.part" (defArgs s_Reader_part) (defBody s_Reader_part) (defScope s_Reader_part) .none kV_Reader_part dc_Reader_part pm_Reader_part an_Reader_part cd_Reader_part ct_Reader_part), sl_Reader_part⟩) (mc_Reader_part : PySem.W.codeIn K cd_Reader_part "Reader.part" = true) (mk_Reader_part : PySem.W.keepIn K (.ref f_Reader_part) = true) (ma_Reader_single : PySem.W.findIn K (.ref C_Reader) "single" = some (some (.ref f_Reader_single))) (mi_Reader_single : PySem.W.isFn K (.ref f_Reader_single) = true) (ml_Reader_single : K.lookup f_Reader_single = some ⟨oc_Reader_single, od_Reader_single, .func (PySem.W.fnOf "single" "Reader.single" (defArgs s_Reader_single) (defBody s_Reader_single) (defScope s_Reader_single) .none kV_Reader_single dc_Reader_single pm_Reader_single an_Reader_single cd_Reader_single ct_Reader_single), sl_Reader_single⟩) (mc_Reader_single : PySem.W.codeIn K cd_Reader_single "Reader.single" = true) (mk_Reader_single : PySem.W.keepIn K (.ref f_Reader_single) = true) (ma_Reader_comparison : PySem.W.findIn K (.ref C_Reader) "comparison" = some (some (.ref f_Reader_comparison))) (mi_Reader_comparison : PySem.W.isFn K (.ref f_Reader_comparison) = true) (ml_Reader_comparison : K.lookup f_Reader_comparison = some ⟨oc_Reader_comparison, od_Reader_comparison, .func (PySem.W.fnOf "comparison" "Reader.comparison" (defArgs s_Reader_comparison) (defBody s_Reader_comparison) (defScope s_Reader_comparison) .none kV_Reader_comparison dc_Reader_comparison pm_Reader_comparison an_Reader_comparison cd_Reader_comparison ct_Reader_comparison), sl_Reader_comparison⟩) (mc_Reader_comparison : PySem.W.codeIn K cd_Reader_comparison "Reader.comparison" = true) (mk_Reader_comparison : PySem.W.keepIn K (.ref f_Reader_comparison) = true) (qa_Rules : PySem.W.nsIn K mainGlobals "Rules" = some (some (.ref C_Rules))) (qpg_Rules : PySem.W.plainGet K C_Rules Str.empty = true) (qhd_Rules : PySem.W.hasDictIn K C_Rules = true) (qpo_Rules : PySem.W.plainOver K C_Rules = true) (qsa_Rules : PySem.W.findIn K (.ref C_Rules) "__setattr__" = some (some (.builtin "object.__setattr__"))) (qmk_Rules : PySem.W.makesIn K C_Rules = true) (qkc_Rules : PySem.W.keepIn K (.ref C_Rules) = true) (qn_Rules_rules : PySem.W.findIn K (.ref C_Rules) "rules" = some none) (ma_Rules___init__ : PySem.W.findIn K (.ref C_Rules) "__init__" = some (some (.ref f_Rules___init__))) (mi_Rules___init__ : PySem.W.isFn K (.ref f_Rules___init__) = true) (ml_Rules___init__ : K.lookup f_Rules___init__ = some ⟨oc_Rules___init__, od_Rules___init__, .func (PySem.W.fnOf "__init__" "Rules.__init__" (defArgs s_Rules___init__) (defBody s_Rules___init__) (defScope s_Rules___init__) .none kV_Rules___init__ dc_Rules___init__ pm_Rules___init__ an_Rules___init__ cd_Rules___init__ ct_Rules___init__), sl_Rules___init__⟩) (mc_Rules___init__ : PySem.W.codeIn K cd_Rules___init__ "Rules.__init__" = true) (mk_Rules___init__ : PySem.W.keepIn K (.ref f_Rules___init__) = true) (ma_Rules_take : PySem.W.findIn K (.ref C_Rules) "take" = some (some (.ref f_Rules_take))) (mi_Rules_take : PySem.W.isFn K (.ref f_Rules_take) = true) (ml_Rules_take : K.lookup f_Rules_take = some ⟨oc_Rules_take, od_Rules_take, .func (PySem.W.fnOf "take" "Rules.take" (defArgs s_Rules_take) (defBody s_Rules_take) (defScope s_Rules_take) .none kV_Rules_take dc_Rules_take pm_Rules_take an_Rules_take cd_Rules_take ct_Rules_take), sl_Rules_take⟩) (mc_Rules_take : PySem.W.codeIn K cd_Rules_take "Rules.take" = true) (mk_Rules_take : PySem.W.keepIn K (.ref f_Rules_take) = true) (ma_Rules_names : PySem.W.findIn K (.ref C_Rules) "names" = some (some (.ref f_Rules_names))) (mi_Rules_names : PySem.W.isFn K (.ref f_Rules_names) = true) (ml_Rules_names : K.lookup f_Rules_names = some ⟨oc_Rules_names, od_Rules_names, .func (PySem.W.fnOf "names" "Rules.names" (defArgs s_Rules_names) (defBody s_Rules_names) (defScope s_Rules_names) .none kV_Rules_names dc_Rules_names pm_Rules_names an_Rules_names cd_Rules_names ct_Rules_names), sl_Rules_names⟩) (mc_Rules_names : PySem.W.codeIn K cd_Rules_names "Rules.names" = true) (mk_Rules_names : PySem.W.keepIn K (.ref f_Rules_names) = true) (ma_Rules_broken : PySem.W.findIn K (.ref C_Rules) "broken" = some (some (.ref f_Rules_broken))) (mi_Rules_broken : PySem.W.isFn K (.ref f_Rules_broken) = true) (ml_Rules_broken : K.lookup f_Rules_broken = some ⟨oc_Rules_broken, od_Rules_broken, .func (PySem.W.fnOf "broken" "Rules.broken" (defArgs s_Rules_broken) (defBody s_Rules_broken) (defScope s_Rules_broken) .none kV_Rules_broken dc_Rules_broken pm_Rules_broken an_Rules_broken cd_Rules_broken ct_Rules_broken), sl_Rules_broken⟩) (mc_Rules_broken : PySem.W.codeIn K cd_Rules_broken "Rules.broken" = true) (mk_Rules_broken : PySem.W.keepIn K (.ref f_Rules_broken) = true) :
    ∃ fd : FuncData, (∀ (s : Shared) (v : Value), BindsTo s fd ⟨[v], []⟩ [("script", v)]) ∧ ∀ base : Heap, K.In base → base.Ns mainGlobals mg → FnOk l.prog w K mg base CX0 217 fa fd ["script"] (spLaw K) := by
  have e := hfa.symm.trans (PySem.W.mg_of X G a14)
  cases e
  have F0 := fun_mk (st := s_is_name) l0 c0 k0
  have b0 := F0.binds (ps := ["value", "most"]) fun _ _ _ _ _ _ us hl => match us, hl with | [_, _], _ => rfl
  have L0 : Lk K mg "is_name" f0 _ ["value", "most"] := ⟨PySem.W.mg_of X G a0, k0, b0⟩
  have F1 := fun_mk (st := s_read_number) l1 c1 k1
  have b1 := F1.binds (ps := ["word"]) fun _ _ _ _ _ _ us hl => match us, hl with | [_], _ => rfl
  have L1 : Lk K mg "read_number" f1 _ ["word"] := ⟨PySem.W.mg_of X G a1, k1, b1⟩
  have F2 := fun_mk (st := s_read_condition) l2 c2 k2
  have b2 := F2.binds (ps := ["words"]) fun _ _ _ _ _ _ us hl => match us, hl with | [_], _ => rfl
  have L2 : Lk K mg "read_condition" f2 _ ["words"] := ⟨PySem.W.mg_of X G a2, k2, b2⟩
  have F3 := fun_mk (st := s_values_of) l3 c3 k3
  have b3 := F3.binds (ps := ["station"]) fun _ _ _ _ _ _ us hl => match us, hl with | [_], _ => rfl
  have L3 : Lk K mg "values_of" f3 _ ["station"] := ⟨PySem.W.mg_of X G a3, k3, b3⟩
  have F4 := fun_mk (st := s_compare) l4 c4 k4
  have b4 := F4.binds (ps := ["sign", "first", "second"]) fun _ _ _ _ _ _ us hl => match us, hl with | [_, _, _], _ => rfl
  have L4 : Lk K mg "compare" f4 _ ["sign", "first", "second"] := ⟨PySem.W.mg_of X G a4, k4, b4⟩
  have F5 := fun_mk (st := s_is_true) l5 c5 k5
  have b5 := F5.binds (ps := ["tree", "known"]) fun _ _ _ _ _ _ us hl => match us, hl with | [_, _], _ => rfl
  have L5 : Lk K mg "is_true" f5 _ ["tree", "known"] := ⟨PySem.W.mg_of X G a5, k5, b5⟩
  have F6 := fun_mk (st := s__law_same) l6 c6 k6
  have b6 := F6.binds (ps := ["actual", "due"]) fun _ _ _ _ _ _ us hl => match us, hl with | [_, _], _ => rfl
  have L6 : Lk K mg "_law_same" f6 _ ["actual", "due"] := ⟨PySem.W.mg_of X G a6, k6, b6⟩
  have F7 := fun_mk (st := s__law_pool) l7 c7 k7
  have b7 := F7.binds (ps := ["script"]) fun _ _ _ _ _ _ us hl => match us, hl with | [_], _ => rfl
  have L7 : Lk K mg "_law_pool" f7 _ ["script"] := ⟨PySem.W.mg_of X G a7, k7, b7⟩
  have F8 := fun_mk (st := s__law_spread) l8 c8 k8
  have b8 := F8.binds (ps := ["cell"]) fun _ _ _ _ _ _ us hl => match us, hl with | [_], _ => rfl
  have L8 : Lk K mg "_law_spread" f8 _ ["cell"] := ⟨PySem.W.mg_of X G a8, k8, b8⟩
  have F9 := fun_mk (st := s__law_draw) l9 c9 k9
  have b9 := F9.binds (ps := ["pool", "many"]) fun _ _ _ _ _ _ us hl => match us, hl with | [_, _], _ => rfl
  have L9 : Lk K mg "_law_draw" f9 _ ["pool", "many"] := ⟨PySem.W.mg_of X G a9, k9, b9⟩
  have F10 := fun_mk (st := s__law_condition) l10 c10 k10
  have b10 := F10.binds (ps := ["pool", "depth"]) fun _ _ _ _ _ _ us hl => match us, hl with | [_, _], _ => rfl
  have L10 : Lk K mg "_law_condition" f10 _ ["pool", "depth"] := ⟨PySem.W.mg_of X G a10, k10, b10⟩
  have F11 := fun_mk (st := s__law_show) l11 c11 k11
  have b11 := F11.binds (ps := ["tree", "strength"]) fun _ _ _ _ _ _ us hl => match us, hl with | [_, _], _ => rfl
  have L11 : Lk K mg "_law_show" f11 _ ["tree", "strength"] := ⟨PySem.W.mg_of X G a11, k11, b11⟩
  have F12 := fun_mk (st := s__law_some_rules) l12 c12 k12
  have b12 := F12.binds (ps := ["pool", "most"]) fun _ _ _ _ _ _ us hl => match us, hl with | [_, _], _ => rfl
  have L12 : Lk K mg "_law_some_rules" f12 _ ["pool", "most"] := ⟨PySem.W.mg_of X G a12, k12, b12⟩
  have F13 := fun_mk (st := s__law_told) l13 c13 k13
  have b13 := F13.binds (ps := ["text"]) fun _ _ _ _ _ _ us hl => match us, hl with | [_], _ => rfl
  have L13 : Lk K mg "_law_told" f13 _ ["text"] := ⟨PySem.W.mg_of X G a13, k13, b13⟩
  have F14 := fun_mk (st := s_law) l14 c14 k14
  have b14 := F14.binds (ps := ["script"]) fun _ _ _ _ _ _ us hl => match us, hl with | [_], _ => rfl
  have L14 : Lk K mg "law" fa _ ["script"] := ⟨PySem.W.mg_of X G a14, k14, b14⟩
  have B : Bi mg := ⟨PySem.W.mg_none_of X G z_len, PySem.W.mg_none_of X G z_range, PySem.W.mg_none_of X G z_isinstance, PySem.W.mg_none_of X G z_int, PySem.W.mg_none_of X G z_str, PySem.W.mg_none_of X G z_bool, PySem.W.mg_none_of X G z_list, PySem.W.mg_none_of X G z_tuple, PySem.W.mg_none_of X G z_dict, PySem.W.mg_none_of X G z_sum, PySem.W.mg_none_of X G z_max, PySem.W.mg_none_of X G z_min, PySem.W.mg_none_of X G z_abs, PySem.W.mg_none_of X G z_sorted, PySem.W.mg_none_of X G z_enumerate, PySem.W.mg_none_of X G z_zip, PySem.W.mg_none_of X G z_set⟩
  have C : Cs mg := ⟨⟨_, PySem.W.mg_of X G y_DIGITS_rules, _, rfl⟩, ⟨_, PySem.W.mg_of X G y_MOST_NEST, _, rfl⟩, ⟨_, PySem.W.mg_of X G y_LETTERS, _, rfl⟩, ⟨_, PySem.W.mg_of X G y_DIGITS_networks, _, rfl⟩, PySem.W.mg_none_of X G y_all, PySem.W.mg_none_of X G y_any⟩
  have X_InvalidLine : IL l.prog K mg c_InvalidLine fI_InvalidLine (PySem.W.ksFn "__init__" "InvalidLine.__init__" (defArgs s_InvalidLine___init__) (defBody s_InvalidLine___init__) (defScope s_InvalidLine___init__) .none kV_InvalidLine dc_InvalidLine pm_InvalidLine an_InvalidLine (.ref cda_InvalidLine) ct_InvalidLine cc_InvalidLine) cc_InvalidLine cda_InvalidLine := ⟨⟨⟨_, _, _, _, _, _, _, _, rfl, xl_InvalidLine⟩, xc_InvalidLine, ⟨_, _, _, _, _, _, xd_InvalidLine, kf1_InvalidLine, kr1_InvalidLine⟩, ⟨_, _, _, xe_InvalidLine⟩, Option.isSome_iff_exists.mp xf_InvalidLine, xm_InvalidLine, kr2_InvalidLine, kr3_InvalidLine, xn_InvalidLine, xv_InvalidLine, ⟨oex_cls kr4_InvalidLine, xsa_InvalidLine, xs_InvalidLine, xt_InvalidLine, xk_InvalidLine⟩⟩, PySem.W.mg_of X G xa_InvalidLine, xi_InvalidLine, xti_InvalidLine, Binds.all (fun us hl => match us, hl with | [_, _], _ => rfl), xnl_InvalidLine, ⟨xga_InvalidLine, xgg_InvalidLine, xs_InvalidLine, xhd_InvalidLine⟩, PySem.W.mg_none_of X G xz_InvalidLine, exm_sub xs_InvalidLine xf_InvalidLine xt_InvalidLine xy_InvalidLine⟩
  have Y_FIELDS : TStr K mg "FIELDS" a_FIELDS C_FIELDS := ⟨⟨_, PySem.W.mg_of X G ya_FIELDS, rfl⟩, ⟨_, _, _, yl_FIELDS, rfl, rfl, Nat.le_of_ble_eq_true rfl, .cons ⟨_, rfl⟩ (.cons ⟨_, rfl⟩ (.cons ⟨_, rfl⟩ (.cons ⟨_, rfl⟩ (.cons ⟨_, rfl⟩ (.cons ⟨_, rfl⟩ (.nil))))))⟩⟩
  have Y_SIGNS : TStr K mg "SIGNS" a_SIGNS C_SIGNS := ⟨⟨_, PySem.W.mg_of X G ya_SIGNS, rfl⟩, ⟨_, _, _, yl_SIGNS, rfl, rfl, Nat.le_of_ble_eq_true rfl, .cons ⟨_, rfl⟩ (.cons ⟨_, rfl⟩ (.cons ⟨_, rfl⟩ (.cons ⟨_, rfl⟩ (.cons ⟨_, rfl⟩ (.cons ⟨_, rfl⟩ (.nil))))))⟩⟩
  have T_Reader : TReader K mg C_Reader := ⟨⟨qpg_Reader, qhd_Reader, qpo_Reader, qsa_Reader⟩, qn_Reader_words, qn_Reader_at, PySem.W.mg_of X G qa_Reader⟩
  have F_Reader___init__ := fun_mk (st := s_Reader___init__) ml_Reader___init__ mc_Reader___init__ mk_Reader___init__
  have b_Reader___init__ := F_Reader___init__.binds (ps := ["self", "words"]) fun _ _ _ _ _ _ us hl => match us, hl with | [_, _], _ => rfl
  have L_Reader___init__ : LkM K C_Reader "__init__" f_Reader___init__ _ ["self", "words"] := ⟨⟨ma_Reader___init__, mi_Reader___init__, mk_Reader___init__⟩, b_Reader___init__⟩
  have M_Reader : Mk K C_Reader f_Reader___init__ := ⟨qmk_Reader, ma_Reader___init__, mi_Reader___init__, qkc_Reader⟩
  have F_Reader_next_word := fun_mk (st := s_Reader_next_word) ml_Reader_next_word mc_Reader_next_word mk_Reader_next_word
  have b_Reader_next_word := F_Reader_next_word.binds (ps := ["self"]) fun _ _ _ _ _ _ us hl => match us, hl with | [_], _ => rfl
  have L_Reader_next_word : LkM K C_Reader "next_word" f_Reader_next_word _ ["self"] := ⟨⟨ma_Reader_next_word, mi_Reader_next_word, mk_Reader_next_word⟩, b_Reader_next_word⟩
  have F_Reader_joined := fun_mk (st := s_Reader_joined) ml_Reader_joined mc_Reader_joined mk_Reader_joined
  have b_Reader_joined := F_Reader_joined.binds (ps := ["self", "word", "depth"]) fun _ _ _ _ _ _ us hl => match us, hl with | [_, _, _], _ => rfl
  have L_Reader_joined : LkM K C_Reader "joined" f_Reader_joined _ ["self", "word", "depth"] := ⟨⟨ma_Reader_joined, mi_Reader_joined, mk_Reader_joined⟩, b_Reader_joined⟩
  have F_Reader_part := fun_mk (st := s_Reader_part) ml_Reader_part mc_Reader_part mk_Reader_part
  have b_Reader_part := F_Reader_part.binds (ps := ["self", "word", "depth"]) fun _ _ _ _ _ _ us hl => match us, hl with | [_, _, _], _ => rfl
  have L_Reader_part : LkM K C_Reader "part" f_Reader_part _ ["self", "word", "depth"] := ⟨⟨ma_Reader_part, mi_Reader_part, mk_Reader_part⟩, b_Reader_part⟩
  have F_Reader_single := fun_mk (st := s_Reader_single) ml_Reader_single mc_Reader_single mk_Reader_single
  have b_Reader_single := F_Reader_single.binds (ps := ["self", "depth"]) fun _ _ _ _ _ _ us hl => match us, hl with | [_, _], _ => rfl
  have L_Reader_single : LkM K C_Reader "single" f_Reader_single _ ["self", "depth"] := ⟨⟨ma_Reader_single, mi_Reader_single, mk_Reader_single⟩, b_Reader_single⟩
  have F_Reader_comparison := fun_mk (st := s_Reader_comparison) ml_Reader_comparison mc_Reader_comparison mk_Reader_comparison
  have b_Reader_comparison := F_Reader_comparison.binds (ps := ["self"]) fun _ _ _ _ _ _ us hl => match us, hl with | [_], _ => rfl
  have L_Reader_comparison : LkM K C_Reader "comparison" f_Reader_comparison _ ["self"] := ⟨⟨ma_Reader_comparison, mi_Reader_comparison, mk_Reader_comparison⟩, b_Reader_comparison⟩
  have T_Rules : TRules K mg C_Rules := ⟨⟨qpg_Rules, qhd_Rules, qpo_Rules, qsa_Rules⟩, qn_Rules_rules, PySem.W.mg_of X G qa_Rules⟩
  have F_Rules___init__ := fun_mk (st := s_Rules___init__) ml_Rules___init__ mc_Rules___init__ mk_Rules___init__
  have b_Rules___init__ := F_Rules___init__.binds (ps := ["self", "text"]) fun _ _ _ _ _ _ us hl => match us, hl with | [_, _], _ => rfl
  have L_Rules___init__ : LkM K C_Rules "__init__" f_Rules___init__ _ ["self", "text"] := ⟨⟨ma_Rules___init__, mi_Rules___init__, mk_Rules___init__⟩, b_Rules___init__⟩
  have M_Rules : Mk K C_Rules f_Rules___init__ := ⟨qmk_Rules, ma_Rules___init__, mi_Rules___init__, qkc_Rules⟩
  have F_Rules_take := fun_mk (st := s_Rules_take) ml_Rules_take mc_Rules_take mk_Rules_take
  have b_Rules_take := F_Rules_take.binds (ps := ["self", "line", "number"]) fun _ _ _ _ _ _ us hl => match us, hl with | [_, _, _], _ => rfl
  have L_Rules_take : LkM K C_Rules "take" f_Rules_take _ ["self", "line", "number"] := ⟨⟨ma_Rules_take, mi_Rules_take, mk_Rules_take⟩, b_Rules_take⟩
  have F_Rules_names := fun_mk (st := s_Rules_names) ml_Rules_names mc_Rules_names mk_Rules_names
  have b_Rules_names := F_Rules_names.binds (ps := ["self"]) fun _ _ _ _ _ _ us hl => match us, hl with | [_], _ => rfl
  have L_Rules_names : LkM K C_Rules "names" f_Rules_names _ ["self"] := ⟨⟨ma_Rules_names, mi_Rules_names, mk_Rules_names⟩, b_Rules_names⟩
  have F_Rules_broken := fun_mk (st := s_Rules_broken) ml_Rules_broken mc_Rules_broken mk_Rules_broken
  have b_Rules_broken := F_Rules_broken.binds (ps := ["self", "station"]) fun _ _ _ _ _ _ us hl => match us, hl with | [_, _], _ => rfl
  have L_Rules_broken : LkM K C_Rules "broken" f_Rules_broken _ ["self", "station"] := ⟨⟨ma_Rules_broken, mi_Rules_broken, mk_Rules_broken⟩, b_Rules_broken⟩
  exact ⟨_, fun s v => .of_eq rfl, fun base _ _ => ok_all B C X_InvalidLine Y_FIELDS Y_SIGNS T_Reader F_Reader___init__ L_Reader___init__ M_Reader F_Reader_next_word L_Reader_next_word F_Reader_joined L_Reader_joined F_Reader_part L_Reader_part F_Reader_single L_Reader_single F_Reader_comparison L_Reader_comparison T_Rules F_Rules___init__ L_Rules___init__ M_Rules F_Rules_take L_Rules_take F_Rules_names L_Rules_names F_Rules_broken L_Rules_broken F0 L0 F1 L1 F2 L2 F3 L3 F4 L4 F5 L5 F6 L6 F7 L7 F8 L8 F9 L9 F10 L10 F11 L11 F12 L12 F13 L13 F14 L14⟩
end DL
open PySem PySem.W PyProof.Rows
set_option maxRecDepth 100000 in
set_option maxHeartbeats 0 in
theorem PySem.Challenge.cw_airwave_k51_faulty_rules_holds : PySem.Challenge.rw_airwave_k51_faulty_rules.Holds := by
  w_on; o_law; k_head; (case hw => w_witness2)
  k_fill
  refine L2.walk_of (l := PySem.Challenge.rw_airwave_k51_faulty_rules) (n := 63) (k := 217) (x := "script") (CX := fun _ => L2.CX0) (sp := fun w => DL.spLaw _) rfl (by decide) rfl ⟨rfl, by decide, by decide⟩ (fun w h Y => PySem.W.kIn_of Y) ?F (fun _ _ a ns hl _ hS => ⟨a, ns, rfl, hS, hl, fun _ => rfl⟩) (fun _ _ _ _ _ h => h)
  case F =>
    intro w mg fa h KX G hmg
    refine' DL.all_mk KX G hmg ?a0 ?l0 ?c0 ?k0 ?a1 ?l1 ?c1 ?k1 ?a2 ?l2 ?c2 ?k2 ?a3 ?l3 ?c3 ?k3 ?a4 ?l4 ?c4 ?k4 ?a5 ?l5 ?c5 ?k5 ?a6 ?l6 ?c6 ?k6 ?a7 ?l7 ?c7 ?k7 ?a8 ?l8 ?c8 ?k8 ?a9 ?l9 ?c9 ?k9 ?a10 ?l10 ?c10 ?k10 ?a11 ?l11 ?c11 ?k11 ?a12 ?l12 ?c12 ?k12 ?a13 ?l13 ?c13 ?k13 ?a14 ?l14 ?c14 ?k14 ?z_len ?z_range ?z_isinstance ?z_int ?z_str ?z_bool ?z_list ?z_tuple ?z_dict ?z_sum ?z_max ?z_min ?z_abs ?z_sorted ?z_enumerate ?z_zip ?z_set ?y_DIGITS_rules ?y_MOST_NEST ?y_LETTERS ?y_DIGITS_networks ?y_all ?y_any ?xa_InvalidLine ?xi_InvalidLine ?xl_InvalidLine ?xc_InvalidLine ?xd_InvalidLine ?kf1_InvalidLine ?kr1_InvalidLine ?xe_InvalidLine ?xf_InvalidLine ?xm_InvalidLine ?kr2_InvalidLine ?kr3_InvalidLine ?xn_InvalidLine ?xv_InvalidLine ?kr4_InvalidLine ?xsa_InvalidLine ?xs_InvalidLine ?xt_InvalidLine ?xk_InvalidLine ?xti_InvalidLine ?xnl_InvalidLine ?xga_InvalidLine ?xgg_InvalidLine ?xhd_InvalidLine ?xz_InvalidLine ?xy_InvalidLine ?ya_FIELDS ?yl_FIELDS ?ya_SIGNS ?yl_SIGNS ?qa_Reader ?qpg_Reader ?qhd_Reader ?qpo_Reader ?qsa_Reader ?qmk_Reader ?qkc_Reader ?qn_Reader_words ?qn_Reader_at ?ma_Reader___init__ ?mi_Reader___init__ ?ml_Reader___init__ ?mc_Reader___init__ ?mk_Reader___init__ ?ma_Reader_next_word ?mi_Reader_next_word ?ml_Reader_next_word ?mc_Reader_next_word ?mk_Reader_next_word ?ma_Reader_joined ?mi_Reader_joined ?ml_Reader_joined ?mc_Reader_joined ?mk_Reader_joined ?ma_Reader_part ?mi_Reader_part ?ml_Reader_part ?mc_Reader_part ?mk_Reader_part ?ma_Reader_single ?mi_Reader_single ?ml_Reader_single ?mc_Reader_single ?mk_Reader_single ?ma_Reader_comparison ?mi_Reader_comparison ?ml_Reader_comparison ?mc_Reader_comparison ?mk_Reader_comparison ?qa_Rules ?qpg_Rules ?qhd_Rules ?qpo_Rules ?qsa_Rules ?qmk_Rules ?qkc_Rules ?qn_Rules_rules ?ma_Rules___init__ ?mi_Rules___init__ ?ml_Rules___init__ ?mc_Rules___init__ ?mk_Rules___init__ ?ma_Rules_take ?mi_Rules_take ?ml_Rules_take ?mc_Rules_take ?mk_Rules_take ?ma_Rules_names ?mi_Rules_names ?ml_Rules_names ?mc_Rules_names ?mk_Rules_names ?ma_Rules_broken ?mi_Rules_broken ?ml_Rules_broken ?mc_Rules_broken ?mk_Rules_broken
    (case a0 => k_is); (case l0 => k_is); (case c0 => k_is); (case k0 => k_is); (case a1 => k_is); (case l1 => k_is); (case c1 => k_is); (case k1 => k_is); (case a2 => k_is); (case l2 => k_is); (case c2 => k_is); (case k2 => k_is); (case a3 => k_is); (case l3 => k_is); (case c3 => k_is); (case k3 => k_is); (case a4 => k_is); (case l4 => k_is); (case c4 => k_is); (case k4 => k_is); (case a5 => k_is); (case l5 => k_is); (case c5 => k_is); (case k5 => k_is); (case a6 => k_is); (case l6 => k_is); (case c6 => k_is); (case k6 => k_is); (case a7 => k_is); (case l7 => k_is); (case c7 => k_is); (case k7 => k_is); (case a8 => k_is); (case l8 => k_is); (case c8 => k_is); (case k8 => k_is); (case a9 => k_is); (case l9 => k_is); (case c9 => k_is); (case k9 => k_is); (case a10 => k_is); (case l10 => k_is); (case c10 => k_is); (case k10 => k_is); (case a11 => k_is); (case l11 => k_is); (case c11 => k_is); (case k11 => k_is); (case a12 => k_is); (case l12 => k_is); (case c12 => k_is); (case k12 => k_is); (case a13 => k_is); (case l13 => k_is); (case c13 => k_is); (case k13 => k_is); (case a14 => k_is); (case l14 => k_is); (case c14 => k_is); (case k14 => k_is); (case z_len => k_is); (case z_range => k_is); (case z_isinstance => k_is); (case z_int => k_is); (case z_str => k_is); (case z_bool => k_is); (case z_list => k_is); (case z_tuple => k_is); (case z_dict => k_is); (case z_sum => k_is); (case z_max => k_is); (case z_min => k_is); (case z_abs => k_is); (case z_sorted => k_is); (case z_enumerate => k_is); (case z_zip => k_is); (case z_set => k_is); (case y_DIGITS_rules => k_is); (case y_MOST_NEST => k_is); (case y_LETTERS => k_is); (case y_DIGITS_networks => k_is); (case y_all => k_is); (case y_any => k_is); (case xa_InvalidLine => k_is); (case xi_InvalidLine => k_is); (case xl_InvalidLine => k_is); (case xc_InvalidLine => k_is); (case xd_InvalidLine => k_is); (case kf1_InvalidLine => rfl); (case kr1_InvalidLine => kernel_rfl); (case xe_InvalidLine => k_is); (case xf_InvalidLine => k_is); (case xm_InvalidLine => k_is); (case kr2_InvalidLine => kernel_rfl); (case kr3_InvalidLine => kernel_rfl); (case xn_InvalidLine => k_is); (case xv_InvalidLine => k_is); (case kr4_InvalidLine => kernel_rfl); (case xsa_InvalidLine => k_is); (case xs_InvalidLine => k_is); (case xt_InvalidLine => k_is); (case xk_InvalidLine => k_is); (case xti_InvalidLine => k_is); (case xnl_InvalidLine => k_is); (case xga_InvalidLine => k_is); (case xgg_InvalidLine => k_is); (case xhd_InvalidLine => k_is); (case xz_InvalidLine => k_is); (case xy_InvalidLine => k_is); (case ya_FIELDS => k_is); (case yl_FIELDS => k_is); (case ya_SIGNS => k_is); (case yl_SIGNS => k_is); (case qa_Reader => k_is); (case qpg_Reader => k_is); (case qhd_Reader => k_is); (case qpo_Reader => k_is); (case qsa_Reader => k_is); (case qmk_Reader => k_is); (case qkc_Reader => k_is); (case qn_Reader_words => k_is); (case qn_Reader_at => k_is); (case ma_Reader___init__ => k_is); (case mi_Reader___init__ => k_is); (case ml_Reader___init__ => k_is); (case mc_Reader___init__ => k_is); (case mk_Reader___init__ => k_is); (case ma_Reader_next_word => k_is); (case mi_Reader_next_word => k_is); (case ml_Reader_next_word => k_is); (case mc_Reader_next_word => k_is); (case mk_Reader_next_word => k_is); (case ma_Reader_joined => k_is); (case mi_Reader_joined => k_is); (case ml_Reader_joined => k_is); (case mc_Reader_joined => k_is); (case mk_Reader_joined => k_is); (case ma_Reader_part => k_is); (case mi_Reader_part => k_is); (case ml_Reader_part => k_is); (case mc_Reader_part => k_is); (case mk_Reader_part => k_is); (case ma_Reader_single => k_is); (case mi_Reader_single => k_is); (case ml_Reader_single => k_is); (case mc_Reader_single => k_is); (case mk_Reader_single => k_is); (case ma_Reader_comparison => k_is); (case mi_Reader_comparison => k_is); (case ml_Reader_comparison => k_is); (case mc_Reader_comparison => k_is); (case mk_Reader_comparison => k_is); (case qa_Rules => k_is); (case qpg_Rules => k_is); (case qhd_Rules => k_is); (case qpo_Rules => k_is); (case qsa_Rules => k_is); (case qmk_Rules => k_is); (case qkc_Rules => k_is); (case qn_Rules_rules => k_is); (case ma_Rules___init__ => k_is); (case mi_Rules___init__ => k_is); (case ml_Rules___init__ => k_is); (case mc_Rules___init__ => k_is); (case mk_Rules___init__ => k_is); (case ma_Rules_take => k_is); (case mi_Rules_take => k_is); (case ml_Rules_take => k_is); (case mc_Rules_take => k_is); (case mk_Rules_take => k_is); (case ma_Rules_names => k_is); (case mi_Rules_names => k_is); (case ml_Rules_names => k_is); (case mc_Rules_names => k_is); (case mk_Rules_names => k_is); (case ma_Rules_broken => k_is); (case mi_Rules_broken => k_is); (case ml_Rules_broken => k_is); (case mc_Rules_broken => k_is); (case mk_Rules_broken => k_is)
#print axioms PySem.Challenge.cw_airwave_k51_faulty_rules_holds
