import PyProof.Rows.All
import Wide.All
import OpenK.AllK
import Wide.FinOn
import HandS.ForMost
import HandS.IsInst
import HandS.Wide
import HandS.Gcd
import HandS.Deep
import HandS.TupAny
import HandS.Zip
import HandS.Codes
import KE.GoesEnumKw
import HandS.SortKw
import HandS.Exc
import HandS.ExcOwn
import HandS.TryOnly
import HandS.WordsExc
import HandS.TupMul
import HandS.Dict
import HandS.SortOrd
import HandS.SortRule
import HandS.SortInts
import HandS.DictTup
import HandS.More
import KE.KDictCopyH
import KE.KDictWalk
import KE.KDictExact
import HandS.DictComp
import HandS.TupLe
import HandS.Conv
import KE.SortData
import KE.DataMinMax
import KE.DatumOrd
import HandS.Iter
import KE.KDictDisplayH
import HandS.Comp
import HandS.Text
import HandS.Steps
import HandS.StrMore
import HandS.FStr
import HandS.Style
import PyProof.StrOps2
import KE.KRevSl
import HandS.Lambda
import HandS.FromBytesMap
import KE.KMinKey
import HandS.TryMany
import HandS.EndTab
import KE.KNestM
import KE.KLam
import PySem.Challenge.RW_airwave_k47_whole_grades
set_option Elab.async false
set_option linter.all false
set_option maxRecDepth 100000
/-! DL: a layer of data. D: trees of values; Rep: a value stands for a tree; Ev..: what a reading evaluates to, by trees. -/
namespace DL
open PySem PySem.Spec PyProof.Rows L2

inductive D where
  | non | bl (b : Bool) | int (i : Int) | str (x : Str) | tup (xs : List D) | lst (xs : List D) | raw (v : V) | dk (ks : List Key) (xs : List D) | dt (ks : List (List Key)) (xs : List D)

theorem same_tr {H H' : Hp} (s : Same H H') : ∀ a, H a ≠ none → H' a ≠ none := fun a h => by
  cases e : H a with
  | none => exact absurd e h
  | some o => rw [s a o e]; exact fun z => by cases z
theorem upd_tr {H : Hp} {l : Addr} {o : HO} : ∀ a, H a ≠ none → L2.upd H l o a ≠ none := fun a h => by
  by_cases e : a = l
  · rw [e, upd_same]; exact fun z => by cases z
  · rw [upd_ne e]; exact h
/-- what φ says is kept, nothing is lost from sight -/
structure But (φ : Addr → Prop) (H H' : Hp) : Prop where
  keep : ∀ a o, φ a → H a = some o → H' a = some o
  tr : ∀ a, H a ≠ none → H' a ≠ none
theorem But.refl (φ : Addr → Prop) (H : Hp) : But φ H H := ⟨fun _ _ _ e => e, fun _ h => h⟩
theorem But.trans {φ : Addr → Prop} {H H1 H2 : Hp} (a : But φ H H1) (b : But φ H1 H2) : But φ H H2 := ⟨fun x o h e => b.keep x o h (a.keep x o h e), fun x h => b.tr x (a.tr x h)⟩
theorem But.of {φ : Addr → Prop} {H H' : Hp} (s : Same H H') : But φ H H' := ⟨fun a o _ e => s a o e, same_tr s⟩
theorem But.upd {φ : Addr → Prop} {H H' : Hp} {l : Addr} {o : HO} (b : But φ H H') (h : ¬ φ l) : But φ H (L2.upd H' l o) := ⟨fun a u p e => by
  rw [L2.upd_ne (show a ≠ l from fun z => h (z ▸ p))]
  exact b.keep a u p e, fun a h => upd_tr a (b.tr a h)⟩
theorem But.imp {φ φ' : Addr → Prop} {H H' : Hp} (b : But φ' H H') (h : ∀ a, φ a → H a ≠ none → φ' a) : But φ H H' := ⟨fun a o p e => b.keep a o (h a p (by rw [e]; exact fun z => by cases z)) e, b.tr⟩
theorem same_new {H : Hp} {p : Addr} {o : HO} (h : H p = none) : Same H (upd H p o) := fun b x e => by
  rw [upd_ne (ne_of_none e h)]
  exact e

section
variable (K : PySem.W.Frag) (φ : Addr → Prop) (H : Hp)
def WrT (a : Addr) (xs : List V) : Prop := ∃ (o : Obj) (its : Array Value) (n : Nat), K.lookup a = some o ∧ o.cls = .type "tuple" ∧ o.data = .seq its n ∧ its.size ≤ sizeLine ∧ Vals xs its.toList
def WrL (a : Addr) (xs : List V) : Prop := ∃ (o : Obj) (its : Array Value) (n : Nat), K.lookup a = some o ∧ o.cls = .type "list" ∧ o.dict = none ∧ o.data = .seq its n ∧ its.size ≤ sizeLine ∧ Vals xs its.toList
def PT (a : Addr) (xs : List V) : Prop := (φ a ∧ (H a = some (.tup xs) ∨ False)) ∨ (False ∧ K.lookup a = none)
def PL (a : Addr) (xs : List V) : Prop := (φ a ∧ Rd H a (.lst xs)) ∨ WrL K a xs
mutual
def Rep : D → V → Prop
  | .non, v => v = .non
  | .bl b, v => v = .bl b
  | .int i, v => v = .int i
  | .str x, v => v = .str x
  | .tup ds, v => ∃ a vs, v = .ref a ∧ PT K φ H a vs ∧ Reps ds vs
  | .lst ds, v => ∃ a vs, v = .ref a ∧ PL K φ H a vs ∧ Reps ds vs
  | .raw w, v => v = w
  | .dk ks ds, v => ∃ a vs, v = .ref a ∧ (φ a ∧ H a = some (.dK (ks.zip vs)) ∧ ks.length = ds.length) ∧ Reps ds vs
  | .dt ks ds, v => ∃ a vs, v = .ref a ∧ (φ a ∧ H a = some (.dT (ks.zip vs)) ∧ ks.length = ds.length) ∧ Reps ds vs
def Reps : List D → List V → Prop
  | [], vs => vs = []
  | d :: ds, vs => ∃ v r, vs = v :: r ∧ Rep d v ∧ Reps ds r
end
end

section
variable {K : PySem.W.Frag} {φ φ' : Addr → Prop} {H H' : Hp} {a : Addr} {xs : List V} {ds es : List D} {d : D} {v : V} {vs ws : List V}
theorem PT.at (h : PT K φ H a xs) : φ a ∧ H a = some (.tup xs) := h.elim (fun z => ⟨z.1, z.2.elim id False.elim⟩) fun z => z.1.elim
theorem PT.sq (h : PT K φ H a xs) : SqT K H a xs := .inl (.inl h.at.2)
theorem PL.sq (h : PL K φ H a xs) : SqL K H a xs := h.elim (fun z => .inl z.2) .inr
/-- a change that keeps what Rep leans on -/
def Up (φ φ' : Addr → Prop) (H H' : Hp) : Prop := ∀ a o, φ a → H a = some o → φ' a ∧ H' a = some o
theorem Up.of (b : But φ H H') : Up φ φ H H' := fun a o p e => ⟨p, b.keep a o p e⟩
theorem Up.new {p : Addr} (h : H p = none) : Up φ (fun a => φ a ∧ a ≠ p) H H := fun a o q e => ⟨⟨q, ne_of_none e h⟩, e⟩
theorem Rd.up {u : HO} (k : Up φ φ' H H') (p : φ a) (h : Rd H a u) : φ' a ∧ Rd H' a u := by
  rcases h with h | ⟨o, h⟩
  · exact ⟨(k a _ p h).1, .inl (k a _ p h).2⟩
  · exact ⟨(k a _ p h).1, .inr ⟨o, (k a _ p h).2⟩⟩
theorem PT.up (k : Up φ φ' H H') (h : PT K φ H a xs) : PT K φ' H' a xs := .inl ⟨(k a _ h.at.1 h.at.2).1, .inl (k a _ h.at.1 h.at.2).2⟩
theorem PL.up (k : Up φ φ' H H') (h : PL K φ H a xs) : PL K φ' H' a xs := h.elim (fun z => .inl (Rd.up k z.1 z.2)) .inr
mutual
theorem Rep.up (k : Up φ φ' H H') : ∀ (d : D) (v : V), Rep K φ H d v → Rep K φ' H' d v
  | .non, _, h => h
  | .bl _, _, h => h
  | .int _, _, h => h
  | .str _, _, h => h
  | .raw _, _, h => h
  | .dk ks ds, v, h => by
    obtain ⟨a, vs, e, ⟨p, e2, hl⟩, r⟩ := (show ∃ a vs, v = .ref a ∧ (φ a ∧ H a = some (.dK (ks.zip vs)) ∧ ks.length = ds.length) ∧ Reps K φ H ds vs from h)
    exact ⟨a, vs, e, ⟨(k a _ p e2).1, (k a _ p e2).2, hl⟩, Reps.up k ds vs r⟩
  | .dt ks ds, v, h => by
    obtain ⟨a, vs, e, ⟨p, e2, hl⟩, r⟩ := (show ∃ a vs, v = .ref a ∧ (φ a ∧ H a = some (.dT (ks.zip vs)) ∧ ks.length = ds.length) ∧ Reps K φ H ds vs from h)
    exact ⟨a, vs, e, ⟨(k a _ p e2).1, (k a _ p e2).2, hl⟩, Reps.up k ds vs r⟩
  | .tup ds, v, h => by
    obtain ⟨a, vs, e, p, r⟩ := (show ∃ a vs, v = .ref a ∧ PT K φ H a vs ∧ Reps K φ H ds vs from h)
    exact ⟨a, vs, e, p.up k, Reps.up k ds vs r⟩
  | .lst ds, v, h => by
    obtain ⟨a, vs, e, p, r⟩ := (show ∃ a vs, v = .ref a ∧ PL K φ H a vs ∧ Reps K φ H ds vs from h)
    exact ⟨a, vs, e, p.up k, Reps.up k ds vs r⟩
theorem Reps.up (k : Up φ φ' H H') : ∀ (ds : List D) (vs : List V), Reps K φ H ds vs → Reps K φ' H' ds vs
  | [], _, h => h
  | d :: ds, vs, h => by
    obtain ⟨v, r, e, h1, h2⟩ := (show ∃ v r, vs = v :: r ∧ Rep K φ H d v ∧ Reps K φ H ds r from h)
    exact ⟨v, r, e, Rep.up k d v h1, Reps.up k ds r h2⟩
end
theorem Rep.mono (h : Rep K φ H d v) (b : But φ H H') : Rep K φ H' d v := Rep.up (Up.of b) d v h
theorem Reps.mono (h : Reps K φ H ds vs) (b : But φ H H') : Reps K φ H' ds vs := Reps.up (Up.of b) ds vs h
theorem Reps.length : ∀ {ds : List D} {vs : List V}, Reps K φ H ds vs → vs.length = ds.length
  | [], vs, h => by
    have e : vs = [] := h
    rw [e]
    rfl
  | d :: ds, vs, h => by
    obtain ⟨v, r, rfl, h1, h2⟩ := (show ∃ v r, vs = v :: r ∧ Rep K φ H d v ∧ Reps K φ H ds r from h)
    rw [List.length_cons, List.length_cons, Reps.length h2]
theorem Reps.nil : Reps K φ H [] [] := rfl
theorem Reps.cons (h1 : Rep K φ H d v) (h2 : Reps K φ H ds vs) : Reps K φ H (d :: ds) (v :: vs) := ⟨v, vs, rfl, h1, h2⟩
theorem Reps.get : ∀ {ds : List D} {vs : List V} {i : Nat} {d : D}, Reps K φ H ds vs → ds[i]? = some d → ∃ v, vs[i]? = some v ∧ Rep K φ H d v
  | [], vs, i, d, _, e => by simp at e
  | x :: ds, vs, i, d, h, e => by
    obtain ⟨v, r, rfl, h1, h2⟩ := (show ∃ v r, vs = v :: r ∧ Rep K φ H x v ∧ Reps K φ H ds r from h)
    cases i with
    | zero =>
      have e' : x = d := by simpa using e
      exact ⟨v, rfl, e' ▸ h1⟩
    | succ i =>
      obtain ⟨w, e1, r1⟩ := Reps.get (i := i) h2 (by simpa using e)
      exact ⟨w, by simpa using e1, r1⟩
theorem Reps.getV {i : Nat} (h : Reps K φ H ds vs) (e : vs[i]? = some v) : ∃ d, ds[i]? = some d ∧ Rep K φ H d v := by
  have hl := h.length
  obtain ⟨hi, _⟩ := List.getElem?_eq_some_iff.mp e
  obtain ⟨w, e1, r1⟩ := h.get (List.getElem?_eq_getElem (show i < ds.length by omega))
  rw [e] at e1
  cases e1
  exact ⟨_, List.getElem?_eq_getElem (show i < ds.length by omega), r1⟩
theorem Reps.append : ∀ {ds : List D} {vs : List V}, Reps K φ H ds vs → Reps K φ H es ws → Reps K φ H (ds ++ es) (vs ++ ws)
  | [], vs, h, k => by
    have e : vs = [] := h
    rw [e]
    exact k
  | d :: ds, vs, h, k => by
    obtain ⟨v, r, rfl, h1, h2⟩ := (show ∃ v r, vs = v :: r ∧ Rep K φ H d v ∧ Reps K φ H ds r from h)
    exact ⟨v, r ++ ws, rfl, h1, Reps.append h2 k⟩
theorem Reps.drop : ∀ (n : Nat) {ds : List D} {vs : List V}, Reps K φ H ds vs → Reps K φ H (ds.drop n) (vs.drop n)
  | 0, _, _, h => h
  | n + 1, [], vs, h => by
    have e : vs = [] := h
    rw [e]
    exact rfl
  | n + 1, d :: ds, vs, h => by
    obtain ⟨v, r, rfl, h1, h2⟩ := (show ∃ v r, vs = v :: r ∧ Rep K φ H d v ∧ Reps K φ H ds r from h)
    exact Reps.drop n h2
theorem Reps.take : ∀ (n : Nat) {ds : List D} {vs : List V}, Reps K φ H ds vs → Reps K φ H (ds.take n) (vs.take n)
  | 0, _, _, h => rfl
  | n + 1, [], vs, h => by
    have e : vs = [] := h
    rw [e]
    exact rfl
  | n + 1, d :: ds, vs, h => by
    obtain ⟨v, r, rfl, h1, h2⟩ := (show ∃ v r, vs = v :: r ∧ Rep K φ H d v ∧ Reps K φ H ds r from h)
    exact ⟨v, _, rfl, h1, Reps.take n h2⟩
theorem Reps.set : ∀ {ds : List D} {vs : List V} (i : Nat), Reps K φ H ds vs → Rep K φ H d v → Reps K φ H (ds.set i d) (vs.set i v)
  | [], vs, i, h, _ => by
    have e : vs = [] := h
    rw [e]
    exact rfl
  | x :: ds, vs, i, h, k => by
    obtain ⟨w, r, rfl, h1, h2⟩ := (show ∃ v r, vs = v :: r ∧ Rep K φ H x v ∧ Reps K φ H ds r from h)
    cases i with
    | zero => exact ⟨v, r, rfl, k, h2⟩
    | succ i => exact ⟨w, r.set i v, rfl, h1, Reps.set i h2 k⟩
theorem Reps.ints : ∀ {ns : List Int} {vs : List V}, Reps K φ H (ns.map D.int) vs → vs = ns.map V.int
  | [], vs, h => h
  | n :: ns, vs, h => by
    obtain ⟨v, r, rfl, h1, h2⟩ := (show ∃ v r, vs = v :: r ∧ Rep K φ H (.int n) v ∧ Reps K φ H (ns.map D.int) r from h)
    have e : v = .int n := h1
    rw [e, Reps.ints h2]
    rfl
theorem Reps.of_ints : ∀ {ns : List Int}, Reps K φ H (ns.map D.int) (ns.map V.int)
  | [] => rfl
  | n :: ns => ⟨.int n, ns.map V.int, rfl, rfl, Reps.of_ints⟩
theorem Reps.strs : ∀ {ns : List Str} {vs : List V}, Reps K φ H (ns.map D.str) vs → vs = ns.map V.str
  | [], vs, h => h
  | n :: ns, vs, h => by
    obtain ⟨v, r, rfl, h1, h2⟩ := (show ∃ v r, vs = v :: r ∧ Rep K φ H (.str n) v ∧ Reps K φ H (ns.map D.str) r from h)
    have e : v = .str n := h1
    rw [e, Reps.strs h2]
    rfl
end

/-! ### the slots -/
def SR (K : PySem.W.Frag) (φ : Addr → Prop) (H : Hp) (ρ : List (Option D)) (σ : L2.St) : Prop :=
  σ.length = ρ.length ∧ ∀ (i : Nat) (d : D), ρ[i]? = some (some d) → ∃ v, σ[i]? = some (some v) ∧ Rep K φ H d v
section
variable {K : PySem.W.Frag} {φ φ' : Addr → Prop} {H H' : Hp} {ρ ρ' : List (Option D)} {σ : L2.St} {d : D} {v : V}
theorem SR.up (k : Up φ φ' H H') (h : SR K φ H ρ σ) : SR K φ' H' ρ σ := ⟨h.1, fun i d e => by
  obtain ⟨v, e1, r⟩ := h.2 i d e
  exact ⟨v, e1, Rep.up k d v r⟩⟩
theorem SR.set (i : Nat) (h : SR K φ H ρ σ) (r : Rep K φ H d v) : SR K φ H (ρ.set i (some d)) (σ.set i (some v)) := by
  refine ⟨by rw [List.length_set, List.length_set]; exact h.1, fun j e hj => ?_⟩
  by_cases hij : i = j
  · subst hij
    have hl : i < ρ.length := by
      obtain ⟨z, _⟩ := List.getElem?_eq_some_iff.mp hj
      simpa using z
    rw [List.getElem?_set_self hl] at hj
    cases hj
    exact ⟨v, List.getElem?_set_self (by rw [h.1]; exact hl), r⟩
  · rw [List.getElem?_set_ne hij] at hj
    obtain ⟨w, e1, r1⟩ := h.2 j e hj
    exact ⟨w, by rw [List.getElem?_set_ne hij]; exact e1, r1⟩
/-- ρ' knows no more than ρ -/
inductive Le : List (Option D) → List (Option D) → Prop where
  | nil : Le [] []
  | keep {x : Option D} {a b : List (Option D)} : Le a b → Le (x :: a) (x :: b)
  | drop {x : Option D} {a b : List (Option D)} : Le a b → Le (none :: a) (x :: b)
theorem Le.length : ∀ {a b : List (Option D)}, Le a b → a.length = b.length
  | _, _, .nil => rfl
  | _, _, .keep h => by rw [List.length_cons, List.length_cons, h.length]
  | _, _, .drop h => by rw [List.length_cons, List.length_cons, h.length]
theorem Le.get : ∀ {a b : List (Option D)} {i : Nat} {d : D}, Le a b → a[i]? = some (some d) → b[i]? = some (some d)
  | _, _, _, _, .nil, e => e
  | _, _, 0, _, .keep h, e => e
  | _, _, i + 1, _, .keep h, e => by
    have z := Le.get (i := i) h (by simpa using e)
    simpa using z
  | _, _, 0, _, .drop h, e => by simp at e
  | _, _, i + 1, _, .drop h, e => by
    have z := Le.get (i := i) h (by simpa using e)
    simpa using z
theorem Le.refl : ∀ (a : List (Option D)), Le a a
  | [] => .nil
  | _ :: a => .keep (Le.refl a)
theorem SR.le (h : SR K φ H ρ σ) (l : Le ρ' ρ) : SR K φ H ρ' σ := ⟨by rw [h.1, l.length], fun i d e => h.2 i d (l.get e)⟩
theorem SR.start : ∀ {ds : List D} {vs : List V} {n : Nat}, Reps K φ H ds vs → SR K φ H (ds.map some ++ List.replicate n none) (vs.map some ++ List.replicate n none)
  | [], vs, n, h => by
    have e : vs = [] := h
    rw [e]
    refine ⟨by simp, fun i d hd => ?_⟩
    simp [List.getElem?_replicate] at hd
  | d :: ds, vs, n, h => by
    obtain ⟨v, r, rfl, h1, h2⟩ := (show ∃ v r, vs = v :: r ∧ Rep K φ H d v ∧ Reps K φ H ds r from h)
    obtain ⟨l, g⟩ := SR.start (n := n) h2
    refine ⟨by simp only [List.map_cons, List.cons_append, List.length_cons, l], fun i d' hd => ?_⟩
    cases i with
    | zero =>
      simp at hd
      exact ⟨v, rfl, hd ▸ h1⟩
    | succ i =>
      obtain ⟨w, e, q⟩ := g i d' (by simpa using hd)
      exact ⟨w, by simpa using e, q⟩
end

/-! ### a state: the slots by trees, the live facts J -/
/-- J leans on what H tracks alone -/
def Mo (H : Hp) (J : Hp → Prop) : Prop := ∀ H1 H2 : Hp, (∀ a o, H a ≠ none → H1 a = some o → H2 a = some o) → J H1 → J H2
theorem Mo.up {H H' : Hp} {J : Hp → Prop} (m : Mo H J) (s : ∀ a, H a ≠ none → H' a ≠ none) : Mo H' J := fun H1 H2 k j => m H1 H2 (fun a o h e => k a o (s a h) e) j
theorem Mo.same {H H' : Hp} {J : Hp → Prop} (m : Mo H J) (s : Same H H') : Mo H' J := m.up (same_tr s)
theorem Mo.upd {H : Hp} {J : Hp → Prop} {l : Addr} {o : HO} (m : Mo H J) : Mo (L2.upd H l o) J := m.up upd_tr
theorem Mo.and {H : Hp} {J J' : Hp → Prop} (m : Mo H J) (m' : Mo H J') : Mo H (fun H => J H ∧ J' H) := fun H1 H2 k j => ⟨m H1 H2 k j.1, m' H1 H2 k j.2⟩
theorem Mo.at {H : Hp} {l : Addr} {o : HO} (h : H l ≠ none) : Mo H (fun H => H l = some o) := fun H1 H2 k j => k l o h j
theorem Mo.sames {H H0 : Hp} (h : ∀ a, H0 a ≠ none → H a ≠ none) : Mo H (Same H0) := fun H1 H2 k j b o e => k b o (h b (by rw [e]; exact fun z => by cases z)) (j b o e)
theorem Mo.but {φ : Addr → Prop} {H H0 : Hp} (h : ∀ a, H0 a ≠ none → H a ≠ none) : Mo H (But φ H0) := fun H1 H2 k j => ⟨fun b o p e => k b o (h b (by rw [e]; exact fun z => by cases z)) (j.keep b o p e), fun b hb => by
  cases e : H1 b with
  | none => exact absurd e (j.tr b hb)
  | some o => rw [k b o (h b hb) e]; exact fun z => by cases z⟩
theorem Mo.tt {H : Hp} {p : Prop} : Mo H (fun _ => p) := fun H1 H2 k j => j
/-- what is free, and every tuple, is in φ -/
structure Frm (φ : Addr → Prop) (H : Hp) : Prop where
  new : ∀ a, H a = none → φ a
  tup : ∀ a xs, H a = some (.tup xs) → φ a
instance {φ : Addr → Prop} {H : Hp} : CoeFun (Frm φ H) (fun _ => ∀ a, H a = none → φ a) := ⟨Frm.new⟩
theorem Frm.same {φ : Addr → Prop} {H H' : Hp} (F : Frm φ H) (s : Same H H') : Frm φ H' := ⟨fun a h => F.new a (s.free h), fun a xs h => by
  cases e : H a with
  | none => exact F.new a e
  | some o =>
    have z := s a o e
    rw [h] at z
    cases z
    exact F.tup a xs e⟩
theorem Frm.fst {φ : Addr → Prop} {l : Addr} {H : Hp} (F : Frm (fun a => φ a ∧ a ≠ l) H) : Frm φ H := ⟨fun a h => (F.new a h).1, fun a xs h => (F.tup a xs h).1⟩
theorem Frm.upd {φ : Addr → Prop} {H : Hp} {l : Addr} {o : HO} (F : Frm φ H) (ho : ∀ xs, o ≠ .tup xs) : Frm φ (L2.upd H l o) := ⟨fun a h => by
  by_cases e : a = l
  · rw [e, upd_same] at h; cases h
  · rw [upd_ne e] at h; exact F.new a h, fun a xs h => by
  by_cases e : a = l
  · rw [e, upd_same] at h; exact absurd (Option.some.inj h) (ho xs)
  · rw [upd_ne e] at h; exact F.tup a xs h⟩
theorem Frm.updW {φ : Addr → Prop} {H : Hp} {l : Addr} {o : HO} (F : Frm φ H) (ho : ∀ xs, o ≠ .tup xs) : Frm (fun a => φ a ∧ a ≠ l) (L2.upd H l o) := ⟨fun a h => ⟨(F.upd ho).new a h, fun e => by rw [e, upd_same] at h; cases h⟩, fun a xs h => ⟨(F.upd ho).tup a xs h, fun e => by
  rw [e, upd_same] at h
  exact ho xs (Option.some.inj h)⟩⟩
theorem Frm.at {φ : Addr → Prop} {H : Hp} {l : Addr} {o : HO} (F : Frm φ H) (h : H l = some o) (ho : ∀ xs, o ≠ .tup xs) : Frm (fun a => φ a ∧ a ≠ l) H := ⟨fun a ha => ⟨F.new a ha, fun e => by rw [e, h] at ha; cases ha⟩, fun a xs ha => ⟨F.tup a xs ha, fun e => by
  rw [e, h] at ha
  exact ho xs (Option.some.inj ha)⟩⟩
structure At (K : PySem.W.Frag) (φ : Addr → Prop) (J : Hp → Prop) (ρ : List (Option D)) (σ : L2.St) (H : Hp) : Prop where
  sr : SR K φ H ρ σ
  fr : Frm φ H
  j : J H
  mono : Mo H J
section
variable {K : PySem.W.Frag} {φ φ' : Addr → Prop} {J J' : Hp → Prop} {H H' : Hp} {ρ ρ' : List (Option D)} {σ : L2.St} {d : D} {v : V}
theorem At.same (A : At K φ J ρ σ H) (s : Same H H') : At K φ J ρ σ H' :=
  ⟨A.sr.up (Up.of (But.of s)), A.fr.same s, A.mono _ _ (fun a o _ e => s a o e) A.j, A.mono.same s⟩
theorem At.le (A : At K φ J ρ σ H) (l : Le ρ' ρ) : At K φ J ρ' σ H := ⟨A.sr.le l, A.fr, A.j, A.mono⟩
theorem At.set (A : At K φ J ρ σ H) (i : Nat) (r : Rep K φ H d v) : At K φ J (ρ.set i (some d)) (σ.set i (some v)) H := ⟨A.sr.set i r, A.fr, A.j, A.mono⟩
theorem At.live (A : At K φ J ρ σ H) (j : J' H) (m : Mo H J') : At K φ J' ρ σ H := ⟨A.sr, A.fr, j, m⟩
/-- a new live object at p -/
theorem At.newLive {p : Addr} {o : HO} (A : At K φ J ρ σ H) (hp : H p = none) (j : J' (L2.upd H p o)) (m : Mo (L2.upd H p o) J') (ho : ∀ xs, o ≠ .tup xs := by intro xs h; cases h) : At K (fun a => φ a ∧ a ≠ p) J' ρ σ (L2.upd H p o) :=
  ⟨A.sr.up fun a u q e => ⟨⟨q, ne_of_none e hp⟩, by rw [upd_ne (ne_of_none e hp)]; exact e⟩, A.fr.updW ho, j, m⟩
/-- a live object is written -/
theorem At.upd {l : Addr} {o : HO} (A : At K φ J ρ σ H) (hl : ¬ φ l) (j : J' (L2.upd H l o)) (m : Mo (L2.upd H l o) J') (ho : ∀ xs, o ≠ .tup xs := by intro xs h; cases h) : At K φ J' ρ σ (L2.upd H l o) :=
  ⟨A.sr.up (Up.of ((But.refl φ H).upd hl)), A.fr.upd ho, j, m⟩
/-- slots and heap may be another's, if they say the same -/
theorem Same.upd_live {H H' : Hp} {l : Addr} {o : HO} (s : Same H H') (hl : H l = none) : Same H (L2.upd H' l o) := fun b u e => by
  rw [upd_ne (ne_of_none e hl)]
  exact s b u e
end

/-! ### what a reading evaluates to -/
section
variable (K : PySem.W.Frag) (φ : Addr → Prop) (J : Hp → Prop)
def EvP (te : TE) (ρ : List (Option D)) (P : D → Prop) : Prop := ∀ σ H, At K φ J ρ σ H → ∀ Q : VK, (∀ v d H', But φ H H' → At K φ J ρ σ H' → P d → Rep K φ H' d v → Q v H') → te σ H Q
abbrev EvD (te : TE) (ρ : List (Option D)) (d : D) : Prop := EvP K φ J te ρ (fun x => x = d)
abbrev EvI (te : TE) (ρ : List (Option D)) (p : Int → Prop) : Prop := EvP K φ J te ρ (fun x => ∃ i, x = .int i ∧ p i)
abbrev EvB (te : TE) (ρ : List (Option D)) (p : Bool → Prop) : Prop := EvP K φ J te ρ (fun x => ∃ b, x = .bl b ∧ p b)
def EvA (ta : TA) (ρ : List (Option D)) (P : List D → Prop) : Prop := ∀ σ H, At K φ J ρ σ H → ∀ Q : List V → Hp → Prop, (∀ vs ds H', But φ H H' → At K φ J ρ σ H' → P ds → Reps K φ H' ds vs → Q vs H') → ta σ H Q
def EvT (tt : TT) (ρ : List (Option D)) (p : Bool → Prop) : Prop := ∀ σ H, At K φ J ρ σ H → ∀ Q : Bool → Hp → Prop, (∀ b H', But φ H H' → At K φ J ρ σ H' → p b → Q b H') → tt σ H Q
def EvO (to : TO) (ρ : List (Option D)) (o : Option Int) : Prop := ∀ σ H, At K φ J ρ σ H → ∀ Q : Option Int → Hp → Prop, (∀ H', But φ H H' → At K φ J ρ σ H' → Q o H') → to σ H Q
/-- a two-place operation by trees -/
def Op2 (r : R2) (x y : D) (P : D → Prop) : Prop := ∀ (H : Hp) v w, Frm φ H → Rep K φ H x v → Rep K φ H y w → ∀ Q : VK, (∀ u z H', Same H H' → P z → Rep K φ H' z u → Q u H') → r v w H Q
/-- a call by trees -/
def Cl (r : List V → Hp → VK → Prop) (ds : List D) (P : D → Prop) : Prop := ∀ (H : Hp) vs, Frm φ H → Reps K φ H ds vs → ∀ Q : VK, (∀ u z H', Same H H' → P z → Rep K φ H' z u → Q u H') → r vs H Q
end
section
variable {K : PySem.W.Frag} {φ : Addr → Prop} {J : Hp → Prop} {ρ : List (Option D)} {ta tb te tc : TE} {x y z d : D} {P Pa Pb : D → Prop} {i j : Int} {p q : Int → Prop}
theorem EvP.imp {P' : D → Prop} (h : EvP K φ J te ρ P) (k : ∀ d, P d → P' d) : EvP K φ J te ρ P' := fun σ H A Q q => h σ H A Q fun v d H' b A' pd r => q v d H' b A' (k d pd) r
theorem EvP.is {d' : D} (h : EvD K φ J te ρ d) (e : d = d') : EvD K φ J te ρ d' := e ▸ h
theorem ev_var {i : Nat} (h : ρ[i]? = some (some d)) : EvD K φ J (tVar i) ρ d := fun σ H A Q q => by
  obtain ⟨v, e, r⟩ := A.sr.2 i d h
  exact ⟨v, e, q v d H (But.refl _ _) A rfl r⟩
theorem ev_int : EvD K φ J (tC (.int i)) ρ (.int i) := fun σ H A Q q => q _ _ H (But.refl _ _) A rfl rfl
theorem ev_bl {b : Bool} : EvD K φ J (tC (.bl b)) ρ (.bl b) := fun σ H A Q q => q _ _ H (But.refl _ _) A rfl rfl
theorem ev_str {s : Str} : EvD K φ J (tC (.str s)) ρ (.str s) := fun σ H A Q q => q _ _ H (But.refl _ _) A rfl rfl
theorem ev_non : EvD K φ J (tC .non) ρ .non := fun σ H A Q q => q _ _ H (But.refl _ _) A rfl rfl
theorem ev_ty {n : String} : EvD K φ J (tC (.ty n)) ρ (.raw (.ty n)) := fun σ H A Q q => q _ _ H (But.refl _ _) A rfl rfl
theorem ev_ref {a : Addr} : EvD K φ J (tC (.ref a)) ρ (.raw (.ref a)) := fun σ H A Q q => q _ _ H (But.refl _ _) A rfl rfl
theorem ev_op {r : R2} (ha : EvP K φ J ta ρ Pa) (hb : EvP K φ J tb ρ Pb) (hr : ∀ x y, Pa x → Pb y → Op2 K φ r x y P) : EvP K φ J (tOp r ta tb) ρ P := fun σ H A Q q =>
  ha σ H A _ fun v x H1 b1 A1 px r1 => hb σ H1 A1 _ fun w y H2 b2 A2 py r2 => hr x y px py H2 v w A2.fr (r1.mono b2) r2 Q fun u z H3 s pz r3 => q u z H3 ((b1.trans b2).trans (But.of s)) (A2.same s) pz r3
theorem ev_opD {r : R2} (ha : EvD K φ J ta ρ x) (hb : EvD K φ J tb ρ y) (hr : Op2 K φ r x y P) : EvP K φ J (tOp r ta tb) ρ P := ev_op ha hb fun _ _ e1 e2 => by
  subst e1 e2
  exact hr
/-! the operators on ints -/
theorem o2_I0 {g : Int → Int → V} {z : D} (hz : ∀ H, Rep K φ H z (g i j)) : Op2 K φ (rI0 g) (.int i) (.int j) (fun x => x = z) := fun H v w _ r1 r2 Q q => ⟨i, j, r1, r2, q _ _ H (Same.refl H) rfl (hz H)⟩
theorem o2_I {C : Int → Int → Prop} {g : Int → Int → V} {z : D} (hc : C i j) (hz : ∀ H, Rep K φ H z (g i j)) : Op2 K φ (rI C g) (.int i) (.int j) (fun x => x = z) := fun H v w _ r1 r2 Q q => ⟨i, j, r1, r2, hc, q _ _ H (Same.refl H) rfl (hz H)⟩
theorem ev_add (ha : EvD K φ J ta ρ (.int i)) (hb : EvD K φ J tb ρ (.int j)) : EvD K φ J (tOp (rI0 fun i j => .int (i + j)) ta tb) ρ (.int (i + j)) := ev_opD ha hb (o2_I0 fun _ => rfl)
theorem ev_sub (ha : EvD K φ J ta ρ (.int i)) (hb : EvD K φ J tb ρ (.int j)) : EvD K φ J (tOp (rI0 fun i j => .int (i - j)) ta tb) ρ (.int (i - j)) := ev_opD ha hb (o2_I0 fun _ => rfl)
theorem ev_lt (ha : EvD K φ J ta ρ (.int i)) (hb : EvD K φ J tb ρ (.int j)) : EvD K φ J (tOp (rI0 fun i j => .bl (decide (i < j))) ta tb) ρ (.bl (decide (i < j))) := ev_opD ha hb (o2_I0 fun _ => rfl)
theorem ev_le (ha : EvD K φ J ta ρ (.int i)) (hb : EvD K φ J tb ρ (.int j)) : EvD K φ J (tOp (rI0 fun i j => .bl (decide (i ≤ j))) ta tb) ρ (.bl (decide (i ≤ j))) := ev_opD ha hb (o2_I0 fun _ => rfl)
theorem ev_gt (ha : EvD K φ J ta ρ (.int i)) (hb : EvD K φ J tb ρ (.int j)) : EvD K φ J (tOp (rI0 fun i j => .bl (decide (j < i))) ta tb) ρ (.bl (decide (j < i))) := ev_opD ha hb (o2_I0 fun _ => rfl)
theorem ev_ge (ha : EvD K φ J ta ρ (.int i)) (hb : EvD K φ J tb ρ (.int j)) : EvD K φ J (tOp (rI0 fun i j => .bl (decide (j ≤ i))) ta tb) ρ (.bl (decide (j ≤ i))) := ev_opD ha hb (o2_I0 fun _ => rfl)
theorem ev_mul (ha : EvD K φ J ta ρ (.int i)) (hb : EvD K φ J tb ρ (.int j)) (hc : CMul i j) : EvD K φ J (tOp (rI CMul fun i j => .int (i * j)) ta tb) ρ (.int (i * j)) := ev_opD ha hb (o2_I hc fun _ => rfl)
theorem ev_mulW (ha : EvD K φ J ta ρ (.int i)) (hb : EvD K φ J tb ρ (.int j)) (hc : CMulW i j) : EvD K φ J (tOp (rI CMulW fun i j => .int (i * j)) ta tb) ρ (.int (i * j)) := ev_opD ha hb (o2_I hc fun _ => rfl)
theorem ev_fdiv (ha : EvD K φ J ta ρ (.int i)) (hb : EvD K φ J tb ρ (.int j)) (hc : CDiv i j) : EvD K φ J (tOp (rI CDiv fun i j => .int (i / j)) ta tb) ρ (.int (i / j)) := ev_opD ha hb (o2_I hc fun _ => rfl)
theorem ev_fdivW (ha : EvD K φ J ta ρ (.int i)) (hb : EvD K φ J tb ρ (.int j)) (hc : CDivW i j) : EvD K φ J (tOp (rI CDivW fun i j => .int (i / j)) ta tb) ρ (.int (i / j)) := ev_opD ha hb (o2_I hc fun _ => rfl)
theorem ev_mod (ha : EvD K φ J ta ρ (.int i)) (hb : EvD K φ J tb ρ (.int j)) (hc : 0 < j) : EvD K φ J (tOp (rI (fun _ j => 0 < j) fun i j => .int (i % j)) ta tb) ρ (.int (i % j)) := ev_opD ha hb (o2_I hc fun _ => rfl)
theorem ev_neg (ha : EvD K φ J ta ρ (.int i)) : EvD K φ J (tUn (rU fun i => .int (-i)) ta) ρ (.int (-i)) := fun σ H A Q q =>
  ha σ H A _ fun v x H1 b1 A1 px r1 => by
    subst px
    exact ⟨i, r1, q _ _ H1 b1 A1 rfl rfl⟩
/-- scalars compared -/
def scD : D → D → Bool
  | .non, .non => true
  | .bl _, .bl _ => true
  | .int _, .int _ => true
  | .str _, .str _ => true
  | _, _ => false
def eqS : D → D → Bool
  | .non, .non => true
  | .bl a, .bl b => a == b
  | .int a, .int b => decide (a = b)
  | .str a, .str b => decide (a = b)
  | _, _ => false
end
end DL
namespace DL
open PySem PySem.Spec PyProof.Rows L2

section
variable {K : PySem.W.Frag} {φ φ' : Addr → Prop} {J J' : Hp → Prop} {H H' : Hp} {ρ ρ' : List (Option D)} {σ : L2.St} {ta tb te tc : TE} {x y z d : D} {P Pa Pb Pc : D → Prop} {i j : Int} {p q : Int → Prop} {b c : Bool} {s t : Str} {ds es : List D} {v : V} {vs : List V}

/-! ### one-place forms -/
theorem ev_un {r : V → Hp → VK → Prop} (ha : EvP K φ J ta ρ Pa) (hr : ∀ x, Pa x → ∀ (H : Hp) v, Frm φ H → Rep K φ H x v → ∀ Q : VK, (∀ u z H', Same H H' → P z → Rep K φ H' z u → Q u H') → r v H Q) : EvP K φ J (tUn r ta) ρ P := fun σ H A Q q =>
  ha σ H A _ fun v x H1 b1 A1 px r1 => hr x px H1 v A1.fr r1 Q fun u z H2 s pz r2 => q u z H2 (b1.trans (But.of s)) (A1.same s) pz r2

/-! ### == of scalars -/
theorem o2_eqI : Op2 K φ rEq (.int i) (.int j) (fun x => x = .bl (decide (i = j))) := fun H v w _ r1 r2 Q q => by
  cases (show v = .int i from r1)
  cases (show w = .int j from r2)
  exact ⟨rfl, q _ _ H (Same.refl H) rfl (by rw [dec_int, Bool.beq_eq_decide_eq]; rfl)⟩
theorem o2_neI : Op2 K φ rNe (.int i) (.int j) (fun x => x = .bl (!decide (i = j))) := fun H v w _ r1 r2 Q q => by
  cases (show v = .int i from r1)
  cases (show w = .int j from r2)
  exact ⟨rfl, q _ _ H (Same.refl H) rfl (by rw [dec_int, Bool.beq_eq_decide_eq]; rfl)⟩
theorem o2_eqB : Op2 K φ rEq (.bl b) (.bl c) (fun x => x = .bl (b == c)) := fun H v w _ r1 r2 Q q => by
  cases (show v = .bl b from r1)
  cases (show w = .bl c from r2)
  exact ⟨rfl, q _ _ H (Same.refl H) rfl (by rw [dec_bl]; rfl)⟩
theorem o2_neB : Op2 K φ rNe (.bl b) (.bl c) (fun x => x = .bl (!(b == c))) := fun H v w _ r1 r2 Q q => by
  cases (show v = .bl b from r1)
  cases (show w = .bl c from r2)
  exact ⟨rfl, q _ _ H (Same.refl H) rfl (by rw [dec_bl]; rfl)⟩
theorem dec_strD : decide (V.str s = V.str t) = decide (s = t) := by
  by_cases h : s = t
  · subst h
    simp
  · rw [decide_eq_false h, decide_eq_false fun z => h (V.str.inj z)]
theorem o2_eqS : Op2 K φ rEq (.str s) (.str t) (fun x => x = .bl (decide (s = t))) := fun H v w _ r1 r2 Q q => by
  cases (show v = .str s from r1)
  cases (show w = .str t from r2)
  exact ⟨rfl, q _ _ H (Same.refl H) rfl (by rw [dec_strD]; rfl)⟩
theorem o2_neS : Op2 K φ rNe (.str s) (.str t) (fun x => x = .bl (!decide (s = t))) := fun H v w _ r1 r2 Q q => by
  cases (show v = .str s from r1)
  cases (show w = .str t from r2)
  exact ⟨rfl, q _ _ H (Same.refl H) rfl (by rw [dec_strD]; rfl)⟩
theorem ev_eqI (ha : EvD K φ J ta ρ (.int i)) (hb : EvD K φ J tb ρ (.int j)) : EvD K φ J (tOp rEq ta tb) ρ (.bl (decide (i = j))) := ev_opD ha hb o2_eqI
theorem ev_neI (ha : EvD K φ J ta ρ (.int i)) (hb : EvD K φ J tb ρ (.int j)) : EvD K φ J (tOp rNe ta tb) ρ (.bl (!decide (i = j))) := ev_opD ha hb o2_neI
theorem ev_eqB (ha : EvD K φ J ta ρ (.bl b)) (hb : EvD K φ J tb ρ (.bl c)) : EvD K φ J (tOp rEq ta tb) ρ (.bl (b == c)) := ev_opD ha hb o2_eqB
theorem ev_neB (ha : EvD K φ J ta ρ (.bl b)) (hb : EvD K φ J tb ρ (.bl c)) : EvD K φ J (tOp rNe ta tb) ρ (.bl (!(b == c))) := ev_opD ha hb o2_neB
theorem ev_eqS (ha : EvD K φ J ta ρ (.str s)) (hb : EvD K φ J tb ρ (.str t)) : EvD K φ J (tOp rEq ta tb) ρ (.bl (decide (s = t))) := ev_opD ha hb o2_eqS
theorem ev_neS (ha : EvD K φ J ta ρ (.str s)) (hb : EvD K φ J tb ρ (.str t)) : EvD K φ J (tOp rNe ta tb) ρ (.bl (!decide (s = t))) := ev_opD ha hb o2_neS

/-! ### is None -/
def isNon : D → Bool
  | .non => true
  | .raw w => decide (w = .non)
  | _ => false
def rIsN : R2 := fun x y H Q => y = .non ∧ Q (.bl (decide (x = .non))) H
def rNotN : R2 := fun x y H Q => y = .non ∧ Q (.bl (!decide (x = .non))) H
theorem op_isN1 {X : Cx} : OpR X (compareOp .Is) rIsN := op_isN
theorem op_notN1 {X : Cx} : OpR X (compareOp .IsNot) rNotN := op_notN
theorem isNon_rep : ∀ {d : D}, Rep K φ H d v → decide (v = .non) = isNon d
  | .non, h => by cases (show v = .non from h); rfl
  | .bl _, h => by cases (show v = _ from h); rfl
  | .int _, h => by cases (show v = _ from h); rfl
  | .str _, h => by cases (show v = _ from h); rfl
  | .raw w, h => by cases (show v = _ from h); rfl
  | .tup ds, h => by
    obtain ⟨a, vs, e, _⟩ := (show ∃ a vs, v = .ref a ∧ PT K φ H a vs ∧ Reps K φ H ds vs from h)
    subst e
    rfl
  | .lst ds, h => by
    obtain ⟨a, vs, e, _⟩ := (show ∃ a vs, v = .ref a ∧ PL K φ H a vs ∧ Reps K φ H ds vs from h)
    subst e
    rfl
  | .dk ks ds, h => by
    obtain ⟨a, vs, e, _⟩ := (show ∃ a vs, v = .ref a ∧ (φ a ∧ H a = some (.dK (ks.zip vs)) ∧ ks.length = ds.length) ∧ Reps K φ H ds vs from h)
    subst e
    rfl
  | .dt ks ds, h => by
    obtain ⟨a, vs, e, _⟩ := (show ∃ a vs, v = .ref a ∧ (φ a ∧ H a = some (.dT (ks.zip vs)) ∧ ks.length = ds.length) ∧ Reps K φ H ds vs from h)
    subst e
    rfl
theorem ev_isN (ha : EvD K φ J ta ρ x) : EvD K φ J (tOp rIsN ta (tC .non)) ρ (.bl (isNon x)) := ev_opD ha ev_non fun H v w _ r1 r2 Q q => ⟨r2, q _ _ H (Same.refl H) rfl (by rw [isNon_rep r1]; rfl)⟩
theorem ev_notN (ha : EvD K φ J ta ρ x) : EvD K φ J (tOp rNotN ta (tC .non)) ρ (.bl (!isNon x)) := ev_opD ha ev_non fun H v w _ r1 r2 Q q => ⟨r2, q _ _ H (Same.refl H) rfl (by rw [isNon_rep r1]; rfl)⟩

/-! ### chains, and, or, not, if-else -/
theorem ev_chain {r r' : R2} {k : Bool} (ha : EvD K φ J ta ρ x) (hb : EvD K φ J tb ρ y) (hr : Op2 K φ r x y (fun u => u = .bl k)) (hc : k = true → EvD K φ J tc ρ z) (hr' : k = true → Op2 K φ r' y z (fun u => u = .bl b)) :
    EvD K φ J (tChain r r' ta tb tc) ρ (.bl (k && b)) := fun σ H A Q q =>
  ha σ H A _ fun v x1 H1 b1 A1 e1 r1 => hb σ H1 A1 _ fun w y1 H2 b2 A2 e2 r2 => by
    subst e1 e2
    refine hr H2 v w A2.fr (r1.mono b2) r2 _ fun u z1 H3 s3 e3 r3 => ?_
    subst e3
    refine ⟨k, r3, ?_⟩
    cases k with
    | false =>
      rw [if_neg (by simp)]
      exact q _ _ H3 ((b1.trans b2).trans (But.of s3)) (A2.same s3) rfl rfl
    | true =>
      rw [if_pos rfl]
      refine hc rfl σ H3 (A2.same s3) _ fun w' z1 H4 b4 A4 e4 r4 => ?_
      subst e4
      exact hr' rfl H4 w w' A4.fr ((r2.mono (But.of s3)).mono b4) r4 Q fun u z1 H5 s5 e5 r5 => q u z1 H5 ((((b1.trans b2).trans (But.of s3)).trans b4).trans (But.of s5)) (A4.same s5) e5 r5
theorem ev_chainI {f g : Int → Int → Bool} {i j k : Int} (ha : EvD K φ J ta ρ (.int i)) (hb : EvD K φ J tb ρ (.int j)) (hc : EvD K φ J tc ρ (.int k)) :
    EvD K φ J (tChain (rI0 fun i j => .bl (f i j)) (rI0 fun i j => .bl (g i j)) ta tb tc) ρ (.bl (f i j && g j k)) := ev_chain ha hb (o2_I0 fun _ => rfl) (fun _ => hc) fun _ => o2_I0 fun _ => rfl
theorem ev_andV (ha : EvD K φ J ta ρ (.bl b)) (hb : b = true → EvD K φ J tb ρ (.bl c)) : EvD K φ J (tAndV ta tb) ρ (.bl (b && c)) := fun σ H A Q q =>
  ha σ H A _ fun v x1 H1 b1 A1 e1 r1 => by
    subst e1
    refine ⟨b, r1, ?_⟩
    cases b with
    | false =>
      rw [if_neg (by simp)]
      exact q _ _ H1 b1 A1 rfl rfl
    | true =>
      rw [if_pos rfl]
      exact hb rfl σ H1 A1 Q fun w y H2 b2 A2 e2 r2 => q w y H2 (b1.trans b2) A2 e2 r2
theorem ev_orV (ha : EvD K φ J ta ρ (.bl b)) (hb : b = false → EvD K φ J tb ρ (.bl c)) : EvD K φ J (tOrV ta tb) ρ (.bl (b || c)) := fun σ H A Q q =>
  ha σ H A _ fun v x1 H1 b1 A1 e1 r1 => by
    subst e1
    refine ⟨b, r1, ?_⟩
    cases b with
    | true =>
      rw [if_pos rfl]
      exact q _ _ H1 b1 A1 rfl rfl
    | false =>
      rw [if_neg (by simp)]
      exact hb rfl σ H1 A1 Q fun w y H2 b2 A2 e2 r2 => q w y H2 (b1.trans b2) A2 e2 r2
theorem ev_notV (ha : EvD K φ J ta ρ (.bl b)) : EvD K φ J (tNotV ta) ρ (.bl (!b)) := fun σ H A Q q =>
  ha σ H A _ fun v x1 H1 b1 A1 e1 r1 => by
    subst e1
    exact ⟨b, r1, q _ _ H1 b1 A1 rfl rfl⟩
theorem ev_one (ha : EvP K φ J ta ρ P) : EvP K φ J ta ρ P := ha
theorem ev_if {tt : TT} {p : Bool → Prop} (hc : EvT K φ J tt ρ p) (h1 : p true → EvP K φ J ta ρ P) (h2 : p false → EvP K φ J tb ρ P) : EvP K φ J (tIf tt ta tb) ρ P := fun σ H A Q q =>
  hc σ H A _ fun k H1 b1 A1 pk => by
    cases k with
    | true =>
      rw [if_pos rfl]
      exact h1 pk σ H1 A1 Q fun w y H2 b2 A2 e2 r2 => q w y H2 (b1.trans b2) A2 e2 r2
    | false =>
      rw [if_neg (by simp)]
      exact h2 pk σ H1 A1 Q fun w y H2 b2 A2 e2 r2 => q w y H2 (b1.trans b2) A2 e2 r2

/-! ### tests -/
abbrev EvX (K : PySem.W.Frag) (φ : Addr → Prop) (J : Hp → Prop) (tt : TT) (ρ : List (Option D)) (b : Bool) : Prop := EvT K φ J tt ρ fun x => x = b
theorem EvT.imp {tt : TT} {p p' : Bool → Prop} (h : EvT K φ J tt ρ p) (k : ∀ b, p b → p' b) : EvT K φ J tt ρ p' := fun σ H A Q q => h σ H A Q fun b H' bt A' pb => q b H' bt A' (k b pb)
theorem EvT.is {tt : TT} {b c : Bool} (h : EvX K φ J tt ρ b) (e : b = c) : EvX K φ J tt ρ c := e ▸ h
theorem et_testP {p : Bool → Prop} (h : EvB K φ J te ρ p) : EvT K φ J (tTest te) ρ p := fun σ H A Q q => h σ H A _ fun v d H' bt A' ⟨b, e, pb⟩ r => by
  subst e
  exact ⟨b, r, q b H' bt A' pb⟩
theorem et_BP {p : Bool → Prop} (h : EvB K φ J te ρ p) : EvT K φ J (tB te) ρ p := et_testP h
theorem ev_b (h : EvD K φ J te ρ (.bl b)) : EvB K φ J te ρ (fun x => x = b) := h.imp fun d e => ⟨b, e, rfl⟩
theorem ev_i (h : EvD K φ J te ρ (.int i)) : EvI K φ J te ρ (fun x => x = i) := h.imp fun d e => ⟨i, e, rfl⟩
theorem et_test (h : EvD K φ J te ρ (.bl b)) : EvX K φ J (tTest te) ρ b := et_testP (ev_b h)
theorem et_B (h : EvD K φ J te ρ (.bl b)) : EvX K φ J (tB te) ρ b := et_BP (ev_b h)
theorem et_and {t1 t2 : TT} (ha : EvX K φ J t1 ρ b) (hb : b = true → EvX K φ J t2 ρ c) : EvX K φ J (tAnd t1 t2) ρ (b && c) := fun σ H A Q q => ha σ H A _ fun k H1 b1 A1 e1 => by
  subst e1
  cases k with
  | false =>
    rw [if_neg (by simp)]
    exact q _ H1 b1 A1 rfl
  | true =>
    rw [if_pos rfl]
    exact hb rfl σ H1 A1 Q fun k2 H2 b2 A2 e2 => q k2 H2 (b1.trans b2) A2 e2
theorem et_or {t1 t2 : TT} (ha : EvX K φ J t1 ρ b) (hb : b = false → EvX K φ J t2 ρ c) : EvX K φ J (tOr t1 t2) ρ (b || c) := fun σ H A Q q => ha σ H A _ fun k H1 b1 A1 e1 => by
  subst e1
  cases k with
  | true =>
    rw [if_pos rfl]
    exact q _ H1 b1 A1 rfl
  | false =>
    rw [if_neg (by simp)]
    exact hb rfl σ H1 A1 Q fun k2 H2 b2 A2 e2 => q k2 H2 (b1.trans b2) A2 e2
theorem et_not {t1 : TT} (ha : EvX K φ J t1 ρ b) : EvX K φ J (tNot t1) ρ (!b) := fun σ H A Q q => ha σ H A _ fun k H1 b1 A1 e1 => by
  subst e1
  exact q _ H1 b1 A1 rfl
theorem et_notP {t1 : TT} {p : Bool → Prop} (ha : EvT K φ J t1 ρ p) : EvT K φ J (tNot t1) ρ (fun x => p (!x)) := fun σ H A Q q => ha σ H A _ fun k H1 b1 A1 e1 => q _ H1 b1 A1 (by show p (!(!k)); rw [Bool.not_not]; exact e1)

/-! ### arguments, displays -/
abbrev EvAD (K : PySem.W.Frag) (φ : Addr → Prop) (J : Hp → Prop) (ta : TA) (ρ : List (Option D)) (ds : List D) : Prop := EvA K φ J ta ρ fun x => x = ds
theorem ea_nil : EvAD K φ J tNil ρ [] := fun σ H A Q q => q [] [] H (But.refl _ _) A rfl rfl
theorem ea_consP {tr : TA} {Pr : List D → Prop} (ha : EvP K φ J ta ρ P) (hr : EvA K φ J tr ρ Pr) : EvA K φ J (tCons ta tr) ρ (fun x => ∃ d r, x = d :: r ∧ P d ∧ Pr r) := fun σ H A Q q =>
  ha σ H A _ fun v x H1 b1 A1 px r1 => hr σ H1 A1 _ fun ws ys H2 b2 A2 py r2 => q (v :: ws) (x :: ys) H2 (b1.trans b2) A2 ⟨x, ys, rfl, px, py⟩ (Reps.cons (r1.mono b2) r2)
theorem ea_cons {tr : TA} (ha : EvD K φ J ta ρ x) (hr : EvAD K φ J tr ρ ds) : EvAD K φ J (tCons ta tr) ρ (x :: ds) := fun σ H A Q q =>
  ha σ H A _ fun v y H1 b1 A1 e1 r1 => hr σ H1 A1 _ fun ws ys H2 b2 A2 e2 r2 => q (v :: ws) (y :: ys) H2 (b1.trans b2) A2 (by rw [e1, e2]) (Reps.cons (r1.mono b2) r2)
theorem sz {n : Nat} (h : n ≤ 1000000) : n ≤ sizeLine := Nat.le_trans h (by decide)
theorem szlt {n : Nat} (h : n ≤ 1000000) : n < sizeLine := Nat.lt_of_le_of_lt h (by decide)
theorem ev_tupP {ta : TA} {Pr : List D → Prop} (ha : EvA K φ J ta ρ Pr) (hl : ∀ r, Pr r → r.length ≤ 1000000) : EvP K φ J (tTup ta) ρ (fun x => ∃ r, x = .tup r ∧ Pr r) := fun σ H A Q q =>
  ha σ H A _ fun vs ds H1 b1 A1 pd r1 => ⟨by rw [r1.length]; exact sz (hl _ pd), fun p hp =>
    q _ _ _ (b1.trans (But.of (same_new hp))) (A1.same (same_new hp)) ⟨ds, rfl, pd⟩ ⟨p, vs, rfl, .inl ⟨A1.fr p hp, .inl upd_same⟩, r1.mono (But.of (same_new hp))⟩⟩
theorem ev_lstP {ta : TA} {Pr : List D → Prop} (ha : EvA K φ J ta ρ Pr) (hl : ∀ r, Pr r → r.length ≤ 1000000) : EvP K φ J (tLst ta) ρ (fun x => ∃ r, x = .lst r ∧ Pr r) := fun σ H A Q q =>
  ha σ H A _ fun vs ds H1 b1 A1 pd r1 => ⟨by rw [r1.length]; exact sz (hl _ pd), fun p hp =>
    q _ _ _ (b1.trans (But.of (same_new hp))) (A1.same (same_new hp)) ⟨ds, rfl, pd⟩ ⟨p, vs, rfl, .inl ⟨A1.fr p hp, .inl upd_same⟩, r1.mono (But.of (same_new hp))⟩⟩
theorem ev_tup {ta : TA} (ha : EvAD K φ J ta ρ ds) (hl : ds.length ≤ 1000000 := by first | exact Nat.le_of_ble_eq_true rfl | decide) : EvD K φ J (tTup ta) ρ (.tup ds) := (ev_tupP ha fun r e => by rw [e]; exact hl).imp fun x ⟨r, e, e2⟩ => by rw [e, e2]
theorem ev_lst {ta : TA} (ha : EvAD K φ J ta ρ ds) (hl : ds.length ≤ 1000000 := by first | exact Nat.le_of_ble_eq_true rfl | decide) : EvD K φ J (tLst ta) ρ (.lst ds) := (ev_lstP ha fun r e => by rw [e]; exact hl).imp fun x ⟨r, e, e2⟩ => by rw [e, e2]

/-! ### subscripts -/
theorem Reps.atI {i : Int} (h : Reps K φ H ds vs) (e : L2.atI ds i = some d) : ∃ v, L2.atI vs i = some v ∧ Rep K φ H d v := by
  unfold L2.atI at e ⊢
  rw [h.length]
  cases hj : ixN ds.length i with
  | none => rw [hj] at e; cases e
  | some j =>
    rw [hj] at e
    exact h.get e
theorem rep_tup (h : Rep K φ H (.tup ds) v) : ∃ a vs, v = .ref a ∧ PT K φ H a vs ∧ Reps K φ H ds vs := h
theorem rep_lst (h : Rep K φ H (.lst ds) v) : ∃ a vs, v = .ref a ∧ PL K φ H a vs ∧ Reps K φ H ds vs := h
theorem o2_ixT (e : L2.atI ds i = some d) : Op2 K φ (rIxT K) (.tup ds) (.int i) (fun x => x = d) := fun H v w _ r1 r2 Q q => by
  obtain ⟨a, vs, rfl, p, r⟩ := rep_tup r1
  obtain ⟨u, e1, r3⟩ := r.atI e
  exact ⟨a, vs, i, u, rfl, r2, p.sq, e1, q u d H (Same.refl H) rfl r3⟩
theorem o2_ixL (e : L2.atI ds i = some d) : Op2 K φ (rIxL K) (.lst ds) (.int i) (fun x => x = d) := fun H v w _ r1 r2 Q q => by
  obtain ⟨a, vs, rfl, p, r⟩ := rep_lst r1
  obtain ⟨u, e1, r3⟩ := r.atI e
  exact ⟨a, vs, i, u, rfl, r2, p.sq, e1, q u d H (Same.refl H) rfl r3⟩
theorem ev_ixT (ha : EvD K φ J ta ρ (.tup ds)) (hb : EvD K φ J tb ρ (.int i)) (e : L2.atI ds i = some d) : EvD K φ J (tOp (rIxT K) ta tb) ρ d := ev_opD ha hb (o2_ixT e)
theorem ev_ixL (ha : EvD K φ J ta ρ (.lst ds)) (hb : EvD K φ J tb ρ (.int i)) (e : L2.atI ds i = some d) : EvD K φ J (tOp (rIxL K) ta tb) ρ d := ev_opD ha hb (o2_ixL e)
theorem ev_ixTP (ha : EvP K φ J ta ρ Pa) (hb : EvI K φ J tb ρ p) (e : ∀ x i, Pa x → p i → ∃ ds d, x = .tup ds ∧ L2.atI ds i = some d ∧ P d) : EvP K φ J (tOp (rIxT K) ta tb) ρ P := ev_op ha hb fun x y px ⟨i, e1, pi⟩ => by
  obtain ⟨ds, d, e2, e3, pd⟩ := e x i px pi
  subst e1 e2
  exact fun H v w f r1 r2 Q q => o2_ixT e3 H v w f r1 r2 Q fun u z H' s ez r => q u z H' s (ez ▸ pd) r
theorem ev_ixLP (ha : EvP K φ J ta ρ Pa) (hb : EvI K φ J tb ρ p) (e : ∀ x i, Pa x → p i → ∃ ds d, x = .lst ds ∧ L2.atI ds i = some d ∧ P d) : EvP K φ J (tOp (rIxL K) ta tb) ρ P := ev_op ha hb fun x y px ⟨i, e1, pi⟩ => by
  obtain ⟨ds, d, e2, e3, pd⟩ := e x i px pi
  subst e1 e2
  exact fun H v w f r1 r2 Q q => o2_ixL e3 H v w f r1 r2 Q fun u z H' s ez r => q u z H' s (ez ▸ pd) r

/-! ### slices -/
def cutD {α : Type} (xs : List α) (lo hi : Option Int) : List α := (xs.drop (HT.sIx xs.length 0 lo)).take (HT.sIx xs.length xs.length hi - HT.sIx xs.length 0 lo)
theorem Reps.cut (h : Reps K φ H ds vs) (lo hi : Option Int) : Reps K φ H (cutD ds lo hi) (cutV vs lo hi) := by
  unfold cutD cutV
  rw [h.length]
  exact (h.drop _).take _
theorem cutD_length {α : Type} (xs : List α) (lo hi : Option Int) : (cutD xs lo hi).length ≤ xs.length := by
  unfold cutD
  rw [List.length_take, List.length_drop]
  omega
theorem eo_none : EvO K φ J tNoPart ρ none := fun σ H A Q q => q H (But.refl _ _) A
theorem eo_some (h : EvD K φ J te ρ (.int i)) : EvO K φ J (tPart te) ρ (some i) := fun σ H A Q q => h σ H A _ fun v d H' bt A' e r => by
  subst e
  exact ⟨i, r, q H' bt A'⟩
theorem ev_slL {tl th : TO} {lo hi : Option Int} (ha : EvD K φ J te ρ (.lst ds)) (hl : EvO K φ J tl ρ lo) (hh : EvO K φ J th ρ hi) : EvD K φ J (tSl (rSlL K) te tl th) ρ (.lst (cutD ds lo hi)) := fun σ H A Q q =>
  ha σ H A _ fun v x H1 b1 A1 e1 r1 => hl σ H1 A1 _ fun H2 b2 A2 => hh σ H2 A2 _ fun H3 b3 A3 => by
    subst e1
    obtain ⟨a, vs, rfl, pl, rs⟩ := rep_lst ((r1.mono b2).mono b3)
    exact ⟨a, vs, rfl, pl.sq, fun p hp => q _ _ _ (((b1.trans b2).trans b3).trans (But.of (same_new hp))) (A3.same (same_new hp)) rfl ⟨p, _, rfl, .inl ⟨A3.fr p hp, .inl upd_same⟩, (rs.mono (But.of (same_new hp))).cut lo hi⟩⟩
theorem take_all {α : Type} {xs : List α} {lo hi : Option Int} (h : HT.sIx xs.length 0 lo = 0 ∧ HT.sIx xs.length xs.length hi = xs.length) : cutD xs lo hi = xs := by
  unfold cutD
  rw [h.1, h.2, List.drop_zero, Nat.sub_zero, List.take_length]
theorem ev_slT {tl th : TO} {lo hi : Option Int} (ha : EvD K φ J te ρ (.tup ds)) (hl : EvO K φ J tl ρ lo) (hh : EvO K φ J th ρ hi) : EvD K φ J (tSl (rSlA K) te tl th) ρ (.tup (cutD ds lo hi)) := fun σ H A Q q =>
  ha σ H A _ fun v x H1 b1 A1 e1 r1 => hl σ H1 A1 _ fun H2 b2 A2 => hh σ H2 A2 _ fun H3 b3 A3 => by
    subst e1
    obtain ⟨a, vs, rfl, pl, rs⟩ := rep_tup ((r1.mono b2).mono b3)
    refine ⟨a, vs, rfl, pl.sq, fun hw => ?_, fun _ p hp => q _ _ _ (((b1.trans b2).trans b3).trans (But.of (same_new hp))) (A3.same (same_new hp)) rfl ⟨p, _, rfl, .inl ⟨A3.fr p hp, .inl upd_same⟩, (rs.mono (But.of (same_new hp))).cut lo hi⟩⟩
    rw [rs.length] at hw
    exact q _ _ _ ((b1.trans b2).trans b3) A3 rfl ⟨a, vs, rfl, pl, by rw [take_all hw]; exact rs⟩

/-! ### tuple + tuple, list + list -/
theorem o2_catT {es : List D} (hz : ds.length + es.length ≤ 1000000) : Op2 K φ (rCatA K) (.tup ds) (.tup es) (fun x => x = .tup (ds ++ es)) := fun H v w f r1 r2 Q q => by
  obtain ⟨a, vs, rfl, pa, ra⟩ := rep_tup r1
  obtain ⟨b, ws, rfl, pb, rb⟩ := rep_tup r2
  refine ⟨a, b, vs, ws, rfl, rfl, pa.sq, pb.sq, by rw [ra.length, rb.length]; exact sz hz, fun e => ?_, fun _ e => ?_, fun _ _ p hp => ?_⟩
  · subst e
    have e0 : ds = [] := List.eq_nil_of_length_eq_zero ra.length.symm
    subst e0
    exact q _ _ H (Same.refl H) rfl ⟨b, ws, rfl, pb, rb⟩
  · subst e
    have e0 : es = [] := List.eq_nil_of_length_eq_zero rb.length.symm
    subst e0
    exact q _ _ H (Same.refl H) rfl ⟨a, vs, rfl, pa, by rw [List.append_nil]; exact ra⟩
  · exact q _ _ _ (same_new hp) rfl ⟨p, _, rfl, .inl ⟨f p hp, .inl upd_same⟩, (ra.append rb).mono (But.of (same_new hp))⟩
theorem ev_catT (ha : EvD K φ J ta ρ (.tup ds)) (hb : EvD K φ J tb ρ (.tup es)) (hz : ds.length + es.length ≤ 1000000) : EvD K φ J (tOp (rCatA K) ta tb) ρ (.tup (ds ++ es)) := ev_opD ha hb (o2_catT hz)

/-! ### calls of built-ins -/
theorem ev_cb {ta : TA} {r : List V → Hp → VK → Prop} {Pr : List D → Prop} (ha : EvA K φ J ta ρ Pr) (hr : ∀ ds, Pr ds → Cl K φ r ds P) : EvP K φ J (tCB r ta) ρ P := fun σ H A Q q =>
  ha σ H A _ fun vs ds H1 b1 A1 pd r1 => hr ds pd H1 vs A1.fr r1 Q fun u z H2 s pz r2 => q u z H2 (b1.trans (But.of s)) (A1.same s) pz r2
theorem ev_cbD {ta : TA} {r : List V → Hp → VK → Prop} (ha : EvAD K φ J ta ρ ds) (hr : Cl K φ r ds P) : EvP K φ J (tCB r ta) ρ P := ev_cb ha fun ds' e => e ▸ hr
theorem Reps.one (h : Reps K φ H [d] vs) : ∃ v, vs = [v] ∧ Rep K φ H d v := by
  obtain ⟨v, r, rfl, h1, h2⟩ := (show ∃ v r, vs = v :: r ∧ Rep K φ H d v ∧ Reps K φ H [] r from h)
  have e : r = [] := h2
  subst e
  exact ⟨v, rfl, h1⟩
theorem Reps.two (h : Reps K φ H [d, x] vs) : ∃ v w, vs = [v, w] ∧ Rep K φ H d v ∧ Rep K φ H x w := by
  obtain ⟨v, r, rfl, h1, h2⟩ := (show ∃ v r, vs = v :: r ∧ Rep K φ H d v ∧ Reps K φ H [x] r from h)
  obtain ⟨w, rfl, h3⟩ := h2.one
  exact ⟨v, w, rfl, h1, h3⟩
def rLen (K : PySem.W.Frag) : List V → Hp → VK → Prop := fun xs H Q => ∃ p ys, xs = [.ref p] ∧ (SqL K H p ys ∨ SqT K H p ys) ∧ Q (.int ys.length) H
theorem c_len {X : Cx} : CallR X (.builtin "len") (rLen X.K) := call_len_seq
theorem cl_lenL : Cl K φ (rLen K) [.lst ds] (fun x => x = .int ds.length) := fun H vs f r Q q => by
  obtain ⟨v, rfl, r1⟩ := r.one
  obtain ⟨a, vs, rfl, p, rs⟩ := rep_lst r1
  exact ⟨a, vs, rfl, .inl p.sq, q _ _ H (Same.refl H) rfl (by rw [rs.length]; rfl)⟩
theorem cl_lenT : Cl K φ (rLen K) [.tup ds] (fun x => x = .int ds.length) := fun H vs f r Q q => by
  obtain ⟨v, rfl, r1⟩ := r.one
  obtain ⟨a, vs, rfl, p, rs⟩ := rep_tup r1
  exact ⟨a, vs, rfl, .inr p.sq, q _ _ H (Same.refl H) rfl (by rw [rs.length]; rfl)⟩
theorem ev_lenL (ha : EvD K φ J te ρ (.lst ds)) : EvD K φ J (tCB (rLen K) (tCons te tNil)) ρ (.int ds.length) := ev_cbD (ea_cons ha ea_nil) cl_lenL
theorem ev_lenT (ha : EvD K φ J te ρ (.tup ds)) : EvD K φ J (tCB (rLen K) (tCons te tNil)) ρ (.int ds.length) := ev_cbD (ea_cons ha ea_nil) cl_lenT
def rLenS : List V → Hp → VK → Prop := fun xs H Q => ∃ z, xs = [.str z] ∧ z.length ≤ sizeLine ∧ Q (.int z.length) H
theorem c_lenS {X : Cx} : CallR X (.builtin "len") rLenS := call_len_str
theorem ev_lenS (ha : EvD K φ J te ρ (.str s)) (hz : s.length ≤ 1000000) : EvD K φ J (tCB rLenS (tCons te tNil)) ρ (.int s.length) := ev_cbD (ea_cons ha ea_nil) fun H vs f r Q q => by
  obtain ⟨v, rfl, r1⟩ := r.one
  cases (show v = _ from r1)
  exact ⟨s, rfl, sz hz, q _ _ H (Same.refl H) rfl rfl⟩
def rInt1 : List V → Hp → VK → Prop := fun xs H Q => (∃ i, xs = [.int i] ∧ Q (.int i) H) ∨ ∃ k, xs = [.bl k] ∧ Q (.int (if k then 1 else 0)) H
theorem c_int1 {X : Cx} : CallR X (.type "int") rInt1 := call_int1
theorem cl_intI : Cl K φ rInt1 [.int i] (fun x => x = .int i) := fun H vs f r Q q => by
  obtain ⟨v, rfl, r1⟩ := r.one
  cases (show v = _ from r1)
  exact .inl ⟨i, rfl, q _ _ H (Same.refl H) rfl rfl⟩
theorem cl_intB : Cl K φ rInt1 [.bl b] (fun x => x = .int (if b then 1 else 0)) := fun H vs f r Q q => by
  obtain ⟨v, rfl, r1⟩ := r.one
  cases (show v = _ from r1)
  exact .inr ⟨b, rfl, q _ _ H (Same.refl H) rfl rfl⟩
theorem ev_intI (ha : EvD K φ J te ρ (.int i)) : EvD K φ J (tCB rInt1 (tCons te tNil)) ρ (.int i) := ev_cbD (ea_cons ha ea_nil) cl_intI
theorem ev_intB (ha : EvD K φ J te ρ (.bl b)) : EvD K φ J (tCB rInt1 (tCons te tNil)) ρ (.int (if b then 1 else 0)) := ev_cbD (ea_cons ha ea_nil) cl_intB
def rStrI : List V → Hp → VK → Prop := fun xs H Q => ∃ i, xs = [.int i] ∧ i.natAbs.log2 < 1920 ∧ Q (.str (toString i)) H
theorem c_strI {X : Cx} : CallR X (.type "str") rStrI := call_str_int
theorem ev_strI (ha : EvD K φ J te ρ (.int i)) (hz : i.natAbs.log2 < 1920) : EvD K φ J (tCB rStrI (tCons te tNil)) ρ (.str (toString i)) := ev_cbD (ea_cons ha ea_nil) fun H vs f r Q q => by
  obtain ⟨v, rfl, r1⟩ := r.one
  cases (show v = _ from r1)
  exact ⟨i, rfl, hz, q _ _ H (Same.refl H) rfl rfl⟩
def rListOf (K : PySem.W.Frag) : List V → Hp → VK → Prop := fun xs H Q => ∃ p ys, xs = [.ref p] ∧ (SqL K H p ys ∨ SqT K H p ys) ∧ ∀ l, H l = none → Q (.ref l) (upd H l (.lst ys))
theorem c_listOf {X : Cx} : CallR X (.type "list") (rListOf X.K) := call_list_of
theorem ev_listL (ha : EvD K φ J te ρ (.lst ds)) : EvD K φ J (tCB (rListOf K) (tCons te tNil)) ρ (.lst ds) := ev_cbD (ea_cons ha ea_nil) fun H vs f r Q q => by
  obtain ⟨v, rfl, r1⟩ := r.one
  obtain ⟨a, vs, rfl, p, rs⟩ := rep_lst r1
  exact ⟨a, vs, rfl, .inl p.sq, fun l hl => q _ _ _ (same_new hl) rfl ⟨l, vs, rfl, .inl ⟨f l hl, .inl upd_same⟩, rs.mono (But.of (same_new hl))⟩⟩
theorem ev_listT (ha : EvD K φ J te ρ (.tup ds)) : EvD K φ J (tCB (rListOf K) (tCons te tNil)) ρ (.lst ds) := ev_cbD (ea_cons ha ea_nil) fun H vs f r Q q => by
  obtain ⟨v, rfl, r1⟩ := r.one
  obtain ⟨a, vs, rfl, p, rs⟩ := rep_tup r1
  exact ⟨a, vs, rfl, .inr p.sq, fun l hl => q _ _ _ (same_new hl) rfl ⟨l, vs, rfl, .inl ⟨f l hl, .inl upd_same⟩, rs.mono (But.of (same_new hl))⟩⟩
def rTupOf (K : PySem.W.Frag) : List V → Hp → VK → Prop := fun xs H Q => ∃ p ys, xs = [.ref p] ∧ ((SqL K H p ys ∧ ∀ l, H l = none → Q (.ref l) (upd H l (.tup ys))) ∨ (SqT K H p ys ∧ Q (.ref p) H))
theorem c_tupOf {X : Cx} : CallR X (.type "tuple") (rTupOf X.K) := call_tuple_of
theorem cl_tupL : Cl K φ (rTupOf K) [.lst ds] (fun x => x = .tup ds) := fun H vs f r Q q => by
  obtain ⟨v, rfl, r1⟩ := r.one
  obtain ⟨a, vs, rfl, p, rs⟩ := rep_lst r1
  exact ⟨a, vs, rfl, .inl ⟨p.sq, fun l hl => q _ _ _ (same_new hl) rfl ⟨l, vs, rfl, .inl ⟨f l hl, .inl upd_same⟩, rs.mono (But.of (same_new hl))⟩⟩⟩
theorem ev_tupL (ha : EvD K φ J te ρ (.lst ds)) : EvD K φ J (tCB (rTupOf K) (tCons te tNil)) ρ (.tup ds) := ev_cbD (ea_cons ha ea_nil) cl_tupL
theorem ev_tupT (ha : EvD K φ J te ρ (.tup ds)) : EvD K φ J (tCB (rTupOf K) (tCons te tNil)) ρ (.tup ds) := ev_cbD (ea_cons ha ea_nil) fun H vs f r Q q => by
  obtain ⟨v, rfl, r1⟩ := r.one
  obtain ⟨a, vs, rfl, p, rs⟩ := rep_tup r1
  exact ⟨a, vs, rfl, .inr ⟨p.sq, q _ _ H (Same.refl H) rfl ⟨a, vs, rfl, p, rs⟩⟩⟩
def rAbs : List V → Hp → VK → Prop := fun xs H Q => ∃ i, xs = [.int i] ∧ Q (.int (if i < 0 then -i else i)) H
theorem c_abs {X : Cx} : CallR X (.builtin "abs") rAbs := call_abs
theorem abs_if (i : Int) : (if i < 0 then -i else i) = (i.natAbs : Int) := by split <;> omega
theorem ev_abs (ha : EvD K φ J te ρ (.int i)) : EvD K φ J (tCB rAbs (tCons te tNil)) ρ (.int (i.natAbs : Int)) := ev_cbD (ea_cons ha ea_nil) fun H vs f r Q q => by
  obtain ⟨v, rfl, r1⟩ := r.one
  cases (show v = _ from r1)
  exact ⟨i, rfl, q _ _ H (Same.refl H) rfl (by rw [abs_if]; rfl)⟩
def rMax2 : List V → Hp → VK → Prop := fun xs H Q => ∃ i j, xs = [.int i, .int j] ∧ Q (.int (if j > i then j else i)) H
def rMin2 : List V → Hp → VK → Prop := fun xs H Q => ∃ i j, xs = [.int i, .int j] ∧ Q (.int (if j < i then j else i)) H
theorem c_max2 {X : Cx} (hc : X.calm = true := by rfl) : CallR X (.builtin "max") rMax2 := call_max2 hc
theorem c_min2 {X : Cx} (hc : X.calm = true := by rfl) : CallR X (.builtin "min") rMin2 := call_min2 hc
theorem max_if (i j : Int) : (if j > i then j else i) = max i j := by split <;> omega
theorem min_if (i j : Int) : (if j < i then j else i) = min i j := by split <;> omega
theorem ev_max2 (ha : EvD K φ J ta ρ (.int i)) (hb : EvD K φ J tb ρ (.int j)) : EvD K φ J (tCB rMax2 (tCons ta (tCons tb tNil))) ρ (.int (max i j)) := ev_cbD (ea_cons ha (ea_cons hb ea_nil)) fun H vs f r Q q => by
  obtain ⟨v, w, rfl, r1, r2⟩ := r.two
  cases (show v = _ from r1)
  cases (show w = _ from r2)
  exact ⟨i, j, rfl, q _ _ H (Same.refl H) rfl (by rw [max_if]; rfl)⟩
theorem ev_min2 (ha : EvD K φ J ta ρ (.int i)) (hb : EvD K φ J tb ρ (.int j)) : EvD K φ J (tCB rMin2 (tCons ta (tCons tb tNil))) ρ (.int (min i j)) := ev_cbD (ea_cons ha (ea_cons hb ea_nil)) fun H vs f r Q q => by
  obtain ⟨v, w, rfl, r1, r2⟩ := r.two
  cases (show v = _ from r1)
  cases (show w = _ from r2)
  exact ⟨i, j, rfl, q _ _ H (Same.refl H) rfl (by rw [min_if]; rfl)⟩
theorem rep_ints {ns : List Int} (h : Rep K φ H (.lst (ns.map D.int)) v) : ∃ a, v = .ref a ∧ SqL K H a (ns.map V.int) := by
  obtain ⟨a, vs, rfl, p, r⟩ := rep_lst h
  exact ⟨a, rfl, r.ints ▸ p.sq⟩
theorem c_sum {X : Cx} (hc : X.calm = true := by rfl) : CallR X (.builtin "sum") (rSum X.K) := cr_sum hc
theorem ev_sum {ns : List Int} (ha : EvD K φ J te ρ (.lst (ns.map D.int))) : EvD K φ J (tCB (rSum K) (tCons te tNil)) ρ (.int ns.sum) := ev_cbD (ea_cons ha ea_nil) fun H vs f r Q q => by
  obtain ⟨v, rfl, r1⟩ := r.one
  obtain ⟨a, rfl, h⟩ := rep_ints r1
  exact ⟨a, ns, rfl, h, q _ _ H (Same.refl H) rfl rfl⟩
def rGcd1 : List V → Hp → VK → Prop := rGcd
theorem ev_gcd (ha : EvD K φ J ta ρ (.int i)) (hb : EvD K φ J tb ρ (.int j)) : EvD K φ J (tCB rGcd (tCons ta (tCons tb tNil))) ρ (.int ((Nat.gcd i.natAbs j.natAbs : Nat) : Int)) := ev_cbD (ea_cons ha (ea_cons hb ea_nil)) fun H vs f r Q q => by
  obtain ⟨v, w, rfl, r1, r2⟩ := r.two
  cases (show v = _ from r1)
  cases (show w = _ from r2)
  exact ⟨i, j, rfl, q _ _ H (Same.refl H) rfl rfl⟩

/-! ### isinstance -/
def tyD : D → String
  | .non => "NoneType"
  | .bl _ => "bool"
  | .int _ => "int"
  | .str _ => "str"
  | .tup _ => "tuple"
  | .lst _ => "list"
  | .raw _ => "?"
  | .dk _ _ => "dict"
  | .dt _ _ => "dict"
def isRaw : D → Bool
  | .raw _ => true
  | _ => false
theorem tyx_rep : ∀ {d : D}, Rep K φ H d v → isRaw d = false → TyX K H v (.type (tyD d))
  | .non, h, _ => by cases (show v = _ from h); exact .base .non
  | .bl b, h, _ => by cases (show v = _ from h); exact .base (.bl b)
  | .int b, h, _ => by cases (show v = _ from h); exact .base (.int b)
  | .str b, h, _ => by cases (show v = _ from h); exact .base (.str b)
  | .raw w, _, e => by cases e
  | .tup ds, h, _ => by
    obtain ⟨a, vs, rfl, p, _⟩ := rep_tup h
    exact .base (.tup p.at.2)
  | .dk ks ds, h, _ => by
    obtain ⟨a, vs, rfl, ⟨_, e, _⟩, _⟩ := (show ∃ a vs, v = .ref a ∧ (φ a ∧ H a = some (.dK (ks.zip vs)) ∧ ks.length = ds.length) ∧ Reps K φ H ds vs from h)
    exact .base (.dK e)
  | .dt ks ds, h, _ => by
    obtain ⟨a, vs, rfl, ⟨_, e, _⟩, _⟩ := (show ∃ a vs, v = .ref a ∧ (φ a ∧ H a = some (.dT (ks.zip vs)) ∧ ks.length = ds.length) ∧ Reps K φ H ds vs from h)
    exact .base (.dT e)
  | .lst ds, h, _ => by
    obtain ⟨a, vs, rfl, p, _⟩ := rep_lst h
    rcases p with ⟨_, p⟩ | ⟨o, its, n, hk, hc, _⟩
    · rcases p with p | ⟨o, p⟩
      · exact .base (.lst p)
      · exact .base (.frz p)
    · exact .kList hk hc
def isT (n : String) (d : D) : Bool := tyD d == n || (n == "int" && tyD d == "bool")
theorem kit_tab : ∀ t ∈ (["NoneType", "bool", "int", "str", "tuple", "list", "dict"] : List String), ∀ n ∈ (["tuple", "list", "bool", "int", "str", "dict"] : List String), kitB t n = some (t == n || (n == "int" && t == "bool")) := by decide +kernel
theorem ty_mem {d : D} (h : isRaw d = false) : tyD d ∈ (["NoneType", "bool", "int", "str", "tuple", "list", "dict"] : List String) := by
  cases d <;> first | (cases h; done) | simp [tyD]
theorem kit_all {d : D} {n : String} (hn : n ∈ (["tuple", "list", "bool", "int", "str", "dict"] : List String)) (h : isRaw d = false) : kitB (tyD d) n = some (isT n d) := kit_tab _ (ty_mem h) n hn
theorem ev_isi {n : String} (ha : EvD K φ J ta ρ x) (hb : EvD K φ J tb ρ (.raw (.ty n))) (hx : isRaw x = false) (hn : n ∈ (["tuple", "list", "bool", "int", "str", "dict"] : List String) := by simp) : EvD K φ J (tCB (rIsi K) (tCons ta (tCons tb tNil))) ρ (.bl (isT n x)) := ev_cbD (ea_cons ha (ea_cons hb ea_nil)) fun H vs f r Q q => by
  obtain ⟨v, w, rfl, r1, r2⟩ := r.two
  cases (show w = _ from r2)
  exact ⟨v, _, _, _, _, rfl, .ty n, tyx_rep r1 hx, kit_ty (kit_all hn hx), q _ _ H (Same.refl H) rfl rfl⟩
end
end DL
namespace DL
open PySem PySem.Spec PyProof.Rows L2

/-! ### the pool of draws -/
def PoolOk (p s : Addr) (ns : List Int) (H : Hp) : Prop := ∃ at_ cur cnt salt : Int, H p = some (.lst [.ref s, .int at_, .int cur, .int cnt, .int salt]) ∧ H s = some (.lst (ns.map V.int)) ∧ 0 ≤ at_
def ButP (p : Addr) (H H' : Hp) : Prop := ∀ a o, a ≠ p → H a = some o → H' a = some o
structure Pooled (φ : Addr → Prop) (J : Hp → Prop) (p s : Addr) (ns : List Int) : Prop where
  np : ¬ φ p
  ne : s ≠ p
  ok : ∀ H, J H → PoolOk p s ns H
  st : ∀ H H', J H → ButP p H H' → PoolOk p s ns H' → J H'
structure Ext (φ : Addr → Prop) (J : Hp → Prop) (φ' : Addr → Prop) (J' : Hp → Prop) : Prop where
  imp : ∀ H, J' H → J H
  pool : ∀ p s ns, Pooled φ J p s ns → Pooled φ' J' p s ns
  keep : ∀ a, φ a → (∀ H, J H → H a ≠ none) → φ' a
theorem Ext.refl {φ : Addr → Prop} {J : Hp → Prop} : Ext φ J φ J := ⟨fun _ h => h, fun _ _ _ h => h, fun _ p _ => p⟩
theorem Ext.trans {φ φ1 φ2 : Addr → Prop} {J J1 J2 : Hp → Prop} (a : Ext φ J φ1 J1) (b : Ext φ1 J1 φ2 J2) : Ext φ J φ2 J2 := ⟨fun H h => a.imp H (b.imp H h), fun p s ns h => b.pool p s ns (a.pool p s ns h), fun x p h => b.keep x (a.keep x p h) fun H j => h H (a.imp H j)⟩

/-! ### walks -/
def Walks (K : PySem.W.Frag) (φ : Addr → Prop) (J0 : It) (H : Hp) (ds : List D) : Prop := ∀ (φ' : Addr → Prop) (i : Nat) (H1 : Hp), Up φ φ' H H1 → Frm φ' H1 →
  (∀ d, ds[i]? = some d → J0.go i H1 ∧ ∀ x H2, J0.yld i H1 x H2 → Same H1 H2 ∧ Rep K φ' H2 d x) ∧ (i = ds.length → J0.stop i H1)
def IterP (K : PySem.W.Frag) (φ : Addr → Prop) (J : Hp → Prop) (wi : TI) (ρ : List (Option D)) (P : List D → Prop) : Prop := ∀ σ H, At K φ J ρ σ H → ∀ R : It → Hp → Prop, (∀ J0 ds H', But φ H H' → At K φ J ρ σ H' → P ds → Walks K φ J0 H' ds → R J0 H') → wi σ H R
abbrev IterD (K : PySem.W.Frag) (φ : Addr → Prop) (J : Hp → Prop) (wi : TI) (ρ : List (Option D)) (ds : List D) : Prop := IterP K φ J wi ρ fun x => x = ds
section
variable {K : PySem.W.Frag} {φ φ' : Addr → Prop} {J J' : Hp → Prop} {H H' H1 : Hp} {ρ ρ' : List (Option D)} {σ : L2.St} {ta tb te tc : TE} {x y z d : D} {P Pa Pb Pc : D → Prop} {i j : Int} {b c : Bool} {s t : Str} {ds es : List D} {v : V} {vs : List V} {a : Addr}
theorem IterP.imp {wi : TI} {P P' : List D → Prop} (h : IterP K φ J wi ρ P) (k : ∀ ds, P ds → P' ds) : IterP K φ J wi ρ P' := fun σ H A R q => h σ H A R fun J0 ds H' bt A' pd w => q J0 ds H' bt A' (k ds pd) w
theorem walks_list (p : PL K φ H a vs) (r : Reps K φ H ds vs) : Walks K φ (Itl K a) H ds := fun φ' i H1 u f => by
  have p1 := p.up u
  have r1 := Reps.up u ds vs r
  refine ⟨fun d hd => ?_, fun hi => ⟨vs, p1.sq, by rw [r1.length]; exact Nat.le_of_eq hi.symm⟩⟩
  obtain ⟨w, e, rw'⟩ := r1.get hd
  refine ⟨⟨vs, w, p1.sq, e⟩, fun x H2 hy => ?_⟩
  obtain ⟨rfl, hx⟩ := hy
  have e2 := hx vs p1.sq
  rw [e] at e2
  cases e2
  exact ⟨Same.refl _, rw'⟩
theorem walks_tup (p : PT K φ H a vs) (r : Reps K φ H ds vs) : Walks K φ (Itt K a) H ds := fun φ' i H1 u f => by
  have p1 := p.up u
  have r1 := Reps.up u ds vs r
  refine ⟨fun d hd => ?_, fun hi => ⟨vs, p1.sq, by rw [r1.length]; exact Nat.le_of_eq hi.symm⟩⟩
  obtain ⟨w, e, rw'⟩ := r1.get hd
  refine ⟨⟨vs, w, p1.sq, e⟩, fun x H2 hy => ?_⟩
  obtain ⟨rfl, hx⟩ := hy
  have e2 := hx vs p1.sq
  rw [e] at e2
  cases e2
  exact ⟨Same.refl _, rw'⟩
theorem it_list (h : EvD K φ J te ρ (.lst ds)) : IterD K φ J (iList K te) ρ ds := fun σ H A R q => h σ H A _ fun v d H1 b1 A1 e r => by
  subst e
  obtain ⟨a, vs, rfl, p, rs⟩ := rep_lst r
  exact ⟨a, rfl, ⟨vs, p.sq⟩, q _ ds H1 b1 A1 rfl (walks_list p rs)⟩
theorem it_listP {P : List D → Prop} (h : EvP K φ J te ρ (fun z => ∃ ds, z = .lst ds ∧ P ds)) : IterP K φ J (iList K te) ρ P := fun σ H A R q => h σ H A _ fun v d H1 b1 A1 ⟨ds, e, pd⟩ r => by
  subst e
  obtain ⟨a, vs, rfl, p, rs⟩ := rep_lst r
  exact ⟨a, rfl, ⟨vs, p.sq⟩, q _ ds H1 b1 A1 pd (walks_list p rs)⟩
theorem it_tup (h : EvD K φ J te ρ (.tup ds)) : IterD K φ J (iTup K te) ρ ds := fun σ H A R q => h σ H A _ fun v d H1 b1 A1 e r => by
  subst e
  obtain ⟨a, vs, rfl, p, rs⟩ := rep_tup r
  exact ⟨a, rfl, ⟨vs, p.sq⟩, q _ ds H1 b1 A1 rfl (walks_tup p rs)⟩
def rangeD (lo : Int) (n : Nat) : List D := (List.range n).map fun i => .int (lo + (i : Nat))
theorem rangeD_length {lo : Int} {n : Nat} : (rangeD lo n).length = n := by unfold rangeD; rw [List.length_map, List.length_range]
theorem rangeD_get {lo : Int} {n i : Nat} : (rangeD lo n)[i]? = if i < n then some (.int (lo + i)) else none := by
  unfold rangeD
  rw [List.getElem?_map]
  by_cases h : i < n
  · rw [List.getElem?_range h, if_pos h]
    rfl
  · rw [if_neg h, List.getElem?_eq_none (by rw [List.length_range]; omega)]
    rfl
theorem walks_range {lo : Int} {n : Nat} : Walks K φ (Itr lo n) H (rangeD lo n) := fun φ' i H1 u f => by
  refine ⟨fun d hd => ?_, fun hi => by rw [rangeD_length] at hi; exact Nat.le_of_eq hi.symm⟩
  rw [rangeD_get] at hd
  by_cases h : i < n
  · rw [if_pos h] at hd
    cases hd
    refine ⟨h, fun x H2 hy => ?_⟩
    obtain ⟨rfl, rfl⟩ := hy
    exact ⟨Same.refl _, rfl⟩
  · rw [if_neg h] at hd
    cases hd
theorem it_range1P {ta : TA} {p : Int → Prop} (h : EvA K φ J ta ρ (fun x => ∃ n, x = [.int n] ∧ p n)) (hn : ∀ n, p n → -(2 ^ 62) ≤ n ∧ n < 2 ^ 62) : IterP K φ J (iRng1 ta) ρ (fun x => ∃ n, p n ∧ x = rangeD 0 n.toNat) := fun σ H A R q => h σ H A _ fun vs ds H1 b1 A1 ⟨n, e, pn⟩ r => by
  subst e
  obtain ⟨v, rfl, r1⟩ := r.one
  cases (show v = _ from r1)
  exact ⟨n, rfl, (hn n pn).1, (hn n pn).2, q _ _ H1 b1 A1 ⟨n, pn, rfl⟩ walks_range⟩
theorem it_range1 {ta : TA} {n : Int} (h : EvAD K φ J ta ρ [.int n]) (hn : -(2 ^ 62) ≤ n ∧ n < 2 ^ 62) : IterD K φ J (iRng1 ta) ρ (rangeD 0 n.toNat) := fun σ H A R q => h σ H A _ fun vs ds H1 b1 A1 e r => by
  subst e
  obtain ⟨v, rfl, r1⟩ := r.one
  cases (show v = _ from r1)
  exact ⟨n, rfl, hn.1, hn.2, q _ _ H1 b1 A1 rfl walks_range⟩
theorem it_range2 {ta : TA} {m n : Int} (h : EvAD K φ J ta ρ [.int m, .int n]) (hn : (-(2 ^ 62) ≤ m ∧ m < 2 ^ 62) ∧ -(2 ^ 62) ≤ n ∧ n < 2 ^ 62) : IterD K φ J (iRng2 ta) ρ (rangeD m (n - m).toNat) := fun σ H A R q => h σ H A _ fun vs ds H1 b1 A1 e r => by
  subst e
  obtain ⟨v, w, rfl, r1, r2⟩ := r.two
  cases (show v = _ from r1)
  cases (show w = _ from r2)
  exact ⟨m, n, rfl, ⟨hn.1.1, hn.1.2, hn.2.1, hn.2.2⟩, q _ _ H1 b1 A1 rfl walks_range⟩
def enumD (k : Int) (ds : List D) : List D := ds.mapIdx fun i d => .tup [.int (k + (i : Nat)), d]
theorem enumD_length {k : Int} : (enumD k ds).length = ds.length := List.length_mapIdx
theorem enumD_get {k : Int} {i : Nat} : (enumD k ds)[i]? = (ds[i]?).map fun d => .tup [.int (k + (i : Nat)), d] := List.getElem?_mapIdx
theorem rep_pair {H : Hp} {T : Addr} {x1 x2 : V} {d1 d2 : D} (f : φ T) (h : H T = some (.tup [x1, x2])) (r1 : Rep K φ H d1 x1) (r2 : Rep K φ H d2 x2) : Rep K φ H (.tup [d1, d2]) (.ref T) := ⟨T, _, rfl, .inl ⟨f, .inl h⟩, Reps.cons r1 (Reps.cons r2 Reps.nil)⟩
theorem it_enum {ta : TA} (h : EvAD K φ J ta ρ [.lst ds]) : IterD K φ J (iEnum K ta) ρ (enumD 0 ds) := fun σ H A R q => h σ H A _ fun vs es H1 b1 A1 e r => by
  subst e
  obtain ⟨v, rfl, r1⟩ := r.one
  obtain ⟨a, vs, rfl, p, rs⟩ := rep_lst r1
  refine ⟨a, vs, rfl, p.sq, q _ _ H1 b1 A1 rfl fun φ' i H2 u f => ?_⟩
  have p1 := p.up u
  have r1 := Reps.up u ds vs rs
  refine ⟨fun d hd => ?_, fun hi => ⟨vs, p1.sq, by rw [r1.length]; rw [enumD_length] at hi; exact Nat.le_of_eq hi.symm⟩⟩
  rw [enumD_get] at hd
  cases hx : ds[i]? with
  | none => rw [hx] at hd; cases hd
  | some d0 =>
    rw [hx] at hd
    cases hd
    obtain ⟨w, e, rw'⟩ := r1.get hx
    refine ⟨⟨vs, w, p1.sq, e⟩, fun x H3 hy => ?_⟩
    obtain ⟨T, x1, rfl, hT, rfl, hx1⟩ := hy
    have e2 := hx1 vs p1.sq
    rw [e] at e2
    cases e2
    exact ⟨same_new hT, rep_pair (f T hT) upd_same (by show V.int _ = V.int _; congr 1; omega) (rw'.mono (But.of (same_new hT)))⟩
def zipD (ds es : List D) : List D := List.zipWith (fun a b => .tup [a, b]) ds es
theorem zipD_get {i : Nat} {d1 d2 : D} (h1 : ds[i]? = some d1) (h2 : es[i]? = some d2) : (zipD ds es)[i]? = some (.tup [d1, d2]) := by
  unfold zipD
  rw [List.getElem?_zipWith, h1, h2]
theorem zipD_getD {i : Nat} {d : D} (h : (zipD ds es)[i]? = some d) : ∃ d1 d2, ds[i]? = some d1 ∧ es[i]? = some d2 ∧ d = .tup [d1, d2] := by
  unfold zipD at h
  rw [List.getElem?_zipWith] at h
  cases h1 : ds[i]? with
  | none => rw [h1] at h; cases h
  | some d1 =>
    cases h2 : es[i]? with
    | none => rw [h1, h2] at h; cases h
    | some d2 =>
      rw [h1, h2] at h
      cases h
      exact ⟨d1, d2, rfl, rfl, rfl⟩
theorem it_zipL {ta : TA} (h : EvAD K φ J ta ρ [.lst ds, .lst es]) : IterD K φ J (RZ.iZipA K ta) ρ (zipD ds es) := fun σ H A R q => h σ H A _ fun vs fs H1 b1 A1 e r => by
  subst e
  obtain ⟨v, w, rfl, r1, r2⟩ := r.two
  obtain ⟨a, vs, rfl, p, rs⟩ := rep_lst r1
  obtain ⟨b, ws, rfl, p', rs'⟩ := rep_lst r2
  refine ⟨a, b, vs, ws, rfl, .inl ⟨p.sq, p'.sq, q _ _ H1 b1 A1 rfl fun φ' i H2 u f => ?_⟩⟩
  have p1 := p.up u
  have r1 := Reps.up u ds vs rs
  have p2 := p'.up u
  have r2 := Reps.up u es ws rs'
  refine ⟨fun d hd => ?_, fun hi => ⟨vs, ws, p1.sq, p2.sq, by rw [r1.length, r2.length]; unfold zipD at hi; rw [List.length_zipWith] at hi; omega⟩⟩
  obtain ⟨d1, d2, g1, g2, rfl⟩ := zipD_getD hd
  obtain ⟨v1, e1, q1⟩ := r1.get g1
  obtain ⟨v2, e2, q2⟩ := r2.get g2
  refine ⟨⟨vs, ws, v1, v2, p1.sq, p2.sq, e1, e2⟩, fun x H3 hy => ?_⟩
  obtain ⟨T, x1, x2, rfl, hT, rfl, hx1, hx2⟩ := hy
  have z1 := hx1 vs p1.sq
  have z2 := hx2 ws p2.sq
  rw [e1] at z1
  rw [e2] at z2
  cases z1
  cases z2
  exact ⟨same_new hT, rep_pair (f T hT) upd_same (q1.mono (But.of (same_new hT))) (q2.mono (But.of (same_new hT)))⟩
theorem it_zipT {ta : TA} (h : EvAD K φ J ta ρ [.tup ds, .tup es]) : IterD K φ J (RZ.iZipA K ta) ρ (zipD ds es) := fun σ H A R q => h σ H A _ fun vs fs H1 b1 A1 e r => by
  subst e
  obtain ⟨v, w, rfl, r1, r2⟩ := r.two
  obtain ⟨a, vs, rfl, p, rs⟩ := rep_tup r1
  obtain ⟨b, ws, rfl, p', rs'⟩ := rep_tup r2
  refine ⟨a, b, vs, ws, rfl, .inr ⟨p.sq, p'.sq, q _ _ H1 b1 A1 rfl fun φ' i H2 u f => ?_⟩⟩
  have p1 := p.up u
  have r1 := Reps.up u ds vs rs
  have p2 := p'.up u
  have r2 := Reps.up u es ws rs'
  refine ⟨fun d hd => ?_, fun hi => ⟨vs, ws, p1.sq, p2.sq, by rw [r1.length, r2.length]; unfold zipD at hi; rw [List.length_zipWith] at hi; omega⟩⟩
  obtain ⟨d1, d2, g1, g2, rfl⟩ := zipD_getD hd
  obtain ⟨v1, e1, q1⟩ := r1.get g1
  obtain ⟨v2, e2, q2⟩ := r2.get g2
  refine ⟨⟨vs, ws, v1, v2, p1.sq, p2.sq, e1, e2⟩, fun x H3 hy => ?_⟩
  obtain ⟨T, x1, x2, rfl, hT, rfl, hx1, hx2⟩ := hy
  have z1 := hx1 vs p1.sq
  have z2 := hx2 ws p2.sq
  rw [e1] at z1
  rw [e2] at z2
  cases z1
  cases z2
  exact ⟨same_new hT, rep_pair (f T hT) upd_same (q1.mono (But.of (same_new hT))) (q2.mono (But.of (same_new hT)))⟩
def strD (s : Str) : List D := s.cps.toList.map fun c => .str ⟨#[c]⟩
theorem it_str (h : EvD K φ J te ρ (.str s)) : IterD K φ J (iStr te) ρ (strD s) := fun σ H A R q => h σ H A _ fun v d H1 b1 A1 e r => by
  subst e
  cases (show v = _ from r)
  refine ⟨s, rfl, q _ _ H1 b1 A1 rfl fun φ' i H2 u f => ⟨fun d hd => ?_, fun hi => by unfold strD at hi; rw [List.length_map, Array.length_toList] at hi; exact Nat.le_of_eq hi.symm⟩⟩
  unfold strD at hd
  rw [List.getElem?_map] at hd
  cases hc : s.cps.toList[i]? with
  | none => rw [hc] at hd; cases hd
  | some c =>
    rw [hc] at hd
    cases hd
    have hc' : s.cps[i]? = some c := by rw [← hc]; simp
    obtain ⟨hi, _⟩ := Array.getElem?_eq_some_iff.mp hc'
    refine ⟨hi, fun x H3 hy => ?_⟩
    obtain ⟨rfl, c2, e2, rfl⟩ := hy
    rw [hc'] at e2
    cases e2
    exact ⟨Same.refl _, rfl⟩

/-! ### targets -/
def wipeR (ρ : List (Option D)) : List Nat → List (Option D)
  | [] => ρ
  | v :: vs => (wipeR ρ vs).set v none
theorem SR.none (i : Nat) (h : SR K φ H ρ σ) : SR K φ H (ρ.set i Option.none) (σ.set i Option.none) := by
  refine ⟨by rw [List.length_set, List.length_set]; exact h.1, fun j e hj => ?_⟩
  by_cases hij : i = j
  · subst hij
    by_cases hl : i < ρ.length
    · rw [List.getElem?_set_self hl] at hj
      cases hj
    · rw [List.getElem?_eq_none (by rw [List.length_set]; omega)] at hj
      cases hj
  · rw [List.getElem?_set_ne hij] at hj
    obtain ⟨w, e1, r1⟩ := h.2 j e hj
    exact ⟨w, by rw [List.getElem?_set_ne hij]; exact e1, r1⟩
theorem SR.wipe (h : SR K φ H ρ σ) : ∀ vs : List Nat, SR K φ H (wipeR ρ vs) (L2.wipe σ vs)
  | [] => h
  | v :: vs => SR.none v (SR.wipe h vs)
theorem wipe_set {i : Nat} {o : Option V} : ∀ {vs : List Nat}, i ∈ vs → L2.wipe (σ.set i o) vs = L2.wipe σ vs
  | v :: vs, h => by
    show (L2.wipe (σ.set i o) vs).set v none = (L2.wipe σ vs).set v none
    by_cases hi : i ∈ vs
    · rw [wipe_set hi]
    · have e : i = v := (List.mem_cons.mp h).resolve_right hi
      subst e
      have g : ∀ (us : List Nat), i ∉ us → L2.wipe (σ.set i o) us = (L2.wipe σ us).set i o := by
        intro us
        induction us with
        | nil => intro _; rfl
        | cons u us ih =>
          intro hu
          have h1 : i ≠ u := fun e => hu (by rw [e]; exact List.mem_cons_self)
          show (L2.wipe (σ.set i o) us).set u none = ((L2.wipe σ us).set u none).set i o
          rw [ih fun m => hu (List.mem_cons_of_mem _ m), List.set_comm _ _ h1]
      rw [g vs hi, List.set_set]
theorem wipe_get {j : Nat} : ∀ {vs : List Nat}, (L2.wipe σ vs)[j]? = if j ∈ vs then (σ[j]?).map (fun _ => none) else σ[j]?
  | [] => by simp [L2.wipe]
  | v :: vs => by
    show ((L2.wipe σ vs).set v none)[j]? = _
    rw [List.getElem?_set]
    by_cases e : v = j
    · subst e
      rw [if_pos rfl, if_pos List.mem_cons_self]
      rw [L2.wipe_length]
      by_cases h : v < σ.length
      · rw [if_pos h, List.getElem?_eq_getElem h]
        rfl
      · rw [if_neg h, List.getElem?_eq_none (by omega)]
        rfl
    · rw [if_neg e, wipe_get]
      have : (j ∈ v :: vs) ↔ j ∈ vs := by
        rw [List.mem_cons]
        exact ⟨fun z => z.resolve_left fun q => e q.symm, .inr⟩
      by_cases h : j ∈ vs
      · rw [if_pos h, if_pos (this.mpr h)]
      · rw [if_neg h, if_neg fun z => h (this.mp z)]
theorem wipe_wipe (vs : List Nat) : L2.wipe (L2.wipe σ vs) vs = L2.wipe σ vs := by
  apply List.ext_getElem?
  intro j
  rw [wipe_get]
  by_cases h : j ∈ vs
  · rw [if_pos h, wipe_get, if_pos h]
    cases σ[j]? <;> rfl
  · rw [if_neg h]
/-- a target: d is stored, ρ becomes ρ', the slots us are written -/
def EvG (K : PySem.W.Frag) (g : TG) (d : D) (ρ ρ' : List (Option D)) (us : List Nat) : Prop := ∀ (φ : Addr → Prop) (J : Hp → Prop) σ H v, At K φ J ρ σ H → Rep K φ H d v → ∀ Q : L2.St → Hp → Prop,
  (∀ σ', At K φ J ρ' σ' H → (∀ vs : List Nat, (∀ i ∈ us, i ∈ vs) → L2.wipe σ' vs = L2.wipe σ vs) → Q σ' H) → g v σ H Q
theorem eg_name {k : Nat} : EvG K (gName k) d ρ (ρ.set k (some d)) [k] := fun φ J σ H v A r Q q => q _ (A.set k r) fun vs h => wipe_set (h k (by simp))
def EvGs (K : PySem.W.Frag) (g : TGs) (ds : List D) (ρ ρ' : List (Option D)) (us : List Nat) : Prop := ∀ (φ : Addr → Prop) (J : Hp → Prop) σ H ws, At K φ J ρ σ H → Reps K φ H ds ws → ∀ Q : L2.St → Hp → Prop,
  (∀ σ', At K φ J ρ' σ' H → (∀ vs : List Nat, (∀ i ∈ us, i ∈ vs) → L2.wipe σ' vs = L2.wipe σ vs) → Q σ' H) → g ws σ H Q
theorem egs_nil : EvGs K gNil [] ρ ρ [] := fun φ J σ H ws A r Q q => ⟨r, q σ A fun _ _ => rfl⟩
theorem egs_cons {g : TG} {gs : TGs} {ρ1 ρ2 : List (Option D)} {us ws : List Nat} (h : EvG K g d ρ ρ1 us) (hs : EvGs K gs ds ρ1 ρ2 ws) : EvGs K (gCons g gs) (d :: ds) ρ ρ2 (us ++ ws) := fun φ J σ H xs A r Q q => by
  obtain ⟨v, r', rfl, h1, h2⟩ := (show ∃ v r, xs = v :: r ∧ Rep K φ H d v ∧ Reps K φ H ds r from r)
  refine ⟨v, r', rfl, h φ J σ H v A h1 _ fun σ1 A1 w1 => hs φ J σ1 H r' A1 h2 Q fun σ2 A2 w2 => q σ2 A2 fun vs hv => ?_⟩
  rw [w2 vs fun i hi => hv i (List.mem_append_right _ hi), w1 vs fun i hi => hv i (List.mem_append_left _ hi)]
theorem eg_tup {gs : TGs} {us : List Nat} (h : EvGs K gs ds ρ ρ' us) : EvG K (gTup K ds.length gs) (.tup ds) ρ ρ' us := fun φ J σ H v A r Q q => by
  obtain ⟨a, vs, rfl, p, rs⟩ := rep_tup r
  exact ⟨a, vs, rfl, p.sq, rs.length, h φ J σ H vs A rs Q q⟩

/-! ### list comprehensions -/
inductive Comp (pt : D → Bool → Prop) (pe : D → D → Prop) : List D → List D → Prop where
  | nil : Comp pt pe [] []
  | take {d y : D} {ds ys : List D} : pt d true → pe d y → Comp pt pe ds ys → Comp pt pe (d :: ds) (y :: ys)
  | skip {d : D} {ds ys : List D} : pt d false → Comp pt pe ds ys → Comp pt pe (d :: ds) ys
theorem Comp.snoc1 {pt : D → Bool → Prop} {pe : D → D → Prop} : ∀ {ds ys : List D}, Comp pt pe ds ys → pt d true → pe d y → Comp pt pe (ds ++ [d]) (ys ++ [y])
  | _, _, .nil, h, k => .take h k .nil
  | _, _, .take a b c, h, k => .take a b (Comp.snoc1 c h k)
  | _, _, .skip a c, h, k => .skip a (Comp.snoc1 c h k)
theorem Comp.snoc0 {pt : D → Bool → Prop} {pe : D → D → Prop} : ∀ {ds ys : List D}, Comp pt pe ds ys → pt d false → Comp pt pe (ds ++ [d]) ys
  | _, _, .nil, h => .skip h .nil
  | _, _, .take a b c, h => .take a b (Comp.snoc0 c h)
  | _, _, .skip a c, h => .skip a (Comp.snoc0 c h)
theorem Comp.map {f : D → D} : ∀ {ds ys : List D}, Comp (fun _ b => b = true) (fun d y => y = f d) ds ys → ys = ds.map f
  | _, _, .nil => rfl
  | _, _, .take _ e c => by rw [e, c.map]; rfl
  | _, _, .skip e _ => by cases e
theorem Comp.filter {p : D → Bool} {f : D → D} : ∀ {ds ys : List D}, Comp (fun d b => b = p d) (fun d y => y = f d) ds ys → ys = (ds.filter p).map f
  | _, _, .nil => rfl
  | _, _, .take e1 e c => by rw [List.filter_cons, if_pos e1.symm, e, c.filter]; rfl
  | _, _, .skip e c => by rw [List.filter_cons, if_neg (by rw [← e]; simp), c.filter]
theorem Comp.len {pt : D → Bool → Prop} {pe : D → D → Prop} : ∀ {ds ys : List D}, Comp pt pe ds ys → ys.length ≤ ds.length
  | _, _, .nil => Nat.le_refl _
  | _, _, .take _ _ c => Nat.succ_le_succ c.len
  | _, _, .skip _ c => Nat.le_succ_of_le c.len
theorem Comp.all {pe : D → D → Prop} : ∀ {ds ys : List D}, Comp (fun _ b => b = true) pe ds ys → ys.length = ds.length ∧ ∀ y ∈ ys, ∃ d ∈ ds, pe d y
  | _, _, .nil => ⟨rfl, fun _ h => by simp at h⟩
  | _, _, .take _ e c => ⟨by rw [List.length_cons, List.length_cons, c.all.1], fun z h => by
    rcases List.mem_cons.mp h with rfl | h
    · exact ⟨_, List.mem_cons_self, e⟩
    · obtain ⟨d, hd, p⟩ := c.all.2 z h
      exact ⟨d, List.mem_cons_of_mem _ hd, p⟩⟩
  | _, _, .skip e _ => by cases e
theorem ev_lcP {wi : TI} {g : TG} {tt : TT} {te : TE} {ws us : List Nat} {Pi : List D → Prop} {ρd : D → List (Option D)} {pt : D → Bool → Prop} {pe : D → D → Prop} (hi : IterP K φ J wi ρ Pi) (hl : ∀ ds, Pi ds → ds.length ≤ 1000000) (hu : ∀ i ∈ us, i ∈ ws)
    (hg : ∀ ds, Pi ds → ∀ d ∈ ds, EvG K g d (wipeR ρ ws) (ρd d) us)
    (ht : ∀ ds, Pi ds → ∀ d ∈ ds, ∀ φ' J', Ext φ J φ' J' → EvT K φ' J' tt (ρd d) (pt d))
    (he : ∀ ds, Pi ds → ∀ d ∈ ds, pt d true → ∀ φ' J', Ext φ J φ' J' → EvP K φ' J' te (ρd d) (pe d)) :
    EvP K φ J (tLc wi g tt te ws) ρ (fun z => ∃ ds ys, Pi ds ∧ z = .lst ys ∧ Comp pt pe ds ys) := fun σ H A Q q => by
  refine hi σ H A _ fun J0 ds H1 b1 A1 pd w => ?_
  intro D0 hD
  -- inside: the list at D0 is live
  have neP : ∀ p s ns, Pooled φ J p s ns → p ≠ D0 := fun p s ns hp => by
    obtain ⟨a1, a2, a3, a4, h1, _⟩ := hp.ok _ A1.j
    exact ne_of_none h1 hD
  let φ' : Addr → Prop := fun a => φ a ∧ a ≠ D0
  have ext : ∀ acc : List V, Ext φ J φ' (fun H => J H ∧ H D0 = some (.lst acc)) := fun acc => ⟨fun _ h => h.1, fun p s ns hp => ⟨fun z => hp.np z.1, hp.ne, fun H h => hp.ok H h.1, fun H H' h k o => ⟨hp.st H H' h.1 k o, k _ _ (neP p s ns hp).symm h.2⟩⟩, fun a p h => ⟨p, fun e => h H1 A1.j (by rw [e]; exact hD)⟩⟩
  have mono : ∀ (acc : List V) (H2 : Hp), (∀ a, H1 a ≠ none → H2 a ≠ none) → H2 D0 ≠ none → Mo H2 (fun H => J H ∧ H D0 = some (.lst acc)) := fun acc H2 s h => (A1.mono.up s).and (Mo.at h)
  refine ⟨fun i m H2 => m = ds.length - i ∧ i ≤ ds.length ∧ But φ H1 H2 ∧ ∃ acc ys, Reps K φ' H2 ys acc ∧ Comp pt pe (ds.take i) ys ∧ At K φ' (fun H => J H ∧ H D0 = some (.lst acc)) (wipeR ρ ws) (L2.wipe σ ws) H2,
    ⟨ds.length, rfl, Nat.zero_le _, But.of (same_new hD), [], [], Reps.nil, .nil, ?_⟩, ?_⟩
  · have A2 := A1.newLive (o := .lst []) (J' := fun H => J H ∧ H D0 = some (.lst [])) hD ⟨A1.mono _ _ (fun a o _ e => same_new hD a o e) A1.j, upd_same⟩ (mono [] _ upd_tr (by rw [upd_same]; exact fun z => by cases z))
    exact ⟨A2.sr.wipe ws, A2.fr, A2.j, A2.mono⟩
  · rintro i m H2 ⟨rfl, hi, b2, acc, ys, rs, cp, A2⟩
    have upw : Up φ φ' H1 H2 := fun a o p e => ⟨⟨p, ne_of_none e hD⟩, b2.keep a o p e⟩
    have fr2 : Frm φ' H2 := A2.fr
    obtain ⟨wg, wstop⟩ := w φ' i H2 upw fr2
    by_cases hlt : i < ds.length
    · have hd : ds[i]? = some ds[i] := List.getElem?_eq_getElem hlt
      obtain ⟨go, yl⟩ := wg _ hd
      refine .inr ⟨go, fun H3 => But φ H1 H3 ∧ ∃ acc ys, Reps K φ' H3 ys acc ∧ Comp pt pe (ds.take (i + 1)) ys ∧ At K φ' (fun H => J H ∧ H D0 = some (.lst acc)) (wipeR ρ ws) (L2.wipe σ ws) H3, ?_, ?_⟩
      · rintro H3 ⟨b3, acc3, ys3, r3, c3, A3⟩
        exact ⟨ds.length - (i + 1), by omega, rfl, hlt, b3, acc3, ys3, r3, c3, A3⟩
      · intro x H3 hy
        obtain ⟨s3, r3⟩ := yl x H3 hy
        have A3 := A2.same s3
        have rs3 := rs.mono (But.of (φ := φ') s3)
        have b3 : But φ H1 H3 := b2.trans (But.of s3)
        have hmem : ds[i] ∈ ds := List.getElem_mem hlt
        have tk : ds.take (i + 1) = ds.take i ++ [ds[i]] := by rw [List.take_add_one, hd]; rfl
        refine hg ds pd _ hmem φ' _ _ H3 x A3 r3 _ fun σ4 A4 hw4 => ⟨?_, ?_⟩
        · rw [hw4 ws hu]
          exact wipe_wipe ws
        · refine ht ds pd _ hmem φ' _ (ext acc) σ4 H3 A4 _ fun bb H5 b5 A5 hp => ?_
          have b35 : But φ H1 H5 := ⟨fun a o p e => b5.keep a o ⟨p, ne_of_none e hD⟩ (b3.keep a o p e), fun a h => b5.tr a (b3.tr a h)⟩
          have A5' : At K φ' (fun H => J H ∧ H D0 = some (.lst acc)) (wipeR ρ ws) (L2.wipe σ ws) H5 := ⟨A3.sr.up (Up.of b5), A5.fr, A5.j, A5.mono⟩
          cases bb with
          | false =>
            rw [if_neg (by simp)]
            exact ⟨b35, acc, ys, rs3.mono b5, by rw [tk]; exact cp.snoc0 hp, A5'⟩
          | true =>
            rw [if_pos rfl]
            refine he ds pd _ hmem hp φ' _ (ext acc) σ4 H5 A5 _ fun v d H6 b6 A6 pv r6 => ?_
            have rl := (rs3.mono b5).mono b6
            have nD : ¬ φ' D0 := fun z => z.2 rfl
            have cl := cp.len
            refine ⟨acc, A6.j.2, ?_, ?_, acc ++ [v], ys ++ [d], ?_, by rw [tk]; exact cp.snoc1 hp pv, ?_⟩
            · rw [rl.length]
              have h1 := hl ds pd
              rw [List.length_take] at cl
              exact szlt (by omega)
            · refine ⟨fun a o p e => ?_, fun a h => upd_tr a (b6.tr a (b35.tr a h))⟩
              have ne := ne_of_none e hD
              rw [upd_ne ne]
              exact b6.keep a o ⟨p, ne⟩ (b35.keep a o p e)
            · exact (rl.append (Reps.cons r6 Reps.nil)).mono ((But.refl φ' H6).upd nD)
            · have A6' : At K φ' (fun H => J H ∧ H D0 = some (.lst acc)) (wipeR ρ ws) (L2.wipe σ ws) H6 := ⟨A5'.sr.up (Up.of b6), A6.fr, A6.j, A6.mono⟩
              have jj : J (upd H6 D0 (.lst (acc ++ [v]))) := A1.mono H6 _ (fun a o h e => by
                rw [upd_ne (show a ≠ D0 from fun z => h (by rw [z]; exact hD))]
                exact e) A6.j.1
              exact A6'.upd nD ⟨jj, upd_same⟩ (mono _ _ (fun a h => upd_tr a (b6.tr a (b35.tr a h))) (by rw [upd_same]; exact fun z => by cases z))
    · have e : i = ds.length := by omega
      subst e
      refine .inl ⟨wstop rfl, ?_⟩
      rw [List.take_length] at cp
      have A3 : At K φ J ρ σ H2 := ⟨A1.sr.up (Up.of b2), A2.fr.fst, A2.j.1, A1.mono.up b2.tr⟩
      refine q _ (.lst ys) H2 (b1.trans b2) A3 ⟨ds, ys, pd, rfl, cp⟩ ⟨D0, acc, rfl, .inl ⟨A1.fr D0 hD, .inl A2.j.2⟩, ?_⟩
      exact Reps.up (fun a o p e => ⟨p.1, e⟩) ys acc rs
end
end DL
namespace DL
open PySem PySem.Spec PyProof.Rows L2

section
variable {K : PySem.W.Frag} {φ φ' : Addr → Prop} {J J' : Hp → Prop} {H H' H1 : Hp} {ρ ρ' : List (Option D)} {σ : L2.St} {ta tb te tc : TE} {x y z d : D} {P Pa Pb Pc : D → Prop} {i j : Int} {b c : Bool} {ds es : List D} {v : V} {vs : List V} {a : Addr} {D0 : Ends} {t u : TS}

/-! ### comprehensions, by one name -/
/-- [e for x in ds]: all by f -/
theorem ev_lc {wi : TI} {te : TE} {k : Nat} {f : D → D} (hi : IterD K φ J wi ρ ds) (hl : ds.length ≤ 1000000) (he : ∀ d ∈ ds, ∀ φ' J', Ext φ J φ' J' → EvD K φ' J' te ((wipeR ρ [k]).set k (some d)) (f d)) :
    EvD K φ J (tLc wi (gName k) tYes te [k]) ρ (.lst (ds.map f)) :=
  (ev_lcP (ρd := fun d => (wipeR ρ [k]).set k (some d)) (us := [k]) (pt := fun _ b => b = true) (pe := fun d y => y = f d) hi (fun ds' e => by rw [e]; exact hl) (fun _ h => h) (fun _ _ d _ => eg_name)
    (fun _ _ d _ φ' J' _ σ H A Q q => q true H (But.refl _ _) A rfl) (fun ds' e d hd _ φ' J' x => he d (e ▸ hd) φ' J' x)).imp fun z ⟨ds', ys, e1, e2, c⟩ => by
      subst e1
      rw [e2, c.map]
/-- [e for x in ds if t] -/
theorem ev_lcF {wi : TI} {tt : TT} {te : TE} {k : Nat} {p : D → Bool} {f : D → D} (hi : IterD K φ J wi ρ ds) (hl : ds.length ≤ 1000000) (ht : ∀ d ∈ ds, ∀ φ' J', Ext φ J φ' J' → EvX K φ' J' tt ((wipeR ρ [k]).set k (some d)) (p d))
    (he : ∀ d ∈ ds, p d = true → ∀ φ' J', Ext φ J φ' J' → EvD K φ' J' te ((wipeR ρ [k]).set k (some d)) (f d)) :
    EvD K φ J (tLc wi (gName k) tt te [k]) ρ (.lst ((ds.filter p).map f)) :=
  (ev_lcP (ρd := fun d => (wipeR ρ [k]).set k (some d)) (us := [k]) (pt := fun d b => b = p d) (pe := fun d y => y = f d) hi (fun ds' e => by rw [e]; exact hl) (fun _ h => h) (fun _ _ d _ => eg_name)
    (fun ds' e d hd φ' J' x => ht d (e ▸ hd) φ' J' x) (fun ds' e d hd pd φ' J' x => he d (e ▸ hd) pd.symm φ' J' x)).imp fun z ⟨ds', ys, e1, e2, c⟩ => by
      subst e1
      rw [e2, c.filter]
theorem et_yes : EvT K φ J tYes ρ (fun b => b = true) := fun σ H A Q q => q true H (But.refl _ _) A rfl
/-- any element: a property of each -/
theorem ev_lcE {wi : TI} {te : TE} {k : Nat} {Pi : List D → Prop} {pe : D → D → Prop} (hi : IterP K φ J wi ρ Pi) (hl : ∀ ds, Pi ds → ds.length ≤ 1000000) (he : ∀ ds, Pi ds → ∀ d ∈ ds, ∀ φ' J', Ext φ J φ' J' → EvP K φ' J' te ((wipeR ρ [k]).set k (some d)) (pe d)) :
    EvP K φ J (tLc wi (gName k) tYes te [k]) ρ (fun z => ∃ ds ys, Pi ds ∧ z = .lst ys ∧ Comp (fun _ b => b = true) pe ds ys) :=
  ev_lcP (ρd := fun d => (wipeR ρ [k]).set k (some d)) (us := [k]) hi hl (fun _ h => h) (fun _ _ d _ => eg_name) (fun _ _ d _ φ' J' _ => et_yes) (fun ds' e d hd _ φ' J' x => he ds' e d hd φ' J' x)

/-! ### statements -/
theorem q (h : t { D0 with nx := u D0 } σ H) : tSeq t u D0 σ H := h
theorem st_next (h : D0.nx σ H) : tNext D0 σ H := h
theorem st_asg {k : Nat} (A : At K φ J ρ σ H) (h : EvP K φ J te ρ P) (kk : ∀ d σ' H', P d → At K φ J (ρ.set k (some d)) σ' H' → D0.nx σ' H') : tAsg te (gName k) D0 σ H :=
  h σ H A _ fun v d H' b A' pd r => kk d _ H' pd (A'.set k r)
/-- .. where the value is known -/
theorem st_set {k : Nat} (A : At K φ J ρ σ H) (h : EvD K φ J te ρ d) (kk : ∀ σ' H', At K φ J (ρ.set k (some d)) σ' H' → D0.nx σ' H') : tAsg te (gName k) D0 σ H :=
  st_asg A h fun d' σ' H' e A' => kk σ' H' (e ▸ A')
theorem st_asgG {g : TG} {us : List Nat} {ρ2 : D → List (Option D)} (A : At K φ J ρ σ H) (h : EvP K φ J te ρ P) (hg : ∀ d, P d → EvG K g d ρ (ρ2 d) us) (kk : ∀ d σ' H', P d → At K φ J (ρ2 d) σ' H' → D0.nx σ' H') : tAsg te g D0 σ H :=
  h σ H A _ fun v d H' b A' pd r => hg d pd φ J σ H' v A' r _ fun σ' A2 _ => kk d σ' H' pd A2
theorem st_ret (A : At K φ J ρ σ H) (h : EvP K φ J te ρ P) (kk : ∀ v d H', P d → At K φ J ρ σ H' → Rep K φ H' d v → D0.rt v H') : tRet te D0 σ H :=
  h σ H A _ fun v d H' b A' pd r => kk v d H' pd A' r
theorem st_retN (h : D0.rt .non H) : tRetN D0 σ H := h
theorem st_drop (A : At K φ J ρ σ H) (h : EvP K φ J te ρ P) (kk : ∀ d H', P d → At K φ J ρ σ H' → D0.nx σ H') : tDrop te D0 σ H :=
  h σ H A _ fun v d H' b A' pd r => kk d H' pd A'
theorem st_if {tt : TT} {p : Bool → Prop} (A : At K φ J ρ σ H) (h : EvT K φ J tt ρ p) (k1 : p true → ∀ H', At K φ J ρ σ H' → t D0 σ H') (k2 : p false → ∀ H', At K φ J ρ σ H' → u D0 σ H') : tIfS tt t u D0 σ H :=
  h σ H A _ fun b H' bt A' pb => by
    cases b with
    | true =>
      rw [if_pos rfl]
      exact k1 pb H' A'
    | false =>
      rw [if_neg (by simp)]
      exact k2 pb H' A'
/-- the test is known -/
theorem st_yes {tt : TT} (A : At K φ J ρ σ H) (h : EvX K φ J tt ρ b) (e : b = true) (k1 : ∀ H', At K φ J ρ σ H' → t D0 σ H') : tIfS tt t u D0 σ H :=
  st_if A h (fun _ H' A' => k1 H' A') fun z => by rw [e] at z; cases z
theorem st_no {tt : TT} (A : At K φ J ρ σ H) (h : EvX K φ J tt ρ b) (e : b = false) (k2 : ∀ H', At K φ J ρ σ H' → u D0 σ H') : tIfS tt t u D0 σ H :=
  st_if A h (fun z => by rw [e] at z; cases z) fun _ H' A' => k2 H' A'
theorem st_aug {k : Nat} {f : Int → Int → Int} (A : At K φ J ρ σ H) (hx : ρ[k]? = some (some (.int i))) (h : EvD K φ J te ρ (.int j)) (kk : ∀ σ' H', At K φ J (ρ.set k (some (.int (f i j)))) σ' H' → D0.nx σ' H') : tAug k te (ipI f) D0 σ H := by
  obtain ⟨v, e, r⟩ := A.sr.2 k _ hx
  cases (show v = _ from r)
  refine ⟨_, e, h σ H A _ fun w d H' b A' pd r' => ?_⟩
  subst pd
  exact ⟨i, j, rfl, r', kk _ H' (A'.set k rfl)⟩

/-! ### for -/
def NX (K : PySem.W.Frag) (φ : Addr → Prop) (H1 : Hp) (Inv : Nat → List (Option D) → (Hp → Prop) → Prop) (i : Nat) : L2.St → Hp → Prop := fun σ H => ∃ ρ'' J'', Inv i ρ'' J'' ∧ At K φ (fun H => J'' H ∧ But φ H1 H) ρ'' σ H
theorem NX.go {Inv : Nat → List (Option D) → (Hp → Prop) → Prop} {n : Nat} (A : At K φ (fun H => J H ∧ But φ H1 H) ρ σ H) (h : Inv n ρ J) : NX K φ H1 Inv n σ H := ⟨ρ, J, h, A⟩
theorem Ext.but {H1 : Hp} (h : ∀ p s ns, Pooled φ J p s ns → H1 p ≠ none) : Ext φ J φ (fun H => J H ∧ But φ H1 H) := ⟨fun _ h => h.1, fun p s ns hp => ⟨hp.np, hp.ne, fun H h => hp.ok H h.1, fun H H' hh k o => ⟨hp.st H H' hh.1 k o, ⟨fun a u pa e => k a u (fun z => hp.np (z ▸ pa)) (hh.2.keep a u pa e), fun a ha => by
  by_cases z : a = p
  · subst z
    obtain ⟨_, _, _, _, e, _⟩ := o
    rw [e]
    exact fun z => by cases z
  · cases e : H a with
    | none => exact absurd e (hh.2.tr a ha)
    | some u => rw [k a u z e]; exact fun z => by cases z⟩⟩⟩, fun _ p _ => p⟩
theorem Ext.but' {H1 : Hp} : Ext φ J φ (fun H => J H ∧ But φ H1 H) := ⟨fun _ h => h.1, fun p s ns hp => ⟨hp.np, hp.ne, fun H h => hp.ok H h.1, fun H H' hh k o => ⟨hp.st H H' hh.1 k o, ⟨fun a u pa e => k a u (fun z => hp.np (z ▸ pa)) (hh.2.keep a u pa e), fun a ha => by
  by_cases z : a = p
  · subst z
    obtain ⟨_, _, _, _, e, _⟩ := o
    rw [e]
    exact fun z => by cases z
  · cases e : H a with
    | none => exact absurd e (hh.2.tr a ha)
    | some u => rw [k a u z e]; exact fun z => by cases z⟩⟩⟩, fun _ p _ => p⟩
def ForG (K : PySem.W.Frag) (φ : Addr → Prop) (g : TG) (tb : TS) (ds : List D) (D0 : Ends) (σ : L2.St) (H1 : Hp) : Prop := ∀ J0, Walks K φ J0 H1 ds → ∃ W : Nat → Nat → L2.St → Hp → Prop, (∃ m, W 0 m σ H1) ∧ ∀ i m σ H, W i m σ H →
  (J0.stop i H ∧ D0.nx σ H) ∨ (J0.go i H ∧ ∃ N : L2.St → Hp → Prop, (∀ σ' H', N σ' H' → ∃ m', m' < m ∧ W (i + 1) m' σ' H') ∧ ∀ x H', J0.yld i H x H' → g x σ H' fun σ2 H2 => tb { D0 with nx := N, ct := N, bk := D0.nx } σ2 H2)
theorem st_forP {wi : TI} {g : TG} {tb : TS} {Pi : List D → Prop} (A : At K φ J ρ σ H) (hi : IterP K φ J wi ρ Pi) (k : ∀ ds H1, Pi ds → At K φ J ρ σ H1 → ForG K φ g tb ds D0 σ H1) : tFor wi g tb D0 σ H :=
  hi σ H A _ fun J0 ds H1 b A1 pd w => k ds H1 pd A1 J0 w
theorem forG_by {g : TG} {tb : TS} (A : At K φ J ρ σ H1) (Inv : Nat → List (Option D) → (Hp → Prop) → Prop) (h0 : Inv 0 ρ J)
    (hs : ∀ i d ρ' J', ds[i]? = some d → Inv i ρ' J' → ∃ ρ2 us, EvG K g d ρ' ρ2 us ∧ ∀ σ' H', At K φ (fun H => J' H ∧ But φ H1 H) ρ2 σ' H' → tb { D0 with nx := NX K φ H1 Inv (i + 1), ct := NX K φ H1 Inv (i + 1), bk := D0.nx } σ' H')
    (hd : ∀ ρ' J' σ' H', Inv ds.length ρ' J' → At K φ (fun H => J' H ∧ But φ H1 H) ρ' σ' H' → D0.nx σ' H') : ForG K φ g tb ds D0 σ H1 := fun J0 w => by
  refine ⟨fun i m σ H => m = ds.length - i ∧ i ≤ ds.length ∧ NX K φ H1 Inv i σ H, ⟨ds.length, rfl, Nat.zero_le _, ρ, J, h0, A.live ⟨A.j, But.refl _ _⟩ (A.mono.and (Mo.but fun _ h => h))⟩, ?_⟩
  rintro i m σ2 H2 ⟨rfl, hi, ρ2, J2, inv, A2⟩
  obtain ⟨wg, ws⟩ := w φ i H2 (Up.of A2.j.2) A2.fr
  by_cases hlt : i < ds.length
  · have hx : ds[i]? = some ds[i] := List.getElem?_eq_getElem hlt
    obtain ⟨go, yl⟩ := wg _ hx
    obtain ⟨ρ3, us, eg, body⟩ := hs i _ ρ2 J2 hx inv
    refine .inr ⟨go, NX K φ H1 Inv (i + 1), fun σ' H' n => ⟨ds.length - (i + 1), by omega, rfl, hlt, n⟩, fun x H3 hy => ?_⟩
    obtain ⟨s3, r3⟩ := yl x H3 hy
    exact eg φ _ σ2 H3 x (A2.same s3) r3 _ fun σ4 A4 _ => body σ4 H3 A4
  · have e : i = ds.length := by omega
    subst e
    exact .inl ⟨ws rfl, hd ρ2 J2 σ2 H2 inv A2⟩
/-- by one name -/
theorem st_for {wi : TI} {tb : TS} {k : Nat} (A : At K φ J ρ σ H) (hi : IterD K φ J wi ρ ds) (Inv : Nat → List (Option D) → (Hp → Prop) → Prop) (h0 : Inv 0 ρ J)
    (hs : ∀ H1 i d ρ' J', But φ H H1 → J H1 → ds[i]? = some d → Inv i ρ' J' → ∀ σ' H', At K φ (fun H => J' H ∧ But φ H1 H) (ρ'.set k (some d)) σ' H' → tb { D0 with nx := NX K φ H1 Inv (i + 1), ct := NX K φ H1 Inv (i + 1), bk := D0.nx } σ' H')
    (hd : ∀ H1 ρ' J' σ' H', But φ H H1 → J H1 → Inv ds.length ρ' J' → At K φ (fun H => J' H ∧ But φ H1 H) ρ' σ' H' → D0.nx σ' H') : tFor wi (gName k) tb D0 σ H :=
  hi σ H A _ fun J0 ds' H1 b A1 pd w => by
    subst pd
    exact forG_by (D0 := D0) A1 Inv h0 (fun i d ρ' J' hx inv => ⟨_, _, eg_name, fun σ' H' A' => hs H1 i d ρ' J' b A1.j hx inv σ' H' A'⟩) (fun ρ' J' σ' H' inv A' => hd H1 ρ' J' σ' H' b A1.j inv A') J0 w
/-- by a target of any form -/
theorem st_forT {wi : TI} {tb : TS} {g : TG} {us : List Nat} {ρt : D → List (Option D) → List (Option D)} (A : At K φ J ρ σ H) (hi : IterD K φ J wi ρ ds) (Inv : Nat → List (Option D) → (Hp → Prop) → Prop) (h0 : Inv 0 ρ J)
    (hg : ∀ i d ρ' J', ds[i]? = some d → Inv i ρ' J' → EvG K g d ρ' (ρt d ρ') us)
    (hs : ∀ H1 i d ρ' J', But φ H H1 → J H1 → ds[i]? = some d → Inv i ρ' J' → ∀ σ' H', At K φ (fun H => J' H ∧ But φ H1 H) (ρt d ρ') σ' H' → tb { D0 with nx := NX K φ H1 Inv (i + 1), ct := NX K φ H1 Inv (i + 1), bk := D0.nx } σ' H')
    (hd : ∀ H1 ρ' J' σ' H', But φ H H1 → J H1 → Inv ds.length ρ' J' → At K φ (fun H => J' H ∧ But φ H1 H) ρ' σ' H' → D0.nx σ' H') : tFor wi g tb D0 σ H :=
  hi σ H A _ fun J0 ds' H1 b A1 pd w => by
    subst pd
    exact forG_by (D0 := D0) A1 Inv h0 (fun i d ρ' J' hx inv => ⟨_, _, hg i d ρ' J' hx inv, fun σ' H' A' => hs H1 i d ρ' J' b A1.j hx inv σ' H' A'⟩) (fun ρ' J' σ' H' inv A' => hd H1 ρ' J' σ' H' b A1.j inv A') J0 w
theorem st_while {tt : TT} {tb : TS} (A : At K φ J ρ σ H) (Inv : Nat → List (Option D) → (Hp → Prop) → Prop) (m0 : Nat) (h0 : Inv m0 ρ J)
    (hs : ∀ m ρ' J', Inv m ρ' J' → ∃ p, EvT K φ (fun H1 => J' H1 ∧ But φ H H1) tt ρ' p ∧
      (p true → ∀ σ' H', At K φ (fun H1 => J' H1 ∧ But φ H H1) ρ' σ' H' → ∀ N : L2.St → Hp → Prop, (∀ m' σ' H', m' < m → NX K φ H Inv m' σ' H' → N σ' H') → tb { D0 with nx := N, ct := N, bk := D0.nx } σ' H') ∧
      (p false → ∀ σ' H', At K φ (fun H1 => J' H1 ∧ But φ H H1) ρ' σ' H' → D0.nx σ' H')) : tWhile tt tb D0 σ H := by
  refine ⟨NX K φ H Inv, ⟨m0, ρ, J, h0, A.live ⟨A.j, But.refl _ _⟩ (A.mono.and (Mo.but fun _ h => h))⟩, ?_⟩
  rintro m σ2 H2 ⟨ρ2, J2, inv, A2⟩
  obtain ⟨p, ht, h1, h2⟩ := hs m ρ2 J2 inv
  refine ht σ2 H2 A2 _ fun b H3 b3 A3 pb => ?_
  cases b with
  | true =>
    rw [if_pos rfl]
    exact ⟨fun σ' H' => ∃ m', m' < m ∧ NX K φ H Inv m' σ' H', fun σ' H' n => n, h1 pb σ2 H3 A3 _ fun m' σ' H' l n => ⟨m', l, n⟩⟩
  | false =>
    rw [if_neg (by simp)]
    exact h2 pb σ2 H3 A3

/-! ### defs of pure values -/
/-- the promise: a relation of trees -/
def SpD (K : PySem.W.Frag) (n : Nat) (R : List D → D → Prop) : Sp := fun vs H Q _ => ∃ φ ds d, ds.length = n ∧ Reps K φ H ds vs ∧ Frm φ H ∧ R ds d ∧ ∀ v H', Same H H' → Rep K φ H' d v → Q v H'
theorem ev_call {n : Nat} {R : List D → D → Prop} {E : XK} {ta : TA} {Pr : List D → Prop} (ha : EvA K φ J ta ρ Pr) (hr : ∀ ds, Pr ds → ∃ d, ds.length = n ∧ R ds d ∧ P d) : EvP K φ J (tCall (SpD K n R) [] E ta) ρ P := fun σ H A Q q =>
  ha σ H A _ fun vs ds H1 b1 A1 pd r1 => by
    obtain ⟨d, hl, hd, pd'⟩ := hr ds pd
    refine ⟨φ, ds, d, hl, by rw [List.append_nil]; exact r1, A1.fr, hd, fun v H' s r => ?_⟩
    exact q v d H' (b1.trans (But.of s)) (A1.same s) pd' r
theorem ev_callD {n : Nat} {R : List D → D → Prop} {E : XK} {ta : TA} (ha : EvAD K φ J ta ρ ds) (hr : R ds d) (hl : ds.length = n := by rfl) : EvD K φ J (tCall (SpD K n R) [] E ta) ρ d := ev_call ha fun ds' e => ⟨d, by rw [e]; exact hl, by rw [e]; exact hr, rfl⟩
section
variable {PP : Program} {w : World} {mg : Str → Option Value} {base : Heap}
/-- a def keeps the promise, by its body's reading -/
theorem fn_ok {x qual : Str} {st : Stmt} {f : Addr} {fd : FuncData} {N ps : List Str} {k n : Nat} {R : List D → D → Prop} (F : Fun K x qual st f fd) (S : FnScope N ps (defScope st)) (hn : ps.length = n) (m : Nat) (hm : N.length = n + m)
    (hbody : ∀ (cdv : Value) (A : Around) (outer : List Env) (s : Shared) (H : Hp) (E : XK), Room k (A.deeper (envOfC qual (defScope st) s.heap.objs.size f cdv)) →
      ∃ t, PSs (cxOf CX0 PP w K mg base N qual (defScope st) f cdv A outer s H E).nox (defBody st) t ∧
        ∀ (φ : Addr → Prop) (ds : List D) (d : D) (H : Hp) (D0 : Ends) (σ : L2.St), ds.length = n → R ds d → (∀ v H', Same H H' → Rep K φ H' d v → D0.rt v H') → (d = .non → ∀ H', Same H H' → ∀ σ', D0.nx σ' H') → At K φ (Same H) (ds.map some ++ List.replicate m none) σ H → t D0 σ H) :
    FnOk PP w K mg base CX0 (k + 1) f fd ps (SpD K n R) := by
  refine F.ok S (fun vs H Q E h => ?_) (fun cdv A outer s H vs Q E hr h => ?_)
  · obtain ⟨φ, ds, d, hl, r, _⟩ := h
    rw [r.length, hl, hn]
  · obtain ⟨φ, ds, d, hl, r, fr, hd, q⟩ := h
    obtain ⟨t, ht, run⟩ := hbody cdv A outer s H E hr
    refine ⟨t, ht, run φ ds d H _ _ hl hd (fun v H' s r => q v H' s r) (fun e H' s σ' => q .non H' s (by rw [e]; rfl)) ⟨?_, fr, Same.refl H, Mo.sames fun _ h => h⟩⟩
    have e : N.length - vs.length = m := by rw [hm, r.length, hl]; omega
    unfold L2.start
    rw [e]
    exact SR.start r
end

theorem Frm.butP {φ : Addr → Prop} {H H' : Hp} {p s : Addr} {ns : List Int} (F : Frm φ H) (bp : ButP p H H') (po : PoolOk p s ns H') (tr : ∀ a, H a ≠ none → H' a ≠ none) : Frm φ H' := ⟨fun a h => F.new a (by
  cases e : H a with
  | none => rfl
  | some u => exact absurd h (tr a (by rw [e]; exact fun z => by cases z))), fun a xs h => by
  cases e : H a with
  | none => exact F.new a e
  | some u =>
    by_cases ea : a = p
    · subst ea
      obtain ⟨_, _, _, _, e1, _⟩ := po
      rw [e1] at h
      cases h
    · have z := bp a u ea e
      rw [h] at z
      cases z
      exact F.tup a xs e⟩
/-! ### draws -/
def spDraw : Sp := fun vs H Q _ => ∃ p s ns n, vs = [.ref p, .int n] ∧ PoolOk p s ns H ∧ s ≠ p ∧ 0 < n ∧ n < 4294967296 ∧ ∀ r H', 0 ≤ r → r < n → ButP p H H' → PoolOk p s ns H' → Q (.int r) H'
theorem butP_but {p : Addr} (h : ButP p H H') (np : ¬ φ p) {s : Addr} {ns : List Int} (o : PoolOk p s ns H') : But φ H H' := ⟨fun a u pa e => h a u (fun z => np (z ▸ pa)) e, fun a ha => by
  by_cases z : a = p
  · subst z
    obtain ⟨_, _, _, _, e, _⟩ := o
    rw [e]
    exact fun z => by cases z
  · cases e : H a with
    | none => exact absurd e ha
    | some u => rw [h a u z e]; exact fun z => by cases z⟩
theorem ev_draw {E : XK} {p s : Addr} {ns : List Int} {n : Int} {k : Nat} (hp : Pooled φ J p s ns) (hk : ρ[k]? = some (some (.raw (.ref p)))) (he : EvD K φ J te ρ (.int n)) (h0 : 0 < n) (h1 : n < 4294967296) :
    EvI K φ J (tCall spDraw [] E (tCons (tVar k) (tCons te tNil))) ρ (fun r => 0 ≤ r ∧ r < n) := fun σ H A Q q =>
  ev_var hk σ H A _ fun v d H1 b1 A1 e1 r1 => he σ H1 A1 _ fun v2 d2 H2 b2 A2 e2 r2 => by
    subst e1 e2
    cases (show v = _ from r1)
    cases (show v2 = _ from r2)
    refine ⟨p, s, ns, n, rfl, hp.ok _ A2.j, hp.ne, h0, h1, fun r H' g0 g1 bp po => ?_⟩
    have bt : But φ H2 H' := butP_but bp hp.np po
    have bt' : ∀ a, H2 a ≠ none → H' a ≠ none := bt.tr
    refine q _ (.int r) H' ((b1.trans b2).trans bt) ⟨A2.sr.up (Up.of bt), A2.fr.butP bp po bt', hp.st _ _ A2.j bp po, A2.mono.up bt'⟩ ⟨r, rfl, g0, g1⟩ rfl
/-- where the bound is drawn too -/
theorem ev_drawP {E : XK} {p s : Addr} {ns : List Int} {pn : Int → Prop} {k : Nat} (hp : Pooled φ J p s ns) (hk : ρ[k]? = some (some (.raw (.ref p)))) (he : EvI K φ J te ρ pn) (h0 : ∀ n, pn n → 0 < n ∧ n < 4294967296) :
    EvI K φ J (tCall spDraw [] E (tCons (tVar k) (tCons te tNil))) ρ (fun r => 0 ≤ r ∧ ∃ n, pn n ∧ r < n) := fun σ H A Q q =>
  ev_var hk σ H A _ fun v d H1 b1 A1 e1 r1 => he σ H1 A1 _ fun v2 d2 H2 b2 A2 ⟨n, e2, hn⟩ r2 => by
    subst e1 e2
    cases (show v = _ from r1)
    cases (show v2 = _ from r2)
    refine ⟨p, s, ns, n, rfl, hp.ok _ A2.j, hp.ne, (h0 n hn).1, (h0 n hn).2, fun r H' g0 g1 bp po => ?_⟩
    have bt : But φ H2 H' := butP_but bp hp.np po
    have bt' : ∀ a, H2 a ≠ none → H' a ≠ none := bt.tr
    refine q _ (.int r) H' ((b1.trans b2).trans bt) ⟨A2.sr.up (Up.of bt), A2.fr.butP bp po bt', hp.st _ _ A2.j bp po, A2.mono.up bt'⟩ ⟨r, rfl, g0, n, hn, g1⟩ rfl
/-! P-mode operators on ints -/
theorem ei_add {p q : Int → Prop} (ha : EvI K φ J ta ρ p) (hb : EvI K φ J tb ρ q) : EvI K φ J (tOp (rI0 fun i j => .int (i + j)) ta tb) ρ (fun k => ∃ i j, p i ∧ q j ∧ k = i + j) := ev_op ha hb fun x y ⟨i, e1, pi⟩ ⟨j, e2, qj⟩ => by
  subst e1 e2
  exact fun H v w _ r1 r2 Q k => ⟨i, j, r1, r2, k _ _ H (Same.refl H) ⟨_, rfl, i, j, pi, qj, rfl⟩ rfl⟩
theorem ei_sub {p q : Int → Prop} (ha : EvI K φ J ta ρ p) (hb : EvI K φ J tb ρ q) : EvI K φ J (tOp (rI0 fun i j => .int (i - j)) ta tb) ρ (fun k => ∃ i j, p i ∧ q j ∧ k = i - j) := ev_op ha hb fun x y ⟨i, e1, pi⟩ ⟨j, e2, qj⟩ => by
  subst e1 e2
  exact fun H v w _ r1 r2 Q k => ⟨i, j, r1, r2, k _ _ H (Same.refl H) ⟨_, rfl, i, j, pi, qj, rfl⟩ rfl⟩
theorem ei_mul {p q : Int → Prop} (ha : EvI K φ J ta ρ p) (hb : EvI K φ J tb ρ q) (hc : ∀ i j, p i → q j → CMul i j) : EvI K φ J (tOp (rI CMul fun i j => .int (i * j)) ta tb) ρ (fun k => ∃ i j, p i ∧ q j ∧ k = i * j) := ev_op ha hb fun x y ⟨i, e1, pi⟩ ⟨j, e2, qj⟩ => by
  subst e1 e2
  exact fun H v w _ r1 r2 Q k => ⟨i, j, r1, r2, hc i j pi qj, k _ _ H (Same.refl H) ⟨_, rfl, i, j, pi, qj, rfl⟩ rfl⟩
theorem eb_cmp {f : Int → Int → Bool} {p q : Int → Prop} (ha : EvI K φ J ta ρ p) (hb : EvI K φ J tb ρ q) : EvB K φ J (tOp (rI0 fun i j => .bl (f i j)) ta tb) ρ (fun k => ∃ i j, p i ∧ q j ∧ k = f i j) := ev_op ha hb fun x y ⟨i, e1, pi⟩ ⟨j, e2, qj⟩ => by
  subst e1 e2
  exact fun H v w _ r1 r2 Q k => ⟨i, j, r1, r2, k _ _ H (Same.refl H) ⟨_, rfl, i, j, pi, qj, rfl⟩ rfl⟩
theorem eb_eq {p q : Int → Prop} (ha : EvI K φ J ta ρ p) (hb : EvI K φ J tb ρ q) : EvB K φ J (tOp rEq ta tb) ρ (fun k => ∃ i j, p i ∧ q j ∧ k = decide (i = j)) := ev_op ha hb fun x y ⟨i, e1, pi⟩ ⟨j, e2, qj⟩ => by
  subst e1 e2
  exact fun H v w f r1 r2 Q k => o2_eqI (φ := φ) (K := K) H v w f r1 r2 Q fun u z H' s e r => k u z H' s ⟨_, e, i, j, pi, qj, rfl⟩ r
theorem ei_intB {p : Bool → Prop} (ha : EvB K φ J te ρ p) : EvI K φ J (tCB rInt1 (tCons te tNil)) ρ (fun k => ∃ b, p b ∧ k = if b then 1 else 0) := ev_cb (ea_consP ha ea_nil) fun ds ⟨d, r, e, ⟨b, e1, pb⟩, e2⟩ => by
  subst e e1 e2
  exact fun H vs f r Q k => cl_intB (K := K) (φ := φ) H vs f r Q fun u z H' s e r => k u z H' s ⟨_, e, b, pb, rfl⟩ r
end
end DL
namespace DL
open PySem PySem.Spec PyProof.Rows L2

/-- a def of the top as others call it -/
structure Lk (K : PySem.W.Frag) (mg : Str → Option Value) (x : Str) (f : Addr) (fd : FuncData) (ps : List Str) : Prop where
  m : mg x = some (.ref f)
  kp : PySem.W.keepIn K (.ref f) = true
  bi : Binds K fd ps []
section
variable {X : Cx} {x : Str} {pos : Pos}
/-- a built-in class as a value -/
theorem pe_ty {n : String} (hm : X.mg x = none) (hv : bootBuiltins x = some (.type n)) (hg : Gl X x := by rfl) (hn : x ≠ "__name__" := by decide) (hd : (x == ("__debug__" : Str)) = false := by decide) : PE X (.Name x pos) (tC (.ty n)) := pe_bltn hg hm hv rfl hn hd
/-- a constant of the module -/
theorem pe_cst {v : V} (h : ∃ u, X.mg x = some u ∧ RelV v u) (hg : Gl X x := by rfl) (hd : (x == ("__debug__" : Str)) = false := by decide) : PE X (.Name x pos) (tC v) := by
  obtain ⟨u, hm, r⟩ := h
  exact pe_glob hg hm r hd
end

def Stab (p : Addr) (J : Hp → Prop) : Prop := ∀ H o, J H → J (L2.upd H p o)
theorem Stab.and {p : Addr} {J J' : Hp → Prop} (a : Stab p J) (b : Stab p J') : Stab p (fun H => J H ∧ J' H) := fun H o h => ⟨a H o h.1, b H o h.2⟩
theorem Stab.but {p : Addr} {φ : Addr → Prop} {H0 : Hp} (h : ¬ φ p ∨ H0 p = none) : Stab p (But φ H0) := fun H o b => ⟨fun a u pa e => by
  have ne : a ≠ p := fun z => h.elim (fun n => n (z ▸ pa)) fun n => by rw [z, n] at e; cases e
  rw [upd_ne ne]
  exact b.keep a u pa e, fun a h => upd_tr a (b.tr a h)⟩
theorem Stab.at {p l : Addr} {u : HO} (h : l ≠ p) : Stab p (fun H => H l = some u) := fun H o e => by
  show L2.upd H p o l = some u
  rw [upd_ne h]
  exact e
theorem Stab.of {p : Addr} {J : Hp → Prop} {H0 : Hp} (m : Mo H0 J) (h : H0 p = none) : Stab p J := fun H o j => m H _ (fun a u ha e => by
  rw [upd_ne (show a ≠ p from fun z => ha (by rw [z]; exact h))]
  exact e) j

section
variable {K : PySem.W.Frag} {φ φ' : Addr → Prop} {J J' : Hp → Prop} {H H' H1 : Hp} {ρ ρ' : List (Option D)} {σ : L2.St} {ta tb te tc : TE} {x y z d : D} {P Pa Pb Pc : D → Prop} {i j : Int} {b c : Bool} {ds es : List D} {v : V} {vs : List V} {a : Addr} {D0 : Ends} {t u : TS}
/-- a new list comes out -/
def EvN (K : PySem.W.Frag) (φ : Addr → Prop) (J : Hp → Prop) (te : TE) (ρ : List (Option D)) (P : List D → Prop) : Prop := ∀ σ H, At K φ J ρ σ H → ∀ Q : VK, (∀ p vs ds H0 H', But φ H H0 → At K φ J ρ σ H0 → H0 p = none → But φ H0 H' → At K φ J ρ σ H' → P ds → H' p = some (.lst vs) → Reps K (fun a => φ a ∧ a ≠ p) H' ds vs → Q (.ref p) H') → te σ H Q
theorem ev_new {P : List D → Prop} (h : EvN K φ J te ρ P) : EvP K φ J te ρ (fun z => ∃ ds, z = .lst ds ∧ P ds) := fun σ H A Q q => h σ H A Q fun p vs ds H0 H' b0 A0 hp b A' pd e r =>
  q _ (.lst ds) H' (b0.trans b) A' ⟨ds, rfl, pd⟩ ⟨p, vs, rfl, .inl ⟨A0.fr p hp, .inl e⟩, Reps.up (fun a o p e => ⟨p.1, e⟩) ds vs r⟩
theorem ev_newD (h : EvN K φ J te ρ (fun x => x = ds)) : EvD K φ J te ρ (.lst ds) := (ev_new h).imp fun z ⟨ds', e, e2⟩ => by rw [e, e2]
theorem reps_new {p : Addr} {o : HO} (hp : H p = none) (r : Reps K φ H ds vs) : Reps K (fun a => φ a ∧ a ≠ p) (L2.upd H p o) ds vs :=
  Reps.up (fun a u q e => ⟨⟨q, ne_of_none e hp⟩, by rw [upd_ne (ne_of_none e hp)]; exact e⟩) ds vs r
theorem en_lst {ta : TA} {Pr : List D → Prop} (ha : EvA K φ J ta ρ Pr) (hl : ∀ r, Pr r → r.length ≤ 1000000) : EvN K φ J (tLst ta) ρ Pr := fun σ H A Q q =>
  ha σ H A _ fun vs ds H1 b1 A1 pd r1 => ⟨by rw [r1.length]; exact sz (hl _ pd), fun p hp => q p vs ds H1 _ b1 A1 hp (But.of (same_new hp)) (A1.same (same_new hp)) pd upd_same (reps_new hp r1)⟩
theorem en_lstD {ta : TA} (ha : EvAD K φ J ta ρ ds) (hl : ds.length ≤ 1000000 := by first | exact Nat.le_of_ble_eq_true rfl | decide) : EvN K φ J (tLst ta) ρ (fun x => x = ds) := en_lst ha fun r e => by rw [e]; exact hl
theorem en_list (ha : EvD K φ J te ρ (.lst ds)) : EvN K φ J (tCB (rListOf K) (tCons te tNil)) ρ (fun x => x = ds) := fun σ H A Q q => ha σ H A _ fun v d H1 b1 A1 e r => by
  subst e
  obtain ⟨a, vs, rfl, p, rs⟩ := rep_lst r
  exact ⟨a, vs, rfl, .inl p.sq, fun l hl => q l vs ds H1 _ b1 A1 hl (But.of (same_new hl)) (A1.same (same_new hl)) rfl upd_same (reps_new hl rs)⟩
theorem en_listT (ha : EvD K φ J te ρ (.tup ds)) : EvN K φ J (tCB (rListOf K) (tCons te tNil)) ρ (fun x => x = ds) := fun σ H A Q q => ha σ H A _ fun v d H1 b1 A1 e r => by
  subst e
  obtain ⟨a, vs, rfl, p, rs⟩ := rep_tup r
  exact ⟨a, vs, rfl, .inr p.sq, fun l hl => q l vs ds H1 _ b1 A1 hl (But.of (same_new hl)) (A1.same (same_new hl)) rfl upd_same (reps_new hl rs)⟩
theorem en_lcP {wi : TI} {g : TG} {tt : TT} {te : TE} {ws us : List Nat} {Pi : List D → Prop} {ρd : D → List (Option D)} {pt : D → Bool → Prop} {pe : D → D → Prop} (hi : IterP K φ J wi ρ Pi) (hl : ∀ ds, Pi ds → ds.length ≤ 1000000) (hu : ∀ i ∈ us, i ∈ ws)
    (hg : ∀ ds, Pi ds → ∀ d ∈ ds, EvG K g d (wipeR ρ ws) (ρd d) us)
    (ht : ∀ ds, Pi ds → ∀ d ∈ ds, ∀ φ' J', Ext φ J φ' J' → EvT K φ' J' tt (ρd d) (pt d))
    (he : ∀ ds, Pi ds → ∀ d ∈ ds, pt d true → ∀ φ' J', Ext φ J φ' J' → EvP K φ' J' te (ρd d) (pe d)) :
    EvN K φ J (tLc wi g tt te ws) ρ (fun ys => ∃ ds, Pi ds ∧ Comp pt pe ds ys) := fun σ H A Q q => by
  refine hi σ H A _ fun J0 ds H1 b1 A1 pd w => ?_
  intro D0 hD
  have neP : ∀ p s ns, Pooled φ J p s ns → p ≠ D0 := fun p s ns hp => by
    obtain ⟨a1, a2, a3, a4, h1, _⟩ := hp.ok _ A1.j
    exact ne_of_none h1 hD
  let φ' : Addr → Prop := fun a => φ a ∧ a ≠ D0
  have ext : ∀ acc : List V, Ext φ J φ' (fun H => J H ∧ H D0 = some (.lst acc)) := fun acc => ⟨fun _ h => h.1, fun p s ns hp => ⟨fun z => hp.np z.1, hp.ne, fun H h => hp.ok H h.1, fun H H' h k o => ⟨hp.st H H' h.1 k o, k _ _ (neP p s ns hp).symm h.2⟩⟩, fun a p h => ⟨p, fun e => h H1 A1.j (by rw [e]; exact hD)⟩⟩
  have mono : ∀ (acc : List V) (H2 : Hp), (∀ a, H1 a ≠ none → H2 a ≠ none) → H2 D0 ≠ none → Mo H2 (fun H => J H ∧ H D0 = some (.lst acc)) := fun acc H2 s h => (A1.mono.up s).and (Mo.at h)
  refine ⟨fun i m H2 => m = ds.length - i ∧ i ≤ ds.length ∧ But φ H1 H2 ∧ ∃ acc ys, Reps K φ' H2 ys acc ∧ Comp pt pe (ds.take i) ys ∧ At K φ' (fun H => J H ∧ H D0 = some (.lst acc)) (wipeR ρ ws) (L2.wipe σ ws) H2,
    ⟨ds.length, rfl, Nat.zero_le _, But.of (same_new hD), [], [], Reps.nil, .nil, ?_⟩, ?_⟩
  · have A2 := A1.newLive (o := .lst []) (J' := fun H => J H ∧ H D0 = some (.lst [])) hD ⟨A1.mono _ _ (fun a o _ e => same_new hD a o e) A1.j, upd_same⟩ (mono [] _ upd_tr (by rw [upd_same]; exact fun z => by cases z))
    exact ⟨A2.sr.wipe ws, A2.fr, A2.j, A2.mono⟩
  · rintro i m H2 ⟨rfl, hi, b2, acc, ys, rs, cp, A2⟩
    have upw : Up φ φ' H1 H2 := fun a o p e => ⟨⟨p, ne_of_none e hD⟩, b2.keep a o p e⟩
    have fr2 : Frm φ' H2 := A2.fr
    obtain ⟨wg, wstop⟩ := w φ' i H2 upw fr2
    by_cases hlt : i < ds.length
    · have hd : ds[i]? = some ds[i] := List.getElem?_eq_getElem hlt
      obtain ⟨go, yl⟩ := wg _ hd
      refine .inr ⟨go, fun H3 => But φ H1 H3 ∧ ∃ acc ys, Reps K φ' H3 ys acc ∧ Comp pt pe (ds.take (i + 1)) ys ∧ At K φ' (fun H => J H ∧ H D0 = some (.lst acc)) (wipeR ρ ws) (L2.wipe σ ws) H3, ?_, ?_⟩
      · rintro H3 ⟨b3, acc3, ys3, r3, c3, A3⟩
        exact ⟨ds.length - (i + 1), by omega, rfl, hlt, b3, acc3, ys3, r3, c3, A3⟩
      · intro x H3 hy
        obtain ⟨s3, r3⟩ := yl x H3 hy
        have A3 := A2.same s3
        have rs3 := rs.mono (But.of (φ := φ') s3)
        have b3 : But φ H1 H3 := b2.trans (But.of s3)
        have hmem : ds[i] ∈ ds := List.getElem_mem hlt
        have tk : ds.take (i + 1) = ds.take i ++ [ds[i]] := by rw [List.take_add_one, hd]; rfl
        refine hg ds pd _ hmem φ' _ _ H3 x A3 r3 _ fun σ4 A4 hw4 => ⟨?_, ?_⟩
        · rw [hw4 ws hu]
          exact wipe_wipe ws
        · refine ht ds pd _ hmem φ' _ (ext acc) σ4 H3 A4 _ fun bb H5 b5 A5 hp => ?_
          have b35 : But φ H1 H5 := ⟨fun a o p e => b5.keep a o ⟨p, ne_of_none e hD⟩ (b3.keep a o p e), fun a h => b5.tr a (b3.tr a h)⟩
          have A5' : At K φ' (fun H => J H ∧ H D0 = some (.lst acc)) (wipeR ρ ws) (L2.wipe σ ws) H5 := ⟨A3.sr.up (Up.of b5), A5.fr, A5.j, A5.mono⟩
          cases bb with
          | false =>
            rw [if_neg (by simp)]
            exact ⟨b35, acc, ys, rs3.mono b5, by rw [tk]; exact cp.snoc0 hp, A5'⟩
          | true =>
            rw [if_pos rfl]
            refine he ds pd _ hmem hp φ' _ (ext acc) σ4 H5 A5 _ fun v d H6 b6 A6 pv r6 => ?_
            have rl := (rs3.mono b5).mono b6
            have nD : ¬ φ' D0 := fun z => z.2 rfl
            have cl := cp.len
            refine ⟨acc, A6.j.2, ?_, ?_, acc ++ [v], ys ++ [d], ?_, by rw [tk]; exact cp.snoc1 hp pv, ?_⟩
            · rw [rl.length]
              have h1 := hl ds pd
              rw [List.length_take] at cl
              exact szlt (by omega)
            · refine ⟨fun a o p e => ?_, fun a h => upd_tr a (b6.tr a (b35.tr a h))⟩
              have ne := ne_of_none e hD
              rw [upd_ne ne]
              exact b6.keep a o ⟨p, ne⟩ (b35.keep a o p e)
            · exact (rl.append (Reps.cons r6 Reps.nil)).mono ((But.refl φ' H6).upd nD)
            · have A6' : At K φ' (fun H => J H ∧ H D0 = some (.lst acc)) (wipeR ρ ws) (L2.wipe σ ws) H6 := ⟨A5'.sr.up (Up.of b6), A6.fr, A6.j, A6.mono⟩
              have jj : J (upd H6 D0 (.lst (acc ++ [v]))) := A1.mono H6 _ (fun a o h e => by
                rw [upd_ne (show a ≠ D0 from fun z => h (by rw [z]; exact hD))]
                exact e) A6.j.1
              exact A6'.upd nD ⟨jj, upd_same⟩ (mono _ _ (fun a h => upd_tr a (b6.tr a (b35.tr a h))) (by rw [upd_same]; exact fun z => by cases z))
    · have e : i = ds.length := by omega
      subst e
      refine .inl ⟨wstop rfl, ?_⟩
      rw [List.take_length] at cp
      have A3 : At K φ J ρ σ H2 := ⟨A1.sr.up (Up.of b2), A2.fr.fst, A2.j.1, A1.mono.up b2.tr⟩
      exact q D0 acc ys H1 H2 b1 A1 hD b2 A3 ⟨ds, pd, cp⟩ A2.j.2 rs
theorem en_lc {wi : TI} {te : TE} {k : Nat} {f : D → D} (hi : IterD K φ J wi ρ ds) (hl : ds.length ≤ 1000000) (he : ∀ d ∈ ds, ∀ φ' J', Ext φ J φ' J' → EvD K φ' J' te ((wipeR ρ [k]).set k (some d)) (f d)) :
    EvN K φ J (tLc wi (gName k) tYes te [k]) ρ (fun x => x = ds.map f) := fun σ H A Q q =>
  (en_lcP (ρd := fun d => (wipeR ρ [k]).set k (some d)) (us := [k]) (pt := fun _ b => b = true) (pe := fun d y => y = f d) hi (fun ds' e => by rw [e]; exact hl) (fun _ h => h) (fun _ _ d _ => eg_name)
    (fun _ _ d _ φ' J' _ => et_yes) (fun ds' e d hd _ φ' J' x => he d (e ▸ hd) φ' J' x)) σ H A Q fun p vs ys H0 H' b0 A0 hp b A' pd e r => by
      obtain ⟨ds', e1, c⟩ := pd
      subst e1
      exact q p vs ys H0 H' b0 A0 hp b A' c.map e r
theorem en_lcE {wi : TI} {te : TE} {k : Nat} {Pi : List D → Prop} {pe : D → D → Prop} (hi : IterP K φ J wi ρ Pi) (hl : ∀ ds, Pi ds → ds.length ≤ 1000000) (he : ∀ ds, Pi ds → ∀ d ∈ ds, ∀ φ' J', Ext φ J φ' J' → EvP K φ' J' te ((wipeR ρ [k]).set k (some d)) (pe d)) :
    EvN K φ J (tLc wi (gName k) tYes te [k]) ρ (fun ys => ∃ ds, Pi ds ∧ Comp (fun _ b => b = true) pe ds ys) :=
  en_lcP (ρd := fun d => (wipeR ρ [k]).set k (some d)) (us := [k]) hi hl (fun _ h => h) (fun _ _ d _ => eg_name) (fun _ _ d _ φ' J' _ => et_yes) (fun ds' e d hd _ φ' J' x => he ds' e d hd φ' J' x)
/-- xs + ys, both new -/
theorem en_cat (ha : EvN K φ J ta ρ (fun x => x = ds)) (hb : EvN K φ J tb ρ (fun x => x = es)) (hz : ds.length + es.length ≤ 1000000) : EvN K φ J (tOp rCat ta tb) ρ (fun x => x = ds ++ es) := fun σ H A Q q =>
  ha σ H A _ fun p vs ds' H0 H1 b0 A0 hp b1 A1 pd e1 r1 => hb σ H1 A1 _ fun p2 ws es' H2 H3 b2 A2 hp2 b3 A3 pe e3 r3 => by
    subst pd pe
    have e1' : H3 p = some (.lst vs) := b3.keep _ _ (A0.fr p hp) (b2.keep _ _ (A0.fr p hp) e1)
    have r1' : Reps K φ H3 ds' vs := (Reps.up (fun a o q e => ⟨q.1, e⟩) ds' vs r1).mono (b2.trans b3)
    have r3' : Reps K φ H3 es' ws := Reps.up (fun a o q e => ⟨q.1, e⟩) es' ws r3
    refine ⟨p, p2, vs, ws, rfl, rfl, e1', e3, by rw [r1.length, r3.length]; exact sz hz, fun p4 hp4 => ?_⟩
    exact q p4 _ _ H3 _ (((b0.trans b1).trans b2).trans b3) A3 hp4 (But.of (same_new hp4)) (A3.same (same_new hp4)) rfl upd_same (reps_new hp4 (r1'.append r3'))
/-- x = a new list; it is live from then on -/
theorem st_new {k : Nat} {P : List D → Prop} (A : At K φ J ρ σ H) (h : EvN K φ J te ρ P) (kk : ∀ p vs ds σ' H', P ds → H p = none → φ p → Reps K (fun a => φ a ∧ a ≠ p) H' ds vs → Stab p J → (∀ s ps ns, Pooled φ J ps s ns → ps ≠ p ∧ s ≠ p) → But φ H H' → H' p = some (.lst vs) →
    At K (fun a => φ a ∧ a ≠ p) (fun H => (J H ∧ H p = some (.lst vs)) ∧ But (fun a => φ a ∧ a ≠ p) H' H) (ρ.set k (some (.raw (.ref p)))) σ' H' → D0.nx σ' H') : tAsg te (gName k) D0 σ H :=
  h σ H A _ fun p vs ds H0 H' b0 A0 hp b A' pd e r => by
    have hpH : H p = none := by
      cases z : H p with
      | none => rfl
      | some u => exact absurd hp (b0.tr p (by rw [z]; exact fun w => by cases w))
    have st : Stab p J := Stab.of A0.mono hp
    have neP : ∀ s ps ns, Pooled φ J ps s ns → ps ≠ p ∧ s ≠ p := fun s ps ns hq => by
      obtain ⟨a1, a2, a3, a4, h1, h2⟩ := hq.ok _ A0.j
      exact ⟨ne_of_none h1 hp, ne_of_none h2.1 hp⟩
    have u : Up φ (fun a => φ a ∧ a ≠ p) H H' := fun a o q e2 => ⟨⟨q, ne_of_none e2 hpH⟩, (b0.trans b).keep a o q e2⟩
    have sr : SR K (fun a => φ a ∧ a ≠ p) H' ρ σ := A.sr.up u
    have A2 : At K (fun a => φ a ∧ a ≠ p) (fun H => (J H ∧ H p = some (.lst vs)) ∧ But (fun a => φ a ∧ a ≠ p) H' H) ρ σ H' :=
      ⟨sr, A'.fr.at e (fun xs h => nomatch h), ⟨⟨A'.j, e⟩, But.refl _ _⟩, (A'.mono.and (Mo.at (by rw [e]; exact fun w => by cases w))).and (Mo.but fun _ h => h)⟩
    exact kk p vs ds _ H' pd hpH (A0.fr p hp) r st neP (b0.trans b) e (A2.set k rfl)
/-- .append on a live list -/
theorem st_app {k : Nat} {l : Addr} (A : At K φ J ρ σ H) (hk : ρ[k]? = some (some (.raw (.ref l)))) (hv : ∀ H, J H → H l = some (.lst vs)) (he : EvP K φ J te ρ P) (hz : vs.length ≤ 1000000)
    (kk : ∀ v d H', P d → Rep K φ H' d v → But φ H H' → At K φ J ρ σ H' → D0.nx σ (L2.upd H' l (.lst (vs ++ [v])))) : tDrop (tBM K "list" rAppend (tVar k) (tCons te tNil)) D0 σ H := by
  obtain ⟨w, e, r⟩ := A.sr.2 k _ hk
  cases (show w = _ from r)
  refine ⟨_, e, .inl ⟨rfl, _, SqL.of (hv H A.j)⟩, he σ H A _ fun v d H' b A' pd r' => ⟨l, vs, v, rfl, rfl, hv H' A'.j, szlt hz, kk v d H' pd r' b A'⟩⟩
/-- len of a live list -/
theorem ev_lenLive {l : Addr} (hk : EvD K φ J ta ρ (.raw (.ref l))) (hv : ∀ H, J H → H l = some (.lst vs)) : EvD K φ J (tCB (rLen K) (tCons ta tNil)) ρ (.int vs.length) := fun σ H A Q q =>
  hk σ H A _ fun v d H1 b1 A1 e1 r1 => by
    subst e1
    cases (show v = _ from r1)
    exact ⟨l, vs, rfl, .inl (SqL.of (hv H1 A1.j)), q _ _ H1 b1 A1 rfl rfl⟩
/-- a live list's item -/
theorem ev_ixLive {l : Addr} (hk : EvD K φ J ta ρ (.raw (.ref l))) (hb : EvD K φ J tb ρ (.int i)) (hv : ∀ H, J H → ∃ vs, H l = some (.lst vs) ∧ ∃ v, atI vs i = some v ∧ Rep K φ H d v) : EvD K φ J (tOp (rIxL K) ta tb) ρ d := fun σ H A Q q =>
  hk σ H A _ fun v x H1 b1 A1 e1 r1 => hb σ H1 A1 _ fun w y H2 b2 A2 e2 r2 => by
    subst e1 e2
    cases (show v = _ from r1)
    cases (show w = _ from r2)
    obtain ⟨vs, e, u, hu, ru⟩ := hv H2 A2.j
    exact ⟨l, vs, i, u, rfl, rfl, SqL.of e, hu, q u d H2 (b1.trans b2) A2 rfl ru⟩
/-- xs[i] = e on a live list -/
theorem st_setL {k n : Nat} {l : Addr} (A : At K φ J ρ σ H) (he : EvP K φ J te ρ P) (hk : ρ[k]? = some (some (.raw (.ref l)))) (hi : EvD K φ J tb ρ (.int i)) (hv : ∀ H, J H → H l = some (.lst vs)) (hj : ixN vs.length i = some n)
    (kk : ∀ v d H', P d → Rep K φ H' d v → But φ H H' → At K φ J ρ σ H' → D0.nx σ (L2.upd H' l (.lst (vs.set n v)))) : tAsg te (gSub (tVar k) tb rSetL) D0 σ H :=
  he σ H A _ fun v d H1 b1 A1 pd r1 => ev_var hk σ H1 A1 _ fun w x H2 b2 A2 e2 r2 => hi σ H2 A2 _ fun u y H3 b3 A3 e3 r3 => by
    subst e2 e3
    cases (show w = _ from r2)
    cases (show u = _ from r3)
    exact ⟨l, vs, i, n, rfl, rfl, hv H3 A3.j, hj, kk v d H3 pd ((r1.mono b2).mono b3) ((b1.trans b2).trans b3) A3⟩
/-- a subscript of a tuple or a list -/
def seqOf : D → Option (List D)
  | .tup ds => some ds
  | .lst ds => some ds
  | _ => none
theorem ev_ixQ (ha : EvD K φ J ta ρ x) (hx : seqOf x = some ds) (hb : EvD K φ J tb ρ (.int i)) (e : L2.atI ds i = some d) : EvD K φ J (tOp (rIx K) ta tb) ρ d := ev_opD ha hb fun H v w f r1 r2 Q q => by
  cases x with
  | tup es =>
    cases hx
    exact .inr (.inl (o2_ixT (φ := φ) e H v w f r1 r2 Q q))
  | lst es =>
    cases hx
    exact .inl (o2_ixL (φ := φ) e H v w f r1 r2 Q q)
  | _ => cases hx
theorem q_cut {M : L2.St → Hp → Prop} (h : t { D0 with nx := M } σ H) (k : ∀ σ' H', M σ' H' → u D0 σ' H') : C8.tCut t u D0 σ H := ⟨M, h, k⟩
theorem ev_lenQ (ha : EvD K φ J te ρ x) (hx : seqOf x = some ds) : EvD K φ J (tCB (rLen K) (tCons te tNil)) ρ (.int ds.length) := by
  cases x with
  | tup es => cases hx; exact ev_lenT ha
  | lst es => cases hx; exact ev_lenL ha
  | _ => cases hx
end
end DL
namespace DL
open PySem PySem.Spec PyProof.Rows L2
def top (i : Nat) : Stmt := PySem.Challenge.pw_airwave_k47_whole_grades.main.body.getD i (.Pass ⟨0, 0, 0, 0⟩)
abbrev s_is_integer : Stmt := top 6
abbrev s_is_row : Stmt := top 10
abbrev s_is_separations : Stmt := top 11
abbrev s_made_separations : Stmt := top 12
abbrev s_least_between : Stmt := top 13
abbrev s_neighbors : Stmt := top 14
abbrev s_breaks : Stmt := top 16
abbrev s_would_break : Stmt := top 17
abbrev s_free_channels : Stmt := top 18
abbrev s_search : Stmt := top 19
abbrev s_clash_with : Stmt := top 20
abbrev s_solved : Stmt := top 21
abbrev s_lowest : Stmt := top 24
abbrev s_channels_for : Stmt := top 25
abbrev s_demands : Stmt := top 27
abbrev s_grade : Stmt := top 28
abbrev s__law_same : Stmt := top 30
abbrev s__law_is_integer : Stmt := top 31
abbrev s__law_pool : Stmt := top 32
abbrev s__law_spread : Stmt := top 33
abbrev s__law_draw : Stmt := top 34
abbrev s__law_separations : Stmt := top 35
abbrev s__law_least : Stmt := top 36
abbrev s__law_keeps : Stmt := top 37
abbrev s__law_shows : Stmt := top 38
abbrev s__law_exists : Stmt := top 39
abbrev s__law_word : Stmt := top 40
abbrev s__law_members : Stmt := top 41
abbrev s_law : Stmt := top 42
-- import KE.GoesEnumKw
-- import HandS.SortKw
/-! ### enumerate over a list or a tuple, from any count -/
section
variable {P : Program} {w : World} {K : PySem.W.Frag}
def Itn (Sq : Hp → List V → Prop) (k : Int) : It :=
  ⟨fun i H => ∃ (xs : List V) (x : V), Sq H xs ∧ xs[i]? = some x, fun i H v H' => ∃ T x, v = .ref T ∧ H T = none ∧ H' = upd H T (.tup [.int (k + (i : Nat)), x]) ∧ ∀ xs, Sq H xs → xs[i]? = some x, fun i H => ∃ xs : List V, Sq H xs ∧ xs.length = i⟩
structure EnSrc (P : Program) (w : World) (K : PySem.W.Frag) (a it : Addr) (Sq : Hp → List V → Prop) (Ho : Heap → Array Value → Prop) (Is : Nat → Heap → Prop) : Prop where
  src : ∀ (X : Cx) pins σ H s xs, X.K = K → Inv X pins σ H s → Sq H xs → ∃ its : List Value, Vals xs its ∧ Ho s.heap its.toArray ∧ xs.length ≤ sizeLine
  inj : ∀ (X : Cx) pins σ H s xs ys, X.K = K → Inv X pins σ H s → Sq H xs → Sq H ys → xs = ys
  draws : ∀ (A : Around) (items : Array Value), A.handled = none → a ≠ it → Draws P w A it [it, a] items.size (fun i v => items[i]? = some v) (fun i h => Is i h ∧ Ho h items)
  at' : ∀ i h h', Is i h → (∀ o, h.get? it = some o → h'.get? it = some o) → Is i h'
  live : ∀ i h, Is i h → ∃ o, h.get? it = some o ∧ (∀ v, o.data ≠ .cell v)
  ne : ∀ i h items, Is i h → Ho h items → a ≠ it
  nea : ∀ h items e c old, Ho h items → IsEnum h e it c old → e ≠ a
  nei : ∀ i h e c old, Is i h → IsEnum h e it c old → e ≠ it
theorem turn_enumN {elts : List Expr} {kk : Nat} {tpos : Pos} {a e it : Addr} {Sq : Hp → List V → Prop} {Ho : Heap → Array Value → Prop} {Is : Nat → Heap → Prop} (k : Int) (Z : EnSrc P w K a it Sq Ho Is) :
    Turn P w K (.Tuple elts kk tpos) (Itn Sq k) [e, it] e (fun i h => (∃ old, IsEnum h e it (k + ((i : Nat) : Int)) old) ∧ Is i h) where
  mem := by simp
  obj := fun i h st b hb => by
    obtain ⟨⟨old, he⟩, hi⟩ := st
    obtain ⟨o, ho, hd⟩ := Z.live i h hi
    have e' : b = e ∨ b = it := by simpa using hb
    rcases e' with z | z
    · rw [z]; exact ⟨_, he, fun v q => nomatch q⟩
    · rw [z]; exact ⟨o, ho, hd⟩
  keep := fun i h h' st kp => ⟨let ⟨old, he⟩ := st.1; ⟨old, kp e (by simp) _ he⟩, Z.at' i h h' st.2 fun o q => kp it (by simp) o q⟩
  item := by
    intro X hP hw hK hc i pins s σ H E I hf st hg
    obtain ⟨⟨old, he⟩, hit⟩ := st
    obtain ⟨xs, x, hq, hx⟩ := hg
    obtain ⟨its, rv, p, hz⟩ := Z.src X pins σ H s xs hK I hq
    obtain ⟨u, hu, ru⟩ := rv.get hx
    have hne : e ≠ it := Z.nei i _ e _ _ hit he
    have hea : e ≠ a := Z.nea _ _ e _ _ p he
    have hel : e < s.heap.objs.size := Heap.lt_size he
    have hil : it < s.heap.objs.size := by obtain ⟨_, q, _⟩ := Z.live i _ hit; exact Heap.lt_size q
    have hilt : i < its.toArray.size := by
      have := (List.getElem?_eq_some_iff.mp hu).1
      simpa using this
    subst hP hw
    refine wpAny_pyNext_enum_itemC (Z.draws X.A.in1 its.toArray (I.ok.hd hc) (Z.ne i _ _ hit p)) he ⟨hit, p⟩ hilt hne (by simp [hne, hea]) fun u' h' tk hP' ho hit' hT hsz hk => ?_
    have hu' : u' = u := by
      have : its.toArray[i]? = some u := by simpa using hu
      rw [this] at hP'
      exact (Option.some.inj hP').symm
    subst hu'
    refine ⟨_, rfl, wpAny_letOwnedTupleGo_enum (s := { s with heap := h', toks := tk + 1 }) ho fun h'' he' sb => ?_⟩
    have hT2 : h''.get? s.heap.objs.size = some { cls := .type "tuple", data := .seq #[.int (k + (i : Int)) tk, u'] } := (sb.2 _ (Nat.ne_of_gt hel)).trans hT
    have new : ObjOk X.prog X.w (upd H s.heap.objs.size (.tup [.int (k + (i : Nat)), x])) h'' s.heap.objs.size (.tup [.int (k + (i : Nat)), x]) :=
      ⟨by show 2 ≤ sizeLine; decide, [.int (k + (i : Int)) tk, u'], .cons ⟨_, rfl⟩ (.cons ru .nil), ⟨_, hT2, rfl, _, rfl⟩⟩
    have I1 : Inv X pins σ (upd H s.heap.objs.size (.tup [.int (k + (i : Nat)), x])) { s with heap := h'', toks := tk + 1 } :=
      I.turnedNew (ch := [e, it]) (fun b ob hb q => (sb.2 b (fun z => hb (by simp [z]))).trans (hk b ob (fun z => hb (by simp [z])) (fun z => hb (by simp [z])) q)) hf (Nat.le_refl _) new
    refine ⟨.ref s.heap.objs.size, _, I1, rfl, ⟨_, x, rfl, I.hok.fresh (Nat.le_refl _), rfl, fun ys hy => by rw [Z.inj X pins σ H s ys xs hK I hy hq]; exact hx⟩, ⟨⟨u', ?_⟩, Z.at' _ _ _ hit'.1 fun o q => (sb.2 it (Ne.symm hne)).trans q⟩, fun b hb => ?_⟩
    · have e1 : k + ((i + 1 : Nat) : Int) = k + (i : Int) + 1 := by omega
      rw [e1]; exact he'
    · have hb' : b < s.heap.objs.size := by
        have e' : b = e ∨ b = it := by simpa using hb
        rcases e' with z | z
        · rw [z]; exact hel
        · rw [z]; exact hil
      rw [upd_ne (Nat.ne_of_lt hb')]
      exact (hf b hb).1
  done := by
    intro X hP hw hK hc i pins s σ H E I hf st hg
    obtain ⟨⟨old, he⟩, hit⟩ := st
    obtain ⟨xs, hq, hx⟩ := hg
    obtain ⟨its, rv, p, hz⟩ := Z.src X pins σ H s xs hK I hq
    obtain ⟨f0, f1, f2, f3, f4, f5⟩ := hf it (by simp)
    have hl := rv.length
    have en : i = its.toArray.size := by rw [List.size_toArray]; omega
    subst hP hw
    exact wpAny_pyNext_enum_endD (Z.draws X.A.in1 its.toArray (I.ok.hd hc) (Z.ne i _ _ hit p)) he ⟨en ▸ hit, p⟩ fun h' eb => ⟨rfl, I.turned (t' := s.toks) (fun b o hb q => eb b o hb q) f0 f1 f3 f4 f5⟩
  self := fun A i s Q E st h => let ⟨⟨_, he⟩, _⟩ := st; wpAny_pyIter_enum he h
theorem apart_of {h : Heap} {a b : Addr} {o u : Obj} (h1 : h.get? a = some o) (h2 : h.get? b = some u) (hc : o.cls ≠ u.cls) : a ≠ b := fun e => by
  subst e
  rw [h1] at h2
  cases h2
  exact hc rfl
theorem enSrc_list (a it : Addr) : EnSrc P w K a it (fun H xs => SqL K H a xs) (fun h its => h.IsList a its) (fun i h => h.IsListIter it a i) where
  src := fun X pins σ H s xs hK I h => by
    subst hK
    obtain ⟨its, rv, p, hz⟩ := I.list h
    exact ⟨its, rv, p.isList, hz⟩
  inj := fun X pins σ H s xs ys hK I h h' => by
    subst hK
    exact I.list_inj h h'
  draws := fun A items hh hne => Draws.list hh it a hne items
  at' := fun i h h' st k => st.at fun o e => k o e
  live := fun i h st => by
    obtain ⟨o, e, c, d⟩ := st
    exact ⟨o, e, fun v z => by rw [d] at z; cases z⟩
  ne := fun i h items st hl => by
    obtain ⟨o, e, c, d⟩ := st
    obtain ⟨u, e2, c2, _⟩ := hl
    exact apart_of e2 e (by rw [c, c2]; decide)
  nea := fun h items e c old hl he => by
    obtain ⟨u, e2, c2, _⟩ := hl
    exact apart_of he e2 (by rw [c2]; show Value.type "enumerate" ≠ _; decide)
  nei := fun i h e c old st he => by
    obtain ⟨o, e1, c1, d⟩ := st
    exact apart_of he e1 (by rw [c1]; show Value.type "enumerate" ≠ _; decide)
theorem enSrc_tup (a it : Addr) : EnSrc P w K a it (fun H xs => SqT K H a xs) (fun h its => h.IsTuple a its) (fun i h => h.IsTupleIter it a i) where
  src := fun X pins σ H s xs hK I h => by
    subst hK
    obtain ⟨its, rv, p, hz⟩ := I.tuple h
    exact ⟨its, rv, p, hz⟩
  inj := fun X pins σ H s xs ys hK I h h' => by
    subst hK
    exact I.tuple_inj h h'
  draws := fun A items hh hne => Draws.tuple hh it a hne items
  at' := fun i h h' st k => by
    obtain ⟨o, e, r⟩ := st
    exact ⟨o, k o e, r⟩
  live := fun i h st => by
    obtain ⟨o, e, c, d⟩ := st
    exact ⟨o, e, fun v z => by rw [d] at z; cases z⟩
  ne := fun i h items st hl => by
    obtain ⟨o, e, c, d⟩ := st
    obtain ⟨u, e2, c2, _⟩ := hl
    exact apart_of e2 e (by rw [c, c2]; decide)
  nea := fun h items e c old hl he => by
    obtain ⟨u, e2, c2, _⟩ := hl
    exact apart_of he e2 (by rw [c2]; show Value.type "enumerate" ≠ _; decide)
  nei := fun i h e c old st he => by
    obtain ⟨o, e1, c1, d⟩ := st
    exact apart_of he e1 (by rw [c1]; show Value.type "enumerate" ≠ _; decide)
section
variable {M : Model} {A : Around} {E : Value → Shared → Prop} {s : Shared} {env : Env}
theorem callWith_type_kwB {pos : Pos} {T : String} {e : Expr} {rest : List Expr} {kws : List Keyword} {Q : Value → Shared → Prop}
    (h : wpAny M A (spliced (backTo pos (starEach (e :: rest) env))) (fun vs s₁ => wpAny M A (evalAll ((backToKw pos (keywordEach kws env)).map (·.2)))
      (fun kvs s₂ => wpAny M A (call (.type T) vs (((backToKw pos (keywordEach kws env)).filterMap (·.1)).zip kvs)) Q E s₂) E s₁) E s)
    (he : backTo pos (starEach (e :: rest) env) = (false, eval e env) :: backTo pos (starEach rest env))
    (hplain : (backTo pos (starEach (e :: rest) env)).any (·.1) = false)
    (hall : (backToKw pos (keywordEach kws env)).all (·.1.isSome) = true)
    (hkw : (backToKw pos (keywordEach kws env)).any (·.1.isNone) = false) :
    wpAny M A (callWith pos (.type T) [] (backTo pos (starEach (e :: rest) env)) (backToKw pos (keywordEach kws env))) Q E s := by
  unfold callWith
  refine wpAny_bind (wpAny_holding (wpAny_mono (Q := fun a s₁ => wpAny M A (call (.type T) ([] ++ a.pos) a.kw) Q E s₁) ?_ (fun a s₁ h₁ => wpAny_bind (wpAny_standAt ?_)) fun _ _ x => x))
  · rw [he] at h ⊢
    exact evalArgs_kwB hall h
  · simp only [hplain, hkw, Bool.or_false]
    refine wpAny_bind (wpAny_pure ?_)
    exact wpAny_bind (wpAny_mono h₁ (fun r s₂ hr => wpAny_bind (wpAny_holding (wpAny_point (wpAny_pure hr)))) fun _ _ x => x)
end
section
variable {X : Cx} {e : Expr} {ta tb : TE} {ta1 : TA} {p pos tpos kpos : Pos} {elts : List Expr} {kk : Nat}
/-- what a made enumerate object gives -/
theorem enum_pie {pins : List (Addr × Obj)} {σ : L2.St} {H1 : Hp} {s1 : Shared} {R : It → Hp → Prop} {h' : Heap} {Sq : Hp → List V → Prop} {Ho : Heap → Array Value → Prop} {Is : Addr → Nat → Heap → Prop} {a : Addr} {k : Int}
    (I1 : Inv X pins σ H1 s1) (Z : EnSrc X.prog X.w X.K a s1.heap.objs.size Sq Ho (Is s1.heap.objs.size)) (he : IsEnum h' (s1.heap.objs.size + 1) s1.heap.objs.size k .none) (hit : Is s1.heap.objs.size 0 h') (hk : ∀ b o, s1.heap.get? b = some o → h'.get? b = some o) (q : R (Itn Sq k) H1) :
    wpAny (model X.prog X.w) X.A (pyIter (.ref (s1.heap.objs.size + 1))) (PIE X pins σ (.Tuple elts kk tpos) R) X.xe { s1 with heap := h' } := by
  refine wpAny_pyIter_enum he ?_
  have I2 : Inv X pins σ H1 { s1 with heap := h' } := I1.kept (t' := s1.toks) hk
  refine ⟨s1.heap.objs.size + 1, [s1.heap.objs.size + 1, s1.heap.objs.size], _, _, H1, rfl, I2, turn_enumN k Z, ⟨⟨.none, by rw [show k + ((0 : Nat) : Int) = k by omega]; exact he⟩, hit⟩, fun b hb => ?_, q⟩
  have e' : b = s1.heap.objs.size + 1 ∨ b = s1.heap.objs.size := by simpa using hb
  have hle : s1.heap.objs.size ≤ b := by
    rcases e' with z | z
    · rw [z]; exact Nat.le_add_right _ _
    · rw [z]; exact Nat.le_refl _
  exact I1.fpOk hle (I1.hok.fresh hle)
def iEnumS (K : PySem.W.Frag) (ta tb : TE) : TI := fun σ H R => ta σ H fun v H1 => tb σ H1 fun u H2 => ∃ a k xs, v = .ref a ∧ u = .int k ∧ -(2 ^ 63) ≤ k ∧ k < 2 ^ 63 ∧ ((SqL K H2 a xs ∧ R (Itn (fun H xs => SqL K H a xs) k) H2) ∨ (SqT K H2 a xs ∧ R (Itn (fun H xs => SqT K H a xs) k) H2))
/-- enumerate(xs, start=k) -/
theorem pi_enumS {b : Expr} (hg : Gl X "enumerate") (hm : X.mg "enumerate" = none) (ha : PE X e ta) (hb : PE X b tb) (hs : starEach [e] X.env = [(false, eval e X.env)] := by rfl)
    (hall : (backToKw pos (keywordEach [⟨some "start", b, kpos⟩] X.env)).all (·.1.isSome) = true := by rfl) (hnone : (backToKw pos (keywordEach [⟨some "start", b, kpos⟩] X.env)).any (·.1.isNone) = false := by rfl)
    (hks : (backToKw pos (keywordEach [⟨some "start", b, kpos⟩] X.env)).filterMap (·.1) = [Str.ofString "start"] := by rfl) (he : backTo pos (starEach [e] X.env) = (false, eval e X.env) :: backTo pos (starEach [] X.env) := by rfl) (hpl : (backTo pos (starEach [e] X.env)).any (·.1) = false := by rfl) :
    PI X (.Tuple elts kk tpos) (.Call (.Name "enumerate" p) [e] [⟨some "start", b, kpos⟩] pos) (iEnumS X.K ta tb) := by
  refine ⟨fun pins s σ H R I h => ?_⟩
  refine wpAny_Call_Name_kw (ld_blt I hg hm boot_enumerate ?_)
  refine callWith_type_kwB (thn ((pa_cons (X := X) ha pa_nil hs).run pos pins s σ H (fun vs H1 => match vs with
    | [v] => tb σ H1 fun u H2 => ∃ a k xs, v = .ref a ∧ u = .int k ∧ -(2 ^ 63) ≤ k ∧ k < 2 ^ 63 ∧ ((SqL X.K H2 a xs ∧ R (Itn (fun H xs => SqL X.K H a xs) k) H2) ∨ (SqT X.K H2 a xs ∧ R (Itn (fun H xs => SqT X.K H a xs) k) H2))
    | _ => False) I ?_) fun us s1 ⟨vs, H1, I1, r1, q1⟩ => ?_) he hpl hall hnone
  · exact h
  · obtain ⟨v, rfl⟩ : ∃ v, vs = [v] := by
      cases vs with
      | nil => exact q1.elim
      | cons v r =>
        cases r with
        | nil => exact ⟨v, rfl⟩
        | cons _ _ => exact q1.elim
    rw [hks]
    refine PyProof.Rows.kws_cons (thn (hb.run pins s1 σ H1 _ I1 q1) fun u s2 ⟨x, H2, I2, rx, a, k, xs, e1, e2, k0, k1, q2⟩ => PyProof.Rows.kws_nil ?_)
    subst e1 e2
    obtain ⟨t, rfl⟩ := rx
    cases r1 with
    | cons r rr =>
      cases rr
      cases r
      rcases q2 with ⟨hq, q⟩ | ⟨hq, q⟩
      · obtain ⟨its, rv, p', hz⟩ := I2.list hq
        exact enum_begins_start (begins_list a its.toArray) p'.isList k0 k1 fun h' he' hit hsz hk => enum_pie (Is := fun it i h => h.IsListIter it a i) I2 (enSrc_list a _) he' ⟨_, hit, rfl, rfl⟩ hk q
      · obtain ⟨its, rv, p', hz⟩ := I2.tuple hq
        exact enum_begins_start (begins_tuple a its.toArray) p' k0 k1 fun h' he' hit hsz hk => enum_pie (Is := fun it i h => h.IsTupleIter it a i) I2 (enSrc_tup a _) he' ⟨_, hit, rfl, rfl⟩ hk q
end
section
variable {φ : Addr → Prop} {J : Hp → Prop} {ρ : List (Option D)} {ta tb : TE} {ds : List D} {k : Int} {x : D}
theorem it_enumS (h : EvD K φ J ta ρ x) (hx : seqOf x = some ds) (hb : EvD K φ J tb ρ (.int k)) (hk : -(2 ^ 63) ≤ k ∧ k < 2 ^ 63) : IterD K φ J (iEnumS K ta tb) ρ (enumD k ds) := fun σ H A R q => h σ H A _ fun v d H1 b1 A1 e r => hb σ H1 A1 _ fun u d2 H2 b2 A2 e2 r2 => by
  subst e e2
  cases (show u = _ from r2)
  have r := r.mono b2
  have fin : ∀ {Sq : Hp → List V → Prop} {vs : List V}, Reps K φ H2 ds vs → (∀ φ' H3, Up φ φ' H2 H3 → Sq H3 vs) → Walks K φ (Itn Sq k) H2 (enumD k ds) := fun {Sq vs} rs hS φ' i H3 up f => by
    have r1 := Reps.up up ds vs rs
    have s1 := hS φ' H3 up
    refine ⟨fun d hd => ?_, fun hi => ⟨vs, s1, by rw [r1.length, hi, enumD_length]⟩⟩
    rw [enumD_get] at hd
    cases hx : ds[i]? with
    | none => rw [hx] at hd; cases hd
    | some d0 =>
      rw [hx] at hd
      cases hd
      obtain ⟨w, e, rw'⟩ := r1.get hx
      refine ⟨⟨vs, w, s1, e⟩, fun x H4 hy => ?_⟩
      obtain ⟨T, x1, rfl, hT, rfl, hx1⟩ := hy
      have e2 := hx1 vs s1
      rw [e] at e2
      cases e2
      exact ⟨same_new hT, rep_pair (f T hT) upd_same rfl (rw'.mono (But.of (same_new hT)))⟩
  cases d with
  | tup es =>
    cases hx
    obtain ⟨a, vs, rfl, p, rs⟩ := rep_tup r
    exact ⟨a, k, vs, rfl, rfl, hk.1, hk.2, .inr ⟨p.sq, q _ _ H2 (b1.trans b2) A2 rfl (fin rs fun φ' H3 up => (p.up up).sq)⟩⟩
  | lst es =>
    cases hx
    obtain ⟨a, vs, rfl, p, rs⟩ := rep_lst r
    exact ⟨a, k, vs, rfl, rfl, hk.1, hk.2, .inl ⟨p.sq, q _ _ H2 (b1.trans b2) A2 rfl (fin rs fun φ' H3 up => (p.up up).sq)⟩⟩
  | _ => cases hx
end
end

/-! ### == and != of data -/
mutual
def toPy : D → PyData
  | .non => .none
  | .bl b => .bool b
  | .int i => .int i
  | .str x => .str x
  | .tup ds => .tuple (toPys ds)
  | .lst ds => .list (toPys ds)
  | .raw _ => .none
  | .dk _ _ => .none
  | .dt _ _ => .none
def toPys : List D → List PyData
  | [] => []
  | d :: ds => toPy d :: toPys ds
end
/-- bounded depth, no raw values, texts within the bounds -/
def okq : Nat → D → Bool
  | _, .non => true
  | _, .bl _ => true
  | _, .int _ => true
  | _, .str x => PyData.strOk x
  | n + 1, .tup ds => ds.all (okq n)
  | n + 1, .lst ds => ds.all (okq n)
  | 0, .tup _ => false
  | 0, .lst _ => false
  | _, .raw _ => false
  | _, .dk _ _ => false
  | _, .dt _ _ => false
theorem okq_lay : ∀ (n : Nat) (d : D), okq n d = true → (toPy d).canLay0 = true ∧ (toPy d).depth ≤ n := by
  intro n
  induction n with
  | zero =>
    intro d h
    cases d with
    | non => exact ⟨rfl, Nat.le_refl _⟩
    | bl b => exact ⟨rfl, Nat.le_refl _⟩
    | int i => exact ⟨rfl, Nat.le_refl _⟩
    | str x => exact ⟨h, Nat.le_refl _⟩
    | tup ds => cases h
    | lst ds => cases h
    | raw v => cases h
    | dk ks ds => cases h
    | dt ks ds => cases h
  | succ n ih =>
    have all : ∀ ds : List D, ds.all (okq n) = true → PyData.canLayAll0 (toPys ds) = true ∧ PyData.depthAll (toPys ds) ≤ n := by
      intro ds
      induction ds with
      | nil => intro _; exact ⟨rfl, Nat.zero_le _⟩
      | cons d ds ihd =>
        intro h
        rw [List.all_cons, Bool.and_eq_true] at h
        obtain ⟨h1, h2⟩ := ih d h.1
        obtain ⟨h3, h4⟩ := ihd h.2
        refine ⟨?_, ?_⟩
        · show ((toPy d).canLay0 && PyData.canLayAll0 (toPys ds)) = true
          rw [h1, h3]
          rfl
        · show max (toPy d).depth (PyData.depthAll (toPys ds)) ≤ n
          omega
    intro d h
    cases d with
    | non => exact ⟨rfl, Nat.zero_le _⟩
    | bl b => exact ⟨rfl, Nat.zero_le _⟩
    | int i => exact ⟨rfl, Nat.zero_le _⟩
    | str x => exact ⟨h, Nat.zero_le _⟩
    | tup ds => exact ⟨(all ds h).1, Nat.succ_le_succ (all ds h).2⟩
    | lst ds => exact ⟨(all ds h).1, Nat.succ_le_succ (all ds h).2⟩
    | raw v => cases h
    | dk ks ds => cases h
    | dt ks ds => cases h
theorem okq_shaped {n : Nat} {d : D} (h : okq n d = true) (hn : n ≤ 64) : SeqAt.shaped (toPy d) = true := by
  obtain ⟨h1, h2⟩ := okq_lay n d h
  unfold SeqAt.shaped
  rw [h1, decide_eq_true (Nat.le_trans h2 hn)]
  rfl
def eqvD (x y : D) : Bool := PyData.eqv (toPy x) (toPy y)
section
variable {K : PySem.W.Frag} {φ : Addr → Prop} {J : Hp → Prop} {H : Hp} {ρ : List (Option D)} {ta tb : TE} {x y : D} {v : V} {ds : List D} {vs : List V}
mutual
theorem dp_of : ∀ (d : D) (v : V) (n : Nat), okq n d = true → Rep K φ H d v → Dp K H v (toPy d)
  | .non, v, n, _, r => by cases (show v = _ from r); exact .non
  | .bl b, v, n, _, r => by cases (show v = _ from r); exact .bl b
  | .int i, v, n, _, r => by cases (show v = _ from r); exact .int i
  | .str x, v, n, _, r => by cases (show v = _ from r); exact .str x
  | .raw w, v, n, h, _ => by cases n <;> cases h
  | .dk ks ds, v, n, h, _ => by cases n <;> cases h
  | .dt ks ds, v, n, h, _ => by cases n <;> cases h
  | .tup ds, v, 0, h, _ => by cases h
  | .lst ds, v, 0, h, _ => by cases h
  | .tup ds, v, n + 1, h, r => by
    obtain ⟨a, vs, rfl, p, rs⟩ := rep_tup r
    exact .tup p.sq (dps_of ds vs n h rs)
  | .lst ds, v, n + 1, h, r => by
    obtain ⟨a, vs, rfl, p, rs⟩ := rep_lst r
    exact .lst p.sq (dps_of ds vs n h rs)
theorem dps_of : ∀ (ds : List D) (vs : List V) (n : Nat), ds.all (okq n) = true → Reps K φ H ds vs → DpAll K H vs (toPys ds)
  | [], vs, n, _, r => by
    have e : vs = [] := r
    subst e
    exact .nil
  | d :: ds, vs, n, h, r => by
    obtain ⟨v, r', rfl, h1, h2⟩ := (show ∃ v r, vs = v :: r ∧ Rep K φ H d v ∧ Reps K φ H ds r from r)
    rw [List.all_cons, Bool.and_eq_true] at h
    exact .cons (dp_of d v n h.1 h1) (dps_of ds r' n h.2 h2)
end
theorem ev_eqQ (ha : EvD K φ J ta ρ x) (hb : EvD K φ J tb ρ y) (hx : okq 64 x = true) (hy : okq 64 y = true) : EvD K φ J (tOp (rEqD K) ta tb) ρ (.bl (eqvD x y)) := ev_opD ha hb fun H v w _ r1 r2 Q q =>
  ⟨_, _, dp_of x v 64 hx r1, dp_of y w 64 hy r2, okq_shaped hx (Nat.le_refl _), okq_shaped hy (Nat.le_refl _), q _ _ H (Same.refl H) rfl rfl⟩
theorem ev_neQ (ha : EvD K φ J ta ρ x) (hb : EvD K φ J tb ρ y) (hx : okq 64 x = true) (hy : okq 64 y = true) : EvD K φ J (tOp (rNeD K) ta tb) ρ (.bl (!eqvD x y)) := ev_opD ha hb fun H v w _ r1 r2 Q q =>
  ⟨_, _, dp_of x v 64 hx r1, dp_of y w 64 hy r2, okq_shaped hx (Nat.le_refl _), okq_shaped hy (Nat.le_refl _), q _ _ H (Same.refl H) rfl rfl⟩
theorem eqvD_refl {n : Nat} (h : okq n x = true) : eqvD x x = true := SeqAt.eqv_refl _ (okq_lay n x h).1
theorem toPys_ints : ∀ ns : List Int, toPys (ns.map D.int) = ns.map PyData.int
  | [] => rfl
  | n :: ns => by
    show PyData.int n :: toPys (ns.map D.int) = _
    rw [toPys_ints ns]
    rfl
theorem okq_ints {n : Nat} {ns : List Int} : okq (n + 1) (.lst (ns.map D.int)) = true := by
  show (ns.map D.int).all (okq n) = true
  rw [List.all_map, List.all_eq_true]
  intro i _
  cases n <;> rfl
theorem eqvD_nil {ds : List D} : eqvD (.lst ds) (.lst []) = ds.isEmpty := by
  unfold eqvD
  show PyData.eqvAll (toPys ds) [] = _
  cases ds <;> rfl
end

-- import HandS.Exc
-- import HandS.ExcOwn
-- import HandS.TryOnly
-- import HandS.WordsExc
-- import HandS.TupMul
/-! ### exceptions -/
/-- a class of exceptions of the program, without own __init__ -/
structure ExC (K : PySem.W.Frag) (mg : Str → Option Value) (x : Str) (c : Addr) : Prop where
  m : mg x = some (.ref c)
  e : PySem.W.excIn K c [.type "ValueError", .type "Exception", .type "BaseException", .type "object"] "ValueError.__new__" = true
  k : PySem.W.keepIn K (.ref c) = true
  s : PySem.W.subIn K (.ref c) (.type "BaseException") = some true
  t : PySem.W.typeIn K (.ref c) = some (.type "type")
  x : PySem.W.exmOne K (.ref c) (.ref c) = some true
theorem exm_sub {K : PySem.W.Frag} {S T : Addr} {b : Bool} (h1 : PySem.W.subIn K (.ref T) (.type "BaseException") = some true) (h2 : PySem.W.isClsIn K T = true) (h3 : PySem.W.typeIn K (.ref T) = some (.type "type")) (h4 : PySem.W.subIn K (.ref S) (.ref T) = some b) : PySem.W.exmOne K (.ref S) (.ref T) = some b := by
  have e2 : ((PySem.W.clsIn K T).isSome && PySem.W.typeIn K (.ref T) == some (.type "type")) = true := by
    rw [show (PySem.W.clsIn K T).isSome = true from h2, h3]
    rfl
  unfold PySem.W.exmOne
  rw [if_pos (by rw [h1]; rfl)]
  unfold PySem.W.kitCls
  dsimp only
  rw [if_pos e2]
  exact h4
/-- the promise of a def that may raise: a tree or a class -/
def SpX (K : PySem.W.Frag) (n : Nat) (R : List D → D ⊕ Addr → Prop) : Sp := fun vs H Q E => ∃ φ ds o, ds.length = n ∧ Reps K φ H ds vs ∧ Frm φ H ∧ R ds o ∧ (∀ d, o = .inl d → ∀ v H', Same H H' → Rep K φ H' d v → Q v H') ∧ (∀ c, o = .inr c → ∀ H', Same H H' → E (.ref c) none H')
section
variable {K : PySem.W.Frag} {φ φ' : Addr → Prop} {J J' : Hp → Prop} {H H' H1 : Hp} {ρ ρ' : List (Option D)} {σ : L2.St} {ta : TA} {te tb : TE} {x y z d : D} {P Pa Pb : D → Prop} {ds es : List D} {v : V} {D0 : Ends} {t u : TS} {W : WX} {c : Addr}
/-- a reading that raises -/
def Rs (K : PySem.W.Frag) (φ : Addr → Prop) (J : Hp → Prop) (te : TE) (ρ : List (Option D)) (W : WX) (c : Addr) : Prop := ∀ σ H, At K φ J ρ σ H → (∀ H', But φ H H' → At K φ J ρ σ H' → W (.ref c) none σ H') → ∀ Q, te σ H Q
theorem ev_callX {n : Nat} {R : List D → D ⊕ Addr → Prop} (ha : EvAD K φ J ta ρ ds) (hr : R ds (.inl d)) (hl : ds.length = n := by rfl) : EvD K φ J (tCallS (SpX K n R) (WE W) ta) ρ d := fun σ H A Q q =>
  ha σ H A _ fun vs ds' H1 b1 A1 e r1 => by
    subst e
    refine ⟨φ, _, _, hl, r1, A1.fr, hr, fun d' e v H' s r => ?_, fun c' e => nomatch e⟩
    cases e
    exact q v d H' (b1.trans (But.of s)) (A1.same s) rfl r
theorem rs_call {n : Nat} {R : List D → D ⊕ Addr → Prop} (ha : EvAD K φ J ta ρ ds) (hr : R ds (.inr c)) (hl : ds.length = n := by rfl) : Rs K φ J (tCallS (SpX K n R) (WE W) ta) ρ W c := fun σ H A k Q =>
  ha σ H A _ fun vs ds' H1 b1 A1 e r1 => by
    subst e
    refine ⟨φ, _, _, hl, r1, A1.fr, hr, (fun d' e => nomatch e), fun c' e H' s => ?_⟩
    cases e
    exact k H' (b1.trans (But.of s)) (A1.same s)
/-- an assignment, a return .. whose expression raises -/
theorem st_rs (A : At K φ J ρ σ H) (h : Rs K φ J te ρ W c) (k : ∀ H', But φ H H' → At K φ J ρ σ H' → W (.ref c) none σ H') {Q : VK} : te σ H Q := h σ H A k Q
theorem wonly_yes {C : Value} {ts : Addr → Value → Option Addr → TS} (hx : PySem.W.exmOne K (.ref c) C = some true) (h : ∀ a, H a = none → ts a (.ref c) none D0 σ H) : wOnly K C ts W D0 (.ref c) none σ H := ⟨true, hx, fun _ => h, fun e => nomatch e⟩
section
variable {PP : Program} {w : World} {mg : Str → Option Value} {base : Heap}
/-- a def that may raise keeps its promise -/
theorem fn_okX {x qual : Str} {st : Stmt} {f : Addr} {fd : FuncData} {N ps : List Str} {k n : Nat} {R : List D → D ⊕ Addr → Prop} (F : Fun K x qual st f fd) (S : FnScope N ps (defScope st)) (hn : ps.length = n) (m : Nat) (hm : N.length = n + m)
    (hbody : ∀ (cdv : Value) (A : Around) (outer : List Env) (s : Shared) (H : Hp) (E : XK), Room k (A.deeper (envOfC qual (defScope st) s.heap.objs.size f cdv)) →
      ∃ t, PSs (cxOf (L2.CX PP w) PP w K mg base N qual (defScope st) f cdv A outer s H E) (defBody st) t ∧
        ∀ (φ : Addr → Prop) (ds : List D) (o : D ⊕ Addr) (H : Hp) (D0 : Ends) (σ : L2.St), ds.length = n → R ds o → (∀ d, o = .inl d → ∀ v H', Same H H' → Rep K φ H' d v → D0.rt v H') → (∀ c, o = .inr c → ∀ H', Same H H' → E (.ref c) none H') → At K φ (Same H) (ds.map some ++ List.replicate m none) σ H → t D0 σ H) :
    FnOk PP w K mg base (L2.CX PP w) (k + 1) f fd ps (SpX K n R) := by
  refine F.okX S (fun vs H Q E h => ?_) (fun cdv A outer s H vs Q E hr h => ?_)
  · obtain ⟨φ, ds, d, hl, r, _⟩ := h
    rw [r.length, hl, hn]
  · obtain ⟨φ, ds, o, hl, r, fr, hd, q, qe⟩ := h
    obtain ⟨t, ht, run⟩ := hbody cdv A outer s H E hr
    refine ⟨t, ht, run φ ds o H _ _ hl hd (fun d e v H' s r => q d e v H' s r) qe ⟨?_, fr, Same.refl H, Mo.sames fun _ h => h⟩⟩
    have e : N.length - vs.length = m := by rw [hm, r.length, hl]; omega
    unfold L2.start
    rw [e]
    exact SR.start r
end
/-! ### two fors in a comprehension -/
theorem ev_lc2 {wi wi1 : TI} {g g1 : TG} {te : TE} {ws us us1 vs1 : List Nat} {es : D → List D} {f : D → D → D} {ρ1 : D → List (Option D)} {ρ2 : D → D → List (Option D)}
    (hi : IterD K φ J wi ρ ds) (hl : (ds.flatMap es).length ≤ 1000000) (hu : ∀ i ∈ us, i ∈ ws) (hu1 : ∀ i ∈ us1, i ∈ vs1) (hv : ∀ i ∈ vs1, i ∈ ws)
    (hg : ∀ d ∈ ds, EvG K g d (wipeR ρ ws) (ρ1 d) us)
    (hi1 : ∀ d ∈ ds, ∀ φ' J', Ext φ J φ' J' → IterD K φ' J' wi1 (ρ1 d) (es d))
    (hg1 : ∀ d ∈ ds, ∀ e ∈ es d, EvG K g1 e (wipeR (ρ1 d) vs1) (ρ2 d e) us1)
    (he : ∀ d ∈ ds, ∀ e ∈ es d, ∀ φ' J', Ext φ J φ' J' → EvD K φ' J' te (ρ2 d e) (f d e)) :
    EvD K φ J (tLc2 wi g tYes wi1 g1 tYes te ws vs1) ρ (.lst (ds.flatMap fun d => (es d).map (f d))) := fun σ H A Q q => by
  refine hi σ H A _ fun J0 ds' H1 b1 A1 pd w => ?_
  subst pd
  intro D0 hD
  have neP : ∀ p s ns, Pooled φ J p s ns → p ≠ D0 := fun p s ns hp => by
    obtain ⟨a1, a2, a3, a4, h1, _⟩ := hp.ok _ A1.j
    exact ne_of_none h1 hD
  let φ' : Addr → Prop := fun a => φ a ∧ a ≠ D0
  let F : Nat → List D := fun i => (ds'.take i).flatMap fun d => (es d).map (f d)
  have ext : ∀ acc : List V, Ext φ J φ' (fun H => J H ∧ H D0 = some (.lst acc)) := fun acc => ⟨fun _ h => h.1, fun p s ns hp => ⟨fun z => hp.np z.1, hp.ne, fun H h => hp.ok H h.1, fun H H' h k o => ⟨hp.st H H' h.1 k o, k _ _ (neP p s ns hp).symm h.2⟩⟩, fun a p h => ⟨p, fun e => h H1 A1.j (by rw [e]; exact hD)⟩⟩
  have mono : ∀ (acc : List V) (H2 : Hp), (∀ a, H1 a ≠ none → H2 a ≠ none) → H2 D0 ≠ none → Mo H2 (fun H => J H ∧ H D0 = some (.lst acc)) := fun acc H2 s h => (A1.mono.up s).and (Mo.at h)
  have lenT : ∀ i, i < ds'.length → ∀ d, ds'[i]? = some d → ∀ j, j < (es d).length → (F i ++ ((es d).take j).map (f d)).length < 1000000 := fun i hi d hd j hj => by
    have e1 : ds' = ds'.take i ++ d :: ds'.drop (i + 1) := by
      have z := (List.getElem?_eq_some_iff.mp hd)
      obtain ⟨z1, z2⟩ := z
      rw [← z2, List.getElem_cons_drop, List.take_append_drop]
    have e2 : (ds'.flatMap es).length = ((ds'.take i).flatMap es).length + ((es d).length + ((ds'.drop (i + 1)).flatMap es).length) := by
      conv => lhs; rw [e1]
      rw [List.flatMap_append, List.length_append, List.flatMap_cons, List.length_append]
    have e3 : (F i).length = ((ds'.take i).flatMap es).length := by
      show ((ds'.take i).flatMap fun d => (es d).map (f d)).length = _
      simp only [List.length_flatMap, List.length_map]
    rw [List.length_append, List.length_map, List.length_take, e3]
    omega
  refine ⟨fun i m H2 => m = ds'.length - i ∧ i ≤ ds'.length ∧ But φ H1 H2 ∧ ∃ acc, Reps K φ' H2 (F i) acc ∧ At K φ' (fun H => J H ∧ H D0 = some (.lst acc)) (wipeR ρ ws) (L2.wipe σ ws) H2,
    ⟨ds'.length, rfl, Nat.zero_le _, But.of (same_new hD), [], Reps.nil, ?_⟩, ?_⟩
  · have A2 := A1.newLive (o := .lst []) (J' := fun H => J H ∧ H D0 = some (.lst [])) hD ⟨A1.mono _ _ (fun a o _ e => same_new hD a o e) A1.j, upd_same⟩ (mono [] _ upd_tr (by rw [upd_same]; exact fun z => by cases z))
    exact ⟨A2.sr.wipe ws, A2.fr, A2.j, A2.mono⟩
  · rintro i m H2 ⟨rfl, hi, b2, acc, rs, A2⟩
    have upw : Up φ φ' H1 H2 := fun a o p e => ⟨⟨p, ne_of_none e hD⟩, b2.keep a o p e⟩
    have fr2 : Frm φ' H2 := A2.fr
    obtain ⟨wg, wstop⟩ := w φ' i H2 upw fr2
    by_cases hlt : i < ds'.length
    · have hd : ds'[i]? = some ds'[i] := List.getElem?_eq_getElem hlt
      obtain ⟨go, yl⟩ := wg _ hd
      have hmem : ds'[i] ∈ ds' := List.getElem_mem hlt
      have tk : F (i + 1) = F i ++ (es ds'[i]).map (f ds'[i]) := by
        show (ds'.take (i + 1)).flatMap _ = _
        rw [List.take_add_one, hd, List.flatMap_append]
        show _ ++ List.flatMap _ [ds'[i]] = _
        rw [List.flatMap_cons, List.flatMap_nil, List.append_nil]
      refine .inr ⟨go, fun H3 => But φ H1 H3 ∧ ∃ acc, Reps K φ' H3 (F (i + 1)) acc ∧ At K φ' (fun H => J H ∧ H D0 = some (.lst acc)) (wipeR ρ ws) (L2.wipe σ ws) H3, ?_, ?_⟩
      · rintro H3 ⟨b3, acc3, r3, A3⟩
        exact ⟨ds'.length - (i + 1), by omega, rfl, hlt, b3, acc3, r3, A3⟩
      · intro x H3 hy
        obtain ⟨s3, r3⟩ := yl x H3 hy
        have A3 := A2.same s3
        have rs3 := rs.mono (But.of (φ := φ') s3)
        have b3 : But φ H1 H3 := b2.trans (But.of s3)
        refine hg _ hmem φ' _ _ H3 x A3 r3 _ fun σ4 A4 hw4 => ⟨?_, ?_⟩
        · rw [hw4 ws hu]
          exact wipe_wipe ws
        · refine et_yes (K := K) (φ := φ') σ4 H3 A4 _ fun bb H4 b4 A4' hbb => ?_
          subst hbb
          rw [if_pos rfl]
          replace rs3 := rs3.mono b4
          replace b3 : But φ H1 H4 := ⟨fun a o p e => b4.keep a o ⟨p, ne_of_none e hD⟩ (b3.keep a o p e), fun a h => b4.tr a (b3.tr a h)⟩
          refine hi1 _ hmem φ' _ (ext acc) σ4 H4 A4' _ fun J1 es' H5 b5 A5 pe1 w1 => ?_
          subst pe1
          have b15 : But φ H1 H5 := ⟨fun a o p e => b5.keep a o ⟨p, ne_of_none e hD⟩ (b3.keep a o p e), fun a h => b5.tr a (b3.tr a h)⟩
          let G : Nat → List D := fun j => F i ++ ((es ds'[i]).take j).map (f ds'[i])
          refine ⟨fun j k H6 => k = (es ds'[i]).length - j ∧ j ≤ (es ds'[i]).length ∧ But φ H1 H6 ∧ (∀ a o, φ' a → H5 a = some o → H6 a = some o) ∧ ∃ acc, Reps K φ' H6 (G j) acc ∧ At K φ' (fun H => J H ∧ H D0 = some (.lst acc)) (wipeR (ρ1 ds'[i]) vs1) (L2.wipe σ4 vs1) H6,
            ⟨(es ds'[i]).length, rfl, Nat.zero_le _, b15, fun _ _ _ e => e, acc, ?_, ?_⟩, ?_⟩
          · show Reps K φ' H5 (F i ++ List.map _ (List.take 0 _)) acc
            rw [List.take_zero, List.map_nil, List.append_nil]
            exact rs3.mono b5
          · exact ⟨A5.sr.wipe vs1, A5.fr, A5.j, A5.mono⟩
          · rintro j k H6 ⟨rfl, hj, b6, kp6, acc6, rs6, A6⟩
            have up6 : Up φ' φ' H5 H6 := fun a o p e => ⟨p, kp6 a o p e⟩
            obtain ⟨wg1, ws1⟩ := w1 φ' j H6 up6 A6.fr
            by_cases hlt1 : j < (es ds'[i]).length
            · have hd1 : (es ds'[i])[j]? = some (es ds'[i])[j] := List.getElem?_eq_getElem hlt1
              obtain ⟨go1, yl1⟩ := wg1 _ hd1
              have hmem1 : (es ds'[i])[j] ∈ es ds'[i] := List.getElem_mem hlt1
              have tk1 : G (j + 1) = G j ++ [f ds'[i] (es ds'[i])[j]] := by
                show F i ++ _ = (F i ++ _) ++ _
                rw [List.take_add_one, hd1, List.map_append, List.append_assoc]
                rfl
              refine .inr ⟨go1, fun H7 => But φ H1 H7 ∧ (∀ a o, φ' a → H5 a = some o → H7 a = some o) ∧ ∃ acc, Reps K φ' H7 (G (j + 1)) acc ∧ At K φ' (fun H => J H ∧ H D0 = some (.lst acc)) (wipeR (ρ1 ds'[i]) vs1) (L2.wipe σ4 vs1) H7, ?_, ?_⟩
              · rintro H7 ⟨b7, kp7, acc7, r7, A7⟩
                exact ⟨(es ds'[i]).length - (j + 1), by omega, rfl, hlt1, b7, kp7, acc7, r7, A7⟩
              · intro x1 H7 hy1
                obtain ⟨s7, r7⟩ := yl1 x1 H7 hy1
                have A7 := A6.same s7
                have rs7 := rs6.mono (But.of (φ := φ') s7)
                have b7 : But φ H1 H7 := b6.trans (But.of s7)
                have kp7 : ∀ a o, φ' a → H5 a = some o → H7 a = some o := fun a o p e => s7 a o (kp6 a o p e)
                refine hg1 _ hmem _ hmem1 φ' _ _ H7 x1 A7 r7 _ fun σ8 A8 hw8 => ⟨?_, ?_⟩
                · rw [hw8 vs1 hu1]
                  exact wipe_wipe vs1
                · refine et_yes (K := K) (φ := φ') σ8 H7 A8 _ fun bb H8 b8 A8' hbb => ?_
                  subst hbb
                  rw [if_pos rfl]
                  replace rs7 := rs7.mono b8
                  replace b7 : But φ H1 H8 := ⟨fun a o p e => b8.keep a o ⟨p, ne_of_none e hD⟩ (b7.keep a o p e), fun a h => b8.tr a (b7.tr a h)⟩
                  replace kp7 : ∀ a o, φ' a → H5 a = some o → H8 a = some o := fun a o p e => b8.keep a o p (kp7 a o p e)
                  replace A7 : At K φ' (fun H => J H ∧ H D0 = some (.lst acc6)) (wipeR (ρ1 ds'[i]) vs1) (L2.wipe σ4 vs1) H8 := ⟨A7.sr.up (Up.of b8), A8'.fr, A8'.j, A8'.mono⟩
                  refine he _ hmem _ hmem1 φ' _ (ext acc6) σ8 H8 A8' _ fun v d H9 b9 A9 pv r9 => ?_
                  subst pv
                  have rl := rs7.mono b9
                  have nD : ¬ φ' D0 := fun z => z.2 rfl
                  refine ⟨acc6, A9.j.2, ?_, ?_, ?_, acc6 ++ [v], ?_, ?_⟩
                  · rw [rl.length]
                    exact szlt (Nat.le_of_lt (lenT i hlt _ hd j hlt1))
                  · refine ⟨fun a o p e => ?_, fun a h => upd_tr a (b9.tr a (b7.tr a h))⟩
                    have ne := ne_of_none e hD
                    rw [upd_ne ne]
                    exact b9.keep a o ⟨p, ne⟩ (b7.keep a o p e)
                  · intro a o p e
                    rw [upd_ne p.2]
                    exact b9.keep a o p (kp7 a o p e)
                  · rw [tk1]
                    exact (rl.append (Reps.cons r9 Reps.nil)).mono ((But.refl φ' H9).upd nD)
                  · have A9' : At K φ' (fun H => J H ∧ H D0 = some (.lst acc6)) (wipeR (ρ1 ds'[i]) vs1) (L2.wipe σ4 vs1) H9 := ⟨A7.sr.up (Up.of b9), A9.fr, A9.j, A9.mono⟩
                    have jj : J (upd H9 D0 (.lst (acc6 ++ [v]))) := A1.mono H9 _ (fun a o h e => by
                      rw [upd_ne (show a ≠ D0 from fun z => h (by rw [z]; exact hD))]
                      exact e) A9.j.1
                    exact A9'.upd nD ⟨jj, upd_same⟩ (mono _ _ (fun a h => upd_tr a (b9.tr a (b7.tr a h))) (by rw [upd_same]; exact fun z => by cases z))
            · have e : j = (es ds'[i]).length := by omega
              subst e
              refine .inl ⟨ws1 rfl, b6, acc6, ?_, ?_⟩
              · rw [tk]
                have e2 : G (es ds'[i]).length = F i ++ (es ds'[i]).map (f ds'[i]) := by
                  show F i ++ _ = _
                  rw [List.take_length]
                rw [← e2]
                exact rs6
              · have b26 : Up φ' φ' H2 H6 := fun a o p e => ⟨p, kp6 a o p (b5.keep a o p (b4.keep a o p (s3 a o e)))⟩
                exact ⟨A2.sr.up b26, A6.fr, A6.j, A6.mono⟩
    · have e : i = ds'.length := by omega
      subst e
      refine .inl ⟨wstop rfl, ?_⟩
      have eF : F ds'.length = ds'.flatMap fun d => (es d).map (f d) := by
        show (ds'.take _).flatMap _ = _
        rw [List.take_length]
      rw [eF] at rs
      have A3 : At K φ J ρ σ H2 := ⟨A1.sr.up (Up.of b2), A2.fr.fst, A2.j.1, A1.mono.up b2.tr⟩
      exact q _ (.lst (ds'.flatMap fun d => (es d).map (f d))) H2 (b1.trans b2) A3 rfl ⟨D0, acc, rfl, .inl ⟨A1.fr D0 hD, .inl A2.j.2⟩, Reps.up (fun a o p e => ⟨p.1, e⟩) _ _ rs⟩
/-! ### a tuple times an int -/
theorem replicate_reps {vs : List V} (r : Reps K φ H ds vs) : ∀ n : Nat, Reps K φ H (List.replicate n ds).flatten (List.replicate n vs).flatten
  | 0 => Reps.nil
  | n + 1 => by
    rw [List.replicate_succ, List.replicate_succ, List.flatten_cons, List.flatten_cons]
    exact r.append (replicate_reps r n)
theorem ev_repT {i : Int} (ha : EvD K φ J te ρ (.tup ds)) (hb : EvD K φ J tb ρ (.int i)) (hne : ds ≠ []) (h2 : 2 ≤ i) (h3 : i ≤ 1000) (hz : ds.length ≤ 1000) : EvD K φ J (tOp (rRepT K) te tb) ρ (.tup (List.replicate i.toNat ds).flatten) :=
  ev_opD ha hb fun H v w fr r1 r2 Q q => by
    obtain ⟨a, vs, rfl, p, rs⟩ := rep_tup r1
    cases (show w = _ from r2)
    refine ⟨a, i, vs, rfl, rfl, p.sq, fun z => hne (List.eq_nil_of_length_eq_zero (by rw [← rs.length, z]; rfl)), h2, h3, by rw [rs.length]; exact hz, fun l hl => q _ _ _ (same_new hl) rfl ⟨l, _, rfl, .inl ⟨fr l hl, .inl upd_same⟩, ?_⟩⟩
    exact (replicate_reps rs _).mono (But.of (same_new hl))
end

theorem _root_.L2.Room.units1 {k : Nat} {A : Around} (r : Room k A) : A.units + 1 < cLine := by have := r.un; omega
theorem _root_.L2.Room.units65 {k : Nat} {A : Around} (r : Room k A) : A.units + 65 < cLine := by have := r.un; omega
/-! ### rules with the frame K told (in comprehensions), chains of three operators -/
section
variable {X : Cx} {K : PySem.W.Frag}
theorem kix_list (h : X.K = K) : IxR X (rIxL K) := h ▸ ix_list
theorem kix_tup (h : X.K = K) : IxR X (rIxT K) := h ▸ ix_tup
theorem kix_seq (h : X.K = K) : IxR X (rIx K) := h ▸ ix_seq
theorem ksl_list (h : X.K = K) : SlR X (rSlL K) := h ▸ sl_list
theorem ksl_tupA (h : X.K = K) : SlR X (rSlA K) := h ▸ sl_tupA
theorem kop_catA (h : X.K = K) : OpR X (binaryOp .Add) (rCatA K) := h ▸ op_catA
theorem kop_repT (h : X.K = K) : OpR X (binaryOp .Mult) (rRepT K) := h ▸ op_repT
theorem kop_inD (h : X.K = K) (hu : X.A.units + 65 < cLine) : OpR X (compareOp .In) (rInD K) := h ▸ op_inD hu
theorem kop_notInD (h : X.K = K) (hu : X.A.units + 65 < cLine) : OpR X (compareOp .NotIn) (rNotInD K) := h ▸ op_notInD hu
theorem kop_eqD (h : X.K = K) (hu : X.A.units + 64 < cLine) : OpR X (compareOp .Eq) (rEqD K) := h ▸ op_eqD hu
theorem kop_neD (h : X.K = K) (hu : X.A.units + 64 < cLine) : OpR X (compareOp .NotEq) (rNeD K) := h ▸ op_neD hu
theorem kop_in_seq (h : X.K = K) : OpR X (compareOp .In) (rIn K false) := h ▸ op_in_seq
theorem kop_notIn_seq (h : X.K = K) : OpR X (compareOp .NotIn) (rIn K true) := h ▸ op_notIn_seq
theorem kc_len (h : X.K = K) : CallR X (.builtin "len") (rLen K) := h ▸ c_len
theorem kc_listOf (h : X.K = K) : CallR X (.type "list") (rListOf K) := h ▸ c_listOf
theorem kc_tupOf (h : X.K = K) : CallR X (.type "tuple") (rTupOf K) := h ▸ c_tupOf
theorem kcall_isi (h : X.K = K) : CallR X (.builtin "isinstance") (rIsi K) := h ▸ call_isi
theorem kc_sum (h : X.K = K) (hc : X.calm = true := by rfl) : CallR X (.builtin "sum") (rSum K) := h ▸ c_sum hc
theorem kcr_max (h : X.K = K) (hc : X.calm = true) : CallR X (.builtin "max") (rMax K) := h ▸ cr_max hc
theorem kcr_min (h : X.K = K) (hc : X.calm = true) : CallR X (.builtin "min") (rMin K) := h ▸ cr_min hc
theorem kpi_list {tg l : Expr} {tl : TE} (h : X.K = K) (hl : PE X l tl) : PI X tg l (iList K tl) := h ▸ pi_list hl
theorem kpi_tup {tg l : Expr} {tl : TE} (h : X.K = K) (hl : PE X l tl) : PI X tg l (iTup K tl) := h ▸ pi_tup hl
end
/-- a < b <= c < d -/
def tChain3 (r r' r2 : R2) (ta tb tc td : TE) : TE := fun σ H Q => ta σ H fun x H1 => tb σ H1 fun y H2 => r x y H2 fun z H3 => ∃ k, z = .bl k ∧
  (if k = true then tc σ H3 fun w' H4 => r' y w' H4 fun z2 H5 => ∃ k2, z2 = .bl k2 ∧ (if k2 = true then td σ H5 fun w2 H6 => r2 w' w2 H6 Q else Q (.bl false) H5) else Q (.bl false) H3)
section
variable {X : Cx} {a b c e : Expr} {ta tb tc td : TE} {pos : Pos}
theorem pe_chain3 {op op' op2 : CmpOp} {r r' r2 : R2} (ho : OpR X (compareOp op) r) (ho' : OpR X (compareOp op') r') (ho2 : OpR X (compareOp op2) r2) (ha : PE X a ta) (hb : PE X b tb) (hc : PE X c tc) (hd : PE X e td)
    (hm : lastMarks [op, op', op2] [b, c, e] = false := by with_unfolding_all rfl) : PE X (.Compare a [op, op', op2] [b, c, e] pos) (tChain3 r r' r2 ta tb tc td) := by
  refine ⟨fun pins s σ H Q I h => ?_⟩
  refine Compare_chain (thn (ha.run pins s σ H _ I h) fun v s1 ⟨x, H1, I1, r1, q1⟩ => chain_link (thn (hb.run pins s1 σ H1 _ I1 q1) fun u s2 ⟨y, H2, I2, rr2, q2⟩ =>
    thn (ho pins s2 σ H2 x y v u _ I2 r1 rr2 q2) fun d s3 ⟨z, H3, I3, r3, k, e, q3⟩ => ?_)) hm
  subst e
  cases r3
  refine wpAny_truthy_bool ?_
  cases k with
  | false => exact ite_ff ⟨.bl false, H3, I3, rfl, q3⟩
  | true =>
    refine ite_tt (chain_link (thn (hc.run pins s3 σ H3 _ I3 q3) fun w' s4 ⟨z', H4, I4, r4, q4⟩ => thn (ho' pins s4 σ H4 y z' u w' _ I4 rr2 r4 q4) fun d' s5 ⟨z5, H5, I5, r5, k2, e2, q5⟩ => ?_))
    subst e2
    cases r5
    refine wpAny_truthy_bool ?_
    cases k2 with
    | false => exact ite_ff ⟨.bl false, H5, I5, rfl, q5⟩
    | true => exact ite_tt (chain_last (thn (hd.run pins s5 σ H5 _ I5 q5) fun w2 s6 ⟨z6, H6, I6, r6, q6⟩ => ho2 pins s6 σ H6 z' z6 w' w2 Q I6 r4 r6 q6))
theorem pt_chain3 {op op' op2 : CmpOp} {r r' r2 : R2} (ho : OpR X (compareOp op) r) (ho' : OpR X (compareOp op') r') (ho2 : OpR X (compareOp op2) r2) (ha : PE X a ta) (hb : PE X b tb) (hc : PE X c tc) (hd : PE X e td)
    (hm : lastMarks [op, op', op2] [b, c, e] = false := by with_unfolding_all rfl) : L2.PT X (.Compare a [op, op', op2] [b, c, e] pos) (tTest (tChain3 r r' r2 ta tb tc td)) := by
  refine ⟨fun pins s σ H Q I h => ?_⟩
  refine isTrue_chain (thn (ha.run pins s σ H _ I h) fun v s1 ⟨x, H1, I1, r1, q1⟩ => test_link (thn (hb.run pins s1 σ H1 _ I1 q1) fun u s2 ⟨y, H2, I2, rr2, q2⟩ =>
    thn (ho pins s2 σ H2 x y v u _ I2 r1 rr2 q2) fun d s3 ⟨z, H3, I3, r3, k, e, q3⟩ => ?_)) hm
  subst e
  cases r3
  refine wpAny_truthy_bool ?_
  cases k with
  | false =>
    obtain ⟨k', e', q'⟩ := q3
    cases e'
    exact ite_ff ⟨H3, I3, q'⟩
  | true =>
    refine ite_tt (test_link (thn (hc.run pins s3 σ H3 _ I3 q3) fun w' s4 ⟨z', H4, I4, r4, q4⟩ => thn (ho' pins s4 σ H4 y z' u w' _ I4 rr2 r4 q4) fun d' s5 ⟨z5, H5, I5, r5, k2, e2, q5⟩ => ?_))
    subst e2
    cases r5
    refine wpAny_truthy_bool ?_
    cases k2 with
    | false =>
      obtain ⟨k', e', q'⟩ := q5
      cases e'
      exact ite_ff ⟨H5, I5, q'⟩
    | true =>
      refine ite_tt (test_last (thn (hd.run pins s5 σ H5 _ I5 q5) fun w2 s6 ⟨z6, H6, I6, r6, q6⟩ => thn (ho2 pins s6 σ H6 z' z6 w' w2 _ I6 r4 r6 q6) fun d2 s7 ⟨z7, H7, I7, r7, k7, e7, q7⟩ => ?_))
      subst e7
      cases r7
      exact wpAny_truthy_bool ⟨H7, I7, q7⟩
end
section
variable {K : PySem.W.Frag} {φ : Addr → Prop} {J : Hp → Prop} {ρ : List (Option D)} {ta tb tc td : TE}
theorem ev_chainI3 {f g h : Int → Int → Bool} {i j k l : Int} (ha : EvD K φ J ta ρ (.int i)) (hb : EvD K φ J tb ρ (.int j)) (hc : EvD K φ J tc ρ (.int k)) (hd : EvD K φ J td ρ (.int l)) :
    EvD K φ J (tChain3 (rI0 fun i j => .bl (f i j)) (rI0 fun i j => .bl (g i j)) (rI0 fun i j => .bl (h i j)) ta tb tc td) ρ (.bl (f i j && (g j k && h k l))) := fun σ H A Q q =>
  ha σ H A _ fun v x1 H1 b1 A1 e1 r1 => hb σ H1 A1 _ fun w y1 H2 b2 A2 e2 r2 => by
    subst e1 e2
    cases (show v = _ from r1)
    cases (show w = _ from r2)
    refine ⟨i, j, rfl, rfl, f i j, rfl, ?_⟩
    cases hf : f i j with
    | false =>
      rw [if_neg (by simp)]
      exact q _ _ H2 (b1.trans b2) A2 rfl (by rw [hf]; rfl)
    | true =>
      rw [if_pos rfl]
      refine hc σ H2 A2 _ fun v3 x3 H3 b3 A3 e3 r3 => ?_
      subst e3
      cases (show v3 = _ from r3)
      refine ⟨j, k, rfl, rfl, g j k, rfl, ?_⟩
      cases hg : g j k with
      | false =>
        rw [if_neg (by simp)]
        exact q _ _ H3 ((b1.trans b2).trans b3) A3 rfl (by rw [hf, hg]; rfl)
      | true =>
        rw [if_pos rfl]
        refine hd σ H3 A3 _ fun v4 x4 H4 b4 A4 e4 r4 => ?_
        subst e4
        cases (show v4 = _ from r4)
        exact ⟨k, l, rfl, rfl, q _ _ H4 (((b1.trans b2).trans b3).trans b4) A4 rfl (by rw [hf, hg]; rfl)⟩
end

/-! ### live lists of trees -/
/-- the frame without l -/
abbrev wo (φ : Addr → Prop) (l : Addr) : Addr → Prop := fun a => φ a ∧ a ≠ l
structure LivO (K : PySem.W.Frag) (φ : Addr → Prop) (Jb J : Hp → Prop) (l : Addr) (C : List V → HO) (ds : List D) : Prop where
  np : ¬ φ l
  st : Stab l Jb
  pl : ∀ p s ns, Pooled φ Jb p s ns → p ≠ l ∧ s ≠ l
  ex : ∃ vs H0, Reps K φ H0 ds vs ∧ Mo H0 Jb ∧ H0 l ≠ none ∧ J = fun H => (Jb H ∧ H l = some (C vs)) ∧ But φ H0 H
abbrev Liv (K : PySem.W.Frag) (φ : Addr → Prop) (Jb J : Hp → Prop) (l : Addr) (ds : List D) : Prop := LivO K φ Jb J l HO.lst ds
/-- a new object comes out, C of values -/
def EvNO (K : PySem.W.Frag) (φ : Addr → Prop) (J : Hp → Prop) (te : TE) (ρ : List (Option D)) (P : List D → (List V → HO) → Prop) : Prop := ∀ σ H, At K φ J ρ σ H → ∀ Q : VK, (∀ p vs ds C H0 H', But φ H H0 → At K φ J ρ σ H0 → H0 p = none → But φ H0 H' → At K φ J ρ σ H' → P ds C → (∀ xs, C vs ≠ .tup xs) → H' p = some (C vs) → Reps K (wo φ p) H' ds vs → Q (.ref p) H') → te σ H Q
section
variable {K : PySem.W.Frag} {φ φ' : Addr → Prop} {Jb J J' : Hp → Prop} {H H' H1 : Hp} {ρ ρ' : List (Option D)} {σ : L2.St} {ta : TA} {te tb : TE} {x y z d : D} {P Pa Pb : D → Prop} {ds es : List D} {v : V} {vs : List V} {D0 : Ends} {t u : TS} {l : Addr} {C : List V → HO}
theorem Ext.but2 {p s : Addr} {ns : List Int} {H0 : Hp} (np : ¬ φ p) : ∀ H H', But φ H0 H → ButP p H H' → PoolOk p s ns H' → But φ H0 H' := fun H H' b k o => ⟨fun a u pa e => k a u (fun z => np (z ▸ pa)) (b.keep a u pa e), fun a ha => by
  by_cases z : a = p
  · subst z
    obtain ⟨_, _, _, _, e, _⟩ := o
    rw [e]
    exact fun z => by cases z
  · cases e : H a with
    | none => exact absurd e (b.tr a ha)
    | some u => rw [k a u z e]; exact fun z => by cases z⟩
theorem LivO.ext (L : LivO K φ Jb J l C ds) : Ext φ Jb φ J := by
  obtain ⟨vs, H0, r, m, hl, rfl⟩ := L.ex
  exact ⟨fun H h => h.1.1, fun p s ns hp => ⟨hp.np, hp.ne, fun H h => hp.ok H h.1.1, fun H H' h k o => ⟨⟨hp.st H H' h.1.1 k o, k _ _ (L.pl p s ns hp).1.symm h.1.2⟩, Ext.but2 hp.np H H' h.2 k o⟩⟩, fun _ p _ => p⟩
theorem LivO.len (L : Liv K φ Jb J l ds) : ∃ vs, vs.length = ds.length ∧ ∀ H, J H → H l = some (.lst vs) := by
  obtain ⟨vs, H0, r, m, hl, rfl⟩ := L.ex
  exact ⟨vs, r.length, fun H h => h.1.2⟩
/-- x = a new object -/
theorem st_newO {k : Nat} {P : List D → (List V → HO) → Prop} (A : At K φ J ρ σ H) (h : EvNO K φ J te ρ P) (kk : ∀ l ds C J' σ' H', P ds C → φ l → H l = none → Ext φ J (wo φ l) J → LivO K (wo φ l) J J' l C ds → At K (wo φ l) J' (ρ.set k (some (.raw (.ref l)))) σ' H' → D0.nx σ' H') : tAsg te (gName k) D0 σ H :=
  h σ H A _ fun p vs ds C H0 H' b0 A0 hp b A' pd nt e r => by
    have hpH : H p = none := by
      cases z : H p with
      | none => rfl
      | some u => exact absurd hp (b0.tr p (by rw [z]; exact fun w => by cases w))
    have st : Stab p J := Stab.of A0.mono hp
    have u : Up φ (wo φ p) H H' := fun a o q e2 => ⟨⟨q, ne_of_none e2 hpH⟩, (b0.trans b).keep a o q e2⟩
    have sr : SR K (wo φ p) H' ρ σ := A.sr.up u
    have A2 : At K (wo φ p) (fun H => (J H ∧ H p = some (C vs)) ∧ But (wo φ p) H' H) ρ σ H' :=
      ⟨sr, A'.fr.at e nt, ⟨⟨A'.j, e⟩, But.refl _ _⟩, (A'.mono.and (Mo.at (by rw [e]; exact fun w => by cases w))).and (Mo.but fun _ h => h)⟩
    exact kk p ds C _ _ H' pd (A0.fr p hp) hpH ⟨fun _ h => h, fun p s ns q => ⟨fun z => q.np z.1, q.ne, q.ok, q.st⟩, fun a p' h => ⟨p', fun e => h H0 A0.j (by rw [e]; exact hp)⟩⟩
      ⟨fun z => z.2 rfl, st, fun s ps ns q => by
        obtain ⟨_, _, _, _, h1, h2, _⟩ := q.ok _ A0.j
        exact ⟨ne_of_none h1 hp, ne_of_none h2 hp⟩, vs, H', r, A'.mono, (by rw [e]; exact fun z => nomatch z), rfl⟩ (A2.set k rfl)
/-- x = a new list -/
theorem st_newL {k : Nat} {P : List D → Prop} (A : At K φ J ρ σ H) (h : EvN K φ J te ρ P) (kk : ∀ l ds J' σ' H', P ds → φ l → H l = none → Ext φ J (wo φ l) J → Liv K (wo φ l) J J' l ds → At K (wo φ l) J' (ρ.set k (some (.raw (.ref l)))) σ' H' → D0.nx σ' H') : tAsg te (gName k) D0 σ H :=
  st_new A h fun l vs ds σ' H' pd hn hp r st ne b e A' => kk l ds _ σ' H' pd hp hn ⟨fun _ h => h, fun p s ns q => ⟨fun z => q.np z.1, q.ne, q.ok, q.st⟩, fun a p' h => ⟨p', fun e' => h H A.j (by rw [e']; exact hn)⟩⟩
    ⟨fun z => z.2 rfl, st, fun p s ns q => by
      obtain ⟨_, _, _, _, h1, h2, _⟩ := q.ok _ A.j
      exact ⟨ne_of_none h1 hn, ne_of_none h2 hn⟩, vs, H', r, A.mono.up b.tr, (by rw [e]; exact fun z => nomatch z), rfl⟩ A'
/-- .append -/
theorem st_appL {k : Nat} (A : At K φ J ρ σ H) (L : Liv K φ Jb J l ds) (hk : ρ[k]? = some (some (.raw (.ref l)))) (he : EvP K φ J te ρ P) (hz : ds.length ≤ 1000000)
    (kk : ∀ d J' H', P d → Liv K φ Jb J' l (ds ++ [d]) → At K φ J' ρ σ H' → D0.nx σ H') : tDrop (tBM K "list" rAppend (tVar k) (tCons te tNil)) D0 σ H := by
  obtain ⟨vs, H0, r, m, hl, rfl⟩ := L.ex
  refine st_app (vs := vs) A hk (fun H h => h.1.2) he (by rw [r.length]; exact hz) fun v d H' pd rv b A' => ?_
  have b0 : But φ H0 H' := A'.j.2
  have trl : H' l ≠ none := b0.tr l hl
  refine kk d _ _ pd ⟨L.np, L.st, L.pl, vs ++ [v], L2.upd H' l (.lst (vs ++ [v])), ?_, m.up fun a h => upd_tr a (b0.tr a h), (by rw [upd_same]; exact fun z => nomatch z), rfl⟩ (A'.upd L.np ⟨⟨L.st _ _ A'.j.1.1, upd_same⟩, But.refl _ _⟩ ?_)
  · exact ((r.mono b0).append (Reps.cons rv Reps.nil)).mono ((But.refl φ H').upd L.np)
  · exact (((m.up fun a h => upd_tr a (b0.tr a h))).and (Mo.at (by rw [upd_same]; exact fun z => by cases z))).and (Mo.but fun _ h => h)
/-- xs[i] = e -/
theorem st_setLL {k n : Nat} {i : Int} (A : At K φ J ρ σ H) (L : Liv K φ Jb J l ds) (he : EvP K φ J te ρ P) (hk : ρ[k]? = some (some (.raw (.ref l)))) (hi : EvD K φ J tb ρ (.int i)) (hj : ixN ds.length i = some n)
    (kk : ∀ d J' H', P d → Liv K φ Jb J' l (ds.set n d) → At K φ J' ρ σ H' → D0.nx σ H') : tAsg te (gSub (tVar k) tb rSetL) D0 σ H := by
  obtain ⟨vs, H0, r, m, hl, rfl⟩ := L.ex
  refine st_setL (vs := vs) A he hk hi (fun H h => h.1.2) (by rw [r.length]; exact hj) fun v d H' pd rv b A' => ?_
  have b0 : But φ H0 H' := A'.j.2
  refine kk d _ _ pd ⟨L.np, L.st, L.pl, vs.set n v, L2.upd H' l (.lst (vs.set n v)), ?_, m.up fun a h => upd_tr a (b0.tr a h), (by rw [upd_same]; exact fun z => nomatch z), rfl⟩ (A'.upd L.np ⟨⟨L.st _ _ A'.j.1.1, upd_same⟩, But.refl _ _⟩ ?_)
  · exact ((r.mono b0).set n rv).mono ((But.refl φ H').upd L.np)
  · exact (((m.up fun a h => upd_tr a (b0.tr a h))).and (Mo.at (by rw [upd_same]; exact fun z => by cases z))).and (Mo.but fun _ h => h)
/-- into a loop's turn and out of it -/
theorem LivO.push {H1 : Hp} (L : LivO K φ Jb J l C ds) (A : At K φ (fun H => J H ∧ But φ H1 H) ρ σ H) : ∃ J2, LivO K φ (fun H => Jb H ∧ But φ H1 H) J2 l C ds ∧ At K φ J2 ρ σ H ∧ Ext φ Jb φ (fun H => Jb H ∧ But φ H1 H) := by
  obtain ⟨vs, H0, r, m, hl, rfl⟩ := L.ex
  have sb : Stab l (But φ H1) := fun H o b => ⟨fun a u pa e => by
    rw [upd_ne (show a ≠ l from fun z => L.np (z ▸ pa))]
    exact b.keep a u pa e, fun a ha => upd_tr a (b.tr a ha)⟩
  have b0 : But φ H0 H := A.j.1.2
  have e : Ext φ Jb φ (fun H => Jb H ∧ But φ H1 H) := Ext.but'
  refine ⟨_, ⟨L.np, L.st.and sb, fun p s ns q => ?_, vs, H, r.mono b0, (m.up b0.tr).and (Mo.but A.j.2.tr), b0.tr l hl, rfl⟩, A.live ⟨⟨⟨A.j.1.1.1, A.j.2⟩, A.j.1.1.2⟩, But.refl _ _⟩ (((m.up b0.tr).and (Mo.but A.j.2.tr)).and (Mo.at (b0.tr l hl)) |>.and (Mo.but fun _ h => h)), e⟩
  obtain ⟨_, _, _, _, h1, h2, _⟩ := q.ok H ⟨A.j.1.1.1, A.j.2⟩
  refine ⟨fun z => ?_, fun z => ?_⟩
  · -- the pool is no live list of ours: its content would be rewritten
    subst z
    have po := q.ok _ ((L.st.and sb) H (.lst []) ⟨A.j.1.1.1, A.j.2⟩)
    obtain ⟨_, _, _, _, e1, _⟩ := po
    rw [upd_same] at e1
    cases e1
  · subst z
    have po := q.ok _ ((L.st.and sb) H (.tup []) ⟨A.j.1.1.1, A.j.2⟩)
    obtain ⟨_, _, _, _, e1, e2, _⟩ := po
    rw [upd_same] at e2
    cases e2
theorem LivO.pop {H1 : Hp} {J2 : Hp → Prop} (L : LivO K φ (fun H => Jb H ∧ But φ H1 H) J2 l C ds) (hm : Mo H1 Jb) (hs : Stab l Jb) (hp : ∀ p s ns, Pooled φ Jb p s ns → p ≠ l ∧ s ≠ l) (A : At K φ J2 ρ σ H) : ∃ J, LivO K φ Jb J l C ds ∧ At K φ (fun H => J H ∧ But φ H1 H) ρ σ H := by
  obtain ⟨vs, H0, r, m, hl, rfl⟩ := L.ex
  have b0 : But φ H0 H := A.j.2
  have b1 : But φ H1 H := A.j.1.1.2
  have m1 : Mo H Jb := hm.up b1.tr
  exact ⟨_, ⟨L.np, hs, hp, vs, H, r.mono b0, m1, b0.tr l hl, rfl⟩, A.live ⟨⟨⟨A.j.1.1.1, A.j.1.2⟩, But.refl _ _⟩, b1⟩ (((m1.and (Mo.at (b0.tr l hl))).and (Mo.but fun _ h => h)).and (Mo.but b1.tr))⟩
/-- the list is left as it is from here on -/
theorem LivO.freeze (L : Liv K (wo φ l) Jb J l ds) (hl : φ l) {k : Nat} (A : At K (wo φ l) J ρ σ H) (hk : ρ[k]? = some (some (.raw (.ref l)))) : At K φ Jb (ρ.set k (some (.lst ds))) σ H := by
  obtain ⟨vs, H0, r, m, hn, rfl⟩ := L.ex
  have b0 : But (wo φ l) H0 H := A.j.2
  have up : Up (wo φ l) φ H H := fun a o p e => ⟨p.1, e⟩
  have rr : Rep K φ H (.lst ds) (.ref l) := ⟨l, vs, rfl, .inl ⟨hl, .inl A.j.1.2⟩, Reps.up up ds vs (r.mono b0)⟩
  obtain ⟨w, ew, rw'⟩ := A.sr.2 k _ hk
  cases (show w = _ from rw')
  refine ⟨?_, A.fr.fst, A.j.1.1, m.up b0.tr⟩
  have s1 := (A.sr.up up)
  refine ⟨by rw [List.length_set]; exact s1.1, fun i d hd => ?_⟩
  by_cases e : k = i
  · subst e
    have hlt : k < ρ.length := (List.getElem?_eq_some_iff.mp hk).1
    rw [List.getElem?_set_self hlt] at hd
    cases hd
    exact ⟨_, ew, rr⟩
  · rw [List.getElem?_set_ne e] at hd
    exact s1.2 i d hd
theorem ev_lenLL (L : Liv K φ Jb J l ds) (hk : EvD K φ J te ρ (.raw (.ref l))) : EvD K φ J (tCB (rLen K) (tCons te tNil)) ρ (.int ds.length) := by
  obtain ⟨vs, e, hv⟩ := L.len
  rw [← e]
  exact ev_lenLive hk hv
theorem ev_ixLL {i : Int} (L : Liv K φ Jb J l ds) (hk : EvD K φ J te ρ (.raw (.ref l))) (hb : EvD K φ J tb ρ (.int i)) (e : L2.atI ds i = some d) : EvD K φ J (tOp (rIxL K) te tb) ρ d := by
  obtain ⟨vs, H0, r, m, hn, rfl⟩ := L.ex
  refine ev_ixLive hk hb fun H h => ⟨vs, h.1.2, ?_⟩
  unfold L2.atI at e ⊢
  rw [r.length]
  cases hx : L2.ixN ds.length i with
  | none => rw [hx] at e; cases e
  | some n =>
    rw [hx] at e
    obtain ⟨v, hv, rv⟩ := r.get (i := n) e
    exact ⟨v, hv, rv.mono h.2⟩
end
theorem Mo.liv {K : PySem.W.Frag} {φ : Addr → Prop} {Jb J : Hp → Prop} {l : Addr} {C : List V → HO} {ds : List D} {H1 : Hp} (L : LivO K φ Jb J l C ds) (j : J H1) : Mo H1 Jb := by
  obtain ⟨vs, H0, r, m, hl, rfl⟩ := L.ex
  exact m.up j.2.tr
/-! ### slices, tuples of unknown trees -/
theorem cutD_hi {α : Type} {xs : List α} {i : Int} (h0 : 0 ≤ i) : cutD xs none (some i) = xs.take i.toNat := by
  have e : HT.sIx xs.length xs.length (some i) = min i.toNat xs.length := by
    have z := HT.sIx_nat xs.length xs.length i.toNat
    rw [Int.toNat_of_nonneg h0] at z
    exact z
  unfold cutD
  rw [e, HT.sIx_none, List.drop_zero, Nat.sub_zero, List.take_eq_take_iff]
  omega
theorem cutD_lo {α : Type} {xs : List α} {i : Int} (h0 : 0 ≤ i) : cutD xs (some i) none = xs.drop i.toNat := by
  have e : HT.sIx xs.length 0 (some i) = min i.toNat xs.length := by
    have z := HT.sIx_nat xs.length 0 i.toNat
    rw [Int.toNat_of_nonneg h0] at z
    exact z
  unfold cutD
  rw [e, HT.sIx_none]
  by_cases hl : i.toNat ≤ xs.length
  · rw [Nat.min_eq_left hl, List.take_of_length_le (by rw [List.length_drop]; omega)]
  · rw [Nat.min_eq_right (by omega), List.drop_eq_nil_of_le (Nat.le_refl _), List.drop_eq_nil_of_le (by omega), List.take_nil]
section
variable {K : PySem.W.Frag} {φ : Addr → Prop} {J : Hp → Prop} {ρ : List (Option D)} {te ta tb : TE} {P : D → Prop}
theorem Op2.imp {r : R2} {x y : D} {P P' : D → Prop} (h : Op2 K φ r x y P) (k : ∀ d, P d → P' d) : Op2 K φ r x y P' := fun H v w f r1 r2 Q q => h H v w f r1 r2 Q fun u z H' s p r => q u z H' s (k z p) r
theorem ev_catTP {Pa Pb : List D → Prop} (ha : EvP K φ J ta ρ (fun z => ∃ ds, z = .tup ds ∧ Pa ds)) (hb : EvP K φ J tb ρ (fun z => ∃ ds, z = .tup ds ∧ Pb ds)) (hz : ∀ a b, Pa a → Pb b → a.length + b.length ≤ 1000000) : EvP K φ J (tOp (rCatA K) ta tb) ρ (fun z => ∃ ds, z = .tup ds ∧ ∃ a b, ds = a ++ b ∧ Pa a ∧ Pb b) :=
  ev_op ha hb fun x y ⟨a, e1, pa⟩ ⟨b, e2, pb⟩ => by
    subst e1 e2
    exact (o2_catT (hz a b pa pb)).imp fun z e => ⟨_, e, a, b, rfl, pa, pb⟩
theorem ev_tupLP {Pl : List D → Prop} (h : EvP K φ J te ρ (fun z => ∃ ds, z = .lst ds ∧ Pl ds)) : EvP K φ J (tCB (rTupOf K) (tCons te tNil)) ρ (fun z => ∃ ds, z = .tup ds ∧ Pl ds) := ev_cb (ea_consP h ea_nil) fun ds ⟨d, r, e, ⟨es, e1, pe⟩, e2⟩ => by
  subst e e1 e2
  exact fun H vs f r Q q => cl_tupL H vs f r Q fun u z H' s e r => q u z H' s ⟨es, e, pe⟩ r
/-- a tuple of one unknown value -/
theorem ev_tup1P (h : EvP K φ J te ρ P) : EvP K φ J (tTup (tCons te tNil)) ρ (fun z => ∃ ds, z = .tup ds ∧ ∃ d, ds = [d] ∧ P d) := (ev_tupP (ea_consP h ea_nil) fun r ⟨d, r', e, p, e2⟩ => by rw [e, e2]; exact Nat.le_of_ble_eq_true rfl).imp fun z ⟨r, e, d, r', e1, p, e2⟩ => ⟨r, e, d, by rw [e1, e2], p⟩
end
section
variable {K : PySem.W.Frag} {φ : Addr → Prop} {J : Hp → Prop} {ρ : List (Option D)} {te ta tb : TE}
theorem ev_repTP {ds : List D} {p : Int → Prop} (ha : EvD K φ J te ρ (.tup ds)) (hb : EvI K φ J tb ρ p) (hne : ds ≠ []) (hp : ∀ i, p i → 2 ≤ i ∧ i ≤ 1000) (hz : ds.length ≤ 1000) : EvP K φ J (tOp (rRepT K) te tb) ρ (fun z => ∃ i : Int, p i ∧ z = .tup (List.replicate i.toNat ds).flatten) :=
  ev_op ha hb fun x y e ⟨i, e2, pi⟩ => by
    subst e e2
    intro H v w fr r1 r2 Q q
    obtain ⟨a, vs, rfl, p', rs⟩ := rep_tup r1
    cases (show w = _ from r2)
    refine ⟨a, i, vs, rfl, rfl, p'.sq, fun z => hne (List.eq_nil_of_length_eq_zero (by rw [← rs.length, z]; rfl)), (hp i pi).1, (hp i pi).2, by rw [rs.length]; exact hz, fun l hl => q _ _ _ (same_new hl) ⟨i, pi, rfl⟩ ⟨l, _, rfl, .inl ⟨fr l hl, .inl upd_same⟩, ?_⟩⟩
    exact (replicate_reps rs _).mono (But.of (same_new hl))
end

-- import HandS.Dict
/-! ### dicts: keys ints and texts, or tuples of these -/
def keyD : Key → D
  | .inl i => .int i
  | .inr s => .str s
class DKind (κ : Type) [DecidableEq κ] where
  kd : κ → D
  ho : List (κ × V) → HO
  nt : ∀ kvs xs, ho kvs ≠ .tup xs
  d : List κ → List D → D
  get : ∀ {K : PySem.W.Frag} {φ : Addr → Prop} {H : Hp} {a : Addr} {kvs : List (κ × V)} {k : κ} {v : V}, Rep K φ H (kd k) v → H a = some (ho kvs) → DGet H a v (valV kvs k)
  put : ∀ {K : PySem.W.Frag} {φ : Addr → Prop} {H : Hp} {a : Addr} {kvs : List (κ × V)} {k : κ} {y v : V}, Rep K φ H (kd k) y → H a = some (ho kvs) → kvs.length < sizeLine → DPut H a y v (upd H a (ho (putK kvs k v)))
  isd : ∀ {H : Hp} {a : Addr} {kvs : List (κ × V)}, H a = some (ho kvs) → IsD H a
  rep : ∀ {K : PySem.W.Frag} {φ : Addr → Prop} {H : Hp} {ks : List κ} {ds : List D} {v : V}, Rep K φ H (d ks ds) v ↔ ∃ a vs, v = .ref a ∧ (φ a ∧ H a = some (ho (ks.zip vs)) ∧ ks.length = ds.length) ∧ Reps K φ H ds vs
theorem keyD_v {K : PySem.W.Frag} {φ : Addr → Prop} {H : Hp} {k : Key} {v : V} (h : Rep K φ H (keyD k) v) : v = kV k := by
  cases k <;> exact h
theorem keysD_v {K : PySem.W.Frag} {φ : Addr → Prop} {H : Hp} : ∀ {ks : List Key} {vs : List V}, Reps K φ H (ks.map keyD) vs → vs = ks.map kV
  | [], _, h => h
  | k :: ks, vs, h => by
    obtain ⟨v, r, rfl, h1, h2⟩ := (show ∃ v r, vs = v :: r ∧ Rep K φ H (keyD k) v ∧ Reps K φ H (ks.map keyD) r from h)
    rw [keyD_v h1, keysD_v h2]
    rfl
instance : DKind Key where
  kd := keyD
  ho := HO.dK
  nt := fun _ _ h => nomatch h
  d := D.dk
  get := fun r e => by
    rw [keyD_v r]
    exact DGet.k e
  put := fun r e hl => by
    rw [keyD_v r]
    exact DPut.k e hl
  isd := fun e => .inl ⟨_, .inl e⟩
  rep := Iff.rfl
instance : DKind (List Key) where
  kd := fun ks => .tup (ks.map keyD)
  ho := HO.dT
  nt := fun _ _ h => nomatch h
  d := D.dt
  get := fun r e => by
    obtain ⟨b, vs, rfl, p, rs⟩ := rep_tup r
    rw [keysD_v rs] at p
    exact DGet.t e p.at.2
  put := fun r e hl => by
    obtain ⟨b, vs, rfl, p, rs⟩ := rep_tup r
    rw [keysD_v rs] at p
    exact DPut.t e p.at.2 hl
  isd := fun e => .inr ⟨_, .inl e⟩
  rep := Iff.rfl
section
variable {κ : Type} [DecidableEq κ] [DKind κ]
def valD (kds : List (κ × D)) (k : κ) : Option D := (kds.find? fun kv => decide (kv.1 = k)).map (·.2)
def putD (kds : List (κ × D)) (k : κ) (d : D) : List (κ × D) :=
  if (kds.any fun kv => decide (kv.1 = k)) = true then kds.map (fun kv => if kv.1 = k then (kv.1, d) else kv) else kds ++ [(k, d)]
theorem valD_nil {k : κ} : valD ([] : List (κ × D)) k = none := rfl
theorem valD_pos {p : κ × D} {r : List (κ × D)} {k : κ} (e : p.1 = k) : valD (p :: r) k = some p.2 := by simp [valD, List.find?_cons, e]
theorem valD_neg {p : κ × D} {r : List (κ × D)} {k : κ} (e : ¬ p.1 = k) : valD (p :: r) k = valD r k := by simp [valD, List.find?_cons, e]
theorem valD_any (k : κ) : ∀ kds : List (κ × D), (kds.any fun kv => decide (kv.1 = k)) = (valD kds k).isSome
  | [] => rfl
  | p :: r => by
    rw [List.any_cons]
    by_cases e : p.1 = k
    · simp only [valD_pos e, decide_eq_true e, Bool.true_or, Option.isSome_some]
    · rw [valD_neg e, decide_eq_false e, Bool.false_or]; exact valD_any k r
theorem valD_map (k j : κ) (y : D) : ∀ kds : List (κ × D), valD (kds.map fun kv => if kv.1 = k then (kv.1, y) else kv) j = (valD kds j).map fun x => if j = k then y else x
  | [] => rfl
  | p :: r => by
    have ih := valD_map k j y r
    rw [List.map_cons]
    by_cases h : p.1 = k
    · rw [if_pos h]
      by_cases e : p.1 = j
      · rw [valD_pos (p := (p.1, y)) e, valD_pos e, Option.map_some, if_pos (e.symm.trans h)]
      · rw [valD_neg (p := (p.1, y)) e, valD_neg e, ih]
    · rw [if_neg h]
      by_cases e : p.1 = j
      · rw [valD_pos (p := p) e, valD_pos e, Option.map_some, if_neg (fun z => h (e.trans z))]
      · rw [valD_neg (p := p) e, valD_neg e, ih]
theorem valD_snoc (k j : κ) (y : D) : ∀ kds : List (κ × D), valD kds k = none → valD (kds ++ [(k, y)]) j = if j = k then some y else valD kds j
  | [], _ => by
    by_cases e : k = j
    · rw [if_pos e.symm]; exact valD_pos (p := (k, y)) e
    · rw [if_neg (fun z => e z.symm)]; exact valD_neg (p := (k, y)) e
  | p :: r, hn => by
    rw [List.cons_append]
    have hk : ¬ p.1 = k := fun z => by rw [valD_pos z] at hn; cases hn
    rw [valD_neg hk] at hn
    have ih := valD_snoc k j y r hn
    by_cases e : p.1 = j
    · rw [valD_pos e, valD_pos e, if_neg (fun z => hk (e.trans z))]
    · rw [valD_neg e, valD_neg e, ih]
/-- what a dict holds behind a store -/
theorem valD_put (kds : List (κ × D)) (k j : κ) (y : D) : valD (putD kds k y) j = if j = k then some y else valD kds j := by
  unfold putD
  rw [valD_any]
  cases h : valD kds k with
  | none =>
    rw [if_neg (by simp)]
    exact valD_snoc k j y kds h
  | some x =>
    rw [if_pos (show (some x).isSome = true from rfl), valD_map]
    by_cases e : j = k
    · subst e
      rw [h, if_pos rfl]
      simp
    · rw [if_neg e]
      simp [e]
theorem putD_len (kds : List (κ × D)) (k : κ) (y : D) : (putD kds k y).length ≤ kds.length + 1 := by
  unfold putD
  split
  · rw [List.length_map]; omega
  · rw [List.length_append]; exact Nat.le_refl _
theorem putD_keys_old {kds : List (κ × D)} {k : κ} {y x : D} (h : valD kds k = some x) : (putD kds k y).map (·.1) = kds.map (·.1) := by
  unfold putD
  rw [valD_any, h, if_pos (show (some x).isSome = true from rfl), List.map_map]
  refine List.map_congr_left fun p _ => ?_
  show (if p.1 = k then (p.1, y) else p).1 = p.1
  split <;> rfl
theorem putD_new {kds : List (κ × D)} {k : κ} {y : D} (h : valD kds k = none) : putD kds k y = kds ++ [(k, y)] := by
  unfold putD
  rw [valD_any, h, if_neg (by simp)]
theorem valD_some {kds : List (κ × D)} {k : κ} : (valD kds k).isSome = true ↔ k ∈ kds.map (·.1) := by
  rw [← valD_any, List.any_eq_true]
  constructor
  · rintro ⟨p, hp, e⟩
    exact List.mem_map.mpr ⟨p, hp, of_decide_eq_true e⟩
  · intro h
    obtain ⟨p, hp, e⟩ := List.mem_map.mp h
    exact ⟨p, hp, decide_eq_true e⟩
variable {K : PySem.W.Frag} {φ φ' : Addr → Prop} {Jb J J' : Hp → Prop} {H H' H1 : Hp} {ρ ρ' : List (Option D)} {σ : L2.St} {ta : TA} {te tb td ty tv tx : TE} {x y z d : D} {P : D → Prop} {ds es : List D} {v : V} {vs : List V} {D0 : Ends} {l : Addr} {kds : List (κ × D)} {k : κ}
theorem zip_val : ∀ {kds : List (κ × D)} {vs : List V}, Reps K φ H (kds.map (·.2)) vs → ∀ k, (valD kds k = none ∧ valV ((kds.map (·.1)).zip vs) k = none) ∨ ∃ d v, valD kds k = some d ∧ valV ((kds.map (·.1)).zip vs) k = some v ∧ Rep K φ H d v
  | [], vs, h, k => .inl ⟨rfl, rfl⟩
  | p :: kds, vs, h, k => by
    obtain ⟨v, r, rfl, h1, h2⟩ := (show ∃ v r, vs = v :: r ∧ Rep K φ H p.2 v ∧ Reps K φ H (kds.map (·.2)) r from h)
    rw [List.map_cons, List.zip_cons_cons]
    by_cases e : p.1 = k
    · exact .inr ⟨p.2, v, valD_pos e, valV_pos e, h1⟩
    · rw [valD_neg e, valV_neg (p := (p.1, v)) e]
      exact zip_val h2 k
theorem zip_put (hd : Rep K φ H d v) {kds : List (κ × D)} {vs : List V} (h : Reps K φ H (kds.map (·.2)) vs) : ∃ vs', putK ((kds.map (·.1)).zip vs) k v = ((putD kds k d).map (·.1)).zip vs' ∧ Reps K φ H ((putD kds k d).map (·.2)) vs' := by
  have hl := h.length
  rw [List.length_map] at hl
  have hsome : (valV ((kds.map (·.1)).zip vs) k).isSome = (valD kds k).isSome := by
    rcases zip_val h k with ⟨e1, e2⟩ | ⟨d, v, e1, e2, _⟩ <;> rw [e1, e2] <;> rfl
  unfold putK putD
  rw [valV_any, valD_any, hsome]
  by_cases hs : (valD kds k).isSome = true
  · rw [if_pos hs, if_pos hs]
    clear hsome hs
    induction kds generalizing vs with
    | nil => exact ⟨vs, rfl, h⟩
    | cons p kds ih =>
      obtain ⟨u, r, rfl, h1, h2⟩ := (show ∃ v r, vs = v :: r ∧ Rep K φ H p.2 v ∧ Reps K φ H (kds.map (·.2)) r from h)
      obtain ⟨vs', e, r'⟩ := ih h2 (by simpa using hl)
      rw [List.map_cons, List.zip_cons_cons, List.map_cons, List.map_cons]
      by_cases hk : p.1 = k
      · refine ⟨v :: vs', ?_, ?_⟩
        · rw [List.map_cons, List.zip_cons_cons, ← e, if_pos hk, if_pos hk]
        · rw [List.map_cons, if_pos hk]
          exact Reps.cons hd r'
      · refine ⟨u :: vs', ?_, ?_⟩
        · rw [List.map_cons, List.zip_cons_cons, ← e, if_neg hk, if_neg hk]
        · rw [List.map_cons, if_neg hk]
          exact Reps.cons h1 r'
  · rw [if_neg hs, if_neg hs]
    refine ⟨vs ++ [v], ?_, ?_⟩
    · rw [List.map_append, List.zip_append (by rw [List.length_map, hl])]
      rfl
    · rw [List.map_append]
      exact h.append (Reps.cons hd Reps.nil)
/-- a live dict -/
abbrev LivD (K : PySem.W.Frag) (φ : Addr → Prop) (Jb J : Hp → Prop) (l : Addr) (kds : List (κ × D)) : Prop := LivO K φ Jb J l (fun vs => DKind.ho ((kds.map (·.1)).zip vs)) (kds.map (·.2))
def dictD (kds : List (κ × D)) : D := DKind.d (kds.map (·.1)) (kds.map (·.2))
/-- a dict, live or left as it is -/
def EvDict (K : PySem.W.Frag) (φ : Addr → Prop) (J : Hp → Prop) (td : TE) (ρ : List (Option D)) (kds : List (κ × D)) : Prop := ∀ σ H, At K φ J ρ σ H → ∀ Q : VK, (∀ a H', But φ H H' → At K φ J ρ σ H' → (∀ H'', But φ H' H'' → J H'' → ∃ vs, H'' a = some (DKind.ho ((kds.map (·.1)).zip vs)) ∧ Reps K φ H'' (kds.map (·.2)) vs) → Q (.ref a) H') → td σ H Q
theorem ed_frozen (h : EvD K φ J td ρ (dictD kds)) : EvDict K φ J td ρ kds := fun σ H A Q q => h σ H A _ fun v d H' b A' e r => by
  subst e
  obtain ⟨a, vs, rfl, ⟨p, e, hl⟩, rs⟩ := DKind.rep.mp r
  exact q a H' b A' fun H'' b' j => ⟨vs, b'.keep a _ p e, rs.mono b'⟩
theorem ed_live (L : LivD K φ Jb J l kds) (h : EvD K φ J td ρ (.raw (.ref l))) : EvDict K φ J td ρ kds := fun σ H A Q q => h σ H A _ fun v d H' b A' e r => by
  subst e
  cases (show v = _ from r)
  obtain ⟨vs, H0, rs, m, hl, rfl⟩ := L.ex
  exact q l H' b A' fun H'' b' j => ⟨vs, j.1.2, rs.mono j.2⟩
theorem ev_dget (hd : EvDict K φ J td ρ kds) (hy : EvD K φ J ty ρ (DKind.kd k)) (e : valD kds k = some d) : EvD K φ J (tDGet td ty) ρ d := fun σ H A Q q =>
  hd σ H A _ fun a H1 b1 A1 per => hy σ H1 A1 _ fun y d' H2 b2 A2 e2 r2 => by
    subst e2
    obtain ⟨vs, ea, rs⟩ := per H2 b2 A2.j
    rcases zip_val rs k with ⟨e1, _⟩ | ⟨d1, v1, e1, ev, r1⟩
    · rw [e] at e1; cases e1
    · rw [e] at e1
      cases e1
      refine ⟨a, v1, rfl, ?_, q v1 _ H2 (b1.trans b2) A2 rfl r1⟩
      rw [← ev]
      exact DKind.get r2 ea
theorem ev_din (hy : EvD K φ J ty ρ (DKind.kd k)) (hd : EvDict K φ J td ρ kds) : EvD K φ J (tDIn ty td) ρ (.bl (valD kds k).isSome) := fun σ H A Q q =>
  hy σ H A _ fun y d' H1 b1 A1 e1 r1 => hd σ H1 A1 _ fun a H2 b2 A2 per => by
    subst e1
    obtain ⟨vs, ea, rs⟩ := per H2 (But.refl _ _) A2.j
    refine ⟨a, _, rfl, DKind.get (r1.mono b2) ea, q _ _ H2 (b1.trans b2) A2 rfl ?_⟩
    rcases zip_val rs k with ⟨e1, e2⟩ | ⟨d1, v1, e1, e2, _⟩ <;> rw [e1, e2] <;> rfl
theorem ev_dnotin (hy : EvD K φ J ty ρ (DKind.kd k)) (hd : EvDict K φ J td ρ kds) : EvD K φ J (tDNotIn ty td) ρ (.bl (!(valD kds k).isSome)) := fun σ H A Q q =>
  hy σ H A _ fun y d' H1 b1 A1 e1 r1 => hd σ H1 A1 _ fun a H2 b2 A2 per => by
    subst e1
    obtain ⟨vs, ea, rs⟩ := per H2 (But.refl _ _) A2.j
    refine ⟨a, _, rfl, DKind.get (r1.mono b2) ea, q _ _ H2 (b1.trans b2) A2 rfl ?_⟩
    rcases zip_val rs k with ⟨e1, e2⟩ | ⟨d1, v1, e1, e2, _⟩ <;> rw [e1, e2] <;> rfl
theorem ev_dget2 (hd : EvDict K φ J td ρ kds) (hy : EvD K φ J ty ρ (DKind.kd k)) (hx : EvD K φ J tx ρ x) : EvD K φ J (tDGet2 td ty tx) ρ ((valD kds k).getD x) := fun σ H A Q q =>
  hd σ H A _ fun a H1 b1 A1 per => by
    obtain ⟨vs1, ea1, _⟩ := per H1 (But.refl _ _) A1.j
    refine ⟨a, rfl, DKind.isd ea1, hy σ H1 A1 _ fun y d' H2 b2 A2 e2 r2 => hx σ H2 A2 _ fun u d3 H3 b3 A3 e3 r3 => ?_⟩
    subst e2 e3
    obtain ⟨vs, ea, rs⟩ := per H3 (b2.trans b3) A3.j
    refine ⟨_, DKind.get (r2.mono b3) ea, q _ _ H3 ((b1.trans b2).trans b3) A3 rfl ?_⟩
    rcases zip_val rs k with ⟨e1, e2⟩ | ⟨d1, v1, e1, e2, r1⟩
    · rw [e1, e2]; exact r3
    · rw [e1, e2]; exact r1
/-- d[y] = v -/
theorem st_dputL {i : Nat} (A : At K φ J ρ σ H) (L : LivD K φ Jb J l kds) (hv : EvP K φ J tv ρ P) (hk : ρ[i]? = some (some (.raw (.ref l)))) (hy : EvD K φ J ty ρ (DKind.kd k)) (hz : kds.length ≤ 1000000)
    (kk : ∀ d J' H', P d → LivD K φ Jb J' l (putD kds k d) → At K φ J' ρ σ H' → D0.nx σ H') : sDPut (tVar i) ty tv D0 σ H := by
  obtain ⟨vs, H0, r, m, hl, rfl⟩ := L.ex
  refine hv σ H A _ fun v d H1 b1 A1 pd r1 => ev_var hk σ H1 A1 _ fun w d2 H2 b2 A2 e2 r2 => hy σ H2 A2 _ fun y d3 H3 b3 A3 e3 r3 => ?_
  subst e2 e3
  cases (show w = _ from r2)
  have b0 : But φ H0 H3 := A3.j.2
  have trl : H3 l ≠ none := b0.tr l hl
  obtain ⟨vs', ep, rp⟩ := zip_put (k := k) ((r1.mono b2).mono b3) (r.mono b0)
  have hlen : ((kds.map (·.1)).zip vs).length < sizeLine := szlt (by
    rw [List.length_zip, List.length_map]
    omega)
  refine ⟨l, _, rfl, DKind.put r3 A3.j.1.2 hlen, ?_⟩
  rw [ep]
  refine kk d _ _ pd ⟨L.np, L.st, L.pl, vs', L2.upd H3 l (DKind.ho (((putD kds k d).map (·.1)).zip vs')), rp.mono ((But.refl φ H3).upd L.np), m.up fun a h => upd_tr a (b0.tr a h), (by rw [upd_same]; exact fun z => nomatch z), rfl⟩ (A3.upd (ho := fun xs => DKind.nt _ xs) L.np ⟨⟨L.st _ _ A3.j.1.1, upd_same⟩, But.refl _ _⟩ ?_)
  exact ((m.up fun a h => upd_tr a (b0.tr a h)).and (Mo.at (by rw [upd_same]; exact fun z => nomatch z))).and (Mo.but fun _ h => h)
theorem LivO.freezeD (L : LivD K (wo φ l) Jb J l kds) (hl : φ l) {i : Nat} (A : At K (wo φ l) J ρ σ H) (hk : ρ[i]? = some (some (.raw (.ref l)))) : At K φ Jb (ρ.set i (some (dictD kds))) σ H := by
  obtain ⟨vs, H0, r, m, hn, rfl⟩ := L.ex
  have b0 : But (wo φ l) H0 H := A.j.2
  have up : Up (wo φ l) φ H H := fun a o p e => ⟨p.1, e⟩
  have rr : Rep K φ H (dictD kds) (.ref l) := DKind.rep.mpr ⟨l, vs, rfl, ⟨hl, A.j.1.2, by rw [List.length_map, List.length_map]⟩, Reps.up up _ vs (r.mono b0)⟩
  obtain ⟨w, ew, rw'⟩ := A.sr.2 i _ hk
  cases (show w = _ from rw')
  refine ⟨?_, A.fr.fst, A.j.1.1, m.up b0.tr⟩
  have s1 := (A.sr.up up)
  refine ⟨by rw [List.length_set]; exact s1.1, fun j d hd => ?_⟩
  by_cases e : i = j
  · subst e
    have hlt : i < ρ.length := (List.getElem?_eq_some_iff.mp hk).1
    rw [List.getElem?_set_self hlt] at hd
    cases hd
    exact ⟨_, ew, rr⟩
  · rw [List.getElem?_set_ne e] at hd
    exact s1.2 j d hd
end
section
variable {K : PySem.W.Frag} {φ : Addr → Prop} {J : Hp → Prop} {ρ : List (Option D)} {te tk tv : TE}
/-- {} -/
theorem en_dnewK : EvNO K φ J tDNewK ρ (fun ds C => ds = (([] : List (Key × D)).map (·.2)) ∧ C = fun vs => HO.dK ((([] : List (Key × D)).map (·.1)).zip vs)) := fun σ H A Q q p hp =>
  q p [] [] _ H _ (But.refl _ _) A hp (But.of (same_new hp)) (A.same (same_new hp)) ⟨rfl, rfl⟩ (fun _ h => nomatch h) upd_same Reps.nil
theorem en_dnewT : EvNO K φ J tDNewT ρ (fun ds C => ds = (([] : List (List Key × D)).map (·.2)) ∧ C = fun vs => HO.dT ((([] : List (List Key × D)).map (·.1)).zip vs)) := fun σ H A Q q p hp =>
  q p [] [] _ H _ (But.refl _ _) A hp (But.of (same_new hp)) (A.same (same_new hp)) ⟨rfl, rfl⟩ (fun _ h => nomatch h) upd_same Reps.nil
/-- {k: v} -/
theorem en_disp1 {k : Key} {d : D} (hk : ∀ J' φ', Ext φ J φ' J' → EvD K φ' J' tk ρ (keyD k)) (hv : ∀ J' φ', Ext φ J φ' J' → EvD K φ' J' tv ρ d) : EvNO K φ J (tDisp [(tk, tv)]) ρ (fun ds C => ds = ([(k, d)].map (·.2)) ∧ C = fun vs => HO.dK (([(k, d)].map (·.1)).zip vs)) := fun σ H A Q q p hp => by
  have ext : Ext φ J (wo φ p) (fun H => J H ∧ H p = some (.dK [])) := ⟨fun _ h => h.1, fun p' s ns hq => ⟨fun z => hq.np z.1, hq.ne, fun H h => hq.ok H h.1, fun H' H'' h k o => ⟨hq.st H' H'' h.1 k o, k _ _ (by
    obtain ⟨_, _, _, _, h1, _⟩ := hq.ok _ A.j
    exact (ne_of_none h1 hp).symm) h.2⟩⟩, fun a p' h => ⟨p', fun e => h H A.j (by rw [e]; exact hp)⟩⟩
  have A1 : At K (wo φ p) (fun H => J H ∧ H p = some (.dK [])) ρ σ (upd H p (.dK [])) := A.newLive hp ⟨A.mono _ _ (fun a o _ e => same_new hp a o e) A.j, upd_same⟩ ((A.mono.up upd_tr).and (Mo.at (by rw [upd_same]; exact fun z => nomatch z)))
  refine hk _ _ ext σ _ A1 _ fun v1 d1 H2 b2 A2 e1 r1 => hv _ _ ext σ H2 A2 _ fun v2 d2 H3 b3 A3 e2 r2 => ?_
  subst e1 e2
  have hv1 : v1 = kV k := keyD_v r1
  subst hv1
  refine ⟨A3.j.2, [(k, v2)], rfl, Nat.le_of_ble_eq_true rfl, ?_⟩
  have np : ¬ wo φ p p := fun z => z.2 rfl
  have bb : But φ H (upd H3 p (.dK [(k, v2)])) := ⟨fun a o pa e => by
    have ne := ne_of_none e hp
    rw [upd_ne ne]
    exact b3.keep a o ⟨pa, ne⟩ (b2.keep a o ⟨pa, ne⟩ (by rw [upd_ne ne]; exact e)), fun a h => upd_tr a (b3.tr a (b2.tr a (upd_tr a h)))⟩
  have jj : J (upd H3 p (.dK [(k, v2)])) := A.mono H3 _ (fun a o h e => by
    rw [upd_ne (show a ≠ p from fun z => h (by rw [z]; exact hp))]
    exact e) A3.j.1
  refine q p [v2] [d2] _ H _ (But.refl _ _) A hp bb ⟨A.sr.up (Up.of bb), A3.fr.fst.upd (fun _ h => nomatch h), jj, A.mono.up bb.tr⟩ ⟨rfl, rfl⟩ (fun _ h => nomatch h) upd_same (Reps.cons (r2.mono ((But.refl _ H3).upd np)) Reps.nil)
end

-- import HandS.SortKw
-- import HandS.SortOrd
-- import HandS.SortRule
-- import HandS.SortInts
-- import HandS.DictTup
-- import HandS.More
-- import KE.KDictCopyH
-- import KE.KDictWalk
-- import KE.KDictExact
/-! ### sorted(d): the keys of a dict, in order -/
section
variable {prog : Program} {w : World} {A : Around} {E : Value → Shared → Prop} {s : Shared}
open SrtO in
theorem sorted_raw {d : Addr} {es : Array DictEntry} {ep : Nat} {b : Bool} {kw : List (Str × Value)} {ltv : Value → Value → Bool} {Q : Value → Shared → Prop} (lo : (d == sysModules) = false) (hh : A.handled = none) (hm : s.heap.DictRaw d es ep) (hz : es.size ≤ sizeLine)
    (hk : ∀ a, Builtin.«list.sort» ⟨[.ref a], kw⟩ = Builtin.«list.sort» ⟨[.ref a], [(Str.ofString "reverse", .bool b)]⟩) (ha1 : argsOk "sorted" ⟨[.ref d], kw⟩) (ha2 : ∀ a, argsOk "list.sort" ⟨[a], kw⟩) (O : Swo ltv)
    (hS : 2 ≤ (es.toList.map (·.key)).length → ∀ (h₁ : Heap) (tk : Nat) (a : Addr), h₁.get? a = some (seqObj "list" (es.toList.map (·.key)).toArray 0) → (∀ b o, s.heap.get? b = some o → b ≠ a ∧ h₁.get? b = some o) → SortableO prog w A.in1.in1 { s with heap := h₁, toks := tk } a (es.toList.map (·.key)) ltv)
    (h : ∀ (out : List Value) (h1 h' : Heap) (tk : Nat) (a : Addr) (n : Nat), Srtd ltv out → Stb ltv out (if b = true then (es.toList.map (·.key)).reverse else es.toList.map (·.key)) → (∀ b o, s.heap.get? b = some o → h1.get? b = some o) → (∀ b o, h1.get? b = some o → h'.get? b = some o) → h1.objs.size ≤ a → h'.get? a = some (seqObj "list" (if b = true then out.toArray.reverse else out.toArray) n) → Q (.ref a) { s with heap := h', toks := tk }) :
    wpAny (model prog w) A (call (.builtin "sorted") [.ref d] kw) Q E s := by
  refine PyProof.Rows.call_function_entry_kw PyProof.Rows.kind_sorted PyProof.Rows.plain_sorted PyProof.Rows.entry_sorted ha1 ?_
  unfold Builtin.«sorted»
  refine wpAny_bind (m := checkCount "sorted" 1 1 _) (wpAny_pure ?_)
  refine wpAny_bind (PySem.W.kdu_collect (A := A.in1) (KdlSrc.rawDict (es := es) (ep := ep) lo) hh hm hz fun h' tk acc hkp hacc => ?_)
  have eacc : acc.toList = es.toList.map (·.key) := by
    refine List.ext_getElem? fun j => ?_
    rw [List.getElem?_map]
    cases e : acc.toList[j]? with
    | none =>
      have h1 : acc.toList.length ≤ j := List.getElem?_eq_none_iff.mp e
      rw [Array.length_toList, hacc.1] at h1
      rw [List.getElem?_eq_none (by rw [Array.length_toList]; exact h1)]
      rfl
    | some v =>
      obtain ⟨hi, ev⟩ := hacc.2 j v (by rw [← Array.getElem?_toList]; exact e)
      rw [Array.getElem?_toList, Array.getElem?_eq_getElem hi, ev]
      rfl
  have hlen : acc.toList.length = es.size := by rw [Array.length_toList, hacc.1]
  refine wpAny_bind (wpAny_newList ?_ (by rw [hlen]; exact hz))
  rw [eacc]
  have hoL : (h'.push (seqObj "list" (es.toList.map (·.key)).toArray 0)).get? h'.objs.size = some (seqObj "list" (es.toList.map (·.key)).toArray 0) := Heap.get?_push_size _ rfl
  show wpAny _ _ _ _ _ { s with heap := h'.push (seqObj "list" (es.toList.map (·.key)).toArray 0), toks := tk }
  have keep : ∀ b o, s.heap.get? b = some o → b ≠ h'.objs.size ∧ (h'.push (seqObj "list" (es.toList.map (·.key)).toArray 0)).get? b = some o := fun b o q =>
    ⟨Nat.ne_of_lt (Heap.lt_size (hkp b o q)), Heap.get?_push_of_some _ (hkp b o q)⟩
  refine wpAny_bind (wpAny_holding (PyProof.Rows.wpAny_call_entry_kw PyProof.Rows.slot_list_sort ⟨_, hoL, rfl⟩ PyProof.Rows.entry_list_sort ?_ (ha2 _)))
  rw [hk]
  refine SrtR.list_sort_ordR O hoL (by rw [← eacc, hlen]; exact hz) (fun h2 => hS h2 _ _ _ hoL keep) fun out hs hb => ⟨_, rfl, ?_⟩
  obtain ⟨n, hn⟩ := PyProof.Rows.sortedHeap_at (vs := es.toList.map (·.key)) (out := if b = true then out.toArray.reverse else out.toArray) hoL
  refine wpAny_pure ⟨_, rfl, h out h' _ _ _ n hs hb hkp (fun b o q => ?_) (Nat.le_refl _) hn⟩
  have hlt : b < h'.objs.size := Heap.lt_size q
  rw [PyProof.Rows.sortedHeap_old (Nat.ne_of_lt hlt) (by rw [PyProof.Rows.size_push']; exact Nat.lt_succ_of_lt hlt)]
  exact Heap.get?_push_of_some _ q
end
/-- the raw entries of a dict with keys ints and texts -/
theorem mixRaw {P : Program} {w : World} {h : Heap} {a : Addr} {vs : List (Key × Value)} (x : h.DictOf (mixKind P w) a vs) : ∃ es ep, h.DictRaw a es ep ∧ es.size = vs.length ∧ ∀ (j : Nat) (k : Key), (vs.map (·.1))[j]? = some k → ∃ v, (es.toList.map (·.key))[j]? = some v ∧ keyIs k v = true := by
  obtain ⟨ep, hat⟩ := x.dictAt
  obtain ⟨es, hr, hsz, hall⟩ := PySem.Heap.DictAt.raw hat
  refine ⟨es, ep, hr, hsz, fun j k hk => ?_⟩
  rw [List.getElem?_map] at hk
  obtain ⟨p, hp, e⟩ := Option.map_eq_some_iff.mp hk
  have hj : j < vs.length := (List.getElem?_eq_some_iff.mp hp).1
  have hi : j < es.size := by omega
  refine ⟨es[j].key, by rw [List.getElem?_map, Array.getElem?_toList, Array.getElem?_eq_getElem hi]; rfl, ?_⟩
  have z := hall j hi p.1 p.2 hp
  rw [← e]
  first | exact z | exact z.1
def OrdB' (b : Bool) (ns : List Int) : Prop := if b = true then ns.Pairwise (· ≥ ·) else ns.Pairwise (· ≤ ·)
def rSortD (b : Bool) (zs0 : List V) : List V → List V → Hp → VK → Prop := fun xs zs H Q => ∃ (a : Addr) (kvs : List (Key × V)) (ks : List Int), xs = [.ref a] ∧ zs = zs0 ∧ H a = some (.dK kvs) ∧ kvs.map (·.1) = ks.map Sum.inl ∧
  ∀ (ys : List Int) (p : Addr), ys.Perm ks → OrdB b ys → H p = none → Q (.ref p) (upd H p (.lst (ys.map V.int)))
section
variable {X : Cx}
theorem sortD_run (hcalm : X.calm = true) {b : Bool} {kw : List (Str × Value)} {pins : List (Addr × Obj)} {s : Shared} {σ : L2.St} {H : Hp} {a : Addr} {kvs : List (Key × V)} {ks : List Int} {Q : VK} (I : Inv X pins σ H s) (hd : H a = some (.dK kvs)) (hks : kvs.map (·.1) = ks.map Sum.inl)
    (hk : ∀ a, Builtin.«list.sort» ⟨[.ref a], kw⟩ = Builtin.«list.sort» ⟨[.ref a], [(Str.ofString "reverse", .bool b)]⟩) (ha1 : argsOk "sorted" ⟨[.ref a], kw⟩) (ha2 : ∀ a, argsOk "list.sort" ⟨[a], kw⟩)
    (q : ∀ (ys : List Int) (p : Addr), ys.Perm ks → OrdB b ys → H p = none → Q (.ref p) (upd H p (.lst (ys.map V.int)))) : wpAny (model X.prog X.w) X.A (call (.builtin "sorted") [.ref a] kw) (EP X pins σ Q) X.xe s := by
  obtain ⟨z, lo, vs, rel, dd⟩ := dk_of I.hok hd
  have hkeys : vs.map (·.1) = ks.map Sum.inl := rel.keys.symm.trans hks
  obtain ⟨es, ep, hr, hsz, hall⟩ := mixRaw dd
  have hl : vs.length = ks.length := by
    have e := congrArg List.length hkeys
    rw [List.length_map, List.length_map] at e
    exact e
  have hz : es.size ≤ sizeLine := by rw [hsz, ← rel.length]; exact z
  have hi : IntsAre (es.toList.map (·.key)) ks := ints_each (by rw [List.length_map, Array.length_toList, hsz, hl]) fun j v e => by
    have hj : j < ks.length := by
      have := (List.getElem?_eq_some_iff.mp e).1
      rw [List.length_map, Array.length_toList, hsz, hl] at this
      exact this
    have e3 : (vs.map (·.1))[j]? = some (Sum.inl ks[j]) := by rw [hkeys, List.getElem?_map, List.getElem?_eq_getElem hj]; rfl
    obtain ⟨v', e4, k4⟩ := hall j _ e3
    rw [e] at e4
    cases e4
    rcases keyIs_shape k4 with ⟨i, t, ek, ev⟩ | ⟨y, t, ek, ev⟩
    · cases ek
      exact ⟨_, t, List.getElem?_eq_getElem hj, ev⟩
    · cases ek
  refine sorted_raw lo (I.ok.hd hcalm) hr hz hk ha1 ha2 SrtO.swo_int (fun h2 h₁ tk a' _ _ => SrtO.ints_sortable hi h2) fun out h1 h' tk a' n h2 h3 k1 k2 ha' hn => ?_
  obtain ⟨ns', g1, g2, g3⟩ := SrtR.ints_outR hi h2 h3
  have I1 : Inv X pins σ H { s with heap := h1, toks := tk } := I.kept k1
  have e0 : ((if b = true then out.toArray.reverse else out.toArray).toList).toArray = (if b = true then out.toArray.reverse else out.toArray) := by rw [Array.toArray_toList]
  have hlen : (ns'.map V.int).length ≤ sizeLine := by
    rw [List.length_map, g2.length_eq, ← hl, ← hsz]
    exact hz
  exact ⟨.ref a', upd H a' (.lst (ns'.map V.int)), I1.laid (t' := tk) k2 ha' ⟨hlen, _, n, vals_of_ints g1, by rw [e0]; exact hn⟩, rfl, q _ _ g2 g3 (I1.hok.fresh ha')⟩
theorem cr_sortDRev (hcalm : X.calm = true) {b : Bool} : CallRK X (.builtin "sorted") [Str.ofString "reverse"] (rSortD b [.bl b]) := by
  intro pins s σ H vs zs us ws Q I r rz h
  obtain ⟨a, kvs, ks, rfl, rfl, hs, hks, q⟩ := h
  obtain rfl := Vals.ref1 r
  obtain ⟨w1, rfl, e1⟩ := vals1 rz
  obtain rfl : w1 = Value.bool b := e1
  exact sortD_run hcalm I hs hks (fun _ => rfl) (PyProof.Rows.args_sorted_rev _ _) (fun _ => PyProof.Rows.args_list_sort_rev _ _) q
end

-- import HandS.DictComp
/-! ### dict comprehensions, pop(i), in a tuple of ints -/
section
variable {K : PySem.W.Frag} {φ φ' : Addr → Prop} {Jb J J' : Hp → Prop} {H H' H1 : Hp} {ρ ρ' : List (Option D)} {σ : L2.St} {te tb tk tv : TE} {x y z d : D} {P : D → Prop} {ds es : List D} {v : V} {vs : List V} {D0 : Ends} {l : Addr}
def foldK (kf : D → Key) (vf : D → D) (ds : List D) : List (Key × D) := ds.foldl (fun acc d => putD acc (kf d) (vf d)) []
theorem foldK_snoc {kf : D → Key} {vf : D → D} {ds : List D} {d : D} : foldK kf vf (ds ++ [d]) = putD (foldK kf vf ds) (kf d) (vf d) := by
  unfold foldK
  rw [List.foldl_append]
  rfl
theorem foldK_len {kf : D → Key} {vf : D → D} {ds : List D} : (foldK kf vf ds).length ≤ ds.length := by
  suffices h : ∀ acc : List (Key × D), (ds.foldl (fun acc d => putD acc (kf d) (vf d)) acc).length ≤ acc.length + ds.length by
    have := h []
    rw [List.length_nil, Nat.zero_add] at this
    exact this
  induction ds with
  | nil => intro acc; exact Nat.le_refl _
  | cons d ds ih =>
    intro acc
    have h1 := ih (putD acc (kf d) (vf d))
    have h2 := putD_len acc (kf d) (vf d)
    rw [List.foldl_cons, List.length_cons]
    omega
/-- {k: v for x in ds} -/
theorem en_dc {wi : TI} {g : TG} {ws us : List Nat} {ρd : D → List (Option D)} {kf : D → Key} {vf : D → D} (hi : IterD K φ J wi ρ ds) (hl : ds.length ≤ 1000000) (hu : ∀ i ∈ us, i ∈ ws)
    (hg : ∀ d ∈ ds, EvG K g d (wipeR ρ ws) (ρd d) us)
    (hk : ∀ d ∈ ds, ∀ φ' J', Ext φ J φ' J' → EvD K φ' J' tk (ρd d) (keyD (kf d)))
    (he : ∀ d ∈ ds, ∀ φ' J', Ext φ J φ' J' → EvD K φ' J' tv (ρd d) (vf d)) :
    EvNO K φ J (tDc wi g tYes tk tv ws) ρ (fun xs C => xs = ((foldK kf vf ds).map (·.2)) ∧ C = fun vs => HO.dK (((foldK kf vf ds).map (·.1)).zip vs)) := fun σ H A Q q => by
  refine hi σ H A _ fun J0 ds' H1 b1 A1 pd w => ?_
  subst pd
  intro D0 hD
  have neP : ∀ p s ns, Pooled φ J p s ns → p ≠ D0 := fun p s ns hp => by
    obtain ⟨a1, a2, a3, a4, h1, _⟩ := hp.ok _ A1.j
    exact ne_of_none h1 hD
  let φ' : Addr → Prop := fun a => φ a ∧ a ≠ D0
  let KV (i : Nat) : List (Key × D) := foldK kf vf (ds'.take i)
  have ext : ∀ acc : HO, Ext φ J φ' (fun H => J H ∧ H D0 = some acc) := fun acc => ⟨fun _ h => h.1, fun p s ns hp => ⟨fun z => hp.np z.1, hp.ne, fun H h => hp.ok H h.1, fun H H' h k o => ⟨hp.st H H' h.1 k o, k _ _ (neP p s ns hp).symm h.2⟩⟩, fun a p h => ⟨p, fun e => h H1 A1.j (by rw [e]; exact hD)⟩⟩
  have mono : ∀ (acc : HO) (H2 : Hp), (∀ a, H1 a ≠ none → H2 a ≠ none) → H2 D0 ≠ none → Mo H2 (fun H => J H ∧ H D0 = some acc) := fun acc H2 s h => (A1.mono.up s).and (Mo.at h)
  refine ⟨fun i m H2 => m = ds'.length - i ∧ i ≤ ds'.length ∧ But φ H1 H2 ∧ ∃ acc, Reps K φ' H2 ((KV i).map (·.2)) acc ∧ At K φ' (fun H => J H ∧ H D0 = some (.dK (((KV i).map (·.1)).zip acc))) (wipeR ρ ws) (L2.wipe σ ws) H2,
    ⟨ds'.length, rfl, Nat.zero_le _, But.of (same_new hD), [], Reps.nil, ?_⟩, ?_⟩
  · have A2 := A1.newLive (o := .dK []) (J' := fun H => J H ∧ H D0 = some (.dK [])) hD ⟨A1.mono _ _ (fun a o _ e => same_new hD a o e) A1.j, upd_same⟩ (mono _ _ upd_tr (by rw [upd_same]; exact fun z => by cases z))
    exact ⟨A2.sr.wipe ws, A2.fr, A2.j, A2.mono⟩
  · rintro i m H2 ⟨rfl, hi, b2, acc, rs, A2⟩
    have upw : Up φ φ' H1 H2 := fun a o p e => ⟨⟨p, ne_of_none e hD⟩, b2.keep a o p e⟩
    have fr2 : Frm φ' H2 := A2.fr
    obtain ⟨wg, wstop⟩ := w φ' i H2 upw fr2
    by_cases hlt : i < ds'.length
    · have hd : ds'[i]? = some ds'[i] := List.getElem?_eq_getElem hlt
      obtain ⟨go, yl⟩ := wg _ hd
      have hmem : ds'[i] ∈ ds' := List.getElem_mem hlt
      have tkk : KV (i + 1) = putD (KV i) (kf ds'[i]) (vf ds'[i]) := by
        show foldK kf vf (ds'.take (i + 1)) = _
        rw [List.take_add_one, hd]
        exact foldK_snoc
      refine .inr ⟨go, fun H3 => But φ H1 H3 ∧ ∃ acc, Reps K φ' H3 ((KV (i + 1)).map (·.2)) acc ∧ At K φ' (fun H => J H ∧ H D0 = some (.dK (((KV (i + 1)).map (·.1)).zip acc))) (wipeR ρ ws) (L2.wipe σ ws) H3, ?_, ?_⟩
      · rintro H3 ⟨b3, acc3, r3, A3⟩
        exact ⟨ds'.length - (i + 1), by omega, rfl, hlt, b3, acc3, r3, A3⟩
      · intro x H3 hy
        obtain ⟨s3, r3⟩ := yl x H3 hy
        have A3 := A2.same s3
        have rs3 := rs.mono (But.of (φ := φ') s3)
        have b3 : But φ H1 H3 := b2.trans (But.of s3)
        refine hg _ hmem φ' _ _ H3 x A3 r3 _ fun σ4 A4 hw4 => ⟨?_, ?_⟩
        · rw [hw4 ws hu]
          exact wipe_wipe ws
        · refine et_yes (K := K) (φ := φ') σ4 H3 A4 _ fun bb H4 b4 A4' hbb => ?_
          subst hbb
          rw [if_pos rfl]
          refine hk _ hmem φ' _ (ext _) σ4 H4 A4' _ fun u d5 H5 b5 A5 e5 r5 => he _ hmem φ' _ (ext _) σ4 H5 A5 _ fun v d6 H6 b6 A6 e6 r6 => ?_
          subst e5 e6
          have ek : u = kV (kf ds'[i]) := keyD_v r5
          have nD : ¬ φ' D0 := fun z => z.2 rfl
          have b46 : But φ' H3 H6 := (b4.trans b5).trans b6
          obtain ⟨acc', ep, rp⟩ := zip_put (k := kf ds'[i]) r6 (rs3.mono b46)
          have bb6 : But φ H1 H6 := ⟨fun a o p e => b46.keep a o ⟨p, ne_of_none e hD⟩ (b3.keep a o p e), fun a h => b46.tr a (b3.tr a h)⟩
          have hlen : (((KV i).map (·.1)).zip acc).length < sizeLine := szlt (by
            have h1 : (KV i).length ≤ (ds'.take i).length := foldK_len
            rw [List.length_zip, List.length_map]
            rw [List.length_take] at h1
            omega)
          refine ⟨_, kf ds'[i], ek, A6.j.2, hlen, ?_⟩
          rw [ep, tkk]
          refine ⟨⟨fun a o p e => ?_, fun a h => upd_tr a (bb6.tr a h)⟩, acc', rp.mono ((But.refl φ' H6).upd nD), ?_⟩
          · rw [upd_ne (ne_of_none e hD)]
            exact bb6.keep a o p e
          · have A6' : At K φ' (fun H => J H ∧ H D0 = some (.dK (((KV i).map (·.1)).zip acc))) (wipeR ρ ws) (L2.wipe σ ws) H6 := ⟨A3.sr.up (Up.of b46), A6.fr, A6.j, A6.mono⟩
            have jj : ∀ o, J (upd H6 D0 o) := fun o => A1.mono H6 _ (fun a o h e => by
              rw [upd_ne (show a ≠ D0 from fun z => h (by rw [z]; exact hD))]
              exact e) A6.j.1
            exact A6'.upd nD ⟨jj _, upd_same⟩ (mono _ _ (fun a h => upd_tr a (bb6.tr a h)) (by rw [upd_same]; exact fun z => by cases z))
    · have e : i = ds'.length := by omega
      subst e
      refine .inl ⟨wstop rfl, ?_⟩
      have eF : KV ds'.length = foldK kf vf ds' := by
        show foldK kf vf (ds'.take _) = _
        rw [List.take_length]
      rw [eF] at rs A2
      have A3 : At K φ J ρ σ H2 := ⟨A1.sr.up (Up.of b2), A2.fr.fst, A2.j.1, A1.mono.up b2.tr⟩
      exact q D0 acc _ _ H1 H2 b1 A1 hD b2 A3 ⟨rfl, rfl⟩ (fun _ h => nomatch h) A2.j.2 rs
/-- x = xs.pop(i) -/
theorem st_popL {j k n : Nat} {i : Int} (A : At K φ J ρ σ H) (L : Liv K φ Jb J l ds) (hk : ρ[k]? = some (some (.raw (.ref l)))) (hn : seqIndex? i ds.length = some n) (hd : ds[n]? = some d) (h1 : -(2 ^ 63) ≤ i) (h2 : i < 2 ^ 63)
    (kk : ∀ J' σ' H', Liv K φ Jb J' l (ds.eraseIdx n) → At K φ J' (ρ.set j (some d)) σ' H' → D0.nx σ' H') : tAsg (tBM K "list" rPopAt (tVar k) (tCons (tC (.int i)) tNil)) (gName j) D0 σ H := by
  obtain ⟨vs, H0, r, m, hl, rfl⟩ := L.ex
  obtain ⟨w, e, rw'⟩ := A.sr.2 k _ hk
  cases (show w = _ from rw')
  obtain ⟨v, hv, rv⟩ := r.get hd
  have b0 : But φ H0 H := A.j.2
  refine ⟨_, e, .inl ⟨rfl, _, SqL.of A.j.1.2⟩, l, vs, i, n, v, rfl, rfl, A.j.1.2, h1, h2, by rw [r.length]; exact hn, hv, ?_⟩
  have re : ∀ (ds : List D) (vs : List V) (n : Nat), Reps K φ H0 ds vs → Reps K φ H0 (ds.eraseIdx n) (vs.eraseIdx n) := by
    intro ds
    induction ds with
    | nil =>
      intro vs n h
      cases (show vs = [] from h)
      exact Reps.nil
    | cons x ds ih =>
      intro vs n h
      obtain ⟨u, r', rfl, g1, g2⟩ := (show ∃ v r, vs = v :: r ∧ Rep K φ H0 x v ∧ Reps K φ H0 ds r from h)
      cases n with
      | zero => exact g2
      | succ n => exact Reps.cons g1 (ih r' n g2)
  have bu : But φ H0 (L2.upd H l (.lst (vs.eraseIdx n))) := b0.upd L.np
  refine kk _ _ _ ⟨L.np, L.st, L.pl, vs.eraseIdx n, L2.upd H l (.lst (vs.eraseIdx n)), (re ds vs n r).mono bu, m.up bu.tr, (by rw [upd_same]; exact fun z => nomatch z), rfl⟩ ?_
  have A2 := A.upd (J' := fun H'' => (Jb H'' ∧ H'' l = some (.lst (vs.eraseIdx n))) ∧ But φ (L2.upd H l (.lst (vs.eraseIdx n))) H'') L.np ⟨⟨L.st _ _ A.j.1.1, upd_same⟩, But.refl _ _⟩ (((m.up bu.tr).and (Mo.at (by rw [upd_same]; exact fun z => nomatch z))).and (Mo.but fun _ h => h))
  exact A2.set j (rv.mono bu)
/-- an int in a tuple or list of ints -/
theorem inV_ints {i : Int} : ∀ ns : List Int, inV (.int i) (ns.map V.int) = decide (i ∈ ns)
  | [] => rfl
  | n :: ns => by
    have ih := inV_ints (i := i) ns
    unfold inV at ih ⊢
    rw [List.map_cons, List.any_cons, ih]
    by_cases h : i = n
    · subst h
      simp [eqV]
    · have h' : ¬ n = i := fun z => h z.symm
      simp [eqV, h, h']
theorem flat_ints {ns : List Int} : (ns.map V.int).all flatV = true := by
  rw [List.all_map, List.all_eq_true]
  intro _ _
  rfl
theorem ev_inT {i : Int} {ns : List Int} (ha : EvD K φ J te ρ (.int i)) (hb : EvD K φ J tb ρ (.tup (ns.map D.int))) : EvD K φ J (tOp (rIn K false) te tb) ρ (.bl (decide (i ∈ ns))) := ev_opD ha hb fun H v w _ r1 r2 Q q => by
  cases (show v = _ from r1)
  obtain ⟨a, vs, rfl, p, rs⟩ := rep_tup r2
  rw [rs.ints] at p
  exact ⟨a, _, rfl, .inr p.sq, rfl, flat_ints, q _ _ H (Same.refl H) rfl (by rw [if_neg (by simp), inV_ints]; rfl)⟩
theorem ev_inL {i : Int} {ns : List Int} (ha : EvD K φ J te ρ (.int i)) (hb : EvD K φ J tb ρ (.lst (ns.map D.int))) : EvD K φ J (tOp (rIn K false) te tb) ρ (.bl (decide (i ∈ ns))) := ev_opD ha hb fun H v w _ r1 r2 Q q => by
  cases (show v = _ from r1)
  obtain ⟨a, vs, rfl, p, rs⟩ := rep_lst r2
  rw [rs.ints] at p
  exact ⟨a, _, rfl, .inl p.sq, rfl, flat_ints, q _ _ H (Same.refl H) rfl (by rw [if_neg (by simp), inV_ints]; rfl)⟩
/-- .. in a live list -/
theorem ev_inLL {i : Int} {ns : List Int} (L : Liv K φ Jb J l (ns.map D.int)) (ha : EvD K φ J te ρ (.int i)) (hb : EvD K φ J tb ρ (.raw (.ref l))) : EvD K φ J (tOp (rIn K false) te tb) ρ (.bl (decide (i ∈ ns))) := fun σ H A Q q =>
  ha σ H A _ fun v x H1 b1 A1 e1 r1 => hb σ H1 A1 _ fun w y H2 b2 A2 e2 r2 => by
    subst e1 e2
    cases (show v = _ from r1)
    cases (show w = _ from r2)
    obtain ⟨vs, H0, r, m, hl, rfl⟩ := L.ex
    have ev := r.ints
    subst ev
    exact ⟨l, _, rfl, .inl (SqL.of A2.j.1.2), rfl, flat_ints, q _ _ H2 (b1.trans b2) A2 rfl (by rw [if_neg (by simp), inV_ints]; rfl)⟩
theorem ev_notInLL {i : Int} {ns : List Int} (L : Liv K φ Jb J l (ns.map D.int)) (ha : EvD K φ J te ρ (.int i)) (hb : EvD K φ J tb ρ (.raw (.ref l))) : EvD K φ J (tOp (rIn K true) te tb) ρ (.bl (!decide (i ∈ ns))) := fun σ H A Q q =>
  ha σ H A _ fun v x H1 b1 A1 e1 r1 => hb σ H1 A1 _ fun w y H2 b2 A2 e2 r2 => by
    subst e1 e2
    cases (show v = _ from r1)
    cases (show w = _ from r2)
    obtain ⟨vs, H0, r, m, hl, rfl⟩ := L.ex
    have ev := r.ints
    subst ev
    exact ⟨l, _, rfl, .inl (SqL.of A2.j.1.2), rfl, flat_ints, q _ _ H2 (b1.trans b2) A2 rfl (by rw [if_pos rfl, inV_ints]; rfl)⟩
/-- sorted(d, reverse=b), the keys ints -/
theorem ev_sortDRev {td : TE} {b : Bool} {tb' : TA} {kds : List (Key × D)} {ks : List Int} (hd : EvDict K φ J td ρ kds) (hks : kds.map (·.1) = ks.map Sum.inl) (hb : EvAD K φ J tb' ρ [.bl b]) :
    EvP K φ J (tCKw (rSortD b [.bl b]) (tCons td tNil) tb') ρ (fun z => ∃ ns : List Int, z = .lst (ns.map D.int) ∧ ns.Perm ks ∧ OrdB b ns) := fun σ H A Q q =>
  hd σ H A _ fun a H1 b1 A1 per => hb σ H1 A1 _ fun ws ds H2 b2 A2 e2 r2 => by
    subst e2
    obtain ⟨w, rfl, r⟩ := r2.one
    cases (show w = _ from r)
    obtain ⟨vs, ea, rs⟩ := per H2 b2 A2.j
    have hl : vs.length = kds.length := by rw [rs.length, List.length_map]
    refine ⟨a, _, ks, rfl, rfl, ea, ?_, fun ys p hp ho hn => ?_⟩
    · rw [List.map_fst_zip (by rw [List.length_map]; omega), hks]
    · exact q _ (.lst (ys.map D.int)) _ ((b1.trans b2).trans (But.of (same_new hn))) (A2.same (same_new hn)) ⟨ys, rfl, hp, ho⟩ ⟨p, _, rfl, .inl ⟨A2.fr p hn, .inl upd_same⟩, Reps.of_ints⟩
end
section
variable {K : PySem.W.Frag} {φ : Addr → Prop} {J : Hp → Prop} {ρ : List (Option D)} {te : TE} {Jb : Hp → Prop} {l : Addr}
/-- sorted of ints, any number of them -/
theorem c_sortedA {X : Cx} : CallR X (.builtin "sorted") (rSortedI X.K) := cr_sortedI
theorem ev_sortedA {ns : List Int} (ha : EvD K φ J te ρ (.lst (ns.map D.int))) : EvP K φ J (tCB (rSortedI K) (tCons te tNil)) ρ (fun z => ∃ ns' : List Int, z = .lst (ns'.map D.int) ∧ ns'.Perm ns ∧ ns'.Pairwise (· ≤ ·)) := ev_cbD (ea_cons ha ea_nil) fun H vs f r Q q => by
  obtain ⟨v, rfl, r1⟩ := r.one
  obtain ⟨a, rfl, h⟩ := rep_ints r1
  exact ⟨a, ns, rfl, h, fun ns' p hp hs hn => q _ _ _ (same_new hn) ⟨ns', rfl, hp, hs⟩ ⟨p, _, rfl, .inl ⟨f p hn, .inl upd_same⟩, Reps.of_ints⟩⟩
end
section
variable {X : Cx}
theorem sw_trueD {kx vx : Expr} {gs : List Comprehension} {scope : Scope} {pos py : Pos} {y : Str} {l : Nat} {env : Env} (hk : env.scope.kind = .function) (hy : env.scope.names.lookup y = some .local) (hl : (py.line == pos.line) = true)
    (ha : (scope.names.any fun (n, k) => n == y && (k == .local || k == .cell)) = false) : swapsWith (.DictComp kx vx gs scope pos) (some (.Name y py)) l env = pure true := by
  have ky : env.kindOf y = some .local := hy
  have hb : env.blockKind = .function := by unfold Env.blockKind; rw [hk]; rfl
  unfold swapsWith
  simp only [hb, ky, ha, Expr.pos, hl]
  rfl
/-- x = {k: v for ..} -/
theorem ps_setDc {i : Nat} {y : Str} {py : Pos} {kx vx tg iter : Expr} {ifs : List Expr} {scope : Scope} {own : List (Str × Nat)} {pos spos : Pos} {wi : TI} {g : TG} {tt : TT} {tk tv : TE} (hc : X.calm = true) (hN : X.N.Nodup) (hy : X.N[i]? = some y) (hyl : X.env.scope.names.lookup y = some .local)
    (hsw : swapsWith (.DictComp kx vx [⟨tg, iter, ifs, 0⟩] scope pos) (some (.Name y py)) spos.line X.env = pure true) (hi : PI X tg iter wi) (ok : BlkOk X.N X.env.scope scope own)
    (hg : ∀ (s : Shared) (H : Hp) (C : Addr) (cl : List (Str × Addr)) (fp : List Addr), PG (X.blk s H scope (compEnvC scope cl C X.env) fp) tg g) (ht : ∀ (s : Shared) (H : Hp) (C : Addr) (cl : List (Str × Addr)) (fp : List Addr), PTs (X.blk s H scope (compEnvC scope cl C X.env) fp) ifs tt)
    (hk : ∀ (s : Shared) (H : Hp) (C : Addr) (cl : List (Str × Addr)) (fp : List Addr), PE (X.blk s H scope (compEnvC scope cl C X.env) fp) kx tk)
    (he : ∀ (s : Shared) (H : Hp) (C : Addr) (cl : List (Str × Addr)) (fp : List Addr), PE (X.blk s H scope (compEnvC scope cl C X.env) fp) vx tv) (hs : ∀ x, foldedSetIterable iter X.env x = pure x := by intro _; rfl) :
    PS X (.Assign [.Name y py] (.DictComp kx vx [⟨tg, iter, ifs, 0⟩] scope pos) spos) (tAsg (tDc wi g tt tk tv (own.map (·.2))) (gName i)) := by
  refine ⟨fun pins s σ H D I h => ?_⟩
  rw [exec_Assign_Name_used _ _ _ _ hsw]
  refine wpAny_bind (wpAny_standAt (wpAny_bind ?_))
  show wpAny _ X.A (do let _ ← comprehension (.DictComp kx vx [⟨tg, iter, ifs, 0⟩] scope pos) scope X.env (firstIterPos [⟨tg, iter, ifs, 0⟩] pos) newDict false (eval iter X.env) (some (assign (.Name y py) X.env))) _ _ s
  have h : tDc wi g tt tk tv (own.map (·.2)) σ H (fun x H1 => gName i x σ H1 D.nx) := h
  refine wpAny_bind (thn (dc_core (Qf := fun _ s' => SP X pins D .next s') hc hN I hi ok hg ht hk he hs h fun L C s' m H' I' q hn f => ?_) fun _ s' hq => wpAny_pure (wpAny_pure hq))
  show wpAny _ _ (assign (.Name y py) X.env (.ref L)) _ _ _
  refine wpAny_assign_Name (store_ok2 (v := V.ref L) I' hN hy (.inl hyl) rfl (fun s2 I2 ⟨a, sb, ha⟩ => ?_) (.inr hyl))
  obtain ⟨f0, f1, f2, f3, f4, f5⟩ := f
  have haC : C ≠ a := by
    rcases ha with z | z
    · rw [z]; exact f1
    · exact fun e => f4 y a z e.symm
  refine ⟨m, hn.sameBut sb haC, fun h3 sb3 => ?_⟩
  exact ⟨_, H', I2.turned (t' := s2.toks) (fun b o hb e => (sb3.2 b hb).trans e) f0 f1 f3 f4 f5, q⟩
end

/-! ### live objects, any number of them: what J says of each -/
structure LivS (K : PySem.W.Frag) (φ : Addr → Prop) (J : Hp → Prop) (l : Addr) (C : List V → HO) (ds : List D) : Prop where
  np : ¬ φ l
  ex : ∃ vs H0, Reps K φ H0 ds vs ∧ H0 l ≠ none ∧ ∀ H, J H → H l = some (C vs) ∧ But φ H0 H
/-- J' : l is written, the rest is as J has it -/
structure Wr (K : PySem.W.Frag) (φ : Addr → Prop) (J J' : Hp → Prop) (l : Addr) : Prop where
  base : ∀ Jb : Hp → Prop, (∀ H, J H → Jb H) → Stab l Jb → ∀ H, J' H → Jb H
  pool : ∀ p s ns, Pooled φ J p s ns → p ≠ l → s ≠ l → Pooled φ J' p s ns
  liv : ∀ l2 C2 ds2, LivS K φ J l2 C2 ds2 → l2 ≠ l → LivS K φ J' l2 C2 ds2
/-- a new object at l: J' has what J has -/
structure Nw (K : PySem.W.Frag) (φ : Addr → Prop) (J J' : Hp → Prop) (l : Addr) : Prop where
  fr : φ l
  ext : Ext φ J (wo φ l) J'
  pl : ∀ p s ns, Pooled φ J p s ns → p ≠ l ∧ s ≠ l
  liv : ∀ l2 C2 ds2, LivS K φ J l2 C2 ds2 → l2 ≠ l ∧ LivS K (wo φ l) J' l2 C2 ds2
  st : Stab l J
  hc : ∃ Hc, J Hc ∧ Hc l = none
section
variable {K : PySem.W.Frag} {φ φ' : Addr → Prop} {Jb J J' : Hp → Prop} {H H' H1 : Hp} {ρ ρ' : List (Option D)} {σ : L2.St} {ta : TA} {te tb td ty tv : TE} {x y z d : D} {P Pa Pb : D → Prop} {ds es : List D} {v : V} {vs : List V} {D0 : Ends} {t u : TS} {l : Addr} {C : List V → HO}
theorem LivS.imp (L : LivS K φ J l C ds) (h : ∀ H, J' H → J H) : LivS K φ J' l C ds := ⟨L.np, let ⟨vs, H0, r, n, k⟩ := L.ex; ⟨vs, H0, r, n, fun H j => k H (h H j)⟩⟩
theorem LivS.but (L : LivS K φ J l C ds) : LivS K φ (fun H => J H ∧ But φ H1 H) l C ds := L.imp fun _ h => h.1
theorem upd_upd {H : Hp} {l : Addr} {o u : HO} (h : H l = some o) : L2.upd (L2.upd H l u) l o = H := funext fun a => by
  by_cases e : a = l
  · rw [e, upd_same, h]
  · rw [upd_ne e, upd_ne e]
theorem But.unupd {l : Addr} {u : HO} {H0 H : Hp} (np : ¬ φ l) (hl : H l ≠ none) (b : But φ H0 (L2.upd H l u)) : But φ H0 H := ⟨fun a o p e => by
  have z := b.keep a o p e
  rw [upd_ne (show a ≠ l from fun z => np (z ▸ p))] at z
  exact z, fun a h => by
  by_cases e : a = l
  · rw [e]; exact hl
  · have z := b.tr a h
    rw [upd_ne e] at z
    exact z⟩
/-- l is written -/
def wrJ (φ : Addr → Prop) (J : Hp → Prop) (l : Addr) (o : HO) (H3 : Hp) : Hp → Prop := fun H => (H l = some o ∧ ∃ u, J (L2.upd H l u)) ∧ But φ H3 H
theorem LivS.write {C' : List V → HO} {ds' : List D} {vs' : List V} (L : LivS K φ J l C ds) (A : At K φ J ρ σ H) (r : Reps K φ H ds' vs') (hC : ∀ xs, C' vs' ≠ .tup xs := by intro xs h; cases h) :
    At K φ (wrJ φ J l (C' vs') (L2.upd H l (C' vs'))) ρ σ (L2.upd H l (C' vs')) ∧ LivS K φ (wrJ φ J l (C' vs') (L2.upd H l (C' vs'))) l C' ds' ∧ Wr K φ J (wrJ φ J l (C' vs') (L2.upd H l (C' vs'))) l := by
  obtain ⟨vs, H0, r0, n0, k0⟩ := L.ex
  have hl := (k0 H A.j).1
  have hln : H l ≠ none := by rw [hl]; exact fun z => nomatch z
  refine ⟨A.upd (ho := hC) L.np ⟨⟨upd_same, C vs, by rw [show L2.upd (L2.upd H l (C' vs')) l (C vs) = H from upd_upd hl]; exact A.j⟩, But.refl _ _⟩ ?_, ⟨L.np, vs', _, r.mono ((But.refl φ H).upd L.np), (by rw [upd_same]; exact fun z => nomatch z), fun H' h => ⟨h.1.1, h.2⟩⟩, ⟨fun Jb hb st H' h => ?_, fun p s ns hp hpl hsl => ?_, fun l2 C2 ds2 L2' hne => ?_⟩⟩
  · refine Mo.and (fun Ha Hb k j => ⟨k l _ (by rw [upd_same]; exact fun z => nomatch z) j.1, ?_⟩) (Mo.but fun _ h => h)
    obtain ⟨u, ju⟩ := j.2
    refine ⟨u, A.mono _ _ (fun a o h e => ?_) ju⟩
    by_cases ea : a = l
    · rw [ea, upd_same] at e ⊢
      exact e
    · rw [upd_ne ea] at e ⊢
      exact k a o (upd_tr a h) e
  · obtain ⟨⟨e, u, ju⟩, _⟩ := h
    have z := st _ (C' vs') (hb _ ju)
    rw [upd_upd e] at z
    exact z
  · refine ⟨hp.np, hp.ne, fun H' h => ?_, fun Ha Hb h k o => ?_⟩
    · obtain ⟨⟨e, u, ju⟩, _⟩ := h
      obtain ⟨a, c, n, z, e1, e2, h0⟩ := hp.ok _ ju
      rw [upd_ne hpl] at e1
      rw [upd_ne hsl] at e2
      exact ⟨a, c, n, z, e1, e2, h0⟩
    · obtain ⟨⟨e, u, ju⟩, b⟩ := h
      refine ⟨⟨k l _ hpl.symm e, u, hp.st _ _ ju (fun a w na ea => ?_) ?_⟩, Ext.but2 hp.np _ _ b k o⟩
      · by_cases eal : a = l
        · rw [eal, upd_same] at ea ⊢
          exact ea
        · rw [upd_ne eal] at ea ⊢
          exact k a w na ea
      · obtain ⟨a, c, n, z, e1, e2, h0⟩ := o
        exact ⟨a, c, n, z, by rw [upd_ne hpl]; exact e1, by rw [upd_ne hsl]; exact e2, h0⟩
  · obtain ⟨vs2, H2, r2, n2, k2⟩ := L2'.ex
    refine ⟨L2'.np, vs2, H2, r2, n2, fun H' h => ?_⟩
    obtain ⟨⟨e, u, ju⟩, _⟩ := h
    obtain ⟨e2, b2⟩ := k2 _ ju
    rw [upd_ne hne] at e2
    exact ⟨e2, b2.unupd L.np (by rw [e]; exact fun z => nomatch z)⟩
theorem Nw.same {H0 : Hp} (N : Nw K φ J J' l) (hb : ∀ H', J H' → Same H0 H') : Stab l (Same H0) := fun H' o s => by
  obtain ⟨Hc, jc, e⟩ := N.hc
  exact Same.upd_live s ((hb Hc jc).free e)
theorem stab_pool {p s : Addr} {ns : List Int} (h1 : p ≠ l) (h2 : s ≠ l) : Stab l (PoolOk p s ns) := fun H' o j => by
  obtain ⟨a, c, n, z, e1, e2, h0⟩ := j
  exact ⟨a, c, n, z, by rw [upd_ne h1]; exact e1, by rw [upd_ne h2]; exact e2, h0⟩
/-- x = a new object -/
theorem st_newS {k : Nat} {P : List D → (List V → HO) → Prop} (A : At K φ J ρ σ H) (h : EvNO K φ J te ρ P) (kk : ∀ l ds C J' σ' H', P ds C → Nw K φ J J' l → LivS K (wo φ l) J' l C ds → At K (wo φ l) J' (ρ.set k (some (.raw (.ref l)))) σ' H' → D0.nx σ' H') : tAsg te (gName k) D0 σ H :=
  h σ H A _ fun p vs ds C H0 H' b0 A0 hp b A' pd nt e r => by
    have hpH : H p = none := by
      cases z : H p with
      | none => rfl
      | some u => exact absurd hp (b0.tr p (by rw [z]; exact fun w => by cases w))
    have u : Up φ (wo φ p) H H' := fun a o q e2 => ⟨⟨q, ne_of_none e2 hpH⟩, (b0.trans b).keep a o q e2⟩
    have pne : ∀ s ps ns, Pooled φ J s ps ns → s ≠ p ∧ ps ≠ p := fun s ps ns q => by
      obtain ⟨_, _, _, _, h1, h2, _⟩ := q.ok _ A0.j
      exact ⟨ne_of_none h1 hp, ne_of_none h2 hp⟩
    have hpn : H' p ≠ none := by rw [e]; exact fun z => nomatch z
    have A2 : At K (wo φ p) (fun H => (J H ∧ H p = some (C vs)) ∧ But (wo φ p) H' H) ρ σ H' :=
      ⟨A.sr.up u, A'.fr.at e nt, ⟨⟨A'.j, e⟩, But.refl _ _⟩, (A'.mono.and (Mo.at hpn)).and (Mo.but fun _ h => h)⟩
    refine kk p ds C _ _ H' pd ⟨A0.fr p hp, ⟨fun _ h => h.1.1, fun s ps ns q => ⟨fun z => q.np z.1, q.ne, fun H h => q.ok H h.1.1, fun Ha Hb h k o => ⟨⟨q.st _ _ h.1.1 k o, k _ _ (pne s ps ns q).1.symm h.1.2⟩, Ext.but2 (fun z => q.np z.1) _ _ h.2 k o⟩⟩, fun a p' h => ⟨p', fun e' => h H0 A0.j (by rw [e']; exact hp)⟩⟩, pne, fun l2 C2 ds2 L2' => ?_, Stab.of A0.mono hp, H0, A0.j, hp⟩ ⟨fun z => z.2 rfl, vs, H', r, hpn, fun H h => ⟨h.1.2, h.2⟩⟩ (A2.set k rfl)
    obtain ⟨vs2, H2, r2, n2, k2⟩ := L2'.ex
    obtain ⟨e0, b2⟩ := k2 _ A0.j
    have ne : l2 ≠ p := ne_of_none e0 hp
    refine ⟨ne, fun z => L2'.np z.1, vs2, H', ?_, (by rw [(k2 _ A'.j).1]; exact fun z => nomatch z), fun H h => ⟨(k2 _ h.1.1).1, h.2⟩⟩
    have r3 : Reps K φ H0 ds2 vs2 := r2.mono b2
    exact Reps.up (fun a o q e2 => ⟨⟨q, ne_of_none e2 hp⟩, b.keep a o q e2⟩) ds2 vs2 r3
theorem en_ofN {P : List D → Prop} (h : EvN K φ J te ρ P) : EvNO K φ J te ρ (fun ds C => P ds ∧ C = HO.lst) := fun σ H A Q q => h σ H A Q fun p vs ds H0 H' b0 A0 hp b A' pd e r => q p vs ds HO.lst H0 H' b0 A0 hp b A' ⟨pd, rfl⟩ (fun xs h => nomatch h) e r
/-- .append -/
theorem st_appS {k : Nat} (A : At K φ J ρ σ H) (L : LivS K φ J l HO.lst ds) (hk : ρ[k]? = some (some (.raw (.ref l)))) (he : EvP K φ J te ρ P) (hz : ds.length ≤ 1000000)
    (kk : ∀ d J' H', P d → Wr K φ J J' l → LivS K φ J' l HO.lst (ds ++ [d]) → At K φ J' ρ σ H' → D0.nx σ H') : tDrop (tBM K "list" rAppend (tVar k) (tCons te tNil)) D0 σ H := by
  obtain ⟨vs, H0, r, n, k0⟩ := L.ex
  refine st_app (vs := vs) A hk (fun H h => (k0 H h).1) he (by rw [r.length]; exact hz) fun v d H' pd rv b A' => ?_
  obtain ⟨A2, L2', W⟩ := L.write (C' := HO.lst) A' ((r.mono (k0 _ A'.j).2).append (Reps.cons rv Reps.nil))
  exact kk d _ _ pd W L2' A2
/-- xs[i] = e -/
theorem st_setLS {k n : Nat} {i : Int} (A : At K φ J ρ σ H) (L : LivS K φ J l HO.lst ds) (he : EvP K φ J te ρ P) (hk : ρ[k]? = some (some (.raw (.ref l)))) (hi : EvD K φ J tb ρ (.int i)) (hj : ixN ds.length i = some n)
    (kk : ∀ d J' H', P d → Wr K φ J J' l → LivS K φ J' l HO.lst (ds.set n d) → At K φ J' ρ σ H' → D0.nx σ H') : tAsg te (gSub (tVar k) tb rSetL) D0 σ H := by
  obtain ⟨vs, H0, r, n, k0⟩ := L.ex
  refine st_setL (vs := vs) A he hk hi (fun H h => (k0 H h).1) (by rw [r.length]; exact hj) fun v d H' pd rv b A' => ?_
  obtain ⟨A2, L2', W⟩ := L.write (C' := HO.lst) A' ((r.mono (k0 _ A'.j).2).set _ rv)
  exact kk d _ _ pd W L2' A2
theorem reps_erase : ∀ {ds : List D} {vs : List V} (n : Nat), Reps K φ H ds vs → Reps K φ H (ds.eraseIdx n) (vs.eraseIdx n)
  | [], vs, n, h => by
    cases (show vs = [] from h)
    exact Reps.nil
  | x :: ds, vs, n, h => by
    obtain ⟨u, r', rfl, g1, g2⟩ := (show ∃ v r, vs = v :: r ∧ Rep K φ H x v ∧ Reps K φ H ds r from h)
    cases n with
    | zero => exact g2
    | succ n => exact Reps.cons g1 (reps_erase n g2)
/-- x = xs.pop(i) -/
theorem st_popS {j k n : Nat} {i : Int} (A : At K φ J ρ σ H) (L : LivS K φ J l HO.lst ds) (hk : ρ[k]? = some (some (.raw (.ref l)))) (hn : seqIndex? i ds.length = some n) (hd : ds[n]? = some d) (h1 : -(2 ^ 63) ≤ i) (h2 : i < 2 ^ 63)
    (kk : ∀ J' σ' H', Wr K φ J J' l → LivS K φ J' l HO.lst (ds.eraseIdx n) → At K φ J' (ρ.set j (some d)) σ' H' → D0.nx σ' H') : tAsg (tBM K "list" rPopAt (tVar k) (tCons (tC (.int i)) tNil)) (gName j) D0 σ H := by
  obtain ⟨vs, H0, r, m, k0⟩ := L.ex
  obtain ⟨w, e, rw'⟩ := A.sr.2 k _ hk
  cases (show w = _ from rw')
  have r1 := r.mono (k0 _ A.j).2
  obtain ⟨v, hv, rv⟩ := r1.get hd
  refine ⟨_, e, .inl ⟨rfl, _, SqL.of (k0 _ A.j).1⟩, l, vs, i, n, v, rfl, rfl, (k0 _ A.j).1, h1, h2, by rw [r.length]; exact hn, hv, ?_⟩
  obtain ⟨A2, L2', W⟩ := L.write (C' := HO.lst) (vs' := vs.eraseIdx n) A (reps_erase n r1)
  exact kk _ _ _ W L2' (A2.set j (rv.mono ((But.refl φ H).upd L.np)))
theorem ev_lenS' (L : LivS K φ J l HO.lst ds) (hk : EvD K φ J te ρ (.raw (.ref l))) : EvD K φ J (tCB (rLen K) (tCons te tNil)) ρ (.int ds.length) := by
  obtain ⟨vs, H0, r, m, k0⟩ := L.ex
  rw [← r.length]
  exact ev_lenLive hk fun H h => (k0 H h).1
theorem ev_ixS {i : Int} (L : LivS K φ J l HO.lst ds) (hk : EvD K φ J te ρ (.raw (.ref l))) (hb : EvD K φ J tb ρ (.int i)) (e : L2.atI ds i = some d) : EvD K φ J (tOp (rIxL K) te tb) ρ d := by
  obtain ⟨vs, H0, r, m, k0⟩ := L.ex
  refine ev_ixLive hk hb fun H h => ⟨vs, (k0 H h).1, ?_⟩
  unfold L2.atI at e ⊢
  rw [r.length]
  cases hx : L2.ixN ds.length i with
  | none => rw [hx] at e; cases e
  | some n =>
    rw [hx] at e
    obtain ⟨v, hv, rv⟩ := r.get (i := n) e
    exact ⟨v, hv, rv.mono (k0 H h).2⟩
theorem ev_inS_ {i : Int} {ns : List Int} (L : LivS K φ J l HO.lst (ns.map D.int)) (ha : EvD K φ J te ρ (.int i)) (hb : EvD K φ J tb ρ (.raw (.ref l))) : EvD K φ J (tOp (rIn K false) te tb) ρ (.bl (decide (i ∈ ns))) := fun σ H A Q q =>
  ha σ H A _ fun v x H1 b1 A1 e1 r1 => hb σ H1 A1 _ fun w y H2 b2 A2 e2 r2 => by
    subst e1 e2
    cases (show v = _ from r1)
    cases (show w = _ from r2)
    obtain ⟨vs, H0, r, m, k0⟩ := L.ex
    have ev := r.ints
    subst ev
    exact ⟨l, _, rfl, .inl (SqL.of (k0 _ A2.j).1), rfl, flat_ints, q _ _ H2 (b1.trans b2) A2 rfl (by rw [if_neg (by simp), inV_ints]; rfl)⟩
theorem ev_notInS_ {i : Int} {ns : List Int} (L : LivS K φ J l HO.lst (ns.map D.int)) (ha : EvD K φ J te ρ (.int i)) (hb : EvD K φ J tb ρ (.raw (.ref l))) : EvD K φ J (tOp (rIn K true) te tb) ρ (.bl (!decide (i ∈ ns))) := fun σ H A Q q =>
  ha σ H A _ fun v x H1 b1 A1 e1 r1 => hb σ H1 A1 _ fun w y H2 b2 A2 e2 r2 => by
    subst e1 e2
    cases (show v = _ from r1)
    cases (show w = _ from r2)
    obtain ⟨vs, H0, r, m, k0⟩ := L.ex
    have ev := r.ints
    subst ev
    exact ⟨l, _, rfl, .inl (SqL.of (k0 _ A2.j).1), rfl, flat_ints, q _ _ H2 (b1.trans b2) A2 rfl (by rw [if_pos rfl, inV_ints]; rfl)⟩
/-- xs != [] -/
theorem ev_neNilS {n : Nat} (L : LivS K φ J l HO.lst ds) (hq : okq 64 (.lst ds) = true) (ha : EvD K φ J te ρ (.raw (.ref l))) : EvD K φ J (tOp (rNeD K) te (tLst tNil)) ρ (.bl (!ds.isEmpty)) := fun σ H A Q q =>
  ha σ H A _ fun v x H1 b1 A1 e1 r1 => (show EvD K φ J (tLst tNil) ρ (.lst []) from ev_lst ea_nil) σ H1 A1 _ fun w y H2 b2 A2 e2 r2 => by
    subst e1 e2
    cases (show v = _ from r1)
    obtain ⟨vs, H0, r, m, k0⟩ := L.ex
    obtain ⟨el, b0⟩ := k0 _ A2.j
    have dp : Dp K H2 (.ref l) (toPy (.lst ds)) := .lst (SqL.of el) (dps_of ds vs 63 hq (r.mono b0))
    exact ⟨_, _, dp, dp_of (.lst []) w 64 rfl r2, okq_shaped hq (Nat.le_refl _), okq_shaped (d := .lst []) rfl (Nat.le_refl 64), q _ (.bl (!eqvD (.lst ds) (.lst []))) H2 (b1.trans b2) A2 (by rw [eqvD_nil]) rfl⟩
/-- the list is left as it is from here on -/
theorem LivS.freeze (L : LivS K (wo φ l) J l HO.lst ds) (hl : φ l) {k : Nat} (A : At K (wo φ l) J ρ σ H) (hk : ρ[k]? = some (some (.raw (.ref l)))) : At K φ (fun H' => J H' ∧ But φ H H') (ρ.set k (some (.lst ds))) σ H := by
  obtain ⟨vs, H0, r, hn, k0⟩ := L.ex
  obtain ⟨el, b0⟩ := k0 _ A.j
  have up : Up (wo φ l) φ H H := fun a o p e => ⟨p.1, e⟩
  have rr : Rep K φ H (.lst ds) (.ref l) := ⟨l, vs, rfl, .inl ⟨hl, .inl el⟩, Reps.up up ds vs (r.mono b0)⟩
  obtain ⟨w, ew, rw'⟩ := A.sr.2 k _ hk
  cases (show w = _ from rw')
  refine ⟨?_, A.fr.fst, ⟨A.j, But.refl _ _⟩, A.mono.and (Mo.but fun _ h => h)⟩
  have s1 := (A.sr.up up)
  refine ⟨by rw [List.length_set]; exact s1.1, fun i d hd => ?_⟩
  by_cases e : k = i
  · subst e
    have hlt : k < ρ.length := (List.getElem?_eq_some_iff.mp hk).1
    rw [List.getElem?_set_self hlt] at hd
    cases hd
    exact ⟨_, ew, rr⟩
  · rw [List.getElem?_set_ne e] at hd
    exact s1.2 i d hd
/-- others stay live -/
theorem LivS.thaw {l2 : Addr} {C2 : List V → HO} {ds2 : List D} (L : LivS K (wo φ l) J l2 C2 ds2) (ne : l2 ≠ l) (j : J H) : LivS K φ (fun H' => J H' ∧ But φ H H') l2 C2 ds2 := by
  obtain ⟨vs, H0, r, hn, k0⟩ := L.ex
  obtain ⟨el, b0⟩ := k0 _ j
  exact ⟨fun z => L.np ⟨z, ne⟩, vs, H, Reps.up (fun a o p e => ⟨p.1, e⟩) ds2 vs (r.mono b0), (by rw [el]; exact fun z => nomatch z), fun H' h => ⟨(k0 _ h.1).1, h.2⟩⟩
theorem pool_thaw {p s : Addr} {ns : List Int} (hp : Pooled (wo φ l) J p s ns) (ne : p ≠ l) : Pooled φ (fun H' => J H' ∧ But φ H H') p s ns := by
  have np : ¬ φ p := fun z => hp.np ⟨z, ne⟩
  exact ⟨np, hp.ne, fun H' h => hp.ok _ h.1, fun Ha Hb h k o => ⟨hp.st _ _ h.1 k o, Ext.but2 np _ _ h.2 k o⟩⟩
/-! dicts -/
variable {κ : Type} [DecidableEq κ] [DKind κ] {kds : List (κ × D)} {k : κ}
abbrev LivDS (K : PySem.W.Frag) (φ : Addr → Prop) (J : Hp → Prop) (l : Addr) (kds : List (κ × D)) : Prop := LivS K φ J l (fun vs => DKind.ho ((kds.map (·.1)).zip vs)) (kds.map (·.2))
theorem ed_liveS (L : LivDS K φ J l kds) (h : EvD K φ J td ρ (.raw (.ref l))) : EvDict K φ J td ρ kds := fun σ H A Q q => h σ H A _ fun v d H' b A' e r => by
  subst e
  cases (show v = _ from r)
  obtain ⟨vs, H0, rs, m, k0⟩ := L.ex
  exact q l H' b A' fun H'' b' j => ⟨vs, (k0 _ j).1, rs.mono (k0 _ j).2⟩
/-- d[y] = v -/
theorem st_dputS {i : Nat} (A : At K φ J ρ σ H) (L : LivDS K φ J l kds) (hv : EvP K φ J tv ρ P) (hk : ρ[i]? = some (some (.raw (.ref l)))) (hy : EvD K φ J ty ρ (DKind.kd k)) (hz : kds.length ≤ 1000000)
    (kk : ∀ d J' H', P d → Wr K φ J J' l → LivDS K φ J' l (putD kds k d) → At K φ J' ρ σ H' → D0.nx σ H') : sDPut (tVar i) ty tv D0 σ H := by
  obtain ⟨vs, H0, r, m, k0⟩ := L.ex
  refine hv σ H A _ fun v d H1 b1 A1 pd r1 => ev_var hk σ H1 A1 _ fun w d2 H2 b2 A2 e2 r2 => hy σ H2 A2 _ fun y d3 H3 b3 A3 e3 r3 => ?_
  subst e2 e3
  cases (show w = _ from r2)
  obtain ⟨el, b0⟩ := k0 _ A3.j
  obtain ⟨vs', ep, rp⟩ := zip_put (k := k) ((r1.mono b2).mono b3) (r.mono b0)
  have hlen : ((kds.map (·.1)).zip vs).length < sizeLine := szlt (by
    rw [List.length_zip, List.length_map]
    omega)
  refine ⟨l, _, rfl, DKind.put r3 el hlen, ?_⟩
  rw [ep]
  obtain ⟨A4, L4, W⟩ := L.write (C' := fun vs => DKind.ho (((putD kds k d).map (·.1)).zip vs)) A3 rp (fun xs => DKind.nt _ xs)
  exact kk d _ _ pd W L4 A4
theorem LivS.freezeD (L : LivDS K (wo φ l) J l kds) (hl : φ l) {i : Nat} (A : At K (wo φ l) J ρ σ H) (hk : ρ[i]? = some (some (.raw (.ref l)))) : At K φ (fun H' => J H' ∧ But φ H H') (ρ.set i (some (dictD kds))) σ H := by
  obtain ⟨vs, H0, r, hn, k0⟩ := L.ex
  obtain ⟨el, b0⟩ := k0 _ A.j
  have up : Up (wo φ l) φ H H := fun a o p e => ⟨p.1, e⟩
  have rr : Rep K φ H (dictD kds) (.ref l) := DKind.rep.mpr ⟨l, vs, rfl, ⟨hl, el, by rw [List.length_map, List.length_map]⟩, Reps.up up _ vs (r.mono b0)⟩
  obtain ⟨w, ew, rw'⟩ := A.sr.2 i _ hk
  cases (show w = _ from rw')
  refine ⟨?_, A.fr.fst, ⟨A.j, But.refl _ _⟩, A.mono.and (Mo.but fun _ h => h)⟩
  have s1 := (A.sr.up up)
  refine ⟨by rw [List.length_set]; exact s1.1, fun j d hd => ?_⟩
  by_cases e : i = j
  · subst e
    have hlt : i < ρ.length := (List.getElem?_eq_some_iff.mp hk).1
    rw [List.getElem?_set_self hlt] at hd
    cases hd
    exact ⟨_, ew, rr⟩
  · rw [List.getElem?_set_ne e] at hd
    exact s1.2 j d hd
end

/-! ### defs whose result is told by a property -/
def SpR (K : PySem.W.Frag) (n : Nat) (Pre : List D → Prop) (R : List D → D → Prop) : Sp := fun vs H Q _ => ∃ φ ds, ds.length = n ∧ Reps K φ H ds vs ∧ Frm φ H ∧ Pre ds ∧ ∀ d v H', R ds d → Same H H' → Rep K φ H' d v → Q v H'
section
variable {K : PySem.W.Frag} {φ : Addr → Prop} {J : Hp → Prop} {ρ : List (Option D)} {ds : List D}
theorem ev_callR {n : Nat} {Pre : List D → Prop} {R : List D → D → Prop} {E : XK} {ta : TA} (ha : EvAD K φ J ta ρ ds) (hp : Pre ds) (hl : ds.length = n := by rfl) : EvP K φ J (tCall (SpR K n Pre R) [] E ta) ρ (R ds) := fun σ H A Q q =>
  ha σ H A _ fun vs ds' H1 b1 A1 e r1 => by
    subst e
    exact ⟨φ, _, hl, by rw [List.append_nil]; exact r1, A1.fr, hp, fun d v H' rd s r => q v d H' (b1.trans (But.of s)) (A1.same s) rd r⟩
variable {PP : Program} {w : World} {mg : Str → Option Value} {base : Heap}
theorem fn_okR {x qual : Str} {st : Stmt} {f : Addr} {fd : FuncData} {N ps : List Str} {k n : Nat} {Pre : List D → Prop} {R : List D → D → Prop} (F : Fun K x qual st f fd) (S : FnScope N ps (defScope st)) (hn : ps.length = n) (m : Nat) (hm : N.length = n + m)
    (hbody : ∀ (cdv : Value) (A : Around) (outer : List Env) (s : Shared) (H : Hp) (E : XK), Room k (A.deeper (envOfC qual (defScope st) s.heap.objs.size f cdv)) →
      ∃ t, PSs (cxOf CX0 PP w K mg base N qual (defScope st) f cdv A outer s H E).nox (defBody st) t ∧
        ∀ (φ : Addr → Prop) (ds : List D) (H : Hp) (D0 : Ends) (σ : L2.St), ds.length = n → Pre ds → (∀ d v H', R ds d → Same H H' → Rep K φ H' d v → D0.rt v H') → At K φ (Same H) (ds.map some ++ List.replicate m none) σ H → t D0 σ H) :
    FnOk PP w K mg base CX0 (k + 1) f fd ps (SpR K n Pre R) := by
  refine F.ok S (fun vs H Q E h => ?_) (fun cdv A outer s H vs Q E hr h => ?_)
  · obtain ⟨φ, ds, hl, r, _⟩ := h
    rw [r.length, hl, hn]
  · obtain ⟨φ, ds, hl, r, fr, hp, q⟩ := h
    obtain ⟨t, ht, run⟩ := hbody cdv A outer s H E hr
    refine ⟨t, ht, run φ ds H _ _ hl hp (fun d v H' rd s r => q d v H' rd s r) ⟨?_, fr, Same.refl H, Mo.sames fun _ h => h⟩⟩
    have e : N.length - vs.length = m := by rw [hm, r.length, hl]; omega
    unfold L2.start
    rw [e]
    exact SR.start r
end

-- import HandS.SortRule
-- import HandS.DictTup
/-! ### sorted(d) of dicts with pairs of ints as keys -/
def prK (p : Int × Int) : List Key := [Sum.inl p.1, Sum.inl p.2]
theorem prK_inj {p q : Int × Int} (h : prK p = prK q) : p = q := by
  have h1 := (List.cons.inj h).1
  have h2 := (List.cons.inj (List.cons.inj h).2).1
  injection h1 with h1
  injection h2 with h2
  exact Prod.ext h1 h2
def prDD (p : Int × Int) : D := .tup [.int p.1, .int p.2]
theorem prDD_kd (p : Int × Int) : DKind.kd (prK p) = prDD p := rfl
/-- sorted, by pairs -/
def LexS (ps : List (Int × Int)) : Prop := ps.Pairwise fun a b => SrtO.lexB b a = false
def rSortT : List V → Hp → VK → Prop := fun vs H Q => ∃ (a : Addr) (kvs : List (List Key × V)) (ks : List (Int × Int)), vs = [.ref a] ∧ H a = some (.dT kvs) ∧ kvs.map (·.1) = ks.map prK ∧
  ∀ (out : List (Addr × Int × Int)) (p : Addr), (out.map (·.2)).Perm ks → LexS (out.map (·.2)) → (∀ z ∈ out, H z.1 = some (.tup [.int z.2.1, .int z.2.2])) → H p = none → Q (.ref p) (upd H p (.lst (out.map fun z => V.ref z.1)))
section
variable {X : Cx}
/-- the pair that a reference is, by H -/
def prOf (H : Hp) (v : Value) : Int × Int := match v with
  | .ref b => match H b with
    | some (.tup [.int i, .int j]) => (i, j)
    | _ => (0, 0)
  | _ => (0, 0)
theorem prOf_at {H : Hp} {b : Addr} {p : Int × Int} (h : H b = some (.tup [.int p.1, .int p.2])) : prOf H (.ref b) = p := by
  unfold prOf
  simp only [h]
def adOf : Value → Addr
  | .ref b => b
  | _ => 0
theorem cr_sortT (hcalm : X.calm = true) : CallR X (.builtin "sorted") rSortT := by
  intro pins s σ H vs us Q I r h
  obtain ⟨a, kvs, ks, rfl, hd, hks, q⟩ := h
  obtain rfl := Vals.ref1 r
  obtain ⟨z, lo, xs', rel, o, es, ep, ho, hx, hdat, hes, his, hn⟩ := dt_of I.hok hd
  have l1 : kvs.length = xs'.length := Paired.length rel
  have l2 : es.size = xs'.length := size_of_entries hes
  have lk : kvs.length = ks.length := by
    have e := congrArg List.length hks
    rw [List.length_map, List.length_map] at e
    exact e
  have hz : es.size ≤ sizeLine := by rw [l2, ← l1]; exact z
  have hr : s.heap.DictRaw a es ep := ⟨o, ho, hx, hdat⟩
  have at_ : ∀ (j : Nat) (v : Value), (es.toList.map (·.key))[j]? = some v → ∃ b p, v = .ref b ∧ ks[j]? = some p ∧ H b = some (.tup [.int p.1, .int p.2]) := by
    intro j v hv
    rw [List.getElem?_map, Array.getElem?_toList, entry_at hes j, Option.map_map] at hv
    obtain ⟨x, hxj, e⟩ := Option.map_eq_some_iff.mp hv
    obtain ⟨e0, he0, r1, r2, r3⟩ := L2.DX.pget rel hxj
    have e1 : (kvs.map (·.1))[j]? = some e0.1 := by rw [List.getElem?_map, he0]; rfl
    rw [hks, List.getElem?_map] at e1
    obtain ⟨p, hp, ep1⟩ := Option.map_eq_some_iff.mp e1
    refine ⟨x.2.1, p, e.symm, hp, ?_⟩
    rw [r2, ← ep1]
    rfl
  have hkeys : (es.toList.map (·.key)).map (prOf H) = ks := by
    refine List.ext_getElem? fun j => ?_
    rw [List.getElem?_map]
    cases e : (es.toList.map (·.key))[j]? with
    | none =>
      have h1 := List.getElem?_eq_none_iff.mp e
      rw [List.length_map, Array.length_toList, l2, ← l1, lk] at h1
      rw [List.getElem?_eq_none h1]
      rfl
    | some v =>
      obtain ⟨b, p, rfl, hp, hb⟩ := at_ j v e
      rw [hp]
      show some (prOf H (.ref b)) = some p
      rw [prOf_at hb]
  have mem_ : ∀ v ∈ es.toList.map (·.key), v = .ref (adOf v) ∧ H (adOf v) = some (.tup [.int (prOf H v).1, .int (prOf H v).2]) := by
    intro v hv
    obtain ⟨j, hj⟩ := List.mem_iff_getElem?.mp hv
    obtain ⟨b, p, rfl, _, hb⟩ := at_ j v hj
    exact ⟨rfl, by rw [prOf_at hb]; exact hb⟩
  have pairs : ∀ v ∈ es.toList.map (·.key), Srt.IsPair s.heap v (prOf H v).1 (prOf H v).2 := by
    intro v hv
    obtain ⟨e, hb⟩ := mem_ v hv
    obtain ⟨_, its2, r2, o2, ho2, hc, n, hd2⟩ := I.hok _ _ hb
    obtain ⟨u1, u2, rfl, ri, rj⟩ := vals2 r2
    obtain ⟨t1, rfl⟩ := ri
    obtain ⟨t2, rfl⟩ := rj
    exact ⟨_, o2, t1, t2, n, e, ho2, hc, hd2⟩
  refine sorted_raw (b := false) (kw := []) lo (I.ok.hd hcalm) hr hz (fun _ => rfl) (by unfold argsOk; kernel_rfl) (fun _ => PyProof.Rows.args_list_sort _) (SrtO.swo_lex (prOf H)) (fun h2 h₁ tk a' ha' kk => ?_) fun out h1 h' tk a' n hs hb k1 k2 ha' hn' => ?_
  · refine SrtO.pairs_sortableO (by omega) (fun v hv => (pairs v hv).keeps fun b o e _ => (kk b o e).2) fun o e => ?_
    have e' := e.symm.trans ha'
    cases e'
    intro c
    exact absurd (Value.type.inj c) (by decide)
  · have h3 : ∀ v ∈ out, v = .ref (adOf v) ∧ H (adOf v) = some (.tup [.int (prOf H v).1, .int (prOf H v).2]) := fun v hv => mem_ v (hb.perm.mem_iff.mp hv)
    have I1 : Inv X pins σ H { s with heap := h1, toks := tk } := I.kept k1
    have hv : Vals (out.map fun v => V.ref (adOf v)) out := by
      clear hs hb hn'
      induction out with
      | nil => exact .nil
      | cons v out ih =>
        refine .cons (show v = .ref (adOf v) from (h3 v List.mem_cons_self).1) (ih fun u hu => h3 u (List.mem_cons_of_mem _ hu))
    have el : (out.map fun v => V.ref (adOf v)) = (out.map fun v => (adOf v, prOf H v)).map fun z => V.ref z.1 := by rw [List.map_map]; rfl
    have e2 : (out.map fun v => (adOf v, prOf H v)).map (·.2) = out.map (prOf H) := by rw [List.map_map]; rfl
    refine ⟨.ref a', upd H a' (.lst ((out.map fun v => (adOf v, prOf H v)).map fun z => V.ref z.1)), I1.laid (t' := tk) k2 ha' ⟨?_, out, n, el ▸ hv, hn'⟩, rfl, q _ a' ?_ ?_ ?_ (I1.hok.fresh ha')⟩
    · rw [List.length_map, List.length_map, hb.len]
      show (es.toList.map (·.key)).length ≤ _
      rw [List.length_map, Array.length_toList]
      exact hz
    · rw [e2, ← hkeys]
      exact hb.perm.map _
    · rw [e2]
      exact List.pairwise_map.mpr hs
    · intro z hz
      obtain ⟨v, hv, rfl⟩ := List.mem_map.mp hz
      exact (h3 v hv).2
end
section
variable {K : PySem.W.Frag} {φ : Addr → Prop} {J : Hp → Prop} {ρ : List (Option D)} {td : TE}
theorem reps_prs {H : Hp} (F : Frm φ H) : ∀ {out : List (Addr × Int × Int)}, (∀ z ∈ out, H z.1 = some (.tup [.int z.2.1, .int z.2.2])) → Reps K φ H ((out.map (·.2)).map prDD) (out.map fun z => V.ref z.1)
  | [], _ => Reps.nil
  | z :: out, h => Reps.cons ⟨z.1, _, rfl, .inl ⟨F.tup _ _ (h z List.mem_cons_self), .inl (h z List.mem_cons_self)⟩, Reps.cons rfl (Reps.cons rfl Reps.nil)⟩ (reps_prs F fun u hu => h u (List.mem_cons_of_mem _ hu))
/-- sorted(d): the pairs in order -/
theorem ev_sortT {kds : List (List Key × D)} {ks : List (Int × Int)} (hd : EvDict K φ J td ρ kds) (hks : kds.map (·.1) = ks.map prK) : EvP K φ J (tCB rSortT (tCons td tNil)) ρ (fun z => ∃ ps : List (Int × Int), z = .lst (ps.map prDD) ∧ ps.Perm ks ∧ LexS ps) := fun σ H A Q q =>
  hd σ H A _ fun a H1 b1 A1 per => by
    obtain ⟨vs, ea, rs⟩ := per H1 (But.refl _ _) A1.j
    have hl := rs.length
    rw [List.length_map] at hl
    refine ⟨a, _, ks, rfl, ea, ?_, fun out p hp hs ht hn => ?_⟩
    · rw [← hks]
      have e : (kds.map (·.1)).length = vs.length := by rw [List.length_map, hl]
      exact List.map_fst_zip (by omega)
    · refine q _ (.lst ((out.map (·.2)).map prDD)) _ (b1.trans (But.of (same_new hn))) (A1.same (same_new hn)) ⟨_, rfl, hp, hs⟩ ⟨p, _, rfl, .inl ⟨A1.fr.new p hn, .inl upd_same⟩, (reps_prs A1.fr ht).mono (But.of (same_new hn))⟩
end

-- import HandS.TupLe
-- import HandS.Conv
-- import KE.SortData
-- import KE.DataMinMax
-- import KE.DatumOrd
/-! ### t >= u, list + list, list * int, list(range(..)), min and max of tuples, sorted of data -/
theorem _root_.L2.Room.units66 {k : Nat} {A : Around} (r : Room k A) : A.units + 66 < cLine := by have := r.un; omega
def rGeT (K : PySem.W.Frag) : R2 := fun x y H Q => ∃ (a b : Addr) (ns ms : List Int), x = .ref a ∧ y = .ref b ∧ SqT K H a (ns.map V.int) ∧ SqT K H b (ms.map V.int) ∧
  Q (.bl (Ob.lexAt (fun j => decide (ns.getD j 0 = ms.getD j 0)) (fun j => decide (ms.getD j 0 ≤ ns.getD j 0)) (decide (ns.length ≥ ms.length)) 0 (min ns.length ms.length))) H
theorem op_geT {X : Cx} (hu : X.A.units < cLine) : OpR X (compareOp .GtE) (rGeT X.K) := by
  intro pins s σ H x y v u Q I rx ry h
  obtain ⟨a, b, ns, ms, rfl, rfl, ha, hb, q⟩ := h
  cases rx
  cases ry
  obtain ⟨its, r1, p1, _⟩ := I.tuple ha
  obtain ⟨its2, r2, p2, _⟩ := I.tuple hb
  have i1 : PyProof.Rows.IntsAre its ns := Vals.ints r1
  have i2 : PyProof.Rows.IntsAre its2 ms := Vals.ints r2
  have e1 : its.toArray.size = ns.length := by rw [List.size_toArray]; exact i1.length
  have e2 : its2.toArray.size = ms.length := by rw [List.size_toArray]; exact i2.length
  have at1 : ∀ j (h1 : j < its.toArray.size), ∃ t, its.toArray[j] = .int (ns.getD j 0) t := fun j h1 => PyProof.Rows.IntsAre.int_at i1 _ _ (by simp at h1; simp [h1])
  have at2 : ∀ j (h1 : j < its2.toArray.size), ∃ t, its2.toArray[j] = .int (ms.getD j 0) t := fun j h1 => PyProof.Rows.IntsAre.int_at i2 _ _ (by simp at h1; simp [h1])
  have R := Ob.RcOp.tuples_ge (A := X.A) (s := s) (e := fun j => decide (ns.getD j 0 = ms.getD j 0)) (r := fun j => decide (ms.getD j 0 ≤ ns.getD j 0)) p1 p2 hu (fun j h1 h2 => by
    obtain ⟨t, et⟩ := at1 j h1
    obtain ⟨t', et'⟩ := at2 j h2
    rw [et, et']
    have z : (ns.getD j 0 == ms.getD j 0) = decide (ns.getD j 0 = ms.getD j 0) := by
      by_cases q : ns.getD j 0 = ms.getD j 0
      · rw [decide_eq_true q]; exact beq_iff_eq.mpr q
      · rw [decide_eq_false q]; exact beq_eq_false_iff_ne.mpr q
    rw [← z]
    exact SeqAt.EqAt.int_int _ _ _ _) (fun j h1 h2 _ => by
    obtain ⟨t, et⟩ := at1 j h1
    obtain ⟨t', et'⟩ := at2 j h2
    rw [et, et']
    exact Ob.RcOp.ge_int _ _ _ _)
  rw [e1, e2] at R
  exact R _ _ _ _ ⟨.bl _, H, I, rfl, q⟩
theorem kop_geT {X : Cx} {K : PySem.W.Frag} (h : X.K = K) (hu : X.A.units < cLine) : OpR X (compareOp .GtE) (rGeT K) := h ▸ op_geT hu
def rCatL (K : PySem.W.Frag) : R2 := fun x y H Q => ∃ l b xs zs, x = .ref l ∧ y = .ref b ∧ SqL K H l xs ∧ SqL K H b zs ∧ xs.length + zs.length ≤ sizeLine ∧ ∀ p, H p = none → Q (.ref p) (upd H p (.lst (xs ++ zs)))
theorem op_catL {X : Cx} : OpR X (binaryOp .Add) (rCatL X.K) := by
  intro pins s σ H x y v u Q I rx ry h
  obtain ⟨l, b, xs, zs, rfl, rfl, hH, hB, hz, q⟩ := h
  cases rx
  cases ry
  obtain ⟨its, r, p, hl⟩ := I.list hH
  obtain ⟨its2, r2, p2, hl2⟩ := I.list hB
  have e0 := r.length
  have e02 := r2.length
  obtain ⟨⟨cls, dd, data, sl⟩, ho, hc, n, hd⟩ := p.isList
  obtain ⟨⟨cls2, dd2, data2, sl2⟩, ho2, hc2, n2, hd2⟩ := p2.isList
  simp only at hc hd hc2 hd2
  subst hc hd hc2 hd2
  have ea : its.toArray ++ its2.toArray = (its ++ its2).toArray := by simp
  refine concat_meets ⟨_, ho, rfl⟩ ⟨_, ho2, rfl⟩ noFill_list_add seq_list_add PySem.F.slot_list_add PySem.F.entry_list_add (PySem.F.args_list_add_2 _ _) (list_addW l b its.toArray its2.toArray n n2 dd dd2 sl sl2 (by rw [List.size_toArray, List.size_toArray]; omega)) ⟨ho, ho2, ?_⟩
  rw [ea]
  exact ⟨.ref _, _, I.lnew (t' := s.toks) (r.append r2) (by rw [List.length_append]; omega), rfl, q _ I.fresh⟩
theorem kop_catL {X : Cx} {K : PySem.W.Frag} (h : X.K = K) : OpR X (binaryOp .Add) (rCatL K) := h ▸ op_catL
/-- min, max of a tuple of ints -/
def rMinT (K : PySem.W.Frag) : List V → Hp → VK → Prop := fun vs H Q => ∃ (a : Addr) (ns : List Int), vs = [V.ref a] ∧ SqT K H a (ns.map V.int) ∧ 0 < ns.length ∧ ∀ m, m ∈ ns → (∀ y, y ∈ ns → m ≤ y) → Q (.int m) H
def rMaxT (K : PySem.W.Frag) : List V → Hp → VK → Prop := fun vs H Q => ∃ (a : Addr) (ns : List Int), vs = [V.ref a] ∧ SqT K H a (ns.map V.int) ∧ 0 < ns.length ∧ ∀ m, m ∈ ns → (∀ y, y ∈ ns → y ≤ m) → Q (.int m) H
theorem minOf_int (x : Int) : ∀ xs : List Int, PySem.W.minOf x xs ∈ x :: xs ∧ ∀ y ∈ x :: xs, PySem.W.minOf x xs ≤ y := by
  intro xs
  unfold PySem.W.minOf
  induction xs generalizing x with
  | nil => exact ⟨List.mem_cons_self, fun y hy => by rw [List.mem_singleton.mp hy]; exact Int.le_refl _⟩
  | cons z xs ih =>
    rw [List.foldl_cons]
    show (List.foldl _ (if decide (z < x) = true then z else x) xs) ∈ _ ∧ ∀ y ∈ _, List.foldl _ (if decide (z < x) = true then z else x) xs ≤ y
    by_cases h : z < x
    · rw [if_pos (decide_eq_true h)]
      obtain ⟨h1, h2⟩ := ih z
      refine ⟨List.mem_cons_of_mem _ h1, fun y hy => ?_⟩
      rcases List.mem_cons.mp hy with rfl | hy
      · have := h2 z List.mem_cons_self
        omega
      · exact h2 y hy
    · rw [if_neg (by simp [h])]
      obtain ⟨h1, h2⟩ := ih x
      refine ⟨?_, fun y hy => ?_⟩
      · rcases List.mem_cons.mp h1 with e | e
        · rw [e]; exact List.mem_cons_self
        · exact List.mem_cons_of_mem _ (List.mem_cons_of_mem _ e)
      · rcases List.mem_cons.mp hy with rfl | hy
        · exact h2 y List.mem_cons_self
        · rcases List.mem_cons.mp hy with rfl | hy
          · have := h2 x List.mem_cons_self
            omega
          · exact h2 y (List.mem_cons_of_mem _ hy)
theorem maxOf_int (x : Int) : ∀ xs : List Int, PySem.W.maxOf x xs ∈ x :: xs ∧ ∀ y ∈ x :: xs, y ≤ PySem.W.maxOf x xs := by
  intro xs
  unfold PySem.W.maxOf
  induction xs generalizing x with
  | nil => exact ⟨List.mem_cons_self, fun y hy => by rw [List.mem_singleton.mp hy]; exact Int.le_refl _⟩
  | cons z xs ih =>
    rw [List.foldl_cons]
    show (List.foldl _ (if decide (x < z) = true then z else x) xs) ∈ _ ∧ ∀ y ∈ _, y ≤ List.foldl _ (if decide (x < z) = true then z else x) xs
    by_cases h : x < z
    · rw [if_pos (decide_eq_true h)]
      obtain ⟨h1, h2⟩ := ih z
      refine ⟨List.mem_cons_of_mem _ h1, fun y hy => ?_⟩
      rcases List.mem_cons.mp hy with rfl | hy
      · have := h2 z List.mem_cons_self
        omega
      · exact h2 y hy
    · rw [if_neg (by simp [h])]
      obtain ⟨h1, h2⟩ := ih x
      refine ⟨?_, fun y hy => ?_⟩
      · rcases List.mem_cons.mp h1 with e | e
        · rw [e]; exact List.mem_cons_self
        · exact List.mem_cons_of_mem _ (List.mem_cons_of_mem _ e)
      · rcases List.mem_cons.mp hy with rfl | hy
        · exact h2 y List.mem_cons_self
        · rcases List.mem_cons.mp hy with rfl | hy
          · have := h2 x List.mem_cons_self
            omega
          · exact h2 y (List.mem_cons_of_mem _ hy)
theorem dpAll_ints {K : PySem.W.Frag} {H : Hp} : ∀ ns : List Int, DpAll K H (ns.map V.int) (ns.map PyData.int)
  | [] => .nil
  | n :: ns => .cons (.int n) (dpAll_ints ns)
theorem cr_minT {X : Cx} (hc : X.calm = true) (hu : X.A.units + 1 < cLine) : CallR X (.builtin "min") (rMinT X.K) := by
  intro pins s σ H vs us Q I r h
  obtain ⟨a, ns, rfl, hs, hn, q⟩ := h
  obtain rfl := Vals.ref1 r
  obtain ⟨its, rv, p, hz⟩ := I.tuple hs
  obtain ⟨as, rd⟩ := Dp.readsAll I (ns.map PyData.int) _ its (dpAll_ints ns) rv
  obtain ⟨x, xs, rfl⟩ : ∃ x xs, ns = x :: xs := by cases ns with | nil => cases hn | cons x xs => exact ⟨x, xs, rfl⟩
  refine PySem.W.min_tuple_datum (α := Int) (x := x) (xs := xs) (I.ok.hd hc) p ⟨as, by rw [List.toList_toArray]; exact rd⟩ (by show X.A.units + 1 + 0 < cLine; omega) fun i v h' tk hi ⟨bs, rb⟩ kp => ?_
  have e : ∃ t, v = Value.int (PySem.W.minOf x xs) t := by cases rb; exact ⟨_, rfl⟩
  obtain ⟨t, rfl⟩ := e
  exact ⟨.int _, H, I.kept (t' := tk) kp, ⟨t, rfl⟩, q _ (minOf_int x xs).1 (minOf_int x xs).2⟩
theorem cr_maxT {X : Cx} (hc : X.calm = true) (hu : X.A.units + 1 < cLine) : CallR X (.builtin "max") (rMaxT X.K) := by
  intro pins s σ H vs us Q I r h
  obtain ⟨a, ns, rfl, hs, hn, q⟩ := h
  obtain rfl := Vals.ref1 r
  obtain ⟨its, rv, p, hz⟩ := I.tuple hs
  obtain ⟨as, rd⟩ := Dp.readsAll I (ns.map PyData.int) _ its (dpAll_ints ns) rv
  obtain ⟨x, xs, rfl⟩ : ∃ x xs, ns = x :: xs := by cases ns with | nil => cases hn | cons x xs => exact ⟨x, xs, rfl⟩
  refine PySem.W.max_tuple_datum (α := Int) (x := x) (xs := xs) (I.ok.hd hc) p ⟨as, by rw [List.toList_toArray]; exact rd⟩ (by show X.A.units + 1 + 0 < cLine; omega) fun i v h' tk hi ⟨bs, rb⟩ kp => ?_
  have e : ∃ t, v = Value.int (PySem.W.maxOf x xs) t := by cases rb; exact ⟨_, rfl⟩
  obtain ⟨t, rfl⟩ := e
  exact ⟨.int _, H, I.kept (t' := tk) kp, ⟨t, rfl⟩, q _ (maxOf_int x xs).1 (maxOf_int x xs).2⟩
theorem kcr_minT {X : Cx} {K : PySem.W.Frag} (h : X.K = K) (hc : X.calm = true) (hu : X.A.units + 1 < cLine) : CallR X (.builtin "min") (rMinT K) := h ▸ cr_minT hc hu
theorem kcr_maxT {X : Cx} {K : PySem.W.Frag} (h : X.K = K) (hc : X.calm = true) (hu : X.A.units + 1 < cLine) : CallR X (.builtin "max") (rMaxT K) := h ▸ cr_maxT hc hu
/-- sorted(xs) of data of one kind -/
def rSortQ (K : PySem.W.Frag) : List V → Hp → VK → Prop := fun vs H Q => ∃ (a : Addr) (xs : List V) (ds : List PyData), vs = [V.ref a] ∧ SqL K H a xs ∧ DpAll K H xs ds ∧ PySem.W.AllAlike ds ∧ PySem.W.Sortable ds ∧ (∀ d ∈ ds, d.depth ≤ 64) ∧
  ∀ (zs : List (V × PyData)) (p : Addr), zs.Perm (xs.zip ds) → (zs.map (·.2)).Pairwise (fun a b => PySem.W.dataLt b a = false) → H p = none → Q (.ref p) (upd H p (.lst (zs.map (·.1))))
theorem dpAll_len {K : PySem.W.Frag} {H : Hp} : ∀ (xs : List V) (ds : List PyData), DpAll K H xs ds → xs.length = ds.length
  | [], _, h => by cases h; rfl
  | x :: xs, _, h => by
    cases h with
    | cons _ h2 => rw [List.length_cons, List.length_cons, dpAll_len xs _ h2]
theorem dpAll_vals {K : PySem.W.Frag} {H : Hp} : ∀ (xs : List V) (ds : List PyData) (its : List Value), DpAll K H xs ds → Vals xs its → PySem.W.EachIs (fun (v : Value) (b : V × PyData) => RelV b.1 v) its (xs.zip ds)
  | [], _, _, h, r => by cases h; cases r; exact .nil
  | x :: xs, _, _, h, r => by
    cases h with
    | cons _ h2 =>
      cases r with
      | cons r0 r1 => exact .cons r0 (dpAll_vals xs _ _ h2 r1)
theorem dpAll_reads {X : Cx} {pins : List (Addr × Obj)} {σ : L2.St} {H : Hp} {s : Shared} (I : Inv X pins σ H s) : ∀ (xs : List V) (ds : List PyData) (its : List Value), DpAll X.K H xs ds → Vals xs its → PySem.W.EachIs (fun (v : Value) (b : V × PyData) => ∃ as, Reads s.heap v b.2 as) its (xs.zip ds)
  | [], _, _, h, r => by cases h; cases r; exact .nil
  | x :: xs, _, _, h, r => by
    cases h with
    | cons h1 h2 =>
      cases r with
      | cons r0 r1 => exact .cons (Dp.reads I _ _ _ h1 r0) (dpAll_reads I xs _ _ h2 r1)
theorem cr_sortQ {X : Cx} (hu : X.A.units + 66 < cLine) : CallR X (.builtin "sorted") (rSortQ X.K) := by
  intro pins s σ H vs us Q I r h
  obtain ⟨a, xs, ds, rfl, hs, hd, hal, hso, hdep, q⟩ := h
  obtain rfl := Vals.ref1 r
  obtain ⟨its, rv, p, hz⟩ := I.list hs
  have lxd := dpAll_len xs ds hd
  have em : (xs.zip ds).map (·.2) = ds := List.map_snd_zip (by omega)
  have e1 := dpAll_vals (K := X.K) (H := H) xs ds its hd rv
  have e2 := dpAll_reads I xs ds its hd rv
  have e3 : (xs.zip ds).map Prod.snd = ds := em
  refine PySem.W.sorted_data (enc := Prod.snd) p.isList e1 e2 (by rw [e3]; exact hal) (by rw [e3]; exact hso) (by rw [List.length_zip]; omega) (fun b hb => ?_) fun out hl he => ?_
  · have := hdep b.2 (by rw [← e3]; exact List.mem_map.mpr ⟨b, hb, rfl⟩)
    omega
  · have hv : Vals (((xs.zip ds).mergeSort (PySem.W.dataLe false Prod.snd)).map (·.1)) out := by
      generalize (xs.zip ds).mergeSort (PySem.W.dataLe false Prod.snd) = zs at he
      clear hl
      induction he with
      | nil => exact .nil
      | cons r0 _ ih => exact .cons r0 ih
    obtain ⟨ep, he'⟩ := PyProof.Rows.sortedAll_at s.heap its out.toArray
    refine ⟨.ref _, upd H (s.heap.objs.size + 1) (.lst (((xs.zip ds).mergeSort (PySem.W.dataLe false Prod.snd)).map (·.1))), I.laid (t' := s.toks) (fun _ _ => PyProof.Rows.sortedAll_old) (Nat.le_succ _) ⟨?_, out, ep, hv, he'⟩, rfl, q _ _ (List.mergeSort_perm _ _) ?_ (I.hok.fresh (Nat.le_succ _))⟩
    · rw [hv.length, hl, List.length_zip]; omega
    · refine List.pairwise_map.mpr ((PySem.W.sort_pairwise (PySem.W.sortLe_total (PyProof.Rows.listOrd PyProof.Rows.itemOrd) false fun b : V × PyData => PySem.W.keyToks b.2) (xs.zip ds)).imp fun {a b} h => ?_)
      have h' : PySem.W.dataLe false (Prod.snd : V × PyData → PyData) a b = true := h
      rw [PySem.W.dataLe_eq] at h'
      have h2 : (!PySem.W.dataLt b.2 a.2) = true := h'
      cases e : PySem.W.dataLt b.2 a.2 with
      | false => rfl
      | true => rw [e] at h2; cases h2
theorem kcr_sortQ {X : Cx} {K : PySem.W.Frag} (h : X.K = K) (hu : X.A.units + 66 < cLine) : CallR X (.builtin "sorted") (rSortQ K) := h ▸ cr_sortQ hu
section
variable {K : PySem.W.Frag} {φ : Addr → Prop} {J : Hp → Prop} {ρ : List (Option D)} {ta tb te : TE} {x y d : D} {ds es : List D} {i j : Int} {ns ms : List Int}
theorem rep_tupI {H : Hp} {v : V} (h : Rep K φ H (.tup (ns.map D.int)) v) : ∃ a, v = .ref a ∧ SqT K H a (ns.map V.int) := by
  obtain ⟨a, vs, rfl, p, r⟩ := rep_tup h
  exact ⟨a, rfl, r.ints ▸ p.sq⟩
theorem ev_geT (ha : EvD K φ J ta ρ (.tup (ns.map D.int))) (hb : EvD K φ J tb ρ (.tup (ms.map D.int))) : EvD K φ J (tOp (rGeT K) ta tb) ρ (.bl (Ob.lexAt (fun j => decide (ns.getD j 0 = ms.getD j 0)) (fun j => decide (ms.getD j 0 ≤ ns.getD j 0)) (decide (ns.length ≥ ms.length)) 0 (min ns.length ms.length))) := ev_opD ha hb fun H v w _ r1 r2 Q q => by
  obtain ⟨a, rfl, h1⟩ := rep_tupI r1
  obtain ⟨b, rfl, h2⟩ := rep_tupI r2
  exact ⟨a, b, ns, ms, rfl, rfl, h1, h2, q _ _ H (Same.refl H) rfl rfl⟩
theorem lexAt2 (a b c d : Int) : Ob.lexAt (fun j => decide (([a, b] : List Int).getD j 0 = ([c, d] : List Int).getD j 0)) (fun j => decide (([c, d] : List Int).getD j 0 ≤ ([a, b] : List Int).getD j 0)) (decide (([a, b] : List Int).length ≥ ([c, d] : List Int).length)) 0 (min ([a, b] : List Int).length ([c, d] : List Int).length) = !SrtO.lexB (a, b) (c, d) := by
  have e : min ([a, b] : List Int).length ([c, d] : List Int).length = 2 := rfl
  rw [e, Ob.lexAt_succ]
  show (if decide (a = c) = true then _ else decide (c ≤ a)) = _
  by_cases h1 : a = c
  · rw [if_pos (decide_eq_true h1), Ob.lexAt_succ]
    show (if decide (b = d) = true then _ else decide (d ≤ b)) = _
    by_cases h2 : b = d
    · rw [if_pos (decide_eq_true h2), Ob.lexAt_zero]
      unfold SrtO.lexB
      rw [if_pos (show (a, b).1 = (c, d).1 from h1), decide_eq_false (show ¬ b < d by omega)]
      rfl
    · rw [if_neg (by simp [h2])]
      unfold SrtO.lexB
      rw [if_pos (show (a, b).1 = (c, d).1 from h1)]
      show decide (d ≤ b) = !decide (b < d)
      by_cases h3 : b < d
      · rw [decide_eq_true h3, decide_eq_false (by omega)]; rfl
      · rw [decide_eq_false h3, decide_eq_true (by omega)]; rfl
  · rw [if_neg (by simp [h1])]
    unfold SrtO.lexB
    rw [if_neg (show ¬ (a, b).1 = (c, d).1 from h1)]
    show decide (c ≤ a) = !decide (a < c)
    by_cases h3 : a < c
    · rw [decide_eq_true h3, decide_eq_false (by omega)]; rfl
    · rw [decide_eq_false h3, decide_eq_true (by omega)]; rfl
theorem ev_geP2 {p q : Int × Int} (ha : EvD K φ J ta ρ (prDD p)) (hb : EvD K φ J tb ρ (prDD q)) : EvD K φ J (tOp (rGeT K) ta tb) ρ (.bl (!SrtO.lexB p q)) := by
  rw [show (!SrtO.lexB p q) = _ from (lexAt2 p.1 p.2 q.1 q.2).symm]
  exact ev_geT (ns := [p.1, p.2]) (ms := [q.1, q.2]) ha hb
theorem en_catL (ha : EvD K φ J ta ρ (.lst ds)) (hb : EvD K φ J tb ρ (.lst es)) (hz : ds.length + es.length ≤ 1000000) : EvN K φ J (tOp (rCatL K) ta tb) ρ (fun x => x = ds ++ es) := fun σ H A Q q =>
  ha σ H A _ fun v x H1 b1 A1 e1 r1 => hb σ H1 A1 _ fun w y H2 b2 A2 e2 r2 => by
    subst e1 e2
    obtain ⟨a, vs, rfl, pa, ra⟩ := rep_lst (r1.mono b2)
    obtain ⟨b, ws, rfl, pb, rb⟩ := rep_lst r2
    refine ⟨a, b, vs, ws, rfl, rfl, pa.sq, pb.sq, by rw [ra.length, rb.length]; exact sz hz, fun p hp => ?_⟩
    exact q p _ _ H2 _ (b1.trans b2) A2 hp (But.of (same_new hp)) (A2.same (same_new hp)) rfl upd_same (reps_new hp (ra.append rb))
theorem ev_catL (ha : EvD K φ J ta ρ (.lst ds)) (hb : EvD K φ J tb ρ (.lst es)) (hz : ds.length + es.length ≤ 1000000) : EvD K φ J (tOp (rCatL K) ta tb) ρ (.lst (ds ++ es)) := ev_newD (en_catL ha hb hz)
/-- [..] * n -/
theorem ev_repL (ha : EvN K φ J ta ρ (fun x => x = ds)) (hb : EvD K φ J tb ρ (.int i)) (hi : -(2 ^ 63) ≤ i ∧ i < 2 ^ 63) (hz : ds.length * i.toNat ≤ 1000000) : EvN K φ J (tOp rRep ta tb) ρ (fun x => x = (List.replicate i.toNat ds).flatten) := fun σ H A Q q =>
  ha σ H A _ fun p vs ds' H0 H1 b0 A0 hp b1 A1 pd e1 r1 => hb σ H1 A1 _ fun w y H2 b2 A2 e2 r2 => by
    subst pd e2
    cases (show w = _ from r2)
    have e1' : H2 p = some (.lst vs) := b2.keep _ _ (A0.fr.new p hp) e1
    have r1' : Reps K φ H2 ds' vs := (Reps.up (fun a o q e => ⟨q.1, e⟩) ds' vs r1).mono b2
    refine ⟨p, i, vs, rfl, rfl, e1', hi.1, hi.2, by rw [r1'.length]; exact sz hz, fun p4 hp4 => ?_⟩
    exact q p4 _ _ H2 _ ((b0.trans b1).trans b2) A2 hp4 (But.of (same_new hp4)) (A2.same (same_new hp4)) rfl upd_same (reps_new hp4 (replicate_reps r1' _))
/-- list(range(a, b)) -/
theorem reps_rg {H : Hp} {a b : Int} : Reps K φ H (rangeD a (b - a).toNat) (rgV a b) := by
  unfold rangeD rgV
  generalize List.range (b - a).toNat = ks
  induction ks with
  | nil => exact Reps.nil
  | cons k ks ih => exact Reps.cons rfl ih
theorem en_listRg2 (ha : EvD K φ J ta ρ (.int i)) (hb : EvD K φ J tb ρ (.int j)) (hr : RgOk i j) : EvN K φ J (tLstRg (tRg2 ta tb)) ρ (fun x => x = rangeD i (j - i).toNat) := fun σ H A Q q =>
  ha σ H A _ fun v x H1 b1 A1 e1 r1 => hb σ H1 A1 _ fun w y H2 b2 A2 e2 r2 => by
    subst e1 e2
    exact ⟨i, j, r1, r2, hr, fun p hp => q p _ _ H2 _ (b1.trans b2) A2 hp (But.of (same_new hp)) (A2.same (same_new hp)) rfl upd_same (reps_new hp reps_rg)⟩
theorem ev_listRg2 (ha : EvD K φ J ta ρ (.int i)) (hb : EvD K φ J tb ρ (.int j)) (hr : RgOk i j) : EvD K φ J (tLstRg (tRg2 ta tb)) ρ (.lst (rangeD i (j - i).toNat)) := ev_newD (en_listRg2 ha hb hr)
theorem en_listRg1 (hb : EvD K φ J tb ρ (.int j)) (hr : RgOk 0 j) : EvN K φ J (tLstRg (tRg1 tb)) ρ (fun x => x = rangeD 0 (j - 0).toNat) := fun σ H A Q q =>
  hb σ H A _ fun w y H2 b2 A2 e2 r2 => by
    subst e2
    exact ⟨j, r2, hr, fun p hp => q p _ _ H2 _ b2 A2 hp (But.of (same_new hp)) (A2.same (same_new hp)) rfl upd_same (reps_new hp reps_rg)⟩
theorem ev_minT (ha : EvD K φ J te ρ (.tup (ns.map D.int))) (hn : 0 < ns.length) : EvI K φ J (tCB (rMinT K) (tCons te tNil)) ρ (fun m => m ∈ ns ∧ ∀ y ∈ ns, m ≤ y) := ev_cbD (ea_cons ha ea_nil) fun H vs f r Q q => by
  obtain ⟨v, rfl, r1⟩ := r.one
  obtain ⟨a, rfl, h⟩ := rep_tupI r1
  exact ⟨a, ns, rfl, h, hn, fun m h1 h2 => q _ _ H (Same.refl H) ⟨m, rfl, h1, h2⟩ rfl⟩
theorem ev_maxT (ha : EvD K φ J te ρ (.tup (ns.map D.int))) (hn : 0 < ns.length) : EvI K φ J (tCB (rMaxT K) (tCons te tNil)) ρ (fun m => m ∈ ns ∧ ∀ y ∈ ns, y ≤ m) := ev_cbD (ea_cons ha ea_nil) fun H vs f r Q q => by
  obtain ⟨v, rfl, r1⟩ := r.one
  obtain ⟨a, rfl, h⟩ := rep_tupI r1
  exact ⟨a, ns, rfl, h, hn, fun m h1 h2 => q _ _ H (Same.refl H) ⟨m, rfl, h1, h2⟩ rfl⟩
theorem toPys_map : ∀ ds : List D, toPys ds = ds.map toPy
  | [] => rfl
  | d :: ds => by show toPy d :: toPys ds = _; rw [toPys_map ds]; rfl
theorem zip_map2 {α β γ : Type} (f : β → γ) : ∀ (as : List α) (bs : List β), as.zip (bs.map f) = (as.zip bs).map fun z => (z.1, f z.2)
  | [], _ => rfl
  | _ :: _, [] => rfl
  | a :: as, b :: bs => by rw [List.map_cons, List.zip_cons_cons, List.zip_cons_cons, zip_map2 f as bs]; rfl
theorem reps_zip {H : Hp} {vs : List V} (r : Reps K φ H ds vs) : ∀ z ∈ vs.zip ds, Rep K φ H z.2 z.1 := by
  induction ds generalizing vs with
  | nil => intro z hz; simp at hz
  | cons d ds ih =>
    obtain ⟨v, r', rfl, h1, h2⟩ := (show ∃ v r, vs = v :: r ∧ Rep K φ H d v ∧ Reps K φ H ds r from r)
    intro z hz
    rw [List.zip_cons_cons] at hz
    rcases List.mem_cons.mp hz with rfl | hz
    · exact h1
    · exact ih h2 z hz
/-- each listed value stands for some tree of that data -/
theorem sort_back {H : Hp} {vs : List V} (r : Reps K φ H ds vs) : ∀ {zs : List (V × PyData)}, (∀ z ∈ zs, z ∈ vs.zip (ds.map toPy)) → ∃ es : List D, Reps K φ H es (zs.map (·.1)) ∧ es.map toPy = zs.map (·.2) ∧ ∀ e ∈ es, e ∈ ds
  | [], _ => ⟨[], Reps.nil, rfl, fun _ h => nomatch h⟩
  | z :: zs, h => by
    obtain ⟨es, h1, h2, h3⟩ := sort_back r (zs := zs) fun u hu => h u (List.mem_cons_of_mem _ hu)
    have hz := h z List.mem_cons_self
    rw [zip_map2] at hz
    obtain ⟨u, hu, e⟩ := List.mem_map.mp hz
    have hr := reps_zip r u hu
    subst e
    exact ⟨u.2 :: es, Reps.cons hr h1, by rw [List.map_cons, h2]; rfl, fun e he => by
      rcases List.mem_cons.mp he with rfl | he
      · exact (List.of_mem_zip hu).2
      · exact h3 e he⟩
theorem ev_sortQ (ha : EvD K φ J te ρ (.lst ds)) (hq : okq 64 (.lst ds) = true) (hal : PySem.W.AllAlike (ds.map toPy)) (hso : PySem.W.Sortable (ds.map toPy)) : EvP K φ J (tCB (rSortQ K) (tCons te tNil)) ρ (fun z => ∃ es : List D, z = .lst es ∧ (es.map toPy).Perm (ds.map toPy) ∧ (∀ e ∈ es, e ∈ ds) ∧ (es.map toPy).Pairwise (fun a b => PySem.W.dataLt b a = false)) := ev_cbD (ea_cons ha ea_nil) fun H vs f r Q q => by
  obtain ⟨v, rfl, r1⟩ := r.one
  obtain ⟨a, vs, rfl, p, rs⟩ := rep_lst r1
  have hl := rs.length
  have hd := dps_of ds vs 63 hq rs
  rw [toPys_map] at hd
  refine ⟨a, vs, ds.map toPy, rfl, p.sq, hd, hal, hso, fun d hd => ?_, fun zs p hp hs hn => ?_⟩
  · obtain ⟨e, he, rfl⟩ := List.mem_map.mp hd
    exact Nat.le_succ_of_le (okq_lay 63 e (List.all_eq_true.mp (show ds.all (okq 63) = true from hq) e he)).2
  · obtain ⟨es, h1, h2, h3⟩ := sort_back rs (zs := zs) fun z hz => hp.mem_iff.mp hz
    refine q _ (.lst es) _ (same_new hn) ⟨es, rfl, ?_, h3, by rw [h2]; exact hs⟩ ⟨p, _, rfl, .inl ⟨f.new p hn, .inl upd_same⟩, h1.mono (But.of (same_new hn))⟩
    rw [h2]
    have := hp.map Prod.snd
    rw [List.map_snd_zip (by rw [List.length_map]; omega)] at this
    exact this
end

-- import HandS.Iter
-- import KE.KDictDisplayH
/-! ### a tuple times 1; walks over dicts (locked meanwhile) -/
theorem tuple_mul1W (l : Addr) (items : Array Value) (n : Nat) (dd : Option Addr) (sl : Array (Option Value)) (u : Tok) :
    Meets (Builtin.«tuple.__mul__» ⟨[.ref l, .int 1 u], []⟩) (fun _ R s => s.heap.get? l = some { cls := .type "tuple", dict := dd, data := .seq items n, slots := sl } ∧ R (.ok (.ret (Value.ref l))) s) :=
  .of_wp fun prog w A R s h => by
    obtain ⟨hp, g, d, tk, os⟩ := s
    obtain ⟨hl, h⟩ := h
    have f1 := AutoSeq1.idx_int
    have c1 : (items.isEmpty || (1 : Int) == 1) = true := by simp
    wp_walk using wpAny_loadPart' hl
    repeat (first
      | (refine wpAny_ite_true (decide_eq_true (by rw [c1])) ?_; wp_walk using wpAny_loadPart' hl)
      | (refine wpAny_ite_false (by decide) ?_; wp_walk using wpAny_loadPart' hl))
    exact ⟨_, rfl, h⟩
def rRepT1 (K : PySem.W.Frag) : R2 := fun x y H Q => ∃ l k xs, x = .ref l ∧ y = .int k ∧ SqT K H l xs ∧ xs ≠ [] ∧ xs.length ≤ 1000 ∧ 1 ≤ k ∧ k ≤ 1000 ∧ (k = 1 → Q (.ref l) H) ∧ (2 ≤ k → ∀ p, H p = none → Q (.ref p) (upd H p (.tup (List.replicate k.toNat xs).flatten)))
theorem op_repT1 {X : Cx} : OpR X (binaryOp .Mult) (rRepT1 X.K) := by
  intro pins s σ H x y v u Q I rx ry h
  obtain ⟨l, k, xs, rfl, rfl, hT, hne, hz, h1, h2, q1, q2⟩ := h
  by_cases e : k = 1
  · subst e
    cases rx
    obtain ⟨t, rfl⟩ := ry
    obtain ⟨its, r, ⟨⟨cls, dd, data, sl⟩, ho, hc, n, hd⟩, hs⟩ := I.tuple hT
    simp only at hc hd
    subst hc hd
    exact wpAny_binaryOp_repeat_ref (T := "tuple") (U := "int") (by decide) ⟨_, ho, rfl⟩ (fun s' => typeIs_int s' 1 t) noFill_tuple_mul PySem.F.fills_int_mul PySem.F.slot_int_rmul repeat_tuple PySem.F.slot_int_index.lookup
      (call_meets PySem.F.slot_int_rmul (typeIs_int s 1 t) PySem.F.entry_int_rmul (PySem.F.args_int_rmul_2 _ _) (int_rmul_tuple 1 t l its.toArray n dd sl)
        ⟨ho, rfl, ⟨_, ho, rfl⟩, call_meets PySem.F.slot_tuple_mul ⟨_, ho, rfl⟩ PySem.F.entry_tuple_mul (PySem.F.args_tuple_mul_2 _ _) (tuple_mul1W l its.toArray n dd sl t) ⟨ho, .ref l, H, I, rfl, q1 rfl⟩⟩)
  · exact op_repT pins s σ H _ _ v u Q I rx ry ⟨l, k, xs, rfl, rfl, hT, hne, by omega, h2, hz, q2 (by omega)⟩
theorem kop_repT1 {X : Cx} {K : PySem.W.Frag} (h : X.K = K) : OpR X (binaryOp .Mult) (rRepT1 K) := h ▸ op_repT1
/-- what a tree may stand at -/
def TreeO (o : HO) : Prop := (∃ xs, o = .tup xs) ∨ (∃ xs, o = .lst xs) ∨ (∃ od xs, o = .frz od (.lst xs)) ∨ (∃ kvs, o = .dK kvs) ∨ ∃ kvs, o = .dT kvs
section
variable {K : PySem.W.Frag} {φ φ' : Addr → Prop} {H H' : Hp}
def UpW (φ φ' : Addr → Prop) (H H' : Hp) : Prop := ∀ a o, φ a → H a = some o → TreeO o → φ' a ∧ H' a = some o
mutual
theorem Rep.upW (k : UpW φ φ' H H') : ∀ (d : D) (v : V), Rep K φ H d v → Rep K φ' H' d v
  | .non, _, h => h
  | .bl _, _, h => h
  | .int _, _, h => h
  | .str _, _, h => h
  | .raw _, _, h => h
  | .dk ks ds, v, h => by
    obtain ⟨a, vs, e, ⟨p, e2, hl⟩, r⟩ := (show ∃ a vs, v = .ref a ∧ (φ a ∧ H a = some (.dK (ks.zip vs)) ∧ ks.length = ds.length) ∧ Reps K φ H ds vs from h)
    have z := k a _ p e2 (.inr (.inr (.inr (.inl ⟨_, rfl⟩))))
    exact ⟨a, vs, e, ⟨z.1, z.2, hl⟩, Reps.upW k ds vs r⟩
  | .dt ks ds, v, h => by
    obtain ⟨a, vs, e, ⟨p, e2, hl⟩, r⟩ := (show ∃ a vs, v = .ref a ∧ (φ a ∧ H a = some (.dT (ks.zip vs)) ∧ ks.length = ds.length) ∧ Reps K φ H ds vs from h)
    have z := k a _ p e2 (.inr (.inr (.inr (.inr ⟨_, rfl⟩))))
    exact ⟨a, vs, e, ⟨z.1, z.2, hl⟩, Reps.upW k ds vs r⟩
  | .tup ds, v, h => by
    obtain ⟨a, vs, e, p, r⟩ := (show ∃ a vs, v = .ref a ∧ PT K φ H a vs ∧ Reps K φ H ds vs from h)
    have z := k a _ p.at.1 p.at.2 (.inl ⟨_, rfl⟩)
    exact ⟨a, vs, e, .inl ⟨z.1, .inl z.2⟩, Reps.upW k ds vs r⟩
  | .lst ds, v, h => by
    obtain ⟨a, vs, e, p, r⟩ := (show ∃ a vs, v = .ref a ∧ PL K φ H a vs ∧ Reps K φ H ds vs from h)
    refine ⟨a, vs, e, p.elim (fun ⟨pa, rd⟩ => ?_) .inr, Reps.upW k ds vs r⟩
    rcases rd with rd | ⟨od, rd⟩
    · have z := k a _ pa rd (.inr (.inl ⟨_, rfl⟩))
      exact .inl ⟨z.1, .inl z.2⟩
    · have z := k a _ pa rd (.inr (.inr (.inl ⟨_, _, rfl⟩)))
      exact .inl ⟨z.1, .inr ⟨od, z.2⟩⟩
theorem Reps.upW (k : UpW φ φ' H H') : ∀ (ds : List D) (vs : List V), Reps K φ H ds vs → Reps K φ' H' ds vs
  | [], _, h => h
  | d :: ds, vs, h => by
    obtain ⟨v, r, e, h1, h2⟩ := (show ∃ v r, vs = v :: r ∧ Rep K φ H d v ∧ Reps K φ H ds r from h)
    exact ⟨v, r, e, Rep.upW k d v h1, Reps.upW k ds r h2⟩
end
end
section
variable {K : PySem.W.Frag} {φ : Addr → Prop} {J : Hp → Prop} {ρ : List (Option D)} {td ty : TE} {κ : Type} [DecidableEq κ] [DKind κ] {kds : List (κ × D)} {l : Addr} {d : D}
theorem ho_mut (kvs : List (κ × V)) (h : DKind.ho kvs = .dK [] ∨ True) : True := trivial
theorem frz_tree {od : Obj} {u : HO} (hu : ∀ xs, u ≠ .lst xs) : ¬ TreeO (.frz od u) := fun h => by
  rcases h with ⟨_, e⟩ | ⟨_, e⟩ | ⟨_, _, e⟩ | ⟨_, e⟩ | ⟨_, e⟩
  · cases e
  · cases e
  · injection e with _ e
    exact hu _ e
  · cases e
  · cases e
/-- a live dict is locked while it is walked -/
theorem ev_lockS {t : TE} {P : D → Prop} (L : LivDS K (wo φ l) J l kds) (hl : φ l) (hm : ∀ vs, Mut (some (DKind.ho ((kds.map (·.1)).zip vs)))) (hn : ∀ vs xs, DKind.ho ((kds.map (·.1)).zip vs) ≠ .lst xs)
    (h : ∀ (od : Obj) (vs : List V) (J1 : Hp → Prop), vs.length = kds.length → (∀ H, J1 H → H l = some (.frz od (DKind.ho ((kds.map (·.1)).zip vs))) ∧ Reps K (fun a => φ a ∧ ∀ H, J1 H → H a ≠ none) H (kds.map (·.2)) vs) → EvP K φ J1 t ρ P) : EvP K (wo φ l) J (tLockE t) ρ P := fun σ H A Q q => by
  obtain ⟨vs, H0, r0, n0, k0⟩ := L.ex
  have hd := (k0 H A.j).1
  generalize hu : DKind.ho ((kds.map (·.1)).zip vs) = u at hd
  refine ⟨l, u, hd, hu ▸ hm vs, fun od => ?_⟩
  have nlst : ∀ xs, u ≠ .lst xs := hu ▸ hn vs
  have A1 : At K φ (fun H2 => H2 l = some (.frz od u) ∧ J (L2.upd H2 l u)) ρ σ (L2.upd H l (.frz od u)) := by
    refine ⟨A.sr.up fun a o p e => ⟨p.1, by rw [upd_ne p.2]; exact e⟩, ⟨fun a ha => ?_, fun a xs ha => ?_⟩, ⟨upd_same, by rw [upd_upd hd]; exact A.j⟩, fun Ha Hb k j => ⟨k l _ (by rw [upd_same]; exact fun z => nomatch z) j.1, A.mono _ _ (fun a o ha e => ?_) j.2⟩⟩
    · by_cases e : a = l
      · rw [e]; exact hl
      · rw [upd_ne e] at ha; exact (A.fr.new a ha).1
    · by_cases e : a = l
      · rw [e]; exact hl
      · rw [upd_ne e] at ha; exact (A.fr.tup a xs ha).1
    · by_cases ea : a = l
      · rw [ea, upd_same] at e ⊢; exact e
      · rw [upd_ne ea] at e ⊢
        exact k a o (upd_tr a ha) e
  refine h od vs _ (by rw [r0.length, List.length_map]) (fun H2 j => ⟨hu ▸ j.1, ?_⟩) σ _ A1 _ fun v x H2 b2 A2 px r2 => ⟨A2.j.1, ?_⟩
  · have b := (k0 _ j.2).2
    exact Reps.up (fun a o p e => ⟨⟨p.1, fun H3 j3 => by
      have z := (k0 _ j3.2).2.keep a o p e
      rw [upd_ne p.2] at z
      rw [z]
      exact fun z => nomatch z⟩, by
      have z := b.keep a o p e
      rw [upd_ne p.2] at z
      exact z⟩) _ vs r0
  · have el := A2.j.1
    have ub : But (wo φ l) H (L2.upd H2 l u) := ⟨fun a o p e => by
      rw [upd_ne p.2]
      exact b2.keep a o p.1 (by rw [upd_ne p.2]; exact e), fun a ha => upd_tr a (b2.tr a (upd_tr a ha))⟩
    refine q v x (L2.upd H2 l u) ub ⟨A.sr.up (Up.of ub), ?_, A2.j.2, A.mono.up ub.tr⟩ px (Rep.upW (fun a o p e ht => ?_) x v r2)
    · refine A2.fr.updW fun xs e => ?_
      rw [← hu] at e
      exact DKind.nt _ xs e
    · have na : a ≠ l := fun z => by
        subst z
        rw [el] at e
        cases e
        exact frz_tree nlst ht
      exact ⟨⟨p, na⟩, by rw [upd_ne na]; exact e⟩
/-- .. a dict left as it is: what else the slots hold is forgotten meanwhile -/
theorem ev_lockD {k n : Nat} {t : TE} {P : D → Prop} (hn0 : ρ.length = n) (hk : ρ[k]? = some (some (dictD kds))) (hm : ∀ vs, Mut (some (DKind.ho ((kds.map (·.1)).zip vs)))) (hn : ∀ vs xs, DKind.ho ((kds.map (·.1)).zip vs) ≠ .lst xs)
    (h : ∀ (l : Addr) (od : Obj) (vs : List V) (J1 : Hp → Prop), vs.length = kds.length → φ l → (∀ H, J1 H → H l = some (.frz od (DKind.ho ((kds.map (·.1)).zip vs)))) → EvP K φ J1 t ((List.replicate n none).set k (some (.raw (.ref l)))) P) : EvP K φ J (tLockE t) ρ P := fun σ H A Q q => by
  obtain ⟨v0, ev0, rv0⟩ := A.sr.2 k _ hk
  obtain ⟨l, vs, rfl, ⟨hl, hd, _⟩, rs⟩ := DKind.rep.mp rv0
  have hlen : vs.length = kds.length := by rw [rs.length, List.length_map]
  generalize hu : DKind.ho ((kds.map (·.1)).zip vs) = u at hd
  refine ⟨l, u, hd, hu ▸ hm vs, fun od => ?_⟩
  have nlst : ∀ xs, u ≠ .lst xs := hu ▸ hn vs
  have A1 : At K φ (fun H2 => H2 l = some (.frz od u) ∧ J (L2.upd H2 l u)) ((List.replicate n none).set k (some (.raw (.ref l)))) σ (L2.upd H l (.frz od u)) := by
    refine ⟨⟨by rw [List.length_set, List.length_replicate, A.sr.1, hn0], fun i x hi => ?_⟩, A.fr.upd (fun _ h => nomatch h), ⟨upd_same, by rw [upd_upd hd]; exact A.j⟩, fun Ha Hb k j => ⟨k l _ (by rw [upd_same]; exact fun z => nomatch z) j.1, A.mono _ _ (fun a o ha e => ?_) j.2⟩⟩
    · by_cases e : k = i
      · subst e
        have hlt : k < n := by rw [← hn0]; exact (List.getElem?_eq_some_iff.mp hk).1
        rw [List.getElem?_set_self (by rw [List.length_replicate]; exact hlt)] at hi
        cases hi
        exact ⟨_, ev0, rfl⟩
      · rw [List.getElem?_set_ne e, List.getElem?_replicate] at hi
        split at hi <;> cases hi
    · by_cases ea : a = l
      · rw [ea, upd_same] at e ⊢; exact e
      · rw [upd_ne ea] at e ⊢
        exact k a o (upd_tr a ha) e
  refine h l od vs _ hlen hl (fun H2 j => hu ▸ j.1) σ _ A1 _ fun v x H2 b2 A2 px r2 => ⟨A2.j.1, ?_⟩
  have el := A2.j.1
  have ub : But φ H (L2.upd H2 l u) := ⟨fun a o p e => by
    by_cases ea : a = l
    · rw [ea] at e ⊢
      rw [hd] at e
      rw [upd_same]; exact e
    · rw [upd_ne ea]
      exact b2.keep a o p (by rw [upd_ne ea]; exact e), fun a ha => upd_tr a (b2.tr a (upd_tr a ha))⟩
  refine q v x (L2.upd H2 l u) ub ⟨A.sr.up (Up.of ub), A2.fr.upd (fun xs e => ?_), A2.j.2, A.mono.up ub.tr⟩ px (Rep.upW (fun a o p e ht => ?_) x v r2)
  · rw [← hu] at e
    exact DKind.nt _ xs e
  · have na : a ≠ l := fun z => by
      subst z
      rw [el] at e
      cases e
      exact frz_tree nlst ht
    exact ⟨p, by rw [upd_ne na]; exact e⟩
theorem reps_keys {H : Hp} : ∀ ks : List Key, Reps K φ H (ks.map keyD) (ks.map kV)
  | [] => Reps.nil
  | k :: ks => Reps.cons (by cases k <;> rfl) (reps_keys ks)
/-- the keys of a locked dict -/
theorem it_keysT {od : Obj} {kvs : List (List Key × V)} (h : EvD K φ J td ρ (.raw (.ref l))) (hl : φ l) (hJ : ∀ H, J H → H l = some (.frz od (.dT kvs))) : IterD K φ J (iKeys td) ρ (kvs.map fun kv => .tup (kv.1.map keyD)) := fun σ H A R q => h σ H A _ fun v x H1 b1 A1 e r => by
  subst e
  cases (show v = _ from r)
  refine ⟨l, od, rfl, .inr ⟨kvs, hJ _ A1.j, q _ _ H1 b1 A1 rfl fun φ' i H2 u f => ?_⟩⟩
  have e2 := (u l _ hl (hJ _ A1.j)).2
  refine ⟨fun x hx => ?_, fun hi => ⟨e2, by rw [hi, List.length_map]; exact Nat.le_refl _⟩⟩
  rw [List.getElem?_map] at hx
  obtain ⟨kv, hkv, rfl⟩ := Option.map_eq_some_iff.mp hx
  refine ⟨⟨e2, (List.getElem?_eq_some_iff.mp hkv).1⟩, fun y H3 hy => ?_⟩
  obtain ⟨rfl, k, w, a, hk, rfl, ha⟩ := hy
  rw [hkv] at hk
  cases hk
  exact ⟨Same.refl _, a, _, rfl, .inl ⟨f.tup a _ ha, .inl ha⟩, reps_keys _⟩
theorem it_keysK {od : Obj} {kvs : List (Key × V)} (h : EvD K φ J td ρ (.raw (.ref l))) (hl : φ l) (hJ : ∀ H, J H → H l = some (.frz od (.dK kvs))) : IterD K φ J (iKeys td) ρ (kvs.map fun kv => keyD kv.1) := fun σ H A R q => h σ H A _ fun v x H1 b1 A1 e r => by
  subst e
  cases (show v = _ from r)
  refine ⟨l, od, rfl, .inl ⟨kvs, hJ _ A1.j, q _ _ H1 b1 A1 rfl fun φ' i H2 u f => ?_⟩⟩
  have e2 := (u l _ hl (hJ _ A1.j)).2
  refine ⟨fun x hx => ?_, fun hi => ⟨e2, by rw [hi, List.length_map]; exact Nat.le_refl _⟩⟩
  rw [List.getElem?_map] at hx
  obtain ⟨kv, hkv, rfl⟩ := Option.map_eq_some_iff.mp hx
  refine ⟨⟨e2, (List.getElem?_eq_some_iff.mp hkv).1⟩, fun y H3 hy => ?_⟩
  obtain ⟨rfl, k, w, hk, rfl⟩ := hy
  rw [hkv] at hk
  cases hk
  exact ⟨Same.refl _, by cases k <;> rfl⟩
/-- d[k] while d is locked -/
theorem ev_dgetF {od : Obj} {kds : List (Key × D)} {vs : List V} {k : Key} (hd : EvD K φ J td ρ (.raw (.ref l))) (hJ : ∀ H, J H → H l = some (.frz od (.dK ((kds.map (·.1)).zip vs))) ∧ Reps K φ H (kds.map (·.2)) vs) (hy : EvD K φ J ty ρ (keyD k)) (e : valD kds k = some d) : EvD K φ J (tDGet td ty) ρ d := fun σ H A Q q =>
  hd σ H A _ fun a x H1 b1 A1 ex rx => hy σ H1 A1 _ fun y d' H2 b2 A2 e2 r2 => by
    subst ex e2
    cases (show a = _ from rx)
    obtain ⟨ea, rs⟩ := hJ H2 A2.j
    rcases zip_val rs k with ⟨e1, _⟩ | ⟨d1, v1, e1, ev, r1⟩
    · rw [e] at e1; cases e1
    · rw [e] at e1
      cases e1
      refine ⟨l, v1, rfl, ?_, q v1 _ H2 (b1.trans b2) A2 rfl r1⟩
      rw [← ev, keyD_v r2]
      exact .inl ⟨_, k, .inr ⟨od, ea⟩, rfl, rfl⟩
/-- t * n, n at least 1 -/
theorem ev_repT1 {ta tb : TE} {ds : List D} {i : Int} (ha : EvD K φ J ta ρ (.tup ds)) (hb : EvD K φ J tb ρ (.int i)) (hne : ds ≠ []) (h1 : 1 ≤ i) (h3 : i ≤ 1000) (hz : ds.length ≤ 1000) : EvD K φ J (tOp (rRepT1 K) ta tb) ρ (.tup (List.replicate i.toNat ds).flatten) :=
  ev_opD ha hb fun H v w fr r1 r2 Q q => by
    obtain ⟨a, vs, rfl, p, rs⟩ := rep_tup r1
    cases (show w = _ from r2)
    refine ⟨a, i, vs, rfl, rfl, p.sq, fun z => hne (List.eq_nil_of_length_eq_zero (by rw [← rs.length, z]; rfl)), by rw [rs.length]; exact hz, h1, h3, fun e => ?_, fun h2 l hl => q _ _ _ (same_new hl) rfl ⟨l, _, rfl, .inl ⟨fr l hl, .inl upd_same⟩, ?_⟩⟩
    · subst e
      refine q _ _ H (Same.refl H) rfl ⟨a, vs, rfl, p, ?_⟩
      show Reps K φ H (List.replicate 1 ds).flatten vs
      rw [List.replicate_succ, List.replicate_zero, List.flatten_cons, List.flatten_nil, List.append_nil]
      exact rs
    · exact (replicate_reps rs _).mono (But.of (same_new hl))
end
/-! ### {t: v}, t a tuple of ints and texts -/
def tDispT1 (tk tv : TE) : TE := fun σ H Q => ∀ p, H p = none → tk σ (upd H p (.dT [])) fun x H1 => tv σ H1 fun y H2 => H2 p = some (.dT []) ∧ ∃ (k : List Key) (b : Addr), x = .ref b ∧ H2 b = some (.tup (k.map kV)) ∧ Q (.ref p) (upd H2 p (.dT [(k, y)]))
theorem pe_dispT1 {X : Cx} {pos : Pos} {ke ve : Expr} {tk tv : TE} (hu : X.A.units + 1 < cLine) (h : PPs X pos [some ke] [ve] [(tk, tv)]) : PE X (.Dict [some ke] [ve] pos) (tDispT1 tk tv) := by
  refine ⟨fun pins s σ H Q I q => ?_⟩
  have hn := I.hok.fresh (Nat.le_refl s.heap.objs.size)
  have I1 := I.laid (a := s.heap.objs.size) (o := .dT []) (h' := s.heap.push { cls := .type "dict", data := .dict #[] }) (t' := s.toks) (fun _ _ q => Heap.get?_push_of_some _ q) (Nat.le_refl _) (dt_empty s.heap I.big)
  have q' := q _ hn
  rw [arm_eval_Dict, zip_pairTrees [some ke] [ve] X.env pos rfl rfl, dictDisplay_pairs (pairTrees [some ke] [ve] X.env pos) (by intro z; cases z) (Nat.le_of_ble_eq_true rfl)]
  refine wpAny_bind (wpAny_standAt (wpAny_bind (wpAny_subDictH (knd := tupleKind (mixKind X.prog X.w)) (Q := fun d s' => wpAny (model X.prog X.w) X.A (pure (Value.ref d)) (EP X pins σ Q) X.xe s') (show X.A.units < cLine by omega) (Nat.le_of_ble_eq_true rfl) ?_)))
  refine thn (h.run pins _ σ _ (fun ps H2 => match ps with
    | [(x, y)] => H2 s.heap.objs.size = some (.dT []) ∧ ∃ (k : List Key) (b : Addr), x = .ref b ∧ H2 b = some (.tup (k.map kV)) ∧ Q (.ref s.heap.objs.size) (upd H2 s.heap.objs.size (.dT [(k, y)]))
    | _ => False) I1 q') fun ws s2 ⟨ps, H2, I2, rel, q2⟩ => ?_
  obtain ⟨x, y, rfl⟩ : ∃ x y, ps = [(x, y)] := by
    cases ps with
    | nil => exact q2.elim
    | cons p r =>
      cases r with
      | nil => exact ⟨p.1, p.2, rfl⟩
      | cons _ _ => exact q2.elim
  obtain ⟨e, k, b, rfl, eb, q3⟩ := q2
  cases rel with
  | @cons a b1 as bs hp t =>
    cases t
    obtain ⟨b2, b3⟩ := hp
    have exw : b1.1 = .ref b := b2
    obtain ⟨z, hd, xs0, r0, dd⟩ := dt_of I2.hok e
    cases r0
    refine ⟨[(k, b, b1.2)], ⟨exw, rfl, key_of I2.hok eb, trivial⟩, dd, fun h' tk dd' hs => wpAny_pure ⟨.ref s.heap.objs.size, _, ?_, rfl, q3⟩⟩
    obtain ⟨o, es, ep, hq, h2, h3, h4, _, h5⟩ := dd'
    refine d_write I2 (by rw [e]; exact True.intro) hs ⟨o, hq⟩ ⟨by show 1 ≤ sizeLine; decide, hd, _, (.cons ⟨rfl, ?_, b3⟩ .nil : KT (upd H2 s.heap.objs.size (.dT [(k, y)])) [(k, y)] [(k, b, b1.2)]), o, es, ep, hq, h2, h3, h4, h5⟩
    show upd H2 s.heap.objs.size _ b = _
    rw [upd_ne (fun z => by rw [z, e] at eb; cases eb)]
    exact eb
section
variable {K : PySem.W.Frag} {φ : Addr → Prop} {J : Hp → Prop} {ρ : List (Option D)} {tk tv : TE}
theorem en_dispT1 {k : List Key} {d : D} (hk : ∀ J' φ', Ext φ J φ' J' → EvD K φ' J' tk ρ (.tup (k.map keyD))) (hv : ∀ J' φ', Ext φ J φ' J' → EvD K φ' J' tv ρ d) : EvNO K φ J (tDispT1 tk tv) ρ (fun ds C => ds = ([(k, d)].map (·.2)) ∧ C = fun vs => HO.dT (([(k, d)].map (·.1)).zip vs)) := fun σ H A Q q p hp => by
  have ext : Ext φ J (wo φ p) (fun H => J H ∧ H p = some (.dT [])) := ⟨fun _ h => h.1, fun p' s ns hq => ⟨fun z => hq.np z.1, hq.ne, fun H h => hq.ok H h.1, fun H' H'' h k o => ⟨hq.st H' H'' h.1 k o, k _ _ (by
    obtain ⟨_, _, _, _, h1, _⟩ := hq.ok _ A.j
    exact (ne_of_none h1 hp).symm) h.2⟩⟩, fun a p' h => ⟨p', fun e => h H A.j (by rw [e]; exact hp)⟩⟩
  have A1 : At K (wo φ p) (fun H => J H ∧ H p = some (.dT [])) ρ σ (upd H p (.dT [])) := A.newLive hp ⟨A.mono _ _ (fun a o _ e => same_new hp a o e) A.j, upd_same⟩ ((A.mono.up upd_tr).and (Mo.at (by rw [upd_same]; exact fun z => nomatch z)))
  refine hk _ _ ext σ _ A1 _ fun v1 d1 H2 b2 A2 e1 r1 => hv _ _ ext σ H2 A2 _ fun v2 d2 H3 b3 A3 e2 r2 => ?_
  subst e1 e2
  obtain ⟨b, vs, rfl, pb, rs⟩ := rep_tup (r1.mono b3)
  rw [keysD_v rs] at pb
  refine ⟨A3.j.2, k, b, rfl, pb.at.2, ?_⟩
  have np : ¬ wo φ p p := fun z => z.2 rfl
  have bb : But φ H (upd H3 p (.dT [(k, v2)])) := ⟨fun a o pa e => by
    have ne := ne_of_none e hp
    rw [upd_ne ne]
    exact b3.keep a o ⟨pa, ne⟩ (b2.keep a o ⟨pa, ne⟩ (by rw [upd_ne ne]; exact e)), fun a h => upd_tr a (b3.tr a (b2.tr a (upd_tr a h)))⟩
  have jj : J (upd H3 p (.dT [(k, v2)])) := A.mono H3 _ (fun a o h e => by
    rw [upd_ne (show a ≠ p from fun z => h (by rw [z]; exact hp))]
    exact e) A3.j.1
  exact q p [v2] [d2] _ H _ (But.refl _ _) A hp bb ⟨A.sr.up (Up.of bb), A3.fr.fst.upd (fun _ h => nomatch h), jj, A.mono.up bb.tr⟩ ⟨rfl, rfl⟩ (fun _ h => nomatch h) upd_same (Reps.cons (r2.mono ((But.refl _ H3).upd np)) Reps.nil)
end
/-! ### sorted, the trees told themselves -/
theorem perm_lift {α β : Type} (f : α → β) : ∀ {l k : List β}, l.Perm k → ∀ {m : List α}, k = m.map f → ∃ m' : List α, m'.Perm m ∧ l = m'.map f := by
  intro l k p
  induction p with
  | nil => intro m e; exact ⟨m, List.Perm.refl _, e⟩
  | cons x _ ih =>
    intro m e
    cases m with
    | nil => cases e
    | cons a m =>
      obtain ⟨e1, e2⟩ := List.cons.inj e
      obtain ⟨m', p', e'⟩ := ih e2
      exact ⟨a :: m', p'.cons a, by rw [List.map_cons, ← e', e1]⟩
  | swap x y t =>
    intro m e
    cases m with
    | nil => cases e
    | cons a m =>
      cases m with
      | nil => have := (List.cons.inj e).2; cases this
      | cons b m =>
        obtain ⟨e1, e2⟩ := List.cons.inj e
        obtain ⟨e3, e4⟩ := List.cons.inj e2
        exact ⟨b :: a :: m, List.Perm.swap a b m, by rw [List.map_cons, List.map_cons, e1, e3, e4]⟩
  | trans _ _ ih1 ih2 =>
    intro m e
    obtain ⟨m2, p2, e2⟩ := ih2 e
    obtain ⟨m1, p1, e1⟩ := ih1 e2
    exact ⟨m1, p1.trans p2, e1⟩
theorem perm_uniq {α : Type} {R : α → α → Prop} (anti : ∀ a b, R a b → R b a → a = b) : ∀ {a b : List α}, a.Pairwise R → b.Pairwise R → a.Perm b → a = b
  | [], b, _, _, h => (List.Perm.eq_nil h.symm).symm
  | x :: a, [], _, _, h => absurd h.length_eq (by simp)
  | x :: a, y :: b, ha, hb, h => by
    have e : x = y := by
      rcases List.mem_cons.mp (h.mem_iff.mp (List.mem_cons_self (a := x) (l := a))) with e | hx
      · exact e
      · rcases List.mem_cons.mp (h.mem_iff.mpr (List.mem_cons_self (a := y) (l := b))) with e | hy
        · exact e.symm
        · exact anti x y ((List.pairwise_cons.mp ha).1 y hy) ((List.pairwise_cons.mp hb).1 x hx)
    subst e
    rw [perm_uniq anti (List.pairwise_cons.mp ha).2 (List.pairwise_cons.mp hb).2 h.cons_inv]
theorem dataLt_anti {x y : PyData} (ha : PySem.W.alike x y = true) (h1 : PySem.W.dataLt x y = false) (h2 : PySem.W.dataLt y x = false) : PyData.eqv x y = true := by
  have e : PySem.W.keyToks x = PySem.W.keyToks y := PyProof.Rows.lex_total _ _ h1 h2
  cases h : PyData.eqv x y with
  | true => rfl
  | false =>
    have z := (PySem.W.toks_eqv x y ha).2 h [] [.inl 0]
    have z2 := (PySem.W.toks_eqv x y ha).2 h [] []
    rw [e] at z z2
    have z3 : PyProof.Rows.lexLt PyProof.Rows.itemOrd (PySem.W.keyToks y ++ []) (PySem.W.keyToks y ++ [.inl 0]) = true := by
      rw [PySem.W.lex_pre]; rfl
    have z4 : PyProof.Rows.lexLt PyProof.Rows.itemOrd (PySem.W.keyToks y ++ []) (PySem.W.keyToks y ++ []) = false := by
      rw [PySem.W.lex_pre]; rfl
    rw [z3] at z
    rw [z4] at z2
    rw [← z2] at z
    cases z
section
variable {K : PySem.W.Frag} {φ : Addr → Prop} {J : Hp → Prop} {ρ : List (Option D)} {te : TE} {ds : List D}
theorem ev_sortQP (ha : EvD K φ J te ρ (.lst ds)) (hq : okq 64 (.lst ds) = true) (hal : PySem.W.AllAlike (ds.map toPy)) (hso : PySem.W.Sortable (ds.map toPy)) : EvP K φ J (tCB (rSortQ K) (tCons te tNil)) ρ (fun z => ∃ es : List D, z = .lst es ∧ es.Perm ds ∧ es.Pairwise (fun a b => PySem.W.dataLt (toPy b) (toPy a) = false)) := ev_cbD (ea_cons ha ea_nil) fun H vs f r Q q => by
  obtain ⟨v, rfl, r1⟩ := r.one
  obtain ⟨a, vs, rfl, p, rs⟩ := rep_lst r1
  have hl := rs.length
  have hd := dps_of ds vs 63 hq rs
  rw [toPys_map] at hd
  refine ⟨a, vs, ds.map toPy, rfl, p.sq, hd, hal, hso, fun d hd => ?_, fun zs p hp hs hn => ?_⟩
  · obtain ⟨e, he, rfl⟩ := List.mem_map.mp hd
    exact Nat.le_succ_of_le (okq_lay 63 e (List.all_eq_true.mp (show ds.all (okq 63) = true from hq) e he)).2
  · rw [zip_map2] at hp
    obtain ⟨us, hu, rfl⟩ := perm_lift (fun z : V × D => (z.1, toPy z.2)) hp rfl
    have hr : Reps K φ H (us.map (·.2)) (us.map (·.1)) := by
      have hall : ∀ z ∈ us, Rep K φ H z.2 z.1 := fun z hz => reps_zip rs z (hu.mem_iff.mp hz)
      clear hu hp hs
      induction us with
      | nil => exact Reps.nil
      | cons z us ih => exact Reps.cons (hall z List.mem_cons_self) (ih fun u hu => hall u (List.mem_cons_of_mem _ hu))
    rw [List.map_map] at hs ⊢
    refine q _ (.lst (us.map (·.2))) _ (same_new hn) ⟨us.map (·.2), rfl, ?_, ?_⟩ ⟨p, _, rfl, .inl ⟨f.new p hn, .inl upd_same⟩, hr.mono (But.of (same_new hn))⟩
    · have := hu.map Prod.snd
      rw [List.map_snd_zip (by omega)] at this
      exact this
    · rw [List.pairwise_map] at hs ⊢
      exact hs
end

-- import HandS.Comp
-- import HandS.Exc
-- import HandS.ExcOwn
/-! ### an exception that leaves a list comprehension -/
/-- an exception in the air of X, the frame L told -/
def XEL (X : Cx) (L : Addr) (W : WX) (u : Value) (s' : Shared) : Prop :=
  ∃ (a : Addr) (B : Heap) (sI : Shared) (pins : List (Addr × Obj)) (σ : L2.St) (H : Hp) (cls : Value) (d : Option Addr),
    u = .ref a ∧ Inv X pins σ H sI ∧ (∀ b o, sI.heap.get? b = some o → b ∉ frs X.stack → B.get? b = some o) ∧ sI.heap.UpToSlots s'.heap ∧
      Sky B X.stack a (Zc cls d) L s'.heap ∧ H a = none ∧ s'.os = sI.os ∧ AllBare s'.gens ∧ W cls d σ H
/-- what X wants of exceptions takes those that leave its frame L -/
structure TakesL (X : Cx) (L : Addr) (W : WX) : Prop where
  tk : ∀ u s', XEL X L W u s' → X.xe u s'
  st : ∃ e0 outer, X.stack = e0 :: outer ∧ e0.frame = some L
  fr : X.env.frame = some L
theorem takesL {X : Cx} {W : WX} (tk : Takes X W) (hs : X.stack = X.env :: X.outer) (hf : X.env.frame = some X.env.locals) : TakesL X X.env.locals W := ⟨tk, ⟨_, _, hs, hf⟩, hf⟩
section
variable {X : Cx} {pins : List (Addr × Obj)} {σ : L2.St} {H : Hp} {sI s s' : Shared} {B : Heap} {W : WX} {E : XK} {L : Addr}
theorem XEL.of_call (I : Inv X pins σ H s) (hW : ∀ cls d H', E cls d H' → W cls d σ H') {u : Value} (c : L2.CX X.prog X.w X.stack H s E u s') : XEL X L W u s' := by
  obtain ⟨a, B, H', cls, d, rfl, fl, hok, ub, na, os, ag, hE⟩ := c
  obtain ⟨G, g1, g2⟩ := restrict s'.heap fun b => (B.get? b).isSome || decide (b ∈ frs X.stack)
  have st : B.StaysIn s'.heap := fl.1
  have gB : ∀ b o, B.get? b = some o → G.get? b = some o := fun b o e => by
    rw [g1 b (by simp [e])]
    exact st b o e
  have gF : ∀ b, b ∈ frs X.stack → G.get? b = s'.heap.get? b := fun b hb => g1 b (by simp [hb])
  have og : ∀ b o, G.get? b = some o → s'.heap.get? b = some o ∧ ((B.get? b).isSome = true ∨ b ∈ frs X.stack) := fun b o e => by
    cases q : ((B.get? b).isSome || decide (b ∈ frs X.stack)) with
    | false => rw [g2 b q] at e; cases e
    | true =>
      rw [g1 b q] at e
      exact ⟨e, by simpa [Bool.or_eq_true] using q⟩
  refine ⟨a, B, { s with heap := G, gens := s'.gens, drawn := s'.drawn, toks := s'.toks }, pins, σ, H', cls, d, rfl, ?_, fun b o e hb => ?_, Heap.UpToSlots.of_keeps fun b o e => (og b o e).1, .inr (.inl fl), na, os, ag, hW _ _ _ hE⟩
  · refine I.call (ch := []) ⟨fun b o e n hb _ => gB b o (ub.keep b o e n hb), fun b o e n hb _ => ?_, fun b o e n _ => ub.free b o e n, fun b o e _ => ?_, ub.tups, ub.frzs, ub.tbls⟩ (hok.kept gB) ag (fun _ z => nomatch z)
    · obtain ⟨sl, q⟩ := ub.slot b o e hb
      exact ⟨sl, by rw [gF b hb]; exact q⟩
    · by_cases hb : b ∈ frs X.stack
      · obtain ⟨sl, q⟩ := ub.slot b o e hb
        exact ⟨_, by rw [gF b hb]; exact q⟩
      · obtain ⟨o', q⟩ := ub.there b o e hb
        exact ⟨o', gB b o' q⟩
  · obtain ⟨e', h⟩ := og b o e
    rcases h with h | h
    · obtain ⟨o', q⟩ := Option.isSome_iff_exists.mp h
      have z := st b o' q
      rw [e'] at z; cases z
      exact q
    · exact absurd h hb
theorem passAtL {X : Cx} {W : WX} {L : Addr} (tk : TakesL X L W) (σ : L2.St) : PassesAt (L2.CX X.prog X.w) X σ (WE W σ) := fun _ _ _ e s' I c => tk.tk e s' (XEL.of_call I (fun _ _ _ h => h) c)
/-- noting asks for the frame alone -/
theorem note_congr {e : Value} {env env' : Env} (h : env.frame = env'.frame) : noteFrame e env = noteFrame e env' := by
  unfold noteFrame PySem.frameOf
  rw [h]
theorem funFrames_but {B B2 h h2 : Heap} {C : Addr} (k : ∀ b, b ≠ C → h2.get? b = h.get? b) (hB : ∀ b, B.get? b = none → B2.get? b = none) : ∀ {l : List Env}, h.FunFrames B l → C ∉ frs l → h2.FunFrames B2 l
  | [], _, _ => trivial
  | env :: l, ⟨hk, ⟨L, o, hf, hn, ho, hd⟩, hr⟩, hC => by
    have hL : L ∈ frs (env :: l) := List.mem_filterMap.mpr ⟨env, List.mem_cons_self, hf⟩
    refine ⟨hk, ⟨L, o, hf, hB _ hn, ?_, hd⟩, funFrames_but k hB hr fun z => hC ?_⟩
    · rw [k L fun z => hC (z ▸ hL)]
      exact ho
    · obtain ⟨e, he, q⟩ := List.mem_filterMap.mp z
      exact List.mem_filterMap.mpr ⟨e, List.mem_cons_of_mem _ he, q⟩
/-- Sky, noted by the frame -/
theorem Sky.note {M : Model} {A : Around} {E₁ : Value → Shared → Prop} {env : Env} {outer : List Env} {L a : Addr} {Z : Obj → Prop} {Q : Unit → Shared → Prop} (hZ : HandSPX.Steady Z) (hfr : A.frames = some (env :: outer)) (hf : env.frame = some L)
    (x : Sky B (env :: outer) a Z L s.heap) (hQ : ∀ h', HandSPX.HeldZ B (env :: outer) a Z L h' → s.heap.UpToSlots h' → Q () { s with heap := h' }) : wpAny M A (noteFrame (.ref a) env) Q E₁ s := by
  rcases x with ⟨hB, hn, hl, oe, vs, he, hz, hd, h1⟩ | fl | hh
  · exact HandSPX.look_newZ hZ hfr hl hf he hB hn hd h1 hz hQ
  · exact HandSPX.looks_onZ hZ hfr hf fl hQ
  · exact HandSPX.againZ hf hh.2.2.2 (hQ s.heap hh (Heap.UpToSlots.refl _))
end
/-- as compPost, the frame of the block told -/
def compPostF (M : Model) (A : Around) (E : Value → Shared → Prop) (use : Option (Value → Sem Unit)) (Q : Value → Shared → Prop) (acc : Value) (C : Addr) (F : Option Addr) (r : Result) (s' : Shared) : Prop :=
  match r with
  | .ok f => compPost M A E use Q acc C (.ok f) s'
  | .error x => ∃ m, s'.heap.Ns C m ∧ ∀ h', Heap.SameBut C s'.heap h' → ∀ cenv : Env, cenv.locals = C → cenv.frame = F → wpAny M A (passOn "comprehension.variables-let-go" x cenv : Sem Value) (fun _ _ => False) E { s' with heap := h' }
/-- the library's wpAny_comprehension_free, an exception allowed -/
theorem comp_freeF {M : Model} {A : Around} {E : Value → Shared → Prop} {s : Shared} {env : Env} {e : Expr} {scope : Scope} {pos : Pos} {newAcc first : Sem Value} {g : Comprehension} {gs : List Comprehension} {cl : List (Str × Addr)} {use : Option (Value → Sem Unit)}
    {Q : Value → Shared → Prop}
    (hcl : clausesOf e = g :: gs) (hs : ∀ x, foldedSetIterable g.iter env x = pure x) (hclos : closureFor scope env = pure cl)
    (hkind : scope.kind = .function) (hnames : ∀ x ∈ scope.names, x.2 = .local → scope.names.lookup x.1 = some .local)
    (h : wpAny M A first (fun x s₁ => wpAny M A (pyIter x) (fun it s₂ => wpAny M A newAcc (fun acc s₃ =>
      wpAny M A (newFunctionEnv scope env.globals cl [] env.qual none .none (some env)) (fun cenv s₄ =>
        codeAny M A (.compStart e 0 it acc { cenv with scope := relabel scope env }) (compPostF M A E use Q acc cenv.locals cenv.frame) s₄) E s₃) E s₂) E s₁) E s) :
    wpAny M A (comprehension e scope env pos newAcc false first use) Q E s := by
  unfold comprehension
  rw [hclos, hcl]
  refine wpAny_bind (wpAny_mono h (fun x s₁ h₁ => wpAny_bind (wpAny_standAt (wpAny_bind (wpAny_of_eq (hs x) (wpAny_bind (wpAny_holding (wpAny_mono h₁ (fun it s₂ h₂ =>
    wpAny_standIf (wpAny_bind (wpAny_mono h₂ (fun acc s₃ h₃ => wpAny_bind (wpAny_pure (wpAny_bind (wpAny_mono h₃ (fun cenv s₄ h₄ => ?_) fun _ _ h' => h')))) fun _ _ h' => h')))
      fun _ _ h' => h'))))))) fun _ _ h' => h')
  dsimp only
  have hv : ∀ x ∈ (scope.names.filter fun x => (x.2 == .local || x.2 == .cell) && x.1 != (".0" : Str)).reverse, x.2 = .local →
      Env.kindOf { cenv with scope := relabel scope env } x.1 = some .local := fun x hx hl => lookup_relabel_local (hnames x (List.mem_filter.mp (List.mem_reverse.mp hx)).1 hl)
  have hv' : ∀ x ∈ (scope.names.filter fun x => (x.2 == .local || x.2 == .cell) && x.1 != (".0" : Str)).reverse.drop 1 ++ (scope.names.filter fun x => (x.2 == .local || x.2 == .cell) && x.1 != (".0" : Str)).reverse.take 1,
      x.2 = .local → Env.kindOf { cenv with scope := relabel scope env } x.1 = some .local := fun x hx hl => by
    rcases List.mem_append.mp hx with h1 | h1
    · exact hv x (List.mem_of_mem_drop h1) hl
    · exact hv x (List.mem_of_mem_take h1) hl
  refine wpAny_holding (wpAny_bind (wpAny_attempt (wpAny_holding (wpAny_run (codeAny_mono h₄ fun r s' hr => ?_)))))
  cases r with
  | ok f =>
    cases use with
    | none =>
      obtain ⟨m, hn, hr⟩ := hr
      exact wpAny_bind (wpAny_holding (wpAny_comp_letGo (cenv := { cenv with scope := relabel scope env }) hkind _ s' m hv hn fun h' m' _ hs' => wpAny_pure (hr h' hs')))
    | some u =>
      refine wpAny_bind (wpAny_rule (wpAny_bind (wpAny_holding (wpAny_mono hr (fun _ s'' hr' => ?_) fun _ _ h' => h'))))
      obtain ⟨m, hn, hr'⟩ := hr'
      exact wpAny_bind (wpAny_comp_letGo (cenv := { cenv with scope := relabel scope env }) hkind _ s'' m hv' hn fun h' m' _ hs' => wpAny_pure (hr' h' hs'))
  | error x =>
    obtain ⟨m, hn, hr⟩ := hr
    exact wpAny_bind (wpAny_holding (wpAny_comp_letGo (cenv := { cenv with scope := relabel scope env }) hkind _ s' m hv hn fun h' m' _ hs' => wpAny_mono (hr h' hs' _ rfl rfl) (fun _ _ f => f.elim) fun _ _ y => y))
section
variable {X : Cx}
/-- a block's exception, out of the block -/
theorem block_out {pins : List (Addr × Obj)} {σ : L2.St} {H3 : Hp} {s3 : Shared} {scope : Scope} {ce : Env} {fp : List Addr} {E : XK} {L C : Addr} {use : Option (Value → Sem Unit)} {Q : Value → Shared → Prop} {acc u : Value} {s' : Shared}
    (I3 : Inv X pins σ H3 s3) (tk : TakesL X L fun cls d _ H => E cls d H) (hce : ce.frame = X.env.frame) (cL : ce.locals = C) (hC : s3.heap.objs.size = C) (f3 : ∀ b ∈ fp, FpOk X pins H3 b ∧ b < s3.heap.objs.size)
    (x : XEL (X.blk s3 H3 scope ce fp) L (fun cls d _ H => E cls d H) u s') : notedBy (model X.prog X.w) X.A ce (fun e s' => compPostF (model X.prog X.w) X.A X.xe use Q acc C X.env.frame (.error e) s') u s' := by
  obtain ⟨a, B, sI, p, σ', H, cls, d, rfl, IB, nb, up, sky, na, os, ag, hE⟩ := x
  obtain ⟨e0, outer, hst, he0⟩ := tk.st
  have I7 : Inv X pins σ H sI := I3.call' (ch := fp) IB.os IB.base IB.hok IB.bare fun b hb => ⟨(f3 b hb).1.2.2.2.1, (f3 b hb).1.2.1, (f3 b hb).1.2.2.2.2.1, (f3 b hb).1.2.2.2.2.2⟩
  have nC : H C = none := by
    have z : H ce.locals = none := IB.free
    rw [cL] at z
    exact z
  have fC : FpOk X pins H C := I3.fpOk (Nat.le_of_eq hC) nC
  obtain ⟨m, hn, _⟩ := IB.loc
  have hn : sI.heap.Ns ce.locals m := hn
  rw [cL] at hn
  obtain ⟨oC, es, ep, hoC, hdC, hsk, hfd⟩ := hn
  have hCs : C ∉ frs X.stack := fun z => by
    rcases List.mem_cons.mp (I3.stkSub C z) with e | e
    · exact fC.2.1 e
    · exact fC.2.2.1 e
  have hBC : B.get? C = some oC := nb C oC hoC hCs
  have hfr : X.A.frames = some (e0 :: outer) := by rw [I3.ok.frames, hst]
  unfold notedBy
  rw [note_congr (env' := e0) (by rw [hce, tk.fr, he0])]
  have sky : Sky B (e0 :: outer) a (Zc cls d) L s'.heap := by
    have z : Sky B X.stack a (Zc cls d) L s'.heap := sky
    rw [hst] at z
    exact z
  refine Sky.note Zc.steady hfr he0 sky fun h1 hh up1 => ?_
  refine ⟨m, ⟨oC, es, ep, hh.1 _ _ hBC, hdC, hsk, hfd⟩, fun h2 sb cenv _ hcf => ?_⟩
  obtain ⟨k1, k2, k3, oe, vs, T, oT, ts, he, hz, hd, h1', hnT, hTe, hT, hdT, hfl⟩ := hh
  have aC : a ≠ C := fun z => by
    rw [z, hBC] at k2
    cases k2
  have TC : T ≠ C := fun z => by
    rw [z, hBC] at hnT
    cases hnT
  have at2 : ∀ b, b ≠ C → h2.get? b = h1.get? b := sb.2
  obtain ⟨B2, hB2⟩ : ∃ B2, B2 = PySem.W.hideAll B [C] := ⟨_, rfl⟩
  have b2n : ∀ b, B.get? b = none → B2.get? b = none := fun b e => by
    rw [hB2]
    cases q : (PySem.W.hideAll B [C]).get? b with
    | none => rfl
    | some o =>
      rw [PySem.W.of_hideAll _ q] at e
      cases e
  have b2C : B2.get? C = none := by
    rw [hB2]
    exact PySem.W.hideAll_none _ List.mem_cons_self
  have b2g : ∀ b o, b ≠ C → B.get? b = some o → B2.get? b = some o := fun b o h e => by
    rw [hB2]
    exact PySem.W.hideAll_get _ e fun z => h (List.mem_singleton.mp z)
  have b2o : ∀ b o, B2.get? b = some o → B.get? b = some o ∧ b ≠ C := fun b o e => ⟨by rw [hB2] at e; exact PySem.W.of_hideAll _ e, fun z => by rw [z, b2C] at e; cases e⟩
  have s2 : B2.StaysIn h2 := fun b o e => by
    rw [at2 b (b2o b o e).2]
    exact k1 b o (b2o b o e).1
  have ff2 : h2.FunFrames B2 (e0 :: outer) := funFrames_but at2 b2n k3 (by rw [← hst]; exact hCs)
  have he2 : h2.get? a = some oe := by
    rw [at2 a aC]
    exact he
  have tr2 : HandSPX.TracedZ h2 B2 a (Zc cls d) (rawInt L) := ⟨oe, vs, T, oT, ts, he2, hz, hd, h1', b2n _ hnT, hTe, by rw [at2 T TC]; exact hT, hdT, hfl⟩
  unfold PySem.passOn
  refine wpAny_bind (wpAny_field he2 hd h1' ?_)
  rw [if_neg (show ¬ ((Value.ref T == Value.none) = true) from by simp)]
  have fin : wpAny (model X.prog X.w) X.A (setFlight (.ref a) cenv.frame) (fun _ s4 => wpAny (model X.prog X.w) X.A (throw (.ref a) : Sem Value) (fun _ _ => False) X.xe s4) X.xe { s' with heap := h2 } := by
    rw [hcf, tk.fr]
    refine HandSPX.setFlight_anyZ s2 ff2 tr2 fun h3 s3' ff3 tr3 up3 => wpAny_throw (tk.tk _ _ ?_)
    obtain ⟨G, g1, g2⟩ := restrict h3 fun b => (B2.get? b).isSome || decide (b ∈ frs X.stack)
    have gB : ∀ b o, B2.get? b = some o → G.get? b = some o := fun b o e => by
      rw [g1 b (by simp [e])]
      exact s3' b o e
    have gF : ∀ b, b ∈ frs X.stack → G.get? b = h3.get? b := fun b hb => g1 b (by simp [hb])
    have og : ∀ b o, G.get? b = some o → h3.get? b = some o ∧ ((B2.get? b).isSome = true ∨ b ∈ frs X.stack) := fun b o e => by
      cases q : ((B2.get? b).isSome || decide (b ∈ frs X.stack)) with
      | false => rw [g2 b q] at e; cases e
      | true =>
        rw [g1 b q] at e
        exact ⟨e, by simpa [Bool.or_eq_true] using q⟩
    have slot : ∀ b o, sI.heap.get? b = some o → b ∈ frs X.stack → ∃ sl, G.get? b = some { o with slots := sl } := fun b o e hb => by
      obtain ⟨_, o', e', hnf⟩ := I7.stack.mem hb
      rw [e] at e'; cases e'
      obtain ⟨sl1, q1⟩ := up b o e hnf
      obtain ⟨sl2, q2⟩ := up1 b _ q1 hnf
      have q2' : h2.get? b = _ := (at2 b fun z => hCs (z ▸ hb)).trans q2
      obtain ⟨sl3, q3⟩ := up3 b _ q2' hnf
      exact ⟨sl3, by rw [gF b hb]; exact q3⟩
    refine ⟨a, B2, { sI with heap := G, gens := s'.gens, drawn := s'.drawn, toks := s'.toks }, pins, σ, H, cls, d, rfl, ?_, fun b o e hb => ?_, Heap.UpToSlots.of_keeps fun b o e => (og b o e).1, .inr (.inr ⟨s3', b2n _ k2, by rw [hst]; exact ff3, tr3⟩), na, os, ag, hE⟩
    · refine I7.call (ch := [C]) ⟨fun b o e n hb hc => gB b o (b2g b o (fun z => hc (by rw [z]; exact List.mem_cons_self)) (nb b o e hb)), fun b o e n hb _ => slot b o e hb, fun b o e n _ => n, fun b o e hc => ?_, fun _ _ e => e, fun _ _ _ e => e, fun b ps e => ⟨#[], by rw [e]; simp⟩⟩ ?_ ag fun b z => ?_
      · by_cases hb : b ∈ frs X.stack
        · obtain ⟨sl, q⟩ := slot b o e hb
          exact ⟨_, q⟩
        · exact ⟨o, gB b o (b2g b o (fun z => hc (by rw [z]; exact List.mem_cons_self)) (nb b o e hb))⟩
      · exact fun b o q => (I7.hok b o q).stay (fun c u hc r => gB c u (b2g c u (fun z => by
          rw [z] at hc
          rcases hc with hc | hc
          · rw [← hc, nC] at q; cases q
          · rw [nC] at hc; cases hc) (nb c u r fun hm => by
          have z := I7.stkFree c hm
          rcases hc with hc | hc
          · rw [hc, q] at z; cases z
          · rw [hc] at z; cases z))) (fun _ r => r) fun _ _ r => r
      · rw [List.mem_singleton.mp z]
        exact ⟨fC.2.2.2.1, fC.2.1, fC.2.2.2.2.1, fC.2.2.2.2.2⟩
    · obtain ⟨e', h⟩ := og b o e
      rcases h with h | h
      · obtain ⟨o', q⟩ := Option.isSome_iff_exists.mp h
        have z := s3' b o' q
        rw [e'] at z; cases z
        exact q
      · exact absurd h hb
  first
    | exact wpAny_bind (wpAny_pure (wpAny_bind fin))
    | exact wpAny_bind fin
end
/-- HandS's lc_core, an exception of the element allowed -/
theorem lc_coreX {X : Cx} {pins : List (Addr × Obj)} {s : Shared} {σ : L2.St} {H : Hp} {Q : VK} {elt tg iter : Expr} {ifs : List Expr} {scope : Scope} {own : List (Str × Nat)} {pos pos' : Pos} {wi : TI} {g : TG} {tt : TT} {te : TE} {use : Option (Value → Sem Unit)} {Qf : Value → Shared → Prop} {E : XK} {L : Addr}
    (tk : TakesL X L fun cls d _ H => E cls d H) (hc : X.calm = true) (hN : X.N.Nodup) (I : Inv X pins σ H s) (hi : PI X tg iter wi) (ok : BlkOk X.N X.env.scope scope own)
    (hg : ∀ (s : Shared) (H : Hp) (C : Addr) (cl : List (Str × Addr)) (fp : List Addr), PG (X.blk s H scope (compEnvC scope cl C X.env) fp) tg g) (ht : ∀ (s : Shared) (H : Hp) (C : Addr) (cl : List (Str × Addr)) (fp : List Addr), PTs (X.blk s H scope (compEnvC scope cl C X.env) fp) ifs tt)
    (he : ∀ (s : Shared) (H : Hp) (C : Addr) (cl : List (Str × Addr)) (fp : List Addr) (xe : Value → Shared → Prop), TakesL ((X.blk s H scope (compEnvC scope cl C X.env) fp).wish xe) L (fun cls d _ H => E cls d H) → PE ((X.blk s H scope (compEnvC scope cl C X.env) fp).wish xe) elt te) (hs : ∀ x, foldedSetIterable iter X.env x = pure x)
    (h : tLc wi g tt te (own.map (·.2)) σ H Q)
    (hRR : ∀ D C s' m H', Inv X pins σ H' s' → Q (.ref D) H' → s'.heap.Ns C m → FpOk X pins H' C → compPost (model X.prog X.w) X.A X.xe use Qf (.ref D) C (.ok .next) s') :
    wpAny (model X.prog X.w) X.A (comprehension (.ListComp elt [⟨tg, iter, ifs, 0⟩] scope pos) scope X.env pos' (newList []) false (eval iter X.env) use) Qf X.xe s := by
  have hfree : ∀ y ∈ scope.names, y.2 = .free → ∃ c, X.env.cells.lookup y.1 = some c := fun y hy e => by
    rcases ok.free y hy e with k | k
    · exact I.ok.has _ (.inl k)
    · exact I.ok.has _ (.inr k)
  refine comp_freeF (use := use) rfl hs (closure_ok hfree) ok.kind (fun y hy e => by rw [ok.uniq y hy, e])
    (thn (hi.run pins s σ H _ I h) fun xv s1 hx => thn hx fun itv s2 h2 => ?_)
  obtain ⟨it, fp, tn, J, H2, e, I2, T, st2, f2, q⟩ := h2
  subst e
  refine wpAny_newObj_type (newEnv_comp ?_) (by show 0 ≤ sizeLine; decide)
  generalize hD : s2.heap.objs.size = D
  have hDn : H2 D = none := I2.hok.fresh (Nat.le_of_eq hD)
  obtain ⟨W, ⟨m0, w0⟩, turn⟩ := q D hDn
  generalize hs3 : ({ s2 with heap := s2.heap.push { cls := .type "list", data := .seq ([] : List Value).toArray } } : Shared) = s3
  have I3 : Inv X pins σ (upd H2 D (.lst [])) s3 := by
    rw [← hs3]
    refine I2.laid (t' := s2.toks) (fun b o e => Heap.get?_push_of_some _ e) (Nat.le_of_eq hD) ⟨Nat.zero_le _, [], 0, .nil, ?_⟩
    rw [← hD]
    exact Heap.get?_push_size _ rfl
  have h3 : s3.heap = s2.heap.push { cls := .type "list", data := .seq ([] : List Value).toArray } := by rw [← hs3]
  have sz : ∀ b ∈ fp, b < s2.heap.objs.size := fun b hb => by
    obtain ⟨o, e, _⟩ := T.obj _ _ st2 b hb
    exact Heap.lt_size e
  have f3 : ∀ b ∈ fp, FpOk X pins (upd H2 D (.lst [])) b ∧ b < s3.heap.objs.size := fun b hb => by
    have hlt := sz b hb
    refine ⟨⟨?_, (f2 b hb).2⟩, by rw [h3, Heap.size_push]; exact Nat.lt_succ_of_lt hlt⟩
    rw [upd_ne (by rw [← hD]; exact Nat.ne_of_lt hlt)]
    exact (f2 b hb).1
  have st3 : tn 0 s3.heap := T.keep _ _ _ st2 fun b _ o e => by rw [h3]; exact Heap.get?_push_of_some _ e
  have I4 := block_start I3 ok hN f3
  have pg := hg s3 (upd H2 D (.lst [])) s3.heap.objs.size (cellsFrom (s3.heap.objs.size + 1) scope.names (cloFrom X.env.cells scope.names [])) fp
  have pt := ht s3 (upd H2 D (.lst [])) s3.heap.objs.size (cellsFrom (s3.heap.objs.size + 1) scope.names (cloFrom X.env.cells scope.names [])) fp
  have pe := he s3 (upd H2 D (.lst [])) s3.heap.objs.size (cellsFrom (s3.heap.objs.size + 1) scope.names (cloFrom X.env.cells scope.names [])) fp
  show codeAny _ _ (.compStart (.ListComp elt [⟨tg, iter, ifs, 0⟩] scope pos) 0 (.ref it) (.ref D) (compEnvC scope (cellsFrom (s3.heap.objs.size + 1) scope.names (cloFrom X.env.cells scope.names [])) s3.heap.objs.size X.env)) (compPostF (model X.prog X.w) X.A X.xe use Qf (.ref D) s3.heap.objs.size X.env.frame) { s3 with heap := pushCells (s3.heap.push { cls := .type "dict", data := .dict #[] }) scope.names }
  have nfp : ∀ b ∈ fp, (upd H2 D (.lst [])) b = none := fun b hb => (f3 b hb).1.1
  generalize hce : compEnvC scope (cellsFrom (s3.heap.objs.size + 1) scope.names (cloFrom X.env.cells scope.names [])) s3.heap.objs.size X.env = ce at I4 pg pt pe ⊢
  have cL : ce.locals = s3.heap.objs.size := by subst hce; rfl
  have cF : ce.frame = X.env.frame := by subst hce; rfl
  generalize hH3 : upd H2 D (.lst []) = H3 at I3 I4 pg pt pe w0 nfp f3
  generalize hs4 : ({ s3 with heap := pushCells (s3.heap.push { cls := .type "dict", data := .dict #[] }) scope.names } : Shared) = s4 at I4 ⊢
  have st4 : tn 0 s4.heap := T.keep _ _ _ st3 fun b _ o e => by rw [← hs4]; exact pushCells_keeps _ _ _ _ (Heap.get?_push_of_some _ e)
  have stat : ∀ {σ' : L2.St} {H' : Hp} {s' : Shared}, Inv (X.blk s3 H3 scope ce fp) [] σ' H' s' → (∀ b ∈ fp, H' b = none) → ∀ b ∈ fp, FpOk (X.blk s3 H3 scope ce fp) [] H' b := fun {σ' H' s'} I' hn b hb =>
    ⟨hn b hb, (I'.ok.exf b hb).1, I'.ok.exfs b hb, .inl hb, fun x c e => (I'.ok.exf b hb).2 x c e, fun p hp => absurd (show p ∈ ([] : List (Addr × Obj)) ++ [] from hp) (by simp)⟩
  have pe' := pe (XEL (X.blk s3 H3 scope ce fp) L fun cls d _ H => E cls d H) ⟨fun u s' ⟨a, B, sI, p, σ', H, cls, d, e, IB, z⟩ => ⟨a, B, sI, p, σ', H, cls, d, e, IB.unwish, z⟩, tk.st, cF.trans tk.fr⟩
  have loop : codeAny (model X.prog X.w) X.A (.compLoop (.ListComp elt [⟨tg, iter, ifs, 0⟩] scope pos) 0 (.ref it) (.ref D) ce) (compPostF (model X.prog X.w) X.A X.xe use Qf (.ref D) s3.heap.objs.size X.env.frame) s4 := by
    refine compLoop_any (fun n s' => ∃ i H', Inv (X.blk s3 H3 scope ce fp) [] (wipe σ (own.map (·.2))) H' s' ∧ tn i s'.heap ∧ (∀ b ∈ fp, H' b = none) ∧ W i n H') ?_ m0 ⟨0, H3, I4, st4, nfp, w0⟩
    rintro n s5 ⟨i, H5, I5, st5, n5, w5⟩
    rcases turn i n H5 w5 with ⟨stop, qq⟩ | ⟨go, Nx, hNx, step⟩
    · have td := T.done (X.blk s3 H3 scope ce fp) rfl rfl rfl hc i [] s5 _ H5 (fun _ _ => False) I5 (stat I5 n5) st5 stop
      refine thnF td fun r s6 ⟨hr, I6⟩ => ?_
      subst hr
      have I7 : Inv X pins σ H5 s6 := I3.call' (ch := fp) I6.os I6.base I6.hok I6.bare fun b hb => ⟨(f3 b hb).1.2.2.2.1, (f3 b hb).1.2.1, (f3 b hb).1.2.2.2.2.1, (f3 b hb).1.2.2.2.2.2⟩
      have nC : H5 s3.heap.objs.size = none := by
        have z : H5 ce.locals = none := I6.free
        rw [cL] at z
        exact z
      obtain ⟨m, hn, _⟩ := I6.loc
      have hn : s6.heap.Ns ce.locals m := hn
      rw [cL] at hn
      exact hRR D s3.heap.objs.size s6 m H5 I7 qq hn (I3.fpOk (Nat.le_refl _) nC)
    · have ti := T.item (X.blk s3 H3 scope ce fp) rfl rfl rfl hc i [] s5 _ H5 (fun _ _ => False) I5 (stat I5 n5) st5 go
      refine thnF ti fun r s6 ⟨u, hr, h6⟩ => ?_
      subst hr
      refine thnF h6 fun _ s7 ⟨x, H7, I7, r7, y7, st7, n7⟩ => ?_
      have I7' := I7.pinned (stat I7 n7) (T.obj _ _ st7)
      refine thnF (pg.run _ s7 _ H7 x u _ I7' r7 (step x H7 y7)) fun _ s8 ⟨σ8, H8, I8, hw8, q8⟩ => ?_
      refine thnF (pt.run _ s8 σ8 H8 _ I8 q8) fun b s9 ⟨H9, I9, q9⟩ => ?_
      have fin : ∀ {s' : Shared} {H' : Hp}, Inv (X.blk s3 H3 scope ce fp) ([] ++ pinsAt fp s7.heap) σ8 H' s' → Nx H' → ∃ m, m < n ∧ ∃ i H', Inv (X.blk s3 H3 scope ce fp) [] (wipe σ (own.map (·.2))) H' s' ∧ tn i s'.heap ∧ (∀ b ∈ fp, H' b = none) ∧ W i m H' := fun {s' H'} I' nx => by
        obtain ⟨m', hm, w'⟩ := hNx H' nx
        have pin' : ∀ b ∈ fp, ∀ o, s7.heap.get? b = some o → s'.heap.get? b = some o ∧ H' b = none := fun b hb o e =>
          let z := I'.pin (b, o) (List.mem_append_right _ (List.mem_append_right _ (mem_pinsAt hb e)))
          ⟨z.1, z.2.1⟩
        have hl : (wipe σ (own.map (·.2))).length = σ8.length := by rw [← hw8, wipe_length]
        refine ⟨m', hm, i + 1, H', (I'.unpinned (pins := [])).weak hl (fun j v e => ?_), T.keep _ _ _ st7 fun b hb o e => (pin' b hb o e).1, fun b hb => ?_, w'⟩
        · rw [← hw8] at e
          exact (wipe_some e).1
        · obtain ⟨o, e, _⟩ := T.obj _ _ st7 b hb
          exact (pin' b hb o e).2
      cases b with
      | false =>
        simp only [Bool.false_eq_true, if_false] at q9 ⊢
        exact fin I9 q9
      | true =>
        simp only [if_true] at q9 ⊢
        refine wpAny_mono (pe'.run _ s9 σ8 H9 _ (I9.wish _) q9) (fun z s10 ⟨yv, H10, I10, r10, acc, hD10, hz10, nx⟩ => ?_) fun u s10 hx => block_out I3 tk cF cL rfl f3 hx
        exact app_ok (X := X.blk s3 H3 scope ce fp) I10.unwish hD10 hz10 r10 fun s11 I11 => fin I11 nx
  exact codeAny_compStart_list loop (T.self X.A 0 _ _ _ st4 loop)
section
variable {X : Cx}
/-- as a value -/
theorem pe_lcX {elt tg iter : Expr} {ifs : List Expr} {scope : Scope} {own : List (Str × Nat)} {pos : Pos} {wi : TI} {g : TG} {tt : TT} {te : TE} {E : XK} {L : Addr} (tk : TakesL X L fun cls d _ H => E cls d H) (hc : X.calm = true) (hN : X.N.Nodup) (hi : PI X tg iter wi) (ok : BlkOk X.N X.env.scope scope own)
    (hg : ∀ (s : Shared) (H : Hp) (C : Addr) (cl : List (Str × Addr)) (fp : List Addr), PG (X.blk s H scope (compEnvC scope cl C X.env) fp) tg g) (ht : ∀ (s : Shared) (H : Hp) (C : Addr) (cl : List (Str × Addr)) (fp : List Addr), PTs (X.blk s H scope (compEnvC scope cl C X.env) fp) ifs tt)
    (he : ∀ (s : Shared) (H : Hp) (C : Addr) (cl : List (Str × Addr)) (fp : List Addr) (xe : Value → Shared → Prop), TakesL ((X.blk s H scope (compEnvC scope cl C X.env) fp).wish xe) L (fun cls d _ H => E cls d H) → PE ((X.blk s H scope (compEnvC scope cl C X.env) fp).wish xe) elt te) (hs : ∀ x, foldedSetIterable iter X.env x = pure x := by intro _; rfl) :
    PE X (.ListComp elt [⟨tg, iter, ifs, 0⟩] scope pos) (tLc wi g tt te (own.map (·.2))) := by
  refine ⟨fun pins s σ H Q I h => ?_⟩
  rw [eval_ListComp]
  refine lc_coreX tk hc hN I hi ok hg ht he hs h fun D C s' m H' I' q hn f => ⟨m, hn, fun h'' sb => ?_⟩
  obtain ⟨f0, f1, f2, f3, f4, f5⟩ := f
  exact ⟨.ref D, H', I'.turned (t' := s'.toks) (fun b o hb e => (sb.2 b hb).trans e) f0 f1 f3 f4 f5, rfl, q⟩
/-- name = [..] on one line, the name a local -/
theorem ps_setLcX {i : Nat} {y : Str} {py : Pos} {elt tg iter : Expr} {ifs : List Expr} {scope : Scope} {own : List (Str × Nat)} {pos spos : Pos} {wi : TI} {g : TG} {tt : TT} {te : TE} {E : XK} {L : Addr} (tk : TakesL X L fun cls d _ H => E cls d H) (hc : X.calm = true) (hN : X.N.Nodup) (hy : X.N[i]? = some y) (hyl : X.env.scope.names.lookup y = some .local)
    (hsw : swapsWith (.ListComp elt [⟨tg, iter, ifs, 0⟩] scope pos) (some (.Name y py)) spos.line X.env = pure true) (hi : PI X tg iter wi) (ok : BlkOk X.N X.env.scope scope own)
    (hg : ∀ (s : Shared) (H : Hp) (C : Addr) (cl : List (Str × Addr)) (fp : List Addr), PG (X.blk s H scope (compEnvC scope cl C X.env) fp) tg g) (ht : ∀ (s : Shared) (H : Hp) (C : Addr) (cl : List (Str × Addr)) (fp : List Addr), PTs (X.blk s H scope (compEnvC scope cl C X.env) fp) ifs tt)
    (he : ∀ (s : Shared) (H : Hp) (C : Addr) (cl : List (Str × Addr)) (fp : List Addr) (xe : Value → Shared → Prop), TakesL ((X.blk s H scope (compEnvC scope cl C X.env) fp).wish xe) L (fun cls d _ H => E cls d H) → PE ((X.blk s H scope (compEnvC scope cl C X.env) fp).wish xe) elt te) (hs : ∀ x, foldedSetIterable iter X.env x = pure x := by intro _; rfl) :
    PS X (.Assign [.Name y py] (.ListComp elt [⟨tg, iter, ifs, 0⟩] scope pos) spos) (tAsg (tLc wi g tt te (own.map (·.2))) (gName i)) := by
  refine ⟨fun pins s σ H D I h => ?_⟩
  rw [exec_Assign_Name_used _ _ _ _ hsw]
  refine wpAny_bind (wpAny_standAt (wpAny_bind ?_))
  show wpAny _ X.A (do let _ ← comprehension (.ListComp elt [⟨tg, iter, ifs, 0⟩] scope pos) scope X.env (firstIterPos [⟨tg, iter, ifs, 0⟩] pos) (newList []) false (eval iter X.env) (some (assign (.Name y py) X.env))) _ _ s
  have h : tLc wi g tt te (own.map (·.2)) σ H (fun x H1 => gName i x σ H1 D.nx) := h
  refine wpAny_bind (thn (lc_coreX (Qf := fun _ s' => SP X pins D .next s') tk hc hN I hi ok hg ht he hs h fun L C s' m H' I' q hn f => ?_) fun _ s' hq => wpAny_pure (wpAny_pure hq))
  show wpAny _ _ (assign (.Name y py) X.env (.ref L)) _ _ _
  refine wpAny_assign_Name (store_ok2 (v := V.ref L) I' hN hy (.inl hyl) rfl (fun s2 I2 ⟨a, sb, ha⟩ => ?_) (.inr hyl))
  obtain ⟨f0, f1, f2, f3, f4, f5⟩ := f
  have haC : C ≠ a := by
    rcases ha with z | z
    · rw [z]; exact f1
    · exact fun e => f4 y a z e.symm
  refine ⟨m, hn.sameBut sb haC, fun h3 sb3 => ?_⟩
  exact ⟨_, H', I2.turned (t' := s2.toks) (fun b o hb e => (sb3.2 b hb).trans e) f0 f1 f3 f4 f5, q⟩
end
/-! ### .. as a reading: the first element that raises -/
abbrev XW (E : XK) : WX := fun cls d _ H => E cls d H
section
variable {K : PySem.W.Frag} {φ φ' : Addr → Prop} {J J' : Hp → Prop} {H H' H1 : Hp} {ρ ρ' : List (Option D)} {σ : L2.St} {E : XK} {c : Addr}
theorem rs_lc {wi : TI} {te : TE} {k : Nat} {pre post : List D} {d : D} {f : D → D} (hi : IterD K φ J wi ρ (pre ++ d :: post)) (hl : pre.length ≤ 1000000)
    (he : ∀ e ∈ pre, ∀ φ' J', Ext φ J φ' J' → EvD K φ' J' te ((wipeR ρ [k]).set k (some e)) (f e))
    (hr : ∀ φ' J', Ext φ J φ' J' → Rs K φ' J' te ((wipeR ρ [k]).set k (some d)) (XW E) c) : Rs K φ J (tLc wi (gName k) tYes te [k]) ρ (XW E) c := fun σ H A kx Q => by
  refine hi σ H A _ fun J0 ds H1 b1 A1 pd w => ?_
  subst pd
  intro D0 hD
  have neP : ∀ p s ns, Pooled φ J p s ns → p ≠ D0 := fun p s ns hp => by
    obtain ⟨a1, a2, a3, a4, h1, _⟩ := hp.ok _ A1.j
    exact ne_of_none h1 hD
  let φ' : Addr → Prop := fun a => φ a ∧ a ≠ D0
  have ext : ∀ acc : List V, Ext φ J φ' (fun H => J H ∧ H D0 = some (.lst acc)) := fun acc => ⟨fun _ h => h.1, fun p s ns hp => ⟨fun z => hp.np z.1, hp.ne, fun H h => hp.ok H h.1, fun H H' h k o => ⟨hp.st H H' h.1 k o, k _ _ (neP p s ns hp).symm h.2⟩⟩, fun a p h => ⟨p, fun e => h H1 A1.j (by rw [e]; exact hD)⟩⟩
  have mono : ∀ (acc : List V) (H2 : Hp), (∀ a, H1 a ≠ none → H2 a ≠ none) → H2 D0 ≠ none → Mo H2 (fun H => J H ∧ H D0 = some (.lst acc)) := fun acc H2 s h => (A1.mono.up s).and (Mo.at h)
  refine ⟨fun i m H2 => m = pre.length + 1 - i ∧ i ≤ pre.length ∧ But φ H1 H2 ∧ ∃ acc, Reps K φ' H2 ((pre.take i).map f) acc ∧ At K φ' (fun H => J H ∧ H D0 = some (.lst acc)) (wipeR ρ [k]) (L2.wipe σ [k]) H2,
    ⟨pre.length + 1, rfl, Nat.zero_le _, But.of (same_new hD), [], Reps.nil, ?_⟩, ?_⟩
  · have A2 := A1.newLive (o := .lst []) (J' := fun H => J H ∧ H D0 = some (.lst [])) hD ⟨A1.mono _ _ (fun a o _ e => same_new hD a o e) A1.j, upd_same⟩ (mono [] _ upd_tr (by rw [upd_same]; exact fun z => by cases z))
    exact ⟨A2.sr.wipe [k], A2.fr, A2.j, A2.mono⟩
  · rintro i m H2 ⟨rfl, hi, b2, acc, rs, A2⟩
    have upw : Up φ φ' H1 H2 := fun a o p e => ⟨⟨p, ne_of_none e hD⟩, b2.keep a o p e⟩
    obtain ⟨wg, _⟩ := w φ' i H2 upw A2.fr
    by_cases hlt : i < pre.length
    · have hd : (pre ++ d :: post)[i]? = some pre[i] := by rw [List.getElem?_append_left hlt]; exact List.getElem?_eq_getElem hlt
      obtain ⟨go, yl⟩ := wg _ hd
      refine .inr ⟨go, fun H3 => But φ H1 H3 ∧ ∃ acc, Reps K φ' H3 ((pre.take (i + 1)).map f) acc ∧ At K φ' (fun H => J H ∧ H D0 = some (.lst acc)) (wipeR ρ [k]) (L2.wipe σ [k]) H3, ?_, ?_⟩
      · rintro H3 ⟨b3, acc3, r3, A3⟩
        exact ⟨pre.length + 1 - (i + 1), by omega, rfl, hlt, b3, acc3, r3, A3⟩
      · intro x H3 hy
        obtain ⟨s3, r3⟩ := yl x H3 hy
        have A3 := A2.same s3
        have rs3 := rs.mono (But.of (φ := φ') s3)
        have b3 : But φ H1 H3 := b2.trans (But.of s3)
        have hmem : pre[i] ∈ pre := List.getElem_mem hlt
        have tk : (pre.take (i + 1)).map f = (pre.take i).map f ++ [f pre[i]] := by rw [List.take_add_one, List.getElem?_eq_getElem hlt, List.map_append]; rfl
        refine ⟨(wipe_set (o := some x) (show k ∈ [k] by simp)).trans (wipe_wipe [k]), ?_⟩
        show tYes _ _ _
        refine he _ hmem φ' _ (ext acc) _ H3 (A3.set k r3) _ fun v y H6 b6 A6 pv r6 => ?_
        subst pv
        have rl := rs3.mono b6
        have nD : ¬ φ' D0 := fun z => z.2 rfl
        refine ⟨acc, A6.j.2, ?_, ?_, acc ++ [v], ?_, ?_⟩
        · rw [rl.length, List.length_map, List.length_take]
          exact szlt (by omega)
        · refine ⟨fun a o p e => ?_, fun a h => upd_tr a (b6.tr a (b3.tr a h))⟩
          have ne := ne_of_none e hD
          rw [upd_ne ne]
          exact b6.keep a o ⟨p, ne⟩ (b3.keep a o p e)
        · rw [tk]
          exact (rl.append (Reps.cons r6 Reps.nil)).mono ((But.refl φ' H6).upd nD)
        · have A6' : At K φ' (fun H => J H ∧ H D0 = some (.lst acc)) (wipeR ρ [k]) (L2.wipe σ [k]) H6 := ⟨A3.sr.up (Up.of b6), A6.fr, A6.j, A6.mono⟩
          have jj : J (upd H6 D0 (.lst (acc ++ [v]))) := A1.mono H6 _ (fun a o h e => by
            rw [upd_ne (show a ≠ D0 from fun z => h (by rw [z]; exact hD))]
            exact e) A6.j.1
          exact A6'.upd nD ⟨jj, upd_same⟩ (mono _ _ (fun a h => upd_tr a (b6.tr a (b3.tr a h))) (by rw [upd_same]; exact fun z => by cases z))
    · have e : i = pre.length := by omega
      subst e
      have hd : (pre ++ d :: post)[pre.length]? = some d := by rw [List.getElem?_append_right (Nat.le_refl _), Nat.sub_self]; rfl
      obtain ⟨go, yl⟩ := wg _ hd
      refine .inr ⟨go, fun _ => False, fun _ z => z.elim, ?_⟩
      intro x H3 hy
      obtain ⟨s3, r3⟩ := yl x H3 hy
      have A3 := A2.same s3
      have b3 : But φ H1 H3 := b2.trans (But.of s3)
      refine ⟨(wipe_set (o := some x) (show k ∈ [k] by simp)).trans (wipe_wipe [k]), ?_⟩
      show tYes _ _ _
      refine hr φ' _ (ext acc) _ H3 (A3.set k r3) (fun H' b' A' => ?_) _
      have bb : But φ H1 H' := ⟨fun a o p e => b'.keep a o ⟨p, ne_of_none e hD⟩ (b3.keep a o p e), fun a h => b'.tr a (b3.tr a h)⟩
      exact kx H' (b1.trans bb) ⟨A1.sr.up (Up.of bb), A'.fr.fst, A'.j.1, A1.mono.up bb.tr⟩
end

-- import HandS.Text
-- import HandS.Steps
-- import HandS.StrMore
-- import HandS.FStr
-- import HandS.Style
-- import HandS.TupLe
/-! ### texts -/
open TL
def rSplit : V → List V → Hp → VK → Prop := fun x xs H Q => ∃ a b, x = .str a ∧ xs = [.str b] ∧ (b.length == 0) = false ∧ a.length + 2 ≤ sizeLine ∧ rNewStrs (Txt.split a b) H Q
theorem mu_split {X : Cx} : MtR X "str.split" rSplit := mt_split
def rJoin (K : PySem.W.Frag) : V → List V → Hp → VK → Prop := fun x xs H Q => ∃ a p, ∃ ys : List Str, x = .str a ∧ xs = [.ref p] ∧ (SqL K H p (ys.map V.str) ∨ SqT K H p (ys.map V.str)) ∧ (ys.map (·.length)).sum + ys.length * a.length ≤ 16777216 ∧ Q (.str (Txt.join a ys)) H
theorem mu_join {X : Cx} : MtR X "str.join" (rJoin X.K) := mt_join
theorem kmu_join {X : Cx} {K : PySem.W.Frag} (h : X.K = K) : MtR X "str.join" (rJoin K) := h ▸ mt_join
def rStarts : V → List V → Hp → VK → Prop := fun x xs H Q => ∃ a b, x = .str a ∧ xs = [.str b] ∧ Q (.bl (Txt.startswith a b)) H
theorem mu_startswith {X : Cx} : MtR X "str.startswith" rStarts := mt_startswith
def rRemP : V → List V → Hp → VK → Prop := fun x xs H Q => ∃ a b, x = .str a ∧ xs = [.str b] ∧ a.length ≤ sizeLine ∧ Q (.str (Txt.removeprefix a b)) H
theorem mu_removeprefix {X : Cx} : MtR X "str.removeprefix" rRemP := mt_removeprefix
def rIntS : List V → Hp → VK → Prop := fun xs H Q => ∃ a n, xs = [.str a] ∧ PySem.intText? a = some n ∧ a.length ≤ 640 ∧ Q (.int n) H
theorem c_intS {X : Cx} : CallR X (.type "int") rIntS := call_int_str
theorem op_addS {X : Cx} : OpR X (binaryOp .Add) rAddS := op_add_str
section
variable {K : PySem.W.Frag} {φ φ' : Addr → Prop} {J J' : Hp → Prop} {H H' H1 : Hp} {ρ ρ' : List (Option D)} {σ : L2.St} {te ta tb to : TE} {s t : Str} {i : Int}
theorem reps_strs : ∀ ys : List Str, Reps K φ H (ys.map D.str) (ys.map V.str)
  | [] => Reps.nil
  | _ :: ys => Reps.cons rfl (reps_strs ys)
theorem ev_split (ha : EvD K φ J to ρ (.str s)) (hb : EvD K φ J te ρ (.str t)) (ht : (t.length == 0) = false) (hz : s.length ≤ 1000000) : EvN K φ J (tM1 rSplit to te) ρ (fun x => x = (Txt.split s t).map D.str) := fun σ H A Q q =>
  ha σ H A _ fun v x H1 b1 A1 e1 r1 => by
    subst e1
    cases (show v = _ from r1)
    refine ⟨⟨s, rfl⟩, hb σ H1 A1 _ fun w y H2 b2 A2 e2 r2 => ?_⟩
    subst e2
    cases (show w = _ from r2)
    refine ⟨s, t, rfl, rfl, ht, Nat.le_trans (Nat.add_le_add_right hz 2) (by decide), fun p hp => ?_⟩
    refine q p _ _ H2 _ (b1.trans b2) A2 hp (But.of (same_new hp)) (A2.same (same_new hp)) rfl upd_same ?_
    exact reps_strs _
theorem ev_splitD (ha : EvD K φ J to ρ (.str s)) (hb : EvD K φ J te ρ (.str t)) (ht : (t.length == 0) = false) (hz : s.length ≤ 1000000) : EvD K φ J (tM1 rSplit to te) ρ (.lst ((Txt.split s t).map D.str)) := ev_newD (ev_split ha hb ht hz)
theorem ev_join {ys : List Str} (ha : EvD K φ J to ρ (.str s)) (hb : EvD K φ J te ρ (.lst (ys.map D.str))) (hz : (ys.map (·.length)).sum + ys.length * s.length ≤ 16777216) : EvD K φ J (tM1 (rJoin K) to te) ρ (.str (Txt.join s ys)) := fun σ H A Q q =>
  ha σ H A _ fun v x H1 b1 A1 e1 r1 => by
    subst e1
    cases (show v = _ from r1)
    refine ⟨⟨s, rfl⟩, hb σ H1 A1 _ fun w y H2 b2 A2 e2 r2 => ?_⟩
    subst e2
    obtain ⟨a, vs, rfl, pa, ra⟩ := rep_lst r2
    cases Reps.strs ra
    exact ⟨s, a, ys, rfl, rfl, .inl pa.sq, hz, q _ _ H2 (b1.trans b2) A2 rfl rfl⟩
theorem ev_startswith (ha : EvD K φ J to ρ (.str s)) (hb : EvD K φ J te ρ (.str t)) : EvD K φ J (tM1 rStarts to te) ρ (.bl (Txt.startswith s t)) := fun σ H A Q q =>
  ha σ H A _ fun v x H1 b1 A1 e1 r1 => by
    subst e1
    cases (show v = _ from r1)
    refine ⟨⟨s, rfl⟩, hb σ H1 A1 _ fun w y H2 b2 A2 e2 r2 => ?_⟩
    subst e2
    cases (show w = _ from r2)
    exact ⟨s, t, rfl, rfl, q _ _ H2 (b1.trans b2) A2 rfl rfl⟩
theorem ev_removeprefix (ha : EvD K φ J to ρ (.str s)) (hb : EvD K φ J te ρ (.str t)) (hz : s.length ≤ 1000000) : EvD K φ J (tM1 rRemP to te) ρ (.str (Txt.removeprefix s t)) := fun σ H A Q q =>
  ha σ H A _ fun v x H1 b1 A1 e1 r1 => by
    subst e1
    cases (show v = _ from r1)
    refine ⟨⟨s, rfl⟩, hb σ H1 A1 _ fun w y H2 b2 A2 e2 r2 => ?_⟩
    subst e2
    cases (show w = _ from r2)
    exact ⟨s, t, rfl, rfl, sz hz, q _ _ H2 (b1.trans b2) A2 rfl rfl⟩
theorem ev_intS {n : Int} (ha : EvD K φ J te ρ (.str s)) (hn : PySem.intText? s = some n) (hz : s.length ≤ 640) : EvD K φ J (tCB rIntS (tCons te tNil)) ρ (.int n) := ev_cbD (ea_cons ha ea_nil) fun H vs f r Q q => by
  obtain ⟨v, rfl, r1⟩ := r.one
  cases (show v = _ from r1)
  exact ⟨s, n, rfl, hn, hz, q _ _ H (Same.refl H) rfl rfl⟩
theorem ev_addS (ha : EvD K φ J ta ρ (.str s)) (hb : EvD K φ J tb ρ (.str t)) (hz : s.length + t.length ≤ 1000000) : EvD K φ J (tOp rAddS ta tb) ρ (.str (s ++ t)) := ev_opD ha hb fun H v w f r1 r2 Q q => by
  cases (show v = _ from r1)
  cases (show w = _ from r2)
  exact ⟨s, t, rfl, rfl, sz hz, q _ _ H (Same.refl H) rfl rfl⟩
theorem ev_inS {c : Nat} (ha : EvD K φ J ta ρ (.str ⟨#[c]⟩)) (hb : EvD K φ J tb ρ (.str t)) : EvD K φ J (tOp rInS ta tb) ρ (.bl (decide (c ∈ tl t))) := ev_opD ha hb fun H v w f r1 r2 Q q => by
  cases (show v = _ from r1)
  cases (show w = _ from r2)
  exact ⟨c, t, rfl, rfl, q _ _ H (Same.refl H) rfl rfl⟩
theorem ev_notInS {c : Nat} (ha : EvD K φ J ta ρ (.str ⟨#[c]⟩)) (hb : EvD K φ J tb ρ (.str t)) : EvD K φ J (tOp rNotInS ta tb) ρ (.bl (!decide (c ∈ tl t))) := ev_opD ha hb fun H v w f r1 r2 Q q => by
  cases (show v = _ from r1)
  cases (show w = _ from r2)
  exact ⟨c, t, rfl, rfl, q _ _ H (Same.refl H) rfl rfl⟩
theorem ev_ixStr {c : Nat} (ha : EvD K φ J ta ρ (.str s)) (hb : EvD K φ J tb ρ (.int i)) (hz : s.length ≤ 1000000) (h : L2.atI (tl s) i = some c) : EvD K φ J (tOp rIxS ta tb) ρ (.str ⟨#[c]⟩) := ev_opD ha hb fun H v w f r1 r2 Q q => by
  cases (show v = _ from r1)
  cases (show w = _ from r2)
  exact ⟨s, i, c, rfl, rfl, sz hz, h, q _ _ H (Same.refl H) rfl rfl⟩
theorem ev_slS {tl th : TO} {lo hi : Option Int} (ha : EvD K φ J te ρ (.str s)) (hl : EvO K φ J tl ρ lo) (hh : EvO K φ J th ρ hi) (hz : s.length ≤ 1000000) : EvD K φ J (tSl rSlS te tl th) ρ (.str (cutS s lo hi)) := fun σ H A Q q =>
  ha σ H A _ fun v x H1 b1 A1 e1 r1 => hl σ H1 A1 _ fun H2 b2 A2 => hh σ H2 A2 _ fun H3 b3 A3 => by
    subst e1
    cases (show v = _ from r1)
    exact ⟨s, rfl, sz hz, q _ _ H3 ((b1.trans b2).trans b3) A3 rfl rfl⟩
/-- the texts of an f-string -/
inductive EvJ (K : PySem.W.Frag) (φ : Addr → Prop) (J : Hp → Prop) (ρ : List (Option D)) : List TE → List Str → Prop where
  | nil : EvJ K φ J ρ [] []
  | cons {te : TE} {ts : List TE} {s : Str} {ss : List Str} (h : EvD K φ J te ρ (.str s)) (r : EvJ K φ J ρ ts ss) : EvJ K φ J ρ (te :: ts) (s :: ss)
theorem evj_run {ts : List TE} {ss : List Str} (h : EvJ K φ J ρ ts ss) : ∀ (acc : Str) (σ : L2.St) (H : Hp), At K φ J ρ σ H → acc.length + (ss.map (·.length)).sum ≤ 1000000 → ∀ Q : Str → Hp → Prop, (∀ H', But φ H H' → At K φ J ρ σ H' → Q (ss.foldl (· ++ ·) acc) H') → tJs ts acc σ H Q := by
  induction h with
  | nil => exact fun acc σ H A _ Q q => q H (But.refl _ _) A
  | @cons te ts s ss h r ih =>
    intro acc σ H A hz Q q
    rw [List.map_cons, List.sum_cons] at hz
    refine h σ H A _ fun v d H1 b1 A1 e r1 => ?_
    subst e
    cases (show v = _ from r1)
    have hl : (acc ++ s).length = acc.length + s.length := by simp only [len_tl, tl_append, List.length_append]
    exact ⟨s, rfl, sz (by rw [hl]; omega), ih (acc ++ s) σ H1 A1 (by rw [hl]; omega) Q fun H' b A' => q H' (b1.trans b) A'⟩
theorem ev_fstr {ts : List TE} {ss : List Str} (h : EvJ K φ J ρ ts ss) (hz : (ss.map (·.length)).sum ≤ 1000000) : EvD K φ J (fun σ H Q => tJs ts Str.empty σ H fun out H1 => Q (.str out) H1) ρ (.str (ss.foldl (· ++ ·) Str.empty)) := fun σ H A Q q =>
  evj_run h Str.empty σ H A (by show 0 + _ ≤ _; omega) _ fun H' b A' => q _ _ H' b A' rfl rfl
theorem ev_fmtI (h : EvD K φ J te ρ (.int i)) (hz : i.natAbs.log2 < 1920) : EvD K φ J (tFmt te) ρ (.str (toString i)) := fun σ H A Q q =>
  h σ H A _ fun v d H1 b1 A1 e r1 => by
    subst e
    exact .inr ⟨i, r1, hz, q _ _ H1 b1 A1 rfl rfl⟩
theorem ev_fmtS (h : EvD K φ J te ρ (.str s)) (hz : s.length ≤ 1000000) : EvD K φ J (tFmt te) ρ (.str s) := fun σ H A Q q =>
  h σ H A _ fun v d H1 b1 A1 e r1 => by
    subst e
    exact .inl ⟨s, r1, sz hz, q _ _ H1 b1 A1 rfl rfl⟩
end
/-! ### xs.pop() as a part of a reading -/
section
variable {K : PySem.W.Frag} {φ φ' : Addr → Prop} {J J' : Hp → Prop} {H H' H1 : Hp} {ρ ρ' : List (Option D)} {σ : L2.St} {te ta tb to : TE} {s : Str} {D0 : Ends} {t u : TS} {l : Addr} {ds : List D} {d : D}
theorem pop_run {k : Nat} (A : At K φ J ρ σ H) (L : LivS K φ J l HO.lst (ds ++ [d])) (hk : ρ[k]? = some (some (.raw (.ref l)))) {Q : VK}
    (kk : ∀ v J' H', Wr K φ J J' l → LivS K φ J' l HO.lst ds → At K φ J' ρ σ H' → Rep K φ H' d v → Q v H') : tBM0 K "list" rPop (tVar k) σ H Q := by
  obtain ⟨vs, H0, r, m, k0⟩ := L.ex
  obtain ⟨w, e, rw'⟩ := A.sr.2 k _ hk
  cases (show w = _ from rw')
  have r1 := r.mono (k0 _ A.j).2
  have hl : vs.length = ds.length + 1 := by rw [r1.length, List.length_append]; rfl
  obtain ⟨v, hv, rv⟩ := r1.get (i := ds.length) (d := d) (by rw [List.getElem?_append_right (Nat.le_refl _), Nat.sub_self]; rfl)
  have e2 : (ds ++ [d]).eraseIdx ds.length = ds := by rw [List.eraseIdx_append_of_length_le (Nat.le_refl _), Nat.sub_self]; exact List.append_nil ds
  have e3 : vs.eraseIdx ds.length = vs.dropLast := by rw [← show vs.length - 1 = ds.length by omega]; exact List.eraseIdx_length_sub_one
  refine ⟨_, e, .inl ⟨rfl, _, SqL.of (k0 _ A.j).1⟩, l, vs, v, rfl, rfl, (k0 _ A.j).1, by rw [hl]; exact hv, ?_⟩
  have r2 := reps_erase ds.length r1
  rw [e2, e3] at r2
  obtain ⟨A2, L2', W⟩ := L.write (C' := HO.lst) (vs' := vs.dropLast) A r2
  exact kk v _ _ W L2' A2 (rv.mono ((But.refl φ H).upd L.np))
/-- if xs.pop() != "..": -/
theorem st_popNe {k : Nat} (A : At K φ J ρ σ H) (L : LivS K φ J l HO.lst (ds ++ [.str s])) (hk : ρ[k]? = some (some (.raw (.ref l))))
    (kk : ∀ J' H', Wr K φ J J' l → LivS K φ J' l HO.lst ds → At K φ J' ρ σ H' → tIfS (tTest (tOp rNe (tC (.str s)) tb)) t u D0 σ H') : tIfS (tTest (tOp rNe (tBM0 K "list" rPop (tVar k)) tb)) t u D0 σ H :=
  pop_run A L hk fun v J' H' W L' A' r => by
    cases (show v = _ from r)
    exact kk J' H' W L' A'
/-- if xs.pop() != ".." or ..: -/
theorem st_popOr {k : Nat} {rest : TT} (A : At K φ J ρ σ H) (L : LivS K φ J l HO.lst (ds ++ [.str s])) (hk : ρ[k]? = some (some (.raw (.ref l))))
    (kk : ∀ J' H', Wr K φ J J' l → LivS K φ J' l HO.lst ds → At K φ J' ρ σ H' → tIfS (tOr (tTest (tOp rNe (tC (.str s)) tb)) rest) t u D0 σ H') : tIfS (tOr (tTest (tOp rNe (tBM0 K "list" rPop (tVar k)) tb)) rest) t u D0 σ H :=
  pop_run A L hk fun v J' H' W L' A' r => by
    cases (show v = _ from r)
    exact kk J' H' W L' A'
end
/-! ### xs[::-1], t <= u -/
section
variable {K : PySem.W.Frag} {φ : Addr → Prop} {J : Hp → Prop} {ρ : List (Option D)} {ta tb te : TE} {ds : List D} {ns ms : List Int}
theorem reps_rev {H : Hp} : ∀ {ds : List D} {vs : List V}, Reps K φ H ds vs → Reps K φ H ds.reverse vs.reverse
  | [], vs, h => by
    cases (show vs = [] from h)
    exact Reps.nil
  | x :: ds, vs, h => by
    obtain ⟨u, r', rfl, g1, g2⟩ := (show ∃ v r, vs = v :: r ∧ Rep K φ H x v ∧ Reps K φ H ds r from h)
    rw [List.reverse_cons, List.reverse_cons]
    exact (reps_rev g2).append (Reps.cons g1 Reps.nil)
theorem en_revL (ha : EvD K φ J te ρ (.lst ds)) : EvN K φ J (tRevL K te) ρ (fun x => x = ds.reverse) := fun σ H A Q q =>
  ha σ H A _ fun v x H1 b1 A1 e1 r1 => by
    subst e1
    obtain ⟨a, vs, rfl, pa, ra⟩ := rep_lst r1
    exact ⟨a, vs, rfl, pa.sq, fun p hp => q p _ _ H1 _ b1 A1 hp (But.of (same_new hp)) (A1.same (same_new hp)) rfl upd_same (reps_new hp (reps_rev ra))⟩
theorem ev_revL (ha : EvD K φ J te ρ (.lst ds)) : EvD K φ J (tRevL K te) ρ (.lst ds.reverse) := ev_newD (en_revL ha)
theorem ev_leT (ha : EvD K φ J ta ρ (.tup (ns.map D.int))) (hb : EvD K φ J tb ρ (.tup (ms.map D.int))) : EvD K φ J (tOp (rLeT K) ta tb) ρ (.bl (Ob.lexAt (fun j => decide (ns.getD j 0 = ms.getD j 0)) (fun j => decide (ns.getD j 0 ≤ ms.getD j 0)) (decide (ns.length ≤ ms.length)) 0 (min ns.length ms.length))) := ev_opD ha hb fun H v w _ r1 r2 Q q => by
  obtain ⟨a, rfl, h1⟩ := rep_tupI r1
  obtain ⟨b, rfl, h2⟩ := rep_tupI r2
  exact ⟨a, b, ns, ms, rfl, rfl, h1, h2, q _ _ H (Same.refl H) rfl rfl⟩
theorem lexAtLe2 (a b c d : Int) : Ob.lexAt (fun j => decide (([a, b] : List Int).getD j 0 = ([c, d] : List Int).getD j 0)) (fun j => decide (([a, b] : List Int).getD j 0 ≤ ([c, d] : List Int).getD j 0)) (decide (([a, b] : List Int).length ≤ ([c, d] : List Int).length)) 0 (min ([a, b] : List Int).length ([c, d] : List Int).length) = !SrtO.lexB (c, d) (a, b) := by
  have e : min ([a, b] : List Int).length ([c, d] : List Int).length = 2 := rfl
  rw [e, Ob.lexAt_succ]
  show (if decide (a = c) = true then _ else decide (a ≤ c)) = _
  by_cases h1 : a = c
  · rw [if_pos (decide_eq_true h1), Ob.lexAt_succ]
    show (if decide (b = d) = true then _ else decide (b ≤ d)) = _
    by_cases h2 : b = d
    · rw [if_pos (decide_eq_true h2), Ob.lexAt_zero]
      unfold SrtO.lexB
      rw [if_pos (show (c, d).1 = (a, b).1 from h1.symm), decide_eq_false (show ¬ d < b by omega)]
      rfl
    · rw [if_neg (by simp [h2])]
      unfold SrtO.lexB
      rw [if_pos (show (c, d).1 = (a, b).1 from h1.symm)]
      show decide (b ≤ d) = !decide (d < b)
      by_cases h3 : d < b
      · rw [decide_eq_true h3, decide_eq_false (by omega)]; rfl
      · rw [decide_eq_false h3, decide_eq_true (by omega)]; rfl
  · rw [if_neg (by simp [h1])]
    unfold SrtO.lexB
    rw [if_neg (show ¬ (c, d).1 = (a, b).1 from fun z => h1 z.symm)]
    show decide (a ≤ c) = !decide (c < a)
    by_cases h3 : c < a
    · rw [decide_eq_true h3, decide_eq_false (by omega)]; rfl
    · rw [decide_eq_false h3, decide_eq_true (by omega)]; rfl
theorem ev_leP2 {p q : Int × Int} (ha : EvD K φ J ta ρ (prDD p)) (hb : EvD K φ J tb ρ (prDD q)) : EvD K φ J (tOp (rLeT K) ta tb) ρ (.bl (!SrtO.lexB q p)) := by
  rw [show (!SrtO.lexB q p) = _ from (lexAtLe2 p.1 p.2 q.1 q.2).symm]
  exact ev_leT (ns := [p.1, p.2]) (ms := [q.1, q.2]) ha hb
/-- a comprehension by three names -/
theorem en_lcT3 {wi : TI} {k1 k2 k3 : Nat} {f : D → D} (hi : IterD K φ J wi ρ ds) (hl : ds.length ≤ 1000000) (hd : ∀ d ∈ ds, ∃ a b c, d = .tup [a, b, c])
    (he : ∀ a b c, .tup [a, b, c] ∈ ds → ∀ φ' J', Ext φ J φ' J' → EvD K φ' J' te ((((wipeR ρ [k1, k2, k3]).set k1 (some a)).set k2 (some b)).set k3 (some c)) (f (.tup [a, b, c]))) :
    EvN K φ J (tLc wi (gTup K 3 (gCons (gName k1) (gCons (gName k2) (gCons (gName k3) gNil)))) tYes te [k1, k2, k3]) ρ (fun x => x = ds.map f) := fun σ H A Q q =>
  (en_lcP (ρd := fun d => match d with | .tup [a, b, c] => (((wipeR ρ [k1, k2, k3]).set k1 (some a)).set k2 (some b)).set k3 (some c) | _ => ρ) (us := [k1, k2, k3]) (pt := fun _ b => b = true) (pe := fun d y => y = f d) hi (fun ds' e => by rw [e]; exact hl) (fun _ h => h) (fun ds' e d hm => by
      subst e
      obtain ⟨a, b, c, rfl⟩ := hd d hm
      exact eg_tup (ds := [a, b, c]) (egs_cons eg_name (egs_cons eg_name (egs_cons eg_name egs_nil))))
    (fun ds' e d hm φ' J' x => by
      subst e
      obtain ⟨a, b, c, rfl⟩ := hd d hm
      exact et_yes) (fun ds' e d hm pd φ' J' x => by
      subst e
      obtain ⟨a, b, c, rfl⟩ := hd d hm
      exact he a b c hm φ' J' x)) σ H A Q fun p vs ys H0 H' b0 A0 hp b A' pd e r => by
      obtain ⟨ds', e1, c⟩ := pd
      subst e1
      exact q p vs ys H0 H' b0 A0 hp b A' c.map e r
end

-- import PyProof.StrOps2
-- import HandS.Style
-- import KE.KRevSl
/-! ### text * int, t[::-1] of a tuple -/
def mulS (a : Str) (n : Nat) : Str := ⟨(List.replicate n a.cps).foldl (· ++ ·) #[]⟩
def rMulS : R2 := fun x y H Q => ∃ (a : Str) (n : Int), x = .str a ∧ y = .int n ∧ 2 ≤ n ∧ n ≤ 1000 ∧ 1 ≤ a.length ∧ a.length ≤ 1000 ∧ Q (.str (mulS a n.toNat)) H
theorem foldl_app_size {α : Type} (xs : Array α) : ∀ (n : Nat) (acc : Array α), ((List.replicate n xs).foldl (· ++ ·) acc).size = acc.size + n * xs.size
  | 0, acc => by simp
  | n + 1, acc => by
    rw [List.replicate_succ, List.foldl_cons, foldl_app_size xs n, Array.size_append, Nat.succ_mul]
    omega
theorem mulS_length (a : Str) (n : Nat) : (mulS a n).length = n * a.length := by
  show ((List.replicate n a.cps).foldl (· ++ ·) #[]).size = n * a.cps.size
  rw [foldl_app_size]
  simp
theorem foldl_app_list {α : Type} (xs : Array α) : ∀ (n : Nat) (acc : Array α), ((List.replicate n xs).foldl (· ++ ·) acc).toList = acc.toList ++ (List.replicate n xs.toList).flatten
  | 0, acc => by simp
  | n + 1, acc => by
    rw [List.replicate_succ, List.foldl_cons, foldl_app_list xs n, Array.toList_append, List.replicate_succ, List.flatten_cons, List.append_assoc]
theorem tl_mulS (a : Str) (n : Nat) : TL.tl (mulS a n) = (List.replicate n (TL.tl a)).flatten := by
  show ((List.replicate n a.cps).foldl (· ++ ·) #[]).toList = _
  rw [foldl_app_list]
  rfl
theorem op_mulS {X : Cx} : OpR X (binaryOp .Mult) rMulS := by
  intro pins s σ H x y v u Q I rx ry h
  obtain ⟨a, n, rfl, rfl, h1, h2, h3, h4, q⟩ := h
  obtain ⟨t, rfl⟩ := rx
  obtain ⟨t', rfl⟩ := ry
  have hl : a.length * n.toNat ≤ 1000000 := by
    have : n.toNat ≤ 1000 := by omega
    exact Nat.mul_le_mul h4 this
  have e1 : ¬ n < 1 := by omega
  have e2 : ¬ (n == 1 || a.length == 0) = true := by
    rw [Bool.or_eq_true, beq_iff_eq, beq_iff_eq]
    omega
  refine PySem.P.mul_str (by rw [decide_eq_false (show ¬ n < -(2 ^ 63 : Int) by omega), decide_eq_false (show ¬ n ≥ 2 ^ 63 by omega)]; rfl) (fun _ _ => ?_) (fun _ _ => ?_) ?_
  · have : (2 ^ 63 - 1) / n ≥ 1000 := by
      refine (Int.le_ediv_iff_mul_le (by omega)).mpr ?_
      omega
    omega
  · have hs : a.length * n.toNat ≤ sizeLine := sz hl
    show decide (a.length * n.toNat > sizeLine) = false
    exact decide_eq_false (Nat.not_lt.mpr hs)
  · rw [if_neg e1, if_neg e2]
    refine ⟨?_, .str (mulS a n.toNat), H, I.tok _, ⟨_, rfl⟩, q⟩
    show ((List.replicate n.toNat a.cps).foldl (· ++ ·) #[]).size ≤ _
    have := mulS_length a n.toNat
    unfold mulS at this
    exact Nat.le_trans (Nat.le_of_eq this) (by rw [Nat.mul_comm]; exact sz hl)
section
variable {K : PySem.W.Frag} {φ : Addr → Prop} {J : Hp → Prop} {ρ : List (Option D)} {ta tb : TE} {s : Str} {i : Int}
theorem ev_mulS (ha : EvD K φ J ta ρ (.str s)) (hb : EvD K φ J tb ρ (.int i)) (h1 : 2 ≤ i) (h2 : i ≤ 1000) (h3 : 1 ≤ s.length) (h4 : s.length ≤ 1000) : EvD K φ J (tOp rMulS ta tb) ρ (.str (mulS s i.toNat)) := ev_opD ha hb fun H v w f r1 r2 Q q => by
  cases (show v = _ from r1)
  cases (show w = _ from r2)
  exact ⟨s, i, rfl, rfl, h1, h2, h3, h4, q _ _ H (Same.refl H) rfl rfl⟩
end
/-! ### t[::-1] -/
section
open HT PyProof.Rows PySem.SeqAt PySem.MeetsSeq PySem.MeetsSeq2 PySem.MeetsSeq3
open PySem.AutoSeq1 (wpAny_loadPart')
variable {prog : Program} {w : World} {A : Around} {E : Value → Shared → Prop} {s : Shared}
theorem sliceApplied_rev {sl : Addr} {vl vu vs : Value} {n : Nat} {Q : Int × Int × Nat → Shared → Prop} (hs : s.heap.IsSliceOf sl vl vu vs) (pl : IsPart vl none) (pu : IsPart vu none) (ps : IsPart vs (some (-1)))
    (h : Q ((n : Int) - 1, -1, n) s) : wpAny (model prog w) A (Builtin.Slice.sliceApplied (.ref sl) (pure (n : Int))) Q E s := by
  obtain ⟨os, hos, hcs, hds⟩ := id hs
  unfold Builtin.Slice.sliceApplied Builtin.Slice.sliceFields
  refine wpAny_bind (wpAny_bind (wpAny_field hos hds (x := vl) rfl (wpAny_bind (wpAny_field hos hds (x := vu) rfl (wpAny_bind (wpAny_field hos hds (x := vs) rfl (wpAny_pure ?_)))))))
  refine wpAny_bind (HT.slicePart_ ps ?_)
  show wpAny _ _ (if ((-1 : Int) == 0) = true then _ else _) _ _ s
  rw [if_neg (by decide)]
  refine wpAny_bind (HT.slicePart_ pl (wpAny_bind (HT.slicePart_ pu (wpAny_bind (wpAny_pure ?_)))))
  have e : Builtin.Slice.slicePlaces ((n : Int) - 1) (-1) (-1) = n := by
    unfold Builtin.Slice.slicePlaces
    rw [if_neg (by decide)]
    by_cases h0 : n = 0
    · subst h0
      rfl
    · rw [if_pos (by omega), show (- -1 : Int) = 1 by decide, Int.ediv_one]
      omega
  show wpAny _ _ (pure ((n : Int) - 1, (-1 : Int), Builtin.Slice.slicePlaces ((n : Int) - 1) (-1) (-1))) _ _ s
  rw [e]
  exact wpAny_pure h
theorem filterMap_same {α β : Type} {f g : α → Option β} : ∀ {l : List α}, (∀ m ∈ l, f m = g m) → l.filterMap f = l.filterMap g
  | [], _ => rfl
  | a :: l, h => by
    rw [List.filterMap_cons, List.filterMap_cons, h a List.mem_cons_self, filterMap_same fun m hm => h m (List.mem_cons_of_mem _ hm)]
theorem pick_rev (xs : Array Value) : ((List.range xs.size).filterMap fun (m : Nat) => xs[((xs.size : Int) - 1 + (m : Int) * -1).toNat]?).toArray = xs.toList.reverse.toArray := by
  have h1 : (List.range xs.size).filterMap (fun (m : Nat) => xs[((xs.size : Int) - 1 + (m : Int) * -1).toNat]?) = ((List.range xs.size).map (fun k => xs.size - 1 - k)).filterMap (xs[·]?) := by
    rw [List.filterMap_map]
    refine filterMap_same fun m hm => ?_
    have := List.mem_range.mp hm
    show _ = xs[xs.size - 1 - m]?
    rw [show ((xs.size : Int) - 1 + (m : Int) * -1).toNat = xs.size - 1 - m by omega]
  rw [h1, PySem.W.krv_range, List.filterMap_reverse, PySem.W.krv_all]
theorem getItem_tuple_rev {t sl : Addr} {items : Array Value} {vl vu vs : Value} {Q : Value → Shared → Prop} (ht : IsTup s.heap t items) (hs : s.heap.IsSliceOf sl vl vu vs) (pl : IsPart vl none) (pu : IsPart vu none) (ps : IsPart vs (some (-1)))
    (h : Q (.ref s.heap.objs.size) { s with heap := s.heap.push { cls := .type "tuple", data := .seq items.toList.reverse.toArray } })
    (hsz : items.size ≤ sizeLine) : wpAny (model prog w) A (getItem (.ref t) (.ref sl)) Q E s := by
  have htake : sizeOk (.seq items.toList.reverse.toArray) := by
    show items.toList.reverse.toArray.size ≤ sizeLine
    rw [List.size_toArray, List.length_reverse, Array.length_toList]
    exact hsz
  obtain ⟨os, hos, hcs, hds⟩ := id hs
  have hTs : s.TypeIs (.ref sl) "slice" := ⟨os, hos, hcs⟩
  unfold getItem
  try with_reducible refine wpAny_holding ?_
  first | refine wpAny_bind (wpAny_pure ?_) | skip
  refine wpAny_bind (wpAny_sequenceKey ht.typeIs (by decide) ?_)
  refine wpAny_bind (wpAny_callSpecial?_slot (name := Str.ofString "__getitem__") ht.typeIs PyProof.Rows.slot_tuple_getitem
    (wpAny_call_entry PyProof.Rows.slot_tuple_getitem ht.typeIs entry_tuple_getitem ?_ (args_tuple_getitem _ _)))
  show wpAny _ _ (Builtin.Tuple.tupleItemsOf (.ref t) >>= _) _ _ s
  refine wpAny_bind (tupleItemsOf_ ht ?_)
  refine wpAny_bind (wpAny_typeOf hTs ?_)
  rw [if_pos (by decide)]
  refine wpAny_bind (sliceApplied_rev hs pl pu ps ?_)
  have hno : ¬ ((((items.size : Int) - 1) == 0 && (-1 : Int) == 1 && items.size == items.size) = true) := by
    intro q
    rw [Bool.and_eq_true, Bool.and_eq_true] at q
    exact absurd q.1.2 (by decide)
  show wpAny _ _ (if (((items.size : Int) - 1) == 0 && (-1 : Int) == 1 && items.size == items.size) = true then _ else _) _ _ s
  rw [if_neg hno, pick_rev]
  first
    | exact wpAny_bind (m := Builtin.Tuple.tupleExact _) (wpAny_newObj_type (wpAny_pure ⟨_, rfl, wpAny_pure h⟩) htake)
    | exact wpAny_bind (m := Builtin.Tuple.tupleExact _) (wpAny_newObj_type (wpAny_bind (wpAny_pure (wpAny_pure ⟨_, rfl, wpAny_pure h⟩))) htake)
    | exact wpAny_bind (wpAny_bind (m := Builtin.Tuple.tupleExact _) (wpAny_newObj_type (wpAny_pure (wpAny_pure ⟨_, rfl, wpAny_pure h⟩)) htake))
    | exact wpAny_bind (wpAny_bind (m := Builtin.Tuple.tupleExact _) (wpAny_newObj_type (wpAny_pure ⟨_, rfl, wpAny_pure h⟩) htake))
end
def tRevT (K : PySem.W.Frag) (te : TE) : TE := fun σ H Q => te σ H fun x H1 => ∃ a xs, x = .ref a ∧ SqT K H1 a xs ∧ ∀ p, H1 p = none → Q (.ref p) (upd H1 p (.tup xs.reverse))
theorem pe_revT {X : Cx} {te : TE} {e : Expr} {k : Nat} {p1 p2 p3 pos : Pos} (he : PE X e te) : PE X (.Subscript e (.Slice none none (some (.UnaryOp .USub (.Constant (.int 1) k p1) p2)) p3) pos) (tRevT X.K te) := by
  refine ⟨fun pins s σ H Q I h => ?_⟩
  refine Subscript_ (thn (he.run pins s σ H _ I h) fun v s1 ⟨x, H1, I1, r1, q1⟩ => ?_)
  obtain ⟨a, xs, ex, hx, q⟩ := q1
  subst ex
  cases r1
  have hst : PO X (some (.UnaryOp .USub (.Constant (.int 1) k p1) p2)) (tPart (tUn (rU fun i => .int (-i)) (tC (.int 1)))) := po_some (pe_un un_neg pe_int)
  refine wpAny_Slice (thn (po_none.run pins s1 σ H1 (fun o H2 => o = none ∧ H2 = H1) I1 ⟨rfl, rfl⟩) fun vl s2 ⟨l, H2, I2, pl, el, e2⟩ => ?_)
  subst el e2
  refine thn (po_none.run pins s2 σ H2 (fun o H3 => o = none ∧ H3 = H2) I2 ⟨rfl, rfl⟩) fun vu s3 ⟨u, H3, I3, pu, eu, e3⟩ => ?_
  subst eu e3
  refine thn (hst.run pins s3 σ H3 (fun o H4 => o = some (-1) ∧ H4 = H3) I3 ⟨1, rfl, -1, rfl, rfl, rfl⟩) fun vs s4 ⟨o, H4, I4, ps, eo, e4⟩ => ?_
  subst eo e4
  have I5 : Inv X pins σ H4 { s4 with heap := s4.heap.push { cls := .type "slice", data := .fields #[vl, vu, vs] } } := I4.kept (t' := s4.toks) fun b ob q => Heap.get?_push_of_some _ q
  obtain ⟨its, r, ht, hz⟩ := I5.tuple hx
  have hlen := r.length
  show wpAny (model X.prog X.w) X.A (subscriptTail e (.Slice none none (some (.UnaryOp .USub (.Constant (.int 1) k p1) p2)) p3) (.ref a) (.ref s4.heap.objs.size)) (EP X pins σ Q) X.xe { s4 with heap := s4.heap.push { cls := .type "slice", data := .fields #[vl, vu, vs] } }
  refine PyProof.Rows.tail_any (ops := [.ref a, .ref s4.heap.objs.size]) ht.typeIs (PyProof.Rows.slot_tuple_getitem.lookup) ?_ (by with_unfolding_all rfl)
  refine getItem_tuple_rev ht (Heap.IsSliceOf.new _ vl vu vs) pl pu ps ?_ (by rw [List.size_toArray]; omega)
  refine ⟨.ref _, _, I5.laid (t' := s4.toks) (o := .tup xs.reverse) (fun b ob q => Heap.get?_push_of_some _ q) (Nat.le_refl _) ?_, rfl, q _ (I5.hok.fresh (Nat.le_refl _))⟩
  exact ⟨by rw [List.length_reverse]; exact hz, _, r.reverse, IsTup.new _ _⟩
section
variable {K : PySem.W.Frag} {φ : Addr → Prop} {J : Hp → Prop} {ρ : List (Option D)} {te : TE} {ds : List D}
theorem ev_revT (ha : EvD K φ J te ρ (.tup ds)) : EvD K φ J (tRevT K te) ρ (.tup ds.reverse) := fun σ H A Q q =>
  ha σ H A _ fun v x H1 b1 A1 e1 r1 => by
    subst e1
    obtain ⟨a, vs, rfl, pa, ra⟩ := rep_tup r1
    exact ⟨a, vs, rfl, pa.sq, fun p hp => q _ _ _ (b1.trans (But.of (same_new hp))) (A1.same (same_new hp)) rfl ⟨p, _, rfl, .inl ⟨A1.fr p hp, .inl upd_same⟩, (reps_rev ra).mono (But.of (same_new hp))⟩⟩
end
/-! ### a comprehension within a comprehension -/
theorem blk_in {N : List Str} {sc scope scope2 : Scope} {own : List (Str × Nat)} {cl : List (Str × Addr)} {C : Addr} {env : Env} (hs : env.scope = sc) (h : blkC N (relS scope sc) scope2 own = true) : BlkOk N (compEnvC scope cl C env).scope scope2 own := by
  have e : (compEnvC scope cl C env).scope = relS scope env.scope := rfl
  rw [e, hs]
  exact blkOk_by h

-- import HandS.Lambda
-- import HandS.Conv
/-! ### a lambda of one name, handed to a def -/
/-- one parameter, no other name of its own: captured ones and globals -/
structure LamS1 (sc scope : Scope) (x : Str) : Prop where
  kind : scope.kind = .function
  co : scope.isCoroutine = false
  gen : scope.isGenerator = false
  par : scope.names.lookup x = some .local
  own : ∀ y ∈ scope.names, y.2 ≠ .cell ∧ (y.2 = .local → y.1 = x)
  free : ∀ y ∈ scope.names, y.2 = .free → sc.names.lookup y.1 = some .cell ∨ sc.names.lookup y.1 = some .free
def lamS1B (sc scope : Scope) (x : Str) : Bool :=
  decide (scope.kind = .function) && !scope.isCoroutine && !scope.isGenerator && decide (scope.names.lookup x = some .local) && scope.names.all fun y => !decide (y.2 = .cell) && (!decide (y.2 = .local) || decide (y.1 = x)) && (!decide (y.2 = .free) || decide (sc.names.lookup y.1 = some .cell) || decide (sc.names.lookup y.1 = some .free))
theorem lamS1_by {sc scope : Scope} {x : Str} (h : lamS1B sc scope x = true) : LamS1 sc scope x := by
  unfold lamS1B at h
  simp only [Bool.and_eq_true, Bool.or_eq_true, Bool.not_eq_true', decide_eq_true_eq, decide_eq_false_iff_not, List.all_eq_true] at h
  obtain ⟨⟨⟨⟨h1, h2⟩, h3⟩, h0⟩, h4⟩ := h
  refine ⟨h1, h2, h3, h0, fun y hy => ⟨(h4 y hy).1.1, fun e => ?_⟩, fun y hy e => ?_⟩
  · rcases (h4 y hy).1.2 with z | z
    · exact absurd e z
    · exact z
  · rcases (h4 y hy).2 with (z | z) | z
    · exact absurd e z
    · exact .inl z
    · exact .inr z
section
open LamX
theorem LamS1.has {X : Cx} {scope : Scope} {x : Str} (L : LamS1 X.env.scope scope x) (ok : X.Ok) : ∀ y ∈ scope.names, y.2 = .free → ∃ c, X.env.cells.lookup y.1 = some c := fun y hy e => by
  rcases L.free y hy e with k | k
  · exact ok.has _ (.inl k)
  · exact ok.has _ (.inr k)
section
variable {X : Cx} {pins : List (Addr × Obj)} {σ : L2.St} {H HZ : Hp} {s s1 : Shared}
theorem lam_start1 {A : Around} {outer : List Env} {E : XK} {scope : Scope} {f c' : Addr} {h₁ : Heap} {tk : Nat} {x : Str} {i : Nat} {v : V} {u : Value} (I : Inv X pins σ H s) (L : LamS1 X.env.scope scope x) (hN : X.N.Nodup) (hi : X.N[i]? = some x) (hv : RelV v u) (e0 : Env0 X.prog X.w X.K X.mg X.base A outer s1 HZ) (hd : A.handled = none)
    (un : Un (frs X.stack) [] H HZ s.heap s1.heap) (hns : h₁.Ns s1.heap.objs.size fun y => ([(x, u)] : List (Str × Value)).reverse.lookup y) (kp : ∀ b o, s1.heap.get? b = some o → h₁.get? b = some o) :
    Inv (lamCx X A outer s1 HZ E scope f c') [] (σ.set i (some v)) HZ { s1 with heap := h₁, toks := tk } := by
  have hfree := L.has I.ok
  have cm : ∀ {y c}, (cloFrom X.env.cells scope.names []).lookup y = some c → X.env.cells.lookup y = some c := fun {y c} e => by
    rcases cloFrom_mem (PySem.mem_of_lookup e) with hm | ⟨h1, h2⟩
    · cases hm
    · obtain ⟨c1, hc⟩ := hfree _ h1 rfl
      have hc : X.env.cells.lookup y = some c1 := hc
      have e2 : c = c1 := by
        rw [h2, hc] <;> rfl
      rw [e2]
      exact hc
  have look : ∀ {y}, scope.names.lookup y = some .free → ∃ c, (cloFrom X.env.cells scope.names []).lookup y = some c := fun {y} hl => by
    have hy : (y, NameKind.free) ∈ scope.names := PySem.mem_of_lookup hl
    exact mem_lookup (cloFrom_has (cells := X.env.cells) (acc := []) hy)
  have cellK : ∀ {c : Addr} {v : Option Value}, H c = none → s.heap.IsCell c v → h₁.IsCell c v := fun {c v} n ⟨o, ho, hd⟩ => by
    obtain ⟨sl, q⟩ := un.any ho n (by simp)
    exact ⟨_, kp _ _ q, hd⟩
  have noA : ∀ b : Addr, b ∉ (lamCx X A outer s1 HZ E scope f c').ex := fun b z => absurd (show b ∈ ([] : List Addr) from z) (by simp)
  refine ⟨⟨e0.mod, L.kind, rfl, rfl, Nat.le_refl _, fun y z c e1 e2 => I.ok.inj y z c (cm e1) (cm e2), fun y hy => ?_, fun y c z _ => ?_, fun _ => hd, Around.frames_deeper e0.frames, .inr ⟨rfl, rfl⟩, fun b z => absurd z (noA b), e0.bs, e0.bsz, fun b _ _ => noA b,
      fun b z => absurd z (noA b), e0.funs, e0.frf⟩,
    rfl, e0.bare, Un.kept kp, ⟨_, hns, fun j y v' e1 e2 e3 => ?_⟩, fun y c e => ?_, e0.hok.fresh (Nat.le_refl _), fun y c e => ?_, fun q hq => absurd (show q ∈ ([] : List (Addr × Obj)) ++ [] from hq) (by simp), e0.hok.kept kp, by rw [List.length_set]; exact I.len⟩
  · have hy : scope.names.lookup y = some .cell ∨ scope.names.lookup y = some .free := hy
    rcases hy with hy | hy
    · exact absurd rfl (L.own _ (PySem.mem_of_lookup hy)).1
    · exact look hy
  · have z : false = true := z
    cases z
  · have e1 : X.N[j]? = some y := e1
    have e3 : Vis scope y := e3
    rcases e3 with k | k | k
    · have hy : y = x := (L.own _ (PySem.mem_of_lookup k)).2 rfl
      subst hy
      have hj : j = i := nodup_ix hN e1 hi
      subst hj
      have hlt : j < σ.length := by
        rw [I.len]
        exact (List.getElem?_eq_some_iff.mp e1).1
      rw [List.getElem?_set_self hlt] at e2
      cases e2
      refine ⟨u, hv, .inl ⟨k, ?_⟩⟩
      show List.lookup y [(y, u)] = some u
      simp [List.lookup]
    · exact absurd rfl (L.own _ (PySem.mem_of_lookup k)).1
    · have hyx : y ≠ x := fun z => by
        rw [z, L.par] at k
        cases k
      have hji : i ≠ j := fun z => by
        subst z
        rw [hi] at e1
        exact hyx (Option.some.inj e1).symm
      rw [List.getElem?_set_ne hji] at e2
      obtain ⟨m, hn, hl⟩ := I.loc
      have hvis : Vis X.env.scope y := (L.free _ (PySem.mem_of_lookup k) rfl).elim (fun k => .inr (.inl k)) (fun k => .inr (.inr k))
      obtain ⟨w', r, q⟩ := hl j y v' e1 e2 hvis
      obtain ⟨c2, h2⟩ := look k
      refine ⟨w', r, .inr ⟨.inr k, c2, h2, ?_⟩⟩
      have c1 := cm h2
      rcases q with ⟨k', _⟩ | ⟨_, c3, e', z⟩
      · have k' : X.env.scope.names.lookup y = some .local := k'
        rcases L.free _ (PySem.mem_of_lookup k) rfl with k2 | k2 <;> rw [show X.env.scope.names.lookup y = _ from k2] at k' <;> cases k'
      · rw [c1] at e'
        cases e'
        exact cellK (I.freeC y _ c1) z
  · obtain ⟨w', z⟩ := I.cell y c (cm e)
    exact ⟨w', cellK (I.freeC y c (cm e)) z⟩
  · obtain ⟨v, o, ho, hd⟩ := I.cell y c (cm e)
    exact un.free c o ho (I.freeC y c (cm e)) (by simp)
/-- x(e), in the def that got the lambda: Z is that def's context, entered at s -/
theorem pe_act1 {Ng : List Str} {qg : Str} {sg : Scope} {g f c' : Addr} {cdg pm ctv : Value} {params : Arguments} {body e : Expr} {scope : Scope} {k i ix : Nat} {a x : Str} {tb : TE} {ta : TA} {p1 p2 : Pos}
    (I : Inv X pins σ H s) (L : LamS1 X.env.scope scope x) (hXN : X.N.Nodup) (hx : X.N[ix]? = some x) (hf : s.heap.get? f = some (PySem.W.kla_obj "<lambda>" (X.env.qual ++ "<lambda>") params body scope (cloFrom X.env.cells scope.names []) pm c' ctv)) (hfn : H f = none) (hfr : f ∉ frs X.stack)
    (hbind : ∀ u, bindArgs (PySem.W.kla_fn "<lambda>" (X.env.qual ++ "<lambda>") params body scope (cloFrom X.env.cells scope.names []) pm (.ref c') ctv) ⟨[u], []⟩ = pure [(x, u)])
    (hr : Room (k + 1) (X.A.deeper (envOfC qg sg s.heap.objs.size g cdg)))
    (hbody : ∀ (A : Around) (outer : List Env) (s : Shared) (H : Hp), Room k (A.deeper (lamEnv X scope s.heap.objs.size f c')) → PE (lamCx X A outer s H C8.E0 scope f c').nox body tb)
    (hN : Ng[i]? = some a) (hv : Vis sg a) (ha : PA (cxOf C8.CX0 X.prog X.w X.K X.mg X.base Ng qg sg g cdg X.A X.stack s H C8.E0).nox [e] ta)
    (he : starEach [e] (cxOf C8.CX0 X.prog X.w X.K X.mg X.base Ng qg sg g cdg X.A X.stack s H C8.E0).nox.env = (false, eval e (cxOf C8.CX0 X.prog X.w X.K X.mg X.base Ng qg sg g cdg X.A X.stack s H C8.E0).nox.env) :: starEach [] (cxOf C8.CX0 X.prog X.w X.K X.mg X.base Ng qg sg g cdg X.A X.stack s H C8.E0).nox.env)
    (hd : (a == ("__debug__" : Str)) = false := by decide) (hcd : (a == ("__classdict__" : Str)) = false := by decide) :
    PE (cxOf C8.CX0 X.prog X.w X.K X.mg X.base Ng qg sg g cdg X.A X.stack s H C8.E0).nox (.Call (.Name a p1) [e] [] p2)
      (fun σZ HZ Q => σZ[i]? = some (some (.ref f)) ∧ ta σZ HZ fun vs H2 => ∃ v, vs = [v] ∧ H2 c' = some (CodeO c' (X.env.qual ++ "<lambda>")) ∧ tb (σ.set ix (some v)) H2 Q) := by
  refine ⟨fun pinsZ sZ σZ HZ Q IZ h => ?_⟩
  obtain ⟨hs, ht⟩ := h
  refine wpAny_Call_Name_kw (thn ((pe_var (pos := p1) (i := i) hN hv hd hcd).run pinsZ sZ σZ HZ (fun v H1 => v = .ref f ∧ H1 = HZ) IZ ⟨.ref f, hs, rfl, rfl⟩) fun u s1 ⟨v, H1, I1, r1, q1⟩ => ?_)
  obtain ⟨ev, eH⟩ := q1
  subst ev
  rw [eH] at I1
  obtain rfl : u = Value.ref f := r1
  have atF : ∀ {pins2 : List (Addr × Obj)} {σ2 : L2.St} {H2 : Hp} {s2 : Shared}, Inv (cxOf C8.CX0 X.prog X.w X.K X.mg X.base Ng qg sg g cdg X.A X.stack s H C8.E0).nox pins2 σ2 H2 s2 → s2.heap.get? f = some (PySem.W.kla_obj "<lambda>" (X.env.qual ++ "<lambda>") params body scope (cloFrom X.env.cells scope.names []) pm c' ctv) := fun I2 =>
    I2.base.keep f _ hf hfn hfr (fun z => nomatch (show f ∈ ([] : List Addr) from z))
  refine PySem.W.callWith_F ⟨_, _, _, _, atF I1⟩ (thn (ha.run p2 pinsZ s1 σZ HZ _ I1 ht) fun us s2 ⟨vs, H2, I2, r2, v, evs, hc, q2⟩ => ⟨⟨_, _, _, _, atF I2⟩, ?_⟩) he
  subst evs
  obtain ⟨u2, rfl, rv⟩ : ∃ u2, us = [u2] ∧ RelV v u2 := by
    cases r2 with
    | cons a b =>
      cases b
      exact ⟨_, rfl, a⟩
  have of1 := atF I2
  have un : Un (frs X.stack) [] H H2 s.heap s2.heap := I2.base
  obtain ⟨⟨oc, vs, t, hoc, hdc, hvc⟩, _, _⟩ := I2.hok c' _ hc
  have rc : codeAny (model X.prog X.w) (X.A.deeper (envOfC qg sg s.heap.objs.size g cdg)) (.call (.ref f) ⟨[u2], []⟩) (CR C8.CX0 (envOfC qg sg s.heap.objs.size g cdg :: X.stack) X.prog X.w H2 s2 Q C8.E0) s2 := by
    refine PySem.W.kla_callFunE hr.depth of1 rfl L.co L.gen rfl ⟨c', oc, vs, t, rfl, hoc, hdc, hvc⟩ ?_
    rw [hbind]
    refine wpAny_pure (wpAny_newFunctionEnv (fun y hy => (L.own y hy).1) (fun y hy => by rw [List.mem_singleton.mp hy]; exact L.par) (fun h₁ hns hsb => ⟨I2.nolimit.fresh _ hsb, ?_⟩) L.kind)
    show codeAny _ _ (.expr body (lamEnv X scope s2.heap.objs.size f c')) _ _
    have kp : ∀ b o, s2.heap.get? b = some o → h₁.get? b = some o := fun b o e => hsb.extBut b o (Nat.ne_of_lt (Heap.lt_size e)) (Heap.get?_push_of_some _ e)
    have J : Inv (lamCx X (X.A.deeper (envOfC qg sg s.heap.objs.size g cdg)) (envOfC qg sg s.heap.objs.size g cdg :: X.stack) s2 H2 C8.E0 scope f c') [] (σ.set ix (some v)) H2 { s2 with heap := h₁, toks := s2.toks + ([(x, u2)] : List (Str × Value)).length } :=
      lam_start1 I L hXN hx rv I2.env0 hr.hd un hns kp
    refine PySem.W.kla_codeExpr (wpAny_mono ((hbody _ _ s2 H2 (hr.deeper _)).run [] _ _ H2 Q (J.wish _) q2) (fun v s' hq => ?_) fun e s' hq => hq.elim)
    obtain ⟨w', H', J', rv, q⟩ := hq
    exact ⟨w', H', J'.os, J'.bare, J'.base, J'.hok, rv, q⟩
  refine wpAny_call (codeAny_mono rc fun r s' hq => ?_)
  cases r with
  | error e => exact (show False from hq).elim
  | ok fl =>
    cases fl with
    | ret u => exact I2.after hq
    | next => exact False.elim hq
    | brk => exact False.elim hq
    | cont => exact False.elim hq
end
/-- the table at P tells the code object of the place -/
def FullAt (P : Addr) (pos : Pos) (H : Hp) : Prop := ∃ ps : Array Value, H P = some (.tbl ps) ∧ (codeAmong pos ps.toList).isSome = true
theorem among_self {pos : Pos} {c : Value} (l : List Value) (h : TriplesOk l) : (codeAmong pos (l ++ [rawInt pos.line, rawInt pos.col, c])).isSome = true := by
  fun_induction TriplesOk l with
  | case1 =>
    simp [rawInt, codeAmong]
  | case2 a t b u x rest ih =>
    simp only [List.cons_append, codeAmong]
    split
    · rfl
    · exact ih h
  | case3 l h1 h2 => exact h.elim
/-- HandS's lam_make2, all but the table told to stay -/
theorem lam_make4 {X : Cx} {pins : List (Addr × Obj)} {σ : L2.St} {H : Hp} {s : Shared} {T : List (Addr × Str)} {c P : Addr} {params : Arguments} {body : Expr} {scope : Scope} {pos : Pos} {E : Value → Shared → Prop} {Q : Value → Shared → Prop} (I : Inv X pins σ H s) (TB : TabB X.base X.mg c P) (hcode : X.env.code = .ref c)
    (hm : (P, X.env.qual ++ "<lambda>") ∈ T) (hu : ∀ p ∈ T, p.1 = P → p.2 = X.env.qual ++ "<lambda>") (hT : Tabs T H) (hdef : defaultsOf params X.env = ([], [])) (hfree : ∀ y ∈ scope.names, y.2 = .free → ∃ c, X.env.cells.lookup y.1 = some c)
    (h : ∀ (f c' : Addr) (pm ctv : Value) (H1 : Hp) (s' : Shared), s.heap.objs.size ≤ f → FullAt P pos H1 → (FullAt P pos H → H1 = H) → Inv X pins σ H1 s' → ButP P H H1 → Tabs T H1 →
      s'.heap.get? f = some (PySem.W.kla_obj "<lambda>" (X.env.qual ++ "<lambda>") params body scope (cloFrom X.env.cells scope.names []) pm c' ctv) → H1 f = none → f ∉ frs X.stack → H1 c' = some (CodeO c' (X.env.qual ++ "<lambda>")) → Q (.ref f) s') :
    wpAny (model X.prog X.w) X.A (eval (.Lambda params body scope pos) X.env) Q E s := by
  obtain ⟨ps, hP, ht, ha⟩ := hT _ hm
  refine PySem.W.kla_eval hdef ?_
  have bP : s.heap.BuiltinsAt X.mg P := TB.bm.keeps I.bk
  have hP' : s.heap.get? P = some { cls := .none, data := .fields ps } := I.hok P _ hP
  have nofr : ∀ f, s.heap.objs.size ≤ f → f ∉ frs X.stack := fun f hf z => by
    rcases List.mem_cons.mp (I.stkSub _ z) with e | e
    · have h1 := I.lt
      rw [← e] at h1
      exact Nat.lt_irrefl _ (Nat.lt_of_lt_of_le h1 hf)
    · exact I.nofs hf e
  cases hc : codeAmong pos ps.toList with
  | none =>
    refine PySem.W.kla_makeFunction (mg := X.mg) (c := c) (P := P) (ps := ps) (closure_ok hfree) I.ok.glob (I.mod.glob.keeps I.bk) hcode (TB.code.keeps I.bk) hP' ht hc TB.gP bP fun c' ctv h' tk hx hge hlt hrec htb => ?_
    obtain ⟨c2, oc, vs, t, e2, hoc, hd, hv⟩ := hrec
    cases e2
    have hsz : s.heap.objs.size ≤ h'.objs.size := Nat.le_trans hge (Nat.le_of_lt hlt)
    have nC : H c' = none := I.hok.fresh hge
    have I1 := inv_table (t' := tk) (more := #[rawInt pos.line, rawInt pos.col, .ref c']) (h' := h'.push (PySem.W.kla_obj "<lambda>" (X.env.qual ++ "<lambda>") params body scope (cloFrom X.env.cells scope.names []) ((X.mg "__name__").getD .none) c' ctv)) I hP
      (fun b o hb e => Heap.get?_push_of_some _ (hx b o hb e)) (Heap.get?_push_of_some _ htb) hge ⟨oc, vs, t, Heap.get?_push_of_some _ hoc, hd, hv⟩
    have hB : ButP P H (upd (upd H P (.tbl (ps ++ #[rawInt pos.line, rawInt pos.col, .ref c']))) c' (CodeO c' (X.env.qual ++ "<lambda>"))) := fun b o n e => by
      rw [upd_ne (ne_of_none e nC), upd_ne n]
      exact e
    have hE : ExtN H (upd (upd H P (.tbl (ps ++ #[rawInt pos.line, rawInt pos.col, .ref c']))) c' (CodeO c' (X.env.qual ++ "<lambda>"))) := fun b o e n => by
      rw [upd_ne (ne_of_none e nC), upd_ne (fun z => n ps (Option.some.inj (e.symm.trans (by rw [z]; exact hP))))]
      exact e
    have eL : (ps ++ #[rawInt pos.line, rawInt pos.col, .ref c']).toList = ps.toList ++ [rawInt pos.line, rawInt pos.col, .ref c'] := by simp
    refine h h'.objs.size c' ((X.mg "__name__").getD .none) ctv _ _ hsz ⟨_, by rw [upd_ne (ne_of_none hP nC), upd_same], by rw [eL]; exact among_self _ ht⟩ (fun ⟨ps2, e1, e2⟩ => by
      rw [hP] at e1
      cases e1
      rw [hc] at e2
      cases e2) I1 hB (fun p hp => ?_) (Heap.get?_push_size _ rfl) ?_ (nofr _ hsz) upd_same
    · by_cases hb : p.1 = P
      · rw [hu p hp hb, hb]
        refine ⟨_, by rw [upd_ne (ne_of_none hP nC), upd_same], by rw [eL]; exact PySem.TriplesOk_snoc _ _ _ _ ht, fun p' cv hcv => ?_⟩
        rw [eL] at hcv
        rcases among_app _ ht hcv with z | z
        · obtain ⟨c0, e1, e2⟩ := ha p' cv z
          exact ⟨c0, e1, hE _ _ e2 codeO_ne⟩
        · exact ⟨c', z, upd_same⟩
      · obtain ⟨ps', a1, a2, a3⟩ := hT p hp
        refine ⟨ps', by rw [upd_ne (ne_of_none a1 nC), upd_ne hb]; exact a1, a2, fun p' cv hcv => ?_⟩
        obtain ⟨c0, e1, e2⟩ := a3 p' cv hcv
        exact ⟨c0, e1, hE _ _ e2 codeO_ne⟩
    · have n1 : h'.objs.size ≠ c' := Nat.ne_of_gt hlt
      have n2 : h'.objs.size ≠ P := Nat.ne_of_gt (Nat.lt_of_lt_of_le (Heap.lt_size hP') hsz)
      rw [upd_ne n1, upd_ne n2]
      exact I.hok.fresh hsz
  | some cv =>
    obtain ⟨c', e, hco⟩ := ha pos cv hc
    subst e
    refine PySem.W.kla_makeFunctionHit (mg := X.mg) (c := c) (P := P) (ps := ps) (closure_ok hfree) I.ok.glob (I.mod.glob.keeps I.bk) hcode (TB.code.keeps I.bk) hP' ht hc bP fun ctv h' tk hx hsz => ?_
    have I1 : Inv X pins σ H { s with heap := h'.push (PySem.W.kla_obj "<lambda>" (X.env.qual ++ "<lambda>") params body scope (cloFrom X.env.cells scope.names []) ((X.mg "__name__").getD .none) c' ctv), toks := tk } := I.kept fun b o e => Heap.get?_push_of_some _ (hx b o e)
    exact h h'.objs.size c' ((X.mg "__name__").getD .none) ctv H _ hsz ⟨ps, hP, by rw [hc]; rfl⟩ (fun _ => rfl) I1 (fun _ _ _ e => e) hT (Heap.get?_push_size _ rfl) (I.hok.fresh hsz) (nofr _ hsz) hco
theorem lam_make3 {X : Cx} {pins : List (Addr × Obj)} {σ : L2.St} {H : Hp} {s : Shared} {T : List (Addr × Str)} {c P : Addr} {params : Arguments} {body : Expr} {scope : Scope} {pos : Pos} {E : Value → Shared → Prop} {Q : Value → Shared → Prop} (I : Inv X pins σ H s) (TB : TabB X.base X.mg c P) (hcode : X.env.code = .ref c)
    (hm : (P, X.env.qual ++ "<lambda>") ∈ T) (hu : ∀ p ∈ T, p.1 = P → p.2 = X.env.qual ++ "<lambda>") (hT : Tabs T H) (hdef : defaultsOf params X.env = ([], [])) (hfree : ∀ y ∈ scope.names, y.2 = .free → ∃ c, X.env.cells.lookup y.1 = some c)
    (h : ∀ (f c' : Addr) (pm ctv : Value) (H1 : Hp) (s' : Shared), Inv X pins σ H1 s' → ButP P H H1 → Tabs T H1 →
      s'.heap.get? f = some (PySem.W.kla_obj "<lambda>" (X.env.qual ++ "<lambda>") params body scope (cloFrom X.env.cells scope.names []) pm c' ctv) → H1 f = none → f ∉ frs X.stack → H1 c' = some (CodeO c' (X.env.qual ++ "<lambda>")) → Q (.ref f) s') :
    wpAny (model X.prog X.w) X.A (eval (.Lambda params body scope pos) X.env) Q E s :=
  lam_make4 I TB hcode hm hu hT hdef hfree fun f c' pm ctv H1 s' _ _ _ I1 b t a1 a2 a3 a4 => h f c' pm ctv H1 s' I1 b t a1 a2 a3 a4
/-- the def that calls what it got as its second: TT: what it makes of the first and of the lambda's reading -/
def GivesTo1 (X : Cx) (Ng : List Str) (x : Str) (sg : Scope) (g : Addr) (cdg : Value) (bg : List Stmt) (a : Str) (q : Str) (k : Nat) (TT : V → (V → Hp → VK → Prop) → Hp → VK → Prop) : Prop :=
  ∀ (f c' : Addr) (s : Shared) (H : Hp) (Q : VK) (v1 : V) (tl : V → Hp → VK → Prop),
    Room k (X.A.deeper (envOfC x sg s.heap.objs.size g cdg)) →
    (∀ (e : Expr) (ta : TA) (p1 p2 : Pos), PA (cxOf C8.CX0 X.prog X.w X.K X.mg X.base Ng x sg g cdg X.A X.stack s H C8.E0).nox [e] ta →
      starEach [e] (cxOf C8.CX0 X.prog X.w X.K X.mg X.base Ng x sg g cdg X.A X.stack s H C8.E0).nox.env = (false, eval e (cxOf C8.CX0 X.prog X.w X.K X.mg X.base Ng x sg g cdg X.A X.stack s H C8.E0).nox.env) :: starEach [] (cxOf C8.CX0 X.prog X.w X.K X.mg X.base Ng x sg g cdg X.A X.stack s H C8.E0).nox.env →
      PE (cxOf C8.CX0 X.prog X.w X.K X.mg X.base Ng x sg g cdg X.A X.stack s H C8.E0).nox (.Call (.Name a p1) [e] [] p2) (fun σZ HZ Q => σZ[1]? = some (some (.ref f)) ∧ ta σZ HZ fun vs H2 => ∃ v, vs = [v] ∧ H2 c' = some (CodeO c' q) ∧ tl v H2 Q)) →
    H c' = some (CodeO c' q) → TT v1 tl H Q →
    ∃ t, PSs (cxOf C8.CX0 X.prog X.w X.K X.mg X.base Ng x sg g cdg X.A X.stack s H C8.E0).nox bg t ∧ t { nx := fun _ H' => Q .non H', rt := Q } (L2.start Ng [v1, .ref f]) H
def tLam1 (P : Addr) (T : List (Addr × Str)) (TT : V → (V → Hp → VK → Prop) → Hp → VK → Prop) (ix : Nat) (ta t : TE) : TE := fun σ H Q => ta σ H fun v1 H0 => Tabs T H0 ∧ ∀ H1, ButP P H0 H1 → Tabs T H1 → TT v1 (fun v H' Q' => t (σ.set ix (some v)) H' Q') H1 Q
/-- x(e, lambda y: body) -/
theorem pe_lamcall1 {X : Cx} {T : List (Addr × Str)} {TT : V → (V → Hp → VK → Prop) → Hp → VK → Prop} {x a b y : Str} {g c P : Addr} {k ix : Nat} {pg : Arguments} {bg : List Stmt} {sg : Scope} {dV kV doc pm cdv ct oc : Value} {an od : Option Addr} {osl : Array (Option Value)} {Ng : List Str}
    {params : Arguments} {e body : Expr} {scope : Scope} {ta t : TE} {p lpos pos : Pos} (hg : Gl X x) (hm : X.mg x = some (.ref g)) (hk : PySem.W.keepIn X.K (.ref g) = true)
    (lk : X.K.lookup g = some ⟨oc, od, .func (PySem.W.fnOf x x pg bg sg dV kV doc pm an cdv ct), osl⟩) (hcg : PySem.W.codeIn X.K cdv x = true) (hb : L2.Binds X.K (PySem.W.fnOf x x pg bg sg dV kV doc pm an cdv ct) [b, a] []) (Sg : FnScope Ng [b, a] sg) (hNg : Ng[1]? = some a) (hva : Vis sg a)
    (hG : GivesTo1 X Ng x sg g cdv bg a (X.env.qual ++ "<lambda>") (k + 1) TT)
    (TB : TabB X.base X.mg c P) (hcode : X.env.code = .ref c) (hmT : (P, X.env.qual ++ "<lambda>") ∈ T) (hu : ∀ p ∈ T, p.1 = P → p.2 = X.env.qual ++ "<lambda>") (hr : Room (k + 2) X.A) (L : LamS1 X.env.scope scope y) (hXN : X.N.Nodup) (hx : X.N[ix]? = some y) (hdef : defaultsOf params X.env = ([], []))
    (hbind : ∀ (q : Str) (cl : List (Str × Addr)) (pm cv ctv u : Value), bindArgs (PySem.W.kla_fn "<lambda>" q params body scope cl pm cv ctv) ⟨[u], []⟩ = pure [(y, u)])
    (he : PE X e ta) (hbody : ∀ (A : Around) (outer : List Env) (s : Shared) (H : Hp) (f c' : Addr), Room k (A.deeper (lamEnv X scope s.heap.objs.size f c')) → PE (lamCx X A outer s H C8.E0 scope f c').nox body t)
    (hs : starEach [e, .Lambda params body scope lpos] X.env = (false, eval e X.env) :: starEach [.Lambda params body scope lpos] X.env := by rfl)
    (hdb : (x == ("__debug__" : Str)) = false := by decide) (hd : (a == ("__debug__" : Str)) = false := by decide) (hcd : (a == ("__classdict__" : Str)) = false := by decide) :
    PE X (.Call (.Name x p) [e, .Lambda params body scope lpos] [] pos) (tLam1 P T TT ix ta t) := by
  refine ⟨fun pins s σ H Q I h => ?_⟩
  refine wpAny_Call_Name_kw (ld_glob I hg hm ?_ hdb)
  refine PySem.W.callWith_K (h₀ := X.base) I.ok.mod.kin hk ?_ hs (by rfl)
  rw [hs]
  show wpAny _ _ (spliced ((false, eval e X.env) :: backTo pos (starEach [.Lambda params body scope lpos] X.env))) _ _ s
  refine Calls.spliced_cons (thn (he.run pins s σ H _ I h) fun u1 s0 ⟨v1, H0, I0, r1, hT, h1⟩ => ?_)
  show wpAny _ _ (spliced ((false, eval (.Lambda params body scope lpos) X.env) :: backTo pos (starEach [] X.env))) _ _ s0
  refine Calls.spliced_cons (lam_make3 I0 TB hcode hmT hu hT hdef (L.has I0.ok) fun f c' pm' ctv H1 s' I1 eN T1 hf hfn hfr hco => ?_)
  refine Calls.spliced_nil ⟨I1.kIn, ?_⟩
  have rc : codeAny (model X.prog X.w) X.A (.call (.ref g) ⟨[u1, .ref f], []⟩) (CR C8.CX0 X.stack X.prog X.w H1 s' Q C8.E0) s' := by
    refine run_ofS (N := Ng) (ps := [b, a]) (us := [u1, .ref f]) (vs := [v1, .ref f]) lk hcg Sg hr I1.env0 (hb s' [u1, .ref f] I1.kIn rfl) (.cons r1 (.cons rfl .nil)) rfl fun hr' => ?_
    obtain ⟨t', ht', hq'⟩ := hG f c' s' H1 Q v1 (fun v H' Q' => t (σ.set ix (some v)) H' Q') hr' (fun e2 ta2 p1 p2 ha2 he2 => pe_act1 (i := 1) I1 L hXN hx hf hfn hfr (hbind _ _ _ _ _) hr' (fun A outer s H hr2 => hbody A outer s H f c' hr2) hNg hva ha2 he2 hd hcd) hco (h1 H1 eN T1)
    exact ⟨t', ht'.nox, hq'⟩
  refine wpAny_call (codeAny_mono rc fun r s2 hq => ?_)
  cases r with
  | error e => exact (show False from hq).elim
  | ok fl =>
    cases fl with
    | ret u => exact I1.after hq
    | next => exact False.elim hq
    | brk => exact False.elim hq
    | cont => exact False.elim hq
end

/-! ### the law's own helpers -/
structure Bi (mg : Str → Option Value) : Prop where
  len : mg "len" = none
  range : mg "range" = none
  isinstance : mg "isinstance" = none
  int : mg "int" = none
  str : mg "str" = none
  bool : mg "bool" = none
  list : mg "list" = none
  tuple : mg "tuple" = none
  dict : mg "dict" = none
  sum : mg "sum" = none
  max : mg "max" = none
  min : mg "min" = none
  abs : mg "abs" = none
  sorted : mg "sorted" = none
  enumerate : mg "enumerate" = none
  zip : mg "zip" = none
  set : mg "set" = none
local macro_rules | `(tactic| walk_at "ev") => `(tactic| repeat' (first
  | exact ev_int | exact ev_bl | exact ev_str | exact ev_non | exact ev_ty | exact ev_var rfl
  | refine ev_add ?_ ?_ | refine ev_sub ?_ ?_ | refine ev_mul ?_ ?_ ?_ | refine ev_mulW ?_ ?_ ?_ | refine ev_fdiv ?_ ?_ ?_ | refine ev_fdivW ?_ ?_ ?_ | refine ev_mod ?_ ?_ ?_ | refine ev_neg ?_
  | refine ev_lt ?_ ?_ | refine ev_le ?_ ?_ | refine ev_gt ?_ ?_ | refine ev_ge ?_ ?_
  | refine ev_eqI ?_ ?_ | refine ev_neI ?_ ?_ | refine ev_isN ?_ | refine ev_notN ?_
  | refine ea_cons ?_ ?_ | exact ea_nil
  | refine ev_intI ?_ | refine ev_abs ?_ | refine ev_max2 ?_ ?_ | refine ev_min2 ?_ ?_
  | refine et_test ?_ | refine et_B ?_))
/-- no raw values, a bounded depth -/
def plain : Nat → D → Bool
  | 0, _ => false
  | _ + 1, .non => true
  | _ + 1, .bl _ => true
  | _ + 1, .int _ => true
  | _ + 1, .str _ => true
  | n + 1, .tup ds => decide (ds.length ≤ 1000000) && ds.all (plain n)
  | n + 1, .lst ds => decide (ds.length ≤ 1000000) && ds.all (plain n)
  | _ + 1, .raw _ => false
  | _ + 1, .dk _ _ => false
  | _ + 1, .dt _ _ => false
theorem plain_raw {n : Nat} {d : D} (h : plain n d = true) : isRaw d = false := by
  cases n with
  | zero => cases h
  | succ n => cases d <;> first | rfl | cases h
theorem plain_seq {n : Nat} {d : D} {es : List D} (h : plain (n + 1) d = true) (e : seqOf d = some es) : es.length ≤ 1000000 ∧ ∀ x ∈ es, plain n x = true := by
  cases d <;> first | (cases e; done) | skip
  all_goals
    cases e
    simp only [plain, Bool.and_eq_true, decide_eq_true_eq, List.all_eq_true] at h
    exact h
def RSame (n : Nat) : List D → D → Prop := fun ds r => ∃ d, ds = [d, d] ∧ plain n d = true ∧ r = .bl true
section
variable {P : Program} {w : World} {K : PySem.W.Frag} {mg : Str → Option Value} {base : Heap}
theorem atI_ofNat {α : Type} {xs : List α} {i : Nat} {x : α} (h : xs[i]? = some x) : L2.atI xs (i : Int) = some x := by
  have hi : i < xs.length := (List.getElem?_eq_some_iff.mp h).1
  unfold L2.atI L2.ixN
  rw [if_pos (by omega), if_pos (by omega)]
  exact h
theorem sc__law_same : FnScope ["actual", "due", "k"] ["actual", "due"] (defScope s__law_same) := ⟨rfl, rfl, rfl, by decide +kernel, rfl, by decide +kernel, by decide +kernel⟩
theorem ok__law_same (B : Bi mg) {f : Addr} {fd : FuncData} (F : Fun K "_law_same" "_law_same" s__law_same f fd) (L__law_same : Lk K mg "_law_same" f fd ["actual", "due"]) : ∀ n : Nat, FnOk P w K mg base CX0 n f fd ["actual", "due"] (SpD K 2 (RSame n))
  | 0 => by
    have no : ∀ vs H Q E, ¬ SpD K 2 (RSame 0) vs H Q E := fun vs H Q E h => by
      obtain ⟨_, _, _, _, _, _, ⟨_, _, h, _⟩, _⟩ := h
      cases h
    exact ⟨fun vs H Q E h => absurd h (no vs H Q E), fun A outer s H args us vs Q E _ _ _ _ h => absurd h (no vs H Q E)⟩
  | n + 1 => by
    have G__law_same : FnOk P w K mg base CX0 n f fd ["actual", "due"] (SpD K 2 (RSame n)) := ok__law_same B F L__law_same n
    have S := sc__law_same
    refine fn_ok F S rfl 1 rfl fun cdv A outer s H E hr => ⟨_, ((pss_cons (ps_if (PW.pt (pw_or (pt_val (pe_callB call_isi (by rfl) B.isinstance (by decide +kernel) (pa_cons (pv 1) (pa_cons (pe_ty (n := "tuple") B.tuple (by decide +kernel)) pa_nil)))) (pw_or1 (pt_val (pe_callB call_isi (by rfl) B.isinstance (by decide +kernel) (pa_cons (pv 1) (pa_cons (pe_ty (n := "list") B.list (by decide +kernel)) pa_nil)))))))
 (pss_cons (ps_if (PW.pt (pw_or (pt_cmpR op_ne (pe_callB call_isi (by rfl) B.isinstance (by decide +kernel) (pa_cons (pv 1) (pa_cons (pe_ty (n := "tuple") B.tuple (by decide +kernel)) pa_nil))) (pe_callB call_isi (by rfl) B.isinstance (by decide +kernel) (pa_cons (pv 0) (pa_cons (pe_ty (n := "tuple") B.tuple (by decide +kernel)) pa_nil))) (nomark _)) (pw_or1 (pt_cmpR op_ne (pe_callB call_isi (by rfl) B.isinstance (by decide +kernel) (pa_cons (pv 1) (pa_cons (pe_ty (n := "list") B.list (by decide +kernel)) pa_nil))) (pe_callB call_isi (by rfl) B.isinstance (by decide +kernel) (pa_cons (pv 0) (pa_cons (pe_ty (n := "list") B.list (by decide +kernel)) pa_nil))) (nomark _)))))
 (pss_one (ps_ret pe_bl))
 pss_nil)
 (pss_cons (ps_if (pt_cmpR op_ne (pe_callB c_len (by rfl) B.len (by decide +kernel) (pa_cons (pv 0) pa_nil)) (pe_callB c_len (by rfl) B.len (by decide +kernel) (pa_cons (pv 1) pa_nil)) (nomark _))
 (pss_one (ps_ret pe_bl))
 pss_nil)
 (pss_cons (ps_for PassesOwn.never rfl (pi_range1 (by rfl) B.range (pa_cons (pe_callB c_len (by rfl) B.len (by decide +kernel) (pa_cons (pv 1) pa_nil)) pa_nil)) (pg_name (i := 2) S.nd rfl (by first | exact Or.inl rfl | exact Or.inr rfl))
 (pss_one (ps_if (pt_not (pt_val (pe_call G__law_same (hr.mono (by first | exact Nat.le_refl _ | decide | omega)) (by rfl) L__law_same.m L__law_same.kp L__law_same.bi .nil pass0 (pa_cons (pe_ix ix_seq (pv 0) (pv 2) (fun _ _ => rfl)) (pa_cons (pe_ix ix_seq (pv 1) (pv 2) (fun _ _ => rfl)) pa_nil)))))
 (pss_one (ps_ret pe_bl))
 pss_nil)))
 (pss_one (ps_ret pe_bl)))))
 pss_nil)
 (pss_cons (ps_if (pt_cmpR op_isN1 (pv 1) pe_non (nomark _))
 (pss_one (ps_ret (pe_cmpR op_isN1 (pv 0) pe_non (nomark _))))
 pss_nil)
 (pss_cons (ps_if (pt_val (pe_callB call_isi (by rfl) B.isinstance (by decide +kernel) (pa_cons (pv 1) (pa_cons (pe_ty (n := "bool") B.bool (by decide +kernel)) pa_nil))))
 (pss_one (ps_ret (pe_and (pe_callB call_isi (by rfl) B.isinstance (by decide +kernel) (pa_cons (pv 0) (pa_cons (pe_ty (n := "bool") B.bool (by decide +kernel)) pa_nil))) (pe_one (pe_cmpR op_eq (pv 0) (pv 1) (nomark _))))))
 pss_nil)
 (pss_cons (ps_if (pt_val (pe_callB call_isi (by rfl) B.isinstance (by decide +kernel) (pa_cons (pv 1) (pa_cons (pe_ty (n := "int") B.int (by decide +kernel)) pa_nil))))
 (pss_one (ps_ret (pe_and (pe_callB call_isi (by rfl) B.isinstance (by decide +kernel) (pa_cons (pv 0) (pa_cons (pe_ty (n := "int") B.int (by decide +kernel)) pa_nil))) (pe_and (pe_not (pe_callB call_isi (by rfl) B.isinstance (by decide +kernel) (pa_cons (pv 0) (pa_cons (pe_ty (n := "bool") B.bool (by decide +kernel)) pa_nil)))) (pe_one (pe_cmpR op_eq (pv 0) (pv 1) (nomark _)))))))
 pss_nil)
 (pss_one (ps_ret (pe_and (pe_callB call_isi (by rfl) B.isinstance (by decide +kernel) (pa_cons (pv 0) (pa_cons (pe_ty (n := "str") B.str (by decide +kernel)) pa_nil))) (pe_one (pe_cmpR op_eq (pv 0) (pv 1) (nomark _))))))))))), fun φ ds d H D0 σ hl hR hrt hnx A => ?_⟩
    obtain ⟨d, rfl, hp, rfl⟩ := hR
    replace A : At K φ (Same H) [some d, some d, none] σ H := A
    have hraw := plain_raw hp
    have isi : ∀ {ρ : List (Option D)} {J : Hp → Prop} {i : Nat} {n : String}, ρ[i]? = some (some d) → n ∈ (["tuple", "list", "bool", "int", "str", "dict"] : List String) → EvD K φ J (tCB (rIsi K) (tCons (tVar i) (tCons (tC (.ty n)) tNil))) ρ (.bl (isT n d)) := fun h hn => ev_isi (ev_var h) ev_ty hraw hn
    refine q ?_
    refine st_if A (et_or (et_B (isi rfl (by simp))) fun _ => et_B (isi rfl (by simp))) (fun hb H1 A1 => ?_) (fun hb H1 A1 => ?_)
    · -- a tuple or a list
      obtain ⟨es, hes⟩ : ∃ es, seqOf d = some es := by
        cases d <;> first | exact ⟨_, rfl⟩ | (simp [isT, tyD] at hb)
      obtain ⟨hlen, hpl⟩ := plain_seq hp hes
      refine q ?_
      refine st_no A1 (et_or (et_test (ev_neB (isi rfl (by simp)) (isi rfl (by simp)))) fun _ => et_test (ev_neB (isi rfl (by simp)) (isi rfl (by simp)))) (by simp) fun H2 A2 => ?_
      refine q ?_
      refine st_no A2 (et_test (ev_neI (ev_lenQ (ev_var rfl) hes) (ev_lenQ (ev_var rfl) hes))) (by simp) fun H3 A3 => ?_
      refine q ?_
      refine st_for A3 (it_range1 (ea_cons (ev_lenQ (ev_var rfl) hes) ea_nil) (by omega)) (fun i ρ' J' => (∃ o, ρ' = [some d, some d, o]) ∧ J' = Same H) ⟨⟨none, rfl⟩, rfl⟩ ?_ ?_
      · rintro H4 i x ρ' J' b4 j4 hx ⟨⟨o, rfl⟩, rfl⟩ σ' H' A5
        rw [rangeD_get] at hx
        have hi : i < es.length := by
          by_cases h : i < (es.length : Int).toNat
          · omega
          · rw [if_neg h] at hx; cases hx
        rw [if_pos (by omega)] at hx
        cases hx
        have hxi : L2.atI es (0 + (i : Int)) = some es[i] := by
          rw [Int.zero_add]
          exact atI_ofNat (List.getElem?_eq_getElem hi)
        have A5' : At K φ (fun H_1 => Same H H_1 ∧ But φ H4 H_1) [some d, some d, some (.int (0 + (i : Int)))] σ' H' := A5
        refine st_no A5' (et_not (et_B (ev_callD (ea_cons (ev_ixQ (ev_var rfl) hes (ev_var rfl) hxi) (ea_cons (ev_ixQ (ev_var rfl) hes (ev_var rfl) hxi) ea_nil)) ⟨es[i], rfl, hpl _ (List.getElem_mem hi), rfl⟩))) rfl fun H6 A6 => ?_
        exact ⟨_, _, ⟨⟨_, rfl⟩, rfl⟩, A6⟩
      · rintro H4 ρ' J' σ' H' b4 j4 ⟨⟨o, rfl⟩, rfl⟩ A5
        exact st_ret A5 ev_bl fun v d' H6 e A6 r => hrt v H6 A6.j.1 (e ▸ r)
    · refine st_next ?_
      have hnt : isT "tuple" d = false ∧ isT "list" d = false := by
        exact Bool.or_eq_false_iff.mp hb.symm
      refine q ?_
      refine st_if A1 (et_test (ev_isN (ev_var rfl))) (fun hn H2 A2 => ?_) (fun hn H2 A2 => ?_)
      · exact st_ret A2 (ev_isN (ev_var rfl)) fun v d' H6 e A6 r => hrt v H6 A6.j (by rw [e, ← hn] at r; exact r)
      · refine st_next (q ?_)
        refine st_if A2 (et_B (isi rfl (by simp))) (fun hB H3 A3 => ?_) (fun hB H3 A3 => ?_)
        · obtain ⟨b, rfl⟩ : ∃ b, d = .bl b := by
            cases d <;> first | exact ⟨_, rfl⟩ | (simp [isT, tyD] at hB)
          exact st_ret A3 (ev_andV (isi rfl (by simp)) fun _ => ev_one (ev_eqB (ev_var rfl) (ev_var rfl))) fun v d' H6 e A6 r => hrt v H6 A6.j (by rw [e, ← hB] at r; simpa using r)
        · refine st_next (q ?_)
          refine st_if A3 (et_B (isi rfl (by simp))) (fun hI H4 A4 => ?_) (fun hI H4 A4 => ?_)
          · obtain ⟨b, rfl⟩ : ∃ b, d = .int b := by
              cases d <;> first | exact ⟨_, rfl⟩ | (simp [isT, tyD] at hI hB)
            exact st_ret A4 (ev_andV (isi rfl (by simp)) fun _ => ev_andV (ev_notV (isi rfl (by simp))) fun _ => ev_one (ev_eqI (ev_var rfl) (ev_var rfl))) fun v d' H6 e A6 r => hrt v H6 A6.j (by rw [e, ← hI, ← hB] at r; simpa using r)
          · refine st_next ?_
            obtain ⟨b, rfl⟩ : ∃ b, d = .str b := by
              cases d <;> first | exact ⟨_, rfl⟩ | (cases hraw; done) | (cases hp; done) | (simp [isT, tyD, isNon] at hI hB hnt hn)
            exact st_ret A4 (ev_andV (isi rfl (by simp)) fun _ => ev_one (ev_eqS (ev_var rfl) (ev_var rfl))) fun v d' H6 e A6 r => hrt v H6 A6.j (by rw [e] at r; simpa [isT, tyD] using r)
end
/-! ### spread, pool, draw -/
section
variable {P : Program} {w : World} {K : PySem.W.Frag} {mg : Str → Option Value} {base : Heap}
def spreadN (c : Int) : Nat → Int × Int
  | 0 => (c % 2147483647, 1)
  | n + 1 => (((spreadN c n).1 * 48271 + 12345 + (0 + (n : Int))) % 2147483647, (spreadN c n).2 * 2147483647 + ((spreadN c n).1 * 48271 + 12345 + (0 + (n : Int))) % 2147483647)
theorem spreadN_lt (c : Int) : ∀ n, 0 ≤ (spreadN c n).1 ∧ (spreadN c n).1 < 2147483647
  | 0 => ⟨Int.emod_nonneg _ (by decide), Int.emod_lt_of_pos _ (by decide)⟩
  | n + 1 => ⟨Int.emod_nonneg _ (by decide), Int.emod_lt_of_pos _ (by decide)⟩
def RSpread : List D → D → Prop := fun ds r => ∃ c : Int, ds = [.int c] ∧ r = .int (spreadN c 4).2
theorem sc__law_spread : FnScope ["cell", "mixed", "total", "k"] ["cell"] (defScope s__law_spread) := ⟨rfl, rfl, rfl, by decide +kernel, rfl, by decide +kernel, by decide +kernel⟩
theorem ok__law_spread (B : Bi mg) {f : Addr} {fd : FuncData} (F : Fun K "_law_spread" "_law_spread" s__law_spread f fd) : FnOk P w K mg base CX0 1 f fd ["cell"] (SpD K 1 RSpread) := by
  have S := sc__law_spread
  refine fn_ok F S rfl 3 rfl fun cdv A outer s H E hr => ⟨_, ((pss_cons (ps_set (i := 1) S.nd rfl (by first | exact Or.inl rfl | exact Or.inr rfl) (pe_op op_mod (pe_callTy c_int1 (by rfl) B.int (by decide +kernel) (pa_cons (pv 0) pa_nil)) pe_int))
 (pss_cons (ps_set (i := 2) S.nd rfl (by first | exact Or.inl rfl | exact Or.inr rfl) pe_int)
 (pss_cons (ps_for PassesOwn.never rfl (pi_range1 (by rfl) B.range (pa_cons pe_int pa_nil)) (pg_name (i := 3) S.nd rfl (by first | exact Or.inl rfl | exact Or.inr rfl))
 (pss_cons (ps_set (i := 1) S.nd rfl (by first | exact Or.inl rfl | exact Or.inr rfl) (pe_op op_mod (pe_callTy c_int1 (by rfl) B.int (by decide +kernel) (pa_cons (pe_op op_add (pe_op op_add (pe_op op_mul (pv 1) pe_int) pe_int) (pv 3)) pa_nil)) pe_int))
 (pss_one (ps_set (i := 2) S.nd rfl (by first | exact Or.inl rfl | exact Or.inr rfl) (pe_op op_add (pe_op op_mul (pv 2) pe_int) (pv 1))))))
 (pss_one (ps_ret (pv 2))))))), fun φ ds d H D0 σ hl hR hrt hnx A => ?_⟩
  obtain ⟨c, rfl, rfl⟩ := hR
  replace A : At K φ (Same H) [some (.int c), none, none, none] σ H := A
  refine q (st_set A (ev_mod (ev_intI (ev_var rfl)) ev_int (by decide)) fun σ1 H1 A1 => q (st_set A1 ev_int fun σ2 H2 A2 => q ?_))
  refine st_for A2 (it_range1 (ea_cons ev_int ea_nil) (by decide)) (fun i ρ' J' => (∃ o, ρ' = [some (.int c), some (.int (spreadN c i).1), some (.int (spreadN c i).2), o]) ∧ J' = Same H) ⟨⟨none, rfl⟩, rfl⟩ ?_ ?_
  · rintro H4 i x ρ' J' b4 j4 hx ⟨⟨o, rfl⟩, rfl⟩ σ' H' A5
    rw [rangeD_get] at hx
    split at hx
    · cases hx
      have h := spreadN_lt c i
      refine q (st_set A5 (ev_mod (ev_intI (ev_add (ev_add (ev_mul (ev_var rfl) ev_int (.inl (by omega))) ev_int) (ev_var rfl))) ev_int (by decide)) fun σ6 H6 A6 => ?_)
      refine st_set A6 (ev_add (ev_mul (ev_var rfl) ev_int (.inr (by decide))) (ev_var rfl)) fun σ7 H7 A7 => ?_
      exact ⟨_, _, ⟨⟨_, rfl⟩, rfl⟩, A7⟩
    · cases hx
  · rintro H4 ρ' J' σ' H' b4 j4 ⟨⟨o, rfl⟩, rfl⟩ A5
    exact st_ret A5 (ev_var rfl) fun v d' H6 e A6 r => hrt v H6 A6.j.1 (e ▸ r)
/-- a new pool for the script -/
def spPool (K : PySem.W.Frag) : Sp := fun vs H Q _ => ∃ (a : Addr) (ns : List Int), vs = [.ref a] ∧ SqL K H a (ns.map V.int) ∧ ns.length ≤ 63 ∧ ∀ p s H', Same H H' → H p = none → H s = none → s ≠ p → PoolOk p s ns H' → Q (.ref p) H'
theorem sc__law_pool : FnScope ["script", "salt", "cell"] ["script"] (defScope s__law_pool) := ⟨rfl, rfl, rfl, by decide +kernel, rfl, by decide +kernel, by decide +kernel⟩
theorem ok__law_pool (B : Bi mg) {f : Addr} {fd : FuncData} (F : Fun K "_law_pool" "_law_pool" s__law_pool f fd) : FnOk P w K mg base CX0 1 f fd ["script"] (spPool K) := by
  have S := sc__law_pool
  refine F.ok S (fun vs H Q E h => ?_) (fun cdv A outer s H vs Q E hr h => ?_)
  · obtain ⟨a, ns, rfl, _⟩ := h
    rfl
  obtain ⟨a, ns, rfl, hS, hlen, kq⟩ := h
  refine ⟨_, ((pss_cons (ps_set (i := 1) S.nd rfl (by first | exact Or.inl rfl | exact Or.inr rfl) pe_int)
 (pss_cons (ps_for PassesOwn.never rfl (pi_list (pe_slice sl_list (pv 0) po_none (po_some pe_int))) (pg_name (i := 2) S.nd rfl (by first | exact Or.inl rfl | exact Or.inr rfl))
 (pss_one (ps_set (i := 1) S.nd rfl (by first | exact Or.inl rfl | exact Or.inr rfl) (pe_op op_mod (pe_callTy c_int1 (by rfl) B.int (by decide +kernel) (pa_cons (pe_op op_add (pe_op op_mul (pv 1) pe_int) (pv 2)) pa_nil)) pe_int))))
 (pss_one (ps_ret (pe_lst (pa_cons (pe_callTy c_listOf (by rfl) B.list (by decide +kernel) (pa_cons (pv 0) pa_nil)) (pa_cons pe_int (pa_cons pe_int (pa_cons pe_int (pa_cons (pv 1) pa_nil))))))))))), ?_⟩
  have A0 : At K (fun _ => True) (Same H) [some (.lst (ns.map D.int)), none, none] [some (.ref a), none, none] H := by
    have hpl : PL K (fun _ => True) H a (ns.map V.int) := hS.elim (fun z => .inl ⟨trivial, z⟩) .inr
    exact ⟨SR.start (ds := [.lst (ns.map D.int)]) (n := 2) (Reps.cons ⟨a, _, rfl, hpl, Reps.of_ints⟩ Reps.nil), ⟨fun _ _ => trivial, fun _ _ _ => trivial⟩, Same.refl H, Mo.sames fun _ h => h⟩
  refine q (st_set A0 ev_int fun σ1 H1 A1 => q ?_)
  refine st_for A1 (it_list (ev_slL (ev_var rfl) eo_none (eo_some ev_int))) (fun i ρ' J' => (∃ o, ∃ z : Int, 0 ≤ z ∧ z < 1000003 ∧ ρ' = [some (.lst (ns.map D.int)), some (.int z), o]) ∧ J' = Same H) ⟨⟨none, 7, by decide, by decide, rfl⟩, rfl⟩ ?_ ?_
  · rintro H4 i x ρ' J' b4 j4 hx ⟨⟨o, z, hz, hz2, rfl⟩, rfl⟩ σ' H' A5
    obtain ⟨n, rfl⟩ : ∃ n, x = .int n := by
      have hm : x ∈ cutD (ns.map D.int) none (some 63) := List.mem_of_getElem? hx
      have hm2 : x ∈ ns.map D.int := List.mem_of_mem_drop (List.mem_of_mem_take hm)
      obtain ⟨n, _, e⟩ := List.mem_map.mp hm2
      exact ⟨n, e.symm⟩
    refine st_set A5 (ev_mod (ev_intI (ev_add (ev_mul (ev_var rfl) ev_int (.inl (by omega))) (ev_var rfl))) ev_int (by decide)) fun σ7 H7 A7 => ?_
    exact ⟨_, _, ⟨⟨_, _, Int.emod_nonneg _ (by decide), Int.emod_lt_of_pos _ (by decide), rfl⟩, rfl⟩, A7⟩
  · rintro H4 ρ' J' σ' H' b4 j4 ⟨⟨o, z, hz, hz2, rfl⟩, rfl⟩ A5
    refine en_list (ev_var rfl) σ' H' A5 _ fun s vs ds H5 H6 b5 A6 hs b6 A7 e hst r => ?_
    subst e
    have ev : vs = ns.map V.int := r.ints
    subst ev
    obtain ⟨v, ev, rv⟩ := A7.sr.2 1 _ rfl
    cases (show v = _ from rv)
    refine ⟨_, ev, by show 5 ≤ sizeLine; decide, fun p hp => ?_⟩
    have nsp : s ≠ p := ne_of_none hst hp
    refine kq p s _ (A7.j.1.trans (same_new hp)) (Same.free A7.j.1 hp) (Same.free A6.j.1 hs) nsp ⟨0, 0, 0, z, upd_same, ?_, Int.le_refl _⟩
    rw [upd_ne nsp]
    exact hst
/-- the pool's list -/
def plV (s : Addr) (a c n z : Int) : List V := [.ref s, .int a, .int c, .int n, .int z]
theorem sc__law_draw : FnScope ["pool", "many", "cell", "mixed", "value"] ["pool", "many"] (defScope s__law_draw) := ⟨rfl, rfl, rfl, by decide +kernel, rfl, by decide +kernel, by decide +kernel⟩
theorem ok__law_draw (B : Bi mg) {f g : Addr} {fd gd : FuncData} (F : Fun K "_law_draw" "_law_draw" s__law_draw f fd) (L__law_spread : Lk K mg "_law_spread" g gd ["cell"]) (G__law_spread : FnOk P w K mg base CX0 1 g gd ["cell"] (SpD K 1 RSpread)) : FnOk P w K mg base CX0 2 f fd ["pool", "many"] spDraw := by
  have S := sc__law_draw
  refine F.ok S (fun vs H Q E h => ?_) (fun cdv A outer s H vs Q E hr h => ?_)
  · obtain ⟨p, s, ns, n, rfl, _⟩ := h
    rfl
  obtain ⟨p, s, ns, many, rfl, ⟨a0, c0, n0, z0, hp, hs, ha0⟩, nsp, hm0, hm1, kq⟩ := h
  refine ⟨_, ((C8.pss_cut (ps_if (PW.pt (pw_and (pt_cmpR op_le (pe_ix ix_list (pv 0) pe_int (fun _ _ => rfl)) pe_int (nomark _)) (pw_and1 (pt_cmpR op_lt (pe_ix ix_list (pv 0) pe_int (fun _ _ => rfl)) (pe_callB c_len (by rfl) B.len (by decide +kernel) (pa_cons (pe_ix ix_list (pv 0) pe_int (fun _ _ => rfl)) pa_nil)) (nomark _)))))
 (pss_cons (ps_set (i := 2) S.nd rfl (by first | exact Or.inl rfl | exact Or.inr rfl) (pe_ix ix_list (pe_ix ix_list (pv 0) pe_int (fun _ _ => rfl)) (pe_ix ix_list (pv 0) pe_int (fun _ _ => rfl)) (fun _ _ => rfl)))
 (pss_cons (ps_asg (pe_op op_add (pe_ix ix_list (pv 0) pe_int (fun _ _ => rfl)) pe_int) (pg_sub (pv 0) pe_int set_list))
 (pss_cons (ps_asg (pv 2) (pg_sub (pv 0) pe_int set_list))
 (pss_one (ps_if (pt_cmpR op_lt (pv 2) pe_int (nomark _))
 (pss_one (ps_asg (pe_call G__law_spread (hr.mono (by first | exact Nat.le_refl _ | decide | omega)) (by rfl) L__law_spread.m L__law_spread.kp L__law_spread.bi .nil pass0 (pa_cons (pv 2) pa_nil)) (pg_sub (pv 0) pe_int set_list)))
 pss_nil)))))
 pss_nil)
 (pss_cons (ps_asg (pe_op op_add (pe_ix ix_list (pv 0) pe_int (fun _ _ => rfl)) pe_int) (pg_sub (pv 0) pe_int set_list))
 (pss_cons (ps_if (pt_cmpR op_le (pe_ix ix_list (pv 0) pe_int (fun _ _ => rfl)) pe_int (nomark _))
 (pss_cons (ps_set (i := 3) S.nd rfl (by first | exact Or.inl rfl | exact Or.inr rfl) (pe_op op_mod (pe_callTy c_int1 (by rfl) B.int (by decide +kernel) (pa_cons (pe_op op_add (pe_op op_add (pe_op op_mul (pe_ix ix_list (pv 0) pe_int (fun _ _ => rfl)) pe_int) (pe_op op_mul (pe_ix ix_list (pv 0) pe_int (fun _ _ => rfl)) pe_int)) pe_int) pa_nil)) pe_int))
 (pss_cons (ps_set (i := 3) S.nd rfl (by first | exact Or.inl rfl | exact Or.inr rfl) (pe_op op_mod (pe_callTy c_int1 (by rfl) B.int (by decide +kernel) (pa_cons (pe_op op_add (pe_op op_mul (pv 3) pe_int) (pe_ix ix_list (pv 0) pe_int (fun _ _ => rfl))) pa_nil)) pe_int))
 (pss_one (ps_ret (pe_op op_mod (pe_op op_fdiv (pv 3) pe_int) (pv 1))))))
 pss_nil)
 (pss_cons (ps_set (i := 4) S.nd rfl (by first | exact Or.inl rfl | exact Or.inr rfl) (pe_op op_mod (pe_callTy c_int1 (by rfl) B.int (by decide +kernel) (pa_cons (pe_ix ix_list (pv 0) pe_int (fun _ _ => rfl)) pa_nil)) (pv 1)))
 (pss_cons (ps_asg (pe_op op_fdivW (pe_ix ix_list (pv 0) pe_int (fun _ _ => rfl)) (pv 1)) (pg_sub (pv 0) pe_int set_list))
 (pss_one (ps_ret (pv 4))))))))), ?_⟩
  let φ : Addr → Prop := fun a => a ≠ p
  let JJ : Int → Int → Int → Hp → Prop := fun a c n H' => H' p = some (.lst (plV s a c n z0)) ∧ But φ H H'
  have trp : ∀ {H' : Hp}, But φ H H' → H' p ≠ none := fun b => b.tr p (by rw [hp]; exact fun z => by cases z)
  have moJ : ∀ {a c n : Int} {H' : Hp}, But φ H H' → Mo H' (JJ a c n) := fun b => (Mo.at (trp b)).and (Mo.but b.tr)
  have nφ : ¬ φ p := fun z => z rfl
  have updA : ∀ {a c n a' c' n' : Int} {ρ : List (Option D)} {σ : L2.St} {H' : Hp}, At K φ (JJ a c n) ρ σ H' → At K φ (JJ a' c' n') ρ σ (L2.upd H' p (.lst (plV s a' c' n' z0))) := fun {a c n a' c' n' ρ σ H'} A =>
    A.upd nφ ⟨upd_same, A.j.2.upd nφ⟩ (moJ (A.j.2.upd nφ))
  have A0 : At K φ (JJ a0 c0 n0) [some (.raw (.ref p)), some (.int many), none, none, none] [some (.ref p), some (.int many), none, none, none] H :=
    ⟨SR.start (ds := [.raw (.ref p), .int many]) (n := 3) (Reps.cons rfl (Reps.cons rfl Reps.nil)), ⟨fun a h z => (by rw [z, hp] at h; cases h), fun a xs h z => (by rw [z, hp] at h; cases h)⟩, ⟨hp, But.refl _ _⟩, moJ (But.refl _ _)⟩
  -- the pool's cells
  have ix : ∀ {a c n : Int} {ρ : List (Option D)} {i : Int} {d : D} {v : V}, ρ[0]? = some (some (.raw (.ref p))) → atI (plV s a c n z0) i = some v → (∀ H', Rep K φ H' d v) → EvD K φ (JJ a c n) (tOp (rIxL K) (tVar 0) (tC (.int i))) ρ d := fun h e r => ev_ixLive (ev_var h) ev_int fun H' j => ⟨_, j.1, _, e, r H'⟩
  have fin : ∀ {a c n : Int} {ρ : List (Option D)} {σ : L2.St} {H' : Hp} {r : Int}, At K φ (JJ a c n) ρ σ H' → 0 ≤ a → 0 ≤ r → r < many → Q (.int r) H' := fun {a c n ρ σ H' r} A ha h0 h1 =>
    kq r H' h0 h1 (fun b o nb e => A.j.2.keep b o nb e) ⟨a, c, n, z0, A.j.1, A.j.2.keep _ _ nsp hs, ha⟩
  refine q_cut (M := fun σ' H' => ∃ a c o, 0 ≤ a ∧ At K φ (JJ a c n0) [some (.raw (.ref p)), some (.int many), o, none, none] σ' H') ?_ ?_
  · refine st_if A0 (et_and (et_test (ev_le (ix rfl rfl fun _ => rfl) ev_int)) fun _ => et_test (ev_lt (ix rfl rfl fun _ => rfl) (ev_lenLive (ix rfl rfl fun _ => rfl) fun H' j => j.2.keep _ _ nsp hs))) (fun hb H1 A1 => ?_) (fun hb H1 A1 => ⟨a0, c0, none, ha0, A1⟩)
    have hlt : a0 < ((ns.map V.int).length : Nat) := by
      have h1 := hb.symm
      rw [Bool.and_eq_true] at h1
      exact of_decide_eq_true h1.2
    have hltn : a0.toNat < ns.length := by rw [List.length_map] at hlt; omega
    have hat : atI (ns.map V.int) a0 = some (.int ns[a0.toNat]) := by
      have z := atI_ofNat (xs := ns.map V.int) (i := a0.toNat) (x := .int ns[a0.toNat]) (by rw [List.getElem?_map, List.getElem?_eq_getElem hltn]; rfl)
      rw [Int.toNat_of_nonneg ha0] at z
      exact z
    refine q (st_set A1 (ev_ixLive (d := .int ns[a0.toNat]) (ix rfl rfl fun _ => rfl) (ix rfl rfl fun _ => rfl) fun H' j => ⟨_, j.2.keep _ _ nsp hs, _, hat, rfl⟩) fun σ2 H2 A2 => q ?_)
    refine st_setL (n := 1) A2 (ev_add (ix rfl rfl fun _ => rfl) ev_int) rfl ev_int (fun H' j => j.1) rfl fun v d H3 e r b A3 => ?_
    subst e
    cases (show v = _ from r)
    have A4 : At K φ (JJ (a0 + 1) c0 n0) [some (.raw (.ref p)), some (.int many), some (.int ns[a0.toNat]), none, none] σ2 _ := updA (a' := a0 + 1) (c' := c0) (n' := n0) A3
    refine q (st_setL (n := 2) A4 (ev_var rfl) rfl ev_int (fun H' j => j.1) rfl fun v d H5 e r b A5 => ?_)
    subst e
    cases (show v = _ from r)
    have A6 : At K φ (JJ (a0 + 1) ns[a0.toNat] n0) [some (.raw (.ref p)), some (.int many), some (.int ns[a0.toNat]), none, none] σ2 _ := updA (a' := a0 + 1) (c' := ns[a0.toNat]) (n' := n0) A5
    refine st_if A6 (et_test (ev_lt (ev_var rfl) ev_int)) (fun _ H7 A7 => ?_) (fun _ H7 A7 => ⟨_, _, _, by omega, A7⟩)
    refine st_setL (n := 2) A7 (ev_callD (ea_cons (ev_var rfl) ea_nil) ⟨_, rfl, rfl⟩) rfl ev_int (fun H' j => j.1) rfl fun v d H8 e r b A8 => ?_
    subst e
    cases (show v = _ from r)
    exact ⟨a0 + 1, (spreadN ns[a0.toNat] 4).2, _, by omega, updA (a' := a0 + 1) (n' := n0) A8⟩
  · rintro σ1 H1 ⟨a, c, o, ha, A1⟩
    refine q (st_setL (n := 3) A1 (ev_add (ix rfl rfl fun _ => rfl) ev_int) rfl ev_int (fun H' j => j.1) rfl fun v d H3 e r b A3 => ?_)
    subst e
    cases (show v = _ from r)
    have A4 : At K φ (JJ a c (n0 + 1)) [some (.raw (.ref p)), some (.int many), o, none, none] σ1 _ := updA (a' := a) (c' := c) (n' := n0 + 1) A3
    refine q (st_if A4 (et_test (ev_le (ix rfl rfl fun _ => rfl) ev_int)) (fun _ H5 A5 => ?_) (fun hc H5 A5 => st_next ?_))
    · refine q (st_set A5 (ev_mod (ev_intI (ev_add (ev_add (ev_mul (ix rfl rfl fun _ => rfl) ev_int (.inr (by decide))) (ev_mul (ix rfl rfl fun _ => rfl) ev_int (.inr (by decide)))) ev_int)) ev_int (by decide)) fun σ6 H6 A6 => q ?_)
      refine st_set A6 (ev_mod (ev_intI (ev_add (ev_mul (ev_var rfl) ev_int (.inr (by decide))) (ix rfl rfl fun _ => rfl))) ev_int (by decide)) fun σ7 H7 A7 => ?_
      refine st_ret A7 (ev_mod (ev_fdiv (ev_var rfl) ev_int ⟨by decide, by decide⟩) (ev_var rfl) hm0) fun v d H8 e A8 r => ?_
      subst e
      cases (show v = _ from r)
      exact fin A8 ha (Int.emod_nonneg _ (by omega)) (Int.emod_lt_of_pos _ hm0)
    · refine q (st_set A5 (ev_mod (ev_intI (ix rfl rfl fun _ => rfl)) (ev_var rfl) hm0) fun σ6 H6 A6 => q ?_)
      refine st_setL (n := 2) A6 (ev_fdivW (ix rfl rfl fun _ => rfl) (ev_var rfl) ⟨hm0, (Nat.log2_lt (by omega)).mpr (Nat.lt_of_lt_of_le (show _ < 2 ^ 32 by omega) (Nat.pow_le_pow_right (by decide) (by decide)))⟩) rfl ev_int (fun H' j => j.1) rfl fun v d H8 e r b A8 => ?_
      subst e
      cases (show v = _ from r)
      have A9 : At K φ (JJ a (c / many) (n0 + 1)) [some (.raw (.ref p)), some (.int many), o, none, some (.int (c % many))] σ6 _ := updA (a' := a) (c' := c / many) (n' := n0 + 1) A8
      refine st_ret A9 (ev_var rfl) fun v d H10 e A10 r => ?_
      subst e
      cases (show v = _ from r)
      exact fin A10 ha (Int.emod_nonneg _ (by omega)) (Int.emod_lt_of_pos _ hm0)
end
def spLaw (K : PySem.W.Frag) : Sp := fun vs H Q _ => ∃ (a : Addr) (ns : List Int), vs = [.ref a] ∧ SqL K H a (ns.map V.int) ∧ ns.length ≤ 63 ∧ ∀ H', Q (.bl true) H'
/-- behind the making of the pool -/
def JP (p s : Addr) (ns : List Int) : Hp → Prop := PoolOk p s ns
theorem mo_pool {p s : Addr} {ns : List Int} {H : Hp} (hp : H p ≠ none) (hs : H s ≠ none) : Mo H (PoolOk p s ns) := fun H1 H2 k j => by
  obtain ⟨a, c, n, z, e1, e2, h⟩ := j
  exact ⟨a, c, n, z, k p _ hp e1, k s _ hs e2, h⟩
theorem mo_poolOf {p s : Addr} {ns : List Int} {H : Hp} (j : PoolOk p s ns H) : Mo H (PoolOk p s ns) := by
  obtain ⟨_, _, _, _, e1, e2, _⟩ := id j
  exact mo_pool (by rw [e1]; exact fun z => by cases z) (by rw [e2]; exact fun z => by cases z)
theorem mo_of {p s : Addr} {ns : List Int} {φ : Addr → Prop} {H H2 : Hp} (j : PoolOk p s ns H ∧ But φ H2 H) : Mo H (fun H => PoolOk p s ns H ∧ But φ H2 H) := (mo_poolOf j.1).and (Mo.but j.2.tr)
theorem pooled {p s : Addr} {ns : List Int} {φ : Addr → Prop} (np : ¬ φ p) (ne : s ≠ p) : Pooled φ (PoolOk p s ns) p s ns := ⟨np, ne, fun _ h => h, fun _ _ _ _ o => o⟩
section
variable {K : PySem.W.Frag} {D0 : Ends} {σ : L2.St} {H : Hp} {ρ : List (Option D)}
/-- pool = _law_pool(script), the first row of a law: from then on only the pool is live -/
theorem st_pool {E : XK} {k n : Nat} {a : Addr} {ns : List Int} (hS : SqL K H a (ns.map V.int)) (hl : ns.length ≤ 63) (h0 : σ[0]? = some (some (.ref a))) (hk : σ.length = n) (hkn : k < n)
    (kk : ∀ p s σ' H', s ≠ p → At K (fun b => b ≠ p) (PoolOk p s ns) ((List.replicate n none).set k (some (.raw (.ref p)))) σ' H' → D0.nx σ' H') : tAsg (tCall (spPool K) [] E (tCons (tVar 0) tNil)) (gName k) D0 σ H := by
  refine ⟨_, h0, a, ns, rfl, hS, hl, fun p s H' sm hp hs ne po => ?_⟩
  have hp' : H' p ≠ none := by obtain ⟨_, _, _, _, e, _⟩ := po; rw [e]; exact fun z => by cases z
  have hs' : H' s ≠ none := by obtain ⟨_, _, _, _, _, e, _⟩ := po; rw [e]; exact fun z => by cases z
  refine kk p s _ H' ne ⟨⟨by rw [List.length_set, List.length_set, List.length_replicate]; exact hk, fun i d hd => ?_⟩, ⟨fun b hb z => hp' (z ▸ hb), fun b xs hb z => by obtain ⟨_, _, _, _, e, _⟩ := po; rw [z, e] at hb; cases hb⟩, po, mo_pool hp' hs'⟩
  by_cases e : k = i
  · subst e
    rw [List.getElem?_set_self (by rw [List.length_replicate]; exact hkn)] at hd
    cases hd
    exact ⟨_, List.getElem?_set_self (by rw [hk]; exact hkn), rfl⟩
  · rw [List.getElem?_set_ne e, List.getElem?_replicate] at hd
    split at hd <;> cases hd
end

/-! ### defs that take the pool ahead of other values -/
theorem ButP.trans {p : Addr} {H H' H2 : Hp} (a : ButP p H H') (b : ButP p H' H2) : ButP p H H2 := fun x o n e => b x o n (a x o n e)
theorem ButP.of {p : Addr} {H H' : Hp} (s : Same H H') : ButP p H H' := fun x o _ e => s x o e
def SpP (K : PySem.W.Frag) (n : Nat) (Pre : List D → Prop) (R : List D → D → Prop) : Sp := fun vs H Q _ => ∃ φ p s ns ds ws, vs = .ref p :: ws ∧ ds.length = n ∧ Reps K φ H ds ws ∧ Frm φ H ∧ ¬ φ p ∧ s ≠ p ∧ PoolOk p s ns H ∧ Pre ds ∧
  ∀ v d H', R ds d → ButP p H H' → PoolOk p s ns H' → Rep K φ H' d v → Q v H'
section
variable {K : PySem.W.Frag} {φ φ' : Addr → Prop} {J J' : Hp → Prop} {H H' H1 : Hp} {ρ ρ' : List (Option D)} {σ : L2.St} {ta : TA} {te tb : TE} {x y z d : D} {P Pa Pb : D → Prop} {ds es : List D} {v : V} {D0 : Ends} {t u : TS}
theorem mo_butP {p : Addr} {H0 : Hp} (h : ∀ a, H0 a ≠ none → H a ≠ none) : Mo H (ButP p H0) := fun H1 H2 k j a o n e => k a o (h a (by rw [e]; exact fun z => by cases z)) (j a o n e)
theorem butP_tr {p s : Addr} {ns : List Int} (b : ButP p H H') (o : PoolOk p s ns H') : ∀ a, H a ≠ none → H' a ≠ none := fun a h => by
  by_cases e : a = p
  · obtain ⟨_, _, _, _, e1, _⟩ := o
    rw [e, e1]
    exact fun z => by cases z
  · cases q : H a with
    | none => exact absurd q h
    | some u => rw [b a u e q]; exact fun z => by cases z
abbrev JB (p s : Addr) (ns : List Int) (H0 : Hp) : Hp → Prop := fun H' => PoolOk p s ns H' ∧ ButP p H0 H'
theorem pooledB {p s : Addr} {ns : List Int} {H0 : Hp} (np : ¬ φ p) (ne : s ≠ p) : Pooled φ (JB p s ns H0) p s ns := ⟨np, ne, fun _ h => h.1, fun _ _ h k o => ⟨o, h.2.trans k⟩⟩
theorem ev_callP {n k : Nat} {Pre Pr : List D → Prop} {R : List D → D → Prop} {E : XK} {p s : Addr} {ns : List Int} (hp : Pooled φ J p s ns) (hk : ρ[k]? = some (some (.raw (.ref p)))) (ha : EvA K φ J ta ρ Pr) (hr : ∀ ds, Pr ds → ds.length = n ∧ Pre ds) :
    EvP K φ J (tCall (SpP K n Pre R) [] E (tCons (tVar k) ta)) ρ (fun d => ∃ ds, Pr ds ∧ R ds d) := fun σ H A Q q =>
  ev_var hk σ H A _ fun v d H1 b1 A1 e1 r1 => ha σ H1 A1 _ fun vs ds H2 b2 A2 pd r2 => by
    subst e1
    cases (show v = _ from r1)
    obtain ⟨hl, pre⟩ := hr ds pd
    refine ⟨φ, p, s, ns, ds, vs, by rw [List.append_nil], hl, r2, A2.fr, hp.np, hp.ne, hp.ok _ A2.j, pre, fun v d H' rd bp po r => ?_⟩
    have bt : But φ H2 H' := butP_but bp hp.np po
    have bt' : ∀ a, H2 a ≠ none → H' a ≠ none := bt.tr
    refine q v d H' ((b1.trans b2).trans bt) ⟨A2.sr.up (Up.of bt), A2.fr.butP bp po bt', hp.st _ _ A2.j bp po, A2.mono.up bt'⟩ ⟨ds, pd, rd⟩ r
section
variable {PP : Program} {w : World} {mg : Str → Option Value} {base : Heap}
/-- .. keeps its promise -/
theorem fn_okP {x qual : Str} {st : Stmt} {f : Addr} {fd : FuncData} {N ps : List Str} {k n : Nat} {Pre : List D → Prop} {R : List D → D → Prop} (F : Fun K x qual st f fd) (S : FnScope N ps (defScope st)) (hn : ps.length = n + 1) (m : Nat) (hm : N.length = n + 1 + m)
    (hbody : ∀ (cdv : Value) (A : Around) (outer : List Env) (s : Shared) (H : Hp) (E : XK), Room k (A.deeper (envOfC qual (defScope st) s.heap.objs.size f cdv)) →
      ∃ t, PSs (cxOf CX0 PP w K mg base N qual (defScope st) f cdv A outer s H E).nox (defBody st) t ∧
        ∀ (φ : Addr → Prop) (p q : Addr) (ns : List Int) (ds : List D) (H : Hp) (D0 : Ends) (σ : L2.St), ds.length = n → Pre ds → ¬ φ p → q ≠ p → (∀ v d H', R ds d → JB p q ns H H' → Rep K φ H' d v → D0.rt v H') → At K φ (JB p q ns H) (some (.raw (.ref p)) :: (ds.map some ++ List.replicate m none)) σ H → t D0 σ H) :
    FnOk PP w K mg base CX0 (k + 1) f fd ps (SpP K n Pre R) := by
  refine F.ok S (fun vs H Q E h => ?_) (fun cdv A outer s H vs Q E hr h => ?_)
  · obtain ⟨φ, p, s, ns, ds, ws, rfl, hl, r, _⟩ := h
    rw [List.length_cons, r.length, hl, hn]
  · obtain ⟨φ, p, s', ns, ds, ws, rfl, hl, r, fr, np, ne, po, pre, q⟩ := h
    obtain ⟨t, ht, run⟩ := hbody cdv A outer s H E hr
    refine ⟨t, ht, run φ p s' ns ds H _ _ hl pre np ne (fun v d H' rd j r => q v d H' rd j.2 j.1 r) ⟨?_, fr, ⟨po, ButP.of (Same.refl H)⟩, (mo_poolOf po).and (mo_butP fun _ h => h)⟩⟩
    have e : N.length - (V.ref p :: ws).length = m := by rw [hm, List.length_cons, r.length, hl]; omega
    unfold L2.start
    rw [e]
    have z := SR.start (K := K) (φ := φ) (H := H) (ds := .raw (.ref p) :: ds) (vs := .ref p :: ws) (n := m) (Reps.cons rfl r)
    exact z
end
end

-- import HandS.Lambda
/-! ### one table of code objects, and defs that write there -/
def TabJ (P : Addr) (q : Str) (ps : Array Value) (H : Hp) : Prop := H P = some (.tbl ps) ∧ TriplesOk ps.toList ∧ ∀ (pos : Pos) (cv : Value), codeAmong pos ps.toList = some cv → ∃ c, cv = .ref c ∧ H c = some (LamX.CodeO c q)
section
variable {K : PySem.W.Frag} {φ φ' : Addr → Prop} {J : Array Value → Hp → Prop} {H H' H0 H1 : Hp} {ρ ρ' : List (Option D)} {σ : L2.St} {ta : TA} {te tb : TE} {x y z d : D} {P : D → Prop} {Pr : List D → Prop} {ds es : List D} {v : V} {D0 : Ends} {t u : TS} {C p s : Addr} {q : Str} {ps ps' : Array Value} {ns : List Int}
theorem TabJ.nil (h : H C = some (.tbl #[])) : TabJ C q #[] H := ⟨h, True.intro, fun pos cv hc => by
  have z : codeAmong pos [] = some cv := hc
  simp [codeAmong] at z⟩
theorem TabJ.tabs (h : TabJ C q ps H) : LamX.Tabs [(C, q)] H := fun p hp => by
  rw [List.mem_singleton.mp hp]
  exact ⟨ps, h.1, h.2.1, h.2.2⟩
theorem tabs_J (h : LamX.Tabs [(C, q)] H) : ∃ ps, TabJ C q ps H := h (C, q) (List.mem_singleton.mpr rfl)
theorem TabJ.mo (h : TabJ C q ps H) : Mo H (TabJ C q ps) := fun H1 H2 k j => ⟨k C _ (by rw [h.1]; exact fun z => by cases z) j.1, j.2.1, fun pos cv hc => by
  obtain ⟨c, e, hc1⟩ := j.2.2 pos cv hc
  obtain ⟨c0, e0, h0⟩ := h.2.2 pos cv hc
  rw [e] at e0
  cases e0
  exact ⟨c, e, k c _ (by rw [h0]; exact fun z => by cases z) hc1⟩⟩
theorem TabJ.butP (h : TabJ C q ps H) (hp : C ≠ p) (b : ButP p H H') (hl : ∃ xs, H p = some (.lst xs)) : TabJ C q ps H' := ⟨b C _ hp h.1, h.2.1, fun pos cv hc => by
  obtain ⟨c, e, hc1⟩ := h.2.2 pos cv hc
  refine ⟨c, e, b c _ (fun z => ?_) hc1⟩
  obtain ⟨xs, h2⟩ := hl
  rw [z, h2] at hc1
  cases hc1⟩
theorem TabJ.same (h : TabJ C q ps H) (b : Same H H') : TabJ C q ps H' := ⟨b C _ h.1, h.2.1, fun pos cv hc => by
  obtain ⟨c, e, hc1⟩ := h.2.2 pos cv hc
  exact ⟨c, e, b c _ hc1⟩⟩
theorem butP_trT (b : ButP C H H') (t : TabJ C q ps H') : ∀ a, H a ≠ none → H' a ≠ none := fun a h => by
  by_cases e : a = C
  · rw [e, t.1]
    exact fun z => by cases z
  · cases z : H a with
    | none => exact absurd z h
    | some u => rw [b a u e z]; exact fun z => by cases z
theorem butP_butT (b : ButP C H H') (np : ¬ φ C) (t : TabJ C q ps H') : But φ H H' := ⟨fun a u pa e => b a u (fun z => np (z ▸ pa)) e, butP_trT b t⟩
theorem Frm.butT (F : Frm φ H) (b : ButP C H H') (t : TabJ C q ps H') : Frm φ H' := ⟨fun a h => F.new a (by
  cases e : H a with
  | none => rfl
  | some u => exact absurd h (butP_trT b t a (by rw [e]; exact fun z => by cases z))), fun a xs h => by
  cases e : H a with
  | none => exact F.new a e
  | some u =>
    by_cases ea : a = C
    · subst ea
      rw [t.1] at h
      cases h
    · have z := b a u ea e
      rw [h] at z
      cases z
      exact F.tup a xs e⟩
/-- what is told beside the table stays where all but the table stays -/
structure TblF (φ : Addr → Prop) (C : Addr) (q : Str) (J : Array Value → Hp → Prop) : Prop where
  np : ¬ φ C
  ok : ∀ ps H, J ps H → TabJ C q ps H
  st : ∀ ps ps' H H', J ps H → ButP C H H' → TabJ C q ps' H' → J ps' H'
  mo : ∀ ps H, J ps H → Mo H (J ps)
theorem TblF.but (T : TblF φ C q J) : TblF φ C q (fun ps H => J ps H ∧ But φ H1 H) := ⟨T.np, fun ps H h => T.ok _ _ h.1, fun ps ps' H H' h b t => ⟨T.st _ _ _ _ h.1 b t, h.2.trans (butP_butT b T.np t)⟩, fun ps H h => (T.mo _ _ h.1).and (Mo.but h.2.tr)⟩
def JT (C : Addr) (q : Str) (H0 : Hp) (ps : Array Value) : Hp → Prop := fun H' => ButP C H0 H' ∧ TabJ C q ps H'
theorem tblT (np : ¬ φ C) : TblF φ C q (JT C q H0) := ⟨np, fun ps H h => h.2, fun ps ps' H H' h b t => ⟨h.1.trans b, t⟩, fun ps H h => (mo_butP (butP_trT h.1 h.2)).and h.2.mo⟩
def JPT (p s : Addr) (ns : List Int) (C : Addr) (q : Str) (ps : Array Value) : Hp → Prop := fun H => PoolOk p s ns H ∧ TabJ C q ps H
theorem tblP (np : ¬ φ C) (h1 : p ≠ C) (h2 : s ≠ C) : TblF φ C q (JPT p s ns C q) := ⟨np, fun ps H h => h.2, fun ps ps' H H' h b t => ⟨by
  obtain ⟨a, c, n, z, e1, e2, h⟩ := h.1
  exact ⟨a, c, n, z, b _ _ h1 e1, b _ _ h2 e2, h⟩, t⟩, fun ps H h => (mo_poolOf h.1).and h.2.mo⟩
theorem pooledT (np : ¬ φ p) (ne : s ≠ p) (h1 : C ≠ p) : Pooled φ (JPT p s ns C q ps) p s ns := ⟨np, ne, fun _ h => h.1, fun H H' h b o => ⟨o, h.2.butP h1 b (by
  obtain ⟨_, _, _, _, e1, _⟩ := h.1
  exact ⟨_, e1⟩)⟩⟩
theorem At.tbl (T : TblF φ C q J) (A : At K φ (J ps) ρ σ H) (b : ButP C H H') (t : TabJ C q ps' H') : At K φ (J ps') ρ σ H' := ⟨A.sr.up (Up.of (butP_butT b T.np t)), A.fr.butT b t, T.st _ _ _ _ A.j b t, T.mo _ _ (T.st _ _ _ _ A.j b t)⟩
/-! ### .. and what is read then -/
def EvU (K : PySem.W.Frag) (φ : Addr → Prop) (J : Array Value → Hp → Prop) (te : TE) (ρ : List (Option D)) (P : D → Prop) : Prop := ∀ ps σ H, At K φ (J ps) ρ σ H → ∀ Q : VK, (∀ v d ps' H', But φ H H' → At K φ (J ps') ρ σ H' → P d → Rep K φ H' d v → Q v H') → te σ H Q
def EvAU (K : PySem.W.Frag) (φ : Addr → Prop) (J : Array Value → Hp → Prop) (ta : TA) (ρ : List (Option D)) (P : List D → Prop) : Prop := ∀ ps σ H, At K φ (J ps) ρ σ H → ∀ Q : List V → Hp → Prop, (∀ vs ds ps' H', But φ H H' → At K φ (J ps') ρ σ H' → P ds → Reps K φ H' ds vs → Q vs H') → ta σ H Q
def EvTU (K : PySem.W.Frag) (φ : Addr → Prop) (J : Array Value → Hp → Prop) (tt : TT) (ρ : List (Option D)) (p : Bool → Prop) : Prop := ∀ ps σ H, At K φ (J ps) ρ σ H → ∀ Q : Bool → Hp → Prop, (∀ b ps' H', But φ H H' → At K φ (J ps') ρ σ H' → p b → Q b H') → tt σ H Q
theorem eu_of (h : ∀ ps, EvP K φ (J ps) te ρ P) : EvU K φ J te ρ P := fun ps σ H A Q q => h ps σ H A Q fun v d H' b A' pd r => q v d ps H' b A' pd r
theorem eau_of (h : ∀ ps, EvA K φ (J ps) ta ρ Pr) : EvAU K φ J ta ρ Pr := fun ps σ H A Q q => h ps σ H A Q fun v d H' b A' pd r => q v d ps H' b A' pd r
theorem eau_cons (h : EvU K φ J te ρ P) (hs : EvAU K φ J ta ρ Pr) : EvAU K φ J (tCons te ta) ρ (fun l => ∃ d r, l = d :: r ∧ P d ∧ Pr r) := fun ps σ H A Q q =>
  h ps σ H A _ fun v d ps1 H1 b1 A1 pd r1 => hs ps1 σ H1 A1 _ fun vs ds ps2 H2 b2 A2 pr r2 => q (v :: vs) (d :: ds) ps2 H2 (b1.trans b2) A2 ⟨d, ds, rfl, pd, pr⟩ (Reps.cons (r1.mono b2) r2)
theorem eu_call {n : Nat} {R : List D → D → Prop} {E : XK} (ha : EvAU K φ J ta ρ Pr) (hr : ∀ ds, Pr ds → ∃ d, ds.length = n ∧ R ds d ∧ P d) : EvU K φ J (tCall (SpD K n R) [] E ta) ρ P := fun ps σ H A Q q =>
  ha ps σ H A _ fun vs ds ps1 H1 b1 A1 pd r1 => by
    obtain ⟨d, hl, hd, pd'⟩ := hr ds pd
    refine ⟨φ, ds, d, hl, by rw [List.append_nil]; exact r1, A1.fr, hd, fun v H' s r => ?_⟩
    exact q v d ps1 H' (b1.trans (But.of s)) (A1.same s) pd' r
/-- the promise of a def that may make a lambda -/
def SpT (K : PySem.W.Frag) (C : Addr) (q : Str) (n : Nat) (R : List D → D → Prop) : Sp := fun vs H Q _ => ∃ φ ds d ps, ds.length = n ∧ Reps K φ H ds vs ∧ Frm φ H ∧ ¬ φ C ∧ TabJ C q ps H ∧ R ds d ∧ ∀ v ps' H', ButP C H H' → TabJ C q ps' H' → Rep K φ H' d v → Q v H'
theorem eu_callT {n : Nat} {R : List D → D → Prop} {E : XK} (T : TblF φ C q J) (ha : EvAU K φ J ta ρ Pr) (hr : ∀ ds, Pr ds → ∃ d, ds.length = n ∧ R ds d ∧ P d) : EvU K φ J (tCall (SpT K C q n R) [] E ta) ρ P := fun ps σ H A Q k =>
  ha ps σ H A _ fun vs ds ps1 H1 b1 A1 pd r1 => by
    obtain ⟨d, hl, hd, pd'⟩ := hr ds pd
    refine ⟨φ, ds, d, ps1, hl, by rw [List.append_nil]; exact r1, A1.fr, T.np, T.ok _ _ A1.j, hd, fun v ps' H' b t r => ?_⟩
    exact k v d ps' H' (b1.trans (butP_butT b T.np t)) (At.tbl T A1 b t) pd' r
theorem etu_B {p : Bool → Prop} (h : EvU K φ J te ρ (fun d => ∃ b, d = .bl b ∧ p b)) : EvTU K φ J (tB te) ρ p := fun ps σ H A Q q => h ps σ H A _ fun v d ps' H' bt A' ⟨b, e, pb⟩ r => by
  subst e
  cases (show v = _ from r)
  exact et_B (b := b) (ev_bl (K := K) (φ := φ) (J := J ps') (ρ := ρ) (b := b)) σ H' A' Q fun b' H2 b2 A2 e => q b' ps' H2 (bt.trans b2) A2 (e ▸ pb)
theorem etu_not {t1 : TT} {p : Bool → Prop} (ha : EvTU K φ J t1 ρ p) : EvTU K φ J (tNot t1) ρ (fun x => p (!x)) := fun ps σ H A Q q => ha ps σ H A _ fun k ps' H1 b1 A1 e1 => q _ ps' H1 b1 A1 (by show p (!(!k)); rw [Bool.not_not]; exact e1)
theorem st_noJ {tt : TT} (A : At K φ (J ps) ρ σ H) (h : EvTU K φ J tt ρ (fun b => b = false)) (k2 : ∀ ps' H', At K φ (J ps') ρ σ H' → u D0 σ H') : tIfS tt t u D0 σ H :=
  h ps σ H A _ fun b ps' H' bt A' pb => by
    subst pb
    rw [if_neg (by simp)]
    exact k2 ps' H' A'
theorem st_retJ (A : At K φ (J ps) ρ σ H) (h : EvU K φ J te ρ P) (kk : ∀ v d ps' H', P d → At K φ (J ps') ρ σ H' → Rep K φ H' d v → D0.rt v H') : tRet te D0 σ H :=
  h ps σ H A _ fun v d ps' H' b A' pd r => kk v d ps' H' pd A' r
section
variable {PP : Program} {w : World} {mg : Str → Option Value} {base : Heap}
/-- Fun, its code object told -/
structure FunC (K : PySem.W.Frag) (x qual : Str) (st : Stmt) (f : Addr) (fd : FuncData) (c : Addr) : Prop where
  ex : ∃ (oc : Value) (od : Option Addr) (kV doc pm : Value) (an : Option Addr) (ct : Value) (osl : Array (Option Value)),
    fd = PySem.W.fnOf x qual (defArgs st) (defBody st) (defScope st) .none kV doc pm an (.ref c) ct ∧ K.lookup f = some ⟨oc, od, .func fd, osl⟩ ∧ PySem.W.codeIn K (.ref c) qual = true
  kp : PySem.W.keepIn K (.ref f) = true
theorem FunC.fn {x qual : Str} {st : Stmt} {f c : Addr} {fd : FuncData} (F : FunC K x qual st f fd c) : Fun K x qual st f fd := by
  obtain ⟨⟨oc, od, kV, doc, pm, an, ct, osl, h⟩, k⟩ := F
  exact ⟨⟨oc, od, kV, doc, pm, an, _, ct, osl, h⟩, k⟩
theorem funC_mk {x qual : Str} {st : Stmt} {f c : Addr} {oc : Value} {od an : Option Addr} {osl : Array (Option Value)} {kV doc pm ct : Value} (l : K.lookup f = some ⟨oc, od, .func (PySem.W.fnOf x qual (defArgs st) (defBody st) (defScope st) .none kV doc pm an (.ref c) ct), osl⟩)
    (hc : PySem.W.codeIn K (.ref c) qual = true) (k : PySem.W.keepIn K (.ref f) = true) : FunC K x qual st f (PySem.W.fnOf x qual (defArgs st) (defBody st) (defScope st) .none kV doc pm an (.ref c) ct) c := ⟨⟨oc, od, kV, doc, pm, an, ct, osl, rfl, l, hc⟩, k⟩
theorem fn_okT {x qual : Str} {st : Stmt} {f c : Addr} {fd : FuncData} {N ps : List Str} {k n : Nat} {R : List D → D → Prop} (F : FunC K x qual st f fd c) (S : FnScope N ps (defScope st)) (hn : ps.length = n) (m : Nat) (hm : N.length = n + m)
    (hbody : ∀ (A : Around) (outer : List Env) (s : Shared) (H : Hp) (E : XK), Room k (A.deeper (envOfC qual (defScope st) s.heap.objs.size f (.ref c))) →
      ∃ t, PSs (cxOf CX0 PP w K mg base N qual (defScope st) f (.ref c) A outer s H E).nox (defBody st) t ∧
        ∀ (φ : Addr → Prop) (ds : List D) (d : D) (H : Hp) (tb : Array Value) (D0 : Ends) (σ : L2.St), ds.length = n → R ds d → ¬ φ C → (∀ v ps' H', JT C q H ps' H' → Rep K φ H' d v → D0.rt v H') → At K φ (JT C q H tb) (ds.map some ++ List.replicate m none) σ H → t D0 σ H) :
    FnOk PP w K mg base CX0 (k + 1) f fd ps (SpT K C q n R) := by
  obtain ⟨oc, od, kV, doc, pm, an, ct, osl, rfl, lk, hcd⟩ := F.ex
  refine fn_of lk hcd S (fun vs H Q E h => ?_) (fun A outer s H vs Q E hr h => ?_)
  · obtain ⟨φ, ds, d, tb, hl, r, _⟩ := h
    rw [r.length, hl, hn]
  · obtain ⟨φ, ds, d, tb, hl, r, fr, np, tj, hd, k⟩ := h
    obtain ⟨t, ht, run⟩ := hbody A outer s H E hr
    refine ⟨t, ht.nox, run φ ds d H tb _ _ hl hd np (fun v ps' H' j r => k v ps' H' j.1 j.2 r) ⟨?_, fr, ⟨ButP.of (Same.refl H), tj⟩, (mo_butP fun _ h => h).and tj.mo⟩⟩
    have e : N.length - vs.length = m := by rw [hm, r.length, hl]; omega
    unfold L2.start
    rw [e]
    exact SR.start r
end
/-! ### a test of a pair, as a lambda -/
/-- what a def asks that gets a value and a test of pairs -/
def TTest (K : PySem.W.Frag) (R : D → (Int × Int → Bool) → D → Prop) : V → (V → Hp → VK → Prop) → Hp → VK → Prop := fun v1 tl H Q => ∃ (φ : Addr → Prop) (d1 : D) (test : Int × Int → Bool) (d : D), Rep K φ H d1 v1 ∧ Frm φ H ∧ R d1 test d ∧
  (∀ pr v H' (Q' : VK), Same H H' → Frm φ H' → Rep K φ H' (prDD pr) v → (∀ H2, Same H' H2 → Q' (.bl (test pr)) H2) → tl v H' Q') ∧ ∀ v H', Same H H' → Rep K φ H' d v → Q v H'
def tActL (f c' : Addr) (q : Str) (tl : V → Hp → VK → Prop) (ta : TA) : TE := fun σZ HZ Q => σZ[1]? = some (some (.ref f)) ∧ ta σZ HZ fun vs H2 => ∃ v, vs = [v] ∧ H2 c' = some (LamX.CodeO c' q) ∧ tl v H2 Q
theorem ev_act {Jn : Hp → Prop} {f c' : Addr} {tl : V → Hp → VK → Prop} {test : Int × Int → Bool} {pr : Int × Int} (hf : ρ[1]? = some (some (.raw (.ref f)))) (hJ : ∀ H, Jn H → H c' = some (LamX.CodeO c' q) ∧ Same H0 H)
    (cl : ∀ pr v H' (Q' : VK), Same H0 H' → Frm φ H' → Rep K φ H' (prDD pr) v → (∀ H2, Same H' H2 → Q' (.bl (test pr)) H2) → tl v H' Q') (ha : EvAD K φ Jn ta ρ [prDD pr]) : EvD K φ Jn (tActL f c' q tl ta) ρ (.bl (test pr)) := fun σ H A Q k => by
  obtain ⟨v0, e0, r0⟩ := A.sr.2 1 _ hf
  cases (show v0 = _ from r0)
  refine ⟨e0, ha σ H A _ fun vs ds H1 b1 A1 e r => ?_⟩
  subst e
  obtain ⟨v, vs', rfl, rv, rs⟩ := r
  cases (show vs' = [] from rs)
  obtain ⟨h1, h2⟩ := hJ _ A1.j
  exact ⟨v, rfl, h1, cl pr v H1 Q h2 A1.fr rv fun H2 s2 => k _ _ H2 (b1.trans (But.of s2)) (A1.same s2) rfl rfl⟩
/-- x(e, lambda y: body), read -/
theorem eu_lam {R : D → (Int × Int → Bool) → D → Prop} {ix : Nat} {tl : TE} {test : Int × Int → Bool} {d1 d : D} (T : TblF φ C q J) (hd1 : ∀ ps, EvD K φ (J ps) te ρ d1) (hR : R d1 test d)
    (ht : ∀ pr (J' : Hp → Prop), EvD K φ J' tl (ρ.set ix (some (prDD pr))) (.bl (test pr))) : EvU K φ J (tLam1 C [(C, q)] (TTest K R) ix te tl) ρ (fun z => z = d) := fun ps σ H A Q k =>
  hd1 ps σ H A _ fun v1 d' H1 b1 A1 e r1 => by
    subst e
    refine ⟨(T.ok _ _ A1.j).tabs, fun H2 bp t2 => ?_⟩
    obtain ⟨ps', tj⟩ := tabs_J t2
    have A2 : At K φ (J ps') ρ σ H2 := At.tbl T A1 bp tj
    have b2 := butP_butT (φ := φ) bp T.np tj
    refine ⟨φ, _, test, d, r1.mono b2, A2.fr, hR, fun pr v H' Q' sm fr rv kq => ?_, fun v H' sm r => k v d ps' H' ((b1.trans b2).trans (But.of sm)) (A2.same sm) rfl r⟩
    have A3 : At K φ (Same H') ρ σ H' := (A2.same sm).live (Same.refl H') (Mo.sames fun _ h => h)
    refine ht pr (Same H') _ H' (A3.set ix rv) Q' fun v d' H3 _ A4 e r => ?_
    subst e
    cases (show v = _ from r)
    exact kq H3 A4.j
end

-- import HandS.FromBytesMap
-- import HandS.SortKw
-- import HandS.TupLe
-- import KE.KMinKey
/-! ### min(xs, key=lambda y: body), the key a pair of ints: one of the items -/
section
open LamX FbM
section
variable {X : Cx} {pins : List (Addr × Obj)} {σ : L2.St} {H HZ : Hp} {s s1 : Shared}
/-- the lambda called from within a built-in of the maker -/
theorem lam_turn {params : Arguments} {body : Expr} {scope : Scope} {k ix : Nat} {x : Str} {tb : TE} {v : V} {u pm ctv : Value} {f c' : Addr} {Q : VK} (I : Inv X pins σ H s) (L : LamS1 X.env.scope scope x) (hXN : X.N.Nodup) (hx : X.N[ix]? = some x)
    (hf : s.heap.get? f = some (PySem.W.kla_obj "<lambda>" (X.env.qual ++ "<lambda>") params body scope (cloFrom X.env.cells scope.names []) pm c' ctv))
    (hbind : ∀ u, bindArgs (PySem.W.kla_fn "<lambda>" (X.env.qual ++ "<lambda>") params body scope (cloFrom X.env.cells scope.names []) pm (.ref c') ctv) ⟨[u], []⟩ = pure [(x, u)])
    (hr : Room (k + 1) X.A.in1)
    (hbody : ∀ (A : Around) (outer : List Env) (s : Shared) (H : Hp), Room k (A.deeper (lamEnv X scope s.heap.objs.size f c')) → PE (lamCx X A outer s H C8.E0 scope f c').nox body tb)
    (hc : H c' = some (CodeO c' (X.env.qual ++ "<lambda>"))) (rv : RelV v u) (ht : tb (σ.set ix (some v)) H Q) : wpAny (model X.prog X.w) X.A.in1 (call (.ref f) [u]) (EP X pins σ Q) (fun _ _ => False) s := by
  obtain ⟨⟨oc, vs, t, hoc, hdc, hvc⟩, _, _⟩ := I.hok c' _ hc
  have rc : codeAny (model X.prog X.w) X.A.in1 (.call (.ref f) ⟨[u], []⟩) (CR C8.CX0 X.stack X.prog X.w H s Q C8.E0) s := by
    refine PySem.W.kla_callFunE hr.depth hf rfl L.co L.gen rfl ⟨c', oc, vs, t, rfl, hoc, hdc, hvc⟩ ?_
    rw [hbind]
    refine wpAny_pure (wpAny_newFunctionEnv (fun y hy => (L.own y hy).1) (fun y hy => by rw [List.mem_singleton.mp hy]; exact L.par) (fun h₁ hns hsb => ⟨I.nolimit.fresh _ hsb, ?_⟩) L.kind)
    show codeAny _ _ (.expr body (lamEnv X scope s.heap.objs.size f c')) _ _
    have kp : ∀ b o, s.heap.get? b = some o → h₁.get? b = some o := fun b o e => hsb.extBut b o (Nat.ne_of_lt (Heap.lt_size e)) (Heap.get?_push_of_some _ e)
    have J : Inv (lamCx X X.A.in1 X.stack s H C8.E0 scope f c') [] (σ.set ix (some v)) H { s with heap := h₁, toks := s.toks + ([(x, u)] : List (Str × Value)).length } :=
      lam_start1 I L hXN hx rv I.env0.in1 hr.hd Un.refl hns kp
    refine PySem.W.kla_codeExpr (wpAny_mono ((hbody _ _ s H (hr.deeper _)).run [] _ _ H Q (J.wish _) ht) (fun v s' hq => ?_) fun e s' hq => hq.elim)
    obtain ⟨w', H', J', rv, q⟩ := hq
    exact ⟨w', H', J'.os, J'.bare, J'.base, J'.hok, rv, q⟩
  refine wpAny_call (codeAny_mono rc fun r s' hq => ?_)
  cases r with
  | error e => exact (show False from hq).elim
  | ok fl =>
    cases fl with
    | ret u => exact I.after hq
    | next => exact False.elim hq
    | brk => exact False.elim hq
    | cont => exact False.elim hq
/-- a pair of ints -/
def KeyP (H : Hp) (w : V) : Prop := ∃ (t : Addr) (a b : Int), w = .ref t ∧ H t = some (.tup [.int a, .int b])
theorem lt_keys {A : Around} {t1 t2 : Addr} {a b c d : Int} (I : Inv X pins σ H s) (hu : A.units < cLine) (h1 : H t1 = some (.tup [.int a, .int b])) (h2 : H t2 = some (.tup [.int c, .int d])) : ∃ k, Ob.RcOp .Lt A s (.ref t1) (.ref t2) k := by
  obtain ⟨its, r1, p1, _⟩ := I.tuple (X := X) (a := t1) (xs := [.int a, .int b]) (.inl (.inl h1))
  obtain ⟨its2, r2, p2, _⟩ := I.tuple (X := X) (a := t2) (xs := [.int c, .int d]) (.inl (.inl h2))
  have i1 : PyProof.Rows.IntsAre its [a, b] := Vals.ints r1
  have i2 : PyProof.Rows.IntsAre its2 [c, d] := Vals.ints r2
  have e1 : its.toArray.size = 2 := by rw [List.size_toArray]; exact i1.length
  have e2 : its2.toArray.size = 2 := by rw [List.size_toArray]; exact i2.length
  have at1 : ∀ j (h1 : j < its.toArray.size), ∃ t, its.toArray[j] = .int ([a, b].getD j 0) t := fun j h1 => PyProof.Rows.IntsAre.int_at i1 _ _ (by simp at h1; simp [h1])
  have at2 : ∀ j (h1 : j < its2.toArray.size), ∃ t, its2.toArray[j] = .int ([c, d].getD j 0) t := fun j h1 => PyProof.Rows.IntsAre.int_at i2 _ _ (by simp at h1; simp [h1])
  exact ⟨_, Ob.RcOp.tuples_lt (A := A) (s := s) (e := fun j => [a, b].getD j 0 == [c, d].getD j 0) (r := fun j => decide ([a, b].getD j 0 < [c, d].getD j 0)) p1 p2 hu (fun j h1 h2 => by
    obtain ⟨t, et⟩ := at1 j h1
    obtain ⟨t', et'⟩ := at2 j h2
    rw [et, et']
    exact SeqAt.EqAt.int_int _ _ _ _) (fun j h1 h2 _ => by
    obtain ⟨t, et⟩ := at1 j h1
    obtain ⟨t', et'⟩ := at2 j h2
    rw [et, et']
    exact Ob.RcOp.lt_int _ _ _ _)⟩
theorem seq_upd {h : Heap} {S : Addr} {vs : Array Value} {c : Nat} (e : h.get? S = some (seqObj "list" vs c)) (ws : Array Value) : ∃ c2, (h.update S (Obj.mapSeq fun _ => ws)).get? S = some (seqObj "list" ws c2) := ⟨_, get?_update_seq e fun _ => ws⟩
theorem sql_same {K : PySem.W.Frag} {H H' : Hp} {l : Addr} {vs : List V} (h : SqL K H l vs) (s : Same H H') : SqL K H' l vs := h.elim (fun z => .inl (z.elim (fun h => .inl (s _ _ h)) fun ⟨o, h⟩ => .inr ⟨o, s _ _ h⟩)) .inr
theorem vals_getU : ∀ {xs : List V} {us : List Value} {i : Nat} {u : Value}, Vals xs us → us[i]? = some u → ∃ x, xs[i]? = some x ∧ RelV x u := fun {xs us i u} r e => by
  obtain ⟨h, _⟩ := List.getElem?_eq_some_iff.mp e
  have hl := r.length
  obtain ⟨w, e1, r1⟩ := r.get (List.getElem?_eq_getElem (show i < xs.length by omega))
  rw [e] at e1
  cases e1
  exact ⟨_, List.getElem?_eq_getElem (show i < xs.length by omega), r1⟩
theorem minkey_loop {f l it S : Addr} {fo : Obj} {vs : List V} {Q : VK} {H1 : Hp} {R : Result → Shared → Prop} (hh : X.A.in1.handled = none) (hu : X.A.in1.units < cLine)
    (turn : ∀ (s : Shared) (H : Hp) (v : V) (u : Value) (pins' : List (Addr × Obj)), Inv X pins' σ H s → s.heap.get? f = some fo → Same H1 H → v ∈ vs → RelV v u → wpAny (model X.prog X.w) X.A.in1 (call (.ref f) [u]) (EP X pins' σ fun w H' => Same H H' ∧ KeyP H' w) (fun _ _ => False) s)
    (hl : SqL X.K H1 l vs) (hq : ∀ v H', v ∈ vs → Same H1 H' → Q v H') (hR : ∀ u s', EP X pins σ Q u s' → R (.ok (.ret u)) s')
    (rf : Rec X pins f) (rS : Rec X pins S) (ri : Rec X pins it) (nfS : f ≠ S) (nfi : f ≠ it) (nSi : S ≠ it) (nli : l ≠ it) (fnc : ∀ v, fo.data ≠ .cell v) (nff : f ∉ X.fs) (nSf : S ∉ X.fs) (nif : it ∉ X.fs) :
    ∀ (r j : Nat) (s : Shared) (H : Hp) (ub : Value) (vb : V) (tb : Addr) (a b : Int) (c : Nat), vs.length - (j + 1) = r → j + 1 ≤ vs.length → Inv X pins σ H s → Same H1 H → H f = none → H S = none → H it = none →
      s.heap.get? f = some fo → s.heap.get? S = some (seqObj "list" #[ub, .ref tb] c) → s.heap.IsListIter it l (j + 1) → vb ∈ vs → RelV vb ub → H tb = some (.tup [.int a, .int b]) →
      codeAny (model X.prog X.w) X.A (.builtin "min.loop" ⟨[.ref it, .ref f, .ref S], []⟩) R s := by
  have hname : (toString "min" ++ toString ".loop" : String) = "min.loop" := by decide
  intro r
  induction r with
  | zero =>
    intro j s H ub vb tb a b c hr hj I sm nf nS ni hf hS hit hvb rb htb
    have hin : j + 1 = vs.length := by omega
    obtain ⟨its, rv, pl, _⟩ := I.list (sql_same hl sm)
    have hsz : its.toArray.size = vs.length := by rw [List.size_toArray]; exact rv.length.symm
    have W := Walks.list (prog := X.prog) (w := X.w) (A := X.A.in1) hh it l nli its.toArray
    refine codeAny_builtin PySem.F.entry_min_loop ?_
    rw [Around.under_plainId PySem.F.plain_min_loop _]
    show wpAny _ X.A.in1 (seqItems? (.ref S) >>= _) _ _ _
    refine wpAny_bind (wpAny_seqItems hS rfl ?_)
    show wpAny _ X.A.in1 (tryCatch (pyNext (.ref it)) _ >>= _) _ _ _
    refine wpAny_bind (wpAny_tryCatch (W.done _ _ _ ⟨by rw [hsz, ← hin]; exact hit, pl.isList⟩ fun h' tk' hk' => ?_))
    have hk2 : ∀ b o, b ≠ it → s.heap.get? b = some o → h'.get? b = some o := fun b o n e => hk' b o (by simpa using n) e
    have I1 := ri.turn (t' := tk') I ni hk2
    have hS' := hk2 S _ nSi hS
    show wpAny _ X.A.in1 (updateSeq S (fun _ => #[]) >>= _) _ _ _
    refine wpAny_bind ?_
    refine wpAny_updateSeq hS' rfl (wpAny_bind (wpAny_letGo (wpAny_pure ?_)))
    refine hR ub _ ⟨vb, H, rS.turn (t' := tk') I1 nS fun b o n e => ?_, rb, hq vb H hvb sm⟩
    exact (Heap.get?_update_ne _ _ _ _ n).trans e
  | succ r ih =>
    intro j s H ub vb tb a b c hr hj I sm nf nS ni hf hS hit hvb rb htb
    have hlt : j + 1 < vs.length := by omega
    obtain ⟨its, rv, pl, _⟩ := I.list (sql_same hl sm)
    have hsz : its.toArray.size = vs.length := by rw [List.size_toArray]; exact rv.length.symm
    have W := Walks.list (prog := X.prog) (w := X.w) (A := X.A.in1) hh it l nli its.toArray
    refine codeAny_builtin PySem.F.entry_min_loop ?_
    rw [Around.under_plainId PySem.F.plain_min_loop _]
    show wpAny _ X.A.in1 (seqItems? (.ref S) >>= _) _ _ _
    refine wpAny_bind (wpAny_seqItems hS rfl ?_)
    show wpAny _ X.A.in1 (tryCatch (pyNext (.ref it)) _ >>= _) _ _ _
    refine wpAny_bind (wpAny_tryCatch (W.item (j + 1) _ _ _ (by rw [hsz]; exact hlt) ⟨hit, pl.isList⟩ fun u h' tk' hP hst' hk' => ?_))
    have hk2 : ∀ b o, b ≠ it → s.heap.get? b = some o → h'.get? b = some o := fun b o n e => hk' b o (by simpa using n) e
    have hu1 : its[j + 1]? = some u := by simpa using hP
    obtain ⟨v, hv, ru⟩ := vals_getU rv hu1
    have hvm : v ∈ vs := List.mem_of_getElem? hv
    obtain ⟨oI, hoI, hoc, hod⟩ := id hst'.1
    have I1 := ri.turn (t' := tk') I ni hk2
    have hS' := hk2 S _ nSi hS
    have hf' := hk2 f _ nfi hf
    have I2 : Inv X ((f, fo) :: (S, seqObj "list" #[ub, .ref tb] c) :: (it, oI) :: pins) σ H _ := I1.pins_of fun q hq => by
      rcases List.mem_cons.mp hq with rfl | hq
      · exact ⟨hf', nf, rf.nl, nff, fnc⟩
      rcases List.mem_cons.mp hq with rfl | hq
      · exact ⟨hS', nS, rS.nl, nSf, fun v z => by cases z⟩
      rcases List.mem_cons.mp hq with rfl | hq
      · exact ⟨hoI, ni, ri.nl, nif, fun v z => by rw [hod] at z; cases z⟩
      · exact I1.pin q (List.mem_append_right _ hq)
    show wpAny _ X.A.in1 (tryCatch (holding [u] (call (.ref f) [u])) _ >>= _) _ _ _
    refine wpAny_bind (wpAny_tryCatch (wpAny_holding (wpAny_mono (turn _ H v u _ I2 hf' sm hvm ru) (fun x s2 he => ?_) fun _ _ hF => hF.elim)))
    obtain ⟨w, H2, I3, rw_, sm2, t2, a2, b2, rfl, ht2⟩ := he
    obtain rfl : x = Value.ref t2 := rw_
    have pf := I3.pin (f, fo) (List.mem_append_right _ (List.mem_cons_self))
    have pS := I3.pin (S, seqObj "list" #[ub, .ref tb] c) (List.mem_append_right _ (List.mem_cons_of_mem _ List.mem_cons_self))
    have pi := I3.pin (it, oI) (List.mem_append_right _ (List.mem_cons_of_mem _ (List.mem_cons_of_mem _ List.mem_cons_self)))
    have I4 : Inv X pins σ H2 s2 := I3.pins_of fun q hq => I3.pin q (List.mem_append_right _ (List.mem_cons_of_mem _ (List.mem_cons_of_mem _ (List.mem_cons_of_mem _ hq))))
    have hit2 : s2.heap.IsListIter it l (j + 1 + 1) := ⟨oI, pi.1, hoc, hod⟩
    obtain ⟨kk, rc⟩ := lt_keys (A := X.A.in1) I4 hu ht2 (sm2 _ _ htb)
    show wpAny _ X.A.in1 (tryCatch (holding [u, .ref t2] (richCompare .Lt (.ref t2) (.ref tb) >>= _)) _ >>= _) _ _ _
    refine wpAny_bind (wpAny_tryCatch (wpAny_holding (wpAny_bind (rc _ _ _ _ ?_))))
    refine wpAny_bind (wpAny_holding (wpAny_truthy_bool ?_))
    refine wpAny_bind (wpAny_letGo (wpAny_pure ?_))
    cases kk with
    | true =>
      obtain ⟨c2, hc2⟩ := seq_upd pS.1 #[u, .ref t2]
      simp only [if_true]
      refine wpAny_bind ?_
      refine wpAny_updateSeq pS.1 rfl (wpAny_bind (wpAny_letGo ?_))
      rw [hname]
      have kS : ∀ b o, b ≠ S → s2.heap.get? b = some o → (s2.heap.update S (Obj.mapSeq fun _ => #[u, .ref t2])).get? b = some o := fun b o n e => (Heap.get?_update_ne _ _ _ _ n).trans e
      exact wpAny_pure ⟨plainId_quiet PySem.F.plain_min_loop _, ih (j + 1) _ H2 u v t2 a2 b2 c2 (by omega) hlt (rS.turn (t' := s2.toks) I4 pS.2.1 kS) (sm.trans sm2) pf.2.1 pS.2.1 pi.2.1 (kS _ _ nfS pf.1) hc2 ⟨oI, kS _ _ nSi.symm pi.1, hoc, hod⟩ hvm ru ht2⟩
    | false =>
      simp only [Bool.false_eq_true, if_false]
      refine wpAny_bind (wpAny_letGo ?_)
      rw [hname]
      exact wpAny_pure ⟨plainId_quiet PySem.F.plain_min_loop _, ih (j + 1) _ H2 ub vb tb a b c (by omega) hlt I4 (sm.trans sm2) pf.2.1 pS.2.1 pi.2.1 pf.1 pS.1 hit2 hvb rb (sm2 _ _ htb)⟩
theorem minkey_run {f l : Addr} {fo : Obj} {vs : List V} {Q : VK} {E : Value → Shared → Prop} (I : Inv X pins σ H s) (hh : X.A.in1.handled = none) (hu : X.A.in1.units < cLine)
    (turn : ∀ (s : Shared) (H' : Hp) (v : V) (u : Value) (pins' : List (Addr × Obj)), Inv X pins' σ H' s → s.heap.get? f = some fo → Same H H' → v ∈ vs → RelV v u → wpAny (model X.prog X.w) X.A.in1 (call (.ref f) [u]) (EP X pins' σ fun w H'' => Same H' H'' ∧ KeyP H'' w) (fun _ _ => False) s)
    (hl : SqL X.K H l vs) (hne : 0 < vs.length) (hq : ∀ v H', v ∈ vs → Same H H' → Q v H') (rf : Rec X pins f) (hf : s.heap.get? f = some fo) (nf : H f = none) (fnc : ∀ v, fo.data ≠ .cell v) (nff : f ∉ X.fs) :
    wpAny (model X.prog X.w) X.A (call (.builtin "min") [.ref l] [(Str.ofString "key", .ref f)]) (EP X pins σ Q) E s := by
  have hname : (toString "min" ++ toString ".loop" : String) = "min.loop" := by decide
  obtain ⟨its, rv, pl, _⟩ := I.list hl
  have hls := pl.isList
  obtain ⟨ol, hol, _⟩ := id hls
  have hll : l < s.heap.objs.size := Heap.lt_size hol
  have hfl : f < s.heap.objs.size := Heap.lt_size hf
  refine PyProof.Rows.kmk_tree PySem.F.kind_min PySem.F.plain_min PySem.F.entry_min (PyProof.Rows.kmk_min_key _ _) ?_
  show wpAny _ X.A.in1 (Builtin.Builtins.bindParams "min" ["key", "default"] 0 ⟨[], [(Str.ofString "key", .ref f)]⟩ >>= _) _ _ s
  refine wpAny_bind (wpAny_of_eq (show Builtin.Builtins.bindParams "min" ["key", "default"] 0 ⟨[], [(Str.ofString "key", .ref f)]⟩ = pure [some (.ref f), none] from rfl) ?_)
  refine wpAny_bind (wpAny_pure ?_)
  refine wpAny_bind (wpAny_pyIter_list hls ?_)
  refine wpAny_bind (wpAny_newList ?_ (Nat.zero_le _))
  rw [hname]
  have hS : (s.heap.push { cls := .type "list_iterator", data := .fields #[.ref l, .int 0 0] }).objs.size = s.heap.objs.size + 1 := size_push' ..
  have k1 : ∀ b o, s.heap.get? b = some o → ((s.heap.push { cls := .type "list_iterator", data := .fields #[.ref l, .int 0 0] }).push (seqObj "list" #[] 0)).get? b = some o := fun b o e => Heap.get?_push_of_some _ (Heap.get?_push_of_some _ e)
  have gI : ((s.heap.push { cls := .type "list_iterator", data := .fields #[.ref l, .int 0 0] }).push (seqObj "list" #[] 0)).get? s.heap.objs.size = some { cls := .type "list_iterator", data := .fields #[.ref l, .int 0 0] } :=
    Heap.get?_push_of_some _ (Heap.get?_push_size _ rfl)
  have gS : ((s.heap.push { cls := .type "list_iterator", data := .fields #[.ref l, .int 0 0] }).push (seqObj "list" #[] 0)).get? (s.heap.push { cls := .type "list_iterator", data := .fields #[.ref l, .int 0 0] }).objs.size = some (seqObj "list" #[] 0) := Heap.get?_push_size _ rfl
  refine wpAny_pure ⟨plainId_quiet PySem.F.plain_min_loop _, ?_⟩
  rw [hS] at gS ⊢
  generalize ((s.heap.push { cls := .type "list_iterator", data := .fields #[.ref l, .int 0 0] }).push (seqObj "list" #[] 0)) = hp at gI gS k1 ⊢
  have ri : Rec X pins s.heap.objs.size := rec_new I (Nat.le_refl _)
  have rS : Rec X pins (s.heap.objs.size + 1) := rec_new I (Nat.le_succ _)
  have ni : H s.heap.objs.size = none := I.hok.fresh (Nat.le_refl _)
  have nS : H (s.heap.objs.size + 1) = none := I.hok.fresh (Nat.le_succ _)
  have nif : s.heap.objs.size ∉ X.fs := I.nofs (Nat.le_refl _)
  have nSf : s.heap.objs.size + 1 ∉ X.fs := I.nofs (Nat.le_succ _)
  have nSi : s.heap.objs.size + 1 ≠ s.heap.objs.size := Nat.ne_of_gt (Nat.lt_succ_self _)
  have nfi : f ≠ s.heap.objs.size := Nat.ne_of_lt hfl
  have nfS : f ≠ s.heap.objs.size + 1 := Nat.ne_of_lt (Nat.lt_succ_of_lt hfl)
  have nli : l ≠ s.heap.objs.size := Nat.ne_of_lt hll
  have I0 : Inv X pins σ H { s with heap := hp } := I.kept (t' := s.toks) k1
  have hf0 := k1 _ _ hf
  generalize s.heap.objs.size + 1 = S at *
  generalize s.heap.objs.size = it at *
  obtain ⟨its, rv, pl, _⟩ := I0.list hl
  have hsz : its.toArray.size = vs.length := by rw [List.size_toArray]; exact rv.length.symm
  have W := Walks.list (prog := X.prog) (w := X.w) (A := X.A.in1) hh it l nli its.toArray
  refine codeAny_builtin PySem.F.entry_min_loop ?_
  rw [Around.under_plainId PySem.F.plain_min_loop _]
  show wpAny _ X.A.in1 (seqItems? (.ref _) >>= _) _ _ _
  refine wpAny_bind (wpAny_seqItems gS rfl ?_)
  show wpAny _ X.A.in1 (tryCatch (pyNext (.ref it)) _ >>= _) _ _ _
  refine wpAny_bind (wpAny_tryCatch (W.item 0 _ _ _ (by rw [hsz]; exact hne) ⟨⟨_, gI, rfl, rfl⟩, pl.isList⟩ fun u h' tk' hP hst' hk' => ?_))
  have hk2 : ∀ b o, b ≠ it → hp.get? b = some o → h'.get? b = some o := fun b o n e => hk' b o (by simpa using n) e
  have hu1 : its[0]? = some u := by simpa using hP
  obtain ⟨v, hv, ru⟩ := vals_getU rv hu1
  have hvm : v ∈ vs := List.mem_of_getElem? hv
  obtain ⟨oI, hoI, hoc, hod⟩ := id hst'.1
  have I1 := ri.turn (t' := tk') I0 ni hk2
  have hS' := hk2 S _ nSi gS
  have hf' := hk2 f _ nfi hf0
  have I2 : Inv X ((f, fo) :: (S, seqObj "list" #[] 0) :: (it, oI) :: pins) σ H _ := I1.pins_of fun q hq => by
    rcases List.mem_cons.mp hq with rfl | hq
    · exact ⟨hf', nf, rf.nl, nff, fnc⟩
    rcases List.mem_cons.mp hq with rfl | hq
    · exact ⟨hS', nS, rS.nl, nSf, fun v z => by cases z⟩
    rcases List.mem_cons.mp hq with rfl | hq
    · exact ⟨hoI, ni, ri.nl, nif, fun v z => by rw [hod] at z; cases z⟩
    · exact I1.pin q (List.mem_append_right _ hq)
  show wpAny _ X.A.in1 (tryCatch (holding [u] (call (.ref f) [u])) _ >>= _) _ _ _
  refine wpAny_bind (wpAny_tryCatch (wpAny_holding (wpAny_mono (turn _ H v u _ I2 hf' (Same.refl H) hvm ru) (fun x s2 he => ?_) fun _ _ hF => hF.elim)))
  obtain ⟨w, H2, I3, rw_, sm2, t2, a2, b2, rfl, ht2⟩ := he
  obtain rfl : x = Value.ref t2 := rw_
  have pf := I3.pin (f, fo) (List.mem_append_right _ (List.mem_cons_self))
  have pS := I3.pin (S, seqObj "list" #[] 0) (List.mem_append_right _ (List.mem_cons_of_mem _ List.mem_cons_self))
  have pi := I3.pin (it, oI) (List.mem_append_right _ (List.mem_cons_of_mem _ (List.mem_cons_of_mem _ List.mem_cons_self)))
  have I4 : Inv X pins σ H2 s2 := I3.pins_of fun q hq => I3.pin q (List.mem_append_right _ (List.mem_cons_of_mem _ (List.mem_cons_of_mem _ (List.mem_cons_of_mem _ hq))))
  obtain ⟨c2, hc2⟩ := seq_upd pS.1 #[u, .ref t2]
  show wpAny _ X.A.in1 (updateSeq S (fun _ => #[u, .ref t2]) >>= _) _ _ _
  refine wpAny_bind ?_
  refine wpAny_updateSeq pS.1 rfl ?_
  rw [hname]
  have kS : ∀ b o, b ≠ S → s2.heap.get? b = some o → (s2.heap.update S (Obj.mapSeq fun _ => #[u, .ref t2])).get? b = some o := fun b o n e => (Heap.get?_update_ne _ _ _ _ n).trans e
  exact wpAny_pure ⟨plainId_quiet PySem.F.plain_min_loop _, minkey_loop (l := l) (H1 := H) hh hu turn hl hq (fun u s' z => z) rf rS ri nfS nfi nSi nli fnc nff nSf nif _ 0 _ H2 u v t2 a2 b2 c2 rfl hne (rS.turn (t' := s2.toks) I4 pS.2.1 kS) sm2 pf.2.1 pS.2.1 pi.2.1 (kS _ _ nfS pf.1) hc2 ⟨oI, kS _ _ nSi.symm pi.1, hoc, hod⟩ hvm ru ht2⟩
end
def tMinL (K : PySem.W.Frag) (P : Addr) (T : List (Addr × Str)) (lpos : Pos) (ix : Nat) (ta : TA) (t : TE) : TE := fun σ H Q => ta σ H fun vs1 H0 => Tabs T H0 ∧ ∃ l vs, vs1 = [.ref l] ∧ SqL K H0 l vs ∧ 0 < vs.length ∧ ∀ H1, ButP P H0 H1 → Tabs T H1 → FullAt P lpos H1 → (FullAt P lpos H0 → H1 = H0) → SqL K H1 l vs ∧
  (∀ v ∈ vs, ∀ H', Same H1 H' → t (σ.set ix (some v)) H' fun w H'' => Same H' H'' ∧ KeyP H'' w) ∧ ∀ v ∈ vs, ∀ H', Same H1 H' → Q v H'
/-- min(e, key=lambda y: body) -/
theorem pe_minkey {X : Cx} {T : List (Addr × Str)} {x y : Str} {c P : Addr} {k ix : Nat} {params : Arguments} {e body : Expr} {scope : Scope} {ta : TA} {t : TE} {p lpos kp pos : Pos} (hg : Gl X x) (hm : X.mg x = none) (hv : bootBuiltins x = some (.builtin "min"))
    (TB : TabB X.base X.mg c P) (hcode : X.env.code = .ref c) (hmT : (P, X.env.qual ++ "<lambda>") ∈ T) (hu : ∀ p ∈ T, p.1 = P → p.2 = X.env.qual ++ "<lambda>") (hr : Room (k + 2) X.A) (L : LamS1 X.env.scope scope y) (hXN : X.N.Nodup) (hx : X.N[ix]? = some y) (hdef : defaultsOf params X.env = ([], []))
    (hbind : ∀ (q : Str) (cl : List (Str × Addr)) (pm cv ctv u : Value), bindArgs (PySem.W.kla_fn "<lambda>" q params body scope cl pm cv ctv) ⟨[u], []⟩ = pure [(y, u)])
    (ha : PA X [e] ta) (hbody : ∀ (A : Around) (outer : List Env) (s : Shared) (H : Hp) (f c' : Addr), Room k (A.deeper (lamEnv X scope s.heap.objs.size f c')) → PE (lamCx X A outer s H C8.E0 scope f c').nox body t)
    (hn : x ≠ "__name__" := by decide) (hdb : (x == ("__debug__" : Str)) = false := by decide)
    (he : backTo pos (starEach [e] X.env) = (false, eval e X.env) :: backTo pos (starEach [] X.env) := by rfl) (hpl : (backTo pos (starEach [e] X.env)).any (·.1) = false := by rfl) :
    PE X (.Call (.Name x p) [e] [⟨some "key", .Lambda params body scope lpos, kp⟩] pos) (tMinL X.K P T lpos ix ta t) := by
  refine ⟨fun pins s σ H Q I h => ?_⟩
  refine wpAny_Call_Name_kw (ld_blt I hg hm hv ?_ hn hdb)
  refine PyProof.Rows.callWith_kw (thn (ha.run pos pins s σ H _ I h) fun us s1 ⟨vs1, H1, I1, r1, hT, l, vs, e1, hsq, hne, q1⟩ => ?_) he hpl (by rfl) (by rfl)
  subst e1
  obtain rfl := Vals.ref1 r1
  refine PyProof.Rows.kws_cons (lam_make4 I1 TB hcode hmT hu hT hdef (L.has I1.ok) fun f c' pm' ctv H2 s' hge fl1 fl2 I2 eN T2 hf hfn hfr hco => PyProof.Rows.kws_nil ?_)
  obtain ⟨hsq2, q2, q3⟩ := q1 H2 eN T2 fl1 fl2
  exact minkey_run I2 hr.in1.hd hr.in1.units0 (fun s H' v u pins' I' hf' sm hv ru => lam_turn I' L hXN hx hf' (hbind _ _ _ _ _) hr.in1 (fun A outer s H hr2 => hbody A outer s H f c' hr2) (sm _ _ hco) ru (q2 v hv H' sm)) hsq2 hne (fun v H' hv sm => q3 v hv H' sm) (rec_new I1 hge) hf hfn (fun v z => by cases z) (I1.nofs hge)
end
/-! ### .. read -/
section
variable {K : PySem.W.Frag} {φ φ' : Addr → Prop} {J : Hp → Prop} {H H' H0 H1 : Hp} {ρ ρ' : List (Option D)} {σ : L2.St} {ta : TA} {te tb : TE} {x y z d : D} {P : D → Prop} {Pr : List D → Prop} {ds es : List D} {v : V} {D0 : Ends} {t u : TS} {C p s : Addr} {q : Str} {ps ps' : Array Value} {pos : Pos}
theorem TabJ.full (h : TabJ C q ps H) (e : FullAt C pos H) : (codeAmong pos ps.toList).isSome = true := by
  obtain ⟨ps2, e1, e2⟩ := e
  rw [h.1] at e1
  cases e1
  exact e2
/-- what is told behind: the table is full, and where it was so, all is as it was -/
def JF (C : Addr) (q : Str) (pos : Pos) (H0 : Hp) (ps : Array Value) : Hp → Prop := fun H => ButP C H0 H ∧ TabJ C q ps H ∧ (FullAt C pos H0 → Same H0 H)
theorem JF.mo (h : JF C q pos H0 ps H) : Mo H (JF C q pos H0 ps) := fun H1 H2 k j => by
  have m1 : Mo H (fun H => ButP C H0 H ∧ TabJ C q ps H) := (mo_butP (butP_trT h.1 h.2.1)).and h.2.1.mo
  obtain ⟨z1, z2⟩ := m1 H1 H2 k ⟨j.1, j.2.1⟩
  exact ⟨z1, z2, fun f a o e => k a o (by rw [h.2.2 f a o e]; exact fun z => by cases z) (j.2.2 f a o e)⟩
/-- best = min(e, key=lambda y: body): one of the items -/
theorem st_minkey {i ix : Nat} {tl : TE} (A : At K φ (Same H0) ρ σ H) (np : ¬ φ C) (ht : TabJ C q ps H0) (ha : EvAD K φ (Same H0) ta ρ [.lst es]) (hne : 0 < es.length)
    (hk : ∀ e ∈ es, ∀ (J' : Hp → Prop), EvP K φ J' tl (ρ.set ix (some e)) (fun d => ∃ a b : Int, d = .tup [.int a, .int b]))
    (kk : ∀ d ps' σ' H', d ∈ es → FullAt C pos H' → At K φ (JF C q pos H0 ps') (ρ.set i (some d)) σ' H' → D0.nx σ' H') : tAsg (tMinL K C [(C, q)] pos ix ta tl) (gName i) D0 σ H := by
  refine ha σ H A _ fun vs ds H1 b1 A1 e r1 => ?_
  subst e
  obtain ⟨v, vs', rfl, rv, rs⟩ := r1
  cases (show vs' = [] from rs)
  obtain ⟨l, xs, rfl, pl, rx⟩ := rep_lst rv
  have sm1 : Same H0 H1 := A1.j
  have t1 := ht.same sm1
  refine ⟨t1.tabs, l, xs, rfl, pl.sq, by rw [rx.length]; exact hne, fun H2 bp tb2 fl1 fl2 => ?_⟩
  obtain ⟨ps', tj⟩ := tabs_J tb2
  have b2 := butP_butT (φ := φ) bp np tj
  have A2 : At K φ (JT C q H1 ps') ρ σ H2 := ⟨A1.sr.up (Up.of b2), A1.fr.butT bp tj, ⟨bp, tj⟩, (mo_butP (butP_trT bp tj)).and tj.mo⟩
  have rx2 := rx.mono b2
  refine ⟨(pl.up (Up.of b2)).sq, fun v hv H' sm => ?_, fun v hv H' sm => ?_⟩
  · obtain ⟨k, hk1⟩ := List.mem_iff_getElem?.mp hv
    obtain ⟨e, he, re⟩ := rx2.getV hk1
    have A3 : At K φ (Same H') ρ σ H' := (A2.same sm).live (Same.refl H') (Mo.sames fun _ h => h)
    refine hk e (List.mem_of_getElem? he) (Same H') _ H' (A3.set ix (re.mono (But.of sm))) _ fun w d' H3 _ A4 ⟨a, b, ed⟩ r => ⟨A4.j, ?_⟩
    subst ed
    obtain ⟨t, ws, rfl, pt, rw_⟩ := rep_tup r
    obtain ⟨w1, r1, rfl, e1, e2⟩ := rw_
    obtain ⟨w2, r2, rfl, e3, e4⟩ := e2
    cases (show r2 = [] from e4)
    cases (show w1 = _ from e1)
    cases (show w2 = _ from e3)
    exact ⟨t, a, b, rfl, pt.at.2⟩
  · obtain ⟨k, hk1⟩ := List.mem_iff_getElem?.mp hv
    obtain ⟨e, he, re⟩ := rx2.getV hk1
    have tj' : TabJ C q ps' H' := tj.same sm
    have fl' : FullAt C pos H' := by
      obtain ⟨p1, p2, p3⟩ := fl1
      exact ⟨p1, sm _ _ p2, p3⟩
    have jf : JF C q pos H0 ps' H' := ⟨(ButP.of sm1).trans (bp.trans (ButP.of sm)), tj', fun ⟨p1, p2, p3⟩ => by
      have e := fl2 ⟨p1, sm1 _ _ p2, p3⟩
      rw [e] at sm
      exact sm1.trans sm⟩
    have A3 := A2.same sm
    have A4 : At K φ (JF C q pos H0 ps') ρ σ H' := A3.live jf jf.mo
    exact kk e ps' (σ.set i v) H' (List.mem_of_getElem? he) fl' (A4.set i (re.mono (But.of sm)))
theorem jf_same (t : TabJ C q ps H) (s : Same H H') : JF C q pos H ps H' := ⟨ButP.of s, t.same s, fun _ => s⟩
theorem JF.same (h : JF C q pos H0 ps H) (s : Same H H') : JF C q pos H0 ps H' := ⟨h.1.trans (ButP.of s), h.2.1.same s, fun f => (h.2.2 f).trans s⟩
theorem FullAt.same (h : FullAt C pos H) (s : Same H H') : FullAt C pos H' := by
  obtain ⟨p1, p2, p3⟩ := h
  exact ⟨p1, s _ _ p2, p3⟩
/-- the promise of a def that makes the lambda -/
def SpS (K : PySem.W.Frag) (C : Addr) (q : Str) (pos : Pos) (n : Nat) (Pre : List D → Prop) (R : List D → D → Prop) : Sp := fun vs H Q _ => ∃ φ ds ps, ds.length = n ∧ Reps K φ H ds vs ∧ Frm φ H ∧ ¬ φ C ∧ TabJ C q ps H ∧ Pre ds ∧ ∀ v d ps' H', R ds d → JF C q pos H ps' H' → Rep K φ H' d v → Q v H'
/-- .. called where the table is full -/
theorem ev_callF {J : Hp → Prop} {n : Nat} {Pre : List D → Prop} {R : List D → D → Prop} {E : XK} (np : ¬ φ C) (hJ : ∀ H', J H' → (∃ ps, TabJ C q ps H') ∧ FullAt C pos H') (ha : EvAD K φ J ta ρ ds) (hp : Pre ds) (hl : ds.length = n := by rfl) : EvP K φ J (tCall (SpS K C q pos n Pre R) [] E ta) ρ (R ds) := fun σ H A Q qq =>
  ha σ H A _ fun vs ds' H1 b1 A1 e r1 => by
    subst e
    obtain ⟨⟨ps, t⟩, fl⟩ := hJ _ A1.j
    refine ⟨φ, _, ps, hl, by rw [List.append_nil]; exact r1, A1.fr, np, t, hp, fun v d ps' H' rd j r => ?_⟩
    have s := j.2.2 fl
    exact qq v d H' (b1.trans (But.of s)) (A1.same s) rd r
/-- .. and where it may not be: the first call -/
theorem st_callS {n : Nat} {Pre : List D → Prop} {R : List D → D → Prop} {E : XK} {g : TG} {us : List Nat} {ρ2 : D → List (Option D)} (A : At K φ (Same H0) ρ σ H) (np : ¬ φ C) (ht : TabJ C q ps H0) (ha : EvAD K φ (Same H0) ta ρ ds) (hp : Pre ds) (hg : ∀ d, R ds d → EvG K g d ρ (ρ2 d) us)
    (kk : ∀ d ps' σ' H', R ds d → At K φ (JF C q pos H0 ps') (ρ2 d) σ' H' → D0.nx σ' H') (hl : ds.length = n := by rfl) : tAsg (tCall (SpS K C q pos n Pre R) [] E ta) g D0 σ H :=
  ha σ H A _ fun vs ds' H1 b1 A1 e r1 => by
    subst e
    have s1 : Same H0 H1 := A1.j
    refine ⟨φ, _, ps, hl, by rw [List.append_nil]; exact r1, A1.fr, np, ht.same s1, hp, fun v d ps' H' rd j r => ?_⟩
    have b2 := butP_butT (φ := φ) j.1 np j.2.1
    have j2 : JF C q pos H0 ps' H' := ⟨(ButP.of s1).trans j.1, j.2.1, fun f => s1.trans (j.2.2 (f.same s1))⟩
    have A2 : At K φ (JF C q pos H0 ps') ρ σ H' := ⟨A1.sr.up (Up.of b2), A1.fr.butT j.1 j.2.1, j2, j2.mo⟩
    exact hg d rd φ _ σ H' v A2 r _ fun σ' A3 _ => kk d ps' σ' H' rd A3
theorem st_callGX {ι : Type} {n : Nat} {Pre : ι → List D → Prop} {R : ι → List D → D → Prop} {E : L2.St → XK} {g : TG} {us : List Nat} {ρ2 : D → List (Option D)} (X : ι) (A : At K φ (Same H0) ρ σ H) (np : ¬ φ C) (ht : TabJ C q ps H0) (ha : EvAD K φ (Same H0) ta ρ ds) (hp : Pre X ds) (hg : ∀ d, R X ds d → EvG K g d ρ (ρ2 d) us)
    (kk : ∀ d ps' σ' H', R X ds d → At K φ (JF C q pos H0 ps') (ρ2 d) σ' H' → D0.nx σ' H') (hl : ds.length = n := by rfl) : tAsg (tCallS (fun vs H Q E => ∃ X, SpS K C q pos n (Pre X) (R X) vs H Q E) E ta) g D0 σ H :=
  ha σ H A _ fun vs ds' H1 b1 A1 e r1 => by
    subst e
    have s1 : Same H0 H1 := A1.j
    refine ⟨X, φ, _, ps, hl, r1, A1.fr, np, ht.same s1, hp, fun v d ps' H' rd j r => ?_⟩
    have b2 := butP_butT (φ := φ) j.1 np j.2.1
    have j2 : JF C q pos H0 ps' H' := ⟨(ButP.of s1).trans j.1, j.2.1, fun f => s1.trans (j.2.2 (f.same s1))⟩
    have A2 : At K φ (JF C q pos H0 ps') ρ σ H' := ⟨A1.sr.up (Up.of b2), A1.fr.butT j.1 j.2.1, j2, j2.mo⟩
    exact hg d rd φ _ σ H' v A2 r _ fun σ' A3 _ => kk d ps' σ' H' rd A3
theorem st_callGU {ι : Type} {J : Array Value → Hp → Prop} {n : Nat} {Pre : ι → List D → Prop} {R : ι → List D → D → Prop} {E : XK} {g : TG} {us : List Nat} {ρ2 : D → List (Option D)} (X : ι) (T : TblF φ C q J) (A : At K φ (J ps) ρ σ H) (ha : EvAD K φ (J ps) ta ρ ds) (hp : Pre X ds) (hg : ∀ d, R X ds d → EvG K g d ρ (ρ2 d) us)
    (kk : ∀ d ps' σ' H', R X ds d → At K φ (J ps') (ρ2 d) σ' H' → D0.nx σ' H') (hl : ds.length = n := by rfl) : tAsg (tCall (fun vs H Q E => ∃ X, SpS K C q pos n (Pre X) (R X) vs H Q E) [] E ta) g D0 σ H :=
  ha σ H A _ fun vs ds' H1 b1 A1 e r1 => by
    subst e
    refine ⟨X, φ, _, ps, hl, by rw [List.append_nil]; exact r1, A1.fr, T.np, T.ok _ _ A1.j, hp, fun v d ps' H' rd j r => ?_⟩
    exact hg d rd φ _ σ H' v (At.tbl T A1 j.1 j.2.1) r _ fun σ' A3 _ => kk d ps' σ' H' rd A3
/-- .. where a family tells what stays -/
theorem st_callU {J : Array Value → Hp → Prop} {n : Nat} {Pre : List D → Prop} {R : List D → D → Prop} {E : XK} {g : TG} {us : List Nat} {ρ2 : D → List (Option D)} (T : TblF φ C q J) (A : At K φ (J ps) ρ σ H) (ha : EvAD K φ (J ps) ta ρ ds) (hp : Pre ds) (hg : ∀ d, R ds d → EvG K g d ρ (ρ2 d) us)
    (kk : ∀ d ps' σ' H', R ds d → At K φ (J ps') (ρ2 d) σ' H' → D0.nx σ' H') (hl : ds.length = n := by rfl) : tAsg (tCall (SpS K C q pos n Pre R) [] E ta) g D0 σ H :=
  ha σ H A _ fun vs ds' H1 b1 A1 e r1 => by
    subst e
    refine ⟨φ, _, ps, hl, by rw [List.append_nil]; exact r1, A1.fr, T.np, T.ok _ _ A1.j, hp, fun v d ps' H' rd j r => ?_⟩
    exact hg d rd φ _ σ H' v (At.tbl T A1 j.1 j.2.1) r _ fun σ' A3 _ => kk d ps' σ' H' rd A3
/-- dict(d): a new one -/
def rDictOf : List V → Hp → VK → Prop := fun vs H Q => ∃ a kvs, vs = [V.ref a] ∧ H a = some (.dK kvs) ∧ ∀ p, H p = none → Q (.ref p) (upd H p (.dK kvs))
theorem c_dictOf {X : Cx} : CallR X (.type "dict") rDictOf := by
  intro pins s σ H vs us Q I r h
  obtain ⟨a, kvs, rfl, e, k⟩ := h
  obtain rfl := Vals.ref1 r
  exact d_copyOf I (.inl e) fun p s' hp I' => ⟨.ref p, _, I', rfl, k p hp⟩
theorem en_dictK {kds : List (Key × D)} (ha : EvD K φ J te ρ (.dk (kds.map (·.1)) (kds.map (·.2)))) : EvNO K φ J (tCB rDictOf (tCons te tNil)) ρ (fun ds C => ds = kds.map (·.2) ∧ C = fun vs => HO.dK ((kds.map (·.1)).zip vs)) := fun σ H A Q q => ha σ H A _ fun v d H1 b1 A1 e r => by
  subst e
  obtain ⟨a, vs, rfl, ⟨pa, e, hl⟩, rs⟩ := (show ∃ a vs, v = .ref a ∧ (φ a ∧ H1 a = some (.dK ((kds.map (·.1)).zip vs)) ∧ (kds.map (·.1)).length = (kds.map (·.2)).length) ∧ Reps K φ H1 (kds.map (·.2)) vs from r)
  exact ⟨a, _, rfl, e, fun p hp => q p vs _ _ H1 _ b1 A1 hp (But.of (same_new hp)) (A1.same (same_new hp)) ⟨rfl, rfl⟩ (fun _ h => nomatch h) upd_same (reps_new hp rs)⟩
section
variable {PP : Program} {w : World} {mg : Str → Option Value} {base : Heap}
theorem fn_none {CX : CXT} {k : Nat} {f : Addr} {fd : FuncData} {ps : List Str} {sp : Sp} (no : ∀ vs H Q E, ¬ sp vs H Q E) : FnOk PP w K mg base CX k f fd ps sp := ⟨fun vs H Q E h => absurd h (no vs H Q E), fun A outer s H args us vs Q E _ _ _ _ h => absurd h (no vs H Q E)⟩
/-- a promise for each of a kind -/
theorem fn_ghost {ι : Type} {CX : CXT} {k : Nat} {f : Addr} {fd : FuncData} {ps : List Str} {sp : ι → Sp} (h : ∀ X, FnOk PP w K mg base CX k f fd ps (sp X)) : FnOk PP w K mg base CX k f fd ps (fun vs H Q E => ∃ X, sp X vs H Q E) := ⟨fun vs H Q E ⟨X, z⟩ => (h X).len vs H Q E z, fun A outer s H args us vs Q E hr he hb hv ⟨X, z⟩ => (h X).run A outer s H args us vs Q E hr he hb hv z⟩
theorem fn_okSX {x qual : Str} {st : Stmt} {f : Addr} {fd : FuncData} {N ps : List Str} {k n : Nat} {Pre : List D → Prop} {R : List D → D → Prop} (F : Fun K x qual st f fd) (S : FnScope N ps (defScope st)) (hn : ps.length = n) (m : Nat) (hm : N.length = n + m)
    (hbody : ∀ (cdv : Value) (A : Around) (outer : List Env) (s : Shared) (H : Hp) (E : XK), Room k (A.deeper (envOfC qual (defScope st) s.heap.objs.size f cdv)) →
      ∃ t, PSs (cxOf (L2.CX PP w) PP w K mg base N qual (defScope st) f cdv A outer s H E) (defBody st) t ∧
        ∀ (φ : Addr → Prop) (ds : List D) (H : Hp) (tb : Array Value) (D0 : Ends) (σ : L2.St), ds.length = n → Pre ds → ¬ φ C → TabJ C q tb H → (∀ v d ps' H', R ds d → JF C q pos H ps' H' → Rep K φ H' d v → D0.rt v H') → At K φ (Same H) (ds.map some ++ List.replicate m none) σ H → t D0 σ H) :
    FnOk PP w K mg base (L2.CX PP w) (k + 1) f fd ps (SpS K C q pos n Pre R) := by
  refine F.okX S (fun vs H Q E h => ?_) (fun cdv A outer s H vs Q E hr h => ?_)
  · obtain ⟨φ, ds, tb, hl, r, _⟩ := h
    rw [r.length, hl, hn]
  · obtain ⟨φ, ds, tb, hl, r, fr, np, tj, hp, k⟩ := h
    obtain ⟨t, ht, run⟩ := hbody cdv A outer s H E hr
    refine ⟨t, ht, run φ ds H tb _ _ hl hp np tj (fun v d ps' H' rd j r => k v d ps' H' rd j r) ⟨?_, fr, Same.refl H, Mo.sames fun _ h => h⟩⟩
    have e : N.length - vs.length = m := by rw [hm, r.length, hl]; omega
    unfold L2.start
    rw [e]
    exact SR.start r
theorem fn_okS0 {x qual : Str} {st : Stmt} {f : Addr} {fd : FuncData} {N ps : List Str} {k n : Nat} {Pre : List D → Prop} {R : List D → D → Prop} (F : Fun K x qual st f fd) (S : FnScope N ps (defScope st)) (hn : ps.length = n) (m : Nat) (hm : N.length = n + m)
    (hbody : ∀ (cdv : Value) (A : Around) (outer : List Env) (s : Shared) (H : Hp) (E : XK), Room k (A.deeper (envOfC qual (defScope st) s.heap.objs.size f cdv)) →
      ∃ t, PSs (cxOf CX0 PP w K mg base N qual (defScope st) f cdv A outer s H E).nox (defBody st) t ∧
        ∀ (φ : Addr → Prop) (ds : List D) (H : Hp) (tb : Array Value) (D0 : Ends) (σ : L2.St), ds.length = n → Pre ds → ¬ φ C → TabJ C q tb H → (∀ v d ps' H', R ds d → JF C q pos H ps' H' → Rep K φ H' d v → D0.rt v H') → At K φ (Same H) (ds.map some ++ List.replicate m none) σ H → t D0 σ H) :
    FnOk PP w K mg base CX0 (k + 1) f fd ps (SpS K C q pos n Pre R) := by
  refine F.ok S (fun vs H Q E h => ?_) (fun cdv A outer s H vs Q E hr h => ?_)
  · obtain ⟨φ, ds, tb, hl, r, _⟩ := h
    rw [r.length, hl, hn]
  · obtain ⟨φ, ds, tb, hl, r, fr, np, tj, hp, k⟩ := h
    obtain ⟨t, ht, run⟩ := hbody cdv A outer s H E hr
    refine ⟨t, ht, run φ ds H tb _ _ hl hp np tj (fun v d ps' H' rd j r => k v d ps' H' rd j r) ⟨?_, fr, Same.refl H, Mo.sames fun _ h => h⟩⟩
    have e : N.length - vs.length = m := by rw [hm, r.length, hl]; omega
    unfold L2.start
    rw [e]
    exact SR.start r
theorem fn_okS {x qual : Str} {st : Stmt} {f c : Addr} {fd : FuncData} {N ps : List Str} {k n : Nat} {Pre : List D → Prop} {R : List D → D → Prop} (F : FunC K x qual st f fd c) (S : FnScope N ps (defScope st)) (hn : ps.length = n) (m : Nat) (hm : N.length = n + m)
    (hbody : ∀ (A : Around) (outer : List Env) (s : Shared) (H : Hp) (E : XK), Room k (A.deeper (envOfC qual (defScope st) s.heap.objs.size f (.ref c))) →
      ∃ t, PSs (cxOf CX0 PP w K mg base N qual (defScope st) f (.ref c) A outer s H E).nox (defBody st) t ∧
        ∀ (φ : Addr → Prop) (ds : List D) (H : Hp) (tb : Array Value) (D0 : Ends) (σ : L2.St), ds.length = n → Pre ds → ¬ φ C → TabJ C q tb H → (∀ v d ps' H', R ds d → JF C q pos H ps' H' → Rep K φ H' d v → D0.rt v H') → At K φ (Same H) (ds.map some ++ List.replicate m none) σ H → t D0 σ H) :
    FnOk PP w K mg base CX0 (k + 1) f fd ps (SpS K C q pos n Pre R) := by
  obtain ⟨oc, od, kV, doc, pm, an, ct, osl, rfl, lk, hcd⟩ := F.ex
  refine fn_of lk hcd S (fun vs H Q E h => ?_) (fun A outer s H vs Q E hr h => ?_)
  · obtain ⟨φ, ds, tb, hl, r, _⟩ := h
    rw [r.length, hl, hn]
  · obtain ⟨φ, ds, tb, hl, r, fr, np, tj, hp, k⟩ := h
    obtain ⟨t, ht, run⟩ := hbody A outer s H E hr
    refine ⟨t, ht.nox, run φ ds H tb _ _ hl hp np tj (fun v d ps' H' rd j r => k v d ps' H' rd j r) ⟨?_, fr, Same.refl H, Mo.sames fun _ h => h⟩⟩
    have e : N.length - vs.length = m := by rw [hm, r.length, hl]; omega
    unfold L2.start
    rw [e]
    exact SR.start r
end
end

/-! ### sorted lists of ints -/
section
variable {P : Program} {w : World} {K : PySem.W.Frag} {mg : Str → Option Value} {base : Heap}
theorem c_sortedI {X : Cx} : CallR X (.builtin "sorted") (rSorted X.K) := cr_sorted
theorem ev_sortedI {φ : Addr → Prop} {J : Hp → Prop} {ρ : List (Option D)} {te : TE} {ns : List Int} (ha : EvD K φ J te ρ (.lst (ns.map D.int))) (hl : ns.length < 64) : EvP K φ J (tCB (rSorted K) (tCons te tNil)) ρ (fun z => ∃ ns' : List Int, z = .lst (ns'.map D.int) ∧ ns'.Perm ns ∧ ns'.Pairwise (· ≤ ·)) := ev_cbD (ea_cons ha ea_nil) fun H vs f r Q q => by
  obtain ⟨v, rfl, r1⟩ := r.one
  obtain ⟨a, rfl, h⟩ := rep_ints r1
  exact ⟨a, ns, rfl, h, hl, fun ns' p hp hs hn => q _ _ _ (same_new hn) ⟨ns', rfl, hp, hs⟩ ⟨p, _, rfl, .inl ⟨f p hn, .inl upd_same⟩, Reps.of_ints⟩⟩
theorem all_ints : ∀ {ys : List D}, (∀ y ∈ ys, ∃ i, y = .int i) → ∃ ns : List Int, ys = ns.map D.int
  | [], _ => ⟨[], rfl⟩
  | y :: ys, h => by
    obtain ⟨i, rfl⟩ := h y List.mem_cons_self
    obtain ⟨ns, rfl⟩ := all_ints fun z hz => h z (List.mem_cons_of_mem _ hz)
    exact ⟨i :: ns, rfl⟩
end

/-! ### plain trees: no raw values, a bounded depth, bounded lengths, texts within the bounds -/
def okD (s : Nat) : Nat → D → Bool
  | 0, _ => false
  | _ + 1, .non => true
  | _ + 1, .bl _ => true
  | _ + 1, .int _ => true
  | _ + 1, .str x => PyData.strOk x
  | n + 1, .tup ds => decide (ds.length ≤ s) && ds.all (okD s n)
  | n + 1, .lst ds => decide (ds.length ≤ s) && ds.all (okD s n)
  | _ + 1, .raw _ => false
  | _ + 1, .dk _ _ => false
  | _ + 1, .dt _ _ => false
theorem okD_raw {s n : Nat} {d : D} (h : okD s n d = true) : isRaw d = false := by
  cases n with
  | zero => cases h
  | succ n => cases d <;> first | rfl | cases h
theorem okD_tup {s n : Nat} {es : List D} : okD s (n + 1) (.tup es) = true ↔ es.length ≤ s ∧ ∀ x ∈ es, okD s n x = true := by
  show (decide (es.length ≤ s) && es.all (okD s n)) = true ↔ _
  rw [Bool.and_eq_true, decide_eq_true_eq, List.all_eq_true]
theorem okD_lst {s n : Nat} {es : List D} : okD s (n + 1) (.lst es) = true ↔ es.length ≤ s ∧ ∀ x ∈ es, okD s n x = true := by
  show (decide (es.length ≤ s) && es.all (okD s n)) = true ↔ _
  rw [Bool.and_eq_true, decide_eq_true_eq, List.all_eq_true]
theorem okD_mono {s s' : Nat} (hs : s ≤ s') : ∀ {n n' : Nat} {d : D}, n ≤ n' → okD s n d = true → okD s' n' d = true := by
  intro n
  induction n with
  | zero => intro n' d _ h; cases h
  | succ n ih =>
    intro n' d hn h
    obtain ⟨k, rfl⟩ : ∃ k, n' = k + 1 := ⟨n' - 1, by omega⟩
    cases d with
    | tup ds =>
      rw [okD_tup] at h ⊢
      exact ⟨by omega, fun x hx => ih (by omega) (h.2 x hx)⟩
    | lst ds =>
      rw [okD_lst] at h ⊢
      exact ⟨by omega, fun x hx => ih (by omega) (h.2 x hx)⟩
    | str x => exact h
    | raw v => cases h
    | dk ks ds => cases h
    | dt ks ds => cases h
    | _ => rfl
theorem okD_okq {s : Nat} : ∀ {n : Nat} {d : D}, okD s n d = true → okq n d = true := by
  intro n
  induction n with
  | zero => intro d h; cases h
  | succ n ih =>
    intro d h
    cases d with
    | tup ds => exact List.all_eq_true.mpr fun x hx => ih ((okD_tup.mp h).2 x hx)
    | lst ds => exact List.all_eq_true.mpr fun x hx => ih ((okD_lst.mp h).2 x hx)
    | str x => exact h
    | raw v => cases h
    | dk ks ds => cases h
    | dt ks ds => cases h
    | _ => rfl
theorem okq_mono : ∀ {n n' : Nat} {d : D}, n ≤ n' → okq n d = true → okq n' d = true := by
  intro n
  induction n with
  | zero =>
    intro n' d _ h
    cases d with
    | tup ds => cases h
    | lst ds => cases h
    | raw v => cases h
    | dk ks ds => cases h
    | dt ks ds => cases h
    | str x => cases n' <;> exact h
    | _ => cases n' <;> rfl
  | succ n ih =>
    intro n' d hn h
    obtain ⟨k, rfl⟩ : ∃ k, n' = k + 1 := ⟨n' - 1, by omega⟩
    cases d with
    | tup ds => exact List.all_eq_true.mpr fun x hx => ih (by omega) (List.all_eq_true.mp h x hx)
    | lst ds => exact List.all_eq_true.mpr fun x hx => ih (by omega) (List.all_eq_true.mp h x hx)
    | str x => exact h
    | raw v => cases h
    | dk ks ds => cases h
    | dt ks ds => cases h
    | _ => rfl
theorem okD_okq' {s n n' : Nat} {d : D} (h : okD s n d = true) (hn : n ≤ n') : okq n' d = true := okq_mono hn (okD_okq h)
theorem okD_plain {s : Nat} (hs : s ≤ 1000000) : ∀ {n : Nat} {d : D}, okD s n d = true → plain n d = true := by
  intro n
  induction n with
  | zero => intro d h; cases h
  | succ n ih =>
    intro d h
    cases d with
    | tup ds =>
      have z := okD_tup.mp h
      simp only [plain, Bool.and_eq_true, decide_eq_true_eq, List.all_eq_true]
      exact ⟨by omega, fun x hx => ih (z.2 x hx)⟩
    | lst ds =>
      have z := okD_lst.mp h
      simp only [plain, Bool.and_eq_true, decide_eq_true_eq, List.all_eq_true]
      exact ⟨by omega, fun x hx => ih (z.2 x hx)⟩
    | raw v => cases h
    | dk ks ds => cases h
    | dt ks ds => cases h
    | _ => rfl
def isIntD : D → Bool
  | .int _ => true
  | _ => false
def intV : D → Int
  | .int i => i
  | _ => 0
theorem isIntD_ex {d : D} (h : isIntD d = true) : ∃ i, d = .int i := by
  cases d with
  | int i => exact ⟨i, rfl⟩
  | _ => cases h
theorem isIntD_of {d : D} (h : isRaw d = false) : (isT "int" d && !isT "bool" d) = isIntD d := by
  cases d <;> first | (cases h; done) | rfl
section
variable {K : PySem.W.Frag} {φ : Addr → Prop} {J : Hp → Prop} {ρ : List (Option D)} {te : TE} {x : D} {b : Bool} {t1 t2 : TT} {p : Bool → Prop}
theorem et_andP (ha : EvX K φ J t1 ρ b) (hb : b = true → EvT K φ J t2 ρ p) : EvT K φ J (tAnd t1 t2) ρ (fun x => (b = true ∧ p x) ∨ (b = false ∧ x = false)) := fun σ H A Q q => ha σ H A _ fun k H1 b1 A1 e1 => by
  subst e1
  cases k with
  | false => exact q false H1 b1 A1 (.inr ⟨rfl, rfl⟩)
  | true => exact hb rfl σ H1 A1 _ fun k H2 b2 A2 pk => q k H2 (b1.trans b2) A2 (.inl ⟨rfl, pk⟩)
theorem et_orP (ha : EvX K φ J t1 ρ b) (hb : b = false → EvT K φ J t2 ρ p) : EvT K φ J (tOr t1 t2) ρ (fun x => (b = false ∧ p x) ∨ (b = true ∧ x = true)) := fun σ H A Q q => ha σ H A _ fun k H1 b1 A1 e1 => by
  subst e1
  cases k with
  | true => exact q true H1 b1 A1 (.inr ⟨rfl, rfl⟩)
  | false => exact hb rfl σ H1 A1 _ fun k H2 b2 A2 pk => q k H2 (b1.trans b2) A2 (.inl ⟨rfl, pk⟩)
theorem et_cmpP {f : Int → Int → Bool} {ta tb : TE} {p q : Int → Prop} (ha : EvI K φ J ta ρ p) (hb : EvI K φ J tb ρ q) : EvT K φ J (tTest (tOp (rI0 fun i j => .bl (f i j)) ta tb)) ρ (fun k => ∃ i j, p i ∧ q j ∧ k = f i j) := et_testP (eb_cmp ha hb)
theorem et_eqP {ta tb : TE} {p q : Int → Prop} (ha : EvI K φ J ta ρ p) (hb : EvI K φ J tb ρ q) : EvT K φ J (tTest (tOp rEq ta tb)) ρ (fun k => ∃ i j, p i ∧ q j ∧ k = decide (i = j)) := et_testP (eb_eq ha hb)
theorem any_toPys {x : D} : ∀ ds : List D, ((toPys ds).any fun z => PyData.eqv z (toPy x)) = ds.any fun z => eqvD z x
  | [] => rfl
  | d :: ds => by
    show (PyData.eqv (toPy d) (toPy x) || (toPys ds).any _) = (eqvD d x || ds.any _)
    rw [any_toPys ds]
    rfl
/-- `in` a list of data -/
theorem ev_inQ {ta tb : TE} {ds : List D} (ha : EvD K φ J ta ρ x) (hb : EvD K φ J tb ρ (.lst ds)) (hx : okq 64 x = true) (hy : okq 64 (.lst ds) = true) : EvD K φ J (tOp (rInD K) ta tb) ρ (.bl (ds.any fun z => eqvD z x)) := ev_opD ha hb fun H v w _ r1 r2 Q q => by
  refine ⟨toPy x, toPys ds, dp_of x v 64 hx r1, dp_of _ w 64 hy r2, okq_shaped hx (Nat.le_refl _), okq_shaped hy (Nat.le_refl _), ?_⟩
  rw [any_toPys ds]
  exact q _ _ H (Same.refl H) rfl rfl
end
section
variable {P : Program} {w : World} {K : PySem.W.Frag} {mg : Str → Option Value} {base : Heap}
def RIsInt : List D → D → Prop := fun ds r => ∃ d, ds = [d] ∧ isRaw d = false ∧ r = .bl (isIntD d)
end

section
variable {P : Program} {w : World} {K : PySem.W.Frag} {mg : Str → Option Value} {base : Heap}
theorem sc_is_integer : FnScope ["value"] ["value"] (defScope s_is_integer) := ⟨rfl, rfl, rfl, by decide +kernel, rfl, by decide +kernel, by decide +kernel⟩
theorem ok_is_integer (B : Bi mg) {f : Addr} {fd : FuncData} (F : Fun K "is_integer" "is_integer" s_is_integer f fd) : FnOk P w K mg base CX0 1 f fd ["value"] (SpD K 1 RIsInt) := by
  have S := sc_is_integer
  refine fn_ok F S rfl 0 rfl fun cdv A outer s H E hr => ⟨_, ((pss_one (ps_ret (pe_and (pe_callB call_isi (by rfl) B.isinstance (by decide +kernel) (pa_cons (pv 0) (pa_cons (pe_ty (n := "int") B.int (by decide +kernel)) pa_nil))) (pe_one (pe_not (pe_callB call_isi (by rfl) B.isinstance (by decide +kernel) (pa_cons (pv 0) (pa_cons (pe_ty (n := "bool") B.bool (by decide +kernel)) pa_nil))))))))), fun φ ds d H D0 σ hl hR hrt hnx A => ?_⟩
  obtain ⟨x, rfl, hraw, rfl⟩ := hR
  refine st_ret A (ev_andV (ev_isi (ev_var rfl) ev_ty hraw) fun _ => ev_one (ev_notV (ev_isi (ev_var rfl) ev_ty hraw))) fun v d' H6 e A6 r => hrt v H6 A6.j ?_
  subst e
  rw [isIntD_of hraw] at r
  exact r
end

/-! ### rows of separations -/
abbrev Row := Int × Int × Int
def rowD (r : Row) : D := .tup [.int r.1, .int r.2.1, .int r.2.2]
def rowsD (ls : List Row) : D := .tup (ls.map rowD)
def sepD (n : Int) (ls : List Row) : D := .tup [.int n, rowsD ls]
def pairOf (r : Row) : Int × Int := (r.1, r.2.1)
def rowOk (n : Int) (r : Row) : Bool := (decide (0 ≤ r.1) && (decide (r.1 < r.2.1) && decide (r.2.1 < n))) && (decide (1 ≤ r.2.2) && decide (r.2.2 ≤ 9))
def ascB : List Row → Bool
  | a :: b :: r => SrtO.lexB (pairOf a) (pairOf b) && ascB (b :: r)
  | _ => true
def sepsOk (n : Int) (ls : List Row) : Bool := (decide (0 ≤ n) && decide (n ≤ 24)) && (ls.all (rowOk n) && ascB ls)
theorem rowD_inj {r r' : Row} (h : rowD r = rowD r') : r = r' := by
  injection h with h
  have h1 := (List.cons.inj h).1
  have h2 := (List.cons.inj (List.cons.inj h).2).1
  have h3 := (List.cons.inj (List.cons.inj (List.cons.inj h).2).2).1
  injection h1 with h1
  injection h2 with h2
  injection h3 with h3
  exact Prod.ext h1 (Prod.ext h2 h3)
theorem map_rowD_inj : ∀ {ls ls' : List Row}, ls.map rowD = ls'.map rowD → ls = ls'
  | [], [], _ => rfl
  | [], _ :: _, h => by cases h
  | _ :: _, [], h => by cases h
  | a :: ls, b :: ls', h => by
    obtain ⟨h1, h2⟩ := List.cons.inj h
    rw [rowD_inj h1, map_rowD_inj h2]
theorem sepD_inj {n n' : Int} {ls ls' : List Row} (h : sepD n ls = sepD n' ls') : n = n' ∧ ls = ls' := by
  injection h with h
  have h1 := (List.cons.inj h).1
  have h2 := (List.cons.inj (List.cons.inj h).2).1
  injection h1 with h1
  injection h2 with h2
  exact ⟨h1, map_rowD_inj h2⟩
theorem cut2R (r : Row) : cutD [D.int r.1, .int r.2.1, .int r.2.2] none (some 2) = [.int r.1, .int r.2.1] := by
  rw [cutD_hi (by decide)]
  rfl
section
variable {K : PySem.W.Frag} {φ : Addr → Prop} {J : Hp → Prop} {ρ : List (Option D)} {te : TE} {ds : List D} {r : Row} {n : Int} {ls : List Row}
/-- a comprehension by two names -/
theorem ev_lcT2 {wi : TI} {tt : TT} {k1 k2 : Nat} {p : D → Bool} {f : D → D} (hi : IterD K φ J wi ρ ds) (hl : ds.length ≤ 1000000) (hd : ∀ d ∈ ds, ∃ a b, d = .tup [a, b])
    (ht : ∀ a b, .tup [a, b] ∈ ds → ∀ φ' J', Ext φ J φ' J' → EvX K φ' J' tt (((wipeR ρ [k1, k2]).set k1 (some a)).set k2 (some b)) (p (.tup [a, b])))
    (he : ∀ a b, .tup [a, b] ∈ ds → p (.tup [a, b]) = true → ∀ φ' J', Ext φ J φ' J' → EvD K φ' J' te (((wipeR ρ [k1, k2]).set k1 (some a)).set k2 (some b)) (f (.tup [a, b]))) :
    EvD K φ J (tLc wi (gTup K 2 (gCons (gName k1) (gCons (gName k2) gNil))) tt te [k1, k2]) ρ (.lst ((ds.filter p).map f)) :=
  (ev_lcP (ρd := fun d => match d with | .tup [a, b] => ((wipeR ρ [k1, k2]).set k1 (some a)).set k2 (some b) | _ => ρ) (us := [k1, k2]) (pt := fun d b => b = p d) (pe := fun d y => y = f d) hi (fun ds' e => by rw [e]; exact hl) (fun _ h => h) (fun ds' e d hm => by
      subst e
      obtain ⟨a, b, rfl⟩ := hd d hm
      exact eg_tup (ds := [a, b]) (egs_cons eg_name (egs_cons eg_name egs_nil)))
    (fun ds' e d hm φ' J' x => by
      subst e
      obtain ⟨a, b, rfl⟩ := hd d hm
      exact ht a b hm φ' J' x) (fun ds' e d hm pd φ' J' x => by
      subst e
      obtain ⟨a, b, rfl⟩ := hd d hm
      exact he a b hm pd.symm φ' J' x)).imp fun z ⟨ds', ys, e1, e2, c⟩ => by
      subst e1
      rw [e2, c.filter]
/-- a row's parts -/
theorem ev_row0 (h : EvD K φ J te ρ (rowD r)) : EvD K φ J (tOp (rIxT K) te (tC (.int 0))) ρ (.int r.1) := ev_ixT (ds := [.int r.1, .int r.2.1, .int r.2.2]) h ev_int rfl
theorem ev_row1 (h : EvD K φ J te ρ (rowD r)) : EvD K φ J (tOp (rIxT K) te (tC (.int 1))) ρ (.int r.2.1) := ev_ixT (ds := [.int r.1, .int r.2.1, .int r.2.2]) h ev_int rfl
theorem ev_row2 (h : EvD K φ J te ρ (rowD r)) : EvD K φ J (tOp (rIxT K) te (tC (.int 2))) ρ (.int r.2.2) := ev_ixT (ds := [.int r.1, .int r.2.1, .int r.2.2]) h ev_int rfl
theorem ev_rowP (h : EvD K φ J te ρ (rowD r)) : EvD K φ J (tSl (rSlA K) te tNoPart (tPart (tC (.int 2)))) ρ (prDD (pairOf r)) := (ev_slT (ds := [.int r.1, .int r.2.1, .int r.2.2]) h eo_none (eo_some ev_int)).is (congrArg D.tup (cut2R r))
theorem ev_sep0 (h : EvD K φ J te ρ (sepD n ls)) : EvD K φ J (tOp (rIxT K) te (tC (.int 0))) ρ (.int n) := ev_ixT (ds := [.int n, rowsD ls]) h ev_int rfl
theorem ev_sep1 (h : EvD K φ J te ρ (sepD n ls)) : EvD K φ J (tOp (rIxT K) te (tC (.int 1))) ρ (rowsD ls) := ev_ixT (ds := [.int n, rowsD ls]) h ev_int rfl
end
theorem okq_row {n : Nat} {r : Row} : okq (n + 2) (rowD r) = true := rfl
theorem okq_rows {n : Nat} {ls : List Row} : okq (n + 3) (.lst (ls.map rowD)) = true := by
  show (ls.map rowD).all (okq (n + 2)) = true
  rw [List.all_map, List.all_eq_true]
  intro r _
  exact okq_row
theorem eqv_pr (p q : Int × Int) : eqvD (prDD p) (prDD q) = decide (p = q) := by
  unfold eqvD
  show PyData.eqvAll [.int p.1, .int p.2] [.int q.1, .int q.2] = _
  rw [Bool.eq_iff_iff, decide_eq_true_eq]
  simp only [PyData.eqvAll, PyData.eqv, Bool.and_eq_true, beq_iff_eq, Bool.and_true]
  constructor
  · rintro ⟨h1, h2⟩; exact Prod.ext h1 h2
  · rintro rfl; exact ⟨rfl, rfl⟩
theorem ls_filter_map {p : Row → Bool} {q : D → Bool} (h : ∀ r, q (rowD r) = p r) (ls : List Row) : (ls.map rowD).filter q = (ls.filter p).map rowD := by
  rw [List.filter_map, show (q ∘ rowD) = p from funext h]
theorem isEmpty_filter {α : Type} (p : α → Bool) (xs : List α) : (xs.filter fun x => !p x).isEmpty = xs.all p := by
  induction xs with
  | nil => rfl
  | cons x xs ih =>
    rw [List.filter_cons, List.all_cons]
    cases p x
    · rfl
    · exact ih
/-- the least number of two users -/
def leastB (ls : List Row) (i j : Int) : Int := ((ls.find? fun r => decide (pairOf r = (min i j, max i j))).map (·.2.2)).getD 0
theorem leastB_range {ls : List Row} (h : ∀ r ∈ ls, 0 ≤ r.2.2 ∧ r.2.2 ≤ 9) (i j : Int) : 0 ≤ leastB ls i j ∧ leastB ls i j ≤ 9 := by
  unfold leastB
  cases e : ls.find? fun r => decide (pairOf r = (min i j, max i j)) with
  | none => exact ⟨Int.le_refl _, by decide⟩
  | some r => exact h r (List.mem_of_find?_eq_some e)
theorem find_take {α : Type} {p : α → Bool} {ls : List α} {i : Nat} {r : α} (hr : ls[i]? = some r) (hp : p r = true) (hno : ∀ x ∈ ls.take i, p x = false) : ls.find? p = some r := by
  obtain ⟨hi, e⟩ := List.getElem?_eq_some_iff.mp hr
  have e1 : ls = ls.take i ++ r :: ls.drop (i + 1) := by rw [← e, List.getElem_cons_drop, List.take_append_drop]
  rw [e1, List.find?_append, List.find?_eq_none.mpr fun x hx => by rw [hno x hx]; exact Bool.false_ne_true, List.find?_cons, hp]
  rfl

section
variable {P : Program} {w : World} {K : PySem.W.Frag} {mg : Str → Option Value} {base : Heap}
def SPre : List D → Prop := fun _ => True
def RLeast : List D → D → Prop := fun ds d => ∃ (n i j : Int) (ls : List Row), ds = [sepD n ls, .int i, .int j] ∧ d = .int (leastB ls i j)
theorem sc_least_between : FnScope ["separations", "i", "j", "pair", "row"] ["separations", "i", "j"] (defScope s_least_between) := ⟨rfl, rfl, rfl, by decide +kernel, rfl, by decide +kernel, by decide +kernel⟩
theorem ok_least_between (B : Bi mg) {f : Addr} {fd : FuncData} (F : Fun K "least_between" "least_between" s_least_between f fd) : FnOk P w K mg base CX0 1 f fd ["separations", "i", "j"] (SpD K 3 RLeast) := by
  have S := sc_least_between
  refine fn_ok F S rfl 2 rfl fun cdv A outer s H E hr => ⟨_, ((pss_cons (ps_set (i := 3) S.nd rfl (by first | exact Or.inl rfl | exact Or.inr rfl) (pe_tup (pa_cons (pe_callB (c_min2 rfl) (by rfl) B.min (by decide +kernel) (pa_cons (pv 1) (pa_cons (pv 2) pa_nil))) (pa_cons (pe_callB (c_max2 rfl) (by rfl) B.max (by decide +kernel) (pa_cons (pv 1) (pa_cons (pv 2) pa_nil))) pa_nil))))
 (pss_cons (ps_for PassesOwn.never rfl (pi_tup (pe_ix ix_tup (pv 0) pe_int (fun _ _ => rfl))) (pg_name (i := 4) S.nd rfl (by first | exact Or.inl rfl | exact Or.inr rfl))
 (pss_one (ps_if (pt_cmpR (op_eqD hr.units) (pe_slice sl_tupA (pv 4) po_none (po_some pe_int)) (pv 3) (nomark _))
 (pss_one (ps_ret (pe_ix ix_tup (pv 4) pe_int (fun _ _ => rfl))))
 pss_nil)))
 (pss_one (ps_ret pe_int))))), fun φ ds d H D0 σ hl hR hrt hnx A => ?_⟩
  obtain ⟨n, i, j, ls, rfl, rfl⟩ := hR
  replace A : At K φ (Same H) [some (sepD n ls), some (.int i), some (.int j), none, none] σ H := A
  refine q (st_set A (ev_tup (ea_cons (ev_min2 (ev_var rfl) (ev_var rfl)) (ea_cons (ev_max2 (ev_var rfl) (ev_var rfl)) ea_nil))) fun σ1 H1 A1 => q ?_)
  replace A1 : At K φ (Same H) [some (sepD n ls), some (.int i), some (.int j), some (prDD (min i j, max i j)), none] σ1 H1 := A1
  refine st_for A1 (it_tup (ev_sep1 (ev_var rfl))) (fun k ρ' J' => (∃ o, ρ' = [some (sepD n ls), some (.int i), some (.int j), some (prDD (min i j, max i j)), o]) ∧ J' = Same H ∧ ∀ x ∈ ls.take k, decide (pairOf x = (min i j, max i j)) = false) ⟨⟨none, rfl⟩, rfl, fun x h => by simp at h⟩ ?_ ?_
  · rintro H2 k d ρ' J' b2 j2 hd ⟨⟨o, rfl⟩, rfl, hno⟩ σ' H' A2
    rw [List.getElem?_map] at hd
    obtain ⟨r, hr, rfl⟩ := Option.map_eq_some_iff.mp hd
    replace A2 : At K φ (fun H_1 => Same H H_1 ∧ But φ H2 H_1) [some (sepD n ls), some (.int i), some (.int j), some (prDD (min i j, max i j)), some (rowD r)] σ' H' := A2
    refine st_if A2 (et_test (ev_eqQ (ev_rowP (ev_var rfl)) (ev_var rfl) rfl rfl)) (fun hb H3 A3 => ?_) (fun hb H3 A3 => ?_)
    · rw [eqv_pr] at hb
      refine st_ret A3 (ev_row2 (ev_var rfl)) fun v d' H6 e A6 rr => hrt v H6 A6.j.1 ?_
      subst e
      unfold leastB
      rw [find_take hr hb.symm hno]
      exact rr
    · rw [eqv_pr] at hb
      refine ⟨_, _, ⟨⟨some (rowD r), rfl⟩, rfl, fun x hx => ?_⟩, A3⟩
      rw [List.take_add_one, hr] at hx
      rcases List.mem_append.mp hx with h | h
      · exact hno x h
      · rw [List.mem_singleton.mp h]; exact hb.symm
  · rintro H2 ρ' J' σ' H' b2 j2 ⟨⟨o, rfl⟩, rfl, hno⟩ A2
    rw [List.length_map, List.take_length] at hno
    refine st_ret A2 ev_int fun v d' H6 e A6 rr => hrt v H6 A6.j.1 ?_
    subst e
    unfold leastB
    rw [List.find?_eq_none.mpr fun x hx => by rw [hno x hx]; exact Bool.false_ne_true]
    exact rr
end

structure Cs (mg : Str → Option Value) : Prop where
  MOST_USERS : ∃ u, mg "MOST_USERS" = some u ∧ RelV (.int (24)) u
  MOST_LEAST : ∃ u, mg "MOST_LEAST" = some u ∧ RelV (.int (9)) u
  MOST_CHANNELS : ∃ u, mg "MOST_CHANNELS" = some u ∧ RelV (.int (400)) u
  gcd : mg "gcd" = some (.builtin "math.gcd")

/-! ### channels for some users, and what shows that there is no assignment -/
def val (g : List (Int × Int)) (i : Int) : Option Int := (g.find? fun p => decide (p.1 = i)).map (·.2)
def setv (v : Int → Option Int) (i c : Int) : Int → Option Int := fun j => if j = i then some c else v j
def kdsG (g : List (Int × Int)) : List (Key × D) := g.map fun p => (.inl p.1, .int p.2)
def gD (g : List (Int × Int)) : D := dictD (kdsG g)
theorem val_nil {i : Int} : val [] i = none := rfl
theorem val_cons {p : Int × Int} {g : List (Int × Int)} {i : Int} : val (p :: g) i = if p.1 = i then some p.2 else val g i := by
  unfold val
  rw [List.find?_cons]
  by_cases h : p.1 = i
  · rw [decide_eq_true h, if_pos h]; rfl
  · rw [decide_eq_false h, if_neg h]
theorem valD_kds (i : Int) : ∀ g : List (Int × Int), valD (kdsG g) (.inl i : Key) = (val g i).map D.int
  | [] => rfl
  | p :: g => by
    rw [val_cons]
    show valD ((Sum.inl p.1, D.int p.2) :: kdsG g) _ = _
    by_cases h : p.1 = i
    · rw [if_pos h, valD_pos (by rw [h])]; rfl
    · rw [if_neg h, valD_neg (fun z => h (Sum.inl.inj z)), valD_kds i g]
theorem val_snoc {i c : Int} : ∀ {g : List (Int × Int)}, val g i = none → val (g ++ [(i, c)]) = setv (val g) i c
  | [], _ => by
    funext j
    show val [(i, c)] j = _
    rw [val_cons]
    unfold setv
    by_cases h : i = j
    · rw [if_pos h, if_pos h.symm]
    · rw [if_neg h, if_neg fun z => h z.symm]
  | p :: g, e => by
    rw [val_cons] at e
    by_cases h : p.1 = i
    · rw [if_pos h] at e; cases e
    · rw [if_neg h] at e
      funext j
      rw [List.cons_append, val_cons, val_snoc e]
      unfold setv
      rw [val_cons]
      by_cases hj : p.1 = j
      · rw [if_pos hj, if_pos hj, if_neg fun z => h (hj.trans z)]
      · rw [if_neg hj, if_neg hj]
theorem put_kds {i c : Int} {g : List (Int × Int)} (h : val g i = none) : putD (kdsG g) (.inl i : Key) (.int c) = kdsG (g ++ [(i, c)]) := by
  rw [putD_new (by rw [valD_kds, h]; rfl)]
  unfold kdsG
  rw [List.map_append]
  rfl
/-- a channel breaks a number with a user that has one -/
def Conf (n : Int) (ls : List Row) (v : Int → Option Int) (i ch : Int) : Prop := ∃ j b, 0 ≤ j ∧ j < n ∧ v j = some b ∧ ((ch - b).natAbs : Int) < leastB ls i j
inductive Rt (n : Int) (ls : List Row) (c : Int) : (Int → Option Int) → D → Prop
  | clash (v : Int → Option Int) (i j a b : Int) : 0 ≤ i → i < n → 0 ≤ j → j < n → i ≠ j → v i = some a → v j = some b → ((a - b).natAbs : Int) < leastB ls i j → Rt n ls c v (.tup [.str "clash", .int i, .int j])
  | full (v : Int → Option Int) (i : Int) : 0 ≤ i → i < n → v i = none → (∀ ch, 0 ≤ ch → ch < c → Conf n ls v i ch) → Rt n ls c v (.tup [.str "full", .int i])
  | split (v : Int → Option Int) (i : Int) (ts : List D) : 0 ≤ i → i < n → v i = none → ts.length = c.toNat → (∀ (k : Nat) (t : D), ts[k]? = some t → Rt n ls c (setv v i k) t) → Rt n ls c v (.tup [.str "split", .int i, .tup ts])
/-- all users have channels that keep all numbers -/
structure Keeps (n : Int) (ls : List Row) (c : Int) (w : Int → Int) : Prop where
  rg : ∀ i, 0 ≤ i → i < n → 0 ≤ w i ∧ w i < c
  kp : ∀ i j, 0 ≤ i → i < n → 0 ≤ j → j < n → i ≠ j → leastB ls i j ≤ ((w i - w j).natAbs : Int)
def Agrees (n : Int) (v : Int → Option Int) (w : Int → Int) : Prop := ∀ i a, 0 ≤ i → i < n → v i = some a → w i = a
/-- a right tree: there is none -/
theorem Rt.no {n : Int} {ls : List Row} {c : Int} {v : Int → Option Int} {t : D} (r : Rt n ls c v t) (hd : ∀ i, leastB ls i i ≤ 0) : ∀ w, Keeps n ls c w → Agrees n v w → False := by
  induction r with
  | clash v i j a b h1 h2 h3 h4 h5 h6 h7 h8 =>
    intro w kw ag
    have := kw.kp i j h1 h2 h3 h4 h5
    rw [ag i a h1 h2 h6, ag j b h3 h4 h7] at this
    omega
  | full v i h1 h2 h3 h4 =>
    intro w kw ag
    obtain ⟨k1, k2⟩ := kw.rg i h1 h2
    obtain ⟨j, b, j1, j2, j3, j4⟩ := h4 (w i) k1 k2
    by_cases e : i = j
    · subst e
      rw [h3] at j3
      cases j3
    · have := kw.kp i j h1 h2 j1 j2 e
      rw [ag j b j1 j2 j3] at this
      omega
  | split v i ts h1 h2 h3 h4 h5 ih =>
    intro w kw ag
    obtain ⟨k1, k2⟩ := kw.rg i h1 h2
    have hk : (w i).toNat < ts.length := by omega
    refine ih _ _ (List.getElem?_eq_getElem hk) w kw fun j a j1 j2 e => ?_
    unfold setv at e
    by_cases ej : j = i
    · subst ej
      rw [if_pos rfl] at e
      cases e
      omega
    · rw [if_neg ej] at e
      exact ag j a j1 j2 e
/-- separations that are right -/
structure SepG (n : Int) (ls : List Row) : Prop where
  n0 : 0 ≤ n
  n1 : n ≤ 24
  rows : ∀ r ∈ ls, 0 ≤ r.1 ∧ r.1 < r.2.1 ∧ r.2.1 < n ∧ 1 ≤ r.2.2 ∧ r.2.2 ≤ 9
  asc : (ls.map pairOf).Pairwise fun a b => SrtO.lexB a b = true
  len : ls.length ≤ 1000
theorem leastB_comm (ls : List Row) (i j : Int) : leastB ls i j = leastB ls j i := by
  unfold leastB
  rw [show min i j = min j i by omega, show max i j = max j i by omega]
theorem leastB_self {n : Int} {ls : List Row} (S : SepG n ls) (i : Int) : leastB ls i i = 0 := by
  unfold leastB
  rw [List.find?_eq_none.mpr fun r hr => ?_]
  · rfl
  · intro z
    have e := of_decide_eq_true z
    have := S.rows r hr
    have e1 := congrArg Prod.fst e
    have e2 := congrArg Prod.snd e
    have e1 : r.1 = min i i := e1
    have e2 : r.2.1 = max i i := e2
    omega
theorem leastB_row {n : Int} {ls : List Row} (S : SepG n ls) {r : Row} (hr : r ∈ ls) : leastB ls r.1 r.2.1 = r.2.2 := by
  have h := S.rows r hr
  unfold leastB
  rw [show min r.1 r.2.1 = r.1 by omega, show max r.1 r.2.1 = r.2.1 by omega]
  obtain ⟨i, hi⟩ := List.mem_iff_getElem?.mp hr
  rw [find_take (i := i) hi (decide_eq_true rfl) fun x hx => ?_]
  · rfl
  · refine decide_eq_false fun e => ?_
    obtain ⟨k, hk⟩ := List.mem_iff_getElem?.mp hx
    rw [List.getElem?_take] at hk
    split at hk
    · rename_i hki
      have hp := List.pairwise_iff_getElem.mp S.asc k i (by rw [List.length_map]; exact (List.getElem?_eq_some_iff.mp hk).1) (by rw [List.length_map]; exact (List.getElem?_eq_some_iff.mp hi).1) hki
      rw [List.getElem_map, List.getElem_map, (List.getElem?_eq_some_iff.mp hk).2, (List.getElem?_eq_some_iff.mp hi).2] at hp
      have hl := SrtO.lexB_iff.mp hp
      have e1 : r.1 = x.1 := (congrArg Prod.fst e).symm
      have e2 : r.2.1 = x.2.1 := (congrArg Prod.snd e).symm
      have hl : x.1 < r.1 ∨ (x.1 = r.1 ∧ x.2.1 < r.2.1) := hl
      omega
    · cases hk
theorem leastB_pos {n : Int} {ls : List Row} (S : SepG n ls) {i j : Int} (h : 0 < leastB ls i j) : ∃ r ∈ ls, pairOf r = (min i j, max i j) := by
  unfold leastB at h
  cases e : ls.find? fun r => decide (pairOf r = (min i j, max i j)) with
  | none => rw [e] at h; exact absurd h (by decide)
  | some r => exact ⟨r, List.mem_of_find?_eq_some e, of_decide_eq_true (List.find?_some (p := fun r => decide (pairOf r = (min i j, max i j))) e)⟩
def nbB (i : Int) (r : Row) : Bool := decide (i = r.1) || decide (i = r.2.1)
def nbI (ls : List Row) (i : Int) : List Int := (ls.filter (nbB i)).map fun r => r.1 + r.2.1 - i
theorem nb_iff {n : Int} {ls : List Row} (S : SepG n ls) {i j : Int} : j ∈ nbI ls i ↔ 0 < leastB ls i j := by
  unfold nbI
  rw [List.mem_map]
  constructor
  · rintro ⟨r, hr, rfl⟩
    obtain ⟨h1, h2⟩ := List.mem_filter.mp hr
    have h := S.rows r h1
    unfold nbB at h2
    rw [Bool.or_eq_true, decide_eq_true_eq, decide_eq_true_eq] at h2
    rcases h2 with e | e
    · rw [e, show r.1 + r.2.1 - r.1 = r.2.1 by omega, leastB_row S h1]; omega
    · rw [e, show r.1 + r.2.1 - r.2.1 = r.1 by omega, leastB_comm, leastB_row S h1]; omega
  · intro h
    obtain ⟨r, hr, e⟩ := leastB_pos S h
    have e1 : r.1 = min i j := congrArg Prod.fst e
    have e2 : r.2.1 = max i j := congrArg Prod.snd e
    refine ⟨r, List.mem_filter.mpr ⟨hr, ?_⟩, ?_⟩
    · unfold nbB
      rw [Bool.or_eq_true, decide_eq_true_eq, decide_eq_true_eq]
      omega
    · omega
theorem nb_range {n : Int} {ls : List Row} (S : SepG n ls) {i j : Int} (h : 0 < leastB ls i j) : 0 ≤ i ∧ i < n ∧ 0 ≤ j ∧ j < n ∧ i ≠ j := by
  obtain ⟨r, hr, e⟩ := leastB_pos S h
  have e1 : r.1 = min i j := congrArg Prod.fst e
  have e2 : r.2.1 = max i j := congrArg Prod.snd e
  have := S.rows r hr
  omega
/-- channels that are told so far -/
structure GOk (n : Int) (ls : List Row) (c : Int) (g : List (Int × Int)) : Prop where
  len : g.length ≤ 100
  rg : ∀ i a, val g i = some a → 0 ≤ i ∧ i < n ∧ 0 ≤ a ∧ a < c
  kp : ∀ i j a b, val g i = some a → val g j = some b → i ≠ j → leastB ls i j ≤ ((a - b).natAbs : Int)
def restI (n : Int) (g : List (Int × Int)) : List Int := ((List.range n.toNat).map Int.ofNat).filter fun i => (val g i).isNone
theorem rest_iff {n : Int} {g : List (Int × Int)} {i : Int} : i ∈ restI n g ↔ 0 ≤ i ∧ i < n ∧ val g i = none := by
  unfold restI
  rw [List.mem_filter, List.mem_map, Option.isNone_iff_eq_none]
  constructor
  · rintro ⟨⟨k, hk, rfl⟩, h⟩
    rw [List.mem_range] at hk
    exact ⟨by show (0 : Int) ≤ (k : Int); omega, by show (k : Int) < n; omega, h⟩
  · rintro ⟨h1, h2, h3⟩
    exact ⟨⟨i.toNat, by rw [List.mem_range]; omega, by show ((i.toNat : Nat) : Int) = i; omega⟩, h3⟩
theorem filter_lt {α : Type} {p r : α → Bool} {x : α} : ∀ {xs : List α}, x ∈ xs → p x = true → r x = false → (∀ y, r y = true → p y = true) → (xs.filter r).length < (xs.filter p).length
  | y :: xs, hx, hp, hr, h => by
    have le : ∀ zs : List α, (zs.filter r).length ≤ (zs.filter p).length := by
      intro zs
      induction zs with
      | nil => exact Nat.le_refl _
      | cons z zs ih =>
        rw [List.filter_cons, List.filter_cons]
        by_cases e : r z = true
        · rw [if_pos e, if_pos (h z e), List.length_cons, List.length_cons]; omega
        · rw [if_neg e]
          split
          · rw [List.length_cons]; omega
          · exact ih
    rw [List.filter_cons, List.filter_cons]
    rcases List.mem_cons.mp hx with e | e
    · subst e
      rw [if_neg (by rw [hr]; exact Bool.false_ne_true), if_pos hp, List.length_cons]
      have := le xs
      omega
    · have ih := filter_lt e hp hr h
      by_cases e : r y = true
      · rw [if_pos e, if_pos (h y e), List.length_cons, List.length_cons]; omega
      · rw [if_neg e]
        split
        · rw [List.length_cons]; omega
        · exact ih
theorem rest_lt {n : Int} {g : List (Int × Int)} {i c : Int} (h : i ∈ restI n g) : (restI n (g ++ [(i, c)])).length < (restI n g).length := by
  obtain ⟨h1, h2, h3⟩ := rest_iff.mp h
  have hm := (List.mem_filter.mp h).1
  refine filter_lt hm (by rw [h3]; rfl) (by rw [val_snoc h3]; unfold setv; rw [if_pos rfl]; rfl) fun y hy => ?_
  rw [val_snoc h3] at hy
  unfold setv at hy
  by_cases e : y = i
  · rw [if_pos e] at hy; cases hy
  · rw [if_neg e] at hy; exact hy
theorem GOk.snoc {n : Int} {ls : List Row} {c : Int} {g : List (Int × Int)} (S : SepG n ls) (G : GOk n ls c g) {i ch : Int} (h : val g i = none) (hg : g.length < 100) (h1 : 0 ≤ i) (h2 : i < n) (h3 : 0 ≤ ch) (h4 : ch < c) (hc : ¬ Conf n ls (val g) i ch) : GOk n ls c (g ++ [(i, ch)]) := by
  refine ⟨by rw [List.length_append]; exact hg, fun j a e => ?_, fun j k a b e1 e2 ne => ?_⟩
  · rw [val_snoc h] at e
    unfold setv at e
    by_cases ej : j = i
    · rw [if_pos ej] at e; cases e; omega
    · rw [if_neg ej] at e; exact G.rg j a e
  · rw [val_snoc h] at e1 e2
    unfold setv at e1 e2
    by_cases ej : j = i
    · rw [if_pos ej] at e1
      cases e1
      rw [if_neg (show ¬ k = i from fun z => ne (ej.trans z.symm))] at e2
      subst ej
      have hk := G.rg k b e2
      refine Int.not_lt.mp fun z => hc ⟨k, b, hk.1, hk.2.1, e2, z⟩
    · rw [if_neg ej] at e1
      by_cases ek : k = i
      · rw [if_pos ek] at e2
        cases e2
        subst ek
        have hj := G.rg j a e1
        refine Int.not_lt.mp fun z => hc ⟨j, a, hj.1, hj.2.1, e1, ?_⟩
        rw [leastB_comm]
        omega
      · rw [if_neg ek] at e2
        exact G.kp j k a b e1 e2 ne
/-- all have one -/
theorem GOk.keeps {n : Int} {ls : List Row} {c : Int} {g : List (Int × Int)} (G : GOk n ls c g) (h : restI n g = []) : Keeps n ls c (fun i => (val g i).getD 0) := by
  have some : ∀ i, 0 ≤ i → i < n → ∃ a, val g i = some a := fun i h1 h2 => by
    cases e : val g i with
    | some a => exact ⟨a, rfl⟩
    | none =>
      have z := rest_iff.mpr ⟨h1, h2, e⟩
      rw [h] at z
      cases z
  refine ⟨fun i h1 h2 => ?_, fun i j h1 h2 h3 h4 ne => ?_⟩
  · obtain ⟨a, e⟩ := some i h1 h2
    rw [e]
    exact (G.rg i a e).2.2
  · obtain ⟨a, e⟩ := some i h1 h2
    obtain ⟨b, e'⟩ := some j h3 h4
    rw [e, e']
    exact G.kp i j a b e e' ne
open Classical in
noncomputable def confB (n : Int) (ls : List Row) (v : Int → Option Int) (i ch : Int) : Bool := decide (Conf n ls v i ch)
open Classical in
theorem confB_t {n : Int} {ls : List Row} {v : Int → Option Int} {i ch : Int} : confB n ls v i ch = true ↔ Conf n ls v i ch := by
  unfold confB
  rw [decide_eq_true_eq]
open Classical in
theorem confB_f {n : Int} {ls : List Row} {v : Int → Option Int} {i ch : Int} : confB n ls v i ch = false ↔ ¬ Conf n ls v i ch := by
  unfold confB
  rw [decide_eq_false_iff_not]
noncomputable def freeI (n : Int) (ls : List Row) (c : Int) (v : Int → Option Int) (i : Int) : List Int := ((List.range c.toNat).map Int.ofNat).filter fun ch => !confB n ls v i ch
theorem free_iff {n : Int} {ls : List Row} {c : Int} {v : Int → Option Int} {i ch : Int} : ch ∈ freeI n ls c v i ↔ 0 ≤ ch ∧ ch < c ∧ ¬ Conf n ls v i ch := by
  unfold freeI
  rw [List.mem_filter, List.mem_map, Bool.not_eq_true', confB_f]
  constructor
  · rintro ⟨⟨k, hk, rfl⟩, h⟩
    rw [List.mem_range] at hk
    exact ⟨by show (0 : Int) ≤ (k : Int); omega, by show (k : Int) < c; omega, h⟩
  · rintro ⟨h1, h2, h3⟩
    exact ⟨⟨ch.toNat, by rw [List.mem_range]; omega, by show ((ch.toNat : Nat) : Int) = ch; omega⟩, h3⟩
theorem foldK_val {f : Int → D} {b : Int} : ∀ {l : List Int}, b ∈ l → valD (foldK (fun d => match d with | .int i => (.inl i : Key) | _ => .inl 0) (fun d => match d with | .int i => f i | _ => .non) (l.map D.int)) (.inl b : Key) = some (f b) := by
  intro l
  suffices h : ∀ r : List Int, b ∈ r.reverse → valD (foldK (fun d => match d with | .int i => (.inl i : Key) | _ => .inl 0) (fun d => match d with | .int i => f i | _ => .non) (r.reverse.map D.int)) (.inl b : Key) = some (f b) by
    intro hb
    have := h l.reverse (by rw [List.reverse_reverse]; exact hb)
    rw [List.reverse_reverse] at this
    exact this
  intro r
  induction r with
  | nil => intro h; cases h
  | cons x r ih =>
    intro h
    rw [List.reverse_cons, List.map_append, List.map_cons, List.map_nil, foldK_snoc, valD_put]
    show (if (Sum.inl b : Key) = Sum.inl x then some (f x) else _) = _
    by_cases e : b = x
    · rw [if_pos (by rw [e]), e]
    · rw [if_neg fun z => e (Sum.inl.inj z)]
      refine ih ?_
      rw [List.reverse_cons] at h
      rcases List.mem_append.mp h with h | h
      · exact h
      · exact absurd (List.mem_singleton.mp h) e

/-! ### neighbors, breaks, would_break, free_channels, clash_with -/
theorem ps_never {X : Cx} {st : Stmt} : PS X st (fun _ _ _ => False) := ⟨fun _ _ _ _ _ _ h => h.elim⟩
section
variable {P : Program} {w : World} {K : PySem.W.Frag} {mg : Str → Option Value} {base : Heap}
theorem rows_inj : ∀ {a b : List Row}, a.map rowD = b.map rowD → a = b
  | [], [], _ => rfl
  | [], _ :: _, h => nomatch h
  | _ :: _, [], h => nomatch h
  | (a1, a2, a3) :: a, (b1, b2, b3) :: b, h => by
    obtain ⟨h1, h2⟩ := List.cons.inj h
    have h1 : D.tup [.int a1, .int a2, .int a3] = D.tup [.int b1, .int b2, .int b3] := h1
    injection h1 with h1
    injection h1 with x1 h1
    injection h1 with x2 h1
    injection h1 with x3 _
    injection x1 with x1
    injection x2 with x2
    injection x3 with x3
    rw [x1, x2, x3, rows_inj h2]
theorem sep_inj {n m : Int} {a b : List Row} (h : sepD n a = sepD m b) : n = m ∧ a = b := by
  unfold sepD rowsD at h
  injection h with h
  injection h with x1 h
  injection h with x2 _
  injection x1 with x1
  injection x2 with x2
  exact ⟨x1, rows_inj x2⟩
def RNb : List D → D → Prop := fun ds d => ∀ (n i : Int) (ls : List Row), ds = [sepD n ls, .int i] → ∃ js : List Int, d = .lst (js.map D.int) ∧ js.Perm (nbI ls i)
def PNb : List D → Prop := fun ds => ∃ (n i : Int) (ls : List Row), ds = [sepD n ls, .int i] ∧ ls.length ≤ 1000
theorem sc_neighbors : FnScope ["separations", "i", "row"] ["separations", "i"] (defScope s_neighbors) := ⟨rfl, rfl, rfl, by decide +kernel, rfl, by decide +kernel, by decide +kernel⟩
theorem row_cut (r : Row) : ([r.1, r.2.1] : List Int).map D.int = [.int r.1, .int r.2.1] := rfl
theorem ok_neighbors (B : Bi mg) {f : Addr} {fd : FuncData} (F : Fun K "neighbors" "neighbors" s_neighbors f fd) : FnOk P w K mg base CX0 1 f fd ["separations", "i"] (SpR K 2 PNb RNb) := by
  have S := sc_neighbors
  refine fn_okR F S rfl 1 rfl fun cdv A outer s H E hr => ⟨_, ((pss_one (ps_ret (pe_callB c_sortedA (by rfl) B.sorted (by decide +kernel) (pa_cons (pe_lc (own := [("row", 2)]) (g := (gName 2)) (by rfl) S.nd (pi_tup (pe_ix ix_tup (pv 0) pe_int (fun _ _ => rfl))) (blkOk_by (N := ["separations", "i", "row"]) (sc := defScope s_neighbors) (own := [("row", 2)]) (by decide +kernel)) (fun _ _ _ _ _ => (pg_name (i := 2) S.nd rfl (by first | exact Or.inl rfl | exact Or.inr rfl))) (fun _ _ _ _ _ => pts_one (pt_cmpR (kop_in_seq (K := K) (by rfl)) (pv 1) (pe_slice (ksl_tupA (K := K) (by rfl)) (pv 2) po_none (po_some pe_int)) (by rfl))) (fun _ _ _ _ _ => (pe_op op_sub (pe_op op_add (pe_ix (kix_tup (K := K) (by rfl)) (pv 2) pe_int (fun _ _ => rfl)) (pe_ix (kix_tup (K := K) (by rfl)) (pv 2) pe_int (fun _ _ => rfl))) (pv 1)))) pa_nil))))), fun φ ds H D0 σ hl hP hrt A => ?_⟩
  obtain ⟨n, i, ls, rfl, hz⟩ := hP
  replace A : At K φ (Same H) [some (sepD n ls), some (.int i), none] σ H := A
  refine st_ret A (ev_sortedA (ns := nbI ls i) ((ev_lcF (p := fun d => match d with | .tup [.int a, .int b, _] => decide (i = a) || decide (i = b) | _ => false) (f := fun d => match d with | .tup [.int a, .int b, _] => .int (a + b - i) | _ => .non) (it_tup (ev_sep1 (ev_var rfl))) (by rw [List.length_map]; omega) (fun d hd φ' J' hx => ?_) (fun d hd hp φ' J' hx => ?_)).is ?_)) fun v d' H6 ⟨js, e, hp, _⟩ A6 r => hrt _ v H6 (fun n' i' ls' e' => ?_) A6.j r
  · obtain ⟨r, hr, rfl⟩ := List.mem_map.mp hd
    refine (et_B (ev_inT (i := i) (ns := [r.1, r.2.1]) (ev_var rfl) (ev_rowP (r := r) (ev_var rfl)))).imp fun b e => e.trans ?_
    show decide (i ∈ [r.1, r.2.1]) = (decide (i = r.1) || decide (i = r.2.1))
    rw [Bool.eq_iff_iff, decide_eq_true_eq, Bool.or_eq_true, decide_eq_true_eq, decide_eq_true_eq]
    simp
  · obtain ⟨r, hr, rfl⟩ := List.mem_map.mp hd
    exact ev_sub (ev_add (ev_row0 (ev_var rfl)) (ev_row1 (ev_var rfl))) (ev_var rfl)
  · rw [ls_filter_map (p := nbB i) fun r => rfl]
    unfold nbI
    rw [List.map_map, List.map_map]
    rfl
  · have h1 := (sep_inj (List.cons.inj e').1).2
    have h2 := D.int.inj (List.cons.inj (List.cons.inj e').2).1
    subst h1 h2
    exact ⟨js, e, hp⟩
def RBreaks : List D → D → Prop := fun ds d => ∃ (n i j a b : Int) (ls : List Row), ds = [sepD n ls, .int i, .int j, .int a, .int b] ∧ d = .bl (decide (((a - b).natAbs : Int) < leastB ls i j))
theorem sc_breaks : FnScope ["separations", "i", "j", "first", "second"] ["separations", "i", "j", "first", "second"] (defScope s_breaks) := ⟨rfl, rfl, rfl, by decide +kernel, rfl, by decide +kernel, by decide +kernel⟩
theorem ok_breaks (B : Bi mg) {f g : Addr} {fd gd : FuncData} (F : Fun K "breaks" "breaks" s_breaks f fd) (L_least_between : Lk K mg "least_between" g gd ["separations", "i", "j"]) (G_least_between : FnOk P w K mg base CX0 1 g gd ["separations", "i", "j"] (SpD K 3 RLeast)) :
    FnOk P w K mg base CX0 2 f fd ["separations", "i", "j", "first", "second"] (SpD K 5 RBreaks) := by
  have S := sc_breaks
  refine fn_ok F S rfl 0 rfl fun cdv A outer s H E hr => ⟨_, ((pss_one (ps_ret (pe_cmpR op_lt (pe_callB c_abs (by rfl) B.abs (by decide +kernel) (pa_cons (pe_op op_sub (pv 3) (pv 4)) pa_nil)) (pe_call G_least_between (hr.mono (by first | exact Nat.le_refl _ | decide | omega)) (by rfl) L_least_between.m L_least_between.kp L_least_between.bi .nil pass0 (pa_cons (pv 0) (pa_cons (pv 1) (pa_cons (pv 2) pa_nil)))) (nomark _))))), fun φ ds d H D0 σ hl hR hrt hnx A => ?_⟩
  obtain ⟨n, i, j, a, b, ls, rfl, rfl⟩ := hR
  replace A : At K φ (Same H) [some (sepD n ls), some (.int i), some (.int j), some (.int a), some (.int b)] σ H := A
  exact st_ret A (ev_lt (ev_abs (ev_sub (ev_var rfl) (ev_var rfl))) (ev_callD (ea_cons (ev_var rfl) (ea_cons (ev_var rfl) (ea_cons (ev_var rfl) ea_nil))) ⟨n, i, j, ls, rfl, rfl⟩)) fun v d' H6 e A6 r => hrt v H6 A6.j (by subst e; exact r)
def RWould : List D → D → Prop := fun ds d => ∃ (n i ch : Int) (ls : List Row) (g : List (Int × Int)), ds = [sepD n ls, gD g, .int i, .int ch] ∧ SepG n ls ∧ d = .bl (confB n ls (val g) i ch)
theorem sc_would_break : FnScope ["separations", "given", "i", "channel", "j"] ["separations", "given", "i", "channel"] (defScope s_would_break) := ⟨rfl, rfl, rfl, by decide +kernel, rfl, by decide +kernel, by decide +kernel⟩
/-- one neighbor's test -/
def hitB (ls : List Row) (g : List (Int × Int)) (i ch j : Int) : Bool := (val g j).isSome && decide (((ch - (val g j).getD 0).natAbs : Int) < leastB ls i j)
theorem hit_conf {n : Int} {ls : List Row} (S : SepG n ls) {g : List (Int × Int)} {i ch j : Int} (h : hitB ls g i ch j = true) : ∃ b, 0 ≤ i ∧ i < n ∧ 0 ≤ j ∧ j < n ∧ i ≠ j ∧ val g j = some b ∧ ((ch - b).natAbs : Int) < leastB ls i j := by
  unfold hitB at h
  rw [Bool.and_eq_true, decide_eq_true_eq] at h
  cases e : val g j with
  | none => rw [e] at h; cases h.1
  | some b =>
    rw [e] at h
    have h2 : ((ch - b).natAbs : Int) < leastB ls i j := h.2
    have := nb_range S (i := i) (j := j) (by omega)
    exact ⟨b, this.1, this.2.1, this.2.2.1, this.2.2.2.1, this.2.2.2.2, rfl, h2⟩
theorem conf_hit {n : Int} {ls : List Row} (S : SepG n ls) {g : List (Int × Int)} {i ch : Int} (h : Conf n ls (val g) i ch) : ∃ j ∈ nbI ls i, hitB ls g i ch j = true := by
  obtain ⟨j, b, j1, j2, e, h⟩ := h
  refine ⟨j, (nb_iff S).mpr (by omega), ?_⟩
  unfold hitB
  rw [e, Bool.and_eq_true, decide_eq_true_eq]
  exact ⟨rfl, h⟩
theorem et_hit {φ : Addr → Prop} {J : Hp → Prop} {ρ : List (Option D)} {n i ch j : Int} {ls : List Row} {g : List (Int × Int)} {k1 k2 k3 k4 k5 : Nat} {E : XK} (h1 : ρ[k1]? = some (some (sepD n ls))) (h2 : ρ[k2]? = some (some (gD g))) (h3 : ρ[k3]? = some (some (.int i))) (h4 : ρ[k4]? = some (some (.int ch))) (h5 : ρ[k5]? = some (some (.int j))) :
    EvX K φ J (tAnd (tTest (tDIn (tVar k5) (tVar k2))) (tB (tCall (SpD K 5 RBreaks) [] E (tCons (tVar k1) (tCons (tVar k3) (tCons (tVar k5) (tCons (tVar k4) (tCons (tDGet (tVar k2) (tVar k5)) tNil)))))))) ρ (hitB ls g i ch j) := by
  refine et_and (b := (val g j).isSome) (c := decide (((ch - (val g j).getD 0).natAbs : Int) < leastB ls i j)) ?_ fun hb => ?_
  · have e : (valD (kdsG g) (.inl j : Key)).isSome = (val g j).isSome := by rw [valD_kds, Option.isSome_map]
    rw [← e]
    exact et_test (ev_din (k := (.inl j : Key)) (ev_var h5) (ed_frozen (ev_var h2)))
  · obtain ⟨b, hb⟩ := Option.isSome_iff_exists.mp hb
    have hg : EvD K φ J (tDGet (tVar k2) (tVar k5)) ρ (.int b) := ev_dget (k := (.inl j : Key)) (ed_frozen (ev_var h2)) (ev_var h5) (by rw [valD_kds, hb]; rfl)
    rw [hb]
    exact et_B (ev_callD (ea_cons (ev_var h1) (ea_cons (ev_var h3) (ea_cons (ev_var h5) (ea_cons (ev_var h4) (ea_cons hg ea_nil))))) ⟨n, i, j, ch, b, ls, rfl, rfl⟩)
theorem ok_would_break (B : Bi mg) {f g g1 : Addr} {fd gd gd1 : FuncData} (F : Fun K "would_break" "would_break" s_would_break f fd) (L_neighbors : Lk K mg "neighbors" g gd ["separations", "i"]) (G_neighbors : FnOk P w K mg base CX0 1 g gd ["separations", "i"] (SpR K 2 PNb RNb))
    (L_breaks : Lk K mg "breaks" g1 gd1 ["separations", "i", "j", "first", "second"]) (G_breaks : FnOk P w K mg base CX0 2 g1 gd1 ["separations", "i", "j", "first", "second"] (SpD K 5 RBreaks)) :
    FnOk P w K mg base CX0 3 f fd ["separations", "given", "i", "channel"] (SpD K 4 RWould) := by
  have S := sc_would_break
  refine fn_ok F S rfl 1 rfl fun cdv A outer s H E hr => ⟨_, ((pss_cons (ps_for PassesOwn.never rfl (pi_list (pe_call G_neighbors (hr.mono (by first | exact Nat.le_refl _ | decide | omega)) (by rfl) L_neighbors.m L_neighbors.kp L_neighbors.bi .nil pass0 (pa_cons (pv 0) (pa_cons (pv 2) pa_nil)))) (pg_name (i := 4) S.nd rfl (by first | exact Or.inl rfl | exact Or.inr rfl))
 (pss_one (ps_if (PW.pt (pw_and (pt_cmp (pc_din hr.units1 (pv 4) (pv 1))) (pw_and1 (pt_val (pe_call G_breaks (hr.mono (by first | exact Nat.le_refl _ | decide | omega)) (by rfl) L_breaks.m L_breaks.kp L_breaks.bi .nil pass0 (pa_cons (pv 0) (pa_cons (pv 2) (pa_cons (pv 4) (pa_cons (pv 3) (pa_cons (pe_dget hr.units1 (pv 1) (pv 4) (fun _ _ => rfl)) pa_nil))))))))))
 (pss_one (ps_ret pe_bl))
 pss_nil)))
 (pss_one (ps_ret pe_bl)))), fun φ ds d H D0 σ hl hR hrt hnx A => ?_⟩
  obtain ⟨n, i, ch, ls, g, rfl, SG, rfl⟩ := hR
  replace A : At K φ (Same H) [some (sepD n ls), some (gD g), some (.int i), some (.int ch), none] σ H := A
  refine q (st_forP A (it_listP (P := fun ds => ∃ js : List Int, ds = js.map D.int ∧ js.Perm (nbI ls i)) ((ev_callR (ea_cons (ev_var rfl) (ea_cons (ev_var rfl) ea_nil)) ⟨n, i, ls, rfl, SG.len⟩).imp fun z hz => ?_)) fun ds H1 ⟨js, hjs, hperm⟩ A1 => ?_)
  · obtain ⟨js, e2, hp⟩ := hz n i ls rfl
    exact ⟨_, e2, js, rfl, hp⟩
  subst hjs
  refine forG_by A1 (fun k ρ' J' => (∃ o, ρ' = [some (sepD n ls), some (gD g), some (.int i), some (.int ch), o]) ∧ J' = Same H ∧ ∀ x ∈ js.take k, hitB ls g i ch x = false) ⟨⟨none, rfl⟩, rfl, fun x h => by simp at h⟩ ?_ ?_
  · rintro k d ρ' J' hd ⟨⟨o, rfl⟩, rfl, hno⟩
    rw [List.getElem?_map] at hd
    obtain ⟨j, hj, rfl⟩ := Option.map_eq_some_iff.mp hd
    refine ⟨_, _, eg_name, fun σ' H' A2 => ?_⟩
    refine st_if A2 (et_hit (n := n) (i := i) (ch := ch) (j := j) (ls := ls) (g := g) rfl rfl rfl rfl rfl) (fun hb H3 A3 => ?_) (fun hb H3 A3 => ?_)
    · refine st_ret A3 ev_bl fun v d' H6 e A6 r => hrt v H6 A6.j.1 ?_
      subst e
      obtain ⟨b, z1, z2, z3, z4, z5, z6, z7⟩ := hit_conf SG hb.symm
      have hc : confB n ls (val g) i ch = true := confB_t.mpr ⟨j, b, z3, z4, z6, z7⟩
      rw [hc]
      exact r
    · refine ⟨_, _, ⟨⟨some (.int j), rfl⟩, rfl, fun x hx => ?_⟩, A3⟩
      rw [List.take_add_one, hj] at hx
      rcases List.mem_append.mp hx with h | h
      · exact hno x h
      · rw [List.mem_singleton.mp h]; exact hb.symm
  · rintro ρ' J' σ' H' ⟨⟨o, rfl⟩, rfl, hno⟩ A2
    rw [List.length_map, List.take_length] at hno
    refine st_ret A2 ev_bl fun v d' H6 e A6 r => hrt v H6 A6.j.1 ?_
    subst e
    have hc : confB n ls (val g) i ch = false := confB_f.mpr fun hc => by
      obtain ⟨j, hj, hh⟩ := conf_hit SG hc
      rw [hno j (hperm.mem_iff.mpr hj)] at hh
      cases hh
    rw [hc]
    exact r
def RFree : List D → D → Prop := fun ds d => ∃ (n c i : Int) (ls : List Row) (g : List (Int × Int)), ds = [sepD n ls, .int c, gD g, .int i] ∧ SepG n ls ∧ 0 ≤ c ∧ c ≤ 100 ∧ d = .lst ((freeI n ls c (val g) i).map D.int)
theorem sc_free_channels : FnScope ["separations", "channels", "given", "i", "one"] ["separations", "channels", "given", "i"] (defScope s_free_channels) := ⟨rfl, rfl, rfl, by decide +kernel, rfl, by decide +kernel, by decide +kernel⟩
theorem rangeD_ints (n : Nat) : rangeD 0 n = ((List.range n).map Int.ofNat).map D.int := by
  unfold rangeD
  rw [List.map_map]
  refine List.map_congr_left fun i _ => ?_
  show D.int (0 + (i : Int)) = D.int (i : Int)
  rw [Int.zero_add]
theorem ok_free_channels (B : Bi mg) {f g : Addr} {fd gd : FuncData} (F : Fun K "free_channels" "free_channels" s_free_channels f fd) (L_would_break : Lk K mg "would_break" g gd ["separations", "given", "i", "channel"]) (G_would_break : FnOk P w K mg base CX0 3 g gd ["separations", "given", "i", "channel"] (SpD K 4 RWould)) :
    FnOk P w K mg base CX0 4 f fd ["separations", "channels", "given", "i"] (SpD K 4 RFree) := by
  have S := sc_free_channels
  refine fn_ok F S rfl 1 rfl fun cdv A outer s H E hr => ⟨_, ((pss_one (ps_ret (pe_lc (own := [("one", 4)]) (g := (gName 4)) (by rfl) S.nd (pi_range1 (by rfl) B.range (pa_cons (pv 1) pa_nil)) (blkOk_by (N := ["separations", "channels", "given", "i", "one"]) (sc := defScope s_free_channels) (own := [("one", 4)]) (by decide +kernel)) (fun _ _ _ _ _ => (pg_name (i := 4) S.nd rfl (by first | exact Or.inl rfl | exact Or.inr rfl))) (fun _ _ _ _ _ => pts_one (pt_not (pt_val (pe_call G_would_break (hr.mono (by first | exact Nat.le_refl _ | decide | omega)) (by rfl) L_would_break.m L_would_break.kp L_would_break.bi .nil pass0 (pa_cons (pv 0) (pa_cons (pv 2) (pa_cons (pv 3) (pa_cons (pv 4) pa_nil)))))))) (fun _ _ _ _ _ => (pv 4)))))), fun φ ds d H D0 σ hl hR hrt hnx A => ?_⟩
  obtain ⟨n, c, i, ls, g, rfl, SG, c0, c1, rfl⟩ := hR
  replace A : At K φ (Same H) [some (sepD n ls), some (.int c), some (gD g), some (.int i), none] σ H := A
  refine st_ret A ((ev_lcF (p := fun d => match d with | .int ch => !confB n ls (val g) i ch | _ => false) (f := fun d => d) (it_range1 (ea_cons (ev_var rfl) ea_nil) (by omega)) (by rw [rangeD_length]; omega) (fun d hd φ' J' hx => ?_) (fun d hd hp φ' J' hx => ev_var rfl)).is ?_) fun v d' H6 e A6 r => hrt v H6 A6.j (by subst e; exact r)
  · rw [rangeD_ints] at hd
    obtain ⟨ch, _, rfl⟩ := List.mem_map.mp hd
    exact et_not (et_B (ev_callD (ea_cons (ev_var rfl) (ea_cons (ev_var rfl) (ea_cons (ev_var rfl) (ea_cons (ev_var rfl) ea_nil)))) ⟨n, i, ch, ls, g, rfl, SG, rfl⟩))
  · rw [rangeD_ints, List.map_id']
    unfold freeI
    rw [List.filter_map]
    rfl
def PClash : List D → Prop := fun ds => ∃ (n i ch : Int) (ls : List Row) (g : List (Int × Int)), ds = [sepD n ls, gD g, .int i, .int ch] ∧ SepG n ls ∧ Conf n ls (val g) i ch
def RClash : List D → D → Prop := fun ds d => ∃ (n i ch j b : Int) (ls : List Row) (g : List (Int × Int)), ds = [sepD n ls, gD g, .int i, .int ch] ∧ d = .tup [.str "clash", .int i, .int j] ∧ 0 ≤ j ∧ j < n ∧ val g j = some b ∧ ((ch - b).natAbs : Int) < leastB ls i j
theorem sc_clash_with : FnScope ["separations", "given", "i", "channel", "j"] ["separations", "given", "i", "channel"] (defScope s_clash_with) := ⟨rfl, rfl, rfl, by decide +kernel, rfl, by decide +kernel, by decide +kernel⟩
theorem ok_clash_with (B : Bi mg) {f g g1 : Addr} {fd gd gd1 : FuncData} (F : Fun K "clash_with" "clash_with" s_clash_with f fd) (L_neighbors : Lk K mg "neighbors" g gd ["separations", "i"]) (G_neighbors : FnOk P w K mg base CX0 1 g gd ["separations", "i"] (SpR K 2 PNb RNb))
    (L_breaks : Lk K mg "breaks" g1 gd1 ["separations", "i", "j", "first", "second"]) (G_breaks : FnOk P w K mg base CX0 2 g1 gd1 ["separations", "i", "j", "first", "second"] (SpD K 5 RBreaks)) :
    FnOk P w K mg base CX0 3 f fd ["separations", "given", "i", "channel"] (SpR K 4 PClash RClash) := by
  have S := sc_clash_with
  refine fn_okR F S rfl 1 rfl fun cdv A outer s H E hr => ⟨_, ((pss_cons (ps_for PassesOwn.never rfl (pi_list (pe_call G_neighbors (hr.mono (by first | exact Nat.le_refl _ | decide | omega)) (by rfl) L_neighbors.m L_neighbors.kp L_neighbors.bi .nil pass0 (pa_cons (pv 0) (pa_cons (pv 2) pa_nil)))) (pg_name (i := 4) S.nd rfl (by first | exact Or.inl rfl | exact Or.inr rfl))
 (pss_one (ps_if (PW.pt (pw_and (pt_cmp (pc_din hr.units1 (pv 4) (pv 1))) (pw_and1 (pt_val (pe_call G_breaks (hr.mono (by first | exact Nat.le_refl _ | decide | omega)) (by rfl) L_breaks.m L_breaks.kp L_breaks.bi .nil pass0 (pa_cons (pv 0) (pa_cons (pv 2) (pa_cons (pv 4) (pa_cons (pv 3) (pa_cons (pe_dget hr.units1 (pv 1) (pv 4) (fun _ _ => rfl)) pa_nil))))))))))
 (pss_one (ps_ret (pe_tup (pa_cons pe_str (pa_cons (pv 2) (pa_cons (pv 4) pa_nil))))))
 pss_nil)))
 (pss_one ps_never))), fun φ ds H D0 σ hl hP hrt A => ?_⟩
  obtain ⟨n, i, ch, ls, g, rfl, SG, hconf⟩ := hP
  replace A : At K φ (Same H) [some (sepD n ls), some (gD g), some (.int i), some (.int ch), none] σ H := A
  refine q (st_forP A (it_listP (P := fun ds => ∃ js : List Int, ds = js.map D.int ∧ js.Perm (nbI ls i)) ((ev_callR (ea_cons (ev_var rfl) (ea_cons (ev_var rfl) ea_nil)) ⟨n, i, ls, rfl, SG.len⟩).imp fun z hz => ?_)) fun ds H1 ⟨js, hjs, hperm⟩ A1 => ?_)
  · obtain ⟨js, e2, hp⟩ := hz n i ls rfl
    exact ⟨_, e2, js, rfl, hp⟩
  subst hjs
  refine forG_by A1 (fun k ρ' J' => (∃ o, ρ' = [some (sepD n ls), some (gD g), some (.int i), some (.int ch), o]) ∧ J' = Same H ∧ ∀ x ∈ js.take k, hitB ls g i ch x = false) ⟨⟨none, rfl⟩, rfl, fun x h => by simp at h⟩ ?_ ?_
  · rintro k d ρ' J' hd ⟨⟨o, rfl⟩, rfl, hno⟩
    rw [List.getElem?_map] at hd
    obtain ⟨j, hj, rfl⟩ := Option.map_eq_some_iff.mp hd
    refine ⟨_, _, eg_name, fun σ' H' A2 => ?_⟩
    replace A2 : At K φ (fun H_1 => Same H H_1 ∧ But φ H1 H_1) [some (sepD n ls), some (gD g), some (.int i), some (.int ch), some (.int j)] σ' H' := A2
    refine st_if A2 (et_hit (n := n) (i := i) (ch := ch) (j := j) (ls := ls) (g := g) rfl rfl rfl rfl rfl) (fun hb H3 A3 => ?_) (fun hb H3 A3 => ?_)
    · obtain ⟨b, z1, z2, z3, z4, z5, z6, z7⟩ := hit_conf SG hb.symm
      exact st_ret A3 (ev_tup (ea_cons ev_str (ea_cons (ev_var rfl) (ea_cons (ev_var rfl) ea_nil)))) fun v d' H6 e A6 r => hrt _ v H6 ⟨n, i, ch, j, b, ls, g, rfl, e, z3, z4, z6, z7⟩ A6.j.1 r
    · refine ⟨_, _, ⟨⟨some (.int j), rfl⟩, rfl, fun x hx => ?_⟩, A3⟩
      rw [List.take_add_one, hj] at hx
      rcases List.mem_append.mp hx with h | h
      · exact hno x h
      · rw [List.mem_singleton.mp h]; exact hb.symm
  · rintro ρ' J' σ' H' ⟨⟨o, rfl⟩, rfl, hno⟩ A2
    rw [List.length_map, List.take_length] at hno
    obtain ⟨j, hj, hh⟩ := conf_hit SG hconf
    rw [hno j (hperm.mem_iff.mpr hj)] at hh
    cases hh
end

/-! ### search -/
def q0 : Str := (envOfC "search" (defScope s_search) 0 0 .none).qual ++ "<lambda>"
def lamAt : Option Stmt → Pos
  | some (Stmt.Assign _ (Expr.Call _ _ [⟨_, Expr.Lambda _ _ _ p, _⟩] _) _) => p
  | _ => ⟨0, 0, 0, 0⟩
def posS : Pos := lamAt (defBody s_search)[3]?
theorem kds_inj : ∀ {a b : List (Int × Int)}, (kdsG a).map (·.1) = (kdsG b).map (·.1) → (kdsG a).map (·.2) = (kdsG b).map (·.2) → a = b
  | [], [], _, _ => rfl
  | [], _ :: _, h, _ => nomatch h
  | _ :: _, [], h, _ => nomatch h
  | (a1, a2) :: a, (b1, b2) :: b, h, h' => by
    obtain ⟨h1, h2⟩ := List.cons.inj h
    obtain ⟨h3, h4⟩ := List.cons.inj h'
    have h1 : (Sum.inl a1 : Key) = Sum.inl b1 := h1
    have h3 : D.int a2 = D.int b2 := h3
    injection h1 with h1
    injection h3 with h3
    rw [h1, h3, kds_inj h2 h4]
theorem gD_inj {a b : List (Int × Int)} (h : gD a = gD b) : a = b := by
  have h : D.dk ((kdsG a).map (·.1)) ((kdsG a).map (·.2)) = D.dk ((kdsG b).map (·.1)) ((kdsG b).map (·.2)) := h
  injection h with h1 h2
  exact kds_inj h1 h2
def PSearch : Nat → List D → Prop
  | 0, _ => False
  | r + 1, ds => ∃ (n c : Int) (ls : List Row) (g : List (Int × Int)), ds = [sepD n ls, .int c, gD g] ∧ SepG n ls ∧ 0 ≤ c ∧ c ≤ 100 ∧ GOk n ls c g ∧ g.length + r ≤ 60 ∧ (restI n g).length ≤ r
def RSearch : List D → D → Prop := fun ds d => ∀ (n c : Int) (ls : List Row) (g : List (Int × Int)), ds = [sepD n ls, .int c, gD g] → (∃ g', d = .tup [.bl true, gD g'] ∧ GOk n ls c g' ∧ restI n g' = []) ∨ ∃ t, d = .tup [.bl false, t] ∧ Rt n ls c (val g) t
theorem rs_of {n c : Int} {ls : List Row} {g : List (Int × Int)} {d : D} (h : (∃ g', d = .tup [.bl true, gD g'] ∧ GOk n ls c g' ∧ restI n g' = []) ∨ ∃ t, d = .tup [.bl false, t] ∧ Rt n ls c (val g) t) : RSearch [sepD n ls, .int c, gD g] d := fun n' c' ls' g' e => by
  obtain ⟨e1, e⟩ := List.cons.inj e
  obtain ⟨e2, e⟩ := List.cons.inj e
  obtain ⟨e3, _⟩ := List.cons.inj e
  obtain ⟨rfl, rfl⟩ := sep_inj e1
  injection e2 with e2
  subst e2
  obtain rfl := gD_inj e3
  exact h
section
variable {K : PySem.W.Frag} {φ : Addr → Prop} {J : Hp → Prop} {ρ : List (Option D)} {te : TE} {ta : TA}
theorem ev_lenP (h : EvP K φ J te ρ (fun z => ∃ ds, z = .lst ds)) : EvP K φ J (tCB (rLen K) (tCons te tNil)) ρ (fun z => ∃ i : Int, z = .int i) := ev_cb (ea_consP h ea_nil) fun ds ⟨d, r, e, ⟨es, e1⟩, e2⟩ => by
  subst e e1 e2
  exact fun H vs f r Q q => cl_lenL H vs f r Q fun u z H' s pz => q u z H' s ⟨_, pz⟩
theorem ev_negP (h : EvP K φ J te ρ (fun z => ∃ i : Int, z = .int i)) : EvP K φ J (tUn (rU fun i => .int (-i)) te) ρ (fun z => ∃ i : Int, z = .int i) := fun σ H A Q q => h σ H A _ fun v x H1 b1 A1 ⟨i, e⟩ r1 => by
  subst e
  exact ⟨i, r1, q _ _ H1 b1 A1 ⟨-i, rfl⟩ rfl⟩
theorem ev_newDk {kds : List (Key × D)} (h : EvNO K φ J te ρ (fun xs C => xs = kds.map (·.2) ∧ C = fun vs => HO.dK ((kds.map (·.1)).zip vs))) : EvD K φ J te ρ (dictD kds) := fun σ H A Q q => h σ H A _ fun p vs ds C H0 H' b0 A0 hp b A' ⟨e1, e2⟩ nt e r => by
  subst e1 e2
  exact q _ _ H' (b0.trans b) A' rfl (DKind.rep.mpr ⟨p, vs, rfl, ⟨A0.fr.new p hp, e, by rw [List.length_map, List.length_map]⟩, Reps.up (fun a o p e => ⟨p.1, e⟩) _ vs r⟩)
end
theorem snoc_at {Q : Nat → D → Prop} {ts : List D} {t : D} (h : ∀ (i : Nat) (u : D), ts[i]? = some u → Q i u) (ht : Q ts.length t) : ∀ (i : Nat) (u : D), (ts ++ [t])[i]? = some u → Q i u := fun i u e => by
  rcases Nat.lt_or_ge i ts.length with z | z
  · rw [List.getElem?_append_left z] at e
    exact h i u e
  · rw [List.getElem?_append_right z] at e
    obtain ⟨z1, z2⟩ := List.getElem?_eq_some_iff.mp e
    have z1 : i - ts.length < 1 := z1
    have ei : i = ts.length := by omega
    subst ei
    rw [Nat.sub_self] at e
    cases e
    exact ht
section
variable {P : Program} {w : World} {K : PySem.W.Frag} {mg : Str → Option Value} {base : Heap}
theorem sc_search : FnScope ["separations", "channels", "given", "rest", "i", "options", "best", "trees", "channel", "further", "done", "found"] ["separations", "channels", "given"] (defScope s_search) := ⟨rfl, rfl, rfl, by decide +kernel, rfl, by decide +kernel, by decide +kernel⟩
set_option maxHeartbeats 2000000 in
theorem ok_search {c C0 : Addr} (TB : LamX.TabB base mg c C0) (B : Bi mg) {f g1 g2 g3 : Addr} {fd gd1 gd2 gd3 : FuncData} (F : FunC K "search" "search" s_search f fd c) (L_search : Lk K mg "search" f fd ["separations", "channels", "given"])
    (L_free_channels : Lk K mg "free_channels" g1 gd1 ["separations", "channels", "given", "i"]) (G_free_channels : FnOk P w K mg base CX0 4 g1 gd1 ["separations", "channels", "given", "i"] (SpD K 4 RFree))
    (L_neighbors : Lk K mg "neighbors" g2 gd2 ["separations", "i"]) (G_neighbors : FnOk P w K mg base CX0 1 g2 gd2 ["separations", "i"] (SpR K 2 PNb RNb))
    (L_clash_with : Lk K mg "clash_with" g3 gd3 ["separations", "given", "i", "channel"]) (G_clash_with : FnOk P w K mg base CX0 3 g3 gd3 ["separations", "given", "i", "channel"] (SpR K 4 PClash RClash)) :
    ∀ r, FnOk P w K mg base CX0 (6 * r + 9) f fd ["separations", "channels", "given"] (SpS K C0 q0 posS 3 (PSearch r) RSearch)
  | 0 => fn_none fun vs H Q E ⟨_, _, _, _, _, _, _, _, h, _⟩ => h
  | r + 1 => by
    have G_search := ok_search TB B F L_search L_free_channels G_free_channels L_neighbors G_neighbors L_clash_with G_clash_with r
    have S := sc_search
    refine fn_okS (k := 6 * (r + 1) + 8) F S rfl 9 rfl fun A outer s H E hr => ⟨_, ((pss_cons (ps_setLc (i := 3) (own := [("i", 4)]) (g := (gName 4)) (by rfl) S.nd rfl rfl (sw_true rfl rfl rfl (by decide +kernel)) (pi_range1 (by rfl) B.range (pa_cons (pe_ix ix_tup (pv 0) pe_int (fun _ _ => rfl)) pa_nil)) (blkOk_by (N := ["separations", "channels", "given", "rest", "i", "options", "best", "trees", "channel", "further", "done", "found"]) (sc := defScope s_search) (own := [("i", 4)]) (by decide +kernel)) (fun _ _ _ _ _ => (pg_name (i := 4) S.nd rfl (by first | exact Or.inl rfl | exact Or.inr rfl))) (fun _ _ _ _ _ => pts_one (pt_cmp (pc_dnotin hr.units1 (pv 4) (pv 2)))) (fun _ _ _ _ _ => (pv 4)))
 (pss_cons (ps_if (pt_cmpR (op_eqD hr.units) (pv 3) (pe_lst pa_nil) (nomark _))
 (pss_one (ps_ret (pe_tup (pa_cons pe_bl (pa_cons (pv 2) pa_nil)))))
 pss_nil)
 (pss_cons (ps_set (i := 5) S.nd rfl (by first | exact Or.inl rfl | exact Or.inr rfl) (pe_dc (own := [("i", 4)]) (g := (gName 4)) (tt := tYes) (by rfl) S.nd (pi_list (pv 3)) (blkOk_by (N := ["separations", "channels", "given", "rest", "i", "options", "best", "trees", "channel", "further", "done", "found"]) (sc := defScope s_search) (own := [("i", 4)]) (by decide +kernel)) (fun _ _ _ _ _ => (pg_name (i := 4) S.nd rfl (by first | exact Or.inl rfl | exact Or.inr rfl))) (fun _ _ _ _ _ => pts_nil) (fun _ _ _ _ _ => (pv 4)) (fun _ _ _ _ _ => (pe_call G_free_channels (hr.mono (by first | exact Nat.le_refl _ | decide | omega)) (by rfl) L_free_channels.m L_free_channels.kp L_free_channels.bi .nil pass0 (pa_cons (pv 0) (pa_cons (pv 1) (pa_cons (pv 2) (pa_cons (pv 4) pa_nil))))))))
 (pss_cons (ps_set (i := 6) S.nd rfl (by first | exact Or.inl rfl | exact Or.inr rfl) (pe_minkey (k := 4) (T := [(C0, q0)]) (P := C0) (ix := 4) (y := "i") (by rfl) B.min (by decide +kernel) TB rfl (List.mem_singleton.mpr rfl) (fun p hp _ => by rw [List.mem_singleton.mp hp]; rfl) (hr.mono (by omega)) (lamS1_by (sc := defScope s_search) (by decide +kernel)) S.nd rfl (by rfl) (fun _ _ _ _ _ _ => rfl) (pa_cons (pv 3) pa_nil) (fun A outer s H f c' hr => (pe_tup (pa_cons (pe_callB (kc_len (K := K) (by rfl)) (by rfl) B.len (by decide +kernel) (pa_cons (pe_dget hr.units1 (pv 5) (pv 4) (fun _ _ => rfl)) pa_nil)) (pa_cons (pe_un un_neg (pe_callB (kc_len (K := K) (by rfl)) (by rfl) B.len (by decide +kernel) (pa_cons (pe_call G_neighbors (hr.mono (by first | exact Nat.le_refl _ | decide | omega)) (by rfl) L_neighbors.m L_neighbors.kp L_neighbors.bi .nil pass0 (pa_cons (pv 0) (pa_cons (pv 4) pa_nil))) pa_nil))) pa_nil))))))
 (pss_cons (ps_if (pt_cmpR (op_eqD hr.units) (pe_dget hr.units1 (pv 5) (pv 6) (fun _ _ => rfl)) (pe_lst pa_nil) (nomark _))
 (pss_one (ps_ret (pe_tup (pa_cons pe_bl (pa_cons (pe_tup (pa_cons pe_str (pa_cons (pv 6) pa_nil))) pa_nil)))))
 pss_nil)
 (pss_cons (ps_set (i := 7) S.nd rfl (by first | exact Or.inl rfl | exact Or.inr rfl) (pe_lst pa_nil))
 (pss_cons (ps_for PassesOwn.never rfl (pi_range1 (by rfl) B.range (pa_cons (pv 1) pa_nil)) (pg_name (i := 8) S.nd rfl (by first | exact Or.inl rfl | exact Or.inr rfl))
 (pss_one (ps_if (pt_cmpR op_in_seq (pv 8) (pe_dget hr.units1 (pv 5) (pv 6) (fun _ _ => rfl)) (by rfl))
 (pss_cons (ps_set (i := 9) S.nd rfl (by first | exact Or.inl rfl | exact Or.inr rfl) (pe_callTy c_dictOf (by rfl) B.dict (by decide +kernel) (pa_cons (pv 2) pa_nil)))
 (pss_cons (ps_dput hr.units1 (pv 9) (pv 6) (pv 8) rfl)
 (pss_cons (ps_asg (pe_call G_search (hr.mono (by first | exact Nat.le_refl _ | decide | omega)) (by rfl) L_search.m L_search.kp L_search.bi .nil pass0 (pa_cons (pv 0) (pa_cons (pv 1) (pa_cons (pv 9) pa_nil)))) (pg_tup (by rfl) (pgs_cons (pg_name (i := 10) S.nd rfl (by first | exact Or.inl rfl | exact Or.inr rfl)) (pgs_cons (pg_name (i := 11) S.nd rfl (by first | exact Or.inl rfl | exact Or.inr rfl)) pgs_nil))))
 (pss_cons (ps_if (pt_val (pv 10))
 (pss_one (ps_ret (pe_tup (pa_cons pe_bl (pa_cons (pv 11) pa_nil)))))
 pss_nil)
 (pss_one (ps_expr (pe_bm PySem.F.plainAttrs_list PySem.F.slot_list_append PySem.F.type_list_append mt_append (pv 7) (pa_cons (pv 11) pa_nil))))))))
 (pss_one (ps_expr (pe_bm PySem.F.plainAttrs_list PySem.F.slot_list_append PySem.F.type_list_append mt_append (pv 7) (pa_cons (pe_call G_clash_with (hr.mono (by first | exact Nat.le_refl _ | decide | omega)) (by rfl) L_clash_with.m L_clash_with.kp L_clash_with.bi .nil pass0 (pa_cons (pv 0) (pa_cons (pv 2) (pa_cons (pv 6) (pa_cons (pv 8) pa_nil))))) pa_nil)))))))
 (pss_one (ps_ret (pe_tup (pa_cons pe_bl (pa_cons (pe_tup (pa_cons pe_str (pa_cons (pv 6) (pa_cons (pe_callTy c_tupOf (by rfl) B.tuple (by decide +kernel) (pa_cons (pv 7) pa_nil)) pa_nil)))) pa_nil))))))))))))), fun φ ds H tb D0 σ hl hP np tj hrt A => ?_⟩
    obtain ⟨n, c', ls, g, rfl, SG, c0, c1, G, hgl, hrl⟩ := hP
    replace A : At K φ (Same H) [some (sepD n ls), some (.int c'), some (gD g), none, none, none, none, none, none, none, none, none] σ H := A
    have n0 := SG.n0
    have n1 := SG.n1
    refine q (st_set (d := .lst ((restI n g).map D.int)) A ((ev_lcF (p := fun d => match d with | .int i => (val g i).isNone | _ => false) (f := fun d => d) (it_range1 (ea_cons (ev_sep0 (ev_var rfl)) ea_nil) (by omega)) (by rw [rangeD_length]; omega) (fun d hd φ' J' hx => ?_) (fun d hd hp φ' J' hx => ev_var rfl)).is ?_) fun σ1 H1 A1 => q ?_)
    · rw [rangeD_ints] at hd
      obtain ⟨i, _, rfl⟩ := List.mem_map.mp hd
      refine (et_test (ev_dnotin (k := (.inl i : Key)) (ev_var rfl) (ed_frozen (kds := kdsG g) (ev_var rfl)))).imp fun b e => e.trans ?_
      rw [valD_kds, Option.isSome_map]
      show (!(val g i).isSome) = (val g i).isNone
      cases val g i <;> rfl
    · rw [rangeD_ints, List.map_id']
      unfold restI
      rw [List.filter_map]
      rfl
    replace A1 : At K φ (Same H) [some (sepD n ls), some (.int c'), some (gD g), some (.lst ((restI n g).map D.int)), none, none, none, none, none, none, none, none] σ1 H1 := A1
    refine st_if A1 (et_test (ev_eqQ (ev_var rfl) (ev_lst ea_nil) okq_ints rfl)) (fun hb H2 A2 => ?_) (fun hb H2 A2 => st_next ?_)
    · rw [eqvD_nil] at hb
      have hnil : restI n g = [] := by
        cases e : restI n g with
        | nil => rfl
        | cons a b => rw [e] at hb; cases hb
      exact st_ret A2 (ev_tup (ea_cons ev_bl (ea_cons (ev_var rfl) ea_nil))) fun v d H3 e A3 rr => hrt v d tb H3 (rs_of (.inl ⟨g, e, G, hnil⟩)) (jf_same tj A3.j) rr
    rw [eqvD_nil] at hb
    have hpos : 0 < (restI n g).length := by
      cases e : restI n g with
      | nil => rw [e] at hb; cases hb
      | cons a b => exact Nat.succ_pos _
    let ov : Int → D := fun i => .lst ((freeI n ls c' (val g) i).map D.int)
    have hrest : ∀ i, i ∈ restI n g → 0 ≤ i ∧ i < n ∧ val g i = none := fun i hi => rest_iff.mp hi
    have hrl24 : (restI n g).length ≤ 100 := by omega
    generalize hrest0 : restI n g = rs at A2 hpos hrl hrl24
    generalize hkds : foldK (fun d => match d with | .int i => (.inl i : Key) | _ => .inl 0) (fun d => match d with | .int i => ov i | _ => .non) (rs.map D.int) = kds
    have hval : ∀ i, i ∈ rs → valD kds (.inl i : Key) = some (ov i) := fun i hi => by rw [← hkds]; exact foldK_val hi
    dsimp only
    refine q (st_set (d := dictD kds) A2 ?_ fun σ3 H3 A3 => ?_)
    · subst hkds
      refine ev_newDk (en_dc (us := [4]) (ws := [4]) (ρd := fun d => [some (sepD n ls), some (.int c'), some (gD g), some (.lst (rs.map D.int)), some d, none, none, none, none, none, none, none]) (kf := fun d => match d with | .int i => (.inl i : Key) | _ => .inl 0) (vf := fun d => match d with | .int i => ov i | _ => .non) (it_list (ev_var (i := 3) rfl)) (by rw [List.length_map]; omega) (by simp) (fun d hd => ?_) (fun d hd φ' J' hx => ?_) (fun d hd φ' J' hx => ?_))
      · exact eg_name
      · obtain ⟨i, _, rfl⟩ := List.mem_map.mp hd
        exact ev_var (i := 4) rfl
      · obtain ⟨i, _, rfl⟩ := List.mem_map.mp hd
        exact ev_callD (ea_cons (ev_var (i := 0) rfl) (ea_cons (ev_var (i := 1) rfl) (ea_cons (ev_var (i := 2) rfl) (ea_cons (ev_var (i := 4) rfl) ea_nil)))) ⟨n, c', i, ls, g, rfl, SG, c0, c1, rfl⟩
    replace A3 : At K φ (Same H) [some (sepD n ls), some (.int c'), some (gD g), some (.lst (rs.map D.int)), none, some (dictD kds), none, none, none, none, none, none] σ3 H3 := A3
    have hopt : ∀ {φ : Addr → Prop} {J : Hp → Prop} {ρ : List (Option D)} {k1 k2 : Nat} {i : Int}, i ∈ rs → ρ[k1]? = some (some (dictD kds)) → ρ[k2]? = some (some (.int i)) → EvD K φ J (tDGet (tVar k1) (tVar k2)) ρ (ov i) := fun {φ J ρ k1 k2 i} hi h1 h2 =>
      ev_dget (k := (.inl i : Key)) (ed_frozen (ev_var h1)) (ev_var h2) (hval i hi)
    refine q (st_minkey A3 np tj (ea_cons (ev_var rfl) ea_nil) (by rw [List.length_map]; exact hpos) (fun e he J' => ?_) fun d ps' σ4 H4 hd fl A4 => ?_)
    · obtain ⟨i, hi, rfl⟩ := List.mem_map.mp he
      refine (ev_tupP (ea_consP ((ev_lenL (hopt (i := i) hi rfl rfl)).imp (P' := fun z => ∃ i : Int, z = .int i) fun z e => ⟨_, e⟩) (ea_consP (ev_negP (ev_lenP ((ev_callR (ea_cons (ev_var rfl) (ea_cons (ev_var rfl) ea_nil)) ⟨n, i, ls, rfl, SG.len⟩).imp fun z hz => ?_))) ea_nil)) fun r ⟨d, r', e, _, d2, r2, e2, _, e3⟩ => ?_).imp fun z ⟨r, e, d, r', e1, ⟨a, ea⟩, d2, r2, e2, ⟨b, eb⟩, e3⟩ => ⟨a, b, ?_⟩
      · obtain ⟨js, e, _⟩ := hz n i ls rfl
        exact ⟨_, e⟩
      · subst e e2 e3; exact Nat.le_of_ble_eq_true rfl
      · subst e e1 e2 e3 ea eb; rfl
    obtain ⟨best, hbest, rfl⟩ := List.mem_map.mp hd
    obtain ⟨b0, b1, bn⟩ := hrest best (hrest0 ▸ hbest)
    have hfull : (codeAmong posS ps'.toList).isSome = true := A4.j.2.1.full fl
    have hJF : ∀ H', JF C0 q0 posS H ps' H' → (∃ ps, TabJ C0 q0 ps H') ∧ FullAt C0 posS H' := fun H' j => ⟨⟨ps', j.2.1⟩, ps', j.2.1.1, hfull⟩
    replace A4 : At K φ (JF C0 q0 posS H ps') [some (sepD n ls), some (.int c'), some (gD g), some (.lst (rs.map D.int)), none, some (dictD kds), some (.int best), none, none, none, none, none] σ4 H4 := A4
    refine q (st_if A4 (et_test (ev_eqQ (x := ov best) (hopt hbest rfl rfl) (ev_lst ea_nil) okq_ints rfl)) (fun hb5 H5 A5 => ?_) (fun hb5 H5 A5 => st_next ?_))
    · rw [eqvD_nil] at hb5
      have hnil : freeI n ls c' (val g) best = [] := by
        cases e : freeI n ls c' (val g) best with
        | nil => rfl
        | cons a b => rw [e] at hb5; cases hb5
      exact st_ret A5 (ev_tup (ea_cons ev_bl (ea_cons (ev_tup (ea_cons ev_str (ea_cons (ev_var rfl) ea_nil))) ea_nil))) fun v d H6 e A6 rr => hrt v d ps' H6 (rs_of (.inr ⟨_, e, .full _ _ b0 b1 bn fun ch h1 h2 => Classical.byContradiction fun hn => by
        have z := free_iff.mpr ⟨h1, h2, hn⟩
        rw [hnil] at z
        cases z⟩)) A6.j rr
    dsimp only
    refine q (st_newS A5 (en_ofN (en_lstD ea_nil)) fun l ds0 C J1 σ6 H6 hC N1 L1 A6 => ?_)
    obtain ⟨e, rfl⟩ := hC
    subst e
    have sb := N1.st
    have npl : ¬ wo φ l C0 := fun z => np z.1
    let ρ0 : Option D → Option D → Option D → Option D → List (Option D) := fun o8 o9 o10 o11 => [some (sepD n ls), some (.int c'), some (gD g), some (.lst (rs.map D.int)), none, some (dictD kds), some (.int best), some (.raw (.ref l)), o8, o9, o10, o11]
    replace A6 : At K (wo φ l) J1 (ρ0 none none none none) σ6 H6 := A6
    refine q (st_for A6 (it_range1 (ea_cons (ev_var rfl) ea_nil) (by omega)) (fun k ρ' J' => ∃ (ts : List D) (o8 o9 o10 o11 : Option D), ts.length = k ∧ (∀ (i : Nat) (t : D), ts[i]? = some t → Rt n ls c' (setv (val g) best i) t) ∧ LivS K (wo φ l) J' l HO.lst ts ∧ (∀ H', J' H' → JF C0 q0 posS H ps' H') ∧ ρ' = ρ0 o8 o9 o10 o11) ⟨[], none, none, none, none, rfl, (fun i t h => by simp at h), L1, fun H' h => N1.ext.imp H' h, rfl⟩ ?_ ?_)
    · rintro H7 k x ρ' J' b7 j7 hx ⟨ts, o8, o9, o10, o11, hts, hrts, L7, hb7, rfl⟩ σ7 H8 A7
      rw [rangeD_get] at hx
      split at hx
      · rename_i hk
        cases hx
        rw [show (0 : Int) + (k : Int) = (k : Int) by omega] at A7
        replace A7 : At K (wo φ l) (fun H => J' H ∧ But (wo φ l) H7 H) (ρ0 (some (.int (k : Int))) o9 o10 o11) σ7 H8 := A7
        have kc : 0 ≤ (k : Int) ∧ (k : Int) < c' := by omega
        dsimp only
        refine st_if A7 (et_B (ev_inL (ns := freeI n ls c' (val g) best) (ev_var rfl) (hopt hbest rfl rfl))) (fun hb8 H9 A9 => ?_) (fun hb8 H9 A9 => ?_)
        · have hfree := free_iff.mp (of_decide_eq_true hb8.symm)
          refine q (st_newS A9 (en_dictK (kds := kdsG g) (ev_var rfl)) fun l2 ds2 C2 J2 σ10 H10 hC2 N2 L2 A10 => ?_)
          obtain ⟨e, rfl⟩ := hC2
          subst e
          obtain ⟨nl2, L1'⟩ := N2.liv _ _ _ L7.but
          replace A10 : At K (wo (wo φ l) l2) J2 (ρ0 (some (.int (k : Int))) (some (.raw (.ref l2))) o10 o11) σ10 H10 := A10
          have hgl100 := G.len
          dsimp only
          refine q (st_dputS (kds := kdsG g) (k := (.inl best : Key)) A10 L2 (ev_var (d := .int (k : Int)) rfl) rfl (ev_var rfl) (by unfold kdsG; rw [List.length_map]; omega) fun d J3 H11 hd W3 L3 A11 => ?_)
          subst hd
          rw [put_kds bn] at L3
          have A12 := L3.freezeD N2.fr A11 (i := 9) rfl
          have L1b := (W3.liv _ _ _ L1' nl2).thaw nl2 A11.j
          have hb12 : ∀ H', J3 H' → J' H' ∧ But (wo φ l) H7 H' := W3.base _ (fun H' h => N2.ext.imp H' h) N2.st
          replace A12 : At K (wo φ l) (fun H' => J3 H' ∧ But (wo φ l) H11 H') (ρ0 (some (.int (k : Int))) (some (gD (g ++ [(best, (k : Int))]))) o10 o11) σ10 H11 := A12
          have G' : GOk n ls c' (g ++ [(best, (k : Int))]) := G.snoc SG bn (by omega) b0 b1 kc.1 kc.2 hfree.2.2
          have hlt := rest_lt (c := (k : Int)) (show best ∈ restI n g from hrest0 ▸ hbest)
          rw [hrest0] at hlt
          have hPs : PSearch r [sepD n ls, .int c', gD (g ++ [(best, (k : Int))])] := by
            cases r with
            | zero => omega
            | succ r' => exact ⟨n, c', ls, _, rfl, SG, c0, c1, G', by rw [List.length_append, List.length_singleton]; omega, by omega⟩
          dsimp only
          refine q (st_asgG (us := [10, 11]) (ρ2 := fun d => match d with | .tup [a, b] => ρ0 (some (.int (k : Int))) (some (gD (g ++ [(best, (k : Int))]))) (some a) (some b) | _ => []) A12 (ev_callF npl (fun H' h => hJF H' (hb7 H' (hb12 H' h.1).1)) (ea_cons (ev_var rfl) (ea_cons (ev_var rfl) (ea_cons (ev_var rfl) ea_nil))) hPs) (fun d hd => ?_) fun d σ13 H13 hd A13 => ?_)
          · rcases hd n c' ls _ rfl with ⟨g', rfl, _⟩ | ⟨t, rfl, _⟩
            · exact eg_tup (ds := [.bl true, gD g']) (egs_cons eg_name (egs_cons eg_name egs_nil))
            · exact eg_tup (ds := [.bl false, t]) (egs_cons eg_name (egs_cons eg_name egs_nil))
          dsimp only
          rcases hd n c' ls _ rfl with ⟨g', rfl, Gk, hn⟩ | ⟨t, rfl, ht⟩
          · replace A13 : At K (wo φ l) (fun H' => J3 H' ∧ But (wo φ l) H11 H') (ρ0 (some (.int (k : Int))) (some (gD (g ++ [(best, (k : Int))]))) (some (.bl true)) (some (gD g'))) σ13 H13 := A13
            refine q (st_yes A13 (et_B (ev_var rfl)) rfl fun H14 A14 => ?_)
            exact st_ret A14 (ev_tup (ea_cons ev_bl (ea_cons (ev_var rfl) ea_nil))) fun v d H15 e A15 rr => hrt v d ps' H15 (rs_of (.inl ⟨g', e, Gk, hn⟩)) (hb7 _ (hb12 _ A15.j.1).1) (Rep.up (fun a o p e => ⟨p.1, e⟩) d v rr)
          · replace A13 : At K (wo φ l) (fun H' => J3 H' ∧ But (wo φ l) H11 H') (ρ0 (some (.int (k : Int))) (some (gD (g ++ [(best, (k : Int))]))) (some (.bl false)) (some t)) σ13 H13 := A13
            refine q (st_no A13 (et_B (ev_var rfl)) rfl fun H14 A14 => st_next ?_)
            dsimp only
            refine st_appS (P := fun d => d = t) A14 L1b rfl (ev_var rfl) (by omega) fun d J8 H16 hd W8 L8 A16 => ?_
            subst hd
            have hbb := W8.base _ (fun H' h => (hb12 H' h.1).2) (Stab.but (.inl L7.np))
            rw [val_snoc bn, ← hts] at ht
            exact ⟨_, J8, ⟨ts ++ [_], _, _, _, _, by rw [List.length_append, hts]; rfl, snoc_at hrts ht, L8, W8.base _ (fun H' h => hb7 H' (hb12 H' h.1).1) sb, rfl⟩, A16.live ⟨A16.j, hbb _ A16.j⟩ (A16.mono.and (Mo.but (hbb _ A16.j).tr))⟩
        · have hconf : Conf n ls (val g) best (k : Int) := Classical.byContradiction fun hn => by
            have z := free_iff.mpr ⟨kc.1, kc.2, hn⟩
            rw [decide_eq_true z] at hb8
            cases hb8
          refine st_appS (P := fun d => Rt n ls c' (setv (val g) best (k : Int)) d) A9 L7.but rfl ((ev_callR (ea_cons (ev_var rfl) (ea_cons (ev_var rfl) (ea_cons (ev_var rfl) (ea_cons (ev_var rfl) ea_nil)))) ⟨n, best, k, ls, g, rfl, SG, hconf⟩).imp fun z hz => ?_) (by omega) fun d J8 H16 hd W8 L8 A16 => ?_
          · obtain ⟨n', i', ch', j, b, ls', g', e, e2, j0, j1, ej, hlt⟩ := hz
            obtain ⟨e3, e⟩ := List.cons.inj e
            obtain ⟨e4, e⟩ := List.cons.inj e
            obtain ⟨e5, e⟩ := List.cons.inj e
            obtain ⟨e6, _⟩ := List.cons.inj e
            obtain ⟨rfl, rfl⟩ := sep_inj e3
            obtain rfl := gD_inj e4
            injection e5 with e5
            injection e6 with e6
            subst e5 e6 e2
            have ne : best ≠ j := fun z => by rw [← z, bn] at ej; cases ej
            refine .clash _ best j (k : Int) b b0 b1 j0 j1 ne (if_pos rfl) ?_ hlt
            unfold setv
            rw [if_neg fun z => ne z.symm]
            exact ej
          · have hbb := W8.base _ (fun H' h => h.2) (Stab.but (.inl L7.np))
            rw [← hts] at hd
            exact ⟨_, J8, ⟨ts ++ [d], _, _, _, _, by rw [List.length_append, hts]; rfl, snoc_at hrts hd, L8, W8.base _ (fun H' h => hb7 H' h.1) sb, rfl⟩, A16.live ⟨A16.j, hbb _ A16.j⟩ (A16.mono.and (Mo.but (hbb _ A16.j).tr))⟩
      · cases hx
    · rintro H7 ρ' J' σ7 H8 b7 j7 ⟨ts, o8, o9, o10, o11, hts, hrts, L7, hb7, rfl⟩ A7
      rw [rangeD_length] at hts
      have A8 := L7.but.freeze N1.fr A7 (k := 7) rfl
      dsimp only
      exact st_ret A8 (ev_tup (ea_cons ev_bl (ea_cons (ev_tup (ea_cons ev_str (ea_cons (ev_var rfl) (ea_cons (ev_tupL (ev_var rfl)) ea_nil)))) ea_nil))) fun v d H9 e A9 rr => hrt v d ps' H9 (rs_of (.inr ⟨_, e, .split _ _ ts b0 b1 bn hts hrts⟩)) (hb7 _ A9.j.1.1) rr
end

/-! ### the mathematics: lowest terms, Euclid, Erlang's sums -/
def low (p q : Nat) : Nat × Nat := (p / Nat.gcd p q, q / Nat.gcd p q)
theorem low_mul {g p q : Nat} (hg : 0 < g) : low (g * p) (g * q) = low p q := by
  unfold low
  rw [Nat.gcd_mul_left, Nat.mul_div_mul_left _ _ hg, Nat.mul_div_mul_left _ _ hg]
/-- the sums, all over the power b ^ c c! -/
def erl (a b : Nat) : Nat → Nat
  | 0 => 1
  | k + 1 => b * (k + 1) * erl a b k + a ^ (k + 1)
theorem erl_pos {a b : Nat} (hb : 0 < b) : ∀ k, 0 < erl a b k
  | 0 => by simp [erl]
  | k + 1 => by
    have h := erl_pos (a := a) hb k
    have h2 : 0 < b * (k + 1) * erl a b k := Nat.mul_pos (Nat.mul_pos hb (Nat.succ_pos k)) h
    unfold erl
    omega
theorem pow_le_erl {a b : Nat} : ∀ k, a ^ k ≤ erl a b k
  | 0 => by simp [erl]
  | k + 1 => by unfold erl; omega
theorem erl_lt {a b : Nat} (ha : a ≤ 120) (hb : b ≤ 9) : ∀ k, k ≤ 30 → a ^ k ≤ 2 ^ (7 * k) ∧ erl a b k ≤ 2 ^ (10 * k)
  | 0, _ => ⟨by simp, by simp [erl]⟩
  | k + 1, h => by
    obtain ⟨h1, h2⟩ := erl_lt ha hb k (by omega)
    have e1 : a ^ (k + 1) ≤ 2 ^ (7 * (k + 1)) := by
      rw [Nat.pow_succ, show 7 * (k + 1) = 7 * k + 7 by omega, Nat.pow_add]
      exact Nat.mul_le_mul h1 (by omega)
    refine ⟨e1, ?_⟩
    have e2 : b * (k + 1) ≤ 2 ^ 9 := Nat.le_trans (Nat.mul_le_mul hb (show k + 1 ≤ 30 by omega)) (by decide)
    have e3 : b * (k + 1) * erl a b k ≤ 2 ^ 9 * 2 ^ (10 * k) := Nat.mul_le_mul e2 h2
    have e4 : 2 ^ (7 * (k + 1)) ≤ 2 ^ 9 * 2 ^ (10 * k) := by
      rw [← Nat.pow_add]
      exact Nat.pow_le_pow_right (by decide) (by omega)
    have e5 : 2 ^ (10 * (k + 1)) = 2 * (2 ^ 9 * 2 ^ (10 * k)) := by
      rw [← Nat.pow_add, ← Nat.pow_succ']
      congr 1
      omega
    unfold erl
    omega
def blk (a b : Nat) : Nat → Nat × Nat
  | 0 => (1, 1)
  | k + 1 => low (a * (blk a b k).1) (b * (k + 1) * (blk a b k).2 + a * (blk a b k).1)
theorem blk_eq {a b : Nat} (hb : 0 < b) : ∀ k, blk a b k = low (a ^ k) (erl a b k)
  | 0 => by simp [blk, low, erl]
  | k + 1 => by
    have ih := blk_eq (a := a) hb k
    have hg : 0 < Nat.gcd (a ^ k) (erl a b k) := Nat.gcd_pos_of_pos_right _ (erl_pos hb k)
    have d1 : Nat.gcd (a ^ k) (erl a b k) * (a ^ k / Nat.gcd (a ^ k) (erl a b k)) = a ^ k := Nat.mul_div_cancel' (Nat.gcd_dvd_left _ _)
    have d2 : Nat.gcd (a ^ k) (erl a b k) * (erl a b k / Nat.gcd (a ^ k) (erl a b k)) = erl a b k := Nat.mul_div_cancel' (Nat.gcd_dvd_right _ _)
    unfold blk
    rw [ih]
    unfold low at *
    generalize hG : Nat.gcd (a ^ k) (erl a b k) = g at *
    generalize hx : a ^ k / g = x at *
    generalize hy : erl a b k / g = y at *
    have z := low_mul (g := g) (p := a * x) (q := b * (k + 1) * y + a * x) hg
    unfold low at z
    rw [← z]
    have e1 : g * (a * x) = a ^ (k + 1) := by rw [Nat.pow_succ, ← d1]; simp only [Nat.mul_comm, Nat.mul_left_comm, Nat.mul_assoc]
    have e2 : g * (b * (k + 1) * y + a * x) = erl a b (k + 1) := by
      unfold erl
      rw [Nat.mul_add, e1, ← d2]
      simp only [Nat.mul_comm, Nat.mul_left_comm, Nat.mul_assoc]
    rw [e1, e2]
theorem low_snd_pos {p q : Nat} (hq : 0 < q) : 0 < (low p q).2 := Nat.div_pos (Nat.gcd_le_right _ hq) (Nat.gcd_pos_of_pos_right _ hq)
theorem low_le {p q n : Nat} (hp : p ≤ n) (hq : q ≤ n) : (low p q).1 ≤ n ∧ (low p q).2 ≤ n := ⟨Nat.le_trans (Nat.div_le_self _ _) hp, Nat.le_trans (Nat.div_le_self _ _) hq⟩
theorem low_mono {p q : Nat} (h : p ≤ q) : (low p q).1 ≤ (low p q).2 := Nat.div_le_div_right h
/-! the law's own list of terms -/
theorem terms_step {ts : List Int} {b k : Int} (x : Int) : ((ts.map fun t => t * b * k) ++ [x]).sum = ts.sum * b * k + x := by
  rw [List.sum_append, List.sum_cons, List.sum_nil, Int.add_zero]
  congr 1
  induction ts with
  | nil => simp
  | cons t r ih => rw [List.map_cons, List.sum_cons, List.sum_cons, ih, Int.add_mul, Int.add_mul]
theorem log2_lt_of' {x n : Nat} (h : x ≤ 2 ^ n) : x.log2 < n + 1 := by
  by_cases hx : x = 0
  · subst hx
    simp
  · exact (Nat.log2_lt hx).mpr (Nat.lt_of_le_of_lt h (Nat.pow_lt_pow_right (by decide) (by omega)))

section
variable {P : Program} {w : World} {K : PySem.W.Frag} {mg : Str → Option Value} {base : Heap}
/-! ### lowest, channels_for -/
theorem erl_le {b : Nat} (hb : b ≤ 2) : ∀ k, k ≤ 400 → erl 1 b k ≤ 2 ^ (10 * k)
  | 0, _ => by simp [erl]
  | k + 1, h => by
    have h2 := erl_le hb k (by omega)
    have e2 : b * (k + 1) ≤ 2 ^ 9 + 2 ^ 9 - 1 := Nat.le_trans (Nat.mul_le_mul hb (show k + 1 ≤ 400 by omega)) (by decide)
    have e3 : b * (k + 1) * erl 1 b k ≤ (2 ^ 9 + 2 ^ 9 - 1) * 2 ^ (10 * k) := Nat.mul_le_mul e2 h2
    have e5 : 2 ^ (10 * (k + 1)) = 1024 * 2 ^ (10 * k) := by
      rw [show 10 * (k + 1) = 10 + 10 * k by omega, Nat.pow_add]
    have e6 : 1 ≤ 2 ^ (10 * k) := Nat.one_le_two_pow
    unfold erl
    rw [Nat.one_pow, e5]
    omega
def pairD (x : Nat × Nat) : D := .tup [.int (x.1 : Nat), .int (x.2 : Nat)]
def RLow : List D → D → Prop := fun ds r => ∃ p q : Nat, ds = [.int p, .int q] ∧ 0 < q ∧ q ≤ 2 ^ 5000 ∧ r = pairD (low p q)
theorem sc_lowest : FnScope ["p", "q", "common"] ["p", "q"] (defScope s_lowest) := ⟨rfl, rfl, rfl, by decide +kernel, rfl, by decide +kernel, by decide +kernel⟩
theorem ok_lowest (B : Bi mg) (C : Cs mg) {f : Addr} {fd : FuncData} (F : Fun K "lowest" "lowest" s_lowest f fd) : FnOk P w K mg base CX0 1 f fd ["p", "q"] (SpD K 2 RLow) := by
  have S := sc_lowest
  refine fn_ok F S rfl 1 rfl fun cdv A outer s H E hr => ⟨_, ((pss_cons (ps_set (i := 2) S.nd rfl (by first | exact Or.inl rfl | exact Or.inr rfl) (pe_callBfun cr_gcd (by rfl) C.gcd (pa_cons (pv 0) (pa_cons (pv 1) pa_nil))))
 (pss_one (ps_ret (pe_tup (pa_cons (pe_op op_fdivW (pv 0) (pv 2)) (pa_cons (pe_op op_fdivW (pv 1) (pv 2)) pa_nil))))))), fun φ ds d H D0 σ hl hR hrt hnx A => ?_⟩
  obtain ⟨p, q', rfl, hq, hb, rfl⟩ := hR
  replace A : At K φ (Same H) [some (.int p), some (.int q'), none] σ H := A
  have hg : 0 < Nat.gcd p q' := Nat.gcd_pos_of_pos_right _ hq
  have hc : ∀ i : Int, CDivW i ((Nat.gcd p q' : Nat) : Int) := fun i => ⟨by omega, by
    rw [Int.natAbs_natCast]
    exact Nat.lt_of_lt_of_le (log2_lt_of' (n := 5000) (Nat.le_trans (Nat.gcd_le_right _ hq) hb)) (by decide)⟩
  refine q (st_set A ((ev_gcd (ev_var rfl) (ev_var rfl)).is (d' := .int ((Nat.gcd p q' : Nat) : Int)) rfl) fun σ1 H1 A1 => ?_)
  refine st_ret A1 (ev_tup (ea_cons (ev_fdivW (ev_var rfl) (ev_var rfl) (hc _)) (ea_cons (ev_fdivW (ev_var rfl) (ev_var rfl) (hc _)) ea_nil))) fun v d' H6 e A6 r => hrt v H6 A6.j (by subst e; exact r)
/-- what is asked, and that the numbers stay small -/
structure ChOk (a b p q N : Nat) : Prop where
  a1 : a ≤ 120
  b0 : 0 < b
  b1 : b ≤ 9
  p1 : p ≤ 1000
  q1 : q ≤ 1000
  bd : ∀ i, i ≤ N → (blk a b i).1 ≤ 2 ^ 4000 ∧ (blk a b i).2 ≤ 2 ^ 4000 ∧ 0 < (blk a b i).2
theorem bd_of {a b k : Nat} (hb : 0 < b) (h1 : a ^ k ≤ 2 ^ 4000) (h2 : erl a b k ≤ 2 ^ 4000) : (blk a b k).1 ≤ 2 ^ 4000 ∧ (blk a b k).2 ≤ 2 ^ 4000 ∧ 0 < (blk a b k).2 := by
  rw [blk_eq hb]
  exact ⟨(low_le h1 h2).1, (low_le h1 h2).2, low_snd_pos (erl_pos hb k)⟩
theorem chok_small {a b p q : Nat} (ha : a ≤ 120) (hb : 0 < b) (hb9 : b ≤ 9) (hp : p ≤ 1000) (hq : q ≤ 1000) : ChOk a b p q 30 := ⟨ha, hb, hb9, hp, hq, fun i hi => by
  obtain ⟨h1, h2⟩ := erl_lt ha hb9 i hi
  exact bd_of hb (Nat.le_trans h1 (Nat.pow_le_pow_right (by decide) (by omega))) (Nat.le_trans h2 (Nat.pow_le_pow_right (by decide) (by omega)))⟩
theorem chok_one {b p q : Nat} (hb : 0 < b) (hb2 : b ≤ 2) (hp : p ≤ 1000) (hq : q ≤ 1000) : ChOk 1 b p q 400 := ⟨by decide, hb, by omega, hp, hq, fun i hi => by
  have h2 := erl_le hb2 i hi
  exact bd_of hb (by rw [Nat.one_pow]; exact Nat.one_le_two_pow) (Nat.le_trans h2 (Nat.pow_le_pow_right (by decide) (by omega)))⟩
theorem blk_one_pos {b : Nat} (hb : 0 < b) (k : Nat) : 0 < (blk 1 b k).1 := by
  rw [blk_eq hb, Nat.one_pow]
  show 0 < 1 / Nat.gcd 1 _
  rw [Nat.gcd_one_left]
  decide
/-- channel n is the first at which the share is small enough, or there is none -/
def RCh (c : Addr) : List D → D ⊕ Addr → Prop := fun ds o => ∃ a b p q N : Nat, ds = [.int a, .int b, .int p, .int q] ∧ ChOk a b p q N ∧
  ((∃ n, n ≤ N ∧ N ≤ 30 ∧ (∀ i, i < n → p * (blk a b i).2 < (blk a b i).1 * q) ∧ (blk a b n).1 * q ≤ p * (blk a b n).2 ∧ o = .inl (.int (n : Nat))) ∨ (N = 400 ∧ (∀ i, i ≤ 400 → p * (blk a b i).2 < (blk a b i).1 * q) ∧ o = .inr c))
theorem sc_channels_for : FnScope ["a", "b", "p", "q", "share", "channel", "above"] ["a", "b", "p", "q"] (defScope s_channels_for) := ⟨rfl, rfl, rfl, by decide +kernel, rfl, by decide +kernel, by decide +kernel⟩
theorem ok_channels_for (B : Bi mg) (C : Cs mg) {c : Addr} (X_NoNumber : ExC K mg "NoNumber" c) {f g : Addr} {fd gd : FuncData} (F : Fun K "channels_for" "channels_for" s_channels_for f fd) (L_lowest : Lk K mg "lowest" g gd ["p", "q"]) (G_lowest : FnOk P w K mg base CX0 1 g gd ["p", "q"] (SpD K 2 RLow)) :
    FnOk P w K mg base (L2.CX P w) 2 f fd ["a", "b", "p", "q"] (SpX K 4 (RCh c)) := by
  have S := sc_channels_for
  refine fn_okX F S rfl 3 rfl fun cdv A outer s H E hr => ⟨_, ((pss_cons (ps_set (i := 4) S.nd rfl (by first | exact Or.inl rfl | exact Or.inr rfl) (pe_tup (pa_cons pe_int (pa_cons pe_int pa_nil))))
 (pss_cons (ps_set (i := 5) S.nd rfl (by first | exact Or.inl rfl | exact Or.inr rfl) pe_int)
 (pss_cons (ps_while (passes_of rfl) (pt_cmpR op_gt (pe_op op_mul (pe_ix ix_tup (pv 4) pe_int (fun _ _ => rfl)) (pv 3)) (pe_op op_mul (pv 2) (pe_ix ix_tup (pv 4) pe_int (fun _ _ => rfl))) (nomark _))
 (pss_cons (ps_aug (i := 5) S.nd rfl (by first | exact Or.inl rfl | exact Or.inr rfl) pe_int ip_add)
 (pss_cons (ps_if (pt_cmpR op_gt (pv 5) (pe_cst C.MOST_CHANNELS) (nomark _))
 (pss_one (ps_raise rfl (takes_of rfl rfl rfl rfl) (pmk_own PySem.F.excBase_ValueError X_NoNumber.e X_NoNumber.m X_NoNumber.k (raises_own X_NoNumber.s X_NoNumber.t) (by rfl))))
 pss_nil)
 (pss_cons (ps_set (i := 6) S.nd rfl (by first | exact Or.inl rfl | exact Or.inr rfl) (pe_op op_mul (pv 0) (pe_ix ix_tup (pv 4) pe_int (fun _ _ => rfl))))
 (pss_one (ps_set (i := 4) S.nd rfl (by first | exact Or.inl rfl | exact Or.inr rfl) (pe_call G_lowest (hr.mono (by first | exact Nat.le_refl _ | decide | omega)) (by rfl) L_lowest.m L_lowest.kp L_lowest.bi .nil pass0 (pa_cons (pv 6) (pa_cons (pe_op op_add (pe_op op_mul (pe_op op_mul (pv 1) (pv 5)) (pe_ix ix_tup (pv 4) pe_int (fun _ _ => rfl))) (pv 6)) pa_nil)))))))))
 (pss_one (ps_ret (pv 5))))))), fun φ ds o H D0 σ hl hR hrt hex A => ?_⟩
  obtain ⟨a, b, p, q', N, rfl, ok, hcase⟩ := hR
  replace A : At K φ (Same H) [some (.int a), some (.int b), some (.int p), some (.int q'), none, none, none] σ H := A
  have hN : N ≤ 400 := by rcases hcase with ⟨n, h1, h2, _⟩ | ⟨h, _⟩ <;> omega
  have a1 := ok.a1
  have b1 := ok.b1
  have p1 := ok.p1
  have q1 := ok.q1
  refine q (st_set A (ev_tup (ea_cons ev_int (ea_cons ev_int ea_nil))) fun σ1 H1 A1 => q (st_set A1 ev_int fun σ2 H2 A2 => q ?_))
  refine st_while A2 (fun m ρ' J' => ∃ i : Nat, m = N - i ∧ i ≤ N ∧ (∀ n, (∀ i, i < n → p * (blk a b i).2 < (blk a b i).1 * q') → (blk a b n).1 * q' ≤ p * (blk a b n).2 → i ≤ n) ∧ (∃ o6, ρ' = [some (.int a), some (.int b), some (.int p), some (.int q'), some (pairD (blk a b i)), some (.int (i : Nat)), o6]) ∧ J' = Same H) N ⟨0, rfl, Nat.zero_le _, fun n _ _ => Nat.zero_le _, ⟨none, rfl⟩, rfl⟩ ?_
  rintro m ρ' J' ⟨i, rfl, hi, hle, ⟨o6, rfl⟩, rfl⟩
  obtain ⟨c1, c2, c3⟩ := ok.bd i hi
  have e1 : ((blk a b i).1 : Int) * (q' : Int) = (((blk a b i).1 * q' : Nat) : Int) := by rw [Int.natCast_mul]
  have e2 : (p : Int) * ((blk a b i).2 : Int) = ((p * (blk a b i).2 : Nat) : Int) := by rw [Int.natCast_mul]
  refine ⟨fun x => x = decide (p * (blk a b i).2 < (blk a b i).1 * q'), ?_, fun hb σ' H' A' Nx hNx => ?_, fun hb σ' H' A' => ?_⟩
  · refine (et_test (ev_gt (ev_mul (ev_ixT (ds := [.int (blk a b i).1, .int (blk a b i).2]) (ev_var rfl) ev_int rfl) (ev_var rfl) (.inr (by omega))) (ev_mul (ev_var rfl) (ev_ixT (ds := [.int (blk a b i).1, .int (blk a b i).2]) (ev_var rfl) ev_int rfl) (.inl (by omega))))).imp fun b' e => e.trans ?_
    rw [e1, e2, Bool.eq_iff_iff, decide_eq_true_eq, decide_eq_true_eq]
    omega
  · have hgo : p * (blk a b i).2 < (blk a b i).1 * q' := of_decide_eq_true hb.symm
    refine q (st_aug (f := fun a b => a + b) A' rfl ev_int fun σ3 H3 A3 => ?_)
    replace A3 : At K φ (fun H1 => Same H H1 ∧ But φ H2 H1) [some (.int a), some (.int b), some (.int p), some (.int q'), some (pairD (blk a b i)), some (.int ((i : Int) + 1)), o6] σ3 H3 := A3
    dsimp only
    refine q (st_if A3 (et_test (ev_gt (ev_var rfl) ev_int)) (fun hb4 H4 A4 => ?_) (fun hb4 H4 A4 => st_next ?_))
    · have h4 : (400 : Int) < (i : Int) + 1 := of_decide_eq_true hb4.symm
      rcases hcase with ⟨n, h1, h2, h3, h5, h6⟩ | ⟨h1, h2, rfl⟩
      · omega
      · exact hex c rfl H4 A4.j.1
    · have h4 : ¬ (400 : Int) < (i : Int) + 1 := of_decide_eq_false hb4.symm
      have hi1 : i + 1 ≤ N := by
        rcases hcase with ⟨n, h1, h2, h3, h5, h6⟩ | ⟨h1, h2, rfl⟩
        · have h7 := hle n h3 h5
          by_cases e : i = n
          · subst e; omega
          · omega
        · omega
      dsimp only
      refine q (st_set A4 (ev_mul (ev_var rfl) (ev_ixT (ds := [.int (blk a b i).1, .int (blk a b i).2]) (ev_var rfl) ev_int rfl) (.inl (by omega))) fun σ6 H6 A6 => ?_)
      have e3 : (a : Int) * ((blk a b i).1 : Nat) = ((a * (blk a b i).1 : Nat) : Int) := by rw [Int.natCast_mul]
      have e4 : (b : Int) * ((i : Int) + 1) * ((blk a b i).2 : Nat) + (a : Int) * ((blk a b i).1 : Nat) = ((b * (i + 1) * (blk a b i).2 + a * (blk a b i).1 : Nat) : Int) := by
        rw [Int.natCast_add, Int.natCast_mul, Int.natCast_mul, Int.natCast_mul, Int.natCast_add]
        rfl
      have hbi : b * (i + 1) ≤ 9 * 400 := Nat.mul_le_mul b1 (by omega)
      have hbi0 : 0 < b * (i + 1) := Nat.mul_pos ok.b0 (Nat.succ_pos i)
      have hmul : CMul ((b : Int) * ((i : Int) + 1)) ((blk a b i).2 : Nat) := .inl (by
        have e : (b : Int) * ((i : Int) + 1) = ((b * (i + 1) : Nat) : Int) := by rw [Int.natCast_mul, Int.natCast_add]; rfl
        rw [e]
        omega)
      have hpos : 0 < b * (i + 1) * (blk a b i).2 + a * (blk a b i).1 := by
        have : 0 < b * (i + 1) * (blk a b i).2 := Nat.mul_pos hbi0 c3
        omega
      have hlem : b * (i + 1) * (blk a b i).2 + a * (blk a b i).1 ≤ 2 ^ 5000 := by
        have h1 : b * (i + 1) * (blk a b i).2 ≤ (9 * 400) * 2 ^ 4000 := Nat.mul_le_mul hbi c2
        have h2 : a * (blk a b i).1 ≤ 120 * 2 ^ 4000 := Nat.mul_le_mul a1 c1
        have h3 : (9 * 400) * 2 ^ 4000 + 120 * 2 ^ 4000 ≤ 2 ^ 5000 := by decide +kernel
        exact Nat.le_trans (Nat.add_le_add h1 h2) h3
      dsimp only
      refine st_set (d := pairD (blk a b (i + 1))) A6 (ev_callD (ea_cons (ev_var rfl) (ea_cons (ev_add (ev_mul (ev_mul (ev_var rfl) (ev_var rfl) (.inl (by omega))) (ev_ixT (ds := [.int (blk a b i).1, .int (blk a b i).2]) (ev_var rfl) ev_int rfl) hmul) (ev_var rfl)) ea_nil)) ⟨a * (blk a b i).1, b * (i + 1) * (blk a b i).2 + a * (blk a b i).1, by rw [← e4, ← e3], hpos, hlem, rfl⟩) fun σ7 H7 A7 => ?_
      refine hNx (N - (i + 1)) _ _ (by omega) (NX.go A7 ⟨i + 1, rfl, hi1, fun n h5 h6 => ?_, ⟨_, rfl⟩, rfl⟩)
      have h7 := hle n h5 h6
      by_cases e : i = n
      · subst e; omega
      · omega
  · have hst : ¬ p * (blk a b i).2 < (blk a b i).1 * q' := of_decide_eq_false hb.symm
    rcases hcase with ⟨n, h1, h2, h3, h5, h6⟩ | ⟨h1, h2, _⟩
    · have h7 := hle n h3 h5
      have e : i = n := by
        by_cases e : i = n
        · exact e
        · exact absurd (h3 i (by omega)) hst
      subst e
      refine st_ret A' (ev_var rfl) fun v d' H6 e A6 r => hrt _ h6 v H6 A6.j.1 ?_
      subst e
      exact r
    · exact absurd (h2 i (by omega)) hst
end

/-! ### solved -/
def PSolved : List D → Prop := fun ds => ∃ (n c : Int) (ls : List Row), ds = [sepD n ls, .int c] ∧ SepG n ls ∧ 0 ≤ c ∧ c ≤ 100
/-- a plan as a list -/
def PlanL (n : Int) (ls : List Row) (c : Int) (ws : List Int) : Prop := (ws.length : Int) = n ∧ Keeps n ls c (fun i => ws.getD i.toNat 0)
def RSolved : List D → D → Prop := fun ds d => ∀ (n c : Int) (ls : List Row), ds = [sepD n ls, .int c] → (∃ ws : List Int, d = .tup [.str "assignment", .tup (ws.map D.int)] ∧ PlanL n ls c ws) ∨ ∃ t, d = .tup [.str "refusal", t] ∧ Rt n ls c (fun _ => none) t
theorem rsv_of {n c : Int} {ls : List Row} {d : D} (h : (∃ ws : List Int, d = .tup [.str "assignment", .tup (ws.map D.int)] ∧ PlanL n ls c ws) ∨ ∃ t, d = .tup [.str "refusal", t] ∧ Rt n ls c (fun _ => none) t) : RSolved [sepD n ls, .int c] d := fun n' c' ls' e => by
  obtain ⟨e1, e⟩ := List.cons.inj e
  obtain ⟨e2, _⟩ := List.cons.inj e
  obtain ⟨rfl, rfl⟩ := sep_inj e1
  injection e2 with e2
  subst e2
  exact h
theorem Keeps.eq {n : Int} {ls : List Row} {c : Int} {w w' : Int → Int} (k : Keeps n ls c w) (h : ∀ i, 0 ≤ i → i < n → w' i = w i) : Keeps n ls c w' := ⟨fun i h1 h2 => by rw [h i h1 h2]; exact k.rg i h1 h2, fun i j h1 h2 h3 h4 ne => by rw [h i h1 h2, h j h3 h4]; exact k.kp i j h1 h2 h3 h4 ne⟩
section
variable {P : Program} {w : World} {K : PySem.W.Frag} {mg : Str → Option Value} {base : Heap}
theorem sc_solved : FnScope ["separations", "channels", "done", "found", "i"] ["separations", "channels"] (defScope s_solved) := ⟨rfl, rfl, rfl, by decide +kernel, rfl, by decide +kernel, by decide +kernel⟩
theorem ok_solved (B : Bi mg) {C0 f g : Addr} {fd gd : FuncData} (F : Fun K "solved" "solved" s_solved f fd) (L_search : Lk K mg "search" g gd ["separations", "channels", "given"])
    (G_search : FnOk P w K mg base CX0 (6 * 25 + 9) g gd ["separations", "channels", "given"] (SpS K C0 q0 posS 3 (PSearch 25) RSearch)) : FnOk P w K mg base CX0 160 f fd ["separations", "channels"] (SpS K C0 q0 posS 2 PSolved RSolved) := by
  have S := sc_solved
  refine fn_okS0 (k := 159) F S rfl 3 rfl fun cdv A outer s H E hr => ⟨_, ((pss_cons (ps_asg (pe_call G_search (hr.mono (by first | exact Nat.le_refl _ | decide | omega)) (by rfl) L_search.m L_search.kp L_search.bi .nil pass0 (pa_cons (pv 0) (pa_cons (pv 1) (pa_cons pe_dnewK pa_nil)))) (pg_tup (by rfl) (pgs_cons (pg_name (i := 2) S.nd rfl (by first | exact Or.inl rfl | exact Or.inr rfl)) (pgs_cons (pg_name (i := 3) S.nd rfl (by first | exact Or.inl rfl | exact Or.inr rfl)) pgs_nil))))
 (pss_cons (ps_if (pt_val (pv 2))
 (pss_one (ps_ret (pe_tup (pa_cons pe_str (pa_cons (pe_callTy c_tupOf (by rfl) B.tuple (by decide +kernel) (pa_cons (pe_lc (own := [("i", 4)]) (g := (gName 4)) (tt := tYes) (by rfl) S.nd (pi_range1 (by rfl) B.range (pa_cons (pe_ix ix_tup (pv 0) pe_int (fun _ _ => rfl)) pa_nil)) (blkOk_by (N := ["separations", "channels", "done", "found", "i"]) (sc := defScope s_solved) (own := [("i", 4)]) (by decide +kernel)) (fun _ _ _ _ _ => (pg_name (i := 4) S.nd rfl (by first | exact Or.inl rfl | exact Or.inr rfl))) (fun _ _ _ _ _ => pts_nil) (fun _ _ _ _ _ => (pe_dget hr.units1 (pv 3) (pv 4) (fun _ _ => rfl)))) pa_nil)) pa_nil)))))
 pss_nil)
 (pss_one (ps_ret (pe_tup (pa_cons pe_str (pa_cons (pv 3) pa_nil)))))))), fun φ ds H tb D0 σ hl hP np tj hrt A => ?_⟩
  obtain ⟨n, c, ls, rfl, SG, c0, c1⟩ := hP
  replace A : At K φ (Same H) [some (sepD n ls), some (.int c), none, none, none] σ H := A
  have n0 := SG.n0
  have n1 := SG.n1
  have hPs : PSearch 25 [sepD n ls, .int c, gD []] := ⟨n, c, ls, [], rfl, SG, c0, c1, ⟨Nat.zero_le _, (fun i a e => nomatch e), (fun i j a b e => nomatch e)⟩, by decide, by
    refine Nat.le_trans (List.length_filter_le _ _) ?_
    rw [List.length_map, List.length_range]
    have h24 : n.toNat ≤ 24 := by omega
    exact h24⟩
  have hd0 : EvD K φ (Same H) tDNewK [some (sepD n ls), some (.int c), none, none, none] (gD []) := ev_newDk (kds := []) en_dnewK
  refine q (st_callS (us := [2, 3]) (ρ2 := fun d => match d with | .tup [a, b] => [some (sepD n ls), some (.int c), some a, some b, none] | _ => []) A np tj (ea_cons (ev_var rfl) (ea_cons (ev_var rfl) (ea_cons hd0 ea_nil))) hPs (fun d hd => ?_) fun d ps' σ1 H1 hd A1 => ?_)
  · rcases hd n c ls _ rfl with ⟨g', rfl, _⟩ | ⟨t, rfl, _⟩
    · exact eg_tup (ds := [.bl true, gD g']) (egs_cons eg_name (egs_cons eg_name egs_nil))
    · exact eg_tup (ds := [.bl false, t]) (egs_cons eg_name (egs_cons eg_name egs_nil))
  dsimp only
  rcases hd n c ls _ rfl with ⟨g', rfl, Gk, hn⟩ | ⟨t, rfl, ht⟩
  · replace A1 : At K φ (JF C0 q0 posS H ps') [some (sepD n ls), some (.int c), some (.bl true), some (gD g'), none] σ1 H1 := A1
    refine q (st_yes A1 (et_B (ev_var rfl)) rfl fun H2 A2 => ?_)
    let ws : List Int := (List.range n.toNat).map fun k : Nat => (val g' (k : Int)).getD 0
    have hws : (ws.length : Int) = n := by rw [show ws.length = n.toNat by rw [List.length_map, List.length_range]]; omega
    have kp := Gk.keeps hn
    have hget : ∀ i, 0 ≤ i → i < n → ws.getD i.toNat 0 = (val g' i).getD 0 := fun i h1 h2 => by
      rw [List.getD_eq_getElem?_getD, List.getElem?_map, List.getElem?_range (by omega)]
      show (val g' (i.toNat : Int)).getD 0 = _
      rw [Int.toNat_of_nonneg h1]
    refine st_ret A2 (ev_tup (ea_cons ev_str (ea_cons (x := .tup (ws.map D.int)) ((ev_tupL (ev_lc (f := fun d => match d with | .int i => .int ((val g' i).getD 0) | _ => .non) (it_range1 (ea_cons (ev_sep0 (ev_var rfl)) ea_nil) (by omega)) (by rw [rangeD_length]; omega) (fun d hd φ' J' hx => ?_))).is ?_) ea_nil))) fun v d H6 e A6 rr => hrt v d ps' H6 (rsv_of (.inl ⟨ws, e, hws, kp.eq hget⟩)) A6.j rr
    · rw [rangeD_ints] at hd
      obtain ⟨i, hi, rfl⟩ := List.mem_map.mp hd
      obtain ⟨k, hk, rfl⟩ := List.mem_map.mp hi
      rw [List.mem_range] at hk
      refine ev_dget (k := (.inl (Int.ofNat k) : Key)) (ed_frozen (kds := kdsG g') (ev_var rfl)) (ev_var rfl) ?_
      rw [valD_kds]
      cases e : val g' (Int.ofNat k) with
      | none =>
        have z := rest_iff.mpr ⟨(by show (0 : Int) ≤ (k : Int); omega), (by show (k : Int) < n; omega), e⟩
        rw [hn] at z
        cases z
      | some a =>
        show some (D.int a) = some (D.int ((val g' (Int.ofNat k)).getD 0))
        rw [e]
        rfl
    · rw [rangeD_ints, List.map_map, List.map_map, List.map_map]
      rfl
  · replace A1 : At K φ (JF C0 q0 posS H ps') [some (sepD n ls), some (.int c), some (.bl false), some t, none] σ1 H1 := A1
    refine q (st_no A1 (et_B (ev_var rfl)) rfl fun H2 A2 => st_next ?_)
    exact st_ret A2 (ev_tup (ea_cons ev_str (ea_cons (ev_var rfl) ea_nil))) fun v d H6 e A6 rr => hrt v d ps' H6 (rsv_of (.inr ⟨t, e, ht⟩)) A6.j rr
end

section
variable {P : Program} {w : World} {K : PySem.W.Frag} {mg : Str → Option Value} {base : Heap}
def RIsRow : List D → D → Prop := fun ds d => ∃ (r : Row) (n : Int), ds = [rowD r, .int n] ∧ d = .bl (rowOk n r)
theorem sc_is_row : FnScope ["value", "count", "one", "i", "j", "least"] ["value", "count"] (defScope s_is_row) := ⟨rfl, rfl, rfl, by decide +kernel, rfl, by decide +kernel, by decide +kernel⟩
theorem ok_is_row (B : Bi mg) (C : Cs mg) {f g : Addr} {fd gd : FuncData} (F : Fun K "is_row" "is_row" s_is_row f fd) (L_is_integer : Lk K mg "is_integer" g gd ["value"]) (G_is_integer : FnOk P w K mg base CX0 1 g gd ["value"] (SpD K 1 RIsInt)) : FnOk P w K mg base CX0 2 f fd ["value", "count"] (SpD K 2 RIsRow) := by
  have S := sc_is_row
  refine fn_ok F S rfl 4 rfl fun cdv A outer s H E hr => ⟨_, ((pss_cons (ps_if (PW.pt (pw_or (pt_not (pt_val (pe_callB call_isi (by rfl) B.isinstance (by decide +kernel) (pa_cons (pv 0) (pa_cons (pe_ty (n := "tuple") B.tuple (by decide +kernel)) pa_nil))))) (pw_or (pt_cmpR op_ne (pe_callB c_len (by rfl) B.len (by decide +kernel) (pa_cons (pv 0) pa_nil)) pe_int (nomark _)) (pw_or1 (pt_cmpR (op_neD hr.units) (pe_lc (own := [("one", 2)]) (g := (gName 2)) (by rfl) S.nd (pi_tup (pv 0)) (blkOk_by (N := ["value", "count", "one", "i", "j", "least"]) (sc := defScope s_is_row) (own := [("one", 2)]) (by decide +kernel)) (fun _ _ _ _ _ => (pg_name (i := 2) S.nd rfl (by first | exact Or.inl rfl | exact Or.inr rfl))) (fun _ _ _ _ _ => pts_one (pt_not (pt_val (pe_call G_is_integer (hr.mono (by first | exact Nat.le_refl _ | decide | omega)) (by rfl) L_is_integer.m L_is_integer.kp L_is_integer.bi .nil pass0 (pa_cons (pv 2) pa_nil))))) (fun _ _ _ _ _ => (pv 2))) (pe_lst pa_nil) (nomark _))))))
 (pss_one (ps_ret pe_bl))
 pss_nil)
 (pss_cons (ps_asg (pv 0) (pg_tup (by rfl) (pgs_cons (pg_name (i := 3) S.nd rfl (by first | exact Or.inl rfl | exact Or.inr rfl)) (pgs_cons (pg_name (i := 4) S.nd rfl (by first | exact Or.inl rfl | exact Or.inr rfl)) (pgs_cons (pg_name (i := 5) S.nd rfl (by first | exact Or.inl rfl | exact Or.inr rfl)) pgs_nil)))))
 (pss_one (ps_ret (pe_and (pe_chain3 op_le op_lt op_lt pe_int (pv 3) (pv 4) (pv 1)) (pe_one (pe_chain op_le op_le pe_int (pv 5) (pe_cst C.MOST_LEAST))))))))), fun φ ds d H D0 σ hl hR hrt hnx A => ?_⟩
  obtain ⟨r, n, rfl, rfl⟩ := hR
  replace A : At K φ (Same H) [some (rowD r), some (.int n), none, none, none, none] σ H := A
  have hmem : ∀ d ∈ [D.int r.1, .int r.2.1, .int r.2.2], isIntD d = true ∧ isRaw d = false := fun d hd => by
    simp only [List.mem_cons, List.not_mem_nil, or_false] at hd
    rcases hd with rfl | rfl | rfl <;> exact ⟨rfl, rfl⟩
  refine q (st_no A (et_or (et_not (et_B (ev_isi (ev_var rfl) ev_ty rfl))) fun _ => et_or (et_test (ev_neI (ev_lenT (ds := [.int r.1, .int r.2.1, .int r.2.2]) (ev_var rfl)) ev_int)) fun _ => et_test (ev_neQ (ev_lcF (k := 2) (p := fun d => !isIntD d) (f := fun d => d) (it_tup (ds := [.int r.1, .int r.2.1, .int r.2.2]) (ev_var rfl)) (Nat.le_of_ble_eq_true rfl) (fun d hd φ' J' hx => et_not (et_B (ev_callD (ea_cons (ev_var rfl) ea_nil) ⟨d, rfl, (hmem d hd).2, rfl⟩))) fun d hd pd φ' J' hx => ev_var rfl) (ev_lst ea_nil) rfl rfl)) rfl fun H1 A1 => st_next ?_)
  refine q (st_asgG (ρ2 := fun _ => [some (rowD r), some (.int n), none, some (.int r.1), some (.int r.2.1), some (.int r.2.2)]) A1 (ev_var rfl) (fun d e => by
    subst e
    exact eg_tup (ds := [.int r.1, .int r.2.1, .int r.2.2]) (egs_cons (ρ1 := [some (rowD r), some (.int n), none, some (.int r.1), none, none]) eg_name (egs_cons (ρ1 := [some (rowD r), some (.int n), none, some (.int r.1), some (.int r.2.1), none]) eg_name (egs_cons (ρ1 := [some (rowD r), some (.int n), none, some (.int r.1), some (.int r.2.1), some (.int r.2.2)]) eg_name egs_nil)))) fun d σ2 H2 e A2 => ?_)
  refine st_ret A2 (ev_andV (ev_chainI3 ev_int (ev_var rfl) (ev_var rfl) (ev_var rfl)) fun _ => ev_one (ev_chainI ev_int (ev_var rfl) ev_int)) fun v d' H6 e A6 rr => hrt v H6 A6.j ?_
  subst e
  exact rr
theorem zip_asc (ls : List Row) : ((zipD (ls.map rowD) ((ls.drop 1).map rowD)).filter fun d => match d with | .tup [.tup [.int a, .int b, _], .tup [.int c, .int e, _]] => !SrtO.lexB (a, b) (c, e) | _ => false).isEmpty = ascB ls := by
  induction ls with
  | nil => rfl
  | cons a ls ih =>
    cases ls with
    | nil => rfl
    | cons b ls =>
      have e : zipD ((a :: b :: ls).map rowD) (((a :: b :: ls).drop 1).map rowD) = .tup [rowD a, rowD b] :: zipD ((b :: ls).map rowD) (((b :: ls).drop 1).map rowD) := rfl
      rw [e, List.filter_cons]
      show List.isEmpty (if (!SrtO.lexB (a.1, a.2.1) (b.1, b.2.1)) = true then _ else _) = (SrtO.lexB (a.1, a.2.1) (b.1, b.2.1) && ascB (b :: ls))
      cases h : SrtO.lexB (a.1, a.2.1) (b.1, b.2.1) with
      | false => rfl
      | true => rw [Bool.true_and]; exact ih
def RIsSeps : List D → D → Prop := fun ds d => ∃ (n : Int) (ls : List Row), ds = [sepD n ls] ∧ ls.length ≤ 1000000 ∧ d = .bl (sepsOk n ls)
theorem sc_is_separations : FnScope ["value", "count", "rows", "row", "other"] ["value"] (defScope s_is_separations) := ⟨rfl, rfl, rfl, by decide +kernel, rfl, by decide +kernel, by decide +kernel⟩
theorem cutD1 (ls : List Row) : cutD (ls.map rowD) (some 1) none = (ls.drop 1).map rowD := by
  rw [cutD_lo (by decide)]
  exact List.map_drop.symm
theorem ok_is_separations (B : Bi mg) (C : Cs mg) {f g g2 : Addr} {fd gd gd2 : FuncData} (F : Fun K "is_separations" "is_separations" s_is_separations f fd) (L_is_integer : Lk K mg "is_integer" g gd ["value"]) (G_is_integer : FnOk P w K mg base CX0 1 g gd ["value"] (SpD K 1 RIsInt))
    (L_is_row : Lk K mg "is_row" g2 gd2 ["value", "count"]) (G_is_row : FnOk P w K mg base CX0 2 g2 gd2 ["value", "count"] (SpD K 2 RIsRow)) : FnOk P w K mg base CX0 3 f fd ["value"] (SpD K 1 RIsSeps) := by
  have S := sc_is_separations
  refine fn_ok F S rfl 4 rfl fun cdv A outer s H E hr => ⟨_, ((pss_cons (ps_if (PW.pt (pw_or (pt_not (pt_val (pe_callB call_isi (by rfl) B.isinstance (by decide +kernel) (pa_cons (pv 0) (pa_cons (pe_ty (n := "tuple") B.tuple (by decide +kernel)) pa_nil))))) (pw_or (pt_cmpR op_ne (pe_callB c_len (by rfl) B.len (by decide +kernel) (pa_cons (pv 0) pa_nil)) pe_int (nomark _)) (pw_or1 (pt_not (pt_val (pe_call G_is_integer (hr.mono (by first | exact Nat.le_refl _ | decide | omega)) (by rfl) L_is_integer.m L_is_integer.kp L_is_integer.bi .nil pass0 (pa_cons (pe_ix ix_tup (pv 0) pe_int (fun _ _ => rfl)) pa_nil))))))))
 (pss_one (ps_ret pe_bl))
 pss_nil)
 (pss_cons (ps_asg (pv 0) (pg_tup (by rfl) (pgs_cons (pg_name (i := 1) S.nd rfl (by first | exact Or.inl rfl | exact Or.inr rfl)) (pgs_cons (pg_name (i := 2) S.nd rfl (by first | exact Or.inl rfl | exact Or.inr rfl)) pgs_nil))))
 (pss_cons (ps_if (pt_not (pt_chain op_le op_le pe_int (pv 1) (pe_cst C.MOST_USERS)))
 (pss_one (ps_ret pe_bl))
 pss_nil)
 (pss_cons (ps_if (PW.pt (pw_or (pt_not (pt_val (pe_callB call_isi (by rfl) B.isinstance (by decide +kernel) (pa_cons (pv 2) (pa_cons (pe_ty (n := "tuple") B.tuple (by decide +kernel)) pa_nil))))) (pw_or1 (pt_cmpR (op_neD hr.units) (pe_lc (own := [("row", 3)]) (g := (gName 3)) (by rfl) S.nd (pi_tup (pv 2)) (blkOk_by (N := ["value", "count", "rows", "row", "other"]) (sc := defScope s_is_separations) (own := [("row", 3)]) (by decide +kernel)) (fun _ _ _ _ _ => (pg_name (i := 3) S.nd rfl (by first | exact Or.inl rfl | exact Or.inr rfl))) (fun _ _ _ _ _ => pts_one (pt_not (pt_val (pe_call G_is_row (hr.mono (by first | exact Nat.le_refl _ | decide | omega)) (by rfl) L_is_row.m L_is_row.kp L_is_row.bi .nil pass0 (pa_cons (pv 3) (pa_cons (pv 1) pa_nil)))))) (fun _ _ _ _ _ => (pv 3))) (pe_lst pa_nil) (nomark _)))))
 (pss_one (ps_ret pe_bl))
 pss_nil)
 (pss_one (ps_ret (pe_cmpR (op_eqD hr.units) (pe_lc (own := [("row", 3), ("other", 4)]) (g := (gTup K 2 (gCons (gName 3) (gCons (gName 4) gNil)))) (by rfl) S.nd (RZ.pi_zipA (by rfl) B.zip (pa_cons (pv 2) (pa_cons (pe_slice sl_tupA (pv 2) (po_some pe_int) po_none) pa_nil))) (blkOk_by (N := ["value", "count", "rows", "row", "other"]) (sc := defScope s_is_separations) (own := [("row", 3), ("other", 4)]) (by decide +kernel)) (fun _ _ _ _ _ => (pg_tup (by rfl) (pgs_cons (pg_name (i := 3) S.nd rfl (by first | exact Or.inl rfl | exact Or.inr rfl)) (pgs_cons (pg_name (i := 4) S.nd rfl (by first | exact Or.inl rfl | exact Or.inr rfl)) pgs_nil)))) (fun _ _ _ _ _ => pts_one (pt_cmpR (kop_geT (K := K) (by rfl) hr.units0) (pe_slice (ksl_tupA (K := K) (by rfl)) (pv 3) po_none (po_some pe_int)) (pe_slice (ksl_tupA (K := K) (by rfl)) (pv 4) po_none (po_some pe_int)) (nomark _))) (fun _ _ _ _ _ => (pv 3))) (pe_lst pa_nil) (nomark _))))))))), fun φ ds d H D0 σ hl hR hrt hnx A => ?_⟩
  obtain ⟨n, ls, rfl, hlen, rfl⟩ := hR
  replace A : At K φ (Same H) [some (sepD n ls), none, none, none, none] σ H := A
  refine q (st_no A (et_or (et_not (et_B (ev_isi (ev_var rfl) ev_ty rfl))) fun _ => et_or (et_test (ev_neI (ev_lenT (ds := [.int n, rowsD ls]) (ev_var rfl)) ev_int)) fun _ => et_not (et_B (ev_callD (ea_cons (ev_sep0 (ev_var rfl)) ea_nil) ⟨.int n, rfl, rfl, rfl⟩))) rfl fun H1 A1 => st_next ?_)
  refine q (st_asgG (ρ2 := fun _ => [some (sepD n ls), some (.int n), some (rowsD ls), none, none]) A1 (ev_var rfl) (fun d e => by
    subst e
    exact eg_tup (ds := [.int n, rowsD ls]) (egs_cons (ρ1 := [some (sepD n ls), some (.int n), none, none, none]) eg_name (egs_cons (ρ1 := [some (sepD n ls), some (.int n), some (rowsD ls), none, none]) eg_name egs_nil))) fun d σ2 H2 e A2 => q ?_)
  have ret : ∀ {σ : L2.St} {H' : Hp} {ρ : List (Option D)} {b : Bool} {D0 : Ends}, At K φ (Same H) ρ σ H' → sepsOk n ls = b → (∀ v H', Same H H' → Rep K φ H' (.bl (sepsOk n ls)) v → D0.rt v H') → tRet (tC (.bl b)) D0 σ H' := fun A e k => by
    subst e
    refine st_ret A ev_bl fun v d' H6 e A6 rr => k v H6 A6.j ?_
    subst e
    exact rr
  refine st_if A2 (et_not (et_test (ev_chainI ev_int (ev_var rfl) ev_int))) (fun hb H3 A3 => ?_) (fun hb H3 A3 => st_next (q ?_))
  · refine ret A3 ?_ hrt
    unfold sepsOk
    cases h : (decide (0 ≤ n) && decide (n ≤ 24)) with
    | false => rfl
    | true => rw [h] at hb; cases hb
  have h24 : (decide (0 ≤ n) && decide (n ≤ 24)) = true := by
    cases h : (decide (0 ≤ n) && decide (n ≤ 24)) with
    | true => rfl
    | false => rw [h] at hb; cases hb
  have fl : (ls.map rowD).filter (fun d => match d with | .tup [.int a, .int b, .int c] => !rowOk n (a, b, c) | _ => false) = (ls.filter fun r => !rowOk n r).map rowD := ls_filter_map (fun _ => rfl) ls
  refine st_if A3 (et_or (et_not (et_B (ev_isi (ev_var rfl) ev_ty rfl))) fun _ => et_test (ev_neQ ((ev_lcF (k := 3) (p := fun d => match d with | .tup [.int a, .int b, .int c] => !rowOk n (a, b, c) | _ => false) (f := fun d => d) (it_tup (ds := ls.map rowD) (ev_var rfl)) (by rw [List.length_map]; exact hlen) (fun d hd φ' J' hx => ?_) fun d hd pd φ' J' hx => ev_var rfl).is (congrArg D.lst (by rw [List.map_id', fl]))) (ev_lst ea_nil) okq_rows rfl)) (fun hb2 H4 A4 => ?_) (fun hb2 H4 A4 => st_next ?_)
  · obtain ⟨r, hr, rfl⟩ := List.mem_map.mp hd
    exact et_not (et_B (ev_callD (ea_cons (ev_var rfl) (ea_cons (ev_var rfl) ea_nil)) ⟨r, n, rfl, rfl⟩))
  · refine ret A4 ?_ hrt
    rw [eqvD_nil] at hb2
    have e : (List.map rowD (ls.filter fun r => !rowOk n r)).isEmpty = false := by
      cases h : (List.map rowD (ls.filter fun r => !rowOk n r)).isEmpty with
      | false => rfl
      | true => rw [h] at hb2; cases hb2
    rw [List.isEmpty_map, isEmpty_filter] at e
    unfold sepsOk
    rw [e, Bool.false_and, Bool.and_false]
  · rw [eqvD_nil] at hb2
    have e : (List.map rowD (ls.filter fun r => !rowOk n r)).isEmpty = true := by
      cases h : (List.map rowD (ls.filter fun r => !rowOk n r)).isEmpty with
      | true => rfl
      | false => rw [h] at hb2; cases hb2
    rw [List.isEmpty_map, isEmpty_filter] at e
    refine st_ret A4 (ev_eqQ (ev_lcT2 (k1 := 3) (k2 := 4) (p := fun d => match d with | .tup [.tup [.int a, .int b, _], .tup [.int c, .int e, _]] => !SrtO.lexB (a, b) (c, e) | _ => false) (f := fun d => match d with | .tup [a, _] => a | d => d) (it_zipT (ea_cons (ev_var rfl) (ea_cons ((ev_slT (ds := ls.map rowD) (ev_var rfl) (eo_some ev_int) eo_none).is (congrArg D.tup (cutD1 ls))) ea_nil))) ?_ ?_ ?_ ?_) (ev_lst ea_nil) ?_ rfl) fun v d' H6 e2 A6 rr => hrt v H6 A6.j ?_
    · unfold zipD
      rw [List.length_zipWith, List.length_map]
      omega
    · intro d hd
      obtain ⟨i, hi⟩ := List.mem_iff_getElem?.mp hd
      obtain ⟨d1, d2, _, _, e⟩ := zipD_getD hi
      exact ⟨d1, d2, e⟩
    · intro a b hd φ' J' hx
      obtain ⟨i, hi⟩ := List.mem_iff_getElem?.mp hd
      obtain ⟨d1, d2, e1, e2, e3⟩ := zipD_getD hi
      rw [List.getElem?_map] at e1 e2
      obtain ⟨r1, _, rfl⟩ := Option.map_eq_some_iff.mp e1
      obtain ⟨r2, _, rfl⟩ := Option.map_eq_some_iff.mp e2
      injection e3 with e3
      have z1 := (List.cons.inj e3).1
      have z2 := (List.cons.inj (List.cons.inj e3).2).1
      subst z1 z2
      exact et_test (ev_geP2 (ev_rowP (ev_var rfl)) (ev_rowP (ev_var rfl)))
    · intro a b hd pd φ' J' hx
      exact ev_var rfl
    · refine List.all_eq_true.mpr fun x hx => ?_
      obtain ⟨y, hy, rfl⟩ := List.mem_map.mp hx
      obtain ⟨i, hi⟩ := List.mem_iff_getElem?.mp (List.mem_filter.mp hy).1
      obtain ⟨d1, d2, e1, _, rfl⟩ := zipD_getD hi
      rw [List.getElem?_map] at e1
      obtain ⟨r1, _, rfl⟩ := Option.map_eq_some_iff.mp e1
      rfl
    · subst e2
      rw [eqvD_nil, List.isEmpty_map, zip_asc] at rr
      unfold sepsOk
      rw [h24, e, Bool.true_and, Bool.true_and]
      exact rr
end

/-! ### made_separations, of rows in order -/
structure Good (n : Int) (ls : List Row) : Prop where
  n0 : 0 ≤ n
  n1 : n ≤ 24
  rows : ∀ r ∈ ls, 0 ≤ r.1 ∧ r.1 < r.2.1 ∧ r.2.1 < n ∧ 0 ≤ r.2.2 ∧ r.2.2 ≤ 9
  asc : (ls.map pairOf).Pairwise fun a b => SrtO.lexB a b = true
  len : ls.length ≤ 1000
theorem lexB_irrefl (p : Int × Int) : SrtO.lexB p p = false := by
  cases h : SrtO.lexB p p with
  | false => rfl
  | true =>
    have := SrtO.lexB_iff.mp h
    omega
theorem lexB_asymm {p q : Int × Int} (h : SrtO.lexB p q = true) : SrtO.lexB q p = false := by
  cases h2 : SrtO.lexB q p with
  | false => rfl
  | true =>
    have a := SrtO.lexB_iff.mp h
    have b := SrtO.lexB_iff.mp h2
    omega
theorem lexS_of {ps : List (Int × Int)} (h : ps.Pairwise fun a b => SrtO.lexB a b = true) : LexS ps := h.imp fun {a b} h => lexB_asymm h
theorem lexB_eq {p q : Int × Int} (h1 : SrtO.lexB p q = false) (h2 : SrtO.lexB q p = false) : p = q := by
  have a := SrtO.lexB_no.mp h1
  have b := SrtO.lexB_no.mp h2
  refine Prod.ext ?_ ?_ <;> omega
theorem lexS_uniq : ∀ {a b : List (Int × Int)}, LexS a → LexS b → a.Perm b → a = b
  | [], b, _, _, h => (List.Perm.eq_nil h.symm).symm
  | x :: a, [], _, _, h => absurd h.length_eq (by simp)
  | x :: a, y :: b, ha, hb, h => by
    have e : x = y := by
      rcases List.mem_cons.mp (h.mem_iff.mp (List.mem_cons_self (a := x) (l := a))) with e | hx
      · exact e
      · rcases List.mem_cons.mp (h.mem_iff.mpr (List.mem_cons_self (a := y) (l := b))) with e | hy
        · exact e.symm
        · exact lexB_eq ((List.pairwise_cons.mp hb).1 x hx) ((List.pairwise_cons.mp ha).1 y hy)
    subst e
    rw [lexS_uniq (List.pairwise_cons.mp ha).2 (List.pairwise_cons.mp hb).2 h.cons_inv]
theorem nodup_of_lex {ps : List (Int × Int)} (h : ps.Pairwise fun a b => SrtO.lexB a b = true) : ps.Nodup := h.imp fun {a b} h e => by
  subst e
  rw [lexB_irrefl] at h
  cases h
theorem ascB_of : ∀ {ls : List Row}, ((ls.map pairOf).Pairwise fun a b => SrtO.lexB a b = true) → ascB ls = true
  | [], _ => rfl
  | [_], _ => rfl
  | a :: b :: r, h => by
    have h1 := List.pairwise_cons.mp h
    show (SrtO.lexB (pairOf a) (pairOf b) && ascB (b :: r)) = true
    rw [h1.1 (pairOf b) List.mem_cons_self, ascB_of (ls := b :: r) h1.2]
    rfl
def kvOf (r : Row) : List Key × D := (prK (pairOf r), .int r.2.2)
def posB (r : Row) : Bool := decide (0 < r.2.2)
theorem val_rows : ∀ {ls : List Row} {r : Row}, (ls.map pairOf).Nodup → r ∈ ls → valD (ls.map kvOf) (prK (pairOf r)) = some (.int r.2.2)
  | a :: ls, r, hn, hr => by
    rw [List.map_cons] at hn ⊢
    rcases List.mem_cons.mp hr with rfl | hr
    · exact valD_pos rfl
    · rw [valD_neg]
      · exact val_rows (List.nodup_cons.mp hn).2 hr
      · intro e
        have e2 : pairOf a = pairOf r := prK_inj e
        exact (List.nodup_cons.mp hn).1 (by rw [e2]; exact List.mem_map.mpr ⟨r, hr, rfl⟩)
theorem val_rows_none : ∀ {ls : List Row} {p : Int × Int}, p ∉ ls.map pairOf → valD (ls.map kvOf) (prK p) = none
  | [], _, _ => rfl
  | a :: ls, p, h => by
    rw [List.map_cons] at h ⊢
    rw [valD_neg]
    · exact val_rows_none fun z => h (List.mem_cons_of_mem _ z)
    · intro e
      have e2 : pairOf a = p := prK_inj e
      exact h (by rw [e2]; exact List.mem_cons_self)
def lookD (ls : List Row) (d : D) : Int := match d with
  | .tup [.int a, .int b] => (match valD (ls.map kvOf) (prK (a, b)) with | some (.int i) => i | _ => 0)
  | _ => 0
theorem lookD_at {ls : List Row} {r : Row} (hn : (ls.map pairOf).Nodup) (hr : r ∈ ls) : lookD ls (prDD (pairOf r)) = r.2.2 := by
  unfold lookD prDD
  show (match valD (ls.map kvOf) (prK (pairOf r)) with | some (.int i) => i | _ => 0) = _
  rw [val_rows hn hr]
theorem made_list {ls : List Row} (hn : (ls.map pairOf).Nodup) : ((((ls.map pairOf).map prDD).filter fun d => decide (0 < lookD ls d)).map fun d => match d with | .tup [a, b] => .tup [a, b, .int (lookD ls d)] | d => d) = (ls.filter posB).map rowD := by
  rw [List.map_map, List.filter_map, List.map_map]
  have e : ls.filter ((fun d => decide (0 < lookD ls d)) ∘ prDD ∘ pairOf) = ls.filter posB := List.filter_congr fun r hr => by
    show decide (0 < lookD ls (prDD (pairOf r))) = _
    rw [lookD_at hn hr]
    rfl
  rw [e]
  refine List.map_congr_left fun r hr => ?_
  show D.tup [.int r.1, .int r.2.1, .int (lookD ls (prDD (pairOf r)))] = _
  rw [lookD_at hn (List.mem_filter.mp hr).1]
  rfl
theorem Good.seps {n : Int} {ls : List Row} (h : Good n ls) : sepsOk n (ls.filter posB) = true := by
  unfold sepsOk
  rw [decide_eq_true h.n0, decide_eq_true h.n1, Bool.true_and, Bool.true_and, Bool.and_eq_true]
  refine ⟨List.all_eq_true.mpr fun r hr => ?_, ascB_of ?_⟩
  · obtain ⟨hm, hp⟩ := List.mem_filter.mp hr
    obtain ⟨h1, h2, h3, h4, h5⟩ := h.rows r hm
    have hp' : 0 < r.2.2 := of_decide_eq_true hp
    unfold rowOk
    rw [decide_eq_true h1, decide_eq_true h2, decide_eq_true h3, decide_eq_true h5, decide_eq_true (show 1 ≤ r.2.2 by omega)]
    rfl
  · exact h.asc.sublist ((List.filter_sublist (p := posB) (l := ls)).map _)
section
variable {P : Program} {w : World} {K : PySem.W.Frag} {mg : Str → Option Value} {base : Heap}
def RMade : List D → D ⊕ Addr → Prop := fun ds o => ∃ (n : Int) (ls : List Row), ds = [.int n, .lst (ls.map rowD)] ∧ Good n ls ∧ o = .inl (sepD n (ls.filter posB))
theorem sc_made : FnScope ["count", "rows", "found", "i", "j", "least", "pair", "made", "wrong", "row"] ["count", "rows"] (defScope s_made_separations) := ⟨rfl, rfl, rfl, by decide +kernel, rfl, by decide +kernel, by decide +kernel⟩
set_option maxHeartbeats 1000000 in
theorem ok_made_separations (B : Bi mg) (C : Cs mg) {c : Addr} (X_InvalidSeparations : ExC K mg "InvalidSeparations" c) {f g : Addr} {fd gd : FuncData} (F : Fun K "made_separations" "made_separations" s_made_separations f fd) (L_is_separations : Lk K mg "is_separations" g gd ["value"]) (G_is_separations : FnOk P w K mg base CX0 3 g gd ["value"] (SpD K 1 RIsSeps)) : FnOk P w K mg base (L2.CX P w) 4 f fd ["count", "rows"] (SpX K 2 RMade) := by
  have S := sc_made
  refine fn_okX F S rfl 8 rfl fun cdv A outer s H E hr => ⟨_, ((pss_cons (ps_set (i := 2) S.nd rfl (by first | exact Or.inl rfl | exact Or.inr rfl) pe_dnewT)
 (pss_cons (ps_for (passes_of rfl) rfl (pi_list (pv 1)) (pg_tup (by rfl) (pgs_cons (pg_name (i := 3) S.nd rfl (by first | exact Or.inl rfl | exact Or.inr rfl)) (pgs_cons (pg_name (i := 4) S.nd rfl (by first | exact Or.inl rfl | exact Or.inr rfl)) (pgs_cons (pg_name (i := 5) S.nd rfl (by first | exact Or.inl rfl | exact Or.inr rfl)) pgs_nil))))
 (pss_cons (ps_set (i := 6) S.nd rfl (by first | exact Or.inl rfl | exact Or.inr rfl) (pe_tup (pa_cons (pe_callB (c_min2 rfl) (by rfl) B.min (by decide +kernel) (pa_cons (pv 3) (pa_cons (pv 4) pa_nil))) (pa_cons (pe_callB (c_max2 rfl) (by rfl) B.max (by decide +kernel) (pa_cons (pv 3) (pa_cons (pv 4) pa_nil))) pa_nil))))
 (pss_one (ps_dput hr.units1 (pv 2) (pv 6) (pe_callB (c_max2 rfl) (by rfl) B.max (by decide +kernel) (pa_cons (pv 5) (pa_cons (pe_dget2 hr.units1 (pv 2) (pv 6) pe_int ⟨rfl, rfl, rfl, rfl⟩) pa_nil))) rfl))))
 (pss_cons (ps_set (i := 7) S.nd rfl (by first | exact Or.inl rfl | exact Or.inr rfl) (pe_tup (pa_cons (pv 0) (pa_cons (pe_callTy c_tupOf (by rfl) B.tuple (by decide +kernel) (pa_cons (pe_lc (own := [("i", 3), ("j", 4)]) (g := (gTup K 2 (gCons (gName 3) (gCons (gName 4) gNil)))) (by rfl) S.nd (pi_list (pe_callB (cr_sortT rfl) (by rfl) B.sorted (by decide +kernel) (pa_cons (pv 2) pa_nil))) (blkOk_by (N := ["count", "rows", "found", "i", "j", "least", "pair", "made", "wrong", "row"]) (sc := defScope s_made_separations) (own := [("i", 3), ("j", 4)]) (by decide +kernel)) (fun _ _ _ _ _ => (pg_tup (by rfl) (pgs_cons (pg_name (i := 3) S.nd rfl (by first | exact Or.inl rfl | exact Or.inr rfl)) (pgs_cons (pg_name (i := 4) S.nd rfl (by first | exact Or.inl rfl | exact Or.inr rfl)) pgs_nil)))) (fun _ _ _ _ _ => pts_one (pt_cmpR op_gt (pe_dget hr.units1 (pv 2) (pe_tup (pa_cons (pv 3) (pa_cons (pv 4) pa_nil))) (fun _ _ => rfl)) pe_int (nomark _))) (fun _ _ _ _ _ => (pe_tup (pa_cons (pv 3) (pa_cons (pv 4) (pa_cons (pe_dget hr.units1 (pv 2) (pe_tup (pa_cons (pv 3) (pa_cons (pv 4) pa_nil))) (fun _ _ => rfl)) pa_nil)))))) pa_nil)) pa_nil))))
 (pss_cons (ps_setLc (i := 8) (own := [("row", 9)]) (g := (gName 9)) (by rfl) S.nd rfl rfl (sw_true rfl rfl rfl (by decide +kernel)) (pi_list (pv 1)) (blkOk_by (N := ["count", "rows", "found", "i", "j", "least", "pair", "made", "wrong", "row"]) (sc := defScope s_made_separations) (own := [("row", 9)]) (by decide +kernel)) (fun _ _ _ _ _ => (pg_name (i := 9) S.nd rfl (by first | exact Or.inl rfl | exact Or.inr rfl))) (fun _ _ _ _ _ => pts_one (PW.pt (pw_or (pt_cmpR op_eq (pe_ix (kix_tup (K := K) (by rfl)) (pv 9) pe_int (fun _ _ => rfl)) (pe_ix (kix_tup (K := K) (by rfl)) (pv 9) pe_int (fun _ _ => rfl)) (nomark _)) (pw_or (pt_cmpR op_lt (pe_callB (kcr_minT (K := K) (by rfl) rfl hr.units1) (by rfl) B.min (by decide +kernel) (pa_cons (pe_slice (ksl_tupA (K := K) (by rfl)) (pv 9) po_none (po_some pe_int)) pa_nil)) pe_int (nomark _)) (pw_or (pt_cmpR op_ge (pe_callB (kcr_maxT (K := K) (by rfl) rfl hr.units1) (by rfl) B.max (by decide +kernel) (pa_cons (pe_slice (ksl_tupA (K := K) (by rfl)) (pv 9) po_none (po_some pe_int)) pa_nil)) (pv 0) (nomark _)) (pw_or1 (pt_cmpR op_lt (pe_ix (kix_tup (K := K) (by rfl)) (pv 9) pe_int (fun _ _ => rfl)) pe_int (nomark _)))))))) (fun _ _ _ _ _ => (pv 9)))
 (pss_cons (ps_if (PW.pt (pw_or (pt_not (pt_val (pe_call G_is_separations (hr.mono (by first | exact Nat.le_refl _ | decide | omega)) (by rfl) L_is_separations.m L_is_separations.kp L_is_separations.bi .nil pass0 (pa_cons (pv 7) pa_nil)))) (pw_or1 (pt_cmpR (op_neD hr.units) (pv 8) (pe_lst pa_nil) (nomark _)))))
 (pss_one (ps_raise rfl (takes_of rfl rfl rfl rfl) (pmk_own PySem.F.excBase_ValueError X_InvalidSeparations.e X_InvalidSeparations.m X_InvalidSeparations.k (raises_own X_InvalidSeparations.s X_InvalidSeparations.t) (by rfl))))
 pss_nil)
 (pss_one (ps_ret (pv 7))))))))), fun φ ds o H D0 σ hl hR hrt hex A => ?_⟩
  obtain ⟨n, ls, rfl, hg, rfl⟩ := hR
  have hnd := nodup_of_lex hg.asc
  replace A : At K φ (Same H) [some (.int n), some (.lst (ls.map rowD)), none, none, none, none, none, none, none, none] σ H := A
  refine q (st_newS A en_dnewT fun l ds0 C J1 σ1 H1 hC N1 L1 A1 => q ?_)
  obtain ⟨e, rfl⟩ := hC
  subst e
  have L1' : LivDS K (wo φ l) J1 l ([] : List (List Key × D)) := L1
  have sb : Stab l (Same H) := N1.same fun _ h => h
  refine st_forT A1 (it_list (ev_var rfl)) (ds := ls.map rowD) (us := [3, 4, 5]) (ρt := fun d ρ' => match d with | .tup [a, b, c] => ((ρ'.set 3 (some a)).set 4 (some b)).set 5 (some c) | _ => ρ') (fun i ρ' J' => ∃ o3 o4 o5 o6, LivDS K (wo φ l) J' l ((ls.take i).map kvOf) ∧ (∀ H', J' H' → Same H H') ∧ ρ' = [some (.int n), some (.lst (ls.map rowD)), some (.raw (.ref l)), o3, o4, o5, o6, none, none, none]) ⟨none, none, none, none, L1', fun H' h => N1.ext.imp H' h, rfl⟩ ?_ ?_ ?_
  · rintro i d ρ' J' hd -
    rw [List.getElem?_map] at hd
    obtain ⟨r, hr, rfl⟩ := Option.map_eq_some_iff.mp hd
    exact eg_tup (ds := [.int r.1, .int r.2.1, .int r.2.2]) (egs_cons eg_name (egs_cons eg_name (egs_cons eg_name egs_nil)))
  · rintro H2 i d ρ' J' b2 j2 hd ⟨o3, o4, o5, o6, L2', hb, rfl⟩ σ' H' A2
    rw [List.getElem?_map] at hd
    obtain ⟨r, hr', rfl⟩ := Option.map_eq_some_iff.mp hd
    have hrm : r ∈ ls := List.mem_of_getElem? hr'
    obtain ⟨g1, g2, g3, g4, g5⟩ := hg.rows r hrm
    replace A2 : At K (wo φ l) (fun H => J' H ∧ But (wo φ l) H2 H) [some (.int n), some (.lst (ls.map rowD)), some (.raw (.ref l)), some (.int r.1), some (.int r.2.1), some (.int r.2.2), o6, none, none, none] σ' H' := A2
    have tk : ls.take (i + 1) = ls.take i ++ [r] := by rw [List.take_add_one, hr']; rfl
    have hnew : pairOf r ∉ (ls.take i).map pairOf := fun hm => by
      have e1 : (ls.map pairOf).take (i + 1) = (ls.take i).map pairOf ++ [pairOf r] := by rw [← List.map_take, tk, List.map_append]; rfl
      have e2 : ((ls.map pairOf).take (i + 1)).Nodup := hnd.sublist (List.take_sublist _ _)
      rw [e1] at e2
      exact (List.nodup_append.mp e2).2.2 _ hm _ (List.mem_singleton.mpr rfl) rfl
    have e0 : min r.1 r.2.1 = r.1 := by omega
    have e1 : max r.1 r.2.1 = r.2.1 := by omega
    refine q (st_set (d := prDD (pairOf r)) A2 ((ev_tup (ea_cons (ev_min2 (ev_var rfl) (ev_var rfl)) (ea_cons (ev_max2 (ev_var rfl) (ev_var rfl)) ea_nil))).is (by rw [e0, e1]; rfl)) fun σ3 H3 A3 => ?_)
    replace A3 : At K (wo φ l) (fun H => J' H ∧ But (wo φ l) H2 H) [some (.int n), some (.lst (ls.map rowD)), some (.raw (.ref l)), some (.int r.1), some (.int r.2.1), some (.int r.2.2), some (prDD (pairOf r)), none, none, none] σ3 H3 := A3
    have hv : valD ((ls.take i).map kvOf) (prK (pairOf r)) = none := val_rows_none hnew
    refine st_dputS (k := prK (pairOf r)) (P := fun d => d = .int r.2.2) A3 L2'.but ((ev_max2 (i := r.2.2) (j := 0) (ev_var rfl) ((ev_dget2 (k := prK (pairOf r)) (x := .int 0) (ed_liveS L2'.but (ev_var rfl)) (ev_var rfl) ev_int).is (by rw [hv]; rfl))).is (by rw [show max r.2.2 0 = r.2.2 by omega])) rfl (ev_var rfl) ?_ fun d J4 H4 hd W4 L4 A4 => ?_
    · rw [List.length_map, List.length_take]
      have := hg.len
      omega
    · subst hd
      refine ⟨_, J4, ⟨some (.int r.1), some (.int r.2.1), some (.int r.2.2), some (prDD (pairOf r)), ?_, W4.base _ (fun H h => hb H h.1) sb, rfl⟩, A4.live ⟨A4.j, W4.base _ (fun H h => h.2) (Stab.but (.inl L1.np)) _ A4.j⟩ (A4.mono.and (Mo.but (W4.base _ (fun H h => h.2) (Stab.but (.inl L1.np)) _ A4.j).tr))⟩
      rw [tk, List.map_append]
      rw [putD_new hv] at L4
      exact L4
  · rintro H2 ρ' J' σ' H' b2 j2 ⟨o3, o4, o5, o6, L2', hb, rfl⟩ A2
    rw [List.length_map, List.take_length] at L2'
    have A3 := L2'.but.freezeD N1.fr A2 (i := 2) rfl
    replace A3 : At K φ (fun H_1 => (J' H_1 ∧ But (wo φ l) H2 H_1) ∧ But φ H' H_1) [some (.int n), some (.lst (ls.map rowD)), some (dictD (ls.map kvOf)), o3, o4, o5, o6, none, none, none] σ' H' := A3
    have hkeys : (ls.map kvOf).map (·.1) = (ls.map pairOf).map prK := by rw [List.map_map, List.map_map]; rfl
    have hsort : EvD K φ (fun H_1 => (J' H_1 ∧ But (wo φ l) H2 H_1) ∧ But φ H' H_1) (tCB rSortT (tCons (tVar 2) tNil)) [some (.int n), some (.lst (ls.map rowD)), some (dictD (ls.map kvOf)), o3, o4, o5, o6, none, none, none] (.lst ((ls.map pairOf).map prDD)) :=
      (ev_sortT (ed_frozen (ev_var rfl)) hkeys).imp fun z ⟨ps, e, hp, hs⟩ => by rw [e, lexS_uniq hs (lexS_of hg.asc) hp]
    have look : ∀ {φ' : Addr → Prop} {J2 : Hp → Prop} {ρ2 : List (Option D)} {a b : D}, .tup [a, b] ∈ (ls.map pairOf).map prDD → ρ2[2]? = some (some (dictD (ls.map kvOf))) → ρ2[3]? = some (some a) → ρ2[4]? = some (some b) → EvD K φ' J2 (tDGet (tVar 2) (tTup (tCons (tVar 3) (tCons (tVar 4) tNil)))) ρ2 (.int (lookD ls (.tup [a, b]))) := fun {φ' J2 ρ2 a b} hm h2 h3 h4 => by
      obtain ⟨p, hp, e⟩ := List.mem_map.mp hm
      obtain ⟨r, hr, rfl⟩ := List.mem_map.mp hp
      injection e with e
      have z1 := (List.cons.inj e).1
      have z2 := (List.cons.inj (List.cons.inj e).2).1
      subst z1 z2
      refine ev_dget (k := prK (pairOf r)) (ed_frozen (ev_var h2)) (ev_tup (ea_cons (ev_var h3) (ea_cons (ev_var h4) ea_nil))) ?_
      rw [val_rows hnd hr, show D.tup [.int (pairOf r).1, .int (pairOf r).2] = prDD (pairOf r) from rfl, lookD_at hnd hr]
    refine q (st_set (d := sepD n (ls.filter posB)) A3 (ev_tup (ea_cons (ev_var rfl) (ea_cons (ev_tupL ((ev_lcT2 (k1 := 3) (k2 := 4) (p := fun d => decide (0 < lookD ls d)) (f := fun d => match d with | .tup [a, b] => .tup [a, b, .int (lookD ls d)] | d => d) (it_list hsort) ?_ ?_ (fun a b hm φ' J2 hx => et_test (ev_gt (look hm rfl rfl rfl) ev_int)) (fun a b hm pd φ' J2 hx => ev_tup (ea_cons (ev_var rfl) (ea_cons (ev_var rfl) (ea_cons (look hm rfl rfl rfl) ea_nil))))).is (congrArg D.lst (made_list hnd)))) ea_nil))) fun σ4 H4 A4 => q ?_)
    · rw [List.length_map, List.length_map]
      have := hg.len
      omega
    · intro d hd
      obtain ⟨p, _, rfl⟩ := List.mem_map.mp hd
      exact ⟨_, _, rfl⟩
    refine st_set (d := .lst []) A4 ((ev_lcF (k := 9) (p := fun _ => false) (f := fun d => d) (it_list (ds := ls.map rowD) (ev_var rfl)) (by rw [List.length_map]; have := hg.len; omega) (fun d hd φ' J2 hx => ?_) fun d hd pd φ' J2 hx => ev_var rfl).is (by rw [List.filter_eq_nil_iff.mpr (fun _ _ => Bool.false_ne_true)]; rfl)) fun σ5 H5 A5 => ?_
    · obtain ⟨r, hr, rfl⟩ := List.mem_map.mp hd
      obtain ⟨g1, g2, g3, g4, g5⟩ := hg.rows r hr
      refine EvT.is (et_or (et_test (ev_eqI (ev_row0 (ev_var rfl)) (ev_row1 (ev_var rfl)))) fun _ => et_or (b := false) ((et_cmpP (f := fun i j => decide (i < j)) (ev_minT (ns := [r.1, r.2.1]) (ev_rowP (ev_var rfl)) (Nat.zero_lt_succ _)) (ev_i ev_int)).imp fun b ⟨i, j, hi, hj, e⟩ => ?_) fun _ => et_or (b := false) ((et_cmpP (f := fun i j => decide (j ≤ i)) (ev_maxT (ns := [r.1, r.2.1]) (ev_rowP (ev_var rfl)) (Nat.zero_lt_succ _)) (ev_i (ev_var rfl))).imp fun b ⟨i, j, hi, hj, e⟩ => ?_) fun _ => et_test (ev_lt (ev_row2 (ev_var rfl)) ev_int)) ?_
      · subst hj
        rw [e]
        refine decide_eq_false ?_
        have := hi.1
        simp only [List.mem_cons, List.not_mem_nil, or_false] at this
        omega
      · subst hj
        rw [e]
        refine decide_eq_false ?_
        have := hi.1
        simp only [List.mem_cons, List.not_mem_nil, or_false] at this
        omega
      · rw [decide_eq_false (show ¬ r.1 = r.2.1 by omega), decide_eq_false (show ¬ r.2.2 < 0 by omega)]
        rfl
    replace A5 : At K φ (fun H_1 => (J' H_1 ∧ But (wo φ l) H2 H_1) ∧ But φ H' H_1) [some (.int n), some (.lst (ls.map rowD)), some (dictD (ls.map kvOf)), o3, o4, o5, o6, some (sepD n (ls.filter posB)), some (.lst []), none] σ5 H5 := A5
    dsimp only
    refine q (st_no A5 (et_or (et_not (et_B (ev_callD (R := RIsSeps) (ds := [sepD n (ls.filter posB)]) (d := .bl (sepsOk n (ls.filter posB))) (ea_cons (ev_var rfl) ea_nil) ⟨n, ls.filter posB, rfl, ?_, rfl⟩))) fun _ => et_test (ev_neQ (x := .lst []) (y := .lst []) (ev_var (i := 8) rfl) (ev_lst ea_nil) rfl rfl)) ?_ fun H6 A6 => st_next ?_)
    · have := List.length_filter_le posB ls
      have := hg.len
      omega
    · rw [hg.seps]
      rfl
    refine st_ret A6 (ev_var rfl) fun v d H7 e A7 rr => hrt _ rfl v H7 (hb _ A7.j.1.1) ?_
    subst e
    exact rr
end

/-! ### groups, demands -/
def grpD : Int → List Int → List D
  | _, [] => []
  | k, l :: ls => .lst (rangeD k l.toNat) :: grpD (k + l) ls
def ownI : Int → List Int → List Int
  | _, [] => []
  | k, l :: ls => List.replicate l.toNat k ++ ownI (k + 1) ls
theorem grpD_app : ∀ (k : Int) (a b : List Int), grpD k (a ++ b) = grpD k a ++ grpD (k + a.sum) b
  | k, [], b => by rw [List.nil_append, List.sum_nil, Int.add_zero]; rfl
  | k, l :: a, b => by
    show .lst (rangeD k l.toNat) :: grpD (k + l) (a ++ b) = .lst (rangeD k l.toNat) :: (grpD (k + l) a ++ grpD (k + (l :: a).sum) b)
    rw [grpD_app (k + l) a b, List.sum_cons, Int.add_assoc]
theorem ownI_app : ∀ (k : Int) (a b : List Int), ownI k (a ++ b) = ownI k a ++ ownI (k + (a.length : Nat)) b
  | k, [], b => by rw [List.nil_append]; show _ = [] ++ ownI (k + ((0 : Nat) : Int)) b; rw [List.nil_append, show k + ((0 : Nat) : Int) = k by omega]
  | k, l :: a, b => by
    show List.replicate l.toNat k ++ ownI (k + 1) (a ++ b) = (List.replicate l.toNat k ++ ownI (k + 1) a) ++ ownI (k + ((a.length + 1 : Nat) : Int)) b
    rw [ownI_app (k + 1) a b, List.append_assoc, show k + 1 + ((a.length : Nat) : Int) = k + ((a.length + 1 : Nat) : Int) by omega]
theorem ownI_len : ∀ (k : Int) (ls : List Int), (∀ l ∈ ls, 0 ≤ l) → ((ownI k ls).length : Int) = ls.sum
  | k, [], _ => rfl
  | k, l :: ls, h => by
    show ((List.replicate l.toNat k ++ ownI (k + 1) ls).length : Int) = _
    rw [List.length_append, List.length_replicate, List.sum_cons, Int.natCast_add, ownI_len (k + 1) ls fun x hx => h x (List.mem_cons_of_mem _ hx), Int.toNat_of_nonneg (h l List.mem_cons_self)]
theorem grpD_len : ∀ (k : Int) (ls : List Int), (grpD k ls).length = ls.length
  | _, [] => rfl
  | k, l :: ls => by show (grpD (k + l) ls).length + 1 = ls.length + 1; rw [grpD_len]
theorem enumD_cons (k : Int) (d : D) (ds : List D) : enumD k (d :: ds) = .tup [.int k, d] :: enumD (k + 1) ds := by
  unfold enumD
  rw [List.mapIdx_cons]
  congr 1
  · rw [show k + ((0 : Nat) : Int) = k by omega]
  · congr 1
    funext i d
    rw [show k + ((i + 1 : Nat) : Int) = k + 1 + (i : Int) by omega]
def esOwn : D → List D := fun d => match d with | .tup [_, .int l] => rangeD 0 l.toNat | _ => []
def fOwn : D → D → D := fun d _ => match d with | .tup [u, _] => u | d => d
theorem own_enum : ∀ (k : Int) (ls : List Int), ((enumD k (ls.map D.int)).flatMap fun d => (esOwn d).map (fOwn d)) = (ownI k ls).map D.int
  | k, [] => rfl
  | k, l :: ls => by
    rw [List.map_cons, enumD_cons, List.flatMap_cons, own_enum (k + 1) ls]
    show (rangeD 0 l.toNat).map (fun _ => D.int k) ++ _ = (List.replicate l.toNat k ++ ownI (k + 1) ls).map D.int
    rw [List.map_append, List.map_replicate, List.map_const', rangeD_length]
/-- what two new users need -/
def needI (ls : List Row) (ow : List Int) (i j : Nat) : Int := if ow.getD i 0 = ow.getD j 0 then 1 else leastB ls (ow.getD i 0) (ow.getD j 0)
def rowOf (ls : List Row) (ow : List Int) (i t : Nat) : Row := ((i : Int), (i : Int) + 1 + (t : Int), needI ls ow i (i + 1 + t))
def blockI (ls : List Row) (ow : List Int) (m i : Nat) : List Row := (List.range (m - (i + 1))).map (rowOf ls ow i)
def demI (ls : List Row) (ow : List Int) (m k : Nat) : List Row := (List.range k).flatMap (blockI ls ow m)
theorem demI_succ (ls : List Row) (ow : List Int) (m k : Nat) : demI ls ow m (k + 1) = demI ls ow m k ++ blockI ls ow m k := by
  unfold demI
  rw [List.range_succ, List.flatMap_append, List.flatMap_cons, List.flatMap_nil, List.append_nil]
theorem demI_len (ls : List Row) (ow : List Int) (m : Nat) : ∀ k, (demI ls ow m k).length ≤ k * m
  | 0 => Nat.le_of_eq (by rw [Nat.zero_mul]; rfl)
  | k + 1 => by
    rw [demI_succ, List.length_append, Nat.succ_mul]
    have := demI_len ls ow m k
    have e : (blockI ls ow m k).length = m - (k + 1) := by unfold blockI; rw [List.length_map, List.length_range]
    omega
theorem needI_range {ls : List Row} (h : ∀ r ∈ ls, 0 ≤ r.2.2 ∧ r.2.2 ≤ 9) (ow : List Int) (i j : Nat) : 0 ≤ needI ls ow i j ∧ needI ls ow i j ≤ 9 := by
  unfold needI
  split
  · exact ⟨by decide, by decide⟩
  · exact leastB_range h _ _
theorem demI_good {ls : List Row} (h : ∀ r ∈ ls, 0 ≤ r.2.2 ∧ r.2.2 ≤ 9) (ow : List Int) (m : Nat) (hm : m ≤ 24) : Good m (demI ls ow m m) := by
  refine ⟨by omega, by omega, fun r hr => ?_, ?_, ?_⟩
  · obtain ⟨i, hi, hr⟩ := List.mem_flatMap.mp hr
    obtain ⟨t, ht, rfl⟩ := List.mem_map.mp hr
    rw [List.mem_range] at hi ht
    have := needI_range h ow i (i + 1 + t)
    show 0 ≤ (i : Int) ∧ (i : Int) < (i : Int) + 1 + (t : Int) ∧ (i : Int) + 1 + (t : Int) < (m : Int) ∧ 0 ≤ needI ls ow i (i + 1 + t) ∧ needI ls ow i (i + 1 + t) ≤ 9
    refine ⟨by omega, by omega, by omega, this.1, this.2⟩
  · unfold demI
    rw [List.map_flatMap, List.pairwise_flatMap]
    refine ⟨fun i hi => ?_, ?_⟩
    · unfold blockI
      rw [List.map_map, List.pairwise_map]
      refine List.pairwise_lt_range.imp fun {a b} hab => ?_
      exact SrtO.lexB_iff.mpr (.inr ⟨rfl, by show (i : Int) + 1 + (a : Int) < (i : Int) + 1 + (b : Int); omega⟩)
    · refine List.pairwise_lt_range.imp fun {a b} hab x hx y hy => ?_
      unfold blockI at hx hy
      rw [List.map_map] at hx hy
      obtain ⟨s, _, rfl⟩ := List.mem_map.mp hx
      obtain ⟨t, _, rfl⟩ := List.mem_map.mp hy
      exact SrtO.lexB_iff.mpr (.inl (by show (a : Int) < (b : Int); omega))
  · have := demI_len ls ow m m
    have h2 : m * m ≤ 24 * 24 := Nat.mul_le_mul hm hm
    omega
theorem getD_at {ow : List Int} {i : Nat} (h : i < ow.length) : L2.atI (ow.map D.int) (i : Int) = some (.int (ow.getD i 0)) := by
  refine atI_ofNat (i := i) ?_
  rw [List.getElem?_map, List.getElem?_eq_getElem h, List.getD_eq_getElem?_getD, List.getElem?_eq_getElem h]
  rfl
def loadsOk (ls : List Int) : Prop := ls.length ≤ 100 ∧ ∀ l ∈ ls, 0 ≤ l ∧ l ≤ 1000
theorem sum_le {ls : List Int} (h : ∀ l ∈ ls, 0 ≤ l ∧ l ≤ 1000) : 0 ≤ ls.sum ∧ ls.sum ≤ 1000 * ls.length := by
  induction ls with
  | nil => exact ⟨Int.le_refl _, Int.le_refl _⟩
  | cons l ls ih =>
    have h1 := h l List.mem_cons_self
    have h2 := ih fun x hx => h x (List.mem_cons_of_mem _ hx)
    rw [List.sum_cons, List.length_cons]
    omega
section
variable {P : Program} {w : World} {K : PySem.W.Frag} {mg : Str → Option Value} {base : Heap}
def RGroups : List D → D → Prop := fun ds d => ∃ ls : List Int, ds = [.lst (ls.map D.int)] ∧ loadsOk ls ∧ d = .lst (grpD 0 ls)
def RDem (c : Addr) : List D → D ⊕ Addr → Prop := fun ds o => ∃ (n : Int) (ls : List Row) (loads : List Int), ds = [sepD n ls, .lst (loads.map D.int)] ∧ (∀ r ∈ ls, 0 ≤ r.2.2 ∧ r.2.2 ≤ 9) ∧ loadsOk loads ∧
  o = if loads.sum > 24 then .inr c else .inl (sepD loads.sum ((demI ls (ownI 0 loads) (ownI 0 loads).length (ownI 0 loads).length).filter posB))
theorem sc_demands : FnScope ["separations", "loads", "owners", "user", "load", "_", "rows", "i", "j", "same"] ["separations", "loads"] (defScope s_demands) := ⟨rfl, rfl, rfl, by decide +kernel, rfl, by decide +kernel, by decide +kernel⟩
set_option maxHeartbeats 1000000 in
theorem ok_demands (B : Bi mg) (C : Cs mg) {c : Addr} (X_InvalidSeparations : ExC K mg "InvalidSeparations" c) {f g g2 : Addr} {fd gd gd2 : FuncData} (F : Fun K "demands" "demands" s_demands f fd) (L_least_between : Lk K mg "least_between" g gd ["separations", "i", "j"]) (G_least_between : FnOk P w K mg base CX0 1 g gd ["separations", "i", "j"] (SpD K 3 RLeast))
    (L_made_separations : Lk K mg "made_separations" g2 gd2 ["count", "rows"]) (G_made_separations : FnOk P w K mg base (L2.CX P w) 4 g2 gd2 ["count", "rows"] (SpX K 2 RMade)) : FnOk P w K mg base (L2.CX P w) 5 f fd ["separations", "loads"] (SpX K 2 (RDem c)) := by
  have S := sc_demands
  refine fn_okX F S rfl 8 rfl fun cdv A outer s H E hr => ⟨_, ((pss_cons (ps_if (pt_cmpR op_gt (pe_callB (c_sum rfl) (by rfl) B.sum (by decide +kernel) (pa_cons (pv 1) pa_nil)) (pe_cst C.MOST_USERS) (nomark _))
 (pss_one (ps_raise rfl (takes_of rfl rfl rfl rfl) (pmk_own PySem.F.excBase_ValueError X_InvalidSeparations.e X_InvalidSeparations.m X_InvalidSeparations.k (raises_own X_InvalidSeparations.s X_InvalidSeparations.t) (by rfl))))
 pss_nil)
 (pss_cons (ps_setLc2 (i := 2) (own := [("user", 3), ("load", 4), ("_", 5)]) (vs1 := [5]) (g := (gTup K 2 (gCons (gName 3) (gCons (gName 4) gNil)))) (g1 := (gName 5)) (tt := tYes) (tt1 := tYes) (by rfl) S.nd rfl rfl (sw_true rfl rfl rfl (by decide +kernel)) (pi_enum (by rfl) B.enumerate (pa_cons (pv 1) pa_nil)) (blkOk_by (N := ["separations", "loads", "owners", "user", "load", "_", "rows", "i", "j", "same"]) (sc := defScope s_demands) (own := [("user", 3), ("load", 4), ("_", 5)]) (by decide +kernel)) (by decide) (fun _ _ _ _ _ => (pg_tup (by rfl) (pgs_cons (pg_name (i := 3) S.nd rfl (by first | exact Or.inl rfl | exact Or.inr rfl)) (pgs_cons (pg_name (i := 4) S.nd rfl (by first | exact Or.inl rfl | exact Or.inr rfl)) pgs_nil)))) (fun _ _ _ _ _ => pts_nil) (fun _ _ _ _ _ => (pi_range1 (by rfl) B.range (pa_cons (pv 4) pa_nil))) (fun _ _ _ _ _ => (pg_name (i := 5) S.nd rfl (by first | exact Or.inl rfl | exact Or.inr rfl))) (fun _ _ _ _ _ => pts_nil) (fun _ _ _ _ _ => (pv 3)))
 (pss_cons (ps_set (i := 6) S.nd rfl (by first | exact Or.inl rfl | exact Or.inr rfl) (pe_lst pa_nil))
 (pss_cons (ps_for (passes_of rfl) rfl (pi_range1 (by rfl) B.range (pa_cons (pe_callB c_len (by rfl) B.len (by decide +kernel) (pa_cons (pv 2) pa_nil)) pa_nil)) (pg_name (i := 7) S.nd rfl (by first | exact Or.inl rfl | exact Or.inr rfl))
 (pss_one (ps_for (passes_of rfl) rfl (pi_range2 (by rfl) B.range (pa_cons (pe_op op_add (pv 7) pe_int) (pa_cons (pe_callB c_len (by rfl) B.len (by decide +kernel) (pa_cons (pv 2) pa_nil)) pa_nil))) (pg_name (i := 8) S.nd rfl (by first | exact Or.inl rfl | exact Or.inr rfl))
 (pss_cons (ps_set (i := 9) S.nd rfl (by first | exact Or.inl rfl | exact Or.inr rfl) (pe_cmpR op_eq (pe_ix ix_list (pv 2) (pv 7) (fun _ _ => rfl)) (pe_ix ix_list (pv 2) (pv 8) (fun _ _ => rfl)) (nomark _)))
 (pss_one (ps_expr (pe_bm PySem.F.plainAttrs_list PySem.F.slot_list_append PySem.F.type_list_append mt_append (pv 6) (pa_cons (pe_tup (pa_cons (pv 7) (pa_cons (pv 8) (pa_cons (pe_ifExp (pt_val (pv 9)) pe_int (pe_call G_least_between (hr.mono (by first | exact Nat.le_refl _ | decide | omega)) (by rfl) L_least_between.m L_least_between.kp L_least_between.bi .nil pass0 (pa_cons (pv 0) (pa_cons (pe_ix ix_list (pv 2) (pv 7) (fun _ _ => rfl)) (pa_cons (pe_ix ix_list (pv 2) (pv 8) (fun _ _ => rfl)) pa_nil))))) pa_nil)))) pa_nil))))))))
 (pss_one (ps_ret (pe_callS G_made_separations (hr.mono (by first | exact Nat.le_refl _ | decide | omega)) (by rfl) L_made_separations.m L_made_separations.kp L_made_separations.bi (fun σ => passAt (takes_of rfl rfl rfl rfl) σ) (pa_cons (pe_callB c_len (by rfl) B.len (by decide +kernel) (pa_cons (pv 2) pa_nil)) (pa_cons (pv 6) pa_nil)))))))))), fun φ ds o H D0 σ hl hR hrt hex A => ?_⟩
  obtain ⟨n, ls, loads, rfl, hls, hok, rfl⟩ := hR
  replace A : At K φ (Same H) [some (sepD n ls), some (.lst (loads.map D.int)), none, none, none, none, none, none, none, none] σ H := A
  have hsum := sum_le hok.2
  have hlen := hok.1
  refine q (st_if A (et_test (ev_gt (ev_sum (ev_var rfl)) ev_int)) (fun hb H1 A1 => ?_) (fun hb H1 A1 => st_next (q ?_)))
  · have h1 : loads.sum > 24 := of_decide_eq_true hb.symm
    rw [if_pos h1] at hex
    exact hex c rfl H1 A1.j
  have h24 : ¬ loads.sum > 24 := of_decide_eq_false hb.symm
  rw [if_neg h24] at hrt
  generalize how : ownI 0 loads = ow at hrt
  have hol : (ow.length : Int) = loads.sum := by rw [← how]; exact ownI_len 0 loads fun l hl => (hok.2 l hl).1
  have hol24 : ow.length ≤ 24 := by omega
  refine st_set (d := .lst (ow.map D.int)) A1 ((ev_lc2 (us := [3, 4]) (us1 := [5]) (es := esOwn) (f := fOwn) (ρ1 := fun d => match d with | .tup [a, b] => [some (sepD n ls), some (.lst (loads.map D.int)), none, some a, some b, none, none, none, none, none] | _ => []) (ρ2 := fun d e => match d with | .tup [a, b] => [some (sepD n ls), some (.lst (loads.map D.int)), none, some a, some b, some e, none, none, none, none] | _ => []) (it_enum (ea_cons (ev_var rfl) ea_nil)) ?_ (by simp) (by simp) (by simp) ?_ ?_ ?_ ?_).is (congrArg D.lst ((own_enum 0 loads).trans (by rw [how])))) fun σ2 H2 A2 => q ?_
  · have e := congrArg List.length (own_enum 0 loads)
    rw [how, List.length_map] at e
    simp only [List.length_flatMap, List.length_map] at e ⊢
    omega
  · intro d hd
    obtain ⟨i, hi⟩ := List.mem_iff_getElem?.mp hd
    rw [enumD_get, List.getElem?_map, Option.map_map] at hi
    obtain ⟨x, _, rfl⟩ := Option.map_eq_some_iff.mp hi
    exact eg_tup (ds := [.int (0 + (i : Int)), .int x]) (egs_cons eg_name (egs_cons eg_name egs_nil))
  · intro d hd φ' J' hx
    obtain ⟨i, hi⟩ := List.mem_iff_getElem?.mp hd
    rw [enumD_get, List.getElem?_map, Option.map_map] at hi
    obtain ⟨x, hx', rfl⟩ := Option.map_eq_some_iff.mp hi
    have := hok.2 x (List.mem_of_getElem? hx')
    exact it_range1 (ea_cons (ev_var (i := 4) rfl) ea_nil) (by omega)
  · intro d hd e he
    obtain ⟨i, hi⟩ := List.mem_iff_getElem?.mp hd
    rw [enumD_get, List.getElem?_map, Option.map_map] at hi
    obtain ⟨x, _, rfl⟩ := Option.map_eq_some_iff.mp hi
    exact eg_name
  · intro d hd e he φ' J' hx
    obtain ⟨i, hi⟩ := List.mem_iff_getElem?.mp hd
    rw [enumD_get, List.getElem?_map, Option.map_map] at hi
    obtain ⟨x, _, rfl⟩ := Option.map_eq_some_iff.mp hi
    exact ev_var (i := 3) rfl
  refine st_newS A2 (en_ofN (en_lstD ea_nil)) fun l ds0 C J1 σ3 H3 hC N1 L1 A3 => q ?_
  obtain ⟨e, rfl⟩ := hC
  subst e
  have sb : Stab l (Same H) := N1.same fun _ h => h
  let ρ0 : Option D → Option D → Option D → List (Option D) := fun o7 o8 o9 => [some (sepD n ls), some (.lst (loads.map D.int)), some (.lst (ow.map D.int)), none, none, none, some (.raw (.ref l)), o7, o8, o9]
  replace A3 : At K (wo φ l) J1 (ρ0 none none none) σ3 H3 := A3.le (by repeat' (first | exact Le.nil | refine Le.keep ?_ | refine Le.drop ?_))
  refine st_for A3 (it_range1 (ea_cons (ev_lenL (ds := ow.map D.int) (ev_var rfl)) ea_nil) (by rw [List.length_map]; omega)) (fun i ρ' J' => ∃ o7 o8 o9, LivS K (wo φ l) J' l HO.lst ((demI ls ow ow.length i).map rowD) ∧ (∀ H', J' H' → Same H H') ∧ ρ' = ρ0 o7 o8 o9) ⟨none, none, none, L1, fun H' h => N1.ext.imp H' h, rfl⟩ ?_ ?_
  · rintro H4 i x ρ' J' b4 j4 hx ⟨o7, o8, o9, L4, hb4, rfl⟩ σ' H' A4
    rw [rangeD_get, List.length_map] at hx
    split at hx
    · rename_i hi
      cases hx
      have hi' : i < ow.length := by omega
      have hdl := demI_len ls ow ow.length i
      have hmul : i * ow.length ≤ 24 * 24 := Nat.mul_le_mul (by omega) hol24
      rw [show (0 : Int) + (i : Int) = (i : Int) by omega] at A4
      replace A4 : At K (wo φ l) (fun H => J' H ∧ But (wo φ l) H4 H) (ρ0 (some (.int (i : Int))) o8 o9) σ' H' := A4
      dsimp only
      refine st_for A4 (it_range2 (ea_cons (ev_add (ev_var rfl) ev_int) (ea_cons (ev_lenL (ds := ow.map D.int) (ev_var rfl)) ea_nil)) (by rw [List.length_map]; omega)) (fun j ρ' J' => ∃ o8 o9, LivS K (wo φ l) J' l HO.lst ((demI ls ow ow.length i ++ (blockI ls ow ow.length i).take j).map rowD) ∧ (∀ H', J' H' → Same H H') ∧ (∀ H', J' H' → But (wo φ l) H4 H') ∧ ρ' = ρ0 (some (.int (i : Int))) o8 o9) ⟨o8, o9, by rw [List.take_zero, List.append_nil]; exact L4.but, fun H' h => hb4 H' h.1, fun H' h => h.2, rfl⟩ ?_ ?_
      · rintro H5 j x ρ' J5 b5 j5 hx ⟨o8, o9, L5, hb5, hbb5, rfl⟩ σ5 H6 A5
        rw [rangeD_get, List.length_map] at hx
        split at hx
        · rename_i hj
          cases hx
          have hj' : i + 1 + j < ow.length := by omega
          rw [show (i : Int) + 1 + (j : Int) = ((i + 1 + j : Nat) : Int) by omega] at A5
          replace A5 : At K (wo φ l) (fun H => J5 H ∧ But (wo φ l) H5 H) (ρ0 (some (.int (i : Int))) (some (.int ((i + 1 + j : Nat) : Int))) o9) σ5 H6 := A5
          have oi : ∀ {J : Hp → Prop} {o8 o9}, EvD K (wo φ l) J (tOp (rIxL K) (tVar 2) (tVar 7)) (ρ0 (some (.int (i : Int))) o8 o9) (.int (ow.getD i 0)) := fun {J o8 o9} => ev_ixL (ev_var rfl) (ev_var rfl) (getD_at hi')
          have oj : ∀ {J : Hp → Prop} {o9}, EvD K (wo φ l) J (tOp (rIxL K) (tVar 2) (tVar 8)) (ρ0 (some (.int (i : Int))) (some (.int ((i + 1 + j : Nat) : Int))) o9) (.int (ow.getD (i + 1 + j) 0)) := fun {J o9} => ev_ixL (ev_var rfl) (ev_var rfl) (getD_at hj')
          refine q (st_set A5 (ev_eqI oi oj) fun σ7 H7 A7 => ?_)
          replace A7 : At K (wo φ l) (fun H => J5 H ∧ But (wo φ l) H5 H) (ρ0 (some (.int (i : Int))) (some (.int ((i + 1 + j : Nat) : Int))) (some (.bl (decide (ow.getD i 0 = ow.getD (i + 1 + j) 0))))) σ7 H7 := A7
          refine st_appS (P := fun d => d = rowD (rowOf ls ow i j)) A7 L5.but rfl ((ev_tup (ea_cons (ev_var rfl) (ea_cons (ev_var rfl) (ea_cons (x := .int (needI ls ow i (i + 1 + j))) (ev_if (et_B (ev_var rfl)) (fun h => ev_int.is ?_) (fun h => (ev_callD (ea_cons (ev_var rfl) (ea_cons oi (ea_cons oj ea_nil))) ⟨n, _, _, ls, rfl, rfl⟩).is ?_)) ea_nil)))).is ?_) ?_ fun d J8 H8 hd W8 L8 A8 => ?_
          · unfold needI
            rw [if_pos (of_decide_eq_true h.symm)]
          · unfold needI
            rw [if_neg (of_decide_eq_false h.symm)]
          · unfold rowD rowOf
            rw [show ((i + 1 + j : Nat) : Int) = (i : Int) + 1 + (j : Int) by omega]
          · rw [List.length_map, List.length_append, List.length_take]
            have e : (blockI ls ow ow.length i).length = ow.length - (i + 1) := by unfold blockI; rw [List.length_map, List.length_range]
            omega
          · subst hd
            have hb8 := W8.base _ (fun H h => h.2) (Stab.but (.inl L5.np))
            refine ⟨_, J8, ⟨_, _, ?_, W8.base _ (fun H h => hb5 H h.1) sb, W8.base _ (fun H h => hbb5 H h.1) (Stab.but (.inl L5.np)), rfl⟩, A8.live ⟨A8.j, hb8 _ A8.j⟩ (A8.mono.and (Mo.but (hb8 _ A8.j).tr))⟩
            have e : (blockI ls ow ow.length i)[j]? = some (rowOf ls ow i j) := by
              unfold blockI
              rw [List.getElem?_map, List.getElem?_range (by omega)]
              rfl
            rw [List.take_add_one, e]
            show LivS K (wo φ l) J8 l HO.lst ((demI ls ow ow.length i ++ ((blockI ls ow ow.length i).take j ++ [rowOf ls ow i j])).map rowD)
            rw [← List.append_assoc, List.map_append]
            exact L8
        · cases hx
      · rintro H5 ρ' J5 σ5 H6 b5 j5 ⟨o8, o9, L5, hb5, hbb5, rfl⟩ A5
        rw [rangeD_length, List.length_map] at L5
        refine ⟨_, fun H => J5 H ∧ But (wo φ l) H5 H, ⟨_, o8, o9, ?_, fun H h => hb5 H h.1, rfl⟩, A5.live ⟨A5.j, hbb5 _ A5.j.1⟩ (A5.mono.and (Mo.but (hbb5 _ A5.j.1).tr))⟩
        rw [demI_succ]
        rw [List.take_of_length_le (by unfold blockI; rw [List.length_map, List.length_range]; omega)] at L5
        exact L5.but
    · cases hx
  · rintro H4 ρ' J' σ' H' b4 j4 ⟨o7, o8, o9, L4, hb4, rfl⟩ A4
    rw [rangeD_length, List.length_map, Int.toNat_natCast] at L4
    have A5 := L4.but.freeze N1.fr A4 (k := 6) rfl
    replace A5 : At K φ (fun H_1 => (J' H_1 ∧ But (wo φ l) H4 H_1) ∧ But φ H' H_1) [some (sepD n ls), some (.lst (loads.map D.int)), some (.lst (ow.map D.int)), none, none, none, some (.lst ((demI ls ow ow.length ow.length).map rowD)), o7, o8, o9] σ' H' := A5
    refine st_ret A5 (ev_callX (R := RMade) (d := sepD loads.sum ((demI ls ow ow.length ow.length).filter posB)) (ea_cons (ev_lenL (ds := ow.map D.int) (ev_var rfl)) (ea_cons (ev_var rfl) ea_nil)) ⟨(ow.length : Int), demI ls ow ow.length ow.length, by rw [List.length_map], demI_good hls ow ow.length hol24, by rw [hol]⟩) fun v d H7 e A7 rr => hrt _ rfl v H7 (hb4 _ A7.j.1.1) ?_
    subst e
    exact rr
end

/-! ### grade -/
section
variable {K : PySem.W.Frag} {φ φ' : Addr → Prop} {J J' : Hp → Prop} {H H' H1 : Hp} {ρ ρ' : List (Option D)} {σ : L2.St} {E : XK} {c : Addr}
/-- the first element raises -/
theorem rs_lc0 {wi : TI} {g : TG} {te : TE} {ws us : List Nat} {post : List D} {d : D} {ρd : List (Option D)} (hi : IterD K φ J wi ρ (d :: post)) (hu : ∀ i ∈ us, i ∈ ws) (hg : EvG K g d (wipeR ρ ws) ρd us)
    (hr : ∀ φ' J', Ext φ J φ' J' → Rs K φ' J' te ρd (XW E) c) : Rs K φ J (tLc wi g tYes te ws) ρ (XW E) c := fun σ H A kx Q => by
  refine hi σ H A _ fun J0 ds H1 b1 A1 pd w => ?_
  subst pd
  intro D0 hD
  have neP : ∀ p s ns, Pooled φ J p s ns → p ≠ D0 := fun p s ns hp => by
    obtain ⟨a1, a2, a3, a4, h1, _⟩ := hp.ok _ A1.j
    exact ne_of_none h1 hD
  let φ' : Addr → Prop := fun a => φ a ∧ a ≠ D0
  have ext : ∀ acc : List V, Ext φ J φ' (fun H => J H ∧ H D0 = some (.lst acc)) := fun acc => ⟨fun _ h => h.1, fun p s ns hp => ⟨fun z => hp.np z.1, hp.ne, fun H h => hp.ok H h.1, fun H H' h k o => ⟨hp.st H H' h.1 k o, k _ _ (neP p s ns hp).symm h.2⟩⟩, fun a p h => ⟨p, fun e => h H1 A1.j (by rw [e]; exact hD)⟩⟩
  have mono : ∀ (acc : List V) (H2 : Hp), (∀ a, H1 a ≠ none → H2 a ≠ none) → H2 D0 ≠ none → Mo H2 (fun H => J H ∧ H D0 = some (.lst acc)) := fun acc H2 s h => (A1.mono.up s).and (Mo.at h)
  refine ⟨fun i m H2 => m = 1 ∧ i = 0 ∧ But φ H1 H2 ∧ At K φ' (fun H => J H ∧ H D0 = some (.lst [])) (wipeR ρ ws) (L2.wipe σ ws) H2, ⟨1, rfl, rfl, But.of (same_new hD), ?_⟩, ?_⟩
  · have A2 := A1.newLive (o := .lst []) (J' := fun H => J H ∧ H D0 = some (.lst [])) hD ⟨A1.mono _ _ (fun a o _ e => same_new hD a o e) A1.j, upd_same⟩ (mono [] _ upd_tr (by rw [upd_same]; exact fun z => by cases z))
    exact ⟨A2.sr.wipe ws, A2.fr, A2.j, A2.mono⟩
  · rintro i m H2 ⟨rfl, rfl, b2, A2⟩
    have upw : Up φ φ' H1 H2 := fun a o p e => ⟨⟨p, ne_of_none e hD⟩, b2.keep a o p e⟩
    obtain ⟨wg, _⟩ := w φ' 0 H2 upw A2.fr
    obtain ⟨go, yl⟩ := wg d rfl
    refine .inr ⟨go, fun _ => False, fun _ z => z.elim, ?_⟩
    intro x H3 hy
    obtain ⟨s3, r3⟩ := yl x H3 hy
    have A3 := A2.same s3
    have b3 : But φ H1 H3 := b2.trans (But.of s3)
    refine hg φ' _ _ H3 x A3 r3 _ fun σ4 A4 hw4 => ⟨?_, ?_⟩
    · rw [hw4 ws hu]
      exact wipe_wipe ws
    · show tYes _ _ _
      refine hr φ' _ (ext []) σ4 H3 A4 (fun H' b' A' => ?_) _
      have bb : But φ H1 H' := ⟨fun a o p e => b'.keep a o ⟨p, ne_of_none e hD⟩ (b3.keep a o p e), fun a h => b'.tr a (b3.tr a h)⟩
      exact kx H' (b1.trans bb) ⟨A1.sr.up (Up.of bb), A'.fr.fst, A'.j.1, A1.mono.up bb.tr⟩
end
def Stops (a b p q n : Nat) : Prop := n ≤ 30 ∧ (∀ i, i < n → p * (blk a b i).2 < (blk a b i).1 * q) ∧ (blk a b n).1 * q ≤ p * (blk a b n).2
structure GA where
  n : Int
  c : Int
  ls : List Row
  prs : List (Nat × Nat)
  p : Nat
  q : Nat
  cf : Nat × Nat → Nat
def prD (x : Nat × Nat) : D := .tup [.int x.1, .int x.2]
def GA.args (X : GA) : List D := [sepD X.n X.ls, .lst (X.prs.map prD), .int X.c, .int X.p, .int X.q]
def GA.loads (X : GA) : List Int := X.prs.map fun x => max 1 (X.cf x : Int)
def GA.rows (X : GA) : List Row := (demI X.ls (ownI 0 X.loads) (ownI 0 X.loads).length (ownI 0 X.loads).length).filter posB
structure GA.ok (X : GA) : Prop where
  sep : SepG X.n X.ls
  c0 : 0 ≤ X.c
  c1 : X.c ≤ 100
  p1 : X.p ≤ 1000
  q1 : X.q ≤ 1000
  st : ∀ x ∈ X.prs, x.1 ≤ 120 ∧ 0 < x.2 ∧ x.2 ≤ 9 ∧ Stops x.1 x.2 X.p X.q (X.cf x)
  lo : X.loads.sum ≤ 24
  len : X.prs.length ≤ 24
def GA.post (X : GA) (d : D) : Prop := (∃ ws : List Int, d = .tup [.str "plan", .tup (ws.map D.int)] ∧ PlanL X.loads.sum X.rows X.c ws) ∨ ∃ t, d = .tup [.str "refusal", t] ∧ Rt X.loads.sum X.rows X.c (fun _ => none) t
theorem GA.loadsOk {X : GA} (h : X.ok) : loadsOk X.loads := ⟨by unfold GA.loads; rw [List.length_map]; have := h.len; omega, fun l hl => by
  unfold GA.loads at hl
  obtain ⟨x, hx, rfl⟩ := List.mem_map.mp hl
  have := (h.st x hx).2.2.2.1
  omega⟩
theorem GA.sepG {X : GA} (h : X.ok) : SepG X.loads.sum X.rows := by
  have hk := GA.loadsOk h
  have hl := ownI_len 0 X.loads fun l hl => (hk.2 l hl).1
  have lo := h.lo
  have hm : (ownI 0 X.loads).length ≤ 24 := by omega
  have hls : ∀ r ∈ X.ls, 0 ≤ r.2.2 ∧ r.2.2 ≤ 9 := fun r hr => by have := h.sep.rows r hr; omega
  have g := demI_good hls (ownI 0 X.loads) (ownI 0 X.loads).length hm
  have s0 := sum_le hk.2
  unfold GA.rows
  refine ⟨s0.1, lo, fun r hr => ?_, ?_, ?_⟩
  · obtain ⟨h1, h2⟩ := List.mem_filter.mp hr
    have h3 : 0 < r.2.2 := of_decide_eq_true h2
    have := g.rows r h1
    omega
  · exact List.Pairwise.sublist (List.Sublist.map _ List.filter_sublist) g.asc
  · have h1 := demI_len X.ls (ownI 0 X.loads) (ownI 0 X.loads).length (ownI 0 X.loads).length
    have h2 := List.length_filter_le posB (demI X.ls (ownI 0 X.loads) (ownI 0 X.loads).length (ownI 0 X.loads).length)
    have h3 : (ownI 0 X.loads).length * (ownI 0 X.loads).length ≤ 24 * 24 := Nat.mul_le_mul hm hm
    omega
section
variable {P : Program} {w : World} {K : PySem.W.Frag} {mg : Str → Option Value} {base : Heap}
theorem sc_grade : FnScope ["separations", "offered", "channels", "p", "q", "loads", "a", "b", "word", "found"] ["separations", "offered", "channels", "p", "q"] (defScope s_grade) := ⟨rfl, rfl, rfl, by decide +kernel, rfl, by decide +kernel, by decide +kernel⟩
abbrev SpGrade (K : PySem.W.Frag) (C0 : Addr) : Sp := fun vs H Q E => ∃ X : GA, SpS K C0 q0 posS 5 (fun ds => ds = X.args ∧ X.ok) (fun _ d => X.post d) vs H Q E
theorem ok_grade_t (B : Bi mg) {C0 c1 c2 : Addr} {f g1 g2 g3 : Addr} {fd gd1 gd2 gd3 : FuncData} (F : Fun K "grade" "grade" s_grade f fd)
    (L_channels_for : Lk K mg "channels_for" g1 gd1 ["a", "b", "p", "q"]) (G_channels_for : FnOk P w K mg base (L2.CX P w) 2 g1 gd1 ["a", "b", "p", "q"] (SpX K 4 (RCh c1)))
    (L_demands : Lk K mg "demands" g2 gd2 ["separations", "loads"]) (G_demands : FnOk P w K mg base (L2.CX P w) 5 g2 gd2 ["separations", "loads"] (SpX K 2 (RDem c2)))
    (L_solved : Lk K mg "solved" g3 gd3 ["separations", "channels"]) (G_solved : FnOk P w K mg base CX0 160 g3 gd3 ["separations", "channels"] (SpS K C0 q0 posS 2 PSolved RSolved)) :
    FnOk P w K mg base (L2.CX P w) 162 f fd ["separations", "offered", "channels", "p", "q"] (SpGrade K C0) := by
  have S := sc_grade
  refine fn_ghost fun X => fn_okSX (k := 161) F S rfl 5 rfl fun cdv A outer s H E hr => ⟨_, ((pss_cons (ps_setLcX (i := 5) (own := [("a", 6), ("b", 7)]) (g := (gTup K 2 (gCons (gName 6) (gCons (gName 7) gNil)))) (tt := tYes) (takesL (takes_of rfl rfl rfl rfl) rfl rfl) (by rfl) S.nd rfl rfl (sw_true rfl rfl rfl (by decide +kernel)) (pi_list (pv 1)) (blkOk_by (N := ["separations", "offered", "channels", "p", "q", "loads", "a", "b", "word", "found"]) (sc := defScope s_grade) (own := [("a", 6), ("b", 7)]) (by decide +kernel)) (fun _ _ _ _ _ => (pg_tup (by rfl) (pgs_cons (pg_name (i := 6) S.nd rfl (by first | exact Or.inl rfl | exact Or.inr rfl)) (pgs_cons (pg_name (i := 7) S.nd rfl (by first | exact Or.inl rfl | exact Or.inr rfl)) pgs_nil)))) (fun _ _ _ _ _ => pts_nil) (fun _ _ _ _ _ xe tk => (pe_callB (c_max2 rfl) (by rfl) B.max (by decide +kernel) (pa_cons pe_int (pa_cons (pe_callS G_channels_for (hr.mono (by first | exact Nat.le_refl _ | decide | omega)) (by rfl) L_channels_for.m L_channels_for.kp L_channels_for.bi (fun σ => passAtL tk σ) (pa_cons (pv 6) (pa_cons (pv 7) (pa_cons (pv 3) (pa_cons (pv 4) pa_nil))))) pa_nil)))))
 (pss_cons (ps_asg (pe_call G_solved (hr.mono (by first | exact Nat.le_refl _ | decide | omega)) (by rfl) L_solved.m L_solved.kp L_solved.bi .nil pass0 (pa_cons (pe_callS G_demands (hr.mono (by first | exact Nat.le_refl _ | decide | omega)) (by rfl) L_demands.m L_demands.kp L_demands.bi (fun σ => passAt (takes_of rfl rfl rfl rfl) σ) (pa_cons (pv 0) (pa_cons (pv 5) pa_nil))) (pa_cons (pv 2) pa_nil))) (pg_tup (by rfl) (pgs_cons (pg_name (i := 8) S.nd rfl (by first | exact Or.inl rfl | exact Or.inr rfl)) (pgs_cons (pg_name (i := 9) S.nd rfl (by first | exact Or.inl rfl | exact Or.inr rfl)) pgs_nil))))
 (pss_one (ps_ret (pe_ifExp (pt_cmpR op_eq (pv 8) pe_str (nomark _)) (pe_tup (pa_cons pe_str (pa_cons (pv 9) pa_nil))) (pe_tup (pa_cons (pv 8) (pa_cons (pv 9) pa_nil))))))))), fun φ ds H tb D0 σ hl hP np tj hrt A => ?_⟩
  obtain ⟨rfl, ok⟩ := hP
  obtain ⟨n, c, ls, prs, p, q', cf⟩ := X
  have c0 := ok.c0
  have c1 := ok.c1
  have hlen : prs.length ≤ 24 := ok.len
  have hst := ok.st
  have hsep := GA.sepG ok
  have hlo := GA.loadsOk ok
  have h24 := ok.lo
  replace A : At K φ (Same H) [some (sepD n ls), some (.lst (prs.map prD)), some (.int c), some (.int p), some (.int q'), none, none, none, none, none] σ H := A
  generalize hX : (GA.mk n c ls prs p q' cf) = X at hsep hlo h24 hrt
  have hloads : prs.map (fun x => max 1 (cf x : Int)) = X.loads := by rw [← hX]; rfl
  have hrows : X.rows = (demI ls (ownI 0 X.loads) (ownI 0 X.loads).length (ownI 0 X.loads).length).filter posB := by rw [← hX]; rfl
  have hls : ∀ r ∈ ls, 0 ≤ r.2.2 ∧ r.2.2 ≤ 9 := fun r hr => by have := ok.sep.rows r hr; omega
  refine q (st_set (d := .lst (X.loads.map D.int)) A ((ev_lcT2 (p := fun _ => true) (f := fun d => match d with | .tup [.int a, .int b] => .int (max 1 (cf (a.toNat, b.toNat) : Int)) | _ => .non) (it_list (ev_var rfl)) (by rw [List.length_map]; omega) (fun d hd => ?_) (fun a b hd φ' J' hx => et_yes) (fun a b hd hp φ' J' hx => ?_)).is ?_) fun σ1 H1 A1 => ?_)
  · obtain ⟨x, _, rfl⟩ := List.mem_map.mp hd
    exact ⟨_, _, rfl⟩
  · obtain ⟨x, hx', e⟩ := List.mem_map.mp hd
    have e : D.tup [.int x.1, .int x.2] = D.tup [a, b] := e
    injection e with e
    obtain ⟨e1, e⟩ := List.cons.inj e
    obtain ⟨e2, _⟩ := List.cons.inj e
    subst e1 e2
    obtain ⟨h1, h2, h3, h4, h5, h6⟩ := hst x hx'
    exact ev_max2 (i := 1) (j := (cf x : Int)) ev_int (ev_callX (ea_cons (ev_var rfl) (ea_cons (ev_var rfl) (ea_cons (ev_var rfl) (ea_cons (ev_var rfl) ea_nil)))) ⟨x.1, x.2, p, q', 30, rfl, chok_small h1 h2 h3 ok.p1 ok.q1, .inl ⟨cf x, h4, Nat.le_refl _, h5, h6, rfl⟩⟩)
  · rw [← hloads, List.filter_eq_self.mpr fun _ _ => rfl, List.map_map, List.map_map]
    rfl
  replace A1 : At K φ (Same H) [some (sepD n ls), some (.lst (prs.map prD)), some (.int c), some (.int p), some (.int q'), some (.lst (X.loads.map D.int)), none, none, none, none] σ1 H1 := A1
  have hdem : RDem c2 [sepD n ls, .lst (X.loads.map D.int)] (.inl (sepD X.loads.sum X.rows)) := ⟨n, ls, X.loads, rfl, hls, hlo, by rw [if_neg (by omega), hrows]⟩
  dsimp only
  refine q (st_callS (us := [8, 9]) (ρ2 := fun d => match d with | .tup [a, b] => [some (sepD n ls), some (.lst (prs.map prD)), some (.int c), some (.int p), some (.int q'), some (.lst (X.loads.map D.int)), none, none, some a, some b] | _ => []) A1 np tj (ea_cons (ev_callX (ea_cons (ev_var rfl) (ea_cons (ev_var rfl) ea_nil)) hdem) (ea_cons (ev_var rfl) ea_nil)) ⟨_, c, X.rows, rfl, hsep, c0, c1⟩ (fun d hd => ?_) fun d ps' σ2 H2 hd A2 => ?_)
  · rcases hd _ c _ rfl with ⟨ws, rfl, _⟩ | ⟨t, rfl, _⟩
    · exact eg_tup (ds := [.str "assignment", .tup (ws.map D.int)]) (egs_cons eg_name (egs_cons eg_name egs_nil))
    · exact eg_tup (ds := [.str "refusal", t]) (egs_cons eg_name (egs_cons eg_name egs_nil))
  dsimp only
  have hc : X.c = c := by rw [← hX]
  rcases hd _ c _ rfl with ⟨ws, rfl, hw⟩ | ⟨t, rfl, ht⟩
  · replace A2 : At K φ (JF C0 q0 posS H ps') [some (sepD n ls), some (.lst (prs.map prD)), some (.int c), some (.int p), some (.int q'), some (.lst (X.loads.map D.int)), none, none, some (.str "assignment"), some (.tup (ws.map D.int))] σ2 H2 := A2
    refine st_ret A2 (P := fun z => z = .tup [.str "plan", .tup (ws.map D.int)]) (ev_if (et_test (ev_eqS (s := "assignment") (t := "assignment") (ev_var rfl) ev_str)) (fun _ => ev_tup (ea_cons ev_str (ea_cons (ev_var rfl) ea_nil))) (fun h => ?_)) fun v d H6 e A6 rr => hrt v d ps' H6 (.inl ⟨ws, e, hc ▸ hw⟩) A6.j rr
    exact absurd h (by decide)
  · replace A2 : At K φ (JF C0 q0 posS H ps') [some (sepD n ls), some (.lst (prs.map prD)), some (.int c), some (.int p), some (.int q'), some (.lst (X.loads.map D.int)), none, none, some (.str "refusal"), some t] σ2 H2 := A2
    refine st_ret A2 (P := fun z => z = .tup [.str "refusal", t]) (ev_if (et_test (ev_eqS (s := "refusal") (t := "assignment") (ev_var rfl) ev_str)) (fun h => ?_) (fun _ => ev_tup (ea_cons (ev_var rfl) (ea_cons (ev_var rfl) ea_nil)))) fun v d H6 e A6 rr => hrt v d ps' H6 (.inr ⟨t, e, hc ▸ ht⟩) A6.j rr
    exact absurd h (by decide)
/-- the two calls that raise -/
def RGradeX (c1 c2 : Addr) : List D → D ⊕ Addr → Prop := fun ds o => (ds = [sepD 2 [], .lst [prD (1, 2), prD (1, 1)], .int 3, .int 0, .int 1] ∧ o = .inr c1) ∨ (ds = [sepD 2 [], .lst [prD (20, 1), prD (20, 1)], .int 3, .int 1, .int 9] ∧ o = .inr c2)
theorem stops20 : ∃ n, 13 ≤ n ∧ Stops 20 1 1 9 n := by
  refine ⟨(List.range 31).find? (fun n => decide ((blk 20 1 n).1 * 9 ≤ 1 * (blk 20 1 n).2)) |>.getD 0, ?_, ?_, ?_, ?_⟩
  · decide +kernel
  · decide +kernel
  · decide +kernel
  · decide +kernel
theorem ok_grade_x (B : Bi mg) {C0 c1 c2 : Addr} {f g1 g2 g3 : Addr} {fd gd1 gd2 gd3 : FuncData} (F : Fun K "grade" "grade" s_grade f fd)
    (L_channels_for : Lk K mg "channels_for" g1 gd1 ["a", "b", "p", "q"]) (G_channels_for : FnOk P w K mg base (L2.CX P w) 2 g1 gd1 ["a", "b", "p", "q"] (SpX K 4 (RCh c1)))
    (L_demands : Lk K mg "demands" g2 gd2 ["separations", "loads"]) (G_demands : FnOk P w K mg base (L2.CX P w) 5 g2 gd2 ["separations", "loads"] (SpX K 2 (RDem c2)))
    (L_solved : Lk K mg "solved" g3 gd3 ["separations", "channels"]) (G_solved : FnOk P w K mg base CX0 160 g3 gd3 ["separations", "channels"] (SpS K C0 q0 posS 2 PSolved RSolved)) :
    FnOk P w K mg base (L2.CX P w) 162 f fd ["separations", "offered", "channels", "p", "q"] (SpX K 5 (RGradeX c1 c2)) := by
  have S := sc_grade
  refine fn_okX (k := 161) F S rfl 5 rfl fun cdv A outer s H E hr => ⟨_, ((pss_cons (ps_setLcX (i := 5) (own := [("a", 6), ("b", 7)]) (g := (gTup K 2 (gCons (gName 6) (gCons (gName 7) gNil)))) (tt := tYes) (takesL (takes_of rfl rfl rfl rfl) rfl rfl) (by rfl) S.nd rfl rfl (sw_true rfl rfl rfl (by decide +kernel)) (pi_list (pv 1)) (blkOk_by (N := ["separations", "offered", "channels", "p", "q", "loads", "a", "b", "word", "found"]) (sc := defScope s_grade) (own := [("a", 6), ("b", 7)]) (by decide +kernel)) (fun _ _ _ _ _ => (pg_tup (by rfl) (pgs_cons (pg_name (i := 6) S.nd rfl (by first | exact Or.inl rfl | exact Or.inr rfl)) (pgs_cons (pg_name (i := 7) S.nd rfl (by first | exact Or.inl rfl | exact Or.inr rfl)) pgs_nil)))) (fun _ _ _ _ _ => pts_nil) (fun _ _ _ _ _ xe tk => (pe_callB (c_max2 rfl) (by rfl) B.max (by decide +kernel) (pa_cons pe_int (pa_cons (pe_callS G_channels_for (hr.mono (by first | exact Nat.le_refl _ | decide | omega)) (by rfl) L_channels_for.m L_channels_for.kp L_channels_for.bi (fun σ => passAtL tk σ) (pa_cons (pv 6) (pa_cons (pv 7) (pa_cons (pv 3) (pa_cons (pv 4) pa_nil))))) pa_nil)))))
 (pss_cons (ps_asg (pe_call G_solved (hr.mono (by first | exact Nat.le_refl _ | decide | omega)) (by rfl) L_solved.m L_solved.kp L_solved.bi .nil pass0 (pa_cons (pe_callS G_demands (hr.mono (by first | exact Nat.le_refl _ | decide | omega)) (by rfl) L_demands.m L_demands.kp L_demands.bi (fun σ => passAt (takes_of rfl rfl rfl rfl) σ) (pa_cons (pv 0) (pa_cons (pv 5) pa_nil))) (pa_cons (pv 2) pa_nil))) (pg_tup (by rfl) (pgs_cons (pg_name (i := 8) S.nd rfl (by first | exact Or.inl rfl | exact Or.inr rfl)) (pgs_cons (pg_name (i := 9) S.nd rfl (by first | exact Or.inl rfl | exact Or.inr rfl)) pgs_nil))))
 (pss_one (ps_ret (pe_ifExp (pt_cmpR op_eq (pv 8) pe_str (nomark _)) (pe_tup (pa_cons pe_str (pa_cons (pv 9) pa_nil))) (pe_tup (pa_cons (pv 8) (pa_cons (pv 9) pa_nil))))))))), fun φ ds o H D0 σ hl hR hrt hex A => ?_⟩
  rcases hR with ⟨rfl, rfl⟩ | ⟨rfl, rfl⟩
  · replace A : At K φ (Same H) [some (sepD 2 []), some (.lst [prD (1, 2), prD (1, 1)]), some (.int 3), some (.int 0), some (.int 1), none, none, none, none, none] σ H := A
    refine q (st_rs A (rs_lc0 (E := E) (c := c1) (us := [6, 7]) (ρd := [some (sepD 2 []), some (.lst [prD (1, 2), prD (1, 1)]), some (.int 3), some (.int 0), some (.int 1), none, some (.int 1), some (.int 2), none, none]) (it_list (ev_var rfl)) (by simp) (eg_tup (ds := [.int 1, .int 2]) (egs_cons eg_name (egs_cons eg_name egs_nil))) fun φ' J' hx => ?_) fun H2 b A2 => hex c1 rfl H2 A2.j)
    exact fun σ H A k Q => (ev_int (i := 1)) σ H A _ fun v d H1 b1 A1 e r => (rs_call (c := c1) (W := XW E) (ea_cons (ev_var (d := .int 1) rfl) (ea_cons (ev_var (d := .int 2) rfl) (ea_cons (ev_var (d := .int 0) rfl) (ea_cons (ev_var (d := .int 1) rfl) ea_nil)))) ⟨1, 2, 0, 1, 400, rfl, chok_one (by decide) (by decide) (by decide) (by decide), .inr ⟨rfl, fun i hi => by
      have := blk_one_pos (b := 2) (by decide) i
      omega, rfl⟩⟩) σ H1 A1 (fun H' b' A' => k H' (b1.trans b') A') _
  · replace A : At K φ (Same H) [some (sepD 2 []), some (.lst [prD (20, 1), prD (20, 1)]), some (.int 3), some (.int 1), some (.int 9), none, none, none, none, none] σ H := A
    obtain ⟨n, n13, hs1, hs2, hs3⟩ := stops20
    refine q (st_set (d := .lst (([n, n] : List Int).map D.int)) A ((ev_lcT2 (p := fun _ => true) (f := fun d => .int n) (it_list (ev_var rfl)) (by decide) (fun d hd => ?_) (fun a b hd φ' J' hx => et_yes) (fun a b hd hp φ' J' hx => ?_)).is ?_) fun σ1 H1 A1 => ?_)
    · have e : d = prD (20, 1) := by simpa using hd
      exact ⟨_, _, e⟩
    · have e : D.tup [a, b] = prD (20, 1) := by simpa using hd
      have e : D.tup [a, b] = .tup [.int 20, .int 1] := e
      injection e with e
      obtain ⟨e1, e⟩ := List.cons.inj e
      obtain ⟨e2, _⟩ := List.cons.inj e
      subst e1 e2
      refine (ev_max2 (i := 1) (j := (n : Int)) ev_int (ev_callX (ea_cons (ev_var rfl) (ea_cons (ev_var rfl) (ea_cons (ev_var rfl) (ea_cons (ev_var rfl) ea_nil)))) ⟨20, 1, 1, 9, 30, rfl, chok_small (by decide) (by decide) (by decide) (by decide) (by decide), .inl ⟨n, hs1, Nat.le_refl _, hs2, hs3, rfl⟩⟩)).is ?_
      rw [show max 1 (n : Int) = n by omega]
    · rw [List.filter_eq_self.mpr fun _ _ => rfl]
      rfl
    replace A1 : At K φ (Same H) [some (sepD 2 []), some (.lst [prD (20, 1), prD (20, 1)]), some (.int 3), some (.int 1), some (.int 9), some (.lst (([n, n] : List Int).map D.int)), none, none, none, none] σ1 H1 := A1
    have hdem : RDem c2 [sepD 2 [], .lst (([n, n] : List Int).map D.int)] (.inr c2) := ⟨2, [], [n, n], rfl, (fun r h => nomatch h), ⟨Nat.le_of_ble_eq_true rfl, fun l hl => by
      have e : l = (n : Int) := by simpa using hl
      omega⟩, by
        have e : ([n, n] : List Int).sum = (n : Int) + n := by simp
        rw [if_pos (by rw [e]; omega)]⟩
    dsimp only
    refine q ((rs_call (c := c2) (W := XW E) (ea_cons (ev_var (d := sepD 2 []) rfl) (ea_cons (ev_var (d := .lst (([n, n] : List Int).map D.int)) rfl) ea_nil)) hdem) _ _ A1 (fun H2 b A2 => hex c2 rfl H2 A2.j) _)
end

/-! ### _law_members; sorted lists of ints -/
section
variable {P : Program} {w : World} {K : PySem.W.Frag} {mg : Str → Option Value} {base : Heap}
theorem pi_or {X : Cx} {tg e : Expr} {w1 w2 : TI} (h1 : PI X tg e w1) (h2 : PI X tg e w2) : PI X tg e (fun σ H R => w1 σ H R ∨ w2 σ H R) := ⟨fun pins s σ H R I h => h.elim (h1.run pins s σ H R I) (h2.run pins s σ H R I)⟩
theorem it_or1 {φ : Addr → Prop} {J : Hp → Prop} {ρ : List (Option D)} {w1 w2 : TI} {Pi : List D → Prop} (h : IterP K φ J w1 ρ Pi) : IterP K φ J (fun σ H R => w1 σ H R ∨ w2 σ H R) ρ Pi := fun σ H A R q => .inl (h σ H A R q)
theorem it_or2 {φ : Addr → Prop} {J : Hp → Prop} {ρ : List (Option D)} {w1 w2 : TI} {Pi : List D → Prop} (h : IterP K φ J w2 ρ Pi) : IterP K φ J (fun σ H R => w1 σ H R ∨ w2 σ H R) ρ Pi := fun σ H A R q => .inr (h σ H A R q)
/-- a list's or tuple's members, none of another value -/
def memD (x : D) : D := .lst ((seqOf x).getD [])
def isDct : D → Bool
  | .dk _ _ => true
  | .dt _ _ => true
  | _ => false
def RMem : List D → D → Prop := fun ds r => ∃ x, ds = [x] ∧ (isRaw x || isDct x) = false ∧ ((seqOf x).getD []).length ≤ 1000000 ∧ r = memD x
theorem sc__law_members : FnScope ["value", "row"] ["value"] (defScope s__law_members) := ⟨rfl, rfl, rfl, by decide +kernel, rfl, by decide +kernel, by decide +kernel⟩
theorem ok__law_members (B : Bi mg) {f : Addr} {fd : FuncData} (F : Fun K "_law_members" "_law_members" s__law_members f fd) : FnOk P w K mg base CX0 1 f fd ["value"] (SpD K 1 RMem) := by
  have S := sc__law_members
  refine fn_ok F S rfl 1 rfl fun cdv A outer s H E hr => ⟨_, ((pss_cons (ps_if (PW.pt (pw_or (pt_val (pe_callB call_isi (by rfl) B.isinstance (by decide +kernel) (pa_cons (pv 0) (pa_cons (pe_ty (n := "list") B.list (by decide +kernel)) pa_nil)))) (pw_or (pt_val (pe_callB call_isi (by rfl) B.isinstance (by decide +kernel) (pa_cons (pv 0) (pa_cons (pe_ty (n := "tuple") B.tuple (by decide +kernel)) pa_nil)))) (pw_or1 (pt_val (pe_callB call_isi (by rfl) B.isinstance (by decide +kernel) (pa_cons (pv 0) (pa_cons (pe_ty (n := "dict") B.dict (by decide +kernel)) pa_nil))))))))
 (pss_one (ps_ret (pe_lc (own := [("row", 1)]) (g := (gName 1)) (tt := tYes) (by rfl) S.nd (pi_or (pi_list (pv 0)) (pi_tup (pv 0))) (blkOk_by (N := ["value", "row"]) (sc := defScope s__law_members) (own := [("row", 1)]) (by decide +kernel)) (fun _ _ _ _ _ => (pg_name (i := 1) S.nd rfl (by first | exact Or.inl rfl | exact Or.inr rfl))) (fun _ _ _ _ _ => pts_nil) (fun _ _ _ _ _ => (pv 1)))))
 pss_nil)
 (pss_one (ps_ret (pe_lst pa_nil))))), fun φ ds d H D0 σ hl hR hrt hnx A => ?_⟩
  obtain ⟨x, rfl, hraw', hlen, rfl⟩ := hR
  rw [Bool.or_eq_false_iff] at hraw'
  obtain ⟨hraw, hdk⟩ := hraw'
  replace A : At K φ (Same H) [some x, none] σ H := A
  have isi : ∀ {ρ : List (Option D)} {J : Hp → Prop} {n : String}, ρ[0]? = some (some x) → n ∈ (["tuple", "list", "bool", "int", "str", "dict"] : List String) → EvD K φ J (tCB (rIsi K) (tCons (tVar 0) (tCons (tC (.ty n)) tNil))) ρ (.bl (isT n x)) := fun h hn => ev_isi (ev_var h) ev_ty hraw hn
  refine q (st_if A (et_or (et_B (isi rfl (by simp))) fun _ => et_or (et_B (isi rfl (by simp))) fun _ => et_B (isi rfl (by simp))) (fun hb H1 A1 => ?_) (fun hb H1 A1 => ?_))
  · cases x with
    | tup es =>
      refine st_ret A1 (ev_lc (f := fun d => d) (it_or2 (it_tup (ev_var rfl))) hlen fun d hd φ' J' hx => ev_var rfl) fun v d' H6 e A6 r => hrt v H6 A6.j ?_
      subst e
      rw [List.map_id'] at r
      exact r
    | lst es =>
      refine st_ret A1 (ev_lc (f := fun d => d) (it_or1 (it_list (ev_var rfl))) hlen fun d hd φ' J' hx => ev_var rfl) fun v d' H6 e A6 r => hrt v H6 A6.j ?_
      subst e
      rw [List.map_id'] at r
      exact r
    | dk ks xs => cases hdk
    | dt ks xs => cases hdk
    | _ => simp [isT, tyD] at hb
  · refine st_next (st_ret A1 (ev_lst ea_nil) fun v d' H6 e A6 r => hrt v H6 A6.j ?_)
    subst e
    cases x with
    | tup es => simp [isT, tyD] at hb
    | lst es => simp [isT, tyD] at hb
    | _ => exact r
end

-- import HandS.TryMany
/-! ### _law_word -/
section
variable {P : Program} {w : World} {K : PySem.W.Frag} {mg : Str → Option Value} {base : Heap}
theorem okq_prs {n : Nat} {prs : List (Nat × Nat)} : okq (n + 2) (.lst (prs.map prD)) = true := by
  show (prs.map prD).all (okq (n + 1)) = true
  rw [List.all_map, List.all_eq_true]
  intro i _
  cases n <;> rfl
theorem sc__law_word : FnScope ["separations", "offered", "channels", "p", "q", "kept_before", "told_answer"] ["separations", "offered", "channels", "p", "q"] (defScope s__law_word) := ⟨rfl, rfl, rfl, by decide +kernel, rfl, by decide +kernel, by decide +kernel⟩
theorem ok__law_word_t (B : Bi mg) {C0 c1 c2 : Addr} (X_NoNumber : ExC K mg "NoNumber" c1) (X_InvalidSeparations : ExC K mg "InvalidSeparations" c2) {f g1 g2 : Addr} {fd gd1 gd2 : FuncData} (F : Fun K "_law_word" "_law_word" s__law_word f fd)
    (L__law_members : Lk K mg "_law_members" g1 gd1 ["value"]) (G__law_members : FnOk P w K mg base CX0 1 g1 gd1 ["value"] (SpD K 1 RMem))
    (L_grade : Lk K mg "grade" g2 gd2 ["separations", "offered", "channels", "p", "q"]) (G_grade : FnOk P w K mg base (L2.CX P w) 162 g2 gd2 ["separations", "offered", "channels", "p", "q"] (SpGrade K C0)) :
    FnOk P w K mg base CX0 163 f fd ["separations", "offered", "channels", "p", "q"] (SpGrade K C0) := by
  have S := sc__law_word
  refine fn_ghost fun X => fn_okS0 (k := 162) F S rfl 2 rfl fun cdv A outer s H E hr => ⟨_, ((pss_one (ps_try_many rfl rfl takes0 (fun W pn xe tk po => (pss_cons (ps_set (i := 5) S.nd rfl (by first | exact Or.inl rfl | exact Or.inr rfl) (pe_call G__law_members (hr.mono (by first | exact Nat.le_refl _ | decide | omega)) (by rfl) L__law_members.m L__law_members.kp L__law_members.bi .nil pass0 (pa_cons (pv 1) pa_nil)))
 (pss_cons (ps_set (i := 6) S.nd rfl (by first | exact Or.inl rfl | exact Or.inr rfl) (pe_callS G_grade (hr.mono (by first | exact Nat.le_refl _ | decide | omega)) (by rfl) L_grade.m L_grade.kp L_grade.bi (fun σ => passAt tk σ) (pa_cons (pv 0) (pa_cons (pv 1) (pa_cons (pv 2) (pa_cons (pv 3) (pa_cons (pv 4) pa_nil)))))))
 (pss_one (ps_ret (pe_ifExp (pt_cmpR (kop_eqD (K := K) (by rfl) hr.units) (pe_call G__law_members (hr.mono (by first | exact Nat.le_refl _ | decide | omega)) (by rfl) L__law_members.m L__law_members.kp L__law_members.bi .nil pass0 (pa_cons (pv 1) pa_nil)) (pv 5) (nomark _)) (pv 6) (pe_tup (pa_cons pe_str pa_nil))))))))
 (HdsOk.cons ⟨(by rfl), by decide, .inl X_NoNumber.m⟩ (fun a oe cls d pn _ _ => (pss_one (ps_ret (pe_tup (pa_cons pe_str pa_nil))))) (HdsOk.cons ⟨(by rfl), by decide, .inl X_InvalidSeparations.m⟩ (fun a oe cls d pn _ _ => (pss_one (ps_ret (pe_tup (pa_cons pe_str pa_nil))))) HdsOk.nil))))), fun φ ds H tb D0 σ hl hP np tj hrt A => ?_⟩
  obtain ⟨rfl, ok⟩ := hP
  have hlen : (X.prs.map prD).length ≤ 1000000 := by rw [List.length_map]; have := ok.len; omega
  replace A : At K φ (Same H) [some (sepD X.n X.ls), some (.lst (X.prs.map prD)), some (.int X.c), some (.int X.p), some (.int X.q), none, none] σ H := A
  have mem : ∀ {φ : Addr → Prop} {J : Hp → Prop} {ρ : List (Option D)} {E : XK}, ρ[1]? = some (some (.lst (X.prs.map prD))) → EvD K φ J (tCall (SpD K 1 RMem) [] E (tCons (tVar 1) tNil)) ρ (.lst (X.prs.map prD)) := fun h => ev_callD (ea_cons (ev_var h) ea_nil) ⟨_, rfl, rfl, hlen, rfl⟩
  refine q (st_set A (mem rfl) fun σ1 H1 A1 => ?_)
  replace A1 : At K φ (Same H) [some (sepD X.n X.ls), some (.lst (X.prs.map prD)), some (.int X.c), some (.int X.p), some (.int X.q), some (.lst (X.prs.map prD)), none] σ1 H1 := A1
  dsimp only
  refine q (st_callGX (us := [6]) (ρ2 := fun d => [some (sepD X.n X.ls), some (.lst (X.prs.map prD)), some (.int X.c), some (.int X.p), some (.int X.q), some (.lst (X.prs.map prD)), some d]) X A1 np tj (ea_cons (ev_var rfl) (ea_cons (ev_var rfl) (ea_cons (ev_var rfl) (ea_cons (ev_var rfl) (ea_cons (ev_var rfl) ea_nil))))) ⟨rfl, ok⟩ (fun d hd => eg_name) fun d ps' σ2 H2 hd A2 => ?_)
  dsimp only
  refine st_ret A2 (P := fun z => z = d) (ev_if (et_test (ev_eqQ (mem rfl) (ev_var rfl) okq_prs okq_prs)) (fun _ => ev_var rfl) (fun h => ?_)) fun v d' H6 e A6 rr => hrt v d' ps' H6 (e ▸ hd) A6.j rr
  rw [eqvD_refl (n := 64) okq_prs] at h
  cases h
def RWordX : List D → D → Prop := fun ds d => (ds = [sepD 2 [], .lst [prD (1, 2), prD (1, 1)], .int 3, .int 0, .int 1] ∧ d = .tup [.str "number"]) ∨ (ds = [sepD 2 [], .lst [prD (20, 1), prD (20, 1)], .int 3, .int 1, .int 9] ∧ d = .tup [.str "separations"])
theorem ok__law_word_x (B : Bi mg) {c1 c2 : Addr} (X_NoNumber : ExC K mg "NoNumber" c1) (X_InvalidSeparations : ExC K mg "InvalidSeparations" c2) (XN : PySem.W.exmOne K (.ref c2) (.ref c1) = some false) {f g1 g2 : Addr} {fd gd1 gd2 : FuncData} (F : Fun K "_law_word" "_law_word" s__law_word f fd)
    (L__law_members : Lk K mg "_law_members" g1 gd1 ["value"]) (G__law_members : FnOk P w K mg base CX0 1 g1 gd1 ["value"] (SpD K 1 RMem))
    (L_grade : Lk K mg "grade" g2 gd2 ["separations", "offered", "channels", "p", "q"]) (G_grade : FnOk P w K mg base (L2.CX P w) 162 g2 gd2 ["separations", "offered", "channels", "p", "q"] (SpX K 5 (RGradeX c1 c2))) :
    FnOk P w K mg base CX0 163 f fd ["separations", "offered", "channels", "p", "q"] (SpD K 5 RWordX) := by
  have S := sc__law_word
  refine fn_ok (k := 162) F S rfl 2 rfl fun cdv A outer s H E hr => ⟨_, ((pss_one (ps_try_many rfl rfl takes0 (fun W pn xe tk po => (pss_cons (ps_set (i := 5) S.nd rfl (by first | exact Or.inl rfl | exact Or.inr rfl) (pe_call G__law_members (hr.mono (by first | exact Nat.le_refl _ | decide | omega)) (by rfl) L__law_members.m L__law_members.kp L__law_members.bi .nil pass0 (pa_cons (pv 1) pa_nil)))
 (pss_cons (ps_set (i := 6) S.nd rfl (by first | exact Or.inl rfl | exact Or.inr rfl) (pe_callS G_grade (hr.mono (by first | exact Nat.le_refl _ | decide | omega)) (by rfl) L_grade.m L_grade.kp L_grade.bi (fun σ => passAt tk σ) (pa_cons (pv 0) (pa_cons (pv 1) (pa_cons (pv 2) (pa_cons (pv 3) (pa_cons (pv 4) pa_nil)))))))
 (pss_one (ps_ret (pe_ifExp (pt_cmpR (kop_eqD (K := K) (by rfl) hr.units) (pe_call G__law_members (hr.mono (by first | exact Nat.le_refl _ | decide | omega)) (by rfl) L__law_members.m L__law_members.kp L__law_members.bi .nil pass0 (pa_cons (pv 1) pa_nil)) (pv 5) (nomark _)) (pv 6) (pe_tup (pa_cons pe_str pa_nil))))))))
 (HdsOk.cons ⟨(by rfl), by decide, .inl X_NoNumber.m⟩ (fun a oe cls d pn _ _ => (pss_one (ps_ret (pe_tup (pa_cons pe_str pa_nil))))) (HdsOk.cons ⟨(by rfl), by decide, .inl X_InvalidSeparations.m⟩ (fun a oe cls d pn _ _ => (pss_one (ps_ret (pe_tup (pa_cons pe_str pa_nil))))) HdsOk.nil))))), fun φ ds d H D0 σ hl hR hrt hnx A => ?_⟩
  rcases hR with ⟨rfl, rfl⟩ | ⟨rfl, rfl⟩
  · replace A : At K φ (Same H) [some (sepD 2 []), some (.lst [prD (1, 2), prD (1, 1)]), some (.int 3), some (.int 0), some (.int 1), none, none] σ H := A
    refine q (st_set (d := .lst [prD (1, 2), prD (1, 1)]) A (ev_callD (ea_cons (ev_var rfl) ea_nil) ⟨_, rfl, rfl, by decide, rfl⟩) fun σ1 H1 A1 => ?_)
    replace A1 : At K φ (Same H) [some (sepD 2 []), some (.lst [prD (1, 2), prD (1, 1)]), some (.int 3), some (.int 0), some (.int 1), some (.lst [prD (1, 2), prD (1, 1)]), none] σ1 H1 := A1
    dsimp only
    refine q (st_rs A1 (rs_call (c := c1) (ea_cons (ev_var rfl) (ea_cons (ev_var rfl) (ea_cons (ev_var rfl) (ea_cons (ev_var rfl) (ea_cons (ev_var rfl) ea_nil))))) (.inl ⟨rfl, rfl⟩)) fun H2 b2 A2 => ⟨true, X_NoNumber.x, fun _ a ha => ?_, fun z => nomatch z⟩)
    exact st_ret A2 (ev_tup (ea_cons ev_str ea_nil)) fun v d' H6 e A6 rr => hrt v H6 A6.j (by subst e; exact rr)
  · replace A : At K φ (Same H) [some (sepD 2 []), some (.lst [prD (20, 1), prD (20, 1)]), some (.int 3), some (.int 1), some (.int 9), none, none] σ H := A
    refine q (st_set (d := .lst [prD (20, 1), prD (20, 1)]) A (ev_callD (ea_cons (ev_var rfl) ea_nil) ⟨_, rfl, rfl, by decide, rfl⟩) fun σ1 H1 A1 => ?_)
    replace A1 : At K φ (Same H) [some (sepD 2 []), some (.lst [prD (20, 1), prD (20, 1)]), some (.int 3), some (.int 1), some (.int 9), some (.lst [prD (20, 1), prD (20, 1)]), none] σ1 H1 := A1
    dsimp only
    refine q (st_rs A1 (rs_call (c := c2) (ea_cons (ev_var rfl) (ea_cons (ev_var rfl) (ea_cons (ev_var rfl) (ea_cons (ev_var rfl) (ea_cons (ev_var rfl) ea_nil))))) (.inr ⟨rfl, rfl⟩)) fun H2 b2 A2 => ⟨false, XN, (fun z => nomatch z), fun _ => ⟨true, X_InvalidSeparations.x, fun _ a ha => ?_, fun z => nomatch z⟩⟩)
    exact st_ret A2 (ev_tup (ea_cons ev_str ea_nil)) fun v d' H6 e A6 rr => hrt v H6 A6.j (by subst e; exact rr)
end

/-! ### _law_keeps, _law_shows, _law_exists -/
def vOf (gl : List Int) (i : Int) : Option Int := if 0 ≤ i then (gl[i.toNat]?).bind fun a => if a < 0 then none else some a else none
theorem vOf_none {gl : List Int} {i : Int} (h0 : 0 ≤ i) (h1 : i < gl.length) (h : vOf gl i = none) : gl.getD i.toNat 0 < 0 := by
  unfold vOf at h
  rw [if_pos h0, List.getElem?_eq_getElem (show i.toNat < gl.length by omega)] at h
  rw [List.getD_eq_getElem?_getD, List.getElem?_eq_getElem (show i.toNat < gl.length by omega)]
  have h : (if gl[i.toNat] < 0 then none else some gl[i.toNat]) = none := h
  show gl[i.toNat] < 0
  by_cases e : gl[i.toNat] < 0
  · exact e
  · rw [if_neg e] at h; cases h
theorem vOf_some {gl : List Int} {i a : Int} (h : vOf gl i = some a) : 0 ≤ i ∧ i < gl.length ∧ gl.getD i.toNat 0 = a ∧ 0 ≤ a := by
  unfold vOf at h
  by_cases h0 : 0 ≤ i
  · rw [if_pos h0] at h
    cases e : gl[i.toNat]? with
    | none => rw [e] at h; cases h
    | some b =>
      rw [e] at h
      have h : (if b < 0 then none else some b) = some a := h
      by_cases eb : b < 0
      · rw [if_pos eb] at h; cases h
      · rw [if_neg eb] at h
        injection h with h
        subst h
        have hl := (List.getElem?_eq_some_iff.mp e).1
        refine ⟨h0, by omega, ?_, by omega⟩
        rw [List.getD_eq_getElem?_getD, e]
        rfl
  · rw [if_neg h0] at h; cases h
theorem vOf_eq {gl : List Int} {i : Nat} (h1 : i < gl.length) : vOf gl (i : Int) = if gl.getD i 0 < 0 then none else some (gl.getD i 0) := by
  unfold vOf
  rw [if_pos (Int.natCast_nonneg i), Int.toNat_natCast, List.getElem?_eq_getElem h1, List.getD_eq_getElem?_getD, List.getElem?_eq_getElem h1]
  rfl
def putL (gl : List Int) (i : Nat) (ch : Int) : List Int := gl.take i ++ [ch] ++ gl.drop (i + 1)
theorem putL_set {gl : List Int} {i : Nat} {ch : Int} (h : i < gl.length) : putL gl i ch = gl.set i ch := by
  unfold putL
  rw [List.set_eq_take_append_cons_drop, if_pos h, List.append_assoc]
  rfl
theorem vOf_put {gl : List Int} {i : Nat} {ch : Int} (h : i < gl.length) (hc : 0 ≤ ch) : vOf (putL gl i ch) = setv (vOf gl) (i : Int) ch := by
  rw [putL_set h]
  funext j
  unfold setv vOf
  by_cases h0 : 0 ≤ j
  · rw [if_pos h0, if_pos h0]
    by_cases e : j = (i : Int)
    · subst e
      rw [if_pos rfl, Int.toNat_natCast, List.getElem?_set_self h]
      show (if ch < 0 then none else some ch) = some ch
      rw [if_neg (by omega)]
    · rw [if_neg e, List.getElem?_set_ne (by omega)]
  · rw [if_neg h0, if_neg h0, if_neg (by omega)]
def cnt (gl : List Int) : Nat := (gl.filter fun a => decide (a < 0)).length
theorem cnt_put {gl : List Int} {i : Nat} {ch : Int} (h : i < gl.length) (hc : 0 ≤ ch) (hn : gl.getD i 0 < 0) : cnt (putL gl i ch) < cnt gl := by
  unfold cnt putL
  have e : gl = gl.take i ++ gl[i] :: gl.drop (i + 1) := by rw [List.getElem_cons_drop, List.take_append_drop]
  have hv : gl.getD i 0 = gl[i] := by rw [List.getD_eq_getElem?_getD, List.getElem?_eq_getElem h]; rfl
  rw [hv] at hn
  have e2 : (gl.filter fun a => decide (a < 0)).length = ((gl.take i).filter fun a => decide (a < 0)).length + (((gl.drop (i + 1)).filter fun a => decide (a < 0)).length + 1) := by
    conv => lhs; rw [e]
    rw [List.filter_append, List.length_append, List.filter_cons, if_pos (decide_eq_true hn), List.length_cons]
  rw [e2, List.filter_append, List.filter_append, List.length_append, List.length_append, List.filter_cons, if_neg (by rw [decide_eq_true_eq]; omega), List.filter_nil, List.length_nil]
  omega
open Classical in
noncomputable def exB (n : Int) (ls : List Row) (c : Int) (gl : List Int) : Bool := decide (∃ w, Keeps n ls c w ∧ ∀ k : Nat, k < gl.length → w (k : Int) = gl.getD k 0)
open Classical in
theorem exB_t {n : Int} {ls : List Row} {c : Int} {gl : List Int} : exB n ls c gl = true ↔ ∃ w, Keeps n ls c w ∧ ∀ k : Nat, k < gl.length → w (k : Int) = gl.getD k 0 := by
  unfold exB
  exact decide_eq_true_iff
structure PreE (ls : List Row) (c : Int) (gl : List Int) : Prop where
  rg : ∀ k : Nat, k < gl.length → 0 ≤ gl.getD k 0 ∧ gl.getD k 0 < c
  kp : ∀ a b : Nat, a < gl.length → b < gl.length → a ≠ b → leastB ls a b ≤ ((gl.getD a 0 - gl.getD b 0).natAbs : Int)
theorem getD_snoc {gl : List Int} {x : Int} {k : Nat} : (gl ++ [x]).getD k 0 = if k < gl.length then gl.getD k 0 else if k = gl.length then x else 0 := by
  rw [List.getD_eq_getElem?_getD, List.getD_eq_getElem?_getD]
  by_cases h : k < gl.length
  · rw [if_pos h, List.getElem?_append_left h]
  · rw [if_neg h, List.getElem?_append_right (by omega)]
    by_cases e : k = gl.length
    · subst e
      rw [if_pos rfl, Nat.sub_self]
      rfl
    · rw [if_neg e, List.getElem?_eq_none (by rw [List.length_singleton]; omega)]
      rfl
/-- a conflict with one of the earlier -/
def cfE (ls : List Row) (gl : List Int) (ch : Int) (j : Nat) : Bool := decide (((gl.getD j 0 - ch).natAbs : Int) < leastB ls (gl.length : Int) (j : Int))
theorem PreE.snoc {ls : List Row} {c : Int} {gl : List Int} (p : PreE ls c gl) {ch : Int} (h0 : 0 ≤ ch) (h1 : ch < c) (h : ∀ j, j < gl.length → cfE ls gl ch j = false) : PreE ls c (gl ++ [ch]) := by
  refine ⟨fun k hk => ?_, fun a b ha hb ne => ?_⟩
  · rw [List.length_append, List.length_singleton] at hk
    rw [getD_snoc]
    by_cases e : k < gl.length
    · rw [if_pos e]; exact p.rg k e
    · rw [if_neg e, if_pos (by omega)]; exact ⟨h0, h1⟩
  · rw [List.length_append, List.length_singleton] at ha hb
    rw [getD_snoc, getD_snoc]
    have hc : ∀ j, j < gl.length → leastB ls (gl.length : Int) (j : Int) ≤ ((gl.getD j 0 - ch).natAbs : Int) := fun j hj => by
      have := of_decide_eq_false (h j hj)
      omega
    by_cases ea : a < gl.length
    · by_cases eb : b < gl.length
      · rw [if_pos ea, if_pos eb]; exact p.kp a b ea eb ne
      · have : b = gl.length := by omega
        subst this
        rw [if_pos ea, if_neg eb, if_pos rfl, leastB_comm]
        exact hc a ea
    · have : a = gl.length := by omega
      subst this
      rw [if_neg ea, if_pos rfl, if_pos (by omega)]
      have := hc b (by omega)
      omega
theorem exB_full {n : Int} {ls : List Row} {c : Int} {gl : List Int} (p : PreE ls c gl) (h : (gl.length : Int) = n) : exB n ls c gl = true := exB_t.mpr ⟨fun i => gl.getD i.toNat 0, ⟨fun i h1 h2 => p.rg i.toNat (by omega), fun i j h1 h2 h3 h4 ne => by
  have := p.kp i.toNat j.toNat (by omega) (by omega) (by omega)
  rw [Int.toNat_of_nonneg h1, Int.toNat_of_nonneg h3] at this
  exact this⟩, fun k hk => by show gl.getD (k : Int).toNat 0 = _; rw [Int.toNat_natCast]⟩
theorem exB_up {n : Int} {ls : List Row} {c ch : Int} {gl : List Int} (h : exB n ls c (gl ++ [ch]) = true) : exB n ls c gl = true := by
  obtain ⟨w, k, a⟩ := exB_t.mp h
  refine exB_t.mpr ⟨w, k, fun j hj => ?_⟩
  rw [a j (by rw [List.length_append, List.length_singleton]; omega), getD_snoc, if_pos hj]
theorem exB_no {n : Int} {ls : List Row} {c : Int} {gl : List Int} (h : (gl.length : Int) < n) (hk : ∀ k : Nat, k < c.toNat → (∃ j, j < gl.length ∧ cfE ls gl (k : Int) j = true) ∨ exB n ls c (gl ++ [(k : Int)]) = false) : exB n ls c gl = false := by
  cases e : exB n ls c gl with
  | false => rfl
  | true =>
    exfalso
    obtain ⟨w, kw, a⟩ := exB_t.mp e
    obtain ⟨w0, w1⟩ := kw.rg (gl.length : Int) (by omega) h
    have ew : ((w (gl.length : Int)).toNat : Int) = w (gl.length : Int) := Int.toNat_of_nonneg w0
    rcases hk (w (gl.length : Int)).toNat (by omega) with ⟨j, hj, hc⟩ | hc
    · have hc := of_decide_eq_true hc
      rw [ew] at hc
      have := kw.kp (gl.length : Int) (j : Int) (by omega) h (by omega) (by omega) (by omega)
      rw [a j hj] at this
      omega
    · rw [ew] at hc
      have : exB n ls c (gl ++ [w (gl.length : Int)]) = true := exB_t.mpr ⟨w, kw, fun k hk => by
        rw [List.length_append, List.length_singleton] at hk
        rw [getD_snoc]
        by_cases e : k < gl.length
        · rw [if_pos e]; exact a k e
        · have : k = gl.length := by omega
          subst this
          rw [if_neg e, if_pos rfl]⟩
      rw [hc] at this
      cases this

section
variable {P : Program} {w : World} {K : PySem.W.Frag} {mg : Str → Option Value} {base : Heap}
theorem sc__law_is_integer : FnScope ["actual"] ["actual"] (defScope s__law_is_integer) := ⟨rfl, rfl, rfl, by decide +kernel, rfl, by decide +kernel, by decide +kernel⟩
theorem ok__law_is_integer (B : Bi mg) {f : Addr} {fd : FuncData} (F : Fun K "_law_is_integer" "_law_is_integer" s__law_is_integer f fd) : FnOk P w K mg base CX0 1 f fd ["actual"] (SpD K 1 RIsInt) := by
  have S := sc__law_is_integer
  refine fn_ok F S rfl 0 rfl fun cdv A outer s H E hr => ⟨_, ((pss_one (ps_ret (pe_and (pe_callB call_isi (by rfl) B.isinstance (by decide +kernel) (pa_cons (pv 0) (pa_cons (pe_ty (n := "int") B.int (by decide +kernel)) pa_nil))) (pe_one (pe_not (pe_callB call_isi (by rfl) B.isinstance (by decide +kernel) (pa_cons (pv 0) (pa_cons (pe_ty (n := "bool") B.bool (by decide +kernel)) pa_nil))))))))), fun φ ds d H D0 σ hl hR hrt hnx A => ?_⟩
  obtain ⟨x, rfl, hraw, rfl⟩ := hR
  refine st_ret A (ev_andV (ev_isi (ev_var rfl) ev_ty hraw) fun _ => ev_one (ev_notV (ev_isi (ev_var rfl) ev_ty hraw))) fun v d' H6 e A6 r => hrt v H6 A6.j ?_
  subst e
  rw [isIntD_of hraw] at r
  exact r
end

section
variable {P : Program} {w : World} {K : PySem.W.Frag} {mg : Str → Option Value} {base : Heap}
theorem sc__law_least : FnScope ["separations", "i", "j", "row"] ["separations", "i", "j"] (defScope s__law_least) := ⟨rfl, rfl, rfl, by decide +kernel, rfl, by decide +kernel, by decide +kernel⟩
theorem ok__law_least (B : Bi mg) {f : Addr} {fd : FuncData} (F : Fun K "_law_least" "_law_least" s__law_least f fd) : FnOk P w K mg base CX0 1 f fd ["separations", "i", "j"] (SpD K 3 RLeast) := by
  have S := sc__law_least
  refine fn_ok F S rfl 1 rfl fun cdv A outer s H E hr => ⟨_, ((pss_cons (ps_for PassesOwn.never rfl (pi_tup (pe_ix ix_tup (pv 0) pe_int (fun _ _ => rfl))) (pg_name (i := 3) S.nd rfl (by first | exact Or.inl rfl | exact Or.inr rfl))
 (pss_one (ps_if (PW.pt (pw_and (pt_cmpR op_eq (pe_ix ix_tup (pv 3) pe_int (fun _ _ => rfl)) (pe_callB (c_min2 rfl) (by rfl) B.min (by decide +kernel) (pa_cons (pv 1) (pa_cons (pv 2) pa_nil))) (nomark _)) (pw_and1 (pt_cmpR op_eq (pe_ix ix_tup (pv 3) pe_int (fun _ _ => rfl)) (pe_callB (c_max2 rfl) (by rfl) B.max (by decide +kernel) (pa_cons (pv 1) (pa_cons (pv 2) pa_nil))) (nomark _)))))
 (pss_one (ps_ret (pe_ix ix_tup (pv 3) pe_int (fun _ _ => rfl))))
 pss_nil)))
 (pss_one (ps_ret pe_int)))), fun φ ds d H D0 σ hl hR hrt hnx A => ?_⟩
  obtain ⟨n, i, j, ls, rfl, rfl⟩ := hR
  replace A : At K φ (Same H) [some (sepD n ls), some (.int i), some (.int j), none] σ H := A
  refine q (st_for A (it_tup (ev_sep1 (ev_var rfl))) (fun k ρ' J' => (∃ o, ρ' = [some (sepD n ls), some (.int i), some (.int j), o]) ∧ J' = Same H ∧ ∀ x ∈ ls.take k, decide (pairOf x = (min i j, max i j)) = false) ⟨⟨none, rfl⟩, rfl, fun x h => by simp at h⟩ ?_ ?_)
  · rintro H2 k d ρ' J' b2 j2 hd ⟨⟨o, rfl⟩, rfl, hno⟩ σ' H' A2
    rw [List.getElem?_map] at hd
    obtain ⟨r, hr, rfl⟩ := Option.map_eq_some_iff.mp hd
    replace A2 : At K φ (fun H_1 => Same H H_1 ∧ But φ H2 H_1) [some (sepD n ls), some (.int i), some (.int j), some (rowD r)] σ' H' := A2
    have eb : (decide (r.1 = min i j) && decide (r.2.1 = max i j)) = decide (pairOf r = (min i j, max i j)) := by
      rw [Bool.eq_iff_iff, Bool.and_eq_true, decide_eq_true_eq, decide_eq_true_eq, decide_eq_true_eq]
      exact ⟨fun h => Prod.ext h.1 h.2, fun h => ⟨congrArg Prod.fst h, congrArg Prod.snd h⟩⟩
    refine st_if A2 (et_and (et_test (ev_eqI (ev_row0 (ev_var rfl)) (ev_min2 (ev_var rfl) (ev_var rfl)))) fun _ => et_test (ev_eqI (ev_row1 (ev_var rfl)) (ev_max2 (ev_var rfl) (ev_var rfl)))) (fun hb H3 A3 => ?_) (fun hb H3 A3 => ?_)
    · rw [eb] at hb
      refine st_ret A3 (ev_row2 (ev_var rfl)) fun v d' H6 e A6 rr => hrt v H6 A6.j.1 ?_
      subst e
      unfold leastB
      rw [find_take hr hb.symm hno]
      exact rr
    · rw [eb] at hb
      refine ⟨_, _, ⟨⟨some (rowD r), rfl⟩, rfl, fun x hx => ?_⟩, A3⟩
      rw [List.take_add_one, hr] at hx
      rcases List.mem_append.mp hx with h | h
      · exact hno x h
      · rw [List.mem_singleton.mp h]; exact hb.symm
  · rintro H2 ρ' J' σ' H' b2 j2 ⟨⟨o, rfl⟩, rfl, hno⟩ A2
    rw [List.length_map, List.take_length] at hno
    refine st_ret A2 ev_int fun v d' H6 e A6 rr => hrt v H6 A6.j.1 ?_
    subst e
    unfold leastB
    rw [List.find?_eq_none.mpr fun x hx => by rw [hno x hx]; exact Bool.false_ne_true]
    exact rr
end

section
variable {P : Program} {w : World} {K : PySem.W.Frag} {mg : Str → Option Value} {base : Heap}
theorem getL {gl : List Int} {i : Nat} (h : i < gl.length) : L2.atI (gl.map D.int) (i : Int) = some (.int (gl.getD i 0)) := getD_at h
theorem getLI {gl : List Int} {i : Int} (h0 : 0 ≤ i) (h : i < gl.length) : L2.atI (gl.map D.int) i = some (.int (gl.getD i.toNat 0)) := by
  have e := getD_at (ow := gl) (i := i.toNat) (by omega)
  rw [Int.toNat_of_nonneg h0] at e
  exact e
/-! _law_exists -/
def RExists : Nat → List D → D → Prop := fun r ds d => ∃ (n c : Int) (ls : List Row) (gl : List Int), ds = [sepD n ls, .int c, .lst (gl.map D.int)] ∧ 0 ≤ n ∧ n ≤ 100 ∧ 0 ≤ c ∧ c ≤ 100 ∧ PreE ls c gl ∧ (gl.length : Int) ≤ n ∧ n.toNat - gl.length < r ∧ d = .bl (exB n ls c gl)
theorem sc__law_exists : FnScope ["separations", "channels", "given", "i", "channel", "j"] ["separations", "channels", "given"] (defScope s__law_exists) := ⟨rfl, rfl, rfl, by decide +kernel, rfl, by decide +kernel, by decide +kernel⟩
theorem ok__law_exists (B : Bi mg) {f g : Addr} {fd gd : FuncData} (F : Fun K "_law_exists" "_law_exists" s__law_exists f fd) (L__law_exists : Lk K mg "_law_exists" f fd ["separations", "channels", "given"])
    (L__law_least : Lk K mg "_law_least" g gd ["separations", "i", "j"]) (G__law_least : FnOk P w K mg base CX0 1 g gd ["separations", "i", "j"] (SpD K 3 RLeast)) :
    ∀ r, FnOk P w K mg base CX0 (3 * r + 3) f fd ["separations", "channels", "given"] (SpD K 3 (RExists r))
  | 0 => fn_none fun vs H Q E ⟨_, _, _, _, _, _, ⟨_, _, _, _, _, _, _, _, _, _, _, h, _⟩, _⟩ => by omega
  | r + 1 => by
    have G__law_exists := ok__law_exists B F L__law_exists L__law_least G__law_least r
    have S := sc__law_exists
    refine fn_ok (k := 3 * (r + 1) + 2) F S rfl 3 rfl fun cdv A outer s H E hr => ⟨_, ((pss_cons (ps_set (i := 3) S.nd rfl (by first | exact Or.inl rfl | exact Or.inr rfl) (pe_callB c_len (by rfl) B.len (by decide +kernel) (pa_cons (pv 2) pa_nil)))
 (pss_cons (ps_if (pt_cmpR op_eq (pv 3) (pe_ix ix_tup (pv 0) pe_int (fun _ _ => rfl)) (nomark _))
 (pss_one (ps_ret pe_bl))
 pss_nil)
 (pss_cons (ps_for PassesOwn.never rfl (pi_range1 (by rfl) B.range (pa_cons (pv 1) pa_nil)) (pg_name (i := 4) S.nd rfl (by first | exact Or.inl rfl | exact Or.inr rfl))
 (pss_one (ps_if (pt_cmpR op_eq (pe_callB c_len (by rfl) B.len (by decide +kernel) (pa_cons (pe_lc (own := [("j", 5)]) (g := (gName 5)) (by rfl) S.nd (pi_range1 (by rfl) B.range (pa_cons (pv 3) pa_nil)) (blkOk_by (N := ["separations", "channels", "given", "i", "channel", "j"]) (sc := defScope s__law_exists) (own := [("j", 5)]) (by decide +kernel)) (fun _ _ _ _ _ => (pg_name (i := 5) S.nd rfl (by first | exact Or.inl rfl | exact Or.inr rfl))) (fun _ _ _ _ _ => pts_one (pt_cmpR op_lt (pe_callB c_abs (by rfl) B.abs (by decide +kernel) (pa_cons (pe_op op_sub (pe_ix (kix_list (K := K) (by rfl)) (pv 2) (pv 5) (fun _ _ => rfl)) (pv 4)) pa_nil)) (pe_call G__law_least (hr.mono (by first | exact Nat.le_refl _ | decide | omega)) (by rfl) L__law_least.m L__law_least.kp L__law_least.bi .nil pass0 (pa_cons (pv 0) (pa_cons (pv 3) (pa_cons (pv 5) pa_nil)))) (nomark _))) (fun _ _ _ _ _ => (pv 5))) pa_nil)) pe_int (nomark _))
 (pss_one (ps_if (pt_val (pe_call G__law_exists (hr.mono (by first | exact Nat.le_refl _ | decide | omega)) (by rfl) L__law_exists.m L__law_exists.kp L__law_exists.bi .nil pass0 (pa_cons (pv 0) (pa_cons (pv 1) (pa_cons (pe_op op_catL (pv 2) (pe_lst (pa_cons (pv 4) pa_nil))) pa_nil)))))
 (pss_one (ps_ret pe_bl))
 pss_nil))
 pss_nil)))
 (pss_one (ps_ret pe_bl)))))), fun φ ds d H D0 σ hl hR hrt hnx A => ?_⟩
    obtain ⟨n, c, ls, gl, rfl, n0, n1, c0, c1, pe, hgn, hrr, rfl⟩ := hR
    replace A : At K φ (Same H) [some (sepD n ls), some (.int c), some (.lst (gl.map D.int)), none, none, none] σ H := A
    refine q (st_set (d := .int (gl.length : Nat)) A ((ev_lenL (ev_var rfl)).is (by rw [List.length_map])) fun σ1 H1 A1 => ?_)
    replace A1 : At K φ (Same H) [some (sepD n ls), some (.int c), some (.lst (gl.map D.int)), some (.int (gl.length : Nat)), none, none] σ1 H1 := A1
    dsimp only
    refine q (st_if A1 (et_test (ev_eqI (ev_var rfl) (ev_sep0 (ev_var rfl)))) (fun hb H2 A2 => ?_) (fun hb H2 A2 => st_next ?_))
    · have e : (gl.length : Int) = n := of_decide_eq_true hb.symm
      refine st_ret A2 ev_bl fun v d' H6 e' A6 rr => hrt v H6 A6.j ?_
      subst e'
      rw [exB_full pe e]
      exact rr
    have hne : (gl.length : Int) < n := by
      have := of_decide_eq_false hb.symm
      omega
    dsimp only
    refine q (st_for A2 (it_range1 (ea_cons (ev_var rfl) ea_nil) (by omega)) (fun k ρ' J' => (∀ i : Nat, i < k → (∃ j, j < gl.length ∧ cfE ls gl (i : Int) j = true) ∨ exB n ls c (gl ++ [(i : Int)]) = false) ∧ (∃ o4, ρ' = [some (sepD n ls), some (.int c), some (.lst (gl.map D.int)), some (.int (gl.length : Nat)), o4, none]) ∧ J' = Same H) ⟨fun i h => absurd h (Nat.not_lt_zero i), ⟨none, rfl⟩, rfl⟩ ?_ ?_)
    · rintro H3 k x ρ' J' b3 j3 hx ⟨hno, ⟨o4, rfl⟩, rfl⟩ σ' H' A3
      rw [rangeD_get] at hx
      split at hx
      · rename_i hk
        cases hx
        rw [show (0 : Int) + (k : Int) = (k : Int) by omega] at A3
        replace A3 : At K φ (fun H1 => Same H H1 ∧ But φ H3 H1) [some (sepD n ls), some (.int c), some (.lst (gl.map D.int)), some (.int (gl.length : Nat)), some (.int (k : Int)), none] σ' H' := A3
        have hlist : ∀ m : Nat, m = gl.length → (rangeD 0 m).filter (fun d => match d with | .int j => cfE ls gl (k : Int) j.toNat | _ => false) = (((List.range m).filter fun j => cfE ls gl (k : Int) j).map fun j : Nat => D.int (j : Int)) := fun m _ => by
          rw [rangeD_ints, List.map_map, List.filter_map]
          rfl
        dsimp only
        refine st_if A3 (et_test (ev_eqI (i := ((List.range gl.length).filter fun j => cfE ls gl (k : Int) j).length) (j := 0) ((ev_lenL (ev_lcF (p := fun d => match d with | .int j => cfE ls gl (k : Int) j.toNat | _ => false) (f := fun d => d) (it_range1 (ea_cons (ev_var rfl) ea_nil) (by omega)) (by rw [rangeD_length]; omega) (fun d hd φ' J' hx => ?_) (fun d hd hp φ' J' hx => ev_var rfl))).is ?_) ev_int)) (fun hb H4 A4 => ?_) (fun hb H4 A4 => ?_)
        · rw [rangeD_ints] at hd
          obtain ⟨j', hj', rfl⟩ := List.mem_map.mp hd
          obtain ⟨j, hj, rfl⟩ := List.mem_map.mp hj'
          rw [List.mem_range] at hj
          have hj : j < gl.length := by omega
          exact et_test (ev_lt (ev_abs (ev_sub (ev_ixL (ds := gl.map D.int) (ev_var rfl) (ev_var rfl) (getL hj)) (ev_var rfl))) (ev_callD (ea_cons (ev_var rfl) (ea_cons (ev_var rfl) (ea_cons (ev_var rfl) ea_nil))) ⟨n, (gl.length : Nat), (j : Int), ls, rfl, rfl⟩))
        · rw [Int.toNat_natCast, hlist _ rfl, List.map_id', List.length_map]
        · have h0 : ((List.range gl.length).filter fun j => cfE ls gl (k : Int) j) = [] := List.length_eq_zero_iff.mp (Int.natCast_eq_zero.mp (of_decide_eq_true hb.symm))
          have hcf : ∀ j, j < gl.length → cfE ls gl (k : Int) j = false := fun j hj => by
            cases e : cfE ls gl (k : Int) j with
            | false => rfl
            | true =>
              have z : j ∈ (List.range gl.length).filter fun j => cfE ls gl (k : Int) j := List.mem_filter.mpr ⟨List.mem_range.mpr hj, e⟩
              rw [h0] at z
              cases z
          have pe' := pe.snoc (ch := (k : Int)) (by omega) (by omega) hcf
          have hlen : (gl ++ [(k : Int)]).length = gl.length + 1 := by rw [List.length_append]; rfl
          refine st_if A4 (et_B (ev_callD (d := .bl (exB n ls c (gl ++ [(k : Int)]))) (ea_cons (ev_var rfl) (ea_cons (ev_var rfl) (ea_cons (x := .lst ((gl ++ [(k : Int)]).map D.int)) ((ev_catL (ds := gl.map D.int) (es := [.int (k : Int)]) (ev_var rfl) (ev_lst (ea_cons (ev_var rfl) ea_nil)) ?_).is ?_) ea_nil))) ⟨n, c, ls, _, rfl, n0, n1, c0, c1, pe', by rw [hlen]; omega, by rw [hlen]; omega, rfl⟩)) (fun hb5 H5 A5 => ?_) (fun hb5 H5 A5 => ?_)
          · rw [List.length_map, List.length_singleton]; omega
          · rw [List.map_append]; rfl
          · refine st_ret A5 ev_bl fun v d' H6 e' A6 rr => hrt v H6 A6.j.1 ?_
            subst e'
            rw [exB_up hb5.symm]
            exact rr
          · refine ⟨_, _, ⟨fun i hi => ?_, ⟨some (.int (k : Int)), rfl⟩, rfl⟩, A5⟩
            by_cases e : i = k
            · subst e; exact .inr hb5.symm
            · exact hno i (by omega)
        · refine ⟨_, _, ⟨fun i hi => ?_, ⟨some (.int (k : Int)), rfl⟩, rfl⟩, A4⟩
          by_cases e : i = k
          · subst e
            have hne := of_decide_eq_false hb.symm
            have hpos : 0 < ((List.range gl.length).filter fun j => cfE ls gl (i : Int) j).length := by omega
            obtain ⟨j, hj⟩ := List.exists_mem_of_length_pos hpos
            obtain ⟨h1, h2⟩ := List.mem_filter.mp hj
            exact .inl ⟨j, List.mem_range.mp h1, h2⟩
          · exact hno i (by omega)
      · cases hx
    · rintro H3 ρ' J' σ' H' b3 j3 ⟨hno, ⟨o4, rfl⟩, rfl⟩ A3
      rw [rangeD_length] at hno
      refine st_ret A3 ev_bl fun v d' H6 e' A6 rr => hrt v H6 A6.j.1 ?_
      subst e'
      rw [exB_no hne hno]
      exact rr
/-! _law_keeps -/
def RKeeps : List D → D → Prop := fun ds d => ∃ (n c : Int) (ls : List Row) (ws : List Int), ds = [sepD n ls, .int c, .tup (ws.map D.int)] ∧ SepG n ls ∧ PlanL n ls c ws ∧ d = .bl true
theorem sc__law_keeps : FnScope ["separations", "channels", "value", "one", "row"] ["separations", "channels", "value"] (defScope s__law_keeps) := ⟨rfl, rfl, rfl, by decide +kernel, rfl, by decide +kernel, by decide +kernel⟩
theorem ok__law_keeps (B : Bi mg) {f g : Addr} {fd gd : FuncData} (F : Fun K "_law_keeps" "_law_keeps" s__law_keeps f fd) (L__law_is_integer : Lk K mg "_law_is_integer" g gd ["actual"]) (G__law_is_integer : FnOk P w K mg base CX0 1 g gd ["actual"] (SpD K 1 RIsInt)) :
    FnOk P w K mg base CX0 2 f fd ["separations", "channels", "value"] (SpD K 3 RKeeps) := by
  have S := sc__law_keeps
  refine fn_ok F S rfl 2 rfl fun cdv A outer s H E hr => ⟨_, ((pss_cons (ps_if (PW.pt (pw_or (pt_not (pt_val (pe_callB call_isi (by rfl) B.isinstance (by decide +kernel) (pa_cons (pv 2) (pa_cons (pe_ty (n := "tuple") B.tuple (by decide +kernel)) pa_nil))))) (pw_or1 (pt_cmpR op_ne (pe_callB c_len (by rfl) B.len (by decide +kernel) (pa_cons (pv 2) pa_nil)) (pe_ix ix_tup (pv 0) pe_int (fun _ _ => rfl)) (nomark _)))))
 (pss_one (ps_ret pe_bl))
 pss_nil)
 (pss_cons (ps_if (pt_cmpR op_gt (pe_callB c_len (by rfl) B.len (by decide +kernel) (pa_cons (pe_lc (own := [("one", 3)]) (g := (gName 3)) (by rfl) S.nd (pi_tup (pv 2)) (blkOk_by (N := ["separations", "channels", "value", "one", "row"]) (sc := defScope s__law_keeps) (own := [("one", 3)]) (by decide +kernel)) (fun _ _ _ _ _ => (pg_name (i := 3) S.nd rfl (by first | exact Or.inl rfl | exact Or.inr rfl))) (fun _ _ _ _ _ => pts_one (PW.pt (pw_or (pt_not (pt_val (pe_call G__law_is_integer (hr.mono (by first | exact Nat.le_refl _ | decide | omega)) (by rfl) L__law_is_integer.m L__law_is_integer.kp L__law_is_integer.bi .nil pass0 (pa_cons (pv 3) pa_nil)))) (pw_or (pt_cmpR op_lt (pv 3) pe_int (nomark _)) (pw_or1 (pt_cmpR op_ge (pv 3) (pv 1) (nomark _))))))) (fun _ _ _ _ _ => (pv 3))) pa_nil)) pe_int (nomark _))
 (pss_one (ps_ret pe_bl))
 pss_nil)
 (pss_one (ps_ret (pe_cmpR op_eq (pe_callB c_len (by rfl) B.len (by decide +kernel) (pa_cons (pe_lc (own := [("row", 4)]) (g := (gName 4)) (by rfl) S.nd (pi_tup (pe_ix ix_tup (pv 0) pe_int (fun _ _ => rfl))) (blkOk_by (N := ["separations", "channels", "value", "one", "row"]) (sc := defScope s__law_keeps) (own := [("row", 4)]) (by decide +kernel)) (fun _ _ _ _ _ => (pg_name (i := 4) S.nd rfl (by first | exact Or.inl rfl | exact Or.inr rfl))) (fun _ _ _ _ _ => pts_one (pt_cmpR op_lt (pe_callB c_abs (by rfl) B.abs (by decide +kernel) (pa_cons (pe_op op_sub (pe_ix (kix_tup (K := K) (by rfl)) (pv 2) (pe_ix (kix_tup (K := K) (by rfl)) (pv 4) pe_int (fun _ _ => rfl)) (fun _ _ => rfl)) (pe_ix (kix_tup (K := K) (by rfl)) (pv 2) (pe_ix (kix_tup (K := K) (by rfl)) (pv 4) pe_int (fun _ _ => rfl)) (fun _ _ => rfl))) pa_nil)) (pe_ix (kix_tup (K := K) (by rfl)) (pv 4) pe_int (fun _ _ => rfl)) (nomark _))) (fun _ _ _ _ _ => (pv 4))) pa_nil)) pe_int (nomark _))))))), fun φ ds d H D0 σ hl hR hrt hnx A => ?_⟩
  obtain ⟨n, c, ls, ws, rfl, SG, ⟨hlen, kp⟩, rfl⟩ := hR
  have n1 := SG.n1
  replace A : At K φ (Same H) [some (sepD n ls), some (.int c), some (.tup (ws.map D.int)), none, none] σ H := A
  refine q (st_no A (et_or (et_not (et_B (ev_isi (ev_var rfl) ev_ty rfl))) fun _ => et_test (ev_neI ((ev_lenT (ds := ws.map D.int) (ev_var rfl)).is (d' := .int n) (by rw [List.length_map, hlen])) (ev_sep0 (ev_var rfl)))) (by rw [decide_eq_true rfl]; rfl) fun H1 A1 => st_next ?_)
  dsimp only
  refine q (st_no A1 (et_test (ev_gt (i := 0) ((ev_lenL (ev_lcF (p := fun _ => false) (f := fun d => d) (it_tup (ev_var rfl)) (by rw [List.length_map]; omega) (fun d hd φ' J' hx => ?_) (fun d hd hp φ' J' hx => ev_var rfl))).is ?_) ev_int)) rfl fun H2 A2 => st_next ?_)
  · obtain ⟨a, ha, rfl⟩ := List.mem_map.mp hd
    obtain ⟨i, hi⟩ := List.mem_iff_getElem?.mp ha
    have hil := (List.getElem?_eq_some_iff.mp hi).1
    have := kp.rg (i : Int) (by omega) (by omega)
    have ea : ws.getD i 0 = a := by rw [List.getD_eq_getElem?_getD, hi]; rfl
    rw [show ((i : Int)).toNat = i from Int.toNat_natCast i, ea] at this
    refine (et_or (et_not (et_B (ev_callD (d := .bl true) (ea_cons (x := .int a) (ev_var rfl) ea_nil) ⟨_, rfl, rfl, rfl⟩))) fun _ => et_or (et_test (ev_lt (ev_var rfl) ev_int)) fun _ => et_test (ev_ge (ev_var rfl) (ev_var rfl))).imp fun b e => e.trans ?_
    rw [decide_eq_false (show ¬ a < 0 by omega), decide_eq_false (show ¬ c ≤ a by omega)]
    rfl
  · rw [List.filter_eq_nil_iff.mpr fun _ _ => Bool.false_ne_true]
    rfl
  dsimp only
  refine st_ret A2 (ev_eqI (i := 0) (j := 0) ((ev_lenL (ev_lcF (p := fun _ => false) (f := fun d => d) (it_tup (ev_sep1 (ev_var rfl))) (by rw [List.length_map]; have := SG.len; omega) (fun d hd φ' J' hx => ?_) (fun d hd hp φ' J' hx => ev_var rfl))).is ?_) ev_int) fun v d' H6 e A6 rr => hrt v H6 A6.j (by subst e; exact rr)
  · obtain ⟨r, hr, rfl⟩ := List.mem_map.mp hd
    have h1 := SG.rows r hr
    have h2 := kp.kp r.1 r.2.1 (by omega) (by omega) (by omega) (by omega) (by omega)
    rw [leastB_row SG hr] at h2
    refine (et_test (ev_lt (ev_abs (ev_sub (ev_ixT (ds := ws.map D.int) (ev_var rfl) (ev_row0 (ev_var rfl)) (getLI (by omega) (by omega))) (ev_ixT (ds := ws.map D.int) (ev_var rfl) (ev_row1 (ev_var rfl)) (getLI (by omega) (by omega))))) (ev_row2 (ev_var rfl)))).imp fun b e => e.trans ?_
    exact decide_eq_false (by omega)
  · rw [List.filter_eq_nil_iff.mpr fun _ _ => Bool.false_ne_true]
    rfl
end

section
variable {P : Program} {w : World} {K : PySem.W.Frag} {mg : Str → Option Value} {base : Heap}
/-! _law_shows -/
def RShows : Nat → List D → D → Prop := fun r ds d => ∃ (n c : Int) (ls : List Row) (gl : List Int) (t : D), ds = [sepD n ls, .int c, .lst (gl.map D.int), t] ∧ 0 ≤ n ∧ n ≤ 100 ∧ 0 ≤ c ∧ c ≤ 100 ∧ (gl.length : Int) = n ∧ Rt n ls c (vOf gl) t ∧ cnt gl < r ∧ d = .bl true
theorem sc__law_shows : FnScope ["separations", "channels", "given", "tree", "i", "channel", "near", "j"] ["separations", "channels", "given", "tree"] (defScope s__law_shows) := ⟨rfl, rfl, rfl, by decide +kernel, rfl, by decide +kernel, by decide +kernel⟩
set_option maxHeartbeats 2000000 in
theorem ok__law_shows (B : Bi mg) {f g g2 : Addr} {fd gd gd2 : FuncData} (F : Fun K "_law_shows" "_law_shows" s__law_shows f fd) (L__law_shows : Lk K mg "_law_shows" f fd ["separations", "channels", "given", "tree"])
    (L__law_is_integer : Lk K mg "_law_is_integer" g2 gd2 ["actual"]) (G__law_is_integer : FnOk P w K mg base CX0 1 g2 gd2 ["actual"] (SpD K 1 RIsInt))
    (L__law_least : Lk K mg "_law_least" g gd ["separations", "i", "j"]) (G__law_least : FnOk P w K mg base CX0 1 g gd ["separations", "i", "j"] (SpD K 3 RLeast)) :
    ∀ r, FnOk P w K mg base CX0 (3 * r + 3) f fd ["separations", "channels", "given", "tree"] (SpD K 4 (RShows r))
  | 0 => fn_none fun vs H Q E ⟨_, _, _, _, _, _, ⟨_, _, _, _, _, _, _, _, _, _, _, _, h, _⟩, _⟩ => by omega
  | r + 1 => by
    have G__law_shows := ok__law_shows B F L__law_shows L__law_is_integer G__law_is_integer L__law_least G__law_least r
    have S := sc__law_shows
    refine fn_ok (k := 3 * (r + 1) + 2) F S rfl 4 rfl fun cdv A outer s H E hr => ⟨_, ((pss_cons (ps_if (PW.pt (pw_or (pt_not (pt_val (pe_callB call_isi (by rfl) B.isinstance (by decide +kernel) (pa_cons (pv 3) (pa_cons (pe_ty (n := "tuple") B.tuple (by decide +kernel)) pa_nil))))) (pw_or (pt_cmpR op_lt (pe_callB c_len (by rfl) B.len (by decide +kernel) (pa_cons (pv 3) pa_nil)) pe_int (nomark _)) (pw_or (pt_not (pt_val (pe_call G__law_is_integer (hr.mono (by first | exact Nat.le_refl _ | decide | omega)) (by rfl) L__law_is_integer.m L__law_is_integer.kp L__law_is_integer.bi .nil pass0 (pa_cons (pe_ix ix_tup (pv 3) pe_int (fun _ _ => rfl)) pa_nil)))) (pw_or1 (pt_not (pt_chain op_le op_lt pe_int (pe_ix ix_tup (pv 3) pe_int (fun _ _ => rfl)) (pe_ix ix_tup (pv 0) pe_int (fun _ _ => rfl)))))))))
 (pss_one (ps_ret pe_bl))
 pss_nil)
 (pss_cons (ps_set (i := 4) S.nd rfl (by first | exact Or.inl rfl | exact Or.inr rfl) (pe_ix ix_tup (pv 3) pe_int (fun _ _ => rfl)))
 (pss_cons (ps_if (pt_cmpR op_eq (pe_ix ix_tup (pv 3) pe_int (fun _ _ => rfl)) pe_str (nomark _))
 (pss_cons (ps_if (PW.pt (pw_or (pt_cmpR op_ne (pe_callB c_len (by rfl) B.len (by decide +kernel) (pa_cons (pv 3) pa_nil)) pe_int (nomark _)) (pw_or (pt_not (pt_val (pe_call G__law_is_integer (hr.mono (by first | exact Nat.le_refl _ | decide | omega)) (by rfl) L__law_is_integer.m L__law_is_integer.kp L__law_is_integer.bi .nil pass0 (pa_cons (pe_ix ix_tup (pv 3) pe_int (fun _ _ => rfl)) pa_nil)))) (pw_or (pt_not (pt_chain op_le op_lt pe_int (pe_ix ix_tup (pv 3) pe_int (fun _ _ => rfl)) (pe_ix ix_tup (pv 0) pe_int (fun _ _ => rfl)))) (pw_or1 (pt_cmpR op_eq (pe_ix ix_tup (pv 3) pe_int (fun _ _ => rfl)) (pv 4) (nomark _)))))))
 (pss_one (ps_ret pe_bl))
 pss_nil)
 (pss_cons (ps_if (PW.pt (pw_or (pt_cmpR op_lt (pe_ix ix_list (pv 2) (pv 4) (fun _ _ => rfl)) pe_int (nomark _)) (pw_or1 (pt_cmpR op_lt (pe_ix ix_list (pv 2) (pe_ix ix_tup (pv 3) pe_int (fun _ _ => rfl)) (fun _ _ => rfl)) pe_int (nomark _)))))
 (pss_one (ps_ret pe_bl))
 pss_nil)
 (pss_one (ps_ret (pe_cmpR op_lt (pe_callB c_abs (by rfl) B.abs (by decide +kernel) (pa_cons (pe_op op_sub (pe_ix ix_list (pv 2) (pv 4) (fun _ _ => rfl)) (pe_ix ix_list (pv 2) (pe_ix ix_tup (pv 3) pe_int (fun _ _ => rfl)) (fun _ _ => rfl))) pa_nil)) (pe_call G__law_least (hr.mono (by first | exact Nat.le_refl _ | decide | omega)) (by rfl) L__law_least.m L__law_least.kp L__law_least.bi .nil pass0 (pa_cons (pv 0) (pa_cons (pv 4) (pa_cons (pe_ix ix_tup (pv 3) pe_int (fun _ _ => rfl)) pa_nil)))) (nomark _))))))
 pss_nil)
 (pss_cons (ps_if (pt_cmpR op_ge (pe_ix ix_list (pv 2) (pv 4) (fun _ _ => rfl)) pe_int (nomark _))
 (pss_one (ps_ret pe_bl))
 pss_nil)
 (pss_cons (ps_if (PW.pt (pw_and (pt_cmpR op_eq (pe_ix ix_tup (pv 3) pe_int (fun _ _ => rfl)) pe_str (nomark _)) (pw_and1 (pt_cmpR op_eq (pe_callB c_len (by rfl) B.len (by decide +kernel) (pa_cons (pv 3) pa_nil)) pe_int (nomark _)))))
 (pss_cons (ps_for PassesOwn.never rfl (pi_range1 (by rfl) B.range (pa_cons (pv 1) pa_nil)) (pg_name (i := 5) S.nd rfl (by first | exact Or.inl rfl | exact Or.inr rfl))
 (pss_cons (ps_set (i := 6) S.nd rfl (by first | exact Or.inl rfl | exact Or.inr rfl) (pe_lst pa_nil))
 (pss_cons (ps_for PassesOwn.never rfl (pi_range1 (by rfl) B.range (pa_cons (pe_ix ix_tup (pv 0) pe_int (fun _ _ => rfl)) pa_nil)) (pg_name (i := 7) S.nd rfl (by first | exact Or.inl rfl | exact Or.inr rfl))
 (pss_one (ps_if (PW.pt (pw_and (pt_cmpR op_ge (pe_ix ix_list (pv 2) (pv 7) (fun _ _ => rfl)) pe_int (nomark _)) (pw_and1 (pt_cmpR op_lt (pe_callB c_abs (by rfl) B.abs (by decide +kernel) (pa_cons (pe_op op_sub (pe_ix ix_list (pv 2) (pv 7) (fun _ _ => rfl)) (pv 5)) pa_nil)) (pe_call G__law_least (hr.mono (by first | exact Nat.le_refl _ | decide | omega)) (by rfl) L__law_least.m L__law_least.kp L__law_least.bi .nil pass0 (pa_cons (pv 0) (pa_cons (pv 4) (pa_cons (pv 7) pa_nil)))) (nomark _)))))
 (pss_one (ps_expr (pe_bm PySem.F.plainAttrs_list PySem.F.slot_list_append PySem.F.type_list_append mt_append (pv 6) (pa_cons (pv 7) pa_nil))))
 pss_nil)))
 (pss_one (ps_if (pt_cmpR op_eq (pe_callB c_len (by rfl) B.len (by decide +kernel) (pa_cons (pv 6) pa_nil)) pe_int (nomark _))
 (pss_one (ps_ret pe_bl))
 pss_nil)))))
 (pss_one (ps_ret pe_bl)))
 pss_nil)
 (pss_cons (ps_if (PW.pt (pw_or (pt_cmpR op_ne (pe_ix ix_tup (pv 3) pe_int (fun _ _ => rfl)) pe_str (nomark _)) (pw_or (pt_cmpR op_ne (pe_callB c_len (by rfl) B.len (by decide +kernel) (pa_cons (pv 3) pa_nil)) pe_int (nomark _)) (pw_or (pt_not (pt_val (pe_callB call_isi (by rfl) B.isinstance (by decide +kernel) (pa_cons (pe_ix ix_tup (pv 3) pe_int (fun _ _ => rfl)) (pa_cons (pe_ty (n := "tuple") B.tuple (by decide +kernel)) pa_nil))))) (pw_or1 (pt_cmpR op_ne (pe_callB c_len (by rfl) B.len (by decide +kernel) (pa_cons (pe_ix ix_tup (pv 3) pe_int (fun _ _ => rfl)) pa_nil)) (pv 1) (nomark _)))))))
 (pss_one (ps_ret pe_bl))
 pss_nil)
 (pss_cons (ps_for PassesOwn.never rfl (pi_range1 (by rfl) B.range (pa_cons (pv 1) pa_nil)) (pg_name (i := 5) S.nd rfl (by first | exact Or.inl rfl | exact Or.inr rfl))
 (pss_one (ps_if (pt_not (pt_val (pe_call G__law_shows (hr.mono (by first | exact Nat.le_refl _ | decide | omega)) (by rfl) L__law_shows.m L__law_shows.kp L__law_shows.bi .nil pass0 (pa_cons (pv 0) (pa_cons (pv 1) (pa_cons (pe_op op_catL (pe_op op_catL (pe_slice sl_list (pv 2) po_none (po_some (pv 4))) (pe_lst (pa_cons (pv 5) pa_nil))) (pe_slice sl_list (pv 2) (po_some (pe_op op_add (pv 4) pe_int)) po_none)) (pa_cons (pe_ix ix_tup (pe_ix ix_tup (pv 3) pe_int (fun _ _ => rfl)) (pv 5) (fun _ _ => rfl)) pa_nil)))))))
 (pss_one (ps_ret pe_bl))
 pss_nil)))
 (pss_one (ps_ret pe_bl)))))))))), fun φ ds d H D0 σ hl hR hrt hnx A => ?_⟩
    obtain ⟨n, c, ls, gl, t, rfl, n0, n1, c0, c1, hgn, hrt0, hrr, rfl⟩ := hR
    generalize hv : vOf gl = v at hrt0
    cases hrt0 with
    | clash _ i j a b i0 i1 j0 j1 ne ei ej hlt =>
      subst hv
      obtain ⟨_, gi, ga, a0⟩ := vOf_some ei
      obtain ⟨_, gj, gb, b0⟩ := vOf_some ej
      let T : List D := [.str "clash", .int i, .int j]
      replace A : At K φ (Same H) [some (sepD n ls), some (.int c), some (.lst (gl.map D.int)), some (.tup T), none, none, none, none] σ H := A
      have gI : ∀ {φ : Addr → Prop} {J : Hp → Prop} {ρ : List (Option D)}, ρ[3]? = some (some (.tup T)) → EvD K φ J (tOp (rIxT K) (tVar 3) (tC (.int 1))) ρ (.int i) := fun h => ev_ixT (ds := T) (ev_var h) ev_int rfl
      have gJ : ∀ {φ : Addr → Prop} {J : Hp → Prop} {ρ : List (Option D)}, ρ[3]? = some (some (.tup T)) → EvD K φ J (tOp (rIxT K) (tVar 3) (tC (.int 2))) ρ (.int j) := fun h => ev_ixT (ds := T) (ev_var h) ev_int rfl
      refine q (st_no A (et_or (et_not (et_B (ev_isi (ev_var rfl) ev_ty rfl))) fun _ => et_or (et_test (ev_lt (ev_lenT (ds := T) (ev_var rfl)) ev_int)) fun _ => et_or (et_not (et_B (ev_callD (d := .bl true) (ea_cons (x := .int i) (gI rfl) ea_nil) ⟨_, rfl, rfl, rfl⟩))) fun _ => et_not (et_test (ev_chainI ev_int (gI rfl) (ev_sep0 (ev_var rfl))))) ?_ fun H1 A1 => st_next ?_)
      · show (false || (false || (false || !(decide (0 ≤ i) && decide (i < n))))) = false
        rw [decide_eq_true i0, decide_eq_true i1]
        rfl
      dsimp only
      refine q (st_set A1 (gI rfl) fun σ2 H2 A2 => ?_)
      replace A2 : At K φ (Same H) [some (sepD n ls), some (.int c), some (.lst (gl.map D.int)), some (.tup T), some (.int i), none, none, none] σ2 H2 := A2
      dsimp only
      refine q (st_yes A2 (et_test (ev_eqS (s := "clash") (t := "clash") (ev_ixT (ds := T) (ev_var rfl) ev_int rfl) ev_str)) (decide_eq_true rfl) fun H3 A3 => ?_)
      refine q (st_no A3 (et_or (et_test (ev_neI (ev_lenT (ds := T) (ev_var rfl)) ev_int)) fun _ => et_or (et_not (et_B (ev_callD (d := .bl true) (ea_cons (x := .int j) (gJ rfl) ea_nil) ⟨_, rfl, rfl, rfl⟩))) fun _ => et_or (et_not (et_test (ev_chainI ev_int (gJ rfl) (ev_sep0 (ev_var rfl))))) fun _ => et_test (ev_eqI (gJ rfl) (ev_var rfl))) ?_ fun H4 A4 => st_next ?_)
      · show (!decide (((3 : Nat) : Int) = 3) || (false || (!(decide (0 ≤ j) && decide (j < n)) || decide (j = i)))) = false
        rw [decide_eq_true j0, decide_eq_true j1, decide_eq_false (fun z : j = i => ne z.symm)]
        rfl
      dsimp only
      refine q (st_no A4 (et_or (et_test (ev_lt (ev_ixL (ds := gl.map D.int) (ev_var rfl) (ev_var rfl) (getLI i0 gi)) ev_int)) fun _ => et_test (ev_lt (ev_ixL (ds := gl.map D.int) (ev_var rfl) (gJ rfl) (getLI j0 gj)) ev_int)) ?_ fun H5 A5 => st_next ?_)
      · rw [ga, gb, decide_eq_false (by omega), decide_eq_false (by omega)]
        rfl
      dsimp only
      refine st_ret A5 (ev_lt (ev_abs (ev_sub (ev_ixL (ds := gl.map D.int) (ev_var rfl) (ev_var rfl) (getLI i0 gi)) (ev_ixL (ds := gl.map D.int) (ev_var rfl) (gJ rfl) (getLI j0 gj)))) (ev_callD (ea_cons (ev_var rfl) (ea_cons (ev_var rfl) (ea_cons (gJ rfl) ea_nil))) ⟨n, i, j, ls, rfl, rfl⟩)) fun v d' H6 e A6 rr => hrt v H6 A6.j ?_
      subst e
      rw [ga, gb, decide_eq_true hlt] at rr
      exact rr
    | full _ i i0 i1 ei hcf =>
      subst hv
      have gn := vOf_none i0 (by omega) ei
      let T : List D := [.str "full", .int i]
      replace A : At K φ (Same H) [some (sepD n ls), some (.int c), some (.lst (gl.map D.int)), some (.tup T), none, none, none, none] σ H := A
      have gI : ∀ {φ : Addr → Prop} {J : Hp → Prop} {ρ : List (Option D)}, ρ[3]? = some (some (.tup T)) → EvD K φ J (tOp (rIxT K) (tVar 3) (tC (.int 1))) ρ (.int i) := fun h => ev_ixT (ds := T) (ev_var h) ev_int rfl
      refine q (st_no A (et_or (et_not (et_B (ev_isi (ev_var rfl) ev_ty rfl))) fun _ => et_or (et_test (ev_lt (ev_lenT (ds := T) (ev_var rfl)) ev_int)) fun _ => et_or (et_not (et_B (ev_callD (d := .bl true) (ea_cons (x := .int i) (gI rfl) ea_nil) ⟨_, rfl, rfl, rfl⟩))) fun _ => et_not (et_test (ev_chainI ev_int (gI rfl) (ev_sep0 (ev_var rfl))))) ?_ fun H1 A1 => st_next ?_)
      · show (false || (false || (false || !(decide (0 ≤ i) && decide (i < n))))) = false
        rw [decide_eq_true i0, decide_eq_true i1]
        rfl
      dsimp only
      refine q (st_set A1 (gI rfl) fun σ2 H2 A2 => ?_)
      replace A2 : At K φ (Same H) [some (sepD n ls), some (.int c), some (.lst (gl.map D.int)), some (.tup T), some (.int i), none, none, none] σ2 H2 := A2
      dsimp only
      refine q (st_no A2 (et_test (ev_eqS (s := "full") (t := "clash") (ev_ixT (ds := T) (ev_var rfl) ev_int rfl) ev_str)) (by decide) fun H3 A3 => st_next ?_)
      dsimp only
      refine q (st_no A3 (et_test (ev_ge (ev_ixL (ds := gl.map D.int) (ev_var rfl) (ev_var rfl) (getLI i0 (by omega))) ev_int)) (decide_eq_false (by omega)) fun H4 A4 => st_next ?_)
      dsimp only
      refine q (st_yes A4 (et_and (et_test (ev_eqS (s := "full") (t := "full") (ev_ixT (ds := T) (ev_var rfl) ev_int rfl) ev_str)) fun _ => et_test (ev_eqI (ev_lenT (ds := T) (ev_var rfl)) ev_int)) (show (decide (("full" : Str) = "full") && decide (((2 : Nat) : Int) = 2)) = true by decide) fun H5 A5 => ?_)
      refine q (st_for A5 (it_range1 (ea_cons (ev_var rfl) ea_nil) (by omega)) (fun k ρ' J' => (∃ o5 o6 o7, ρ' = [some (sepD n ls), some (.int c), some (.lst (gl.map D.int)), some (.tup T), some (.int i), o5, o6, o7]) ∧ ∀ H', J' H' → Same H H') ⟨⟨none, none, none, rfl⟩, fun _ h => h⟩ ?_ ?_)
      · rintro H6 k x ρ' J' b6 j6 hx ⟨⟨o5, o6, o7, rfl⟩, hJ⟩ σ6 H7 A6
        rw [rangeD_get] at hx
        split at hx
        · rename_i hk
          cases hx
          rw [show (0 : Int) + (k : Int) = (k : Int) by omega] at A6
          replace A6 : At K φ (fun H1 => J' H1 ∧ But φ H6 H1) [some (sepD n ls), some (.int c), some (.lst (gl.map D.int)), some (.tup T), some (.int i), some (.int (k : Int)), o6, o7] σ6 H7 := A6
          obtain ⟨j, b, j0, j1, ej, hlt⟩ := hcf (k : Int) (by omega) (by omega)
          obtain ⟨_, gj, gb, b0⟩ := vOf_some ej
          dsimp only
          refine q (st_newS A6 (en_ofN (en_lstD ea_nil)) fun l ds0 C J1 σ8 H8 hC N1 L1 A8 => ?_)
          obtain ⟨e, rfl⟩ := hC
          subst e
          let hit : Nat → Bool := fun m => decide (0 ≤ gl.getD m 0) && decide (((gl.getD m 0 - (k : Int)).natAbs : Int) < leastB ls i (m : Int))
          dsimp only
          refine q (st_for A8 (it_range1 (ea_cons (ev_sep0 (ev_var rfl)) ea_nil) (by omega)) (fun m ρ' J' => ∃ (xs : List D) (o7 : Option D), xs.length ≤ m ∧ (∀ m', m' < m → hit m' = true → 0 < xs.length) ∧ LivS K (wo φ l) J' l HO.lst xs ∧ (∀ H', J' H' → Same H H' ∧ But φ H6 H') ∧ ρ' = [some (sepD n ls), some (.int c), some (.lst (gl.map D.int)), some (.tup T), some (.int i), some (.int (k : Int)), some (.raw (.ref l)), o7]) ⟨[], o7, Nat.le_refl _, (fun m' h => absurd h (Nat.not_lt_zero _)), L1, (fun H' h => by
            have z := N1.ext.imp H' h
            exact ⟨hJ H' z.1, z.2⟩), rfl⟩ ?_ ?_)
          · rintro H9 m x ρ' J9 b9 j9 hx ⟨xs, o7, hxl, hxs, L9, hb9, rfl⟩ σ9 H10 A9
            rw [rangeD_get] at hx
            split at hx
            · rename_i hm
              cases hx
              rw [show (0 : Int) + (m : Int) = (m : Int) by omega] at A9
              replace A9 : At K (wo φ l) (fun H1 => J9 H1 ∧ But (wo φ l) H9 H1) [some (sepD n ls), some (.int c), some (.lst (gl.map D.int)), some (.tup T), some (.int i), some (.int (k : Int)), some (.raw (.ref l)), some (.int (m : Int))] σ9 H10 := A9
              have hml : m < gl.length := by omega
              dsimp only
              refine st_if A9 (et_and (et_test (ev_ge (ev_ixL (ds := gl.map D.int) (ev_var rfl) (ev_var rfl) (getL hml)) ev_int)) fun _ => et_test (ev_lt (ev_abs (ev_sub (ev_ixL (ds := gl.map D.int) (ev_var rfl) (ev_var rfl) (getL hml)) (ev_var rfl))) (ev_callD (ea_cons (ev_var rfl) (ea_cons (ev_var rfl) (ea_cons (ev_var rfl) ea_nil))) ⟨n, i, (m : Int), ls, rfl, rfl⟩))) (fun hb11 H11 A11 => ?_) (fun hb11 H11 A11 => ?_)
              · refine st_appS (P := fun _ => True) A11 L9.but rfl ((ev_var (d := .int (m : Int)) rfl).imp fun _ _ => trivial) (by omega) fun d J12 H12 _ W12 L12 A12 => ?_
                have sbb : Stab l (fun H' => Same H H' ∧ But φ H6 H') := by
                  obtain ⟨Hc, jc, ec⟩ := N1.hc
                  refine Stab.and (N1.same fun H' h => hJ H' h.1) (Stab.but (.inr ?_))
                  cases e : H6 l with
                  | none => rfl
                  | some u => exact absurd ec (jc.2.tr l (by rw [e]; exact fun z => by cases z))
                have hb12 := W12.base (fun H' => Same H H' ∧ But φ H6 H') (fun H' h => hb9 H' h.1) sbb
                have hb13 := W12.base _ (fun H' h => h.2) (Stab.but (.inl L9.np))
                exact ⟨_, J12, ⟨xs ++ [d], _, by rw [List.length_append, List.length_singleton]; omega, fun m' _ _ => by rw [List.length_append, List.length_singleton]; omega, L12, hb12, rfl⟩, A12.live ⟨A12.j, hb13 _ A12.j⟩ (A12.mono.and (Mo.but (hb13 _ A12.j).tr))⟩
              · refine ⟨_, J9, ⟨xs, _, by omega, fun m' hm' hh => ?_, L9, hb9, rfl⟩, A11⟩
                by_cases e : m' = m
                · subst e
                  have z : hit m' = false := hb11.symm
                  rw [z] at hh
                  cases hh
                · exact hxs m' (by omega) hh
            · cases hx
          · rintro H9 ρ' J9 σ9 H10 b9 j9 ⟨xs, o7, hxl, hxs, L9, hb9, rfl⟩ A9
            rw [rangeD_length] at hxs
            have hpos : 0 < xs.length := hxs j.toNat (by omega) (by
              show (decide _ && decide _) = true
              rw [gb, Int.toNat_of_nonneg j0, decide_eq_true b0, decide_eq_true (show ((b - (k : Int)).natAbs : Int) < leastB ls i j by omega)]
              rfl)
            have A10 := L9.but.freeze N1.fr A9 (k := 6) rfl
            dsimp only
            refine st_no A10 (et_test (ev_eqI (ev_lenL (ds := xs) (ev_var rfl)) ev_int)) (decide_eq_false (by omega)) fun H11 A11 => ⟨_, fun H' => Same H H', ⟨⟨_, _, _, rfl⟩, fun _ h => h⟩, A11.live ⟨(hb9 _ A11.j.1.1).1, (hb9 _ A11.j.1.1).2⟩ ?_⟩
            have z := hb9 _ A11.j.1.1
            exact (Mo.sames (same_tr z.1)).and (Mo.but z.2.tr)
        · cases hx
      · rintro H6 ρ' J' σ6 H7 b6 j6 ⟨⟨o5, o6, o7, rfl⟩, hJ⟩ A6
        exact st_ret A6 ev_bl fun v d' H8 e A8 rr => hrt v H8 (hJ _ A8.j.1) (by subst e; exact rr)
    | split _ i ts i0 i1 ei hts hrts =>
      subst hv
      have gn := vOf_none i0 (by omega) ei
      let T : List D := [.str "split", .int i, .tup ts]
      replace A : At K φ (Same H) [some (sepD n ls), some (.int c), some (.lst (gl.map D.int)), some (.tup T), none, none, none, none] σ H := A
      have gI : ∀ {φ : Addr → Prop} {J : Hp → Prop} {ρ : List (Option D)}, ρ[3]? = some (some (.tup T)) → EvD K φ J (tOp (rIxT K) (tVar 3) (tC (.int 1))) ρ (.int i) := fun h => ev_ixT (ds := T) (ev_var h) ev_int rfl
      have gT : ∀ {φ : Addr → Prop} {J : Hp → Prop} {ρ : List (Option D)}, ρ[3]? = some (some (.tup T)) → EvD K φ J (tOp (rIxT K) (tVar 3) (tC (.int 2))) ρ (.tup ts) := fun h => ev_ixT (ds := T) (ev_var h) ev_int rfl
      refine q (st_no A (et_or (et_not (et_B (ev_isi (ev_var rfl) ev_ty rfl))) fun _ => et_or (et_test (ev_lt (ev_lenT (ds := T) (ev_var rfl)) ev_int)) fun _ => et_or (et_not (et_B (ev_callD (d := .bl true) (ea_cons (x := .int i) (gI rfl) ea_nil) ⟨_, rfl, rfl, rfl⟩))) fun _ => et_not (et_test (ev_chainI ev_int (gI rfl) (ev_sep0 (ev_var rfl))))) ?_ fun H1 A1 => st_next ?_)
      · show (false || (false || (false || !(decide (0 ≤ i) && decide (i < n))))) = false
        rw [decide_eq_true i0, decide_eq_true i1]
        rfl
      dsimp only
      refine q (st_set A1 (gI rfl) fun σ2 H2 A2 => ?_)
      replace A2 : At K φ (Same H) [some (sepD n ls), some (.int c), some (.lst (gl.map D.int)), some (.tup T), some (.int i), none, none, none] σ2 H2 := A2
      dsimp only
      refine q (st_no A2 (et_test (ev_eqS (s := "split") (t := "clash") (ev_ixT (ds := T) (ev_var rfl) ev_int rfl) ev_str)) (by decide) fun H3 A3 => st_next ?_)
      dsimp only
      refine q (st_no A3 (et_test (ev_ge (ev_ixL (ds := gl.map D.int) (ev_var rfl) (ev_var rfl) (getLI i0 (by omega))) ev_int)) (decide_eq_false (by omega)) fun H4 A4 => st_next ?_)
      dsimp only
      refine q (st_no A4 (et_and (c := false) (et_test (ev_eqS (s := "split") (t := "full") (ev_ixT (ds := T) (ev_var rfl) ev_int rfl) ev_str)) fun h => absurd h (by decide)) (by decide) fun H5 A5 => st_next ?_)
      dsimp only
      refine q (st_no A5 (et_or (et_test (ev_neS (s := "split") (t := "split") (ev_ixT (ds := T) (ev_var rfl) ev_int rfl) ev_str)) fun _ => et_or (et_test (ev_neI (ev_lenT (ds := T) (ev_var rfl)) ev_int)) fun _ => et_or (et_not (et_B (ev_isi (gT rfl) ev_ty rfl))) fun _ => et_test (ev_neI (ev_lenT (ds := ts) (gT rfl)) (ev_var rfl))) ?_ fun H6 A6 => st_next ?_)
      · show (!decide (("split" : Str) = "split") || (!decide (((3 : Nat) : Int) = 3) || (false || !decide ((ts.length : Int) = c)))) = false
        rw [decide_eq_true (show (ts.length : Int) = c by omega)]
        decide
      dsimp only
      refine q (st_for A6 (it_range1 (ea_cons (ev_var rfl) ea_nil) (by omega)) (fun k ρ' J' => (∃ o5, ρ' = [some (sepD n ls), some (.int c), some (.lst (gl.map D.int)), some (.tup T), some (.int i), o5, none, none]) ∧ J' = Same H) ⟨⟨none, rfl⟩, rfl⟩ ?_ ?_)
      · rintro H7 k x ρ' J' b7 j7 hx ⟨⟨o5, rfl⟩, rfl⟩ σ7 H8 A7
        rw [rangeD_get] at hx
        split at hx
        · rename_i hk
          cases hx
          rw [show (0 : Int) + (k : Int) = (k : Int) by omega] at A7
          replace A7 : At K φ (fun H1 => Same H H1 ∧ But φ H7 H1) [some (sepD n ls), some (.int c), some (.lst (gl.map D.int)), some (.tup T), some (.int i), some (.int (k : Int)), none, none] σ7 H8 := A7
          have hkt : k < ts.length := by omega
          have hil : i.toNat < gl.length := by omega
          have hti : ts[k]? = some ts[k] := List.getElem?_eq_getElem hkt
          have hr' := hrts k _ hti
          have hp : vOf (putL gl i.toNat (k : Int)) = setv (vOf gl) i (k : Int) := by rw [vOf_put hil (by omega), Int.toNat_of_nonneg i0]
          have hcn := cnt_put hil (show (0 : Int) ≤ (k : Int) by omega) gn
          have hlen : ((putL gl i.toNat (k : Int)).length : Int) = n := by rw [putL_set hil, List.length_set]; exact hgn
          dsimp only
          refine st_no A7 (et_not (et_B (ev_callD (d := .bl true) (ea_cons (ev_var rfl) (ea_cons (ev_var rfl) (ea_cons (x := .lst ((putL gl i.toNat (k : Int)).map D.int)) ((ev_catL (ds := cutD (gl.map D.int) none (some i) ++ [.int (k : Int)]) (es := cutD (gl.map D.int) (some (i + 1)) none) (ev_catL (ds := cutD (gl.map D.int) none (some i)) (es := [.int (k : Int)]) (ev_slL (ev_var rfl) eo_none (eo_some (ev_var rfl))) (ev_lst (ea_cons (ev_var rfl) ea_nil)) ?_) (ev_slL (ev_var rfl) (eo_some (ev_add (ev_var rfl) ev_int)) eo_none) ?_).is ?_) (ea_cons (x := ts[k]) (ev_ixT (ds := ts) (gT rfl) (ev_var rfl) (atI_ofNat hti)) ea_nil)))) ⟨n, c, ls, _, _, rfl, n0, n1, c0, c1, hlen, by rw [hp]; exact hr', by omega, rfl⟩))) rfl fun H9 A9 => ⟨_, _, ⟨⟨_, rfl⟩, rfl⟩, A9⟩
          · have := cutD_length (gl.map D.int) none (some i)
            rw [List.length_map] at this
            rw [List.length_singleton]
            omega
          · have h1 := cutD_length (gl.map D.int) none (some i)
            have h2 := cutD_length (gl.map D.int) (some (i + 1)) none
            rw [List.length_map] at h1 h2
            rw [List.length_append, List.length_singleton]
            omega
          · rw [cutD_hi i0, cutD_lo (by omega)]
            unfold putL
            rw [List.map_append, List.map_append, List.map_take, List.map_drop, show (i + 1).toNat = i.toNat + 1 by omega]
            rfl
        · cases hx
      · rintro H7 ρ' J' σ7 H8 b7 j7 ⟨⟨o5, rfl⟩, rfl⟩ A7
        exact st_ret A7 ev_bl fun v d' H9 e A9 rr => hrt v H9 A9.j.1 (by subst e; exact rr)
end

/-! ### drawn separations -/
structure Drawn (n top : Int) (ls : List Row) : Prop where
  rows : ∀ r ∈ ls, 0 ≤ r.1 ∧ r.1 < r.2.1 ∧ r.2.1 < n ∧ 1 ≤ r.2.2 ∧ r.2.2 ≤ top
  asc : (ls.map pairOf).Pairwise fun a b => SrtO.lexB a b = true
/-- .. all below (i, j) -/
structure DrawnTo (n top : Int) (i j : Int) (ls : List Row) : Prop extends Drawn n top ls where
  to : ∀ r ∈ ls, r.1 < i ∨ (r.1 = i ∧ r.2.1 < j)
theorem DrawnTo.snoc {n top i j k : Int} {ls : List Row} (h : DrawnTo n top i j ls) (h1 : 0 ≤ i) (h2 : i < j) (h3 : j < n) (h4 : 1 ≤ k) (h5 : k ≤ top) : DrawnTo n top i (j + 1) (ls ++ [(i, j, k)]) := by
  refine ⟨⟨fun r hr => ?_, ?_⟩, fun r hr => ?_⟩
  · rcases List.mem_append.mp hr with hr | hr
    · exact h.rows r hr
    · rw [List.mem_singleton.mp hr]; exact ⟨h1, h2, h3, h4, h5⟩
  · rw [List.map_append]
    refine List.pairwise_append.mpr ⟨h.asc, List.pairwise_singleton _ _, fun a ha b hb => ?_⟩
    obtain ⟨r, hr, rfl⟩ := List.mem_map.mp ha
    rw [List.mem_singleton.mp hb]
    exact SrtO.lexB_iff.mpr (h.to r hr)
  · rcases List.mem_append.mp hr with hr | hr
    · have := h.to r hr; omega
    · rw [List.mem_singleton.mp hr]; exact .inr ⟨rfl, by show j < j + 1; omega⟩
theorem DrawnTo.skip {n top i j : Int} {ls : List Row} (h : DrawnTo n top i j ls) : DrawnTo n top i (j + 1) ls := ⟨h.toDrawn, fun r hr => by have := h.to r hr; omega⟩
theorem DrawnTo.next {n top i j j' : Int} {ls : List Row} (h : DrawnTo n top i j ls) : DrawnTo n top (i + 1) j' ls := ⟨h.toDrawn, fun r hr => by have := h.to r hr; omega⟩
def PreSep : List D → Prop := fun ds => ∃ most top : Int, ds = [.int most, .int top] ∧ 0 ≤ most ∧ most ≤ 23 ∧ 1 ≤ top ∧ top ≤ 9
def RSep : List D → D → Prop := fun ds z => ∃ (most top n : Int) (ls : List Row), ds = [.int most, .int top] ∧ z = sepD n ls ∧ 0 ≤ n ∧ n ≤ most ∧ Drawn n top ls ∧ ls.length ≤ 600
section
variable {P : Program} {w : World} {K : PySem.W.Frag} {mg : Str → Option Value} {base : Heap}
theorem sc__law_separations : FnScope ["pool", "most", "top", "count", "rows", "i", "j"] ["pool", "most", "top"] (defScope s__law_separations) := ⟨rfl, rfl, rfl, by decide +kernel, rfl, by decide +kernel, by decide +kernel⟩
set_option maxHeartbeats 1000000 in
theorem ok__law_separations (B : Bi mg) {f g : Addr} {fd gd : FuncData} (F : Fun K "_law_separations" "_law_separations" s__law_separations f fd) (L__law_draw : Lk K mg "_law_draw" g gd ["pool", "many"]) (G__law_draw : FnOk P w K mg base CX0 2 g gd ["pool", "many"] spDraw) : FnOk P w K mg base CX0 3 f fd ["pool", "most", "top"] (SpP K 2 PreSep RSep) := by
  have S := sc__law_separations
  refine fn_okP F S rfl 4 rfl fun cdv A outer s H E hr => ⟨_, ((pss_cons (ps_set (i := 3) S.nd rfl (by first | exact Or.inl rfl | exact Or.inr rfl) (pe_call G__law_draw (hr.mono (by first | exact Nat.le_refl _ | decide | omega)) (by rfl) L__law_draw.m L__law_draw.kp L__law_draw.bi .nil pass0 (pa_cons (pv 0) (pa_cons (pe_op op_add (pv 1) pe_int) pa_nil))))
 (pss_cons (ps_set (i := 4) S.nd rfl (by first | exact Or.inl rfl | exact Or.inr rfl) (pe_lst pa_nil))
 (pss_cons (ps_for PassesOwn.never rfl (pi_range1 (by rfl) B.range (pa_cons (pv 3) pa_nil)) (pg_name (i := 5) S.nd rfl (by first | exact Or.inl rfl | exact Or.inr rfl))
 (pss_one (ps_for PassesOwn.never rfl (pi_range2 (by rfl) B.range (pa_cons (pe_op op_add (pv 5) pe_int) (pa_cons (pv 3) pa_nil))) (pg_name (i := 6) S.nd rfl (by first | exact Or.inl rfl | exact Or.inr rfl))
 (pss_one (ps_if (pt_cmpR op_gt (pe_call G__law_draw (hr.mono (by first | exact Nat.le_refl _ | decide | omega)) (by rfl) L__law_draw.m L__law_draw.kp L__law_draw.bi .nil pass0 (pa_cons (pv 0) (pa_cons pe_int pa_nil))) pe_int (nomark _))
 (pss_one (ps_expr (pe_bm PySem.F.plainAttrs_list PySem.F.slot_list_append PySem.F.type_list_append mt_append (pv 4) (pa_cons (pe_tup (pa_cons (pv 5) (pa_cons (pv 6) (pa_cons (pe_op op_add pe_int (pe_call G__law_draw (hr.mono (by first | exact Nat.le_refl _ | decide | omega)) (by rfl) L__law_draw.m L__law_draw.kp L__law_draw.bi .nil pass0 (pa_cons (pv 0) (pa_cons (pv 2) pa_nil)))) pa_nil)))) pa_nil))))
 pss_nil)))))
 (pss_one (ps_ret (pe_tup (pa_cons (pv 3) (pa_cons (pe_callTy c_tupOf (by rfl) B.tuple (by decide +kernel) (pa_cons (pv 4) pa_nil)) pa_nil))))))))), fun φ p pl ns ds H D0 σ hl pre np ne hrt A => ?_⟩
  obtain ⟨most, top, rfl, m0, m1, t0, t1⟩ := pre
  replace A : At K φ (JB p pl ns H) [some (.raw (.ref p)), some (.int most), some (.int top), none, none, none, none] σ H := A
  have hP : Pooled φ (JB p pl ns H) p pl ns := pooledB np ne
  refine q (st_asg A (ev_draw hP rfl (ev_add (ev_var rfl) ev_int) (by omega) (by omega)) fun d σ1 H1 hd A1 => q ?_)
  obtain ⟨n, rfl, n0, n1⟩ := hd
  refine st_newS A1 (en_ofN (en_lstD ea_nil)) fun l ds0 C J1 σ2 H2 hC N1 L1 A2 => q ?_
  obtain ⟨e, rfl⟩ := hC
  subst e
  have hP1 : Pooled (wo φ l) J1 p pl ns := N1.ext.pool _ _ _ hP
  obtain ⟨npl, nsl⟩ := N1.pl _ _ _ hP
  let ρ0 : Option D → Option D → List (Option D) := fun o5 o6 => [some (.raw (.ref p)), some (.int most), some (.int top), some (.int n), some (.raw (.ref l)), o5, o6]
  replace A2 : At K (wo φ l) J1 (ρ0 none none) σ2 H2 := A2
  have sb := N1.st
  refine st_for A2 (it_range1 (ea_cons (ev_var rfl) ea_nil) (by omega)) (fun i ρ' J' => ∃ (ls : List Row) (o5 o6 : Option D), ls.length ≤ i * 24 ∧ DrawnTo n top i (i + 1) ls ∧ LivS K (wo φ l) J' l HO.lst (ls.map rowD) ∧ (∀ H', J' H' → JB p pl ns H H') ∧ Pooled (wo φ l) J' p pl ns ∧ ρ' = ρ0 o5 o6) ⟨[], none, none, Nat.zero_le _, ⟨⟨(fun r h => nomatch h), List.Pairwise.nil⟩, (fun r h => nomatch h)⟩, L1, fun H' h => N1.ext.imp H' h, hP1, rfl⟩ ?_ ?_
  · rintro H4 i x ρ' J' b4 j4 hx ⟨ls, o5, o6, hls, hdr, L4, hb4, hP4, rfl⟩ σ' H' A4
    rw [rangeD_get] at hx
    split at hx
    · rename_i hi
      cases hx
      replace A4 : At K (wo φ l) (fun H => J' H ∧ But (wo φ l) H4 H) (ρ0 (some (.int (0 + (i : Int)))) o6) σ' H' := A4
      dsimp only
      refine st_for A4 (it_range2 (ea_cons (ev_add (ev_var rfl) ev_int) (ea_cons (ev_var rfl) ea_nil)) (by omega)) (fun j ρ' J' => ∃ (ls : List Row) (o6 : Option D), ls.length ≤ i * 24 + j ∧ DrawnTo n top i (i + 1 + j) ls ∧ LivS K (wo φ l) J' l HO.lst (ls.map rowD) ∧ (∀ H', J' H' → JB p pl ns H H') ∧ (∀ H', J' H' → But (wo φ l) H4 H') ∧ Pooled (wo φ l) J' p pl ns ∧ ρ' = ρ0 (some (.int (0 + (i : Int)))) o6) ⟨ls, o6, hls, by rw [show (i : Int) + 1 + ((0 : Nat) : Int) = i + 1 by omega]; exact hdr, L4.but, fun H' h => hb4 H' h.1, fun H' h => h.2, Ext.but'.pool _ _ _ hP4, rfl⟩ ?_ ?_
      · rintro H5 j x ρ' J5 b5 j5 hx ⟨ls, o6, hls, hdr, L5, hb5, hbb5, hP5, rfl⟩ σ5 H6 A5
        rw [rangeD_get] at hx
        split at hx
        · rename_i hj
          cases hx
          replace A5 : At K (wo φ l) (fun H => J5 H ∧ But (wo φ l) H5 H) (ρ0 (some (.int (0 + (i : Int)))) (some (.int (0 + (i : Int) + 1 + (j : Int))))) σ5 H6 := A5
          have hP6 : Pooled (wo φ l) (fun H => J5 H ∧ But (wo φ l) H5 H) p pl ns := Ext.but'.pool _ _ _ hP5
          refine st_if A5 (et_cmpP (f := fun i j => decide (j < i)) (ev_draw hP6 rfl ev_int (by decide) (by decide)) (ev_i ev_int)) (fun _ H7 A7 => ?_) (fun _ H7 A7 => ?_)
          · refine st_appS (P := fun d => ∃ k : Int, d = rowD ((i : Int), (i : Int) + 1 + (j : Int), k) ∧ 1 ≤ k ∧ k ≤ top) A7 L5.but rfl (fun σ H A Q k => ev_tupP (ea_consP (ev_var rfl) (ea_consP (ev_var rfl) (ea_consP (ei_add (ev_i ev_int) (ev_draw hP6 rfl (ev_var rfl) (by omega) (by omega))) ea_nil))) ?_ σ H A Q fun v d H' b A' pd r => k v d H' b A' ?_ r) (by rw [List.length_map]; omega) fun d J8 H8 hd W8 L8 A8 => ?_
            · rintro r ⟨d, r', rfl, _, d2, r2, rfl, _, d3, r3, rfl, _, rfl⟩
              exact Nat.le_of_ble_eq_true rfl
            · obtain ⟨r, rfl, d, r', rfl, rfl, d2, r2, rfl, rfl, d3, r3, rfl, ⟨k3, rfl, i4, j4, rfl, ⟨h0, h1⟩, rfl⟩, rfl⟩ := pd
              refine ⟨1 + j4, ?_, by omega, by omega⟩
              unfold rowD
              rw [show (0 : Int) + (i : Int) = i by omega]
            · obtain ⟨k, rfl, k0, k1⟩ := hd
              have hb8 := W8.base _ (fun H h => h.2) (Stab.but (.inl L5.np))
              refine ⟨_, J8, ⟨ls ++ [((i : Int), (i : Int) + 1 + (j : Int), k)], _, by rw [List.length_append]; show ls.length + 1 ≤ _; omega, ?_, by rw [List.map_append]; exact L8, W8.base _ (fun H h => hb5 H h.1) sb, W8.base _ (fun H h => hbb5 H h.1) (Stab.but (.inl L5.np)), W8.pool _ _ _ hP6 npl nsl, rfl⟩, A8.live ⟨A8.j, hb8 _ A8.j⟩ (A8.mono.and (Mo.but (hb8 _ A8.j).tr))⟩
              have := hdr.snoc (k := k) (by omega) (by omega) (by omega) k0 k1
              rw [show (i : Int) + 1 + ((j + 1 : Nat) : Int) = (i : Int) + 1 + (j : Int) + 1 by omega]
              exact this
          · refine ⟨_, J5, ⟨ls, _, by omega, ?_, L5, hb5, hbb5, hP5, rfl⟩, A7⟩
            rw [show (i : Int) + 1 + ((j + 1 : Nat) : Int) = (i : Int) + 1 + (j : Int) + 1 by omega]
            exact hdr.skip
        · cases hx
      · rintro H5 ρ' J5 σ5 H6 b5 j5 ⟨ls, o6, hls, hdr, L5, hb5, hbb5, hP5, rfl⟩ A5
        rw [rangeD_length] at hls
        exact ⟨_, fun H => J5 H ∧ But (wo φ l) H5 H, ⟨ls, _, o6, by rw [Nat.succ_mul]; omega, hdr.next, L5.but, fun H h => hb5 H h.1, Ext.but'.pool _ _ _ hP5, rfl⟩, A5.live ⟨A5.j, hbb5 _ A5.j.1⟩ (A5.mono.and (Mo.but (hbb5 _ A5.j.1).tr))⟩
    · cases hx
  · rintro H4 ρ' J' σ' H' b4 j4 ⟨ls, o5, o6, hls, hdr, L4, hb4, hP4, rfl⟩ A4
    rw [rangeD_length] at hls
    have A5 := L4.but.freeze N1.fr A4 (k := 4) rfl
    replace A5 : At K φ (fun H_1 => (J' H_1 ∧ But (wo φ l) H4 H_1) ∧ But φ H' H_1) [some (.raw (.ref p)), some (.int most), some (.int top), some (.int n), some (.lst (ls.map rowD)), o5, o6] σ' H' := A5
    refine st_ret A5 (ev_tup (ea_cons (ev_var rfl) (ea_cons (ev_tupL (ev_var rfl)) ea_nil))) fun v d H6 e A6 r => hrt v d H6 ⟨most, top, n, ls, rfl, e, n0, by omega, hdr.toDrawn, by omega⟩ (hb4 _ A6.j.1.1) r
end

/-! ### the law's start beside a table -/
section
variable {P : Program} {w : World} {K : PySem.W.Frag} {mg : Str → Option Value} {base : Heap}
def spLawT (K : PySem.W.Frag) (C : Addr) : Sp := fun vs H Q _ => ∃ (a : Addr) (ns : List Int), vs = [.ref a] ∧ SqL K H a (ns.map V.int) ∧ ns.length ≤ 63 ∧ H C = some (.tbl #[]) ∧ ∀ H', Q (.bl true) H'
/-- st_pool beside a table -/
theorem st_poolT {D0 : Ends} {σ : L2.St} {H : Hp} {E : XK} {k n : Nat} {a C : Addr} {q : Str} {ps : Array Value} {ns : List Int} (hS : SqL K H a (ns.map V.int)) (hl : ns.length ≤ 63) (h0 : σ[0]? = some (some (.ref a))) (hk : σ.length = n) (hkn : k < n) (tj : TabJ C q ps H)
    (kk : ∀ p s σ' H', s ≠ p → p ≠ C → s ≠ C → At K (fun b => b ≠ p ∧ b ≠ C) (JPT p s ns C q ps) ((List.replicate n none).set k (some (.raw (.ref p)))) σ' H' → D0.nx σ' H') : tAsg (tCall (spPool K) [] E (tCons (tVar 0) tNil)) (gName k) D0 σ H := by
  refine ⟨_, h0, a, ns, rfl, hS, hl, fun p s H' sm hp hs ne po => ?_⟩
  have hp' : H' p ≠ none := by obtain ⟨_, _, _, _, e, _⟩ := po; rw [e]; exact fun z => by cases z
  have hs' : H' s ≠ none := by obtain ⟨_, _, _, _, _, e, _⟩ := po; rw [e]; exact fun z => by cases z
  have hpC : p ≠ C := fun z => by rw [z, tj.1] at hp; cases hp
  have hsC : s ≠ C := fun z => by rw [z, tj.1] at hs; cases hs
  have tj' := tj.same sm
  refine kk p s _ H' ne hpC hsC ⟨⟨by rw [List.length_set, List.length_set, List.length_replicate]; exact hk, fun i d hd => ?_⟩, ⟨fun b hb => ⟨fun z => hp' (z ▸ hb), fun z => by rw [z, tj'.1] at hb; cases hb⟩, fun b xs hb => ⟨(fun z => by obtain ⟨_, _, _, _, e, _⟩ := po; rw [z, e] at hb; cases hb), (fun z => by rw [z, tj'.1] at hb; cases hb)⟩⟩, ⟨po, tj'⟩, (mo_pool hp' hs').and tj'.mo⟩
  by_cases e : k = i
  · subst e
    rw [List.getElem?_set_self (by rw [List.length_replicate]; exact hkn)] at hd
    cases hd
    exact ⟨_, List.getElem?_set_self (by rw [hk]; exact hkn), rfl⟩
  · rw [List.getElem?_set_ne e, List.getElem?_replicate] at hd
    split at hd <;> cases hd
theorem sqL_same {H H' : Hp} {a : Addr} {xs : List V} (h : SqL K H a xs) (s : Same H H') : SqL K H' a xs := by
  rcases h with h | h
  · rcases h with h | ⟨o, h⟩
    · exact .inl (.inl (s _ _ h))
    · exact .inl (.inr ⟨o, s _ _ h⟩)
  · exact .inr h
theorem rangeD_snoc {lo : Int} {n : Nat} : rangeD lo (n + 1) = rangeD lo n ++ [.int (lo + (n : Int))] := by
  unfold rangeD
  rw [List.range_succ, List.map_append]
  rfl
theorem etu_no {φ : Addr → Prop} {J : Array Value → Hp → Prop} {ρ : List (Option D)} {t1 : TT} (ha : EvTU K φ J t1 ρ (fun b => b = true)) : EvTU K φ J (tNot t1) ρ (fun b => b = false) := fun ps σ H A Q k => etu_not ha ps σ H A Q fun b ps' H' bt A' e => k b ps' H' bt A' (by
  cases b with
  | false => rfl
  | true => cases e)
def hdD (E : List D) : D := match E with
  | [] => .non
  | d :: _ => d
end

-- import HandS.EndTab
-- import KE.KNestM
-- import KE.KLam
/-! ### the law -/
section
variable {K : PySem.W.Frag} {φ φ' : Addr → Prop} {J : Hp → Prop} {H H' H0 H1 : Hp} {ρ ρ' : List (Option D)} {σ : L2.St} {ta : TA} {te tb : TE} {t1 t2 : TT} {x y z d : D} {ds es : List D} {D0 : Ends} {C l : Addr} {q : Str} {ps ps' : Array Value} {pos : Pos} {p : Bool → Prop}
theorem et_andF (ha : EvT K φ J t1 ρ p) (hb : EvX K φ J t2 ρ false) : EvX K φ J (tAnd t1 t2) ρ false := fun σ H A Q q => ha σ H A _ fun k H1 b1 A1 e1 => by
  cases k with
  | false => exact q false H1 b1 A1 rfl
  | true => exact hb σ H1 A1 _ fun b H2 b2 A2 e => q b H2 (b1.trans b2) A2 e
theorem ev_sumS {ns : List Int} (L : LivS K φ J l HO.lst (ns.map D.int)) (ha : EvD K φ J te ρ (.raw (.ref l))) : EvD K φ J (tCB (rSum K) (tCons te tNil)) ρ (.int ns.sum) := fun σ H A Q q => ha σ H A _ fun v x H1 b1 A1 e1 r1 => by
  subst e1
  cases (show v = _ from r1)
  obtain ⟨vs, H0, r, m, k0⟩ := L.ex
  have ev := r.ints
  subst ev
  exact ⟨l, ns, rfl, SqL.of (k0 _ A1.j).1, q _ _ H1 b1 A1 rfl rfl⟩
/-- two promises for one def -/
def SpOr (a b : Sp) : Sp := fun vs H Q E => a vs H Q E ∨ b vs H Q E
theorem ev_callOr {sp : Sp} {n : Nat} {R : List D → D → Prop} {E : XK} (ha : EvAD K φ J ta ρ ds) (hr : R ds d) (hl : ds.length = n := by rfl) : EvD K φ J (tCall (SpOr sp (SpD K n R)) [] E ta) ρ d := fun σ H A Q qq =>
  ha σ H A _ fun vs ds' H1 b1 A1 e r1 => by
    subst e
    refine .inr ⟨φ, _, d, hl, by rw [List.append_nil]; exact r1, A1.fr, hr, fun v H' s r => ?_⟩
    exact qq v d H' (b1.trans (But.of s)) (A1.same s) rfl r
theorem st_callGO {ι : Type} {sp2 : Sp} {J : Array Value → Hp → Prop} {n : Nat} {Pre : ι → List D → Prop} {R : ι → List D → D → Prop} {E : XK} {g : TG} {us : List Nat} {ρ2 : D → List (Option D)} (X : ι) (T : TblF φ C q J) (A : At K φ (J ps) ρ σ H) (ha : EvAD K φ (J ps) ta ρ ds) (hp : Pre X ds) (hg : ∀ d, R X ds d → EvG K g d ρ (ρ2 d) us)
    (kk : ∀ d ps' σ' H', R X ds d → At K φ (J ps') (ρ2 d) σ' H' → D0.nx σ' H') (hl : ds.length = n := by rfl) : tAsg (tCall (SpOr (fun vs H Q E => ∃ X, SpS K C q pos n (Pre X) (R X) vs H Q E) sp2) [] E ta) g D0 σ H :=
  ha σ H A _ fun vs ds' H1 b1 A1 e r1 => by
    subst e
    refine .inl ⟨X, φ, _, ps, hl, by rw [List.append_nil]; exact r1, A1.fr, T.np, T.ok _ _ A1.j, hp, fun v d ps' H' rd j r => ?_⟩
    exact hg d rd φ _ σ H' v (At.tbl T A1 j.1 j.2.1) r _ fun σ' A3 _ => kk d ps' σ' H' rd A3
theorem fn_or {PP : Program} {w : World} {mg : Str → Option Value} {base : Heap} {CX : CXT} {k : Nat} {f : Addr} {fd : FuncData} {ps : List Str} {a b : Sp} (h1 : FnOk PP w K mg base CX k f fd ps a) (h2 : FnOk PP w K mg base CX k f fd ps b) : FnOk PP w K mg base CX k f fd ps (SpOr a b) :=
  ⟨fun vs H Q E h => h.elim (h1.len vs H Q E) (h2.len vs H Q E), fun A outer s H args us vs Q E hr he hb hv h => h.elim (h1.run A outer s H args us vs Q E hr he hb hv) (h2.run A outer s H args us vs Q E hr he hb hv)⟩
end
def chN (p q : Nat) (x : Nat × Nat) : Nat := ((List.range 31).find? fun n => decide ((blk x.1 x.2 n).1 * q ≤ p * (blk x.1 x.2 n).2)).getD 0
theorem chN_stops {p q : Nat} {x : Nat × Nat} {m : Nat} (hm : m ≤ 30) (h : (blk x.1 x.2 m).1 * q ≤ p * (blk x.1 x.2 m).2) : Stops x.1 x.2 p q (chN p q x) ∧ chN p q x ≤ m := by
  unfold chN
  cases e : (List.range 31).find? fun n => decide ((blk x.1 x.2 n).1 * q ≤ p * (blk x.1 x.2 n).2) with
  | none =>
    have z := List.find?_eq_none.mp e m (List.mem_range.mpr (by omega))
    exact absurd (decide_eq_true h) z
  | some n =>
    obtain ⟨h1, h2, h3⟩ := List.find?_range_eq_some.mp e
    have hn := List.mem_range.mp h2
    refine ⟨⟨by show n ≤ 30; omega, fun i hi => ?_, of_decide_eq_true h1⟩, ?_⟩
    · have := h3 i hi
      rw [Bool.not_eq_true', decide_eq_false_iff_not] at this
      show _ < _
      omega
    · show n ≤ m
      refine Nat.not_lt.mp fun z => ?_
      have := h3 m z
      rw [Bool.not_eq_true', decide_eq_false_iff_not] at this
      exact this h
theorem blk_12 : ∀ a, a ≤ 6 → ∀ b, 2 ≤ b → b ≤ 6 → (blk a b 12).1 * 12 ≤ (blk a b 12).2 := by
  intro a ha b hb hb6
  have h : ∀ a, a < 7 → ∀ b, b < 7 → 2 ≤ b → (blk a b 12).1 * 12 ≤ (blk a b 12).2 := by decide +kernel
  exact h a (by omega) b (by omega) hb
theorem chN_pair {p q a b : Nat} (hp : 1 ≤ p) (hq : q ≤ 12) (ha : a ≤ 6) (hb : 2 ≤ b) (hb6 : b ≤ 6) : Stops a b p q (chN p q (a, b)) := by
  refine (chN_stops (x := (a, b)) (m := 12) (by decide) ?_).1
  have h := blk_12 a ha b hb hb6
  have h1 : (blk a b 12).1 * q ≤ (blk a b 12).1 * 12 := Nat.mul_le_mul_left _ hq
  have h2 : 1 * (blk a b 12).2 ≤ p * (blk a b 12).2 := Nat.mul_le_mul_right _ hp
  show (blk a b 12).1 * q ≤ p * (blk a b 12).2
  omega
theorem chN_zero {p q : Nat} : Stops 0 1 p q (chN p q (0, 1)) ∧ chN p q (0, 1) ≤ 1 := by
  refine chN_stops (x := (0, 1)) (m := 1) (by decide) ?_
  have e : blk 0 1 1 = (0, 1) := by decide +kernel
  show (blk 0 1 1).1 * q ≤ p * (blk 0 1 1).2
  rw [e]
  show 0 * q ≤ _
  omega
/-- what is offered, so far -/
structure OffOk (p q : Nat) (prs : List (Nat × Nat)) : Prop where
  st : ∀ x ∈ prs, x.1 ≤ 120 ∧ 0 < x.2 ∧ x.2 ≤ 9 ∧ Stops x.1 x.2 p q (chN p q x)
  lo : ((prs.map fun x => max 1 (chN p q x : Int)).sum : Int) ≤ 3 + (prs.length : Int)
theorem OffOk.snoc {p q : Nat} {prs : List (Nat × Nat)} (h : OffOk p q prs) {x : Nat × Nat} (hx : x.1 ≤ 120 ∧ 0 < x.2 ∧ x.2 ≤ 9 ∧ Stops x.1 x.2 p q (chN p q x)) (hs : (prs.map fun x => max 1 (chN p q x : Int)).sum + max 1 (chN p q x : Int) ≤ 4 + (prs.length : Int)) : OffOk p q (prs ++ [x]) := by
  refine ⟨fun y hy => ?_, ?_⟩
  · rcases List.mem_append.mp hy with hy | hy
    · exact h.st y hy
    · rw [List.mem_singleton.mp hy]; exact hx
  · rw [List.map_append, List.sum_append, List.length_append, List.map_cons, List.map_nil, List.sum_cons, List.sum_nil, List.length_singleton]
    omega
theorem vOf_rep (m : Nat) : vOf (List.replicate m (-1)) = fun _ => none := by
  funext i
  unfold vOf
  split
  · rw [List.getElem?_replicate]
    split
    · rfl
    · rfl
  · rfl
theorem flat_rep (d : D) : ∀ n : Nat, (List.replicate n [d]).flatten = List.replicate n d
  | 0 => rfl
  | n + 1 => by rw [List.replicate_succ, List.flatten_cons, flat_rep d n, List.replicate_succ]; rfl
section
variable {P : Program} {w : World} {K : PySem.W.Frag} {mg : Str → Option Value} {base : Heap}
local macro_rules | `(tactic| walk_at "le") => `(tactic| repeat' (first | exact Le.nil | refine Le.keep ?_ | refine Le.drop ?_))
theorem scL : FnScope ["script", "pool", "separations", "q", "p", "offered", "loads", "k", "pair", "load", "owners", "user", "rows", "i", "j", "least", "whole", "channels", "told"] ["script"] (defScope s_law) := ⟨rfl, rfl, rfl, by decide +kernel, rfl, by decide +kernel, by decide +kernel⟩

set_option maxHeartbeats 8000000 in
theorem ok_all (B : Bi mg) (C : Cs mg) {cR C0 : Addr} (TB : LamX.TabB base mg cR C0) {c_InvalidSeparations : Addr} (X_InvalidSeparations : ExC K mg "InvalidSeparations" c_InvalidSeparations) {c_NoNumber : Addr} (X_NoNumber : ExC K mg "NoNumber" c_NoNumber) (XN : PySem.W.exmOne K (.ref c_InvalidSeparations) (.ref c_NoNumber) = some false) {f_is_integer : Addr} {fd_is_integer : FuncData} (F_is_integer : Fun K "is_integer" "is_integer" s_is_integer f_is_integer fd_is_integer) (L_is_integer : Lk K mg "is_integer" f_is_integer fd_is_integer ["value"]) {f_is_row : Addr} {fd_is_row : FuncData} (F_is_row : Fun K "is_row" "is_row" s_is_row f_is_row fd_is_row) (L_is_row : Lk K mg "is_row" f_is_row fd_is_row ["value", "count"]) {f_is_separations : Addr} {fd_is_separations : FuncData} (F_is_separations : Fun K "is_separations" "is_separations" s_is_separations f_is_separations fd_is_separations) (L_is_separations : Lk K mg "is_separations" f_is_separations fd_is_separations ["value"]) {f_made_separations : Addr} {fd_made_separations : FuncData} (F_made_separations : Fun K "made_separations" "made_separations" s_made_separations f_made_separations fd_made_separations) (L_made_separations : Lk K mg "made_separations" f_made_separations fd_made_separations ["count", "rows"]) {f_least_between : Addr} {fd_least_between : FuncData} (F_least_between : Fun K "least_between" "least_between" s_least_between f_least_between fd_least_between) (L_least_between : Lk K mg "least_between" f_least_between fd_least_between ["separations", "i", "j"]) {f_neighbors : Addr} {fd_neighbors : FuncData} (F_neighbors : Fun K "neighbors" "neighbors" s_neighbors f_neighbors fd_neighbors) (L_neighbors : Lk K mg "neighbors" f_neighbors fd_neighbors ["separations", "i"]) {f_breaks : Addr} {fd_breaks : FuncData} (F_breaks : Fun K "breaks" "breaks" s_breaks f_breaks fd_breaks) (L_breaks : Lk K mg "breaks" f_breaks fd_breaks ["separations", "i", "j", "first", "second"]) {f_would_break : Addr} {fd_would_break : FuncData} (F_would_break : Fun K "would_break" "would_break" s_would_break f_would_break fd_would_break) (L_would_break : Lk K mg "would_break" f_would_break fd_would_break ["separations", "given", "i", "channel"]) {f_free_channels : Addr} {fd_free_channels : FuncData} (F_free_channels : Fun K "free_channels" "free_channels" s_free_channels f_free_channels fd_free_channels) (L_free_channels : Lk K mg "free_channels" f_free_channels fd_free_channels ["separations", "channels", "given", "i"]) {f_search : Addr} {fd_search : FuncData} (F_search : Fun K "search" "search" s_search f_search fd_search) (L_search : Lk K mg "search" f_search fd_search ["separations", "channels", "given"]) {f_clash_with : Addr} {fd_clash_with : FuncData} (F_clash_with : Fun K "clash_with" "clash_with" s_clash_with f_clash_with fd_clash_with) (L_clash_with : Lk K mg "clash_with" f_clash_with fd_clash_with ["separations", "given", "i", "channel"]) {f_solved : Addr} {fd_solved : FuncData} (F_solved : Fun K "solved" "solved" s_solved f_solved fd_solved) (L_solved : Lk K mg "solved" f_solved fd_solved ["separations", "channels"]) {f_lowest : Addr} {fd_lowest : FuncData} (F_lowest : Fun K "lowest" "lowest" s_lowest f_lowest fd_lowest) (L_lowest : Lk K mg "lowest" f_lowest fd_lowest ["p", "q"]) {f_channels_for : Addr} {fd_channels_for : FuncData} (F_channels_for : Fun K "channels_for" "channels_for" s_channels_for f_channels_for fd_channels_for) (L_channels_for : Lk K mg "channels_for" f_channels_for fd_channels_for ["a", "b", "p", "q"]) {f_demands : Addr} {fd_demands : FuncData} (F_demands : Fun K "demands" "demands" s_demands f_demands fd_demands) (L_demands : Lk K mg "demands" f_demands fd_demands ["separations", "loads"]) {f_grade : Addr} {fd_grade : FuncData} (F_grade : Fun K "grade" "grade" s_grade f_grade fd_grade) (L_grade : Lk K mg "grade" f_grade fd_grade ["separations", "offered", "channels", "p", "q"]) {f__law_same : Addr} {fd__law_same : FuncData} (F__law_same : Fun K "_law_same" "_law_same" s__law_same f__law_same fd__law_same) (L__law_same : Lk K mg "_law_same" f__law_same fd__law_same ["actual", "due"]) {f__law_is_integer : Addr} {fd__law_is_integer : FuncData} (F__law_is_integer : Fun K "_law_is_integer" "_law_is_integer" s__law_is_integer f__law_is_integer fd__law_is_integer) (L__law_is_integer : Lk K mg "_law_is_integer" f__law_is_integer fd__law_is_integer ["actual"]) {f__law_pool : Addr} {fd__law_pool : FuncData} (F__law_pool : Fun K "_law_pool" "_law_pool" s__law_pool f__law_pool fd__law_pool) (L__law_pool : Lk K mg "_law_pool" f__law_pool fd__law_pool ["script"]) {f__law_spread : Addr} {fd__law_spread : FuncData} (F__law_spread : Fun K "_law_spread" "_law_spread" s__law_spread f__law_spread fd__law_spread) (L__law_spread : Lk K mg "_law_spread" f__law_spread fd__law_spread ["cell"]) {f__law_draw : Addr} {fd__law_draw : FuncData} (F__law_draw : Fun K "_law_draw" "_law_draw" s__law_draw f__law_draw fd__law_draw) (L__law_draw : Lk K mg "_law_draw" f__law_draw fd__law_draw ["pool", "many"]) {f__law_separations : Addr} {fd__law_separations : FuncData} (F__law_separations : Fun K "_law_separations" "_law_separations" s__law_separations f__law_separations fd__law_separations) (L__law_separations : Lk K mg "_law_separations" f__law_separations fd__law_separations ["pool", "most", "top"]) {f__law_least : Addr} {fd__law_least : FuncData} (F__law_least : Fun K "_law_least" "_law_least" s__law_least f__law_least fd__law_least) (L__law_least : Lk K mg "_law_least" f__law_least fd__law_least ["separations", "i", "j"]) {f__law_keeps : Addr} {fd__law_keeps : FuncData} (F__law_keeps : Fun K "_law_keeps" "_law_keeps" s__law_keeps f__law_keeps fd__law_keeps) (L__law_keeps : Lk K mg "_law_keeps" f__law_keeps fd__law_keeps ["separations", "channels", "value"]) {f__law_shows : Addr} {fd__law_shows : FuncData} (F__law_shows : Fun K "_law_shows" "_law_shows" s__law_shows f__law_shows fd__law_shows) (L__law_shows : Lk K mg "_law_shows" f__law_shows fd__law_shows ["separations", "channels", "given", "tree"]) {f__law_exists : Addr} {fd__law_exists : FuncData} (F__law_exists : Fun K "_law_exists" "_law_exists" s__law_exists f__law_exists fd__law_exists) (L__law_exists : Lk K mg "_law_exists" f__law_exists fd__law_exists ["separations", "channels", "given"]) {f__law_word : Addr} {fd__law_word : FuncData} (F__law_word : Fun K "_law_word" "_law_word" s__law_word f__law_word fd__law_word) (L__law_word : Lk K mg "_law_word" f__law_word fd__law_word ["separations", "offered", "channels", "p", "q"]) {f__law_members : Addr} {fd__law_members : FuncData} (F__law_members : Fun K "_law_members" "_law_members" s__law_members f__law_members fd__law_members) (L__law_members : Lk K mg "_law_members" f__law_members fd__law_members ["value"]) {f_law : Addr} {fd_law : FuncData} (F_law : Fun K "law" "law" s_law f_law fd_law) (L_law : Lk K mg "law" f_law fd_law ["script"]) (FC : FunC K "search" "search" s_search f_search fd_search cR) : FnOk P w K mg base CX0 170 f_law fd_law ["script"] (spLawT K C0) := by
  have G_is_integer : FnOk P w K mg base CX0 1 _ _ _ _ := ok_is_integer B F_is_integer
  have G_is_row : FnOk P w K mg base CX0 2 _ _ _ _ := ok_is_row B C F_is_row L_is_integer G_is_integer
  have G_is_separations : FnOk P w K mg base CX0 3 _ _ _ _ := ok_is_separations B C F_is_separations L_is_integer G_is_integer L_is_row G_is_row
  have G_made_separations : FnOk P w K mg base (L2.CX P w) 4 _ _ _ _ := ok_made_separations B C X_InvalidSeparations F_made_separations L_is_separations G_is_separations
  have G_least_between : FnOk P w K mg base CX0 1 _ _ _ _ := ok_least_between B F_least_between
  have G_neighbors : FnOk P w K mg base CX0 1 _ _ _ _ := ok_neighbors B F_neighbors
  have G_breaks : FnOk P w K mg base CX0 2 _ _ _ _ := ok_breaks B F_breaks L_least_between G_least_between
  have G_would_break : FnOk P w K mg base CX0 3 _ _ _ _ := ok_would_break B F_would_break L_neighbors G_neighbors L_breaks G_breaks
  have G_free_channels : FnOk P w K mg base CX0 4 _ _ _ _ := ok_free_channels B F_free_channels L_would_break G_would_break
  have G_clash_with : FnOk P w K mg base CX0 3 _ _ _ _ := ok_clash_with B F_clash_with L_neighbors G_neighbors L_breaks G_breaks
  have G_search : FnOk P w K mg base CX0 (6 * 25 + 9) _ _ _ _ := ok_search TB B FC L_search L_free_channels G_free_channels L_neighbors G_neighbors L_clash_with G_clash_with 25
  have G_solved : FnOk P w K mg base CX0 160 _ _ _ _ := ok_solved B F_solved L_search G_search
  have G_lowest : FnOk P w K mg base CX0 1 _ _ _ _ := ok_lowest B C F_lowest
  have G_channels_for : FnOk P w K mg base (L2.CX P w) 2 _ _ _ _ := ok_channels_for B C X_NoNumber F_channels_for L_lowest G_lowest
  have G_demands : FnOk P w K mg base (L2.CX P w) 5 _ _ _ _ := ok_demands B C X_InvalidSeparations F_demands L_least_between G_least_between L_made_separations G_made_separations
  have G_grade_t := ok_grade_t (c1 := c_NoNumber) (c2 := c_InvalidSeparations) B F_grade L_channels_for G_channels_for L_demands G_demands L_solved G_solved
  have G_grade_x := ok_grade_x (c1 := c_NoNumber) (c2 := c_InvalidSeparations) B F_grade L_channels_for G_channels_for L_demands G_demands L_solved G_solved
  have G__law_same : FnOk P w K mg base CX0 5 _ _ _ _ := ok__law_same B F__law_same L__law_same 5
  have G__law_pool : FnOk P w K mg base CX0 1 _ _ _ _ := ok__law_pool B F__law_pool
  have G__law_spread : FnOk P w K mg base CX0 1 _ _ _ _ := ok__law_spread B F__law_spread
  have G__law_draw : FnOk P w K mg base CX0 2 _ _ _ _ := ok__law_draw B F__law_draw L__law_spread G__law_spread
  have G__law_separations : FnOk P w K mg base CX0 3 _ _ _ _ := ok__law_separations B F__law_separations L__law_draw G__law_draw
  have G__law_least : FnOk P w K mg base CX0 1 _ _ _ _ := ok__law_least B F__law_least
  have G__law_members : FnOk P w K mg base CX0 1 _ _ _ _ := ok__law_members B F__law_members
  have G__law_is_integer : FnOk P w K mg base CX0 1 _ _ _ _ := ok__law_is_integer B F__law_is_integer
  have G__law_keeps : FnOk P w K mg base CX0 2 _ _ _ _ := ok__law_keeps B F__law_keeps L__law_is_integer G__law_is_integer
  have G__law_shows : FnOk P w K mg base CX0 81 _ _ _ _ := ok__law_shows B F__law_shows L__law_shows L__law_is_integer G__law_is_integer L__law_least G__law_least 26
  have G__law_exists : FnOk P w K mg base CX0 81 _ _ _ _ := ok__law_exists B F__law_exists L__law_exists L__law_least G__law_least 26
  have G__law_word := fn_or (ok__law_word_t B X_NoNumber X_InvalidSeparations F__law_word L__law_members G__law_members L_grade G_grade_t) (ok__law_word_x B X_NoNumber X_InvalidSeparations XN F__law_word L__law_members G__law_members L_grade G_grade_x)
  have S := scL
  refine F_law.ok S (fun vs H Q E h => ?_) (fun cdv A outer s H vs Q E hr h => ?_)
  · obtain ⟨a, ns, rfl, _⟩ := h
    rfl
  obtain ⟨a, ns, rfl, hS, hlen, hC, kq⟩ := h
  refine ⟨_, ((pss_cons (ps_set (i := 1) S.nd rfl (by first | exact Or.inl rfl | exact Or.inr rfl) (pe_call G__law_pool (hr.mono (by first | exact Nat.le_refl _ | decide | omega)) (by rfl) L__law_pool.m L__law_pool.kp L__law_pool.bi .nil pass0 (pa_cons (pv 0) pa_nil)))
 (pss_cons (ps_set (i := 2) S.nd rfl (by first | exact Or.inl rfl | exact Or.inr rfl) (pe_call G__law_separations (hr.mono (by first | exact Nat.le_refl _ | decide | omega)) (by rfl) L__law_separations.m L__law_separations.kp L__law_separations.bi .nil pass0 (pa_cons (pv 1) (pa_cons pe_int (pa_cons pe_int pa_nil)))))
 (pss_cons (ps_set (i := 3) S.nd rfl (by first | exact Or.inl rfl | exact Or.inr rfl) (pe_op op_add pe_int (pe_call G__law_draw (hr.mono (by first | exact Nat.le_refl _ | decide | omega)) (by rfl) L__law_draw.m L__law_draw.kp L__law_draw.bi .nil pass0 (pa_cons (pv 1) (pa_cons pe_int pa_nil)))))
 (pss_cons (ps_set (i := 4) S.nd rfl (by first | exact Or.inl rfl | exact Or.inr rfl) (pe_op op_add pe_int (pe_call G__law_draw (hr.mono (by first | exact Nat.le_refl _ | decide | omega)) (by rfl) L__law_draw.m L__law_draw.kp L__law_draw.bi .nil pass0 (pa_cons (pv 1) (pa_cons (pv 3) pa_nil)))))
 (pss_cons (ps_set (i := 5) S.nd rfl (by first | exact Or.inl rfl | exact Or.inr rfl) (pe_lst pa_nil))
 (pss_cons (ps_set (i := 6) S.nd rfl (by first | exact Or.inl rfl | exact Or.inr rfl) (pe_lst pa_nil))
 (pss_cons (ps_for PassesOwn.never rfl (pi_range1 (by rfl) B.range (pa_cons (pe_ix ix_tup (pv 2) pe_int (fun _ _ => rfl)) pa_nil)) (pg_name (i := 7) S.nd rfl (by first | exact Or.inl rfl | exact Or.inr rfl))
 (pss_cons (ps_set (i := 8) S.nd rfl (by first | exact Or.inl rfl | exact Or.inr rfl) (pe_tup (pa_cons (pe_call G__law_draw (hr.mono (by first | exact Nat.le_refl _ | decide | omega)) (by rfl) L__law_draw.m L__law_draw.kp L__law_draw.bi .nil pass0 (pa_cons (pv 1) (pa_cons pe_int pa_nil))) (pa_cons (pe_op op_add pe_int (pe_call G__law_draw (hr.mono (by first | exact Nat.le_refl _ | decide | omega)) (by rfl) L__law_draw.m L__law_draw.kp L__law_draw.bi .nil pass0 (pa_cons (pv 1) (pa_cons pe_int pa_nil)))) pa_nil))))
 (pss_cons (ps_set (i := 9) S.nd rfl (by first | exact Or.inl rfl | exact Or.inr rfl) (pe_callB (c_max2 rfl) (by rfl) B.max (by decide +kernel) (pa_cons pe_int (pa_cons (pe_callS G_channels_for (hr.mono (by first | exact Nat.le_refl _ | decide | omega)) (by rfl) L_channels_for.m L_channels_for.kp L_channels_for.bi (fun σ => passAt takes0 σ) (pa_cons (pe_ix ix_tup (pv 8) pe_int (fun _ _ => rfl)) (pa_cons (pe_ix ix_tup (pv 8) pe_int (fun _ _ => rfl)) (pa_cons (pv 4) (pa_cons (pv 3) pa_nil))))) pa_nil))))
 (C8.pss_cut (ps_if (pt_cmpR op_gt (pe_op op_add (pe_callB (c_sum rfl) (by rfl) B.sum (by decide +kernel) (pa_cons (pv 6) pa_nil)) (pv 9)) (pe_op op_add pe_int (pv 7)) (nomark _))
 (pss_cons (ps_set (i := 8) S.nd rfl (by first | exact Or.inl rfl | exact Or.inr rfl) (pe_tup (pa_cons pe_int (pa_cons pe_int pa_nil))))
 (pss_one (ps_set (i := 9) S.nd rfl (by first | exact Or.inl rfl | exact Or.inr rfl) pe_int)))
 pss_nil)
 (pss_cons (ps_expr (pe_bm PySem.F.plainAttrs_list PySem.F.slot_list_append PySem.F.type_list_append mt_append (pv 5) (pa_cons (pv 8) pa_nil)))
 (pss_one (ps_expr (pe_bm PySem.F.plainAttrs_list PySem.F.slot_list_append PySem.F.type_list_append mt_append (pv 6) (pa_cons (pv 9) pa_nil)))))))))
 (pss_cons (ps_set (i := 10) S.nd rfl (by first | exact Or.inl rfl | exact Or.inr rfl) (pe_lst pa_nil))
 (pss_cons (ps_for PassesOwn.never rfl (pi_range1 (by rfl) B.range (pa_cons (pe_ix ix_tup (pv 2) pe_int (fun _ _ => rfl)) pa_nil)) (pg_name (i := 11) S.nd rfl (by first | exact Or.inl rfl | exact Or.inr rfl))
 (pss_one (ps_set (i := 10) S.nd rfl (by first | exact Or.inl rfl | exact Or.inr rfl) (pe_op op_catL (pv 10) (pe_op op_rep (pe_lst (pa_cons (pv 11) pa_nil)) (pe_ix ix_list (pv 6) (pv 11) (fun _ _ => rfl)))))))
 (pss_cons (ps_set (i := 12) S.nd rfl (by first | exact Or.inl rfl | exact Or.inr rfl) (pe_lst pa_nil))
 (pss_cons (ps_for PassesOwn.never rfl (pi_range1 (by rfl) B.range (pa_cons (pe_callB c_len (by rfl) B.len (by decide +kernel) (pa_cons (pv 10) pa_nil)) pa_nil)) (pg_name (i := 13) S.nd rfl (by first | exact Or.inl rfl | exact Or.inr rfl))
 (pss_one (ps_for PassesOwn.never rfl (pi_range2 (by rfl) B.range (pa_cons (pe_op op_add (pv 13) pe_int) (pa_cons (pe_callB c_len (by rfl) B.len (by decide +kernel) (pa_cons (pv 10) pa_nil)) pa_nil))) (pg_name (i := 14) S.nd rfl (by first | exact Or.inl rfl | exact Or.inr rfl))
 (pss_cons (ps_set (i := 15) S.nd rfl (by first | exact Or.inl rfl | exact Or.inr rfl) (pe_ifExp (pt_cmpR op_eq (pe_ix ix_list (pv 10) (pv 13) (fun _ _ => rfl)) (pe_ix ix_list (pv 10) (pv 14) (fun _ _ => rfl)) (nomark _)) pe_int (pe_call G__law_least (hr.mono (by first | exact Nat.le_refl _ | decide | omega)) (by rfl) L__law_least.m L__law_least.kp L__law_least.bi .nil pass0 (pa_cons (pv 2) (pa_cons (pe_ix ix_list (pv 10) (pv 13) (fun _ _ => rfl)) (pa_cons (pe_ix ix_list (pv 10) (pv 14) (fun _ _ => rfl)) pa_nil))))))
 (pss_one (ps_if (pt_cmpR op_gt (pv 15) pe_int (nomark _))
 (pss_one (ps_expr (pe_bm PySem.F.plainAttrs_list PySem.F.slot_list_append PySem.F.type_list_append mt_append (pv 12) (pa_cons (pe_tup (pa_cons (pv 13) (pa_cons (pv 14) (pa_cons (pv 15) pa_nil)))) pa_nil))))
 pss_nil))))))
 (pss_cons (ps_set (i := 16) S.nd rfl (by first | exact Or.inl rfl | exact Or.inr rfl) (pe_tup (pa_cons (pe_callB c_len (by rfl) B.len (by decide +kernel) (pa_cons (pv 10) pa_nil)) (pa_cons (pe_callTy c_tupOf (by rfl) B.tuple (by decide +kernel) (pa_cons (pv 12) pa_nil)) pa_nil))))
 (pss_cons (ps_set (i := 17) S.nd rfl (by first | exact Or.inl rfl | exact Or.inr rfl) (pe_call G__law_draw (hr.mono (by first | exact Nat.le_refl _ | decide | omega)) (by rfl) L__law_draw.m L__law_draw.kp L__law_draw.bi .nil pass0 (pa_cons (pv 1) (pa_cons pe_int pa_nil))))
 (pss_cons (ps_set (i := 18) S.nd rfl (by first | exact Or.inl rfl | exact Or.inr rfl) (pe_call G__law_word (hr.mono (by first | exact Nat.le_refl _ | decide | omega)) (by rfl) L__law_word.m L__law_word.kp L__law_word.bi .nil pass0 (pa_cons (pv 2) (pa_cons (pe_callTy c_listOf (by rfl) B.list (by decide +kernel) (pa_cons (pv 5) pa_nil)) (pa_cons (pv 17) (pa_cons (pv 4) (pa_cons (pv 3) pa_nil)))))))
 (pss_cons (ps_if (PW.pt (pw_or (pt_not (pt_val (pe_callB call_isi (by rfl) B.isinstance (by decide +kernel) (pa_cons (pv 18) (pa_cons (pe_ty (n := "tuple") B.tuple (by decide +kernel)) pa_nil))))) (pw_or1 (pt_cmpR op_ne (pe_callB c_len (by rfl) B.len (by decide +kernel) (pa_cons (pv 18) pa_nil)) pe_int (nomark _)))))
 (pss_one (ps_ret pe_bl))
 pss_nil)
 (pss_cons (ps_if (pt_cmpR op_eq (pe_ix ix_tup (pv 18) pe_int (fun _ _ => rfl)) pe_str (nomark _))
 (pss_one (ps_if (pt_not (pt_val (pe_call G__law_keeps (hr.mono (by first | exact Nat.le_refl _ | decide | omega)) (by rfl) L__law_keeps.m L__law_keeps.kp L__law_keeps.bi .nil pass0 (pa_cons (pv 16) (pa_cons (pv 17) (pa_cons (pe_ix ix_tup (pv 18) pe_int (fun _ _ => rfl)) pa_nil))))))
 (pss_one (ps_ret pe_bl))
 pss_nil))
 (pss_one (ps_if (PW.pt (pw_or (pt_cmpR op_ne (pe_ix ix_tup (pv 18) pe_int (fun _ _ => rfl)) pe_str (nomark _)) (pw_or1 (pt_not (pt_val (pe_call G__law_shows (hr.mono (by first | exact Nat.le_refl _ | decide | omega)) (by rfl) L__law_shows.m L__law_shows.kp L__law_shows.bi .nil pass0 (pa_cons (pv 16) (pa_cons (pv 17) (pa_cons (pe_op op_rep (pe_lst (pa_cons (pe_un un_neg pe_int) pa_nil)) (pe_ix ix_tup (pv 16) pe_int (fun _ _ => rfl))) (pa_cons (pe_ix ix_tup (pv 18) pe_int (fun _ _ => rfl)) pa_nil))))))))))
 (pss_one (ps_ret pe_bl))
 pss_nil)))
 (pss_cons (ps_if (pt_cmpR op_ne (pe_cmpR op_eq (pe_ix ix_tup (pv 18) pe_int (fun _ _ => rfl)) pe_str (nomark _)) (pe_call G__law_exists (hr.mono (by first | exact Nat.le_refl _ | decide | omega)) (by rfl) L__law_exists.m L__law_exists.kp L__law_exists.bi .nil pass0 (pa_cons (pv 16) (pa_cons (pv 17) (pa_cons (pe_lst pa_nil) pa_nil)))) (nomark _))
 (pss_one (ps_ret pe_bl))
 pss_nil)
 (pss_cons (ps_if (PW.pt (pw_and (pt_cmpR op_eq (pe_call G__law_draw (hr.mono (by first | exact Nat.le_refl _ | decide | omega)) (by rfl) L__law_draw.m L__law_draw.kp L__law_draw.bi .nil pass0 (pa_cons (pv 1) (pa_cons pe_int pa_nil))) pe_int (nomark _)) (pw_and1 (pt_not (pt_val (pe_call G__law_same (hr.mono (by first | exact Nat.le_refl _ | decide | omega)) (by rfl) L__law_same.m L__law_same.kp L__law_same.bi .nil pass0 (pa_cons (pe_call G__law_word (hr.mono (by first | exact Nat.le_refl _ | decide | omega)) (by rfl) L__law_word.m L__law_word.kp L__law_word.bi .nil pass0 (pa_cons (pe_tup (pa_cons pe_int (pa_cons (pe_tup pa_nil) pa_nil))) (pa_cons (pe_lst (pa_cons (pe_tup (pa_cons pe_int (pa_cons pe_int pa_nil))) (pa_cons (pe_tup (pa_cons pe_int (pa_cons pe_int pa_nil))) pa_nil))) (pa_cons pe_int (pa_cons pe_int (pa_cons pe_int pa_nil)))))) (pa_cons (pe_tup (pa_cons pe_str pa_nil)) pa_nil))))))))
 (pss_one (ps_ret pe_bl))
 pss_nil)
 (pss_one (ps_ret (pe_call G__law_same (hr.mono (by first | exact Nat.le_refl _ | decide | omega)) (by rfl) L__law_same.m L__law_same.kp L__law_same.bi .nil pass0 (pa_cons (pe_call G__law_word (hr.mono (by first | exact Nat.le_refl _ | decide | omega)) (by rfl) L__law_word.m L__law_word.kp L__law_word.bi .nil pass0 (pa_cons (pe_tup (pa_cons pe_int (pa_cons (pe_tup pa_nil) pa_nil))) (pa_cons (pe_lst (pa_cons (pe_tup (pa_cons pe_int (pa_cons pe_int pa_nil))) (pa_cons (pe_tup (pa_cons pe_int (pa_cons pe_int pa_nil))) pa_nil))) (pa_cons pe_int (pa_cons pe_int (pa_cons pe_int pa_nil)))))) (pa_cons (pe_tup (pa_cons pe_str pa_nil)) pa_nil)))))))))))))))))))))))), ?_⟩
  have tj : TabJ C0 q0 #[] H := TabJ.nil hC
  refine q (st_poolT (n := 19) hS hlen rfl rfl (by decide) tj fun p s σ3 H3 hne hpC hsC A3 => q ?_)
  replace A3 : At K (fun b => b ≠ p ∧ b ≠ C0) (JPT p s ns C0 q0 #[]) [none, some (.raw (.ref p)), none, none, none, none, none, none, none, none, none, none, none, none, none, none, none, none, none] σ3 H3 := A3
  have hP : ∀ ps, Pooled (fun b => b ≠ p ∧ b ≠ C0) (JPT p s ns C0 q0 ps) p s ns := fun ps => pooledT (fun z => z.1 rfl) hne hpC.symm
  have T : TblF (fun b => b ≠ p ∧ b ≠ C0) C0 q0 (JPT p s ns C0 q0) := tblP (fun z => z.2 rfl) hpC hsC
  clear tj
  generalize (fun b => b ≠ p ∧ b ≠ C0 : Addr → Prop) = φ at A3 hP T
  refine st_asg A3 (ev_callP (hP _) rfl (ea_cons ev_int (ea_cons ev_int ea_nil)) fun ds e => ⟨by rw [e]; rfl, 3, 3, e, by decide, by decide, by decide, by decide⟩) fun d σ4 H4 hd A4 => q ?_
  obtain ⟨_, e0, most, top, n, ls, e1, rfl, n0, n1, hdr, hls⟩ := hd
  have etop : top = 3 := by
    rw [e0] at e1
    have h2 := (List.cons.inj (List.cons.inj e1).2).1
    injection h2 with h2
    exact h2.symm
  have emost : most = 3 := by
    rw [e0] at e1
    have h2 := (List.cons.inj e1).1
    injection h2 with h2
    exact h2.symm
  subst etop emost
  have SG : SepG n ls := ⟨n0, by omega, fun r hr => by have := hdr.rows r hr; omega, hdr.asc, by omega⟩
  replace A4 : At K φ (JPT p s ns C0 q0 #[]) [none, some (.raw (.ref p)), some (sepD n ls), none, none, none, none, none, none, none, none, none, none, none, none, none, none, none, none] σ4 H4 := A4
  refine st_asg A4 (P := fun d => ∃ i : Nat, d = .int i ∧ 4 ≤ i ∧ i ≤ 12) ((ei_add (ev_i ev_int) (ev_draw (hP _) rfl ev_int (by decide) (by decide))).imp fun y ⟨c, e, i, j, hi, hj, hk⟩ => ⟨c.toNat, by rw [e, Int.toNat_of_nonneg (by omega)], by omega, by omega⟩) fun d σ5 H5 hd A5 => q ?_
  obtain ⟨qn, rfl, q4, q12⟩ := hd
  replace A5 : At K φ (JPT p s ns C0 q0 #[]) [none, some (.raw (.ref p)), some (sepD n ls), some (.int qn), none, none, none, none, none, none, none, none, none, none, none, none, none, none, none] σ5 H5 := A5
  refine st_asg A5 (P := fun d => ∃ i : Nat, d = .int i ∧ 1 ≤ i ∧ i ≤ qn) ((ei_add (ev_i ev_int) (ev_draw (n := (qn : Int)) (hP _) rfl (ev_var rfl) (by omega) (by omega))).imp fun y ⟨c, e, i, j, hi, hj, hk⟩ => ⟨c.toNat, by rw [e, Int.toNat_of_nonneg (by omega)], by omega, by omega⟩) fun d σ6 H6 hd A6 => q ?_
  obtain ⟨pn, rfl, p1, pq⟩ := hd
  replace A6 : At K φ (JPT p s ns C0 q0 #[]) [none, some (.raw (.ref p)), some (sepD n ls), some (.int qn), some (.int pn), none, none, none, none, none, none, none, none, none, none, none, none, none, none] σ6 H6 := A6
  let ld : List (Nat × Nat) → List Int := fun prs => prs.map fun x => max 1 (chN pn qn x : Int)
  refine st_newS A6 (en_ofN (en_lstD ea_nil)) fun l1 ds0 C1 J1 σ7 H7 hC1 N1 L1 A7 => q ?_
  obtain ⟨e, rfl⟩ := hC1
  subst e
  refine st_newS A7 (en_ofN (en_lstD ea_nil)) fun l2 ds0 C2 J2 σ8 H8 hC2 N2 L2 A8 => q ?_
  obtain ⟨e, rfl⟩ := hC2
  subst e
  obtain ⟨ne12, L1'⟩ := N2.liv _ _ _ L1
  have hP1 := N1.ext.pool _ _ _ (hP #[])
  have hP2 := N2.ext.pool _ _ _ hP1
  obtain ⟨pl1, sl1⟩ := N1.pl _ _ _ (hP #[])
  obtain ⟨pl2, sl2⟩ := N2.pl _ _ _ hP1
  have sb1 : Stab l1 (JPT p s ns C0 q0 #[]) := N1.st
  have sb2 : Stab l2 (JPT p s ns C0 q0 #[]) := by
    obtain ⟨Hc, jc, ec⟩ := N2.hc
    exact Stab.of (T.mo _ _ (N1.ext.imp _ jc)) ec
  let ρ0 : Option D → Option D → Option D → List (Option D) := fun o7 o8 o9 => [none, some (.raw (.ref p)), some (sepD n ls), some (.int qn), some (.int pn), some (.raw (.ref l1)), some (.raw (.ref l2)), o7, o8, o9, none, none, none, none, none, none, none, none, none]
  replace A8 : At K (wo (wo φ l1) l2) J2 (ρ0 none none none) σ8 H8 := A8
  refine st_for A8 (it_range1 (ea_cons (ev_sep0 (ev_var rfl)) ea_nil) (by omega)) (fun i ρ' J' => ∃ (prs : List (Nat × Nat)) (o7 o8 o9 : Option D), prs.length = i ∧ OffOk pn qn prs ∧ LivS K (wo (wo φ l1) l2) J' l1 HO.lst (prs.map prD) ∧ LivS K (wo (wo φ l1) l2) J' l2 HO.lst ((ld prs).map D.int) ∧ Pooled (wo (wo φ l1) l2) J' p s ns ∧ (∀ H', J' H' → JPT p s ns C0 q0 #[] H') ∧ ρ' = ρ0 o7 o8 o9) ⟨[], none, none, none, rfl, ⟨(fun x h => nomatch h), by simp⟩, L1', L2, hP2, fun H' h => N1.ext.imp _ (N2.ext.imp _ h), rfl⟩ ?_ ?_
  · rintro H9 i x ρ' J' b9 j9 hx ⟨prs, o7, o8, o9, hpl, hoff, La, Lb, hPx, hbx, rfl⟩ σ' H' A9
    rw [rangeD_get] at hx
    split at hx
    · rename_i hi
      cases hx
      rw [show (0 : Int) + (i : Int) = (i : Int) by omega] at A9
      have hPy : Pooled (wo (wo φ l1) l2) (fun H1 => J' H1 ∧ But (wo (wo φ l1) l2) H9 H1) p s ns := Ext.but'.pool _ _ _ hPx
      replace A9 : At K (wo (wo φ l1) l2) (fun H1 => J' H1 ∧ But (wo (wo φ l1) l2) H9 H1) (ρ0 (some (.int (i : Int))) o8 o9) σ' H' := A9
      dsimp only
      refine q (st_asg A9 (P := fun d => ∃ a b : Nat, d = prD (a, b) ∧ a ≤ 6 ∧ 2 ≤ b ∧ b ≤ 6) ?_ fun d σ10 H10 hd A10 => ?_)
      · refine (ev_tupP (ea_consP (ev_draw hPy rfl ev_int (by decide) (by decide)) (ea_consP (ei_add (ev_i ev_int) (ev_draw hPy rfl ev_int (by decide) (by decide))) ea_nil)) ?_).imp ?_
        · rintro r ⟨d, r', rfl, _, d2, r2, rfl, _, rfl⟩
          exact Nat.le_of_ble_eq_true rfl
        · rintro y ⟨r, rfl, d, r', rfl, ⟨a, rfl, ha⟩, d2, r2, rfl, ⟨b, rfl, bi, bj, hbi, hbj, hb⟩, rfl⟩
          refine ⟨a.toNat, b.toNat, ?_, by omega, by omega, by omega⟩
          show D.tup [.int a, .int b] = .tup [.int (a.toNat : Int), .int (b.toNat : Int)]
          rw [Int.toNat_of_nonneg (by omega), Int.toNat_of_nonneg (by omega)]
      obtain ⟨a, b, rfl, ha, hb, hb6⟩ := hd
      replace A10 : At K (wo (wo φ l1) l2) (fun H1 => J' H1 ∧ But (wo (wo φ l1) l2) H9 H1) (ρ0 (some (.int (i : Int))) (some (prD (a, b))) o9) σ10 H10 := A10
      have hst : Stops a b pn qn (chN pn qn (a, b)) := chN_pair p1 q12 ha hb hb6
      dsimp only
      refine q (st_set (d := .int (max 1 (chN pn qn (a, b) : Int))) A10 (ev_max2 ev_int (ev_callX (ea_cons (x := .int a) (ev_ixT (ds := [.int a, .int b]) (ev_var rfl) ev_int rfl) (ea_cons (x := .int b) (ev_ixT (ds := [.int a, .int b]) (ev_var rfl) ev_int rfl) (ea_cons (x := .int pn) (ev_var rfl) (ea_cons (x := .int qn) (ev_var rfl) ea_nil)))) ⟨a, b, pn, qn, 30, rfl, chok_small (by omega) (by omega) (by omega) (by omega) (by omega), .inl ⟨_, hst.1, Nat.le_refl _, hst.2.1, hst.2.2, rfl⟩⟩)) fun σ11 H11 A11 => ?_)
      replace A11 : At K (wo (wo φ l1) l2) (fun H1 => J' H1 ∧ But (wo (wo φ l1) l2) H9 H1) (ρ0 (some (.int (i : Int))) (some (prD (a, b))) (some (.int (max 1 (chN pn qn (a, b) : Int))))) σ11 H11 := A11
      dsimp only
      refine q_cut (M := fun σ' H' => ∃ x : Nat × Nat, (x.1 ≤ 120 ∧ 0 < x.2 ∧ x.2 ≤ 9 ∧ Stops x.1 x.2 pn qn (chN pn qn x)) ∧ (ld prs).sum + max 1 (chN pn qn x : Int) ≤ 4 + (prs.length : Int) ∧ At K (wo (wo φ l1) l2) (fun H1 => J' H1 ∧ But (wo (wo φ l1) l2) H9 H1) (ρ0 (some (.int (i : Int))) (some (prD x)) (some (.int (max 1 (chN pn qn x : Int))))) σ' H') ?_ ?_
      · refine st_if A11 (et_test (ev_gt (ev_add (ev_sumS Lb.but (ev_var rfl)) (ev_var rfl)) (ev_add ev_int (ev_var rfl)))) (fun hb12 H12 A12 => ?_) (fun hb12 H12 A12 => ?_)
        · obtain ⟨z1, z2⟩ := chN_zero (p := pn) (q := qn)
          have em : max 1 (chN pn qn (0, 1) : Int) = 1 := by omega
          refine q (st_set (d := prD (0, 1)) A12 (ev_tup (ea_cons ev_int (ea_cons ev_int ea_nil))) fun σ13 H13 A13 => ?_)
          dsimp only
          refine st_set (d := .int (max 1 (chN pn qn (0, 1) : Int))) A13 (ev_int.is (by rw [em])) fun σ14 H14 A14 => ?_
          have hlo := hoff.lo
          exact ⟨(0, 1), ⟨by decide, by decide, by decide, z1⟩, by rw [em]; show (prs.map _).sum + 1 ≤ _; omega, A14⟩
        · have hle := of_decide_eq_false hb12.symm
          exact ⟨(a, b), ⟨by show a ≤ 120; omega, by show 0 < b; omega, by show b ≤ 9; omega, hst⟩, by rw [hpl]; omega, A12⟩
      · rintro σ15 H15 ⟨x, hx1, hx2, A15⟩
        have hlen24 : prs.length ≤ 24 := by omega
        refine q (st_appS (P := fun d => d = prD x) A15 La.but rfl (ev_var rfl) (by rw [List.length_map]; omega) fun d J16 H16 hd W16 La16 A16 => ?_)
        subst hd
        have Lb16 := W16.liv _ _ _ Lb.but ne12.symm
        have hP16 := W16.pool _ _ _ hPy pl1 sl1
        have hb16 := W16.base (JPT p s ns C0 q0 #[]) (fun H' h => hbx H' h.1) sb1
        have hbb16 := W16.base _ (fun H' h => h.2) (Stab.but (.inl La.np))
        dsimp only
        refine st_appS (P := fun d => d = .int (max 1 (chN pn qn x : Int))) A16 Lb16 rfl (ev_var rfl) (by show ((prs.map _).map D.int).length ≤ _; rw [List.length_map, List.length_map]; omega) fun d J17 H17 hd W17 Lb17 A17 => ?_
        subst hd
        have La17 := W17.liv _ _ _ La16 ne12
        have hP17 := W17.pool _ _ _ hP16 pl2 sl2
        have hb17 := W17.base (JPT p s ns C0 q0 #[]) hb16 sb2
        have hbb17 := W17.base _ hbb16 (Stab.but (.inl Lb.np))
        refine ⟨_, J17, ⟨prs ++ [x], _, _, _, by rw [List.length_append, hpl]; rfl, hoff.snoc hx1 hx2, ?_, ?_, hP17, hb17, rfl⟩, A17.live ⟨A17.j, hbb17 _ A17.j⟩ (A17.mono.and (Mo.but (hbb17 _ A17.j).tr))⟩
        · rw [List.map_append]; exact La17
        · show LivS K _ J17 l2 HO.lst (((prs ++ [x]).map fun x => max 1 (chN pn qn x : Int)).map D.int)
          rw [List.map_append, List.map_append]
          exact Lb17
    · cases hx
  rintro H9 ρ' J' σ9 H10 b9 j9 ⟨prs, o7, o8, o9, hpl, hoff, La, Lb, hPx, hbx, rfl⟩ A9
  rw [rangeD_length] at hpl
  have A10 := Lb.but.freeze N2.fr A9 (k := 6) rfl
  have La10 := (LivS.but (H1 := H9) La).thaw ne12 A9.j
  have A11 := La10.freeze N1.fr A10 (k := 5) rfl
  have hj := hbx _ A11.j.1.1.1
  have A12 : At K φ (JPT p s ns C0 q0 #[]) [none, some (.raw (.ref p)), some (sepD n ls), some (.int qn), some (.int pn), some (.lst (prs.map prD)), some (.lst ((ld prs).map D.int)), none, none, none, none, none, none, none, none, none, none, none, none] σ9 H10 := (A11.live hj (T.mo _ _ hj)).le (by walk_at "le")
  clear A9 A10 A11 La La10 Lb hPx hbx N1 N2 L1 L2 L1' A7 A8 hP1 hP2 sb1 sb2
  have hlo := hoff.lo
  have hst := hoff.st
  obtain ⟨loads, hloads⟩ : ∃ loads, loads = ld prs := ⟨_, rfl⟩
  have hlen2 : loads.length = n.toNat := by rw [hloads]; show (prs.map _).length = _; rw [List.length_map]; exact hpl
  have hok : loadsOk loads := ⟨by omega, fun l hl => by
    rw [hloads] at hl
    obtain ⟨x, hx, rfl⟩ := List.mem_map.mp hl
    have := (hst x hx).2.2.2.1
    omega⟩
  have hsum6 : loads.sum ≤ 6 := by rw [hloads]; show (prs.map _).sum ≤ 6; omega
  rw [← hloads] at A12
  have hsum := sum_le hok.2
  have ownlen : ∀ i, (ownI 0 (loads.take i)).length ≤ 3000 ∧ ((ownI 0 (loads.take i)).length : Int) = (loads.take i).sum := fun i => by
    have e := ownI_len 0 (loads.take i) fun x hx => (hok.2 x (List.mem_of_mem_take hx)).1
    have h1 := sum_le (ls := loads.take i) fun x hx => hok.2 x (List.mem_of_mem_take hx)
    rw [List.length_take] at h1
    omega
  dsimp only
  refine q (st_set (d := .lst []) A12 (ev_lst ea_nil) fun σ13 H13 A13 => q ?_)
  let ρ1 : Option D → Option D → List (Option D) := fun o10 o11 => [none, some (.raw (.ref p)), some (sepD n ls), some (.int qn), some (.int pn), some (.lst (prs.map prD)), some (.lst (loads.map D.int)), none, none, none, o10, o11, none, none, none, none, none, none, none]
  replace A13 : At K φ (JPT p s ns C0 q0 #[]) (ρ1 (some (.lst [])) none) σ13 H13 := A13
  refine st_for A13 (it_range1 (ea_cons (ev_sep0 (ev_var rfl)) ea_nil) (by omega)) (fun i ρ' J' => (∃ o11, ρ' = ρ1 (some (.lst ((ownI 0 (loads.take i)).map D.int))) o11) ∧ J' = JPT p s ns C0 q0 #[]) ⟨⟨none, rfl⟩, rfl⟩ ?_ ?_
  · rintro H14 i x ρ' J' b14 j14 hx ⟨⟨o11, rfl⟩, rfl⟩ σ' H' A14
    rw [rangeD_get] at hx
    split at hx
    · rename_i hi
      cases hx
      have hi' : i < loads.length := by omega
      have hxl : loads[i]? = some loads[i] := List.getElem?_eq_getElem hi'
      have hxm := hok.2 _ (List.mem_of_getElem? hxl)
      have tk : loads.take (i + 1) = loads.take i ++ [loads[i]] := by rw [List.take_add_one, hxl]; rfl
      obtain ⟨ol1, ol2⟩ := ownlen i
      rw [show (0 : Int) + (i : Int) = (i : Int) by omega] at A14
      replace A14 : At K φ (fun H => JPT p s ns C0 q0 #[] H ∧ But φ H14 H) (ρ1 (some (.lst ((ownI 0 (loads.take i)).map D.int))) (some (.int (i : Int)))) σ' H' := A14
      have hld : L2.atI (loads.map D.int) (i : Int) = some (.int loads[i]) := atI_ofNat (by rw [List.getElem?_map, hxl]; rfl)
      dsimp only
      refine st_set (d := .lst ((ownI 0 (loads.take (i + 1))).map D.int)) A14 ((ev_catL (ds := (ownI 0 (loads.take i)).map D.int) (es := (List.replicate (loads[i]).toNat [D.int (i : Int)]).flatten) (ev_var rfl) (ev_newD (ev_repL (en_lstD (ea_cons (ev_var rfl) ea_nil)) (ev_ixL (ds := loads.map D.int) (ev_var rfl) (ev_var rfl) hld) (by omega) (by show 1 * _ ≤ _; omega))) ?_).is ?_) fun σ15 H15 A15 => ?_
      · rw [flat_rep, List.length_map, List.length_replicate]; omega
      · rw [tk, ownI_app, List.map_append, flat_rep]
        show _ = D.lst (_ ++ (List.replicate (loads[i]).toNat ((0 : Int) + ((loads.take i).length : Nat)) ++ []).map D.int)
        rw [List.append_nil, List.map_replicate, List.length_take, show (0 : Int) + ((min i loads.length : Nat) : Int) = (i : Int) by omega]
      exact ⟨_, _, ⟨⟨some (.int (i : Int)), rfl⟩, rfl⟩, A15⟩
    · cases hx
  rintro H14 ρ' J' σ14 H15 b14 j14 ⟨⟨o11, rfl⟩, rfl⟩ A14
  rw [rangeD_length, List.take_of_length_le (by omega)] at A14
  obtain ⟨ol1, ol2⟩ := ownlen loads.length
  rw [List.take_length] at ol1 ol2
  obtain ⟨ow, how⟩ : ∃ ow, ow = ownI 0 loads := ⟨_, rfl⟩
  rw [← how] at A14 ol1 ol2
  have hol : ow.length ≤ 6 := by omega
  have A16 : At K φ (JPT p s ns C0 q0 #[]) [none, some (.raw (.ref p)), some (sepD n ls), some (.int qn), some (.int pn), some (.lst (prs.map prD)), none, none, none, none, some (.lst (ow.map D.int)), none, none, none, none, none, none, none, none] σ14 H15 := (A14.live A14.j.1 (T.mo _ _ A14.j.1)).le (by walk_at "le")
  clear A12 A13 A14
  dsimp only
  refine q (st_newS A16 (en_ofN (en_lstD ea_nil)) fun l3 ds3 C3 J3 σ17 H17 hC3 N3 L3 A17 => q ?_)
  obtain ⟨e, rfl⟩ := hC3
  subst e
  have sb3 : Stab l3 (JPT p s ns C0 q0 #[]) := N3.st
  let ρ2 : Option D → Option D → Option D → List (Option D) := fun o13 o14 o15 => [none, some (.raw (.ref p)), some (sepD n ls), some (.int qn), some (.int pn), some (.lst (prs.map prD)), none, none, none, none, some (.lst (ow.map D.int)), none, some (.raw (.ref l3)), o13, o14, o15, none, none, none]
  replace A17 : At K (wo φ l3) J3 (ρ2 none none none) σ17 H17 := A17
  refine st_for A17 (it_range1 (ea_cons (ev_lenL (ds := ow.map D.int) (ev_var rfl)) ea_nil) (by rw [List.length_map]; omega)) (fun i ρ' J' => ∃ o13 o14 o15, LivS K (wo φ l3) J' l3 HO.lst (((demI ls ow ow.length i).filter posB).map rowD) ∧ (∀ H', J' H' → JPT p s ns C0 q0 #[] H') ∧ ρ' = ρ2 o13 o14 o15) ⟨none, none, none, L3, fun H' h => N3.ext.imp H' h, rfl⟩ ?_ ?_
  · rintro H18 i x ρ' J' b18 j18 hx ⟨o13, o14, o15, L18, hb18, rfl⟩ σ' H' A18
    rw [rangeD_get, List.length_map] at hx
    split at hx
    · rename_i hi
      cases hx
      have hi' : i < ow.length := by omega
      have hdl := demI_len ls ow ow.length i
      have hmul : i * ow.length ≤ 6 * 6 := Nat.mul_le_mul (by omega) hol
      rw [show (0 : Int) + (i : Int) = (i : Int) by omega] at A18
      replace A18 : At K (wo φ l3) (fun H => J' H ∧ But (wo φ l3) H18 H) (ρ2 (some (.int (i : Int))) o14 o15) σ' H' := A18
      dsimp only
      refine st_for A18 (it_range2 (ea_cons (ev_add (ev_var rfl) ev_int) (ea_cons (ev_lenL (ds := ow.map D.int) (ev_var rfl)) ea_nil)) (by rw [List.length_map]; omega)) (fun j ρ' J' => ∃ o14 o15, LivS K (wo φ l3) J' l3 HO.lst (((demI ls ow ow.length i ++ (blockI ls ow ow.length i).take j).filter posB).map rowD) ∧ (∀ H', J' H' → JPT p s ns C0 q0 #[] H') ∧ (∀ H', J' H' → But (wo φ l3) H18 H') ∧ ρ' = ρ2 (some (.int (i : Int))) o14 o15) ⟨o14, o15, by rw [List.take_zero, List.append_nil]; exact L18.but, fun H' h => hb18 H' h.1, fun H' h => h.2, rfl⟩ ?_ ?_
      · rintro H19 j x ρ' J5 b19 j19 hx ⟨o14, o15, L19, hb19, hbb5, rfl⟩ σ5 H20 A19
        rw [rangeD_get, List.length_map] at hx
        split at hx
        · rename_i hj
          cases hx
          have hj' : i + 1 + j < ow.length := by omega
          rw [show (i : Int) + 1 + (j : Int) = ((i + 1 + j : Nat) : Int) by omega] at A19
          replace A19 : At K (wo φ l3) (fun H => J5 H ∧ But (wo φ l3) H19 H) (ρ2 (some (.int (i : Int))) (some (.int ((i + 1 + j : Nat) : Int))) o15) σ5 H20 := A19
          have oi : ∀ {J : Hp → Prop} {o8 o9}, EvD K (wo φ l3) J (tOp (rIxL K) (tVar 10) (tVar 13)) (ρ2 (some (.int (i : Int))) o8 o9) (.int (ow.getD i 0)) := fun {J o8 o9} => ev_ixL (ev_var rfl) (ev_var rfl) (getD_at hi')
          have oj : ∀ {J : Hp → Prop} {o9}, EvD K (wo φ l3) J (tOp (rIxL K) (tVar 10) (tVar 14)) (ρ2 (some (.int (i : Int))) (some (.int ((i + 1 + j : Nat) : Int))) o9) (.int (ow.getD (i + 1 + j) 0)) := fun {J o9} => ev_ixL (ev_var rfl) (ev_var rfl) (getD_at hj')
          refine q (st_set (d := .int (needI ls ow i (i + 1 + j))) A19 (ev_if (et_test (ev_eqI oi oj)) (fun h => ev_int.is ?_) (fun h => (ev_callD (ea_cons (ev_var rfl) (ea_cons oi (ea_cons oj ea_nil))) ⟨n, _, _, ls, rfl, rfl⟩).is ?_)) fun σ21 H21 A21 => ?_)
          · unfold needI
            rw [if_pos (of_decide_eq_true h.symm)]
          · unfold needI
            rw [if_neg (of_decide_eq_false h.symm)]
          replace A21 : At K (wo φ l3) (fun H => J5 H ∧ But (wo φ l3) H19 H) (ρ2 (some (.int (i : Int))) (some (.int ((i + 1 + j : Nat) : Int))) (some (.int (needI ls ow i (i + 1 + j))))) σ21 H21 := A21
          have eblk : (blockI ls ow ow.length i)[j]? = some (rowOf ls ow i j) := by
            unfold blockI
            rw [List.getElem?_map, List.getElem?_range (by omega)]
            rfl
          have etk : (demI ls ow ow.length i ++ (blockI ls ow ow.length i).take (j + 1)).filter posB = (demI ls ow ow.length i ++ (blockI ls ow ow.length i).take j).filter posB ++ (if posB (rowOf ls ow i j) = true then [rowOf ls ow i j] else []) := by
            rw [List.take_add_one, eblk, Option.toList_some, ← List.append_assoc, List.filter_append]
            congr 1
            rw [List.filter_cons, List.filter_nil]
          have blen : (blockI ls ow ow.length i).length = ow.length - (i + 1) := by unfold blockI; rw [List.length_map, List.length_range]
          have flen : ((demI ls ow ow.length i ++ (blockI ls ow ow.length i).take j).filter posB).length ≤ 1000000 := by
            refine Nat.le_trans (List.length_filter_le _ _) ?_
            rw [List.length_append, List.length_take]
            omega
          refine st_if A21 (et_test (ev_gt (ev_var rfl) ev_int)) (fun hb H22 A22 => ?_) (fun hb H22 A22 => ?_)
          · have hp : posB (rowOf ls ow i j) = true := hb.symm
            refine st_appS (P := fun d => d = rowD (rowOf ls ow i j)) A22 L19.but rfl ((ev_tup (ea_cons (ev_var rfl) (ea_cons (ev_var rfl) (ea_cons (ev_var rfl) ea_nil)))).is ?_) (by rw [List.length_map]; exact flen) fun d J8 H8 hd W8 L8 A8 => ?_
            · unfold rowD rowOf
              rw [show ((i + 1 + j : Nat) : Int) = (i : Int) + 1 + (j : Int) by omega]
            · subst hd
              have hb8 := W8.base _ (fun H h => h.2) (Stab.but (.inl L19.np))
              refine ⟨_, J8, ⟨_, _, ?_, W8.base _ (fun H h => hb19 H h.1) sb3, W8.base _ (fun H h => hbb5 H h.1) (Stab.but (.inl L19.np)), rfl⟩, A8.live ⟨A8.j, hb8 _ A8.j⟩ (A8.mono.and (Mo.but (hb8 _ A8.j).tr))⟩
              rw [etk, if_pos hp, List.map_append]
              exact L8
          · have hp : posB (rowOf ls ow i j) = false := hb.symm
            refine ⟨_, J5, ⟨_, _, ?_, hb19, hbb5, rfl⟩, A22⟩
            rw [etk, hp, if_neg (by simp), List.append_nil]
            exact L19
        · cases hx
      · rintro H19 ρ' J5 σ5 H20 b19 j19 ⟨o14, o15, L19, hb19, hbb5, rfl⟩ A19
        rw [rangeD_length, List.length_map] at L19
        refine ⟨_, fun H => J5 H ∧ But (wo φ l3) H19 H, ⟨_, o14, o15, ?_, fun H' h => hb19 H' h.1, rfl⟩, A19.live ⟨A19.j, hbb5 _ A19.j.1⟩ (A19.mono.and (Mo.but (hbb5 _ A19.j.1).tr))⟩
        rw [demI_succ]
        rw [List.take_of_length_le (by unfold blockI; rw [List.length_map, List.length_range]; omega)] at L19
        exact L19.but
    · cases hx
  rintro H18 ρ' J' σ18 H19 b18 j18 ⟨o13, o14, o15, L18, hb18, rfl⟩ A18
  rw [rangeD_length, List.length_map, Int.toNat_natCast] at L18
  have A19 := L18.but.freeze N3.fr A18 (k := 12) rfl
  have hj := hb18 _ A19.j.1.1
  obtain ⟨rs, hrs⟩ : ∃ rs, rs = (demI ls ow ow.length ow.length).filter posB := ⟨_, rfl⟩
  rw [← hrs] at A19
  have A20 : At K φ (JPT p s ns C0 q0 #[]) [none, some (.raw (.ref p)), some (sepD n ls), some (.int qn), some (.int pn), some (.lst (prs.map prD)), none, none, none, none, some (.lst (ow.map D.int)), none, some (.lst (rs.map rowD)), none, none, none, none, none, none] σ18 H19 := (A19.live hj (T.mo _ _ hj)).le (by walk_at "le")
  clear A16 A17 A18 A19 L18 hb18 N3 L3
  dsimp only
  refine q (st_set (d := sepD loads.sum rs) A20 ((ev_tup (ea_cons (ev_lenL (ds := ow.map D.int) (ev_var rfl)) (ea_cons (ev_tupL (ev_var rfl)) ea_nil))).is ?_) fun σ21 H21 A21 => q ?_)
  · rw [List.length_map, ol2]
    rfl
  refine st_asg A21 (ev_draw (hP _) rfl ev_int (by decide) (by decide)) fun d σ22 H22 hd A22 => ?_
  obtain ⟨ch, rfl, ch0, ch6⟩ := hd
  replace A22 : At K φ (JPT p s ns C0 q0 #[]) [none, some (.raw (.ref p)), some (sepD n ls), some (.int qn), some (.int pn), some (.lst (prs.map prD)), none, none, none, none, some (.lst (ow.map D.int)), none, some (.lst (rs.map rowD)), none, none, none, some (sepD loads.sum rs), some (.int ch), none] σ22 H22 := A22
  have hXl : ∀ c, (GA.mk n c ls prs pn qn (chN pn qn)).loads = loads := fun c => hloads.symm
  have hXr : ∀ c, (GA.mk n c ls prs pn qn (chN pn qn)).rows = rs := fun c => by
    rw [hrs, how, hloads]
    rfl
  have hX : (GA.mk n ch ls prs pn qn (chN pn qn)).ok := ⟨SG, ch0, by show ch ≤ 100; omega, by show pn ≤ 1000; omega, by show qn ≤ 1000; omega, hst, by rw [hXl]; omega, by show prs.length ≤ 24; omega⟩
  have hsep : SepG loads.sum rs := by
    have h := GA.sepG hX
    rw [hXl, hXr] at h
    exact h
  let ρ3 : D → List (Option D) := fun d => [none, some (.raw (.ref p)), some (sepD n ls), some (.int qn), some (.int pn), some (.lst (prs.map prD)), none, none, none, none, some (.lst (ow.map D.int)), none, some (.lst (rs.map rowD)), none, none, none, some (sepD loads.sum rs), some (.int ch), some d]
  dsimp only
  refine q (st_callGO (us := [18]) (ρ2 := ρ3) (GA.mk n ch ls prs pn qn (chN pn qn)) T A22 (ea_cons (ev_var rfl) (ea_cons (ev_newD (en_list (ev_var rfl))) (ea_cons (ev_var rfl) (ea_cons (ev_var rfl) (ea_cons (ev_var rfl) ea_nil))))) ⟨rfl, hX⟩ (fun d hd => eg_name) fun d ps' σ23 H23 hd A23 => ?_)
  have hd : (∃ ws : List Int, d = .tup [.str "plan", .tup (ws.map D.int)] ∧ PlanL loads.sum rs ch ws) ∨ ∃ t, d = .tup [.str "refusal", t] ∧ Rt loads.sum rs ch (fun _ => none) t := by
    unfold GA.post at hd
    rw [hXl, hXr] at hd
    exact hd
  have wordN : ∀ {φ : Addr → Prop} {J : Hp → Prop} {ρ : List (Option D)} {E : XK}, EvD K φ J (tCall (SpOr (SpGrade K C0) (SpD K 5 RWordX)) [] E (tCons (tTup (tCons (tC (.int 2)) (tCons (tTup tNil) tNil))) (tCons (tLst (tCons (tTup (tCons (tC (.int 1)) (tCons (tC (.int 2)) tNil))) (tCons (tTup (tCons (tC (.int 1)) (tCons (tC (.int 1)) tNil))) tNil))) (tCons (tC (.int 3)) (tCons (tC (.int 0)) (tCons (tC (.int 1)) tNil)))))) ρ (.tup [.str "number"]) := fun {φ J ρ E} =>
    ev_callOr (ea_cons (x := sepD 2 []) (ev_tup (ea_cons ev_int (ea_cons (ev_tup ea_nil) ea_nil))) (ea_cons (x := .lst [prD (1, 2), prD (1, 1)]) (ev_lst (ea_cons (x := prD (1, 2)) (ev_tup (ea_cons ev_int (ea_cons ev_int ea_nil))) (ea_cons (x := prD (1, 1)) (ev_tup (ea_cons ev_int (ea_cons ev_int ea_nil))) ea_nil))) (ea_cons ev_int (ea_cons ev_int (ea_cons ev_int ea_nil))))) (.inl ⟨rfl, rfl⟩)
  have wordS : ∀ {φ : Addr → Prop} {J : Hp → Prop} {ρ : List (Option D)} {E : XK}, EvD K φ J (tCall (SpOr (SpGrade K C0) (SpD K 5 RWordX)) [] E (tCons (tTup (tCons (tC (.int 2)) (tCons (tTup tNil) tNil))) (tCons (tLst (tCons (tTup (tCons (tC (.int 20)) (tCons (tC (.int 1)) tNil))) (tCons (tTup (tCons (tC (.int 20)) (tCons (tC (.int 1)) tNil))) tNil))) (tCons (tC (.int 3)) (tCons (tC (.int 1)) (tCons (tC (.int 9)) tNil)))))) ρ (.tup [.str "separations"]) := fun {φ J ρ E} =>
    ev_callOr (ea_cons (x := sepD 2 []) (ev_tup (ea_cons ev_int (ea_cons (ev_tup ea_nil) ea_nil))) (ea_cons (x := .lst [prD (20, 1), prD (20, 1)]) (ev_lst (ea_cons (x := prD (20, 1)) (ev_tup (ea_cons ev_int (ea_cons ev_int ea_nil))) (ea_cons (x := prD (20, 1)) (ev_tup (ea_cons ev_int (ea_cons ev_int ea_nil))) ea_nil))) (ea_cons ev_int (ea_cons ev_int (ea_cons ev_int ea_nil))))) (.inr ⟨rfl, rfl⟩)
  have pe0 : PreE rs ch [] := ⟨fun k h => absurd h (Nat.not_lt_zero k), fun a b h => absurd h (Nat.not_lt_zero a)⟩
  have exE : ∀ {φ : Addr → Prop} {J : Hp → Prop} {ρ : List (Option D)} {E : XK}, ρ[16]? = some (some (sepD loads.sum rs)) → ρ[17]? = some (some (.int ch)) → EvD K φ J (tCall (SpD K 3 (RExists 26)) [] E (tCons (tVar 16) (tCons (tVar 17) (tCons (tLst tNil) tNil)))) ρ (.bl (exB loads.sum rs ch [])) := fun h1 h2 =>
    ev_callD (ea_cons (ev_var h1) (ea_cons (ev_var h2) (ea_cons (ev_lst ea_nil) ea_nil))) ⟨loads.sum, ch, rs, [], rfl, hsum.1, by omega, ch0, by omega, pe0, by show (0 : Int) ≤ _; exact hsum.1, by show loads.sum.toNat - 0 < 26; omega, rfl⟩
  dsimp only
  rcases hd with ⟨ws, rfl, hpl2⟩ | ⟨t, rfl, hrt⟩
  · have hex : exB loads.sum rs ch [] = true := exB_t.mpr ⟨_, hpl2.2, fun k h => absurd h (Nat.not_lt_zero k)⟩
    let TT : List D := [.str "plan", .tup (ws.map D.int)]
    have t0 : ∀ {φ : Addr → Prop} {J : Hp → Prop} {ρ : List (Option D)}, ρ[18]? = some (some (.tup TT)) → EvD K φ J (tOp (rIxT K) (tVar 18) (tC (.int 0))) ρ (.str "plan") := fun h => ev_ixT (ds := TT) (ev_var h) ev_int rfl
    refine q (st_no A23 (et_or (et_not (et_B (ev_isi (ev_var rfl) ev_ty rfl))) fun _ => et_test (ev_neI (ev_lenT (ds := TT) (ev_var rfl)) ev_int)) (show (!true || !decide (((2 : Nat) : Int) = 2)) = false by decide) fun H24 A24 => st_next ?_)
    dsimp only
    refine q (st_yes A24 (et_test (ev_eqS (s := "plan") (t := "plan") (t0 rfl) ev_str)) (decide_eq_true rfl) fun H25 A25 => ?_)
    refine st_no A25 (et_not (et_B (ev_callD (d := .bl true) (ea_cons (ev_var rfl) (ea_cons (ev_var rfl) (ea_cons (x := .tup (ws.map D.int)) (ev_ixT (ds := TT) (ev_var rfl) ev_int rfl) ea_nil))) ⟨_, _, _, ws, rfl, hsep, hpl2, rfl⟩))) rfl fun H26 A26 => st_next ?_
    dsimp only
    refine q (st_no A26 (et_test (ev_neB (b := true) (c := true) ((ev_eqS (s := "plan") (t := "plan") (t0 rfl) ev_str).is (by rw [decide_eq_true rfl])) ((exE rfl rfl).is (by rw [hex])))) rfl fun H27 A27 => st_next ?_)
    dsimp only
    refine q (st_no A27 (et_andF (et_testP (eb_eq (ev_draw (hP _) rfl ev_int (by decide) (by decide)) (ev_i ev_int))) (et_not (et_B (ev_callD (R := RSame 5) (d := .bl true) (ea_cons (x := .tup [.str "number"]) wordN (ea_cons (ev_tup (ea_cons ev_str ea_nil)) ea_nil)) ⟨_, rfl, rfl, rfl⟩)))) rfl fun H28 A28 => st_next ?_)
    refine st_ret A28 (ev_callD (R := RSame 5) (d := .bl true) (ea_cons (x := .tup [.str "separations"]) wordS (ea_cons (ev_tup (ea_cons ev_str ea_nil)) ea_nil)) ⟨_, rfl, rfl, rfl⟩) fun v d H29 e A29 r => ?_
    subst e
    cases (show v = _ from r)
    exact kq H29
  · have hex : exB loads.sum rs ch [] = false := by
      cases e : exB loads.sum rs ch [] with
      | false => rfl
      | true =>
        obtain ⟨w, kw, _⟩ := exB_t.mp e
        exact (hrt.no (fun i => Int.le_of_eq (leastB_self hsep i)) w kw fun i a _ _ z => nomatch z).elim
    let TT : List D := [.str "refusal", t]
    have t0 : ∀ {φ : Addr → Prop} {J : Hp → Prop} {ρ : List (Option D)}, ρ[18]? = some (some (.tup TT)) → EvD K φ J (tOp (rIxT K) (tVar 18) (tC (.int 0))) ρ (.str "refusal") := fun h => ev_ixT (ds := TT) (ev_var h) ev_int rfl
    refine q (st_no A23 (et_or (et_not (et_B (ev_isi (ev_var rfl) ev_ty rfl))) fun _ => et_test (ev_neI (ev_lenT (ds := TT) (ev_var rfl)) ev_int)) (show (!true || !decide (((2 : Nat) : Int) = 2)) = false by decide) fun H24 A24 => st_next ?_)
    dsimp only
    refine q (st_no A24 (et_test (ev_eqS (s := "refusal") (t := "plan") (t0 rfl) ev_str)) (by decide) fun H25 A25 => ?_)
    have hgl : (List.replicate loads.sum.toNat (-1 : Int)).map D.int = (List.replicate loads.sum.toNat [D.int (-1)]).flatten := by rw [flat_rep, List.map_replicate]
    refine st_no A25 (et_or (et_test (ev_neS (s := "refusal") (t := "refusal") (t0 rfl) ev_str)) fun _ => et_not (et_B (ev_callD (d := .bl true) (ea_cons (ev_var rfl) (ea_cons (ev_var rfl) (ea_cons (x := .lst ((List.replicate loads.sum.toNat (-1 : Int)).map D.int)) ((ev_newD (ev_repL (ds := [.int (-1)]) (en_lstD (ea_cons (ev_neg ev_int) ea_nil)) (ev_sep0 (ev_var rfl)) (by omega) (by show 1 * _ ≤ _; omega))).is (by rw [hgl])) (ea_cons (x := t) (ev_ixT (ds := TT) (ev_var rfl) ev_int rfl) ea_nil)))) ⟨loads.sum, ch, rs, _, t, rfl, hsum.1, by omega, ch0, by omega, by rw [List.length_replicate]; omega, by rw [vOf_rep]; exact hrt, ?_, rfl⟩))) (by decide) fun H26 A26 => st_next ?_
    · refine Nat.lt_of_le_of_lt (List.length_filter_le _ _) ?_
      rw [List.length_replicate]
      omega
    dsimp only
    refine q (st_no A26 (et_test (ev_neB (b := false) (c := false) ((ev_eqS (s := "refusal") (t := "plan") (t0 rfl) ev_str).is (by rw [show decide (("refusal" : Str) = "plan") = false by decide])) ((exE rfl rfl).is (by rw [hex])))) rfl fun H27 A27 => st_next ?_)
    dsimp only
    refine q (st_no A27 (et_andF (et_testP (eb_eq (ev_draw (hP _) rfl ev_int (by decide) (by decide)) (ev_i ev_int))) (et_not (et_B (ev_callD (R := RSame 5) (d := .bl true) (ea_cons (x := .tup [.str "number"]) wordN (ea_cons (ev_tup (ea_cons ev_str ea_nil)) ea_nil)) ⟨_, rfl, rfl, rfl⟩)))) rfl fun H28 A28 => st_next ?_)
    refine st_ret A28 (ev_callD (R := RSame 5) (d := .bl true) (ea_cons (x := .tup [.str "separations"]) wordS (ea_cons (ev_tup (ea_cons ev_str ea_nil)) ea_nil)) ⟨_, rfl, rfl, rfl⟩) fun v d H29 e A29 r => ?_
    subst e
    cases (show v = _ from r)
    exact kq H29
end
/-! ### what the top has written; the law's own head -/
theorem all_mk {l : PySem.W.OpenLaw} {w : World} {K : PySem.W.Frag} {h : Heap} {mg : Str → Option Value} {fa : Addr} {f0 : Addr} {od0 an0 : Option Addr} {sl0 : Array (Option Value)} {oc0 kV0 dc0 pm0 cd0 ct0 : Value} {f1 : Addr} {od1 an1 : Option Addr} {sl1 : Array (Option Value)} {oc1 kV1 dc1 pm1 cd1 ct1 : Value} {f2 : Addr} {od2 an2 : Option Addr} {sl2 : Array (Option Value)} {oc2 kV2 dc2 pm2 cd2 ct2 : Value} {f3 : Addr} {od3 an3 : Option Addr} {sl3 : Array (Option Value)} {oc3 kV3 dc3 pm3 cd3 ct3 : Value} {f4 : Addr} {od4 an4 : Option Addr} {sl4 : Array (Option Value)} {oc4 kV4 dc4 pm4 cd4 ct4 : Value} {f5 : Addr} {od5 an5 : Option Addr} {sl5 : Array (Option Value)} {oc5 kV5 dc5 pm5 cd5 ct5 : Value} {f6 : Addr} {od6 an6 : Option Addr} {sl6 : Array (Option Value)} {oc6 kV6 dc6 pm6 cd6 ct6 : Value} {f7 : Addr} {od7 an7 : Option Addr} {sl7 : Array (Option Value)} {oc7 kV7 dc7 pm7 cd7 ct7 : Value} {f8 : Addr} {od8 an8 : Option Addr} {sl8 : Array (Option Value)} {oc8 kV8 dc8 pm8 cd8 ct8 : Value} {f9 : Addr} {od9 an9 : Option Addr} {sl9 : Array (Option Value)} {oc9 kV9 dc9 pm9 ct9 : Value} {f10 : Addr} {od10 an10 : Option Addr} {sl10 : Array (Option Value)} {oc10 kV10 dc10 pm10 cd10 ct10 : Value} {f11 : Addr} {od11 an11 : Option Addr} {sl11 : Array (Option Value)} {oc11 kV11 dc11 pm11 cd11 ct11 : Value} {f12 : Addr} {od12 an12 : Option Addr} {sl12 : Array (Option Value)} {oc12 kV12 dc12 pm12 cd12 ct12 : Value} {f13 : Addr} {od13 an13 : Option Addr} {sl13 : Array (Option Value)} {oc13 kV13 dc13 pm13 cd13 ct13 : Value} {f14 : Addr} {od14 an14 : Option Addr} {sl14 : Array (Option Value)} {oc14 kV14 dc14 pm14 cd14 ct14 : Value} {f15 : Addr} {od15 an15 : Option Addr} {sl15 : Array (Option Value)} {oc15 kV15 dc15 pm15 cd15 ct15 : Value} {f16 : Addr} {od16 an16 : Option Addr} {sl16 : Array (Option Value)} {oc16 kV16 dc16 pm16 cd16 ct16 : Value} {f17 : Addr} {od17 an17 : Option Addr} {sl17 : Array (Option Value)} {oc17 kV17 dc17 pm17 cd17 ct17 : Value} {f18 : Addr} {od18 an18 : Option Addr} {sl18 : Array (Option Value)} {oc18 kV18 dc18 pm18 cd18 ct18 : Value} {f19 : Addr} {od19 an19 : Option Addr} {sl19 : Array (Option Value)} {oc19 kV19 dc19 pm19 cd19 ct19 : Value} {f20 : Addr} {od20 an20 : Option Addr} {sl20 : Array (Option Value)} {oc20 kV20 dc20 pm20 cd20 ct20 : Value} {f21 : Addr} {od21 an21 : Option Addr} {sl21 : Array (Option Value)} {oc21 kV21 dc21 pm21 cd21 ct21 : Value} {f22 : Addr} {od22 an22 : Option Addr} {sl22 : Array (Option Value)} {oc22 kV22 dc22 pm22 cd22 ct22 : Value} {f23 : Addr} {od23 an23 : Option Addr} {sl23 : Array (Option Value)} {oc23 kV23 dc23 pm23 cd23 ct23 : Value} {f24 : Addr} {od24 an24 : Option Addr} {sl24 : Array (Option Value)} {oc24 kV24 dc24 pm24 cd24 ct24 : Value} {f25 : Addr} {od25 an25 : Option Addr} {sl25 : Array (Option Value)} {oc25 kV25 dc25 pm25 cd25 ct25 : Value} {f26 : Addr} {od26 an26 : Option Addr} {sl26 : Array (Option Value)} {oc26 kV26 dc26 pm26 cd26 ct26 : Value} {f27 : Addr} {od27 an27 : Option Addr} {sl27 : Array (Option Value)} {oc27 kV27 dc27 pm27 cd27 ct27 : Value} {f28 : Addr} {od28 an28 : Option Addr} {sl28 : Array (Option Value)} {oc28 kV28 dc28 pm28 cd28 ct28 : Value} {t_MOST_USERS : Tok} {t_MOST_LEAST : Tok} {t_MOST_CHANNELS : Tok} {c_InvalidSeparations : Addr} {c_NoNumber : Addr} {cR CT : Addr} (X : K.In h) (G : h.Ns mainGlobals mg) (hfa : mg "law" = some (.ref fa))
    (hT : h.get? CT = some { cls := .none, data := .fields #[] }) (a0 : PySem.W.nsIn K mainGlobals "is_integer" = some (some (.ref f0))) (l0 : K.lookup f0 = some ⟨oc0, od0, .func (PySem.W.fnOf "is_integer" "is_integer" (defArgs s_is_integer) (defBody s_is_integer) (defScope s_is_integer) .none kV0 dc0 pm0 an0 cd0 ct0), sl0⟩) (c0 : PySem.W.codeIn K cd0 "is_integer" = true) (k0 : PySem.W.keepIn K (.ref f0) = true) (a1 : PySem.W.nsIn K mainGlobals "is_row" = some (some (.ref f1))) (l1 : K.lookup f1 = some ⟨oc1, od1, .func (PySem.W.fnOf "is_row" "is_row" (defArgs s_is_row) (defBody s_is_row) (defScope s_is_row) .none kV1 dc1 pm1 an1 cd1 ct1), sl1⟩) (c1 : PySem.W.codeIn K cd1 "is_row" = true) (k1 : PySem.W.keepIn K (.ref f1) = true) (a2 : PySem.W.nsIn K mainGlobals "is_separations" = some (some (.ref f2))) (l2 : K.lookup f2 = some ⟨oc2, od2, .func (PySem.W.fnOf "is_separations" "is_separations" (defArgs s_is_separations) (defBody s_is_separations) (defScope s_is_separations) .none kV2 dc2 pm2 an2 cd2 ct2), sl2⟩) (c2 : PySem.W.codeIn K cd2 "is_separations" = true) (k2 : PySem.W.keepIn K (.ref f2) = true) (a3 : PySem.W.nsIn K mainGlobals "made_separations" = some (some (.ref f3))) (l3 : K.lookup f3 = some ⟨oc3, od3, .func (PySem.W.fnOf "made_separations" "made_separations" (defArgs s_made_separations) (defBody s_made_separations) (defScope s_made_separations) .none kV3 dc3 pm3 an3 cd3 ct3), sl3⟩) (c3 : PySem.W.codeIn K cd3 "made_separations" = true) (k3 : PySem.W.keepIn K (.ref f3) = true) (a4 : PySem.W.nsIn K mainGlobals "least_between" = some (some (.ref f4))) (l4 : K.lookup f4 = some ⟨oc4, od4, .func (PySem.W.fnOf "least_between" "least_between" (defArgs s_least_between) (defBody s_least_between) (defScope s_least_between) .none kV4 dc4 pm4 an4 cd4 ct4), sl4⟩) (c4 : PySem.W.codeIn K cd4 "least_between" = true) (k4 : PySem.W.keepIn K (.ref f4) = true) (a5 : PySem.W.nsIn K mainGlobals "neighbors" = some (some (.ref f5))) (l5 : K.lookup f5 = some ⟨oc5, od5, .func (PySem.W.fnOf "neighbors" "neighbors" (defArgs s_neighbors) (defBody s_neighbors) (defScope s_neighbors) .none kV5 dc5 pm5 an5 cd5 ct5), sl5⟩) (c5 : PySem.W.codeIn K cd5 "neighbors" = true) (k5 : PySem.W.keepIn K (.ref f5) = true) (a6 : PySem.W.nsIn K mainGlobals "breaks" = some (some (.ref f6))) (l6 : K.lookup f6 = some ⟨oc6, od6, .func (PySem.W.fnOf "breaks" "breaks" (defArgs s_breaks) (defBody s_breaks) (defScope s_breaks) .none kV6 dc6 pm6 an6 cd6 ct6), sl6⟩) (c6 : PySem.W.codeIn K cd6 "breaks" = true) (k6 : PySem.W.keepIn K (.ref f6) = true) (a7 : PySem.W.nsIn K mainGlobals "would_break" = some (some (.ref f7))) (l7 : K.lookup f7 = some ⟨oc7, od7, .func (PySem.W.fnOf "would_break" "would_break" (defArgs s_would_break) (defBody s_would_break) (defScope s_would_break) .none kV7 dc7 pm7 an7 cd7 ct7), sl7⟩) (c7 : PySem.W.codeIn K cd7 "would_break" = true) (k7 : PySem.W.keepIn K (.ref f7) = true) (a8 : PySem.W.nsIn K mainGlobals "free_channels" = some (some (.ref f8))) (l8 : K.lookup f8 = some ⟨oc8, od8, .func (PySem.W.fnOf "free_channels" "free_channels" (defArgs s_free_channels) (defBody s_free_channels) (defScope s_free_channels) .none kV8 dc8 pm8 an8 cd8 ct8), sl8⟩) (c8 : PySem.W.codeIn K cd8 "free_channels" = true) (k8 : PySem.W.keepIn K (.ref f8) = true) (a9 : PySem.W.nsIn K mainGlobals "search" = some (some (.ref f9))) (l9 : K.lookup f9 = some ⟨oc9, od9, .func (PySem.W.fnOf "search" "search" (defArgs s_search) (defBody s_search) (defScope s_search) .none kV9 dc9 pm9 an9 (.ref cR) ct9), sl9⟩) (c9 : PySem.W.codeIn K (.ref cR) "search" = true) (k9 : PySem.W.keepIn K (.ref f9) = true) (a10 : PySem.W.nsIn K mainGlobals "clash_with" = some (some (.ref f10))) (l10 : K.lookup f10 = some ⟨oc10, od10, .func (PySem.W.fnOf "clash_with" "clash_with" (defArgs s_clash_with) (defBody s_clash_with) (defScope s_clash_with) .none kV10 dc10 pm10 an10 cd10 ct10), sl10⟩) (c10 : PySem.W.codeIn K cd10 "clash_with" = true) (k10 : PySem.W.keepIn K (.ref f10) = true) (a11 : PySem.W.nsIn K mainGlobals "solved" = some (some (.ref f11))) (l11 : K.lookup f11 = some ⟨oc11, od11, .func (PySem.W.fnOf "solved" "solved" (defArgs s_solved) (defBody s_solved) (defScope s_solved) .none kV11 dc11 pm11 an11 cd11 ct11), sl11⟩) (c11 : PySem.W.codeIn K cd11 "solved" = true) (k11 : PySem.W.keepIn K (.ref f11) = true) (a12 : PySem.W.nsIn K mainGlobals "lowest" = some (some (.ref f12))) (l12 : K.lookup f12 = some ⟨oc12, od12, .func (PySem.W.fnOf "lowest" "lowest" (defArgs s_lowest) (defBody s_lowest) (defScope s_lowest) .none kV12 dc12 pm12 an12 cd12 ct12), sl12⟩) (c12 : PySem.W.codeIn K cd12 "lowest" = true) (k12 : PySem.W.keepIn K (.ref f12) = true) (a13 : PySem.W.nsIn K mainGlobals "channels_for" = some (some (.ref f13))) (l13 : K.lookup f13 = some ⟨oc13, od13, .func (PySem.W.fnOf "channels_for" "channels_for" (defArgs s_channels_for) (defBody s_channels_for) (defScope s_channels_for) .none kV13 dc13 pm13 an13 cd13 ct13), sl13⟩) (c13 : PySem.W.codeIn K cd13 "channels_for" = true) (k13 : PySem.W.keepIn K (.ref f13) = true) (a14 : PySem.W.nsIn K mainGlobals "demands" = some (some (.ref f14))) (l14 : K.lookup f14 = some ⟨oc14, od14, .func (PySem.W.fnOf "demands" "demands" (defArgs s_demands) (defBody s_demands) (defScope s_demands) .none kV14 dc14 pm14 an14 cd14 ct14), sl14⟩) (c14 : PySem.W.codeIn K cd14 "demands" = true) (k14 : PySem.W.keepIn K (.ref f14) = true) (a15 : PySem.W.nsIn K mainGlobals "grade" = some (some (.ref f15))) (l15 : K.lookup f15 = some ⟨oc15, od15, .func (PySem.W.fnOf "grade" "grade" (defArgs s_grade) (defBody s_grade) (defScope s_grade) .none kV15 dc15 pm15 an15 cd15 ct15), sl15⟩) (c15 : PySem.W.codeIn K cd15 "grade" = true) (k15 : PySem.W.keepIn K (.ref f15) = true) (a16 : PySem.W.nsIn K mainGlobals "_law_same" = some (some (.ref f16))) (l16 : K.lookup f16 = some ⟨oc16, od16, .func (PySem.W.fnOf "_law_same" "_law_same" (defArgs s__law_same) (defBody s__law_same) (defScope s__law_same) .none kV16 dc16 pm16 an16 cd16 ct16), sl16⟩) (c16 : PySem.W.codeIn K cd16 "_law_same" = true) (k16 : PySem.W.keepIn K (.ref f16) = true) (a17 : PySem.W.nsIn K mainGlobals "_law_is_integer" = some (some (.ref f17))) (l17 : K.lookup f17 = some ⟨oc17, od17, .func (PySem.W.fnOf "_law_is_integer" "_law_is_integer" (defArgs s__law_is_integer) (defBody s__law_is_integer) (defScope s__law_is_integer) .none kV17 dc17 pm17 an17 cd17 ct17), sl17⟩) (c17 : PySem.W.codeIn K cd17 "_law_is_integer" = true) (k17 : PySem.W.keepIn K (.ref f17) = true) (a18 : PySem.W.nsIn K mainGlobals "_law_pool" = some (some (.ref f18))) (l18 : K.lookup f18 = some ⟨oc18, od18, .func (PySem.W.fnOf "_law_pool" "_law_pool" (defArgs s__law_pool) (defBody s__law_pool) (defScope s__law_pool) .none kV18 dc18 pm18 an18 cd18 ct18), sl18⟩) (c18 : PySem.W.codeIn K cd18 "_law_pool" = true) (k18 : PySem.W.keepIn K (.ref f18) = true) (a19 : PySem.W.nsIn K mainGlobals "_law_spread" = some (some (.ref f19))) (l19 : K.lookup f19 = some ⟨oc19, od19, .func (PySem.W.fnOf "_law_spread" "_law_spread" (defArgs s__law_spread) (defBody s__law_spread) (defScope s__law_spread) .none kV19 dc19 pm19 an19 cd19 ct19), sl19⟩) (c19 : PySem.W.codeIn K cd19 "_law_spread" = true) (k19 : PySem.W.keepIn K (.ref f19) = true) (a20 : PySem.W.nsIn K mainGlobals "_law_draw" = some (some (.ref f20))) (l20 : K.lookup f20 = some ⟨oc20, od20, .func (PySem.W.fnOf "_law_draw" "_law_draw" (defArgs s__law_draw) (defBody s__law_draw) (defScope s__law_draw) .none kV20 dc20 pm20 an20 cd20 ct20), sl20⟩) (c20 : PySem.W.codeIn K cd20 "_law_draw" = true) (k20 : PySem.W.keepIn K (.ref f20) = true) (a21 : PySem.W.nsIn K mainGlobals "_law_separations" = some (some (.ref f21))) (l21 : K.lookup f21 = some ⟨oc21, od21, .func (PySem.W.fnOf "_law_separations" "_law_separations" (defArgs s__law_separations) (defBody s__law_separations) (defScope s__law_separations) .none kV21 dc21 pm21 an21 cd21 ct21), sl21⟩) (c21 : PySem.W.codeIn K cd21 "_law_separations" = true) (k21 : PySem.W.keepIn K (.ref f21) = true) (a22 : PySem.W.nsIn K mainGlobals "_law_least" = some (some (.ref f22))) (l22 : K.lookup f22 = some ⟨oc22, od22, .func (PySem.W.fnOf "_law_least" "_law_least" (defArgs s__law_least) (defBody s__law_least) (defScope s__law_least) .none kV22 dc22 pm22 an22 cd22 ct22), sl22⟩) (c22 : PySem.W.codeIn K cd22 "_law_least" = true) (k22 : PySem.W.keepIn K (.ref f22) = true) (a23 : PySem.W.nsIn K mainGlobals "_law_keeps" = some (some (.ref f23))) (l23 : K.lookup f23 = some ⟨oc23, od23, .func (PySem.W.fnOf "_law_keeps" "_law_keeps" (defArgs s__law_keeps) (defBody s__law_keeps) (defScope s__law_keeps) .none kV23 dc23 pm23 an23 cd23 ct23), sl23⟩) (c23 : PySem.W.codeIn K cd23 "_law_keeps" = true) (k23 : PySem.W.keepIn K (.ref f23) = true) (a24 : PySem.W.nsIn K mainGlobals "_law_shows" = some (some (.ref f24))) (l24 : K.lookup f24 = some ⟨oc24, od24, .func (PySem.W.fnOf "_law_shows" "_law_shows" (defArgs s__law_shows) (defBody s__law_shows) (defScope s__law_shows) .none kV24 dc24 pm24 an24 cd24 ct24), sl24⟩) (c24 : PySem.W.codeIn K cd24 "_law_shows" = true) (k24 : PySem.W.keepIn K (.ref f24) = true) (a25 : PySem.W.nsIn K mainGlobals "_law_exists" = some (some (.ref f25))) (l25 : K.lookup f25 = some ⟨oc25, od25, .func (PySem.W.fnOf "_law_exists" "_law_exists" (defArgs s__law_exists) (defBody s__law_exists) (defScope s__law_exists) .none kV25 dc25 pm25 an25 cd25 ct25), sl25⟩) (c25 : PySem.W.codeIn K cd25 "_law_exists" = true) (k25 : PySem.W.keepIn K (.ref f25) = true) (a26 : PySem.W.nsIn K mainGlobals "_law_word" = some (some (.ref f26))) (l26 : K.lookup f26 = some ⟨oc26, od26, .func (PySem.W.fnOf "_law_word" "_law_word" (defArgs s__law_word) (defBody s__law_word) (defScope s__law_word) .none kV26 dc26 pm26 an26 cd26 ct26), sl26⟩) (c26 : PySem.W.codeIn K cd26 "_law_word" = true) (k26 : PySem.W.keepIn K (.ref f26) = true) (a27 : PySem.W.nsIn K mainGlobals "_law_members" = some (some (.ref f27))) (l27 : K.lookup f27 = some ⟨oc27, od27, .func (PySem.W.fnOf "_law_members" "_law_members" (defArgs s__law_members) (defBody s__law_members) (defScope s__law_members) .none kV27 dc27 pm27 an27 cd27 ct27), sl27⟩) (c27 : PySem.W.codeIn K cd27 "_law_members" = true) (k27 : PySem.W.keepIn K (.ref f27) = true) (a28 : PySem.W.nsIn K mainGlobals "law" = some (some (.ref f28))) (l28 : K.lookup f28 = some ⟨oc28, od28, .func (PySem.W.fnOf "law" "law" (defArgs s_law) (defBody s_law) (defScope s_law) .none kV28 dc28 pm28 an28 cd28 ct28), sl28⟩) (c28 : PySem.W.codeIn K cd28 "law" = true) (k28 : PySem.W.keepIn K (.ref f28) = true) (z_len : PySem.W.nsIn K mainGlobals "len" = some none) (z_range : PySem.W.nsIn K mainGlobals "range" = some none) (z_isinstance : PySem.W.nsIn K mainGlobals "isinstance" = some none) (z_int : PySem.W.nsIn K mainGlobals "int" = some none) (z_str : PySem.W.nsIn K mainGlobals "str" = some none) (z_bool : PySem.W.nsIn K mainGlobals "bool" = some none) (z_list : PySem.W.nsIn K mainGlobals "list" = some none) (z_tuple : PySem.W.nsIn K mainGlobals "tuple" = some none) (z_dict : PySem.W.nsIn K mainGlobals "dict" = some none) (z_sum : PySem.W.nsIn K mainGlobals "sum" = some none) (z_max : PySem.W.nsIn K mainGlobals "max" = some none) (z_min : PySem.W.nsIn K mainGlobals "min" = some none) (z_abs : PySem.W.nsIn K mainGlobals "abs" = some none) (z_sorted : PySem.W.nsIn K mainGlobals "sorted" = some none) (z_enumerate : PySem.W.nsIn K mainGlobals "enumerate" = some none) (z_zip : PySem.W.nsIn K mainGlobals "zip" = some none) (z_set : PySem.W.nsIn K mainGlobals "set" = some none) (y_MOST_USERS : PySem.W.nsIn K mainGlobals "MOST_USERS" = some (some (.int (24) t_MOST_USERS))) (y_MOST_LEAST : PySem.W.nsIn K mainGlobals "MOST_LEAST" = some (some (.int (9) t_MOST_LEAST))) (y_MOST_CHANNELS : PySem.W.nsIn K mainGlobals "MOST_CHANNELS" = some (some (.int (400) t_MOST_CHANNELS))) (y_gcd : PySem.W.nsIn K mainGlobals "gcd" = some (some (.builtin "math.gcd"))) (xa_InvalidSeparations : PySem.W.nsIn K mainGlobals "InvalidSeparations" = some (some (.ref c_InvalidSeparations))) (xe_InvalidSeparations : PySem.W.excIn K c_InvalidSeparations [.type "ValueError", .type "Exception", .type "BaseException", .type "object"] "ValueError.__new__" = true) (xk_InvalidSeparations : PySem.W.keepIn K (.ref c_InvalidSeparations) = true) (xs_InvalidSeparations : PySem.W.subIn K (.ref c_InvalidSeparations) (.type "BaseException") = some true) (xt_InvalidSeparations : PySem.W.typeIn K (.ref c_InvalidSeparations) = some (.type "type")) (xi_InvalidSeparations : PySem.W.isClsIn K c_InvalidSeparations = true) (xy_InvalidSeparations : PySem.W.subIn K (.ref c_InvalidSeparations) (.ref c_InvalidSeparations) = some true) (xa_NoNumber : PySem.W.nsIn K mainGlobals "NoNumber" = some (some (.ref c_NoNumber))) (xe_NoNumber : PySem.W.excIn K c_NoNumber [.type "ValueError", .type "Exception", .type "BaseException", .type "object"] "ValueError.__new__" = true) (xk_NoNumber : PySem.W.keepIn K (.ref c_NoNumber) = true) (xs_NoNumber : PySem.W.subIn K (.ref c_NoNumber) (.type "BaseException") = some true) (xt_NoNumber : PySem.W.typeIn K (.ref c_NoNumber) = some (.type "type")) (xi_NoNumber : PySem.W.isClsIn K c_NoNumber = true) (xy_NoNumber : PySem.W.subIn K (.ref c_NoNumber) (.ref c_NoNumber) = some true) (xn_0 : PySem.W.subIn K (.ref c_InvalidSeparations) (.ref c_NoNumber) = some false) (nT : K.lookup CT = none) (hC : PySem.W.codeHdIn K cR CT = true) :
    LamX.LawAtS l w K CX0 170 63 "script" mg fa h := by
  have e := hfa.symm.trans (PySem.W.mg_of X G a28)
  cases e
  have F0 := fun_mk (st := s_is_integer) l0 c0 k0
  have b0 := F0.binds (ps := ["value"]) fun _ _ _ _ _ _ us hl => match us, hl with | [_], _ => rfl
  have L0 : Lk K mg "is_integer" f0 _ ["value"] := ⟨PySem.W.mg_of X G a0, k0, b0⟩
  have F1 := fun_mk (st := s_is_row) l1 c1 k1
  have b1 := F1.binds (ps := ["value", "count"]) fun _ _ _ _ _ _ us hl => match us, hl with | [_, _], _ => rfl
  have L1 : Lk K mg "is_row" f1 _ ["value", "count"] := ⟨PySem.W.mg_of X G a1, k1, b1⟩
  have F2 := fun_mk (st := s_is_separations) l2 c2 k2
  have b2 := F2.binds (ps := ["value"]) fun _ _ _ _ _ _ us hl => match us, hl with | [_], _ => rfl
  have L2 : Lk K mg "is_separations" f2 _ ["value"] := ⟨PySem.W.mg_of X G a2, k2, b2⟩
  have F3 := fun_mk (st := s_made_separations) l3 c3 k3
  have b3 := F3.binds (ps := ["count", "rows"]) fun _ _ _ _ _ _ us hl => match us, hl with | [_, _], _ => rfl
  have L3 : Lk K mg "made_separations" f3 _ ["count", "rows"] := ⟨PySem.W.mg_of X G a3, k3, b3⟩
  have F4 := fun_mk (st := s_least_between) l4 c4 k4
  have b4 := F4.binds (ps := ["separations", "i", "j"]) fun _ _ _ _ _ _ us hl => match us, hl with | [_, _, _], _ => rfl
  have L4 : Lk K mg "least_between" f4 _ ["separations", "i", "j"] := ⟨PySem.W.mg_of X G a4, k4, b4⟩
  have F5 := fun_mk (st := s_neighbors) l5 c5 k5
  have b5 := F5.binds (ps := ["separations", "i"]) fun _ _ _ _ _ _ us hl => match us, hl with | [_, _], _ => rfl
  have L5 : Lk K mg "neighbors" f5 _ ["separations", "i"] := ⟨PySem.W.mg_of X G a5, k5, b5⟩
  have F6 := fun_mk (st := s_breaks) l6 c6 k6
  have b6 := F6.binds (ps := ["separations", "i", "j", "first", "second"]) fun _ _ _ _ _ _ us hl => match us, hl with | [_, _, _, _, _], _ => rfl
  have L6 : Lk K mg "breaks" f6 _ ["separations", "i", "j", "first", "second"] := ⟨PySem.W.mg_of X G a6, k6, b6⟩
  have F7 := fun_mk (st := s_would_break) l7 c7 k7
  have b7 := F7.binds (ps := ["separations", "given", "i", "channel"]) fun _ _ _ _ _ _ us hl => match us, hl with | [_, _, _, _], _ => rfl
  have L7 : Lk K mg "would_break" f7 _ ["separations", "given", "i", "channel"] := ⟨PySem.W.mg_of X G a7, k7, b7⟩
  have F8 := fun_mk (st := s_free_channels) l8 c8 k8
  have b8 := F8.binds (ps := ["separations", "channels", "given", "i"]) fun _ _ _ _ _ _ us hl => match us, hl with | [_, _, _, _], _ => rfl
  have L8 : Lk K mg "free_channels" f8 _ ["separations", "channels", "given", "i"] := ⟨PySem.W.mg_of X G a8, k8, b8⟩
  have F9 := (funC_mk (st := s_search) l9 c9 k9)
  have b9 := F9.fn.binds (ps := ["separations", "channels", "given"]) fun _ _ _ _ _ _ us hl => match us, hl with | [_, _, _], _ => rfl
  have L9 : Lk K mg "search" f9 _ ["separations", "channels", "given"] := ⟨PySem.W.mg_of X G a9, k9, b9⟩
  have F10 := fun_mk (st := s_clash_with) l10 c10 k10
  have b10 := F10.binds (ps := ["separations", "given", "i", "channel"]) fun _ _ _ _ _ _ us hl => match us, hl with | [_, _, _, _], _ => rfl
  have L10 : Lk K mg "clash_with" f10 _ ["separations", "given", "i", "channel"] := ⟨PySem.W.mg_of X G a10, k10, b10⟩
  have F11 := fun_mk (st := s_solved) l11 c11 k11
  have b11 := F11.binds (ps := ["separations", "channels"]) fun _ _ _ _ _ _ us hl => match us, hl with | [_, _], _ => rfl
  have L11 : Lk K mg "solved" f11 _ ["separations", "channels"] := ⟨PySem.W.mg_of X G a11, k11, b11⟩
  have F12 := fun_mk (st := s_lowest) l12 c12 k12
  have b12 := F12.binds (ps := ["p", "q"]) fun _ _ _ _ _ _ us hl => match us, hl with | [_, _], _ => rfl
  have L12 : Lk K mg "lowest" f12 _ ["p", "q"] := ⟨PySem.W.mg_of X G a12, k12, b12⟩
  have F13 := fun_mk (st := s_channels_for) l13 c13 k13
  have b13 := F13.binds (ps := ["a", "b", "p", "q"]) fun _ _ _ _ _ _ us hl => match us, hl with | [_, _, _, _], _ => rfl
  have L13 : Lk K mg "channels_for" f13 _ ["a", "b", "p", "q"] := ⟨PySem.W.mg_of X G a13, k13, b13⟩
  have F14 := fun_mk (st := s_demands) l14 c14 k14
  have b14 := F14.binds (ps := ["separations", "loads"]) fun _ _ _ _ _ _ us hl => match us, hl with | [_, _], _ => rfl
  have L14 : Lk K mg "demands" f14 _ ["separations", "loads"] := ⟨PySem.W.mg_of X G a14, k14, b14⟩
  have F15 := fun_mk (st := s_grade) l15 c15 k15
  have b15 := F15.binds (ps := ["separations", "offered", "channels", "p", "q"]) fun _ _ _ _ _ _ us hl => match us, hl with | [_, _, _, _, _], _ => rfl
  have L15 : Lk K mg "grade" f15 _ ["separations", "offered", "channels", "p", "q"] := ⟨PySem.W.mg_of X G a15, k15, b15⟩
  have F16 := fun_mk (st := s__law_same) l16 c16 k16
  have b16 := F16.binds (ps := ["actual", "due"]) fun _ _ _ _ _ _ us hl => match us, hl with | [_, _], _ => rfl
  have L16 : Lk K mg "_law_same" f16 _ ["actual", "due"] := ⟨PySem.W.mg_of X G a16, k16, b16⟩
  have F17 := fun_mk (st := s__law_is_integer) l17 c17 k17
  have b17 := F17.binds (ps := ["actual"]) fun _ _ _ _ _ _ us hl => match us, hl with | [_], _ => rfl
  have L17 : Lk K mg "_law_is_integer" f17 _ ["actual"] := ⟨PySem.W.mg_of X G a17, k17, b17⟩
  have F18 := fun_mk (st := s__law_pool) l18 c18 k18
  have b18 := F18.binds (ps := ["script"]) fun _ _ _ _ _ _ us hl => match us, hl with | [_], _ => rfl
  have L18 : Lk K mg "_law_pool" f18 _ ["script"] := ⟨PySem.W.mg_of X G a18, k18, b18⟩
  have F19 := fun_mk (st := s__law_spread) l19 c19 k19
  have b19 := F19.binds (ps := ["cell"]) fun _ _ _ _ _ _ us hl => match us, hl with | [_], _ => rfl
  have L19 : Lk K mg "_law_spread" f19 _ ["cell"] := ⟨PySem.W.mg_of X G a19, k19, b19⟩
  have F20 := fun_mk (st := s__law_draw) l20 c20 k20
  have b20 := F20.binds (ps := ["pool", "many"]) fun _ _ _ _ _ _ us hl => match us, hl with | [_, _], _ => rfl
  have L20 : Lk K mg "_law_draw" f20 _ ["pool", "many"] := ⟨PySem.W.mg_of X G a20, k20, b20⟩
  have F21 := fun_mk (st := s__law_separations) l21 c21 k21
  have b21 := F21.binds (ps := ["pool", "most", "top"]) fun _ _ _ _ _ _ us hl => match us, hl with | [_, _, _], _ => rfl
  have L21 : Lk K mg "_law_separations" f21 _ ["pool", "most", "top"] := ⟨PySem.W.mg_of X G a21, k21, b21⟩
  have F22 := fun_mk (st := s__law_least) l22 c22 k22
  have b22 := F22.binds (ps := ["separations", "i", "j"]) fun _ _ _ _ _ _ us hl => match us, hl with | [_, _, _], _ => rfl
  have L22 : Lk K mg "_law_least" f22 _ ["separations", "i", "j"] := ⟨PySem.W.mg_of X G a22, k22, b22⟩
  have F23 := fun_mk (st := s__law_keeps) l23 c23 k23
  have b23 := F23.binds (ps := ["separations", "channels", "value"]) fun _ _ _ _ _ _ us hl => match us, hl with | [_, _, _], _ => rfl
  have L23 : Lk K mg "_law_keeps" f23 _ ["separations", "channels", "value"] := ⟨PySem.W.mg_of X G a23, k23, b23⟩
  have F24 := fun_mk (st := s__law_shows) l24 c24 k24
  have b24 := F24.binds (ps := ["separations", "channels", "given", "tree"]) fun _ _ _ _ _ _ us hl => match us, hl with | [_, _, _, _], _ => rfl
  have L24 : Lk K mg "_law_shows" f24 _ ["separations", "channels", "given", "tree"] := ⟨PySem.W.mg_of X G a24, k24, b24⟩
  have F25 := fun_mk (st := s__law_exists) l25 c25 k25
  have b25 := F25.binds (ps := ["separations", "channels", "given"]) fun _ _ _ _ _ _ us hl => match us, hl with | [_, _, _], _ => rfl
  have L25 : Lk K mg "_law_exists" f25 _ ["separations", "channels", "given"] := ⟨PySem.W.mg_of X G a25, k25, b25⟩
  have F26 := fun_mk (st := s__law_word) l26 c26 k26
  have b26 := F26.binds (ps := ["separations", "offered", "channels", "p", "q"]) fun _ _ _ _ _ _ us hl => match us, hl with | [_, _, _, _, _], _ => rfl
  have L26 : Lk K mg "_law_word" f26 _ ["separations", "offered", "channels", "p", "q"] := ⟨PySem.W.mg_of X G a26, k26, b26⟩
  have F27 := fun_mk (st := s__law_members) l27 c27 k27
  have b27 := F27.binds (ps := ["value"]) fun _ _ _ _ _ _ us hl => match us, hl with | [_], _ => rfl
  have L27 : Lk K mg "_law_members" f27 _ ["value"] := ⟨PySem.W.mg_of X G a27, k27, b27⟩
  have F28 := fun_mk (st := s_law) l28 c28 k28
  have b28 := F28.binds (ps := ["script"]) fun _ _ _ _ _ _ us hl => match us, hl with | [_], _ => rfl
  have L28 : Lk K mg "law" fa _ ["script"] := ⟨PySem.W.mg_of X G a28, k28, b28⟩
  have B : Bi mg := ⟨PySem.W.mg_none_of X G z_len, PySem.W.mg_none_of X G z_range, PySem.W.mg_none_of X G z_isinstance, PySem.W.mg_none_of X G z_int, PySem.W.mg_none_of X G z_str, PySem.W.mg_none_of X G z_bool, PySem.W.mg_none_of X G z_list, PySem.W.mg_none_of X G z_tuple, PySem.W.mg_none_of X G z_dict, PySem.W.mg_none_of X G z_sum, PySem.W.mg_none_of X G z_max, PySem.W.mg_none_of X G z_min, PySem.W.mg_none_of X G z_abs, PySem.W.mg_none_of X G z_sorted, PySem.W.mg_none_of X G z_enumerate, PySem.W.mg_none_of X G z_zip, PySem.W.mg_none_of X G z_set⟩
  have C : Cs mg := ⟨⟨_, PySem.W.mg_of X G y_MOST_USERS, _, rfl⟩, ⟨_, PySem.W.mg_of X G y_MOST_LEAST, _, rfl⟩, ⟨_, PySem.W.mg_of X G y_MOST_CHANNELS, _, rfl⟩, PySem.W.mg_of X G y_gcd⟩
  have X_InvalidSeparations : ExC K mg "InvalidSeparations" c_InvalidSeparations := ⟨PySem.W.mg_of X G xa_InvalidSeparations, xe_InvalidSeparations, xk_InvalidSeparations, xs_InvalidSeparations, xt_InvalidSeparations, exm_sub xs_InvalidSeparations xi_InvalidSeparations xt_InvalidSeparations xy_InvalidSeparations⟩
  have X_NoNumber : ExC K mg "NoNumber" c_NoNumber := ⟨PySem.W.mg_of X G xa_NoNumber, xe_NoNumber, xk_NoNumber, xs_NoNumber, xt_NoNumber, exm_sub xs_NoNumber xi_NoNumber xt_NoNumber xy_NoNumber⟩
  have XN_0 : PySem.W.exmOne K (.ref c_InvalidSeparations) (.ref c_NoNumber) = some false := exm_sub xs_NoNumber xi_NoNumber xt_NoNumber xn_0
  have one : ∀ {p : Addr × Addr}, p ∈ [(cR, CT)] → p = (cR, CT) := fun h => List.mem_singleton.mp h
  refine ⟨_, [(cR, CT)], spLawT K CT, fun p hp => by rw [one hp]; exact hT, fun p hp => by rw [one hp]; exact nT, fun p hp => by rw [one hp]; exact PySem.W.codeHd_of_K X hC, fun s v => .of_eq rfl, fun H a ns hl _ hH hS => ⟨a, ns, rfl, hS, hl, hH _ (List.mem_singleton.mpr rfl), fun _ => rfl⟩, fun base _ _ TB => ok_all B C (cR := cR) (TB _ (List.mem_singleton.mpr rfl)) X_InvalidSeparations X_NoNumber XN_0 F0 L0 F1 L1 F2 L2 F3 L3 F4 L4 F5 L5 F6 L6 F7 L7 F8 L8 F9.fn L9 F10 L10 F11 L11 F12 L12 F13 L13 F14 L14 F15 L15 F16 L16 F17 L17 F18 L18 F19 L19 F20 L20 F21 L21 F22 L22 F23 L23 F24 L24 F25 L25 F26 L26 F27 L27 F28 L28 F9⟩
end DL
open PySem PySem.W PyProof.Rows
set_option maxRecDepth 100000 in
set_option maxHeartbeats 0 in
theorem PySem.Challenge.cw_airwave_k47_whole_grades_holds : PySem.Challenge.rw_airwave_k47_whole_grades.Holds := by
  w_on; o_law; k_head; (case hw => w_witness2)
  k_fill
  refine LamX.walk_ofTs (l := PySem.Challenge.rw_airwave_k47_whole_grades) (n := 63) (k := 170) (x := "script") (CX := fun _ => L2.CX0) rfl (by decide) rfl ⟨rfl, by decide, by decide⟩ (fun w h Y => PySem.W.km_in_of Y) ?F (fun _ _ _ _ _ h => h)
  case F =>
    intro w mg fa h Y KX G hmg
    have hT := PySem.W.km_tabs_of Y
    refine' DL.all_mk (CT := 134) KX G hmg (hT _ (by simp)) ?a0 ?l0 ?c0 ?k0 ?a1 ?l1 ?c1 ?k1 ?a2 ?l2 ?c2 ?k2 ?a3 ?l3 ?c3 ?k3 ?a4 ?l4 ?c4 ?k4 ?a5 ?l5 ?c5 ?k5 ?a6 ?l6 ?c6 ?k6 ?a7 ?l7 ?c7 ?k7 ?a8 ?l8 ?c8 ?k8 ?a9 ?l9 ?c9 ?k9 ?a10 ?l10 ?c10 ?k10 ?a11 ?l11 ?c11 ?k11 ?a12 ?l12 ?c12 ?k12 ?a13 ?l13 ?c13 ?k13 ?a14 ?l14 ?c14 ?k14 ?a15 ?l15 ?c15 ?k15 ?a16 ?l16 ?c16 ?k16 ?a17 ?l17 ?c17 ?k17 ?a18 ?l18 ?c18 ?k18 ?a19 ?l19 ?c19 ?k19 ?a20 ?l20 ?c20 ?k20 ?a21 ?l21 ?c21 ?k21 ?a22 ?l22 ?c22 ?k22 ?a23 ?l23 ?c23 ?k23 ?a24 ?l24 ?c24 ?k24 ?a25 ?l25 ?c25 ?k25 ?a26 ?l26 ?c26 ?k26 ?a27 ?l27 ?c27 ?k27 ?a28 ?l28 ?c28 ?k28 ?z_len ?z_range ?z_isinstance ?z_int ?z_str ?z_bool ?z_list ?z_tuple ?z_dict ?z_sum ?z_max ?z_min ?z_abs ?z_sorted ?z_enumerate ?z_zip ?z_set ?y_MOST_USERS ?y_MOST_LEAST ?y_MOST_CHANNELS ?y_gcd ?xa_InvalidSeparations ?xe_InvalidSeparations ?xk_InvalidSeparations ?xs_InvalidSeparations ?xt_InvalidSeparations ?xi_InvalidSeparations ?xy_InvalidSeparations ?xa_NoNumber ?xe_NoNumber ?xk_NoNumber ?xs_NoNumber ?xt_NoNumber ?xi_NoNumber ?xy_NoNumber ?xn_0 ?nT ?hC
    (case a0 => k_is); (case l0 => k_is); (case c0 => k_is); (case k0 => k_is); (case a1 => k_is); (case l1 => k_is); (case c1 => k_is); (case k1 => k_is); (case a2 => k_is); (case l2 => k_is); (case c2 => k_is); (case k2 => k_is); (case a3 => k_is); (case l3 => k_is); (case c3 => k_is); (case k3 => k_is); (case a4 => k_is); (case l4 => k_is); (case c4 => k_is); (case k4 => k_is); (case a5 => k_is); (case l5 => k_is); (case c5 => k_is); (case k5 => k_is); (case a6 => k_is); (case l6 => k_is); (case c6 => k_is); (case k6 => k_is); (case a7 => k_is); (case l7 => k_is); (case c7 => k_is); (case k7 => k_is); (case a8 => k_is); (case l8 => k_is); (case c8 => k_is); (case k8 => k_is); (case a9 => k_is); (case l9 => k_is); (case c9 => k_is); (case k9 => k_is); (case a10 => k_is); (case l10 => k_is); (case c10 => k_is); (case k10 => k_is); (case a11 => k_is); (case l11 => k_is); (case c11 => k_is); (case k11 => k_is); (case a12 => k_is); (case l12 => k_is); (case c12 => k_is); (case k12 => k_is); (case a13 => k_is); (case l13 => k_is); (case c13 => k_is); (case k13 => k_is); (case a14 => k_is); (case l14 => k_is); (case c14 => k_is); (case k14 => k_is); (case a15 => k_is); (case l15 => k_is); (case c15 => k_is); (case k15 => k_is); (case a16 => k_is); (case l16 => k_is); (case c16 => k_is); (case k16 => k_is); (case a17 => k_is); (case l17 => k_is); (case c17 => k_is); (case k17 => k_is); (case a18 => k_is); (case l18 => k_is); (case c18 => k_is); (case k18 => k_is); (case a19 => k_is); (case l19 => k_is); (case c19 => k_is); (case k19 => k_is); (case a20 => k_is); (case l20 => k_is); (case c20 => k_is); (case k20 => k_is); (case a21 => k_is); (case l21 => k_is); (case c21 => k_is); (case k21 => k_is); (case a22 => k_is); (case l22 => k_is); (case c22 => k_is); (case k22 => k_is); (case a23 => k_is); (case l23 => k_is); (case c23 => k_is); (case k23 => k_is); (case a24 => k_is); (case l24 => k_is); (case c24 => k_is); (case k24 => k_is); (case a25 => k_is); (case l25 => k_is); (case c25 => k_is); (case k25 => k_is); (case a26 => k_is); (case l26 => k_is); (case c26 => k_is); (case k26 => k_is); (case a27 => k_is); (case l27 => k_is); (case c27 => k_is); (case k27 => k_is); (case a28 => k_is); (case l28 => k_is); (case c28 => k_is); (case k28 => k_is); (case z_len => k_is); (case z_range => k_is); (case z_isinstance => k_is); (case z_int => k_is); (case z_str => k_is); (case z_bool => k_is); (case z_list => k_is); (case z_tuple => k_is); (case z_dict => k_is); (case z_sum => k_is); (case z_max => k_is); (case z_min => k_is); (case z_abs => k_is); (case z_sorted => k_is); (case z_enumerate => k_is); (case z_zip => k_is); (case z_set => k_is); (case y_MOST_USERS => k_is); (case y_MOST_LEAST => k_is); (case y_MOST_CHANNELS => k_is); (case y_gcd => k_is); (case xa_InvalidSeparations => k_is); (case xe_InvalidSeparations => k_exc); (case xk_InvalidSeparations => k_is); (case xs_InvalidSeparations => k_is); (case xt_InvalidSeparations => k_is); (case xi_InvalidSeparations => k_is); (case xy_InvalidSeparations => k_is); (case xa_NoNumber => k_is); (case xe_NoNumber => k_exc); (case xk_NoNumber => k_is); (case xs_NoNumber => k_is); (case xt_NoNumber => k_is); (case xi_NoNumber => k_is); (case xy_NoNumber => k_is); (case xn_0 => k_is); (case nT => kernel_rfl); (case hC => kernel_rfl)
#print axioms PySem.Challenge.cw_airwave_k47_whole_grades_holds
