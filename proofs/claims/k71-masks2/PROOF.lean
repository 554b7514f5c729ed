import PyProof.Rows.All
import Wide.All
import OpenK.AllK
import Wide.FinOn
import HandS.ForMost
import HandS.IsInst
import HandS.Wide
import HandS.Gcd
import HandS.Deep
import HandS.TupAny
import HandS.Zip
import HandS.Codes
import KE.GoesEnumKw
import HandS.SortKw
import HandS.Exc
import HandS.ExcOwn
import HandS.TryOnly
import HandS.WordsExc
import HandS.TupMul
import HandS.Dict
import HandS.SortOrd
import HandS.SortRule
import HandS.SortInts
import HandS.DictTup
import HandS.More
import KE.KDictCopyH
import KE.KDictWalk
import KE.KDictExact
import HandS.DictComp
import HandS.TupLe
import HandS.Conv
import KE.SortData
import KE.DataMinMax
import KE.DatumOrd
import HandS.Iter
import KE.KDictDisplayH
import HandS.Comp
import HandS.Text
import HandS.Steps
import HandS.StrMore
import HandS.FStr
import HandS.Style
import PyProof.StrOps2
import KE.KRevSl
import HandS.Lambda
import HandS.SetFor
import HandS.Strs
import HandS.EndTab
import KE.KNestM
import KE.KLam
import PySem.Challenge.RW_airwave_k71_masks_of_two_radios
set_option Elab.async false
set_option linter.all false
set_option maxRecDepth 100000
/-! DL: a layer of data. D: trees of values; Rep: a value stands for a tree; Ev..: what a reading evaluates to, by trees. -/
namespace DL
open PySem PySem.Spec PyProof.Rows L2

inductive D where
  | non | bl (b : Bool) | int (i : Int) | str (x : Str) | tup (xs : List D) | lst (xs : List D) | raw (v : V) | dk (ks : List Key) (xs : List D) | dt (ks : List (List Key)) (xs : List D)

theorem same_tr {H H' : Hp} (s : Same H H') : ∀ a, H a ≠ none → H' a ≠ none := fun a h => by
  cases e : H a with
  | none => exact absurd e h
  | some o => rw [s a o e]; exact fun z => by cases z
theorem upd_tr {H : Hp} {l : Addr} {o : HO} : ∀ a, H a ≠ none → L2.upd H l o a ≠ none := fun a h => by
  by_cases e : a = l
  · rw [e, upd_same]; exact fun z => by cases z
  · rw [upd_ne e]; exact h
/-- what φ says is kept, nothing is lost from sight -/
structure But (φ : Addr → Prop) (H H' : Hp) : Prop where
  keep : ∀ a o, φ a → H a = some o → H' a = some o
  tr : ∀ a, H a ≠ none → H' a ≠ none
theorem But.refl (φ : Addr → Prop) (H : Hp) : But φ H H := ⟨fun _ _ _ e => e, fun _ h => h⟩
theorem But.trans {φ : Addr → Prop} {H H1 H2 : Hp} (a : But φ H H1) (b : But φ H1 H2) : But φ H H2 := ⟨fun x o h e => b.keep x o h (a.keep x o h e), fun x h => b.tr x (a.tr x h)⟩
theorem But.of {φ : Addr → Prop} {H H' : Hp} (s : Same H H') : But φ H H' := ⟨fun a o _ e => s a o e, same_tr s⟩
theorem But.upd {φ : Addr → Prop} {H H' : Hp} {l : Addr} {o : HO} (b : But φ H H') (h : ¬ φ l) : But φ H (L2.upd H' l o) := ⟨fun a u p e => by
  rw [L2.upd_ne (show a ≠ l from fun z => h (z ▸ p))]
  exact b.keep a u p e, fun a h => upd_tr a (b.tr a h)⟩
theorem But.imp {φ φ' : Addr → Prop} {H H' : Hp} (b : But φ' H H') (h : ∀ a, φ a → H a ≠ none → φ' a) : But φ H H' := ⟨fun a o p e => b.keep a o (h a p (by rw [e]; exact fun z => by cases z)) e, b.tr⟩
theorem same_new {H : Hp} {p : Addr} {o : HO} (h : H p = none) : Same H (upd H p o) := fun b x e => by
  rw [upd_ne (ne_of_none e h)]
  exact e

section
variable (K : PySem.W.Frag) (φ : Addr → Prop) (H : Hp)
def WrT (a : Addr) (xs : List V) : Prop := ∃ (o : Obj) (its : Array Value) (n : Nat), K.lookup a = some o ∧ o.cls = .type "tuple" ∧ o.data = .seq its n ∧ its.size ≤ sizeLine ∧ Vals xs its.toList
def WrL (a : Addr) (xs : List V) : Prop := ∃ (o : Obj) (its : Array Value) (n : Nat), K.lookup a = some o ∧ o.cls = .type "list" ∧ o.dict = none ∧ o.data = .seq its n ∧ its.size ≤ sizeLine ∧ Vals xs its.toList
def PT (a : Addr) (xs : List V) : Prop := (φ a ∧ (H a = some (.tup xs) ∨ False)) ∨ (False ∧ K.lookup a = none)
def PL (a : Addr) (xs : List V) : Prop := (φ a ∧ Rd H a (.lst xs)) ∨ WrL K a xs
mutual
def Rep : D → V → Prop
  | .non, v => v = .non
  | .bl b, v => v = .bl b
  | .int i, v => v = .int i
  | .str x, v => v = .str x
  | .tup ds, v => ∃ a vs, v = .ref a ∧ PT K φ H a vs ∧ Reps ds vs
  | .lst ds, v => ∃ a vs, v = .ref a ∧ PL K φ H a vs ∧ Reps ds vs
  | .raw w, v => v = w
  | .dk ks ds, v => ∃ a vs, v = .ref a ∧ (φ a ∧ H a = some (.dK (ks.zip vs)) ∧ ks.length = ds.length) ∧ Reps ds vs
  | .dt ks ds, v => ∃ a vs, v = .ref a ∧ (φ a ∧ H a = some (.dT (ks.zip vs)) ∧ ks.length = ds.length) ∧ Reps ds vs
def Reps : List D → List V → Prop
  | [], vs => vs = []
  | d :: ds, vs => ∃ v r, vs = v :: r ∧ Rep d v ∧ Reps ds r
end
end

section
variable {K : PySem.W.Frag} {φ φ' : Addr → Prop} {H H' : Hp} {a : Addr} {xs : List V} {ds es : List D} {d : D} {v : V} {vs ws : List V}
theorem PT.at (h : PT K φ H a xs) : φ a ∧ H a = some (.tup xs) := h.elim (fun z => ⟨z.1, z.2.elim id False.elim⟩) fun z => z.1.elim
theorem PT.sq (h : PT K φ H a xs) : SqT K H a xs := .inl (.inl h.at.2)
theorem PL.sq (h : PL K φ H a xs) : SqL K H a xs := h.elim (fun z => .inl z.2) .inr
/-- a change that keeps what Rep leans on -/
def Up (φ φ' : Addr → Prop) (H H' : Hp) : Prop := ∀ a o, φ a → H a = some o → φ' a ∧ H' a = some o
theorem Up.of (b : But φ H H') : Up φ φ H H' := fun a o p e => ⟨p, b.keep a o p e⟩
theorem Up.new {p : Addr} (h : H p = none) : Up φ (fun a => φ a ∧ a ≠ p) H H := fun a o q e => ⟨⟨q, ne_of_none e h⟩, e⟩
theorem Rd.up {u : HO} (k : Up φ φ' H H') (p : φ a) (h : Rd H a u) : φ' a ∧ Rd H' a u := by
  rcases h with h | ⟨o, h⟩
  · exact ⟨(k a _ p h).1, .inl (k a _ p h).2⟩
  · exact ⟨(k a _ p h).1, .inr ⟨o, (k a _ p h).2⟩⟩
theorem PT.up (k : Up φ φ' H H') (h : PT K φ H a xs) : PT K φ' H' a xs := .inl ⟨(k a _ h.at.1 h.at.2).1, .inl (k a _ h.at.1 h.at.2).2⟩
theorem PL.up (k : Up φ φ' H H') (h : PL K φ H a xs) : PL K φ' H' a xs := h.elim (fun z => .inl (Rd.up k z.1 z.2)) .inr
mutual
theorem Rep.up (k : Up φ φ' H H') : ∀ (d : D) (v : V), Rep K φ H d v → Rep K φ' H' d v
  | .non, _, h => h
  | .bl _, _, h => h
  | .int _, _, h => h
  | .str _, _, h => h
  | .raw _, _, h => h
  | .dk ks ds, v, h => by
    obtain ⟨a, vs, e, ⟨p, e2, hl⟩, r⟩ := (show ∃ a vs, v = .ref a ∧ (φ a ∧ H a = some (.dK (ks.zip vs)) ∧ ks.length = ds.length) ∧ Reps K φ H ds vs from h)
    exact ⟨a, vs, e, ⟨(k a _ p e2).1, (k a _ p e2).2, hl⟩, Reps.up k ds vs r⟩
  | .dt ks ds, v, h => by
    obtain ⟨a, vs, e, ⟨p, e2, hl⟩, r⟩ := (show ∃ a vs, v = .ref a ∧ (φ a ∧ H a = some (.dT (ks.zip vs)) ∧ ks.length = ds.length) ∧ Reps K φ H ds vs from h)
    exact ⟨a, vs, e, ⟨(k a _ p e2).1, (k a _ p e2).2, hl⟩, Reps.up k ds vs r⟩
  | .tup ds, v, h => by
    obtain ⟨a, vs, e, p, r⟩ := (show ∃ a vs, v = .ref a ∧ PT K φ H a vs ∧ Reps K φ H ds vs from h)
    exact ⟨a, vs, e, p.up k, Reps.up k ds vs r⟩
  | .lst ds, v, h => by
    obtain ⟨a, vs, e, p, r⟩ := (show ∃ a vs, v = .ref a ∧ PL K φ H a vs ∧ Reps K φ H ds vs from h)
    exact ⟨a, vs, e, p.up k, Reps.up k ds vs r⟩
theorem Reps.up (k : Up φ φ' H H') : ∀ (ds : List D) (vs : List V), Reps K φ H ds vs → Reps K φ' H' ds vs
  | [], _, h => h
  | d :: ds, vs, h => by
    obtain ⟨v, r, e, h1, h2⟩ := (show ∃ v r, vs = v :: r ∧ Rep K φ H d v ∧ Reps K φ H ds r from h)
    exact ⟨v, r, e, Rep.up k d v h1, Reps.up k ds r h2⟩
end
theorem Rep.mono (h : Rep K φ H d v) (b : But φ H H') : Rep K φ H' d v := Rep.up (Up.of b) d v h
theorem Reps.mono (h : Reps K φ H ds vs) (b : But φ H H') : Reps K φ H' ds vs := Reps.up (Up.of b) ds vs h
theorem Reps.length : ∀ {ds : List D} {vs : List V}, Reps K φ H ds vs → vs.length = ds.length
  | [], vs, h => by
    have e : vs = [] := h
    rw [e]
    rfl
  | d :: ds, vs, h => by
    obtain ⟨v, r, rfl, h1, h2⟩ := (show ∃ v r, vs = v :: r ∧ Rep K φ H d v ∧ Reps K φ H ds r from h)
    rw [List.length_cons, List.length_cons, Reps.length h2]
theorem Reps.nil : Reps K φ H [] [] := rfl
theorem Reps.cons (h1 : Rep K φ H d v) (h2 : Reps K φ H ds vs) : Reps K φ H (d :: ds) (v :: vs) := ⟨v, vs, rfl, h1, h2⟩
theorem Reps.get : ∀ {ds : List D} {vs : List V} {i : Nat} {d : D}, Reps K φ H ds vs → ds[i]? = some d → ∃ v, vs[i]? = some v ∧ Rep K φ H d v
  | [], vs, i, d, _, e => by simp at e
  | x :: ds, vs, i, d, h, e => by
    obtain ⟨v, r, rfl, h1, h2⟩ := (show ∃ v r, vs = v :: r ∧ Rep K φ H x v ∧ Reps K φ H ds r from h)
    cases i with
    | zero =>
      have e' : x = d := by simpa using e
      exact ⟨v, rfl, e' ▸ h1⟩
    | succ i =>
      obtain ⟨w, e1, r1⟩ := Reps.get (i := i) h2 (by simpa using e)
      exact ⟨w, by simpa using e1, r1⟩
theorem Reps.getV {i : Nat} (h : Reps K φ H ds vs) (e : vs[i]? = some v) : ∃ d, ds[i]? = some d ∧ Rep K φ H d v := by
  have hl := h.length
  obtain ⟨hi, _⟩ := List.getElem?_eq_some_iff.mp e
  obtain ⟨w, e1, r1⟩ := h.get (List.getElem?_eq_getElem (show i < ds.length by omega))
  rw [e] at e1
  cases e1
  exact ⟨_, List.getElem?_eq_getElem (show i < ds.length by omega), r1⟩
theorem Reps.append : ∀ {ds : List D} {vs : List V}, Reps K φ H ds vs → Reps K φ H es ws → Reps K φ H (ds ++ es) (vs ++ ws)
  | [], vs, h, k => by
    have e : vs = [] := h
    rw [e]
    exact k
  | d :: ds, vs, h, k => by
    obtain ⟨v, r, rfl, h1, h2⟩ := (show ∃ v r, vs = v :: r ∧ Rep K φ H d v ∧ Reps K φ H ds r from h)
    exact ⟨v, r ++ ws, rfl, h1, Reps.append h2 k⟩
theorem Reps.drop : ∀ (n : Nat) {ds : List D} {vs : List V}, Reps K φ H ds vs → Reps K φ H (ds.drop n) (vs.drop n)
  | 0, _, _, h => h
  | n + 1, [], vs, h => by
    have e : vs = [] := h
    rw [e]
    exact rfl
  | n + 1, d :: ds, vs, h => by
    obtain ⟨v, r, rfl, h1, h2⟩ := (show ∃ v r, vs = v :: r ∧ Rep K φ H d v ∧ Reps K φ H ds r from h)
    exact Reps.drop n h2
theorem Reps.take : ∀ (n : Nat) {ds : List D} {vs : List V}, Reps K φ H ds vs → Reps K φ H (ds.take n) (vs.take n)
  | 0, _, _, h => rfl
  | n + 1, [], vs, h => by
    have e : vs = [] := h
    rw [e]
    exact rfl
  | n + 1, d :: ds, vs, h => by
    obtain ⟨v, r, rfl, h1, h2⟩ := (show ∃ v r, vs = v :: r ∧ Rep K φ H d v ∧ Reps K φ H ds r from h)
    exact ⟨v, _, rfl, h1, Reps.take n h2⟩
theorem Reps.set : ∀ {ds : List D} {vs : List V} (i : Nat), Reps K φ H ds vs → Rep K φ H d v → Reps K φ H (ds.set i d) (vs.set i v)
  | [], vs, i, h, _ => by
    have e : vs = [] := h
    rw [e]
    exact rfl
  | x :: ds, vs, i, h, k => by
    obtain ⟨w, r, rfl, h1, h2⟩ := (show ∃ v r, vs = v :: r ∧ Rep K φ H x v ∧ Reps K φ H ds r from h)
    cases i with
    | zero => exact ⟨v, r, rfl, k, h2⟩
    | succ i => exact ⟨w, r.set i v, rfl, h1, Reps.set i h2 k⟩
theorem Reps.ints : ∀ {ns : List Int} {vs : List V}, Reps K φ H (ns.map D.int) vs → vs = ns.map V.int
  | [], vs, h => h
  | n :: ns, vs, h => by
    obtain ⟨v, r, rfl, h1, h2⟩ := (show ∃ v r, vs = v :: r ∧ Rep K φ H (.int n) v ∧ Reps K φ H (ns.map D.int) r from h)
    have e : v = .int n := h1
    rw [e, Reps.ints h2]
    rfl
theorem Reps.of_ints : ∀ {ns : List Int}, Reps K φ H (ns.map D.int) (ns.map V.int)
  | [] => rfl
  | n :: ns => ⟨.int n, ns.map V.int, rfl, rfl, Reps.of_ints⟩
theorem Reps.strs : ∀ {ns : List Str} {vs : List V}, Reps K φ H (ns.map D.str) vs → vs = ns.map V.str
  | [], vs, h => h
  | n :: ns, vs, h => by
    obtain ⟨v, r, rfl, h1, h2⟩ := (show ∃ v r, vs = v :: r ∧ Rep K φ H (.str n) v ∧ Reps K φ H (ns.map D.str) r from h)
    have e : v = .str n := h1
    rw [e, Reps.strs h2]
    rfl
end

/-! ### the slots -/
def SR (K : PySem.W.Frag) (φ : Addr → Prop) (H : Hp) (ρ : List (Option D)) (σ : L2.St) : Prop :=
  σ.length = ρ.length ∧ ∀ (i : Nat) (d : D), ρ[i]? = some (some d) → ∃ v, σ[i]? = some (some v) ∧ Rep K φ H d v
section
variable {K : PySem.W.Frag} {φ φ' : Addr → Prop} {H H' : Hp} {ρ ρ' : List (Option D)} {σ : L2.St} {d : D} {v : V}
theorem SR.up (k : Up φ φ' H H') (h : SR K φ H ρ σ) : SR K φ' H' ρ σ := ⟨h.1, fun i d e => by
  obtain ⟨v, e1, r⟩ := h.2 i d e
  exact ⟨v, e1, Rep.up k d v r⟩⟩
theorem SR.set (i : Nat) (h : SR K φ H ρ σ) (r : Rep K φ H d v) : SR K φ H (ρ.set i (some d)) (σ.set i (some v)) := by
  refine ⟨by rw [List.length_set, List.length_set]; exact h.1, fun j e hj => ?_⟩
  by_cases hij : i = j
  · subst hij
    have hl : i < ρ.length := by
      obtain ⟨z, _⟩ := List.getElem?_eq_some_iff.mp hj
      simpa using z
    rw [List.getElem?_set_self hl] at hj
    cases hj
    exact ⟨v, List.getElem?_set_self (by rw [h.1]; exact hl), r⟩
  · rw [List.getElem?_set_ne hij] at hj
    obtain ⟨w, e1, r1⟩ := h.2 j e hj
    exact ⟨w, by rw [List.getElem?_set_ne hij]; exact e1, r1⟩
/-- ρ' knows no more than ρ -/
inductive Le : List (Option D) → List (Option D) → Prop where
  | nil : Le [] []
  | keep {x : Option D} {a b : List (Option D)} : Le a b → Le (x :: a) (x :: b)
  | drop {x : Option D} {a b : List (Option D)} : Le a b → Le (none :: a) (x :: b)
theorem Le.length : ∀ {a b : List (Option D)}, Le a b → a.length = b.length
  | _, _, .nil => rfl
  | _, _, .keep h => by rw [List.length_cons, List.length_cons, h.length]
  | _, _, .drop h => by rw [List.length_cons, List.length_cons, h.length]
theorem Le.get : ∀ {a b : List (Option D)} {i : Nat} {d : D}, Le a b → a[i]? = some (some d) → b[i]? = some (some d)
  | _, _, _, _, .nil, e => e
  | _, _, 0, _, .keep h, e => e
  | _, _, i + 1, _, .keep h, e => by
    have z := Le.get (i := i) h (by simpa using e)
    simpa using z
  | _, _, 0, _, .drop h, e => by simp at e
  | _, _, i + 1, _, .drop h, e => by
    have z := Le.get (i := i) h (by simpa using e)
    simpa using z
theorem Le.refl : ∀ (a : List (Option D)), Le a a
  | [] => .nil
  | _ :: a => .keep (Le.refl a)
theorem SR.le (h : SR K φ H ρ σ) (l : Le ρ' ρ) : SR K φ H ρ' σ := ⟨by rw [h.1, l.length], fun i d e => h.2 i d (l.get e)⟩
theorem SR.start : ∀ {ds : List D} {vs : List V} {n : Nat}, Reps K φ H ds vs → SR K φ H (ds.map some ++ List.replicate n none) (vs.map some ++ List.replicate n none)
  | [], vs, n, h => by
    have e : vs = [] := h
    rw [e]
    refine ⟨by simp, fun i d hd => ?_⟩
    simp [List.getElem?_replicate] at hd
  | d :: ds, vs, n, h => by
    obtain ⟨v, r, rfl, h1, h2⟩ := (show ∃ v r, vs = v :: r ∧ Rep K φ H d v ∧ Reps K φ H ds r from h)
    obtain ⟨l, g⟩ := SR.start (n := n) h2
    refine ⟨by simp only [List.map_cons, List.cons_append, List.length_cons, l], fun i d' hd => ?_⟩
    cases i with
    | zero =>
      simp at hd
      exact ⟨v, rfl, hd ▸ h1⟩
    | succ i =>
      obtain ⟨w, e, q⟩ := g i d' (by simpa using hd)
      exact ⟨w, by simpa using e, q⟩
end

/-! ### a state: the slots by trees, the live facts J -/
/-- J leans on what H tracks alone -/
def Mo (H : Hp) (J : Hp → Prop) : Prop := ∀ H1 H2 : Hp, (∀ a o, H a ≠ none → H1 a = some o → H2 a = some o) → J H1 → J H2
theorem Mo.up {H H' : Hp} {J : Hp → Prop} (m : Mo H J) (s : ∀ a, H a ≠ none → H' a ≠ none) : Mo H' J := fun H1 H2 k j => m H1 H2 (fun a o h e => k a o (s a h) e) j
theorem Mo.same {H H' : Hp} {J : Hp → Prop} (m : Mo H J) (s : Same H H') : Mo H' J := m.up (same_tr s)
theorem Mo.upd {H : Hp} {J : Hp → Prop} {l : Addr} {o : HO} (m : Mo H J) : Mo (L2.upd H l o) J := m.up upd_tr
theorem Mo.and {H : Hp} {J J' : Hp → Prop} (m : Mo H J) (m' : Mo H J') : Mo H (fun H => J H ∧ J' H) := fun H1 H2 k j => ⟨m H1 H2 k j.1, m' H1 H2 k j.2⟩
theorem Mo.at {H : Hp} {l : Addr} {o : HO} (h : H l ≠ none) : Mo H (fun H => H l = some o) := fun H1 H2 k j => k l o h j
theorem Mo.sames {H H0 : Hp} (h : ∀ a, H0 a ≠ none → H a ≠ none) : Mo H (Same H0) := fun H1 H2 k j b o e => k b o (h b (by rw [e]; exact fun z => by cases z)) (j b o e)
theorem Mo.but {φ : Addr → Prop} {H H0 : Hp} (h : ∀ a, H0 a ≠ none → H a ≠ none) : Mo H (But φ H0) := fun H1 H2 k j => ⟨fun b o p e => k b o (h b (by rw [e]; exact fun z => by cases z)) (j.keep b o p e), fun b hb => by
  cases e : H1 b with
  | none => exact absurd e (j.tr b hb)
  | some o => rw [k b o (h b hb) e]; exact fun z => by cases z⟩
theorem Mo.tt {H : Hp} {p : Prop} : Mo H (fun _ => p) := fun H1 H2 k j => j
/-- what is free, and every tuple, is in φ -/
structure Frm (φ : Addr → Prop) (H : Hp) : Prop where
  new : ∀ a, H a = none → φ a
  tup : ∀ a xs, H a = some (.tup xs) → φ a
instance {φ : Addr → Prop} {H : Hp} : CoeFun (Frm φ H) (fun _ => ∀ a, H a = none → φ a) := ⟨Frm.new⟩
theorem Frm.same {φ : Addr → Prop} {H H' : Hp} (F : Frm φ H) (s : Same H H') : Frm φ H' := ⟨fun a h => F.new a (s.free h), fun a xs h => by
  cases e : H a with
  | none => exact F.new a e
  | some o =>
    have z := s a o e
    rw [h] at z
    cases z
    exact F.tup a xs e⟩
theorem Frm.fst {φ : Addr → Prop} {l : Addr} {H : Hp} (F : Frm (fun a => φ a ∧ a ≠ l) H) : Frm φ H := ⟨fun a h => (F.new a h).1, fun a xs h => (F.tup a xs h).1⟩
theorem Frm.upd {φ : Addr → Prop} {H : Hp} {l : Addr} {o : HO} (F : Frm φ H) (ho : ∀ xs, o ≠ .tup xs) : Frm φ (L2.upd H l o) := ⟨fun a h => by
  by_cases e : a = l
  · rw [e, upd_same] at h; cases h
  · rw [upd_ne e] at h; exact F.new a h, fun a xs h => by
  by_cases e : a = l
  · rw [e, upd_same] at h; exact absurd (Option.some.inj h) (ho xs)
  · rw [upd_ne e] at h; exact F.tup a xs h⟩
theorem Frm.updW {φ : Addr → Prop} {H : Hp} {l : Addr} {o : HO} (F : Frm φ H) (ho : ∀ xs, o ≠ .tup xs) : Frm (fun a => φ a ∧ a ≠ l) (L2.upd H l o) := ⟨fun a h => ⟨(F.upd ho).new a h, fun e => by rw [e, upd_same] at h; cases h⟩, fun a xs h => ⟨(F.upd ho).tup a xs h, fun e => by
  rw [e, upd_same] at h
  exact ho xs (Option.some.inj h)⟩⟩
theorem Frm.at {φ : Addr → Prop} {H : Hp} {l : Addr} {o : HO} (F : Frm φ H) (h : H l = some o) (ho : ∀ xs, o ≠ .tup xs) : Frm (fun a => φ a ∧ a ≠ l) H := ⟨fun a ha => ⟨F.new a ha, fun e => by rw [e, h] at ha; cases ha⟩, fun a xs ha => ⟨F.tup a xs ha, fun e => by
  rw [e, h] at ha
  exact ho xs (Option.some.inj ha)⟩⟩
structure At (K : PySem.W.Frag) (φ : Addr → Prop) (J : Hp → Prop) (ρ : List (Option D)) (σ : L2.St) (H : Hp) : Prop where
  sr : SR K φ H ρ σ
  fr : Frm φ H
  j : J H
  mono : Mo H J
section
variable {K : PySem.W.Frag} {φ φ' : Addr → Prop} {J J' : Hp → Prop} {H H' : Hp} {ρ ρ' : List (Option D)} {σ : L2.St} {d : D} {v : V}
theorem At.same (A : At K φ J ρ σ H) (s : Same H H') : At K φ J ρ σ H' :=
  ⟨A.sr.up (Up.of (But.of s)), A.fr.same s, A.mono _ _ (fun a o _ e => s a o e) A.j, A.mono.same s⟩
theorem At.le (A : At K φ J ρ σ H) (l : Le ρ' ρ) : At K φ J ρ' σ H := ⟨A.sr.le l, A.fr, A.j, A.mono⟩
theorem At.set (A : At K φ J ρ σ H) (i : Nat) (r : Rep K φ H d v) : At K φ J (ρ.set i (some d)) (σ.set i (some v)) H := ⟨A.sr.set i r, A.fr, A.j, A.mono⟩
theorem At.live (A : At K φ J ρ σ H) (j : J' H) (m : Mo H J') : At K φ J' ρ σ H := ⟨A.sr, A.fr, j, m⟩
/-- a new live object at p -/
theorem At.newLive {p : Addr} {o : HO} (A : At K φ J ρ σ H) (hp : H p = none) (j : J' (L2.upd H p o)) (m : Mo (L2.upd H p o) J') (ho : ∀ xs, o ≠ .tup xs := by intro xs h; cases h) : At K (fun a => φ a ∧ a ≠ p) J' ρ σ (L2.upd H p o) :=
  ⟨A.sr.up fun a u q e => ⟨⟨q, ne_of_none e hp⟩, by rw [upd_ne (ne_of_none e hp)]; exact e⟩, A.fr.updW ho, j, m⟩
/-- a live object is written -/
theorem At.upd {l : Addr} {o : HO} (A : At K φ J ρ σ H) (hl : ¬ φ l) (j : J' (L2.upd H l o)) (m : Mo (L2.upd H l o) J') (ho : ∀ xs, o ≠ .tup xs := by intro xs h; cases h) : At K φ J' ρ σ (L2.upd H l o) :=
  ⟨A.sr.up (Up.of ((But.refl φ H).upd hl)), A.fr.upd ho, j, m⟩
/-- slots and heap may be another's, if they say the same -/
theorem Same.upd_live {H H' : Hp} {l : Addr} {o : HO} (s : Same H H') (hl : H l = none) : Same H (L2.upd H' l o) := fun b u e => by
  rw [upd_ne (ne_of_none e hl)]
  exact s b u e
end

/-! ### what a reading evaluates to -/
section
variable (K : PySem.W.Frag) (φ : Addr → Prop) (J : Hp → Prop)
def EvP (te : TE) (ρ : List (Option D)) (P : D → Prop) : Prop := ∀ σ H, At K φ J ρ σ H → ∀ Q : VK, (∀ v d H', But φ H H' → At K φ J ρ σ H' → P d → Rep K φ H' d v → Q v H') → te σ H Q
abbrev EvD (te : TE) (ρ : List (Option D)) (d : D) : Prop := EvP K φ J te ρ (fun x => x = d)
abbrev EvI (te : TE) (ρ : List (Option D)) (p : Int → Prop) : Prop := EvP K φ J te ρ (fun x => ∃ i, x = .int i ∧ p i)
abbrev EvB (te : TE) (ρ : List (Option D)) (p : Bool → Prop) : Prop := EvP K φ J te ρ (fun x => ∃ b, x = .bl b ∧ p b)
def EvA (ta : TA) (ρ : List (Option D)) (P : List D → Prop) : Prop := ∀ σ H, At K φ J ρ σ H → ∀ Q : List V → Hp → Prop, (∀ vs ds H', But φ H H' → At K φ J ρ σ H' → P ds → Reps K φ H' ds vs → Q vs H') → ta σ H Q
def EvT (tt : TT) (ρ : List (Option D)) (p : Bool → Prop) : Prop := ∀ σ H, At K φ J ρ σ H → ∀ Q : Bool → Hp → Prop, (∀ b H', But φ H H' → At K φ J ρ σ H' → p b → Q b H') → tt σ H Q
def EvO (to : TO) (ρ : List (Option D)) (o : Option Int) : Prop := ∀ σ H, At K φ J ρ σ H → ∀ Q : Option Int → Hp → Prop, (∀ H', But φ H H' → At K φ J ρ σ H' → Q o H') → to σ H Q
/-- a two-place operation by trees -/
def Op2 (r : R2) (x y : D) (P : D → Prop) : Prop := ∀ (H : Hp) v w, Frm φ H → Rep K φ H x v → Rep K φ H y w → ∀ Q : VK, (∀ u z H', Same H H' → P z → Rep K φ H' z u → Q u H') → r v w H Q
/-- a call by trees -/
def Cl (r : List V → Hp → VK → Prop) (ds : List D) (P : D → Prop) : Prop := ∀ (H : Hp) vs, Frm φ H → Reps K φ H ds vs → ∀ Q : VK, (∀ u z H', Same H H' → P z → Rep K φ H' z u → Q u H') → r vs H Q
end
section
variable {K : PySem.W.Frag} {φ : Addr → Prop} {J : Hp → Prop} {ρ : List (Option D)} {ta tb te tc : TE} {x y z d : D} {P Pa Pb : D → Prop} {i j : Int} {p q : Int → Prop}
theorem EvP.imp {P' : D → Prop} (h : EvP K φ J te ρ P) (k : ∀ d, P d → P' d) : EvP K φ J te ρ P' := fun σ H A Q q => h σ H A Q fun v d H' b A' pd r => q v d H' b A' (k d pd) r
theorem EvP.is {d' : D} (h : EvD K φ J te ρ d) (e : d = d') : EvD K φ J te ρ d' := e ▸ h
theorem ev_var {i : Nat} (h : ρ[i]? = some (some d)) : EvD K φ J (tVar i) ρ d := fun σ H A Q q => by
  obtain ⟨v, e, r⟩ := A.sr.2 i d h
  exact ⟨v, e, q v d H (But.refl _ _) A rfl r⟩
theorem ev_int : EvD K φ J (tC (.int i)) ρ (.int i) := fun σ H A Q q => q _ _ H (But.refl _ _) A rfl rfl
theorem ev_bl {b : Bool} : EvD K φ J (tC (.bl b)) ρ (.bl b) := fun σ H A Q q => q _ _ H (But.refl _ _) A rfl rfl
theorem ev_str {s : Str} : EvD K φ J (tC (.str s)) ρ (.str s) := fun σ H A Q q => q _ _ H (But.refl _ _) A rfl rfl
theorem ev_non : EvD K φ J (tC .non) ρ .non := fun σ H A Q q => q _ _ H (But.refl _ _) A rfl rfl
theorem ev_ty {n : String} : EvD K φ J (tC (.ty n)) ρ (.raw (.ty n)) := fun σ H A Q q => q _ _ H (But.refl _ _) A rfl rfl
theorem ev_ref {a : Addr} : EvD K φ J (tC (.ref a)) ρ (.raw (.ref a)) := fun σ H A Q q => q _ _ H (But.refl _ _) A rfl rfl
theorem ev_op {r : R2} (ha : EvP K φ J ta ρ Pa) (hb : EvP K φ J tb ρ Pb) (hr : ∀ x y, Pa x → Pb y → Op2 K φ r x y P) : EvP K φ J (tOp r ta tb) ρ P := fun σ H A Q q =>
  ha σ H A _ fun v x H1 b1 A1 px r1 => hb σ H1 A1 _ fun w y H2 b2 A2 py r2 => hr x y px py H2 v w A2.fr (r1.mono b2) r2 Q fun u z H3 s pz r3 => q u z H3 ((b1.trans b2).trans (But.of s)) (A2.same s) pz r3
theorem ev_opD {r : R2} (ha : EvD K φ J ta ρ x) (hb : EvD K φ J tb ρ y) (hr : Op2 K φ r x y P) : EvP K φ J (tOp r ta tb) ρ P := ev_op ha hb fun _ _ e1 e2 => by
  subst e1 e2
  exact hr
/-! the operators on ints -/
theorem o2_I0 {g : Int → Int → V} {z : D} (hz : ∀ H, Rep K φ H z (g i j)) : Op2 K φ (rI0 g) (.int i) (.int j) (fun x => x = z) := fun H v w _ r1 r2 Q q => ⟨i, j, r1, r2, q _ _ H (Same.refl H) rfl (hz H)⟩
theorem o2_I {C : Int → Int → Prop} {g : Int → Int → V} {z : D} (hc : C i j) (hz : ∀ H, Rep K φ H z (g i j)) : Op2 K φ (rI C g) (.int i) (.int j) (fun x => x = z) := fun H v w _ r1 r2 Q q => ⟨i, j, r1, r2, hc, q _ _ H (Same.refl H) rfl (hz H)⟩
theorem ev_add (ha : EvD K φ J ta ρ (.int i)) (hb : EvD K φ J tb ρ (.int j)) : EvD K φ J (tOp (rI0 fun i j => .int (i + j)) ta tb) ρ (.int (i + j)) := ev_opD ha hb (o2_I0 fun _ => rfl)
theorem ev_sub (ha : EvD K φ J ta ρ (.int i)) (hb : EvD K φ J tb ρ (.int j)) : EvD K φ J (tOp (rI0 fun i j => .int (i - j)) ta tb) ρ (.int (i - j)) := ev_opD ha hb (o2_I0 fun _ => rfl)
theorem ev_lt (ha : EvD K φ J ta ρ (.int i)) (hb : EvD K φ J tb ρ (.int j)) : EvD K φ J (tOp (rI0 fun i j => .bl (decide (i < j))) ta tb) ρ (.bl (decide (i < j))) := ev_opD ha hb (o2_I0 fun _ => rfl)
theorem ev_le (ha : EvD K φ J ta ρ (.int i)) (hb : EvD K φ J tb ρ (.int j)) : EvD K φ J (tOp (rI0 fun i j => .bl (decide (i ≤ j))) ta tb) ρ (.bl (decide (i ≤ j))) := ev_opD ha hb (o2_I0 fun _ => rfl)
theorem ev_gt (ha : EvD K φ J ta ρ (.int i)) (hb : EvD K φ J tb ρ (.int j)) : EvD K φ J (tOp (rI0 fun i j => .bl (decide (j < i))) ta tb) ρ (.bl (decide (j < i))) := ev_opD ha hb (o2_I0 fun _ => rfl)
theorem ev_ge (ha : EvD K φ J ta ρ (.int i)) (hb : EvD K φ J tb ρ (.int j)) : EvD K φ J (tOp (rI0 fun i j => .bl (decide (j ≤ i))) ta tb) ρ (.bl (decide (j ≤ i))) := ev_opD ha hb (o2_I0 fun _ => rfl)
theorem ev_mul (ha : EvD K φ J ta ρ (.int i)) (hb : EvD K φ J tb ρ (.int j)) (hc : CMul i j) : EvD K φ J (tOp (rI CMul fun i j => .int (i * j)) ta tb) ρ (.int (i * j)) := ev_opD ha hb (o2_I hc fun _ => rfl)
theorem ev_mulW (ha : EvD K φ J ta ρ (.int i)) (hb : EvD K φ J tb ρ (.int j)) (hc : CMulW i j) : EvD K φ J (tOp (rI CMulW fun i j => .int (i * j)) ta tb) ρ (.int (i * j)) := ev_opD ha hb (o2_I hc fun _ => rfl)
theorem ev_fdiv (ha : EvD K φ J ta ρ (.int i)) (hb : EvD K φ J tb ρ (.int j)) (hc : CDiv i j) : EvD K φ J (tOp (rI CDiv fun i j => .int (i / j)) ta tb) ρ (.int (i / j)) := ev_opD ha hb (o2_I hc fun _ => rfl)
theorem ev_fdivW (ha : EvD K φ J ta ρ (.int i)) (hb : EvD K φ J tb ρ (.int j)) (hc : CDivW i j) : EvD K φ J (tOp (rI CDivW fun i j => .int (i / j)) ta tb) ρ (.int (i / j)) := ev_opD ha hb (o2_I hc fun _ => rfl)
theorem ev_mod (ha : EvD K φ J ta ρ (.int i)) (hb : EvD K φ J tb ρ (.int j)) (hc : 0 < j) : EvD K φ J (tOp (rI (fun _ j => 0 < j) fun i j => .int (i % j)) ta tb) ρ (.int (i % j)) := ev_opD ha hb (o2_I hc fun _ => rfl)
theorem ev_neg (ha : EvD K φ J ta ρ (.int i)) : EvD K φ J (tUn (rU fun i => .int (-i)) ta) ρ (.int (-i)) := fun σ H A Q q =>
  ha σ H A _ fun v x H1 b1 A1 px r1 => by
    subst px
    exact ⟨i, r1, q _ _ H1 b1 A1 rfl rfl⟩
/-- scalars compared -/
def scD : D → D → Bool
  | .non, .non => true
  | .bl _, .bl _ => true
  | .int _, .int _ => true
  | .str _, .str _ => true
  | _, _ => false
def eqS : D → D → Bool
  | .non, .non => true
  | .bl a, .bl b => a == b
  | .int a, .int b => decide (a = b)
  | .str a, .str b => decide (a = b)
  | _, _ => false
end
end DL
namespace DL
open PySem PySem.Spec PyProof.Rows L2

section
variable {K : PySem.W.Frag} {φ φ' : Addr → Prop} {J J' : Hp → Prop} {H H' : Hp} {ρ ρ' : List (Option D)} {σ : L2.St} {ta tb te tc : TE} {x y z d : D} {P Pa Pb Pc : D → Prop} {i j : Int} {p q : Int → Prop} {b c : Bool} {s t : Str} {ds es : List D} {v : V} {vs : List V}

/-! ### one-place forms -/
theorem ev_un {r : V → Hp → VK → Prop} (ha : EvP K φ J ta ρ Pa) (hr : ∀ x, Pa x → ∀ (H : Hp) v, Frm φ H → Rep K φ H x v → ∀ Q : VK, (∀ u z H', Same H H' → P z → Rep K φ H' z u → Q u H') → r v H Q) : EvP K φ J (tUn r ta) ρ P := fun σ H A Q q =>
  ha σ H A _ fun v x H1 b1 A1 px r1 => hr x px H1 v A1.fr r1 Q fun u z H2 s pz r2 => q u z H2 (b1.trans (But.of s)) (A1.same s) pz r2

/-! ### == of scalars -/
theorem o2_eqI : Op2 K φ rEq (.int i) (.int j) (fun x => x = .bl (decide (i = j))) := fun H v w _ r1 r2 Q q => by
  cases (show v = .int i from r1)
  cases (show w = .int j from r2)
  exact ⟨rfl, q _ _ H (Same.refl H) rfl (by rw [dec_int, Bool.beq_eq_decide_eq]; rfl)⟩
theorem o2_neI : Op2 K φ rNe (.int i) (.int j) (fun x => x = .bl (!decide (i = j))) := fun H v w _ r1 r2 Q q => by
  cases (show v = .int i from r1)
  cases (show w = .int j from r2)
  exact ⟨rfl, q _ _ H (Same.refl H) rfl (by rw [dec_int, Bool.beq_eq_decide_eq]; rfl)⟩
theorem o2_eqB : Op2 K φ rEq (.bl b) (.bl c) (fun x => x = .bl (b == c)) := fun H v w _ r1 r2 Q q => by
  cases (show v = .bl b from r1)
  cases (show w = .bl c from r2)
  exact ⟨rfl, q _ _ H (Same.refl H) rfl (by rw [dec_bl]; rfl)⟩
theorem o2_neB : Op2 K φ rNe (.bl b) (.bl c) (fun x => x = .bl (!(b == c))) := fun H v w _ r1 r2 Q q => by
  cases (show v = .bl b from r1)
  cases (show w = .bl c from r2)
  exact ⟨rfl, q _ _ H (Same.refl H) rfl (by rw [dec_bl]; rfl)⟩
theorem dec_strD : decide (V.str s = V.str t) = decide (s = t) := by
  by_cases h : s = t
  · subst h
    simp
  · rw [decide_eq_false h, decide_eq_false fun z => h (V.str.inj z)]
theorem o2_eqS : Op2 K φ rEq (.str s) (.str t) (fun x => x = .bl (decide (s = t))) := fun H v w _ r1 r2 Q q => by
  cases (show v = .str s from r1)
  cases (show w = .str t from r2)
  exact ⟨rfl, q _ _ H (Same.refl H) rfl (by rw [dec_strD]; rfl)⟩
theorem o2_neS : Op2 K φ rNe (.str s) (.str t) (fun x => x = .bl (!decide (s = t))) := fun H v w _ r1 r2 Q q => by
  cases (show v = .str s from r1)
  cases (show w = .str t from r2)
  exact ⟨rfl, q _ _ H (Same.refl H) rfl (by rw [dec_strD]; rfl)⟩
theorem ev_eqI (ha : EvD K φ J ta ρ (.int i)) (hb : EvD K φ J tb ρ (.int j)) : EvD K φ J (tOp rEq ta tb) ρ (.bl (decide (i = j))) := ev_opD ha hb o2_eqI
theorem ev_neI (ha : EvD K φ J ta ρ (.int i)) (hb : EvD K φ J tb ρ (.int j)) : EvD K φ J (tOp rNe ta tb) ρ (.bl (!decide (i = j))) := ev_opD ha hb o2_neI
theorem ev_eqB (ha : EvD K φ J ta ρ (.bl b)) (hb : EvD K φ J tb ρ (.bl c)) : EvD K φ J (tOp rEq ta tb) ρ (.bl (b == c)) := ev_opD ha hb o2_eqB
theorem ev_neB (ha : EvD K φ J ta ρ (.bl b)) (hb : EvD K φ J tb ρ (.bl c)) : EvD K φ J (tOp rNe ta tb) ρ (.bl (!(b == c))) := ev_opD ha hb o2_neB
theorem ev_eqS (ha : EvD K φ J ta ρ (.str s)) (hb : EvD K φ J tb ρ (.str t)) : EvD K φ J (tOp rEq ta tb) ρ (.bl (decide (s = t))) := ev_opD ha hb o2_eqS
theorem ev_neS (ha : EvD K φ J ta ρ (.str s)) (hb : EvD K φ J tb ρ (.str t)) : EvD K φ J (tOp rNe ta tb) ρ (.bl (!decide (s = t))) := ev_opD ha hb o2_neS

/-! ### is None -/
def isNon : D → Bool
  | .non => true
  | .raw w => decide (w = .non)
  | _ => false
def rIsN : R2 := fun x y H Q => y = .non ∧ Q (.bl (decide (x = .non))) H
def rNotN : R2 := fun x y H Q => y = .non ∧ Q (.bl (!decide (x = .non))) H
theorem op_isN1 {X : Cx} : OpR X (compareOp .Is) rIsN := op_isN
theorem op_notN1 {X : Cx} : OpR X (compareOp .IsNot) rNotN := op_notN
theorem isNon_rep : ∀ {d : D}, Rep K φ H d v → decide (v = .non) = isNon d
  | .non, h => by cases (show v = .non from h); rfl
  | .bl _, h => by cases (show v = _ from h); rfl
  | .int _, h => by cases (show v = _ from h); rfl
  | .str _, h => by cases (show v = _ from h); rfl
  | .raw w, h => by cases (show v = _ from h); rfl
  | .tup ds, h => by
    obtain ⟨a, vs, e, _⟩ := (show ∃ a vs, v = .ref a ∧ PT K φ H a vs ∧ Reps K φ H ds vs from h)
    subst e
    rfl
  | .lst ds, h => by
    obtain ⟨a, vs, e, _⟩ := (show ∃ a vs, v = .ref a ∧ PL K φ H a vs ∧ Reps K φ H ds vs from h)
    subst e
    rfl
  | .dk ks ds, h => by
    obtain ⟨a, vs, e, _⟩ := (show ∃ a vs, v = .ref a ∧ (φ a ∧ H a = some (.dK (ks.zip vs)) ∧ ks.length = ds.length) ∧ Reps K φ H ds vs from h)
    subst e
    rfl
  | .dt ks ds, h => by
    obtain ⟨a, vs, e, _⟩ := (show ∃ a vs, v = .ref a ∧ (φ a ∧ H a = some (.dT (ks.zip vs)) ∧ ks.length = ds.length) ∧ Reps K φ H ds vs from h)
    subst e
    rfl
theorem ev_isN (ha : EvD K φ J ta ρ x) : EvD K φ J (tOp rIsN ta (tC .non)) ρ (.bl (isNon x)) := ev_opD ha ev_non fun H v w _ r1 r2 Q q => ⟨r2, q _ _ H (Same.refl H) rfl (by rw [isNon_rep r1]; rfl)⟩
theorem ev_notN (ha : EvD K φ J ta ρ x) : EvD K φ J (tOp rNotN ta (tC .non)) ρ (.bl (!isNon x)) := ev_opD ha ev_non fun H v w _ r1 r2 Q q => ⟨r2, q _ _ H (Same.refl H) rfl (by rw [isNon_rep r1]; rfl)⟩

/-! ### chains, and, or, not, if-else -/
theorem ev_chain {r r' : R2} {k : Bool} (ha : EvD K φ J ta ρ x) (hb : EvD K φ J tb ρ y) (hr : Op2 K φ r x y (fun u => u = .bl k)) (hc : k = true → EvD K φ J tc ρ z) (hr' : k = true → Op2 K φ r' y z (fun u => u = .bl b)) :
    EvD K φ J (tChain r r' ta tb tc) ρ (.bl (k && b)) := fun σ H A Q q =>
  ha σ H A _ fun v x1 H1 b1 A1 e1 r1 => hb σ H1 A1 _ fun w y1 H2 b2 A2 e2 r2 => by
    subst e1 e2
    refine hr H2 v w A2.fr (r1.mono b2) r2 _ fun u z1 H3 s3 e3 r3 => ?_
    subst e3
    refine ⟨k, r3, ?_⟩
    cases k with
    | false =>
      rw [if_neg (by simp)]
      exact q _ _ H3 ((b1.trans b2).trans (But.of s3)) (A2.same s3) rfl rfl
    | true =>
      rw [if_pos rfl]
      refine hc rfl σ H3 (A2.same s3) _ fun w' z1 H4 b4 A4 e4 r4 => ?_
      subst e4
      exact hr' rfl H4 w w' A4.fr ((r2.mono (But.of s3)).mono b4) r4 Q fun u z1 H5 s5 e5 r5 => q u z1 H5 ((((b1.trans b2).trans (But.of s3)).trans b4).trans (But.of s5)) (A4.same s5) e5 r5
theorem ev_chainI {f g : Int → Int → Bool} {i j k : Int} (ha : EvD K φ J ta ρ (.int i)) (hb : EvD K φ J tb ρ (.int j)) (hc : EvD K φ J tc ρ (.int k)) :
    EvD K φ J (tChain (rI0 fun i j => .bl (f i j)) (rI0 fun i j => .bl (g i j)) ta tb tc) ρ (.bl (f i j && g j k)) := ev_chain ha hb (o2_I0 fun _ => rfl) (fun _ => hc) fun _ => o2_I0 fun _ => rfl
theorem ev_andV (ha : EvD K φ J ta ρ (.bl b)) (hb : b = true → EvD K φ J tb ρ (.bl c)) : EvD K φ J (tAndV ta tb) ρ (.bl (b && c)) := fun σ H A Q q =>
  ha σ H A _ fun v x1 H1 b1 A1 e1 r1 => by
    subst e1
    refine ⟨b, r1, ?_⟩
    cases b with
    | false =>
      rw [if_neg (by simp)]
      exact q _ _ H1 b1 A1 rfl rfl
    | true =>
      rw [if_pos rfl]
      exact hb rfl σ H1 A1 Q fun w y H2 b2 A2 e2 r2 => q w y H2 (b1.trans b2) A2 e2 r2
theorem ev_orV (ha : EvD K φ J ta ρ (.bl b)) (hb : b = false → EvD K φ J tb ρ (.bl c)) : EvD K φ J (tOrV ta tb) ρ (.bl (b || c)) := fun σ H A Q q =>
  ha σ H A _ fun v x1 H1 b1 A1 e1 r1 => by
    subst e1
    refine ⟨b, r1, ?_⟩
    cases b with
    | true =>
      rw [if_pos rfl]
      exact q _ _ H1 b1 A1 rfl rfl
    | false =>
      rw [if_neg (by simp)]
      exact hb rfl σ H1 A1 Q fun w y H2 b2 A2 e2 r2 => q w y H2 (b1.trans b2) A2 e2 r2
theorem ev_notV (ha : EvD K φ J ta ρ (.bl b)) : EvD K φ J (tNotV ta) ρ (.bl (!b)) := fun σ H A Q q =>
  ha σ H A _ fun v x1 H1 b1 A1 e1 r1 => by
    subst e1
    exact ⟨b, r1, q _ _ H1 b1 A1 rfl rfl⟩
theorem ev_one (ha : EvP K φ J ta ρ P) : EvP K φ J ta ρ P := ha
theorem ev_if {tt : TT} {p : Bool → Prop} (hc : EvT K φ J tt ρ p) (h1 : p true → EvP K φ J ta ρ P) (h2 : p false → EvP K φ J tb ρ P) : EvP K φ J (tIf tt ta tb) ρ P := fun σ H A Q q =>
  hc σ H A _ fun k H1 b1 A1 pk => by
    cases k with
    | true =>
      rw [if_pos rfl]
      exact h1 pk σ H1 A1 Q fun w y H2 b2 A2 e2 r2 => q w y H2 (b1.trans b2) A2 e2 r2
    | false =>
      rw [if_neg (by simp)]
      exact h2 pk σ H1 A1 Q fun w y H2 b2 A2 e2 r2 => q w y H2 (b1.trans b2) A2 e2 r2

/-! ### tests -/
abbrev EvX (K : PySem.W.Frag) (φ : Addr → Prop) (J : Hp → Prop) (tt : TT) (ρ : List (Option D)) (b : Bool) : Prop := EvT K φ J tt ρ fun x => x = b
theorem EvT.imp {tt : TT} {p p' : Bool → Prop} (h : EvT K φ J tt ρ p) (k : ∀ b, p b → p' b) : EvT K φ J tt ρ p' := fun σ H A Q q => h σ H A Q fun b H' bt A' pb => q b H' bt A' (k b pb)
theorem EvT.is {tt : TT} {b c : Bool} (h : EvX K φ J tt ρ b) (e : b = c) : EvX K φ J tt ρ c := e ▸ h
theorem et_testP {p : Bool → Prop} (h : EvB K φ J te ρ p) : EvT K φ J (tTest te) ρ p := fun σ H A Q q => h σ H A _ fun v d H' bt A' ⟨b, e, pb⟩ r => by
  subst e
  exact ⟨b, r, q b H' bt A' pb⟩
theorem et_BP {p : Bool → Prop} (h : EvB K φ J te ρ p) : EvT K φ J (tB te) ρ p := et_testP h
theorem ev_b (h : EvD K φ J te ρ (.bl b)) : EvB K φ J te ρ (fun x => x = b) := h.imp fun d e => ⟨b, e, rfl⟩
theorem ev_i (h : EvD K φ J te ρ (.int i)) : EvI K φ J te ρ (fun x => x = i) := h.imp fun d e => ⟨i, e, rfl⟩
theorem et_test (h : EvD K φ J te ρ (.bl b)) : EvX K φ J (tTest te) ρ b := et_testP (ev_b h)
theorem et_B (h : EvD K φ J te ρ (.bl b)) : EvX K φ J (tB te) ρ b := et_BP (ev_b h)
theorem et_and {t1 t2 : TT} (ha : EvX K φ J t1 ρ b) (hb : b = true → EvX K φ J t2 ρ c) : EvX K φ J (tAnd t1 t2) ρ (b && c) := fun σ H A Q q => ha σ H A _ fun k H1 b1 A1 e1 => by
  subst e1
  cases k with
  | false =>
    rw [if_neg (by simp)]
    exact q _ H1 b1 A1 rfl
  | true =>
    rw [if_pos rfl]
    exact hb rfl σ H1 A1 Q fun k2 H2 b2 A2 e2 => q k2 H2 (b1.trans b2) A2 e2
theorem et_or {t1 t2 : TT} (ha : EvX K φ J t1 ρ b) (hb : b = false → EvX K φ J t2 ρ c) : EvX K φ J (tOr t1 t2) ρ (b || c) := fun σ H A Q q => ha σ H A _ fun k H1 b1 A1 e1 => by
  subst e1
  cases k with
  | true =>
    rw [if_pos rfl]
    exact q _ H1 b1 A1 rfl
  | false =>
    rw [if_neg (by simp)]
    exact hb rfl σ H1 A1 Q fun k2 H2 b2 A2 e2 => q k2 H2 (b1.trans b2) A2 e2
theorem et_not {t1 : TT} (ha : EvX K φ J t1 ρ b) : EvX K φ J (tNot t1) ρ (!b) := fun σ H A Q q => ha σ H A _ fun k H1 b1 A1 e1 => by
  subst e1
  exact q _ H1 b1 A1 rfl
theorem et_notP {t1 : TT} {p : Bool → Prop} (ha : EvT K φ J t1 ρ p) : EvT K φ J (tNot t1) ρ (fun x => p (!x)) := fun σ H A Q q => ha σ H A _ fun k H1 b1 A1 e1 => q _ H1 b1 A1 (by show p (!(!k)); rw [Bool.not_not]; exact e1)

/-! ### arguments, displays -/
abbrev EvAD (K : PySem.W.Frag) (φ : Addr → Prop) (J : Hp → Prop) (ta : TA) (ρ : List (Option D)) (ds : List D) : Prop := EvA K φ J ta ρ fun x => x = ds
theorem ea_nil : EvAD K φ J tNil ρ [] := fun σ H A Q q => q [] [] H (But.refl _ _) A rfl rfl
theorem ea_consP {tr : TA} {Pr : List D → Prop} (ha : EvP K φ J ta ρ P) (hr : EvA K φ J tr ρ Pr) : EvA K φ J (tCons ta tr) ρ (fun x => ∃ d r, x = d :: r ∧ P d ∧ Pr r) := fun σ H A Q q =>
  ha σ H A _ fun v x H1 b1 A1 px r1 => hr σ H1 A1 _ fun ws ys H2 b2 A2 py r2 => q (v :: ws) (x :: ys) H2 (b1.trans b2) A2 ⟨x, ys, rfl, px, py⟩ (Reps.cons (r1.mono b2) r2)
theorem ea_cons {tr : TA} (ha : EvD K φ J ta ρ x) (hr : EvAD K φ J tr ρ ds) : EvAD K φ J (tCons ta tr) ρ (x :: ds) := fun σ H A Q q =>
  ha σ H A _ fun v y H1 b1 A1 e1 r1 => hr σ H1 A1 _ fun ws ys H2 b2 A2 e2 r2 => q (v :: ws) (y :: ys) H2 (b1.trans b2) A2 (by rw [e1, e2]) (Reps.cons (r1.mono b2) r2)
theorem sz {n : Nat} (h : n ≤ 1000000) : n ≤ sizeLine := Nat.le_trans h (by decide)
theorem szlt {n : Nat} (h : n ≤ 1000000) : n < sizeLine := Nat.lt_of_le_of_lt h (by decide)
theorem ev_tupP {ta : TA} {Pr : List D → Prop} (ha : EvA K φ J ta ρ Pr) (hl : ∀ r, Pr r → r.length ≤ 1000000) : EvP K φ J (tTup ta) ρ (fun x => ∃ r, x = .tup r ∧ Pr r) := fun σ H A Q q =>
  ha σ H A _ fun vs ds H1 b1 A1 pd r1 => ⟨by rw [r1.length]; exact sz (hl _ pd), fun p hp =>
    q _ _ _ (b1.trans (But.of (same_new hp))) (A1.same (same_new hp)) ⟨ds, rfl, pd⟩ ⟨p, vs, rfl, .inl ⟨A1.fr p hp, .inl upd_same⟩, r1.mono (But.of (same_new hp))⟩⟩
theorem ev_lstP {ta : TA} {Pr : List D → Prop} (ha : EvA K φ J ta ρ Pr) (hl : ∀ r, Pr r → r.length ≤ 1000000) : EvP K φ J (tLst ta) ρ (fun x => ∃ r, x = .lst r ∧ Pr r) := fun σ H A Q q =>
  ha σ H A _ fun vs ds H1 b1 A1 pd r1 => ⟨by rw [r1.length]; exact sz (hl _ pd), fun p hp =>
    q _ _ _ (b1.trans (But.of (same_new hp))) (A1.same (same_new hp)) ⟨ds, rfl, pd⟩ ⟨p, vs, rfl, .inl ⟨A1.fr p hp, .inl upd_same⟩, r1.mono (But.of (same_new hp))⟩⟩
theorem ev_tup {ta : TA} (ha : EvAD K φ J ta ρ ds) (hl : ds.length ≤ 1000000 := by first | exact Nat.le_of_ble_eq_true rfl | decide) : EvD K φ J (tTup ta) ρ (.tup ds) := (ev_tupP ha fun r e => by rw [e]; exact hl).imp fun x ⟨r, e, e2⟩ => by rw [e, e2]
theorem ev_lst {ta : TA} (ha : EvAD K φ J ta ρ ds) (hl : ds.length ≤ 1000000 := by first | exact Nat.le_of_ble_eq_true rfl | decide) : EvD K φ J (tLst ta) ρ (.lst ds) := (ev_lstP ha fun r e => by rw [e]; exact hl).imp fun x ⟨r, e, e2⟩ => by rw [e, e2]

/-! ### subscripts -/
theorem Reps.atI {i : Int} (h : Reps K φ H ds vs) (e : L2.atI ds i = some d) : ∃ v, L2.atI vs i = some v ∧ Rep K φ H d v := by
  unfold L2.atI at e ⊢
  rw [h.length]
  cases hj : ixN ds.length i with
  | none => rw [hj] at e; cases e
  | some j =>
    rw [hj] at e
    exact h.get e
theorem rep_tup (h : Rep K φ H (.tup ds) v) : ∃ a vs, v = .ref a ∧ PT K φ H a vs ∧ Reps K φ H ds vs := h
theorem rep_lst (h : Rep K φ H (.lst ds) v) : ∃ a vs, v = .ref a ∧ PL K φ H a vs ∧ Reps K φ H ds vs := h
theorem o2_ixT (e : L2.atI ds i = some d) : Op2 K φ (rIxT K) (.tup ds) (.int i) (fun x => x = d) := fun H v w _ r1 r2 Q q => by
  obtain ⟨a, vs, rfl, p, r⟩ := rep_tup r1
  obtain ⟨u, e1, r3⟩ := r.atI e
  exact ⟨a, vs, i, u, rfl, r2, p.sq, e1, q u d H (Same.refl H) rfl r3⟩
theorem o2_ixL (e : L2.atI ds i = some d) : Op2 K φ (rIxL K) (.lst ds) (.int i) (fun x => x = d) := fun H v w _ r1 r2 Q q => by
  obtain ⟨a, vs, rfl, p, r⟩ := rep_lst r1
  obtain ⟨u, e1, r3⟩ := r.atI e
  exact ⟨a, vs, i, u, rfl, r2, p.sq, e1, q u d H (Same.refl H) rfl r3⟩
theorem ev_ixT (ha : EvD K φ J ta ρ (.tup ds)) (hb : EvD K φ J tb ρ (.int i)) (e : L2.atI ds i = some d) : EvD K φ J (tOp (rIxT K) ta tb) ρ d := ev_opD ha hb (o2_ixT e)
theorem ev_ixL (ha : EvD K φ J ta ρ (.lst ds)) (hb : EvD K φ J tb ρ (.int i)) (e : L2.atI ds i = some d) : EvD K φ J (tOp (rIxL K) ta tb) ρ d := ev_opD ha hb (o2_ixL e)
theorem ev_ixTP (ha : EvP K φ J ta ρ Pa) (hb : EvI K φ J tb ρ p) (e : ∀ x i, Pa x → p i → ∃ ds d, x = .tup ds ∧ L2.atI ds i = some d ∧ P d) : EvP K φ J (tOp (rIxT K) ta tb) ρ P := ev_op ha hb fun x y px ⟨i, e1, pi⟩ => by
  obtain ⟨ds, d, e2, e3, pd⟩ := e x i px pi
  subst e1 e2
  exact fun H v w f r1 r2 Q q => o2_ixT e3 H v w f r1 r2 Q fun u z H' s ez r => q u z H' s (ez ▸ pd) r
theorem ev_ixLP (ha : EvP K φ J ta ρ Pa) (hb : EvI K φ J tb ρ p) (e : ∀ x i, Pa x → p i → ∃ ds d, x = .lst ds ∧ L2.atI ds i = some d ∧ P d) : EvP K φ J (tOp (rIxL K) ta tb) ρ P := ev_op ha hb fun x y px ⟨i, e1, pi⟩ => by
  obtain ⟨ds, d, e2, e3, pd⟩ := e x i px pi
  subst e1 e2
  exact fun H v w f r1 r2 Q q => o2_ixL e3 H v w f r1 r2 Q fun u z H' s ez r => q u z H' s (ez ▸ pd) r

/-! ### slices -/
def cutD {α : Type} (xs : List α) (lo hi : Option Int) : List α := (xs.drop (HT.sIx xs.length 0 lo)).take (HT.sIx xs.length xs.length hi - HT.sIx xs.length 0 lo)
theorem Reps.cut (h : Reps K φ H ds vs) (lo hi : Option Int) : Reps K φ H (cutD ds lo hi) (cutV vs lo hi) := by
  unfold cutD cutV
  rw [h.length]
  exact (h.drop _).take _
theorem cutD_length {α : Type} (xs : List α) (lo hi : Option Int) : (cutD xs lo hi).length ≤ xs.length := by
  unfold cutD
  rw [List.length_take, List.length_drop]
  omega
theorem eo_none : EvO K φ J tNoPart ρ none := fun σ H A Q q => q H (But.refl _ _) A
theorem eo_some (h : EvD K φ J te ρ (.int i)) : EvO K φ J (tPart te) ρ (some i) := fun σ H A Q q => h σ H A _ fun v d H' bt A' e r => by
  subst e
  exact ⟨i, r, q H' bt A'⟩
theorem ev_slL {tl th : TO} {lo hi : Option Int} (ha : EvD K φ J te ρ (.lst ds)) (hl : EvO K φ J tl ρ lo) (hh : EvO K φ J th ρ hi) : EvD K φ J (tSl (rSlL K) te tl th) ρ (.lst (cutD ds lo hi)) := fun σ H A Q q =>
  ha σ H A _ fun v x H1 b1 A1 e1 r1 => hl σ H1 A1 _ fun H2 b2 A2 => hh σ H2 A2 _ fun H3 b3 A3 => by
    subst e1
    obtain ⟨a, vs, rfl, pl, rs⟩ := rep_lst ((r1.mono b2).mono b3)
    exact ⟨a, vs, rfl, pl.sq, fun p hp => q _ _ _ (((b1.trans b2).trans b3).trans (But.of (same_new hp))) (A3.same (same_new hp)) rfl ⟨p, _, rfl, .inl ⟨A3.fr p hp, .inl upd_same⟩, (rs.mono (But.of (same_new hp))).cut lo hi⟩⟩
theorem take_all {α : Type} {xs : List α} {lo hi : Option Int} (h : HT.sIx xs.length 0 lo = 0 ∧ HT.sIx xs.length xs.length hi = xs.length) : cutD xs lo hi = xs := by
  unfold cutD
  rw [h.1, h.2, List.drop_zero, Nat.sub_zero, List.take_length]
theorem ev_slT {tl th : TO} {lo hi : Option Int} (ha : EvD K φ J te ρ (.tup ds)) (hl : EvO K φ J tl ρ lo) (hh : EvO K φ J th ρ hi) : EvD K φ J (tSl (rSlA K) te tl th) ρ (.tup (cutD ds lo hi)) := fun σ H A Q q =>
  ha σ H A _ fun v x H1 b1 A1 e1 r1 => hl σ H1 A1 _ fun H2 b2 A2 => hh σ H2 A2 _ fun H3 b3 A3 => by
    subst e1
    obtain ⟨a, vs, rfl, pl, rs⟩ := rep_tup ((r1.mono b2).mono b3)
    refine ⟨a, vs, rfl, pl.sq, fun hw => ?_, fun _ p hp => q _ _ _ (((b1.trans b2).trans b3).trans (But.of (same_new hp))) (A3.same (same_new hp)) rfl ⟨p, _, rfl, .inl ⟨A3.fr p hp, .inl upd_same⟩, (rs.mono (But.of (same_new hp))).cut lo hi⟩⟩
    rw [rs.length] at hw
    exact q _ _ _ ((b1.trans b2).trans b3) A3 rfl ⟨a, vs, rfl, pl, by rw [take_all hw]; exact rs⟩

/-! ### tuple + tuple, list + list -/
theorem o2_catT {es : List D} (hz : ds.length + es.length ≤ 1000000) : Op2 K φ (rCatA K) (.tup ds) (.tup es) (fun x => x = .tup (ds ++ es)) := fun H v w f r1 r2 Q q => by
  obtain ⟨a, vs, rfl, pa, ra⟩ := rep_tup r1
  obtain ⟨b, ws, rfl, pb, rb⟩ := rep_tup r2
  refine ⟨a, b, vs, ws, rfl, rfl, pa.sq, pb.sq, by rw [ra.length, rb.length]; exact sz hz, fun e => ?_, fun _ e => ?_, fun _ _ p hp => ?_⟩
  · subst e
    have e0 : ds = [] := List.eq_nil_of_length_eq_zero ra.length.symm
    subst e0
    exact q _ _ H (Same.refl H) rfl ⟨b, ws, rfl, pb, rb⟩
  · subst e
    have e0 : es = [] := List.eq_nil_of_length_eq_zero rb.length.symm
    subst e0
    exact q _ _ H (Same.refl H) rfl ⟨a, vs, rfl, pa, by rw [List.append_nil]; exact ra⟩
  · exact q _ _ _ (same_new hp) rfl ⟨p, _, rfl, .inl ⟨f p hp, .inl upd_same⟩, (ra.append rb).mono (But.of (same_new hp))⟩
theorem ev_catT (ha : EvD K φ J ta ρ (.tup ds)) (hb : EvD K φ J tb ρ (.tup es)) (hz : ds.length + es.length ≤ 1000000) : EvD K φ J (tOp (rCatA K) ta tb) ρ (.tup (ds ++ es)) := ev_opD ha hb (o2_catT hz)

/-! ### calls of built-ins -/
theorem ev_cb {ta : TA} {r : List V → Hp → VK → Prop} {Pr : List D → Prop} (ha : EvA K φ J ta ρ Pr) (hr : ∀ ds, Pr ds → Cl K φ r ds P) : EvP K φ J (tCB r ta) ρ P := fun σ H A Q q =>
  ha σ H A _ fun vs ds H1 b1 A1 pd r1 => hr ds pd H1 vs A1.fr r1 Q fun u z H2 s pz r2 => q u z H2 (b1.trans (But.of s)) (A1.same s) pz r2
theorem ev_cbD {ta : TA} {r : List V → Hp → VK → Prop} (ha : EvAD K φ J ta ρ ds) (hr : Cl K φ r ds P) : EvP K φ J (tCB r ta) ρ P := ev_cb ha fun ds' e => e ▸ hr
theorem Reps.one (h : Reps K φ H [d] vs) : ∃ v, vs = [v] ∧ Rep K φ H d v := by
  obtain ⟨v, r, rfl, h1, h2⟩ := (show ∃ v r, vs = v :: r ∧ Rep K φ H d v ∧ Reps K φ H [] r from h)
  have e : r = [] := h2
  subst e
  exact ⟨v, rfl, h1⟩
theorem Reps.two (h : Reps K φ H [d, x] vs) : ∃ v w, vs = [v, w] ∧ Rep K φ H d v ∧ Rep K φ H x w := by
  obtain ⟨v, r, rfl, h1, h2⟩ := (show ∃ v r, vs = v :: r ∧ Rep K φ H d v ∧ Reps K φ H [x] r from h)
  obtain ⟨w, rfl, h3⟩ := h2.one
  exact ⟨v, w, rfl, h1, h3⟩
def rLen (K : PySem.W.Frag) : List V → Hp → VK → Prop := fun xs H Q => ∃ p ys, xs = [.ref p] ∧ (SqL K H p ys ∨ SqT K H p ys) ∧ Q (.int ys.length) H
theorem c_len {X : Cx} : CallR X (.builtin "len") (rLen X.K) := call_len_seq
theorem cl_lenL : Cl K φ (rLen K) [.lst ds] (fun x => x = .int ds.length) := fun H vs f r Q q => by
  obtain ⟨v, rfl, r1⟩ := r.one
  obtain ⟨a, vs, rfl, p, rs⟩ := rep_lst r1
  exact ⟨a, vs, rfl, .inl p.sq, q _ _ H (Same.refl H) rfl (by rw [rs.length]; rfl)⟩
theorem cl_lenT : Cl K φ (rLen K) [.tup ds] (fun x => x = .int ds.length) := fun H vs f r Q q => by
  obtain ⟨v, rfl, r1⟩ := r.one
  obtain ⟨a, vs, rfl, p, rs⟩ := rep_tup r1
  exact ⟨a, vs, rfl, .inr p.sq, q _ _ H (Same.refl H) rfl (by rw [rs.length]; rfl)⟩
theorem ev_lenL (ha : EvD K φ J te ρ (.lst ds)) : EvD K φ J (tCB (rLen K) (tCons te tNil)) ρ (.int ds.length) := ev_cbD (ea_cons ha ea_nil) cl_lenL
theorem ev_lenT (ha : EvD K φ J te ρ (.tup ds)) : EvD K φ J (tCB (rLen K) (tCons te tNil)) ρ (.int ds.length) := ev_cbD (ea_cons ha ea_nil) cl_lenT
def rLenS : List V → Hp → VK → Prop := fun xs H Q => ∃ z, xs = [.str z] ∧ z.length ≤ sizeLine ∧ Q (.int z.length) H
theorem c_lenS {X : Cx} : CallR X (.builtin "len") rLenS := call_len_str
theorem ev_lenS (ha : EvD K φ J te ρ (.str s)) (hz : s.length ≤ 1000000) : EvD K φ J (tCB rLenS (tCons te tNil)) ρ (.int s.length) := ev_cbD (ea_cons ha ea_nil) fun H vs f r Q q => by
  obtain ⟨v, rfl, r1⟩ := r.one
  cases (show v = _ from r1)
  exact ⟨s, rfl, sz hz, q _ _ H (Same.refl H) rfl rfl⟩
def rInt1 : List V → Hp → VK → Prop := fun xs H Q => (∃ i, xs = [.int i] ∧ Q (.int i) H) ∨ ∃ k, xs = [.bl k] ∧ Q (.int (if k then 1 else 0)) H
theorem c_int1 {X : Cx} : CallR X (.type "int") rInt1 := call_int1
theorem cl_intI : Cl K φ rInt1 [.int i] (fun x => x = .int i) := fun H vs f r Q q => by
  obtain ⟨v, rfl, r1⟩ := r.one
  cases (show v = _ from r1)
  exact .inl ⟨i, rfl, q _ _ H (Same.refl H) rfl rfl⟩
theorem cl_intB : Cl K φ rInt1 [.bl b] (fun x => x = .int (if b then 1 else 0)) := fun H vs f r Q q => by
  obtain ⟨v, rfl, r1⟩ := r.one
  cases (show v = _ from r1)
  exact .inr ⟨b, rfl, q _ _ H (Same.refl H) rfl rfl⟩
theorem ev_intI (ha : EvD K φ J te ρ (.int i)) : EvD K φ J (tCB rInt1 (tCons te tNil)) ρ (.int i) := ev_cbD (ea_cons ha ea_nil) cl_intI
theorem ev_intB (ha : EvD K φ J te ρ (.bl b)) : EvD K φ J (tCB rInt1 (tCons te tNil)) ρ (.int (if b then 1 else 0)) := ev_cbD (ea_cons ha ea_nil) cl_intB
def rStrI : List V → Hp → VK → Prop := fun xs H Q => ∃ i, xs = [.int i] ∧ i.natAbs.log2 < 1920 ∧ Q (.str (toString i)) H
theorem c_strI {X : Cx} : CallR X (.type "str") rStrI := call_str_int
theorem ev_strI (ha : EvD K φ J te ρ (.int i)) (hz : i.natAbs.log2 < 1920) : EvD K φ J (tCB rStrI (tCons te tNil)) ρ (.str (toString i)) := ev_cbD (ea_cons ha ea_nil) fun H vs f r Q q => by
  obtain ⟨v, rfl, r1⟩ := r.one
  cases (show v = _ from r1)
  exact ⟨i, rfl, hz, q _ _ H (Same.refl H) rfl rfl⟩
def rListOf (K : PySem.W.Frag) : List V → Hp → VK → Prop := fun xs H Q => ∃ p ys, xs = [.ref p] ∧ (SqL K H p ys ∨ SqT K H p ys) ∧ ∀ l, H l = none → Q (.ref l) (upd H l (.lst ys))
theorem c_listOf {X : Cx} : CallR X (.type "list") (rListOf X.K) := call_list_of
theorem ev_listL (ha : EvD K φ J te ρ (.lst ds)) : EvD K φ J (tCB (rListOf K) (tCons te tNil)) ρ (.lst ds) := ev_cbD (ea_cons ha ea_nil) fun H vs f r Q q => by
  obtain ⟨v, rfl, r1⟩ := r.one
  obtain ⟨a, vs, rfl, p, rs⟩ := rep_lst r1
  exact ⟨a, vs, rfl, .inl p.sq, fun l hl => q _ _ _ (same_new hl) rfl ⟨l, vs, rfl, .inl ⟨f l hl, .inl upd_same⟩, rs.mono (But.of (same_new hl))⟩⟩
theorem ev_listT (ha : EvD K φ J te ρ (.tup ds)) : EvD K φ J (tCB (rListOf K) (tCons te tNil)) ρ (.lst ds) := ev_cbD (ea_cons ha ea_nil) fun H vs f r Q q => by
  obtain ⟨v, rfl, r1⟩ := r.one
  obtain ⟨a, vs, rfl, p, rs⟩ := rep_tup r1
  exact ⟨a, vs, rfl, .inr p.sq, fun l hl => q _ _ _ (same_new hl) rfl ⟨l, vs, rfl, .inl ⟨f l hl, .inl upd_same⟩, rs.mono (But.of (same_new hl))⟩⟩
def rTupOf (K : PySem.W.Frag) : List V → Hp → VK → Prop := fun xs H Q => ∃ p ys, xs = [.ref p] ∧ ((SqL K H p ys ∧ ∀ l, H l = none → Q (.ref l) (upd H l (.tup ys))) ∨ (SqT K H p ys ∧ Q (.ref p) H))
theorem c_tupOf {X : Cx} : CallR X (.type "tuple") (rTupOf X.K) := call_tuple_of
theorem cl_tupL : Cl K φ (rTupOf K) [.lst ds] (fun x => x = .tup ds) := fun H vs f r Q q => by
  obtain ⟨v, rfl, r1⟩ := r.one
  obtain ⟨a, vs, rfl, p, rs⟩ := rep_lst r1
  exact ⟨a, vs, rfl, .inl ⟨p.sq, fun l hl => q _ _ _ (same_new hl) rfl ⟨l, vs, rfl, .inl ⟨f l hl, .inl upd_same⟩, rs.mono (But.of (same_new hl))⟩⟩⟩
theorem ev_tupL (ha : EvD K φ J te ρ (.lst ds)) : EvD K φ J (tCB (rTupOf K) (tCons te tNil)) ρ (.tup ds) := ev_cbD (ea_cons ha ea_nil) cl_tupL
theorem ev_tupT (ha : EvD K φ J te ρ (.tup ds)) : EvD K φ J (tCB (rTupOf K) (tCons te tNil)) ρ (.tup ds) := ev_cbD (ea_cons ha ea_nil) fun H vs f r Q q => by
  obtain ⟨v, rfl, r1⟩ := r.one
  obtain ⟨a, vs, rfl, p, rs⟩ := rep_tup r1
  exact ⟨a, vs, rfl, .inr ⟨p.sq, q _ _ H (Same.refl H) rfl ⟨a, vs, rfl, p, rs⟩⟩⟩
def rAbs : List V → Hp → VK → Prop := fun xs H Q => ∃ i, xs = [.int i] ∧ Q (.int (if i < 0 then -i else i)) H
theorem c_abs {X : Cx} : CallR X (.builtin "abs") rAbs := call_abs
theorem abs_if (i : Int) : (if i < 0 then -i else i) = (i.natAbs : Int) := by split <;> omega
theorem ev_abs (ha : EvD K φ J te ρ (.int i)) : EvD K φ J (tCB rAbs (tCons te tNil)) ρ (.int (i.natAbs : Int)) := ev_cbD (ea_cons ha ea_nil) fun H vs f r Q q => by
  obtain ⟨v, rfl, r1⟩ := r.one
  cases (show v = _ from r1)
  exact ⟨i, rfl, q _ _ H (Same.refl H) rfl (by rw [abs_if]; rfl)⟩
def rMax2 : List V → Hp → VK → Prop := fun xs H Q => ∃ i j, xs = [.int i, .int j] ∧ Q (.int (if j > i then j else i)) H
def rMin2 : List V → Hp → VK → Prop := fun xs H Q => ∃ i j, xs = [.int i, .int j] ∧ Q (.int (if j < i then j else i)) H
theorem c_max2 {X : Cx} (hc : X.calm = true := by rfl) : CallR X (.builtin "max") rMax2 := call_max2 hc
theorem c_min2 {X : Cx} (hc : X.calm = true := by rfl) : CallR X (.builtin "min") rMin2 := call_min2 hc
theorem max_if (i j : Int) : (if j > i then j else i) = max i j := by split <;> omega
theorem min_if (i j : Int) : (if j < i then j else i) = min i j := by split <;> omega
theorem ev_max2 (ha : EvD K φ J ta ρ (.int i)) (hb : EvD K φ J tb ρ (.int j)) : EvD K φ J (tCB rMax2 (tCons ta (tCons tb tNil))) ρ (.int (max i j)) := ev_cbD (ea_cons ha (ea_cons hb ea_nil)) fun H vs f r Q q => by
  obtain ⟨v, w, rfl, r1, r2⟩ := r.two
  cases (show v = _ from r1)
  cases (show w = _ from r2)
  exact ⟨i, j, rfl, q _ _ H (Same.refl H) rfl (by rw [max_if]; rfl)⟩
theorem ev_min2 (ha : EvD K φ J ta ρ (.int i)) (hb : EvD K φ J tb ρ (.int j)) : EvD K φ J (tCB rMin2 (tCons ta (tCons tb tNil))) ρ (.int (min i j)) := ev_cbD (ea_cons ha (ea_cons hb ea_nil)) fun H vs f r Q q => by
  obtain ⟨v, w, rfl, r1, r2⟩ := r.two
  cases (show v = _ from r1)
  cases (show w = _ from r2)
  exact ⟨i, j, rfl, q _ _ H (Same.refl H) rfl (by rw [min_if]; rfl)⟩
theorem rep_ints {ns : List Int} (h : Rep K φ H (.lst (ns.map D.int)) v) : ∃ a, v = .ref a ∧ SqL K H a (ns.map V.int) := by
  obtain ⟨a, vs, rfl, p, r⟩ := rep_lst h
  exact ⟨a, rfl, r.ints ▸ p.sq⟩
theorem c_sum {X : Cx} (hc : X.calm = true := by rfl) : CallR X (.builtin "sum") (rSum X.K) := cr_sum hc
theorem ev_sum {ns : List Int} (ha : EvD K φ J te ρ (.lst (ns.map D.int))) : EvD K φ J (tCB (rSum K) (tCons te tNil)) ρ (.int ns.sum) := ev_cbD (ea_cons ha ea_nil) fun H vs f r Q q => by
  obtain ⟨v, rfl, r1⟩ := r.one
  obtain ⟨a, rfl, h⟩ := rep_ints r1
  exact ⟨a, ns, rfl, h, q _ _ H (Same.refl H) rfl rfl⟩
def rGcd1 : List V → Hp → VK → Prop := rGcd
theorem ev_gcd (ha : EvD K φ J ta ρ (.int i)) (hb : EvD K φ J tb ρ (.int j)) : EvD K φ J (tCB rGcd (tCons ta (tCons tb tNil))) ρ (.int ((Nat.gcd i.natAbs j.natAbs : Nat) : Int)) := ev_cbD (ea_cons ha (ea_cons hb ea_nil)) fun H vs f r Q q => by
  obtain ⟨v, w, rfl, r1, r2⟩ := r.two
  cases (show v = _ from r1)
  cases (show w = _ from r2)
  exact ⟨i, j, rfl, q _ _ H (Same.refl H) rfl rfl⟩

/-! ### isinstance -/
def tyD : D → String
  | .non => "NoneType"
  | .bl _ => "bool"
  | .int _ => "int"
  | .str _ => "str"
  | .tup _ => "tuple"
  | .lst _ => "list"
  | .raw _ => "?"
  | .dk _ _ => "dict"
  | .dt _ _ => "dict"
def isRaw : D → Bool
  | .raw _ => true
  | _ => false
theorem tyx_rep : ∀ {d : D}, Rep K φ H d v → isRaw d = false → TyX K H v (.type (tyD d))
  | .non, h, _ => by cases (show v = _ from h); exact .base .non
  | .bl b, h, _ => by cases (show v = _ from h); exact .base (.bl b)
  | .int b, h, _ => by cases (show v = _ from h); exact .base (.int b)
  | .str b, h, _ => by cases (show v = _ from h); exact .base (.str b)
  | .raw w, _, e => by cases e
  | .tup ds, h, _ => by
    obtain ⟨a, vs, rfl, p, _⟩ := rep_tup h
    exact .base (.tup p.at.2)
  | .dk ks ds, h, _ => by
    obtain ⟨a, vs, rfl, ⟨_, e, _⟩, _⟩ := (show ∃ a vs, v = .ref a ∧ (φ a ∧ H a = some (.dK (ks.zip vs)) ∧ ks.length = ds.length) ∧ Reps K φ H ds vs from h)
    exact .base (.dK e)
  | .dt ks ds, h, _ => by
    obtain ⟨a, vs, rfl, ⟨_, e, _⟩, _⟩ := (show ∃ a vs, v = .ref a ∧ (φ a ∧ H a = some (.dT (ks.zip vs)) ∧ ks.length = ds.length) ∧ Reps K φ H ds vs from h)
    exact .base (.dT e)
  | .lst ds, h, _ => by
    obtain ⟨a, vs, rfl, p, _⟩ := rep_lst h
    rcases p with ⟨_, p⟩ | ⟨o, its, n, hk, hc, _⟩
    · rcases p with p | ⟨o, p⟩
      · exact .base (.lst p)
      · exact .base (.frz p)
    · exact .kList hk hc
def isT (n : String) (d : D) : Bool := tyD d == n || (n == "int" && tyD d == "bool")
theorem kit_tab : ∀ t ∈ (["NoneType", "bool", "int", "str", "tuple", "list", "dict"] : List String), ∀ n ∈ (["tuple", "list", "bool", "int", "str", "dict"] : List String), kitB t n = some (t == n || (n == "int" && t == "bool")) := by decide +kernel
theorem ty_mem {d : D} (h : isRaw d = false) : tyD d ∈ (["NoneType", "bool", "int", "str", "tuple", "list", "dict"] : List String) := by
  cases d <;> first | (cases h; done) | simp [tyD]
theorem kit_all {d : D} {n : String} (hn : n ∈ (["tuple", "list", "bool", "int", "str", "dict"] : List String)) (h : isRaw d = false) : kitB (tyD d) n = some (isT n d) := kit_tab _ (ty_mem h) n hn
theorem ev_isi {n : String} (ha : EvD K φ J ta ρ x) (hb : EvD K φ J tb ρ (.raw (.ty n))) (hx : isRaw x = false) (hn : n ∈ (["tuple", "list", "bool", "int", "str", "dict"] : List String) := by simp) : EvD K φ J (tCB (rIsi K) (tCons ta (tCons tb tNil))) ρ (.bl (isT n x)) := ev_cbD (ea_cons ha (ea_cons hb ea_nil)) fun H vs f r Q q => by
  obtain ⟨v, w, rfl, r1, r2⟩ := r.two
  cases (show w = _ from r2)
  exact ⟨v, _, _, _, _, rfl, .ty n, tyx_rep r1 hx, kit_ty (kit_all hn hx), q _ _ H (Same.refl H) rfl rfl⟩
end
end DL
namespace DL
open PySem PySem.Spec PyProof.Rows L2

/-! ### the pool of draws -/
def PoolOk (p s : Addr) (ns : List Int) (H : Hp) : Prop := ∃ at_ cur cnt salt : Int, H p = some (.lst [.ref s, .int at_, .int cur, .int cnt, .int salt]) ∧ H s = some (.lst (ns.map V.int)) ∧ 0 ≤ at_
def ButP (p : Addr) (H H' : Hp) : Prop := ∀ a o, a ≠ p → H a = some o → H' a = some o
structure Pooled (φ : Addr → Prop) (J : Hp → Prop) (p s : Addr) (ns : List Int) : Prop where
  np : ¬ φ p
  ne : s ≠ p
  ok : ∀ H, J H → PoolOk p s ns H
  st : ∀ H H', J H → ButP p H H' → PoolOk p s ns H' → J H'
structure Ext (φ : Addr → Prop) (J : Hp → Prop) (φ' : Addr → Prop) (J' : Hp → Prop) : Prop where
  imp : ∀ H, J' H → J H
  pool : ∀ p s ns, Pooled φ J p s ns → Pooled φ' J' p s ns
  keep : ∀ a, φ a → (∀ H, J H → H a ≠ none) → φ' a
theorem Ext.refl {φ : Addr → Prop} {J : Hp → Prop} : Ext φ J φ J := ⟨fun _ h => h, fun _ _ _ h => h, fun _ p _ => p⟩
theorem Ext.trans {φ φ1 φ2 : Addr → Prop} {J J1 J2 : Hp → Prop} (a : Ext φ J φ1 J1) (b : Ext φ1 J1 φ2 J2) : Ext φ J φ2 J2 := ⟨fun H h => a.imp H (b.imp H h), fun p s ns h => b.pool p s ns (a.pool p s ns h), fun x p h => b.keep x (a.keep x p h) fun H j => h H (a.imp H j)⟩

/-! ### walks -/
def Walks (K : PySem.W.Frag) (φ : Addr → Prop) (J0 : It) (H : Hp) (ds : List D) : Prop := ∀ (φ' : Addr → Prop) (i : Nat) (H1 : Hp), Up φ φ' H H1 → Frm φ' H1 →
  (∀ d, ds[i]? = some d → J0.go i H1 ∧ ∀ x H2, J0.yld i H1 x H2 → Same H1 H2 ∧ Rep K φ' H2 d x) ∧ (i = ds.length → J0.stop i H1)
def IterP (K : PySem.W.Frag) (φ : Addr → Prop) (J : Hp → Prop) (wi : TI) (ρ : List (Option D)) (P : List D → Prop) : Prop := ∀ σ H, At K φ J ρ σ H → ∀ R : It → Hp → Prop, (∀ J0 ds H', But φ H H' → At K φ J ρ σ H' → P ds → Walks K φ J0 H' ds → R J0 H') → wi σ H R
abbrev IterD (K : PySem.W.Frag) (φ : Addr → Prop) (J : Hp → Prop) (wi : TI) (ρ : List (Option D)) (ds : List D) : Prop := IterP K φ J wi ρ fun x => x = ds
section
variable {K : PySem.W.Frag} {φ φ' : Addr → Prop} {J J' : Hp → Prop} {H H' H1 : Hp} {ρ ρ' : List (Option D)} {σ : L2.St} {ta tb te tc : TE} {x y z d : D} {P Pa Pb Pc : D → Prop} {i j : Int} {b c : Bool} {s t : Str} {ds es : List D} {v : V} {vs : List V} {a : Addr}
theorem IterP.imp {wi : TI} {P P' : List D → Prop} (h : IterP K φ J wi ρ P) (k : ∀ ds, P ds → P' ds) : IterP K φ J wi ρ P' := fun σ H A R q => h σ H A R fun J0 ds H' bt A' pd w => q J0 ds H' bt A' (k ds pd) w
theorem walks_list (p : PL K φ H a vs) (r : Reps K φ H ds vs) : Walks K φ (Itl K a) H ds := fun φ' i H1 u f => by
  have p1 := p.up u
  have r1 := Reps.up u ds vs r
  refine ⟨fun d hd => ?_, fun hi => ⟨vs, p1.sq, by rw [r1.length]; exact Nat.le_of_eq hi.symm⟩⟩
  obtain ⟨w, e, rw'⟩ := r1.get hd
  refine ⟨⟨vs, w, p1.sq, e⟩, fun x H2 hy => ?_⟩
  obtain ⟨rfl, hx⟩ := hy
  have e2 := hx vs p1.sq
  rw [e] at e2
  cases e2
  exact ⟨Same.refl _, rw'⟩
theorem walks_tup (p : PT K φ H a vs) (r : Reps K φ H ds vs) : Walks K φ (Itt K a) H ds := fun φ' i H1 u f => by
  have p1 := p.up u
  have r1 := Reps.up u ds vs r
  refine ⟨fun d hd => ?_, fun hi => ⟨vs, p1.sq, by rw [r1.length]; exact Nat.le_of_eq hi.symm⟩⟩
  obtain ⟨w, e, rw'⟩ := r1.get hd
  refine ⟨⟨vs, w, p1.sq, e⟩, fun x H2 hy => ?_⟩
  obtain ⟨rfl, hx⟩ := hy
  have e2 := hx vs p1.sq
  rw [e] at e2
  cases e2
  exact ⟨Same.refl _, rw'⟩
theorem it_list (h : EvD K φ J te ρ (.lst ds)) : IterD K φ J (iList K te) ρ ds := fun σ H A R q => h σ H A _ fun v d H1 b1 A1 e r => by
  subst e
  obtain ⟨a, vs, rfl, p, rs⟩ := rep_lst r
  exact ⟨a, rfl, ⟨vs, p.sq⟩, q _ ds H1 b1 A1 rfl (walks_list p rs)⟩
theorem it_listP {P : List D → Prop} (h : EvP K φ J te ρ (fun z => ∃ ds, z = .lst ds ∧ P ds)) : IterP K φ J (iList K te) ρ P := fun σ H A R q => h σ H A _ fun v d H1 b1 A1 ⟨ds, e, pd⟩ r => by
  subst e
  obtain ⟨a, vs, rfl, p, rs⟩ := rep_lst r
  exact ⟨a, rfl, ⟨vs, p.sq⟩, q _ ds H1 b1 A1 pd (walks_list p rs)⟩
theorem it_tup (h : EvD K φ J te ρ (.tup ds)) : IterD K φ J (iTup K te) ρ ds := fun σ H A R q => h σ H A _ fun v d H1 b1 A1 e r => by
  subst e
  obtain ⟨a, vs, rfl, p, rs⟩ := rep_tup r
  exact ⟨a, rfl, ⟨vs, p.sq⟩, q _ ds H1 b1 A1 rfl (walks_tup p rs)⟩
def rangeD (lo : Int) (n : Nat) : List D := (List.range n).map fun i => .int (lo + (i : Nat))
theorem rangeD_length {lo : Int} {n : Nat} : (rangeD lo n).length = n := by unfold rangeD; rw [List.length_map, List.length_range]
theorem rangeD_get {lo : Int} {n i : Nat} : (rangeD lo n)[i]? = if i < n then some (.int (lo + i)) else none := by
  unfold rangeD
  rw [List.getElem?_map]
  by_cases h : i < n
  · rw [List.getElem?_range h, if_pos h]
    rfl
  · rw [if_neg h, List.getElem?_eq_none (by rw [List.length_range]; omega)]
    rfl
theorem walks_range {lo : Int} {n : Nat} : Walks K φ (Itr lo n) H (rangeD lo n) := fun φ' i H1 u f => by
  refine ⟨fun d hd => ?_, fun hi => by rw [rangeD_length] at hi; exact Nat.le_of_eq hi.symm⟩
  rw [rangeD_get] at hd
  by_cases h : i < n
  · rw [if_pos h] at hd
    cases hd
    refine ⟨h, fun x H2 hy => ?_⟩
    obtain ⟨rfl, rfl⟩ := hy
    exact ⟨Same.refl _, rfl⟩
  · rw [if_neg h] at hd
    cases hd
theorem it_range1P {ta : TA} {p : Int → Prop} (h : EvA K φ J ta ρ (fun x => ∃ n, x = [.int n] ∧ p n)) (hn : ∀ n, p n → -(2 ^ 62) ≤ n ∧ n < 2 ^ 62) : IterP K φ J (iRng1 ta) ρ (fun x => ∃ n, p n ∧ x = rangeD 0 n.toNat) := fun σ H A R q => h σ H A _ fun vs ds H1 b1 A1 ⟨n, e, pn⟩ r => by
  subst e
  obtain ⟨v, rfl, r1⟩ := r.one
  cases (show v = _ from r1)
  exact ⟨n, rfl, (hn n pn).1, (hn n pn).2, q _ _ H1 b1 A1 ⟨n, pn, rfl⟩ walks_range⟩
theorem it_range1 {ta : TA} {n : Int} (h : EvAD K φ J ta ρ [.int n]) (hn : -(2 ^ 62) ≤ n ∧ n < 2 ^ 62) : IterD K φ J (iRng1 ta) ρ (rangeD 0 n.toNat) := fun σ H A R q => h σ H A _ fun vs ds H1 b1 A1 e r => by
  subst e
  obtain ⟨v, rfl, r1⟩ := r.one
  cases (show v = _ from r1)
  exact ⟨n, rfl, hn.1, hn.2, q _ _ H1 b1 A1 rfl walks_range⟩
theorem it_range2 {ta : TA} {m n : Int} (h : EvAD K φ J ta ρ [.int m, .int n]) (hn : (-(2 ^ 62) ≤ m ∧ m < 2 ^ 62) ∧ -(2 ^ 62) ≤ n ∧ n < 2 ^ 62) : IterD K φ J (iRng2 ta) ρ (rangeD m (n - m).toNat) := fun σ H A R q => h σ H A _ fun vs ds H1 b1 A1 e r => by
  subst e
  obtain ⟨v, w, rfl, r1, r2⟩ := r.two
  cases (show v = _ from r1)
  cases (show w = _ from r2)
  exact ⟨m, n, rfl, ⟨hn.1.1, hn.1.2, hn.2.1, hn.2.2⟩, q _ _ H1 b1 A1 rfl walks_range⟩
def enumD (k : Int) (ds : List D) : List D := ds.mapIdx fun i d => .tup [.int (k + (i : Nat)), d]
theorem enumD_length {k : Int} : (enumD k ds).length = ds.length := List.length_mapIdx
theorem enumD_get {k : Int} {i : Nat} : (enumD k ds)[i]? = (ds[i]?).map fun d => .tup [.int (k + (i : Nat)), d] := List.getElem?_mapIdx
theorem rep_pair {H : Hp} {T : Addr} {x1 x2 : V} {d1 d2 : D} (f : φ T) (h : H T = some (.tup [x1, x2])) (r1 : Rep K φ H d1 x1) (r2 : Rep K φ H d2 x2) : Rep K φ H (.tup [d1, d2]) (.ref T) := ⟨T, _, rfl, .inl ⟨f, .inl h⟩, Reps.cons r1 (Reps.cons r2 Reps.nil)⟩
theorem it_enum {ta : TA} (h : EvAD K φ J ta ρ [.lst ds]) : IterD K φ J (iEnum K ta) ρ (enumD 0 ds) := fun σ H A R q => h σ H A _ fun vs es H1 b1 A1 e r => by
  subst e
  obtain ⟨v, rfl, r1⟩ := r.one
  obtain ⟨a, vs, rfl, p, rs⟩ := rep_lst r1
  refine ⟨a, vs, rfl, p.sq, q _ _ H1 b1 A1 rfl fun φ' i H2 u f => ?_⟩
  have p1 := p.up u
  have r1 := Reps.up u ds vs rs
  refine ⟨fun d hd => ?_, fun hi => ⟨vs, p1.sq, by rw [r1.length]; rw [enumD_length] at hi; exact Nat.le_of_eq hi.symm⟩⟩
  rw [enumD_get] at hd
  cases hx : ds[i]? with
  | none => rw [hx] at hd; cases hd
  | some d0 =>
    rw [hx] at hd
    cases hd
    obtain ⟨w, e, rw'⟩ := r1.get hx
    refine ⟨⟨vs, w, p1.sq, e⟩, fun x H3 hy => ?_⟩
    obtain ⟨T, x1, rfl, hT, rfl, hx1⟩ := hy
    have e2 := hx1 vs p1.sq
    rw [e] at e2
    cases e2
    exact ⟨same_new hT, rep_pair (f T hT) upd_same (by show V.int _ = V.int _; congr 1; omega) (rw'.mono (But.of (same_new hT)))⟩
def zipD (ds es : List D) : List D := List.zipWith (fun a b => .tup [a, b]) ds es
theorem zipD_get {i : Nat} {d1 d2 : D} (h1 : ds[i]? = some d1) (h2 : es[i]? = some d2) : (zipD ds es)[i]? = some (.tup [d1, d2]) := by
  unfold zipD
  rw [List.getElem?_zipWith, h1, h2]
theorem zipD_getD {i : Nat} {d : D} (h : (zipD ds es)[i]? = some d) : ∃ d1 d2, ds[i]? = some d1 ∧ es[i]? = some d2 ∧ d = .tup [d1, d2] := by
  unfold zipD at h
  rw [List.getElem?_zipWith] at h
  cases h1 : ds[i]? with
  | none => rw [h1] at h; cases h
  | some d1 =>
    cases h2 : es[i]? with
    | none => rw [h1, h2] at h; cases h
    | some d2 =>
      rw [h1, h2] at h
      cases h
      exact ⟨d1, d2, rfl, rfl, rfl⟩
theorem it_zipL {ta : TA} (h : EvAD K φ J ta ρ [.lst ds, .lst es]) : IterD K φ J (RZ.iZipA K ta) ρ (zipD ds es) := fun σ H A R q => h σ H A _ fun vs fs H1 b1 A1 e r => by
  subst e
  obtain ⟨v, w, rfl, r1, r2⟩ := r.two
  obtain ⟨a, vs, rfl, p, rs⟩ := rep_lst r1
  obtain ⟨b, ws, rfl, p', rs'⟩ := rep_lst r2
  refine ⟨a, b, vs, ws, rfl, .inl ⟨p.sq, p'.sq, q _ _ H1 b1 A1 rfl fun φ' i H2 u f => ?_⟩⟩
  have p1 := p.up u
  have r1 := Reps.up u ds vs rs
  have p2 := p'.up u
  have r2 := Reps.up u es ws rs'
  refine ⟨fun d hd => ?_, fun hi => ⟨vs, ws, p1.sq, p2.sq, by rw [r1.length, r2.length]; unfold zipD at hi; rw [List.length_zipWith] at hi; omega⟩⟩
  obtain ⟨d1, d2, g1, g2, rfl⟩ := zipD_getD hd
  obtain ⟨v1, e1, q1⟩ := r1.get g1
  obtain ⟨v2, e2, q2⟩ := r2.get g2
  refine ⟨⟨vs, ws, v1, v2, p1.sq, p2.sq, e1, e2⟩, fun x H3 hy => ?_⟩
  obtain ⟨T, x1, x2, rfl, hT, rfl, hx1, hx2⟩ := hy
  have z1 := hx1 vs p1.sq
  have z2 := hx2 ws p2.sq
  rw [e1] at z1
  rw [e2] at z2
  cases z1
  cases z2
  exact ⟨same_new hT, rep_pair (f T hT) upd_same (q1.mono (But.of (same_new hT))) (q2.mono (But.of (same_new hT)))⟩
theorem it_zipT {ta : TA} (h : EvAD K φ J ta ρ [.tup ds, .tup es]) : IterD K φ J (RZ.iZipA K ta) ρ (zipD ds es) := fun σ H A R q => h σ H A _ fun vs fs H1 b1 A1 e r => by
  subst e
  obtain ⟨v, w, rfl, r1, r2⟩ := r.two
  obtain ⟨a, vs, rfl, p, rs⟩ := rep_tup r1
  obtain ⟨b, ws, rfl, p', rs'⟩ := rep_tup r2
  refine ⟨a, b, vs, ws, rfl, .inr ⟨p.sq, p'.sq, q _ _ H1 b1 A1 rfl fun φ' i H2 u f => ?_⟩⟩
  have p1 := p.up u
  have r1 := Reps.up u ds vs rs
  have p2 := p'.up u
  have r2 := Reps.up u es ws rs'
  refine ⟨fun d hd => ?_, fun hi => ⟨vs, ws, p1.sq, p2.sq, by rw [r1.length, r2.length]; unfold zipD at hi; rw [List.length_zipWith] at hi; omega⟩⟩
  obtain ⟨d1, d2, g1, g2, rfl⟩ := zipD_getD hd
  obtain ⟨v1, e1, q1⟩ := r1.get g1
  obtain ⟨v2, e2, q2⟩ := r2.get g2
  refine ⟨⟨vs, ws, v1, v2, p1.sq, p2.sq, e1, e2⟩, fun x H3 hy => ?_⟩
  obtain ⟨T, x1, x2, rfl, hT, rfl, hx1, hx2⟩ := hy
  have z1 := hx1 vs p1.sq
  have z2 := hx2 ws p2.sq
  rw [e1] at z1
  rw [e2] at z2
  cases z1
  cases z2
  exact ⟨same_new hT, rep_pair (f T hT) upd_same (q1.mono (But.of (same_new hT))) (q2.mono (But.of (same_new hT)))⟩
def strD (s : Str) : List D := s.cps.toList.map fun c => .str ⟨#[c]⟩
theorem it_str (h : EvD K φ J te ρ (.str s)) : IterD K φ J (iStr te) ρ (strD s) := fun σ H A R q => h σ H A _ fun v d H1 b1 A1 e r => by
  subst e
  cases (show v = _ from r)
  refine ⟨s, rfl, q _ _ H1 b1 A1 rfl fun φ' i H2 u f => ⟨fun d hd => ?_, fun hi => by unfold strD at hi; rw [List.length_map, Array.length_toList] at hi; exact Nat.le_of_eq hi.symm⟩⟩
  unfold strD at hd
  rw [List.getElem?_map] at hd
  cases hc : s.cps.toList[i]? with
  | none => rw [hc] at hd; cases hd
  | some c =>
    rw [hc] at hd
    cases hd
    have hc' : s.cps[i]? = some c := by rw [← hc]; simp
    obtain ⟨hi, _⟩ := Array.getElem?_eq_some_iff.mp hc'
    refine ⟨hi, fun x H3 hy => ?_⟩
    obtain ⟨rfl, c2, e2, rfl⟩ := hy
    rw [hc'] at e2
    cases e2
    exact ⟨Same.refl _, rfl⟩

/-! ### targets -/
def wipeR (ρ : List (Option D)) : List Nat → List (Option D)
  | [] => ρ
  | v :: vs => (wipeR ρ vs).set v none
theorem SR.none (i : Nat) (h : SR K φ H ρ σ) : SR K φ H (ρ.set i Option.none) (σ.set i Option.none) := by
  refine ⟨by rw [List.length_set, List.length_set]; exact h.1, fun j e hj => ?_⟩
  by_cases hij : i = j
  · subst hij
    by_cases hl : i < ρ.length
    · rw [List.getElem?_set_self hl] at hj
      cases hj
    · rw [List.getElem?_eq_none (by rw [List.length_set]; omega)] at hj
      cases hj
  · rw [List.getElem?_set_ne hij] at hj
    obtain ⟨w, e1, r1⟩ := h.2 j e hj
    exact ⟨w, by rw [List.getElem?_set_ne hij]; exact e1, r1⟩
theorem SR.wipe (h : SR K φ H ρ σ) : ∀ vs : List Nat, SR K φ H (wipeR ρ vs) (L2.wipe σ vs)
  | [] => h
  | v :: vs => SR.none v (SR.wipe h vs)
theorem wipe_set {i : Nat} {o : Option V} : ∀ {vs : List Nat}, i ∈ vs → L2.wipe (σ.set i o) vs = L2.wipe σ vs
  | v :: vs, h => by
    show (L2.wipe (σ.set i o) vs).set v none = (L2.wipe σ vs).set v none
    by_cases hi : i ∈ vs
    · rw [wipe_set hi]
    · have e : i = v := (List.mem_cons.mp h).resolve_right hi
      subst e
      have g : ∀ (us : List Nat), i ∉ us → L2.wipe (σ.set i o) us = (L2.wipe σ us).set i o := by
        intro us
        induction us with
        | nil => intro _; rfl
        | cons u us ih =>
          intro hu
          have h1 : i ≠ u := fun e => hu (by rw [e]; exact List.mem_cons_self)
          show (L2.wipe (σ.set i o) us).set u none = ((L2.wipe σ us).set u none).set i o
          rw [ih fun m => hu (List.mem_cons_of_mem _ m), List.set_comm _ _ h1]
      rw [g vs hi, List.set_set]
theorem wipe_get {j : Nat} : ∀ {vs : List Nat}, (L2.wipe σ vs)[j]? = if j ∈ vs then (σ[j]?).map (fun _ => none) else σ[j]?
  | [] => by simp [L2.wipe]
  | v :: vs => by
    show ((L2.wipe σ vs).set v none)[j]? = _
    rw [List.getElem?_set]
    by_cases e : v = j
    · subst e
      rw [if_pos rfl, if_pos List.mem_cons_self]
      rw [L2.wipe_length]
      by_cases h : v < σ.length
      · rw [if_pos h, List.getElem?_eq_getElem h]
        rfl
      · rw [if_neg h, List.getElem?_eq_none (by omega)]
        rfl
    · rw [if_neg e, wipe_get]
      have : (j ∈ v :: vs) ↔ j ∈ vs := by
        rw [List.mem_cons]
        exact ⟨fun z => z.resolve_left fun q => e q.symm, .inr⟩
      by_cases h : j ∈ vs
      · rw [if_pos h, if_pos (this.mpr h)]
      · rw [if_neg h, if_neg fun z => h (this.mp z)]
theorem wipe_wipe (vs : List Nat) : L2.wipe (L2.wipe σ vs) vs = L2.wipe σ vs := by
  apply List.ext_getElem?
  intro j
  rw [wipe_get]
  by_cases h : j ∈ vs
  · rw [if_pos h, wipe_get, if_pos h]
    cases σ[j]? <;> rfl
  · rw [if_neg h]
/-- a target: d is stored, ρ becomes ρ', the slots us are written -/
def EvG (K : PySem.W.Frag) (g : TG) (d : D) (ρ ρ' : List (Option D)) (us : List Nat) : Prop := ∀ (φ : Addr → Prop) (J : Hp → Prop) σ H v, At K φ J ρ σ H → Rep K φ H d v → ∀ Q : L2.St → Hp → Prop,
  (∀ σ', At K φ J ρ' σ' H → (∀ vs : List Nat, (∀ i ∈ us, i ∈ vs) → L2.wipe σ' vs = L2.wipe σ vs) → Q σ' H) → g v σ H Q
theorem eg_name {k : Nat} : EvG K (gName k) d ρ (ρ.set k (some d)) [k] := fun φ J σ H v A r Q q => q _ (A.set k r) fun vs h => wipe_set (h k (by simp))
def EvGs (K : PySem.W.Frag) (g : TGs) (ds : List D) (ρ ρ' : List (Option D)) (us : List Nat) : Prop := ∀ (φ : Addr → Prop) (J : Hp → Prop) σ H ws, At K φ J ρ σ H → Reps K φ H ds ws → ∀ Q : L2.St → Hp → Prop,
  (∀ σ', At K φ J ρ' σ' H → (∀ vs : List Nat, (∀ i ∈ us, i ∈ vs) → L2.wipe σ' vs = L2.wipe σ vs) → Q σ' H) → g ws σ H Q
theorem egs_nil : EvGs K gNil [] ρ ρ [] := fun φ J σ H ws A r Q q => ⟨r, q σ A fun _ _ => rfl⟩
theorem egs_cons {g : TG} {gs : TGs} {ρ1 ρ2 : List (Option D)} {us ws : List Nat} (h : EvG K g d ρ ρ1 us) (hs : EvGs K gs ds ρ1 ρ2 ws) : EvGs K (gCons g gs) (d :: ds) ρ ρ2 (us ++ ws) := fun φ J σ H xs A r Q q => by
  obtain ⟨v, r', rfl, h1, h2⟩ := (show ∃ v r, xs = v :: r ∧ Rep K φ H d v ∧ Reps K φ H ds r from r)
  refine ⟨v, r', rfl, h φ J σ H v A h1 _ fun σ1 A1 w1 => hs φ J σ1 H r' A1 h2 Q fun σ2 A2 w2 => q σ2 A2 fun vs hv => ?_⟩
  rw [w2 vs fun i hi => hv i (List.mem_append_right _ hi), w1 vs fun i hi => hv i (List.mem_append_left _ hi)]
theorem eg_tup {gs : TGs} {us : List Nat} (h : EvGs K gs ds ρ ρ' us) : EvG K (gTup K ds.length gs) (.tup ds) ρ ρ' us := fun φ J σ H v A r Q q => by
  obtain ⟨a, vs, rfl, p, rs⟩ := rep_tup r
  exact ⟨a, vs, rfl, p.sq, rs.length, h φ J σ H vs A rs Q q⟩

/-! ### list comprehensions -/
inductive Comp (pt : D → Bool → Prop) (pe : D → D → Prop) : List D → List D → Prop where
  | nil : Comp pt pe [] []
  | take {d y : D} {ds ys : List D} : pt d true → pe d y → Comp pt pe ds ys → Comp pt pe (d :: ds) (y :: ys)
  | skip {d : D} {ds ys : List D} : pt d false → Comp pt pe ds ys → Comp pt pe (d :: ds) ys
theorem Comp.snoc1 {pt : D → Bool → Prop} {pe : D → D → Prop} : ∀ {ds ys : List D}, Comp pt pe ds ys → pt d true → pe d y → Comp pt pe (ds ++ [d]) (ys ++ [y])
  | _, _, .nil, h, k => .take h k .nil
  | _, _, .take a b c, h, k => .take a b (Comp.snoc1 c h k)
  | _, _, .skip a c, h, k => .skip a (Comp.snoc1 c h k)
theorem Comp.snoc0 {pt : D → Bool → Prop} {pe : D → D → Prop} : ∀ {ds ys : List D}, Comp pt pe ds ys → pt d false → Comp pt pe (ds ++ [d]) ys
  | _, _, .nil, h => .skip h .nil
  | _, _, .take a b c, h => .take a b (Comp.snoc0 c h)
  | _, _, .skip a c, h => .skip a (Comp.snoc0 c h)
theorem Comp.map {f : D → D} : ∀ {ds ys : List D}, Comp (fun _ b => b = true) (fun d y => y = f d) ds ys → ys = ds.map f
  | _, _, .nil => rfl
  | _, _, .take _ e c => by rw [e, c.map]; rfl
  | _, _, .skip e _ => by cases e
theorem Comp.filter {p : D → Bool} {f : D → D} : ∀ {ds ys : List D}, Comp (fun d b => b = p d) (fun d y => y = f d) ds ys → ys = (ds.filter p).map f
  | _, _, .nil => rfl
  | _, _, .take e1 e c => by rw [List.filter_cons, if_pos e1.symm, e, c.filter]; rfl
  | _, _, .skip e c => by rw [List.filter_cons, if_neg (by rw [← e]; simp), c.filter]
theorem Comp.len {pt : D → Bool → Prop} {pe : D → D → Prop} : ∀ {ds ys : List D}, Comp pt pe ds ys → ys.length ≤ ds.length
  | _, _, .nil => Nat.le_refl _
  | _, _, .take _ _ c => Nat.succ_le_succ c.len
  | _, _, .skip _ c => Nat.le_succ_of_le c.len
theorem Comp.all {pe : D → D → Prop} : ∀ {ds ys : List D}, Comp (fun _ b => b = true) pe ds ys → ys.length = ds.length ∧ ∀ y ∈ ys, ∃ d ∈ ds, pe d y
  | _, _, .nil => ⟨rfl, fun _ h => by simp at h⟩
  | _, _, .take _ e c => ⟨by rw [List.length_cons, List.length_cons, c.all.1], fun z h => by
    rcases List.mem_cons.mp h with rfl | h
    · exact ⟨_, List.mem_cons_self, e⟩
    · obtain ⟨d, hd, p⟩ := c.all.2 z h
      exact ⟨d, List.mem_cons_of_mem _ hd, p⟩⟩
  | _, _, .skip e _ => by cases e
theorem ev_lcP {wi : TI} {g : TG} {tt : TT} {te : TE} {ws us : List Nat} {Pi : List D → Prop} {ρd : D → List (Option D)} {pt : D → Bool → Prop} {pe : D → D → Prop} (hi : IterP K φ J wi ρ Pi) (hl : ∀ ds, Pi ds → ds.length ≤ 1000000) (hu : ∀ i ∈ us, i ∈ ws)
    (hg : ∀ ds, Pi ds → ∀ d ∈ ds, EvG K g d (wipeR ρ ws) (ρd d) us)
    (ht : ∀ ds, Pi ds → ∀ d ∈ ds, ∀ φ' J', Ext φ J φ' J' → EvT K φ' J' tt (ρd d) (pt d))
    (he : ∀ ds, Pi ds → ∀ d ∈ ds, pt d true → ∀ φ' J', Ext φ J φ' J' → EvP K φ' J' te (ρd d) (pe d)) :
    EvP K φ J (tLc wi g tt te ws) ρ (fun z => ∃ ds ys, Pi ds ∧ z = .lst ys ∧ Comp pt pe ds ys) := fun σ H A Q q => by
  refine hi σ H A _ fun J0 ds H1 b1 A1 pd w => ?_
  intro D0 hD
  -- inside: the list at D0 is live
  have neP : ∀ p s ns, Pooled φ J p s ns → p ≠ D0 := fun p s ns hp => by
    obtain ⟨a1, a2, a3, a4, h1, _⟩ := hp.ok _ A1.j
    exact ne_of_none h1 hD
  let φ' : Addr → Prop := fun a => φ a ∧ a ≠ D0
  have ext : ∀ acc : List V, Ext φ J φ' (fun H => J H ∧ H D0 = some (.lst acc)) := fun acc => ⟨fun _ h => h.1, fun p s ns hp => ⟨fun z => hp.np z.1, hp.ne, fun H h => hp.ok H h.1, fun H H' h k o => ⟨hp.st H H' h.1 k o, k _ _ (neP p s ns hp).symm h.2⟩⟩, fun a p h => ⟨p, fun e => h H1 A1.j (by rw [e]; exact hD)⟩⟩
  have mono : ∀ (acc : List V) (H2 : Hp), (∀ a, H1 a ≠ none → H2 a ≠ none) → H2 D0 ≠ none → Mo H2 (fun H => J H ∧ H D0 = some (.lst acc)) := fun acc H2 s h => (A1.mono.up s).and (Mo.at h)
  refine ⟨fun i m H2 => m = ds.length - i ∧ i ≤ ds.length ∧ But φ H1 H2 ∧ ∃ acc ys, Reps K φ' H2 ys acc ∧ Comp pt pe (ds.take i) ys ∧ At K φ' (fun H => J H ∧ H D0 = some (.lst acc)) (wipeR ρ ws) (L2.wipe σ ws) H2,
    ⟨ds.length, rfl, Nat.zero_le _, But.of (same_new hD), [], [], Reps.nil, .nil, ?_⟩, ?_⟩
  · have A2 := A1.newLive (o := .lst []) (J' := fun H => J H ∧ H D0 = some (.lst [])) hD ⟨A1.mono _ _ (fun a o _ e => same_new hD a o e) A1.j, upd_same⟩ (mono [] _ upd_tr (by rw [upd_same]; exact fun z => by cases z))
    exact ⟨A2.sr.wipe ws, A2.fr, A2.j, A2.mono⟩
  · rintro i m H2 ⟨rfl, hi, b2, acc, ys, rs, cp, A2⟩
    have upw : Up φ φ' H1 H2 := fun a o p e => ⟨⟨p, ne_of_none e hD⟩, b2.keep a o p e⟩
    have fr2 : Frm φ' H2 := A2.fr
    obtain ⟨wg, wstop⟩ := w φ' i H2 upw fr2
    by_cases hlt : i < ds.length
    · have hd : ds[i]? = some ds[i] := List.getElem?_eq_getElem hlt
      obtain ⟨go, yl⟩ := wg _ hd
      refine .inr ⟨go, fun H3 => But φ H1 H3 ∧ ∃ acc ys, Reps K φ' H3 ys acc ∧ Comp pt pe (ds.take (i + 1)) ys ∧ At K φ' (fun H => J H ∧ H D0 = some (.lst acc)) (wipeR ρ ws) (L2.wipe σ ws) H3, ?_, ?_⟩
      · rintro H3 ⟨b3, acc3, ys3, r3, c3, A3⟩
        exact ⟨ds.length - (i + 1), by omega, rfl, hlt, b3, acc3, ys3, r3, c3, A3⟩
      · intro x H3 hy
        obtain ⟨s3, r3⟩ := yl x H3 hy
        have A3 := A2.same s3
        have rs3 := rs.mono (But.of (φ := φ') s3)
        have b3 : But φ H1 H3 := b2.trans (But.of s3)
        have hmem : ds[i] ∈ ds := List.getElem_mem hlt
        have tk : ds.take (i + 1) = ds.take i ++ [ds[i]] := by rw [List.take_add_one, hd]; rfl
        refine hg ds pd _ hmem φ' _ _ H3 x A3 r3 _ fun σ4 A4 hw4 => ⟨?_, ?_⟩
        · rw [hw4 ws hu]
          exact wipe_wipe ws
        · refine ht ds pd _ hmem φ' _ (ext acc) σ4 H3 A4 _ fun bb H5 b5 A5 hp => ?_
          have b35 : But φ H1 H5 := ⟨fun a o p e => b5.keep a o ⟨p, ne_of_none e hD⟩ (b3.keep a o p e), fun a h => b5.tr a (b3.tr a h)⟩
          have A5' : At K φ' (fun H => J H ∧ H D0 = some (.lst acc)) (wipeR ρ ws) (L2.wipe σ ws) H5 := ⟨A3.sr.up (Up.of b5), A5.fr, A5.j, A5.mono⟩
          cases bb with
          | false =>
            rw [if_neg (by simp)]
            exact ⟨b35, acc, ys, rs3.mono b5, by rw [tk]; exact cp.snoc0 hp, A5'⟩
          | true =>
            rw [if_pos rfl]
            refine he ds pd _ hmem hp φ' _ (ext acc) σ4 H5 A5 _ fun v d H6 b6 A6 pv r6 => ?_
            have rl := (rs3.mono b5).mono b6
            have nD : ¬ φ' D0 := fun z => z.2 rfl
            have cl := cp.len
            refine ⟨acc, A6.j.2, ?_, ?_, acc ++ [v], ys ++ [d], ?_, by rw [tk]; exact cp.snoc1 hp pv, ?_⟩
            · rw [rl.length]
              have h1 := hl ds pd
              rw [List.length_take] at cl
              exact szlt (by omega)
            · refine ⟨fun a o p e => ?_, fun a h => upd_tr a (b6.tr a (b35.tr a h))⟩
              have ne := ne_of_none e hD
              rw [upd_ne ne]
              exact b6.keep a o ⟨p, ne⟩ (b35.keep a o p e)
            · exact (rl.append (Reps.cons r6 Reps.nil)).mono ((But.refl φ' H6).upd nD)
            · have A6' : At K φ' (fun H => J H ∧ H D0 = some (.lst acc)) (wipeR ρ ws) (L2.wipe σ ws) H6 := ⟨A5'.sr.up (Up.of b6), A6.fr, A6.j, A6.mono⟩
              have jj : J (upd H6 D0 (.lst (acc ++ [v]))) := A1.mono H6 _ (fun a o h e => by
                rw [upd_ne (show a ≠ D0 from fun z => h (by rw [z]; exact hD))]
                exact e) A6.j.1
              exact A6'.upd nD ⟨jj, upd_same⟩ (mono _ _ (fun a h => upd_tr a (b6.tr a (b35.tr a h))) (by rw [upd_same]; exact fun z => by cases z))
    · have e : i = ds.length := by omega
      subst e
      refine .inl ⟨wstop rfl, ?_⟩
      rw [List.take_length] at cp
      have A3 : At K φ J ρ σ H2 := ⟨A1.sr.up (Up.of b2), A2.fr.fst, A2.j.1, A1.mono.up b2.tr⟩
      refine q _ (.lst ys) H2 (b1.trans b2) A3 ⟨ds, ys, pd, rfl, cp⟩ ⟨D0, acc, rfl, .inl ⟨A1.fr D0 hD, .inl A2.j.2⟩, ?_⟩
      exact Reps.up (fun a o p e => ⟨p.1, e⟩) ys acc rs
end
end DL
namespace DL
open PySem PySem.Spec PyProof.Rows L2

section
variable {K : PySem.W.Frag} {φ φ' : Addr → Prop} {J J' : Hp → Prop} {H H' H1 : Hp} {ρ ρ' : List (Option D)} {σ : L2.St} {ta tb te tc : TE} {x y z d : D} {P Pa Pb Pc : D → Prop} {i j : Int} {b c : Bool} {ds es : List D} {v : V} {vs : List V} {a : Addr} {D0 : Ends} {t u : TS}

/-! ### comprehensions, by one name -/
/-- [e for x in ds]: all by f -/
theorem ev_lc {wi : TI} {te : TE} {k : Nat} {f : D → D} (hi : IterD K φ J wi ρ ds) (hl : ds.length ≤ 1000000) (he : ∀ d ∈ ds, ∀ φ' J', Ext φ J φ' J' → EvD K φ' J' te ((wipeR ρ [k]).set k (some d)) (f d)) :
    EvD K φ J (tLc wi (gName k) tYes te [k]) ρ (.lst (ds.map f)) :=
  (ev_lcP (ρd := fun d => (wipeR ρ [k]).set k (some d)) (us := [k]) (pt := fun _ b => b = true) (pe := fun d y => y = f d) hi (fun ds' e => by rw [e]; exact hl) (fun _ h => h) (fun _ _ d _ => eg_name)
    (fun _ _ d _ φ' J' _ σ H A Q q => q true H (But.refl _ _) A rfl) (fun ds' e d hd _ φ' J' x => he d (e ▸ hd) φ' J' x)).imp fun z ⟨ds', ys, e1, e2, c⟩ => by
      subst e1
      rw [e2, c.map]
/-- [e for x in ds if t] -/
theorem ev_lcF {wi : TI} {tt : TT} {te : TE} {k : Nat} {p : D → Bool} {f : D → D} (hi : IterD K φ J wi ρ ds) (hl : ds.length ≤ 1000000) (ht : ∀ d ∈ ds, ∀ φ' J', Ext φ J φ' J' → EvX K φ' J' tt ((wipeR ρ [k]).set k (some d)) (p d))
    (he : ∀ d ∈ ds, p d = true → ∀ φ' J', Ext φ J φ' J' → EvD K φ' J' te ((wipeR ρ [k]).set k (some d)) (f d)) :
    EvD K φ J (tLc wi (gName k) tt te [k]) ρ (.lst ((ds.filter p).map f)) :=
  (ev_lcP (ρd := fun d => (wipeR ρ [k]).set k (some d)) (us := [k]) (pt := fun d b => b = p d) (pe := fun d y => y = f d) hi (fun ds' e => by rw [e]; exact hl) (fun _ h => h) (fun _ _ d _ => eg_name)
    (fun ds' e d hd φ' J' x => ht d (e ▸ hd) φ' J' x) (fun ds' e d hd pd φ' J' x => he d (e ▸ hd) pd.symm φ' J' x)).imp fun z ⟨ds', ys, e1, e2, c⟩ => by
      subst e1
      rw [e2, c.filter]
theorem et_yes : EvT K φ J tYes ρ (fun b => b = true) := fun σ H A Q q => q true H (But.refl _ _) A rfl
/-- any element: a property of each -/
theorem ev_lcE {wi : TI} {te : TE} {k : Nat} {Pi : List D → Prop} {pe : D → D → Prop} (hi : IterP K φ J wi ρ Pi) (hl : ∀ ds, Pi ds → ds.length ≤ 1000000) (he : ∀ ds, Pi ds → ∀ d ∈ ds, ∀ φ' J', Ext φ J φ' J' → EvP K φ' J' te ((wipeR ρ [k]).set k (some d)) (pe d)) :
    EvP K φ J (tLc wi (gName k) tYes te [k]) ρ (fun z => ∃ ds ys, Pi ds ∧ z = .lst ys ∧ Comp (fun _ b => b = true) pe ds ys) :=
  ev_lcP (ρd := fun d => (wipeR ρ [k]).set k (some d)) (us := [k]) hi hl (fun _ h => h) (fun _ _ d _ => eg_name) (fun _ _ d _ φ' J' _ => et_yes) (fun ds' e d hd _ φ' J' x => he ds' e d hd φ' J' x)

/-! ### statements -/
theorem q (h : t { D0 with nx := u D0 } σ H) : tSeq t u D0 σ H := h
theorem st_next (h : D0.nx σ H) : tNext D0 σ H := h
theorem st_asg {k : Nat} (A : At K φ J ρ σ H) (h : EvP K φ J te ρ P) (kk : ∀ d σ' H', P d → At K φ J (ρ.set k (some d)) σ' H' → D0.nx σ' H') : tAsg te (gName k) D0 σ H :=
  h σ H A _ fun v d H' b A' pd r => kk d _ H' pd (A'.set k r)
/-- .. where the value is known -/
theorem st_set {k : Nat} (A : At K φ J ρ σ H) (h : EvD K φ J te ρ d) (kk : ∀ σ' H', At K φ J (ρ.set k (some d)) σ' H' → D0.nx σ' H') : tAsg te (gName k) D0 σ H :=
  st_asg A h fun d' σ' H' e A' => kk σ' H' (e ▸ A')
theorem st_asgG {g : TG} {us : List Nat} {ρ2 : D → List (Option D)} (A : At K φ J ρ σ H) (h : EvP K φ J te ρ P) (hg : ∀ d, P d → EvG K g d ρ (ρ2 d) us) (kk : ∀ d σ' H', P d → At K φ J (ρ2 d) σ' H' → D0.nx σ' H') : tAsg te g D0 σ H :=
  h σ H A _ fun v d H' b A' pd r => hg d pd φ J σ H' v A' r _ fun σ' A2 _ => kk d σ' H' pd A2
theorem st_ret (A : At K φ J ρ σ H) (h : EvP K φ J te ρ P) (kk : ∀ v d H', P d → At K φ J ρ σ H' → Rep K φ H' d v → D0.rt v H') : tRet te D0 σ H :=
  h σ H A _ fun v d H' b A' pd r => kk v d H' pd A' r
theorem st_retN (h : D0.rt .non H) : tRetN D0 σ H := h
theorem st_drop (A : At K φ J ρ σ H) (h : EvP K φ J te ρ P) (kk : ∀ d H', P d → At K φ J ρ σ H' → D0.nx σ H') : tDrop te D0 σ H :=
  h σ H A _ fun v d H' b A' pd r => kk d H' pd A'
theorem st_if {tt : TT} {p : Bool → Prop} (A : At K φ J ρ σ H) (h : EvT K φ J tt ρ p) (k1 : p true → ∀ H', At K φ J ρ σ H' → t D0 σ H') (k2 : p false → ∀ H', At K φ J ρ σ H' → u D0 σ H') : tIfS tt t u D0 σ H :=
  h σ H A _ fun b H' bt A' pb => by
    cases b with
    | true =>
      rw [if_pos rfl]
      exact k1 pb H' A'
    | false =>
      rw [if_neg (by simp)]
      exact k2 pb H' A'
/-- the test is known -/
theorem st_yes {tt : TT} (A : At K φ J ρ σ H) (h : EvX K φ J tt ρ b) (e : b = true) (k1 : ∀ H', At K φ J ρ σ H' → t D0 σ H') : tIfS tt t u D0 σ H :=
  st_if A h (fun _ H' A' => k1 H' A') fun z => by rw [e] at z; cases z
theorem st_no {tt : TT} (A : At K φ J ρ σ H) (h : EvX K φ J tt ρ b) (e : b = false) (k2 : ∀ H', At K φ J ρ σ H' → u D0 σ H') : tIfS tt t u D0 σ H :=
  st_if A h (fun z => by rw [e] at z; cases z) fun _ H' A' => k2 H' A'
theorem st_aug {k : Nat} {f : Int → Int → Int} (A : At K φ J ρ σ H) (hx : ρ[k]? = some (some (.int i))) (h : EvD K φ J te ρ (.int j)) (kk : ∀ σ' H', At K φ J (ρ.set k (some (.int (f i j)))) σ' H' → D0.nx σ' H') : tAug k te (ipI f) D0 σ H := by
  obtain ⟨v, e, r⟩ := A.sr.2 k _ hx
  cases (show v = _ from r)
  refine ⟨_, e, h σ H A _ fun w d H' b A' pd r' => ?_⟩
  subst pd
  exact ⟨i, j, rfl, r', kk _ H' (A'.set k rfl)⟩

/-! ### for -/
def NX (K : PySem.W.Frag) (φ : Addr → Prop) (H1 : Hp) (Inv : Nat → List (Option D) → (Hp → Prop) → Prop) (i : Nat) : L2.St → Hp → Prop := fun σ H => ∃ ρ'' J'', Inv i ρ'' J'' ∧ At K φ (fun H => J'' H ∧ But φ H1 H) ρ'' σ H
theorem NX.go {Inv : Nat → List (Option D) → (Hp → Prop) → Prop} {n : Nat} (A : At K φ (fun H => J H ∧ But φ H1 H) ρ σ H) (h : Inv n ρ J) : NX K φ H1 Inv n σ H := ⟨ρ, J, h, A⟩
theorem Ext.but {H1 : Hp} (h : ∀ p s ns, Pooled φ J p s ns → H1 p ≠ none) : Ext φ J φ (fun H => J H ∧ But φ H1 H) := ⟨fun _ h => h.1, fun p s ns hp => ⟨hp.np, hp.ne, fun H h => hp.ok H h.1, fun H H' hh k o => ⟨hp.st H H' hh.1 k o, ⟨fun a u pa e => k a u (fun z => hp.np (z ▸ pa)) (hh.2.keep a u pa e), fun a ha => by
  by_cases z : a = p
  · subst z
    obtain ⟨_, _, _, _, e, _⟩ := o
    rw [e]
    exact fun z => by cases z
  · cases e : H a with
    | none => exact absurd e (hh.2.tr a ha)
    | some u => rw [k a u z e]; exact fun z => by cases z⟩⟩⟩, fun _ p _ => p⟩
theorem Ext.but' {H1 : Hp} : Ext φ J φ (fun H => J H ∧ But φ H1 H) := ⟨fun _ h => h.1, fun p s ns hp => ⟨hp.np, hp.ne, fun H h => hp.ok H h.1, fun H H' hh k o => ⟨hp.st H H' hh.1 k o, ⟨fun a u pa e => k a u (fun z => hp.np (z ▸ pa)) (hh.2.keep a u pa e), fun a ha => by
  by_cases z : a = p
  · subst z
    obtain ⟨_, _, _, _, e, _⟩ := o
    rw [e]
    exact fun z => by cases z
  · cases e : H a with
    | none => exact absurd e (hh.2.tr a ha)
    | some u => rw [k a u z e]; exact fun z => by cases z⟩⟩⟩, fun _ p _ => p⟩
def ForG (K : PySem.W.Frag) (φ : Addr → Prop) (g : TG) (tb : TS) (ds : List D) (D0 : Ends) (σ : L2.St) (H1 : Hp) : Prop := ∀ J0, Walks K φ J0 H1 ds → ∃ W : Nat → Nat → L2.St → Hp → Prop, (∃ m, W 0 m σ H1) ∧ ∀ i m σ H, W i m σ H →
  (J0.stop i H ∧ D0.nx σ H) ∨ (J0.go i H ∧ ∃ N : L2.St → Hp → Prop, (∀ σ' H', N σ' H' → ∃ m', m' < m ∧ W (i + 1) m' σ' H') ∧ ∀ x H', J0.yld i H x H' → g x σ H' fun σ2 H2 => tb { D0 with nx := N, ct := N, bk := D0.nx } σ2 H2)
theorem st_forP {wi : TI} {g : TG} {tb : TS} {Pi : List D → Prop} (A : At K φ J ρ σ H) (hi : IterP K φ J wi ρ Pi) (k : ∀ ds H1, Pi ds → At K φ J ρ σ H1 → ForG K φ g tb ds D0 σ H1) : tFor wi g tb D0 σ H :=
  hi σ H A _ fun J0 ds H1 b A1 pd w => k ds H1 pd A1 J0 w
theorem forG_by {g : TG} {tb : TS} (A : At K φ J ρ σ H1) (Inv : Nat → List (Option D) → (Hp → Prop) → Prop) (h0 : Inv 0 ρ J)
    (hs : ∀ i d ρ' J', ds[i]? = some d → Inv i ρ' J' → ∃ ρ2 us, EvG K g d ρ' ρ2 us ∧ ∀ σ' H', At K φ (fun H => J' H ∧ But φ H1 H) ρ2 σ' H' → tb { D0 with nx := NX K φ H1 Inv (i + 1), ct := NX K φ H1 Inv (i + 1), bk := D0.nx } σ' H')
    (hd : ∀ ρ' J' σ' H', Inv ds.length ρ' J' → At K φ (fun H => J' H ∧ But φ H1 H) ρ' σ' H' → D0.nx σ' H') : ForG K φ g tb ds D0 σ H1 := fun J0 w => by
  refine ⟨fun i m σ H => m = ds.length - i ∧ i ≤ ds.length ∧ NX K φ H1 Inv i σ H, ⟨ds.length, rfl, Nat.zero_le _, ρ, J, h0, A.live ⟨A.j, But.refl _ _⟩ (A.mono.and (Mo.but fun _ h => h))⟩, ?_⟩
  rintro i m σ2 H2 ⟨rfl, hi, ρ2, J2, inv, A2⟩
  obtain ⟨wg, ws⟩ := w φ i H2 (Up.of A2.j.2) A2.fr
  by_cases hlt : i < ds.length
  · have hx : ds[i]? = some ds[i] := List.getElem?_eq_getElem hlt
    obtain ⟨go, yl⟩ := wg _ hx
    obtain ⟨ρ3, us, eg, body⟩ := hs i _ ρ2 J2 hx inv
    refine .inr ⟨go, NX K φ H1 Inv (i + 1), fun σ' H' n => ⟨ds.length - (i + 1), by omega, rfl, hlt, n⟩, fun x H3 hy => ?_⟩
    obtain ⟨s3, r3⟩ := yl x H3 hy
    exact eg φ _ σ2 H3 x (A2.same s3) r3 _ fun σ4 A4 _ => body σ4 H3 A4
  · have e : i = ds.length := by omega
    subst e
    exact .inl ⟨ws rfl, hd ρ2 J2 σ2 H2 inv A2⟩
/-- by one name -/
theorem st_for {wi : TI} {tb : TS} {k : Nat} (A : At K φ J ρ σ H) (hi : IterD K φ J wi ρ ds) (Inv : Nat → List (Option D) → (Hp → Prop) → Prop) (h0 : Inv 0 ρ J)
    (hs : ∀ H1 i d ρ' J', But φ H H1 → J H1 → ds[i]? = some d → Inv i ρ' J' → ∀ σ' H', At K φ (fun H => J' H ∧ But φ H1 H) (ρ'.set k (some d)) σ' H' → tb { D0 with nx := NX K φ H1 Inv (i + 1), ct := NX K φ H1 Inv (i + 1), bk := D0.nx } σ' H')
    (hd : ∀ H1 ρ' J' σ' H', But φ H H1 → J H1 → Inv ds.length ρ' J' → At K φ (fun H => J' H ∧ But φ H1 H) ρ' σ' H' → D0.nx σ' H') : tFor wi (gName k) tb D0 σ H :=
  hi σ H A _ fun J0 ds' H1 b A1 pd w => by
    subst pd
    exact forG_by (D0 := D0) A1 Inv h0 (fun i d ρ' J' hx inv => ⟨_, _, eg_name, fun σ' H' A' => hs H1 i d ρ' J' b A1.j hx inv σ' H' A'⟩) (fun ρ' J' σ' H' inv A' => hd H1 ρ' J' σ' H' b A1.j inv A') J0 w
/-- by a target of any form -/
theorem st_forT {wi : TI} {tb : TS} {g : TG} {us : List Nat} {ρt : D → List (Option D) → List (Option D)} (A : At K φ J ρ σ H) (hi : IterD K φ J wi ρ ds) (Inv : Nat → List (Option D) → (Hp → Prop) → Prop) (h0 : Inv 0 ρ J)
    (hg : ∀ i d ρ' J', ds[i]? = some d → Inv i ρ' J' → EvG K g d ρ' (ρt d ρ') us)
    (hs : ∀ H1 i d ρ' J', But φ H H1 → J H1 → ds[i]? = some d → Inv i ρ' J' → ∀ σ' H', At K φ (fun H => J' H ∧ But φ H1 H) (ρt d ρ') σ' H' → tb { D0 with nx := NX K φ H1 Inv (i + 1), ct := NX K φ H1 Inv (i + 1), bk := D0.nx } σ' H')
    (hd : ∀ H1 ρ' J' σ' H', But φ H H1 → J H1 → Inv ds.length ρ' J' → At K φ (fun H => J' H ∧ But φ H1 H) ρ' σ' H' → D0.nx σ' H') : tFor wi g tb D0 σ H :=
  hi σ H A _ fun J0 ds' H1 b A1 pd w => by
    subst pd
    exact forG_by (D0 := D0) A1 Inv h0 (fun i d ρ' J' hx inv => ⟨_, _, hg i d ρ' J' hx inv, fun σ' H' A' => hs H1 i d ρ' J' b A1.j hx inv σ' H' A'⟩) (fun ρ' J' σ' H' inv A' => hd H1 ρ' J' σ' H' b A1.j inv A') J0 w
theorem st_while {tt : TT} {tb : TS} (A : At K φ J ρ σ H) (Inv : Nat → List (Option D) → (Hp → Prop) → Prop) (m0 : Nat) (h0 : Inv m0 ρ J)
    (hs : ∀ m ρ' J', Inv m ρ' J' → ∃ p, EvT K φ (fun H1 => J' H1 ∧ But φ H H1) tt ρ' p ∧
      (p true → ∀ σ' H', At K φ (fun H1 => J' H1 ∧ But φ H H1) ρ' σ' H' → ∀ N : L2.St → Hp → Prop, (∀ m' σ' H', m' < m → NX K φ H Inv m' σ' H' → N σ' H') → tb { D0 with nx := N, ct := N, bk := D0.nx } σ' H') ∧
      (p false → ∀ σ' H', At K φ (fun H1 => J' H1 ∧ But φ H H1) ρ' σ' H' → D0.nx σ' H')) : tWhile tt tb D0 σ H := by
  refine ⟨NX K φ H Inv, ⟨m0, ρ, J, h0, A.live ⟨A.j, But.refl _ _⟩ (A.mono.and (Mo.but fun _ h => h))⟩, ?_⟩
  rintro m σ2 H2 ⟨ρ2, J2, inv, A2⟩
  obtain ⟨p, ht, h1, h2⟩ := hs m ρ2 J2 inv
  refine ht σ2 H2 A2 _ fun b H3 b3 A3 pb => ?_
  cases b with
  | true =>
    rw [if_pos rfl]
    exact ⟨fun σ' H' => ∃ m', m' < m ∧ NX K φ H Inv m' σ' H', fun σ' H' n => n, h1 pb σ2 H3 A3 _ fun m' σ' H' l n => ⟨m', l, n⟩⟩
  | false =>
    rw [if_neg (by simp)]
    exact h2 pb σ2 H3 A3

/-! ### defs of pure values -/
/-- the promise: a relation of trees -/
def SpD (K : PySem.W.Frag) (n : Nat) (R : List D → D → Prop) : Sp := fun vs H Q _ => ∃ φ ds d, ds.length = n ∧ Reps K φ H ds vs ∧ Frm φ H ∧ R ds d ∧ ∀ v H', Same H H' → Rep K φ H' d v → Q v H'
theorem ev_call {n : Nat} {R : List D → D → Prop} {E : XK} {ta : TA} {Pr : List D → Prop} (ha : EvA K φ J ta ρ Pr) (hr : ∀ ds, Pr ds → ∃ d, ds.length = n ∧ R ds d ∧ P d) : EvP K φ J (tCall (SpD K n R) [] E ta) ρ P := fun σ H A Q q =>
  ha σ H A _ fun vs ds H1 b1 A1 pd r1 => by
    obtain ⟨d, hl, hd, pd'⟩ := hr ds pd
    refine ⟨φ, ds, d, hl, by rw [List.append_nil]; exact r1, A1.fr, hd, fun v H' s r => ?_⟩
    exact q v d H' (b1.trans (But.of s)) (A1.same s) pd' r
theorem ev_callD {n : Nat} {R : List D → D → Prop} {E : XK} {ta : TA} (ha : EvAD K φ J ta ρ ds) (hr : R ds d) (hl : ds.length = n := by rfl) : EvD K φ J (tCall (SpD K n R) [] E ta) ρ d := ev_call ha fun ds' e => ⟨d, by rw [e]; exact hl, by rw [e]; exact hr, rfl⟩
section
variable {PP : Program} {w : World} {mg : Str → Option Value} {base : Heap}
/-- a def keeps the promise, by its body's reading -/
theorem fn_ok {x qual : Str} {st : Stmt} {f : Addr} {fd : FuncData} {N ps : List Str} {k n : Nat} {R : List D → D → Prop} (F : Fun K x qual st f fd) (S : FnScope N ps (defScope st)) (hn : ps.length = n) (m : Nat) (hm : N.length = n + m)
    (hbody : ∀ (cdv : Value) (A : Around) (outer : List Env) (s : Shared) (H : Hp) (E : XK), Room k (A.deeper (envOfC qual (defScope st) s.heap.objs.size f cdv)) →
      ∃ t, PSs (cxOf CX0 PP w K mg base N qual (defScope st) f cdv A outer s H E).nox (defBody st) t ∧
        ∀ (φ : Addr → Prop) (ds : List D) (d : D) (H : Hp) (D0 : Ends) (σ : L2.St), ds.length = n → R ds d → (∀ v H', Same H H' → Rep K φ H' d v → D0.rt v H') → (d = .non → ∀ H', Same H H' → ∀ σ', D0.nx σ' H') → At K φ (Same H) (ds.map some ++ List.replicate m none) σ H → t D0 σ H) :
    FnOk PP w K mg base CX0 (k + 1) f fd ps (SpD K n R) := by
  refine F.ok S (fun vs H Q E h => ?_) (fun cdv A outer s H vs Q E hr h => ?_)
  · obtain ⟨φ, ds, d, hl, r, _⟩ := h
    rw [r.length, hl, hn]
  · obtain ⟨φ, ds, d, hl, r, fr, hd, q⟩ := h
    obtain ⟨t, ht, run⟩ := hbody cdv A outer s H E hr
    refine ⟨t, ht, run φ ds d H _ _ hl hd (fun v H' s r => q v H' s r) (fun e H' s σ' => q .non H' s (by rw [e]; rfl)) ⟨?_, fr, Same.refl H, Mo.sames fun _ h => h⟩⟩
    have e : N.length - vs.length = m := by rw [hm, r.length, hl]; omega
    unfold L2.start
    rw [e]
    exact SR.start r
end

theorem Frm.butP {φ : Addr → Prop} {H H' : Hp} {p s : Addr} {ns : List Int} (F : Frm φ H) (bp : ButP p H H') (po : PoolOk p s ns H') (tr : ∀ a, H a ≠ none → H' a ≠ none) : Frm φ H' := ⟨fun a h => F.new a (by
  cases e : H a with
  | none => rfl
  | some u => exact absurd h (tr a (by rw [e]; exact fun z => by cases z))), fun a xs h => by
  cases e : H a with
  | none => exact F.new a e
  | some u =>
    by_cases ea : a = p
    · subst ea
      obtain ⟨_, _, _, _, e1, _⟩ := po
      rw [e1] at h
      cases h
    · have z := bp a u ea e
      rw [h] at z
      cases z
      exact F.tup a xs e⟩
/-! ### draws -/
def spDraw : Sp := fun vs H Q _ => ∃ p s ns n, vs = [.ref p, .int n] ∧ PoolOk p s ns H ∧ s ≠ p ∧ 0 < n ∧ n < 1073741824 ∧ ∀ r H', 0 ≤ r → r < n → ButP p H H' → PoolOk p s ns H' → Q (.int r) H'
theorem butP_but {p : Addr} (h : ButP p H H') (np : ¬ φ p) {s : Addr} {ns : List Int} (o : PoolOk p s ns H') : But φ H H' := ⟨fun a u pa e => h a u (fun z => np (z ▸ pa)) e, fun a ha => by
  by_cases z : a = p
  · subst z
    obtain ⟨_, _, _, _, e, _⟩ := o
    rw [e]
    exact fun z => by cases z
  · cases e : H a with
    | none => exact absurd e ha
    | some u => rw [h a u z e]; exact fun z => by cases z⟩
theorem ev_draw {E : XK} {p s : Addr} {ns : List Int} {n : Int} {k : Nat} (hp : Pooled φ J p s ns) (hk : ρ[k]? = some (some (.raw (.ref p)))) (he : EvD K φ J te ρ (.int n)) (h0 : 0 < n) (h1 : n < 1073741824) :
    EvI K φ J (tCall spDraw [] E (tCons (tVar k) (tCons te tNil))) ρ (fun r => 0 ≤ r ∧ r < n) := fun σ H A Q q =>
  ev_var hk σ H A _ fun v d H1 b1 A1 e1 r1 => he σ H1 A1 _ fun v2 d2 H2 b2 A2 e2 r2 => by
    subst e1 e2
    cases (show v = _ from r1)
    cases (show v2 = _ from r2)
    refine ⟨p, s, ns, n, rfl, hp.ok _ A2.j, hp.ne, h0, h1, fun r H' g0 g1 bp po => ?_⟩
    have bt : But φ H2 H' := butP_but bp hp.np po
    have bt' : ∀ a, H2 a ≠ none → H' a ≠ none := bt.tr
    refine q _ (.int r) H' ((b1.trans b2).trans bt) ⟨A2.sr.up (Up.of bt), A2.fr.butP bp po bt', hp.st _ _ A2.j bp po, A2.mono.up bt'⟩ ⟨r, rfl, g0, g1⟩ rfl
/-- where the bound is drawn too -/
theorem ev_drawP {E : XK} {p s : Addr} {ns : List Int} {pn : Int → Prop} {k : Nat} (hp : Pooled φ J p s ns) (hk : ρ[k]? = some (some (.raw (.ref p)))) (he : EvI K φ J te ρ pn) (h0 : ∀ n, pn n → 0 < n ∧ n < 1073741824) :
    EvI K φ J (tCall spDraw [] E (tCons (tVar k) (tCons te tNil))) ρ (fun r => 0 ≤ r ∧ ∃ n, pn n ∧ r < n) := fun σ H A Q q =>
  ev_var hk σ H A _ fun v d H1 b1 A1 e1 r1 => he σ H1 A1 _ fun v2 d2 H2 b2 A2 ⟨n, e2, hn⟩ r2 => by
    subst e1 e2
    cases (show v = _ from r1)
    cases (show v2 = _ from r2)
    refine ⟨p, s, ns, n, rfl, hp.ok _ A2.j, hp.ne, (h0 n hn).1, (h0 n hn).2, fun r H' g0 g1 bp po => ?_⟩
    have bt : But φ H2 H' := butP_but bp hp.np po
    have bt' : ∀ a, H2 a ≠ none → H' a ≠ none := bt.tr
    refine q _ (.int r) H' ((b1.trans b2).trans bt) ⟨A2.sr.up (Up.of bt), A2.fr.butP bp po bt', hp.st _ _ A2.j bp po, A2.mono.up bt'⟩ ⟨r, rfl, g0, n, hn, g1⟩ rfl
/-! P-mode operators on ints -/
theorem ei_add {p q : Int → Prop} (ha : EvI K φ J ta ρ p) (hb : EvI K φ J tb ρ q) : EvI K φ J (tOp (rI0 fun i j => .int (i + j)) ta tb) ρ (fun k => ∃ i j, p i ∧ q j ∧ k = i + j) := ev_op ha hb fun x y ⟨i, e1, pi⟩ ⟨j, e2, qj⟩ => by
  subst e1 e2
  exact fun H v w _ r1 r2 Q k => ⟨i, j, r1, r2, k _ _ H (Same.refl H) ⟨_, rfl, i, j, pi, qj, rfl⟩ rfl⟩
theorem ei_sub {p q : Int → Prop} (ha : EvI K φ J ta ρ p) (hb : EvI K φ J tb ρ q) : EvI K φ J (tOp (rI0 fun i j => .int (i - j)) ta tb) ρ (fun k => ∃ i j, p i ∧ q j ∧ k = i - j) := ev_op ha hb fun x y ⟨i, e1, pi⟩ ⟨j, e2, qj⟩ => by
  subst e1 e2
  exact fun H v w _ r1 r2 Q k => ⟨i, j, r1, r2, k _ _ H (Same.refl H) ⟨_, rfl, i, j, pi, qj, rfl⟩ rfl⟩
theorem ei_mul {p q : Int → Prop} (ha : EvI K φ J ta ρ p) (hb : EvI K φ J tb ρ q) (hc : ∀ i j, p i → q j → CMul i j) : EvI K φ J (tOp (rI CMul fun i j => .int (i * j)) ta tb) ρ (fun k => ∃ i j, p i ∧ q j ∧ k = i * j) := ev_op ha hb fun x y ⟨i, e1, pi⟩ ⟨j, e2, qj⟩ => by
  subst e1 e2
  exact fun H v w _ r1 r2 Q k => ⟨i, j, r1, r2, hc i j pi qj, k _ _ H (Same.refl H) ⟨_, rfl, i, j, pi, qj, rfl⟩ rfl⟩
theorem eb_cmp {f : Int → Int → Bool} {p q : Int → Prop} (ha : EvI K φ J ta ρ p) (hb : EvI K φ J tb ρ q) : EvB K φ J (tOp (rI0 fun i j => .bl (f i j)) ta tb) ρ (fun k => ∃ i j, p i ∧ q j ∧ k = f i j) := ev_op ha hb fun x y ⟨i, e1, pi⟩ ⟨j, e2, qj⟩ => by
  subst e1 e2
  exact fun H v w _ r1 r2 Q k => ⟨i, j, r1, r2, k _ _ H (Same.refl H) ⟨_, rfl, i, j, pi, qj, rfl⟩ rfl⟩
theorem eb_eq {p q : Int → Prop} (ha : EvI K φ J ta ρ p) (hb : EvI K φ J tb ρ q) : EvB K φ J (tOp rEq ta tb) ρ (fun k => ∃ i j, p i ∧ q j ∧ k = decide (i = j)) := ev_op ha hb fun x y ⟨i, e1, pi⟩ ⟨j, e2, qj⟩ => by
  subst e1 e2
  exact fun H v w f r1 r2 Q k => o2_eqI (φ := φ) (K := K) H v w f r1 r2 Q fun u z H' s e r => k u z H' s ⟨_, e, i, j, pi, qj, rfl⟩ r
theorem ei_intB {p : Bool → Prop} (ha : EvB K φ J te ρ p) : EvI K φ J (tCB rInt1 (tCons te tNil)) ρ (fun k => ∃ b, p b ∧ k = if b then 1 else 0) := ev_cb (ea_consP ha ea_nil) fun ds ⟨d, r, e, ⟨b, e1, pb⟩, e2⟩ => by
  subst e e1 e2
  exact fun H vs f r Q k => cl_intB (K := K) (φ := φ) H vs f r Q fun u z H' s e r => k u z H' s ⟨_, e, b, pb, rfl⟩ r
end
end DL
namespace DL
open PySem PySem.Spec PyProof.Rows L2

/-- a def of the top as others call it -/
structure Lk (K : PySem.W.Frag) (mg : Str → Option Value) (x : Str) (f : Addr) (fd : FuncData) (ps : List Str) : Prop where
  m : mg x = some (.ref f)
  kp : PySem.W.keepIn K (.ref f) = true
  bi : Binds K fd ps []
section
variable {X : Cx} {x : Str} {pos : Pos}
/-- a built-in class as a value -/
theorem pe_ty {n : String} (hm : X.mg x = none) (hv : bootBuiltins x = some (.type n)) (hg : Gl X x := by rfl) (hn : x ≠ "__name__" := by decide) (hd : (x == ("__debug__" : Str)) = false := by decide) : PE X (.Name x pos) (tC (.ty n)) := pe_bltn hg hm hv rfl hn hd
/-- a constant of the module -/
theorem pe_cst {v : V} (h : ∃ u, X.mg x = some u ∧ RelV v u) (hg : Gl X x := by rfl) (hd : (x == ("__debug__" : Str)) = false := by decide) : PE X (.Name x pos) (tC v) := by
  obtain ⟨u, hm, r⟩ := h
  exact pe_glob hg hm r hd
end

def Stab (p : Addr) (J : Hp → Prop) : Prop := ∀ H o, J H → J (L2.upd H p o)
theorem Stab.and {p : Addr} {J J' : Hp → Prop} (a : Stab p J) (b : Stab p J') : Stab p (fun H => J H ∧ J' H) := fun H o h => ⟨a H o h.1, b H o h.2⟩
theorem Stab.but {p : Addr} {φ : Addr → Prop} {H0 : Hp} (h : ¬ φ p ∨ H0 p = none) : Stab p (But φ H0) := fun H o b => ⟨fun a u pa e => by
  have ne : a ≠ p := fun z => h.elim (fun n => n (z ▸ pa)) fun n => by rw [z, n] at e; cases e
  rw [upd_ne ne]
  exact b.keep a u pa e, fun a h => upd_tr a (b.tr a h)⟩
theorem Stab.at {p l : Addr} {u : HO} (h : l ≠ p) : Stab p (fun H => H l = some u) := fun H o e => by
  show L2.upd H p o l = some u
  rw [upd_ne h]
  exact e
theorem Stab.of {p : Addr} {J : Hp → Prop} {H0 : Hp} (m : Mo H0 J) (h : H0 p = none) : Stab p J := fun H o j => m H _ (fun a u ha e => by
  rw [upd_ne (show a ≠ p from fun z => ha (by rw [z]; exact h))]
  exact e) j

section
variable {K : PySem.W.Frag} {φ φ' : Addr → Prop} {J J' : Hp → Prop} {H H' H1 : Hp} {ρ ρ' : List (Option D)} {σ : L2.St} {ta tb te tc : TE} {x y z d : D} {P Pa Pb Pc : D → Prop} {i j : Int} {b c : Bool} {ds es : List D} {v : V} {vs : List V} {a : Addr} {D0 : Ends} {t u : TS}
/-- a new list comes out -/
def EvN (K : PySem.W.Frag) (φ : Addr → Prop) (J : Hp → Prop) (te : TE) (ρ : List (Option D)) (P : List D → Prop) : Prop := ∀ σ H, At K φ J ρ σ H → ∀ Q : VK, (∀ p vs ds H0 H', But φ H H0 → At K φ J ρ σ H0 → H0 p = none → But φ H0 H' → At K φ J ρ σ H' → P ds → H' p = some (.lst vs) → Reps K (fun a => φ a ∧ a ≠ p) H' ds vs → Q (.ref p) H') → te σ H Q
theorem ev_new {P : List D → Prop} (h : EvN K φ J te ρ P) : EvP K φ J te ρ (fun z => ∃ ds, z = .lst ds ∧ P ds) := fun σ H A Q q => h σ H A Q fun p vs ds H0 H' b0 A0 hp b A' pd e r =>
  q _ (.lst ds) H' (b0.trans b) A' ⟨ds, rfl, pd⟩ ⟨p, vs, rfl, .inl ⟨A0.fr p hp, .inl e⟩, Reps.up (fun a o p e => ⟨p.1, e⟩) ds vs r⟩
theorem ev_newD (h : EvN K φ J te ρ (fun x => x = ds)) : EvD K φ J te ρ (.lst ds) := (ev_new h).imp fun z ⟨ds', e, e2⟩ => by rw [e, e2]
theorem reps_new {p : Addr} {o : HO} (hp : H p = none) (r : Reps K φ H ds vs) : Reps K (fun a => φ a ∧ a ≠ p) (L2.upd H p o) ds vs :=
  Reps.up (fun a u q e => ⟨⟨q, ne_of_none e hp⟩, by rw [upd_ne (ne_of_none e hp)]; exact e⟩) ds vs r
theorem en_lst {ta : TA} {Pr : List D → Prop} (ha : EvA K φ J ta ρ Pr) (hl : ∀ r, Pr r → r.length ≤ 1000000) : EvN K φ J (tLst ta) ρ Pr := fun σ H A Q q =>
  ha σ H A _ fun vs ds H1 b1 A1 pd r1 => ⟨by rw [r1.length]; exact sz (hl _ pd), fun p hp => q p vs ds H1 _ b1 A1 hp (But.of (same_new hp)) (A1.same (same_new hp)) pd upd_same (reps_new hp r1)⟩
theorem en_lstD {ta : TA} (ha : EvAD K φ J ta ρ ds) (hl : ds.length ≤ 1000000 := by first | exact Nat.le_of_ble_eq_true rfl | decide) : EvN K φ J (tLst ta) ρ (fun x => x = ds) := en_lst ha fun r e => by rw [e]; exact hl
theorem en_list (ha : EvD K φ J te ρ (.lst ds)) : EvN K φ J (tCB (rListOf K) (tCons te tNil)) ρ (fun x => x = ds) := fun σ H A Q q => ha σ H A _ fun v d H1 b1 A1 e r => by
  subst e
  obtain ⟨a, vs, rfl, p, rs⟩ := rep_lst r
  exact ⟨a, vs, rfl, .inl p.sq, fun l hl => q l vs ds H1 _ b1 A1 hl (But.of (same_new hl)) (A1.same (same_new hl)) rfl upd_same (reps_new hl rs)⟩
theorem en_listT (ha : EvD K φ J te ρ (.tup ds)) : EvN K φ J (tCB (rListOf K) (tCons te tNil)) ρ (fun x => x = ds) := fun σ H A Q q => ha σ H A _ fun v d H1 b1 A1 e r => by
  subst e
  obtain ⟨a, vs, rfl, p, rs⟩ := rep_tup r
  exact ⟨a, vs, rfl, .inr p.sq, fun l hl => q l vs ds H1 _ b1 A1 hl (But.of (same_new hl)) (A1.same (same_new hl)) rfl upd_same (reps_new hl rs)⟩
theorem en_lcP {wi : TI} {g : TG} {tt : TT} {te : TE} {ws us : List Nat} {Pi : List D → Prop} {ρd : D → List (Option D)} {pt : D → Bool → Prop} {pe : D → D → Prop} (hi : IterP K φ J wi ρ Pi) (hl : ∀ ds, Pi ds → ds.length ≤ 1000000) (hu : ∀ i ∈ us, i ∈ ws)
    (hg : ∀ ds, Pi ds → ∀ d ∈ ds, EvG K g d (wipeR ρ ws) (ρd d) us)
    (ht : ∀ ds, Pi ds → ∀ d ∈ ds, ∀ φ' J', Ext φ J φ' J' → EvT K φ' J' tt (ρd d) (pt d))
    (he : ∀ ds, Pi ds → ∀ d ∈ ds, pt d true → ∀ φ' J', Ext φ J φ' J' → EvP K φ' J' te (ρd d) (pe d)) :
    EvN K φ J (tLc wi g tt te ws) ρ (fun ys => ∃ ds, Pi ds ∧ Comp pt pe ds ys) := fun σ H A Q q => by
  refine hi σ H A _ fun J0 ds H1 b1 A1 pd w => ?_
  intro D0 hD
  have neP : ∀ p s ns, Pooled φ J p s ns → p ≠ D0 := fun p s ns hp => by
    obtain ⟨a1, a2, a3, a4, h1, _⟩ := hp.ok _ A1.j
    exact ne_of_none h1 hD
  let φ' : Addr → Prop := fun a => φ a ∧ a ≠ D0
  have ext : ∀ acc : List V, Ext φ J φ' (fun H => J H ∧ H D0 = some (.lst acc)) := fun acc => ⟨fun _ h => h.1, fun p s ns hp => ⟨fun z => hp.np z.1, hp.ne, fun H h => hp.ok H h.1, fun H H' h k o => ⟨hp.st H H' h.1 k o, k _ _ (neP p s ns hp).symm h.2⟩⟩, fun a p h => ⟨p, fun e => h H1 A1.j (by rw [e]; exact hD)⟩⟩
  have mono : ∀ (acc : List V) (H2 : Hp), (∀ a, H1 a ≠ none → H2 a ≠ none) → H2 D0 ≠ none → Mo H2 (fun H => J H ∧ H D0 = some (.lst acc)) := fun acc H2 s h => (A1.mono.up s).and (Mo.at h)
  refine ⟨fun i m H2 => m = ds.length - i ∧ i ≤ ds.length ∧ But φ H1 H2 ∧ ∃ acc ys, Reps K φ' H2 ys acc ∧ Comp pt pe (ds.take i) ys ∧ At K φ' (fun H => J H ∧ H D0 = some (.lst acc)) (wipeR ρ ws) (L2.wipe σ ws) H2,
    ⟨ds.length, rfl, Nat.zero_le _, But.of (same_new hD), [], [], Reps.nil, .nil, ?_⟩, ?_⟩
  · have A2 := A1.newLive (o := .lst []) (J' := fun H => J H ∧ H D0 = some (.lst [])) hD ⟨A1.mono _ _ (fun a o _ e => same_new hD a o e) A1.j, upd_same⟩ (mono [] _ upd_tr (by rw [upd_same]; exact fun z => by cases z))
    exact ⟨A2.sr.wipe ws, A2.fr, A2.j, A2.mono⟩
  · rintro i m H2 ⟨rfl, hi, b2, acc, ys, rs, cp, A2⟩
    have upw : Up φ φ' H1 H2 := fun a o p e => ⟨⟨p, ne_of_none e hD⟩, b2.keep a o p e⟩
    have fr2 : Frm φ' H2 := A2.fr
    obtain ⟨wg, wstop⟩ := w φ' i H2 upw fr2
    by_cases hlt : i < ds.length
    · have hd : ds[i]? = some ds[i] := List.getElem?_eq_getElem hlt
      obtain ⟨go, yl⟩ := wg _ hd
      refine .inr ⟨go, fun H3 => But φ H1 H3 ∧ ∃ acc ys, Reps K φ' H3 ys acc ∧ Comp pt pe (ds.take (i + 1)) ys ∧ At K φ' (fun H => J H ∧ H D0 = some (.lst acc)) (wipeR ρ ws) (L2.wipe σ ws) H3, ?_, ?_⟩
      · rintro H3 ⟨b3, acc3, ys3, r3, c3, A3⟩
        exact ⟨ds.length - (i + 1), by omega, rfl, hlt, b3, acc3, ys3, r3, c3, A3⟩
      · intro x H3 hy
        obtain ⟨s3, r3⟩ := yl x H3 hy
        have A3 := A2.same s3
        have rs3 := rs.mono (But.of (φ := φ') s3)
        have b3 : But φ H1 H3 := b2.trans (But.of s3)
        have hmem : ds[i] ∈ ds := List.getElem_mem hlt
        have tk : ds.take (i + 1) = ds.take i ++ [ds[i]] := by rw [List.take_add_one, hd]; rfl
        refine hg ds pd _ hmem φ' _ _ H3 x A3 r3 _ fun σ4 A4 hw4 => ⟨?_, ?_⟩
        · rw [hw4 ws hu]
          exact wipe_wipe ws
        · refine ht ds pd _ hmem φ' _ (ext acc) σ4 H3 A4 _ fun bb H5 b5 A5 hp => ?_
          have b35 : But φ H1 H5 := ⟨fun a o p e => b5.keep a o ⟨p, ne_of_none e hD⟩ (b3.keep a o p e), fun a h => b5.tr a (b3.tr a h)⟩
          have A5' : At K φ' (fun H => J H ∧ H D0 = some (.lst acc)) (wipeR ρ ws) (L2.wipe σ ws) H5 := ⟨A3.sr.up (Up.of b5), A5.fr, A5.j, A5.mono⟩
          cases bb with
          | false =>
            rw [if_neg (by simp)]
            exact ⟨b35, acc, ys, rs3.mono b5, by rw [tk]; exact cp.snoc0 hp, A5'⟩
          | true =>
            rw [if_pos rfl]
            refine he ds pd _ hmem hp φ' _ (ext acc) σ4 H5 A5 _ fun v d H6 b6 A6 pv r6 => ?_
            have rl := (rs3.mono b5).mono b6
            have nD : ¬ φ' D0 := fun z => z.2 rfl
            have cl := cp.len
            refine ⟨acc, A6.j.2, ?_, ?_, acc ++ [v], ys ++ [d], ?_, by rw [tk]; exact cp.snoc1 hp pv, ?_⟩
            · rw [rl.length]
              have h1 := hl ds pd
              rw [List.length_take] at cl
              exact szlt (by omega)
            · refine ⟨fun a o p e => ?_, fun a h => upd_tr a (b6.tr a (b35.tr a h))⟩
              have ne := ne_of_none e hD
              rw [upd_ne ne]
              exact b6.keep a o ⟨p, ne⟩ (b35.keep a o p e)
            · exact (rl.append (Reps.cons r6 Reps.nil)).mono ((But.refl φ' H6).upd nD)
            · have A6' : At K φ' (fun H => J H ∧ H D0 = some (.lst acc)) (wipeR ρ ws) (L2.wipe σ ws) H6 := ⟨A5'.sr.up (Up.of b6), A6.fr, A6.j, A6.mono⟩
              have jj : J (upd H6 D0 (.lst (acc ++ [v]))) := A1.mono H6 _ (fun a o h e => by
                rw [upd_ne (show a ≠ D0 from fun z => h (by rw [z]; exact hD))]
                exact e) A6.j.1
              exact A6'.upd nD ⟨jj, upd_same⟩ (mono _ _ (fun a h => upd_tr a (b6.tr a (b35.tr a h))) (by rw [upd_same]; exact fun z => by cases z))
    · have e : i = ds.length := by omega
      subst e
      refine .inl ⟨wstop rfl, ?_⟩
      rw [List.take_length] at cp
      have A3 : At K φ J ρ σ H2 := ⟨A1.sr.up (Up.of b2), A2.fr.fst, A2.j.1, A1.mono.up b2.tr⟩
      exact q D0 acc ys H1 H2 b1 A1 hD b2 A3 ⟨ds, pd, cp⟩ A2.j.2 rs
theorem en_lc {wi : TI} {te : TE} {k : Nat} {f : D → D} (hi : IterD K φ J wi ρ ds) (hl : ds.length ≤ 1000000) (he : ∀ d ∈ ds, ∀ φ' J', Ext φ J φ' J' → EvD K φ' J' te ((wipeR ρ [k]).set k (some d)) (f d)) :
    EvN K φ J (tLc wi (gName k) tYes te [k]) ρ (fun x => x = ds.map f) := fun σ H A Q q =>
  (en_lcP (ρd := fun d => (wipeR ρ [k]).set k (some d)) (us := [k]) (pt := fun _ b => b = true) (pe := fun d y => y = f d) hi (fun ds' e => by rw [e]; exact hl) (fun _ h => h) (fun _ _ d _ => eg_name)
    (fun _ _ d _ φ' J' _ => et_yes) (fun ds' e d hd _ φ' J' x => he d (e ▸ hd) φ' J' x)) σ H A Q fun p vs ys H0 H' b0 A0 hp b A' pd e r => by
      obtain ⟨ds', e1, c⟩ := pd
      subst e1
      exact q p vs ys H0 H' b0 A0 hp b A' c.map e r
theorem en_lcE {wi : TI} {te : TE} {k : Nat} {Pi : List D → Prop} {pe : D → D → Prop} (hi : IterP K φ J wi ρ Pi) (hl : ∀ ds, Pi ds → ds.length ≤ 1000000) (he : ∀ ds, Pi ds → ∀ d ∈ ds, ∀ φ' J', Ext φ J φ' J' → EvP K φ' J' te ((wipeR ρ [k]).set k (some d)) (pe d)) :
    EvN K φ J (tLc wi (gName k) tYes te [k]) ρ (fun ys => ∃ ds, Pi ds ∧ Comp (fun _ b => b = true) pe ds ys) :=
  en_lcP (ρd := fun d => (wipeR ρ [k]).set k (some d)) (us := [k]) hi hl (fun _ h => h) (fun _ _ d _ => eg_name) (fun _ _ d _ φ' J' _ => et_yes) (fun ds' e d hd _ φ' J' x => he ds' e d hd φ' J' x)
/-- xs + ys, both new -/
theorem en_cat (ha : EvN K φ J ta ρ (fun x => x = ds)) (hb : EvN K φ J tb ρ (fun x => x = es)) (hz : ds.length + es.length ≤ 1000000) : EvN K φ J (tOp rCat ta tb) ρ (fun x => x = ds ++ es) := fun σ H A Q q =>
  ha σ H A _ fun p vs ds' H0 H1 b0 A0 hp b1 A1 pd e1 r1 => hb σ H1 A1 _ fun p2 ws es' H2 H3 b2 A2 hp2 b3 A3 pe e3 r3 => by
    subst pd pe
    have e1' : H3 p = some (.lst vs) := b3.keep _ _ (A0.fr p hp) (b2.keep _ _ (A0.fr p hp) e1)
    have r1' : Reps K φ H3 ds' vs := (Reps.up (fun a o q e => ⟨q.1, e⟩) ds' vs r1).mono (b2.trans b3)
    have r3' : Reps K φ H3 es' ws := Reps.up (fun a o q e => ⟨q.1, e⟩) es' ws r3
    refine ⟨p, p2, vs, ws, rfl, rfl, e1', e3, by rw [r1.length, r3.length]; exact sz hz, fun p4 hp4 => ?_⟩
    exact q p4 _ _ H3 _ (((b0.trans b1).trans b2).trans b3) A3 hp4 (But.of (same_new hp4)) (A3.same (same_new hp4)) rfl upd_same (reps_new hp4 (r1'.append r3'))
/-- x = a new list; it is live from then on -/
theorem st_new {k : Nat} {P : List D → Prop} (A : At K φ J ρ σ H) (h : EvN K φ J te ρ P) (kk : ∀ p vs ds σ' H', P ds → H p = none → φ p → Reps K (fun a => φ a ∧ a ≠ p) H' ds vs → Stab p J → (∀ s ps ns, Pooled φ J ps s ns → ps ≠ p ∧ s ≠ p) → But φ H H' → H' p = some (.lst vs) →
    At K (fun a => φ a ∧ a ≠ p) (fun H => (J H ∧ H p = some (.lst vs)) ∧ But (fun a => φ a ∧ a ≠ p) H' H) (ρ.set k (some (.raw (.ref p)))) σ' H' → D0.nx σ' H') : tAsg te (gName k) D0 σ H :=
  h σ H A _ fun p vs ds H0 H' b0 A0 hp b A' pd e r => by
    have hpH : H p = none := by
      cases z : H p with
      | none => rfl
      | some u => exact absurd hp (b0.tr p (by rw [z]; exact fun w => by cases w))
    have st : Stab p J := Stab.of A0.mono hp
    have neP : ∀ s ps ns, Pooled φ J ps s ns → ps ≠ p ∧ s ≠ p := fun s ps ns hq => by
      obtain ⟨a1, a2, a3, a4, h1, h2⟩ := hq.ok _ A0.j
      exact ⟨ne_of_none h1 hp, ne_of_none h2.1 hp⟩
    have u : Up φ (fun a => φ a ∧ a ≠ p) H H' := fun a o q e2 => ⟨⟨q, ne_of_none e2 hpH⟩, (b0.trans b).keep a o q e2⟩
    have sr : SR K (fun a => φ a ∧ a ≠ p) H' ρ σ := A.sr.up u
    have A2 : At K (fun a => φ a ∧ a ≠ p) (fun H => (J H ∧ H p = some (.lst vs)) ∧ But (fun a => φ a ∧ a ≠ p) H' H) ρ σ H' :=
      ⟨sr, A'.fr.at e (fun xs h => nomatch h), ⟨⟨A'.j, e⟩, But.refl _ _⟩, (A'.mono.and (Mo.at (by rw [e]; exact fun w => by cases w))).and (Mo.but fun _ h => h)⟩
    exact kk p vs ds _ H' pd hpH (A0.fr p hp) r st neP (b0.trans b) e (A2.set k rfl)
/-- .append on a live list -/
theorem st_app {k : Nat} {l : Addr} (A : At K φ J ρ σ H) (hk : ρ[k]? = some (some (.raw (.ref l)))) (hv : ∀ H, J H → H l = some (.lst vs)) (he : EvP K φ J te ρ P) (hz : vs.length ≤ 1000000)
    (kk : ∀ v d H', P d → Rep K φ H' d v → But φ H H' → At K φ J ρ σ H' → D0.nx σ (L2.upd H' l (.lst (vs ++ [v])))) : tDrop (tBM K "list" rAppend (tVar k) (tCons te tNil)) D0 σ H := by
  obtain ⟨w, e, r⟩ := A.sr.2 k _ hk
  cases (show w = _ from r)
  refine ⟨_, e, .inl ⟨rfl, _, SqL.of (hv H A.j)⟩, he σ H A _ fun v d H' b A' pd r' => ⟨l, vs, v, rfl, rfl, hv H' A'.j, szlt hz, kk v d H' pd r' b A'⟩⟩
/-- len of a live list -/
theorem ev_lenLive {l : Addr} (hk : EvD K φ J ta ρ (.raw (.ref l))) (hv : ∀ H, J H → H l = some (.lst vs)) : EvD K φ J (tCB (rLen K) (tCons ta tNil)) ρ (.int vs.length) := fun σ H A Q q =>
  hk σ H A _ fun v d H1 b1 A1 e1 r1 => by
    subst e1
    cases (show v = _ from r1)
    exact ⟨l, vs, rfl, .inl (SqL.of (hv H1 A1.j)), q _ _ H1 b1 A1 rfl rfl⟩
/-- a live list's item -/
theorem ev_ixLive {l : Addr} (hk : EvD K φ J ta ρ (.raw (.ref l))) (hb : EvD K φ J tb ρ (.int i)) (hv : ∀ H, J H → ∃ vs, H l = some (.lst vs) ∧ ∃ v, atI vs i = some v ∧ Rep K φ H d v) : EvD K φ J (tOp (rIxL K) ta tb) ρ d := fun σ H A Q q =>
  hk σ H A _ fun v x H1 b1 A1 e1 r1 => hb σ H1 A1 _ fun w y H2 b2 A2 e2 r2 => by
    subst e1 e2
    cases (show v = _ from r1)
    cases (show w = _ from r2)
    obtain ⟨vs, e, u, hu, ru⟩ := hv H2 A2.j
    exact ⟨l, vs, i, u, rfl, rfl, SqL.of e, hu, q u d H2 (b1.trans b2) A2 rfl ru⟩
/-- xs[i] = e on a live list -/
theorem st_setL {k n : Nat} {l : Addr} (A : At K φ J ρ σ H) (he : EvP K φ J te ρ P) (hk : ρ[k]? = some (some (.raw (.ref l)))) (hi : EvD K φ J tb ρ (.int i)) (hv : ∀ H, J H → H l = some (.lst vs)) (hj : ixN vs.length i = some n)
    (kk : ∀ v d H', P d → Rep K φ H' d v → But φ H H' → At K φ J ρ σ H' → D0.nx σ (L2.upd H' l (.lst (vs.set n v)))) : tAsg te (gSub (tVar k) tb rSetL) D0 σ H :=
  he σ H A _ fun v d H1 b1 A1 pd r1 => ev_var hk σ H1 A1 _ fun w x H2 b2 A2 e2 r2 => hi σ H2 A2 _ fun u y H3 b3 A3 e3 r3 => by
    subst e2 e3
    cases (show w = _ from r2)
    cases (show u = _ from r3)
    exact ⟨l, vs, i, n, rfl, rfl, hv H3 A3.j, hj, kk v d H3 pd ((r1.mono b2).mono b3) ((b1.trans b2).trans b3) A3⟩
/-- a subscript of a tuple or a list -/
def seqOf : D → Option (List D)
  | .tup ds => some ds
  | .lst ds => some ds
  | _ => none
theorem ev_ixQ (ha : EvD K φ J ta ρ x) (hx : seqOf x = some ds) (hb : EvD K φ J tb ρ (.int i)) (e : L2.atI ds i = some d) : EvD K φ J (tOp (rIx K) ta tb) ρ d := ev_opD ha hb fun H v w f r1 r2 Q q => by
  cases x with
  | tup es =>
    cases hx
    exact .inr (.inl (o2_ixT (φ := φ) e H v w f r1 r2 Q q))
  | lst es =>
    cases hx
    exact .inl (o2_ixL (φ := φ) e H v w f r1 r2 Q q)
  | _ => cases hx
theorem q_cut {M : L2.St → Hp → Prop} (h : t { D0 with nx := M } σ H) (k : ∀ σ' H', M σ' H' → u D0 σ' H') : C8.tCut t u D0 σ H := ⟨M, h, k⟩
theorem ev_lenQ (ha : EvD K φ J te ρ x) (hx : seqOf x = some ds) : EvD K φ J (tCB (rLen K) (tCons te tNil)) ρ (.int ds.length) := by
  cases x with
  | tup es => cases hx; exact ev_lenT ha
  | lst es => cases hx; exact ev_lenL ha
  | _ => cases hx
end
end DL
namespace DL
open PySem PySem.Spec PyProof.Rows L2
def top (i : Nat) : Stmt := PySem.Challenge.pw_airwave_k71_masks_of_two_radios.main.body.getD i (.Pass ⟨0, 0, 0, 0⟩)
abbrev s_is_integer : Stmt := top 1
abbrev s_is_point : Stmt := top 3
abbrev s_is_mask : Stmt := top 4
abbrev s_loss_at : Stmt := top 5
abbrev s_first_offset : Stmt := top 6
abbrev s_both_masks : Stmt := top 7
abbrev s_scaled : Stmt := top 8
abbrev s_guard : Stmt := top 9
abbrev s__law_same : Stmt := top 11
abbrev s__law_is_integer : Stmt := top 12
abbrev s__law_pool : Stmt := top 13
abbrev s__law_spread : Stmt := top 14
abbrev s__law_draw : Stmt := top 15
abbrev s__law_mask : Stmt := top 16
abbrev s__law_loss : Stmt := top 17
abbrev s_law : Stmt := top 18
-- import KE.GoesEnumKw
-- import HandS.SortKw
/-! ### enumerate over a list or a tuple, from any count -/
section
variable {P : Program} {w : World} {K : PySem.W.Frag}
def Itn (Sq : Hp → List V → Prop) (k : Int) : It :=
  ⟨fun i H => ∃ (xs : List V) (x : V), Sq H xs ∧ xs[i]? = some x, fun i H v H' => ∃ T x, v = .ref T ∧ H T = none ∧ H' = upd H T (.tup [.int (k + (i : Nat)), x]) ∧ ∀ xs, Sq H xs → xs[i]? = some x, fun i H => ∃ xs : List V, Sq H xs ∧ xs.length = i⟩
structure EnSrc (P : Program) (w : World) (K : PySem.W.Frag) (a it : Addr) (Sq : Hp → List V → Prop) (Ho : Heap → Array Value → Prop) (Is : Nat → Heap → Prop) : Prop where
  src : ∀ (X : Cx) pins σ H s xs, X.K = K → Inv X pins σ H s → Sq H xs → ∃ its : List Value, Vals xs its ∧ Ho s.heap its.toArray ∧ xs.length ≤ sizeLine
  inj : ∀ (X : Cx) pins σ H s xs ys, X.K = K → Inv X pins σ H s → Sq H xs → Sq H ys → xs = ys
  draws : ∀ (A : Around) (items : Array Value), A.handled = none → a ≠ it → Draws P w A it [it, a] items.size (fun i v => items[i]? = some v) (fun i h => Is i h ∧ Ho h items)
  at' : ∀ i h h', Is i h → (∀ o, h.get? it = some o → h'.get? it = some o) → Is i h'
  live : ∀ i h, Is i h → ∃ o, h.get? it = some o ∧ (∀ v, o.data ≠ .cell v)
  ne : ∀ i h items, Is i h → Ho h items → a ≠ it
  nea : ∀ h items e c old, Ho h items → IsEnum h e it c old → e ≠ a
  nei : ∀ i h e c old, Is i h → IsEnum h e it c old → e ≠ it
theorem turn_enumN {elts : List Expr} {kk : Nat} {tpos : Pos} {a e it : Addr} {Sq : Hp → List V → Prop} {Ho : Heap → Array Value → Prop} {Is : Nat → Heap → Prop} (k : Int) (Z : EnSrc P w K a it Sq Ho Is) :
    Turn P w K (.Tuple elts kk tpos) (Itn Sq k) [e, it] e (fun i h => (∃ old, IsEnum h e it (k + ((i : Nat) : Int)) old) ∧ Is i h) where
  mem := by simp
  obj := fun i h st b hb => by
    obtain ⟨⟨old, he⟩, hi⟩ := st
    obtain ⟨o, ho, hd⟩ := Z.live i h hi
    have e' : b = e ∨ b = it := by simpa using hb
    rcases e' with z | z
    · rw [z]; exact ⟨_, he, fun v q => nomatch q⟩
    · rw [z]; exact ⟨o, ho, hd⟩
  keep := fun i h h' st kp => ⟨let ⟨old, he⟩ := st.1; ⟨old, kp e (by simp) _ he⟩, Z.at' i h h' st.2 fun o q => kp it (by simp) o q⟩
  item := by
    intro X hP hw hK hc i pins s σ H E I hf st hg
    obtain ⟨⟨old, he⟩, hit⟩ := st
    obtain ⟨xs, x, hq, hx⟩ := hg
    obtain ⟨its, rv, p, hz⟩ := Z.src X pins σ H s xs hK I hq
    obtain ⟨u, hu, ru⟩ := rv.get hx
    have hne : e ≠ it := Z.nei i _ e _ _ hit he
    have hea : e ≠ a := Z.nea _ _ e _ _ p he
    have hel : e < s.heap.objs.size := Heap.lt_size he
    have hil : it < s.heap.objs.size := by obtain ⟨_, q, _⟩ := Z.live i _ hit; exact Heap.lt_size q
    have hilt : i < its.toArray.size := by
      have := (List.getElem?_eq_some_iff.mp hu).1
      simpa using this
    subst hP hw
    refine wpAny_pyNext_enum_itemC (Z.draws X.A.in1 its.toArray (I.ok.hd hc) (Z.ne i _ _ hit p)) he ⟨hit, p⟩ hilt hne (by simp [hne, hea]) fun u' h' tk hP' ho hit' hT hsz hk => ?_
    have hu' : u' = u := by
      have : its.toArray[i]? = some u := by simpa using hu
      rw [this] at hP'
      exact (Option.some.inj hP').symm
    subst hu'
    refine ⟨_, rfl, wpAny_letOwnedTupleGo_enum (s := { s with heap := h', toks := tk + 1 }) ho fun h'' he' sb => ?_⟩
    have hT2 : h''.get? s.heap.objs.size = some { cls := .type "tuple", data := .seq #[.int (k + (i : Int)) tk, u'] } := (sb.2 _ (Nat.ne_of_gt hel)).trans hT
    have new : ObjOk X.prog X.w (upd H s.heap.objs.size (.tup [.int (k + (i : Nat)), x])) h'' s.heap.objs.size (.tup [.int (k + (i : Nat)), x]) :=
      ⟨by show 2 ≤ sizeLine; decide, [.int (k + (i : Int)) tk, u'], .cons ⟨_, rfl⟩ (.cons ru .nil), ⟨_, hT2, rfl, _, rfl⟩⟩
    have I1 : Inv X pins σ (upd H s.heap.objs.size (.tup [.int (k + (i : Nat)), x])) { s with heap := h'', toks := tk + 1 } :=
      I.turnedNew (ch := [e, it]) (fun b ob hb q => (sb.2 b (fun z => hb (by simp [z]))).trans (hk b ob (fun z => hb (by simp [z])) (fun z => hb (by simp [z])) q)) hf (Nat.le_refl _) new
    refine ⟨.ref s.heap.objs.size, _, I1, rfl, ⟨_, x, rfl, I.hok.fresh (Nat.le_refl _), rfl, fun ys hy => by rw [Z.inj X pins σ H s ys xs hK I hy hq]; exact hx⟩, ⟨⟨u', ?_⟩, Z.at' _ _ _ hit'.1 fun o q => (sb.2 it (Ne.symm hne)).trans q⟩, fun b hb => ?_⟩
    · have e1 : k + ((i + 1 : Nat) : Int) = k + (i : Int) + 1 := by omega
      rw [e1]; exact he'
    · have hb' : b < s.heap.objs.size := by
        have e' : b = e ∨ b = it := by simpa using hb
        rcases e' with z | z
        · rw [z]; exact hel
        · rw [z]; exact hil
      rw [upd_ne (Nat.ne_of_lt hb')]
      exact (hf b hb).1
  done := by
    intro X hP hw hK hc i pins s σ H E I hf st hg
    obtain ⟨⟨old, he⟩, hit⟩ := st
    obtain ⟨xs, hq, hx⟩ := hg
    obtain ⟨its, rv, p, hz⟩ := Z.src X pins σ H s xs hK I hq
    obtain ⟨f0, f1, f2, f3, f4, f5⟩ := hf it (by simp)
    have hl := rv.length
    have en : i = its.toArray.size := by rw [List.size_toArray]; omega
    subst hP hw
    exact wpAny_pyNext_enum_endD (Z.draws X.A.in1 its.toArray (I.ok.hd hc) (Z.ne i _ _ hit p)) he ⟨en ▸ hit, p⟩ fun h' eb => ⟨rfl, I.turned (t' := s.toks) (fun b o hb q => eb b o hb q) f0 f1 f3 f4 f5⟩
  self := fun A i s Q E st h => let ⟨⟨_, he⟩, _⟩ := st; wpAny_pyIter_enum he h
theorem apart_of {h : Heap} {a b : Addr} {o u : Obj} (h1 : h.get? a = some o) (h2 : h.get? b = some u) (hc : o.cls ≠ u.cls) : a ≠ b := fun e => by
  subst e
  rw [h1] at h2
  cases h2
  exact hc rfl
theorem enSrc_list (a it : Addr) : EnSrc P w K a it (fun H xs => SqL K H a xs) (fun h its => h.IsList a its) (fun i h => h.IsListIter it a i) where
  src := fun X pins σ H s xs hK I h => by
    subst hK
    obtain ⟨its, rv, p, hz⟩ := I.list h
    exact ⟨its, rv, p.isList, hz⟩
  inj := fun X pins σ H s xs ys hK I h h' => by
    subst hK
    exact I.list_inj h h'
  draws := fun A items hh hne => Draws.list hh it a hne items
  at' := fun i h h' st k => st.at fun o e => k o e
  live := fun i h st => by
    obtain ⟨o, e, c, d⟩ := st
    exact ⟨o, e, fun v z => by rw [d] at z; cases z⟩
  ne := fun i h items st hl => by
    obtain ⟨o, e, c, d⟩ := st
    obtain ⟨u, e2, c2, _⟩ := hl
    exact apart_of e2 e (by rw [c, c2]; decide)
  nea := fun h items e c old hl he => by
    obtain ⟨u, e2, c2, _⟩ := hl
    exact apart_of he e2 (by rw [c2]; show Value.type "enumerate" ≠ _; decide)
  nei := fun i h e c old st he => by
    obtain ⟨o, e1, c1, d⟩ := st
    exact apart_of he e1 (by rw [c1]; show Value.type "enumerate" ≠ _; decide)
theorem enSrc_tup (a it : Addr) : EnSrc P w K a it (fun H xs => SqT K H a xs) (fun h its => h.IsTuple a its) (fun i h => h.IsTupleIter it a i) where
  src := fun X pins σ H s xs hK I h => by
    subst hK
    obtain ⟨its, rv, p, hz⟩ := I.tuple h
    exact ⟨its, rv, p, hz⟩
  inj := fun X pins σ H s xs ys hK I h h' => by
    subst hK
    exact I.tuple_inj h h'
  draws := fun A items hh hne => Draws.tuple hh it a hne items
  at' := fun i h h' st k => by
    obtain ⟨o, e, r⟩ := st
    exact ⟨o, k o e, r⟩
  live := fun i h st => by
    obtain ⟨o, e, c, d⟩ := st
    exact ⟨o, e, fun v z => by rw [d] at z; cases z⟩
  ne := fun i h items st hl => by
    obtain ⟨o, e, c, d⟩ := st
    obtain ⟨u, e2, c2, _⟩ := hl
    exact apart_of e2 e (by rw [c, c2]; decide)
  nea := fun h items e c old hl he => by
    obtain ⟨u, e2, c2, _⟩ := hl
    exact apart_of he e2 (by rw [c2]; show Value.type "enumerate" ≠ _; decide)
  nei := fun i h e c old st he => by
    obtain ⟨o, e1, c1, d⟩ := st
    exact apart_of he e1 (by rw [c1]; show Value.type "enumerate" ≠ _; decide)
section
variable {M : Model} {A : Around} {E : Value → Shared → Prop} {s : Shared} {env : Env}
theorem callWith_type_kwB {pos : Pos} {T : String} {e : Expr} {rest : List Expr} {kws : List Keyword} {Q : Value → Shared → Prop}
    (h : wpAny M A (spliced (backTo pos (starEach (e :: rest) env))) (fun vs s₁ => wpAny M A (evalAll ((backToKw pos (keywordEach kws env)).map (·.2)))
      (fun kvs s₂ => wpAny M A (call (.type T) vs (((backToKw pos (keywordEach kws env)).filterMap (·.1)).zip kvs)) Q E s₂) E s₁) E s)
    (he : backTo pos (starEach (e :: rest) env) = (false, eval e env) :: backTo pos (starEach rest env))
    (hplain : (backTo pos (starEach (e :: rest) env)).any (·.1) = false)
    (hall : (backToKw pos (keywordEach kws env)).all (·.1.isSome) = true)
    (hkw : (backToKw pos (keywordEach kws env)).any (·.1.isNone) = false) :
    wpAny M A (callWith pos (.type T) [] (backTo pos (starEach (e :: rest) env)) (backToKw pos (keywordEach kws env))) Q E s := by
  unfold callWith
  refine wpAny_bind (wpAny_holding (wpAny_mono (Q := fun a s₁ => wpAny M A (call (.type T) ([] ++ a.pos) a.kw) Q E s₁) ?_ (fun a s₁ h₁ => wpAny_bind (wpAny_standAt ?_)) fun _ _ x => x))
  · rw [he] at h ⊢
    exact evalArgs_kwB hall h
  · simp only [hplain, hkw, Bool.or_false]
    refine wpAny_bind (wpAny_pure ?_)
    exact wpAny_bind (wpAny_mono h₁ (fun r s₂ hr => wpAny_bind (wpAny_holding (wpAny_point (wpAny_pure hr)))) fun _ _ x => x)
end
section
variable {X : Cx} {e : Expr} {ta tb : TE} {ta1 : TA} {p pos tpos kpos : Pos} {elts : List Expr} {kk : Nat}
/-- what a made enumerate object gives -/
theorem enum_pie {pins : List (Addr × Obj)} {σ : L2.St} {H1 : Hp} {s1 : Shared} {R : It → Hp → Prop} {h' : Heap} {Sq : Hp → List V → Prop} {Ho : Heap → Array Value → Prop} {Is : Addr → Nat → Heap → Prop} {a : Addr} {k : Int}
    (I1 : Inv X pins σ H1 s1) (Z : EnSrc X.prog X.w X.K a s1.heap.objs.size Sq Ho (Is s1.heap.objs.size)) (he : IsEnum h' (s1.heap.objs.size + 1) s1.heap.objs.size k .none) (hit : Is s1.heap.objs.size 0 h') (hk : ∀ b o, s1.heap.get? b = some o → h'.get? b = some o) (q : R (Itn Sq k) H1) :
    wpAny (model X.prog X.w) X.A (pyIter (.ref (s1.heap.objs.size + 1))) (PIE X pins σ (.Tuple elts kk tpos) R) X.xe { s1 with heap := h' } := by
  refine wpAny_pyIter_enum he ?_
  have I2 : Inv X pins σ H1 { s1 with heap := h' } := I1.kept (t' := s1.toks) hk
  refine ⟨s1.heap.objs.size + 1, [s1.heap.objs.size + 1, s1.heap.objs.size], _, _, H1, rfl, I2, turn_enumN k Z, ⟨⟨.none, by rw [show k + ((0 : Nat) : Int) = k by omega]; exact he⟩, hit⟩, fun b hb => ?_, q⟩
  have e' : b = s1.heap.objs.size + 1 ∨ b = s1.heap.objs.size := by simpa using hb
  have hle : s1.heap.objs.size ≤ b := by
    rcases e' with z | z
    · rw [z]; exact Nat.le_add_right _ _
    · rw [z]; exact Nat.le_refl _
  exact I1.fpOk hle (I1.hok.fresh hle)
def iEnumS (K : PySem.W.Frag) (ta tb : TE) : TI := fun σ H R => ta σ H fun v H1 => tb σ H1 fun u H2 => ∃ a k xs, v = .ref a ∧ u = .int k ∧ -(2 ^ 63) ≤ k ∧ k < 2 ^ 63 ∧ ((SqL K H2 a xs ∧ R (Itn (fun H xs => SqL K H a xs) k) H2) ∨ (SqT K H2 a xs ∧ R (Itn (fun H xs => SqT K H a xs) k) H2))
/-- enumerate(xs, start=k) -/
theorem pi_enumS {b : Expr} (hg : Gl X "enumerate") (hm : X.mg "enumerate" = none) (ha : PE X e ta) (hb : PE X b tb) (hs : starEach [e] X.env = [(false, eval e X.env)] := by rfl)
    (hall : (backToKw pos (keywordEach [⟨some "start", b, kpos⟩] X.env)).all (·.1.isSome) = true := by rfl) (hnone : (backToKw pos (keywordEach [⟨some "start", b, kpos⟩] X.env)).any (·.1.isNone) = false := by rfl)
    (hks : (backToKw pos (keywordEach [⟨some "start", b, kpos⟩] X.env)).filterMap (·.1) = [Str.ofString "start"] := by rfl) (he : backTo pos (starEach [e] X.env) = (false, eval e X.env) :: backTo pos (starEach [] X.env) := by rfl) (hpl : (backTo pos (starEach [e] X.env)).any (·.1) = false := by rfl) :
    PI X (.Tuple elts kk tpos) (.Call (.Name "enumerate" p) [e] [⟨some "start", b, kpos⟩] pos) (iEnumS X.K ta tb) := by
  refine ⟨fun pins s σ H R I h => ?_⟩
  refine wpAny_Call_Name_kw (ld_blt I hg hm boot_enumerate ?_)
  refine callWith_type_kwB (thn ((pa_cons (X := X) ha pa_nil hs).run pos pins s σ H (fun vs H1 => match vs with
    | [v] => tb σ H1 fun u H2 => ∃ a k xs, v = .ref a ∧ u = .int k ∧ -(2 ^ 63) ≤ k ∧ k < 2 ^ 63 ∧ ((SqL X.K H2 a xs ∧ R (Itn (fun H xs => SqL X.K H a xs) k) H2) ∨ (SqT X.K H2 a xs ∧ R (Itn (fun H xs => SqT X.K H a xs) k) H2))
    | _ => False) I ?_) fun us s1 ⟨vs, H1, I1, r1, q1⟩ => ?_) he hpl hall hnone
  · exact h
  · obtain ⟨v, rfl⟩ : ∃ v, vs = [v] := by
      cases vs with
      | nil => exact q1.elim
      | cons v r =>
        cases r with
        | nil => exact ⟨v, rfl⟩
        | cons _ _ => exact q1.elim
    rw [hks]
    refine PyProof.Rows.kws_cons (thn (hb.run pins s1 σ H1 _ I1 q1) fun u s2 ⟨x, H2, I2, rx, a, k, xs, e1, e2, k0, k1, q2⟩ => PyProof.Rows.kws_nil ?_)
    subst e1 e2
    obtain ⟨t, rfl⟩ := rx
    cases r1 with
    | cons r rr =>
      cases rr
      cases r
      rcases q2 with ⟨hq, q⟩ | ⟨hq, q⟩
      · obtain ⟨its, rv, p', hz⟩ := I2.list hq
        exact enum_begins_start (begins_list a its.toArray) p'.isList k0 k1 fun h' he' hit hsz hk => enum_pie (Is := fun it i h => h.IsListIter it a i) I2 (enSrc_list a _) he' ⟨_, hit, rfl, rfl⟩ hk q
      · obtain ⟨its, rv, p', hz⟩ := I2.tuple hq
        exact enum_begins_start (begins_tuple a its.toArray) p' k0 k1 fun h' he' hit hsz hk => enum_pie (Is := fun it i h => h.IsTupleIter it a i) I2 (enSrc_tup a _) he' ⟨_, hit, rfl, rfl⟩ hk q
end
section
variable {φ : Addr → Prop} {J : Hp → Prop} {ρ : List (Option D)} {ta tb : TE} {ds : List D} {k : Int} {x : D}
theorem it_enumS (h : EvD K φ J ta ρ x) (hx : seqOf x = some ds) (hb : EvD K φ J tb ρ (.int k)) (hk : -(2 ^ 63) ≤ k ∧ k < 2 ^ 63) : IterD K φ J (iEnumS K ta tb) ρ (enumD k ds) := fun σ H A R q => h σ H A _ fun v d H1 b1 A1 e r => hb σ H1 A1 _ fun u d2 H2 b2 A2 e2 r2 => by
  subst e e2
  cases (show u = _ from r2)
  have r := r.mono b2
  have fin : ∀ {Sq : Hp → List V → Prop} {vs : List V}, Reps K φ H2 ds vs → (∀ φ' H3, Up φ φ' H2 H3 → Sq H3 vs) → Walks K φ (Itn Sq k) H2 (enumD k ds) := fun {Sq vs} rs hS φ' i H3 up f => by
    have r1 := Reps.up up ds vs rs
    have s1 := hS φ' H3 up
    refine ⟨fun d hd => ?_, fun hi => ⟨vs, s1, by rw [r1.length, hi, enumD_length]⟩⟩
    rw [enumD_get] at hd
    cases hx : ds[i]? with
    | none => rw [hx] at hd; cases hd
    | some d0 =>
      rw [hx] at hd
      cases hd
      obtain ⟨w, e, rw'⟩ := r1.get hx
      refine ⟨⟨vs, w, s1, e⟩, fun x H4 hy => ?_⟩
      obtain ⟨T, x1, rfl, hT, rfl, hx1⟩ := hy
      have e2 := hx1 vs s1
      rw [e] at e2
      cases e2
      exact ⟨same_new hT, rep_pair (f T hT) upd_same rfl (rw'.mono (But.of (same_new hT)))⟩
  cases d with
  | tup es =>
    cases hx
    obtain ⟨a, vs, rfl, p, rs⟩ := rep_tup r
    exact ⟨a, k, vs, rfl, rfl, hk.1, hk.2, .inr ⟨p.sq, q _ _ H2 (b1.trans b2) A2 rfl (fin rs fun φ' H3 up => (p.up up).sq)⟩⟩
  | lst es =>
    cases hx
    obtain ⟨a, vs, rfl, p, rs⟩ := rep_lst r
    exact ⟨a, k, vs, rfl, rfl, hk.1, hk.2, .inl ⟨p.sq, q _ _ H2 (b1.trans b2) A2 rfl (fin rs fun φ' H3 up => (p.up up).sq)⟩⟩
  | _ => cases hx
end
end

/-! ### == and != of data -/
mutual
def toPy : D → PyData
  | .non => .none
  | .bl b => .bool b
  | .int i => .int i
  | .str x => .str x
  | .tup ds => .tuple (toPys ds)
  | .lst ds => .list (toPys ds)
  | .raw _ => .none
  | .dk _ _ => .none
  | .dt _ _ => .none
def toPys : List D → List PyData
  | [] => []
  | d :: ds => toPy d :: toPys ds
end
/-- bounded depth, no raw values, texts within the bounds -/
def okq : Nat → D → Bool
  | _, .non => true
  | _, .bl _ => true
  | _, .int _ => true
  | _, .str x => PyData.strOk x
  | n + 1, .tup ds => ds.all (okq n)
  | n + 1, .lst ds => ds.all (okq n)
  | 0, .tup _ => false
  | 0, .lst _ => false
  | _, .raw _ => false
  | _, .dk _ _ => false
  | _, .dt _ _ => false
theorem okq_lay : ∀ (n : Nat) (d : D), okq n d = true → (toPy d).canLay0 = true ∧ (toPy d).depth ≤ n := by
  intro n
  induction n with
  | zero =>
    intro d h
    cases d with
    | non => exact ⟨rfl, Nat.le_refl _⟩
    | bl b => exact ⟨rfl, Nat.le_refl _⟩
    | int i => exact ⟨rfl, Nat.le_refl _⟩
    | str x => exact ⟨h, Nat.le_refl _⟩
    | tup ds => cases h
    | lst ds => cases h
    | raw v => cases h
    | dk ks ds => cases h
    | dt ks ds => cases h
  | succ n ih =>
    have all : ∀ ds : List D, ds.all (okq n) = true → PyData.canLayAll0 (toPys ds) = true ∧ PyData.depthAll (toPys ds) ≤ n := by
      intro ds
      induction ds with
      | nil => intro _; exact ⟨rfl, Nat.zero_le _⟩
      | cons d ds ihd =>
        intro h
        rw [List.all_cons, Bool.and_eq_true] at h
        obtain ⟨h1, h2⟩ := ih d h.1
        obtain ⟨h3, h4⟩ := ihd h.2
        refine ⟨?_, ?_⟩
        · show ((toPy d).canLay0 && PyData.canLayAll0 (toPys ds)) = true
          rw [h1, h3]
          rfl
        · show max (toPy d).depth (PyData.depthAll (toPys ds)) ≤ n
          omega
    intro d h
    cases d with
    | non => exact ⟨rfl, Nat.zero_le _⟩
    | bl b => exact ⟨rfl, Nat.zero_le _⟩
    | int i => exact ⟨rfl, Nat.zero_le _⟩
    | str x => exact ⟨h, Nat.zero_le _⟩
    | tup ds => exact ⟨(all ds h).1, Nat.succ_le_succ (all ds h).2⟩
    | lst ds => exact ⟨(all ds h).1, Nat.succ_le_succ (all ds h).2⟩
    | raw v => cases h
    | dk ks ds => cases h
    | dt ks ds => cases h
theorem okq_shaped {n : Nat} {d : D} (h : okq n d = true) (hn : n ≤ 64) : SeqAt.shaped (toPy d) = true := by
  obtain ⟨h1, h2⟩ := okq_lay n d h
  unfold SeqAt.shaped
  rw [h1, decide_eq_true (Nat.le_trans h2 hn)]
  rfl
def eqvD (x y : D) : Bool := PyData.eqv (toPy x) (toPy y)
section
variable {K : PySem.W.Frag} {φ : Addr → Prop} {J : Hp → Prop} {H : Hp} {ρ : List (Option D)} {ta tb : TE} {x y : D} {v : V} {ds : List D} {vs : List V}
mutual
theorem dp_of : ∀ (d : D) (v : V) (n : Nat), okq n d = true → Rep K φ H d v → Dp K H v (toPy d)
  | .non, v, n, _, r => by cases (show v = _ from r); exact .non
  | .bl b, v, n, _, r => by cases (show v = _ from r); exact .bl b
  | .int i, v, n, _, r => by cases (show v = _ from r); exact .int i
  | .str x, v, n, _, r => by cases (show v = _ from r); exact .str x
  | .raw w, v, n, h, _ => by cases n <;> cases h
  | .dk ks ds, v, n, h, _ => by cases n <;> cases h
  | .dt ks ds, v, n, h, _ => by cases n <;> cases h
  | .tup ds, v, 0, h, _ => by cases h
  | .lst ds, v, 0, h, _ => by cases h
  | .tup ds, v, n + 1, h, r => by
    obtain ⟨a, vs, rfl, p, rs⟩ := rep_tup r
    exact .tup p.sq (dps_of ds vs n h rs)
  | .lst ds, v, n + 1, h, r => by
    obtain ⟨a, vs, rfl, p, rs⟩ := rep_lst r
    exact .lst p.sq (dps_of ds vs n h rs)
theorem dps_of : ∀ (ds : List D) (vs : List V) (n : Nat), ds.all (okq n) = true → Reps K φ H ds vs → DpAll K H vs (toPys ds)
  | [], vs, n, _, r => by
    have e : vs = [] := r
    subst e
    exact .nil
  | d :: ds, vs, n, h, r => by
    obtain ⟨v, r', rfl, h1, h2⟩ := (show ∃ v r, vs = v :: r ∧ Rep K φ H d v ∧ Reps K φ H ds r from r)
    rw [List.all_cons, Bool.and_eq_true] at h
    exact .cons (dp_of d v n h.1 h1) (dps_of ds r' n h.2 h2)
end
theorem ev_eqQ (ha : EvD K φ J ta ρ x) (hb : EvD K φ J tb ρ y) (hx : okq 64 x = true) (hy : okq 64 y = true) : EvD K φ J (tOp (rEqD K) ta tb) ρ (.bl (eqvD x y)) := ev_opD ha hb fun H v w _ r1 r2 Q q =>
  ⟨_, _, dp_of x v 64 hx r1, dp_of y w 64 hy r2, okq_shaped hx (Nat.le_refl _), okq_shaped hy (Nat.le_refl _), q _ _ H (Same.refl H) rfl rfl⟩
theorem ev_neQ (ha : EvD K φ J ta ρ x) (hb : EvD K φ J tb ρ y) (hx : okq 64 x = true) (hy : okq 64 y = true) : EvD K φ J (tOp (rNeD K) ta tb) ρ (.bl (!eqvD x y)) := ev_opD ha hb fun H v w _ r1 r2 Q q =>
  ⟨_, _, dp_of x v 64 hx r1, dp_of y w 64 hy r2, okq_shaped hx (Nat.le_refl _), okq_shaped hy (Nat.le_refl _), q _ _ H (Same.refl H) rfl rfl⟩
theorem eqvD_refl {n : Nat} (h : okq n x = true) : eqvD x x = true := SeqAt.eqv_refl _ (okq_lay n x h).1
theorem toPys_ints : ∀ ns : List Int, toPys (ns.map D.int) = ns.map PyData.int
  | [] => rfl
  | n :: ns => by
    show PyData.int n :: toPys (ns.map D.int) = _
    rw [toPys_ints ns]
    rfl
theorem okq_ints {n : Nat} {ns : List Int} : okq (n + 1) (.lst (ns.map D.int)) = true := by
  show (ns.map D.int).all (okq n) = true
  rw [List.all_map, List.all_eq_true]
  intro i _
  cases n <;> rfl
theorem eqvD_nil {ds : List D} : eqvD (.lst ds) (.lst []) = ds.isEmpty := by
  unfold eqvD
  show PyData.eqvAll (toPys ds) [] = _
  cases ds <;> rfl
end

-- import HandS.Exc
-- import HandS.ExcOwn
-- import HandS.TryOnly
-- import HandS.WordsExc
-- import HandS.TupMul
/-! ### exceptions -/
/-- a class of exceptions of the program, without own __init__ -/
structure ExC (K : PySem.W.Frag) (mg : Str → Option Value) (x : Str) (c : Addr) : Prop where
  m : mg x = some (.ref c)
  e : PySem.W.excIn K c [.type "ValueError", .type "Exception", .type "BaseException", .type "object"] "ValueError.__new__" = true
  k : PySem.W.keepIn K (.ref c) = true
  s : PySem.W.subIn K (.ref c) (.type "BaseException") = some true
  t : PySem.W.typeIn K (.ref c) = some (.type "type")
  x : PySem.W.exmOne K (.ref c) (.ref c) = some true
theorem exm_sub {K : PySem.W.Frag} {S T : Addr} {b : Bool} (h1 : PySem.W.subIn K (.ref T) (.type "BaseException") = some true) (h2 : PySem.W.isClsIn K T = true) (h3 : PySem.W.typeIn K (.ref T) = some (.type "type")) (h4 : PySem.W.subIn K (.ref S) (.ref T) = some b) : PySem.W.exmOne K (.ref S) (.ref T) = some b := by
  have e2 : ((PySem.W.clsIn K T).isSome && PySem.W.typeIn K (.ref T) == some (.type "type")) = true := by
    rw [show (PySem.W.clsIn K T).isSome = true from h2, h3]
    rfl
  unfold PySem.W.exmOne
  rw [if_pos (by rw [h1]; rfl)]
  unfold PySem.W.kitCls
  dsimp only
  rw [if_pos e2]
  exact h4
/-- the promise of a def that may raise: a tree or a class -/
def SpX (K : PySem.W.Frag) (n : Nat) (R : List D → D ⊕ Addr → Prop) : Sp := fun vs H Q E => ∃ φ ds o, ds.length = n ∧ Reps K φ H ds vs ∧ Frm φ H ∧ R ds o ∧ (∀ d, o = .inl d → ∀ v H', Same H H' → Rep K φ H' d v → Q v H') ∧ (∀ c, o = .inr c → ∀ H', Same H H' → E (.ref c) none H')
section
variable {K : PySem.W.Frag} {φ φ' : Addr → Prop} {J J' : Hp → Prop} {H H' H1 : Hp} {ρ ρ' : List (Option D)} {σ : L2.St} {ta : TA} {te tb : TE} {x y z d : D} {P Pa Pb : D → Prop} {ds es : List D} {v : V} {D0 : Ends} {t u : TS} {W : WX} {c : Addr}
/-- a reading that raises -/
def Rs (K : PySem.W.Frag) (φ : Addr → Prop) (J : Hp → Prop) (te : TE) (ρ : List (Option D)) (W : WX) (c : Addr) : Prop := ∀ σ H, At K φ J ρ σ H → (∀ H', But φ H H' → At K φ J ρ σ H' → W (.ref c) none σ H') → ∀ Q, te σ H Q
theorem ev_callX {n : Nat} {R : List D → D ⊕ Addr → Prop} (ha : EvAD K φ J ta ρ ds) (hr : R ds (.inl d)) (hl : ds.length = n := by rfl) : EvD K φ J (tCallS (SpX K n R) (WE W) ta) ρ d := fun σ H A Q q =>
  ha σ H A _ fun vs ds' H1 b1 A1 e r1 => by
    subst e
    refine ⟨φ, _, _, hl, r1, A1.fr, hr, fun d' e v H' s r => ?_, fun c' e => nomatch e⟩
    cases e
    exact q v d H' (b1.trans (But.of s)) (A1.same s) rfl r
theorem rs_call {n : Nat} {R : List D → D ⊕ Addr → Prop} (ha : EvAD K φ J ta ρ ds) (hr : R ds (.inr c)) (hl : ds.length = n := by rfl) : Rs K φ J (tCallS (SpX K n R) (WE W) ta) ρ W c := fun σ H A k Q =>
  ha σ H A _ fun vs ds' H1 b1 A1 e r1 => by
    subst e
    refine ⟨φ, _, _, hl, r1, A1.fr, hr, (fun d' e => nomatch e), fun c' e H' s => ?_⟩
    cases e
    exact k H' (b1.trans (But.of s)) (A1.same s)
/-- an assignment, a return .. whose expression raises -/
theorem st_rs (A : At K φ J ρ σ H) (h : Rs K φ J te ρ W c) (k : ∀ H', But φ H H' → At K φ J ρ σ H' → W (.ref c) none σ H') {Q : VK} : te σ H Q := h σ H A k Q
theorem wonly_yes {C : Value} {ts : Addr → Value → Option Addr → TS} (hx : PySem.W.exmOne K (.ref c) C = some true) (h : ∀ a, H a = none → ts a (.ref c) none D0 σ H) : wOnly K C ts W D0 (.ref c) none σ H := ⟨true, hx, fun _ => h, fun e => nomatch e⟩
section
variable {PP : Program} {w : World} {mg : Str → Option Value} {base : Heap}
/-- a def that may raise keeps its promise -/
theorem fn_okX {x qual : Str} {st : Stmt} {f : Addr} {fd : FuncData} {N ps : List Str} {k n : Nat} {R : List D → D ⊕ Addr → Prop} (F : Fun K x qual st f fd) (S : FnScope N ps (defScope st)) (hn : ps.length = n) (m : Nat) (hm : N.length = n + m)
    (hbody : ∀ (cdv : Value) (A : Around) (outer : List Env) (s : Shared) (H : Hp) (E : XK), Room k (A.deeper (envOfC qual (defScope st) s.heap.objs.size f cdv)) →
      ∃ t, PSs (cxOf (L2.CX PP w) PP w K mg base N qual (defScope st) f cdv A outer s H E) (defBody st) t ∧
        ∀ (φ : Addr → Prop) (ds : List D) (o : D ⊕ Addr) (H : Hp) (D0 : Ends) (σ : L2.St), ds.length = n → R ds o → (∀ d, o = .inl d → ∀ v H', Same H H' → Rep K φ H' d v → D0.rt v H') → (∀ c, o = .inr c → ∀ H', Same H H' → E (.ref c) none H') → At K φ (Same H) (ds.map some ++ List.replicate m none) σ H → t D0 σ H) :
    FnOk PP w K mg base (L2.CX PP w) (k + 1) f fd ps (SpX K n R) := by
  refine F.okX S (fun vs H Q E h => ?_) (fun cdv A outer s H vs Q E hr h => ?_)
  · obtain ⟨φ, ds, d, hl, r, _⟩ := h
    rw [r.length, hl, hn]
  · obtain ⟨φ, ds, o, hl, r, fr, hd, q, qe⟩ := h
    obtain ⟨t, ht, run⟩ := hbody cdv A outer s H E hr
    refine ⟨t, ht, run φ ds o H _ _ hl hd (fun d e v H' s r => q d e v H' s r) qe ⟨?_, fr, Same.refl H, Mo.sames fun _ h => h⟩⟩
    have e : N.length - vs.length = m := by rw [hm, r.length, hl]; omega
    unfold L2.start
    rw [e]
    exact SR.start r
end
/-! ### two fors in a comprehension -/
theorem ev_lc2 {wi wi1 : TI} {g g1 : TG} {te : TE} {ws us us1 vs1 : List Nat} {es : D → List D} {f : D → D → D} {ρ1 : D → List (Option D)} {ρ2 : D → D → List (Option D)}
    (hi : IterD K φ J wi ρ ds) (hl : (ds.flatMap es).length ≤ 1000000) (hu : ∀ i ∈ us, i ∈ ws) (hu1 : ∀ i ∈ us1, i ∈ vs1) (hv : ∀ i ∈ vs1, i ∈ ws)
    (hg : ∀ d ∈ ds, EvG K g d (wipeR ρ ws) (ρ1 d) us)
    (hi1 : ∀ d ∈ ds, ∀ φ' J', Ext φ J φ' J' → IterD K φ' J' wi1 (ρ1 d) (es d))
    (hg1 : ∀ d ∈ ds, ∀ e ∈ es d, EvG K g1 e (wipeR (ρ1 d) vs1) (ρ2 d e) us1)
    (he : ∀ d ∈ ds, ∀ e ∈ es d, ∀ φ' J', Ext φ J φ' J' → EvD K φ' J' te (ρ2 d e) (f d e)) :
    EvD K φ J (tLc2 wi g tYes wi1 g1 tYes te ws vs1) ρ (.lst (ds.flatMap fun d => (es d).map (f d))) := fun σ H A Q q => by
  refine hi σ H A _ fun J0 ds' H1 b1 A1 pd w => ?_
  subst pd
  intro D0 hD
  have neP : ∀ p s ns, Pooled φ J p s ns → p ≠ D0 := fun p s ns hp => by
    obtain ⟨a1, a2, a3, a4, h1, _⟩ := hp.ok _ A1.j
    exact ne_of_none h1 hD
  let φ' : Addr → Prop := fun a => φ a ∧ a ≠ D0
  let F : Nat → List D := fun i => (ds'.take i).flatMap fun d => (es d).map (f d)
  have ext : ∀ acc : List V, Ext φ J φ' (fun H => J H ∧ H D0 = some (.lst acc)) := fun acc => ⟨fun _ h => h.1, fun p s ns hp => ⟨fun z => hp.np z.1, hp.ne, fun H h => hp.ok H h.1, fun H H' h k o => ⟨hp.st H H' h.1 k o, k _ _ (neP p s ns hp).symm h.2⟩⟩, fun a p h => ⟨p, fun e => h H1 A1.j (by rw [e]; exact hD)⟩⟩
  have mono : ∀ (acc : List V) (H2 : Hp), (∀ a, H1 a ≠ none → H2 a ≠ none) → H2 D0 ≠ none → Mo H2 (fun H => J H ∧ H D0 = some (.lst acc)) := fun acc H2 s h => (A1.mono.up s).and (Mo.at h)
  have lenT : ∀ i, i < ds'.length → ∀ d, ds'[i]? = some d → ∀ j, j < (es d).length → (F i ++ ((es d).take j).map (f d)).length < 1000000 := fun i hi d hd j hj => by
    have e1 : ds' = ds'.take i ++ d :: ds'.drop (i + 1) := by
      have z := (List.getElem?_eq_some_iff.mp hd)
      obtain ⟨z1, z2⟩ := z
      rw [← z2, List.getElem_cons_drop, List.take_append_drop]
    have e2 : (ds'.flatMap es).length = ((ds'.take i).flatMap es).length + ((es d).length + ((ds'.drop (i + 1)).flatMap es).length) := by
      conv => lhs; rw [e1]
      rw [List.flatMap_append, List.length_append, List.flatMap_cons, List.length_append]
    have e3 : (F i).length = ((ds'.take i).flatMap es).length := by
      show ((ds'.take i).flatMap fun d => (es d).map (f d)).length = _
      simp only [List.length_flatMap, List.length_map]
    rw [List.length_append, List.length_map, List.length_take, e3]
    omega
  refine ⟨fun i m H2 => m = ds'.length - i ∧ i ≤ ds'.length ∧ But φ H1 H2 ∧ ∃ acc, Reps K φ' H2 (F i) acc ∧ At K φ' (fun H => J H ∧ H D0 = some (.lst acc)) (wipeR ρ ws) (L2.wipe σ ws) H2,
    ⟨ds'.length, rfl, Nat.zero_le _, But.of (same_new hD), [], Reps.nil, ?_⟩, ?_⟩
  · have A2 := A1.newLive (o := .lst []) (J' := fun H => J H ∧ H D0 = some (.lst [])) hD ⟨A1.mono _ _ (fun a o _ e => same_new hD a o e) A1.j, upd_same⟩ (mono [] _ upd_tr (by rw [upd_same]; exact fun z => by cases z))
    exact ⟨A2.sr.wipe ws, A2.fr, A2.j, A2.mono⟩
  · rintro i m H2 ⟨rfl, hi, b2, acc, rs, A2⟩
    have upw : Up φ φ' H1 H2 := fun a o p e => ⟨⟨p, ne_of_none e hD⟩, b2.keep a o p e⟩
    have fr2 : Frm φ' H2 := A2.fr
    obtain ⟨wg, wstop⟩ := w φ' i H2 upw fr2
    by_cases hlt : i < ds'.length
    · have hd : ds'[i]? = some ds'[i] := List.getElem?_eq_getElem hlt
      obtain ⟨go, yl⟩ := wg _ hd
      have hmem : ds'[i] ∈ ds' := List.getElem_mem hlt
      have tk : F (i + 1) = F i ++ (es ds'[i]).map (f ds'[i]) := by
        show (ds'.take (i + 1)).flatMap _ = _
        rw [List.take_add_one, hd, List.flatMap_append]
        show _ ++ List.flatMap _ [ds'[i]] = _
        rw [List.flatMap_cons, List.flatMap_nil, List.append_nil]
      refine .inr ⟨go, fun H3 => But φ H1 H3 ∧ ∃ acc, Reps K φ' H3 (F (i + 1)) acc ∧ At K φ' (fun H => J H ∧ H D0 = some (.lst acc)) (wipeR ρ ws) (L2.wipe σ ws) H3, ?_, ?_⟩
      · rintro H3 ⟨b3, acc3, r3, A3⟩
        exact ⟨ds'.length - (i + 1), by omega, rfl, hlt, b3, acc3, r3, A3⟩
      · intro x H3 hy
        obtain ⟨s3, r3⟩ := yl x H3 hy
        have A3 := A2.same s3
        have rs3 := rs.mono (But.of (φ := φ') s3)
        have b3 : But φ H1 H3 := b2.trans (But.of s3)
        refine hg _ hmem φ' _ _ H3 x A3 r3 _ fun σ4 A4 hw4 => ⟨?_, ?_⟩
        · rw [hw4 ws hu]
          exact wipe_wipe ws
        · refine et_yes (K := K) (φ := φ') σ4 H3 A4 _ fun bb H4 b4 A4' hbb => ?_
          subst hbb
          rw [if_pos rfl]
          replace rs3 := rs3.mono b4
          replace b3 : But φ H1 H4 := ⟨fun a o p e => b4.keep a o ⟨p, ne_of_none e hD⟩ (b3.keep a o p e), fun a h => b4.tr a (b3.tr a h)⟩
          refine hi1 _ hmem φ' _ (ext acc) σ4 H4 A4' _ fun J1 es' H5 b5 A5 pe1 w1 => ?_
          subst pe1
          have b15 : But φ H1 H5 := ⟨fun a o p e => b5.keep a o ⟨p, ne_of_none e hD⟩ (b3.keep a o p e), fun a h => b5.tr a (b3.tr a h)⟩
          let G : Nat → List D := fun j => F i ++ ((es ds'[i]).take j).map (f ds'[i])
          refine ⟨fun j k H6 => k = (es ds'[i]).length - j ∧ j ≤ (es ds'[i]).length ∧ But φ H1 H6 ∧ (∀ a o, φ' a → H5 a = some o → H6 a = some o) ∧ ∃ acc, Reps K φ' H6 (G j) acc ∧ At K φ' (fun H => J H ∧ H D0 = some (.lst acc)) (wipeR (ρ1 ds'[i]) vs1) (L2.wipe σ4 vs1) H6,
            ⟨(es ds'[i]).length, rfl, Nat.zero_le _, b15, fun _ _ _ e => e, acc, ?_, ?_⟩, ?_⟩
          · show Reps K φ' H5 (F i ++ List.map _ (List.take 0 _)) acc
            rw [List.take_zero, List.map_nil, List.append_nil]
            exact rs3.mono b5
          · exact ⟨A5.sr.wipe vs1, A5.fr, A5.j, A5.mono⟩
          · rintro j k H6 ⟨rfl, hj, b6, kp6, acc6, rs6, A6⟩
            have up6 : Up φ' φ' H5 H6 := fun a o p e => ⟨p, kp6 a o p e⟩
            obtain ⟨wg1, ws1⟩ := w1 φ' j H6 up6 A6.fr
            by_cases hlt1 : j < (es ds'[i]).length
            · have hd1 : (es ds'[i])[j]? = some (es ds'[i])[j] := List.getElem?_eq_getElem hlt1
              obtain ⟨go1, yl1⟩ := wg1 _ hd1
              have hmem1 : (es ds'[i])[j] ∈ es ds'[i] := List.getElem_mem hlt1
              have tk1 : G (j + 1) = G j ++ [f ds'[i] (es ds'[i])[j]] := by
                show F i ++ _ = (F i ++ _) ++ _
                rw [List.take_add_one, hd1, List.map_append, List.append_assoc]
                rfl
              refine .inr ⟨go1, fun H7 => But φ H1 H7 ∧ (∀ a o, φ' a → H5 a = some o → H7 a = some o) ∧ ∃ acc, Reps K φ' H7 (G (j + 1)) acc ∧ At K φ' (fun H => J H ∧ H D0 = some (.lst acc)) (wipeR (ρ1 ds'[i]) vs1) (L2.wipe σ4 vs1) H7, ?_, ?_⟩
              · rintro H7 ⟨b7, kp7, acc7, r7, A7⟩
                exact ⟨(es ds'[i]).length - (j + 1), by omega, rfl, hlt1, b7, kp7, acc7, r7, A7⟩
              · intro x1 H7 hy1
                obtain ⟨s7, r7⟩ := yl1 x1 H7 hy1
                have A7 := A6.same s7
                have rs7 := rs6.mono (But.of (φ := φ') s7)
                have b7 : But φ H1 H7 := b6.trans (But.of s7)
                have kp7 : ∀ a o, φ' a → H5 a = some o → H7 a = some o := fun a o p e => s7 a o (kp6 a o p e)
                refine hg1 _ hmem _ hmem1 φ' _ _ H7 x1 A7 r7 _ fun σ8 A8 hw8 => ⟨?_, ?_⟩
                · rw [hw8 vs1 hu1]
                  exact wipe_wipe vs1
                · refine et_yes (K := K) (φ := φ') σ8 H7 A8 _ fun bb H8 b8 A8' hbb => ?_
                  subst hbb
                  rw [if_pos rfl]
                  replace rs7 := rs7.mono b8
                  replace b7 : But φ H1 H8 := ⟨fun a o p e => b8.keep a o ⟨p, ne_of_none e hD⟩ (b7.keep a o p e), fun a h => b8.tr a (b7.tr a h)⟩
                  replace kp7 : ∀ a o, φ' a → H5 a = some o → H8 a = some o := fun a o p e => b8.keep a o p (kp7 a o p e)
                  replace A7 : At K φ' (fun H => J H ∧ H D0 = some (.lst acc6)) (wipeR (ρ1 ds'[i]) vs1) (L2.wipe σ4 vs1) H8 := ⟨A7.sr.up (Up.of b8), A8'.fr, A8'.j, A8'.mono⟩
                  refine he _ hmem _ hmem1 φ' _ (ext acc6) σ8 H8 A8' _ fun v d H9 b9 A9 pv r9 => ?_
                  subst pv
                  have rl := rs7.mono b9
                  have nD : ¬ φ' D0 := fun z => z.2 rfl
                  refine ⟨acc6, A9.j.2, ?_, ?_, ?_, acc6 ++ [v], ?_, ?_⟩
                  · rw [rl.length]
                    exact szlt (Nat.le_of_lt (lenT i hlt _ hd j hlt1))
                  · refine ⟨fun a o p e => ?_, fun a h => upd_tr a (b9.tr a (b7.tr a h))⟩
                    have ne := ne_of_none e hD
                    rw [upd_ne ne]
                    exact b9.keep a o ⟨p, ne⟩ (b7.keep a o p e)
                  · intro a o p e
                    rw [upd_ne p.2]
                    exact b9.keep a o p (kp7 a o p e)
                  · rw [tk1]
                    exact (rl.append (Reps.cons r9 Reps.nil)).mono ((But.refl φ' H9).upd nD)
                  · have A9' : At K φ' (fun H => J H ∧ H D0 = some (.lst acc6)) (wipeR (ρ1 ds'[i]) vs1) (L2.wipe σ4 vs1) H9 := ⟨A7.sr.up (Up.of b9), A9.fr, A9.j, A9.mono⟩
                    have jj : J (upd H9 D0 (.lst (acc6 ++ [v]))) := A1.mono H9 _ (fun a o h e => by
                      rw [upd_ne (show a ≠ D0 from fun z => h (by rw [z]; exact hD))]
                      exact e) A9.j.1
                    exact A9'.upd nD ⟨jj, upd_same⟩ (mono _ _ (fun a h => upd_tr a (b9.tr a (b7.tr a h))) (by rw [upd_same]; exact fun z => by cases z))
            · have e : j = (es ds'[i]).length := by omega
              subst e
              refine .inl ⟨ws1 rfl, b6, acc6, ?_, ?_⟩
              · rw [tk]
                have e2 : G (es ds'[i]).length = F i ++ (es ds'[i]).map (f ds'[i]) := by
                  show F i ++ _ = _
                  rw [List.take_length]
                rw [← e2]
                exact rs6
              · have b26 : Up φ' φ' H2 H6 := fun a o p e => ⟨p, kp6 a o p (b5.keep a o p (b4.keep a o p (s3 a o e)))⟩
                exact ⟨A2.sr.up b26, A6.fr, A6.j, A6.mono⟩
    · have e : i = ds'.length := by omega
      subst e
      refine .inl ⟨wstop rfl, ?_⟩
      have eF : F ds'.length = ds'.flatMap fun d => (es d).map (f d) := by
        show (ds'.take _).flatMap _ = _
        rw [List.take_length]
      rw [eF] at rs
      have A3 : At K φ J ρ σ H2 := ⟨A1.sr.up (Up.of b2), A2.fr.fst, A2.j.1, A1.mono.up b2.tr⟩
      exact q _ (.lst (ds'.flatMap fun d => (es d).map (f d))) H2 (b1.trans b2) A3 rfl ⟨D0, acc, rfl, .inl ⟨A1.fr D0 hD, .inl A2.j.2⟩, Reps.up (fun a o p e => ⟨p.1, e⟩) _ _ rs⟩
/-! ### a tuple times an int -/
theorem replicate_reps {vs : List V} (r : Reps K φ H ds vs) : ∀ n : Nat, Reps K φ H (List.replicate n ds).flatten (List.replicate n vs).flatten
  | 0 => Reps.nil
  | n + 1 => by
    rw [List.replicate_succ, List.replicate_succ, List.flatten_cons, List.flatten_cons]
    exact r.append (replicate_reps r n)
theorem ev_repT {i : Int} (ha : EvD K φ J te ρ (.tup ds)) (hb : EvD K φ J tb ρ (.int i)) (hne : ds ≠ []) (h2 : 2 ≤ i) (h3 : i ≤ 1000) (hz : ds.length ≤ 1000) : EvD K φ J (tOp (rRepT K) te tb) ρ (.tup (List.replicate i.toNat ds).flatten) :=
  ev_opD ha hb fun H v w fr r1 r2 Q q => by
    obtain ⟨a, vs, rfl, p, rs⟩ := rep_tup r1
    cases (show w = _ from r2)
    refine ⟨a, i, vs, rfl, rfl, p.sq, fun z => hne (List.eq_nil_of_length_eq_zero (by rw [← rs.length, z]; rfl)), h2, h3, by rw [rs.length]; exact hz, fun l hl => q _ _ _ (same_new hl) rfl ⟨l, _, rfl, .inl ⟨fr l hl, .inl upd_same⟩, ?_⟩⟩
    exact (replicate_reps rs _).mono (But.of (same_new hl))
end

theorem _root_.L2.Room.units1 {k : Nat} {A : Around} (r : Room k A) : A.units + 1 < cLine := by have := r.un; omega
theorem _root_.L2.Room.units65 {k : Nat} {A : Around} (r : Room k A) : A.units + 65 < cLine := by have := r.un; omega
/-! ### rules with the frame K told (in comprehensions), chains of three operators -/
section
variable {X : Cx} {K : PySem.W.Frag}
theorem kix_list (h : X.K = K) : IxR X (rIxL K) := h ▸ ix_list
theorem kix_tup (h : X.K = K) : IxR X (rIxT K) := h ▸ ix_tup
theorem kix_seq (h : X.K = K) : IxR X (rIx K) := h ▸ ix_seq
theorem ksl_list (h : X.K = K) : SlR X (rSlL K) := h ▸ sl_list
theorem ksl_tupA (h : X.K = K) : SlR X (rSlA K) := h ▸ sl_tupA
theorem kop_catA (h : X.K = K) : OpR X (binaryOp .Add) (rCatA K) := h ▸ op_catA
theorem kop_repT (h : X.K = K) : OpR X (binaryOp .Mult) (rRepT K) := h ▸ op_repT
theorem kop_inD (h : X.K = K) (hu : X.A.units + 65 < cLine) : OpR X (compareOp .In) (rInD K) := h ▸ op_inD hu
theorem kop_notInD (h : X.K = K) (hu : X.A.units + 65 < cLine) : OpR X (compareOp .NotIn) (rNotInD K) := h ▸ op_notInD hu
theorem kop_eqD (h : X.K = K) (hu : X.A.units + 64 < cLine) : OpR X (compareOp .Eq) (rEqD K) := h ▸ op_eqD hu
theorem kop_neD (h : X.K = K) (hu : X.A.units + 64 < cLine) : OpR X (compareOp .NotEq) (rNeD K) := h ▸ op_neD hu
theorem kop_in_seq (h : X.K = K) : OpR X (compareOp .In) (rIn K false) := h ▸ op_in_seq
theorem kop_notIn_seq (h : X.K = K) : OpR X (compareOp .NotIn) (rIn K true) := h ▸ op_notIn_seq
theorem kc_len (h : X.K = K) : CallR X (.builtin "len") (rLen K) := h ▸ c_len
theorem kc_listOf (h : X.K = K) : CallR X (.type "list") (rListOf K) := h ▸ c_listOf
theorem kc_tupOf (h : X.K = K) : CallR X (.type "tuple") (rTupOf K) := h ▸ c_tupOf
theorem kcall_isi (h : X.K = K) : CallR X (.builtin "isinstance") (rIsi K) := h ▸ call_isi
theorem kc_sum (h : X.K = K) (hc : X.calm = true := by rfl) : CallR X (.builtin "sum") (rSum K) := h ▸ c_sum hc
theorem kcr_max (h : X.K = K) (hc : X.calm = true) : CallR X (.builtin "max") (rMax K) := h ▸ cr_max hc
theorem kcr_min (h : X.K = K) (hc : X.calm = true) : CallR X (.builtin "min") (rMin K) := h ▸ cr_min hc
theorem kpi_list {tg l : Expr} {tl : TE} (h : X.K = K) (hl : PE X l tl) : PI X tg l (iList K tl) := h ▸ pi_list hl
theorem kpi_tup {tg l : Expr} {tl : TE} (h : X.K = K) (hl : PE X l tl) : PI X tg l (iTup K tl) := h ▸ pi_tup hl
end
/-- a < b <= c < d -/
def tChain3 (r r' r2 : R2) (ta tb tc td : TE) : TE := fun σ H Q => ta σ H fun x H1 => tb σ H1 fun y H2 => r x y H2 fun z H3 => ∃ k, z = .bl k ∧
  (if k = true then tc σ H3 fun w' H4 => r' y w' H4 fun z2 H5 => ∃ k2, z2 = .bl k2 ∧ (if k2 = true then td σ H5 fun w2 H6 => r2 w' w2 H6 Q else Q (.bl false) H5) else Q (.bl false) H3)
section
variable {X : Cx} {a b c e : Expr} {ta tb tc td : TE} {pos : Pos}
theorem pe_chain3 {op op' op2 : CmpOp} {r r' r2 : R2} (ho : OpR X (compareOp op) r) (ho' : OpR X (compareOp op') r') (ho2 : OpR X (compareOp op2) r2) (ha : PE X a ta) (hb : PE X b tb) (hc : PE X c tc) (hd : PE X e td)
    (hm : lastMarks [op, op', op2] [b, c, e] = false := by with_unfolding_all rfl) : PE X (.Compare a [op, op', op2] [b, c, e] pos) (tChain3 r r' r2 ta tb tc td) := by
  refine ⟨fun pins s σ H Q I h => ?_⟩
  refine Compare_chain (thn (ha.run pins s σ H _ I h) fun v s1 ⟨x, H1, I1, r1, q1⟩ => chain_link (thn (hb.run pins s1 σ H1 _ I1 q1) fun u s2 ⟨y, H2, I2, rr2, q2⟩ =>
    thn (ho pins s2 σ H2 x y v u _ I2 r1 rr2 q2) fun d s3 ⟨z, H3, I3, r3, k, e, q3⟩ => ?_)) hm
  subst e
  cases r3
  refine wpAny_truthy_bool ?_
  cases k with
  | false => exact ite_ff ⟨.bl false, H3, I3, rfl, q3⟩
  | true =>
    refine ite_tt (chain_link (thn (hc.run pins s3 σ H3 _ I3 q3) fun w' s4 ⟨z', H4, I4, r4, q4⟩ => thn (ho' pins s4 σ H4 y z' u w' _ I4 rr2 r4 q4) fun d' s5 ⟨z5, H5, I5, r5, k2, e2, q5⟩ => ?_))
    subst e2
    cases r5
    refine wpAny_truthy_bool ?_
    cases k2 with
    | false => exact ite_ff ⟨.bl false, H5, I5, rfl, q5⟩
    | true => exact ite_tt (chain_last (thn (hd.run pins s5 σ H5 _ I5 q5) fun w2 s6 ⟨z6, H6, I6, r6, q6⟩ => ho2 pins s6 σ H6 z' z6 w' w2 Q I6 r4 r6 q6))
theorem pt_chain3 {op op' op2 : CmpOp} {r r' r2 : R2} (ho : OpR X (compareOp op) r) (ho' : OpR X (compareOp op') r') (ho2 : OpR X (compareOp op2) r2) (ha : PE X a ta) (hb : PE X b tb) (hc : PE X c tc) (hd : PE X e td)
    (hm : lastMarks [op, op', op2] [b, c, e] = false := by with_unfolding_all rfl) : L2.PT X (.Compare a [op, op', op2] [b, c, e] pos) (tTest (tChain3 r r' r2 ta tb tc td)) := by
  refine ⟨fun pins s σ H Q I h => ?_⟩
  refine isTrue_chain (thn (ha.run pins s σ H _ I h) fun v s1 ⟨x, H1, I1, r1, q1⟩ => test_link (thn (hb.run pins s1 σ H1 _ I1 q1) fun u s2 ⟨y, H2, I2, rr2, q2⟩ =>
    thn (ho pins s2 σ H2 x y v u _ I2 r1 rr2 q2) fun d s3 ⟨z, H3, I3, r3, k, e, q3⟩ => ?_)) hm
  subst e
  cases r3
  refine wpAny_truthy_bool ?_
  cases k with
  | false =>
    obtain ⟨k', e', q'⟩ := q3
    cases e'
    exact ite_ff ⟨H3, I3, q'⟩
  | true =>
    refine ite_tt (test_link (thn (hc.run pins s3 σ H3 _ I3 q3) fun w' s4 ⟨z', H4, I4, r4, q4⟩ => thn (ho' pins s4 σ H4 y z' u w' _ I4 rr2 r4 q4) fun d' s5 ⟨z5, H5, I5, r5, k2, e2, q5⟩ => ?_))
    subst e2
    cases r5
    refine wpAny_truthy_bool ?_
    cases k2 with
    | false =>
      obtain ⟨k', e', q'⟩ := q5
      cases e'
      exact ite_ff ⟨H5, I5, q'⟩
    | true =>
      refine ite_tt (test_last (thn (hd.run pins s5 σ H5 _ I5 q5) fun w2 s6 ⟨z6, H6, I6, r6, q6⟩ => thn (ho2 pins s6 σ H6 z' z6 w' w2 _ I6 r4 r6 q6) fun d2 s7 ⟨z7, H7, I7, r7, k7, e7, q7⟩ => ?_))
      subst e7
      cases r7
      exact wpAny_truthy_bool ⟨H7, I7, q7⟩
end
section
variable {K : PySem.W.Frag} {φ : Addr → Prop} {J : Hp → Prop} {ρ : List (Option D)} {ta tb tc td : TE}
theorem ev_chainI3 {f g h : Int → Int → Bool} {i j k l : Int} (ha : EvD K φ J ta ρ (.int i)) (hb : EvD K φ J tb ρ (.int j)) (hc : EvD K φ J tc ρ (.int k)) (hd : EvD K φ J td ρ (.int l)) :
    EvD K φ J (tChain3 (rI0 fun i j => .bl (f i j)) (rI0 fun i j => .bl (g i j)) (rI0 fun i j => .bl (h i j)) ta tb tc td) ρ (.bl (f i j && (g j k && h k l))) := fun σ H A Q q =>
  ha σ H A _ fun v x1 H1 b1 A1 e1 r1 => hb σ H1 A1 _ fun w y1 H2 b2 A2 e2 r2 => by
    subst e1 e2
    cases (show v = _ from r1)
    cases (show w = _ from r2)
    refine ⟨i, j, rfl, rfl, f i j, rfl, ?_⟩
    cases hf : f i j with
    | false =>
      rw [if_neg (by simp)]
      exact q _ _ H2 (b1.trans b2) A2 rfl (by rw [hf]; rfl)
    | true =>
      rw [if_pos rfl]
      refine hc σ H2 A2 _ fun v3 x3 H3 b3 A3 e3 r3 => ?_
      subst e3
      cases (show v3 = _ from r3)
      refine ⟨j, k, rfl, rfl, g j k, rfl, ?_⟩
      cases hg : g j k with
      | false =>
        rw [if_neg (by simp)]
        exact q _ _ H3 ((b1.trans b2).trans b3) A3 rfl (by rw [hf, hg]; rfl)
      | true =>
        rw [if_pos rfl]
        refine hd σ H3 A3 _ fun v4 x4 H4 b4 A4 e4 r4 => ?_
        subst e4
        cases (show v4 = _ from r4)
        exact ⟨k, l, rfl, rfl, q _ _ H4 (((b1.trans b2).trans b3).trans b4) A4 rfl (by rw [hf, hg]; rfl)⟩
end

/-! ### live lists of trees -/
/-- the frame without l -/
abbrev wo (φ : Addr → Prop) (l : Addr) : Addr → Prop := fun a => φ a ∧ a ≠ l
structure LivO (K : PySem.W.Frag) (φ : Addr → Prop) (Jb J : Hp → Prop) (l : Addr) (C : List V → HO) (ds : List D) : Prop where
  np : ¬ φ l
  st : Stab l Jb
  pl : ∀ p s ns, Pooled φ Jb p s ns → p ≠ l ∧ s ≠ l
  ex : ∃ vs H0, Reps K φ H0 ds vs ∧ Mo H0 Jb ∧ H0 l ≠ none ∧ J = fun H => (Jb H ∧ H l = some (C vs)) ∧ But φ H0 H
abbrev Liv (K : PySem.W.Frag) (φ : Addr → Prop) (Jb J : Hp → Prop) (l : Addr) (ds : List D) : Prop := LivO K φ Jb J l HO.lst ds
/-- a new object comes out, C of values -/
def EvNO (K : PySem.W.Frag) (φ : Addr → Prop) (J : Hp → Prop) (te : TE) (ρ : List (Option D)) (P : List D → (List V → HO) → Prop) : Prop := ∀ σ H, At K φ J ρ σ H → ∀ Q : VK, (∀ p vs ds C H0 H', But φ H H0 → At K φ J ρ σ H0 → H0 p = none → But φ H0 H' → At K φ J ρ σ H' → P ds C → (∀ xs, C vs ≠ .tup xs) → H' p = some (C vs) → Reps K (wo φ p) H' ds vs → Q (.ref p) H') → te σ H Q
section
variable {K : PySem.W.Frag} {φ φ' : Addr → Prop} {Jb J J' : Hp → Prop} {H H' H1 : Hp} {ρ ρ' : List (Option D)} {σ : L2.St} {ta : TA} {te tb : TE} {x y z d : D} {P Pa Pb : D → Prop} {ds es : List D} {v : V} {vs : List V} {D0 : Ends} {t u : TS} {l : Addr} {C : List V → HO}
theorem Ext.but2 {p s : Addr} {ns : List Int} {H0 : Hp} (np : ¬ φ p) : ∀ H H', But φ H0 H → ButP p H H' → PoolOk p s ns H' → But φ H0 H' := fun H H' b k o => ⟨fun a u pa e => k a u (fun z => np (z ▸ pa)) (b.keep a u pa e), fun a ha => by
  by_cases z : a = p
  · subst z
    obtain ⟨_, _, _, _, e, _⟩ := o
    rw [e]
    exact fun z => by cases z
  · cases e : H a with
    | none => exact absurd e (b.tr a ha)
    | some u => rw [k a u z e]; exact fun z => by cases z⟩
theorem LivO.ext (L : LivO K φ Jb J l C ds) : Ext φ Jb φ J := by
  obtain ⟨vs, H0, r, m, hl, rfl⟩ := L.ex
  exact ⟨fun H h => h.1.1, fun p s ns hp => ⟨hp.np, hp.ne, fun H h => hp.ok H h.1.1, fun H H' h k o => ⟨⟨hp.st H H' h.1.1 k o, k _ _ (L.pl p s ns hp).1.symm h.1.2⟩, Ext.but2 hp.np H H' h.2 k o⟩⟩, fun _ p _ => p⟩
theorem LivO.len (L : Liv K φ Jb J l ds) : ∃ vs, vs.length = ds.length ∧ ∀ H, J H → H l = some (.lst vs) := by
  obtain ⟨vs, H0, r, m, hl, rfl⟩ := L.ex
  exact ⟨vs, r.length, fun H h => h.1.2⟩
/-- x = a new object -/
theorem st_newO {k : Nat} {P : List D → (List V → HO) → Prop} (A : At K φ J ρ σ H) (h : EvNO K φ J te ρ P) (kk : ∀ l ds C J' σ' H', P ds C → φ l → H l = none → Ext φ J (wo φ l) J → LivO K (wo φ l) J J' l C ds → At K (wo φ l) J' (ρ.set k (some (.raw (.ref l)))) σ' H' → D0.nx σ' H') : tAsg te (gName k) D0 σ H :=
  h σ H A _ fun p vs ds C H0 H' b0 A0 hp b A' pd nt e r => by
    have hpH : H p = none := by
      cases z : H p with
      | none => rfl
      | some u => exact absurd hp (b0.tr p (by rw [z]; exact fun w => by cases w))
    have st : Stab p J := Stab.of A0.mono hp
    have u : Up φ (wo φ p) H H' := fun a o q e2 => ⟨⟨q, ne_of_none e2 hpH⟩, (b0.trans b).keep a o q e2⟩
    have sr : SR K (wo φ p) H' ρ σ := A.sr.up u
    have A2 : At K (wo φ p) (fun H => (J H ∧ H p = some (C vs)) ∧ But (wo φ p) H' H) ρ σ H' :=
      ⟨sr, A'.fr.at e nt, ⟨⟨A'.j, e⟩, But.refl _ _⟩, (A'.mono.and (Mo.at (by rw [e]; exact fun w => by cases w))).and (Mo.but fun _ h => h)⟩
    exact kk p ds C _ _ H' pd (A0.fr p hp) hpH ⟨fun _ h => h, fun p s ns q => ⟨fun z => q.np z.1, q.ne, q.ok, q.st⟩, fun a p' h => ⟨p', fun e => h H0 A0.j (by rw [e]; exact hp)⟩⟩
      ⟨fun z => z.2 rfl, st, fun s ps ns q => by
        obtain ⟨_, _, _, _, h1, h2, _⟩ := q.ok _ A0.j
        exact ⟨ne_of_none h1 hp, ne_of_none h2 hp⟩, vs, H', r, A'.mono, (by rw [e]; exact fun z => nomatch z), rfl⟩ (A2.set k rfl)
/-- x = a new list -/
theorem st_newL {k : Nat} {P : List D → Prop} (A : At K φ J ρ σ H) (h : EvN K φ J te ρ P) (kk : ∀ l ds J' σ' H', P ds → φ l → H l = none → Ext φ J (wo φ l) J → Liv K (wo φ l) J J' l ds → At K (wo φ l) J' (ρ.set k (some (.raw (.ref l)))) σ' H' → D0.nx σ' H') : tAsg te (gName k) D0 σ H :=
  st_new A h fun l vs ds σ' H' pd hn hp r st ne b e A' => kk l ds _ σ' H' pd hp hn ⟨fun _ h => h, fun p s ns q => ⟨fun z => q.np z.1, q.ne, q.ok, q.st⟩, fun a p' h => ⟨p', fun e' => h H A.j (by rw [e']; exact hn)⟩⟩
    ⟨fun z => z.2 rfl, st, fun p s ns q => by
      obtain ⟨_, _, _, _, h1, h2, _⟩ := q.ok _ A.j
      exact ⟨ne_of_none h1 hn, ne_of_none h2 hn⟩, vs, H', r, A.mono.up b.tr, (by rw [e]; exact fun z => nomatch z), rfl⟩ A'
/-- .append -/
theorem st_appL {k : Nat} (A : At K φ J ρ σ H) (L : Liv K φ Jb J l ds) (hk : ρ[k]? = some (some (.raw (.ref l)))) (he : EvP K φ J te ρ P) (hz : ds.length ≤ 1000000)
    (kk : ∀ d J' H', P d → Liv K φ Jb J' l (ds ++ [d]) → At K φ J' ρ σ H' → D0.nx σ H') : tDrop (tBM K "list" rAppend (tVar k) (tCons te tNil)) D0 σ H := by
  obtain ⟨vs, H0, r, m, hl, rfl⟩ := L.ex
  refine st_app (vs := vs) A hk (fun H h => h.1.2) he (by rw [r.length]; exact hz) fun v d H' pd rv b A' => ?_
  have b0 : But φ H0 H' := A'.j.2
  have trl : H' l ≠ none := b0.tr l hl
  refine kk d _ _ pd ⟨L.np, L.st, L.pl, vs ++ [v], L2.upd H' l (.lst (vs ++ [v])), ?_, m.up fun a h => upd_tr a (b0.tr a h), (by rw [upd_same]; exact fun z => nomatch z), rfl⟩ (A'.upd L.np ⟨⟨L.st _ _ A'.j.1.1, upd_same⟩, But.refl _ _⟩ ?_)
  · exact ((r.mono b0).append (Reps.cons rv Reps.nil)).mono ((But.refl φ H').upd L.np)
  · exact (((m.up fun a h => upd_tr a (b0.tr a h))).and (Mo.at (by rw [upd_same]; exact fun z => by cases z))).and (Mo.but fun _ h => h)
/-- xs[i] = e -/
theorem st_setLL {k n : Nat} {i : Int} (A : At K φ J ρ σ H) (L : Liv K φ Jb J l ds) (he : EvP K φ J te ρ P) (hk : ρ[k]? = some (some (.raw (.ref l)))) (hi : EvD K φ J tb ρ (.int i)) (hj : ixN ds.length i = some n)
    (kk : ∀ d J' H', P d → Liv K φ Jb J' l (ds.set n d) → At K φ J' ρ σ H' → D0.nx σ H') : tAsg te (gSub (tVar k) tb rSetL) D0 σ H := by
  obtain ⟨vs, H0, r, m, hl, rfl⟩ := L.ex
  refine st_setL (vs := vs) A he hk hi (fun H h => h.1.2) (by rw [r.length]; exact hj) fun v d H' pd rv b A' => ?_
  have b0 : But φ H0 H' := A'.j.2
  refine kk d _ _ pd ⟨L.np, L.st, L.pl, vs.set n v, L2.upd H' l (.lst (vs.set n v)), ?_, m.up fun a h => upd_tr a (b0.tr a h), (by rw [upd_same]; exact fun z => nomatch z), rfl⟩ (A'.upd L.np ⟨⟨L.st _ _ A'.j.1.1, upd_same⟩, But.refl _ _⟩ ?_)
  · exact ((r.mono b0).set n rv).mono ((But.refl φ H').upd L.np)
  · exact (((m.up fun a h => upd_tr a (b0.tr a h))).and (Mo.at (by rw [upd_same]; exact fun z => by cases z))).and (Mo.but fun _ h => h)
/-- into a loop's turn and out of it -/
theorem LivO.push {H1 : Hp} (L : LivO K φ Jb J l C ds) (A : At K φ (fun H => J H ∧ But φ H1 H) ρ σ H) : ∃ J2, LivO K φ (fun H => Jb H ∧ But φ H1 H) J2 l C ds ∧ At K φ J2 ρ σ H ∧ Ext φ Jb φ (fun H => Jb H ∧ But φ H1 H) := by
  obtain ⟨vs, H0, r, m, hl, rfl⟩ := L.ex
  have sb : Stab l (But φ H1) := fun H o b => ⟨fun a u pa e => by
    rw [upd_ne (show a ≠ l from fun z => L.np (z ▸ pa))]
    exact b.keep a u pa e, fun a ha => upd_tr a (b.tr a ha)⟩
  have b0 : But φ H0 H := A.j.1.2
  have e : Ext φ Jb φ (fun H => Jb H ∧ But φ H1 H) := Ext.but'
  refine ⟨_, ⟨L.np, L.st.and sb, fun p s ns q => ?_, vs, H, r.mono b0, (m.up b0.tr).and (Mo.but A.j.2.tr), b0.tr l hl, rfl⟩, A.live ⟨⟨⟨A.j.1.1.1, A.j.2⟩, A.j.1.1.2⟩, But.refl _ _⟩ (((m.up b0.tr).and (Mo.but A.j.2.tr)).and (Mo.at (b0.tr l hl)) |>.and (Mo.but fun _ h => h)), e⟩
  obtain ⟨_, _, _, _, h1, h2, _⟩ := q.ok H ⟨A.j.1.1.1, A.j.2⟩
  refine ⟨fun z => ?_, fun z => ?_⟩
  · -- the pool is no live list of ours: its content would be rewritten
    subst z
    have po := q.ok _ ((L.st.and sb) H (.lst []) ⟨A.j.1.1.1, A.j.2⟩)
    obtain ⟨_, _, _, _, e1, _⟩ := po
    rw [upd_same] at e1
    cases e1
  · subst z
    have po := q.ok _ ((L.st.and sb) H (.tup []) ⟨A.j.1.1.1, A.j.2⟩)
    obtain ⟨_, _, _, _, e1, e2, _⟩ := po
    rw [upd_same] at e2
    cases e2
theorem LivO.pop {H1 : Hp} {J2 : Hp → Prop} (L : LivO K φ (fun H => Jb H ∧ But φ H1 H) J2 l C ds) (hm : Mo H1 Jb) (hs : Stab l Jb) (hp : ∀ p s ns, Pooled φ Jb p s ns → p ≠ l ∧ s ≠ l) (A : At K φ J2 ρ σ H) : ∃ J, LivO K φ Jb J l C ds ∧ At K φ (fun H => J H ∧ But φ H1 H) ρ σ H := by
  obtain ⟨vs, H0, r, m, hl, rfl⟩ := L.ex
  have b0 : But φ H0 H := A.j.2
  have b1 : But φ H1 H := A.j.1.1.2
  have m1 : Mo H Jb := hm.up b1.tr
  exact ⟨_, ⟨L.np, hs, hp, vs, H, r.mono b0, m1, b0.tr l hl, rfl⟩, A.live ⟨⟨⟨A.j.1.1.1, A.j.1.2⟩, But.refl _ _⟩, b1⟩ (((m1.and (Mo.at (b0.tr l hl))).and (Mo.but fun _ h => h)).and (Mo.but b1.tr))⟩
/-- the list is left as it is from here on -/
theorem LivO.freeze (L : Liv K (wo φ l) Jb J l ds) (hl : φ l) {k : Nat} (A : At K (wo φ l) J ρ σ H) (hk : ρ[k]? = some (some (.raw (.ref l)))) : At K φ Jb (ρ.set k (some (.lst ds))) σ H := by
  obtain ⟨vs, H0, r, m, hn, rfl⟩ := L.ex
  have b0 : But (wo φ l) H0 H := A.j.2
  have up : Up (wo φ l) φ H H := fun a o p e => ⟨p.1, e⟩
  have rr : Rep K φ H (.lst ds) (.ref l) := ⟨l, vs, rfl, .inl ⟨hl, .inl A.j.1.2⟩, Reps.up up ds vs (r.mono b0)⟩
  obtain ⟨w, ew, rw'⟩ := A.sr.2 k _ hk
  cases (show w = _ from rw')
  refine ⟨?_, A.fr.fst, A.j.1.1, m.up b0.tr⟩
  have s1 := (A.sr.up up)
  refine ⟨by rw [List.length_set]; exact s1.1, fun i d hd => ?_⟩
  by_cases e : k = i
  · subst e
    have hlt : k < ρ.length := (List.getElem?_eq_some_iff.mp hk).1
    rw [List.getElem?_set_self hlt] at hd
    cases hd
    exact ⟨_, ew, rr⟩
  · rw [List.getElem?_set_ne e] at hd
    exact s1.2 i d hd
theorem ev_lenLL (L : Liv K φ Jb J l ds) (hk : EvD K φ J te ρ (.raw (.ref l))) : EvD K φ J (tCB (rLen K) (tCons te tNil)) ρ (.int ds.length) := by
  obtain ⟨vs, e, hv⟩ := L.len
  rw [← e]
  exact ev_lenLive hk hv
theorem ev_ixLL {i : Int} (L : Liv K φ Jb J l ds) (hk : EvD K φ J te ρ (.raw (.ref l))) (hb : EvD K φ J tb ρ (.int i)) (e : L2.atI ds i = some d) : EvD K φ J (tOp (rIxL K) te tb) ρ d := by
  obtain ⟨vs, H0, r, m, hn, rfl⟩ := L.ex
  refine ev_ixLive hk hb fun H h => ⟨vs, h.1.2, ?_⟩
  unfold L2.atI at e ⊢
  rw [r.length]
  cases hx : L2.ixN ds.length i with
  | none => rw [hx] at e; cases e
  | some n =>
    rw [hx] at e
    obtain ⟨v, hv, rv⟩ := r.get (i := n) e
    exact ⟨v, hv, rv.mono h.2⟩
end
theorem Mo.liv {K : PySem.W.Frag} {φ : Addr → Prop} {Jb J : Hp → Prop} {l : Addr} {C : List V → HO} {ds : List D} {H1 : Hp} (L : LivO K φ Jb J l C ds) (j : J H1) : Mo H1 Jb := by
  obtain ⟨vs, H0, r, m, hl, rfl⟩ := L.ex
  exact m.up j.2.tr
/-! ### slices, tuples of unknown trees -/
theorem cutD_hi {α : Type} {xs : List α} {i : Int} (h0 : 0 ≤ i) : cutD xs none (some i) = xs.take i.toNat := by
  have e : HT.sIx xs.length xs.length (some i) = min i.toNat xs.length := by
    have z := HT.sIx_nat xs.length xs.length i.toNat
    rw [Int.toNat_of_nonneg h0] at z
    exact z
  unfold cutD
  rw [e, HT.sIx_none, List.drop_zero, Nat.sub_zero, List.take_eq_take_iff]
  omega
theorem cutD_lo {α : Type} {xs : List α} {i : Int} (h0 : 0 ≤ i) : cutD xs (some i) none = xs.drop i.toNat := by
  have e : HT.sIx xs.length 0 (some i) = min i.toNat xs.length := by
    have z := HT.sIx_nat xs.length 0 i.toNat
    rw [Int.toNat_of_nonneg h0] at z
    exact z
  unfold cutD
  rw [e, HT.sIx_none]
  by_cases hl : i.toNat ≤ xs.length
  · rw [Nat.min_eq_left hl, List.take_of_length_le (by rw [List.length_drop]; omega)]
  · rw [Nat.min_eq_right (by omega), List.drop_eq_nil_of_le (Nat.le_refl _), List.drop_eq_nil_of_le (by omega), List.take_nil]
section
variable {K : PySem.W.Frag} {φ : Addr → Prop} {J : Hp → Prop} {ρ : List (Option D)} {te ta tb : TE} {P : D → Prop}
theorem Op2.imp {r : R2} {x y : D} {P P' : D → Prop} (h : Op2 K φ r x y P) (k : ∀ d, P d → P' d) : Op2 K φ r x y P' := fun H v w f r1 r2 Q q => h H v w f r1 r2 Q fun u z H' s p r => q u z H' s (k z p) r
theorem ev_catTP {Pa Pb : List D → Prop} (ha : EvP K φ J ta ρ (fun z => ∃ ds, z = .tup ds ∧ Pa ds)) (hb : EvP K φ J tb ρ (fun z => ∃ ds, z = .tup ds ∧ Pb ds)) (hz : ∀ a b, Pa a → Pb b → a.length + b.length ≤ 1000000) : EvP K φ J (tOp (rCatA K) ta tb) ρ (fun z => ∃ ds, z = .tup ds ∧ ∃ a b, ds = a ++ b ∧ Pa a ∧ Pb b) :=
  ev_op ha hb fun x y ⟨a, e1, pa⟩ ⟨b, e2, pb⟩ => by
    subst e1 e2
    exact (o2_catT (hz a b pa pb)).imp fun z e => ⟨_, e, a, b, rfl, pa, pb⟩
theorem ev_tupLP {Pl : List D → Prop} (h : EvP K φ J te ρ (fun z => ∃ ds, z = .lst ds ∧ Pl ds)) : EvP K φ J (tCB (rTupOf K) (tCons te tNil)) ρ (fun z => ∃ ds, z = .tup ds ∧ Pl ds) := ev_cb (ea_consP h ea_nil) fun ds ⟨d, r, e, ⟨es, e1, pe⟩, e2⟩ => by
  subst e e1 e2
  exact fun H vs f r Q q => cl_tupL H vs f r Q fun u z H' s e r => q u z H' s ⟨es, e, pe⟩ r
/-- a tuple of one unknown value -/
theorem ev_tup1P (h : EvP K φ J te ρ P) : EvP K φ J (tTup (tCons te tNil)) ρ (fun z => ∃ ds, z = .tup ds ∧ ∃ d, ds = [d] ∧ P d) := (ev_tupP (ea_consP h ea_nil) fun r ⟨d, r', e, p, e2⟩ => by rw [e, e2]; exact Nat.le_of_ble_eq_true rfl).imp fun z ⟨r, e, d, r', e1, p, e2⟩ => ⟨r, e, d, by rw [e1, e2], p⟩
end
section
variable {K : PySem.W.Frag} {φ : Addr → Prop} {J : Hp → Prop} {ρ : List (Option D)} {te ta tb : TE}
theorem ev_repTP {ds : List D} {p : Int → Prop} (ha : EvD K φ J te ρ (.tup ds)) (hb : EvI K φ J tb ρ p) (hne : ds ≠ []) (hp : ∀ i, p i → 2 ≤ i ∧ i ≤ 1000) (hz : ds.length ≤ 1000) : EvP K φ J (tOp (rRepT K) te tb) ρ (fun z => ∃ i : Int, p i ∧ z = .tup (List.replicate i.toNat ds).flatten) :=
  ev_op ha hb fun x y e ⟨i, e2, pi⟩ => by
    subst e e2
    intro H v w fr r1 r2 Q q
    obtain ⟨a, vs, rfl, p', rs⟩ := rep_tup r1
    cases (show w = _ from r2)
    refine ⟨a, i, vs, rfl, rfl, p'.sq, fun z => hne (List.eq_nil_of_length_eq_zero (by rw [← rs.length, z]; rfl)), (hp i pi).1, (hp i pi).2, by rw [rs.length]; exact hz, fun l hl => q _ _ _ (same_new hl) ⟨i, pi, rfl⟩ ⟨l, _, rfl, .inl ⟨fr l hl, .inl upd_same⟩, ?_⟩⟩
    exact (replicate_reps rs _).mono (But.of (same_new hl))
end

-- import HandS.Dict
/-! ### dicts: keys ints and texts, or tuples of these -/
def keyD : Key → D
  | .inl i => .int i
  | .inr s => .str s
class DKind (κ : Type) [DecidableEq κ] where
  kd : κ → D
  ho : List (κ × V) → HO
  nt : ∀ kvs xs, ho kvs ≠ .tup xs
  d : List κ → List D → D
  get : ∀ {K : PySem.W.Frag} {φ : Addr → Prop} {H : Hp} {a : Addr} {kvs : List (κ × V)} {k : κ} {v : V}, Rep K φ H (kd k) v → H a = some (ho kvs) → DGet H a v (valV kvs k)
  put : ∀ {K : PySem.W.Frag} {φ : Addr → Prop} {H : Hp} {a : Addr} {kvs : List (κ × V)} {k : κ} {y v : V}, Rep K φ H (kd k) y → H a = some (ho kvs) → kvs.length < sizeLine → DPut H a y v (upd H a (ho (putK kvs k v)))
  isd : ∀ {H : Hp} {a : Addr} {kvs : List (κ × V)}, H a = some (ho kvs) → IsD H a
  rep : ∀ {K : PySem.W.Frag} {φ : Addr → Prop} {H : Hp} {ks : List κ} {ds : List D} {v : V}, Rep K φ H (d ks ds) v ↔ ∃ a vs, v = .ref a ∧ (φ a ∧ H a = some (ho (ks.zip vs)) ∧ ks.length = ds.length) ∧ Reps K φ H ds vs
theorem keyD_v {K : PySem.W.Frag} {φ : Addr → Prop} {H : Hp} {k : Key} {v : V} (h : Rep K φ H (keyD k) v) : v = kV k := by
  cases k <;> exact h
theorem keysD_v {K : PySem.W.Frag} {φ : Addr → Prop} {H : Hp} : ∀ {ks : List Key} {vs : List V}, Reps K φ H (ks.map keyD) vs → vs = ks.map kV
  | [], _, h => h
  | k :: ks, vs, h => by
    obtain ⟨v, r, rfl, h1, h2⟩ := (show ∃ v r, vs = v :: r ∧ Rep K φ H (keyD k) v ∧ Reps K φ H (ks.map keyD) r from h)
    rw [keyD_v h1, keysD_v h2]
    rfl
instance : DKind Key where
  kd := keyD
  ho := HO.dK
  nt := fun _ _ h => nomatch h
  d := D.dk
  get := fun r e => by
    rw [keyD_v r]
    exact DGet.k e
  put := fun r e hl => by
    rw [keyD_v r]
    exact DPut.k e hl
  isd := fun e => .inl ⟨_, .inl e⟩
  rep := Iff.rfl
instance : DKind (List Key) where
  kd := fun ks => .tup (ks.map keyD)
  ho := HO.dT
  nt := fun _ _ h => nomatch h
  d := D.dt
  get := fun r e => by
    obtain ⟨b, vs, rfl, p, rs⟩ := rep_tup r
    rw [keysD_v rs] at p
    exact DGet.t e p.at.2
  put := fun r e hl => by
    obtain ⟨b, vs, rfl, p, rs⟩ := rep_tup r
    rw [keysD_v rs] at p
    exact DPut.t e p.at.2 hl
  isd := fun e => .inr ⟨_, .inl e⟩
  rep := Iff.rfl
section
variable {κ : Type} [DecidableEq κ] [DKind κ]
def valD (kds : List (κ × D)) (k : κ) : Option D := (kds.find? fun kv => decide (kv.1 = k)).map (·.2)
def putD (kds : List (κ × D)) (k : κ) (d : D) : List (κ × D) :=
  if (kds.any fun kv => decide (kv.1 = k)) = true then kds.map (fun kv => if kv.1 = k then (kv.1, d) else kv) else kds ++ [(k, d)]
theorem valD_nil {k : κ} : valD ([] : List (κ × D)) k = none := rfl
theorem valD_pos {p : κ × D} {r : List (κ × D)} {k : κ} (e : p.1 = k) : valD (p :: r) k = some p.2 := by simp [valD, List.find?_cons, e]
theorem valD_neg {p : κ × D} {r : List (κ × D)} {k : κ} (e : ¬ p.1 = k) : valD (p :: r) k = valD r k := by simp [valD, List.find?_cons, e]
theorem valD_any (k : κ) : ∀ kds : List (κ × D), (kds.any fun kv => decide (kv.1 = k)) = (valD kds k).isSome
  | [] => rfl
  | p :: r => by
    rw [List.any_cons]
    by_cases e : p.1 = k
    · simp only [valD_pos e, decide_eq_true e, Bool.true_or, Option.isSome_some]
    · rw [valD_neg e, decide_eq_false e, Bool.false_or]; exact valD_any k r
theorem valD_map (k j : κ) (y : D) : ∀ kds : List (κ × D), valD (kds.map fun kv => if kv.1 = k then (kv.1, y) else kv) j = (valD kds j).map fun x => if j = k then y else x
  | [] => rfl
  | p :: r => by
    have ih := valD_map k j y r
    rw [List.map_cons]
    by_cases h : p.1 = k
    · rw [if_pos h]
      by_cases e : p.1 = j
      · rw [valD_pos (p := (p.1, y)) e, valD_pos e, Option.map_some, if_pos (e.symm.trans h)]
      · rw [valD_neg (p := (p.1, y)) e, valD_neg e, ih]
    · rw [if_neg h]
      by_cases e : p.1 = j
      · rw [valD_pos (p := p) e, valD_pos e, Option.map_some, if_neg (fun z => h (e.trans z))]
      · rw [valD_neg (p := p) e, valD_neg e, ih]
theorem valD_snoc (k j : κ) (y : D) : ∀ kds : List (κ × D), valD kds k = none → valD (kds ++ [(k, y)]) j = if j = k then some y else valD kds j
  | [], _ => by
    by_cases e : k = j
    · rw [if_pos e.symm]; exact valD_pos (p := (k, y)) e
    · rw [if_neg (fun z => e z.symm)]; exact valD_neg (p := (k, y)) e
  | p :: r, hn => by
    rw [List.cons_append]
    have hk : ¬ p.1 = k := fun z => by rw [valD_pos z] at hn; cases hn
    rw [valD_neg hk] at hn
    have ih := valD_snoc k j y r hn
    by_cases e : p.1 = j
    · rw [valD_pos e, valD_pos e, if_neg (fun z => hk (e.trans z))]
    · rw [valD_neg e, valD_neg e, ih]
/-- what a dict holds behind a store -/
theorem valD_put (kds : List (κ × D)) (k j : κ) (y : D) : valD (putD kds k y) j = if j = k then some y else valD kds j := by
  unfold putD
  rw [valD_any]
  cases h : valD kds k with
  | none =>
    rw [if_neg (by simp)]
    exact valD_snoc k j y kds h
  | some x =>
    rw [if_pos (show (some x).isSome = true from rfl), valD_map]
    by_cases e : j = k
    · subst e
      rw [h, if_pos rfl]
      simp
    · rw [if_neg e]
      simp [e]
theorem putD_len (kds : List (κ × D)) (k : κ) (y : D) : (putD kds k y).length ≤ kds.length + 1 := by
  unfold putD
  split
  · rw [List.length_map]; omega
  · rw [List.length_append]; exact Nat.le_refl _
theorem putD_keys_old {kds : List (κ × D)} {k : κ} {y x : D} (h : valD kds k = some x) : (putD kds k y).map (·.1) = kds.map (·.1) := by
  unfold putD
  rw [valD_any, h, if_pos (show (some x).isSome = true from rfl), List.map_map]
  refine List.map_congr_left fun p _ => ?_
  show (if p.1 = k then (p.1, y) else p).1 = p.1
  split <;> rfl
theorem putD_new {kds : List (κ × D)} {k : κ} {y : D} (h : valD kds k = none) : putD kds k y = kds ++ [(k, y)] := by
  unfold putD
  rw [valD_any, h, if_neg (by simp)]
theorem valD_some {kds : List (κ × D)} {k : κ} : (valD kds k).isSome = true ↔ k ∈ kds.map (·.1) := by
  rw [← valD_any, List.any_eq_true]
  constructor
  · rintro ⟨p, hp, e⟩
    exact List.mem_map.mpr ⟨p, hp, of_decide_eq_true e⟩
  · intro h
    obtain ⟨p, hp, e⟩ := List.mem_map.mp h
    exact ⟨p, hp, decide_eq_true e⟩
variable {K : PySem.W.Frag} {φ φ' : Addr → Prop} {Jb J J' : Hp → Prop} {H H' H1 : Hp} {ρ ρ' : List (Option D)} {σ : L2.St} {ta : TA} {te tb td ty tv tx : TE} {x y z d : D} {P : D → Prop} {ds es : List D} {v : V} {vs : List V} {D0 : Ends} {l : Addr} {kds : List (κ × D)} {k : κ}
theorem zip_val : ∀ {kds : List (κ × D)} {vs : List V}, Reps K φ H (kds.map (·.2)) vs → ∀ k, (valD kds k = none ∧ valV ((kds.map (·.1)).zip vs) k = none) ∨ ∃ d v, valD kds k = some d ∧ valV ((kds.map (·.1)).zip vs) k = some v ∧ Rep K φ H d v
  | [], vs, h, k => .inl ⟨rfl, rfl⟩
  | p :: kds, vs, h, k => by
    obtain ⟨v, r, rfl, h1, h2⟩ := (show ∃ v r, vs = v :: r ∧ Rep K φ H p.2 v ∧ Reps K φ H (kds.map (·.2)) r from h)
    rw [List.map_cons, List.zip_cons_cons]
    by_cases e : p.1 = k
    · exact .inr ⟨p.2, v, valD_pos e, valV_pos e, h1⟩
    · rw [valD_neg e, valV_neg (p := (p.1, v)) e]
      exact zip_val h2 k
theorem zip_put (hd : Rep K φ H d v) {kds : List (κ × D)} {vs : List V} (h : Reps K φ H (kds.map (·.2)) vs) : ∃ vs', putK ((kds.map (·.1)).zip vs) k v = ((putD kds k d).map (·.1)).zip vs' ∧ Reps K φ H ((putD kds k d).map (·.2)) vs' := by
  have hl := h.length
  rw [List.length_map] at hl
  have hsome : (valV ((kds.map (·.1)).zip vs) k).isSome = (valD kds k).isSome := by
    rcases zip_val h k with ⟨e1, e2⟩ | ⟨d, v, e1, e2, _⟩ <;> rw [e1, e2] <;> rfl
  unfold putK putD
  rw [valV_any, valD_any, hsome]
  by_cases hs : (valD kds k).isSome = true
  · rw [if_pos hs, if_pos hs]
    clear hsome hs
    induction kds generalizing vs with
    | nil => exact ⟨vs, rfl, h⟩
    | cons p kds ih =>
      obtain ⟨u, r, rfl, h1, h2⟩ := (show ∃ v r, vs = v :: r ∧ Rep K φ H p.2 v ∧ Reps K φ H (kds.map (·.2)) r from h)
      obtain ⟨vs', e, r'⟩ := ih h2 (by simpa using hl)
      rw [List.map_cons, List.zip_cons_cons, List.map_cons, List.map_cons]
      by_cases hk : p.1 = k
      · refine ⟨v :: vs', ?_, ?_⟩
        · rw [List.map_cons, List.zip_cons_cons, ← e, if_pos hk, if_pos hk]
        · rw [List.map_cons, if_pos hk]
          exact Reps.cons hd r'
      · refine ⟨u :: vs', ?_, ?_⟩
        · rw [List.map_cons, List.zip_cons_cons, ← e, if_neg hk, if_neg hk]
        · rw [List.map_cons, if_neg hk]
          exact Reps.cons h1 r'
  · rw [if_neg hs, if_neg hs]
    refine ⟨vs ++ [v], ?_, ?_⟩
    · rw [List.map_append, List.zip_append (by rw [List.length_map, hl])]
      rfl
    · rw [List.map_append]
      exact h.append (Reps.cons hd Reps.nil)
/-- a live dict -/
abbrev LivD (K : PySem.W.Frag) (φ : Addr → Prop) (Jb J : Hp → Prop) (l : Addr) (kds : List (κ × D)) : Prop := LivO K φ Jb J l (fun vs => DKind.ho ((kds.map (·.1)).zip vs)) (kds.map (·.2))
def dictD (kds : List (κ × D)) : D := DKind.d (kds.map (·.1)) (kds.map (·.2))
/-- a dict, live or left as it is -/
def EvDict (K : PySem.W.Frag) (φ : Addr → Prop) (J : Hp → Prop) (td : TE) (ρ : List (Option D)) (kds : List (κ × D)) : Prop := ∀ σ H, At K φ J ρ σ H → ∀ Q : VK, (∀ a H', But φ H H' → At K φ J ρ σ H' → (∀ H'', But φ H' H'' → J H'' → ∃ vs, H'' a = some (DKind.ho ((kds.map (·.1)).zip vs)) ∧ Reps K φ H'' (kds.map (·.2)) vs) → Q (.ref a) H') → td σ H Q
theorem ed_frozen (h : EvD K φ J td ρ (dictD kds)) : EvDict K φ J td ρ kds := fun σ H A Q q => h σ H A _ fun v d H' b A' e r => by
  subst e
  obtain ⟨a, vs, rfl, ⟨p, e, hl⟩, rs⟩ := DKind.rep.mp r
  exact q a H' b A' fun H'' b' j => ⟨vs, b'.keep a _ p e, rs.mono b'⟩
theorem ed_live (L : LivD K φ Jb J l kds) (h : EvD K φ J td ρ (.raw (.ref l))) : EvDict K φ J td ρ kds := fun σ H A Q q => h σ H A _ fun v d H' b A' e r => by
  subst e
  cases (show v = _ from r)
  obtain ⟨vs, H0, rs, m, hl, rfl⟩ := L.ex
  exact q l H' b A' fun H'' b' j => ⟨vs, j.1.2, rs.mono j.2⟩
theorem ev_dget (hd : EvDict K φ J td ρ kds) (hy : EvD K φ J ty ρ (DKind.kd k)) (e : valD kds k = some d) : EvD K φ J (tDGet td ty) ρ d := fun σ H A Q q =>
  hd σ H A _ fun a H1 b1 A1 per => hy σ H1 A1 _ fun y d' H2 b2 A2 e2 r2 => by
    subst e2
    obtain ⟨vs, ea, rs⟩ := per H2 b2 A2.j
    rcases zip_val rs k with ⟨e1, _⟩ | ⟨d1, v1, e1, ev, r1⟩
    · rw [e] at e1; cases e1
    · rw [e] at e1
      cases e1
      refine ⟨a, v1, rfl, ?_, q v1 _ H2 (b1.trans b2) A2 rfl r1⟩
      rw [← ev]
      exact DKind.get r2 ea
theorem ev_din (hy : EvD K φ J ty ρ (DKind.kd k)) (hd : EvDict K φ J td ρ kds) : EvD K φ J (tDIn ty td) ρ (.bl (valD kds k).isSome) := fun σ H A Q q =>
  hy σ H A _ fun y d' H1 b1 A1 e1 r1 => hd σ H1 A1 _ fun a H2 b2 A2 per => by
    subst e1
    obtain ⟨vs, ea, rs⟩ := per H2 (But.refl _ _) A2.j
    refine ⟨a, _, rfl, DKind.get (r1.mono b2) ea, q _ _ H2 (b1.trans b2) A2 rfl ?_⟩
    rcases zip_val rs k with ⟨e1, e2⟩ | ⟨d1, v1, e1, e2, _⟩ <;> rw [e1, e2] <;> rfl
theorem ev_dnotin (hy : EvD K φ J ty ρ (DKind.kd k)) (hd : EvDict K φ J td ρ kds) : EvD K φ J (tDNotIn ty td) ρ (.bl (!(valD kds k).isSome)) := fun σ H A Q q =>
  hy σ H A _ fun y d' H1 b1 A1 e1 r1 => hd σ H1 A1 _ fun a H2 b2 A2 per => by
    subst e1
    obtain ⟨vs, ea, rs⟩ := per H2 (But.refl _ _) A2.j
    refine ⟨a, _, rfl, DKind.get (r1.mono b2) ea, q _ _ H2 (b1.trans b2) A2 rfl ?_⟩
    rcases zip_val rs k with ⟨e1, e2⟩ | ⟨d1, v1, e1, e2, _⟩ <;> rw [e1, e2] <;> rfl
theorem ev_dget2 (hd : EvDict K φ J td ρ kds) (hy : EvD K φ J ty ρ (DKind.kd k)) (hx : EvD K φ J tx ρ x) : EvD K φ J (tDGet2 td ty tx) ρ ((valD kds k).getD x) := fun σ H A Q q =>
  hd σ H A _ fun a H1 b1 A1 per => by
    obtain ⟨vs1, ea1, _⟩ := per H1 (But.refl _ _) A1.j
    refine ⟨a, rfl, DKind.isd ea1, hy σ H1 A1 _ fun y d' H2 b2 A2 e2 r2 => hx σ H2 A2 _ fun u d3 H3 b3 A3 e3 r3 => ?_⟩
    subst e2 e3
    obtain ⟨vs, ea, rs⟩ := per H3 (b2.trans b3) A3.j
    refine ⟨_, DKind.get (r2.mono b3) ea, q _ _ H3 ((b1.trans b2).trans b3) A3 rfl ?_⟩
    rcases zip_val rs k with ⟨e1, e2⟩ | ⟨d1, v1, e1, e2, r1⟩
    · rw [e1, e2]; exact r3
    · rw [e1, e2]; exact r1
/-- d[y] = v -/
theorem st_dputL {i : Nat} (A : At K φ J ρ σ H) (L : LivD K φ Jb J l kds) (hv : EvP K φ J tv ρ P) (hk : ρ[i]? = some (some (.raw (.ref l)))) (hy : EvD K φ J ty ρ (DKind.kd k)) (hz : kds.length ≤ 1000000)
    (kk : ∀ d J' H', P d → LivD K φ Jb J' l (putD kds k d) → At K φ J' ρ σ H' → D0.nx σ H') : sDPut (tVar i) ty tv D0 σ H := by
  obtain ⟨vs, H0, r, m, hl, rfl⟩ := L.ex
  refine hv σ H A _ fun v d H1 b1 A1 pd r1 => ev_var hk σ H1 A1 _ fun w d2 H2 b2 A2 e2 r2 => hy σ H2 A2 _ fun y d3 H3 b3 A3 e3 r3 => ?_
  subst e2 e3
  cases (show w = _ from r2)
  have b0 : But φ H0 H3 := A3.j.2
  have trl : H3 l ≠ none := b0.tr l hl
  obtain ⟨vs', ep, rp⟩ := zip_put (k := k) ((r1.mono b2).mono b3) (r.mono b0)
  have hlen : ((kds.map (·.1)).zip vs).length < sizeLine := szlt (by
    rw [List.length_zip, List.length_map]
    omega)
  refine ⟨l, _, rfl, DKind.put r3 A3.j.1.2 hlen, ?_⟩
  rw [ep]
  refine kk d _ _ pd ⟨L.np, L.st, L.pl, vs', L2.upd H3 l (DKind.ho (((putD kds k d).map (·.1)).zip vs')), rp.mono ((But.refl φ H3).upd L.np), m.up fun a h => upd_tr a (b0.tr a h), (by rw [upd_same]; exact fun z => nomatch z), rfl⟩ (A3.upd (ho := fun xs => DKind.nt _ xs) L.np ⟨⟨L.st _ _ A3.j.1.1, upd_same⟩, But.refl _ _⟩ ?_)
  exact ((m.up fun a h => upd_tr a (b0.tr a h)).and (Mo.at (by rw [upd_same]; exact fun z => nomatch z))).and (Mo.but fun _ h => h)
theorem LivO.freezeD (L : LivD K (wo φ l) Jb J l kds) (hl : φ l) {i : Nat} (A : At K (wo φ l) J ρ σ H) (hk : ρ[i]? = some (some (.raw (.ref l)))) : At K φ Jb (ρ.set i (some (dictD kds))) σ H := by
  obtain ⟨vs, H0, r, m, hn, rfl⟩ := L.ex
  have b0 : But (wo φ l) H0 H := A.j.2
  have up : Up (wo φ l) φ H H := fun a o p e => ⟨p.1, e⟩
  have rr : Rep K φ H (dictD kds) (.ref l) := DKind.rep.mpr ⟨l, vs, rfl, ⟨hl, A.j.1.2, by rw [List.length_map, List.length_map]⟩, Reps.up up _ vs (r.mono b0)⟩
  obtain ⟨w, ew, rw'⟩ := A.sr.2 i _ hk
  cases (show w = _ from rw')
  refine ⟨?_, A.fr.fst, A.j.1.1, m.up b0.tr⟩
  have s1 := (A.sr.up up)
  refine ⟨by rw [List.length_set]; exact s1.1, fun j d hd => ?_⟩
  by_cases e : i = j
  · subst e
    have hlt : i < ρ.length := (List.getElem?_eq_some_iff.mp hk).1
    rw [List.getElem?_set_self hlt] at hd
    cases hd
    exact ⟨_, ew, rr⟩
  · rw [List.getElem?_set_ne e] at hd
    exact s1.2 j d hd
end
section
variable {K : PySem.W.Frag} {φ : Addr → Prop} {J : Hp → Prop} {ρ : List (Option D)} {te tk tv : TE}
/-- {} -/
theorem en_dnewK : EvNO K φ J tDNewK ρ (fun ds C => ds = (([] : List (Key × D)).map (·.2)) ∧ C = fun vs => HO.dK ((([] : List (Key × D)).map (·.1)).zip vs)) := fun σ H A Q q p hp =>
  q p [] [] _ H _ (But.refl _ _) A hp (But.of (same_new hp)) (A.same (same_new hp)) ⟨rfl, rfl⟩ (fun _ h => nomatch h) upd_same Reps.nil
theorem en_dnewT : EvNO K φ J tDNewT ρ (fun ds C => ds = (([] : List (List Key × D)).map (·.2)) ∧ C = fun vs => HO.dT ((([] : List (List Key × D)).map (·.1)).zip vs)) := fun σ H A Q q p hp =>
  q p [] [] _ H _ (But.refl _ _) A hp (But.of (same_new hp)) (A.same (same_new hp)) ⟨rfl, rfl⟩ (fun _ h => nomatch h) upd_same Reps.nil
/-- {k: v} -/
theorem en_disp1 {k : Key} {d : D} (hk : ∀ J' φ', Ext φ J φ' J' → EvD K φ' J' tk ρ (keyD k)) (hv : ∀ J' φ', Ext φ J φ' J' → EvD K φ' J' tv ρ d) : EvNO K φ J (tDisp [(tk, tv)]) ρ (fun ds C => ds = ([(k, d)].map (·.2)) ∧ C = fun vs => HO.dK (([(k, d)].map (·.1)).zip vs)) := fun σ H A Q q p hp => by
  have ext : Ext φ J (wo φ p) (fun H => J H ∧ H p = some (.dK [])) := ⟨fun _ h => h.1, fun p' s ns hq => ⟨fun z => hq.np z.1, hq.ne, fun H h => hq.ok H h.1, fun H' H'' h k o => ⟨hq.st H' H'' h.1 k o, k _ _ (by
    obtain ⟨_, _, _, _, h1, _⟩ := hq.ok _ A.j
    exact (ne_of_none h1 hp).symm) h.2⟩⟩, fun a p' h => ⟨p', fun e => h H A.j (by rw [e]; exact hp)⟩⟩
  have A1 : At K (wo φ p) (fun H => J H ∧ H p = some (.dK [])) ρ σ (upd H p (.dK [])) := A.newLive hp ⟨A.mono _ _ (fun a o _ e => same_new hp a o e) A.j, upd_same⟩ ((A.mono.up upd_tr).and (Mo.at (by rw [upd_same]; exact fun z => nomatch z)))
  refine hk _ _ ext σ _ A1 _ fun v1 d1 H2 b2 A2 e1 r1 => hv _ _ ext σ H2 A2 _ fun v2 d2 H3 b3 A3 e2 r2 => ?_
  subst e1 e2
  have hv1 : v1 = kV k := keyD_v r1
  subst hv1
  refine ⟨A3.j.2, [(k, v2)], rfl, Nat.le_of_ble_eq_true rfl, ?_⟩
  have np : ¬ wo φ p p := fun z => z.2 rfl
  have bb : But φ H (upd H3 p (.dK [(k, v2)])) := ⟨fun a o pa e => by
    have ne := ne_of_none e hp
    rw [upd_ne ne]
    exact b3.keep a o ⟨pa, ne⟩ (b2.keep a o ⟨pa, ne⟩ (by rw [upd_ne ne]; exact e)), fun a h => upd_tr a (b3.tr a (b2.tr a (upd_tr a h)))⟩
  have jj : J (upd H3 p (.dK [(k, v2)])) := A.mono H3 _ (fun a o h e => by
    rw [upd_ne (show a ≠ p from fun z => h (by rw [z]; exact hp))]
    exact e) A3.j.1
  refine q p [v2] [d2] _ H _ (But.refl _ _) A hp bb ⟨A.sr.up (Up.of bb), A3.fr.fst.upd (fun _ h => nomatch h), jj, A.mono.up bb.tr⟩ ⟨rfl, rfl⟩ (fun _ h => nomatch h) upd_same (Reps.cons (r2.mono ((But.refl _ H3).upd np)) Reps.nil)
end

-- import HandS.SortKw
-- import HandS.SortOrd
-- import HandS.SortRule
-- import HandS.SortInts
-- import HandS.DictTup
-- import HandS.More
-- import KE.KDictCopyH
-- import KE.KDictWalk
-- import KE.KDictExact
/-! ### sorted(d): the keys of a dict, in order -/
section
variable {prog : Program} {w : World} {A : Around} {E : Value → Shared → Prop} {s : Shared}
open SrtO in
theorem sorted_raw {d : Addr} {es : Array DictEntry} {ep : Nat} {b : Bool} {kw : List (Str × Value)} {ltv : Value → Value → Bool} {Q : Value → Shared → Prop} (lo : (d == sysModules) = false) (hh : A.handled = none) (hm : s.heap.DictRaw d es ep) (hz : es.size ≤ sizeLine)
    (hk : ∀ a, Builtin.«list.sort» ⟨[.ref a], kw⟩ = Builtin.«list.sort» ⟨[.ref a], [(Str.ofString "reverse", .bool b)]⟩) (ha1 : argsOk "sorted" ⟨[.ref d], kw⟩) (ha2 : ∀ a, argsOk "list.sort" ⟨[a], kw⟩) (O : Swo ltv)
    (hS : 2 ≤ (es.toList.map (·.key)).length → ∀ (h₁ : Heap) (tk : Nat) (a : Addr), h₁.get? a = some (seqObj "list" (es.toList.map (·.key)).toArray 0) → (∀ b o, s.heap.get? b = some o → b ≠ a ∧ h₁.get? b = some o) → SortableO prog w A.in1.in1 { s with heap := h₁, toks := tk } a (es.toList.map (·.key)) ltv)
    (h : ∀ (out : List Value) (h1 h' : Heap) (tk : Nat) (a : Addr) (n : Nat), Srtd ltv out → Stb ltv out (if b = true then (es.toList.map (·.key)).reverse else es.toList.map (·.key)) → (∀ b o, s.heap.get? b = some o → h1.get? b = some o) → (∀ b o, h1.get? b = some o → h'.get? b = some o) → h1.objs.size ≤ a → h'.get? a = some (seqObj "list" (if b = true then out.toArray.reverse else out.toArray) n) → Q (.ref a) { s with heap := h', toks := tk }) :
    wpAny (model prog w) A (call (.builtin "sorted") [.ref d] kw) Q E s := by
  refine PyProof.Rows.call_function_entry_kw PyProof.Rows.kind_sorted PyProof.Rows.plain_sorted PyProof.Rows.entry_sorted ha1 ?_
  unfold Builtin.«sorted»
  refine wpAny_bind (m := checkCount "sorted" 1 1 _) (wpAny_pure ?_)
  refine wpAny_bind (PySem.W.kdu_collect (A := A.in1) (KdlSrc.rawDict (es := es) (ep := ep) lo) hh hm hz fun h' tk acc hkp hacc => ?_)
  have eacc : acc.toList = es.toList.map (·.key) := by
    refine List.ext_getElem? fun j => ?_
    rw [List.getElem?_map]
    cases e : acc.toList[j]? with
    | none =>
      have h1 : acc.toList.length ≤ j := List.getElem?_eq_none_iff.mp e
      rw [Array.length_toList, hacc.1] at h1
      rw [List.getElem?_eq_none (by rw [Array.length_toList]; exact h1)]
      rfl
    | some v =>
      obtain ⟨hi, ev⟩ := hacc.2 j v (by rw [← Array.getElem?_toList]; exact e)
      rw [Array.getElem?_toList, Array.getElem?_eq_getElem hi, ev]
      rfl
  have hlen : acc.toList.length = es.size := by rw [Array.length_toList, hacc.1]
  refine wpAny_bind (wpAny_newList ?_ (by rw [hlen]; exact hz))
  rw [eacc]
  have hoL : (h'.push (seqObj "list" (es.toList.map (·.key)).toArray 0)).get? h'.objs.size = some (seqObj "list" (es.toList.map (·.key)).toArray 0) := Heap.get?_push_size _ rfl
  show wpAny _ _ _ _ _ { s with heap := h'.push (seqObj "list" (es.toList.map (·.key)).toArray 0), toks := tk }
  have keep : ∀ b o, s.heap.get? b = some o → b ≠ h'.objs.size ∧ (h'.push (seqObj "list" (es.toList.map (·.key)).toArray 0)).get? b = some o := fun b o q =>
    ⟨Nat.ne_of_lt (Heap.lt_size (hkp b o q)), Heap.get?_push_of_some _ (hkp b o q)⟩
  refine wpAny_bind (wpAny_holding (PyProof.Rows.wpAny_call_entry_kw PyProof.Rows.slot_list_sort ⟨_, hoL, rfl⟩ PyProof.Rows.entry_list_sort ?_ (ha2 _)))
  rw [hk]
  refine SrtR.list_sort_ordR O hoL (by rw [← eacc, hlen]; exact hz) (fun h2 => hS h2 _ _ _ hoL keep) fun out hs hb => ⟨_, rfl, ?_⟩
  obtain ⟨n, hn⟩ := PyProof.Rows.sortedHeap_at (vs := es.toList.map (·.key)) (out := if b = true then out.toArray.reverse else out.toArray) hoL
  refine wpAny_pure ⟨_, rfl, h out h' _ _ _ n hs hb hkp (fun b o q => ?_) (Nat.le_refl _) hn⟩
  have hlt : b < h'.objs.size := Heap.lt_size q
  rw [PyProof.Rows.sortedHeap_old (Nat.ne_of_lt hlt) (by rw [PyProof.Rows.size_push']; exact Nat.lt_succ_of_lt hlt)]
  exact Heap.get?_push_of_some _ q
end
/-- the raw entries of a dict with keys ints and texts -/
theorem mixRaw {P : Program} {w : World} {h : Heap} {a : Addr} {vs : List (Key × Value)} (x : h.DictOf (mixKind P w) a vs) : ∃ es ep, h.DictRaw a es ep ∧ es.size = vs.length ∧ ∀ (j : Nat) (k : Key), (vs.map (·.1))[j]? = some k → ∃ v, (es.toList.map (·.key))[j]? = some v ∧ keyIs k v = true := by
  obtain ⟨ep, hat⟩ := x.dictAt
  obtain ⟨es, hr, hsz, hall⟩ := PySem.Heap.DictAt.raw hat
  refine ⟨es, ep, hr, hsz, fun j k hk => ?_⟩
  rw [List.getElem?_map] at hk
  obtain ⟨p, hp, e⟩ := Option.map_eq_some_iff.mp hk
  have hj : j < vs.length := (List.getElem?_eq_some_iff.mp hp).1
  have hi : j < es.size := by omega
  refine ⟨es[j].key, by rw [List.getElem?_map, Array.getElem?_toList, Array.getElem?_eq_getElem hi]; rfl, ?_⟩
  have z := hall j hi p.1 p.2 hp
  rw [← e]
  first | exact z | exact z.1
def OrdB' (b : Bool) (ns : List Int) : Prop := if b = true then ns.Pairwise (· ≥ ·) else ns.Pairwise (· ≤ ·)
def rSortD (b : Bool) (zs0 : List V) : List V → List V → Hp → VK → Prop := fun xs zs H Q => ∃ (a : Addr) (kvs : List (Key × V)) (ks : List Int), xs = [.ref a] ∧ zs = zs0 ∧ H a = some (.dK kvs) ∧ kvs.map (·.1) = ks.map Sum.inl ∧
  ∀ (ys : List Int) (p : Addr), ys.Perm ks → OrdB b ys → H p = none → Q (.ref p) (upd H p (.lst (ys.map V.int)))
section
variable {X : Cx}
theorem sortD_run (hcalm : X.calm = true) {b : Bool} {kw : List (Str × Value)} {pins : List (Addr × Obj)} {s : Shared} {σ : L2.St} {H : Hp} {a : Addr} {kvs : List (Key × V)} {ks : List Int} {Q : VK} (I : Inv X pins σ H s) (hd : H a = some (.dK kvs)) (hks : kvs.map (·.1) = ks.map Sum.inl)
    (hk : ∀ a, Builtin.«list.sort» ⟨[.ref a], kw⟩ = Builtin.«list.sort» ⟨[.ref a], [(Str.ofString "reverse", .bool b)]⟩) (ha1 : argsOk "sorted" ⟨[.ref a], kw⟩) (ha2 : ∀ a, argsOk "list.sort" ⟨[a], kw⟩)
    (q : ∀ (ys : List Int) (p : Addr), ys.Perm ks → OrdB b ys → H p = none → Q (.ref p) (upd H p (.lst (ys.map V.int)))) : wpAny (model X.prog X.w) X.A (call (.builtin "sorted") [.ref a] kw) (EP X pins σ Q) X.xe s := by
  obtain ⟨z, lo, vs, rel, dd⟩ := dk_of I.hok hd
  have hkeys : vs.map (·.1) = ks.map Sum.inl := rel.keys.symm.trans hks
  obtain ⟨es, ep, hr, hsz, hall⟩ := mixRaw dd
  have hl : vs.length = ks.length := by
    have e := congrArg List.length hkeys
    rw [List.length_map, List.length_map] at e
    exact e
  have hz : es.size ≤ sizeLine := by rw [hsz, ← rel.length]; exact z
  have hi : IntsAre (es.toList.map (·.key)) ks := ints_each (by rw [List.length_map, Array.length_toList, hsz, hl]) fun j v e => by
    have hj : j < ks.length := by
      have := (List.getElem?_eq_some_iff.mp e).1
      rw [List.length_map, Array.length_toList, hsz, hl] at this
      exact this
    have e3 : (vs.map (·.1))[j]? = some (Sum.inl ks[j]) := by rw [hkeys, List.getElem?_map, List.getElem?_eq_getElem hj]; rfl
    obtain ⟨v', e4, k4⟩ := hall j _ e3
    rw [e] at e4
    cases e4
    rcases keyIs_shape k4 with ⟨i, t, ek, ev⟩ | ⟨y, t, ek, ev⟩
    · cases ek
      exact ⟨_, t, List.getElem?_eq_getElem hj, ev⟩
    · cases ek
  refine sorted_raw lo (I.ok.hd hcalm) hr hz hk ha1 ha2 SrtO.swo_int (fun h2 h₁ tk a' _ _ => SrtO.ints_sortable hi h2) fun out h1 h' tk a' n h2 h3 k1 k2 ha' hn => ?_
  obtain ⟨ns', g1, g2, g3⟩ := SrtR.ints_outR hi h2 h3
  have I1 : Inv X pins σ H { s with heap := h1, toks := tk } := I.kept k1
  have e0 : ((if b = true then out.toArray.reverse else out.toArray).toList).toArray = (if b = true then out.toArray.reverse else out.toArray) := by rw [Array.toArray_toList]
  have hlen : (ns'.map V.int).length ≤ sizeLine := by
    rw [List.length_map, g2.length_eq, ← hl, ← hsz]
    exact hz
  exact ⟨.ref a', upd H a' (.lst (ns'.map V.int)), I1.laid (t' := tk) k2 ha' ⟨hlen, _, n, vals_of_ints g1, by rw [e0]; exact hn⟩, rfl, q _ _ g2 g3 (I1.hok.fresh ha')⟩
theorem cr_sortDRev (hcalm : X.calm = true) {b : Bool} : CallRK X (.builtin "sorted") [Str.ofString "reverse"] (rSortD b [.bl b]) := by
  intro pins s σ H vs zs us ws Q I r rz h
  obtain ⟨a, kvs, ks, rfl, rfl, hs, hks, q⟩ := h
  obtain rfl := Vals.ref1 r
  obtain ⟨w1, rfl, e1⟩ := vals1 rz
  obtain rfl : w1 = Value.bool b := e1
  exact sortD_run hcalm I hs hks (fun _ => rfl) (PyProof.Rows.args_sorted_rev _ _) (fun _ => PyProof.Rows.args_list_sort_rev _ _) q
end

-- import HandS.DictComp
/-! ### dict comprehensions, pop(i), in a tuple of ints -/
section
variable {K : PySem.W.Frag} {φ φ' : Addr → Prop} {Jb J J' : Hp → Prop} {H H' H1 : Hp} {ρ ρ' : List (Option D)} {σ : L2.St} {te tb tk tv : TE} {x y z d : D} {P : D → Prop} {ds es : List D} {v : V} {vs : List V} {D0 : Ends} {l : Addr}
def foldK (kf : D → Key) (vf : D → D) (ds : List D) : List (Key × D) := ds.foldl (fun acc d => putD acc (kf d) (vf d)) []
theorem foldK_snoc {kf : D → Key} {vf : D → D} {ds : List D} {d : D} : foldK kf vf (ds ++ [d]) = putD (foldK kf vf ds) (kf d) (vf d) := by
  unfold foldK
  rw [List.foldl_append]
  rfl
theorem foldK_len {kf : D → Key} {vf : D → D} {ds : List D} : (foldK kf vf ds).length ≤ ds.length := by
  suffices h : ∀ acc : List (Key × D), (ds.foldl (fun acc d => putD acc (kf d) (vf d)) acc).length ≤ acc.length + ds.length by
    have := h []
    rw [List.length_nil, Nat.zero_add] at this
    exact this
  induction ds with
  | nil => intro acc; exact Nat.le_refl _
  | cons d ds ih =>
    intro acc
    have h1 := ih (putD acc (kf d) (vf d))
    have h2 := putD_len acc (kf d) (vf d)
    rw [List.foldl_cons, List.length_cons]
    omega
/-- {k: v for x in ds} -/
theorem en_dc {wi : TI} {g : TG} {ws us : List Nat} {ρd : D → List (Option D)} {kf : D → Key} {vf : D → D} (hi : IterD K φ J wi ρ ds) (hl : ds.length ≤ 1000000) (hu : ∀ i ∈ us, i ∈ ws)
    (hg : ∀ d ∈ ds, EvG K g d (wipeR ρ ws) (ρd d) us)
    (hk : ∀ d ∈ ds, ∀ φ' J', Ext φ J φ' J' → EvD K φ' J' tk (ρd d) (keyD (kf d)))
    (he : ∀ d ∈ ds, ∀ φ' J', Ext φ J φ' J' → EvD K φ' J' tv (ρd d) (vf d)) :
    EvNO K φ J (tDc wi g tYes tk tv ws) ρ (fun xs C => xs = ((foldK kf vf ds).map (·.2)) ∧ C = fun vs => HO.dK (((foldK kf vf ds).map (·.1)).zip vs)) := fun σ H A Q q => by
  refine hi σ H A _ fun J0 ds' H1 b1 A1 pd w => ?_
  subst pd
  intro D0 hD
  have neP : ∀ p s ns, Pooled φ J p s ns → p ≠ D0 := fun p s ns hp => by
    obtain ⟨a1, a2, a3, a4, h1, _⟩ := hp.ok _ A1.j
    exact ne_of_none h1 hD
  let φ' : Addr → Prop := fun a => φ a ∧ a ≠ D0
  let KV (i : Nat) : List (Key × D) := foldK kf vf (ds'.take i)
  have ext : ∀ acc : HO, Ext φ J φ' (fun H => J H ∧ H D0 = some acc) := fun acc => ⟨fun _ h => h.1, fun p s ns hp => ⟨fun z => hp.np z.1, hp.ne, fun H h => hp.ok H h.1, fun H H' h k o => ⟨hp.st H H' h.1 k o, k _ _ (neP p s ns hp).symm h.2⟩⟩, fun a p h => ⟨p, fun e => h H1 A1.j (by rw [e]; exact hD)⟩⟩
  have mono : ∀ (acc : HO) (H2 : Hp), (∀ a, H1 a ≠ none → H2 a ≠ none) → H2 D0 ≠ none → Mo H2 (fun H => J H ∧ H D0 = some acc) := fun acc H2 s h => (A1.mono.up s).and (Mo.at h)
  refine ⟨fun i m H2 => m = ds'.length - i ∧ i ≤ ds'.length ∧ But φ H1 H2 ∧ ∃ acc, Reps K φ' H2 ((KV i).map (·.2)) acc ∧ At K φ' (fun H => J H ∧ H D0 = some (.dK (((KV i).map (·.1)).zip acc))) (wipeR ρ ws) (L2.wipe σ ws) H2,
    ⟨ds'.length, rfl, Nat.zero_le _, But.of (same_new hD), [], Reps.nil, ?_⟩, ?_⟩
  · have A2 := A1.newLive (o := .dK []) (J' := fun H => J H ∧ H D0 = some (.dK [])) hD ⟨A1.mono _ _ (fun a o _ e => same_new hD a o e) A1.j, upd_same⟩ (mono _ _ upd_tr (by rw [upd_same]; exact fun z => by cases z))
    exact ⟨A2.sr.wipe ws, A2.fr, A2.j, A2.mono⟩
  · rintro i m H2 ⟨rfl, hi, b2, acc, rs, A2⟩
    have upw : Up φ φ' H1 H2 := fun a o p e => ⟨⟨p, ne_of_none e hD⟩, b2.keep a o p e⟩
    have fr2 : Frm φ' H2 := A2.fr
    obtain ⟨wg, wstop⟩ := w φ' i H2 upw fr2
    by_cases hlt : i < ds'.length
    · have hd : ds'[i]? = some ds'[i] := List.getElem?_eq_getElem hlt
      obtain ⟨go, yl⟩ := wg _ hd
      have hmem : ds'[i] ∈ ds' := List.getElem_mem hlt
      have tkk : KV (i + 1) = putD (KV i) (kf ds'[i]) (vf ds'[i]) := by
        show foldK kf vf (ds'.take (i + 1)) = _
        rw [List.take_add_one, hd]
        exact foldK_snoc
      refine .inr ⟨go, fun H3 => But φ H1 H3 ∧ ∃ acc, Reps K φ' H3 ((KV (i + 1)).map (·.2)) acc ∧ At K φ' (fun H => J H ∧ H D0 = some (.dK (((KV (i + 1)).map (·.1)).zip acc))) (wipeR ρ ws) (L2.wipe σ ws) H3, ?_, ?_⟩
      · rintro H3 ⟨b3, acc3, r3, A3⟩
        exact ⟨ds'.length - (i + 1), by omega, rfl, hlt, b3, acc3, r3, A3⟩
      · intro x H3 hy
        obtain ⟨s3, r3⟩ := yl x H3 hy
        have A3 := A2.same s3
        have rs3 := rs.mono (But.of (φ := φ') s3)
        have b3 : But φ H1 H3 := b2.trans (But.of s3)
        refine hg _ hmem φ' _ _ H3 x A3 r3 _ fun σ4 A4 hw4 => ⟨?_, ?_⟩
        · rw [hw4 ws hu]
          exact wipe_wipe ws
        · refine et_yes (K := K) (φ := φ') σ4 H3 A4 _ fun bb H4 b4 A4' hbb => ?_
          subst hbb
          rw [if_pos rfl]
          refine hk _ hmem φ' _ (ext _) σ4 H4 A4' _ fun u d5 H5 b5 A5 e5 r5 => he _ hmem φ' _ (ext _) σ4 H5 A5 _ fun v d6 H6 b6 A6 e6 r6 => ?_
          subst e5 e6
          have ek : u = kV (kf ds'[i]) := keyD_v r5
          have nD : ¬ φ' D0 := fun z => z.2 rfl
          have b46 : But φ' H3 H6 := (b4.trans b5).trans b6
          obtain ⟨acc', ep, rp⟩ := zip_put (k := kf ds'[i]) r6 (rs3.mono b46)
          have bb6 : But φ H1 H6 := ⟨fun a o p e => b46.keep a o ⟨p, ne_of_none e hD⟩ (b3.keep a o p e), fun a h => b46.tr a (b3.tr a h)⟩
          have hlen : (((KV i).map (·.1)).zip acc).length < sizeLine := szlt (by
            have h1 : (KV i).length ≤ (ds'.take i).length := foldK_len
            rw [List.length_zip, List.length_map]
            rw [List.length_take] at h1
            omega)
          refine ⟨_, kf ds'[i], ek, A6.j.2, hlen, ?_⟩
          rw [ep, tkk]
          refine ⟨⟨fun a o p e => ?_, fun a h => upd_tr a (bb6.tr a h)⟩, acc', rp.mono ((But.refl φ' H6).upd nD), ?_⟩
          · rw [upd_ne (ne_of_none e hD)]
            exact bb6.keep a o p e
          · have A6' : At K φ' (fun H => J H ∧ H D0 = some (.dK (((KV i).map (·.1)).zip acc))) (wipeR ρ ws) (L2.wipe σ ws) H6 := ⟨A3.sr.up (Up.of b46), A6.fr, A6.j, A6.mono⟩
            have jj : ∀ o, J (upd H6 D0 o) := fun o => A1.mono H6 _ (fun a o h e => by
              rw [upd_ne (show a ≠ D0 from fun z => h (by rw [z]; exact hD))]
              exact e) A6.j.1
            exact A6'.upd nD ⟨jj _, upd_same⟩ (mono _ _ (fun a h => upd_tr a (bb6.tr a h)) (by rw [upd_same]; exact fun z => by cases z))
    · have e : i = ds'.length := by omega
      subst e
      refine .inl ⟨wstop rfl, ?_⟩
      have eF : KV ds'.length = foldK kf vf ds' := by
        show foldK kf vf (ds'.take _) = _
        rw [List.take_length]
      rw [eF] at rs A2
      have A3 : At K φ J ρ σ H2 := ⟨A1.sr.up (Up.of b2), A2.fr.fst, A2.j.1, A1.mono.up b2.tr⟩
      exact q D0 acc _ _ H1 H2 b1 A1 hD b2 A3 ⟨rfl, rfl⟩ (fun _ h => nomatch h) A2.j.2 rs
/-- x = xs.pop(i) -/
theorem st_popL {j k n : Nat} {i : Int} (A : At K φ J ρ σ H) (L : Liv K φ Jb J l ds) (hk : ρ[k]? = some (some (.raw (.ref l)))) (hn : seqIndex? i ds.length = some n) (hd : ds[n]? = some d) (h1 : -(2 ^ 63) ≤ i) (h2 : i < 2 ^ 63)
    (kk : ∀ J' σ' H', Liv K φ Jb J' l (ds.eraseIdx n) → At K φ J' (ρ.set j (some d)) σ' H' → D0.nx σ' H') : tAsg (tBM K "list" rPopAt (tVar k) (tCons (tC (.int i)) tNil)) (gName j) D0 σ H := by
  obtain ⟨vs, H0, r, m, hl, rfl⟩ := L.ex
  obtain ⟨w, e, rw'⟩ := A.sr.2 k _ hk
  cases (show w = _ from rw')
  obtain ⟨v, hv, rv⟩ := r.get hd
  have b0 : But φ H0 H := A.j.2
  refine ⟨_, e, .inl ⟨rfl, _, SqL.of A.j.1.2⟩, l, vs, i, n, v, rfl, rfl, A.j.1.2, h1, h2, by rw [r.length]; exact hn, hv, ?_⟩
  have re : ∀ (ds : List D) (vs : List V) (n : Nat), Reps K φ H0 ds vs → Reps K φ H0 (ds.eraseIdx n) (vs.eraseIdx n) := by
    intro ds
    induction ds with
    | nil =>
      intro vs n h
      cases (show vs = [] from h)
      exact Reps.nil
    | cons x ds ih =>
      intro vs n h
      obtain ⟨u, r', rfl, g1, g2⟩ := (show ∃ v r, vs = v :: r ∧ Rep K φ H0 x v ∧ Reps K φ H0 ds r from h)
      cases n with
      | zero => exact g2
      | succ n => exact Reps.cons g1 (ih r' n g2)
  have bu : But φ H0 (L2.upd H l (.lst (vs.eraseIdx n))) := b0.upd L.np
  refine kk _ _ _ ⟨L.np, L.st, L.pl, vs.eraseIdx n, L2.upd H l (.lst (vs.eraseIdx n)), (re ds vs n r).mono bu, m.up bu.tr, (by rw [upd_same]; exact fun z => nomatch z), rfl⟩ ?_
  have A2 := A.upd (J' := fun H'' => (Jb H'' ∧ H'' l = some (.lst (vs.eraseIdx n))) ∧ But φ (L2.upd H l (.lst (vs.eraseIdx n))) H'') L.np ⟨⟨L.st _ _ A.j.1.1, upd_same⟩, But.refl _ _⟩ (((m.up bu.tr).and (Mo.at (by rw [upd_same]; exact fun z => nomatch z))).and (Mo.but fun _ h => h))
  exact A2.set j (rv.mono bu)
/-- an int in a tuple or list of ints -/
theorem inV_ints {i : Int} : ∀ ns : List Int, inV (.int i) (ns.map V.int) = decide (i ∈ ns)
  | [] => rfl
  | n :: ns => by
    have ih := inV_ints (i := i) ns
    unfold inV at ih ⊢
    rw [List.map_cons, List.any_cons, ih]
    by_cases h : i = n
    · subst h
      simp [eqV]
    · have h' : ¬ n = i := fun z => h z.symm
      simp [eqV, h, h']
theorem flat_ints {ns : List Int} : (ns.map V.int).all flatV = true := by
  rw [List.all_map, List.all_eq_true]
  intro _ _
  rfl
theorem ev_inT {i : Int} {ns : List Int} (ha : EvD K φ J te ρ (.int i)) (hb : EvD K φ J tb ρ (.tup (ns.map D.int))) : EvD K φ J (tOp (rIn K false) te tb) ρ (.bl (decide (i ∈ ns))) := ev_opD ha hb fun H v w _ r1 r2 Q q => by
  cases (show v = _ from r1)
  obtain ⟨a, vs, rfl, p, rs⟩ := rep_tup r2
  rw [rs.ints] at p
  exact ⟨a, _, rfl, .inr p.sq, rfl, flat_ints, q _ _ H (Same.refl H) rfl (by rw [if_neg (by simp), inV_ints]; rfl)⟩
theorem ev_inL {i : Int} {ns : List Int} (ha : EvD K φ J te ρ (.int i)) (hb : EvD K φ J tb ρ (.lst (ns.map D.int))) : EvD K φ J (tOp (rIn K false) te tb) ρ (.bl (decide (i ∈ ns))) := ev_opD ha hb fun H v w _ r1 r2 Q q => by
  cases (show v = _ from r1)
  obtain ⟨a, vs, rfl, p, rs⟩ := rep_lst r2
  rw [rs.ints] at p
  exact ⟨a, _, rfl, .inl p.sq, rfl, flat_ints, q _ _ H (Same.refl H) rfl (by rw [if_neg (by simp), inV_ints]; rfl)⟩
/-- .. in a live list -/
theorem ev_inLL {i : Int} {ns : List Int} (L : Liv K φ Jb J l (ns.map D.int)) (ha : EvD K φ J te ρ (.int i)) (hb : EvD K φ J tb ρ (.raw (.ref l))) : EvD K φ J (tOp (rIn K false) te tb) ρ (.bl (decide (i ∈ ns))) := fun σ H A Q q =>
  ha σ H A _ fun v x H1 b1 A1 e1 r1 => hb σ H1 A1 _ fun w y H2 b2 A2 e2 r2 => by
    subst e1 e2
    cases (show v = _ from r1)
    cases (show w = _ from r2)
    obtain ⟨vs, H0, r, m, hl, rfl⟩ := L.ex
    have ev := r.ints
    subst ev
    exact ⟨l, _, rfl, .inl (SqL.of A2.j.1.2), rfl, flat_ints, q _ _ H2 (b1.trans b2) A2 rfl (by rw [if_neg (by simp), inV_ints]; rfl)⟩
theorem ev_notInLL {i : Int} {ns : List Int} (L : Liv K φ Jb J l (ns.map D.int)) (ha : EvD K φ J te ρ (.int i)) (hb : EvD K φ J tb ρ (.raw (.ref l))) : EvD K φ J (tOp (rIn K true) te tb) ρ (.bl (!decide (i ∈ ns))) := fun σ H A Q q =>
  ha σ H A _ fun v x H1 b1 A1 e1 r1 => hb σ H1 A1 _ fun w y H2 b2 A2 e2 r2 => by
    subst e1 e2
    cases (show v = _ from r1)
    cases (show w = _ from r2)
    obtain ⟨vs, H0, r, m, hl, rfl⟩ := L.ex
    have ev := r.ints
    subst ev
    exact ⟨l, _, rfl, .inl (SqL.of A2.j.1.2), rfl, flat_ints, q _ _ H2 (b1.trans b2) A2 rfl (by rw [if_pos rfl, inV_ints]; rfl)⟩
/-- sorted(d, reverse=b), the keys ints -/
theorem ev_sortDRev {td : TE} {b : Bool} {tb' : TA} {kds : List (Key × D)} {ks : List Int} (hd : EvDict K φ J td ρ kds) (hks : kds.map (·.1) = ks.map Sum.inl) (hb : EvAD K φ J tb' ρ [.bl b]) :
    EvP K φ J (tCKw (rSortD b [.bl b]) (tCons td tNil) tb') ρ (fun z => ∃ ns : List Int, z = .lst (ns.map D.int) ∧ ns.Perm ks ∧ OrdB b ns) := fun σ H A Q q =>
  hd σ H A _ fun a H1 b1 A1 per => hb σ H1 A1 _ fun ws ds H2 b2 A2 e2 r2 => by
    subst e2
    obtain ⟨w, rfl, r⟩ := r2.one
    cases (show w = _ from r)
    obtain ⟨vs, ea, rs⟩ := per H2 b2 A2.j
    have hl : vs.length = kds.length := by rw [rs.length, List.length_map]
    refine ⟨a, _, ks, rfl, rfl, ea, ?_, fun ys p hp ho hn => ?_⟩
    · rw [List.map_fst_zip (by rw [List.length_map]; omega), hks]
    · exact q _ (.lst (ys.map D.int)) _ ((b1.trans b2).trans (But.of (same_new hn))) (A2.same (same_new hn)) ⟨ys, rfl, hp, ho⟩ ⟨p, _, rfl, .inl ⟨A2.fr p hn, .inl upd_same⟩, Reps.of_ints⟩
end
section
variable {K : PySem.W.Frag} {φ : Addr → Prop} {J : Hp → Prop} {ρ : List (Option D)} {te : TE} {Jb : Hp → Prop} {l : Addr}
/-- sorted of ints, any number of them -/
theorem c_sortedA {X : Cx} : CallR X (.builtin "sorted") (rSortedI X.K) := cr_sortedI
theorem ev_sortedA {ns : List Int} (ha : EvD K φ J te ρ (.lst (ns.map D.int))) : EvP K φ J (tCB (rSortedI K) (tCons te tNil)) ρ (fun z => ∃ ns' : List Int, z = .lst (ns'.map D.int) ∧ ns'.Perm ns ∧ ns'.Pairwise (· ≤ ·)) := ev_cbD (ea_cons ha ea_nil) fun H vs f r Q q => by
  obtain ⟨v, rfl, r1⟩ := r.one
  obtain ⟨a, rfl, h⟩ := rep_ints r1
  exact ⟨a, ns, rfl, h, fun ns' p hp hs hn => q _ _ _ (same_new hn) ⟨ns', rfl, hp, hs⟩ ⟨p, _, rfl, .inl ⟨f p hn, .inl upd_same⟩, Reps.of_ints⟩⟩
end
section
variable {X : Cx}
theorem sw_trueD {kx vx : Expr} {gs : List Comprehension} {scope : Scope} {pos py : Pos} {y : Str} {l : Nat} {env : Env} (hk : env.scope.kind = .function) (hy : env.scope.names.lookup y = some .local) (hl : (py.line == pos.line) = true)
    (ha : (scope.names.any fun (n, k) => n == y && (k == .local || k == .cell)) = false) : swapsWith (.DictComp kx vx gs scope pos) (some (.Name y py)) l env = pure true := by
  have ky : env.kindOf y = some .local := hy
  have hb : env.blockKind = .function := by unfold Env.blockKind; rw [hk]; rfl
  unfold swapsWith
  simp only [hb, ky, ha, Expr.pos, hl]
  rfl
/-- x = {k: v for ..} -/
theorem ps_setDc {i : Nat} {y : Str} {py : Pos} {kx vx tg iter : Expr} {ifs : List Expr} {scope : Scope} {own : List (Str × Nat)} {pos spos : Pos} {wi : TI} {g : TG} {tt : TT} {tk tv : TE} (hc : X.calm = true) (hN : X.N.Nodup) (hy : X.N[i]? = some y) (hyl : X.env.scope.names.lookup y = some .local)
    (hsw : swapsWith (.DictComp kx vx [⟨tg, iter, ifs, 0⟩] scope pos) (some (.Name y py)) spos.line X.env = pure true) (hi : PI X tg iter wi) (ok : BlkOk X.N X.env.scope scope own)
    (hg : ∀ (s : Shared) (H : Hp) (C : Addr) (cl : List (Str × Addr)) (fp : List Addr), PG (X.blk s H scope (compEnvC scope cl C X.env) fp) tg g) (ht : ∀ (s : Shared) (H : Hp) (C : Addr) (cl : List (Str × Addr)) (fp : List Addr), PTs (X.blk s H scope (compEnvC scope cl C X.env) fp) ifs tt)
    (hk : ∀ (s : Shared) (H : Hp) (C : Addr) (cl : List (Str × Addr)) (fp : List Addr), PE (X.blk s H scope (compEnvC scope cl C X.env) fp) kx tk)
    (he : ∀ (s : Shared) (H : Hp) (C : Addr) (cl : List (Str × Addr)) (fp : List Addr), PE (X.blk s H scope (compEnvC scope cl C X.env) fp) vx tv) (hs : ∀ x, foldedSetIterable iter X.env x = pure x := by intro _; rfl) :
    PS X (.Assign [.Name y py] (.DictComp kx vx [⟨tg, iter, ifs, 0⟩] scope pos) spos) (tAsg (tDc wi g tt tk tv (own.map (·.2))) (gName i)) := by
  refine ⟨fun pins s σ H D I h => ?_⟩
  rw [exec_Assign_Name_used _ _ _ _ hsw]
  refine wpAny_bind (wpAny_standAt (wpAny_bind ?_))
  show wpAny _ X.A (do let _ ← comprehension (.DictComp kx vx [⟨tg, iter, ifs, 0⟩] scope pos) scope X.env (firstIterPos [⟨tg, iter, ifs, 0⟩] pos) newDict false (eval iter X.env) (some (assign (.Name y py) X.env))) _ _ s
  have h : tDc wi g tt tk tv (own.map (·.2)) σ H (fun x H1 => gName i x σ H1 D.nx) := h
  refine wpAny_bind (thn (dc_core (Qf := fun _ s' => SP X pins D .next s') hc hN I hi ok hg ht hk he hs h fun L C s' m H' I' q hn f => ?_) fun _ s' hq => wpAny_pure (wpAny_pure hq))
  show wpAny _ _ (assign (.Name y py) X.env (.ref L)) _ _ _
  refine wpAny_assign_Name (store_ok2 (v := V.ref L) I' hN hy (.inl hyl) rfl (fun s2 I2 ⟨a, sb, ha⟩ => ?_) (.inr hyl))
  obtain ⟨f0, f1, f2, f3, f4, f5⟩ := f
  have haC : C ≠ a := by
    rcases ha with z | z
    · rw [z]; exact f1
    · exact fun e => f4 y a z e.symm
  refine ⟨m, hn.sameBut sb haC, fun h3 sb3 => ?_⟩
  exact ⟨_, H', I2.turned (t' := s2.toks) (fun b o hb e => (sb3.2 b hb).trans e) f0 f1 f3 f4 f5, q⟩
end

/-! ### live objects, any number of them: what J says of each -/
structure LivS (K : PySem.W.Frag) (φ : Addr → Prop) (J : Hp → Prop) (l : Addr) (C : List V → HO) (ds : List D) : Prop where
  np : ¬ φ l
  ex : ∃ vs H0, Reps K φ H0 ds vs ∧ H0 l ≠ none ∧ ∀ H, J H → H l = some (C vs) ∧ But φ H0 H
/-- J' : l is written, the rest is as J has it -/
structure Wr (K : PySem.W.Frag) (φ : Addr → Prop) (J J' : Hp → Prop) (l : Addr) : Prop where
  base : ∀ Jb : Hp → Prop, (∀ H, J H → Jb H) → Stab l Jb → ∀ H, J' H → Jb H
  pool : ∀ p s ns, Pooled φ J p s ns → p ≠ l → s ≠ l → Pooled φ J' p s ns
  liv : ∀ l2 C2 ds2, LivS K φ J l2 C2 ds2 → l2 ≠ l → LivS K φ J' l2 C2 ds2
/-- a new object at l: J' has what J has -/
structure Nw (K : PySem.W.Frag) (φ : Addr → Prop) (J J' : Hp → Prop) (l : Addr) : Prop where
  fr : φ l
  ext : Ext φ J (wo φ l) J'
  pl : ∀ p s ns, Pooled φ J p s ns → p ≠ l ∧ s ≠ l
  liv : ∀ l2 C2 ds2, LivS K φ J l2 C2 ds2 → l2 ≠ l ∧ LivS K (wo φ l) J' l2 C2 ds2
  st : Stab l J
  hc : ∃ Hc, J Hc ∧ Hc l = none
section
variable {K : PySem.W.Frag} {φ φ' : Addr → Prop} {Jb J J' : Hp → Prop} {H H' H1 : Hp} {ρ ρ' : List (Option D)} {σ : L2.St} {ta : TA} {te tb td ty tv : TE} {x y z d : D} {P Pa Pb : D → Prop} {ds es : List D} {v : V} {vs : List V} {D0 : Ends} {t u : TS} {l : Addr} {C : List V → HO}
theorem LivS.imp (L : LivS K φ J l C ds) (h : ∀ H, J' H → J H) : LivS K φ J' l C ds := ⟨L.np, let ⟨vs, H0, r, n, k⟩ := L.ex; ⟨vs, H0, r, n, fun H j => k H (h H j)⟩⟩
theorem LivS.but (L : LivS K φ J l C ds) : LivS K φ (fun H => J H ∧ But φ H1 H) l C ds := L.imp fun _ h => h.1
theorem upd_upd {H : Hp} {l : Addr} {o u : HO} (h : H l = some o) : L2.upd (L2.upd H l u) l o = H := funext fun a => by
  by_cases e : a = l
  · rw [e, upd_same, h]
  · rw [upd_ne e, upd_ne e]
theorem But.unupd {l : Addr} {u : HO} {H0 H : Hp} (np : ¬ φ l) (hl : H l ≠ none) (b : But φ H0 (L2.upd H l u)) : But φ H0 H := ⟨fun a o p e => by
  have z := b.keep a o p e
  rw [upd_ne (show a ≠ l from fun z => np (z ▸ p))] at z
  exact z, fun a h => by
  by_cases e : a = l
  · rw [e]; exact hl
  · have z := b.tr a h
    rw [upd_ne e] at z
    exact z⟩
/-- l is written -/
def wrJ (φ : Addr → Prop) (J : Hp → Prop) (l : Addr) (o : HO) (H3 : Hp) : Hp → Prop := fun H => (H l = some o ∧ ∃ u, J (L2.upd H l u)) ∧ But φ H3 H
theorem LivS.write {C' : List V → HO} {ds' : List D} {vs' : List V} (L : LivS K φ J l C ds) (A : At K φ J ρ σ H) (r : Reps K φ H ds' vs') (hC : ∀ xs, C' vs' ≠ .tup xs := by intro xs h; cases h) :
    At K φ (wrJ φ J l (C' vs') (L2.upd H l (C' vs'))) ρ σ (L2.upd H l (C' vs')) ∧ LivS K φ (wrJ φ J l (C' vs') (L2.upd H l (C' vs'))) l C' ds' ∧ Wr K φ J (wrJ φ J l (C' vs') (L2.upd H l (C' vs'))) l := by
  obtain ⟨vs, H0, r0, n0, k0⟩ := L.ex
  have hl := (k0 H A.j).1
  have hln : H l ≠ none := by rw [hl]; exact fun z => nomatch z
  refine ⟨A.upd (ho := hC) L.np ⟨⟨upd_same, C vs, by rw [show L2.upd (L2.upd H l (C' vs')) l (C vs) = H from upd_upd hl]; exact A.j⟩, But.refl _ _⟩ ?_, ⟨L.np, vs', _, r.mono ((But.refl φ H).upd L.np), (by rw [upd_same]; exact fun z => nomatch z), fun H' h => ⟨h.1.1, h.2⟩⟩, ⟨fun Jb hb st H' h => ?_, fun p s ns hp hpl hsl => ?_, fun l2 C2 ds2 L2' hne => ?_⟩⟩
  · refine Mo.and (fun Ha Hb k j => ⟨k l _ (by rw [upd_same]; exact fun z => nomatch z) j.1, ?_⟩) (Mo.but fun _ h => h)
    obtain ⟨u, ju⟩ := j.2
    refine ⟨u, A.mono _ _ (fun a o h e => ?_) ju⟩
    by_cases ea : a = l
    · rw [ea, upd_same] at e ⊢
      exact e
    · rw [upd_ne ea] at e ⊢
      exact k a o (upd_tr a h) e
  · obtain ⟨⟨e, u, ju⟩, _⟩ := h
    have z := st _ (C' vs') (hb _ ju)
    rw [upd_upd e] at z
    exact z
  · refine ⟨hp.np, hp.ne, fun H' h => ?_, fun Ha Hb h k o => ?_⟩
    · obtain ⟨⟨e, u, ju⟩, _⟩ := h
      obtain ⟨a, c, n, z, e1, e2, h0⟩ := hp.ok _ ju
      rw [upd_ne hpl] at e1
      rw [upd_ne hsl] at e2
      exact ⟨a, c, n, z, e1, e2, h0⟩
    · obtain ⟨⟨e, u, ju⟩, b⟩ := h
      refine ⟨⟨k l _ hpl.symm e, u, hp.st _ _ ju (fun a w na ea => ?_) ?_⟩, Ext.but2 hp.np _ _ b k o⟩
      · by_cases eal : a = l
        · rw [eal, upd_same] at ea ⊢
          exact ea
        · rw [upd_ne eal] at ea ⊢
          exact k a w na ea
      · obtain ⟨a, c, n, z, e1, e2, h0⟩ := o
        exact ⟨a, c, n, z, by rw [upd_ne hpl]; exact e1, by rw [upd_ne hsl]; exact e2, h0⟩
  · obtain ⟨vs2, H2, r2, n2, k2⟩ := L2'.ex
    refine ⟨L2'.np, vs2, H2, r2, n2, fun H' h => ?_⟩
    obtain ⟨⟨e, u, ju⟩, _⟩ := h
    obtain ⟨e2, b2⟩ := k2 _ ju
    rw [upd_ne hne] at e2
    exact ⟨e2, b2.unupd L.np (by rw [e]; exact fun z => nomatch z)⟩
theorem Nw.same {H0 : Hp} (N : Nw K φ J J' l) (hb : ∀ H', J H' → Same H0 H') : Stab l (Same H0) := fun H' o s => by
  obtain ⟨Hc, jc, e⟩ := N.hc
  exact Same.upd_live s ((hb Hc jc).free e)
theorem stab_pool {p s : Addr} {ns : List Int} (h1 : p ≠ l) (h2 : s ≠ l) : Stab l (PoolOk p s ns) := fun H' o j => by
  obtain ⟨a, c, n, z, e1, e2, h0⟩ := j
  exact ⟨a, c, n, z, by rw [upd_ne h1]; exact e1, by rw [upd_ne h2]; exact e2, h0⟩
/-- x = a new object -/
theorem st_newS {k : Nat} {P : List D → (List V → HO) → Prop} (A : At K φ J ρ σ H) (h : EvNO K φ J te ρ P) (kk : ∀ l ds C J' σ' H', P ds C → Nw K φ J J' l → LivS K (wo φ l) J' l C ds → At K (wo φ l) J' (ρ.set k (some (.raw (.ref l)))) σ' H' → D0.nx σ' H') : tAsg te (gName k) D0 σ H :=
  h σ H A _ fun p vs ds C H0 H' b0 A0 hp b A' pd nt e r => by
    have hpH : H p = none := by
      cases z : H p with
      | none => rfl
      | some u => exact absurd hp (b0.tr p (by rw [z]; exact fun w => by cases w))
    have u : Up φ (wo φ p) H H' := fun a o q e2 => ⟨⟨q, ne_of_none e2 hpH⟩, (b0.trans b).keep a o q e2⟩
    have pne : ∀ s ps ns, Pooled φ J s ps ns → s ≠ p ∧ ps ≠ p := fun s ps ns q => by
      obtain ⟨_, _, _, _, h1, h2, _⟩ := q.ok _ A0.j
      exact ⟨ne_of_none h1 hp, ne_of_none h2 hp⟩
    have hpn : H' p ≠ none := by rw [e]; exact fun z => nomatch z
    have A2 : At K (wo φ p) (fun H => (J H ∧ H p = some (C vs)) ∧ But (wo φ p) H' H) ρ σ H' :=
      ⟨A.sr.up u, A'.fr.at e nt, ⟨⟨A'.j, e⟩, But.refl _ _⟩, (A'.mono.and (Mo.at hpn)).and (Mo.but fun _ h => h)⟩
    refine kk p ds C _ _ H' pd ⟨A0.fr p hp, ⟨fun _ h => h.1.1, fun s ps ns q => ⟨fun z => q.np z.1, q.ne, fun H h => q.ok H h.1.1, fun Ha Hb h k o => ⟨⟨q.st _ _ h.1.1 k o, k _ _ (pne s ps ns q).1.symm h.1.2⟩, Ext.but2 (fun z => q.np z.1) _ _ h.2 k o⟩⟩, fun a p' h => ⟨p', fun e' => h H0 A0.j (by rw [e']; exact hp)⟩⟩, pne, fun l2 C2 ds2 L2' => ?_, Stab.of A0.mono hp, H0, A0.j, hp⟩ ⟨fun z => z.2 rfl, vs, H', r, hpn, fun H h => ⟨h.1.2, h.2⟩⟩ (A2.set k rfl)
    obtain ⟨vs2, H2, r2, n2, k2⟩ := L2'.ex
    obtain ⟨e0, b2⟩ := k2 _ A0.j
    have ne : l2 ≠ p := ne_of_none e0 hp
    refine ⟨ne, fun z => L2'.np z.1, vs2, H', ?_, (by rw [(k2 _ A'.j).1]; exact fun z => nomatch z), fun H h => ⟨(k2 _ h.1.1).1, h.2⟩⟩
    have r3 : Reps K φ H0 ds2 vs2 := r2.mono b2
    exact Reps.up (fun a o q e2 => ⟨⟨q, ne_of_none e2 hp⟩, b.keep a o q e2⟩) ds2 vs2 r3
theorem en_ofN {P : List D → Prop} (h : EvN K φ J te ρ P) : EvNO K φ J te ρ (fun ds C => P ds ∧ C = HO.lst) := fun σ H A Q q => h σ H A Q fun p vs ds H0 H' b0 A0 hp b A' pd e r => q p vs ds HO.lst H0 H' b0 A0 hp b A' ⟨pd, rfl⟩ (fun xs h => nomatch h) e r
/-- .append -/
theorem st_appS {k : Nat} (A : At K φ J ρ σ H) (L : LivS K φ J l HO.lst ds) (hk : ρ[k]? = some (some (.raw (.ref l)))) (he : EvP K φ J te ρ P) (hz : ds.length ≤ 1000000)
    (kk : ∀ d J' H', P d → Wr K φ J J' l → LivS K φ J' l HO.lst (ds ++ [d]) → At K φ J' ρ σ H' → D0.nx σ H') : tDrop (tBM K "list" rAppend (tVar k) (tCons te tNil)) D0 σ H := by
  obtain ⟨vs, H0, r, n, k0⟩ := L.ex
  refine st_app (vs := vs) A hk (fun H h => (k0 H h).1) he (by rw [r.length]; exact hz) fun v d H' pd rv b A' => ?_
  obtain ⟨A2, L2', W⟩ := L.write (C' := HO.lst) A' ((r.mono (k0 _ A'.j).2).append (Reps.cons rv Reps.nil))
  exact kk d _ _ pd W L2' A2
/-- xs[i] = e -/
theorem st_setLS {k n : Nat} {i : Int} (A : At K φ J ρ σ H) (L : LivS K φ J l HO.lst ds) (he : EvP K φ J te ρ P) (hk : ρ[k]? = some (some (.raw (.ref l)))) (hi : EvD K φ J tb ρ (.int i)) (hj : ixN ds.length i = some n)
    (kk : ∀ d J' H', P d → Wr K φ J J' l → LivS K φ J' l HO.lst (ds.set n d) → At K φ J' ρ σ H' → D0.nx σ H') : tAsg te (gSub (tVar k) tb rSetL) D0 σ H := by
  obtain ⟨vs, H0, r, n, k0⟩ := L.ex
  refine st_setL (vs := vs) A he hk hi (fun H h => (k0 H h).1) (by rw [r.length]; exact hj) fun v d H' pd rv b A' => ?_
  obtain ⟨A2, L2', W⟩ := L.write (C' := HO.lst) A' ((r.mono (k0 _ A'.j).2).set _ rv)
  exact kk d _ _ pd W L2' A2
theorem reps_erase : ∀ {ds : List D} {vs : List V} (n : Nat), Reps K φ H ds vs → Reps K φ H (ds.eraseIdx n) (vs.eraseIdx n)
  | [], vs, n, h => by
    cases (show vs = [] from h)
    exact Reps.nil
  | x :: ds, vs, n, h => by
    obtain ⟨u, r', rfl, g1, g2⟩ := (show ∃ v r, vs = v :: r ∧ Rep K φ H x v ∧ Reps K φ H ds r from h)
    cases n with
    | zero => exact g2
    | succ n => exact Reps.cons g1 (reps_erase n g2)
/-- x = xs.pop(i) -/
theorem st_popS {j k n : Nat} {i : Int} (A : At K φ J ρ σ H) (L : LivS K φ J l HO.lst ds) (hk : ρ[k]? = some (some (.raw (.ref l)))) (hn : seqIndex? i ds.length = some n) (hd : ds[n]? = some d) (h1 : -(2 ^ 63) ≤ i) (h2 : i < 2 ^ 63)
    (kk : ∀ J' σ' H', Wr K φ J J' l → LivS K φ J' l HO.lst (ds.eraseIdx n) → At K φ J' (ρ.set j (some d)) σ' H' → D0.nx σ' H') : tAsg (tBM K "list" rPopAt (tVar k) (tCons (tC (.int i)) tNil)) (gName j) D0 σ H := by
  obtain ⟨vs, H0, r, m, k0⟩ := L.ex
  obtain ⟨w, e, rw'⟩ := A.sr.2 k _ hk
  cases (show w = _ from rw')
  have r1 := r.mono (k0 _ A.j).2
  obtain ⟨v, hv, rv⟩ := r1.get hd
  refine ⟨_, e, .inl ⟨rfl, _, SqL.of (k0 _ A.j).1⟩, l, vs, i, n, v, rfl, rfl, (k0 _ A.j).1, h1, h2, by rw [r.length]; exact hn, hv, ?_⟩
  obtain ⟨A2, L2', W⟩ := L.write (C' := HO.lst) (vs' := vs.eraseIdx n) A (reps_erase n r1)
  exact kk _ _ _ W L2' (A2.set j (rv.mono ((But.refl φ H).upd L.np)))
theorem ev_lenS' (L : LivS K φ J l HO.lst ds) (hk : EvD K φ J te ρ (.raw (.ref l))) : EvD K φ J (tCB (rLen K) (tCons te tNil)) ρ (.int ds.length) := by
  obtain ⟨vs, H0, r, m, k0⟩ := L.ex
  rw [← r.length]
  exact ev_lenLive hk fun H h => (k0 H h).1
theorem ev_ixS {i : Int} (L : LivS K φ J l HO.lst ds) (hk : EvD K φ J te ρ (.raw (.ref l))) (hb : EvD K φ J tb ρ (.int i)) (e : L2.atI ds i = some d) : EvD K φ J (tOp (rIxL K) te tb) ρ d := by
  obtain ⟨vs, H0, r, m, k0⟩ := L.ex
  refine ev_ixLive hk hb fun H h => ⟨vs, (k0 H h).1, ?_⟩
  unfold L2.atI at e ⊢
  rw [r.length]
  cases hx : L2.ixN ds.length i with
  | none => rw [hx] at e; cases e
  | some n =>
    rw [hx] at e
    obtain ⟨v, hv, rv⟩ := r.get (i := n) e
    exact ⟨v, hv, rv.mono (k0 H h).2⟩
theorem ev_inS_ {i : Int} {ns : List Int} (L : LivS K φ J l HO.lst (ns.map D.int)) (ha : EvD K φ J te ρ (.int i)) (hb : EvD K φ J tb ρ (.raw (.ref l))) : EvD K φ J (tOp (rIn K false) te tb) ρ (.bl (decide (i ∈ ns))) := fun σ H A Q q =>
  ha σ H A _ fun v x H1 b1 A1 e1 r1 => hb σ H1 A1 _ fun w y H2 b2 A2 e2 r2 => by
    subst e1 e2
    cases (show v = _ from r1)
    cases (show w = _ from r2)
    obtain ⟨vs, H0, r, m, k0⟩ := L.ex
    have ev := r.ints
    subst ev
    exact ⟨l, _, rfl, .inl (SqL.of (k0 _ A2.j).1), rfl, flat_ints, q _ _ H2 (b1.trans b2) A2 rfl (by rw [if_neg (by simp), inV_ints]; rfl)⟩
theorem ev_notInS_ {i : Int} {ns : List Int} (L : LivS K φ J l HO.lst (ns.map D.int)) (ha : EvD K φ J te ρ (.int i)) (hb : EvD K φ J tb ρ (.raw (.ref l))) : EvD K φ J (tOp (rIn K true) te tb) ρ (.bl (!decide (i ∈ ns))) := fun σ H A Q q =>
  ha σ H A _ fun v x H1 b1 A1 e1 r1 => hb σ H1 A1 _ fun w y H2 b2 A2 e2 r2 => by
    subst e1 e2
    cases (show v = _ from r1)
    cases (show w = _ from r2)
    obtain ⟨vs, H0, r, m, k0⟩ := L.ex
    have ev := r.ints
    subst ev
    exact ⟨l, _, rfl, .inl (SqL.of (k0 _ A2.j).1), rfl, flat_ints, q _ _ H2 (b1.trans b2) A2 rfl (by rw [if_pos rfl, inV_ints]; rfl)⟩
/-- xs != [] -/
theorem ev_neNilS {n : Nat} (L : LivS K φ J l HO.lst ds) (hq : okq 64 (.lst ds) = true) (ha : EvD K φ J te ρ (.raw (.ref l))) : EvD K φ J (tOp (rNeD K) te (tLst tNil)) ρ (.bl (!ds.isEmpty)) := fun σ H A Q q =>
  ha σ H A _ fun v x H1 b1 A1 e1 r1 => (show EvD K φ J (tLst tNil) ρ (.lst []) from ev_lst ea_nil) σ H1 A1 _ fun w y H2 b2 A2 e2 r2 => by
    subst e1 e2
    cases (show v = _ from r1)
    obtain ⟨vs, H0, r, m, k0⟩ := L.ex
    obtain ⟨el, b0⟩ := k0 _ A2.j
    have dp : Dp K H2 (.ref l) (toPy (.lst ds)) := .lst (SqL.of el) (dps_of ds vs 63 hq (r.mono b0))
    exact ⟨_, _, dp, dp_of (.lst []) w 64 rfl r2, okq_shaped hq (Nat.le_refl _), okq_shaped (d := .lst []) rfl (Nat.le_refl 64), q _ (.bl (!eqvD (.lst ds) (.lst []))) H2 (b1.trans b2) A2 (by rw [eqvD_nil]) rfl⟩
/-- the list is left as it is from here on -/
theorem LivS.freeze (L : LivS K (wo φ l) J l HO.lst ds) (hl : φ l) {k : Nat} (A : At K (wo φ l) J ρ σ H) (hk : ρ[k]? = some (some (.raw (.ref l)))) : At K φ (fun H' => J H' ∧ But φ H H') (ρ.set k (some (.lst ds))) σ H := by
  obtain ⟨vs, H0, r, hn, k0⟩ := L.ex
  obtain ⟨el, b0⟩ := k0 _ A.j
  have up : Up (wo φ l) φ H H := fun a o p e => ⟨p.1, e⟩
  have rr : Rep K φ H (.lst ds) (.ref l) := ⟨l, vs, rfl, .inl ⟨hl, .inl el⟩, Reps.up up ds vs (r.mono b0)⟩
  obtain ⟨w, ew, rw'⟩ := A.sr.2 k _ hk
  cases (show w = _ from rw')
  refine ⟨?_, A.fr.fst, ⟨A.j, But.refl _ _⟩, A.mono.and (Mo.but fun _ h => h)⟩
  have s1 := (A.sr.up up)
  refine ⟨by rw [List.length_set]; exact s1.1, fun i d hd => ?_⟩
  by_cases e : k = i
  · subst e
    have hlt : k < ρ.length := (List.getElem?_eq_some_iff.mp hk).1
    rw [List.getElem?_set_self hlt] at hd
    cases hd
    exact ⟨_, ew, rr⟩
  · rw [List.getElem?_set_ne e] at hd
    exact s1.2 i d hd
/-- others stay live -/
theorem LivS.thaw {l2 : Addr} {C2 : List V → HO} {ds2 : List D} (L : LivS K (wo φ l) J l2 C2 ds2) (ne : l2 ≠ l) (j : J H) : LivS K φ (fun H' => J H' ∧ But φ H H') l2 C2 ds2 := by
  obtain ⟨vs, H0, r, hn, k0⟩ := L.ex
  obtain ⟨el, b0⟩ := k0 _ j
  exact ⟨fun z => L.np ⟨z, ne⟩, vs, H, Reps.up (fun a o p e => ⟨p.1, e⟩) ds2 vs (r.mono b0), (by rw [el]; exact fun z => nomatch z), fun H' h => ⟨(k0 _ h.1).1, h.2⟩⟩
theorem pool_thaw {p s : Addr} {ns : List Int} (hp : Pooled (wo φ l) J p s ns) (ne : p ≠ l) : Pooled φ (fun H' => J H' ∧ But φ H H') p s ns := by
  have np : ¬ φ p := fun z => hp.np ⟨z, ne⟩
  exact ⟨np, hp.ne, fun H' h => hp.ok _ h.1, fun Ha Hb h k o => ⟨hp.st _ _ h.1 k o, Ext.but2 np _ _ h.2 k o⟩⟩
/-! dicts -/
variable {κ : Type} [DecidableEq κ] [DKind κ] {kds : List (κ × D)} {k : κ}
abbrev LivDS (K : PySem.W.Frag) (φ : Addr → Prop) (J : Hp → Prop) (l : Addr) (kds : List (κ × D)) : Prop := LivS K φ J l (fun vs => DKind.ho ((kds.map (·.1)).zip vs)) (kds.map (·.2))
theorem ed_liveS (L : LivDS K φ J l kds) (h : EvD K φ J td ρ (.raw (.ref l))) : EvDict K φ J td ρ kds := fun σ H A Q q => h σ H A _ fun v d H' b A' e r => by
  subst e
  cases (show v = _ from r)
  obtain ⟨vs, H0, rs, m, k0⟩ := L.ex
  exact q l H' b A' fun H'' b' j => ⟨vs, (k0 _ j).1, rs.mono (k0 _ j).2⟩
/-- d[y] = v -/
theorem st_dputS {i : Nat} (A : At K φ J ρ σ H) (L : LivDS K φ J l kds) (hv : EvP K φ J tv ρ P) (hk : ρ[i]? = some (some (.raw (.ref l)))) (hy : EvD K φ J ty ρ (DKind.kd k)) (hz : kds.length ≤ 1000000)
    (kk : ∀ d J' H', P d → Wr K φ J J' l → LivDS K φ J' l (putD kds k d) → At K φ J' ρ σ H' → D0.nx σ H') : sDPut (tVar i) ty tv D0 σ H := by
  obtain ⟨vs, H0, r, m, k0⟩ := L.ex
  refine hv σ H A _ fun v d H1 b1 A1 pd r1 => ev_var hk σ H1 A1 _ fun w d2 H2 b2 A2 e2 r2 => hy σ H2 A2 _ fun y d3 H3 b3 A3 e3 r3 => ?_
  subst e2 e3
  cases (show w = _ from r2)
  obtain ⟨el, b0⟩ := k0 _ A3.j
  obtain ⟨vs', ep, rp⟩ := zip_put (k := k) ((r1.mono b2).mono b3) (r.mono b0)
  have hlen : ((kds.map (·.1)).zip vs).length < sizeLine := szlt (by
    rw [List.length_zip, List.length_map]
    omega)
  refine ⟨l, _, rfl, DKind.put r3 el hlen, ?_⟩
  rw [ep]
  obtain ⟨A4, L4, W⟩ := L.write (C' := fun vs => DKind.ho (((putD kds k d).map (·.1)).zip vs)) A3 rp (fun xs => DKind.nt _ xs)
  exact kk d _ _ pd W L4 A4
theorem LivS.freezeD (L : LivDS K (wo φ l) J l kds) (hl : φ l) {i : Nat} (A : At K (wo φ l) J ρ σ H) (hk : ρ[i]? = some (some (.raw (.ref l)))) : At K φ (fun H' => J H' ∧ But φ H H') (ρ.set i (some (dictD kds))) σ H := by
  obtain ⟨vs, H0, r, hn, k0⟩ := L.ex
  obtain ⟨el, b0⟩ := k0 _ A.j
  have up : Up (wo φ l) φ H H := fun a o p e => ⟨p.1, e⟩
  have rr : Rep K φ H (dictD kds) (.ref l) := DKind.rep.mpr ⟨l, vs, rfl, ⟨hl, el, by rw [List.length_map, List.length_map]⟩, Reps.up up _ vs (r.mono b0)⟩
  obtain ⟨w, ew, rw'⟩ := A.sr.2 i _ hk
  cases (show w = _ from rw')
  refine ⟨?_, A.fr.fst, ⟨A.j, But.refl _ _⟩, A.mono.and (Mo.but fun _ h => h)⟩
  have s1 := (A.sr.up up)
  refine ⟨by rw [List.length_set]; exact s1.1, fun j d hd => ?_⟩
  by_cases e : i = j
  · subst e
    have hlt : i < ρ.length := (List.getElem?_eq_some_iff.mp hk).1
    rw [List.getElem?_set_self hlt] at hd
    cases hd
    exact ⟨_, ew, rr⟩
  · rw [List.getElem?_set_ne e] at hd
    exact s1.2 j d hd
end

/-! ### defs whose result is told by a property -/
def SpR (K : PySem.W.Frag) (n : Nat) (Pre : List D → Prop) (R : List D → D → Prop) : Sp := fun vs H Q _ => ∃ φ ds, ds.length = n ∧ Reps K φ H ds vs ∧ Frm φ H ∧ Pre ds ∧ ∀ d v H', R ds d → Same H H' → Rep K φ H' d v → Q v H'
section
variable {K : PySem.W.Frag} {φ : Addr → Prop} {J : Hp → Prop} {ρ : List (Option D)} {ds : List D}
theorem ev_callR {n : Nat} {Pre : List D → Prop} {R : List D → D → Prop} {E : XK} {ta : TA} (ha : EvAD K φ J ta ρ ds) (hp : Pre ds) (hl : ds.length = n := by rfl) : EvP K φ J (tCall (SpR K n Pre R) [] E ta) ρ (R ds) := fun σ H A Q q =>
  ha σ H A _ fun vs ds' H1 b1 A1 e r1 => by
    subst e
    exact ⟨φ, _, hl, by rw [List.append_nil]; exact r1, A1.fr, hp, fun d v H' rd s r => q v d H' (b1.trans (But.of s)) (A1.same s) rd r⟩
variable {PP : Program} {w : World} {mg : Str → Option Value} {base : Heap}
theorem fn_okR {x qual : Str} {st : Stmt} {f : Addr} {fd : FuncData} {N ps : List Str} {k n : Nat} {Pre : List D → Prop} {R : List D → D → Prop} (F : Fun K x qual st f fd) (S : FnScope N ps (defScope st)) (hn : ps.length = n) (m : Nat) (hm : N.length = n + m)
    (hbody : ∀ (cdv : Value) (A : Around) (outer : List Env) (s : Shared) (H : Hp) (E : XK), Room k (A.deeper (envOfC qual (defScope st) s.heap.objs.size f cdv)) →
      ∃ t, PSs (cxOf CX0 PP w K mg base N qual (defScope st) f cdv A outer s H E).nox (defBody st) t ∧
        ∀ (φ : Addr → Prop) (ds : List D) (H : Hp) (D0 : Ends) (σ : L2.St), ds.length = n → Pre ds → (∀ d v H', R ds d → Same H H' → Rep K φ H' d v → D0.rt v H') → At K φ (Same H) (ds.map some ++ List.replicate m none) σ H → t D0 σ H) :
    FnOk PP w K mg base CX0 (k + 1) f fd ps (SpR K n Pre R) := by
  refine F.ok S (fun vs H Q E h => ?_) (fun cdv A outer s H vs Q E hr h => ?_)
  · obtain ⟨φ, ds, hl, r, _⟩ := h
    rw [r.length, hl, hn]
  · obtain ⟨φ, ds, hl, r, fr, hp, q⟩ := h
    obtain ⟨t, ht, run⟩ := hbody cdv A outer s H E hr
    refine ⟨t, ht, run φ ds H _ _ hl hp (fun d v H' rd s r => q d v H' rd s r) ⟨?_, fr, Same.refl H, Mo.sames fun _ h => h⟩⟩
    have e : N.length - vs.length = m := by rw [hm, r.length, hl]; omega
    unfold L2.start
    rw [e]
    exact SR.start r
end

-- import HandS.SortRule
-- import HandS.DictTup
/-! ### sorted(d) of dicts with pairs of ints as keys -/
def prK (p : Int × Int) : List Key := [Sum.inl p.1, Sum.inl p.2]
theorem prK_inj {p q : Int × Int} (h : prK p = prK q) : p = q := by
  have h1 := (List.cons.inj h).1
  have h2 := (List.cons.inj (List.cons.inj h).2).1
  injection h1 with h1
  injection h2 with h2
  exact Prod.ext h1 h2
def prDD (p : Int × Int) : D := .tup [.int p.1, .int p.2]
theorem prDD_kd (p : Int × Int) : DKind.kd (prK p) = prDD p := rfl
/-- sorted, by pairs -/
def LexS (ps : List (Int × Int)) : Prop := ps.Pairwise fun a b => SrtO.lexB b a = false
def rSortT : List V → Hp → VK → Prop := fun vs H Q => ∃ (a : Addr) (kvs : List (List Key × V)) (ks : List (Int × Int)), vs = [.ref a] ∧ H a = some (.dT kvs) ∧ kvs.map (·.1) = ks.map prK ∧
  ∀ (out : List (Addr × Int × Int)) (p : Addr), (out.map (·.2)).Perm ks → LexS (out.map (·.2)) → (∀ z ∈ out, H z.1 = some (.tup [.int z.2.1, .int z.2.2])) → H p = none → Q (.ref p) (upd H p (.lst (out.map fun z => V.ref z.1)))
section
variable {X : Cx}
/-- the pair that a reference is, by H -/
def prOf (H : Hp) (v : Value) : Int × Int := match v with
  | .ref b => match H b with
    | some (.tup [.int i, .int j]) => (i, j)
    | _ => (0, 0)
  | _ => (0, 0)
theorem prOf_at {H : Hp} {b : Addr} {p : Int × Int} (h : H b = some (.tup [.int p.1, .int p.2])) : prOf H (.ref b) = p := by
  unfold prOf
  simp only [h]
def adOf : Value → Addr
  | .ref b => b
  | _ => 0
theorem cr_sortT (hcalm : X.calm = true) : CallR X (.builtin "sorted") rSortT := by
  intro pins s σ H vs us Q I r h
  obtain ⟨a, kvs, ks, rfl, hd, hks, q⟩ := h
  obtain rfl := Vals.ref1 r
  obtain ⟨z, lo, xs', rel, o, es, ep, ho, hx, hdat, hes, his, hn⟩ := dt_of I.hok hd
  have l1 : kvs.length = xs'.length := Paired.length rel
  have l2 : es.size = xs'.length := size_of_entries hes
  have lk : kvs.length = ks.length := by
    have e := congrArg List.length hks
    rw [List.length_map, List.length_map] at e
    exact e
  have hz : es.size ≤ sizeLine := by rw [l2, ← l1]; exact z
  have hr : s.heap.DictRaw a es ep := ⟨o, ho, hx, hdat⟩
  have at_ : ∀ (j : Nat) (v : Value), (es.toList.map (·.key))[j]? = some v → ∃ b p, v = .ref b ∧ ks[j]? = some p ∧ H b = some (.tup [.int p.1, .int p.2]) := by
    intro j v hv
    rw [List.getElem?_map, Array.getElem?_toList, entry_at hes j, Option.map_map] at hv
    obtain ⟨x, hxj, e⟩ := Option.map_eq_some_iff.mp hv
    obtain ⟨e0, he0, r1, r2, r3⟩ := L2.DX.pget rel hxj
    have e1 : (kvs.map (·.1))[j]? = some e0.1 := by rw [List.getElem?_map, he0]; rfl
    rw [hks, List.getElem?_map] at e1
    obtain ⟨p, hp, ep1⟩ := Option.map_eq_some_iff.mp e1
    refine ⟨x.2.1, p, e.symm, hp, ?_⟩
    rw [r2, ← ep1]
    rfl
  have hkeys : (es.toList.map (·.key)).map (prOf H) = ks := by
    refine List.ext_getElem? fun j => ?_
    rw [List.getElem?_map]
    cases e : (es.toList.map (·.key))[j]? with
    | none =>
      have h1 := List.getElem?_eq_none_iff.mp e
      rw [List.length_map, Array.length_toList, l2, ← l1, lk] at h1
      rw [List.getElem?_eq_none h1]
      rfl
    | some v =>
      obtain ⟨b, p, rfl, hp, hb⟩ := at_ j v e
      rw [hp]
      show some (prOf H (.ref b)) = some p
      rw [prOf_at hb]
  have mem_ : ∀ v ∈ es.toList.map (·.key), v = .ref (adOf v) ∧ H (adOf v) = some (.tup [.int (prOf H v).1, .int (prOf H v).2]) := by
    intro v hv
    obtain ⟨j, hj⟩ := List.mem_iff_getElem?.mp hv
    obtain ⟨b, p, rfl, _, hb⟩ := at_ j v hj
    exact ⟨rfl, by rw [prOf_at hb]; exact hb⟩
  have pairs : ∀ v ∈ es.toList.map (·.key), Srt.IsPair s.heap v (prOf H v).1 (prOf H v).2 := by
    intro v hv
    obtain ⟨e, hb⟩ := mem_ v hv
    obtain ⟨_, its2, r2, o2, ho2, hc, n, hd2⟩ := I.hok _ _ hb
    obtain ⟨u1, u2, rfl, ri, rj⟩ := vals2 r2
    obtain ⟨t1, rfl⟩ := ri
    obtain ⟨t2, rfl⟩ := rj
    exact ⟨_, o2, t1, t2, n, e, ho2, hc, hd2⟩
  refine sorted_raw (b := false) (kw := []) lo (I.ok.hd hcalm) hr hz (fun _ => rfl) (by unfold argsOk; kernel_rfl) (fun _ => PyProof.Rows.args_list_sort _) (SrtO.swo_lex (prOf H)) (fun h2 h₁ tk a' ha' kk => ?_) fun out h1 h' tk a' n hs hb k1 k2 ha' hn' => ?_
  · refine SrtO.pairs_sortableO (by omega) (fun v hv => (pairs v hv).keeps fun b o e _ => (kk b o e).2) fun o e => ?_
    have e' := e.symm.trans ha'
    cases e'
    intro c
    exact absurd (Value.type.inj c) (by decide)
  · have h3 : ∀ v ∈ out, v = .ref (adOf v) ∧ H (adOf v) = some (.tup [.int (prOf H v).1, .int (prOf H v).2]) := fun v hv => mem_ v (hb.perm.mem_iff.mp hv)
    have I1 : Inv X pins σ H { s with heap := h1, toks := tk } := I.kept k1
    have hv : Vals (out.map fun v => V.ref (adOf v)) out := by
      clear hs hb hn'
      induction out with
      | nil => exact .nil
      | cons v out ih =>
        refine .cons (show v = .ref (adOf v) from (h3 v List.mem_cons_self).1) (ih fun u hu => h3 u (List.mem_cons_of_mem _ hu))
    have el : (out.map fun v => V.ref (adOf v)) = (out.map fun v => (adOf v, prOf H v)).map fun z => V.ref z.1 := by rw [List.map_map]; rfl
    have e2 : (out.map fun v => (adOf v, prOf H v)).map (·.2) = out.map (prOf H) := by rw [List.map_map]; rfl
    refine ⟨.ref a', upd H a' (.lst ((out.map fun v => (adOf v, prOf H v)).map fun z => V.ref z.1)), I1.laid (t' := tk) k2 ha' ⟨?_, out, n, el ▸ hv, hn'⟩, rfl, q _ a' ?_ ?_ ?_ (I1.hok.fresh ha')⟩
    · rw [List.length_map, List.length_map, hb.len]
      show (es.toList.map (·.key)).length ≤ _
      rw [List.length_map, Array.length_toList]
      exact hz
    · rw [e2, ← hkeys]
      exact hb.perm.map _
    · rw [e2]
      exact List.pairwise_map.mpr hs
    · intro z hz
      obtain ⟨v, hv, rfl⟩ := List.mem_map.mp hz
      exact (h3 v hv).2
end
section
variable {K : PySem.W.Frag} {φ : Addr → Prop} {J : Hp → Prop} {ρ : List (Option D)} {td : TE}
theorem reps_prs {H : Hp} (F : Frm φ H) : ∀ {out : List (Addr × Int × Int)}, (∀ z ∈ out, H z.1 = some (.tup [.int z.2.1, .int z.2.2])) → Reps K φ H ((out.map (·.2)).map prDD) (out.map fun z => V.ref z.1)
  | [], _ => Reps.nil
  | z :: out, h => Reps.cons ⟨z.1, _, rfl, .inl ⟨F.tup _ _ (h z List.mem_cons_self), .inl (h z List.mem_cons_self)⟩, Reps.cons rfl (Reps.cons rfl Reps.nil)⟩ (reps_prs F fun u hu => h u (List.mem_cons_of_mem _ hu))
/-- sorted(d): the pairs in order -/
theorem ev_sortT {kds : List (List Key × D)} {ks : List (Int × Int)} (hd : EvDict K φ J td ρ kds) (hks : kds.map (·.1) = ks.map prK) : EvP K φ J (tCB rSortT (tCons td tNil)) ρ (fun z => ∃ ps : List (Int × Int), z = .lst (ps.map prDD) ∧ ps.Perm ks ∧ LexS ps) := fun σ H A Q q =>
  hd σ H A _ fun a H1 b1 A1 per => by
    obtain ⟨vs, ea, rs⟩ := per H1 (But.refl _ _) A1.j
    have hl := rs.length
    rw [List.length_map] at hl
    refine ⟨a, _, ks, rfl, ea, ?_, fun out p hp hs ht hn => ?_⟩
    · rw [← hks]
      have e : (kds.map (·.1)).length = vs.length := by rw [List.length_map, hl]
      exact List.map_fst_zip (by omega)
    · refine q _ (.lst ((out.map (·.2)).map prDD)) _ (b1.trans (But.of (same_new hn))) (A1.same (same_new hn)) ⟨_, rfl, hp, hs⟩ ⟨p, _, rfl, .inl ⟨A1.fr.new p hn, .inl upd_same⟩, (reps_prs A1.fr ht).mono (But.of (same_new hn))⟩
end

-- import HandS.TupLe
-- import HandS.Conv
-- import KE.SortData
-- import KE.DataMinMax
-- import KE.DatumOrd
/-! ### t >= u, list + list, list * int, list(range(..)), min and max of tuples, sorted of data -/
theorem _root_.L2.Room.units66 {k : Nat} {A : Around} (r : Room k A) : A.units + 66 < cLine := by have := r.un; omega
def rGeT (K : PySem.W.Frag) : R2 := fun x y H Q => ∃ (a b : Addr) (ns ms : List Int), x = .ref a ∧ y = .ref b ∧ SqT K H a (ns.map V.int) ∧ SqT K H b (ms.map V.int) ∧
  Q (.bl (Ob.lexAt (fun j => decide (ns.getD j 0 = ms.getD j 0)) (fun j => decide (ms.getD j 0 ≤ ns.getD j 0)) (decide (ns.length ≥ ms.length)) 0 (min ns.length ms.length))) H
theorem op_geT {X : Cx} (hu : X.A.units < cLine) : OpR X (compareOp .GtE) (rGeT X.K) := by
  intro pins s σ H x y v u Q I rx ry h
  obtain ⟨a, b, ns, ms, rfl, rfl, ha, hb, q⟩ := h
  cases rx
  cases ry
  obtain ⟨its, r1, p1, _⟩ := I.tuple ha
  obtain ⟨its2, r2, p2, _⟩ := I.tuple hb
  have i1 : PyProof.Rows.IntsAre its ns := Vals.ints r1
  have i2 : PyProof.Rows.IntsAre its2 ms := Vals.ints r2
  have e1 : its.toArray.size = ns.length := by rw [List.size_toArray]; exact i1.length
  have e2 : its2.toArray.size = ms.length := by rw [List.size_toArray]; exact i2.length
  have at1 : ∀ j (h1 : j < its.toArray.size), ∃ t, its.toArray[j] = .int (ns.getD j 0) t := fun j h1 => PyProof.Rows.IntsAre.int_at i1 _ _ (by simp at h1; simp [h1])
  have at2 : ∀ j (h1 : j < its2.toArray.size), ∃ t, its2.toArray[j] = .int (ms.getD j 0) t := fun j h1 => PyProof.Rows.IntsAre.int_at i2 _ _ (by simp at h1; simp [h1])
  have R := Ob.RcOp.tuples_ge (A := X.A) (s := s) (e := fun j => decide (ns.getD j 0 = ms.getD j 0)) (r := fun j => decide (ms.getD j 0 ≤ ns.getD j 0)) p1 p2 hu (fun j h1 h2 => by
    obtain ⟨t, et⟩ := at1 j h1
    obtain ⟨t', et'⟩ := at2 j h2
    rw [et, et']
    have z : (ns.getD j 0 == ms.getD j 0) = decide (ns.getD j 0 = ms.getD j 0) := by
      by_cases q : ns.getD j 0 = ms.getD j 0
      · rw [decide_eq_true q]; exact beq_iff_eq.mpr q
      · rw [decide_eq_false q]; exact beq_eq_false_iff_ne.mpr q
    rw [← z]
    exact SeqAt.EqAt.int_int _ _ _ _) (fun j h1 h2 _ => by
    obtain ⟨t, et⟩ := at1 j h1
    obtain ⟨t', et'⟩ := at2 j h2
    rw [et, et']
    exact Ob.RcOp.ge_int _ _ _ _)
  rw [e1, e2] at R
  exact R _ _ _ _ ⟨.bl _, H, I, rfl, q⟩
theorem kop_geT {X : Cx} {K : PySem.W.Frag} (h : X.K = K) (hu : X.A.units < cLine) : OpR X (compareOp .GtE) (rGeT K) := h ▸ op_geT hu
def rCatL (K : PySem.W.Frag) : R2 := fun x y H Q => ∃ l b xs zs, x = .ref l ∧ y = .ref b ∧ SqL K H l xs ∧ SqL K H b zs ∧ xs.length + zs.length ≤ sizeLine ∧ ∀ p, H p = none → Q (.ref p) (upd H p (.lst (xs ++ zs)))
theorem op_catL {X : Cx} : OpR X (binaryOp .Add) (rCatL X.K) := by
  intro pins s σ H x y v u Q I rx ry h
  obtain ⟨l, b, xs, zs, rfl, rfl, hH, hB, hz, q⟩ := h
  cases rx
  cases ry
  obtain ⟨its, r, p, hl⟩ := I.list hH
  obtain ⟨its2, r2, p2, hl2⟩ := I.list hB
  have e0 := r.length
  have e02 := r2.length
  obtain ⟨⟨cls, dd, data, sl⟩, ho, hc, n, hd⟩ := p.isList
  obtain ⟨⟨cls2, dd2, data2, sl2⟩, ho2, hc2, n2, hd2⟩ := p2.isList
  simp only at hc hd hc2 hd2
  subst hc hd hc2 hd2
  have ea : its.toArray ++ its2.toArray = (its ++ its2).toArray := by simp
  refine concat_meets ⟨_, ho, rfl⟩ ⟨_, ho2, rfl⟩ noFill_list_add seq_list_add PySem.F.slot_list_add PySem.F.entry_list_add (PySem.F.args_list_add_2 _ _) (list_addW l b its.toArray its2.toArray n n2 dd dd2 sl sl2 (by rw [List.size_toArray, List.size_toArray]; omega)) ⟨ho, ho2, ?_⟩
  rw [ea]
  exact ⟨.ref _, _, I.lnew (t' := s.toks) (r.append r2) (by rw [List.length_append]; omega), rfl, q _ I.fresh⟩
theorem kop_catL {X : Cx} {K : PySem.W.Frag} (h : X.K = K) : OpR X (binaryOp .Add) (rCatL K) := h ▸ op_catL
/-- min, max of a tuple of ints -/
def rMinT (K : PySem.W.Frag) : List V → Hp → VK → Prop := fun vs H Q => ∃ (a : Addr) (ns : List Int), vs = [V.ref a] ∧ SqT K H a (ns.map V.int) ∧ 0 < ns.length ∧ ∀ m, m ∈ ns → (∀ y, y ∈ ns → m ≤ y) → Q (.int m) H
def rMaxT (K : PySem.W.Frag) : List V → Hp → VK → Prop := fun vs H Q => ∃ (a : Addr) (ns : List Int), vs = [V.ref a] ∧ SqT K H a (ns.map V.int) ∧ 0 < ns.length ∧ ∀ m, m ∈ ns → (∀ y, y ∈ ns → y ≤ m) → Q (.int m) H
theorem minOf_int (x : Int) : ∀ xs : List Int, PySem.W.minOf x xs ∈ x :: xs ∧ ∀ y ∈ x :: xs, PySem.W.minOf x xs ≤ y := by
  intro xs
  unfold PySem.W.minOf
  induction xs generalizing x with
  | nil => exact ⟨List.mem_cons_self, fun y hy => by rw [List.mem_singleton.mp hy]; exact Int.le_refl _⟩
  | cons z xs ih =>
    rw [List.foldl_cons]
    show (List.foldl _ (if decide (z < x) = true then z else x) xs) ∈ _ ∧ ∀ y ∈ _, List.foldl _ (if decide (z < x) = true then z else x) xs ≤ y
    by_cases h : z < x
    · rw [if_pos (decide_eq_true h)]
      obtain ⟨h1, h2⟩ := ih z
      refine ⟨List.mem_cons_of_mem _ h1, fun y hy => ?_⟩
      rcases List.mem_cons.mp hy with rfl | hy
      · have := h2 z List.mem_cons_self
        omega
      · exact h2 y hy
    · rw [if_neg (by simp [h])]
      obtain ⟨h1, h2⟩ := ih x
      refine ⟨?_, fun y hy => ?_⟩
      · rcases List.mem_cons.mp h1 with e | e
        · rw [e]; exact List.mem_cons_self
        · exact List.mem_cons_of_mem _ (List.mem_cons_of_mem _ e)
      · rcases List.mem_cons.mp hy with rfl | hy
        · exact h2 y List.mem_cons_self
        · rcases List.mem_cons.mp hy with rfl | hy
          · have := h2 x List.mem_cons_self
            omega
          · exact h2 y (List.mem_cons_of_mem _ hy)
theorem maxOf_int (x : Int) : ∀ xs : List Int, PySem.W.maxOf x xs ∈ x :: xs ∧ ∀ y ∈ x :: xs, y ≤ PySem.W.maxOf x xs := by
  intro xs
  unfold PySem.W.maxOf
  induction xs generalizing x with
  | nil => exact ⟨List.mem_cons_self, fun y hy => by rw [List.mem_singleton.mp hy]; exact Int.le_refl _⟩
  | cons z xs ih =>
    rw [List.foldl_cons]
    show (List.foldl _ (if decide (x < z) = true then z else x) xs) ∈ _ ∧ ∀ y ∈ _, y ≤ List.foldl _ (if decide (x < z) = true then z else x) xs
    by_cases h : x < z
    · rw [if_pos (decide_eq_true h)]
      obtain ⟨h1, h2⟩ := ih z
      refine ⟨List.mem_cons_of_mem _ h1, fun y hy => ?_⟩
      rcases List.mem_cons.mp hy with rfl | hy
      · have := h2 z List.mem_cons_self
        omega
      · exact h2 y hy
    · rw [if_neg (by simp [h])]
      obtain ⟨h1, h2⟩ := ih x
      refine ⟨?_, fun y hy => ?_⟩
      · rcases List.mem_cons.mp h1 with e | e
        · rw [e]; exact List.mem_cons_self
        · exact List.mem_cons_of_mem _ (List.mem_cons_of_mem _ e)
      · rcases List.mem_cons.mp hy with rfl | hy
        · exact h2 y List.mem_cons_self
        · rcases List.mem_cons.mp hy with rfl | hy
          · have := h2 x List.mem_cons_self
            omega
          · exact h2 y (List.mem_cons_of_mem _ hy)
theorem dpAll_ints {K : PySem.W.Frag} {H : Hp} : ∀ ns : List Int, DpAll K H (ns.map V.int) (ns.map PyData.int)
  | [] => .nil
  | n :: ns => .cons (.int n) (dpAll_ints ns)
theorem cr_minT {X : Cx} (hc : X.calm = true) (hu : X.A.units + 1 < cLine) : CallR X (.builtin "min") (rMinT X.K) := by
  intro pins s σ H vs us Q I r h
  obtain ⟨a, ns, rfl, hs, hn, q⟩ := h
  obtain rfl := Vals.ref1 r
  obtain ⟨its, rv, p, hz⟩ := I.tuple hs
  obtain ⟨as, rd⟩ := Dp.readsAll I (ns.map PyData.int) _ its (dpAll_ints ns) rv
  obtain ⟨x, xs, rfl⟩ : ∃ x xs, ns = x :: xs := by cases ns with | nil => cases hn | cons x xs => exact ⟨x, xs, rfl⟩
  refine PySem.W.min_tuple_datum (α := Int) (x := x) (xs := xs) (I.ok.hd hc) p ⟨as, by rw [List.toList_toArray]; exact rd⟩ (by show X.A.units + 1 + 0 < cLine; omega) fun i v h' tk hi ⟨bs, rb⟩ kp => ?_
  have e : ∃ t, v = Value.int (PySem.W.minOf x xs) t := by cases rb; exact ⟨_, rfl⟩
  obtain ⟨t, rfl⟩ := e
  exact ⟨.int _, H, I.kept (t' := tk) kp, ⟨t, rfl⟩, q _ (minOf_int x xs).1 (minOf_int x xs).2⟩
theorem cr_maxT {X : Cx} (hc : X.calm = true) (hu : X.A.units + 1 < cLine) : CallR X (.builtin "max") (rMaxT X.K) := by
  intro pins s σ H vs us Q I r h
  obtain ⟨a, ns, rfl, hs, hn, q⟩ := h
  obtain rfl := Vals.ref1 r
  obtain ⟨its, rv, p, hz⟩ := I.tuple hs
  obtain ⟨as, rd⟩ := Dp.readsAll I (ns.map PyData.int) _ its (dpAll_ints ns) rv
  obtain ⟨x, xs, rfl⟩ : ∃ x xs, ns = x :: xs := by cases ns with | nil => cases hn | cons x xs => exact ⟨x, xs, rfl⟩
  refine PySem.W.max_tuple_datum (α := Int) (x := x) (xs := xs) (I.ok.hd hc) p ⟨as, by rw [List.toList_toArray]; exact rd⟩ (by show X.A.units + 1 + 0 < cLine; omega) fun i v h' tk hi ⟨bs, rb⟩ kp => ?_
  have e : ∃ t, v = Value.int (PySem.W.maxOf x xs) t := by cases rb; exact ⟨_, rfl⟩
  obtain ⟨t, rfl⟩ := e
  exact ⟨.int _, H, I.kept (t' := tk) kp, ⟨t, rfl⟩, q _ (maxOf_int x xs).1 (maxOf_int x xs).2⟩
theorem kcr_minT {X : Cx} {K : PySem.W.Frag} (h : X.K = K) (hc : X.calm = true) (hu : X.A.units + 1 < cLine) : CallR X (.builtin "min") (rMinT K) := h ▸ cr_minT hc hu
theorem kcr_maxT {X : Cx} {K : PySem.W.Frag} (h : X.K = K) (hc : X.calm = true) (hu : X.A.units + 1 < cLine) : CallR X (.builtin "max") (rMaxT K) := h ▸ cr_maxT hc hu
/-- sorted(xs) of data of one kind -/
def rSortQ (K : PySem.W.Frag) : List V → Hp → VK → Prop := fun vs H Q => ∃ (a : Addr) (xs : List V) (ds : List PyData), vs = [V.ref a] ∧ SqL K H a xs ∧ DpAll K H xs ds ∧ PySem.W.AllAlike ds ∧ PySem.W.Sortable ds ∧ (∀ d ∈ ds, d.depth ≤ 64) ∧
  ∀ (zs : List (V × PyData)) (p : Addr), zs.Perm (xs.zip ds) → (zs.map (·.2)).Pairwise (fun a b => PySem.W.dataLt b a = false) → H p = none → Q (.ref p) (upd H p (.lst (zs.map (·.1))))
theorem dpAll_len {K : PySem.W.Frag} {H : Hp} : ∀ (xs : List V) (ds : List PyData), DpAll K H xs ds → xs.length = ds.length
  | [], _, h => by cases h; rfl
  | x :: xs, _, h => by
    cases h with
    | cons _ h2 => rw [List.length_cons, List.length_cons, dpAll_len xs _ h2]
theorem dpAll_vals {K : PySem.W.Frag} {H : Hp} : ∀ (xs : List V) (ds : List PyData) (its : List Value), DpAll K H xs ds → Vals xs its → PySem.W.EachIs (fun (v : Value) (b : V × PyData) => RelV b.1 v) its (xs.zip ds)
  | [], _, _, h, r => by cases h; cases r; exact .nil
  | x :: xs, _, _, h, r => by
    cases h with
    | cons _ h2 =>
      cases r with
      | cons r0 r1 => exact .cons r0 (dpAll_vals xs _ _ h2 r1)
theorem dpAll_reads {X : Cx} {pins : List (Addr × Obj)} {σ : L2.St} {H : Hp} {s : Shared} (I : Inv X pins σ H s) : ∀ (xs : List V) (ds : List PyData) (its : List Value), DpAll X.K H xs ds → Vals xs its → PySem.W.EachIs (fun (v : Value) (b : V × PyData) => ∃ as, Reads s.heap v b.2 as) its (xs.zip ds)
  | [], _, _, h, r => by cases h; cases r; exact .nil
  | x :: xs, _, _, h, r => by
    cases h with
    | cons h1 h2 =>
      cases r with
      | cons r0 r1 => exact .cons (Dp.reads I _ _ _ h1 r0) (dpAll_reads I xs _ _ h2 r1)
theorem cr_sortQ {X : Cx} (hu : X.A.units + 66 < cLine) : CallR X (.builtin "sorted") (rSortQ X.K) := by
  intro pins s σ H vs us Q I r h
  obtain ⟨a, xs, ds, rfl, hs, hd, hal, hso, hdep, q⟩ := h
  obtain rfl := Vals.ref1 r
  obtain ⟨its, rv, p, hz⟩ := I.list hs
  have lxd := dpAll_len xs ds hd
  have em : (xs.zip ds).map (·.2) = ds := List.map_snd_zip (by omega)
  have e1 := dpAll_vals (K := X.K) (H := H) xs ds its hd rv
  have e2 := dpAll_reads I xs ds its hd rv
  have e3 : (xs.zip ds).map Prod.snd = ds := em
  refine PySem.W.sorted_data (enc := Prod.snd) p.isList e1 e2 (by rw [e3]; exact hal) (by rw [e3]; exact hso) (by rw [List.length_zip]; omega) (fun b hb => ?_) fun out hl he => ?_
  · have := hdep b.2 (by rw [← e3]; exact List.mem_map.mpr ⟨b, hb, rfl⟩)
    omega
  · have hv : Vals (((xs.zip ds).mergeSort (PySem.W.dataLe false Prod.snd)).map (·.1)) out := by
      generalize (xs.zip ds).mergeSort (PySem.W.dataLe false Prod.snd) = zs at he
      clear hl
      induction he with
      | nil => exact .nil
      | cons r0 _ ih => exact .cons r0 ih
    obtain ⟨ep, he'⟩ := PyProof.Rows.sortedAll_at s.heap its out.toArray
    refine ⟨.ref _, upd H (s.heap.objs.size + 1) (.lst (((xs.zip ds).mergeSort (PySem.W.dataLe false Prod.snd)).map (·.1))), I.laid (t' := s.toks) (fun _ _ => PyProof.Rows.sortedAll_old) (Nat.le_succ _) ⟨?_, out, ep, hv, he'⟩, rfl, q _ _ (List.mergeSort_perm _ _) ?_ (I.hok.fresh (Nat.le_succ _))⟩
    · rw [hv.length, hl, List.length_zip]; omega
    · refine List.pairwise_map.mpr ((PySem.W.sort_pairwise (PySem.W.sortLe_total (PyProof.Rows.listOrd PyProof.Rows.itemOrd) false fun b : V × PyData => PySem.W.keyToks b.2) (xs.zip ds)).imp fun {a b} h => ?_)
      have h' : PySem.W.dataLe false (Prod.snd : V × PyData → PyData) a b = true := h
      rw [PySem.W.dataLe_eq] at h'
      have h2 : (!PySem.W.dataLt b.2 a.2) = true := h'
      cases e : PySem.W.dataLt b.2 a.2 with
      | false => rfl
      | true => rw [e] at h2; cases h2
theorem kcr_sortQ {X : Cx} {K : PySem.W.Frag} (h : X.K = K) (hu : X.A.units + 66 < cLine) : CallR X (.builtin "sorted") (rSortQ K) := h ▸ cr_sortQ hu
section
variable {K : PySem.W.Frag} {φ : Addr → Prop} {J : Hp → Prop} {ρ : List (Option D)} {ta tb te : TE} {x y d : D} {ds es : List D} {i j : Int} {ns ms : List Int}
theorem rep_tupI {H : Hp} {v : V} (h : Rep K φ H (.tup (ns.map D.int)) v) : ∃ a, v = .ref a ∧ SqT K H a (ns.map V.int) := by
  obtain ⟨a, vs, rfl, p, r⟩ := rep_tup h
  exact ⟨a, rfl, r.ints ▸ p.sq⟩
theorem ev_geT (ha : EvD K φ J ta ρ (.tup (ns.map D.int))) (hb : EvD K φ J tb ρ (.tup (ms.map D.int))) : EvD K φ J (tOp (rGeT K) ta tb) ρ (.bl (Ob.lexAt (fun j => decide (ns.getD j 0 = ms.getD j 0)) (fun j => decide (ms.getD j 0 ≤ ns.getD j 0)) (decide (ns.length ≥ ms.length)) 0 (min ns.length ms.length))) := ev_opD ha hb fun H v w _ r1 r2 Q q => by
  obtain ⟨a, rfl, h1⟩ := rep_tupI r1
  obtain ⟨b, rfl, h2⟩ := rep_tupI r2
  exact ⟨a, b, ns, ms, rfl, rfl, h1, h2, q _ _ H (Same.refl H) rfl rfl⟩
theorem lexAt2 (a b c d : Int) : Ob.lexAt (fun j => decide (([a, b] : List Int).getD j 0 = ([c, d] : List Int).getD j 0)) (fun j => decide (([c, d] : List Int).getD j 0 ≤ ([a, b] : List Int).getD j 0)) (decide (([a, b] : List Int).length ≥ ([c, d] : List Int).length)) 0 (min ([a, b] : List Int).length ([c, d] : List Int).length) = !SrtO.lexB (a, b) (c, d) := by
  have e : min ([a, b] : List Int).length ([c, d] : List Int).length = 2 := rfl
  rw [e, Ob.lexAt_succ]
  show (if decide (a = c) = true then _ else decide (c ≤ a)) = _
  by_cases h1 : a = c
  · rw [if_pos (decide_eq_true h1), Ob.lexAt_succ]
    show (if decide (b = d) = true then _ else decide (d ≤ b)) = _
    by_cases h2 : b = d
    · rw [if_pos (decide_eq_true h2), Ob.lexAt_zero]
      unfold SrtO.lexB
      rw [if_pos (show (a, b).1 = (c, d).1 from h1), decide_eq_false (show ¬ b < d by omega)]
      rfl
    · rw [if_neg (by simp [h2])]
      unfold SrtO.lexB
      rw [if_pos (show (a, b).1 = (c, d).1 from h1)]
      show decide (d ≤ b) = !decide (b < d)
      by_cases h3 : b < d
      · rw [decide_eq_true h3, decide_eq_false (by omega)]; rfl
      · rw [decide_eq_false h3, decide_eq_true (by omega)]; rfl
  · rw [if_neg (by simp [h1])]
    unfold SrtO.lexB
    rw [if_neg (show ¬ (a, b).1 = (c, d).1 from h1)]
    show decide (c ≤ a) = !decide (a < c)
    by_cases h3 : a < c
    · rw [decide_eq_true h3, decide_eq_false (by omega)]; rfl
    · rw [decide_eq_false h3, decide_eq_true (by omega)]; rfl
theorem ev_geP2 {p q : Int × Int} (ha : EvD K φ J ta ρ (prDD p)) (hb : EvD K φ J tb ρ (prDD q)) : EvD K φ J (tOp (rGeT K) ta tb) ρ (.bl (!SrtO.lexB p q)) := by
  rw [show (!SrtO.lexB p q) = _ from (lexAt2 p.1 p.2 q.1 q.2).symm]
  exact ev_geT (ns := [p.1, p.2]) (ms := [q.1, q.2]) ha hb
theorem en_catL (ha : EvD K φ J ta ρ (.lst ds)) (hb : EvD K φ J tb ρ (.lst es)) (hz : ds.length + es.length ≤ 1000000) : EvN K φ J (tOp (rCatL K) ta tb) ρ (fun x => x = ds ++ es) := fun σ H A Q q =>
  ha σ H A _ fun v x H1 b1 A1 e1 r1 => hb σ H1 A1 _ fun w y H2 b2 A2 e2 r2 => by
    subst e1 e2
    obtain ⟨a, vs, rfl, pa, ra⟩ := rep_lst (r1.mono b2)
    obtain ⟨b, ws, rfl, pb, rb⟩ := rep_lst r2
    refine ⟨a, b, vs, ws, rfl, rfl, pa.sq, pb.sq, by rw [ra.length, rb.length]; exact sz hz, fun p hp => ?_⟩
    exact q p _ _ H2 _ (b1.trans b2) A2 hp (But.of (same_new hp)) (A2.same (same_new hp)) rfl upd_same (reps_new hp (ra.append rb))
theorem ev_catL (ha : EvD K φ J ta ρ (.lst ds)) (hb : EvD K φ J tb ρ (.lst es)) (hz : ds.length + es.length ≤ 1000000) : EvD K φ J (tOp (rCatL K) ta tb) ρ (.lst (ds ++ es)) := ev_newD (en_catL ha hb hz)
/-- [..] * n -/
theorem ev_repL (ha : EvN K φ J ta ρ (fun x => x = ds)) (hb : EvD K φ J tb ρ (.int i)) (hi : -(2 ^ 63) ≤ i ∧ i < 2 ^ 63) (hz : ds.length * i.toNat ≤ 1000000) : EvN K φ J (tOp rRep ta tb) ρ (fun x => x = (List.replicate i.toNat ds).flatten) := fun σ H A Q q =>
  ha σ H A _ fun p vs ds' H0 H1 b0 A0 hp b1 A1 pd e1 r1 => hb σ H1 A1 _ fun w y H2 b2 A2 e2 r2 => by
    subst pd e2
    cases (show w = _ from r2)
    have e1' : H2 p = some (.lst vs) := b2.keep _ _ (A0.fr.new p hp) e1
    have r1' : Reps K φ H2 ds' vs := (Reps.up (fun a o q e => ⟨q.1, e⟩) ds' vs r1).mono b2
    refine ⟨p, i, vs, rfl, rfl, e1', hi.1, hi.2, by rw [r1'.length]; exact sz hz, fun p4 hp4 => ?_⟩
    exact q p4 _ _ H2 _ ((b0.trans b1).trans b2) A2 hp4 (But.of (same_new hp4)) (A2.same (same_new hp4)) rfl upd_same (reps_new hp4 (replicate_reps r1' _))
/-- list(range(a, b)) -/
theorem reps_rg {H : Hp} {a b : Int} : Reps K φ H (rangeD a (b - a).toNat) (rgV a b) := by
  unfold rangeD rgV
  generalize List.range (b - a).toNat = ks
  induction ks with
  | nil => exact Reps.nil
  | cons k ks ih => exact Reps.cons rfl ih
theorem en_listRg2 (ha : EvD K φ J ta ρ (.int i)) (hb : EvD K φ J tb ρ (.int j)) (hr : RgOk i j) : EvN K φ J (tLstRg (tRg2 ta tb)) ρ (fun x => x = rangeD i (j - i).toNat) := fun σ H A Q q =>
  ha σ H A _ fun v x H1 b1 A1 e1 r1 => hb σ H1 A1 _ fun w y H2 b2 A2 e2 r2 => by
    subst e1 e2
    exact ⟨i, j, r1, r2, hr, fun p hp => q p _ _ H2 _ (b1.trans b2) A2 hp (But.of (same_new hp)) (A2.same (same_new hp)) rfl upd_same (reps_new hp reps_rg)⟩
theorem ev_listRg2 (ha : EvD K φ J ta ρ (.int i)) (hb : EvD K φ J tb ρ (.int j)) (hr : RgOk i j) : EvD K φ J (tLstRg (tRg2 ta tb)) ρ (.lst (rangeD i (j - i).toNat)) := ev_newD (en_listRg2 ha hb hr)
theorem en_listRg1 (hb : EvD K φ J tb ρ (.int j)) (hr : RgOk 0 j) : EvN K φ J (tLstRg (tRg1 tb)) ρ (fun x => x = rangeD 0 (j - 0).toNat) := fun σ H A Q q =>
  hb σ H A _ fun w y H2 b2 A2 e2 r2 => by
    subst e2
    exact ⟨j, r2, hr, fun p hp => q p _ _ H2 _ b2 A2 hp (But.of (same_new hp)) (A2.same (same_new hp)) rfl upd_same (reps_new hp reps_rg)⟩
theorem ev_minT (ha : EvD K φ J te ρ (.tup (ns.map D.int))) (hn : 0 < ns.length) : EvI K φ J (tCB (rMinT K) (tCons te tNil)) ρ (fun m => m ∈ ns ∧ ∀ y ∈ ns, m ≤ y) := ev_cbD (ea_cons ha ea_nil) fun H vs f r Q q => by
  obtain ⟨v, rfl, r1⟩ := r.one
  obtain ⟨a, rfl, h⟩ := rep_tupI r1
  exact ⟨a, ns, rfl, h, hn, fun m h1 h2 => q _ _ H (Same.refl H) ⟨m, rfl, h1, h2⟩ rfl⟩
theorem ev_maxT (ha : EvD K φ J te ρ (.tup (ns.map D.int))) (hn : 0 < ns.length) : EvI K φ J (tCB (rMaxT K) (tCons te tNil)) ρ (fun m => m ∈ ns ∧ ∀ y ∈ ns, y ≤ m) := ev_cbD (ea_cons ha ea_nil) fun H vs f r Q q => by
  obtain ⟨v, rfl, r1⟩ := r.one
  obtain ⟨a, rfl, h⟩ := rep_tupI r1
  exact ⟨a, ns, rfl, h, hn, fun m h1 h2 => q _ _ H (Same.refl H) ⟨m, rfl, h1, h2⟩ rfl⟩
theorem toPys_map : ∀ ds : List D, toPys ds = ds.map toPy
  | [] => rfl
  | d :: ds => by show toPy d :: toPys ds = _; rw [toPys_map ds]; rfl
theorem zip_map2 {α β γ : Type} (f : β → γ) : ∀ (as : List α) (bs : List β), as.zip (bs.map f) = (as.zip bs).map fun z => (z.1, f z.2)
  | [], _ => rfl
  | _ :: _, [] => rfl
  | a :: as, b :: bs => by rw [List.map_cons, List.zip_cons_cons, List.zip_cons_cons, zip_map2 f as bs]; rfl
theorem reps_zip {H : Hp} {vs : List V} (r : Reps K φ H ds vs) : ∀ z ∈ vs.zip ds, Rep K φ H z.2 z.1 := by
  induction ds generalizing vs with
  | nil => intro z hz; simp at hz
  | cons d ds ih =>
    obtain ⟨v, r', rfl, h1, h2⟩ := (show ∃ v r, vs = v :: r ∧ Rep K φ H d v ∧ Reps K φ H ds r from r)
    intro z hz
    rw [List.zip_cons_cons] at hz
    rcases List.mem_cons.mp hz with rfl | hz
    · exact h1
    · exact ih h2 z hz
/-- each listed value stands for some tree of that data -/
theorem sort_back {H : Hp} {vs : List V} (r : Reps K φ H ds vs) : ∀ {zs : List (V × PyData)}, (∀ z ∈ zs, z ∈ vs.zip (ds.map toPy)) → ∃ es : List D, Reps K φ H es (zs.map (·.1)) ∧ es.map toPy = zs.map (·.2) ∧ ∀ e ∈ es, e ∈ ds
  | [], _ => ⟨[], Reps.nil, rfl, fun _ h => nomatch h⟩
  | z :: zs, h => by
    obtain ⟨es, h1, h2, h3⟩ := sort_back r (zs := zs) fun u hu => h u (List.mem_cons_of_mem _ hu)
    have hz := h z List.mem_cons_self
    rw [zip_map2] at hz
    obtain ⟨u, hu, e⟩ := List.mem_map.mp hz
    have hr := reps_zip r u hu
    subst e
    exact ⟨u.2 :: es, Reps.cons hr h1, by rw [List.map_cons, h2]; rfl, fun e he => by
      rcases List.mem_cons.mp he with rfl | he
      · exact (List.of_mem_zip hu).2
      · exact h3 e he⟩
theorem ev_sortQ (ha : EvD K φ J te ρ (.lst ds)) (hq : okq 64 (.lst ds) = true) (hal : PySem.W.AllAlike (ds.map toPy)) (hso : PySem.W.Sortable (ds.map toPy)) : EvP K φ J (tCB (rSortQ K) (tCons te tNil)) ρ (fun z => ∃ es : List D, z = .lst es ∧ (es.map toPy).Perm (ds.map toPy) ∧ (∀ e ∈ es, e ∈ ds) ∧ (es.map toPy).Pairwise (fun a b => PySem.W.dataLt b a = false)) := ev_cbD (ea_cons ha ea_nil) fun H vs f r Q q => by
  obtain ⟨v, rfl, r1⟩ := r.one
  obtain ⟨a, vs, rfl, p, rs⟩ := rep_lst r1
  have hl := rs.length
  have hd := dps_of ds vs 63 hq rs
  rw [toPys_map] at hd
  refine ⟨a, vs, ds.map toPy, rfl, p.sq, hd, hal, hso, fun d hd => ?_, fun zs p hp hs hn => ?_⟩
  · obtain ⟨e, he, rfl⟩ := List.mem_map.mp hd
    exact Nat.le_succ_of_le (okq_lay 63 e (List.all_eq_true.mp (show ds.all (okq 63) = true from hq) e he)).2
  · obtain ⟨es, h1, h2, h3⟩ := sort_back rs (zs := zs) fun z hz => hp.mem_iff.mp hz
    refine q _ (.lst es) _ (same_new hn) ⟨es, rfl, ?_, h3, by rw [h2]; exact hs⟩ ⟨p, _, rfl, .inl ⟨f.new p hn, .inl upd_same⟩, h1.mono (But.of (same_new hn))⟩
    rw [h2]
    have := hp.map Prod.snd
    rw [List.map_snd_zip (by rw [List.length_map]; omega)] at this
    exact this
end

-- import HandS.Iter
-- import KE.KDictDisplayH
/-! ### a tuple times 1; walks over dicts (locked meanwhile) -/
theorem tuple_mul1W (l : Addr) (items : Array Value) (n : Nat) (dd : Option Addr) (sl : Array (Option Value)) (u : Tok) :
    Meets (Builtin.«tuple.__mul__» ⟨[.ref l, .int 1 u], []⟩) (fun _ R s => s.heap.get? l = some { cls := .type "tuple", dict := dd, data := .seq items n, slots := sl } ∧ R (.ok (.ret (Value.ref l))) s) :=
  .of_wp fun prog w A R s h => by
    obtain ⟨hp, g, d, tk, os⟩ := s
    obtain ⟨hl, h⟩ := h
    have f1 := AutoSeq1.idx_int
    have c1 : (items.isEmpty || (1 : Int) == 1) = true := by simp
    wp_walk using wpAny_loadPart' hl
    repeat (first
      | (refine wpAny_ite_true (decide_eq_true (by rw [c1])) ?_; wp_walk using wpAny_loadPart' hl)
      | (refine wpAny_ite_false (by decide) ?_; wp_walk using wpAny_loadPart' hl))
    exact ⟨_, rfl, h⟩
def rRepT1 (K : PySem.W.Frag) : R2 := fun x y H Q => ∃ l k xs, x = .ref l ∧ y = .int k ∧ SqT K H l xs ∧ xs ≠ [] ∧ xs.length ≤ 1000 ∧ 1 ≤ k ∧ k ≤ 1000 ∧ (k = 1 → Q (.ref l) H) ∧ (2 ≤ k → ∀ p, H p = none → Q (.ref p) (upd H p (.tup (List.replicate k.toNat xs).flatten)))
theorem op_repT1 {X : Cx} : OpR X (binaryOp .Mult) (rRepT1 X.K) := by
  intro pins s σ H x y v u Q I rx ry h
  obtain ⟨l, k, xs, rfl, rfl, hT, hne, hz, h1, h2, q1, q2⟩ := h
  by_cases e : k = 1
  · subst e
    cases rx
    obtain ⟨t, rfl⟩ := ry
    obtain ⟨its, r, ⟨⟨cls, dd, data, sl⟩, ho, hc, n, hd⟩, hs⟩ := I.tuple hT
    simp only at hc hd
    subst hc hd
    exact wpAny_binaryOp_repeat_ref (T := "tuple") (U := "int") (by decide) ⟨_, ho, rfl⟩ (fun s' => typeIs_int s' 1 t) noFill_tuple_mul PySem.F.fills_int_mul PySem.F.slot_int_rmul repeat_tuple PySem.F.slot_int_index.lookup
      (call_meets PySem.F.slot_int_rmul (typeIs_int s 1 t) PySem.F.entry_int_rmul (PySem.F.args_int_rmul_2 _ _) (int_rmul_tuple 1 t l its.toArray n dd sl)
        ⟨ho, rfl, ⟨_, ho, rfl⟩, call_meets PySem.F.slot_tuple_mul ⟨_, ho, rfl⟩ PySem.F.entry_tuple_mul (PySem.F.args_tuple_mul_2 _ _) (tuple_mul1W l its.toArray n dd sl t) ⟨ho, .ref l, H, I, rfl, q1 rfl⟩⟩)
  · exact op_repT pins s σ H _ _ v u Q I rx ry ⟨l, k, xs, rfl, rfl, hT, hne, by omega, h2, hz, q2 (by omega)⟩
theorem kop_repT1 {X : Cx} {K : PySem.W.Frag} (h : X.K = K) : OpR X (binaryOp .Mult) (rRepT1 K) := h ▸ op_repT1
/-- what a tree may stand at -/
def TreeO (o : HO) : Prop := (∃ xs, o = .tup xs) ∨ (∃ xs, o = .lst xs) ∨ (∃ od xs, o = .frz od (.lst xs)) ∨ (∃ kvs, o = .dK kvs) ∨ ∃ kvs, o = .dT kvs
section
variable {K : PySem.W.Frag} {φ φ' : Addr → Prop} {H H' : Hp}
def UpW (φ φ' : Addr → Prop) (H H' : Hp) : Prop := ∀ a o, φ a → H a = some o → TreeO o → φ' a ∧ H' a = some o
mutual
theorem Rep.upW (k : UpW φ φ' H H') : ∀ (d : D) (v : V), Rep K φ H d v → Rep K φ' H' d v
  | .non, _, h => h
  | .bl _, _, h => h
  | .int _, _, h => h
  | .str _, _, h => h
  | .raw _, _, h => h
  | .dk ks ds, v, h => by
    obtain ⟨a, vs, e, ⟨p, e2, hl⟩, r⟩ := (show ∃ a vs, v = .ref a ∧ (φ a ∧ H a = some (.dK (ks.zip vs)) ∧ ks.length = ds.length) ∧ Reps K φ H ds vs from h)
    have z := k a _ p e2 (.inr (.inr (.inr (.inl ⟨_, rfl⟩))))
    exact ⟨a, vs, e, ⟨z.1, z.2, hl⟩, Reps.upW k ds vs r⟩
  | .dt ks ds, v, h => by
    obtain ⟨a, vs, e, ⟨p, e2, hl⟩, r⟩ := (show ∃ a vs, v = .ref a ∧ (φ a ∧ H a = some (.dT (ks.zip vs)) ∧ ks.length = ds.length) ∧ Reps K φ H ds vs from h)
    have z := k a _ p e2 (.inr (.inr (.inr (.inr ⟨_, rfl⟩))))
    exact ⟨a, vs, e, ⟨z.1, z.2, hl⟩, Reps.upW k ds vs r⟩
  | .tup ds, v, h => by
    obtain ⟨a, vs, e, p, r⟩ := (show ∃ a vs, v = .ref a ∧ PT K φ H a vs ∧ Reps K φ H ds vs from h)
    have z := k a _ p.at.1 p.at.2 (.inl ⟨_, rfl⟩)
    exact ⟨a, vs, e, .inl ⟨z.1, .inl z.2⟩, Reps.upW k ds vs r⟩
  | .lst ds, v, h => by
    obtain ⟨a, vs, e, p, r⟩ := (show ∃ a vs, v = .ref a ∧ PL K φ H a vs ∧ Reps K φ H ds vs from h)
    refine ⟨a, vs, e, p.elim (fun ⟨pa, rd⟩ => ?_) .inr, Reps.upW k ds vs r⟩
    rcases rd with rd | ⟨od, rd⟩
    · have z := k a _ pa rd (.inr (.inl ⟨_, rfl⟩))
      exact .inl ⟨z.1, .inl z.2⟩
    · have z := k a _ pa rd (.inr (.inr (.inl ⟨_, _, rfl⟩)))
      exact .inl ⟨z.1, .inr ⟨od, z.2⟩⟩
theorem Reps.upW (k : UpW φ φ' H H') : ∀ (ds : List D) (vs : List V), Reps K φ H ds vs → Reps K φ' H' ds vs
  | [], _, h => h
  | d :: ds, vs, h => by
    obtain ⟨v, r, e, h1, h2⟩ := (show ∃ v r, vs = v :: r ∧ Rep K φ H d v ∧ Reps K φ H ds r from h)
    exact ⟨v, r, e, Rep.upW k d v h1, Reps.upW k ds r h2⟩
end
end
section
variable {K : PySem.W.Frag} {φ : Addr → Prop} {J : Hp → Prop} {ρ : List (Option D)} {td ty : TE} {κ : Type} [DecidableEq κ] [DKind κ] {kds : List (κ × D)} {l : Addr} {d : D}
theorem ho_mut (kvs : List (κ × V)) (h : DKind.ho kvs = .dK [] ∨ True) : True := trivial
theorem frz_tree {od : Obj} {u : HO} (hu : ∀ xs, u ≠ .lst xs) : ¬ TreeO (.frz od u) := fun h => by
  rcases h with ⟨_, e⟩ | ⟨_, e⟩ | ⟨_, _, e⟩ | ⟨_, e⟩ | ⟨_, e⟩
  · cases e
  · cases e
  · injection e with _ e
    exact hu _ e
  · cases e
  · cases e
/-- a live dict is locked while it is walked -/
theorem ev_lockS {t : TE} {P : D → Prop} (L : LivDS K (wo φ l) J l kds) (hl : φ l) (hm : ∀ vs, Mut (some (DKind.ho ((kds.map (·.1)).zip vs)))) (hn : ∀ vs xs, DKind.ho ((kds.map (·.1)).zip vs) ≠ .lst xs)
    (h : ∀ (od : Obj) (vs : List V) (J1 : Hp → Prop), vs.length = kds.length → (∀ H, J1 H → H l = some (.frz od (DKind.ho ((kds.map (·.1)).zip vs))) ∧ Reps K (fun a => φ a ∧ ∀ H, J1 H → H a ≠ none) H (kds.map (·.2)) vs) → EvP K φ J1 t ρ P) : EvP K (wo φ l) J (tLockE t) ρ P := fun σ H A Q q => by
  obtain ⟨vs, H0, r0, n0, k0⟩ := L.ex
  have hd := (k0 H A.j).1
  generalize hu : DKind.ho ((kds.map (·.1)).zip vs) = u at hd
  refine ⟨l, u, hd, hu ▸ hm vs, fun od => ?_⟩
  have nlst : ∀ xs, u ≠ .lst xs := hu ▸ hn vs
  have A1 : At K φ (fun H2 => H2 l = some (.frz od u) ∧ J (L2.upd H2 l u)) ρ σ (L2.upd H l (.frz od u)) := by
    refine ⟨A.sr.up fun a o p e => ⟨p.1, by rw [upd_ne p.2]; exact e⟩, ⟨fun a ha => ?_, fun a xs ha => ?_⟩, ⟨upd_same, by rw [upd_upd hd]; exact A.j⟩, fun Ha Hb k j => ⟨k l _ (by rw [upd_same]; exact fun z => nomatch z) j.1, A.mono _ _ (fun a o ha e => ?_) j.2⟩⟩
    · by_cases e : a = l
      · rw [e]; exact hl
      · rw [upd_ne e] at ha; exact (A.fr.new a ha).1
    · by_cases e : a = l
      · rw [e]; exact hl
      · rw [upd_ne e] at ha; exact (A.fr.tup a xs ha).1
    · by_cases ea : a = l
      · rw [ea, upd_same] at e ⊢; exact e
      · rw [upd_ne ea] at e ⊢
        exact k a o (upd_tr a ha) e
  refine h od vs _ (by rw [r0.length, List.length_map]) (fun H2 j => ⟨hu ▸ j.1, ?_⟩) σ _ A1 _ fun v x H2 b2 A2 px r2 => ⟨A2.j.1, ?_⟩
  · have b := (k0 _ j.2).2
    exact Reps.up (fun a o p e => ⟨⟨p.1, fun H3 j3 => by
      have z := (k0 _ j3.2).2.keep a o p e
      rw [upd_ne p.2] at z
      rw [z]
      exact fun z => nomatch z⟩, by
      have z := b.keep a o p e
      rw [upd_ne p.2] at z
      exact z⟩) _ vs r0
  · have el := A2.j.1
    have ub : But (wo φ l) H (L2.upd H2 l u) := ⟨fun a o p e => by
      rw [upd_ne p.2]
      exact b2.keep a o p.1 (by rw [upd_ne p.2]; exact e), fun a ha => upd_tr a (b2.tr a (upd_tr a ha))⟩
    refine q v x (L2.upd H2 l u) ub ⟨A.sr.up (Up.of ub), ?_, A2.j.2, A.mono.up ub.tr⟩ px (Rep.upW (fun a o p e ht => ?_) x v r2)
    · refine A2.fr.updW fun xs e => ?_
      rw [← hu] at e
      exact DKind.nt _ xs e
    · have na : a ≠ l := fun z => by
        subst z
        rw [el] at e
        cases e
        exact frz_tree nlst ht
      exact ⟨⟨p, na⟩, by rw [upd_ne na]; exact e⟩
/-- .. a dict left as it is: what else the slots hold is forgotten meanwhile -/
theorem ev_lockD {k n : Nat} {t : TE} {P : D → Prop} (hn0 : ρ.length = n) (hk : ρ[k]? = some (some (dictD kds))) (hm : ∀ vs, Mut (some (DKind.ho ((kds.map (·.1)).zip vs)))) (hn : ∀ vs xs, DKind.ho ((kds.map (·.1)).zip vs) ≠ .lst xs)
    (h : ∀ (l : Addr) (od : Obj) (vs : List V) (J1 : Hp → Prop), vs.length = kds.length → φ l → (∀ H, J1 H → H l = some (.frz od (DKind.ho ((kds.map (·.1)).zip vs)))) → EvP K φ J1 t ((List.replicate n none).set k (some (.raw (.ref l)))) P) : EvP K φ J (tLockE t) ρ P := fun σ H A Q q => by
  obtain ⟨v0, ev0, rv0⟩ := A.sr.2 k _ hk
  obtain ⟨l, vs, rfl, ⟨hl, hd, _⟩, rs⟩ := DKind.rep.mp rv0
  have hlen : vs.length = kds.length := by rw [rs.length, List.length_map]
  generalize hu : DKind.ho ((kds.map (·.1)).zip vs) = u at hd
  refine ⟨l, u, hd, hu ▸ hm vs, fun od => ?_⟩
  have nlst : ∀ xs, u ≠ .lst xs := hu ▸ hn vs
  have A1 : At K φ (fun H2 => H2 l = some (.frz od u) ∧ J (L2.upd H2 l u)) ((List.replicate n none).set k (some (.raw (.ref l)))) σ (L2.upd H l (.frz od u)) := by
    refine ⟨⟨by rw [List.length_set, List.length_replicate, A.sr.1, hn0], fun i x hi => ?_⟩, A.fr.upd (fun _ h => nomatch h), ⟨upd_same, by rw [upd_upd hd]; exact A.j⟩, fun Ha Hb k j => ⟨k l _ (by rw [upd_same]; exact fun z => nomatch z) j.1, A.mono _ _ (fun a o ha e => ?_) j.2⟩⟩
    · by_cases e : k = i
      · subst e
        have hlt : k < n := by rw [← hn0]; exact (List.getElem?_eq_some_iff.mp hk).1
        rw [List.getElem?_set_self (by rw [List.length_replicate]; exact hlt)] at hi
        cases hi
        exact ⟨_, ev0, rfl⟩
      · rw [List.getElem?_set_ne e, List.getElem?_replicate] at hi
        split at hi <;> cases hi
    · by_cases ea : a = l
      · rw [ea, upd_same] at e ⊢; exact e
      · rw [upd_ne ea] at e ⊢
        exact k a o (upd_tr a ha) e
  refine h l od vs _ hlen hl (fun H2 j => hu ▸ j.1) σ _ A1 _ fun v x H2 b2 A2 px r2 => ⟨A2.j.1, ?_⟩
  have el := A2.j.1
  have ub : But φ H (L2.upd H2 l u) := ⟨fun a o p e => by
    by_cases ea : a = l
    · rw [ea] at e ⊢
      rw [hd] at e
      rw [upd_same]; exact e
    · rw [upd_ne ea]
      exact b2.keep a o p (by rw [upd_ne ea]; exact e), fun a ha => upd_tr a (b2.tr a (upd_tr a ha))⟩
  refine q v x (L2.upd H2 l u) ub ⟨A.sr.up (Up.of ub), A2.fr.upd (fun xs e => ?_), A2.j.2, A.mono.up ub.tr⟩ px (Rep.upW (fun a o p e ht => ?_) x v r2)
  · rw [← hu] at e
    exact DKind.nt _ xs e
  · have na : a ≠ l := fun z => by
      subst z
      rw [el] at e
      cases e
      exact frz_tree nlst ht
    exact ⟨p, by rw [upd_ne na]; exact e⟩
theorem reps_keys {H : Hp} : ∀ ks : List Key, Reps K φ H (ks.map keyD) (ks.map kV)
  | [] => Reps.nil
  | k :: ks => Reps.cons (by cases k <;> rfl) (reps_keys ks)
/-- the keys of a locked dict -/
theorem it_keysT {od : Obj} {kvs : List (List Key × V)} (h : EvD K φ J td ρ (.raw (.ref l))) (hl : φ l) (hJ : ∀ H, J H → H l = some (.frz od (.dT kvs))) : IterD K φ J (iKeys td) ρ (kvs.map fun kv => .tup (kv.1.map keyD)) := fun σ H A R q => h σ H A _ fun v x H1 b1 A1 e r => by
  subst e
  cases (show v = _ from r)
  refine ⟨l, od, rfl, .inr ⟨kvs, hJ _ A1.j, q _ _ H1 b1 A1 rfl fun φ' i H2 u f => ?_⟩⟩
  have e2 := (u l _ hl (hJ _ A1.j)).2
  refine ⟨fun x hx => ?_, fun hi => ⟨e2, by rw [hi, List.length_map]; exact Nat.le_refl _⟩⟩
  rw [List.getElem?_map] at hx
  obtain ⟨kv, hkv, rfl⟩ := Option.map_eq_some_iff.mp hx
  refine ⟨⟨e2, (List.getElem?_eq_some_iff.mp hkv).1⟩, fun y H3 hy => ?_⟩
  obtain ⟨rfl, k, w, a, hk, rfl, ha⟩ := hy
  rw [hkv] at hk
  cases hk
  exact ⟨Same.refl _, a, _, rfl, .inl ⟨f.tup a _ ha, .inl ha⟩, reps_keys _⟩
theorem it_keysK {od : Obj} {kvs : List (Key × V)} (h : EvD K φ J td ρ (.raw (.ref l))) (hl : φ l) (hJ : ∀ H, J H → H l = some (.frz od (.dK kvs))) : IterD K φ J (iKeys td) ρ (kvs.map fun kv => keyD kv.1) := fun σ H A R q => h σ H A _ fun v x H1 b1 A1 e r => by
  subst e
  cases (show v = _ from r)
  refine ⟨l, od, rfl, .inl ⟨kvs, hJ _ A1.j, q _ _ H1 b1 A1 rfl fun φ' i H2 u f => ?_⟩⟩
  have e2 := (u l _ hl (hJ _ A1.j)).2
  refine ⟨fun x hx => ?_, fun hi => ⟨e2, by rw [hi, List.length_map]; exact Nat.le_refl _⟩⟩
  rw [List.getElem?_map] at hx
  obtain ⟨kv, hkv, rfl⟩ := Option.map_eq_some_iff.mp hx
  refine ⟨⟨e2, (List.getElem?_eq_some_iff.mp hkv).1⟩, fun y H3 hy => ?_⟩
  obtain ⟨rfl, k, w, hk, rfl⟩ := hy
  rw [hkv] at hk
  cases hk
  exact ⟨Same.refl _, by cases k <;> rfl⟩
/-- d[k] while d is locked -/
theorem ev_dgetF {od : Obj} {kds : List (Key × D)} {vs : List V} {k : Key} (hd : EvD K φ J td ρ (.raw (.ref l))) (hJ : ∀ H, J H → H l = some (.frz od (.dK ((kds.map (·.1)).zip vs))) ∧ Reps K φ H (kds.map (·.2)) vs) (hy : EvD K φ J ty ρ (keyD k)) (e : valD kds k = some d) : EvD K φ J (tDGet td ty) ρ d := fun σ H A Q q =>
  hd σ H A _ fun a x H1 b1 A1 ex rx => hy σ H1 A1 _ fun y d' H2 b2 A2 e2 r2 => by
    subst ex e2
    cases (show a = _ from rx)
    obtain ⟨ea, rs⟩ := hJ H2 A2.j
    rcases zip_val rs k with ⟨e1, _⟩ | ⟨d1, v1, e1, ev, r1⟩
    · rw [e] at e1; cases e1
    · rw [e] at e1
      cases e1
      refine ⟨l, v1, rfl, ?_, q v1 _ H2 (b1.trans b2) A2 rfl r1⟩
      rw [← ev, keyD_v r2]
      exact .inl ⟨_, k, .inr ⟨od, ea⟩, rfl, rfl⟩
/-- t * n, n at least 1 -/
theorem ev_repT1 {ta tb : TE} {ds : List D} {i : Int} (ha : EvD K φ J ta ρ (.tup ds)) (hb : EvD K φ J tb ρ (.int i)) (hne : ds ≠ []) (h1 : 1 ≤ i) (h3 : i ≤ 1000) (hz : ds.length ≤ 1000) : EvD K φ J (tOp (rRepT1 K) ta tb) ρ (.tup (List.replicate i.toNat ds).flatten) :=
  ev_opD ha hb fun H v w fr r1 r2 Q q => by
    obtain ⟨a, vs, rfl, p, rs⟩ := rep_tup r1
    cases (show w = _ from r2)
    refine ⟨a, i, vs, rfl, rfl, p.sq, fun z => hne (List.eq_nil_of_length_eq_zero (by rw [← rs.length, z]; rfl)), by rw [rs.length]; exact hz, h1, h3, fun e => ?_, fun h2 l hl => q _ _ _ (same_new hl) rfl ⟨l, _, rfl, .inl ⟨fr l hl, .inl upd_same⟩, ?_⟩⟩
    · subst e
      refine q _ _ H (Same.refl H) rfl ⟨a, vs, rfl, p, ?_⟩
      show Reps K φ H (List.replicate 1 ds).flatten vs
      rw [List.replicate_succ, List.replicate_zero, List.flatten_cons, List.flatten_nil, List.append_nil]
      exact rs
    · exact (replicate_reps rs _).mono (But.of (same_new hl))
end
/-! ### {t: v}, t a tuple of ints and texts -/
def tDispT1 (tk tv : TE) : TE := fun σ H Q => ∀ p, H p = none → tk σ (upd H p (.dT [])) fun x H1 => tv σ H1 fun y H2 => H2 p = some (.dT []) ∧ ∃ (k : List Key) (b : Addr), x = .ref b ∧ H2 b = some (.tup (k.map kV)) ∧ Q (.ref p) (upd H2 p (.dT [(k, y)]))
theorem pe_dispT1 {X : Cx} {pos : Pos} {ke ve : Expr} {tk tv : TE} (hu : X.A.units + 1 < cLine) (h : PPs X pos [some ke] [ve] [(tk, tv)]) : PE X (.Dict [some ke] [ve] pos) (tDispT1 tk tv) := by
  refine ⟨fun pins s σ H Q I q => ?_⟩
  have hn := I.hok.fresh (Nat.le_refl s.heap.objs.size)
  have I1 := I.laid (a := s.heap.objs.size) (o := .dT []) (h' := s.heap.push { cls := .type "dict", data := .dict #[] }) (t' := s.toks) (fun _ _ q => Heap.get?_push_of_some _ q) (Nat.le_refl _) (dt_empty s.heap I.big)
  have q' := q _ hn
  rw [arm_eval_Dict, zip_pairTrees [some ke] [ve] X.env pos rfl rfl, dictDisplay_pairs (pairTrees [some ke] [ve] X.env pos) (by intro z; cases z) (Nat.le_of_ble_eq_true rfl)]
  refine wpAny_bind (wpAny_standAt (wpAny_bind (wpAny_subDictH (knd := tupleKind (mixKind X.prog X.w)) (Q := fun d s' => wpAny (model X.prog X.w) X.A (pure (Value.ref d)) (EP X pins σ Q) X.xe s') (show X.A.units < cLine by omega) (Nat.le_of_ble_eq_true rfl) ?_)))
  refine thn (h.run pins _ σ _ (fun ps H2 => match ps with
    | [(x, y)] => H2 s.heap.objs.size = some (.dT []) ∧ ∃ (k : List Key) (b : Addr), x = .ref b ∧ H2 b = some (.tup (k.map kV)) ∧ Q (.ref s.heap.objs.size) (upd H2 s.heap.objs.size (.dT [(k, y)]))
    | _ => False) I1 q') fun ws s2 ⟨ps, H2, I2, rel, q2⟩ => ?_
  obtain ⟨x, y, rfl⟩ : ∃ x y, ps = [(x, y)] := by
    cases ps with
    | nil => exact q2.elim
    | cons p r =>
      cases r with
      | nil => exact ⟨p.1, p.2, rfl⟩
      | cons _ _ => exact q2.elim
  obtain ⟨e, k, b, rfl, eb, q3⟩ := q2
  cases rel with
  | @cons a b1 as bs hp t =>
    cases t
    obtain ⟨b2, b3⟩ := hp
    have exw : b1.1 = .ref b := b2
    obtain ⟨z, hd, xs0, r0, dd⟩ := dt_of I2.hok e
    cases r0
    refine ⟨[(k, b, b1.2)], ⟨exw, rfl, key_of I2.hok eb, trivial⟩, dd, fun h' tk dd' hs => wpAny_pure ⟨.ref s.heap.objs.size, _, ?_, rfl, q3⟩⟩
    obtain ⟨o, es, ep, hq, h2, h3, h4, _, h5⟩ := dd'
    refine d_write I2 (by rw [e]; exact True.intro) hs ⟨o, hq⟩ ⟨by show 1 ≤ sizeLine; decide, hd, _, (.cons ⟨rfl, ?_, b3⟩ .nil : KT (upd H2 s.heap.objs.size (.dT [(k, y)])) [(k, y)] [(k, b, b1.2)]), o, es, ep, hq, h2, h3, h4, h5⟩
    show upd H2 s.heap.objs.size _ b = _
    rw [upd_ne (fun z => by rw [z, e] at eb; cases eb)]
    exact eb
section
variable {K : PySem.W.Frag} {φ : Addr → Prop} {J : Hp → Prop} {ρ : List (Option D)} {tk tv : TE}
theorem en_dispT1 {k : List Key} {d : D} (hk : ∀ J' φ', Ext φ J φ' J' → EvD K φ' J' tk ρ (.tup (k.map keyD))) (hv : ∀ J' φ', Ext φ J φ' J' → EvD K φ' J' tv ρ d) : EvNO K φ J (tDispT1 tk tv) ρ (fun ds C => ds = ([(k, d)].map (·.2)) ∧ C = fun vs => HO.dT (([(k, d)].map (·.1)).zip vs)) := fun σ H A Q q p hp => by
  have ext : Ext φ J (wo φ p) (fun H => J H ∧ H p = some (.dT [])) := ⟨fun _ h => h.1, fun p' s ns hq => ⟨fun z => hq.np z.1, hq.ne, fun H h => hq.ok H h.1, fun H' H'' h k o => ⟨hq.st H' H'' h.1 k o, k _ _ (by
    obtain ⟨_, _, _, _, h1, _⟩ := hq.ok _ A.j
    exact (ne_of_none h1 hp).symm) h.2⟩⟩, fun a p' h => ⟨p', fun e => h H A.j (by rw [e]; exact hp)⟩⟩
  have A1 : At K (wo φ p) (fun H => J H ∧ H p = some (.dT [])) ρ σ (upd H p (.dT [])) := A.newLive hp ⟨A.mono _ _ (fun a o _ e => same_new hp a o e) A.j, upd_same⟩ ((A.mono.up upd_tr).and (Mo.at (by rw [upd_same]; exact fun z => nomatch z)))
  refine hk _ _ ext σ _ A1 _ fun v1 d1 H2 b2 A2 e1 r1 => hv _ _ ext σ H2 A2 _ fun v2 d2 H3 b3 A3 e2 r2 => ?_
  subst e1 e2
  obtain ⟨b, vs, rfl, pb, rs⟩ := rep_tup (r1.mono b3)
  rw [keysD_v rs] at pb
  refine ⟨A3.j.2, k, b, rfl, pb.at.2, ?_⟩
  have np : ¬ wo φ p p := fun z => z.2 rfl
  have bb : But φ H (upd H3 p (.dT [(k, v2)])) := ⟨fun a o pa e => by
    have ne := ne_of_none e hp
    rw [upd_ne ne]
    exact b3.keep a o ⟨pa, ne⟩ (b2.keep a o ⟨pa, ne⟩ (by rw [upd_ne ne]; exact e)), fun a h => upd_tr a (b3.tr a (b2.tr a (upd_tr a h)))⟩
  have jj : J (upd H3 p (.dT [(k, v2)])) := A.mono H3 _ (fun a o h e => by
    rw [upd_ne (show a ≠ p from fun z => h (by rw [z]; exact hp))]
    exact e) A3.j.1
  exact q p [v2] [d2] _ H _ (But.refl _ _) A hp bb ⟨A.sr.up (Up.of bb), A3.fr.fst.upd (fun _ h => nomatch h), jj, A.mono.up bb.tr⟩ ⟨rfl, rfl⟩ (fun _ h => nomatch h) upd_same (Reps.cons (r2.mono ((But.refl _ H3).upd np)) Reps.nil)
end
/-! ### sorted, the trees told themselves -/
theorem perm_lift {α β : Type} (f : α → β) : ∀ {l k : List β}, l.Perm k → ∀ {m : List α}, k = m.map f → ∃ m' : List α, m'.Perm m ∧ l = m'.map f := by
  intro l k p
  induction p with
  | nil => intro m e; exact ⟨m, List.Perm.refl _, e⟩
  | cons x _ ih =>
    intro m e
    cases m with
    | nil => cases e
    | cons a m =>
      obtain ⟨e1, e2⟩ := List.cons.inj e
      obtain ⟨m', p', e'⟩ := ih e2
      exact ⟨a :: m', p'.cons a, by rw [List.map_cons, ← e', e1]⟩
  | swap x y t =>
    intro m e
    cases m with
    | nil => cases e
    | cons a m =>
      cases m with
      | nil => have := (List.cons.inj e).2; cases this
      | cons b m =>
        obtain ⟨e1, e2⟩ := List.cons.inj e
        obtain ⟨e3, e4⟩ := List.cons.inj e2
        exact ⟨b :: a :: m, List.Perm.swap a b m, by rw [List.map_cons, List.map_cons, e1, e3, e4]⟩
  | trans _ _ ih1 ih2 =>
    intro m e
    obtain ⟨m2, p2, e2⟩ := ih2 e
    obtain ⟨m1, p1, e1⟩ := ih1 e2
    exact ⟨m1, p1.trans p2, e1⟩
theorem perm_uniq {α : Type} {R : α → α → Prop} (anti : ∀ a b, R a b → R b a → a = b) : ∀ {a b : List α}, a.Pairwise R → b.Pairwise R → a.Perm b → a = b
  | [], b, _, _, h => (List.Perm.eq_nil h.symm).symm
  | x :: a, [], _, _, h => absurd h.length_eq (by simp)
  | x :: a, y :: b, ha, hb, h => by
    have e : x = y := by
      rcases List.mem_cons.mp (h.mem_iff.mp (List.mem_cons_self (a := x) (l := a))) with e | hx
      · exact e
      · rcases List.mem_cons.mp (h.mem_iff.mpr (List.mem_cons_self (a := y) (l := b))) with e | hy
        · exact e.symm
        · exact anti x y ((List.pairwise_cons.mp ha).1 y hy) ((List.pairwise_cons.mp hb).1 x hx)
    subst e
    rw [perm_uniq anti (List.pairwise_cons.mp ha).2 (List.pairwise_cons.mp hb).2 h.cons_inv]
theorem dataLt_anti {x y : PyData} (ha : PySem.W.alike x y = true) (h1 : PySem.W.dataLt x y = false) (h2 : PySem.W.dataLt y x = false) : PyData.eqv x y = true := by
  have e : PySem.W.keyToks x = PySem.W.keyToks y := PyProof.Rows.lex_total _ _ h1 h2
  cases h : PyData.eqv x y with
  | true => rfl
  | false =>
    have z := (PySem.W.toks_eqv x y ha).2 h [] [.inl 0]
    have z2 := (PySem.W.toks_eqv x y ha).2 h [] []
    rw [e] at z z2
    have z3 : PyProof.Rows.lexLt PyProof.Rows.itemOrd (PySem.W.keyToks y ++ []) (PySem.W.keyToks y ++ [.inl 0]) = true := by
      rw [PySem.W.lex_pre]; rfl
    have z4 : PyProof.Rows.lexLt PyProof.Rows.itemOrd (PySem.W.keyToks y ++ []) (PySem.W.keyToks y ++ []) = false := by
      rw [PySem.W.lex_pre]; rfl
    rw [z3] at z
    rw [z4] at z2
    rw [← z2] at z
    cases z
section
variable {K : PySem.W.Frag} {φ : Addr → Prop} {J : Hp → Prop} {ρ : List (Option D)} {te : TE} {ds : List D}
theorem ev_sortQP (ha : EvD K φ J te ρ (.lst ds)) (hq : okq 64 (.lst ds) = true) (hal : PySem.W.AllAlike (ds.map toPy)) (hso : PySem.W.Sortable (ds.map toPy)) : EvP K φ J (tCB (rSortQ K) (tCons te tNil)) ρ (fun z => ∃ es : List D, z = .lst es ∧ es.Perm ds ∧ es.Pairwise (fun a b => PySem.W.dataLt (toPy b) (toPy a) = false)) := ev_cbD (ea_cons ha ea_nil) fun H vs f r Q q => by
  obtain ⟨v, rfl, r1⟩ := r.one
  obtain ⟨a, vs, rfl, p, rs⟩ := rep_lst r1
  have hl := rs.length
  have hd := dps_of ds vs 63 hq rs
  rw [toPys_map] at hd
  refine ⟨a, vs, ds.map toPy, rfl, p.sq, hd, hal, hso, fun d hd => ?_, fun zs p hp hs hn => ?_⟩
  · obtain ⟨e, he, rfl⟩ := List.mem_map.mp hd
    exact Nat.le_succ_of_le (okq_lay 63 e (List.all_eq_true.mp (show ds.all (okq 63) = true from hq) e he)).2
  · rw [zip_map2] at hp
    obtain ⟨us, hu, rfl⟩ := perm_lift (fun z : V × D => (z.1, toPy z.2)) hp rfl
    have hr : Reps K φ H (us.map (·.2)) (us.map (·.1)) := by
      have hall : ∀ z ∈ us, Rep K φ H z.2 z.1 := fun z hz => reps_zip rs z (hu.mem_iff.mp hz)
      clear hu hp hs
      induction us with
      | nil => exact Reps.nil
      | cons z us ih => exact Reps.cons (hall z List.mem_cons_self) (ih fun u hu => hall u (List.mem_cons_of_mem _ hu))
    rw [List.map_map] at hs ⊢
    refine q _ (.lst (us.map (·.2))) _ (same_new hn) ⟨us.map (·.2), rfl, ?_, ?_⟩ ⟨p, _, rfl, .inl ⟨f.new p hn, .inl upd_same⟩, hr.mono (But.of (same_new hn))⟩
    · have := hu.map Prod.snd
      rw [List.map_snd_zip (by omega)] at this
      exact this
    · rw [List.pairwise_map] at hs ⊢
      exact hs
end

-- import HandS.Comp
-- import HandS.Exc
-- import HandS.ExcOwn
/-! ### an exception that leaves a list comprehension -/
/-- an exception in the air of X, the frame L told -/
def XEL (X : Cx) (L : Addr) (W : WX) (u : Value) (s' : Shared) : Prop :=
  ∃ (a : Addr) (B : Heap) (sI : Shared) (pins : List (Addr × Obj)) (σ : L2.St) (H : Hp) (cls : Value) (d : Option Addr),
    u = .ref a ∧ Inv X pins σ H sI ∧ (∀ b o, sI.heap.get? b = some o → b ∉ frs X.stack → B.get? b = some o) ∧ sI.heap.UpToSlots s'.heap ∧
      Sky B X.stack a (Zc cls d) L s'.heap ∧ H a = none ∧ s'.os = sI.os ∧ AllBare s'.gens ∧ W cls d σ H
/-- what X wants of exceptions takes those that leave its frame L -/
structure TakesL (X : Cx) (L : Addr) (W : WX) : Prop where
  tk : ∀ u s', XEL X L W u s' → X.xe u s'
  st : ∃ e0 outer, X.stack = e0 :: outer ∧ e0.frame = some L
  fr : X.env.frame = some L
theorem takesL {X : Cx} {W : WX} (tk : Takes X W) (hs : X.stack = X.env :: X.outer) (hf : X.env.frame = some X.env.locals) : TakesL X X.env.locals W := ⟨tk, ⟨_, _, hs, hf⟩, hf⟩
section
variable {X : Cx} {pins : List (Addr × Obj)} {σ : L2.St} {H : Hp} {sI s s' : Shared} {B : Heap} {W : WX} {E : XK} {L : Addr}
theorem XEL.of_call (I : Inv X pins σ H s) (hW : ∀ cls d H', E cls d H' → W cls d σ H') {u : Value} (c : L2.CX X.prog X.w X.stack H s E u s') : XEL X L W u s' := by
  obtain ⟨a, B, H', cls, d, rfl, fl, hok, ub, na, os, ag, hE⟩ := c
  obtain ⟨G, g1, g2⟩ := restrict s'.heap fun b => (B.get? b).isSome || decide (b ∈ frs X.stack)
  have st : B.StaysIn s'.heap := fl.1
  have gB : ∀ b o, B.get? b = some o → G.get? b = some o := fun b o e => by
    rw [g1 b (by simp [e])]
    exact st b o e
  have gF : ∀ b, b ∈ frs X.stack → G.get? b = s'.heap.get? b := fun b hb => g1 b (by simp [hb])
  have og : ∀ b o, G.get? b = some o → s'.heap.get? b = some o ∧ ((B.get? b).isSome = true ∨ b ∈ frs X.stack) := fun b o e => by
    cases q : ((B.get? b).isSome || decide (b ∈ frs X.stack)) with
    | false => rw [g2 b q] at e; cases e
    | true =>
      rw [g1 b q] at e
      exact ⟨e, by simpa [Bool.or_eq_true] using q⟩
  refine ⟨a, B, { s with heap := G, gens := s'.gens, drawn := s'.drawn, toks := s'.toks }, pins, σ, H', cls, d, rfl, ?_, fun b o e hb => ?_, Heap.UpToSlots.of_keeps fun b o e => (og b o e).1, .inr (.inl fl), na, os, ag, hW _ _ _ hE⟩
  · refine I.call (ch := []) ⟨fun b o e n hb _ => gB b o (ub.keep b o e n hb), fun b o e n hb _ => ?_, fun b o e n _ => ub.free b o e n, fun b o e _ => ?_, ub.tups, ub.frzs, ub.tbls⟩ (hok.kept gB) ag (fun _ z => nomatch z)
    · obtain ⟨sl, q⟩ := ub.slot b o e hb
      exact ⟨sl, by rw [gF b hb]; exact q⟩
    · by_cases hb : b ∈ frs X.stack
      · obtain ⟨sl, q⟩ := ub.slot b o e hb
        exact ⟨_, by rw [gF b hb]; exact q⟩
      · obtain ⟨o', q⟩ := ub.there b o e hb
        exact ⟨o', gB b o' q⟩
  · obtain ⟨e', h⟩ := og b o e
    rcases h with h | h
    · obtain ⟨o', q⟩ := Option.isSome_iff_exists.mp h
      have z := st b o' q
      rw [e'] at z; cases z
      exact q
    · exact absurd h hb
theorem passAtL {X : Cx} {W : WX} {L : Addr} (tk : TakesL X L W) (σ : L2.St) : PassesAt (L2.CX X.prog X.w) X σ (WE W σ) := fun _ _ _ e s' I c => tk.tk e s' (XEL.of_call I (fun _ _ _ h => h) c)
/-- noting asks for the frame alone -/
theorem note_congr {e : Value} {env env' : Env} (h : env.frame = env'.frame) : noteFrame e env = noteFrame e env' := by
  unfold noteFrame PySem.frameOf
  rw [h]
theorem funFrames_but {B B2 h h2 : Heap} {C : Addr} (k : ∀ b, b ≠ C → h2.get? b = h.get? b) (hB : ∀ b, B.get? b = none → B2.get? b = none) : ∀ {l : List Env}, h.FunFrames B l → C ∉ frs l → h2.FunFrames B2 l
  | [], _, _ => trivial
  | env :: l, ⟨hk, ⟨L, o, hf, hn, ho, hd⟩, hr⟩, hC => by
    have hL : L ∈ frs (env :: l) := List.mem_filterMap.mpr ⟨env, List.mem_cons_self, hf⟩
    refine ⟨hk, ⟨L, o, hf, hB _ hn, ?_, hd⟩, funFrames_but k hB hr fun z => hC ?_⟩
    · rw [k L fun z => hC (z ▸ hL)]
      exact ho
    · obtain ⟨e, he, q⟩ := List.mem_filterMap.mp z
      exact List.mem_filterMap.mpr ⟨e, List.mem_cons_of_mem _ he, q⟩
/-- Sky, noted by the frame -/
theorem Sky.note {M : Model} {A : Around} {E₁ : Value → Shared → Prop} {env : Env} {outer : List Env} {L a : Addr} {Z : Obj → Prop} {Q : Unit → Shared → Prop} (hZ : HandSPX.Steady Z) (hfr : A.frames = some (env :: outer)) (hf : env.frame = some L)
    (x : Sky B (env :: outer) a Z L s.heap) (hQ : ∀ h', HandSPX.HeldZ B (env :: outer) a Z L h' → s.heap.UpToSlots h' → Q () { s with heap := h' }) : wpAny M A (noteFrame (.ref a) env) Q E₁ s := by
  rcases x with ⟨hB, hn, hl, oe, vs, he, hz, hd, h1⟩ | fl | hh
  · exact HandSPX.look_newZ hZ hfr hl hf he hB hn hd h1 hz hQ
  · exact HandSPX.looks_onZ hZ hfr hf fl hQ
  · exact HandSPX.againZ hf hh.2.2.2 (hQ s.heap hh (Heap.UpToSlots.refl _))
end
/-- as compPost, the frame of the block told -/
def compPostF (M : Model) (A : Around) (E : Value → Shared → Prop) (use : Option (Value → Sem Unit)) (Q : Value → Shared → Prop) (acc : Value) (C : Addr) (F : Option Addr) (r : Result) (s' : Shared) : Prop :=
  match r with
  | .ok f => compPost M A E use Q acc C (.ok f) s'
  | .error x => ∃ m, s'.heap.Ns C m ∧ ∀ h', Heap.SameBut C s'.heap h' → ∀ cenv : Env, cenv.locals = C → cenv.frame = F → wpAny M A (passOn "comprehension.variables-let-go" x cenv : Sem Value) (fun _ _ => False) E { s' with heap := h' }
/-- the library's wpAny_comprehension_free, an exception allowed -/
theorem comp_freeF {M : Model} {A : Around} {E : Value → Shared → Prop} {s : Shared} {env : Env} {e : Expr} {scope : Scope} {pos : Pos} {newAcc first : Sem Value} {g : Comprehension} {gs : List Comprehension} {cl : List (Str × Addr)} {use : Option (Value → Sem Unit)}
    {Q : Value → Shared → Prop}
    (hcl : clausesOf e = g :: gs) (hs : ∀ x, foldedSetIterable g.iter env x = pure x) (hclos : closureFor scope env = pure cl)
    (hkind : scope.kind = .function) (hnames : ∀ x ∈ scope.names, x.2 = .local → scope.names.lookup x.1 = some .local)
    (h : wpAny M A first (fun x s₁ => wpAny M A (pyIter x) (fun it s₂ => wpAny M A newAcc (fun acc s₃ =>
      wpAny M A (newFunctionEnv scope env.globals cl [] env.qual none .none (some env)) (fun cenv s₄ =>
        codeAny M A (.compStart e 0 it acc { cenv with scope := relabel scope env }) (compPostF M A E use Q acc cenv.locals cenv.frame) s₄) E s₃) E s₂) E s₁) E s) :
    wpAny M A (comprehension e scope env pos newAcc false first use) Q E s := by
  unfold comprehension
  rw [hclos, hcl]
  refine wpAny_bind (wpAny_mono h (fun x s₁ h₁ => wpAny_bind (wpAny_standAt (wpAny_bind (wpAny_of_eq (hs x) (wpAny_bind (wpAny_holding (wpAny_mono h₁ (fun it s₂ h₂ =>
    wpAny_standIf (wpAny_bind (wpAny_mono h₂ (fun acc s₃ h₃ => wpAny_bind (wpAny_pure (wpAny_bind (wpAny_mono h₃ (fun cenv s₄ h₄ => ?_) fun _ _ h' => h')))) fun _ _ h' => h')))
      fun _ _ h' => h'))))))) fun _ _ h' => h')
  dsimp only
  have hv : ∀ x ∈ (scope.names.filter fun x => (x.2 == .local || x.2 == .cell) && x.1 != (".0" : Str)).reverse, x.2 = .local →
      Env.kindOf { cenv with scope := relabel scope env } x.1 = some .local := fun x hx hl => lookup_relabel_local (hnames x (List.mem_filter.mp (List.mem_reverse.mp hx)).1 hl)
  have hv' : ∀ x ∈ (scope.names.filter fun x => (x.2 == .local || x.2 == .cell) && x.1 != (".0" : Str)).reverse.drop 1 ++ (scope.names.filter fun x => (x.2 == .local || x.2 == .cell) && x.1 != (".0" : Str)).reverse.take 1,
      x.2 = .local → Env.kindOf { cenv with scope := relabel scope env } x.1 = some .local := fun x hx hl => by
    rcases List.mem_append.mp hx with h1 | h1
    · exact hv x (List.mem_of_mem_drop h1) hl
    · exact hv x (List.mem_of_mem_take h1) hl
  refine wpAny_holding (wpAny_bind (wpAny_attempt (wpAny_holding (wpAny_run (codeAny_mono h₄ fun r s' hr => ?_)))))
  cases r with
  | ok f =>
    cases use with
    | none =>
      obtain ⟨m, hn, hr⟩ := hr
      exact wpAny_bind (wpAny_holding (wpAny_comp_letGo (cenv := { cenv with scope := relabel scope env }) hkind _ s' m hv hn fun h' m' _ hs' => wpAny_pure (hr h' hs')))
    | some u =>
      refine wpAny_bind (wpAny_rule (wpAny_bind (wpAny_holding (wpAny_mono hr (fun _ s'' hr' => ?_) fun _ _ h' => h'))))
      obtain ⟨m, hn, hr'⟩ := hr'
      exact wpAny_bind (wpAny_comp_letGo (cenv := { cenv with scope := relabel scope env }) hkind _ s'' m hv' hn fun h' m' _ hs' => wpAny_pure (hr' h' hs'))
  | error x =>
    obtain ⟨m, hn, hr⟩ := hr
    exact wpAny_bind (wpAny_holding (wpAny_comp_letGo (cenv := { cenv with scope := relabel scope env }) hkind _ s' m hv hn fun h' m' _ hs' => wpAny_mono (hr h' hs' _ rfl rfl) (fun _ _ f => f.elim) fun _ _ y => y))
section
variable {X : Cx}
/-- a block's exception, out of the block -/
theorem block_out {pins : List (Addr × Obj)} {σ : L2.St} {H3 : Hp} {s3 : Shared} {scope : Scope} {ce : Env} {fp : List Addr} {E : XK} {L C : Addr} {use : Option (Value → Sem Unit)} {Q : Value → Shared → Prop} {acc u : Value} {s' : Shared}
    (I3 : Inv X pins σ H3 s3) (tk : TakesL X L fun cls d _ H => E cls d H) (hce : ce.frame = X.env.frame) (cL : ce.locals = C) (hC : s3.heap.objs.size = C) (f3 : ∀ b ∈ fp, FpOk X pins H3 b ∧ b < s3.heap.objs.size)
    (x : XEL (X.blk s3 H3 scope ce fp) L (fun cls d _ H => E cls d H) u s') : notedBy (model X.prog X.w) X.A ce (fun e s' => compPostF (model X.prog X.w) X.A X.xe use Q acc C X.env.frame (.error e) s') u s' := by
  obtain ⟨a, B, sI, p, σ', H, cls, d, rfl, IB, nb, up, sky, na, os, ag, hE⟩ := x
  obtain ⟨e0, outer, hst, he0⟩ := tk.st
  have I7 : Inv X pins σ H sI := I3.call' (ch := fp) IB.os IB.base IB.hok IB.bare fun b hb => ⟨(f3 b hb).1.2.2.2.1, (f3 b hb).1.2.1, (f3 b hb).1.2.2.2.2.1, (f3 b hb).1.2.2.2.2.2⟩
  have nC : H C = none := by
    have z : H ce.locals = none := IB.free
    rw [cL] at z
    exact z
  have fC : FpOk X pins H C := I3.fpOk (Nat.le_of_eq hC) nC
  obtain ⟨m, hn, _⟩ := IB.loc
  have hn : sI.heap.Ns ce.locals m := hn
  rw [cL] at hn
  obtain ⟨oC, es, ep, hoC, hdC, hsk, hfd⟩ := hn
  have hCs : C ∉ frs X.stack := fun z => by
    rcases List.mem_cons.mp (I3.stkSub C z) with e | e
    · exact fC.2.1 e
    · exact fC.2.2.1 e
  have hBC : B.get? C = some oC := nb C oC hoC hCs
  have hfr : X.A.frames = some (e0 :: outer) := by rw [I3.ok.frames, hst]
  unfold notedBy
  rw [note_congr (env' := e0) (by rw [hce, tk.fr, he0])]
  have sky : Sky B (e0 :: outer) a (Zc cls d) L s'.heap := by
    have z : Sky B X.stack a (Zc cls d) L s'.heap := sky
    rw [hst] at z
    exact z
  refine Sky.note Zc.steady hfr he0 sky fun h1 hh up1 => ?_
  refine ⟨m, ⟨oC, es, ep, hh.1 _ _ hBC, hdC, hsk, hfd⟩, fun h2 sb cenv _ hcf => ?_⟩
  obtain ⟨k1, k2, k3, oe, vs, T, oT, ts, he, hz, hd, h1', hnT, hTe, hT, hdT, hfl⟩ := hh
  have aC : a ≠ C := fun z => by
    rw [z, hBC] at k2
    cases k2
  have TC : T ≠ C := fun z => by
    rw [z, hBC] at hnT
    cases hnT
  have at2 : ∀ b, b ≠ C → h2.get? b = h1.get? b := sb.2
  obtain ⟨B2, hB2⟩ : ∃ B2, B2 = PySem.W.hideAll B [C] := ⟨_, rfl⟩
  have b2n : ∀ b, B.get? b = none → B2.get? b = none := fun b e => by
    rw [hB2]
    cases q : (PySem.W.hideAll B [C]).get? b with
    | none => rfl
    | some o =>
      rw [PySem.W.of_hideAll _ q] at e
      cases e
  have b2C : B2.get? C = none := by
    rw [hB2]
    exact PySem.W.hideAll_none _ List.mem_cons_self
  have b2g : ∀ b o, b ≠ C → B.get? b = some o → B2.get? b = some o := fun b o h e => by
    rw [hB2]
    exact PySem.W.hideAll_get _ e fun z => h (List.mem_singleton.mp z)
  have b2o : ∀ b o, B2.get? b = some o → B.get? b = some o ∧ b ≠ C := fun b o e => ⟨by rw [hB2] at e; exact PySem.W.of_hideAll _ e, fun z => by rw [z, b2C] at e; cases e⟩
  have s2 : B2.StaysIn h2 := fun b o e => by
    rw [at2 b (b2o b o e).2]
    exact k1 b o (b2o b o e).1
  have ff2 : h2.FunFrames B2 (e0 :: outer) := funFrames_but at2 b2n k3 (by rw [← hst]; exact hCs)
  have he2 : h2.get? a = some oe := by
    rw [at2 a aC]
    exact he
  have tr2 : HandSPX.TracedZ h2 B2 a (Zc cls d) (rawInt L) := ⟨oe, vs, T, oT, ts, he2, hz, hd, h1', b2n _ hnT, hTe, by rw [at2 T TC]; exact hT, hdT, hfl⟩
  unfold PySem.passOn
  refine wpAny_bind (wpAny_field he2 hd h1' ?_)
  rw [if_neg (show ¬ ((Value.ref T == Value.none) = true) from by simp)]
  have fin : wpAny (model X.prog X.w) X.A (setFlight (.ref a) cenv.frame) (fun _ s4 => wpAny (model X.prog X.w) X.A (throw (.ref a) : Sem Value) (fun _ _ => False) X.xe s4) X.xe { s' with heap := h2 } := by
    rw [hcf, tk.fr]
    refine HandSPX.setFlight_anyZ s2 ff2 tr2 fun h3 s3' ff3 tr3 up3 => wpAny_throw (tk.tk _ _ ?_)
    obtain ⟨G, g1, g2⟩ := restrict h3 fun b => (B2.get? b).isSome || decide (b ∈ frs X.stack)
    have gB : ∀ b o, B2.get? b = some o → G.get? b = some o := fun b o e => by
      rw [g1 b (by simp [e])]
      exact s3' b o e
    have gF : ∀ b, b ∈ frs X.stack → G.get? b = h3.get? b := fun b hb => g1 b (by simp [hb])
    have og : ∀ b o, G.get? b = some o → h3.get? b = some o ∧ ((B2.get? b).isSome = true ∨ b ∈ frs X.stack) := fun b o e => by
      cases q : ((B2.get? b).isSome || decide (b ∈ frs X.stack)) with
      | false => rw [g2 b q] at e; cases e
      | true =>
        rw [g1 b q] at e
        exact ⟨e, by simpa [Bool.or_eq_true] using q⟩
    have slot : ∀ b o, sI.heap.get? b = some o → b ∈ frs X.stack → ∃ sl, G.get? b = some { o with slots := sl } := fun b o e hb => by
      obtain ⟨_, o', e', hnf⟩ := I7.stack.mem hb
      rw [e] at e'; cases e'
      obtain ⟨sl1, q1⟩ := up b o e hnf
      obtain ⟨sl2, q2⟩ := up1 b _ q1 hnf
      have q2' : h2.get? b = _ := (at2 b fun z => hCs (z ▸ hb)).trans q2
      obtain ⟨sl3, q3⟩ := up3 b _ q2' hnf
      exact ⟨sl3, by rw [gF b hb]; exact q3⟩
    refine ⟨a, B2, { sI with heap := G, gens := s'.gens, drawn := s'.drawn, toks := s'.toks }, pins, σ, H, cls, d, rfl, ?_, fun b o e hb => ?_, Heap.UpToSlots.of_keeps fun b o e => (og b o e).1, .inr (.inr ⟨s3', b2n _ k2, by rw [hst]; exact ff3, tr3⟩), na, os, ag, hE⟩
    · refine I7.call (ch := [C]) ⟨fun b o e n hb hc => gB b o (b2g b o (fun z => hc (by rw [z]; exact List.mem_cons_self)) (nb b o e hb)), fun b o e n hb _ => slot b o e hb, fun b o e n _ => n, fun b o e hc => ?_, fun _ _ e => e, fun _ _ _ e => e, fun b ps e => ⟨#[], by rw [e]; simp⟩⟩ ?_ ag fun b z => ?_
      · by_cases hb : b ∈ frs X.stack
        · obtain ⟨sl, q⟩ := slot b o e hb
          exact ⟨_, q⟩
        · exact ⟨o, gB b o (b2g b o (fun z => hc (by rw [z]; exact List.mem_cons_self)) (nb b o e hb))⟩
      · exact fun b o q => (I7.hok b o q).stay (fun c u hc r => gB c u (b2g c u (fun z => by
          rw [z] at hc
          rcases hc with hc | hc
          · rw [← hc, nC] at q; cases q
          · rw [nC] at hc; cases hc) (nb c u r fun hm => by
          have z := I7.stkFree c hm
          rcases hc with hc | hc
          · rw [hc, q] at z; cases z
          · rw [hc] at z; cases z))) (fun _ r => r) fun _ _ r => r
      · rw [List.mem_singleton.mp z]
        exact ⟨fC.2.2.2.1, fC.2.1, fC.2.2.2.2.1, fC.2.2.2.2.2⟩
    · obtain ⟨e', h⟩ := og b o e
      rcases h with h | h
      · obtain ⟨o', q⟩ := Option.isSome_iff_exists.mp h
        have z := s3' b o' q
        rw [e'] at z; cases z
        exact q
      · exact absurd h hb
  first
    | exact wpAny_bind (wpAny_pure (wpAny_bind fin))
    | exact wpAny_bind fin
end
/-- HandS's lc_core, an exception of the element allowed -/
theorem lc_coreX {X : Cx} {pins : List (Addr × Obj)} {s : Shared} {σ : L2.St} {H : Hp} {Q : VK} {elt tg iter : Expr} {ifs : List Expr} {scope : Scope} {own : List (Str × Nat)} {pos pos' : Pos} {wi : TI} {g : TG} {tt : TT} {te : TE} {use : Option (Value → Sem Unit)} {Qf : Value → Shared → Prop} {E : XK} {L : Addr}
    (tk : TakesL X L fun cls d _ H => E cls d H) (hc : X.calm = true) (hN : X.N.Nodup) (I : Inv X pins σ H s) (hi : PI X tg iter wi) (ok : BlkOk X.N X.env.scope scope own)
    (hg : ∀ (s : Shared) (H : Hp) (C : Addr) (cl : List (Str × Addr)) (fp : List Addr), PG (X.blk s H scope (compEnvC scope cl C X.env) fp) tg g) (ht : ∀ (s : Shared) (H : Hp) (C : Addr) (cl : List (Str × Addr)) (fp : List Addr), PTs (X.blk s H scope (compEnvC scope cl C X.env) fp) ifs tt)
    (he : ∀ (s : Shared) (H : Hp) (C : Addr) (cl : List (Str × Addr)) (fp : List Addr) (xe : Value → Shared → Prop), TakesL ((X.blk s H scope (compEnvC scope cl C X.env) fp).wish xe) L (fun cls d _ H => E cls d H) → PE ((X.blk s H scope (compEnvC scope cl C X.env) fp).wish xe) elt te) (hs : ∀ x, foldedSetIterable iter X.env x = pure x)
    (h : tLc wi g tt te (own.map (·.2)) σ H Q)
    (hRR : ∀ D C s' m H', Inv X pins σ H' s' → Q (.ref D) H' → s'.heap.Ns C m → FpOk X pins H' C → compPost (model X.prog X.w) X.A X.xe use Qf (.ref D) C (.ok .next) s') :
    wpAny (model X.prog X.w) X.A (comprehension (.ListComp elt [⟨tg, iter, ifs, 0⟩] scope pos) scope X.env pos' (newList []) false (eval iter X.env) use) Qf X.xe s := by
  have hfree : ∀ y ∈ scope.names, y.2 = .free → ∃ c, X.env.cells.lookup y.1 = some c := fun y hy e => by
    rcases ok.free y hy e with k | k
    · exact I.ok.has _ (.inl k)
    · exact I.ok.has _ (.inr k)
  refine comp_freeF (use := use) rfl hs (closure_ok hfree) ok.kind (fun y hy e => by rw [ok.uniq y hy, e])
    (thn (hi.run pins s σ H _ I h) fun xv s1 hx => thn hx fun itv s2 h2 => ?_)
  obtain ⟨it, fp, tn, J, H2, e, I2, T, st2, f2, q⟩ := h2
  subst e
  refine wpAny_newObj_type (newEnv_comp ?_) (by show 0 ≤ sizeLine; decide)
  generalize hD : s2.heap.objs.size = D
  have hDn : H2 D = none := I2.hok.fresh (Nat.le_of_eq hD)
  obtain ⟨W, ⟨m0, w0⟩, turn⟩ := q D hDn
  generalize hs3 : ({ s2 with heap := s2.heap.push { cls := .type "list", data := .seq ([] : List Value).toArray } } : Shared) = s3
  have I3 : Inv X pins σ (upd H2 D (.lst [])) s3 := by
    rw [← hs3]
    refine I2.laid (t' := s2.toks) (fun b o e => Heap.get?_push_of_some _ e) (Nat.le_of_eq hD) ⟨Nat.zero_le _, [], 0, .nil, ?_⟩
    rw [← hD]
    exact Heap.get?_push_size _ rfl
  have h3 : s3.heap = s2.heap.push { cls := .type "list", data := .seq ([] : List Value).toArray } := by rw [← hs3]
  have sz : ∀ b ∈ fp, b < s2.heap.objs.size := fun b hb => by
    obtain ⟨o, e, _⟩ := T.obj _ _ st2 b hb
    exact Heap.lt_size e
  have f3 : ∀ b ∈ fp, FpOk X pins (upd H2 D (.lst [])) b ∧ b < s3.heap.objs.size := fun b hb => by
    have hlt := sz b hb
    refine ⟨⟨?_, (f2 b hb).2⟩, by rw [h3, Heap.size_push]; exact Nat.lt_succ_of_lt hlt⟩
    rw [upd_ne (by rw [← hD]; exact Nat.ne_of_lt hlt)]
    exact (f2 b hb).1
  have st3 : tn 0 s3.heap := T.keep _ _ _ st2 fun b _ o e => by rw [h3]; exact Heap.get?_push_of_some _ e
  have I4 := block_start I3 ok hN f3
  have pg := hg s3 (upd H2 D (.lst [])) s3.heap.objs.size (cellsFrom (s3.heap.objs.size + 1) scope.names (cloFrom X.env.cells scope.names [])) fp
  have pt := ht s3 (upd H2 D (.lst [])) s3.heap.objs.size (cellsFrom (s3.heap.objs.size + 1) scope.names (cloFrom X.env.cells scope.names [])) fp
  have pe := he s3 (upd H2 D (.lst [])) s3.heap.objs.size (cellsFrom (s3.heap.objs.size + 1) scope.names (cloFrom X.env.cells scope.names [])) fp
  show codeAny _ _ (.compStart (.ListComp elt [⟨tg, iter, ifs, 0⟩] scope pos) 0 (.ref it) (.ref D) (compEnvC scope (cellsFrom (s3.heap.objs.size + 1) scope.names (cloFrom X.env.cells scope.names [])) s3.heap.objs.size X.env)) (compPostF (model X.prog X.w) X.A X.xe use Qf (.ref D) s3.heap.objs.size X.env.frame) { s3 with heap := pushCells (s3.heap.push { cls := .type "dict", data := .dict #[] }) scope.names }
  have nfp : ∀ b ∈ fp, (upd H2 D (.lst [])) b = none := fun b hb => (f3 b hb).1.1
  generalize hce : compEnvC scope (cellsFrom (s3.heap.objs.size + 1) scope.names (cloFrom X.env.cells scope.names [])) s3.heap.objs.size X.env = ce at I4 pg pt pe ⊢
  have cL : ce.locals = s3.heap.objs.size := by subst hce; rfl
  have cF : ce.frame = X.env.frame := by subst hce; rfl
  generalize hH3 : upd H2 D (.lst []) = H3 at I3 I4 pg pt pe w0 nfp f3
  generalize hs4 : ({ s3 with heap := pushCells (s3.heap.push { cls := .type "dict", data := .dict #[] }) scope.names } : Shared) = s4 at I4 ⊢
  have st4 : tn 0 s4.heap := T.keep _ _ _ st3 fun b _ o e => by rw [← hs4]; exact pushCells_keeps _ _ _ _ (Heap.get?_push_of_some _ e)
  have stat : ∀ {σ' : L2.St} {H' : Hp} {s' : Shared}, Inv (X.blk s3 H3 scope ce fp) [] σ' H' s' → (∀ b ∈ fp, H' b = none) → ∀ b ∈ fp, FpOk (X.blk s3 H3 scope ce fp) [] H' b := fun {σ' H' s'} I' hn b hb =>
    ⟨hn b hb, (I'.ok.exf b hb).1, I'.ok.exfs b hb, .inl hb, fun x c e => (I'.ok.exf b hb).2 x c e, fun p hp => absurd (show p ∈ ([] : List (Addr × Obj)) ++ [] from hp) (by simp)⟩
  have pe' := pe (XEL (X.blk s3 H3 scope ce fp) L fun cls d _ H => E cls d H) ⟨fun u s' ⟨a, B, sI, p, σ', H, cls, d, e, IB, z⟩ => ⟨a, B, sI, p, σ', H, cls, d, e, IB.unwish, z⟩, tk.st, cF.trans tk.fr⟩
  have loop : codeAny (model X.prog X.w) X.A (.compLoop (.ListComp elt [⟨tg, iter, ifs, 0⟩] scope pos) 0 (.ref it) (.ref D) ce) (compPostF (model X.prog X.w) X.A X.xe use Qf (.ref D) s3.heap.objs.size X.env.frame) s4 := by
    refine compLoop_any (fun n s' => ∃ i H', Inv (X.blk s3 H3 scope ce fp) [] (wipe σ (own.map (·.2))) H' s' ∧ tn i s'.heap ∧ (∀ b ∈ fp, H' b = none) ∧ W i n H') ?_ m0 ⟨0, H3, I4, st4, nfp, w0⟩
    rintro n s5 ⟨i, H5, I5, st5, n5, w5⟩
    rcases turn i n H5 w5 with ⟨stop, qq⟩ | ⟨go, Nx, hNx, step⟩
    · have td := T.done (X.blk s3 H3 scope ce fp) rfl rfl rfl hc i [] s5 _ H5 (fun _ _ => False) I5 (stat I5 n5) st5 stop
      refine thnF td fun r s6 ⟨hr, I6⟩ => ?_
      subst hr
      have I7 : Inv X pins σ H5 s6 := I3.call' (ch := fp) I6.os I6.base I6.hok I6.bare fun b hb => ⟨(f3 b hb).1.2.2.2.1, (f3 b hb).1.2.1, (f3 b hb).1.2.2.2.2.1, (f3 b hb).1.2.2.2.2.2⟩
      have nC : H5 s3.heap.objs.size = none := by
        have z : H5 ce.locals = none := I6.free
        rw [cL] at z
        exact z
      obtain ⟨m, hn, _⟩ := I6.loc
      have hn : s6.heap.Ns ce.locals m := hn
      rw [cL] at hn
      exact hRR D s3.heap.objs.size s6 m H5 I7 qq hn (I3.fpOk (Nat.le_refl _) nC)
    · have ti := T.item (X.blk s3 H3 scope ce fp) rfl rfl rfl hc i [] s5 _ H5 (fun _ _ => False) I5 (stat I5 n5) st5 go
      refine thnF ti fun r s6 ⟨u, hr, h6⟩ => ?_
      subst hr
      refine thnF h6 fun _ s7 ⟨x, H7, I7, r7, y7, st7, n7⟩ => ?_
      have I7' := I7.pinned (stat I7 n7) (T.obj _ _ st7)
      refine thnF (pg.run _ s7 _ H7 x u _ I7' r7 (step x H7 y7)) fun _ s8 ⟨σ8, H8, I8, hw8, q8⟩ => ?_
      refine thnF (pt.run _ s8 σ8 H8 _ I8 q8) fun b s9 ⟨H9, I9, q9⟩ => ?_
      have fin : ∀ {s' : Shared} {H' : Hp}, Inv (X.blk s3 H3 scope ce fp) ([] ++ pinsAt fp s7.heap) σ8 H' s' → Nx H' → ∃ m, m < n ∧ ∃ i H', Inv (X.blk s3 H3 scope ce fp) [] (wipe σ (own.map (·.2))) H' s' ∧ tn i s'.heap ∧ (∀ b ∈ fp, H' b = none) ∧ W i m H' := fun {s' H'} I' nx => by
        obtain ⟨m', hm, w'⟩ := hNx H' nx
        have pin' : ∀ b ∈ fp, ∀ o, s7.heap.get? b = some o → s'.heap.get? b = some o ∧ H' b = none := fun b hb o e =>
          let z := I'.pin (b, o) (List.mem_append_right _ (List.mem_append_right _ (mem_pinsAt hb e)))
          ⟨z.1, z.2.1⟩
        have hl : (wipe σ (own.map (·.2))).length = σ8.length := by rw [← hw8, wipe_length]
        refine ⟨m', hm, i + 1, H', (I'.unpinned (pins := [])).weak hl (fun j v e => ?_), T.keep _ _ _ st7 fun b hb o e => (pin' b hb o e).1, fun b hb => ?_, w'⟩
        · rw [← hw8] at e
          exact (wipe_some e).1
        · obtain ⟨o, e, _⟩ := T.obj _ _ st7 b hb
          exact (pin' b hb o e).2
      cases b with
      | false =>
        simp only [Bool.false_eq_true, if_false] at q9 ⊢
        exact fin I9 q9
      | true =>
        simp only [if_true] at q9 ⊢
        refine wpAny_mono (pe'.run _ s9 σ8 H9 _ (I9.wish _) q9) (fun z s10 ⟨yv, H10, I10, r10, acc, hD10, hz10, nx⟩ => ?_) fun u s10 hx => block_out I3 tk cF cL rfl f3 hx
        exact app_ok (X := X.blk s3 H3 scope ce fp) I10.unwish hD10 hz10 r10 fun s11 I11 => fin I11 nx
  exact codeAny_compStart_list loop (T.self X.A 0 _ _ _ st4 loop)
section
variable {X : Cx}
/-- as a value -/
theorem pe_lcX {elt tg iter : Expr} {ifs : List Expr} {scope : Scope} {own : List (Str × Nat)} {pos : Pos} {wi : TI} {g : TG} {tt : TT} {te : TE} {E : XK} {L : Addr} (tk : TakesL X L fun cls d _ H => E cls d H) (hc : X.calm = true) (hN : X.N.Nodup) (hi : PI X tg iter wi) (ok : BlkOk X.N X.env.scope scope own)
    (hg : ∀ (s : Shared) (H : Hp) (C : Addr) (cl : List (Str × Addr)) (fp : List Addr), PG (X.blk s H scope (compEnvC scope cl C X.env) fp) tg g) (ht : ∀ (s : Shared) (H : Hp) (C : Addr) (cl : List (Str × Addr)) (fp : List Addr), PTs (X.blk s H scope (compEnvC scope cl C X.env) fp) ifs tt)
    (he : ∀ (s : Shared) (H : Hp) (C : Addr) (cl : List (Str × Addr)) (fp : List Addr) (xe : Value → Shared → Prop), TakesL ((X.blk s H scope (compEnvC scope cl C X.env) fp).wish xe) L (fun cls d _ H => E cls d H) → PE ((X.blk s H scope (compEnvC scope cl C X.env) fp).wish xe) elt te) (hs : ∀ x, foldedSetIterable iter X.env x = pure x := by intro _; rfl) :
    PE X (.ListComp elt [⟨tg, iter, ifs, 0⟩] scope pos) (tLc wi g tt te (own.map (·.2))) := by
  refine ⟨fun pins s σ H Q I h => ?_⟩
  rw [eval_ListComp]
  refine lc_coreX tk hc hN I hi ok hg ht he hs h fun D C s' m H' I' q hn f => ⟨m, hn, fun h'' sb => ?_⟩
  obtain ⟨f0, f1, f2, f3, f4, f5⟩ := f
  exact ⟨.ref D, H', I'.turned (t' := s'.toks) (fun b o hb e => (sb.2 b hb).trans e) f0 f1 f3 f4 f5, rfl, q⟩
/-- name = [..] on one line, the name a local -/
theorem ps_setLcX {i : Nat} {y : Str} {py : Pos} {elt tg iter : Expr} {ifs : List Expr} {scope : Scope} {own : List (Str × Nat)} {pos spos : Pos} {wi : TI} {g : TG} {tt : TT} {te : TE} {E : XK} {L : Addr} (tk : TakesL X L fun cls d _ H => E cls d H) (hc : X.calm = true) (hN : X.N.Nodup) (hy : X.N[i]? = some y) (hyl : X.env.scope.names.lookup y = some .local)
    (hsw : swapsWith (.ListComp elt [⟨tg, iter, ifs, 0⟩] scope pos) (some (.Name y py)) spos.line X.env = pure true) (hi : PI X tg iter wi) (ok : BlkOk X.N X.env.scope scope own)
    (hg : ∀ (s : Shared) (H : Hp) (C : Addr) (cl : List (Str × Addr)) (fp : List Addr), PG (X.blk s H scope (compEnvC scope cl C X.env) fp) tg g) (ht : ∀ (s : Shared) (H : Hp) (C : Addr) (cl : List (Str × Addr)) (fp : List Addr), PTs (X.blk s H scope (compEnvC scope cl C X.env) fp) ifs tt)
    (he : ∀ (s : Shared) (H : Hp) (C : Addr) (cl : List (Str × Addr)) (fp : List Addr) (xe : Value → Shared → Prop), TakesL ((X.blk s H scope (compEnvC scope cl C X.env) fp).wish xe) L (fun cls d _ H => E cls d H) → PE ((X.blk s H scope (compEnvC scope cl C X.env) fp).wish xe) elt te) (hs : ∀ x, foldedSetIterable iter X.env x = pure x := by intro _; rfl) :
    PS X (.Assign [.Name y py] (.ListComp elt [⟨tg, iter, ifs, 0⟩] scope pos) spos) (tAsg (tLc wi g tt te (own.map (·.2))) (gName i)) := by
  refine ⟨fun pins s σ H D I h => ?_⟩
  rw [exec_Assign_Name_used _ _ _ _ hsw]
  refine wpAny_bind (wpAny_standAt (wpAny_bind ?_))
  show wpAny _ X.A (do let _ ← comprehension (.ListComp elt [⟨tg, iter, ifs, 0⟩] scope pos) scope X.env (firstIterPos [⟨tg, iter, ifs, 0⟩] pos) (newList []) false (eval iter X.env) (some (assign (.Name y py) X.env))) _ _ s
  have h : tLc wi g tt te (own.map (·.2)) σ H (fun x H1 => gName i x σ H1 D.nx) := h
  refine wpAny_bind (thn (lc_coreX (Qf := fun _ s' => SP X pins D .next s') tk hc hN I hi ok hg ht he hs h fun L C s' m H' I' q hn f => ?_) fun _ s' hq => wpAny_pure (wpAny_pure hq))
  show wpAny _ _ (assign (.Name y py) X.env (.ref L)) _ _ _
  refine wpAny_assign_Name (store_ok2 (v := V.ref L) I' hN hy (.inl hyl) rfl (fun s2 I2 ⟨a, sb, ha⟩ => ?_) (.inr hyl))
  obtain ⟨f0, f1, f2, f3, f4, f5⟩ := f
  have haC : C ≠ a := by
    rcases ha with z | z
    · rw [z]; exact f1
    · exact fun e => f4 y a z e.symm
  refine ⟨m, hn.sameBut sb haC, fun h3 sb3 => ?_⟩
  exact ⟨_, H', I2.turned (t' := s2.toks) (fun b o hb e => (sb3.2 b hb).trans e) f0 f1 f3 f4 f5, q⟩
end
/-! ### .. as a reading: the first element that raises -/
abbrev XW (E : XK) : WX := fun cls d _ H => E cls d H
section
variable {K : PySem.W.Frag} {φ φ' : Addr → Prop} {J J' : Hp → Prop} {H H' H1 : Hp} {ρ ρ' : List (Option D)} {σ : L2.St} {E : XK} {c : Addr}
theorem rs_lc {wi : TI} {te : TE} {k : Nat} {pre post : List D} {d : D} {f : D → D} (hi : IterD K φ J wi ρ (pre ++ d :: post)) (hl : pre.length ≤ 1000000)
    (he : ∀ e ∈ pre, ∀ φ' J', Ext φ J φ' J' → EvD K φ' J' te ((wipeR ρ [k]).set k (some e)) (f e))
    (hr : ∀ φ' J', Ext φ J φ' J' → Rs K φ' J' te ((wipeR ρ [k]).set k (some d)) (XW E) c) : Rs K φ J (tLc wi (gName k) tYes te [k]) ρ (XW E) c := fun σ H A kx Q => by
  refine hi σ H A _ fun J0 ds H1 b1 A1 pd w => ?_
  subst pd
  intro D0 hD
  have neP : ∀ p s ns, Pooled φ J p s ns → p ≠ D0 := fun p s ns hp => by
    obtain ⟨a1, a2, a3, a4, h1, _⟩ := hp.ok _ A1.j
    exact ne_of_none h1 hD
  let φ' : Addr → Prop := fun a => φ a ∧ a ≠ D0
  have ext : ∀ acc : List V, Ext φ J φ' (fun H => J H ∧ H D0 = some (.lst acc)) := fun acc => ⟨fun _ h => h.1, fun p s ns hp => ⟨fun z => hp.np z.1, hp.ne, fun H h => hp.ok H h.1, fun H H' h k o => ⟨hp.st H H' h.1 k o, k _ _ (neP p s ns hp).symm h.2⟩⟩, fun a p h => ⟨p, fun e => h H1 A1.j (by rw [e]; exact hD)⟩⟩
  have mono : ∀ (acc : List V) (H2 : Hp), (∀ a, H1 a ≠ none → H2 a ≠ none) → H2 D0 ≠ none → Mo H2 (fun H => J H ∧ H D0 = some (.lst acc)) := fun acc H2 s h => (A1.mono.up s).and (Mo.at h)
  refine ⟨fun i m H2 => m = pre.length + 1 - i ∧ i ≤ pre.length ∧ But φ H1 H2 ∧ ∃ acc, Reps K φ' H2 ((pre.take i).map f) acc ∧ At K φ' (fun H => J H ∧ H D0 = some (.lst acc)) (wipeR ρ [k]) (L2.wipe σ [k]) H2,
    ⟨pre.length + 1, rfl, Nat.zero_le _, But.of (same_new hD), [], Reps.nil, ?_⟩, ?_⟩
  · have A2 := A1.newLive (o := .lst []) (J' := fun H => J H ∧ H D0 = some (.lst [])) hD ⟨A1.mono _ _ (fun a o _ e => same_new hD a o e) A1.j, upd_same⟩ (mono [] _ upd_tr (by rw [upd_same]; exact fun z => by cases z))
    exact ⟨A2.sr.wipe [k], A2.fr, A2.j, A2.mono⟩
  · rintro i m H2 ⟨rfl, hi, b2, acc, rs, A2⟩
    have upw : Up φ φ' H1 H2 := fun a o p e => ⟨⟨p, ne_of_none e hD⟩, b2.keep a o p e⟩
    obtain ⟨wg, _⟩ := w φ' i H2 upw A2.fr
    by_cases hlt : i < pre.length
    · have hd : (pre ++ d :: post)[i]? = some pre[i] := by rw [List.getElem?_append_left hlt]; exact List.getElem?_eq_getElem hlt
      obtain ⟨go, yl⟩ := wg _ hd
      refine .inr ⟨go, fun H3 => But φ H1 H3 ∧ ∃ acc, Reps K φ' H3 ((pre.take (i + 1)).map f) acc ∧ At K φ' (fun H => J H ∧ H D0 = some (.lst acc)) (wipeR ρ [k]) (L2.wipe σ [k]) H3, ?_, ?_⟩
      · rintro H3 ⟨b3, acc3, r3, A3⟩
        exact ⟨pre.length + 1 - (i + 1), by omega, rfl, hlt, b3, acc3, r3, A3⟩
      · intro x H3 hy
        obtain ⟨s3, r3⟩ := yl x H3 hy
        have A3 := A2.same s3
        have rs3 := rs.mono (But.of (φ := φ') s3)
        have b3 : But φ H1 H3 := b2.trans (But.of s3)
        have hmem : pre[i] ∈ pre := List.getElem_mem hlt
        have tk : (pre.take (i + 1)).map f = (pre.take i).map f ++ [f pre[i]] := by rw [List.take_add_one, List.getElem?_eq_getElem hlt, List.map_append]; rfl
        refine ⟨(wipe_set (o := some x) (show k ∈ [k] by simp)).trans (wipe_wipe [k]), ?_⟩
        show tYes _ _ _
        refine he _ hmem φ' _ (ext acc) _ H3 (A3.set k r3) _ fun v y H6 b6 A6 pv r6 => ?_
        subst pv
        have rl := rs3.mono b6
        have nD : ¬ φ' D0 := fun z => z.2 rfl
        refine ⟨acc, A6.j.2, ?_, ?_, acc ++ [v], ?_, ?_⟩
        · rw [rl.length, List.length_map, List.length_take]
          exact szlt (by omega)
        · refine ⟨fun a o p e => ?_, fun a h => upd_tr a (b6.tr a (b3.tr a h))⟩
          have ne := ne_of_none e hD
          rw [upd_ne ne]
          exact b6.keep a o ⟨p, ne⟩ (b3.keep a o p e)
        · rw [tk]
          exact (rl.append (Reps.cons r6 Reps.nil)).mono ((But.refl φ' H6).upd nD)
        · have A6' : At K φ' (fun H => J H ∧ H D0 = some (.lst acc)) (wipeR ρ [k]) (L2.wipe σ [k]) H6 := ⟨A3.sr.up (Up.of b6), A6.fr, A6.j, A6.mono⟩
          have jj : J (upd H6 D0 (.lst (acc ++ [v]))) := A1.mono H6 _ (fun a o h e => by
            rw [upd_ne (show a ≠ D0 from fun z => h (by rw [z]; exact hD))]
            exact e) A6.j.1
          exact A6'.upd nD ⟨jj, upd_same⟩ (mono _ _ (fun a h => upd_tr a (b6.tr a (b3.tr a h))) (by rw [upd_same]; exact fun z => by cases z))
    · have e : i = pre.length := by omega
      subst e
      have hd : (pre ++ d :: post)[pre.length]? = some d := by rw [List.getElem?_append_right (Nat.le_refl _), Nat.sub_self]; rfl
      obtain ⟨go, yl⟩ := wg _ hd
      refine .inr ⟨go, fun _ => False, fun _ z => z.elim, ?_⟩
      intro x H3 hy
      obtain ⟨s3, r3⟩ := yl x H3 hy
      have A3 := A2.same s3
      have b3 : But φ H1 H3 := b2.trans (But.of s3)
      refine ⟨(wipe_set (o := some x) (show k ∈ [k] by simp)).trans (wipe_wipe [k]), ?_⟩
      show tYes _ _ _
      refine hr φ' _ (ext acc) _ H3 (A3.set k r3) (fun H' b' A' => ?_) _
      have bb : But φ H1 H' := ⟨fun a o p e => b'.keep a o ⟨p, ne_of_none e hD⟩ (b3.keep a o p e), fun a h => b'.tr a (b3.tr a h)⟩
      exact kx H' (b1.trans bb) ⟨A1.sr.up (Up.of bb), A'.fr.fst, A'.j.1, A1.mono.up bb.tr⟩
end

-- import HandS.Text
-- import HandS.Steps
-- import HandS.StrMore
-- import HandS.FStr
-- import HandS.Style
-- import HandS.TupLe
/-! ### texts -/
open TL
def rSplit : V → List V → Hp → VK → Prop := fun x xs H Q => ∃ a b, x = .str a ∧ xs = [.str b] ∧ (b.length == 0) = false ∧ a.length + 2 ≤ sizeLine ∧ rNewStrs (Txt.split a b) H Q
theorem mu_split {X : Cx} : MtR X "str.split" rSplit := mt_split
def rJoin (K : PySem.W.Frag) : V → List V → Hp → VK → Prop := fun x xs H Q => ∃ a p, ∃ ys : List Str, x = .str a ∧ xs = [.ref p] ∧ (SqL K H p (ys.map V.str) ∨ SqT K H p (ys.map V.str)) ∧ (ys.map (·.length)).sum + ys.length * a.length ≤ 16777216 ∧ Q (.str (Txt.join a ys)) H
theorem mu_join {X : Cx} : MtR X "str.join" (rJoin X.K) := mt_join
theorem kmu_join {X : Cx} {K : PySem.W.Frag} (h : X.K = K) : MtR X "str.join" (rJoin K) := h ▸ mt_join
def rStarts : V → List V → Hp → VK → Prop := fun x xs H Q => ∃ a b, x = .str a ∧ xs = [.str b] ∧ Q (.bl (Txt.startswith a b)) H
theorem mu_startswith {X : Cx} : MtR X "str.startswith" rStarts := mt_startswith
def rRemP : V → List V → Hp → VK → Prop := fun x xs H Q => ∃ a b, x = .str a ∧ xs = [.str b] ∧ a.length ≤ sizeLine ∧ Q (.str (Txt.removeprefix a b)) H
theorem mu_removeprefix {X : Cx} : MtR X "str.removeprefix" rRemP := mt_removeprefix
def rIntS : List V → Hp → VK → Prop := fun xs H Q => ∃ a n, xs = [.str a] ∧ PySem.intText? a = some n ∧ a.length ≤ 640 ∧ Q (.int n) H
theorem c_intS {X : Cx} : CallR X (.type "int") rIntS := call_int_str
theorem op_addS {X : Cx} : OpR X (binaryOp .Add) rAddS := op_add_str
section
variable {K : PySem.W.Frag} {φ φ' : Addr → Prop} {J J' : Hp → Prop} {H H' H1 : Hp} {ρ ρ' : List (Option D)} {σ : L2.St} {te ta tb to : TE} {s t : Str} {i : Int}
theorem reps_strs : ∀ ys : List Str, Reps K φ H (ys.map D.str) (ys.map V.str)
  | [] => Reps.nil
  | _ :: ys => Reps.cons rfl (reps_strs ys)
theorem ev_split (ha : EvD K φ J to ρ (.str s)) (hb : EvD K φ J te ρ (.str t)) (ht : (t.length == 0) = false) (hz : s.length ≤ 1000000) : EvN K φ J (tM1 rSplit to te) ρ (fun x => x = (Txt.split s t).map D.str) := fun σ H A Q q =>
  ha σ H A _ fun v x H1 b1 A1 e1 r1 => by
    subst e1
    cases (show v = _ from r1)
    refine ⟨⟨s, rfl⟩, hb σ H1 A1 _ fun w y H2 b2 A2 e2 r2 => ?_⟩
    subst e2
    cases (show w = _ from r2)
    refine ⟨s, t, rfl, rfl, ht, Nat.le_trans (Nat.add_le_add_right hz 2) (by decide), fun p hp => ?_⟩
    refine q p _ _ H2 _ (b1.trans b2) A2 hp (But.of (same_new hp)) (A2.same (same_new hp)) rfl upd_same ?_
    exact reps_strs _
theorem ev_splitD (ha : EvD K φ J to ρ (.str s)) (hb : EvD K φ J te ρ (.str t)) (ht : (t.length == 0) = false) (hz : s.length ≤ 1000000) : EvD K φ J (tM1 rSplit to te) ρ (.lst ((Txt.split s t).map D.str)) := ev_newD (ev_split ha hb ht hz)
theorem ev_join {ys : List Str} (ha : EvD K φ J to ρ (.str s)) (hb : EvD K φ J te ρ (.lst (ys.map D.str))) (hz : (ys.map (·.length)).sum + ys.length * s.length ≤ 16777216) : EvD K φ J (tM1 (rJoin K) to te) ρ (.str (Txt.join s ys)) := fun σ H A Q q =>
  ha σ H A _ fun v x H1 b1 A1 e1 r1 => by
    subst e1
    cases (show v = _ from r1)
    refine ⟨⟨s, rfl⟩, hb σ H1 A1 _ fun w y H2 b2 A2 e2 r2 => ?_⟩
    subst e2
    obtain ⟨a, vs, rfl, pa, ra⟩ := rep_lst r2
    cases Reps.strs ra
    exact ⟨s, a, ys, rfl, rfl, .inl pa.sq, hz, q _ _ H2 (b1.trans b2) A2 rfl rfl⟩
theorem ev_startswith (ha : EvD K φ J to ρ (.str s)) (hb : EvD K φ J te ρ (.str t)) : EvD K φ J (tM1 rStarts to te) ρ (.bl (Txt.startswith s t)) := fun σ H A Q q =>
  ha σ H A _ fun v x H1 b1 A1 e1 r1 => by
    subst e1
    cases (show v = _ from r1)
    refine ⟨⟨s, rfl⟩, hb σ H1 A1 _ fun w y H2 b2 A2 e2 r2 => ?_⟩
    subst e2
    cases (show w = _ from r2)
    exact ⟨s, t, rfl, rfl, q _ _ H2 (b1.trans b2) A2 rfl rfl⟩
theorem ev_removeprefix (ha : EvD K φ J to ρ (.str s)) (hb : EvD K φ J te ρ (.str t)) (hz : s.length ≤ 1000000) : EvD K φ J (tM1 rRemP to te) ρ (.str (Txt.removeprefix s t)) := fun σ H A Q q =>
  ha σ H A _ fun v x H1 b1 A1 e1 r1 => by
    subst e1
    cases (show v = _ from r1)
    refine ⟨⟨s, rfl⟩, hb σ H1 A1 _ fun w y H2 b2 A2 e2 r2 => ?_⟩
    subst e2
    cases (show w = _ from r2)
    exact ⟨s, t, rfl, rfl, sz hz, q _ _ H2 (b1.trans b2) A2 rfl rfl⟩
theorem ev_intS {n : Int} (ha : EvD K φ J te ρ (.str s)) (hn : PySem.intText? s = some n) (hz : s.length ≤ 640) : EvD K φ J (tCB rIntS (tCons te tNil)) ρ (.int n) := ev_cbD (ea_cons ha ea_nil) fun H vs f r Q q => by
  obtain ⟨v, rfl, r1⟩ := r.one
  cases (show v = _ from r1)
  exact ⟨s, n, rfl, hn, hz, q _ _ H (Same.refl H) rfl rfl⟩
theorem ev_addS (ha : EvD K φ J ta ρ (.str s)) (hb : EvD K φ J tb ρ (.str t)) (hz : s.length + t.length ≤ 1000000) : EvD K φ J (tOp rAddS ta tb) ρ (.str (s ++ t)) := ev_opD ha hb fun H v w f r1 r2 Q q => by
  cases (show v = _ from r1)
  cases (show w = _ from r2)
  exact ⟨s, t, rfl, rfl, sz hz, q _ _ H (Same.refl H) rfl rfl⟩
theorem ev_inS {c : Nat} (ha : EvD K φ J ta ρ (.str ⟨#[c]⟩)) (hb : EvD K φ J tb ρ (.str t)) : EvD K φ J (tOp rInS ta tb) ρ (.bl (decide (c ∈ tl t))) := ev_opD ha hb fun H v w f r1 r2 Q q => by
  cases (show v = _ from r1)
  cases (show w = _ from r2)
  exact ⟨c, t, rfl, rfl, q _ _ H (Same.refl H) rfl rfl⟩
theorem ev_notInS {c : Nat} (ha : EvD K φ J ta ρ (.str ⟨#[c]⟩)) (hb : EvD K φ J tb ρ (.str t)) : EvD K φ J (tOp rNotInS ta tb) ρ (.bl (!decide (c ∈ tl t))) := ev_opD ha hb fun H v w f r1 r2 Q q => by
  cases (show v = _ from r1)
  cases (show w = _ from r2)
  exact ⟨c, t, rfl, rfl, q _ _ H (Same.refl H) rfl rfl⟩
theorem ev_ixStr {c : Nat} (ha : EvD K φ J ta ρ (.str s)) (hb : EvD K φ J tb ρ (.int i)) (hz : s.length ≤ 1000000) (h : L2.atI (tl s) i = some c) : EvD K φ J (tOp rIxS ta tb) ρ (.str ⟨#[c]⟩) := ev_opD ha hb fun H v w f r1 r2 Q q => by
  cases (show v = _ from r1)
  cases (show w = _ from r2)
  exact ⟨s, i, c, rfl, rfl, sz hz, h, q _ _ H (Same.refl H) rfl rfl⟩
theorem ev_slS {tl th : TO} {lo hi : Option Int} (ha : EvD K φ J te ρ (.str s)) (hl : EvO K φ J tl ρ lo) (hh : EvO K φ J th ρ hi) (hz : s.length ≤ 1000000) : EvD K φ J (tSl rSlS te tl th) ρ (.str (cutS s lo hi)) := fun σ H A Q q =>
  ha σ H A _ fun v x H1 b1 A1 e1 r1 => hl σ H1 A1 _ fun H2 b2 A2 => hh σ H2 A2 _ fun H3 b3 A3 => by
    subst e1
    cases (show v = _ from r1)
    exact ⟨s, rfl, sz hz, q _ _ H3 ((b1.trans b2).trans b3) A3 rfl rfl⟩
/-- the texts of an f-string -/
inductive EvJ (K : PySem.W.Frag) (φ : Addr → Prop) (J : Hp → Prop) (ρ : List (Option D)) : List TE → List Str → Prop where
  | nil : EvJ K φ J ρ [] []
  | cons {te : TE} {ts : List TE} {s : Str} {ss : List Str} (h : EvD K φ J te ρ (.str s)) (r : EvJ K φ J ρ ts ss) : EvJ K φ J ρ (te :: ts) (s :: ss)
theorem evj_run {ts : List TE} {ss : List Str} (h : EvJ K φ J ρ ts ss) : ∀ (acc : Str) (σ : L2.St) (H : Hp), At K φ J ρ σ H → acc.length + (ss.map (·.length)).sum ≤ 1000000 → ∀ Q : Str → Hp → Prop, (∀ H', But φ H H' → At K φ J ρ σ H' → Q (ss.foldl (· ++ ·) acc) H') → tJs ts acc σ H Q := by
  induction h with
  | nil => exact fun acc σ H A _ Q q => q H (But.refl _ _) A
  | @cons te ts s ss h r ih =>
    intro acc σ H A hz Q q
    rw [List.map_cons, List.sum_cons] at hz
    refine h σ H A _ fun v d H1 b1 A1 e r1 => ?_
    subst e
    cases (show v = _ from r1)
    have hl : (acc ++ s).length = acc.length + s.length := by simp only [len_tl, tl_append, List.length_append]
    exact ⟨s, rfl, sz (by rw [hl]; omega), ih (acc ++ s) σ H1 A1 (by rw [hl]; omega) Q fun H' b A' => q H' (b1.trans b) A'⟩
theorem ev_fstr {ts : List TE} {ss : List Str} (h : EvJ K φ J ρ ts ss) (hz : (ss.map (·.length)).sum ≤ 1000000) : EvD K φ J (fun σ H Q => tJs ts Str.empty σ H fun out H1 => Q (.str out) H1) ρ (.str (ss.foldl (· ++ ·) Str.empty)) := fun σ H A Q q =>
  evj_run h Str.empty σ H A (by show 0 + _ ≤ _; omega) _ fun H' b A' => q _ _ H' b A' rfl rfl
theorem ev_fmtI (h : EvD K φ J te ρ (.int i)) (hz : i.natAbs.log2 < 1920) : EvD K φ J (tFmt te) ρ (.str (toString i)) := fun σ H A Q q =>
  h σ H A _ fun v d H1 b1 A1 e r1 => by
    subst e
    exact .inr ⟨i, r1, hz, q _ _ H1 b1 A1 rfl rfl⟩
theorem ev_fmtS (h : EvD K φ J te ρ (.str s)) (hz : s.length ≤ 1000000) : EvD K φ J (tFmt te) ρ (.str s) := fun σ H A Q q =>
  h σ H A _ fun v d H1 b1 A1 e r1 => by
    subst e
    exact .inl ⟨s, r1, sz hz, q _ _ H1 b1 A1 rfl rfl⟩
end
/-! ### xs.pop() as a part of a reading -/
section
variable {K : PySem.W.Frag} {φ φ' : Addr → Prop} {J J' : Hp → Prop} {H H' H1 : Hp} {ρ ρ' : List (Option D)} {σ : L2.St} {te ta tb to : TE} {s : Str} {D0 : Ends} {t u : TS} {l : Addr} {ds : List D} {d : D}
theorem pop_run {k : Nat} (A : At K φ J ρ σ H) (L : LivS K φ J l HO.lst (ds ++ [d])) (hk : ρ[k]? = some (some (.raw (.ref l)))) {Q : VK}
    (kk : ∀ v J' H', Wr K φ J J' l → LivS K φ J' l HO.lst ds → At K φ J' ρ σ H' → Rep K φ H' d v → Q v H') : tBM0 K "list" rPop (tVar k) σ H Q := by
  obtain ⟨vs, H0, r, m, k0⟩ := L.ex
  obtain ⟨w, e, rw'⟩ := A.sr.2 k _ hk
  cases (show w = _ from rw')
  have r1 := r.mono (k0 _ A.j).2
  have hl : vs.length = ds.length + 1 := by rw [r1.length, List.length_append]; rfl
  obtain ⟨v, hv, rv⟩ := r1.get (i := ds.length) (d := d) (by rw [List.getElem?_append_right (Nat.le_refl _), Nat.sub_self]; rfl)
  have e2 : (ds ++ [d]).eraseIdx ds.length = ds := by rw [List.eraseIdx_append_of_length_le (Nat.le_refl _), Nat.sub_self]; exact List.append_nil ds
  have e3 : vs.eraseIdx ds.length = vs.dropLast := by rw [← show vs.length - 1 = ds.length by omega]; exact List.eraseIdx_length_sub_one
  refine ⟨_, e, .inl ⟨rfl, _, SqL.of (k0 _ A.j).1⟩, l, vs, v, rfl, rfl, (k0 _ A.j).1, by rw [hl]; exact hv, ?_⟩
  have r2 := reps_erase ds.length r1
  rw [e2, e3] at r2
  obtain ⟨A2, L2', W⟩ := L.write (C' := HO.lst) (vs' := vs.dropLast) A r2
  exact kk v _ _ W L2' A2 (rv.mono ((But.refl φ H).upd L.np))
/-- if xs.pop() != "..": -/
theorem st_popNe {k : Nat} (A : At K φ J ρ σ H) (L : LivS K φ J l HO.lst (ds ++ [.str s])) (hk : ρ[k]? = some (some (.raw (.ref l))))
    (kk : ∀ J' H', Wr K φ J J' l → LivS K φ J' l HO.lst ds → At K φ J' ρ σ H' → tIfS (tTest (tOp rNe (tC (.str s)) tb)) t u D0 σ H') : tIfS (tTest (tOp rNe (tBM0 K "list" rPop (tVar k)) tb)) t u D0 σ H :=
  pop_run A L hk fun v J' H' W L' A' r => by
    cases (show v = _ from r)
    exact kk J' H' W L' A'
/-- if xs.pop() != ".." or ..: -/
theorem st_popOr {k : Nat} {rest : TT} (A : At K φ J ρ σ H) (L : LivS K φ J l HO.lst (ds ++ [.str s])) (hk : ρ[k]? = some (some (.raw (.ref l))))
    (kk : ∀ J' H', Wr K φ J J' l → LivS K φ J' l HO.lst ds → At K φ J' ρ σ H' → tIfS (tOr (tTest (tOp rNe (tC (.str s)) tb)) rest) t u D0 σ H') : tIfS (tOr (tTest (tOp rNe (tBM0 K "list" rPop (tVar k)) tb)) rest) t u D0 σ H :=
  pop_run A L hk fun v J' H' W L' A' r => by
    cases (show v = _ from r)
    exact kk J' H' W L' A'
end
/-! ### xs[::-1], t <= u -/
section
variable {K : PySem.W.Frag} {φ : Addr → Prop} {J : Hp → Prop} {ρ : List (Option D)} {ta tb te : TE} {ds : List D} {ns ms : List Int}
theorem reps_rev {H : Hp} : ∀ {ds : List D} {vs : List V}, Reps K φ H ds vs → Reps K φ H ds.reverse vs.reverse
  | [], vs, h => by
    cases (show vs = [] from h)
    exact Reps.nil
  | x :: ds, vs, h => by
    obtain ⟨u, r', rfl, g1, g2⟩ := (show ∃ v r, vs = v :: r ∧ Rep K φ H x v ∧ Reps K φ H ds r from h)
    rw [List.reverse_cons, List.reverse_cons]
    exact (reps_rev g2).append (Reps.cons g1 Reps.nil)
theorem en_revL (ha : EvD K φ J te ρ (.lst ds)) : EvN K φ J (tRevL K te) ρ (fun x => x = ds.reverse) := fun σ H A Q q =>
  ha σ H A _ fun v x H1 b1 A1 e1 r1 => by
    subst e1
    obtain ⟨a, vs, rfl, pa, ra⟩ := rep_lst r1
    exact ⟨a, vs, rfl, pa.sq, fun p hp => q p _ _ H1 _ b1 A1 hp (But.of (same_new hp)) (A1.same (same_new hp)) rfl upd_same (reps_new hp (reps_rev ra))⟩
theorem ev_revL (ha : EvD K φ J te ρ (.lst ds)) : EvD K φ J (tRevL K te) ρ (.lst ds.reverse) := ev_newD (en_revL ha)
theorem ev_leT (ha : EvD K φ J ta ρ (.tup (ns.map D.int))) (hb : EvD K φ J tb ρ (.tup (ms.map D.int))) : EvD K φ J (tOp (rLeT K) ta tb) ρ (.bl (Ob.lexAt (fun j => decide (ns.getD j 0 = ms.getD j 0)) (fun j => decide (ns.getD j 0 ≤ ms.getD j 0)) (decide (ns.length ≤ ms.length)) 0 (min ns.length ms.length))) := ev_opD ha hb fun H v w _ r1 r2 Q q => by
  obtain ⟨a, rfl, h1⟩ := rep_tupI r1
  obtain ⟨b, rfl, h2⟩ := rep_tupI r2
  exact ⟨a, b, ns, ms, rfl, rfl, h1, h2, q _ _ H (Same.refl H) rfl rfl⟩
theorem lexAtLe2 (a b c d : Int) : Ob.lexAt (fun j => decide (([a, b] : List Int).getD j 0 = ([c, d] : List Int).getD j 0)) (fun j => decide (([a, b] : List Int).getD j 0 ≤ ([c, d] : List Int).getD j 0)) (decide (([a, b] : List Int).length ≤ ([c, d] : List Int).length)) 0 (min ([a, b] : List Int).length ([c, d] : List Int).length) = !SrtO.lexB (c, d) (a, b) := by
  have e : min ([a, b] : List Int).length ([c, d] : List Int).length = 2 := rfl
  rw [e, Ob.lexAt_succ]
  show (if decide (a = c) = true then _ else decide (a ≤ c)) = _
  by_cases h1 : a = c
  · rw [if_pos (decide_eq_true h1), Ob.lexAt_succ]
    show (if decide (b = d) = true then _ else decide (b ≤ d)) = _
    by_cases h2 : b = d
    · rw [if_pos (decide_eq_true h2), Ob.lexAt_zero]
      unfold SrtO.lexB
      rw [if_pos (show (c, d).1 = (a, b).1 from h1.symm), decide_eq_false (show ¬ d < b by omega)]
      rfl
    · rw [if_neg (by simp [h2])]
      unfold SrtO.lexB
      rw [if_pos (show (c, d).1 = (a, b).1 from h1.symm)]
      show decide (b ≤ d) = !decide (d < b)
      by_cases h3 : d < b
      · rw [decide_eq_true h3, decide_eq_false (by omega)]; rfl
      · rw [decide_eq_false h3, decide_eq_true (by omega)]; rfl
  · rw [if_neg (by simp [h1])]
    unfold SrtO.lexB
    rw [if_neg (show ¬ (c, d).1 = (a, b).1 from fun z => h1 z.symm)]
    show decide (a ≤ c) = !decide (c < a)
    by_cases h3 : c < a
    · rw [decide_eq_true h3, decide_eq_false (by omega)]; rfl
    · rw [decide_eq_false h3, decide_eq_true (by omega)]; rfl
theorem ev_leP2 {p q : Int × Int} (ha : EvD K φ J ta ρ (prDD p)) (hb : EvD K φ J tb ρ (prDD q)) : EvD K φ J (tOp (rLeT K) ta tb) ρ (.bl (!SrtO.lexB q p)) := by
  rw [show (!SrtO.lexB q p) = _ from (lexAtLe2 p.1 p.2 q.1 q.2).symm]
  exact ev_leT (ns := [p.1, p.2]) (ms := [q.1, q.2]) ha hb
/-- a comprehension by three names -/
theorem en_lcT3 {wi : TI} {k1 k2 k3 : Nat} {f : D → D} (hi : IterD K φ J wi ρ ds) (hl : ds.length ≤ 1000000) (hd : ∀ d ∈ ds, ∃ a b c, d = .tup [a, b, c])
    (he : ∀ a b c, .tup [a, b, c] ∈ ds → ∀ φ' J', Ext φ J φ' J' → EvD K φ' J' te ((((wipeR ρ [k1, k2, k3]).set k1 (some a)).set k2 (some b)).set k3 (some c)) (f (.tup [a, b, c]))) :
    EvN K φ J (tLc wi (gTup K 3 (gCons (gName k1) (gCons (gName k2) (gCons (gName k3) gNil)))) tYes te [k1, k2, k3]) ρ (fun x => x = ds.map f) := fun σ H A Q q =>
  (en_lcP (ρd := fun d => match d with | .tup [a, b, c] => (((wipeR ρ [k1, k2, k3]).set k1 (some a)).set k2 (some b)).set k3 (some c) | _ => ρ) (us := [k1, k2, k3]) (pt := fun _ b => b = true) (pe := fun d y => y = f d) hi (fun ds' e => by rw [e]; exact hl) (fun _ h => h) (fun ds' e d hm => by
      subst e
      obtain ⟨a, b, c, rfl⟩ := hd d hm
      exact eg_tup (ds := [a, b, c]) (egs_cons eg_name (egs_cons eg_name (egs_cons eg_name egs_nil))))
    (fun ds' e d hm φ' J' x => by
      subst e
      obtain ⟨a, b, c, rfl⟩ := hd d hm
      exact et_yes) (fun ds' e d hm pd φ' J' x => by
      subst e
      obtain ⟨a, b, c, rfl⟩ := hd d hm
      exact he a b c hm φ' J' x)) σ H A Q fun p vs ys H0 H' b0 A0 hp b A' pd e r => by
      obtain ⟨ds', e1, c⟩ := pd
      subst e1
      exact q p vs ys H0 H' b0 A0 hp b A' c.map e r
end

-- import PyProof.StrOps2
-- import HandS.Style
-- import KE.KRevSl
/-! ### text * int, t[::-1] of a tuple -/
def mulS (a : Str) (n : Nat) : Str := ⟨(List.replicate n a.cps).foldl (· ++ ·) #[]⟩
def rMulS : R2 := fun x y H Q => ∃ (a : Str) (n : Int), x = .str a ∧ y = .int n ∧ 2 ≤ n ∧ n ≤ 1000 ∧ 1 ≤ a.length ∧ a.length ≤ 1000 ∧ Q (.str (mulS a n.toNat)) H
theorem foldl_app_size {α : Type} (xs : Array α) : ∀ (n : Nat) (acc : Array α), ((List.replicate n xs).foldl (· ++ ·) acc).size = acc.size + n * xs.size
  | 0, acc => by simp
  | n + 1, acc => by
    rw [List.replicate_succ, List.foldl_cons, foldl_app_size xs n, Array.size_append, Nat.succ_mul]
    omega
theorem mulS_length (a : Str) (n : Nat) : (mulS a n).length = n * a.length := by
  show ((List.replicate n a.cps).foldl (· ++ ·) #[]).size = n * a.cps.size
  rw [foldl_app_size]
  simp
theorem foldl_app_list {α : Type} (xs : Array α) : ∀ (n : Nat) (acc : Array α), ((List.replicate n xs).foldl (· ++ ·) acc).toList = acc.toList ++ (List.replicate n xs.toList).flatten
  | 0, acc => by simp
  | n + 1, acc => by
    rw [List.replicate_succ, List.foldl_cons, foldl_app_list xs n, Array.toList_append, List.replicate_succ, List.flatten_cons, List.append_assoc]
theorem tl_mulS (a : Str) (n : Nat) : TL.tl (mulS a n) = (List.replicate n (TL.tl a)).flatten := by
  show ((List.replicate n a.cps).foldl (· ++ ·) #[]).toList = _
  rw [foldl_app_list]
  rfl
theorem op_mulS {X : Cx} : OpR X (binaryOp .Mult) rMulS := by
  intro pins s σ H x y v u Q I rx ry h
  obtain ⟨a, n, rfl, rfl, h1, h2, h3, h4, q⟩ := h
  obtain ⟨t, rfl⟩ := rx
  obtain ⟨t', rfl⟩ := ry
  have hl : a.length * n.toNat ≤ 1000000 := by
    have : n.toNat ≤ 1000 := by omega
    exact Nat.mul_le_mul h4 this
  have e1 : ¬ n < 1 := by omega
  have e2 : ¬ (n == 1 || a.length == 0) = true := by
    rw [Bool.or_eq_true, beq_iff_eq, beq_iff_eq]
    omega
  refine PySem.P.mul_str (by rw [decide_eq_false (show ¬ n < -(2 ^ 63 : Int) by omega), decide_eq_false (show ¬ n ≥ 2 ^ 63 by omega)]; rfl) (fun _ _ => ?_) (fun _ _ => ?_) ?_
  · have : (2 ^ 63 - 1) / n ≥ 1000 := by
      refine (Int.le_ediv_iff_mul_le (by omega)).mpr ?_
      omega
    omega
  · have hs : a.length * n.toNat ≤ sizeLine := sz hl
    show decide (a.length * n.toNat > sizeLine) = false
    exact decide_eq_false (Nat.not_lt.mpr hs)
  · rw [if_neg e1, if_neg e2]
    refine ⟨?_, .str (mulS a n.toNat), H, I.tok _, ⟨_, rfl⟩, q⟩
    show ((List.replicate n.toNat a.cps).foldl (· ++ ·) #[]).size ≤ _
    have := mulS_length a n.toNat
    unfold mulS at this
    exact Nat.le_trans (Nat.le_of_eq this) (by rw [Nat.mul_comm]; exact sz hl)
section
variable {K : PySem.W.Frag} {φ : Addr → Prop} {J : Hp → Prop} {ρ : List (Option D)} {ta tb : TE} {s : Str} {i : Int}
theorem ev_mulS (ha : EvD K φ J ta ρ (.str s)) (hb : EvD K φ J tb ρ (.int i)) (h1 : 2 ≤ i) (h2 : i ≤ 1000) (h3 : 1 ≤ s.length) (h4 : s.length ≤ 1000) : EvD K φ J (tOp rMulS ta tb) ρ (.str (mulS s i.toNat)) := ev_opD ha hb fun H v w f r1 r2 Q q => by
  cases (show v = _ from r1)
  cases (show w = _ from r2)
  exact ⟨s, i, rfl, rfl, h1, h2, h3, h4, q _ _ H (Same.refl H) rfl rfl⟩
end
/-! ### t[::-1] -/
section
open HT PyProof.Rows PySem.SeqAt PySem.MeetsSeq PySem.MeetsSeq2 PySem.MeetsSeq3
open PySem.AutoSeq1 (wpAny_loadPart')
variable {prog : Program} {w : World} {A : Around} {E : Value → Shared → Prop} {s : Shared}
theorem sliceApplied_rev {sl : Addr} {vl vu vs : Value} {n : Nat} {Q : Int × Int × Nat → Shared → Prop} (hs : s.heap.IsSliceOf sl vl vu vs) (pl : IsPart vl none) (pu : IsPart vu none) (ps : IsPart vs (some (-1)))
    (h : Q ((n : Int) - 1, -1, n) s) : wpAny (model prog w) A (Builtin.Slice.sliceApplied (.ref sl) (pure (n : Int))) Q E s := by
  obtain ⟨os, hos, hcs, hds⟩ := id hs
  unfold Builtin.Slice.sliceApplied Builtin.Slice.sliceFields
  refine wpAny_bind (wpAny_bind (wpAny_field hos hds (x := vl) rfl (wpAny_bind (wpAny_field hos hds (x := vu) rfl (wpAny_bind (wpAny_field hos hds (x := vs) rfl (wpAny_pure ?_)))))))
  refine wpAny_bind (HT.slicePart_ ps ?_)
  show wpAny _ _ (if ((-1 : Int) == 0) = true then _ else _) _ _ s
  rw [if_neg (by decide)]
  refine wpAny_bind (HT.slicePart_ pl (wpAny_bind (HT.slicePart_ pu (wpAny_bind (wpAny_pure ?_)))))
  have e : Builtin.Slice.slicePlaces ((n : Int) - 1) (-1) (-1) = n := by
    unfold Builtin.Slice.slicePlaces
    rw [if_neg (by decide)]
    by_cases h0 : n = 0
    · subst h0
      rfl
    · rw [if_pos (by omega), show (- -1 : Int) = 1 by decide, Int.ediv_one]
      omega
  show wpAny _ _ (pure ((n : Int) - 1, (-1 : Int), Builtin.Slice.slicePlaces ((n : Int) - 1) (-1) (-1))) _ _ s
  rw [e]
  exact wpAny_pure h
theorem filterMap_same {α β : Type} {f g : α → Option β} : ∀ {l : List α}, (∀ m ∈ l, f m = g m) → l.filterMap f = l.filterMap g
  | [], _ => rfl
  | a :: l, h => by
    rw [List.filterMap_cons, List.filterMap_cons, h a List.mem_cons_self, filterMap_same fun m hm => h m (List.mem_cons_of_mem _ hm)]
theorem pick_rev (xs : Array Value) : ((List.range xs.size).filterMap fun (m : Nat) => xs[((xs.size : Int) - 1 + (m : Int) * -1).toNat]?).toArray = xs.toList.reverse.toArray := by
  have h1 : (List.range xs.size).filterMap (fun (m : Nat) => xs[((xs.size : Int) - 1 + (m : Int) * -1).toNat]?) = ((List.range xs.size).map (fun k => xs.size - 1 - k)).filterMap (xs[·]?) := by
    rw [List.filterMap_map]
    refine filterMap_same fun m hm => ?_
    have := List.mem_range.mp hm
    show _ = xs[xs.size - 1 - m]?
    rw [show ((xs.size : Int) - 1 + (m : Int) * -1).toNat = xs.size - 1 - m by omega]
  rw [h1, PySem.W.krv_range, List.filterMap_reverse, PySem.W.krv_all]
theorem getItem_tuple_rev {t sl : Addr} {items : Array Value} {vl vu vs : Value} {Q : Value → Shared → Prop} (ht : IsTup s.heap t items) (hs : s.heap.IsSliceOf sl vl vu vs) (pl : IsPart vl none) (pu : IsPart vu none) (ps : IsPart vs (some (-1)))
    (h : Q (.ref s.heap.objs.size) { s with heap := s.heap.push { cls := .type "tuple", data := .seq items.toList.reverse.toArray } })
    (hsz : items.size ≤ sizeLine) : wpAny (model prog w) A (getItem (.ref t) (.ref sl)) Q E s := by
  have htake : sizeOk (.seq items.toList.reverse.toArray) := by
    show items.toList.reverse.toArray.size ≤ sizeLine
    rw [List.size_toArray, List.length_reverse, Array.length_toList]
    exact hsz
  obtain ⟨os, hos, hcs, hds⟩ := id hs
  have hTs : s.TypeIs (.ref sl) "slice" := ⟨os, hos, hcs⟩
  unfold getItem
  try with_reducible refine wpAny_holding ?_
  first | refine wpAny_bind (wpAny_pure ?_) | skip
  refine wpAny_bind (wpAny_sequenceKey ht.typeIs (by decide) ?_)
  refine wpAny_bind (wpAny_callSpecial?_slot (name := Str.ofString "__getitem__") ht.typeIs PyProof.Rows.slot_tuple_getitem
    (wpAny_call_entry PyProof.Rows.slot_tuple_getitem ht.typeIs entry_tuple_getitem ?_ (args_tuple_getitem _ _)))
  show wpAny _ _ (Builtin.Tuple.tupleItemsOf (.ref t) >>= _) _ _ s
  refine wpAny_bind (tupleItemsOf_ ht ?_)
  refine wpAny_bind (wpAny_typeOf hTs ?_)
  rw [if_pos (by decide)]
  refine wpAny_bind (sliceApplied_rev hs pl pu ps ?_)
  have hno : ¬ ((((items.size : Int) - 1) == 0 && (-1 : Int) == 1 && items.size == items.size) = true) := by
    intro q
    rw [Bool.and_eq_true, Bool.and_eq_true] at q
    exact absurd q.1.2 (by decide)
  show wpAny _ _ (if (((items.size : Int) - 1) == 0 && (-1 : Int) == 1 && items.size == items.size) = true then _ else _) _ _ s
  rw [if_neg hno, pick_rev]
  first
    | exact wpAny_bind (m := Builtin.Tuple.tupleExact _) (wpAny_newObj_type (wpAny_pure ⟨_, rfl, wpAny_pure h⟩) htake)
    | exact wpAny_bind (m := Builtin.Tuple.tupleExact _) (wpAny_newObj_type (wpAny_bind (wpAny_pure (wpAny_pure ⟨_, rfl, wpAny_pure h⟩))) htake)
    | exact wpAny_bind (wpAny_bind (m := Builtin.Tuple.tupleExact _) (wpAny_newObj_type (wpAny_pure (wpAny_pure ⟨_, rfl, wpAny_pure h⟩)) htake))
    | exact wpAny_bind (wpAny_bind (m := Builtin.Tuple.tupleExact _) (wpAny_newObj_type (wpAny_pure ⟨_, rfl, wpAny_pure h⟩) htake))
end
def tRevT (K : PySem.W.Frag) (te : TE) : TE := fun σ H Q => te σ H fun x H1 => ∃ a xs, x = .ref a ∧ SqT K H1 a xs ∧ ∀ p, H1 p = none → Q (.ref p) (upd H1 p (.tup xs.reverse))
theorem pe_revT {X : Cx} {te : TE} {e : Expr} {k : Nat} {p1 p2 p3 pos : Pos} (he : PE X e te) : PE X (.Subscript e (.Slice none none (some (.UnaryOp .USub (.Constant (.int 1) k p1) p2)) p3) pos) (tRevT X.K te) := by
  refine ⟨fun pins s σ H Q I h => ?_⟩
  refine Subscript_ (thn (he.run pins s σ H _ I h) fun v s1 ⟨x, H1, I1, r1, q1⟩ => ?_)
  obtain ⟨a, xs, ex, hx, q⟩ := q1
  subst ex
  cases r1
  have hst : PO X (some (.UnaryOp .USub (.Constant (.int 1) k p1) p2)) (tPart (tUn (rU fun i => .int (-i)) (tC (.int 1)))) := po_some (pe_un un_neg pe_int)
  refine wpAny_Slice (thn (po_none.run pins s1 σ H1 (fun o H2 => o = none ∧ H2 = H1) I1 ⟨rfl, rfl⟩) fun vl s2 ⟨l, H2, I2, pl, el, e2⟩ => ?_)
  subst el e2
  refine thn (po_none.run pins s2 σ H2 (fun o H3 => o = none ∧ H3 = H2) I2 ⟨rfl, rfl⟩) fun vu s3 ⟨u, H3, I3, pu, eu, e3⟩ => ?_
  subst eu e3
  refine thn (hst.run pins s3 σ H3 (fun o H4 => o = some (-1) ∧ H4 = H3) I3 ⟨1, rfl, -1, rfl, rfl, rfl⟩) fun vs s4 ⟨o, H4, I4, ps, eo, e4⟩ => ?_
  subst eo e4
  have I5 : Inv X pins σ H4 { s4 with heap := s4.heap.push { cls := .type "slice", data := .fields #[vl, vu, vs] } } := I4.kept (t' := s4.toks) fun b ob q => Heap.get?_push_of_some _ q
  obtain ⟨its, r, ht, hz⟩ := I5.tuple hx
  have hlen := r.length
  show wpAny (model X.prog X.w) X.A (subscriptTail e (.Slice none none (some (.UnaryOp .USub (.Constant (.int 1) k p1) p2)) p3) (.ref a) (.ref s4.heap.objs.size)) (EP X pins σ Q) X.xe { s4 with heap := s4.heap.push { cls := .type "slice", data := .fields #[vl, vu, vs] } }
  refine PyProof.Rows.tail_any (ops := [.ref a, .ref s4.heap.objs.size]) ht.typeIs (PyProof.Rows.slot_tuple_getitem.lookup) ?_ (by with_unfolding_all rfl)
  refine getItem_tuple_rev ht (Heap.IsSliceOf.new _ vl vu vs) pl pu ps ?_ (by rw [List.size_toArray]; omega)
  refine ⟨.ref _, _, I5.laid (t' := s4.toks) (o := .tup xs.reverse) (fun b ob q => Heap.get?_push_of_some _ q) (Nat.le_refl _) ?_, rfl, q _ (I5.hok.fresh (Nat.le_refl _))⟩
  exact ⟨by rw [List.length_reverse]; exact hz, _, r.reverse, IsTup.new _ _⟩
section
variable {K : PySem.W.Frag} {φ : Addr → Prop} {J : Hp → Prop} {ρ : List (Option D)} {te : TE} {ds : List D}
theorem ev_revT (ha : EvD K φ J te ρ (.tup ds)) : EvD K φ J (tRevT K te) ρ (.tup ds.reverse) := fun σ H A Q q =>
  ha σ H A _ fun v x H1 b1 A1 e1 r1 => by
    subst e1
    obtain ⟨a, vs, rfl, pa, ra⟩ := rep_tup r1
    exact ⟨a, vs, rfl, pa.sq, fun p hp => q _ _ _ (b1.trans (But.of (same_new hp))) (A1.same (same_new hp)) rfl ⟨p, _, rfl, .inl ⟨A1.fr p hp, .inl upd_same⟩, (reps_rev ra).mono (But.of (same_new hp))⟩⟩
end
/-! ### a comprehension within a comprehension -/
theorem blk_in {N : List Str} {sc scope scope2 : Scope} {own : List (Str × Nat)} {cl : List (Str × Addr)} {C : Addr} {env : Env} (hs : env.scope = sc) (h : blkC N (relS scope sc) scope2 own = true) : BlkOk N (compEnvC scope cl C env).scope scope2 own := by
  have e : (compEnvC scope cl C env).scope = relS scope env.scope := rfl
  rw [e, hs]
  exact blkOk_by h

-- import HandS.Lambda
-- import HandS.Conv
/-! ### a lambda of one name, handed to a def -/
/-- one parameter, no other name of its own: captured ones and globals -/
structure LamS1 (sc scope : Scope) (x : Str) : Prop where
  kind : scope.kind = .function
  co : scope.isCoroutine = false
  gen : scope.isGenerator = false
  par : scope.names.lookup x = some .local
  own : ∀ y ∈ scope.names, y.2 ≠ .cell ∧ (y.2 = .local → y.1 = x)
  free : ∀ y ∈ scope.names, y.2 = .free → sc.names.lookup y.1 = some .cell ∨ sc.names.lookup y.1 = some .free
def lamS1B (sc scope : Scope) (x : Str) : Bool :=
  decide (scope.kind = .function) && !scope.isCoroutine && !scope.isGenerator && decide (scope.names.lookup x = some .local) && scope.names.all fun y => !decide (y.2 = .cell) && (!decide (y.2 = .local) || decide (y.1 = x)) && (!decide (y.2 = .free) || decide (sc.names.lookup y.1 = some .cell) || decide (sc.names.lookup y.1 = some .free))
theorem lamS1_by {sc scope : Scope} {x : Str} (h : lamS1B sc scope x = true) : LamS1 sc scope x := by
  unfold lamS1B at h
  simp only [Bool.and_eq_true, Bool.or_eq_true, Bool.not_eq_true', decide_eq_true_eq, decide_eq_false_iff_not, List.all_eq_true] at h
  obtain ⟨⟨⟨⟨h1, h2⟩, h3⟩, h0⟩, h4⟩ := h
  refine ⟨h1, h2, h3, h0, fun y hy => ⟨(h4 y hy).1.1, fun e => ?_⟩, fun y hy e => ?_⟩
  · rcases (h4 y hy).1.2 with z | z
    · exact absurd e z
    · exact z
  · rcases (h4 y hy).2 with (z | z) | z
    · exact absurd e z
    · exact .inl z
    · exact .inr z
section
open LamX
theorem LamS1.has {X : Cx} {scope : Scope} {x : Str} (L : LamS1 X.env.scope scope x) (ok : X.Ok) : ∀ y ∈ scope.names, y.2 = .free → ∃ c, X.env.cells.lookup y.1 = some c := fun y hy e => by
  rcases L.free y hy e with k | k
  · exact ok.has _ (.inl k)
  · exact ok.has _ (.inr k)
section
variable {X : Cx} {pins : List (Addr × Obj)} {σ : L2.St} {H HZ : Hp} {s s1 : Shared}
theorem lam_start1 {A : Around} {outer : List Env} {E : XK} {scope : Scope} {f c' : Addr} {h₁ : Heap} {tk : Nat} {x : Str} {i : Nat} {v : V} {u : Value} (I : Inv X pins σ H s) (L : LamS1 X.env.scope scope x) (hN : X.N.Nodup) (hi : X.N[i]? = some x) (hv : RelV v u) (e0 : Env0 X.prog X.w X.K X.mg X.base A outer s1 HZ) (hd : A.handled = none)
    (un : Un (frs X.stack) [] H HZ s.heap s1.heap) (hns : h₁.Ns s1.heap.objs.size fun y => ([(x, u)] : List (Str × Value)).reverse.lookup y) (kp : ∀ b o, s1.heap.get? b = some o → h₁.get? b = some o) :
    Inv (lamCx X A outer s1 HZ E scope f c') [] (σ.set i (some v)) HZ { s1 with heap := h₁, toks := tk } := by
  have hfree := L.has I.ok
  have cm : ∀ {y c}, (cloFrom X.env.cells scope.names []).lookup y = some c → X.env.cells.lookup y = some c := fun {y c} e => by
    rcases cloFrom_mem (PySem.mem_of_lookup e) with hm | ⟨h1, h2⟩
    · cases hm
    · obtain ⟨c1, hc⟩ := hfree _ h1 rfl
      have hc : X.env.cells.lookup y = some c1 := hc
      have e2 : c = c1 := by
        rw [h2, hc] <;> rfl
      rw [e2]
      exact hc
  have look : ∀ {y}, scope.names.lookup y = some .free → ∃ c, (cloFrom X.env.cells scope.names []).lookup y = some c := fun {y} hl => by
    have hy : (y, NameKind.free) ∈ scope.names := PySem.mem_of_lookup hl
    exact mem_lookup (cloFrom_has (cells := X.env.cells) (acc := []) hy)
  have cellK : ∀ {c : Addr} {v : Option Value}, H c = none → s.heap.IsCell c v → h₁.IsCell c v := fun {c v} n ⟨o, ho, hd⟩ => by
    obtain ⟨sl, q⟩ := un.any ho n (by simp)
    exact ⟨_, kp _ _ q, hd⟩
  have noA : ∀ b : Addr, b ∉ (lamCx X A outer s1 HZ E scope f c').ex := fun b z => absurd (show b ∈ ([] : List Addr) from z) (by simp)
  refine ⟨⟨e0.mod, L.kind, rfl, rfl, Nat.le_refl _, fun y z c e1 e2 => I.ok.inj y z c (cm e1) (cm e2), fun y hy => ?_, fun y c z _ => ?_, fun _ => hd, Around.frames_deeper e0.frames, .inr ⟨rfl, rfl⟩, fun b z => absurd z (noA b), e0.bs, e0.bsz, fun b _ _ => noA b,
      fun b z => absurd z (noA b), e0.funs, e0.frf⟩,
    rfl, e0.bare, Un.kept kp, ⟨_, hns, fun j y v' e1 e2 e3 => ?_⟩, fun y c e => ?_, e0.hok.fresh (Nat.le_refl _), fun y c e => ?_, fun q hq => absurd (show q ∈ ([] : List (Addr × Obj)) ++ [] from hq) (by simp), e0.hok.kept kp, by rw [List.length_set]; exact I.len⟩
  · have hy : scope.names.lookup y = some .cell ∨ scope.names.lookup y = some .free := hy
    rcases hy with hy | hy
    · exact absurd rfl (L.own _ (PySem.mem_of_lookup hy)).1
    · exact look hy
  · have z : false = true := z
    cases z
  · have e1 : X.N[j]? = some y := e1
    have e3 : Vis scope y := e3
    rcases e3 with k | k | k
    · have hy : y = x := (L.own _ (PySem.mem_of_lookup k)).2 rfl
      subst hy
      have hj : j = i := nodup_ix hN e1 hi
      subst hj
      have hlt : j < σ.length := by
        rw [I.len]
        exact (List.getElem?_eq_some_iff.mp e1).1
      rw [List.getElem?_set_self hlt] at e2
      cases e2
      refine ⟨u, hv, .inl ⟨k, ?_⟩⟩
      show List.lookup y [(y, u)] = some u
      simp [List.lookup]
    · exact absurd rfl (L.own _ (PySem.mem_of_lookup k)).1
    · have hyx : y ≠ x := fun z => by
        rw [z, L.par] at k
        cases k
      have hji : i ≠ j := fun z => by
        subst z
        rw [hi] at e1
        exact hyx (Option.some.inj e1).symm
      rw [List.getElem?_set_ne hji] at e2
      obtain ⟨m, hn, hl⟩ := I.loc
      have hvis : Vis X.env.scope y := (L.free _ (PySem.mem_of_lookup k) rfl).elim (fun k => .inr (.inl k)) (fun k => .inr (.inr k))
      obtain ⟨w', r, q⟩ := hl j y v' e1 e2 hvis
      obtain ⟨c2, h2⟩ := look k
      refine ⟨w', r, .inr ⟨.inr k, c2, h2, ?_⟩⟩
      have c1 := cm h2
      rcases q with ⟨k', _⟩ | ⟨_, c3, e', z⟩
      · have k' : X.env.scope.names.lookup y = some .local := k'
        rcases L.free _ (PySem.mem_of_lookup k) rfl with k2 | k2 <;> rw [show X.env.scope.names.lookup y = _ from k2] at k' <;> cases k'
      · rw [c1] at e'
        cases e'
        exact cellK (I.freeC y _ c1) z
  · obtain ⟨w', z⟩ := I.cell y c (cm e)
    exact ⟨w', cellK (I.freeC y c (cm e)) z⟩
  · obtain ⟨v, o, ho, hd⟩ := I.cell y c (cm e)
    exact un.free c o ho (I.freeC y c (cm e)) (by simp)
/-- x(e), in the def that got the lambda: Z is that def's context, entered at s -/
theorem pe_act1 {Ng : List Str} {qg : Str} {sg : Scope} {g f c' : Addr} {cdg pm ctv : Value} {params : Arguments} {body e : Expr} {scope : Scope} {k i ix : Nat} {a x : Str} {tb : TE} {ta : TA} {p1 p2 : Pos}
    (I : Inv X pins σ H s) (L : LamS1 X.env.scope scope x) (hXN : X.N.Nodup) (hx : X.N[ix]? = some x) (hf : s.heap.get? f = some (PySem.W.kla_obj "<lambda>" (X.env.qual ++ "<lambda>") params body scope (cloFrom X.env.cells scope.names []) pm c' ctv)) (hfn : H f = none) (hfr : f ∉ frs X.stack)
    (hbind : ∀ u, bindArgs (PySem.W.kla_fn "<lambda>" (X.env.qual ++ "<lambda>") params body scope (cloFrom X.env.cells scope.names []) pm (.ref c') ctv) ⟨[u], []⟩ = pure [(x, u)])
    (hr : Room (k + 1) (X.A.deeper (envOfC qg sg s.heap.objs.size g cdg)))
    (hbody : ∀ (A : Around) (outer : List Env) (s : Shared) (H : Hp), Room k (A.deeper (lamEnv X scope s.heap.objs.size f c')) → PE (lamCx X A outer s H C8.E0 scope f c').nox body tb)
    (hN : Ng[i]? = some a) (hv : Vis sg a) (ha : PA (cxOf C8.CX0 X.prog X.w X.K X.mg X.base Ng qg sg g cdg X.A X.stack s H C8.E0).nox [e] ta)
    (he : starEach [e] (cxOf C8.CX0 X.prog X.w X.K X.mg X.base Ng qg sg g cdg X.A X.stack s H C8.E0).nox.env = (false, eval e (cxOf C8.CX0 X.prog X.w X.K X.mg X.base Ng qg sg g cdg X.A X.stack s H C8.E0).nox.env) :: starEach [] (cxOf C8.CX0 X.prog X.w X.K X.mg X.base Ng qg sg g cdg X.A X.stack s H C8.E0).nox.env)
    (hd : (a == ("__debug__" : Str)) = false := by decide) (hcd : (a == ("__classdict__" : Str)) = false := by decide) :
    PE (cxOf C8.CX0 X.prog X.w X.K X.mg X.base Ng qg sg g cdg X.A X.stack s H C8.E0).nox (.Call (.Name a p1) [e] [] p2)
      (fun σZ HZ Q => σZ[i]? = some (some (.ref f)) ∧ ta σZ HZ fun vs H2 => ∃ v, vs = [v] ∧ H2 c' = some (CodeO c' (X.env.qual ++ "<lambda>")) ∧ tb (σ.set ix (some v)) H2 Q) := by
  refine ⟨fun pinsZ sZ σZ HZ Q IZ h => ?_⟩
  obtain ⟨hs, ht⟩ := h
  refine wpAny_Call_Name_kw (thn ((pe_var (pos := p1) (i := i) hN hv hd hcd).run pinsZ sZ σZ HZ (fun v H1 => v = .ref f ∧ H1 = HZ) IZ ⟨.ref f, hs, rfl, rfl⟩) fun u s1 ⟨v, H1, I1, r1, q1⟩ => ?_)
  obtain ⟨ev, eH⟩ := q1
  subst ev
  rw [eH] at I1
  obtain rfl : u = Value.ref f := r1
  have atF : ∀ {pins2 : List (Addr × Obj)} {σ2 : L2.St} {H2 : Hp} {s2 : Shared}, Inv (cxOf C8.CX0 X.prog X.w X.K X.mg X.base Ng qg sg g cdg X.A X.stack s H C8.E0).nox pins2 σ2 H2 s2 → s2.heap.get? f = some (PySem.W.kla_obj "<lambda>" (X.env.qual ++ "<lambda>") params body scope (cloFrom X.env.cells scope.names []) pm c' ctv) := fun I2 =>
    I2.base.keep f _ hf hfn hfr (fun z => nomatch (show f ∈ ([] : List Addr) from z))
  refine PySem.W.callWith_F ⟨_, _, _, _, atF I1⟩ (thn (ha.run p2 pinsZ s1 σZ HZ _ I1 ht) fun us s2 ⟨vs, H2, I2, r2, v, evs, hc, q2⟩ => ⟨⟨_, _, _, _, atF I2⟩, ?_⟩) he
  subst evs
  obtain ⟨u2, rfl, rv⟩ : ∃ u2, us = [u2] ∧ RelV v u2 := by
    cases r2 with
    | cons a b =>
      cases b
      exact ⟨_, rfl, a⟩
  have of1 := atF I2
  have un : Un (frs X.stack) [] H H2 s.heap s2.heap := I2.base
  obtain ⟨⟨oc, vs, t, hoc, hdc, hvc⟩, _, _⟩ := I2.hok c' _ hc
  have rc : codeAny (model X.prog X.w) (X.A.deeper (envOfC qg sg s.heap.objs.size g cdg)) (.call (.ref f) ⟨[u2], []⟩) (CR C8.CX0 (envOfC qg sg s.heap.objs.size g cdg :: X.stack) X.prog X.w H2 s2 Q C8.E0) s2 := by
    refine PySem.W.kla_callFunE hr.depth of1 rfl L.co L.gen rfl ⟨c', oc, vs, t, rfl, hoc, hdc, hvc⟩ ?_
    rw [hbind]
    refine wpAny_pure (wpAny_newFunctionEnv (fun y hy => (L.own y hy).1) (fun y hy => by rw [List.mem_singleton.mp hy]; exact L.par) (fun h₁ hns hsb => ⟨I2.nolimit.fresh _ hsb, ?_⟩) L.kind)
    show codeAny _ _ (.expr body (lamEnv X scope s2.heap.objs.size f c')) _ _
    have kp : ∀ b o, s2.heap.get? b = some o → h₁.get? b = some o := fun b o e => hsb.extBut b o (Nat.ne_of_lt (Heap.lt_size e)) (Heap.get?_push_of_some _ e)
    have J : Inv (lamCx X (X.A.deeper (envOfC qg sg s.heap.objs.size g cdg)) (envOfC qg sg s.heap.objs.size g cdg :: X.stack) s2 H2 C8.E0 scope f c') [] (σ.set ix (some v)) H2 { s2 with heap := h₁, toks := s2.toks + ([(x, u2)] : List (Str × Value)).length } :=
      lam_start1 I L hXN hx rv I2.env0 hr.hd un hns kp
    refine PySem.W.kla_codeExpr (wpAny_mono ((hbody _ _ s2 H2 (hr.deeper _)).run [] _ _ H2 Q (J.wish _) q2) (fun v s' hq => ?_) fun e s' hq => hq.elim)
    obtain ⟨w', H', J', rv, q⟩ := hq
    exact ⟨w', H', J'.os, J'.bare, J'.base, J'.hok, rv, q⟩
  refine wpAny_call (codeAny_mono rc fun r s' hq => ?_)
  cases r with
  | error e => exact (show False from hq).elim
  | ok fl =>
    cases fl with
    | ret u => exact I2.after hq
    | next => exact False.elim hq
    | brk => exact False.elim hq
    | cont => exact False.elim hq
end
/-- HandS's lam_make2, all but the table told to stay -/
theorem lam_make3 {X : Cx} {pins : List (Addr × Obj)} {σ : L2.St} {H : Hp} {s : Shared} {T : List (Addr × Str)} {c P : Addr} {params : Arguments} {body : Expr} {scope : Scope} {pos : Pos} {E : Value → Shared → Prop} {Q : Value → Shared → Prop} (I : Inv X pins σ H s) (TB : TabB X.base X.mg c P) (hcode : X.env.code = .ref c)
    (hm : (P, X.env.qual ++ "<lambda>") ∈ T) (hu : ∀ p ∈ T, p.1 = P → p.2 = X.env.qual ++ "<lambda>") (hT : Tabs T H) (hdef : defaultsOf params X.env = ([], [])) (hfree : ∀ y ∈ scope.names, y.2 = .free → ∃ c, X.env.cells.lookup y.1 = some c)
    (h : ∀ (f c' : Addr) (pm ctv : Value) (H1 : Hp) (s' : Shared), Inv X pins σ H1 s' → ButP P H H1 → Tabs T H1 →
      s'.heap.get? f = some (PySem.W.kla_obj "<lambda>" (X.env.qual ++ "<lambda>") params body scope (cloFrom X.env.cells scope.names []) pm c' ctv) → H1 f = none → f ∉ frs X.stack → H1 c' = some (CodeO c' (X.env.qual ++ "<lambda>")) → Q (.ref f) s') :
    wpAny (model X.prog X.w) X.A (eval (.Lambda params body scope pos) X.env) Q E s := by
  obtain ⟨ps, hP, ht, ha⟩ := hT _ hm
  refine PySem.W.kla_eval hdef ?_
  have bP : s.heap.BuiltinsAt X.mg P := TB.bm.keeps I.bk
  have hP' : s.heap.get? P = some { cls := .none, data := .fields ps } := I.hok P _ hP
  have nofr : ∀ f, s.heap.objs.size ≤ f → f ∉ frs X.stack := fun f hf z => by
    rcases List.mem_cons.mp (I.stkSub _ z) with e | e
    · have h1 := I.lt
      rw [← e] at h1
      exact Nat.lt_irrefl _ (Nat.lt_of_lt_of_le h1 hf)
    · exact I.nofs hf e
  cases hc : codeAmong pos ps.toList with
  | none =>
    refine PySem.W.kla_makeFunction (mg := X.mg) (c := c) (P := P) (ps := ps) (closure_ok hfree) I.ok.glob (I.mod.glob.keeps I.bk) hcode (TB.code.keeps I.bk) hP' ht hc TB.gP bP fun c' ctv h' tk hx hge hlt hrec htb => ?_
    obtain ⟨c2, oc, vs, t, e2, hoc, hd, hv⟩ := hrec
    cases e2
    have hsz : s.heap.objs.size ≤ h'.objs.size := Nat.le_trans hge (Nat.le_of_lt hlt)
    have nC : H c' = none := I.hok.fresh hge
    have I1 := inv_table (t' := tk) (more := #[rawInt pos.line, rawInt pos.col, .ref c']) (h' := h'.push (PySem.W.kla_obj "<lambda>" (X.env.qual ++ "<lambda>") params body scope (cloFrom X.env.cells scope.names []) ((X.mg "__name__").getD .none) c' ctv)) I hP
      (fun b o hb e => Heap.get?_push_of_some _ (hx b o hb e)) (Heap.get?_push_of_some _ htb) hge ⟨oc, vs, t, Heap.get?_push_of_some _ hoc, hd, hv⟩
    have hB : ButP P H (upd (upd H P (.tbl (ps ++ #[rawInt pos.line, rawInt pos.col, .ref c']))) c' (CodeO c' (X.env.qual ++ "<lambda>"))) := fun b o n e => by
      rw [upd_ne (ne_of_none e nC), upd_ne n]
      exact e
    have hE : ExtN H (upd (upd H P (.tbl (ps ++ #[rawInt pos.line, rawInt pos.col, .ref c']))) c' (CodeO c' (X.env.qual ++ "<lambda>"))) := fun b o e n => by
      rw [upd_ne (ne_of_none e nC), upd_ne (fun z => n ps (Option.some.inj (e.symm.trans (by rw [z]; exact hP))))]
      exact e
    have eL : (ps ++ #[rawInt pos.line, rawInt pos.col, .ref c']).toList = ps.toList ++ [rawInt pos.line, rawInt pos.col, .ref c'] := by simp
    refine h h'.objs.size c' ((X.mg "__name__").getD .none) ctv _ _ I1 hB (fun p hp => ?_) (Heap.get?_push_size _ rfl) ?_ (nofr _ hsz) upd_same
    · by_cases hb : p.1 = P
      · rw [hu p hp hb, hb]
        refine ⟨_, by rw [upd_ne (ne_of_none hP nC), upd_same], by rw [eL]; exact PySem.TriplesOk_snoc _ _ _ _ ht, fun p' cv hcv => ?_⟩
        rw [eL] at hcv
        rcases among_app _ ht hcv with z | z
        · obtain ⟨c0, e1, e2⟩ := ha p' cv z
          exact ⟨c0, e1, hE _ _ e2 codeO_ne⟩
        · exact ⟨c', z, upd_same⟩
      · obtain ⟨ps', a1, a2, a3⟩ := hT p hp
        refine ⟨ps', by rw [upd_ne (ne_of_none a1 nC), upd_ne hb]; exact a1, a2, fun p' cv hcv => ?_⟩
        obtain ⟨c0, e1, e2⟩ := a3 p' cv hcv
        exact ⟨c0, e1, hE _ _ e2 codeO_ne⟩
    · have n1 : h'.objs.size ≠ c' := Nat.ne_of_gt hlt
      have n2 : h'.objs.size ≠ P := Nat.ne_of_gt (Nat.lt_of_lt_of_le (Heap.lt_size hP') hsz)
      rw [upd_ne n1, upd_ne n2]
      exact I.hok.fresh hsz
  | some cv =>
    obtain ⟨c', e, hco⟩ := ha pos cv hc
    subst e
    refine PySem.W.kla_makeFunctionHit (mg := X.mg) (c := c) (P := P) (ps := ps) (closure_ok hfree) I.ok.glob (I.mod.glob.keeps I.bk) hcode (TB.code.keeps I.bk) hP' ht hc bP fun ctv h' tk hx hsz => ?_
    have I1 : Inv X pins σ H { s with heap := h'.push (PySem.W.kla_obj "<lambda>" (X.env.qual ++ "<lambda>") params body scope (cloFrom X.env.cells scope.names []) ((X.mg "__name__").getD .none) c' ctv), toks := tk } := I.kept fun b o e => Heap.get?_push_of_some _ (hx b o e)
    exact h h'.objs.size c' ((X.mg "__name__").getD .none) ctv H _ I1 (fun _ _ _ e => e) hT (Heap.get?_push_size _ rfl) (I.hok.fresh hsz) (nofr _ hsz) hco
/-- the def that calls what it got as its second: TT: what it makes of the first and of the lambda's reading -/
def GivesTo1 (X : Cx) (Ng : List Str) (x : Str) (sg : Scope) (g : Addr) (cdg : Value) (bg : List Stmt) (a : Str) (q : Str) (k : Nat) (TT : V → (V → Hp → VK → Prop) → Hp → VK → Prop) : Prop :=
  ∀ (f c' : Addr) (s : Shared) (H : Hp) (Q : VK) (v1 : V) (tl : V → Hp → VK → Prop),
    Room k (X.A.deeper (envOfC x sg s.heap.objs.size g cdg)) →
    (∀ (e : Expr) (ta : TA) (p1 p2 : Pos), PA (cxOf C8.CX0 X.prog X.w X.K X.mg X.base Ng x sg g cdg X.A X.stack s H C8.E0).nox [e] ta →
      starEach [e] (cxOf C8.CX0 X.prog X.w X.K X.mg X.base Ng x sg g cdg X.A X.stack s H C8.E0).nox.env = (false, eval e (cxOf C8.CX0 X.prog X.w X.K X.mg X.base Ng x sg g cdg X.A X.stack s H C8.E0).nox.env) :: starEach [] (cxOf C8.CX0 X.prog X.w X.K X.mg X.base Ng x sg g cdg X.A X.stack s H C8.E0).nox.env →
      PE (cxOf C8.CX0 X.prog X.w X.K X.mg X.base Ng x sg g cdg X.A X.stack s H C8.E0).nox (.Call (.Name a p1) [e] [] p2) (fun σZ HZ Q => σZ[1]? = some (some (.ref f)) ∧ ta σZ HZ fun vs H2 => ∃ v, vs = [v] ∧ H2 c' = some (CodeO c' q) ∧ tl v H2 Q)) →
    H c' = some (CodeO c' q) → TT v1 tl H Q →
    ∃ t, PSs (cxOf C8.CX0 X.prog X.w X.K X.mg X.base Ng x sg g cdg X.A X.stack s H C8.E0).nox bg t ∧ t { nx := fun _ H' => Q .non H', rt := Q } (L2.start Ng [v1, .ref f]) H
def tLam1 (P : Addr) (T : List (Addr × Str)) (TT : V → (V → Hp → VK → Prop) → Hp → VK → Prop) (ix : Nat) (ta t : TE) : TE := fun σ H Q => ta σ H fun v1 H0 => Tabs T H0 ∧ ∀ H1, ButP P H0 H1 → Tabs T H1 → TT v1 (fun v H' Q' => t (σ.set ix (some v)) H' Q') H1 Q
/-- x(e, lambda y: body) -/
theorem pe_lamcall1 {X : Cx} {T : List (Addr × Str)} {TT : V → (V → Hp → VK → Prop) → Hp → VK → Prop} {x a b y : Str} {g c P : Addr} {k ix : Nat} {pg : Arguments} {bg : List Stmt} {sg : Scope} {dV kV doc pm cdv ct oc : Value} {an od : Option Addr} {osl : Array (Option Value)} {Ng : List Str}
    {params : Arguments} {e body : Expr} {scope : Scope} {ta t : TE} {p lpos pos : Pos} (hg : Gl X x) (hm : X.mg x = some (.ref g)) (hk : PySem.W.keepIn X.K (.ref g) = true)
    (lk : X.K.lookup g = some ⟨oc, od, .func (PySem.W.fnOf x x pg bg sg dV kV doc pm an cdv ct), osl⟩) (hcg : PySem.W.codeIn X.K cdv x = true) (hb : L2.Binds X.K (PySem.W.fnOf x x pg bg sg dV kV doc pm an cdv ct) [b, a] []) (Sg : FnScope Ng [b, a] sg) (hNg : Ng[1]? = some a) (hva : Vis sg a)
    (hG : GivesTo1 X Ng x sg g cdv bg a (X.env.qual ++ "<lambda>") (k + 1) TT)
    (TB : TabB X.base X.mg c P) (hcode : X.env.code = .ref c) (hmT : (P, X.env.qual ++ "<lambda>") ∈ T) (hu : ∀ p ∈ T, p.1 = P → p.2 = X.env.qual ++ "<lambda>") (hr : Room (k + 2) X.A) (L : LamS1 X.env.scope scope y) (hXN : X.N.Nodup) (hx : X.N[ix]? = some y) (hdef : defaultsOf params X.env = ([], []))
    (hbind : ∀ (q : Str) (cl : List (Str × Addr)) (pm cv ctv u : Value), bindArgs (PySem.W.kla_fn "<lambda>" q params body scope cl pm cv ctv) ⟨[u], []⟩ = pure [(y, u)])
    (he : PE X e ta) (hbody : ∀ (A : Around) (outer : List Env) (s : Shared) (H : Hp) (f c' : Addr), Room k (A.deeper (lamEnv X scope s.heap.objs.size f c')) → PE (lamCx X A outer s H C8.E0 scope f c').nox body t)
    (hs : starEach [e, .Lambda params body scope lpos] X.env = (false, eval e X.env) :: starEach [.Lambda params body scope lpos] X.env := by rfl)
    (hdb : (x == ("__debug__" : Str)) = false := by decide) (hd : (a == ("__debug__" : Str)) = false := by decide) (hcd : (a == ("__classdict__" : Str)) = false := by decide) :
    PE X (.Call (.Name x p) [e, .Lambda params body scope lpos] [] pos) (tLam1 P T TT ix ta t) := by
  refine ⟨fun pins s σ H Q I h => ?_⟩
  refine wpAny_Call_Name_kw (ld_glob I hg hm ?_ hdb)
  refine PySem.W.callWith_K (h₀ := X.base) I.ok.mod.kin hk ?_ hs (by rfl)
  rw [hs]
  show wpAny _ _ (spliced ((false, eval e X.env) :: backTo pos (starEach [.Lambda params body scope lpos] X.env))) _ _ s
  refine Calls.spliced_cons (thn (he.run pins s σ H _ I h) fun u1 s0 ⟨v1, H0, I0, r1, hT, h1⟩ => ?_)
  show wpAny _ _ (spliced ((false, eval (.Lambda params body scope lpos) X.env) :: backTo pos (starEach [] X.env))) _ _ s0
  refine Calls.spliced_cons (lam_make3 I0 TB hcode hmT hu hT hdef (L.has I0.ok) fun f c' pm' ctv H1 s' I1 eN T1 hf hfn hfr hco => ?_)
  refine Calls.spliced_nil ⟨I1.kIn, ?_⟩
  have rc : codeAny (model X.prog X.w) X.A (.call (.ref g) ⟨[u1, .ref f], []⟩) (CR C8.CX0 X.stack X.prog X.w H1 s' Q C8.E0) s' := by
    refine run_ofS (N := Ng) (ps := [b, a]) (us := [u1, .ref f]) (vs := [v1, .ref f]) lk hcg Sg hr I1.env0 (hb s' [u1, .ref f] I1.kIn rfl) (.cons r1 (.cons rfl .nil)) rfl fun hr' => ?_
    obtain ⟨t', ht', hq'⟩ := hG f c' s' H1 Q v1 (fun v H' Q' => t (σ.set ix (some v)) H' Q') hr' (fun e2 ta2 p1 p2 ha2 he2 => pe_act1 (i := 1) I1 L hXN hx hf hfn hfr (hbind _ _ _ _ _) hr' (fun A outer s H hr2 => hbody A outer s H f c' hr2) hNg hva ha2 he2 hd hcd) hco (h1 H1 eN T1)
    exact ⟨t', ht'.nox, hq'⟩
  refine wpAny_call (codeAny_mono rc fun r s2 hq => ?_)
  cases r with
  | error e => exact (show False from hq).elim
  | ok fl =>
    cases fl with
    | ret u => exact I1.after hq
    | next => exact False.elim hq
    | brk => exact False.elim hq
    | cont => exact False.elim hq
end

/-! ### the law's own helpers -/
structure Bi (mg : Str → Option Value) : Prop where
  len : mg "len" = none
  range : mg "range" = none
  isinstance : mg "isinstance" = none
  int : mg "int" = none
  str : mg "str" = none
  bool : mg "bool" = none
  list : mg "list" = none
  tuple : mg "tuple" = none
  dict : mg "dict" = none
  sum : mg "sum" = none
  max : mg "max" = none
  min : mg "min" = none
  abs : mg "abs" = none
  sorted : mg "sorted" = none
  enumerate : mg "enumerate" = none
  zip : mg "zip" = none
  set : mg "set" = none
local macro_rules | `(tactic| walk_at "ev") => `(tactic| repeat' (first
  | exact ev_int | exact ev_bl | exact ev_str | exact ev_non | exact ev_ty | exact ev_var rfl
  | refine ev_add ?_ ?_ | refine ev_sub ?_ ?_ | refine ev_mul ?_ ?_ ?_ | refine ev_mulW ?_ ?_ ?_ | refine ev_fdiv ?_ ?_ ?_ | refine ev_fdivW ?_ ?_ ?_ | refine ev_mod ?_ ?_ ?_ | refine ev_neg ?_
  | refine ev_lt ?_ ?_ | refine ev_le ?_ ?_ | refine ev_gt ?_ ?_ | refine ev_ge ?_ ?_
  | refine ev_eqI ?_ ?_ | refine ev_neI ?_ ?_ | refine ev_isN ?_ | refine ev_notN ?_
  | refine ea_cons ?_ ?_ | exact ea_nil
  | refine ev_intI ?_ | refine ev_abs ?_ | refine ev_max2 ?_ ?_ | refine ev_min2 ?_ ?_
  | refine et_test ?_ | refine et_B ?_))
/-- no raw values, a bounded depth -/
def plain : Nat → D → Bool
  | 0, _ => false
  | _ + 1, .non => true
  | _ + 1, .bl _ => true
  | _ + 1, .int _ => true
  | _ + 1, .str _ => true
  | n + 1, .tup ds => decide (ds.length ≤ 1000000) && ds.all (plain n)
  | n + 1, .lst ds => decide (ds.length ≤ 1000000) && ds.all (plain n)
  | _ + 1, .raw _ => false
  | _ + 1, .dk _ _ => false
  | _ + 1, .dt _ _ => false
theorem plain_raw {n : Nat} {d : D} (h : plain n d = true) : isRaw d = false := by
  cases n with
  | zero => cases h
  | succ n => cases d <;> first | rfl | cases h
theorem plain_seq {n : Nat} {d : D} {es : List D} (h : plain (n + 1) d = true) (e : seqOf d = some es) : es.length ≤ 1000000 ∧ ∀ x ∈ es, plain n x = true := by
  cases d <;> first | (cases e; done) | skip
  all_goals
    cases e
    simp only [plain, Bool.and_eq_true, decide_eq_true_eq, List.all_eq_true] at h
    exact h
def RSame (n : Nat) : List D → D → Prop := fun ds r => ∃ d, ds = [d, d] ∧ plain n d = true ∧ r = .bl true
section
variable {P : Program} {w : World} {K : PySem.W.Frag} {mg : Str → Option Value} {base : Heap}
theorem atI_ofNat {α : Type} {xs : List α} {i : Nat} {x : α} (h : xs[i]? = some x) : L2.atI xs (i : Int) = some x := by
  have hi : i < xs.length := (List.getElem?_eq_some_iff.mp h).1
  unfold L2.atI L2.ixN
  rw [if_pos (by omega), if_pos (by omega)]
  exact h
theorem sc__law_same : FnScope ["actual", "due", "k"] ["actual", "due"] (defScope s__law_same) := ⟨rfl, rfl, rfl, by decide +kernel, rfl, by decide +kernel, by decide +kernel⟩
theorem ok__law_same (B : Bi mg) {f : Addr} {fd : FuncData} (F : Fun K "_law_same" "_law_same" s__law_same f fd) (L__law_same : Lk K mg "_law_same" f fd ["actual", "due"]) : ∀ n : Nat, FnOk P w K mg base CX0 n f fd ["actual", "due"] (SpD K 2 (RSame n))
  | 0 => by
    have no : ∀ vs H Q E, ¬ SpD K 2 (RSame 0) vs H Q E := fun vs H Q E h => by
      obtain ⟨_, _, _, _, _, _, ⟨_, _, h, _⟩, _⟩ := h
      cases h
    exact ⟨fun vs H Q E h => absurd h (no vs H Q E), fun A outer s H args us vs Q E _ _ _ _ h => absurd h (no vs H Q E)⟩
  | n + 1 => by
    have G__law_same : FnOk P w K mg base CX0 n f fd ["actual", "due"] (SpD K 2 (RSame n)) := ok__law_same B F L__law_same n
    have S := sc__law_same
    refine fn_ok F S rfl 1 rfl fun cdv A outer s H E hr => ⟨_, ((pss_cons (ps_if (PW.pt (pw_or (pt_val (pe_callB call_isi (by rfl) B.isinstance (by decide +kernel) (pa_cons (pv 1) (pa_cons (pe_ty (n := "tuple") B.tuple (by decide +kernel)) pa_nil)))) (pw_or1 (pt_val (pe_callB call_isi (by rfl) B.isinstance (by decide +kernel) (pa_cons (pv 1) (pa_cons (pe_ty (n := "list") B.list (by decide +kernel)) pa_nil)))))))
 (pss_cons (ps_if (PW.pt (pw_or (pt_cmpR op_ne (pe_callB call_isi (by rfl) B.isinstance (by decide +kernel) (pa_cons (pv 1) (pa_cons (pe_ty (n := "tuple") B.tuple (by decide +kernel)) pa_nil))) (pe_callB call_isi (by rfl) B.isinstance (by decide +kernel) (pa_cons (pv 0) (pa_cons (pe_ty (n := "tuple") B.tuple (by decide +kernel)) pa_nil))) (nomark _)) (pw_or1 (pt_cmpR op_ne (pe_callB call_isi (by rfl) B.isinstance (by decide +kernel) (pa_cons (pv 1) (pa_cons (pe_ty (n := "list") B.list (by decide +kernel)) pa_nil))) (pe_callB call_isi (by rfl) B.isinstance (by decide +kernel) (pa_cons (pv 0) (pa_cons (pe_ty (n := "list") B.list (by decide +kernel)) pa_nil))) (nomark _)))))
 (pss_one (ps_ret pe_bl))
 pss_nil)
 (pss_cons (ps_if (pt_cmpR op_ne (pe_callB c_len (by rfl) B.len (by decide +kernel) (pa_cons (pv 0) pa_nil)) (pe_callB c_len (by rfl) B.len (by decide +kernel) (pa_cons (pv 1) pa_nil)) (nomark _))
 (pss_one (ps_ret pe_bl))
 pss_nil)
 (pss_cons (ps_for PassesOwn.never rfl (pi_range1 (by rfl) B.range (pa_cons (pe_callB c_len (by rfl) B.len (by decide +kernel) (pa_cons (pv 1) pa_nil)) pa_nil)) (pg_name (i := 2) S.nd rfl (by first | exact Or.inl rfl | exact Or.inr rfl))
 (pss_one (ps_if (pt_not (pt_val (pe_call G__law_same (hr.mono (by first | exact Nat.le_refl _ | decide | omega)) (by rfl) L__law_same.m L__law_same.kp L__law_same.bi .nil pass0 (pa_cons (pe_ix ix_seq (pv 0) (pv 2) (fun _ _ => rfl)) (pa_cons (pe_ix ix_seq (pv 1) (pv 2) (fun _ _ => rfl)) pa_nil)))))
 (pss_one (ps_ret pe_bl))
 pss_nil)))
 (pss_one (ps_ret pe_bl)))))
 pss_nil)
 (pss_cons (ps_if (pt_cmpR op_isN1 (pv 1) pe_non (nomark _))
 (pss_one (ps_ret (pe_cmpR op_isN1 (pv 0) pe_non (nomark _))))
 pss_nil)
 (pss_cons (ps_if (pt_val (pe_callB call_isi (by rfl) B.isinstance (by decide +kernel) (pa_cons (pv 1) (pa_cons (pe_ty (n := "bool") B.bool (by decide +kernel)) pa_nil))))
 (pss_one (ps_ret (pe_and (pe_callB call_isi (by rfl) B.isinstance (by decide +kernel) (pa_cons (pv 0) (pa_cons (pe_ty (n := "bool") B.bool (by decide +kernel)) pa_nil))) (pe_one (pe_cmpR op_eq (pv 0) (pv 1) (nomark _))))))
 pss_nil)
 (pss_cons (ps_if (pt_val (pe_callB call_isi (by rfl) B.isinstance (by decide +kernel) (pa_cons (pv 1) (pa_cons (pe_ty (n := "int") B.int (by decide +kernel)) pa_nil))))
 (pss_one (ps_ret (pe_and (pe_callB call_isi (by rfl) B.isinstance (by decide +kernel) (pa_cons (pv 0) (pa_cons (pe_ty (n := "int") B.int (by decide +kernel)) pa_nil))) (pe_and (pe_not (pe_callB call_isi (by rfl) B.isinstance (by decide +kernel) (pa_cons (pv 0) (pa_cons (pe_ty (n := "bool") B.bool (by decide +kernel)) pa_nil)))) (pe_one (pe_cmpR op_eq (pv 0) (pv 1) (nomark _)))))))
 pss_nil)
 (pss_one (ps_ret (pe_and (pe_callB call_isi (by rfl) B.isinstance (by decide +kernel) (pa_cons (pv 0) (pa_cons (pe_ty (n := "str") B.str (by decide +kernel)) pa_nil))) (pe_one (pe_cmpR op_eq (pv 0) (pv 1) (nomark _))))))))))), fun φ ds d H D0 σ hl hR hrt hnx A => ?_⟩
    obtain ⟨d, rfl, hp, rfl⟩ := hR
    replace A : At K φ (Same H) [some d, some d, none] σ H := A
    have hraw := plain_raw hp
    have isi : ∀ {ρ : List (Option D)} {J : Hp → Prop} {i : Nat} {n : String}, ρ[i]? = some (some d) → n ∈ (["tuple", "list", "bool", "int", "str", "dict"] : List String) → EvD K φ J (tCB (rIsi K) (tCons (tVar i) (tCons (tC (.ty n)) tNil))) ρ (.bl (isT n d)) := fun h hn => ev_isi (ev_var h) ev_ty hraw hn
    refine q ?_
    refine st_if A (et_or (et_B (isi rfl (by simp))) fun _ => et_B (isi rfl (by simp))) (fun hb H1 A1 => ?_) (fun hb H1 A1 => ?_)
    · -- a tuple or a list
      obtain ⟨es, hes⟩ : ∃ es, seqOf d = some es := by
        cases d <;> first | exact ⟨_, rfl⟩ | (simp [isT, tyD] at hb)
      obtain ⟨hlen, hpl⟩ := plain_seq hp hes
      refine q ?_
      refine st_no A1 (et_or (et_test (ev_neB (isi rfl (by simp)) (isi rfl (by simp)))) fun _ => et_test (ev_neB (isi rfl (by simp)) (isi rfl (by simp)))) (by simp) fun H2 A2 => ?_
      refine q ?_
      refine st_no A2 (et_test (ev_neI (ev_lenQ (ev_var rfl) hes) (ev_lenQ (ev_var rfl) hes))) (by simp) fun H3 A3 => ?_
      refine q ?_
      refine st_for A3 (it_range1 (ea_cons (ev_lenQ (ev_var rfl) hes) ea_nil) (by omega)) (fun i ρ' J' => (∃ o, ρ' = [some d, some d, o]) ∧ J' = Same H) ⟨⟨none, rfl⟩, rfl⟩ ?_ ?_
      · rintro H4 i x ρ' J' b4 j4 hx ⟨⟨o, rfl⟩, rfl⟩ σ' H' A5
        rw [rangeD_get] at hx
        have hi : i < es.length := by
          by_cases h : i < (es.length : Int).toNat
          · omega
          · rw [if_neg h] at hx; cases hx
        rw [if_pos (by omega)] at hx
        cases hx
        have hxi : L2.atI es (0 + (i : Int)) = some es[i] := by
          rw [Int.zero_add]
          exact atI_ofNat (List.getElem?_eq_getElem hi)
        have A5' : At K φ (fun H_1 => Same H H_1 ∧ But φ H4 H_1) [some d, some d, some (.int (0 + (i : Int)))] σ' H' := A5
        refine st_no A5' (et_not (et_B (ev_callD (ea_cons (ev_ixQ (ev_var rfl) hes (ev_var rfl) hxi) (ea_cons (ev_ixQ (ev_var rfl) hes (ev_var rfl) hxi) ea_nil)) ⟨es[i], rfl, hpl _ (List.getElem_mem hi), rfl⟩))) rfl fun H6 A6 => ?_
        exact ⟨_, _, ⟨⟨_, rfl⟩, rfl⟩, A6⟩
      · rintro H4 ρ' J' σ' H' b4 j4 ⟨⟨o, rfl⟩, rfl⟩ A5
        exact st_ret A5 ev_bl fun v d' H6 e A6 r => hrt v H6 A6.j.1 (e ▸ r)
    · refine st_next ?_
      have hnt : isT "tuple" d = false ∧ isT "list" d = false := by
        exact Bool.or_eq_false_iff.mp hb.symm
      refine q ?_
      refine st_if A1 (et_test (ev_isN (ev_var rfl))) (fun hn H2 A2 => ?_) (fun hn H2 A2 => ?_)
      · exact st_ret A2 (ev_isN (ev_var rfl)) fun v d' H6 e A6 r => hrt v H6 A6.j (by rw [e, ← hn] at r; exact r)
      · refine st_next (q ?_)
        refine st_if A2 (et_B (isi rfl (by simp))) (fun hB H3 A3 => ?_) (fun hB H3 A3 => ?_)
        · obtain ⟨b, rfl⟩ : ∃ b, d = .bl b := by
            cases d <;> first | exact ⟨_, rfl⟩ | (simp [isT, tyD] at hB)
          exact st_ret A3 (ev_andV (isi rfl (by simp)) fun _ => ev_one (ev_eqB (ev_var rfl) (ev_var rfl))) fun v d' H6 e A6 r => hrt v H6 A6.j (by rw [e, ← hB] at r; simpa using r)
        · refine st_next (q ?_)
          refine st_if A3 (et_B (isi rfl (by simp))) (fun hI H4 A4 => ?_) (fun hI H4 A4 => ?_)
          · obtain ⟨b, rfl⟩ : ∃ b, d = .int b := by
              cases d <;> first | exact ⟨_, rfl⟩ | (simp [isT, tyD] at hI hB)
            exact st_ret A4 (ev_andV (isi rfl (by simp)) fun _ => ev_andV (ev_notV (isi rfl (by simp))) fun _ => ev_one (ev_eqI (ev_var rfl) (ev_var rfl))) fun v d' H6 e A6 r => hrt v H6 A6.j (by rw [e, ← hI, ← hB] at r; simpa using r)
          · refine st_next ?_
            obtain ⟨b, rfl⟩ : ∃ b, d = .str b := by
              cases d <;> first | exact ⟨_, rfl⟩ | (cases hraw; done) | (cases hp; done) | (simp [isT, tyD, isNon] at hI hB hnt hn)
            exact st_ret A4 (ev_andV (isi rfl (by simp)) fun _ => ev_one (ev_eqS (ev_var rfl) (ev_var rfl))) fun v d' H6 e A6 r => hrt v H6 A6.j (by rw [e] at r; simpa [isT, tyD] using r)
end
/-! ### spread, pool, draw -/
section
variable {P : Program} {w : World} {K : PySem.W.Frag} {mg : Str → Option Value} {base : Heap}
def spreadN (c : Int) : Nat → Int × Int
  | 0 => (c % 2147483647, 1)
  | n + 1 => (((spreadN c n).1 * 48271 + 12345 + (0 + (n : Int))) % 2147483647, (spreadN c n).2 * 2147483647 + ((spreadN c n).1 * 48271 + 12345 + (0 + (n : Int))) % 2147483647)
theorem spreadN_lt (c : Int) : ∀ n, 0 ≤ (spreadN c n).1 ∧ (spreadN c n).1 < 2147483647
  | 0 => ⟨Int.emod_nonneg _ (by decide), Int.emod_lt_of_pos _ (by decide)⟩
  | n + 1 => ⟨Int.emod_nonneg _ (by decide), Int.emod_lt_of_pos _ (by decide)⟩
def RSpread : List D → D → Prop := fun ds r => ∃ c : Int, ds = [.int c] ∧ r = .int (spreadN c 4).2
theorem sc__law_spread : FnScope ["cell", "mixed", "total", "k"] ["cell"] (defScope s__law_spread) := ⟨rfl, rfl, rfl, by decide +kernel, rfl, by decide +kernel, by decide +kernel⟩
theorem ok__law_spread (B : Bi mg) {f : Addr} {fd : FuncData} (F : Fun K "_law_spread" "_law_spread" s__law_spread f fd) : FnOk P w K mg base CX0 1 f fd ["cell"] (SpD K 1 RSpread) := by
  have S := sc__law_spread
  refine fn_ok F S rfl 3 rfl fun cdv A outer s H E hr => ⟨_, ((pss_cons (ps_set (i := 1) S.nd rfl (by first | exact Or.inl rfl | exact Or.inr rfl) (pe_op op_mod (pe_callTy c_int1 (by rfl) B.int (by decide +kernel) (pa_cons (pv 0) pa_nil)) pe_int))
 (pss_cons (ps_set (i := 2) S.nd rfl (by first | exact Or.inl rfl | exact Or.inr rfl) pe_int)
 (pss_cons (ps_for PassesOwn.never rfl (pi_range1 (by rfl) B.range (pa_cons pe_int pa_nil)) (pg_name (i := 3) S.nd rfl (by first | exact Or.inl rfl | exact Or.inr rfl))
 (pss_cons (ps_set (i := 1) S.nd rfl (by first | exact Or.inl rfl | exact Or.inr rfl) (pe_op op_mod (pe_callTy c_int1 (by rfl) B.int (by decide +kernel) (pa_cons (pe_op op_add (pe_op op_add (pe_op op_mul (pv 1) pe_int) pe_int) (pv 3)) pa_nil)) pe_int))
 (pss_one (ps_set (i := 2) S.nd rfl (by first | exact Or.inl rfl | exact Or.inr rfl) (pe_op op_add (pe_op op_mul (pv 2) pe_int) (pv 1))))))
 (pss_one (ps_ret (pv 2))))))), fun φ ds d H D0 σ hl hR hrt hnx A => ?_⟩
  obtain ⟨c, rfl, rfl⟩ := hR
  replace A : At K φ (Same H) [some (.int c), none, none, none] σ H := A
  refine q (st_set A (ev_mod (ev_intI (ev_var rfl)) ev_int (by decide)) fun σ1 H1 A1 => q (st_set A1 ev_int fun σ2 H2 A2 => q ?_))
  refine st_for A2 (it_range1 (ea_cons ev_int ea_nil) (by decide)) (fun i ρ' J' => (∃ o, ρ' = [some (.int c), some (.int (spreadN c i).1), some (.int (spreadN c i).2), o]) ∧ J' = Same H) ⟨⟨none, rfl⟩, rfl⟩ ?_ ?_
  · rintro H4 i x ρ' J' b4 j4 hx ⟨⟨o, rfl⟩, rfl⟩ σ' H' A5
    rw [rangeD_get] at hx
    split at hx
    · cases hx
      have h := spreadN_lt c i
      refine q (st_set A5 (ev_mod (ev_intI (ev_add (ev_add (ev_mul (ev_var rfl) ev_int (.inl (by omega))) ev_int) (ev_var rfl))) ev_int (by decide)) fun σ6 H6 A6 => ?_)
      refine st_set A6 (ev_add (ev_mul (ev_var rfl) ev_int (.inr (by decide))) (ev_var rfl)) fun σ7 H7 A7 => ?_
      exact ⟨_, _, ⟨⟨_, rfl⟩, rfl⟩, A7⟩
    · cases hx
  · rintro H4 ρ' J' σ' H' b4 j4 ⟨⟨o, rfl⟩, rfl⟩ A5
    exact st_ret A5 (ev_var rfl) fun v d' H6 e A6 r => hrt v H6 A6.j.1 (e ▸ r)
/-- a new pool for the script -/
def spPool (K : PySem.W.Frag) : Sp := fun vs H Q _ => ∃ (a : Addr) (ns : List Int), vs = [.ref a] ∧ SqL K H a (ns.map V.int) ∧ ns.length ≤ 63 ∧ ∀ p s H', Same H H' → H p = none → H s = none → s ≠ p → PoolOk p s ns H' → Q (.ref p) H'
theorem sc__law_pool : FnScope ["script", "salt", "cell"] ["script"] (defScope s__law_pool) := ⟨rfl, rfl, rfl, by decide +kernel, rfl, by decide +kernel, by decide +kernel⟩
theorem ok__law_pool (B : Bi mg) {f : Addr} {fd : FuncData} (F : Fun K "_law_pool" "_law_pool" s__law_pool f fd) : FnOk P w K mg base CX0 1 f fd ["script"] (spPool K) := by
  have S := sc__law_pool
  refine F.ok S (fun vs H Q E h => ?_) (fun cdv A outer s H vs Q E hr h => ?_)
  · obtain ⟨a, ns, rfl, _⟩ := h
    rfl
  obtain ⟨a, ns, rfl, hS, hlen, kq⟩ := h
  refine ⟨_, ((pss_cons (ps_set (i := 1) S.nd rfl (by first | exact Or.inl rfl | exact Or.inr rfl) pe_int)
 (pss_cons (ps_for PassesOwn.never rfl (pi_list (pe_slice sl_list (pv 0) po_none (po_some pe_int))) (pg_name (i := 2) S.nd rfl (by first | exact Or.inl rfl | exact Or.inr rfl))
 (pss_one (ps_set (i := 1) S.nd rfl (by first | exact Or.inl rfl | exact Or.inr rfl) (pe_op op_mod (pe_callTy c_int1 (by rfl) B.int (by decide +kernel) (pa_cons (pe_op op_add (pe_op op_mul (pv 1) pe_int) (pv 2)) pa_nil)) pe_int))))
 (pss_one (ps_ret (pe_lst (pa_cons (pe_callTy c_listOf (by rfl) B.list (by decide +kernel) (pa_cons (pv 0) pa_nil)) (pa_cons pe_int (pa_cons pe_int (pa_cons pe_int (pa_cons (pv 1) pa_nil))))))))))), ?_⟩
  have A0 : At K (fun _ => True) (Same H) [some (.lst (ns.map D.int)), none, none] [some (.ref a), none, none] H := by
    have hpl : PL K (fun _ => True) H a (ns.map V.int) := hS.elim (fun z => .inl ⟨trivial, z⟩) .inr
    exact ⟨SR.start (ds := [.lst (ns.map D.int)]) (n := 2) (Reps.cons ⟨a, _, rfl, hpl, Reps.of_ints⟩ Reps.nil), ⟨fun _ _ => trivial, fun _ _ _ => trivial⟩, Same.refl H, Mo.sames fun _ h => h⟩
  refine q (st_set A0 ev_int fun σ1 H1 A1 => q ?_)
  refine st_for A1 (it_list (ev_slL (ev_var rfl) eo_none (eo_some ev_int))) (fun i ρ' J' => (∃ o, ∃ z : Int, 0 ≤ z ∧ z < 1000003 ∧ ρ' = [some (.lst (ns.map D.int)), some (.int z), o]) ∧ J' = Same H) ⟨⟨none, 7, by decide, by decide, rfl⟩, rfl⟩ ?_ ?_
  · rintro H4 i x ρ' J' b4 j4 hx ⟨⟨o, z, hz, hz2, rfl⟩, rfl⟩ σ' H' A5
    obtain ⟨n, rfl⟩ : ∃ n, x = .int n := by
      have hm : x ∈ cutD (ns.map D.int) none (some 63) := List.mem_of_getElem? hx
      have hm2 : x ∈ ns.map D.int := List.mem_of_mem_drop (List.mem_of_mem_take hm)
      obtain ⟨n, _, e⟩ := List.mem_map.mp hm2
      exact ⟨n, e.symm⟩
    refine st_set A5 (ev_mod (ev_intI (ev_add (ev_mul (ev_var rfl) ev_int (.inl (by omega))) (ev_var rfl))) ev_int (by decide)) fun σ7 H7 A7 => ?_
    exact ⟨_, _, ⟨⟨_, _, Int.emod_nonneg _ (by decide), Int.emod_lt_of_pos _ (by decide), rfl⟩, rfl⟩, A7⟩
  · rintro H4 ρ' J' σ' H' b4 j4 ⟨⟨o, z, hz, hz2, rfl⟩, rfl⟩ A5
    refine en_list (ev_var rfl) σ' H' A5 _ fun s vs ds H5 H6 b5 A6 hs b6 A7 e hst r => ?_
    subst e
    have ev : vs = ns.map V.int := r.ints
    subst ev
    obtain ⟨v, ev, rv⟩ := A7.sr.2 1 _ rfl
    cases (show v = _ from rv)
    refine ⟨_, ev, by show 5 ≤ sizeLine; decide, fun p hp => ?_⟩
    have nsp : s ≠ p := ne_of_none hst hp
    refine kq p s _ (A7.j.1.trans (same_new hp)) (Same.free A7.j.1 hp) (Same.free A6.j.1 hs) nsp ⟨0, 0, 0, z, upd_same, ?_, Int.le_refl _⟩
    rw [upd_ne nsp]
    exact hst
/-- the pool's list -/
def plV (s : Addr) (a c n z : Int) : List V := [.ref s, .int a, .int c, .int n, .int z]
theorem sc__law_draw : FnScope ["pool", "many", "cell", "mixed", "value"] ["pool", "many"] (defScope s__law_draw) := ⟨rfl, rfl, rfl, by decide +kernel, rfl, by decide +kernel, by decide +kernel⟩
theorem ok__law_draw (B : Bi mg) {f g : Addr} {fd gd : FuncData} (F : Fun K "_law_draw" "_law_draw" s__law_draw f fd) (L__law_spread : Lk K mg "_law_spread" g gd ["cell"]) (G__law_spread : FnOk P w K mg base CX0 1 g gd ["cell"] (SpD K 1 RSpread)) : FnOk P w K mg base CX0 2 f fd ["pool", "many"] spDraw := by
  have S := sc__law_draw
  refine F.ok S (fun vs H Q E h => ?_) (fun cdv A outer s H vs Q E hr h => ?_)
  · obtain ⟨p, s, ns, n, rfl, _⟩ := h
    rfl
  obtain ⟨p, s, ns, many, rfl, ⟨a0, c0, n0, z0, hp, hs, ha0⟩, nsp, hm0, hm1, kq⟩ := h
  refine ⟨_, ((C8.pss_cut (ps_if (PW.pt (pw_and (pt_cmpR op_le (pe_ix ix_list (pv 0) pe_int (fun _ _ => rfl)) pe_int (nomark _)) (pw_and1 (pt_cmpR op_lt (pe_ix ix_list (pv 0) pe_int (fun _ _ => rfl)) (pe_callB c_len (by rfl) B.len (by decide +kernel) (pa_cons (pe_ix ix_list (pv 0) pe_int (fun _ _ => rfl)) pa_nil)) (nomark _)))))
 (pss_cons (ps_set (i := 2) S.nd rfl (by first | exact Or.inl rfl | exact Or.inr rfl) (pe_ix ix_list (pe_ix ix_list (pv 0) pe_int (fun _ _ => rfl)) (pe_ix ix_list (pv 0) pe_int (fun _ _ => rfl)) (fun _ _ => rfl)))
 (pss_cons (ps_asg (pe_op op_add (pe_ix ix_list (pv 0) pe_int (fun _ _ => rfl)) pe_int) (pg_sub (pv 0) pe_int set_list))
 (pss_cons (ps_asg (pv 2) (pg_sub (pv 0) pe_int set_list))
 (pss_one (ps_if (pt_cmpR op_lt (pv 2) pe_int (nomark _))
 (pss_one (ps_asg (pe_call G__law_spread (hr.mono (by first | exact Nat.le_refl _ | decide | omega)) (by rfl) L__law_spread.m L__law_spread.kp L__law_spread.bi .nil pass0 (pa_cons (pv 2) pa_nil)) (pg_sub (pv 0) pe_int set_list)))
 pss_nil)))))
 pss_nil)
 (pss_cons (ps_asg (pe_op op_add (pe_ix ix_list (pv 0) pe_int (fun _ _ => rfl)) pe_int) (pg_sub (pv 0) pe_int set_list))
 (pss_cons (ps_if (pt_cmpR op_le (pe_ix ix_list (pv 0) pe_int (fun _ _ => rfl)) pe_int (nomark _))
 (pss_cons (ps_set (i := 3) S.nd rfl (by first | exact Or.inl rfl | exact Or.inr rfl) (pe_op op_mod (pe_callTy c_int1 (by rfl) B.int (by decide +kernel) (pa_cons (pe_op op_add (pe_op op_add (pe_op op_mul (pe_ix ix_list (pv 0) pe_int (fun _ _ => rfl)) pe_int) (pe_op op_mul (pe_ix ix_list (pv 0) pe_int (fun _ _ => rfl)) pe_int)) pe_int) pa_nil)) pe_int))
 (pss_cons (ps_set (i := 3) S.nd rfl (by first | exact Or.inl rfl | exact Or.inr rfl) (pe_op op_mod (pe_callTy c_int1 (by rfl) B.int (by decide +kernel) (pa_cons (pe_op op_add (pe_op op_mul (pv 3) pe_int) (pe_ix ix_list (pv 0) pe_int (fun _ _ => rfl))) pa_nil)) pe_int))
 (pss_one (ps_ret (pe_op op_mod (pe_op op_fdiv (pv 3) pe_int) (pv 1))))))
 pss_nil)
 (pss_cons (ps_set (i := 4) S.nd rfl (by first | exact Or.inl rfl | exact Or.inr rfl) (pe_op op_mod (pe_callTy c_int1 (by rfl) B.int (by decide +kernel) (pa_cons (pe_ix ix_list (pv 0) pe_int (fun _ _ => rfl)) pa_nil)) (pv 1)))
 (pss_cons (ps_asg (pe_op op_fdiv (pe_ix ix_list (pv 0) pe_int (fun _ _ => rfl)) (pv 1)) (pg_sub (pv 0) pe_int set_list))
 (pss_one (ps_ret (pv 4))))))))), ?_⟩
  let φ : Addr → Prop := fun a => a ≠ p
  let JJ : Int → Int → Int → Hp → Prop := fun a c n H' => H' p = some (.lst (plV s a c n z0)) ∧ But φ H H'
  have trp : ∀ {H' : Hp}, But φ H H' → H' p ≠ none := fun b => b.tr p (by rw [hp]; exact fun z => by cases z)
  have moJ : ∀ {a c n : Int} {H' : Hp}, But φ H H' → Mo H' (JJ a c n) := fun b => (Mo.at (trp b)).and (Mo.but b.tr)
  have nφ : ¬ φ p := fun z => z rfl
  have updA : ∀ {a c n a' c' n' : Int} {ρ : List (Option D)} {σ : L2.St} {H' : Hp}, At K φ (JJ a c n) ρ σ H' → At K φ (JJ a' c' n') ρ σ (L2.upd H' p (.lst (plV s a' c' n' z0))) := fun {a c n a' c' n' ρ σ H'} A =>
    A.upd nφ ⟨upd_same, A.j.2.upd nφ⟩ (moJ (A.j.2.upd nφ))
  have A0 : At K φ (JJ a0 c0 n0) [some (.raw (.ref p)), some (.int many), none, none, none] [some (.ref p), some (.int many), none, none, none] H :=
    ⟨SR.start (ds := [.raw (.ref p), .int many]) (n := 3) (Reps.cons rfl (Reps.cons rfl Reps.nil)), ⟨fun a h z => (by rw [z, hp] at h; cases h), fun a xs h z => (by rw [z, hp] at h; cases h)⟩, ⟨hp, But.refl _ _⟩, moJ (But.refl _ _)⟩
  -- the pool's cells
  have ix : ∀ {a c n : Int} {ρ : List (Option D)} {i : Int} {d : D} {v : V}, ρ[0]? = some (some (.raw (.ref p))) → atI (plV s a c n z0) i = some v → (∀ H', Rep K φ H' d v) → EvD K φ (JJ a c n) (tOp (rIxL K) (tVar 0) (tC (.int i))) ρ d := fun h e r => ev_ixLive (ev_var h) ev_int fun H' j => ⟨_, j.1, _, e, r H'⟩
  have fin : ∀ {a c n : Int} {ρ : List (Option D)} {σ : L2.St} {H' : Hp} {r : Int}, At K φ (JJ a c n) ρ σ H' → 0 ≤ a → 0 ≤ r → r < many → Q (.int r) H' := fun {a c n ρ σ H' r} A ha h0 h1 =>
    kq r H' h0 h1 (fun b o nb e => A.j.2.keep b o nb e) ⟨a, c, n, z0, A.j.1, A.j.2.keep _ _ nsp hs, ha⟩
  refine q_cut (M := fun σ' H' => ∃ a c o, 0 ≤ a ∧ At K φ (JJ a c n0) [some (.raw (.ref p)), some (.int many), o, none, none] σ' H') ?_ ?_
  · refine st_if A0 (et_and (et_test (ev_le (ix rfl rfl fun _ => rfl) ev_int)) fun _ => et_test (ev_lt (ix rfl rfl fun _ => rfl) (ev_lenLive (ix rfl rfl fun _ => rfl) fun H' j => j.2.keep _ _ nsp hs))) (fun hb H1 A1 => ?_) (fun hb H1 A1 => ⟨a0, c0, none, ha0, A1⟩)
    have hlt : a0 < ((ns.map V.int).length : Nat) := by
      have h1 := hb.symm
      rw [Bool.and_eq_true] at h1
      exact of_decide_eq_true h1.2
    have hltn : a0.toNat < ns.length := by rw [List.length_map] at hlt; omega
    have hat : atI (ns.map V.int) a0 = some (.int ns[a0.toNat]) := by
      have z := atI_ofNat (xs := ns.map V.int) (i := a0.toNat) (x := .int ns[a0.toNat]) (by rw [List.getElem?_map, List.getElem?_eq_getElem hltn]; rfl)
      rw [Int.toNat_of_nonneg ha0] at z
      exact z
    refine q (st_set A1 (ev_ixLive (d := .int ns[a0.toNat]) (ix rfl rfl fun _ => rfl) (ix rfl rfl fun _ => rfl) fun H' j => ⟨_, j.2.keep _ _ nsp hs, _, hat, rfl⟩) fun σ2 H2 A2 => q ?_)
    refine st_setL (n := 1) A2 (ev_add (ix rfl rfl fun _ => rfl) ev_int) rfl ev_int (fun H' j => j.1) rfl fun v d H3 e r b A3 => ?_
    subst e
    cases (show v = _ from r)
    have A4 : At K φ (JJ (a0 + 1) c0 n0) [some (.raw (.ref p)), some (.int many), some (.int ns[a0.toNat]), none, none] σ2 _ := updA (a' := a0 + 1) (c' := c0) (n' := n0) A3
    refine q (st_setL (n := 2) A4 (ev_var rfl) rfl ev_int (fun H' j => j.1) rfl fun v d H5 e r b A5 => ?_)
    subst e
    cases (show v = _ from r)
    have A6 : At K φ (JJ (a0 + 1) ns[a0.toNat] n0) [some (.raw (.ref p)), some (.int many), some (.int ns[a0.toNat]), none, none] σ2 _ := updA (a' := a0 + 1) (c' := ns[a0.toNat]) (n' := n0) A5
    refine st_if A6 (et_test (ev_lt (ev_var rfl) ev_int)) (fun _ H7 A7 => ?_) (fun _ H7 A7 => ⟨_, _, _, by omega, A7⟩)
    refine st_setL (n := 2) A7 (ev_callD (ea_cons (ev_var rfl) ea_nil) ⟨_, rfl, rfl⟩) rfl ev_int (fun H' j => j.1) rfl fun v d H8 e r b A8 => ?_
    subst e
    cases (show v = _ from r)
    exact ⟨a0 + 1, (spreadN ns[a0.toNat] 4).2, _, by omega, updA (a' := a0 + 1) (n' := n0) A8⟩
  · rintro σ1 H1 ⟨a, c, o, ha, A1⟩
    refine q (st_setL (n := 3) A1 (ev_add (ix rfl rfl fun _ => rfl) ev_int) rfl ev_int (fun H' j => j.1) rfl fun v d H3 e r b A3 => ?_)
    subst e
    cases (show v = _ from r)
    have A4 : At K φ (JJ a c (n0 + 1)) [some (.raw (.ref p)), some (.int many), o, none, none] σ1 _ := updA (a' := a) (c' := c) (n' := n0 + 1) A3
    refine q (st_if A4 (et_test (ev_le (ix rfl rfl fun _ => rfl) ev_int)) (fun _ H5 A5 => ?_) (fun hc H5 A5 => st_next ?_))
    · refine q (st_set A5 (ev_mod (ev_intI (ev_add (ev_add (ev_mul (ix rfl rfl fun _ => rfl) ev_int (.inr (by decide))) (ev_mul (ix rfl rfl fun _ => rfl) ev_int (.inr (by decide)))) ev_int)) ev_int (by decide)) fun σ6 H6 A6 => q ?_)
      refine st_set A6 (ev_mod (ev_intI (ev_add (ev_mul (ev_var rfl) ev_int (.inr (by decide))) (ix rfl rfl fun _ => rfl))) ev_int (by decide)) fun σ7 H7 A7 => ?_
      refine st_ret A7 (ev_mod (ev_fdiv (ev_var rfl) ev_int ⟨by decide, by decide⟩) (ev_var rfl) hm0) fun v d H8 e A8 r => ?_
      subst e
      cases (show v = _ from r)
      exact fin A8 ha (Int.emod_nonneg _ (by omega)) (Int.emod_lt_of_pos _ hm0)
    · refine q (st_set A5 (ev_mod (ev_intI (ix rfl rfl fun _ => rfl)) (ev_var rfl) hm0) fun σ6 H6 A6 => q ?_)
      refine st_setL (n := 2) A6 (ev_fdiv (ix rfl rfl fun _ => rfl) (ev_var rfl) ⟨hm0, hm1⟩) rfl ev_int (fun H' j => j.1) rfl fun v d H8 e r b A8 => ?_
      subst e
      cases (show v = _ from r)
      have A9 : At K φ (JJ a (c / many) (n0 + 1)) [some (.raw (.ref p)), some (.int many), o, none, some (.int (c % many))] σ6 _ := updA (a' := a) (c' := c / many) (n' := n0 + 1) A8
      refine st_ret A9 (ev_var rfl) fun v d H10 e A10 r => ?_
      subst e
      cases (show v = _ from r)
      exact fin A10 ha (Int.emod_nonneg _ (by omega)) (Int.emod_lt_of_pos _ hm0)
end
def spLaw (K : PySem.W.Frag) : Sp := fun vs H Q _ => ∃ (a : Addr) (ns : List Int), vs = [.ref a] ∧ SqL K H a (ns.map V.int) ∧ ns.length ≤ 63 ∧ ∀ H', Q (.bl true) H'
/-- behind the making of the pool -/
def JP (p s : Addr) (ns : List Int) : Hp → Prop := PoolOk p s ns
theorem mo_pool {p s : Addr} {ns : List Int} {H : Hp} (hp : H p ≠ none) (hs : H s ≠ none) : Mo H (PoolOk p s ns) := fun H1 H2 k j => by
  obtain ⟨a, c, n, z, e1, e2, h⟩ := j
  exact ⟨a, c, n, z, k p _ hp e1, k s _ hs e2, h⟩
theorem mo_poolOf {p s : Addr} {ns : List Int} {H : Hp} (j : PoolOk p s ns H) : Mo H (PoolOk p s ns) := by
  obtain ⟨_, _, _, _, e1, e2, _⟩ := id j
  exact mo_pool (by rw [e1]; exact fun z => by cases z) (by rw [e2]; exact fun z => by cases z)
theorem mo_of {p s : Addr} {ns : List Int} {φ : Addr → Prop} {H H2 : Hp} (j : PoolOk p s ns H ∧ But φ H2 H) : Mo H (fun H => PoolOk p s ns H ∧ But φ H2 H) := (mo_poolOf j.1).and (Mo.but j.2.tr)
theorem pooled {p s : Addr} {ns : List Int} {φ : Addr → Prop} (np : ¬ φ p) (ne : s ≠ p) : Pooled φ (PoolOk p s ns) p s ns := ⟨np, ne, fun _ h => h, fun _ _ _ _ o => o⟩
section
variable {K : PySem.W.Frag} {D0 : Ends} {σ : L2.St} {H : Hp} {ρ : List (Option D)}
/-- pool = _law_pool(script), the first row of a law: from then on only the pool is live -/
theorem st_pool {E : XK} {k n : Nat} {a : Addr} {ns : List Int} (hS : SqL K H a (ns.map V.int)) (hl : ns.length ≤ 63) (h0 : σ[0]? = some (some (.ref a))) (hk : σ.length = n) (hkn : k < n)
    (kk : ∀ p s σ' H', s ≠ p → At K (fun b => b ≠ p) (PoolOk p s ns) ((List.replicate n none).set k (some (.raw (.ref p)))) σ' H' → D0.nx σ' H') : tAsg (tCall (spPool K) [] E (tCons (tVar 0) tNil)) (gName k) D0 σ H := by
  refine ⟨_, h0, a, ns, rfl, hS, hl, fun p s H' sm hp hs ne po => ?_⟩
  have hp' : H' p ≠ none := by obtain ⟨_, _, _, _, e, _⟩ := po; rw [e]; exact fun z => by cases z
  have hs' : H' s ≠ none := by obtain ⟨_, _, _, _, _, e, _⟩ := po; rw [e]; exact fun z => by cases z
  refine kk p s _ H' ne ⟨⟨by rw [List.length_set, List.length_set, List.length_replicate]; exact hk, fun i d hd => ?_⟩, ⟨fun b hb z => hp' (z ▸ hb), fun b xs hb z => by obtain ⟨_, _, _, _, e, _⟩ := po; rw [z, e] at hb; cases hb⟩, po, mo_pool hp' hs'⟩
  by_cases e : k = i
  · subst e
    rw [List.getElem?_set_self (by rw [List.length_replicate]; exact hkn)] at hd
    cases hd
    exact ⟨_, List.getElem?_set_self (by rw [hk]; exact hkn), rfl⟩
  · rw [List.getElem?_set_ne e, List.getElem?_replicate] at hd
    split at hd <;> cases hd
end

/-! ### defs that take the pool ahead of other values -/
theorem ButP.trans {p : Addr} {H H' H2 : Hp} (a : ButP p H H') (b : ButP p H' H2) : ButP p H H2 := fun x o n e => b x o n (a x o n e)
theorem ButP.of {p : Addr} {H H' : Hp} (s : Same H H') : ButP p H H' := fun x o _ e => s x o e
def SpP (K : PySem.W.Frag) (n : Nat) (Pre : List D → Prop) (R : List D → D → Prop) : Sp := fun vs H Q _ => ∃ φ p s ns ds ws, vs = .ref p :: ws ∧ ds.length = n ∧ Reps K φ H ds ws ∧ Frm φ H ∧ ¬ φ p ∧ s ≠ p ∧ PoolOk p s ns H ∧ Pre ds ∧
  ∀ v d H', R ds d → ButP p H H' → PoolOk p s ns H' → Rep K φ H' d v → Q v H'
section
variable {K : PySem.W.Frag} {φ φ' : Addr → Prop} {J J' : Hp → Prop} {H H' H1 : Hp} {ρ ρ' : List (Option D)} {σ : L2.St} {ta : TA} {te tb : TE} {x y z d : D} {P Pa Pb : D → Prop} {ds es : List D} {v : V} {D0 : Ends} {t u : TS}
theorem mo_butP {p : Addr} {H0 : Hp} (h : ∀ a, H0 a ≠ none → H a ≠ none) : Mo H (ButP p H0) := fun H1 H2 k j a o n e => k a o (h a (by rw [e]; exact fun z => by cases z)) (j a o n e)
theorem butP_tr {p s : Addr} {ns : List Int} (b : ButP p H H') (o : PoolOk p s ns H') : ∀ a, H a ≠ none → H' a ≠ none := fun a h => by
  by_cases e : a = p
  · obtain ⟨_, _, _, _, e1, _⟩ := o
    rw [e, e1]
    exact fun z => by cases z
  · cases q : H a with
    | none => exact absurd q h
    | some u => rw [b a u e q]; exact fun z => by cases z
abbrev JB (p s : Addr) (ns : List Int) (H0 : Hp) : Hp → Prop := fun H' => PoolOk p s ns H' ∧ ButP p H0 H'
theorem pooledB {p s : Addr} {ns : List Int} {H0 : Hp} (np : ¬ φ p) (ne : s ≠ p) : Pooled φ (JB p s ns H0) p s ns := ⟨np, ne, fun _ h => h.1, fun _ _ h k o => ⟨o, h.2.trans k⟩⟩
theorem ev_callP {n k : Nat} {Pre Pr : List D → Prop} {R : List D → D → Prop} {E : XK} {p s : Addr} {ns : List Int} (hp : Pooled φ J p s ns) (hk : ρ[k]? = some (some (.raw (.ref p)))) (ha : EvA K φ J ta ρ Pr) (hr : ∀ ds, Pr ds → ds.length = n ∧ Pre ds) :
    EvP K φ J (tCall (SpP K n Pre R) [] E (tCons (tVar k) ta)) ρ (fun d => ∃ ds, Pr ds ∧ R ds d) := fun σ H A Q q =>
  ev_var hk σ H A _ fun v d H1 b1 A1 e1 r1 => ha σ H1 A1 _ fun vs ds H2 b2 A2 pd r2 => by
    subst e1
    cases (show v = _ from r1)
    obtain ⟨hl, pre⟩ := hr ds pd
    refine ⟨φ, p, s, ns, ds, vs, by rw [List.append_nil], hl, r2, A2.fr, hp.np, hp.ne, hp.ok _ A2.j, pre, fun v d H' rd bp po r => ?_⟩
    have bt : But φ H2 H' := butP_but bp hp.np po
    have bt' : ∀ a, H2 a ≠ none → H' a ≠ none := bt.tr
    refine q v d H' ((b1.trans b2).trans bt) ⟨A2.sr.up (Up.of bt), A2.fr.butP bp po bt', hp.st _ _ A2.j bp po, A2.mono.up bt'⟩ ⟨ds, pd, rd⟩ r
section
variable {PP : Program} {w : World} {mg : Str → Option Value} {base : Heap}
/-- .. keeps its promise -/
theorem fn_okP {x qual : Str} {st : Stmt} {f : Addr} {fd : FuncData} {N ps : List Str} {k n : Nat} {Pre : List D → Prop} {R : List D → D → Prop} (F : Fun K x qual st f fd) (S : FnScope N ps (defScope st)) (hn : ps.length = n + 1) (m : Nat) (hm : N.length = n + 1 + m)
    (hbody : ∀ (cdv : Value) (A : Around) (outer : List Env) (s : Shared) (H : Hp) (E : XK), Room k (A.deeper (envOfC qual (defScope st) s.heap.objs.size f cdv)) →
      ∃ t, PSs (cxOf CX0 PP w K mg base N qual (defScope st) f cdv A outer s H E).nox (defBody st) t ∧
        ∀ (φ : Addr → Prop) (p q : Addr) (ns : List Int) (ds : List D) (H : Hp) (D0 : Ends) (σ : L2.St), ds.length = n → Pre ds → ¬ φ p → q ≠ p → (∀ v d H', R ds d → JB p q ns H H' → Rep K φ H' d v → D0.rt v H') → At K φ (JB p q ns H) (some (.raw (.ref p)) :: (ds.map some ++ List.replicate m none)) σ H → t D0 σ H) :
    FnOk PP w K mg base CX0 (k + 1) f fd ps (SpP K n Pre R) := by
  refine F.ok S (fun vs H Q E h => ?_) (fun cdv A outer s H vs Q E hr h => ?_)
  · obtain ⟨φ, p, s, ns, ds, ws, rfl, hl, r, _⟩ := h
    rw [List.length_cons, r.length, hl, hn]
  · obtain ⟨φ, p, s', ns, ds, ws, rfl, hl, r, fr, np, ne, po, pre, q⟩ := h
    obtain ⟨t, ht, run⟩ := hbody cdv A outer s H E hr
    refine ⟨t, ht, run φ p s' ns ds H _ _ hl pre np ne (fun v d H' rd j r => q v d H' rd j.2 j.1 r) ⟨?_, fr, ⟨po, ButP.of (Same.refl H)⟩, (mo_poolOf po).and (mo_butP fun _ h => h)⟩⟩
    have e : N.length - (V.ref p :: ws).length = m := by rw [hm, List.length_cons, r.length, hl]; omega
    unfold L2.start
    rw [e]
    have z := SR.start (K := K) (φ := φ) (H := H) (ds := .raw (.ref p) :: ds) (vs := .ref p :: ws) (n := m) (Reps.cons rfl r)
    exact z
end
end

-- import HandS.Lambda
/-! ### one table of code objects, and defs that write there -/
def TabJ (P : Addr) (q : Str) (ps : Array Value) (H : Hp) : Prop := H P = some (.tbl ps) ∧ TriplesOk ps.toList ∧ ∀ (pos : Pos) (cv : Value), codeAmong pos ps.toList = some cv → ∃ c, cv = .ref c ∧ H c = some (LamX.CodeO c q)
section
variable {K : PySem.W.Frag} {φ φ' : Addr → Prop} {J : Array Value → Hp → Prop} {H H' H0 H1 : Hp} {ρ ρ' : List (Option D)} {σ : L2.St} {ta : TA} {te tb : TE} {x y z d : D} {P : D → Prop} {Pr : List D → Prop} {ds es : List D} {v : V} {D0 : Ends} {t u : TS} {C p s : Addr} {q : Str} {ps ps' : Array Value} {ns : List Int}
theorem TabJ.nil (h : H C = some (.tbl #[])) : TabJ C q #[] H := ⟨h, True.intro, fun pos cv hc => by
  have z : codeAmong pos [] = some cv := hc
  simp [codeAmong] at z⟩
theorem TabJ.tabs (h : TabJ C q ps H) : LamX.Tabs [(C, q)] H := fun p hp => by
  rw [List.mem_singleton.mp hp]
  exact ⟨ps, h.1, h.2.1, h.2.2⟩
theorem tabs_J (h : LamX.Tabs [(C, q)] H) : ∃ ps, TabJ C q ps H := h (C, q) (List.mem_singleton.mpr rfl)
theorem TabJ.mo (h : TabJ C q ps H) : Mo H (TabJ C q ps) := fun H1 H2 k j => ⟨k C _ (by rw [h.1]; exact fun z => by cases z) j.1, j.2.1, fun pos cv hc => by
  obtain ⟨c, e, hc1⟩ := j.2.2 pos cv hc
  obtain ⟨c0, e0, h0⟩ := h.2.2 pos cv hc
  rw [e] at e0
  cases e0
  exact ⟨c, e, k c _ (by rw [h0]; exact fun z => by cases z) hc1⟩⟩
theorem TabJ.butP (h : TabJ C q ps H) (hp : C ≠ p) (b : ButP p H H') (hl : ∃ xs, H p = some (.lst xs)) : TabJ C q ps H' := ⟨b C _ hp h.1, h.2.1, fun pos cv hc => by
  obtain ⟨c, e, hc1⟩ := h.2.2 pos cv hc
  refine ⟨c, e, b c _ (fun z => ?_) hc1⟩
  obtain ⟨xs, h2⟩ := hl
  rw [z, h2] at hc1
  cases hc1⟩
theorem TabJ.same (h : TabJ C q ps H) (b : Same H H') : TabJ C q ps H' := ⟨b C _ h.1, h.2.1, fun pos cv hc => by
  obtain ⟨c, e, hc1⟩ := h.2.2 pos cv hc
  exact ⟨c, e, b c _ hc1⟩⟩
theorem butP_trT (b : ButP C H H') (t : TabJ C q ps H') : ∀ a, H a ≠ none → H' a ≠ none := fun a h => by
  by_cases e : a = C
  · rw [e, t.1]
    exact fun z => by cases z
  · cases z : H a with
    | none => exact absurd z h
    | some u => rw [b a u e z]; exact fun z => by cases z
theorem butP_butT (b : ButP C H H') (np : ¬ φ C) (t : TabJ C q ps H') : But φ H H' := ⟨fun a u pa e => b a u (fun z => np (z ▸ pa)) e, butP_trT b t⟩
theorem Frm.butT (F : Frm φ H) (b : ButP C H H') (t : TabJ C q ps H') : Frm φ H' := ⟨fun a h => F.new a (by
  cases e : H a with
  | none => rfl
  | some u => exact absurd h (butP_trT b t a (by rw [e]; exact fun z => by cases z))), fun a xs h => by
  cases e : H a with
  | none => exact F.new a e
  | some u =>
    by_cases ea : a = C
    · subst ea
      rw [t.1] at h
      cases h
    · have z := b a u ea e
      rw [h] at z
      cases z
      exact F.tup a xs e⟩
/-- what is told beside the table stays where all but the table stays -/
structure TblF (φ : Addr → Prop) (C : Addr) (q : Str) (J : Array Value → Hp → Prop) : Prop where
  np : ¬ φ C
  ok : ∀ ps H, J ps H → TabJ C q ps H
  st : ∀ ps ps' H H', J ps H → ButP C H H' → TabJ C q ps' H' → J ps' H'
  mo : ∀ ps H, J ps H → Mo H (J ps)
theorem TblF.but (T : TblF φ C q J) : TblF φ C q (fun ps H => J ps H ∧ But φ H1 H) := ⟨T.np, fun ps H h => T.ok _ _ h.1, fun ps ps' H H' h b t => ⟨T.st _ _ _ _ h.1 b t, h.2.trans (butP_butT b T.np t)⟩, fun ps H h => (T.mo _ _ h.1).and (Mo.but h.2.tr)⟩
def JT (C : Addr) (q : Str) (H0 : Hp) (ps : Array Value) : Hp → Prop := fun H' => ButP C H0 H' ∧ TabJ C q ps H'
theorem tblT (np : ¬ φ C) : TblF φ C q (JT C q H0) := ⟨np, fun ps H h => h.2, fun ps ps' H H' h b t => ⟨h.1.trans b, t⟩, fun ps H h => (mo_butP (butP_trT h.1 h.2)).and h.2.mo⟩
def JPT (p s : Addr) (ns : List Int) (C : Addr) (q : Str) (ps : Array Value) : Hp → Prop := fun H => PoolOk p s ns H ∧ TabJ C q ps H
theorem tblP (np : ¬ φ C) (h1 : p ≠ C) (h2 : s ≠ C) : TblF φ C q (JPT p s ns C q) := ⟨np, fun ps H h => h.2, fun ps ps' H H' h b t => ⟨by
  obtain ⟨a, c, n, z, e1, e2, h⟩ := h.1
  exact ⟨a, c, n, z, b _ _ h1 e1, b _ _ h2 e2, h⟩, t⟩, fun ps H h => (mo_poolOf h.1).and h.2.mo⟩
theorem pooledT (np : ¬ φ p) (ne : s ≠ p) (h1 : C ≠ p) : Pooled φ (JPT p s ns C q ps) p s ns := ⟨np, ne, fun _ h => h.1, fun H H' h b o => ⟨o, h.2.butP h1 b (by
  obtain ⟨_, _, _, _, e1, _⟩ := h.1
  exact ⟨_, e1⟩)⟩⟩
theorem At.tbl (T : TblF φ C q J) (A : At K φ (J ps) ρ σ H) (b : ButP C H H') (t : TabJ C q ps' H') : At K φ (J ps') ρ σ H' := ⟨A.sr.up (Up.of (butP_butT b T.np t)), A.fr.butT b t, T.st _ _ _ _ A.j b t, T.mo _ _ (T.st _ _ _ _ A.j b t)⟩
/-! ### .. and what is read then -/
def EvU (K : PySem.W.Frag) (φ : Addr → Prop) (J : Array Value → Hp → Prop) (te : TE) (ρ : List (Option D)) (P : D → Prop) : Prop := ∀ ps σ H, At K φ (J ps) ρ σ H → ∀ Q : VK, (∀ v d ps' H', But φ H H' → At K φ (J ps') ρ σ H' → P d → Rep K φ H' d v → Q v H') → te σ H Q
def EvAU (K : PySem.W.Frag) (φ : Addr → Prop) (J : Array Value → Hp → Prop) (ta : TA) (ρ : List (Option D)) (P : List D → Prop) : Prop := ∀ ps σ H, At K φ (J ps) ρ σ H → ∀ Q : List V → Hp → Prop, (∀ vs ds ps' H', But φ H H' → At K φ (J ps') ρ σ H' → P ds → Reps K φ H' ds vs → Q vs H') → ta σ H Q
def EvTU (K : PySem.W.Frag) (φ : Addr → Prop) (J : Array Value → Hp → Prop) (tt : TT) (ρ : List (Option D)) (p : Bool → Prop) : Prop := ∀ ps σ H, At K φ (J ps) ρ σ H → ∀ Q : Bool → Hp → Prop, (∀ b ps' H', But φ H H' → At K φ (J ps') ρ σ H' → p b → Q b H') → tt σ H Q
theorem eu_of (h : ∀ ps, EvP K φ (J ps) te ρ P) : EvU K φ J te ρ P := fun ps σ H A Q q => h ps σ H A Q fun v d H' b A' pd r => q v d ps H' b A' pd r
theorem eau_of (h : ∀ ps, EvA K φ (J ps) ta ρ Pr) : EvAU K φ J ta ρ Pr := fun ps σ H A Q q => h ps σ H A Q fun v d H' b A' pd r => q v d ps H' b A' pd r
theorem eau_cons (h : EvU K φ J te ρ P) (hs : EvAU K φ J ta ρ Pr) : EvAU K φ J (tCons te ta) ρ (fun l => ∃ d r, l = d :: r ∧ P d ∧ Pr r) := fun ps σ H A Q q =>
  h ps σ H A _ fun v d ps1 H1 b1 A1 pd r1 => hs ps1 σ H1 A1 _ fun vs ds ps2 H2 b2 A2 pr r2 => q (v :: vs) (d :: ds) ps2 H2 (b1.trans b2) A2 ⟨d, ds, rfl, pd, pr⟩ (Reps.cons (r1.mono b2) r2)
theorem eu_call {n : Nat} {R : List D → D → Prop} {E : XK} (ha : EvAU K φ J ta ρ Pr) (hr : ∀ ds, Pr ds → ∃ d, ds.length = n ∧ R ds d ∧ P d) : EvU K φ J (tCall (SpD K n R) [] E ta) ρ P := fun ps σ H A Q q =>
  ha ps σ H A _ fun vs ds ps1 H1 b1 A1 pd r1 => by
    obtain ⟨d, hl, hd, pd'⟩ := hr ds pd
    refine ⟨φ, ds, d, hl, by rw [List.append_nil]; exact r1, A1.fr, hd, fun v H' s r => ?_⟩
    exact q v d ps1 H' (b1.trans (But.of s)) (A1.same s) pd' r
/-- the promise of a def that may make a lambda -/
def SpT (K : PySem.W.Frag) (C : Addr) (q : Str) (n : Nat) (R : List D → D → Prop) : Sp := fun vs H Q _ => ∃ φ ds d ps, ds.length = n ∧ Reps K φ H ds vs ∧ Frm φ H ∧ ¬ φ C ∧ TabJ C q ps H ∧ R ds d ∧ ∀ v ps' H', ButP C H H' → TabJ C q ps' H' → Rep K φ H' d v → Q v H'
theorem eu_callT {n : Nat} {R : List D → D → Prop} {E : XK} (T : TblF φ C q J) (ha : EvAU K φ J ta ρ Pr) (hr : ∀ ds, Pr ds → ∃ d, ds.length = n ∧ R ds d ∧ P d) : EvU K φ J (tCall (SpT K C q n R) [] E ta) ρ P := fun ps σ H A Q k =>
  ha ps σ H A _ fun vs ds ps1 H1 b1 A1 pd r1 => by
    obtain ⟨d, hl, hd, pd'⟩ := hr ds pd
    refine ⟨φ, ds, d, ps1, hl, by rw [List.append_nil]; exact r1, A1.fr, T.np, T.ok _ _ A1.j, hd, fun v ps' H' b t r => ?_⟩
    exact k v d ps' H' (b1.trans (butP_butT b T.np t)) (At.tbl T A1 b t) pd' r
theorem etu_B {p : Bool → Prop} (h : EvU K φ J te ρ (fun d => ∃ b, d = .bl b ∧ p b)) : EvTU K φ J (tB te) ρ p := fun ps σ H A Q q => h ps σ H A _ fun v d ps' H' bt A' ⟨b, e, pb⟩ r => by
  subst e
  cases (show v = _ from r)
  exact et_B (b := b) (ev_bl (K := K) (φ := φ) (J := J ps') (ρ := ρ) (b := b)) σ H' A' Q fun b' H2 b2 A2 e => q b' ps' H2 (bt.trans b2) A2 (e ▸ pb)
theorem etu_not {t1 : TT} {p : Bool → Prop} (ha : EvTU K φ J t1 ρ p) : EvTU K φ J (tNot t1) ρ (fun x => p (!x)) := fun ps σ H A Q q => ha ps σ H A _ fun k ps' H1 b1 A1 e1 => q _ ps' H1 b1 A1 (by show p (!(!k)); rw [Bool.not_not]; exact e1)
theorem st_noJ {tt : TT} (A : At K φ (J ps) ρ σ H) (h : EvTU K φ J tt ρ (fun b => b = false)) (k2 : ∀ ps' H', At K φ (J ps') ρ σ H' → u D0 σ H') : tIfS tt t u D0 σ H :=
  h ps σ H A _ fun b ps' H' bt A' pb => by
    subst pb
    rw [if_neg (by simp)]
    exact k2 ps' H' A'
theorem st_retJ (A : At K φ (J ps) ρ σ H) (h : EvU K φ J te ρ P) (kk : ∀ v d ps' H', P d → At K φ (J ps') ρ σ H' → Rep K φ H' d v → D0.rt v H') : tRet te D0 σ H :=
  h ps σ H A _ fun v d ps' H' b A' pd r => kk v d ps' H' pd A' r
section
variable {PP : Program} {w : World} {mg : Str → Option Value} {base : Heap}
/-- Fun, its code object told -/
structure FunC (K : PySem.W.Frag) (x qual : Str) (st : Stmt) (f : Addr) (fd : FuncData) (c : Addr) : Prop where
  ex : ∃ (oc : Value) (od : Option Addr) (kV doc pm : Value) (an : Option Addr) (ct : Value) (osl : Array (Option Value)),
    fd = PySem.W.fnOf x qual (defArgs st) (defBody st) (defScope st) .none kV doc pm an (.ref c) ct ∧ K.lookup f = some ⟨oc, od, .func fd, osl⟩ ∧ PySem.W.codeIn K (.ref c) qual = true
  kp : PySem.W.keepIn K (.ref f) = true
theorem FunC.fn {x qual : Str} {st : Stmt} {f c : Addr} {fd : FuncData} (F : FunC K x qual st f fd c) : Fun K x qual st f fd := by
  obtain ⟨⟨oc, od, kV, doc, pm, an, ct, osl, h⟩, k⟩ := F
  exact ⟨⟨oc, od, kV, doc, pm, an, _, ct, osl, h⟩, k⟩
theorem funC_mk {x qual : Str} {st : Stmt} {f c : Addr} {oc : Value} {od an : Option Addr} {osl : Array (Option Value)} {kV doc pm ct : Value} (l : K.lookup f = some ⟨oc, od, .func (PySem.W.fnOf x qual (defArgs st) (defBody st) (defScope st) .none kV doc pm an (.ref c) ct), osl⟩)
    (hc : PySem.W.codeIn K (.ref c) qual = true) (k : PySem.W.keepIn K (.ref f) = true) : FunC K x qual st f (PySem.W.fnOf x qual (defArgs st) (defBody st) (defScope st) .none kV doc pm an (.ref c) ct) c := ⟨⟨oc, od, kV, doc, pm, an, ct, osl, rfl, l, hc⟩, k⟩
theorem fn_okT {x qual : Str} {st : Stmt} {f c : Addr} {fd : FuncData} {N ps : List Str} {k n : Nat} {R : List D → D → Prop} (F : FunC K x qual st f fd c) (S : FnScope N ps (defScope st)) (hn : ps.length = n) (m : Nat) (hm : N.length = n + m)
    (hbody : ∀ (A : Around) (outer : List Env) (s : Shared) (H : Hp) (E : XK), Room k (A.deeper (envOfC qual (defScope st) s.heap.objs.size f (.ref c))) →
      ∃ t, PSs (cxOf CX0 PP w K mg base N qual (defScope st) f (.ref c) A outer s H E).nox (defBody st) t ∧
        ∀ (φ : Addr → Prop) (ds : List D) (d : D) (H : Hp) (tb : Array Value) (D0 : Ends) (σ : L2.St), ds.length = n → R ds d → ¬ φ C → (∀ v ps' H', JT C q H ps' H' → Rep K φ H' d v → D0.rt v H') → At K φ (JT C q H tb) (ds.map some ++ List.replicate m none) σ H → t D0 σ H) :
    FnOk PP w K mg base CX0 (k + 1) f fd ps (SpT K C q n R) := by
  obtain ⟨oc, od, kV, doc, pm, an, ct, osl, rfl, lk, hcd⟩ := F.ex
  refine fn_of lk hcd S (fun vs H Q E h => ?_) (fun A outer s H vs Q E hr h => ?_)
  · obtain ⟨φ, ds, d, tb, hl, r, _⟩ := h
    rw [r.length, hl, hn]
  · obtain ⟨φ, ds, d, tb, hl, r, fr, np, tj, hd, k⟩ := h
    obtain ⟨t, ht, run⟩ := hbody A outer s H E hr
    refine ⟨t, ht.nox, run φ ds d H tb _ _ hl hd np (fun v ps' H' j r => k v ps' H' j.1 j.2 r) ⟨?_, fr, ⟨ButP.of (Same.refl H), tj⟩, (mo_butP fun _ h => h).and tj.mo⟩⟩
    have e : N.length - vs.length = m := by rw [hm, r.length, hl]; omega
    unfold L2.start
    rw [e]
    exact SR.start r
end
/-! ### a test of a pair, as a lambda -/
/-- what a def asks that gets a value and a test of pairs -/
def TTest (K : PySem.W.Frag) (R : D → (Int × Int → Bool) → D → Prop) : V → (V → Hp → VK → Prop) → Hp → VK → Prop := fun v1 tl H Q => ∃ (φ : Addr → Prop) (d1 : D) (test : Int × Int → Bool) (d : D), Rep K φ H d1 v1 ∧ Frm φ H ∧ R d1 test d ∧
  (∀ pr v H' (Q' : VK), Same H H' → Frm φ H' → Rep K φ H' (prDD pr) v → (∀ H2, Same H' H2 → Q' (.bl (test pr)) H2) → tl v H' Q') ∧ ∀ v H', Same H H' → Rep K φ H' d v → Q v H'
def tActL (f c' : Addr) (q : Str) (tl : V → Hp → VK → Prop) (ta : TA) : TE := fun σZ HZ Q => σZ[1]? = some (some (.ref f)) ∧ ta σZ HZ fun vs H2 => ∃ v, vs = [v] ∧ H2 c' = some (LamX.CodeO c' q) ∧ tl v H2 Q
theorem ev_act {Jn : Hp → Prop} {f c' : Addr} {tl : V → Hp → VK → Prop} {test : Int × Int → Bool} {pr : Int × Int} (hf : ρ[1]? = some (some (.raw (.ref f)))) (hJ : ∀ H, Jn H → H c' = some (LamX.CodeO c' q) ∧ Same H0 H)
    (cl : ∀ pr v H' (Q' : VK), Same H0 H' → Frm φ H' → Rep K φ H' (prDD pr) v → (∀ H2, Same H' H2 → Q' (.bl (test pr)) H2) → tl v H' Q') (ha : EvAD K φ Jn ta ρ [prDD pr]) : EvD K φ Jn (tActL f c' q tl ta) ρ (.bl (test pr)) := fun σ H A Q k => by
  obtain ⟨v0, e0, r0⟩ := A.sr.2 1 _ hf
  cases (show v0 = _ from r0)
  refine ⟨e0, ha σ H A _ fun vs ds H1 b1 A1 e r => ?_⟩
  subst e
  obtain ⟨v, vs', rfl, rv, rs⟩ := r
  cases (show vs' = [] from rs)
  obtain ⟨h1, h2⟩ := hJ _ A1.j
  exact ⟨v, rfl, h1, cl pr v H1 Q h2 A1.fr rv fun H2 s2 => k _ _ H2 (b1.trans (But.of s2)) (A1.same s2) rfl rfl⟩
/-- x(e, lambda y: body), read -/
theorem eu_lam {R : D → (Int × Int → Bool) → D → Prop} {ix : Nat} {tl : TE} {test : Int × Int → Bool} {d1 d : D} (T : TblF φ C q J) (hd1 : ∀ ps, EvD K φ (J ps) te ρ d1) (hR : R d1 test d)
    (ht : ∀ pr (J' : Hp → Prop), EvD K φ J' tl (ρ.set ix (some (prDD pr))) (.bl (test pr))) : EvU K φ J (tLam1 C [(C, q)] (TTest K R) ix te tl) ρ (fun z => z = d) := fun ps σ H A Q k =>
  hd1 ps σ H A _ fun v1 d' H1 b1 A1 e r1 => by
    subst e
    refine ⟨(T.ok _ _ A1.j).tabs, fun H2 bp t2 => ?_⟩
    obtain ⟨ps', tj⟩ := tabs_J t2
    have A2 : At K φ (J ps') ρ σ H2 := At.tbl T A1 bp tj
    have b2 := butP_butT (φ := φ) bp T.np tj
    refine ⟨φ, _, test, d, r1.mono b2, A2.fr, hR, fun pr v H' Q' sm fr rv kq => ?_, fun v H' sm r => k v d ps' H' ((b1.trans b2).trans (But.of sm)) (A2.same sm) rfl r⟩
    have A3 : At K φ (Same H') ρ σ H' := (A2.same sm).live (Same.refl H') (Mo.sames fun _ h => h)
    refine ht pr (Same H') _ H' (A3.set ix rv) Q' fun v d' H3 _ A4 e r => ?_
    subst e
    cases (show v = _ from r)
    exact kq H3 A4.j
end

-- import HandS.SetFor
-- import HandS.Strs
/-! ### sorted(set(xs)), xs a list of ints -/
abbrev emptyO (w : World) : Obj := { cls := .type "set", dict := none, data := .set #[] 0 (.fresh 0 0 (!w.params.followText "set-order")) }
section
variable {P : Program} {w : World} {A : Around} {E : Value → Shared → Prop} {s : Shared}
/-- what the set's own __init__ leaves behind -/
def Filled (w : World) (s : Shared) (ns : List Int) (r : Value) (s2 : Shared) : Prop := r = .none ∧ ∃ (h2 : Heap) (tk c : Nat), s2 = { s with heap := h2, toks := tk } ∧ SetR w h2 s.heap.objs.size (fun j => decide (j ∈ ns)) c ∧ c ≤ ns.length ∧ ∀ b o, s.heap.get? b = some o → h2.get? b = some o
theorem ints_val {its : Array Value} {ns : List Int} (ii : IntsAre its.toList ns) (i : Nat) (v : Value) (hv : its[i]? = some v) : ∃ k t, ns[i]? = some k ∧ v = .int k t := by
  have hz : its.size = ns.length := by rw [← IntsAre.length ii, Array.length_toList]
  have hi : i < ns.length := hz ▸ (Array.getElem?_eq_some_iff.mp hv).1
  obtain ⟨t, e⟩ := PyProof.Rows.IntsAre.int_at ii i v (by rw [Array.getElem?_toList]; exact hv)
  exact ⟨ns[i], t, List.getElem?_eq_getElem hi, by rw [e, List.getD_eq_getElem?_getD, List.getElem?_eq_getElem hi]; rfl⟩
set_option maxRecDepth 100000 in
set_option maxHeartbeats 3200000 in
theorem set_of_list {l : Addr} {its : Array Value} (ns : List Int) {Q : Value → Shared → Prop} (nh : A.handled = none) (il : s.heap.IsList l its) (ii : IntsAre its.toList ns) (small : ns.length + 1 < scanBound)
    (k : ∀ (h2 : Heap) (tk c : Nat), SetR w h2 s.heap.objs.size (fun j => decide (j ∈ ns)) c → c ≤ ns.length → (∀ b o, s.heap.get? b = some o → h2.get? b = some o) → Q (.ref s.heap.objs.size) { s with heap := h2, toks := tk }) :
    wpAny (model P w) A (call (.type "set") [.ref l]) Q E s := by
  have sz : its.size = ns.length := by rw [← IntsAre.length ii, Array.length_toList]
  obtain ⟨cc, tl, mro⟩ := F.called_set.mro
  have made := F.called_set.made; have sub := F.called_set.sub
  refine wpAny_call (codeAny_of_tree (by
    show wpAny _ _ (callAny (.type "set") _) _ _ _
    refine wpAny_pure ⟨Code.quiet_builtin _ (by decide +kernel), codeAny_builtin F.entry_type_call ?_⟩
    rw [Around.under_plain (weight_type_call_type "set" [.ref l] []) rfl]
    have n1 := F.called_set.notType; have n2 := F.called_set.canCreate; have n3 := F.typeCall_set_1 (.ref l)
    repeat (any_goals (first | assumption | wp_step))
    refine codeAny_mono (code_set_led1 (.ref l) (E := E) (Q₁ := fun ob t => ob = .ref s.heap.objs.size ∧ t = { s with heap := s.heap.push (emptyO w) }) ⟨rfl, rfl⟩) fun r t hr => ?_
    rcases r with e | fl
    · exact hr
    cases fl with
    | ret ob =>
      obtain ⟨rfl, rfl⟩ := hr
      have hS : (s.heap.push (emptyO w)).get? s.heap.objs.size = some (emptyO w) := Heap.get?_push_size _ rfl
      have hT : Shared.TypeIs { s with heap := s.heap.push (emptyO w) } (.ref s.heap.objs.size) "set" := ⟨_, hS, rfl⟩
      have f1 := F.called_set.init.lookup; have f2 := F.called_set.init.bind (.ref s.heap.objs.size)
      repeat (any_goals (first | assumption | wp_step))
      refine codeAny_mono (codeAny_call_builtin (R := wants (Filled w s ns) E) F.called_set.init.plain F.entry_set_init (check_set_init_1 hT ?_)) fun r2 t2 hr2 => ?_
      · obtain ⟨⟨oc, od, oda, osl⟩, hol, hcl, nl, hdl⟩ := il
        simp only at hcl hdl
        subst hcl hdl
        have hol1 : (s.heap.push (emptyO w)).get? l = some { cls := .type "list", dict := od, data := .seq its nl, slots := osl } := Heap.get?_push_of_some _ hol
        have g1 := F.sub_list_set; have g2 := F.sub_list_frozenset
        have g3 : (Value.type "list" == Value.type "dict") = false := by decide
        have il1 : (s.heap.push (emptyO w)).IsList l its := ⟨_, hol1, rfl, nl, rfl⟩
        unfold Builtin.«set.__init__» noKeywords Builtin.Frozenset.updateFrom
        generalize hI : pyIter = PI
        wp_walk
        subst hI
        refine wpAny_pyIter_list il1 (wpAny_bind (wpAny_runValue ?_))
        have ls : l < s.heap.objs.size := Heap.lt_size hol
        have nh3 : A.in1.in1.in1.handled = none := by simp [nh]
        have z1 : (s.heap.push (emptyO w)).objs.size = s.heap.objs.size + 1 := Heap.size_push ..
        have ne1 : l ≠ (s.heap.push (emptyO w)).objs.size := by
          rw [z1]
          exact Nat.ne_of_lt (Nat.lt_succ_of_lt ls)
        have ne2 : s.heap.objs.size ∉ [(s.heap.push (emptyO w)).objs.size, l] := by
          rw [z1, List.mem_cons, List.mem_singleton, not_or]
          exact ⟨Nat.ne_of_lt (Nat.lt_succ_self _), Nat.ne_of_gt ls⟩
        refine set_update_ints ((Walks.list nh3 _ l ne1 its).toS) s.heap.objs.size ne2 ns sz small (ints_val ii) (its.size - 0) 0 _ (by omega) (Nat.zero_le _) ⟨⟨_, Heap.get?_push_size _ rfl, rfl, rfl⟩, il1.push _⟩ ⟨0, Nat.le_refl 0, setR_new_at (Heap.get?_push_of_some _ hS)⟩ fun t3 c3 hm hc3 hS3 => ?_
        obtain ⟨h3, q1, q2, q3, q4⟩ := t3
        obtain rfl : q1 = s.gens := hm.gens
        obtain rfl : q2 = s.drawn := hm.drawn
        obtain rfl : q4 = s.os := hm.os
        show wpAny _ _ _ _ _ _
        refine wpAny_pure ?_
        show wpAny _ _ (ret Value.none) _ _ _
        rw [sz] at hc3
        refine wpAny_pure ⟨rfl, h3, q3, c3, rfl, hS3, hc3, fun b o e => ?_⟩
        have b0 : b < s.heap.objs.size := Heap.lt_size e
        exact hm.heap b o (by rw [List.mem_cons, List.mem_singleton, z1, not_or]; exact ⟨Nat.ne_of_lt b0, Nat.ne_of_lt (Nat.lt_succ_of_lt b0)⟩) (Heap.get?_push_of_some _ (Heap.get?_push_of_some _ e))
      · rcases r2 with e | fl2
        · exact hr2
        cases fl2 with
        | ret r =>
          obtain ⟨rfl, h2, tk, c, rfl, hS2, hc2, hk2⟩ := hr2
          repeat (any_goals (first | assumption | wp_step))
          exact k _ _ _ hS2 hc2 hk2
        | _ => exact hr2.elim
    | _ => exact hr.elim))
end
section
variable {X : Cx}
def rSetL (w : World) (K : PySem.W.Frag) : List V → Hp → VK → Prop := fun vs H Q => ∃ (a : Addr) (ns : List Int), vs = [V.ref a] ∧ SqL K H a (ns.map V.int) ∧ ns.length + 1 < scanBound ∧ ∀ (p : Addr) (c : Nat), H p = none → c ≤ ns.length → Q (.ref p) (upd H p (SetO w p (fun j => decide (j ∈ ns)) c))
theorem cr_setL (hc : X.calm = true) : CallR X (.type "set") (rSetL X.w X.K) := by
  intro pins s σ H vs us Q I r h
  obtain ⟨a, ns, rfl, hs, small, q⟩ := h
  obtain ⟨its, rv, hl, hz⟩ := I.list hs
  rw [Vals.ref1 r]
  refine set_of_list ns (I.ok.hd hc) hl.isList (by simpa using rv.ints) small fun h2 tk c R hcn k => ?_
  exact ⟨.ref _, upd H s.heap.objs.size (SetO X.w s.heap.objs.size (fun j => decide (j ∈ ns)) c), I.laid (t' := tk) k (Nat.le_refl _) (setO_new R), rfl, q _ c (I.hok.fresh (Nat.le_refl _)) hcn⟩
end
section
variable {K : PySem.W.Frag} {φ : Addr → Prop} {J : Hp → Prop} {ρ : List (Option D)}
theorem ev_sortSet {w : World} {te : TE} {ns : List Int} (ha : EvD K φ J te ρ (.lst (ns.map D.int))) (hl : ns.length < 60) :
    EvP K φ J (tCB (rSortedSet w) (tCons (tCB (rSetL w K) (tCons te tNil)) tNil)) ρ (fun z => ∃ os : List Int, z = .lst (os.map D.int) ∧ os.Pairwise (· < ·) ∧ ∀ k, k ∈ os ↔ k ∈ ns) := fun σ H A Q q =>
  ha σ H A _ fun v d H1 b1 A1 e r => by
    subst e
    obtain ⟨a, vs, rfl, p, rs⟩ := rep_lst r
    have ev := rs.ints
    subst ev
    refine ⟨a, ns, rfl, p.sq, by unfold scanBound; omega, fun b c hb hc => ?_⟩
    have A2 := A1.same (same_new (o := SetO w b (fun j => decide (j ∈ ns)) c) hb)
    refine ⟨b, _, c, rfl, upd_same, by omega, fun os p2 hs hm hn hp2 => ?_⟩
    exact q _ (.lst (os.map D.int)) _ ((b1.trans (But.of (same_new hb))).trans (But.of (same_new hp2))) (A2.same (same_new hp2)) ⟨os, rfl, hs, fun k => (hm k).trans decide_eq_true_iff⟩ ⟨p2, _, rfl, .inl ⟨A2.fr p2 hp2, .inl upd_same⟩, Reps.of_ints⟩
end

/-! ### sorted lists of ints -/
section
variable {P : Program} {w : World} {K : PySem.W.Frag} {mg : Str → Option Value} {base : Heap}
theorem c_sortedI {X : Cx} : CallR X (.builtin "sorted") (rSorted X.K) := cr_sorted
theorem ev_sortedI {φ : Addr → Prop} {J : Hp → Prop} {ρ : List (Option D)} {te : TE} {ns : List Int} (ha : EvD K φ J te ρ (.lst (ns.map D.int))) (hl : ns.length < 64) : EvP K φ J (tCB (rSorted K) (tCons te tNil)) ρ (fun z => ∃ ns' : List Int, z = .lst (ns'.map D.int) ∧ ns'.Perm ns ∧ ns'.Pairwise (· ≤ ·)) := ev_cbD (ea_cons ha ea_nil) fun H vs f r Q q => by
  obtain ⟨v, rfl, r1⟩ := r.one
  obtain ⟨a, rfl, h⟩ := rep_ints r1
  exact ⟨a, ns, rfl, h, hl, fun ns' p hp hs hn => q _ _ _ (same_new hn) ⟨ns', rfl, hp, hs⟩ ⟨p, _, rfl, .inl ⟨f p hn, .inl upd_same⟩, Reps.of_ints⟩⟩
theorem all_ints : ∀ {ys : List D}, (∀ y ∈ ys, ∃ i, y = .int i) → ∃ ns : List Int, ys = ns.map D.int
  | [], _ => ⟨[], rfl⟩
  | y :: ys, h => by
    obtain ⟨i, rfl⟩ := h y List.mem_cons_self
    obtain ⟨ns, rfl⟩ := all_ints fun z hz => h z (List.mem_cons_of_mem _ hz)
    exact ⟨i :: ns, rfl⟩
end

/-! ### plain trees: no raw values, a bounded depth, bounded lengths, texts within the bounds -/
def okD (s : Nat) : Nat → D → Bool
  | 0, _ => false
  | _ + 1, .non => true
  | _ + 1, .bl _ => true
  | _ + 1, .int _ => true
  | _ + 1, .str x => PyData.strOk x
  | n + 1, .tup ds => decide (ds.length ≤ s) && ds.all (okD s n)
  | n + 1, .lst ds => decide (ds.length ≤ s) && ds.all (okD s n)
  | _ + 1, .raw _ => false
  | _ + 1, .dk _ _ => false
  | _ + 1, .dt _ _ => false
theorem okD_raw {s n : Nat} {d : D} (h : okD s n d = true) : isRaw d = false := by
  cases n with
  | zero => cases h
  | succ n => cases d <;> first | rfl | cases h
theorem okD_tup {s n : Nat} {es : List D} : okD s (n + 1) (.tup es) = true ↔ es.length ≤ s ∧ ∀ x ∈ es, okD s n x = true := by
  show (decide (es.length ≤ s) && es.all (okD s n)) = true ↔ _
  rw [Bool.and_eq_true, decide_eq_true_eq, List.all_eq_true]
theorem okD_lst {s n : Nat} {es : List D} : okD s (n + 1) (.lst es) = true ↔ es.length ≤ s ∧ ∀ x ∈ es, okD s n x = true := by
  show (decide (es.length ≤ s) && es.all (okD s n)) = true ↔ _
  rw [Bool.and_eq_true, decide_eq_true_eq, List.all_eq_true]
theorem okD_mono {s s' : Nat} (hs : s ≤ s') : ∀ {n n' : Nat} {d : D}, n ≤ n' → okD s n d = true → okD s' n' d = true := by
  intro n
  induction n with
  | zero => intro n' d _ h; cases h
  | succ n ih =>
    intro n' d hn h
    obtain ⟨k, rfl⟩ : ∃ k, n' = k + 1 := ⟨n' - 1, by omega⟩
    cases d with
    | tup ds =>
      rw [okD_tup] at h ⊢
      exact ⟨by omega, fun x hx => ih (by omega) (h.2 x hx)⟩
    | lst ds =>
      rw [okD_lst] at h ⊢
      exact ⟨by omega, fun x hx => ih (by omega) (h.2 x hx)⟩
    | str x => exact h
    | raw v => cases h
    | dk ks ds => cases h
    | dt ks ds => cases h
    | _ => rfl
theorem okD_okq {s : Nat} : ∀ {n : Nat} {d : D}, okD s n d = true → okq n d = true := by
  intro n
  induction n with
  | zero => intro d h; cases h
  | succ n ih =>
    intro d h
    cases d with
    | tup ds => exact List.all_eq_true.mpr fun x hx => ih ((okD_tup.mp h).2 x hx)
    | lst ds => exact List.all_eq_true.mpr fun x hx => ih ((okD_lst.mp h).2 x hx)
    | str x => exact h
    | raw v => cases h
    | dk ks ds => cases h
    | dt ks ds => cases h
    | _ => rfl
theorem okq_mono : ∀ {n n' : Nat} {d : D}, n ≤ n' → okq n d = true → okq n' d = true := by
  intro n
  induction n with
  | zero =>
    intro n' d _ h
    cases d with
    | tup ds => cases h
    | lst ds => cases h
    | raw v => cases h
    | dk ks ds => cases h
    | dt ks ds => cases h
    | str x => cases n' <;> exact h
    | _ => cases n' <;> rfl
  | succ n ih =>
    intro n' d hn h
    obtain ⟨k, rfl⟩ : ∃ k, n' = k + 1 := ⟨n' - 1, by omega⟩
    cases d with
    | tup ds => exact List.all_eq_true.mpr fun x hx => ih (by omega) (List.all_eq_true.mp h x hx)
    | lst ds => exact List.all_eq_true.mpr fun x hx => ih (by omega) (List.all_eq_true.mp h x hx)
    | str x => exact h
    | raw v => cases h
    | dk ks ds => cases h
    | dt ks ds => cases h
    | _ => rfl
theorem okD_okq' {s n n' : Nat} {d : D} (h : okD s n d = true) (hn : n ≤ n') : okq n' d = true := okq_mono hn (okD_okq h)
theorem okD_plain {s : Nat} (hs : s ≤ 1000000) : ∀ {n : Nat} {d : D}, okD s n d = true → plain n d = true := by
  intro n
  induction n with
  | zero => intro d h; cases h
  | succ n ih =>
    intro d h
    cases d with
    | tup ds =>
      have z := okD_tup.mp h
      simp only [plain, Bool.and_eq_true, decide_eq_true_eq, List.all_eq_true]
      exact ⟨by omega, fun x hx => ih (z.2 x hx)⟩
    | lst ds =>
      have z := okD_lst.mp h
      simp only [plain, Bool.and_eq_true, decide_eq_true_eq, List.all_eq_true]
      exact ⟨by omega, fun x hx => ih (z.2 x hx)⟩
    | raw v => cases h
    | dk ks ds => cases h
    | dt ks ds => cases h
    | _ => rfl
def isIntD : D → Bool
  | .int _ => true
  | _ => false
def intV : D → Int
  | .int i => i
  | _ => 0
theorem isIntD_ex {d : D} (h : isIntD d = true) : ∃ i, d = .int i := by
  cases d with
  | int i => exact ⟨i, rfl⟩
  | _ => cases h
theorem isIntD_of {d : D} (h : isRaw d = false) : (isT "int" d && !isT "bool" d) = isIntD d := by
  cases d <;> first | (cases h; done) | rfl
section
variable {K : PySem.W.Frag} {φ : Addr → Prop} {J : Hp → Prop} {ρ : List (Option D)} {te : TE} {x : D} {b : Bool} {t1 t2 : TT} {p : Bool → Prop}
theorem et_andP (ha : EvX K φ J t1 ρ b) (hb : b = true → EvT K φ J t2 ρ p) : EvT K φ J (tAnd t1 t2) ρ (fun x => (b = true ∧ p x) ∨ (b = false ∧ x = false)) := fun σ H A Q q => ha σ H A _ fun k H1 b1 A1 e1 => by
  subst e1
  cases k with
  | false => exact q false H1 b1 A1 (.inr ⟨rfl, rfl⟩)
  | true => exact hb rfl σ H1 A1 _ fun k H2 b2 A2 pk => q k H2 (b1.trans b2) A2 (.inl ⟨rfl, pk⟩)
theorem et_orP (ha : EvX K φ J t1 ρ b) (hb : b = false → EvT K φ J t2 ρ p) : EvT K φ J (tOr t1 t2) ρ (fun x => (b = false ∧ p x) ∨ (b = true ∧ x = true)) := fun σ H A Q q => ha σ H A _ fun k H1 b1 A1 e1 => by
  subst e1
  cases k with
  | true => exact q true H1 b1 A1 (.inr ⟨rfl, rfl⟩)
  | false => exact hb rfl σ H1 A1 _ fun k H2 b2 A2 pk => q k H2 (b1.trans b2) A2 (.inl ⟨rfl, pk⟩)
theorem et_cmpP {f : Int → Int → Bool} {ta tb : TE} {p q : Int → Prop} (ha : EvI K φ J ta ρ p) (hb : EvI K φ J tb ρ q) : EvT K φ J (tTest (tOp (rI0 fun i j => .bl (f i j)) ta tb)) ρ (fun k => ∃ i j, p i ∧ q j ∧ k = f i j) := et_testP (eb_cmp ha hb)
theorem et_eqP {ta tb : TE} {p q : Int → Prop} (ha : EvI K φ J ta ρ p) (hb : EvI K φ J tb ρ q) : EvT K φ J (tTest (tOp rEq ta tb)) ρ (fun k => ∃ i j, p i ∧ q j ∧ k = decide (i = j)) := et_testP (eb_eq ha hb)
theorem any_toPys {x : D} : ∀ ds : List D, ((toPys ds).any fun z => PyData.eqv z (toPy x)) = ds.any fun z => eqvD z x
  | [] => rfl
  | d :: ds => by
    show (PyData.eqv (toPy d) (toPy x) || (toPys ds).any _) = (eqvD d x || ds.any _)
    rw [any_toPys ds]
    rfl
/-- `in` a list of data -/
theorem ev_inQ {ta tb : TE} {ds : List D} (ha : EvD K φ J ta ρ x) (hb : EvD K φ J tb ρ (.lst ds)) (hx : okq 64 x = true) (hy : okq 64 (.lst ds) = true) : EvD K φ J (tOp (rInD K) ta tb) ρ (.bl (ds.any fun z => eqvD z x)) := ev_opD ha hb fun H v w _ r1 r2 Q q => by
  refine ⟨toPy x, toPys ds, dp_of x v 64 hx r1, dp_of _ w 64 hy r2, okq_shaped hx (Nat.le_refl _), okq_shaped hy (Nat.le_refl _), ?_⟩
  rw [any_toPys ds]
  exact q _ _ H (Same.refl H) rfl rfl
end
section
variable {P : Program} {w : World} {K : PySem.W.Frag} {mg : Str → Option Value} {base : Heap}
def RIsInt : List D → D → Prop := fun ds r => ∃ d, ds = [d] ∧ isRaw d = false ∧ r = .bl (isIntD d)
end

/-! ### masks: the loss at an offset -/
def maskD (ps : List (Int × Int)) : D := .tup (ps.map prDD)
def lossAt : List (Int × Int) → Int → Int × Int
  | a :: b :: r, x => if x < b.1 then (a.2 + (b.2 - a.2) * (x - a.1) / (b.1 - a.1), a.2 - (-((b.2 - a.2) * (x - a.1))) / (b.1 - a.1)) else lossAt (b :: r) x
  | [a], _ => (a.2, a.2)
  | [], _ => (0, 0)
def lastP (ps : List (Int × Int)) : Int × Int := ps.getLast?.getD (0, 0)
/-- a mask of small numbers -/
structure MaskOk (ps : List (Int × Int)) : Prop where
  ne : ps ≠ []
  len : ps.length ≤ 1000000
  z : ps[0]? = some (0, 0)
  inc : ∀ i a b, ps[i]? = some a → ps[i + 1]? = some b → a.1 < b.1 ∧ a.2 ≤ b.2
  sm : ∀ a ∈ ps, 0 ≤ a.1 ∧ a.1 ≤ 1000000 ∧ 0 ≤ a.2 ∧ a.2 ≤ 1000000
theorem atI_last1 {α : Type} {xs : List α} (h : 0 < xs.length) : L2.atI xs (-1) = xs[xs.length - 1]? := by
  have e : L2.ixN xs.length (-1) = some (xs.length - 1) := by
    unfold L2.ixN
    rw [if_neg (by decide), if_pos (by omega)]
    congr 1
    omega
  unfold L2.atI
  rw [e]
  rfl
theorem atI_last {ps : List (Int × Int)} (h : ps ≠ []) : L2.atI (ps.map prDD) (-1) = some (prDD (lastP ps)) := by
  have h0 : 0 < ps.length := List.length_pos_iff.mpr h
  have e : ps[ps.length - 1]? = some (lastP ps) := by
    unfold lastP
    rw [List.getLast?_eq_getElem?]
    rw [List.getElem?_eq_getElem (by omega)]
    rfl
  have e2 : (ps.map prDD)[ps.length - 1]? = some (prDD (lastP ps)) := by rw [List.getElem?_map, e]; rfl
  rw [atI_last1 (by rw [List.length_map]; exact h0), List.length_map]
  exact e2
def RLoss : List D → D → Prop := fun ds d => ∃ ps x, MaskOk ps ∧ ds = [maskD ps, .int x] ∧ d = prDD (lossAt ps x)
theorem lossAt_step {ps : List (Int × Int)} {i : Nat} {a b : Int × Int} {x : Int} (ha : ps[i]? = some a) (hb : ps[i + 1]? = some b) : lossAt (ps.drop i) x = if x < b.1 then (a.2 + (b.2 - a.2) * (x - a.1) / (b.1 - a.1), a.2 - (-((b.2 - a.2) * (x - a.1))) / (b.1 - a.1)) else lossAt (ps.drop (i + 1)) x := by
  obtain ⟨h1, e1⟩ := List.getElem?_eq_some_iff.mp ha
  obtain ⟨h2, e2⟩ := List.getElem?_eq_some_iff.mp hb
  rw [List.drop_eq_getElem_cons h1, List.drop_eq_getElem_cons h2, e1, e2]
  rfl
section
variable {P : Program} {w : World} {K : PySem.W.Frag} {mg : Str → Option Value} {base : Heap}
theorem sc_loss_at : FnScope ["mask", "offset", "one", "other", "width", "rise"] ["mask", "offset"] (defScope s_loss_at) := ⟨rfl, rfl, rfl, by decide +kernel, rfl, by decide +kernel, by decide +kernel⟩
theorem ok_loss_at (B : Bi mg) {f : Addr} {fd : FuncData} (F : Fun K "loss_at" "loss_at" s_loss_at f fd) : FnOk P w K mg base CX0 1 f fd ["mask", "offset"] (SpD K 2 RLoss) := by
  have S := sc_loss_at
  refine fn_ok F S rfl 4 rfl fun cdv A outer s H E hr => ⟨_, ((pss_cons (ps_for PassesOwn.never rfl (RZ.pi_zipA (by rfl) B.zip (pa_cons (pv 0) (pa_cons (pe_slice sl_tupA (pv 0) (po_some pe_int) po_none) pa_nil))) (pg_tup (by rfl) (pgs_cons (pg_name (i := 2) S.nd rfl (by first | exact Or.inl rfl | exact Or.inr rfl)) (pgs_cons (pg_name (i := 3) S.nd rfl (by first | exact Or.inl rfl | exact Or.inr rfl)) pgs_nil)))
 (pss_one (ps_if (pt_cmpR op_lt (pv 1) (pe_ix ix_tup (pv 3) pe_int (fun _ _ => rfl)) (nomark _))
 (pss_cons (ps_set (i := 4) S.nd rfl (by first | exact Or.inl rfl | exact Or.inr rfl) (pe_op op_sub (pe_ix ix_tup (pv 3) pe_int (fun _ _ => rfl)) (pe_ix ix_tup (pv 2) pe_int (fun _ _ => rfl))))
 (pss_cons (ps_set (i := 5) S.nd rfl (by first | exact Or.inl rfl | exact Or.inr rfl) (pe_op op_mul (pe_op op_sub (pe_ix ix_tup (pv 3) pe_int (fun _ _ => rfl)) (pe_ix ix_tup (pv 2) pe_int (fun _ _ => rfl))) (pe_op op_sub (pv 1) (pe_ix ix_tup (pv 2) pe_int (fun _ _ => rfl)))))
 (pss_one (ps_ret (pe_tup (pa_cons (pe_op op_add (pe_ix ix_tup (pv 2) pe_int (fun _ _ => rfl)) (pe_op op_fdiv (pv 5) (pv 4))) (pa_cons (pe_op op_sub (pe_ix ix_tup (pv 2) pe_int (fun _ _ => rfl)) (pe_op op_fdiv (pe_un un_neg (pv 5)) (pv 4))) pa_nil)))))))
 pss_nil)))
 (pss_one (ps_ret (pe_tup (pa_cons (pe_ix ix_tup (pe_ix ix_tup (pv 0) (pe_un un_neg pe_int) (fun _ _ => rfl)) pe_int (fun _ _ => rfl)) (pa_cons (pe_ix ix_tup (pe_ix ix_tup (pv 0) (pe_un un_neg pe_int) (fun _ _ => rfl)) pe_int (fun _ _ => rfl)) pa_nil))))))), fun φ ds d H D0 σ hl hR hrt hnx A => ?_⟩
  obtain ⟨ps, x, M, rfl, rfl⟩ := hR
  replace A : At K φ (Same H) [some (maskD ps), some (.int x), none, none, none, none] σ H := A
  have hpos : 0 < ps.length := List.length_pos_iff.mpr M.ne
  have zl : ∀ {i d}, (zipD (ps.map prDD) ((ps.drop 1).map prDD))[i]? = some d → ∃ a b, ps[i]? = some a ∧ ps[i + 1]? = some b ∧ d = .tup [prDD a, prDD b] := fun {i d} h => by
    obtain ⟨d1, d2, e1, e2, e3⟩ := zipD_getD h
    rw [List.getElem?_map] at e1 e2
    rw [List.getElem?_drop] at e2
    cases h1 : ps[i]? with
    | none => rw [h1] at e1; cases e1
    | some a =>
      cases h2 : ps[1 + i]? with
      | none => rw [h2] at e2; cases e2
      | some b =>
        rw [h1] at e1; rw [h2] at e2
        cases e1; cases e2
        exact ⟨a, b, rfl, by rw [Nat.add_comm]; exact h2, e3⟩
  have zn : (zipD (ps.map prDD) ((ps.drop 1).map prDD)).length = ps.length - 1 := by unfold zipD; rw [List.length_zipWith, List.length_map, List.length_map, List.length_drop]; omega
  refine q (st_forT (us := [2, 3]) (ρt := fun d ρ' => match d with | .tup [a, b] => (ρ'.set 2 (some a)).set 3 (some b) | _ => ρ') A (it_zipT (ea_cons (ev_var rfl) (ea_cons ((ev_slT (ev_var rfl) (eo_some ev_int) eo_none).is (d' := .tup ((ps.drop 1).map prDD)) (by rw [cutD_lo (by decide)]; rw [List.map_drop]; rfl)) ea_nil)))
    (fun i ρ' J' => (lossAt ps x = lossAt (ps.drop i) x ∧ ∃ o1 o2, ρ' = [some (maskD ps), some (.int x), o1, o2, none, none]) ∧ J' = Same H) ⟨⟨rfl, none, none, rfl⟩, rfl⟩ ?_ ?_ ?_)
  · rintro i d ρ' J' hx ⟨⟨_, o1, o2, rfl⟩, rfl⟩
    obtain ⟨a, b, _, _, rfl⟩ := zl hx
    exact eg_tup (egs_cons eg_name (egs_cons eg_name egs_nil))
  · rintro H4 i d ρ' J' b4 j4 hx ⟨⟨hi, o1, o2, rfl⟩, rfl⟩ σ' H' A5
    obtain ⟨a, b, ha, hb, rfl⟩ := zl hx
    rw [lossAt_step ha hb] at hi
    obtain ⟨hinc, hinc2⟩ := M.inc i a b ha hb
    have sa := M.sm a (List.mem_of_getElem? ha)
    have sb := M.sm b (List.mem_of_getElem? hb)
    replace A5 : At K φ (fun H_1 => Same H H_1 ∧ But φ H4 H_1) [some (maskD ps), some (.int x), some (prDD a), some (prDD b), none, none] σ' H' := A5
    refine st_if A5 (et_test (ev_lt (ev_var rfl) (ev_ixT (ev_var rfl) ev_int rfl))) (fun hb1 H6 A6 => ?_) (fun hb1 H6 A6 => st_next (NX.go (Inv := fun i ρ' J' => (lossAt ps x = lossAt (ps.drop i) x ∧ ∃ o1 o2, ρ' = [some (maskD ps), some (.int x), o1, o2, none, none]) ∧ J' = Same H) A6 ⟨⟨?_, _, _, rfl⟩, rfl⟩))
    · rw [if_pos (decide_eq_true_iff.mp hb1.symm)] at hi
      refine q (st_set A6 (ev_sub (ev_ixT (ev_var rfl) ev_int rfl) (ev_ixT (ev_var rfl) ev_int rfl)) fun σ7 H7 A7 => q (st_set A7 (ev_mul (ev_sub (ev_ixT (ev_var rfl) ev_int rfl) (ev_ixT (ev_var rfl) ev_int rfl)) (ev_sub (ev_var rfl) (ev_ixT (ev_var rfl) ev_int rfl)) (.inl (by omega))) fun σ8 H8 A8 => ?_))
      refine st_ret A8 (ev_tup (ea_cons (ev_add (ev_ixT (ev_var rfl) ev_int rfl) (ev_fdiv (ev_var rfl) (ev_var rfl) (by unfold CDiv; omega))) (ea_cons (ev_sub (ev_ixT (ev_var rfl) ev_int rfl) (ev_fdiv (ev_neg (ev_var rfl)) (ev_var rfl) (by unfold CDiv; omega))) ea_nil))) fun v d' H9 e A9 r => hrt v H9 A9.j.1 ?_
      subst e
      rw [hi]
      exact r
    · rw [if_neg (fun z => by rw [decide_eq_true z] at hb1; cases hb1)] at hi
      exact hi
  · rintro H4 ρ' J' σ' H' b4 j4 ⟨⟨hi, o1, o2, rfl⟩, rfl⟩ A5
    rw [zn] at hi
    have e1 : (ps.drop (ps.length - 1)) = [lastP ps] := by
      have h1 : ps.length - 1 < ps.length := by omega
      rw [List.drop_eq_getElem_cons h1, List.drop_eq_nil_of_le (by omega)]
      unfold lastP
      rw [List.getLast?_eq_getElem?, List.getElem?_eq_getElem h1]
      rfl
    rw [e1] at hi
    refine st_ret A5 (ev_tup (ea_cons (ev_ixT (ev_ixT (ev_var rfl) (ev_neg ev_int) (atI_last M.ne)) ev_int rfl) (ea_cons (ev_ixT (ev_ixT (ev_var rfl) (ev_neg ev_int) (atI_last M.ne)) ev_int rfl) ea_nil))) fun v d' H9 e A9 r => hrt v H9 A9.j.1 ?_
    subst e
    rw [hi]
    exact r
end

/-! ### first_offset, its test a lambda -/
/-- the least offset at which a test of the loss holds -/
def RFirst : D → (Int × Int → Bool) → D → Prop := fun d1 test d => ∃ ps, MaskOk ps ∧ d1 = maskD ps ∧ (∀ a b : Int, 0 ≤ a → a ≤ b → b ≤ (lastP ps).1 → test (lossAt ps a) = true → test (lossAt ps b) = true) ∧
  ((test (lossAt ps (lastP ps).1) = false ∧ d = .non) ∨ ∃ m : Int, d = .int m ∧ 0 ≤ m ∧ m ≤ (lastP ps).1 ∧ test (lossAt ps m) = true ∧ ∀ a, 0 ≤ a → a < m → test (lossAt ps a) = false)
theorem MaskOk.last {ps : List (Int × Int)} (M : MaskOk ps) : 0 ≤ (lastP ps).1 ∧ (lastP ps).1 ≤ 1000000 := by
  have h : lastP ps ∈ ps := by
    have h0 := List.length_pos_iff.mpr M.ne
    unfold lastP
    rw [List.getLast?_eq_getElem?, List.getElem?_eq_getElem (by omega)]
    exact List.getElem_mem _
  exact ⟨(M.sm _ h).1, (M.sm _ h).2.1⟩
section
variable {K : PySem.W.Frag}
theorem sc_first_offset : FnScope ["mask", "is_enough", "low", "high", "middle"] ["mask", "is_enough"] (defScope s_first_offset) := ⟨rfl, rfl, rfl, by decide +kernel, rfl, by decide +kernel, by decide +kernel⟩
theorem gives_first_offset {X : Cx} (hXK : X.K = K) {g g1 : Addr} {cdg : Value} {gd1 : FuncData} {qn : Str} (L_loss_at : Lk X.K X.mg "loss_at" g1 gd1 ["mask", "offset"]) (G_loss_at : FnOk X.prog X.w X.K X.mg X.base CX0 1 g1 gd1 ["mask", "offset"] (SpD X.K 2 RLoss)) :
    GivesTo1 X ["mask", "is_enough", "low", "high", "middle"] "first_offset" (defScope s_first_offset) g cdg (defBody s_first_offset) "is_enough" qn 1 (TTest X.K RFirst) := by
  have S := sc_first_offset
  intro f c' s H Q v1 tl hr hact hco hTT
  refine ⟨_, ((pss_cons (ps_if (pt_not (pt_val (hact _ _ _ _ (pa_cons (pe_call G_loss_at (hr.mono (by first | exact Nat.le_refl _ | decide | omega)) (by rfl) L_loss_at.m L_loss_at.kp L_loss_at.bi .nil pass0 (pa_cons (pv 0) (pa_cons (pe_ix ix_tup (pe_ix ix_tup (pv 0) (pe_un un_neg pe_int) (fun _ _ => rfl)) pe_int (fun _ _ => rfl)) pa_nil))) pa_nil) rfl)))
 (pss_one (ps_ret pe_non))
 pss_nil)
 (pss_cons (ps_set (i := 2) S.nd rfl (by first | exact Or.inl rfl | exact Or.inr rfl) (pe_un un_neg pe_int))
 (pss_cons (ps_set (i := 3) S.nd rfl (by first | exact Or.inl rfl | exact Or.inr rfl) (pe_ix ix_tup (pe_ix ix_tup (pv 0) (pe_un un_neg pe_int) (fun _ _ => rfl)) pe_int (fun _ _ => rfl)))
 (pss_cons (ps_while PassesOwn.never (pt_cmpR op_gt (pe_op op_sub (pv 3) (pv 2)) pe_int (nomark _))
 (pss_cons (ps_set (i := 4) S.nd rfl (by first | exact Or.inl rfl | exact Or.inr rfl) (pe_op op_fdiv (pe_op op_add (pv 2) (pv 3)) pe_int))
 (pss_one (ps_if (pt_val (hact _ _ _ _ (pa_cons (pe_call G_loss_at (hr.mono (by first | exact Nat.le_refl _ | decide | omega)) (by rfl) L_loss_at.m L_loss_at.kp L_loss_at.bi .nil pass0 (pa_cons (pv 0) (pa_cons (pv 4) pa_nil))) pa_nil) rfl))
 (pss_one (ps_set (i := 3) S.nd rfl (by first | exact Or.inl rfl | exact Or.inr rfl) (pv 4)))
 (pss_one (ps_set (i := 2) S.nd rfl (by first | exact Or.inl rfl | exact Or.inr rfl) (pv 4)))))))
 (pss_one (ps_ret (pv 3)))))))), ?_⟩
  obtain ⟨φ, d1, test, d, r1, fr, ⟨ps, M, rfl, mono, hd⟩, cl, hq⟩ := hTT
  obtain ⟨l0, l1⟩ := M.last
  have hJ0 : ∀ H', Same H H' → H' c' = some (LamX.CodeO c' qn) ∧ Same H H' := fun H' s => ⟨s _ _ hco, s⟩
  have A : At X.K φ (Same H) [some (maskD ps), some (.raw (.ref f)), none, none, none] (L2.start ["mask", "is_enough", "low", "high", "middle"] [v1, .ref f]) H := ⟨SR.start (ds := [maskD ps, .raw (.ref f)]) (n := 3) (Reps.cons r1 (Reps.cons rfl Reps.nil)), fr, Same.refl H, Mo.sames fun _ h => h⟩
  have lastE : ∀ {ρ : List (Option D)} {J : Hp → Prop}, ρ[0]? = some (some (maskD ps)) → EvD X.K φ J (tOp (rIxT X.K) (tOp (rIxT X.K) (tVar 0) (tUn (rU fun i => .int (-i)) (tC (.int 1)))) (tC (.int 0))) ρ (.int (lastP ps).1) := fun h => ev_ixT (ev_ixT (ev_var h) (ev_neg ev_int) (atI_last M.ne)) ev_int rfl
  have finish : ∀ {v d' H'}, Same H H' → d' = d → Rep X.K φ H' d' v → Q v H' := fun s e r => hq _ _ s (e ▸ r)
  have cl' := fun {J : Hp → Prop} {ρ : List (Option D)} {ta : TA} {x : Int} (h1 : ρ[1]? = some (some (.raw (.ref f)))) (hJ : ∀ H', J H' → Same H H') (ha : EvAD X.K φ J ta ρ [prDD (lossAt ps x)]) => ev_act (K := X.K) (φ := φ) (Jn := J) (H0 := H) (q := qn) (c' := c') (tl := tl) (test := test) h1 (fun H' j => hJ0 H' (hJ H' j)) (fun pr v H' Q' s f r k => cl pr v H' Q' s f r k) ha
  refine q (st_if A (et_not (et_B (cl' rfl (fun _ h => h) (ea_cons (ev_callD (ea_cons (ev_var rfl) (ea_cons (lastE rfl) ea_nil)) ⟨ps, _, M, rfl, rfl⟩) ea_nil)))) (fun hb H1 A1 => ?_) (fun hb H1 A1 => st_next (q ?_)))
  · have ht : test (lossAt ps (lastP ps).1) = false := by
      cases e : test (lossAt ps (lastP ps).1) with
      | false => rfl
      | true => rw [e] at hb; cases hb
    have hn : d = .non := by
      rcases hd with ⟨_, e⟩ | ⟨m, _, m0, m1, m2, _⟩
      · exact e
      · rw [mono m _ m0 m1 (Int.le_refl _) m2] at ht
        cases ht
    exact st_ret A1 ev_non fun v d' H2 e A2 r => finish A2.j (e.trans hn.symm) r
  · have ht : test (lossAt ps (lastP ps).1) = true := by
      cases e : test (lossAt ps (lastP ps).1) with
      | true => rfl
      | false => rw [e] at hb; cases hb
    obtain ⟨m, rfl, m0, m1, m2, m3⟩ : ∃ m : Int, d = .int m ∧ 0 ≤ m ∧ m ≤ (lastP ps).1 ∧ test (lossAt ps m) = true ∧ ∀ a, 0 ≤ a → a < m → test (lossAt ps a) = false := hd.resolve_left fun z => by rw [ht] at z; cases z.1
    refine st_set A1 (ev_neg ev_int) fun σ2 H2 A2 => q (st_set A2 (lastE rfl) fun σ3 H3 A3 => q ?_)
    refine st_while A3 (fun n ρ' J' => (∃ (lo hi : Int) (o : Option D), ρ' = [some (maskD ps), some (.raw (.ref f)), some (.int lo), some (.int hi), o] ∧ -1 ≤ lo ∧ lo < hi ∧ hi ≤ (lastP ps).1 ∧ lo < m ∧ m ≤ hi ∧ (hi - lo).toNat = n) ∧ J' = Same H) ((lastP ps).1 + 1).toNat ⟨⟨-1, _, none, rfl, by omega, by omega, by omega, by omega, by omega, by omega⟩, rfl⟩ ?_
    rintro n ρ' J' ⟨⟨lo, hi, o, rfl, h1, h2, h3, h4, h5, h6⟩, rfl⟩
    refine ⟨_, et_test (ev_gt (ev_sub (ev_var rfl) (ev_var rfl)) ev_int), fun hp σ' H' A' N hN => ?_, fun hp σ' H' A' => ?_⟩
    · have hp : (1 : Int) < hi - lo := decide_eq_true_iff.mp hp.symm
      refine q (st_set A' (ev_fdiv (ev_add (ev_var rfl) (ev_var rfl)) ev_int (by unfold CDiv; omega)) fun σ4 H4 A4 => ?_)
      have g1 : lo < (lo + hi) / 2 := by omega
      have g2 : (lo + hi) / 2 < hi := by omega
      refine st_if A4 (et_B (cl' rfl (fun _ h => h.1) (ea_cons (ev_callD (ea_cons (ev_var rfl) (ea_cons (ev_var rfl) ea_nil)) ⟨ps, _, M, rfl, rfl⟩) ea_nil))) (fun hb5 H5 A5 => ?_) (fun hb5 H5 A5 => ?_)
      · refine st_set A5 (ev_var rfl) fun σ6 H6 A6 => hN _ _ _ ?_ (NX.go A6 ⟨⟨lo, (lo + hi) / 2, _, rfl, h1, g1, by omega, h4, ?_, rfl⟩, rfl⟩)
        · omega
        · refine Int.not_lt.mp fun z => ?_
          rw [m3 _ (by omega) z] at hb5
          cases hb5
      · refine st_set A5 (ev_var rfl) fun σ6 H6 A6 => hN _ _ _ ?_ (NX.go A6 ⟨⟨(lo + hi) / 2, hi, _, rfl, by omega, g2, h3, ?_, h5, rfl⟩, rfl⟩)
        · omega
        · refine Int.not_le.mp fun z => ?_
          rw [mono m _ m0 z (by omega) m2] at hb5
          cases hb5
    · have hp : ¬ (1 : Int) < hi - lo := fun z => by rw [decide_eq_true z] at hp; cases hp
      have e : hi = m := by omega
      subst e
      exact st_ret A' (ev_var rfl) fun v d' H2 e A2 r => finish A2.j.1 e r
end

/-! ### guard -/
def qGuard : Str := (envOfC "guard" (defScope s_guard) 0 0 .none).qual ++ "<lambda>"
def RGuard : List D → D → Prop := fun ds d => ∃ ps x y, ds = [maskD ps, .int x, .int y] ∧ RFirst (maskD ps) (fun pr => decide (x - pr.1 ≤ y)) d
section
variable {P : Program} {w : World} {K : PySem.W.Frag} {mg : Str → Option Value} {base : Heap}
theorem sc_guard : FnScope ["mask", "level", "least", "pair"] ["mask", "level", "least"] (defScope s_guard) := ⟨rfl, rfl, rfl, by decide +kernel, rfl, by decide +kernel, by decide +kernel⟩
theorem ok_guard {c C : Addr} (TB : LamX.TabB base mg c C) {f g g1 : Addr} {fd gd gd1 : FuncData} (F : FunC K "guard" "guard" s_guard f fd c) (F_first_offset : Fun K "first_offset" "first_offset" s_first_offset g gd) (L_first_offset : Lk K mg "first_offset" g gd ["mask", "is_enough"])
    (L_loss_at : Lk K mg "loss_at" g1 gd1 ["mask", "offset"]) (G_loss_at : FnOk P w K mg base CX0 1 g1 gd1 ["mask", "offset"] (SpD K 2 RLoss)) : FnOk P w K mg base CX0 3 f fd ["mask", "level", "least"] (SpT K C qGuard 3 RGuard) := by
  have S := sc_guard
  obtain ⟨oc, od, kV, doc, pm, an, cdv, ct, osl, rfl, lk, hcd⟩ := F_first_offset.ex
  refine fn_okT F S rfl 1 rfl fun A outer s H E hr => ⟨_, pss_one (ps_ret (pe_lamcall1 (k := 0) (T := [(C, qGuard)]) (TT := TTest K RFirst) (P := C) (ix := 3) (y := "pair") (Ng := ["mask", "is_enough", "low", "high", "middle"]) (by rfl) L_first_offset.m L_first_offset.kp lk hcd L_first_offset.bi sc_first_offset rfl (.inl rfl)
    (gives_first_offset (K := K) rfl L_loss_at G_loss_at) TB rfl (List.mem_singleton.mpr rfl) (fun p hp _ => by rw [List.mem_singleton.mp hp]; rfl) hr (lamS1_by (sc := defScope s_guard) (by decide +kernel)) S.nd rfl (by rfl) (fun _ _ _ _ _ _ => rfl) (pv 0)
    (fun A outer s H f c' hr2 => pe_cmpR op_le (pe_op op_sub (pv 1) (pe_ix (kix_tup (K := K) (by rfl)) (pv 3) pe_int (fun _ _ => rfl))) (pv 2) (nomark _)))), fun φ ds d H tb D0 σ hl hR np hrt A => ?_⟩
  obtain ⟨ps, x, y, rfl, hF⟩ := hR
  replace A : At K φ (JT C qGuard H tb) [some (maskD ps), some (.int x), some (.int y), none] σ H := A
  have T : TblF φ C qGuard (JT C qGuard H) := tblT np
  refine st_retJ A (eu_lam T (fun ps' => ev_var rfl) hF fun pr J' => ev_le (ev_sub (ev_var rfl) (ev_ixT (ev_var rfl) ev_int rfl)) (ev_var rfl)) fun v d' ps' H' e A' r => hrt v ps' H' A'.j (e ▸ r)
end

/-! ### comprehensions by two names; pairs; filters -/
section
variable {K : PySem.W.Frag} {φ φ' : Addr → Prop} {J J' : Hp → Prop} {H H' H1 : Hp} {ρ ρ' : List (Option D)} {σ : L2.St} {ta : TA} {te tb : TE} {x y z d : D} {ds es : List D}
theorem ev_lcT2 {wi : TI} {tt : TT} {k1 k2 : Nat} {p : D → Bool} {f : D → D} (hi : IterD K φ J wi ρ ds) (hl : ds.length ≤ 1000000) (hd : ∀ d ∈ ds, ∃ a b, d = .tup [a, b])
    (ht : ∀ a b, .tup [a, b] ∈ ds → ∀ φ' J', Ext φ J φ' J' → EvX K φ' J' tt (((wipeR ρ [k1, k2]).set k1 (some a)).set k2 (some b)) (p (.tup [a, b])))
    (he : ∀ a b, .tup [a, b] ∈ ds → p (.tup [a, b]) = true → ∀ φ' J', Ext φ J φ' J' → EvD K φ' J' te (((wipeR ρ [k1, k2]).set k1 (some a)).set k2 (some b)) (f (.tup [a, b]))) :
    EvD K φ J (tLc wi (gTup K 2 (gCons (gName k1) (gCons (gName k2) gNil))) tt te [k1, k2]) ρ (.lst ((ds.filter p).map f)) :=
  (ev_lcP (ρd := fun d => match d with | .tup [a, b] => ((wipeR ρ [k1, k2]).set k1 (some a)).set k2 (some b) | _ => ρ) (us := [k1, k2]) (pt := fun d b => b = p d) (pe := fun d y => y = f d) hi (fun ds' e => by rw [e]; exact hl) (fun _ h => h) (fun ds' e d hm => by
      subst e
      obtain ⟨a, b, rfl⟩ := hd d hm
      exact eg_tup (ds := [a, b]) (egs_cons eg_name (egs_cons eg_name egs_nil)))
    (fun ds' e d hm φ' J' x => by
      subst e
      obtain ⟨a, b, rfl⟩ := hd d hm
      exact ht a b hm φ' J' x) (fun ds' e d hm pd φ' J' x => by
      subst e
      obtain ⟨a, b, rfl⟩ := hd d hm
      exact he a b hm pd.symm φ' J' x)).imp fun z ⟨ds', ys, e1, e2, c⟩ => by
      subst e1
      rw [e2, c.filter]
end
theorem eqv_pr (p q : Int × Int) : eqvD (prDD p) (prDD q) = decide (p = q) := by
  unfold eqvD
  show PyData.eqvAll [.int p.1, .int p.2] [.int q.1, .int q.2] = _
  rw [Bool.eq_iff_iff, decide_eq_true_eq]
  simp only [PyData.eqvAll, PyData.eqv, Bool.and_eq_true, beq_iff_eq, Bool.and_true]
  constructor
  · rintro ⟨h1, h2⟩; exact Prod.ext h1 h2
  · rintro rfl; exact ⟨rfl, rfl⟩
theorem filter_empty {α : Type} (p : α → Bool) : ∀ xs : List α, (xs.filter fun x => !p x).isEmpty = xs.all p
  | [] => rfl
  | x :: xs => by
    rw [List.filter_cons, List.all_cons]
    cases h : p x with
    | true => exact filter_empty p xs
    | false => rfl
theorem atI_0 {α : Type} {x : α} {xs : List α} : L2.atI (x :: xs) 0 = some x := atI_ofNat (i := 0) rfl
theorem tup_ex {d : D} (h : isT "tuple" d = true) : ∃ es, d = .tup es := by
  cases d <;> first | exact ⟨_, rfl⟩ | (simp [isT, tyD] at h)

section
variable {P : Program} {w : World} {K : PySem.W.Frag} {mg : Str → Option Value} {base : Heap}
theorem sc_is_integer : FnScope ["value"] ["value"] (defScope s_is_integer) := ⟨rfl, rfl, rfl, by decide +kernel, rfl, by decide +kernel, by decide +kernel⟩
theorem ok_is_integer (B : Bi mg) {f : Addr} {fd : FuncData} (F : Fun K "is_integer" "is_integer" s_is_integer f fd) : FnOk P w K mg base CX0 1 f fd ["value"] (SpD K 1 RIsInt) := by
  have S := sc_is_integer
  refine fn_ok F S rfl 0 rfl fun cdv A outer s H E hr => ⟨_, ((pss_one (ps_ret (pe_and (pe_callB call_isi (by rfl) B.isinstance (by decide +kernel) (pa_cons (pv 0) (pa_cons (pe_ty (n := "int") B.int (by decide +kernel)) pa_nil))) (pe_one (pe_not (pe_callB call_isi (by rfl) B.isinstance (by decide +kernel) (pa_cons (pv 0) (pa_cons (pe_ty (n := "bool") B.bool (by decide +kernel)) pa_nil))))))))), fun φ ds d H D0 σ hl hR hrt hnx A => ?_⟩
  obtain ⟨x, rfl, hraw, rfl⟩ := hR
  refine st_ret A (ev_andV (ev_isi (ev_var rfl) ev_ty hraw) fun _ => ev_one (ev_notV (ev_isi (ev_var rfl) ev_ty hraw))) fun v d' H6 e A6 r => hrt v H6 A6.j ?_
  subst e
  rw [isIntD_of hraw] at r
  exact r
end

/-! ### is_mask -/
def pointD : D → Bool
  | .tup [a, b] => isIntD a && isIntD b
  | _ => false
def upB : List (Int × Int) → Bool
  | a :: b :: r => decide (a.1 < b.1) && decide (a.2 ≤ b.2) && upB (b :: r)
  | _ => true
def pOf : D → Int × Int
  | .tup [.int a, .int b] => (a, b)
  | _ => (0, 0)
def maskB : D → Bool
  | .tup (e :: es) => (e :: es).all pointD && (decide (pOf e = (0, 0)) && upB ((e :: es).map pOf))
  | _ => false
theorem point_ex {d : D} (h : pointD d = true) : ∃ p : Int × Int, d = prDD p ∧ pOf d = p := by
  unfold pointD at h
  split at h
  · rename_i a b
    rw [Bool.and_eq_true] at h
    obtain ⟨i, rfl⟩ := isIntD_ex h.1
    obtain ⟨j, rfl⟩ := isIntD_ex h.2
    exact ⟨(i, j), rfl, rfl⟩
  · cases h
theorem points_ex : ∀ {es : List D}, es.all pointD = true → es = (es.map pOf).map prDD
  | [], _ => rfl
  | d :: es, h => by
    rw [List.all_cons, Bool.and_eq_true] at h
    obtain ⟨p, e1, e2⟩ := point_ex h.1
    rw [List.map_cons, List.map_cons, ← points_ex h.2, e2, ← e1]
theorem pOf_pr (ps : List (Int × Int)) : (ps.map prDD).map pOf = ps := by
  rw [List.map_map]
  exact (List.map_congr_left fun p _ => rfl).trans (List.map_id' _)
theorem all_pr (ps : List (Int × Int)) : (ps.map prDD).all pointD = true := by
  rw [List.all_eq_true]
  intro d hd
  obtain ⟨p, _, rfl⟩ := List.mem_map.mp hd
  rfl
theorem eqvT_nil {ds : List D} : eqvD (.tup ds) (.tup []) = ds.isEmpty := by
  unfold eqvD
  show PyData.eqvAll (toPys ds) [] = _
  cases ds <;> rfl
theorem zip_up (ps : List (Int × Int)) : ((zipD (ps.map prDD) ((ps.drop 1).map prDD)).filter fun d => match d with | .tup [.tup [.int a, .int b], .tup [.int c, .int e]] => decide (c ≤ a) || decide (e < b) | _ => false).isEmpty = upB ps := by
  induction ps with
  | nil => rfl
  | cons a ps ih =>
    cases ps with
    | nil => rfl
    | cons b ps =>
      have e : zipD ((a :: b :: ps).map prDD) (((a :: b :: ps).drop 1).map prDD) = .tup [prDD a, prDD b] :: zipD ((b :: ps).map prDD) (((b :: ps).drop 1).map prDD) := rfl
      rw [e, List.filter_cons]
      show List.isEmpty (if (decide (b.1 ≤ a.1) || decide (b.2 < a.2)) = true then _ else _) = (decide (a.1 < b.1) && decide (a.2 ≤ b.2) && upB (b :: ps))
      by_cases h1 : b.1 ≤ a.1
      · rw [decide_eq_true h1, decide_eq_false (show ¬ a.1 < b.1 by omega)]
        rfl
      · rw [decide_eq_false h1, decide_eq_true (show a.1 < b.1 by omega)]
        by_cases h2 : b.2 < a.2
        · rw [decide_eq_true h2, decide_eq_false (show ¬ a.2 ≤ b.2 by omega)]
          rfl
        · rw [decide_eq_false h2, decide_eq_true (show a.2 ≤ b.2 by omega)]
          exact ih
section
variable {P : Program} {w : World} {K : PySem.W.Frag} {mg : Str → Option Value} {base : Heap}
def RPoint : List D → D → Prop := fun ds r => ∃ d, ∃ n : Nat, ds = [d] ∧ okD 1000000 n d = true ∧ r = .bl (pointD d)
theorem sc_is_point : FnScope ["value"] ["value"] (defScope s_is_point) := ⟨rfl, rfl, rfl, by decide +kernel, rfl, by decide +kernel, by decide +kernel⟩
theorem ok_is_point (B : Bi mg) {f g : Addr} {fd gd : FuncData} (F : Fun K "is_point" "is_point" s_is_point f fd) (L_is_integer : Lk K mg "is_integer" g gd ["value"]) (G_is_integer : FnOk P w K mg base CX0 1 g gd ["value"] (SpD K 1 RIsInt)) : FnOk P w K mg base CX0 2 f fd ["value"] (SpD K 1 RPoint) := by
  have S := sc_is_point
  refine fn_ok F S rfl 0 rfl fun cdv A outer s H E hr => ⟨_, ((pss_cons (ps_if (PW.pt (pw_or (pt_not (pt_val (pe_callB call_isi (by rfl) B.isinstance (by decide +kernel) (pa_cons (pv 0) (pa_cons (pe_ty (n := "tuple") B.tuple (by decide +kernel)) pa_nil))))) (pw_or1 (pt_cmpR op_ne (pe_callB c_len (by rfl) B.len (by decide +kernel) (pa_cons (pv 0) pa_nil)) pe_int (nomark _)))))
 (pss_one (ps_ret pe_bl))
 pss_nil)
 (pss_one (ps_ret (pe_and (pe_call G_is_integer (hr.mono (by first | exact Nat.le_refl _ | decide | omega)) (by rfl) L_is_integer.m L_is_integer.kp L_is_integer.bi .nil pass0 (pa_cons (pe_ix ix_tup (pv 0) pe_int (fun _ _ => rfl)) pa_nil)) (pe_one (pe_call G_is_integer (hr.mono (by first | exact Nat.le_refl _ | decide | omega)) (by rfl) L_is_integer.m L_is_integer.kp L_is_integer.bi .nil pass0 (pa_cons (pe_ix ix_tup (pv 0) pe_int (fun _ _ => rfl)) pa_nil)))))))), fun φ ds d H D0 σ hl hR hrt hnx A => ?_⟩
  obtain ⟨x, n, rfl, hok, rfl⟩ := hR
  have hraw := okD_raw hok
  replace A : At K φ (Same H) [some x] σ H := A
  refine q ?_
  by_cases ht : isT "tuple" x = true
  · obtain ⟨es, rfl⟩ : ∃ es, x = .tup es := by
      cases x <;> first | exact ⟨_, rfl⟩ | (simp [isT, tyD] at ht)
    refine st_if A (et_or (et_not (et_B (ev_isi (ev_var rfl) ev_ty hraw))) fun _ => et_test (ev_neI (ev_lenT (ev_var rfl)) ev_int)) (fun hb H1 A1 => ?_) (fun hb H1 A1 => st_next ?_)
    · rw [ht] at hb
      have hb' : ¬ (es.length : Int) = 2 := by simpa using hb
      refine st_ret A1 ev_bl fun v d' H6 e A6 r => hrt v H6 A6.j ?_
      subst e
      have e : pointD (.tup es) = false := by
        unfold pointD
        split
        · rename_i a b e
          cases e
          exact absurd rfl hb'
        · rfl
      rw [e]
      exact r
    · rw [ht] at hb
      have hb' : (es.length : Int) = 2 := by simpa using hb
      obtain ⟨a, b, rfl⟩ : ∃ a b, es = [a, b] := by
        match es, hb' with
        | [a, b], _ => exact ⟨a, b, rfl⟩
        | [], h => cases h
        | [_], h => cases h
        | _ :: _ :: _ :: _, h => rw [List.length_cons, List.length_cons, List.length_cons] at h; omega
      obtain ⟨n, rfl⟩ : ∃ n', n = n' + 1 := by
        cases n with
        | zero => cases hok
        | succ n => exact ⟨n, rfl⟩
      have hes := (okD_tup.mp hok).2
      refine st_ret A1 (ev_andV (ev_callD (ea_cons (ev_ixT (ev_var rfl) ev_int rfl) ea_nil) ⟨a, rfl, okD_raw (hes a (by simp)), rfl⟩) fun _ => ev_one (ev_callD (ea_cons (ev_ixT (ev_var rfl) ev_int rfl) ea_nil) ⟨b, rfl, okD_raw (hes b (by simp)), rfl⟩)) fun v d' H6 e A6 r => hrt v H6 A6.j ?_
      subst e
      exact r
  · refine st_yes A (et_or (c := true) (et_not (et_B (ev_isi (ev_var rfl) ev_ty hraw))) fun h => absurd (by simpa using h) ht) (by simp) fun H1 A1 => ?_
    refine st_ret A1 ev_bl fun v d' H6 e A6 r => hrt v H6 A6.j ?_
    subst e
    have e : pointD x = false := by
      cases x <;> first | rfl | (simp [isT, tyD] at ht)
    rw [e]
    exact r
def RIsMask : List D → D → Prop := fun ds r => ∃ d, ds = [d] ∧ okD 1000000 62 d = true ∧ r = .bl (maskB d)
theorem sc_is_mask : FnScope ["value", "one", "other"] ["value"] (defScope s_is_mask) := ⟨rfl, rfl, rfl, by decide +kernel, rfl, by decide +kernel, by decide +kernel⟩
theorem ok_is_mask (B : Bi mg) {f g : Addr} {fd gd : FuncData} (F : Fun K "is_mask" "is_mask" s_is_mask f fd) (L_is_point : Lk K mg "is_point" g gd ["value"]) (G_is_point : FnOk P w K mg base CX0 2 g gd ["value"] (SpD K 1 RPoint)) : FnOk P w K mg base CX0 3 f fd ["value"] (SpD K 1 RIsMask) := by
  have S := sc_is_mask
  refine fn_ok F S rfl 2 rfl fun cdv A outer s H E hr => ⟨_, ((pss_cons (ps_if (PW.pt (pw_or (pt_not (pt_val (pe_callB call_isi (by rfl) B.isinstance (by decide +kernel) (pa_cons (pv 0) (pa_cons (pe_ty (n := "tuple") B.tuple (by decide +kernel)) pa_nil))))) (pw_or (pt_cmpR (op_eqD hr.units) (pv 0) (pe_tup pa_nil) (nomark _)) (pw_or1 (pt_cmpR (op_neD hr.units) (pe_lc (own := [("one", 1)]) (g := (gName 1)) (by rfl) S.nd (pi_tup (pv 0)) (blkOk_by (N := ["value", "one", "other"]) (sc := defScope s_is_mask) (own := [("one", 1)]) (by decide +kernel)) (fun _ _ _ _ _ => (pg_name (i := 1) S.nd rfl (by first | exact Or.inl rfl | exact Or.inr rfl))) (fun _ _ _ _ _ => pts_one (pt_not (pt_val (pe_call G_is_point (hr.mono (by first | exact Nat.le_refl _ | decide | omega)) (by rfl) L_is_point.m L_is_point.kp L_is_point.bi .nil pass0 (pa_cons (pv 1) pa_nil))))) (fun _ _ _ _ _ => (pv 1))) (pe_lst pa_nil) (nomark _))))))
 (pss_one (ps_ret pe_bl))
 pss_nil)
 (pss_cons (ps_if (pt_cmpR (op_neD hr.units) (pe_ix ix_tup (pv 0) pe_int (fun _ _ => rfl)) (pe_tup (pa_cons pe_int (pa_cons pe_int pa_nil))) (nomark _))
 (pss_one (ps_ret pe_bl))
 pss_nil)
 (pss_one (ps_ret (pe_cmpR (op_eqD hr.units) (pe_lc (own := [("one", 1), ("other", 2)]) (g := (gTup K 2 (gCons (gName 1) (gCons (gName 2) gNil)))) (by rfl) S.nd (RZ.pi_zipA (by rfl) B.zip (pa_cons (pv 0) (pa_cons (pe_slice sl_tupA (pv 0) (po_some pe_int) po_none) pa_nil))) (blkOk_by (N := ["value", "one", "other"]) (sc := defScope s_is_mask) (own := [("one", 1), ("other", 2)]) (by decide +kernel)) (fun _ _ _ _ _ => (pg_tup (by rfl) (pgs_cons (pg_name (i := 1) S.nd rfl (by first | exact Or.inl rfl | exact Or.inr rfl)) (pgs_cons (pg_name (i := 2) S.nd rfl (by first | exact Or.inl rfl | exact Or.inr rfl)) pgs_nil)))) (fun _ _ _ _ _ => pts_one (PW.pt (pw_or (pt_cmpR op_ge (pe_ix (kix_tup (K := K) (by rfl)) (pv 1) pe_int (fun _ _ => rfl)) (pe_ix (kix_tup (K := K) (by rfl)) (pv 2) pe_int (fun _ _ => rfl)) (nomark _)) (pw_or1 (pt_cmpR op_gt (pe_ix (kix_tup (K := K) (by rfl)) (pv 1) pe_int (fun _ _ => rfl)) (pe_ix (kix_tup (K := K) (by rfl)) (pv 2) pe_int (fun _ _ => rfl)) (nomark _)))))) (fun _ _ _ _ _ => (pv 1))) (pe_lst pa_nil) (nomark _))))))), fun φ ds d H D0 σ hl hR hrt hnx A => ?_⟩
  obtain ⟨x, rfl, hok, rfl⟩ := hR
  have hraw := okD_raw hok
  replace A : At K φ (Same H) [some x, none, none] σ H := A
  refine q ?_
  by_cases ht : isT "tuple" x = true
  · obtain ⟨es, rfl⟩ : ∃ es, x = .tup es := by
      cases x <;> first | exact ⟨_, rfl⟩ | (simp [isT, tyD] at ht)
    have hes := okD_tup.mp hok
    refine st_if A (et_or (et_not (et_B (ev_isi (ev_var rfl) ev_ty hraw))) fun _ => et_or (et_test (ev_eqQ (ev_var rfl) (ev_tup ea_nil) (okD_okq' hok (by decide)) rfl)) fun _ => et_test (ev_neQ (ev_lcF (p := fun d => !pointD d) (f := fun d => d) (it_tup (ev_var rfl)) hes.1 (fun d hd φ' J' hx => et_not (et_B (ev_callD (ea_cons (ev_var rfl) ea_nil) ⟨d, _, rfl, hes.2 d hd, rfl⟩))) fun d hd pd φ' J' hx => ev_var rfl) (ev_lst ea_nil) (List.all_eq_true.mpr fun x hx => okD_okq' (hes.2 x (List.mem_filter.mp (by rw [List.map_id'] at hx; exact hx)).1) (by decide)) rfl)) (fun hb H1 A1 => ?_) (fun hb H1 A1 => st_next (q ?_))
    · rw [ht, eqvT_nil, List.map_id', eqvD_nil, filter_empty] at hb
      refine st_ret A1 ev_bl fun v d' H6 e A6 r => hrt v H6 A6.j ?_
      subst e
      have e : maskB (.tup es) = false := by
        cases es with
        | nil => rfl
        | cons a b =>
          show ((a :: b).all pointD && _) = false
          have h : (a :: b).all pointD = false := by
            cases e : (a :: b).all pointD with
            | false => rfl
            | true => rw [e] at hb; cases hb
          rw [h, Bool.false_and]
      rw [e]
      exact r
    · rw [ht, eqvT_nil, List.map_id', eqvD_nil, filter_empty] at hb
      obtain ⟨p, ps, rfl⟩ : ∃ p ps, es = (p :: ps).map prDD := by
        cases es with
        | nil => cases hb
        | cons a b =>
          have h : (a :: b).all pointD = true := by simpa using hb
          exact ⟨pOf a, b.map pOf, points_ex h⟩
      have em : maskB (.tup ((p :: ps).map prDD)) = (decide (p = (0, 0)) && upB (p :: ps)) := by
        show (((p :: ps).map prDD).all pointD && (decide (p = (0, 0)) && upB (((p :: ps).map prDD).map pOf))) = _
        rw [all_pr, pOf_pr, Bool.true_and]
      refine st_if A1 (et_test (ev_neQ (x := prDD p) (y := prDD (0, 0)) (ev_ixT (ev_var rfl) ev_int atI_0) (ev_tup (ea_cons ev_int (ea_cons ev_int ea_nil))) rfl rfl)) (fun hb2 H2 A2 => ?_) (fun hb2 H2 A2 => st_next ?_)
      · rw [eqv_pr] at hb2
        refine st_ret A2 ev_bl fun v d' H6 e A6 r => hrt v H6 A6.j ?_
        subst e
        have h : decide (p = (0, 0)) = false := by simpa using hb2
        rw [em, h, Bool.false_and]
        exact r
      · rw [eqv_pr] at hb2
        have h : decide (p = (0, 0)) = true := by simpa using hb2
        have hln : (p :: ps).length ≤ 1000000 := by have := hes.1; rw [List.length_map] at this; exact this
        refine st_ret A2 (ev_eqQ (ev_lcT2 (k1 := 1) (k2 := 2) (p := fun d => match d with | .tup [.tup [.int a, .int b], .tup [.int c, .int e]] => decide (c ≤ a) || decide (e < b) | _ => false) (f := fun d => match d with | .tup [a, _] => a | d => d) (it_zipT (ea_cons (ev_var rfl) (ea_cons ((ev_slT (ds := (p :: ps).map prDD) (ev_var rfl) (eo_some ev_int) eo_none).is (d' := .tup (((p :: ps).drop 1).map prDD)) (by rw [cutD_lo (by decide), List.map_drop]; rfl)) ea_nil))) ?_ ?_ ?_ ?_) (ev_lst ea_nil) ?_ rfl) fun v d' H6 e2 A6 rr => hrt v H6 A6.j ?_
        · unfold zipD
          rw [List.length_zipWith, List.length_map]
          omega
        · intro d hd
          obtain ⟨i, hi⟩ := List.mem_iff_getElem?.mp hd
          obtain ⟨d1, d2, _, _, e⟩ := zipD_getD hi
          exact ⟨d1, d2, e⟩
        · intro a b hd φ' J' hx
          obtain ⟨i, hi⟩ := List.mem_iff_getElem?.mp hd
          obtain ⟨d1, d2, e1, e2, e3⟩ := zipD_getD hi
          rw [List.getElem?_map] at e1 e2
          obtain ⟨r1, _, rfl⟩ := Option.map_eq_some_iff.mp e1
          obtain ⟨r2, _, rfl⟩ := Option.map_eq_some_iff.mp e2
          injection e3 with e3
          have z1 := (List.cons.inj e3).1
          have z2 := (List.cons.inj (List.cons.inj e3).2).1
          subst z1 z2
          exact et_or (et_test (ev_ge (ev_ixT (ev_var rfl) ev_int rfl) (ev_ixT (ev_var rfl) ev_int rfl))) fun _ => et_test (ev_gt (ev_ixT (ev_var rfl) ev_int rfl) (ev_ixT (ev_var rfl) ev_int rfl))
        · intro a b hd pd φ' J' hx
          exact ev_var rfl
        · refine List.all_eq_true.mpr fun x hx => ?_
          obtain ⟨y, hy, rfl⟩ := List.mem_map.mp hx
          obtain ⟨i, hi⟩ := List.mem_iff_getElem?.mp (List.mem_filter.mp hy).1
          obtain ⟨d1, d2, e1, _, rfl⟩ := zipD_getD hi
          rw [List.getElem?_map] at e1
          obtain ⟨r1, _, rfl⟩ := Option.map_eq_some_iff.mp e1
          rfl
        · subst e2
          rw [eqvD_nil, List.isEmpty_map, zip_up] at rr
          rw [em, h, Bool.true_and]
          exact rr
  · refine st_yes A (et_or (c := true) (et_not (et_B (ev_isi (ev_var rfl) ev_ty hraw))) fun h => absurd (by simpa using h) ht) (by simp) fun H1 A1 => ?_
    refine st_ret A1 ev_bl fun v d' H6 e A6 r => hrt v H6 A6.j ?_
    subst e
    have e : maskB x = false := by
      cases x <;> first | rfl | (simp [isT, tyD] at ht)
    rw [e]
    exact r
end

/-! ### two masks together; a mask with all offsets times a factor -/
def bothP (ps qs : List (Int × Int)) (os : List Int) : List (Int × Int) := os.map fun o => (o, (lossAt ps o).1 + (lossAt qs o).1)
def RBoth : List D → D → Prop := fun ds d => ∃ ps qs os, MaskOk ps ∧ MaskOk qs ∧ ps.length ≤ 20 ∧ qs.length ≤ 20 ∧ ds = [maskD ps, maskD qs] ∧ os.Pairwise (· < ·) ∧ (∀ k : Int, k ∈ os ↔ k ∈ (ps ++ qs).map (·.1)) ∧ d = maskD (bothP ps qs os)
theorem rise_uniq : ∀ {a b : List Int}, a.Pairwise (· < ·) → b.Pairwise (· < ·) → (∀ k, k ∈ a ↔ k ∈ b) → a = b
  | [], [], _, _, _ => rfl
  | [], y :: b, _, _, h => absurd ((h y).mpr List.mem_cons_self) (by simp)
  | x :: a, [], _, _, h => absurd ((h x).mp List.mem_cons_self) (by simp)
  | x :: a, y :: b, ha, hb, h => by
    obtain ⟨h1, h2⟩ := List.pairwise_cons.mp ha
    obtain ⟨h3, h4⟩ := List.pairwise_cons.mp hb
    have e : x = y := by
      rcases List.mem_cons.mp ((h x).mp List.mem_cons_self) with e | m1
      · exact e
      · rcases List.mem_cons.mp ((h y).mpr List.mem_cons_self) with e | m2
        · exact e.symm
        · have := h3 x m1
          have := h1 y m2
          omega
    subst e
    rw [rise_uniq h2 h4 fun k => ⟨fun hk => ?_, fun hk => ?_⟩]
    · rcases List.mem_cons.mp ((h k).mp (List.mem_cons_of_mem _ hk)) with e | m
      · have := h1 k hk
        omega
      · exact m
    · rcases List.mem_cons.mp ((h k).mpr (List.mem_cons_of_mem _ hk)) with e | m
      · have := h3 k hk
        omega
      · exact m
theorem nodup_le : ∀ {a L : List Int}, a.Nodup → (∀ k ∈ a, k ∈ L) → a.length ≤ L.length
  | [], _, _, _ => Nat.zero_le _
  | x :: a, L, hn, h => by
    obtain ⟨h1, h2⟩ := List.nodup_cons.mp hn
    have hx : x ∈ L := h x List.mem_cons_self
    have := nodup_le (L := L.erase x) h2 fun k hk => (List.mem_erase_of_ne fun (e : k = x) => h1 (e ▸ hk)).mpr (h k (List.mem_cons_of_mem _ hk))
    rw [List.length_erase_of_mem hx] at this
    have h0 := List.length_pos_of_mem hx
    rw [List.length_cons]
    omega
theorem rise_nodup {a : List Int} (h : a.Pairwise (· < ·)) : a.Nodup := h.imp fun h e => by omega
section
variable {P : Program} {w : World} {K : PySem.W.Frag} {mg : Str → Option Value} {base : Heap}
theorem sc_both_masks : FnScope ["sending", "hearing", "offsets", "point", "one"] ["sending", "hearing"] (defScope s_both_masks) := ⟨rfl, rfl, rfl, by decide +kernel, rfl, by decide +kernel, by decide +kernel⟩
theorem ok_both_masks (B : Bi mg) {f g : Addr} {fd gd : FuncData} (F : Fun K "both_masks" "both_masks" s_both_masks f fd) (L_loss_at : Lk K mg "loss_at" g gd ["mask", "offset"]) (G_loss_at : FnOk P w K mg base CX0 1 g gd ["mask", "offset"] (SpD K 2 RLoss)) : FnOk P w K mg base CX0 2 f fd ["sending", "hearing"] (SpD K 2 RBoth) := by
  have S := sc_both_masks
  refine fn_ok F S rfl 3 rfl fun cdv A outer s H E hr => ⟨_, ((pss_cons (ps_set (i := 2) S.nd rfl (by first | exact Or.inl rfl | exact Or.inr rfl) (pe_callB (cr_sortedSet rfl) (by rfl) B.sorted (by decide +kernel) (pa_cons (pe_callTy (cr_setL rfl) (by rfl) B.set (by decide +kernel) (pa_cons (pe_lc (own := [("point", 3)]) (g := (gName 3)) (tt := tYes) (by rfl) S.nd (pi_tup (pe_op op_catA (pv 0) (pv 1))) (blkOk_by (N := ["sending", "hearing", "offsets", "point", "one"]) (sc := defScope s_both_masks) (own := [("point", 3)]) (by decide +kernel)) (fun _ _ _ _ _ => (pg_name (i := 3) S.nd rfl (by first | exact Or.inl rfl | exact Or.inr rfl))) (fun _ _ _ _ _ => pts_nil) (fun _ _ _ _ _ => (pe_ix (kix_tup (K := K) (by rfl)) (pv 3) pe_int (fun _ _ => rfl)))) pa_nil)) pa_nil)))
 (pss_one (ps_ret (pe_callTy c_tupOf (by rfl) B.tuple (by decide +kernel) (pa_cons (pe_lc (own := [("one", 4)]) (g := (gName 4)) (tt := tYes) (by rfl) S.nd (pi_list (pv 2)) (blkOk_by (N := ["sending", "hearing", "offsets", "point", "one"]) (sc := defScope s_both_masks) (own := [("one", 4)]) (by decide +kernel)) (fun _ _ _ _ _ => (pg_name (i := 4) S.nd rfl (by first | exact Or.inl rfl | exact Or.inr rfl))) (fun _ _ _ _ _ => pts_nil) (fun _ _ _ _ _ => (pe_tup (pa_cons (pv 4) (pa_cons (pe_op op_add (pe_ix (kix_tup (K := K) (by rfl)) (pe_call G_loss_at (hr.mono (by first | exact Nat.le_refl _ | decide | omega)) (by rfl) L_loss_at.m L_loss_at.kp L_loss_at.bi .nil pass0 (pa_cons (pv 0) (pa_cons (pv 4) pa_nil))) pe_int (fun _ _ => rfl)) (pe_ix (kix_tup (K := K) (by rfl)) (pe_call G_loss_at (hr.mono (by first | exact Nat.le_refl _ | decide | omega)) (by rfl) L_loss_at.m L_loss_at.kp L_loss_at.bi .nil pass0 (pa_cons (pv 1) (pa_cons (pv 4) pa_nil))) pe_int (fun _ _ => rfl))) pa_nil))))) pa_nil)))))), fun φ ds d H D0 σ hl hR hrt hnx A => ?_⟩
  obtain ⟨ps, qs, os, M1, M2, l1, l2, rfl, hs, hm, rfl⟩ := hR
  replace A : At K φ (Same H) [some (maskD ps), some (maskD qs), none, none, none] σ H := A
  have hlen : os.length ≤ 40 := by
    have := nodup_le (rise_nodup hs) fun k hk => (hm k).mp hk
    rw [List.length_map, List.length_append] at this
    omega
  have lc : ((ps ++ qs).map prDD).length ≤ 40 := by rw [List.length_map, List.length_append]; omega
  refine q (st_set A ((ev_sortSet (ns := (ps ++ qs).map (·.1)) ((ev_lc (f := fun d => .int (pOf d).1) (it_tup ((ev_catT (ds := ps.map prDD) (es := qs.map prDD) (ev_var rfl) (ev_var rfl) (by rw [List.length_map, List.length_map]; omega)).is (d' := .tup ((ps ++ qs).map prDD)) (by rw [List.map_append]))) (by omega) fun d hd φ' J' hx => ?_).is ?_) (by rw [List.length_map, List.length_append]; omega)).imp fun z ⟨os', e, h1, h2⟩ => (show z = .lst (os.map D.int) by rw [e, rise_uniq h1 hs fun k => (h2 k).trans (hm k).symm])) fun σ1 H1 A1 => ?_)
  · obtain ⟨p, _, rfl⟩ := List.mem_map.mp hd
    exact ev_ixT (ds := [.int p.1, .int p.2]) (ev_var rfl) ev_int rfl
  · rw [List.map_map, List.map_map]
    rfl
  replace A1 : At K φ (Same H) [some (maskD ps), some (maskD qs), some (.lst (os.map D.int)), none, none] σ1 H1 := A1
  refine st_ret A1 (ev_tupL (ev_lc (f := fun d => prDD (intV d, (lossAt ps (intV d)).1 + (lossAt qs (intV d)).1)) (it_list (ev_var rfl)) (by rw [List.length_map]; omega) fun d hd φ' J' hx => ?_)) fun v d' H9 e A9 r => hrt v H9 A9.j ?_
  · obtain ⟨o, _, rfl⟩ := List.mem_map.mp hd
    exact ev_tup (ea_cons (ev_var rfl) (ea_cons (ev_add (ev_ixT (ds := [.int (lossAt ps o).1, .int (lossAt ps o).2]) (ev_callD (ea_cons (ev_var rfl) (ea_cons (ev_var rfl) ea_nil)) ⟨ps, o, M1, rfl, rfl⟩) ev_int rfl) (ev_ixT (ds := [.int (lossAt qs o).1, .int (lossAt qs o).2]) (ev_callD (ea_cons (ev_var rfl) (ea_cons (ev_var rfl) ea_nil)) ⟨qs, o, M2, rfl, rfl⟩) ev_int rfl)) ea_nil))
  · subst e
    have e2 : maskD (bothP ps qs os) = .tup ((os.map D.int).map fun d => prDD (intV d, (lossAt ps (intV d)).1 + (lossAt qs (intV d)).1)) := by
      unfold maskD bothP
      rw [List.map_map, List.map_map]
      rfl
    rw [e2]
    exact r
def scaledP (ps : List (Int × Int)) (k : Int) : List (Int × Int) := ps.map fun p => (p.1 * k, p.2)
def RScaled : List D → D → Prop := fun ds d => ∃ ps k, ds = [maskD ps, .int k] ∧ 0 ≤ k ∧ k ≤ 100 ∧ ps.length ≤ 20 ∧ d = maskD (scaledP ps k)
theorem sc_scaled : FnScope ["mask", "factor", "offset", "loss"] ["mask", "factor"] (defScope s_scaled) := ⟨rfl, rfl, rfl, by decide +kernel, rfl, by decide +kernel, by decide +kernel⟩
theorem ok_scaled (B : Bi mg) {f : Addr} {fd : FuncData} (F : Fun K "scaled" "scaled" s_scaled f fd) : FnOk P w K mg base CX0 1 f fd ["mask", "factor"] (SpD K 2 RScaled) := by
  have S := sc_scaled
  refine fn_ok F S rfl 2 rfl fun cdv A outer s H E hr => ⟨_, ((pss_one (ps_ret (pe_callTy c_tupOf (by rfl) B.tuple (by decide +kernel) (pa_cons (pe_lc (own := [("offset", 2), ("loss", 3)]) (g := (gTup K 2 (gCons (gName 2) (gCons (gName 3) gNil)))) (tt := tYes) (by rfl) S.nd (pi_tup (pv 0)) (blkOk_by (N := ["mask", "factor", "offset", "loss"]) (sc := defScope s_scaled) (own := [("offset", 2), ("loss", 3)]) (by decide +kernel)) (fun _ _ _ _ _ => (pg_tup (by rfl) (pgs_cons (pg_name (i := 2) S.nd rfl (by first | exact Or.inl rfl | exact Or.inr rfl)) (pgs_cons (pg_name (i := 3) S.nd rfl (by first | exact Or.inl rfl | exact Or.inr rfl)) pgs_nil)))) (fun _ _ _ _ _ => pts_nil) (fun _ _ _ _ _ => (pe_tup (pa_cons (pe_op op_mul (pv 2) (pv 1)) (pa_cons (pv 3) pa_nil))))) pa_nil))))), fun φ ds d H D0 σ hl hR hrt hnx A => ?_⟩
  obtain ⟨ps, k, rfl, h0, h1, l1, rfl⟩ := hR
  replace A : At K φ (Same H) [some (maskD ps), some (.int k), none, none] σ H := A
  refine st_ret A (ev_tupL (ev_lcT2 (ds := ps.map prDD) (k1 := 2) (k2 := 3) (p := fun _ => true) (f := fun d => prDD ((pOf d).1 * k, (pOf d).2)) (it_tup (ev_var rfl)) (by rw [List.length_map]; omega) (fun d hd => by
    obtain ⟨p, _, rfl⟩ := List.mem_map.mp hd
    exact ⟨_, _, rfl⟩) (fun a b hm φ' J' hx => et_yes) fun a b hm _ φ' J' hx => ?_)) fun v d' H9 e A9 r => hrt v H9 A9.j ?_
  · obtain ⟨p, _, e⟩ := List.mem_map.mp hm
    cases e
    exact ev_tup (ea_cons (ev_mul (ev_var rfl) (ev_var rfl) (.inr (by omega))) (ea_cons (ev_var rfl) ea_nil))
  · subst e
    have e2 : maskD (scaledP ps k) = .tup (((ps.map prDD).filter fun _ => true).map fun d => prDD ((pOf d).1 * k, (pOf d).2)) := by
      unfold maskD scaledP
      rw [List.filter_eq_self.mpr (fun _ _ => rfl), List.map_map, List.map_map]
      rfl
    rw [e2]
    exact r
end

/-! ### is_mask of points -/
theorem maskB_pr (p : Int × Int) (ps : List (Int × Int)) : maskB (.tup ((p :: ps).map prDD)) = (decide (p = (0, 0)) && upB (p :: ps)) := by
  show (((p :: ps).map prDD).all pointD && (decide (p = (0, 0)) && upB (((p :: ps).map prDD).map pOf))) = _
  rw [all_pr, pOf_pr, Bool.true_and]

/-! ### the law's own_is_mask and loss -/
theorem maskD_lst {es : List D} : maskB (.lst es) = false := rfl
theorem lossAt_tail {a b : Int × Int} {r : List (Int × Int)} {x : Int} (h : b.1 ≤ x) : lossAt (a :: b :: r) x = lossAt (b :: r) x := by
  show (if x < b.1 then _ else _) = _
  rw [if_neg (by omega)]
/-- at the offset of a point: its loss -/
theorem lossAt_point : ∀ {b : Int × Int} {r : List (Int × Int)}, (∀ c, (b :: r)[1]? = some c → b.1 < c.1) → lossAt (b :: r) b.1 = (b.2, b.2)
  | b, [], _ => rfl
  | b, c :: r, h => by
    show (if b.1 < c.1 then _ else _) = _
    rw [if_pos (h c rfl), Int.sub_self, Int.mul_zero, Int.neg_zero, Int.zero_ediv]
    show (b.2 + 0, b.2 - 0) = _
    rw [Int.add_zero, Int.sub_zero]
/-- the law's form of it, on the closed part -/
theorem loss_law {a b : Int × Int} {x : Int} (h1 : a.1 < b.1) : ((a.2 * (b.1 - a.1) + (b.2 - a.2) * (x - a.1)) / (b.1 - a.1), -((-(a.2 * (b.1 - a.1) + (b.2 - a.2) * (x - a.1))) / (b.1 - a.1))) = (a.2 + (b.2 - a.2) * (x - a.1) / (b.1 - a.1), a.2 - (-((b.2 - a.2) * (x - a.1))) / (b.1 - a.1)) := by
  have hw : b.1 - a.1 ≠ 0 := by omega
  have e1 : (a.2 * (b.1 - a.1) + (b.2 - a.2) * (x - a.1)) / (b.1 - a.1) = a.2 + (b.2 - a.2) * (x - a.1) / (b.1 - a.1) := by
    rw [Int.add_comm, Int.add_mul_ediv_right _ _ hw, Int.add_comm]
  have e2 : (-(a.2 * (b.1 - a.1) + (b.2 - a.2) * (x - a.1))) / (b.1 - a.1) = -a.2 + (-((b.2 - a.2) * (x - a.1))) / (b.1 - a.1) := by
    rw [show -(a.2 * (b.1 - a.1) + (b.2 - a.2) * (x - a.1)) = -((b.2 - a.2) * (x - a.1)) + (-a.2) * (b.1 - a.1) by rw [Int.neg_add, Int.neg_mul, Int.add_comm], Int.add_mul_ediv_right _ _ hw, Int.add_comm]
  rw [e1, e2]
  refine Prod.ext rfl ?_
  show -(-a.2 + _) = a.2 - _
  omega
theorem loss_end {a b : Int × Int} (h1 : a.1 < b.1) : ((a.2 * (b.1 - a.1) + (b.2 - a.2) * (b.1 - a.1)) / (b.1 - a.1), -((-(a.2 * (b.1 - a.1) + (b.2 - a.2) * (b.1 - a.1))) / (b.1 - a.1))) = (b.2, b.2) := by
  have hw : b.1 - a.1 ≠ 0 := by omega
  have e : a.2 * (b.1 - a.1) + (b.2 - a.2) * (b.1 - a.1) = b.2 * (b.1 - a.1) := by rw [← Int.add_mul]; congr 1; omega
  rw [e, ← Int.neg_mul, Int.mul_ediv_cancel _ hw, Int.mul_ediv_cancel _ hw, Int.neg_neg]
section
variable {P : Program} {w : World} {K : PySem.W.Frag} {mg : Str → Option Value} {base : Heap}
def RLawLoss : List D → D → Prop := fun ds d => ∃ ps x, MaskOk ps ∧ 0 ≤ x ∧ ds = [maskD ps, .int x] ∧ d = prDD (lossAt ps x)
theorem sc__law_loss : FnScope ["mask", "offset", "k", "first", "last", "width", "value"] ["mask", "offset"] (defScope s__law_loss) := ⟨rfl, rfl, rfl, by decide +kernel, rfl, by decide +kernel, by decide +kernel⟩
theorem ok__law_loss (B : Bi mg) {f : Addr} {fd : FuncData} (F : Fun K "_law_loss" "_law_loss" s__law_loss f fd) : FnOk P w K mg base CX0 1 f fd ["mask", "offset"] (SpD K 2 RLawLoss) := by
  have S := sc__law_loss
  refine fn_ok F S rfl 5 rfl fun cdv A outer s H E hr => ⟨_, ((pss_cons (ps_for PassesOwn.never rfl (pi_range2 (by rfl) B.range (pa_cons pe_int (pa_cons (pe_callB c_len (by rfl) B.len (by decide +kernel) (pa_cons (pv 0) pa_nil)) pa_nil))) (pg_name (i := 2) S.nd rfl (by first | exact Or.inl rfl | exact Or.inr rfl))
 (pss_cons (ps_set (i := 3) S.nd rfl (by first | exact Or.inl rfl | exact Or.inr rfl) (pe_ix ix_tup (pv 0) (pe_op op_sub (pv 2) pe_int) (fun _ _ => rfl)))
 (pss_cons (ps_set (i := 4) S.nd rfl (by first | exact Or.inl rfl | exact Or.inr rfl) (pe_ix ix_tup (pv 0) (pv 2) (fun _ _ => rfl)))
 (pss_one (ps_if (pt_chain op_le op_le (pe_ix ix_tup (pv 3) pe_int (fun _ _ => rfl)) (pv 1) (pe_ix ix_tup (pv 4) pe_int (fun _ _ => rfl)))
 (pss_cons (ps_set (i := 5) S.nd rfl (by first | exact Or.inl rfl | exact Or.inr rfl) (pe_op op_sub (pe_ix ix_tup (pv 4) pe_int (fun _ _ => rfl)) (pe_ix ix_tup (pv 3) pe_int (fun _ _ => rfl))))
 (pss_cons (ps_set (i := 6) S.nd rfl (by first | exact Or.inl rfl | exact Or.inr rfl) (pe_op op_add (pe_op op_mul (pe_ix ix_tup (pv 3) pe_int (fun _ _ => rfl)) (pv 5)) (pe_op op_mul (pe_op op_sub (pe_ix ix_tup (pv 4) pe_int (fun _ _ => rfl)) (pe_ix ix_tup (pv 3) pe_int (fun _ _ => rfl))) (pe_op op_sub (pv 1) (pe_ix ix_tup (pv 3) pe_int (fun _ _ => rfl))))))
 (pss_one (ps_ret (pe_tup (pa_cons (pe_op op_fdiv (pv 6) (pv 5)) (pa_cons (pe_un un_neg (pe_op op_fdiv (pe_un un_neg (pv 6)) (pv 5))) pa_nil)))))))
 pss_nil)))))
 (pss_one (ps_ret (pe_tup (pa_cons (pe_ix ix_tup (pe_ix ix_tup (pv 0) (pe_un un_neg pe_int) (fun _ _ => rfl)) pe_int (fun _ _ => rfl)) (pa_cons (pe_ix ix_tup (pe_ix ix_tup (pv 0) (pe_un un_neg pe_int) (fun _ _ => rfl)) pe_int (fun _ _ => rfl)) pa_nil))))))), fun φ ds d H D0 σ hl hR hrt hnx A => ?_⟩
  obtain ⟨ps, x, M, hx0, rfl, rfl⟩ := hR
  replace A : At K φ (Same H) [some (maskD ps), some (.int x), none, none, none, none, none] σ H := A
  have hpos : 0 < ps.length := List.length_pos_iff.mpr M.ne
  have hL : (ps.map prDD).length = ps.length := List.length_map ..
  have hsm := M.len
  refine q (st_for (k := 2) A (it_range2 (ea_cons ev_int (ea_cons (ev_lenT (ds := ps.map prDD) (ev_var rfl)) ea_nil)) (by rw [hL]; omega)) (fun i ρ' J' => ((lossAt ps x = lossAt (ps.drop i) x ∧ ∀ a, ps[i]? = some a → a.1 ≤ x) ∧ ∃ o2 o3 o4, ρ' = [some (maskD ps), some (.int x), o2, o3, o4, none, none]) ∧ J' = Same H) ⟨⟨⟨rfl, fun a ha => by rw [M.z] at ha; cases ha; exact hx0⟩, none, none, none, rfl⟩, rfl⟩ ?_ ?_)
  · rintro H4 i d ρ' J' b4 j4 hx ⟨⟨⟨hi, hax⟩, o2, o3, o4, rfl⟩, rfl⟩ σ' H' A5
    rw [rangeD_get] at hx
    split at hx
    · rename_i hk2
      cases hx
      rw [hL] at hk2
      have hk3 : i + 1 < ps.length := by omega
      obtain ⟨a, ha⟩ : ∃ a, ps[i]? = some a := ⟨_, List.getElem?_eq_getElem (by omega)⟩
      obtain ⟨b, hb⟩ : ∃ b, ps[i + 1]? = some b := ⟨_, List.getElem?_eq_getElem hk3⟩
      have a1 : L2.atI (ps.map prDD) (1 + (i : Int) - 1) = some (prDD a) := by
        rw [show 1 + (i : Int) - 1 = (i : Int) by omega]
        exact atI_ofNat (by rw [List.getElem?_map, ha]; rfl)
      have a2 : L2.atI (ps.map prDD) (1 + (i : Int)) = some (prDD b) := by
        rw [show 1 + (i : Int) = ((i + 1 : Nat) : Int) by omega]
        exact atI_ofNat (by rw [List.getElem?_map, hb]; rfl)
      have hax := hax a ha
      obtain ⟨hinc, hinc2⟩ := M.inc i a b ha hb
      have sa := M.sm a (List.mem_of_getElem? ha)
      have sb := M.sm b (List.mem_of_getElem? hb)
      rw [lossAt_step ha hb] at hi
      replace A5 : At K φ (fun H_1 => Same H H_1 ∧ But φ H4 H_1) [some (maskD ps), some (.int x), some (.int (1 + (i : Int))), o3, o4, none, none] σ' H' := A5
      refine q (st_set A5 (ev_ixT (ev_var rfl) (ev_sub (ev_var rfl) ev_int) a1) fun σ6 H6 A6 => q (st_set A6 (ev_ixT (ev_var rfl) (ev_var rfl) a2) fun σ7 H7 A7 => ?_))
      refine st_if A7 (et_test (ev_chainI (ev_ixT (ev_var rfl) ev_int rfl) (ev_var rfl) (ev_ixT (ev_var rfl) ev_int rfl))) (fun hb1 H8 A8 => ?_) (fun hb1 H8 A8 => st_next ?_)
      · have hbx : x ≤ b.1 := by
          have h := hb1.symm
          rw [Bool.and_eq_true, decide_eq_true_eq, decide_eq_true_eq] at h
          exact h.2
        have hbig : -(2 ^ 64) < b.2 - a.2 ∧ b.2 - a.2 < 2 ^ 64 := by omega
        refine q (st_set A8 (ev_sub (ev_ixT (ev_var rfl) ev_int rfl) (ev_ixT (ev_var rfl) ev_int rfl)) fun σ9 H9 A9 => q (st_set A9 (ev_add (ev_mul (ev_ixT (ev_var rfl) ev_int rfl) (ev_var rfl) (.inl (by omega))) (ev_mul (ev_sub (ev_ixT (ev_var rfl) ev_int rfl) (ev_ixT (ev_var rfl) ev_int rfl)) (ev_sub (ev_var rfl) (ev_ixT (ev_var rfl) ev_int rfl)) (.inl hbig))) fun σ10 H10 A10 => ?_))
        refine st_ret A10 (ev_tup (ea_cons (ev_fdiv (ev_var rfl) (ev_var rfl) (by unfold CDiv; omega)) (ea_cons (ev_neg (ev_fdiv (ev_neg (ev_var rfl)) (ev_var rfl) (by unfold CDiv; omega))) ea_nil))) fun v d' H11 e A11 r => hrt v H11 A11.j.1 ?_
        subst e
        have e : lossAt ps x = ((a.2 * (b.1 - a.1) + (b.2 - a.2) * (x - a.1)) / (b.1 - a.1), -((-(a.2 * (b.1 - a.1) + (b.2 - a.2) * (x - a.1))) / (b.1 - a.1))) := by
          by_cases hlt : x < b.1
          · rw [hi, if_pos hlt, loss_law hinc]
          · have hxb : x = b.1 := by omega
            subst hxb
            rw [hi, if_neg hlt, loss_end hinc]
            have h1 := (List.getElem?_eq_some_iff.mp hb).2
            rw [List.drop_eq_getElem_cons hk3, h1]
            refine lossAt_point fun c hc => ?_
            rw [← h1, ← List.drop_eq_getElem_cons hk3, List.getElem?_drop] at hc
            exact (M.inc (i + 1) b c hb hc).1
        rw [e]
        exact r
      · refine NX.go (Inv := fun i ρ' J' => ((lossAt ps x = lossAt (ps.drop i) x ∧ ∀ a, ps[i]? = some a → a.1 ≤ x) ∧ ∃ o2 o3 o4, ρ' = [some (maskD ps), some (.int x), o2, o3, o4, none, none]) ∧ J' = Same H) A8 ⟨⟨⟨?_, ?_⟩, _, _, _, rfl⟩, rfl⟩
        · have hnx : ¬ x ≤ b.1 := fun z => by rw [decide_eq_true hax, decide_eq_true z] at hb1; cases hb1
          rw [hi, if_neg (by omega)]
        · intro c hc
          rw [hb] at hc
          cases hc
          have hnx : ¬ x ≤ b.1 := fun z => by rw [decide_eq_true hax, decide_eq_true z] at hb1; cases hb1
          omega
    · cases hx
  · rintro H4 ρ' J' σ' H' b4 j4 ⟨⟨⟨hi, _⟩, o2, o3, o4, rfl⟩, rfl⟩ A5
    rw [rangeD_length, hL] at hi
    have e1 : (ps.drop ((ps.length : Int) - 1).toNat) = [lastP ps] := by
      have h1 : ps.length - 1 < ps.length := by omega
      rw [show ((ps.length : Int) - 1).toNat = ps.length - 1 by omega, List.drop_eq_getElem_cons h1, List.drop_eq_nil_of_le (by omega)]
      unfold lastP
      rw [List.getLast?_eq_getElem?, List.getElem?_eq_getElem h1]
      rfl
    rw [e1] at hi
    refine st_ret A5 (ev_tup (ea_cons (ev_ixT (ev_ixT (ev_var rfl) (ev_neg ev_int) (atI_last M.ne)) ev_int rfl) (ea_cons (ev_ixT (ev_ixT (ev_var rfl) (ev_neg ev_int) (atI_last M.ne)) ev_int rfl) ea_nil))) fun v d' H9 e A9 r => hrt v H9 A9.j.1 ?_
    subst e
    rw [hi]
    exact r
end

/-! ### drawn masks -/
theorem lastP_snoc {ps : List (Int × Int)} {a : Int × Int} : lastP (ps ++ [a]) = a := by
  unfold lastP
  rw [List.getLast?_concat]
  rfl
theorem lastP_get {ps : List (Int × Int)} (h : ps ≠ []) : ps[ps.length - 1]? = some (lastP ps) := by
  have h0 := List.length_pos_iff.mpr h
  unfold lastP
  rw [List.getLast?_eq_getElem?, List.getElem?_eq_getElem (by omega)]
  rfl
theorem MaskOk.snoc {ps : List (Int × Int)} (M : MaskOk ps) {a : Int × Int} (hl : ps.length ≤ 1000) (h1 : (lastP ps).1 < a.1) (h2 : (lastP ps).2 ≤ a.2) (b1 : a.1 ≤ 1000000) (b2 : a.2 ≤ 1000000) : MaskOk (ps ++ [a]) := by
  have h0 := List.length_pos_iff.mpr M.ne
  have hlast : lastP ps ∈ ps := List.mem_of_getElem? (lastP_get M.ne)
  have s := M.sm _ hlast
  refine ⟨fun z => by simp at z, by rw [List.length_append]; show ps.length + 1 ≤ _; omega, by rw [List.getElem?_append_left h0]; exact M.z, fun i x y hx hy => ?_, fun x hx => ?_⟩
  · by_cases hi : i + 1 < ps.length
    · rw [List.getElem?_append_left (by omega)] at hx
      rw [List.getElem?_append_left hi] at hy
      exact M.inc i x y hx hy
    · have hi2 : i + 1 = ps.length := by
        have := (List.getElem?_eq_some_iff.mp hy).1
        rw [List.length_append] at this
        have : i + 1 < ps.length + 1 := this
        omega
      rw [List.getElem?_append_left (by omega), show i = ps.length - 1 by omega, lastP_get M.ne] at hx
      rw [List.getElem?_append_right (by omega), hi2, Nat.sub_self] at hy
      cases hx
      cases hy
      exact ⟨h1, h2⟩
  · rcases List.mem_append.mp hx with h | h
    · exact M.sm x h
    · rw [List.mem_singleton.mp h]
      omega
theorem maskOk_0 : MaskOk [(0, 0)] := ⟨(fun z => nomatch z), by decide, rfl, (fun i a b _ h => nomatch (show none = some b from h)), (fun a h => by rw [List.mem_singleton.mp h]; decide)⟩
section
variable {P : Program} {w : World} {K : PySem.W.Frag} {mg : Str → Option Value} {base : Heap}
def PreMask : List D → Prop := fun ds => ds = []
def RMask : List D → D → Prop := fun _ r => ∃ ps, r = maskD ps ∧ MaskOk ps ∧ ps.length ≤ 5 ∧ (lastP ps).1 ≤ 24 ∧ (lastP ps).2 ≤ 2400
theorem sc__law_mask : FnScope ["pool", "points", "k"] ["pool"] (defScope s__law_mask) := ⟨rfl, rfl, rfl, by decide +kernel, rfl, by decide +kernel, by decide +kernel⟩
theorem ok__law_mask (B : Bi mg) {f g : Addr} {fd gd : FuncData} (F : Fun K "_law_mask" "_law_mask" s__law_mask f fd) (L__law_draw : Lk K mg "_law_draw" g gd ["pool", "many"]) (G__law_draw : FnOk P w K mg base CX0 2 g gd ["pool", "many"] spDraw) : FnOk P w K mg base CX0 3 f fd ["pool"] (SpP K 0 PreMask RMask) := by
  have S := sc__law_mask
  refine fn_okP F S rfl 2 rfl fun cdv A outer s H E hr => ⟨_, ((pss_cons (ps_set (i := 1) S.nd rfl (by first | exact Or.inl rfl | exact Or.inr rfl) (pe_lst (pa_cons (pe_tup (pa_cons pe_int (pa_cons pe_int pa_nil))) pa_nil)))
 (pss_cons (ps_for PassesOwn.never rfl (pi_range1 (by rfl) B.range (pa_cons (pe_call G__law_draw (hr.mono (by first | exact Nat.le_refl _ | decide | omega)) (by rfl) L__law_draw.m L__law_draw.kp L__law_draw.bi .nil pass0 (pa_cons (pv 0) (pa_cons pe_int pa_nil))) pa_nil)) (pg_name (i := 2) S.nd rfl (by first | exact Or.inl rfl | exact Or.inr rfl))
 (pss_one (ps_expr (pe_bm PySem.F.plainAttrs_list PySem.F.slot_list_append PySem.F.type_list_append mt_append (pv 1) (pa_cons (pe_tup (pa_cons (pe_op op_add (pe_op op_add (pe_ix ix_tup (pe_ix ix_list (pv 1) (pe_un un_neg pe_int) (fun _ _ => rfl)) pe_int (fun _ _ => rfl)) pe_int) (pe_call G__law_draw (hr.mono (by first | exact Nat.le_refl _ | decide | omega)) (by rfl) L__law_draw.m L__law_draw.kp L__law_draw.bi .nil pass0 (pa_cons (pv 0) (pa_cons pe_int pa_nil)))) (pa_cons (pe_op op_add (pe_ix ix_tup (pe_ix ix_list (pv 1) (pe_un un_neg pe_int) (fun _ _ => rfl)) pe_int (fun _ _ => rfl)) (pe_op op_mul (pe_call G__law_draw (hr.mono (by first | exact Nat.le_refl _ | decide | omega)) (by rfl) L__law_draw.m L__law_draw.kp L__law_draw.bi .nil pass0 (pa_cons (pv 0) (pa_cons pe_int pa_nil))) (pe_call G__law_draw (hr.mono (by first | exact Nat.le_refl _ | decide | omega)) (by rfl) L__law_draw.m L__law_draw.kp L__law_draw.bi .nil pass0 (pa_cons (pv 0) (pa_cons pe_int pa_nil))))) pa_nil))) pa_nil)))))
 (pss_one (ps_ret (pe_callTy c_tupOf (by rfl) B.tuple (by decide +kernel) (pa_cons (pv 1) pa_nil))))))), fun φ p pl ns ds H D0 σ hl pre np ne hrt A => ?_⟩
  have pre : ds = [] := pre
  subst pre
  replace A : At K φ (JB p pl ns H) [some (.raw (.ref p)), none, none] σ H := A
  have hP : Pooled φ (JB p pl ns H) p pl ns := pooledB np ne
  refine q (st_newS A (en_ofN (en_lstD (ea_cons (ev_tup (ea_cons ev_int (ea_cons ev_int ea_nil))) ea_nil))) fun l ds0 C J1 σ2 H2 hC N1 L1 A2 => q ?_)
  obtain ⟨e, rfl⟩ := hC
  subst e
  have hP1 : Pooled (wo φ l) J1 p pl ns := N1.ext.pool _ _ _ hP
  obtain ⟨npl, nsl⟩ := N1.pl _ _ _ hP
  let ρ0 : Option D → List (Option D) := fun o => [some (.raw (.ref p)), some (.raw (.ref l)), o]
  replace A2 : At K (wo φ l) J1 (ρ0 none) σ2 H2 := A2
  have sb := N1.st
  refine st_forP A2 (it_range1P (p := fun n => 0 ≤ n ∧ n < 5) (fun σ H A Q k => ea_consP (ev_draw hP1 rfl ev_int (by decide) (by decide)) ea_nil σ H A Q fun vs ds H' b A' h r => k vs ds H' b A' ?_ r) (fun n h => by omega)) fun ds3 H3 h3 A3 => ?_
  · obtain ⟨d, r', rfl, ⟨n, rfl, h⟩, rfl⟩ := h
    exact ⟨n, rfl, h⟩
  obtain ⟨n, ⟨n0, n5⟩, rfl⟩ := h3
  refine forG_by A3 (fun i ρ' J' => ∃ (ps : List (Int × Int)) (o : Option D), ps.length = i + 1 ∧ MaskOk ps ∧ (lastP ps).1 ≤ 6 * i ∧ (lastP ps).2 ≤ 598 * i ∧ LivS K (wo φ l) J' l HO.lst (ps.map prDD) ∧ (∀ H', J' H' → JB p pl ns H H') ∧ Pooled (wo φ l) J' p pl ns ∧ ρ' = ρ0 o) ⟨[(0, 0)], none, rfl, maskOk_0, by decide, by decide, L1, fun H' h => N1.ext.imp H' h, hP1, rfl⟩ ?_ ?_
  · rintro i x ρ' J' hx ⟨ps, o, hps, M, l1, l2, L4, hb4, hP4, rfl⟩
    refine ⟨_, _, eg_name, fun σ' H' A4 => ?_⟩
    have hi : i < 5 := by
      have := (List.getElem?_eq_some_iff.mp hx).1
      rw [rangeD_length] at this
      omega
    replace A4 : At K (wo φ l) (fun H => J' H ∧ But (wo φ l) H3 H) (ρ0 (some x)) σ' H' := A4
    have hP5 : Pooled (wo φ l) (fun H => J' H ∧ But (wo φ l) H3 H) p pl ns := Ext.but'.pool _ _ _ hP4
    have hs := M.sm _ (List.mem_of_getElem? (lastP_get M.ne))
    have eP : EvD K (wo φ l) (fun H => J' H ∧ But (wo φ l) H3 H) (tOp (rIxL K) (tVar 1) (tUn (rU fun i => .int (-i)) (tC (.int 1)))) (ρ0 (some x)) (prDD (lastP ps)) := ev_ixS L4.but (ev_var rfl) (ev_neg ev_int) (atI_last M.ne)
    refine st_appS (P := fun d => ∃ a b : Int, d = prDD ((lastP ps).1 + 1 + a, (lastP ps).2 + b) ∧ 0 ≤ a ∧ a < 6 ∧ 0 ≤ b ∧ b ≤ 598) A4 L4.but rfl (fun σ H A Q k => ev_tupP (ea_consP (ei_add (ev_i (ev_add (ev_ixT eP ev_int rfl) ev_int)) (ev_draw hP5 rfl ev_int (by decide) (by decide))) (ea_consP (ei_add (ev_i (ev_ixT eP ev_int rfl)) (ei_mul (ev_draw hP5 rfl ev_int (by decide) (by decide)) (ev_draw hP5 rfl ev_int (by decide) (by decide)) (fun i j h1 h2 => .inl (by omega)))) ea_nil)) ?_ σ H A Q fun v d H' b A' pd r => k v d H' b A' ?_ r) (by rw [List.length_map]; omega) fun d J8 H8 hd W8 L8 A8 => ?_
    · rintro r ⟨d, r', rfl, _, d2, r2, rfl, _, rfl⟩
      exact Nat.le_of_ble_eq_true rfl
    · obtain ⟨r, rfl, d, r', rfl, ⟨k1, rfl, i1, j1, rfl, ⟨a0, a1⟩, rfl⟩, d2, r2, rfl, ⟨k2, rfl, i2, j2, rfl, ⟨i3, j3, ⟨c0, c1⟩, ⟨e0, e1⟩, rfl⟩, rfl⟩, rfl⟩ := pd
      refine ⟨j1, i3 * j3, rfl, a0, a1, Int.mul_nonneg c0 e0, ?_⟩
      have : i3 * j3 ≤ 299 * 2 := Int.mul_le_mul (by omega) (by omega) e0 (by decide)
      omega
    · obtain ⟨a, b, rfl, a0, a1, b0, b1⟩ := hd
      have hb8 := W8.base _ (fun H h => h.2) (Stab.but (.inl L4.np))
      refine ⟨_, J8, ⟨ps ++ [((lastP ps).1 + 1 + a, (lastP ps).2 + b)], _, by rw [List.length_append, hps]; rfl, M.snoc (by omega) (by show _ < _ + 1 + a; omega) (by show _ ≤ _ + b; omega) (by show _ + 1 + a ≤ _; omega) (by show _ + b ≤ _; omega), by rw [lastP_snoc]; show _ + 1 + a ≤ _; omega, by rw [lastP_snoc]; show _ + b ≤ _; omega, by rw [List.map_append]; exact L8, W8.base _ (fun H h => hb4 H h.1) sb, W8.pool _ _ _ hP5 npl nsl, rfl⟩, A8.live ⟨A8.j, hb8 _ A8.j⟩ (A8.mono.and (Mo.but (hb8 _ A8.j).tr))⟩
  · rintro ρ' J' σ' H' ⟨ps, o, hps, M, l1, l2, L4, hb4, hP4, rfl⟩ A4
    rw [rangeD_length] at hps l1 l2
    have A5 := L4.but.freeze N1.fr A4 (k := 1) rfl
    replace A5 : At K φ (fun H_1 => (J' H_1 ∧ But (wo φ l) H3 H_1) ∧ But φ H' H_1) [some (.raw (.ref p)), some (.lst (ps.map prDD)), o] σ' H' := A5
    refine st_ret A5 (ev_tupL (ev_var rfl)) fun v d H6 e A6 r => hrt v d H6 ⟨ps, e, M, by omega, by omega, by omega⟩ (hb4 _ A6.j.1.1) r
end

/-! ### the loss grows with the offset; the first offset -/
def IncP (ps : List (Int × Int)) : Prop := ∀ i a b, ps[i]? = some a → ps[i + 1]? = some b → a.1 < b.1 ∧ a.2 ≤ b.2
theorem IncP.tail {a : Int × Int} {ps : List (Int × Int)} (h : IncP (a :: ps)) : IncP ps := fun i x y h1 h2 => h (i + 1) x y h1 h2
theorem seg_le {a b : Int × Int} {x : Int} (h1 : a.1 < b.1) (h2 : a.2 ≤ b.2) (hx : a.1 ≤ x) (hxb : x < b.1) : a.2 ≤ a.2 + (b.2 - a.2) * (x - a.1) / (b.1 - a.1) ∧ a.2 + (b.2 - a.2) * (x - a.1) / (b.1 - a.1) ≤ b.2 := by
  have w : 0 < b.1 - a.1 := by omega
  have e1 : 0 ≤ (b.2 - a.2) * (x - a.1) := Int.mul_nonneg (by omega) (by omega)
  have e2 : (b.2 - a.2) * (x - a.1) ≤ (b.2 - a.2) * (b.1 - a.1) := Int.mul_le_mul_of_nonneg_left (by omega) (by omega)
  have e3 : 0 ≤ (b.2 - a.2) * (x - a.1) / (b.1 - a.1) := Int.ediv_nonneg e1 (by omega)
  have e4 : (b.2 - a.2) * (x - a.1) / (b.1 - a.1) ≤ b.2 - a.2 := by
    have := Int.ediv_le_ediv w e2
    rw [Int.mul_ediv_cancel _ (by omega)] at this
    exact this
  omega
theorem lossAt_ge : ∀ {a : Int × Int} {ps : List (Int × Int)} {x : Int}, IncP (a :: ps) → a.1 ≤ x → a.2 ≤ (lossAt (a :: ps) x).1
  | a, [], _, _, _ => Int.le_refl _
  | a, b :: r, x, h, hx => by
    obtain ⟨h1, h2⟩ := h 0 a b rfl rfl
    by_cases hb : x < b.1
    · show a.2 ≤ (if x < b.1 then _ else _ : Int × Int).1
      rw [if_pos hb]
      exact (seg_le h1 h2 hx hb).1
    · rw [lossAt_tail (by omega)]
      exact Int.le_trans h2 (lossAt_ge h.tail (by omega))
theorem lossAt_mono : ∀ {a : Int × Int} {ps : List (Int × Int)} {x y : Int}, IncP (a :: ps) → a.1 ≤ x → x ≤ y → (lossAt (a :: ps) x).1 ≤ (lossAt (a :: ps) y).1
  | a, [], _, _, _, _, _ => Int.le_refl _
  | a, b :: r, x, y, h, hx, hxy => by
    obtain ⟨h1, h2⟩ := h 0 a b rfl rfl
    by_cases hb : x < b.1
    · have ex : (lossAt (a :: b :: r) x).1 = a.2 + (b.2 - a.2) * (x - a.1) / (b.1 - a.1) := by
        show (if x < b.1 then _ else _ : Int × Int).1 = _
        rw [if_pos hb]
      rw [ex]
      by_cases hy : y < b.1
      · show _ ≤ (if y < b.1 then _ else _ : Int × Int).1
        rw [if_pos hy]
        have e2 : (b.2 - a.2) * (x - a.1) ≤ (b.2 - a.2) * (y - a.1) := Int.mul_le_mul_of_nonneg_left (by omega) (by omega)
        have := Int.ediv_le_ediv (show 0 < b.1 - a.1 by omega) e2
        show _ ≤ a.2 + _
        omega
      · rw [lossAt_tail (by omega)]
        exact Int.le_trans (seg_le h1 h2 hx hb).2 (lossAt_ge h.tail (by omega))
    · rw [lossAt_tail (by omega), lossAt_tail (by omega)]
      exact lossAt_mono h.tail (by omega) hxy
theorem lossAt_beyond : ∀ {ps : List (Int × Int)} {x : Int}, ps ≠ [] → IncP ps → (lastP ps).1 ≤ x → lossAt ps x = ((lastP ps).2, (lastP ps).2)
  | [], _, h, _, _ => absurd rfl h
  | [a], _, _, _, _ => rfl
  | a :: b :: r, x, _, h, hx => by
    have e : lastP (a :: b :: r) = lastP (b :: r) := by
      unfold lastP
      rw [List.getLast?_cons_cons]
    rw [e] at hx ⊢
    have hb : b.1 ≤ (lastP (b :: r)).1 := by
      have z : ∀ {b : Int × Int} {r : List (Int × Int)}, IncP (b :: r) → b.1 ≤ (lastP (b :: r)).1 := by
        intro b r
        induction r generalizing b with
        | nil => intro _; exact Int.le_refl _
        | cons c r ih =>
          intro h
          have e : lastP (b :: c :: r) = lastP (c :: r) := by
            unfold lastP
            rw [List.getLast?_cons_cons]
          rw [e]
          exact Int.le_trans (Int.le_of_lt (h 0 b c rfl rfl).1) (ih h.tail)
      exact z h.tail
    rw [lossAt_tail (by omega)]
    exact lossAt_beyond (by simp) h.tail hx
/-- the first of the offsets, as the law tells it -/
theorem first_of {ps : List (Int × Int)} (M : MaskOk ps) (loss : Int) (n : Int) (hn : (lastP ps).1 < n) :
    RFirst (maskD ps) (fun pr => decide (loss ≤ pr.1)) (match (rangeD 0 n.toNat).filter (fun d => decide (loss ≤ (lossAt ps (intV d)).1)) with | [] => .non | d :: _ => d) := by
  obtain ⟨l0, l1⟩ := M.last
  have hz : ∃ r, ps = (0, 0) :: r := by
    have := M.z
    cases ps with
    | nil => cases this
    | cons a r => cases this; exact ⟨r, rfl⟩
  have mono : ∀ a b : Int, 0 ≤ a → a ≤ b → decide (loss ≤ (lossAt ps a).1) = true → decide (loss ≤ (lossAt ps b).1) = true := fun a b h0 h1 h2 => by
    obtain ⟨r, rfl⟩ := hz
    have := lossAt_mono (x := a) (y := b) M.inc h0 h1
    exact decide_eq_true (by have := decide_eq_true_iff.mp h2; omega)
  refine ⟨ps, M, rfl, fun a b h0 h1 _ h2 => mono a b h0 h1 h2, ?_⟩
  cases hf : (rangeD 0 n.toNat).filter (fun d => decide (loss ≤ (lossAt ps (intV d)).1)) with
  | nil =>
    refine .inl ⟨?_, rfl⟩
    have hm : D.int (lastP ps).1 ∈ rangeD 0 n.toNat := List.mem_of_getElem? (i := (lastP ps).1.toNat) (by rw [rangeD_get, if_pos (by omega)]; congr 2; omega)
    show decide (loss ≤ (lossAt ps (lastP ps).1).1) = false
    cases e : decide (loss ≤ (lossAt ps (lastP ps).1).1) with
    | false => rfl
    | true =>
      have : D.int (lastP ps).1 ∈ (rangeD 0 n.toNat).filter (fun d => decide (loss ≤ (lossAt ps (intV d)).1)) := List.mem_filter.mpr ⟨hm, e⟩
      rw [hf] at this
      cases this
  | cons d rest =>
    have hd : d ∈ (rangeD 0 n.toNat).filter (fun d => decide (loss ≤ (lossAt ps (intV d)).1)) := by rw [hf]; exact List.mem_cons_self
    obtain ⟨hd1, hd2⟩ := List.mem_filter.mp hd
    obtain ⟨k, hk⟩ := List.mem_iff_getElem?.mp hd1
    rw [rangeD_get] at hk
    split at hk
    · rename_i hkn
      cases hk
      have hd2 : decide (loss ≤ (lossAt ps (0 + (k : Int))).1) = true := hd2
      -- none below holds
      have below : ∀ a : Int, 0 ≤ a → a < 0 + (k : Int) → decide (loss ≤ (lossAt ps a).1) = false := fun a h0 h1 => by
        cases e : decide (loss ≤ (lossAt ps a).1) with
        | false => rfl
        | true =>
          exfalso
          have hs : (rangeD 0 n.toNat).Pairwise fun x y => intV x < intV y := by
            unfold rangeD
            rw [List.pairwise_map]
            exact List.pairwise_lt_range.imp fun {a b} h => by show (0 : Int) + (a : Int) < 0 + (b : Int); omega
          have hs2 := hs.filter (fun d => decide (loss ≤ (lossAt ps (intV d)).1))
          rw [hf] at hs2
          have ha : D.int a ∈ (rangeD 0 n.toNat).filter (fun d => decide (loss ≤ (lossAt ps (intV d)).1)) := List.mem_filter.mpr ⟨List.mem_of_getElem? (i := a.toNat) (by rw [rangeD_get, if_pos (by omega)]; congr 2; omega), e⟩
          rw [hf] at ha
          rcases List.mem_cons.mp ha with z | z
          · cases z
            omega
          · have := (List.pairwise_cons.mp hs2).1 _ z
            have : (0 : Int) + (k : Int) < a := this
            omega
      refine .inr ⟨_, rfl, by omega, ?_, hd2, below⟩
      refine Int.not_lt.mp fun z => ?_
      have e := below (lastP ps).1 l0 z
      rw [lossAt_beyond M.ne M.inc (Int.le_refl _)] at e
      rw [lossAt_beyond M.ne M.inc (Int.le_of_lt z)] at hd2
      rw [e] at hd2
      cases hd2
    · cases hk

/-! ### the law's start beside a table -/
section
variable {P : Program} {w : World} {K : PySem.W.Frag} {mg : Str → Option Value} {base : Heap}
def spLawT (K : PySem.W.Frag) (C : Addr) : Sp := fun vs H Q _ => ∃ (a : Addr) (ns : List Int), vs = [.ref a] ∧ SqL K H a (ns.map V.int) ∧ ns.length ≤ 63 ∧ H C = some (.tbl #[]) ∧ ∀ H', Q (.bl true) H'
/-- st_pool beside a table -/
theorem st_poolT {D0 : Ends} {σ : L2.St} {H : Hp} {E : XK} {k n : Nat} {a C : Addr} {q : Str} {ps : Array Value} {ns : List Int} (hS : SqL K H a (ns.map V.int)) (hl : ns.length ≤ 63) (h0 : σ[0]? = some (some (.ref a))) (hk : σ.length = n) (hkn : k < n) (tj : TabJ C q ps H)
    (kk : ∀ p s σ' H', s ≠ p → p ≠ C → s ≠ C → At K (fun b => b ≠ p ∧ b ≠ C) (JPT p s ns C q ps) ((List.replicate n none).set k (some (.raw (.ref p)))) σ' H' → D0.nx σ' H') : tAsg (tCall (spPool K) [] E (tCons (tVar 0) tNil)) (gName k) D0 σ H := by
  refine ⟨_, h0, a, ns, rfl, hS, hl, fun p s H' sm hp hs ne po => ?_⟩
  have hp' : H' p ≠ none := by obtain ⟨_, _, _, _, e, _⟩ := po; rw [e]; exact fun z => by cases z
  have hs' : H' s ≠ none := by obtain ⟨_, _, _, _, _, e, _⟩ := po; rw [e]; exact fun z => by cases z
  have hpC : p ≠ C := fun z => by rw [z, tj.1] at hp; cases hp
  have hsC : s ≠ C := fun z => by rw [z, tj.1] at hs; cases hs
  have tj' := tj.same sm
  refine kk p s _ H' ne hpC hsC ⟨⟨by rw [List.length_set, List.length_set, List.length_replicate]; exact hk, fun i d hd => ?_⟩, ⟨fun b hb => ⟨fun z => hp' (z ▸ hb), fun z => by rw [z, tj'.1] at hb; cases hb⟩, fun b xs hb => ⟨(fun z => by obtain ⟨_, _, _, _, e, _⟩ := po; rw [z, e] at hb; cases hb), (fun z => by rw [z, tj'.1] at hb; cases hb)⟩⟩, ⟨po, tj'⟩, (mo_pool hp' hs').and tj'.mo⟩
  by_cases e : k = i
  · subst e
    rw [List.getElem?_set_self (by rw [List.length_replicate]; exact hkn)] at hd
    cases hd
    exact ⟨_, List.getElem?_set_self (by rw [hk]; exact hkn), rfl⟩
  · rw [List.getElem?_set_ne e, List.getElem?_replicate] at hd
    split at hd <;> cases hd
theorem sqL_same {H H' : Hp} {a : Addr} {xs : List V} (h : SqL K H a xs) (s : Same H H') : SqL K H' a xs := by
  rcases h with h | h
  · rcases h with h | ⟨o, h⟩
    · exact .inl (.inl (s _ _ h))
    · exact .inl (.inr ⟨o, s _ _ h⟩)
  · exact .inr h
theorem rangeD_snoc {lo : Int} {n : Nat} : rangeD lo (n + 1) = rangeD lo n ++ [.int (lo + (n : Int))] := by
  unfold rangeD
  rw [List.range_succ, List.map_append]
  rfl
theorem etu_no {φ : Addr → Prop} {J : Array Value → Hp → Prop} {ρ : List (Option D)} {t1 : TT} (ha : EvTU K φ J t1 ρ (fun b => b = true)) : EvTU K φ J (tNot t1) ρ (fun b => b = false) := fun ps σ H A Q k => etu_not ha ps σ H A Q fun b ps' H' bt A' e => k b ps' H' bt A' (by
  cases b with
  | false => rfl
  | true => cases e)
def hdD (E : List D) : D := match E with
  | [] => .non
  | d :: _ => d
end

/-! ### the mask of two masks is a mask -/
theorem le_last : ∀ {b : Int × Int} {r : List (Int × Int)}, IncP (b :: r) → ∀ p ∈ b :: r, p.1 ≤ (lastP (b :: r)).1
  | b, [], _, p, hp => by rw [List.mem_singleton.mp hp]; exact Int.le_refl _
  | b, c :: r, h, p, hp => by
    have e : lastP (b :: c :: r) = lastP (c :: r) := by
      unfold lastP
      rw [List.getLast?_cons_cons]
    rw [e]
    have hc := le_last h.tail c List.mem_cons_self
    rcases List.mem_cons.mp hp with z | z
    · rw [z]
      have := (h 0 b c rfl rfl).1
      omega
    · exact le_last h.tail p z
theorem MaskOk.cons {ps : List (Int × Int)} (M : MaskOk ps) : ∃ r, ps = (0, 0) :: r := by
  have := M.z
  cases ps with
  | nil => cases this
  | cons a r => cases this; exact ⟨r, rfl⟩
theorem MaskOk.le {ps : List (Int × Int)} (M : MaskOk ps) : ∀ p ∈ ps, p.1 ≤ (lastP ps).1 := by
  obtain ⟨r, rfl⟩ := M.cons
  exact le_last M.inc
theorem MaskOk.mono {ps : List (Int × Int)} (M : MaskOk ps) {x y : Int} (h0 : 0 ≤ x) (h : x ≤ y) : (lossAt ps x).1 ≤ (lossAt ps y).1 := by
  obtain ⟨r, rfl⟩ := M.cons
  exact lossAt_mono M.inc h0 h
theorem MaskOk.at0 {ps : List (Int × Int)} (M : MaskOk ps) : (lossAt ps 0).1 = 0 := by
  obtain ⟨r, rfl⟩ := M.cons
  have := lossAt_point (b := ((0, 0) : Int × Int)) (r := r) fun c hc => (M.inc 0 (0, 0) c rfl hc).1
  rw [this]
theorem MaskOk.top {ps : List (Int × Int)} (M : MaskOk ps) {x : Int} (h0 : 0 ≤ x) : 0 ≤ (lossAt ps x).1 ∧ (lossAt ps x).1 ≤ (lastP ps).2 := by
  refine ⟨by have := M.mono (Int.le_refl 0) h0; rw [M.at0] at this; exact this, ?_⟩
  by_cases h : x ≤ (lastP ps).1
  · have := M.mono h0 h
    rw [lossAt_beyond M.ne M.inc (Int.le_refl _)] at this
    exact this
  · rw [lossAt_beyond M.ne M.inc (by omega)]
    exact Int.le_refl _
theorem upB_ok : ∀ {ps : List (Int × Int)}, IncP ps → upB ps = true
  | [], _ => rfl
  | [_], _ => rfl
  | a :: b :: r, h => by
    obtain ⟨h1, h2⟩ := h 0 a b rfl rfl
    show (decide (a.1 < b.1) && decide (a.2 ≤ b.2) && upB (b :: r)) = true
    rw [decide_eq_true h1, decide_eq_true h2, upB_ok h.tail]
    rfl
theorem maskB_ok {ps : List (Int × Int)} (M : MaskOk ps) : maskB (maskD ps) = true := by
  obtain ⟨r, rfl⟩ := M.cons
  show maskB (.tup (((0, 0) :: r).map prDD)) = true
  rw [maskB_pr, upB_ok M.inc, decide_eq_true rfl]
  rfl
theorem both_ok {ps qs : List (Int × Int)} {os : List Int} (M1 : MaskOk ps) (M2 : MaskOk qs) (b1 : (lastP ps).1 ≤ 24 ∧ (lastP ps).2 ≤ 2400) (b2 : (lastP qs).1 ≤ 24 ∧ (lastP qs).2 ≤ 2400) (l1 : ps.length ≤ 5) (l2 : qs.length ≤ 5)
    (hs : os.Pairwise (· < ·)) (hm : ∀ k : Int, k ∈ os ↔ k ∈ (ps ++ qs).map (·.1)) : MaskOk (bothP ps qs os) ∧ (lastP (bothP ps qs os)).1 ≤ 24 ∧ os.length ≤ 10 := by
  have hlen : os.length ≤ 10 := by
    have := nodup_le (rise_nodup hs) fun k hk => (hm k).mp hk
    rw [List.length_map, List.length_append] at this
    omega
  have hb : ∀ o ∈ os, 0 ≤ o ∧ o ≤ 24 := fun o ho => by
    obtain ⟨p, hp, rfl⟩ := List.mem_map.mp ((hm o).mp ho)
    rcases List.mem_append.mp hp with z | z
    · exact ⟨(M1.sm p z).1, Int.le_trans (M1.le p z) b1.1⟩
    · exact ⟨(M2.sm p z).1, Int.le_trans (M2.le p z) b2.1⟩
  have h0 : (0 : Int) ∈ os := (hm 0).mpr (by
    obtain ⟨r, rfl⟩ := M1.cons
    exact List.mem_map.mpr ⟨(0, 0), by simp, rfl⟩)
  obtain ⟨t, rfl⟩ : ∃ t, os = 0 :: t := by
    cases os with
    | nil => cases h0
    | cons x t =>
      rcases List.mem_cons.mp h0 with e | m
      · exact ⟨t, by rw [e]⟩
      · have := (List.pairwise_cons.mp hs).1 0 m
        have := (hb x List.mem_cons_self).1
        omega
  have M : MaskOk (bothP ps qs (0 :: t)) := by
    refine ⟨(fun z => nomatch z), (by unfold bothP; rw [List.length_map]; omega), ?_, fun i a b ha hb' => ?_, fun a ha => ?_⟩
    · show some ((0 : Int), (lossAt ps 0).1 + (lossAt qs 0).1) = _
      rw [M1.at0, M2.at0]
      rfl
    · unfold bothP at ha hb'
      rw [List.getElem?_map] at ha hb'
      obtain ⟨x, hx, rfl⟩ := Option.map_eq_some_iff.mp ha
      obtain ⟨y, hy, rfl⟩ := Option.map_eq_some_iff.mp hb'
      obtain ⟨i1, e1⟩ := List.getElem?_eq_some_iff.mp hx
      obtain ⟨i2, e2⟩ := List.getElem?_eq_some_iff.mp hy
      have hlt : x < y := by
        have := List.pairwise_iff_getElem.mp hs i (i + 1) i1 i2 (Nat.lt_succ_self _)
        rw [e1, e2] at this
        exact this
      have hx0 := (hb x (List.mem_of_getElem? hx)).1
      refine ⟨hlt, ?_⟩
      have := M1.mono hx0 (Int.le_of_lt hlt)
      have := M2.mono hx0 (Int.le_of_lt hlt)
      show (lossAt ps x).1 + (lossAt qs x).1 ≤ (lossAt ps y).1 + (lossAt qs y).1
      omega
    · unfold bothP at ha
      obtain ⟨o, ho, rfl⟩ := List.mem_map.mp ha
      have := hb o ho
      have := M1.top this.1
      have := M2.top (hb o ho).1
      show 0 ≤ o ∧ o ≤ 1000000 ∧ 0 ≤ (lossAt ps o).1 + (lossAt qs o).1 ∧ (lossAt ps o).1 + (lossAt qs o).1 ≤ 1000000
      omega
  refine ⟨M, ?_, hlen⟩
  have hl : lastP (bothP ps qs (0 :: t)) ∈ bothP ps qs (0 :: t) := List.mem_of_getElem? (lastP_get M.ne)
  unfold bothP at hl
  obtain ⟨o, ho, e⟩ := List.mem_map.mp hl
  have := (hb o ho).2
  unfold bothP
  rw [← e]
  exact this
theorem guard_first {ps : List (Int × Int)} (M : MaskOk ps) (level least : Int) : RFirst (maskD ps) (fun pr => decide (level - pr.1 ≤ least)) (hdD ((rangeD 0 ((lastP ps).1 + 2).toNat).filter (fun d => decide (level - (lossAt ps (intV d)).1 ≤ least)))) := by
  have e : ∀ x : Int, decide (level - x ≤ least) = decide (level - least ≤ x) := fun x => by
    by_cases h : level - least ≤ x
    · rw [decide_eq_true h, decide_eq_true (by omega)]
    · rw [decide_eq_false h, decide_eq_false (by omega)]
  have e1 : (fun pr : Int × Int => decide (level - pr.1 ≤ least)) = fun pr => decide (level - least ≤ pr.1) := funext fun pr => e pr.1
  have e2 : (fun d : D => decide (level - (lossAt ps (intV d)).1 ≤ least)) = fun d => decide (level - least ≤ (lossAt ps (intV d)).1) := funext fun d => e _
  rw [e1, e2]
  exact first_of M (level - least) ((lastP ps).1 + 2) (by omega)

-- import HandS.EndTab
-- import KE.KNestM
-- import KE.KLam
/-! ### the law -/
section
variable {P : Program} {w : World} {K : PySem.W.Frag} {mg : Str → Option Value} {base : Heap}
local macro_rules | `(tactic| walk_at "le") => `(tactic| repeat' (first | exact Le.nil | refine Le.drop ?_ | refine Le.keep ?_))
theorem LivO.toS {φ : Addr → Prop} {Jb J : Hp → Prop} {l : Addr} {C : List V → HO} {ds : List D} (L : LivO K φ Jb J l C ds) : LivS K φ J l C ds := ⟨L.np, by
  obtain ⟨vs, H0, r, m, hl, rfl⟩ := L.ex
  exact ⟨vs, H0, r, hl, fun H j => ⟨j.1.2, j.2⟩⟩⟩
theorem LivO.at {φ : Addr → Prop} {Jb J : Hp → Prop} {H1 : Hp} {ρ : List (Option D)} {σ : L2.St} {H : Hp} {l : Addr} {ds : List D} (L : Liv K φ Jb J l ds) (A : At K φ (fun H => J H ∧ But φ H1 H) ρ σ H) : At K φ J ρ σ H := by
  obtain ⟨vs, H0, r, m, hl0, rfl⟩ := L.ex
  exact A.live (J' := fun H => (Jb H ∧ H l = some (HO.lst vs)) ∧ But φ H0 H) A.j.1 (((m.up A.j.1.2.tr).and (Mo.at (A.j.1.2.tr l hl0))).and (Mo.but A.j.1.2.tr))
theorem scL : FnScope ["script", "pool", "one", "two", "offsets", "point", "due", "offset", "told", "factor", "turn", "level", "least", "fits"] ["script"] (defScope s_law) := ⟨rfl, rfl, rfl, by decide +kernel, rfl, by decide +kernel, by decide +kernel⟩
def ptD (ps qs : List (Int × Int)) (d : D) : D := prDD (intV d, (lossAt ps (intV d)).1 + (lossAt qs (intV d)).1)
theorem okD_mask {ps : List (Int × Int)} (h : ps.length ≤ 200) : okD 200 4 (maskD ps) = true := okD_tup.mpr ⟨by rw [List.length_map]; exact h, fun x hx => by
  obtain ⟨p, _, rfl⟩ := List.mem_map.mp hx
  rfl⟩
set_option maxHeartbeats 4000000 in
theorem ok_all (B : Bi mg) {cR C : Addr} (TB : LamX.TabB base mg cR C) {f_is_integer : Addr} {fd_is_integer : FuncData} (F_is_integer : Fun K "is_integer" "is_integer" s_is_integer f_is_integer fd_is_integer) (L_is_integer : Lk K mg "is_integer" f_is_integer fd_is_integer ["value"]) {f_is_point : Addr} {fd_is_point : FuncData} (F_is_point : Fun K "is_point" "is_point" s_is_point f_is_point fd_is_point) (L_is_point : Lk K mg "is_point" f_is_point fd_is_point ["value"]) {f_is_mask : Addr} {fd_is_mask : FuncData} (F_is_mask : Fun K "is_mask" "is_mask" s_is_mask f_is_mask fd_is_mask) (L_is_mask : Lk K mg "is_mask" f_is_mask fd_is_mask ["value"]) {f_loss_at : Addr} {fd_loss_at : FuncData} (F_loss_at : Fun K "loss_at" "loss_at" s_loss_at f_loss_at fd_loss_at) (L_loss_at : Lk K mg "loss_at" f_loss_at fd_loss_at ["mask", "offset"]) {f_first_offset : Addr} {fd_first_offset : FuncData} (F_first_offset : Fun K "first_offset" "first_offset" s_first_offset f_first_offset fd_first_offset) (L_first_offset : Lk K mg "first_offset" f_first_offset fd_first_offset ["mask", "is_enough"]) {f_both_masks : Addr} {fd_both_masks : FuncData} (F_both_masks : Fun K "both_masks" "both_masks" s_both_masks f_both_masks fd_both_masks) (L_both_masks : Lk K mg "both_masks" f_both_masks fd_both_masks ["sending", "hearing"]) {f_scaled : Addr} {fd_scaled : FuncData} (F_scaled : Fun K "scaled" "scaled" s_scaled f_scaled fd_scaled) (L_scaled : Lk K mg "scaled" f_scaled fd_scaled ["mask", "factor"]) {f_guard : Addr} {fd_guard : FuncData} (F_guard : Fun K "guard" "guard" s_guard f_guard fd_guard) (L_guard : Lk K mg "guard" f_guard fd_guard ["mask", "level", "least"]) {f__law_same : Addr} {fd__law_same : FuncData} (F__law_same : Fun K "_law_same" "_law_same" s__law_same f__law_same fd__law_same) (L__law_same : Lk K mg "_law_same" f__law_same fd__law_same ["actual", "due"]) {f__law_pool : Addr} {fd__law_pool : FuncData} (F__law_pool : Fun K "_law_pool" "_law_pool" s__law_pool f__law_pool fd__law_pool) (L__law_pool : Lk K mg "_law_pool" f__law_pool fd__law_pool ["script"]) {f__law_spread : Addr} {fd__law_spread : FuncData} (F__law_spread : Fun K "_law_spread" "_law_spread" s__law_spread f__law_spread fd__law_spread) (L__law_spread : Lk K mg "_law_spread" f__law_spread fd__law_spread ["cell"]) {f__law_draw : Addr} {fd__law_draw : FuncData} (F__law_draw : Fun K "_law_draw" "_law_draw" s__law_draw f__law_draw fd__law_draw) (L__law_draw : Lk K mg "_law_draw" f__law_draw fd__law_draw ["pool", "many"]) {f__law_mask : Addr} {fd__law_mask : FuncData} (F__law_mask : Fun K "_law_mask" "_law_mask" s__law_mask f__law_mask fd__law_mask) (L__law_mask : Lk K mg "_law_mask" f__law_mask fd__law_mask ["pool"]) {f__law_loss : Addr} {fd__law_loss : FuncData} (F__law_loss : Fun K "_law_loss" "_law_loss" s__law_loss f__law_loss fd__law_loss) (L__law_loss : Lk K mg "_law_loss" f__law_loss fd__law_loss ["mask", "offset"]) {f_law : Addr} {fd_law : FuncData} (F_law : Fun K "law" "law" s_law f_law fd_law) (L_law : Lk K mg "law" f_law fd_law ["script"]) (FC : FunC K "guard" "guard" s_guard f_guard fd_guard cR) : FnOk P w K mg base CX0 7 f_law fd_law ["script"] (spLawT K C) := by
  have G_is_integer : FnOk P w K mg base CX0 1 _ _ _ _ := ok_is_integer B F_is_integer
  have G_is_point : FnOk P w K mg base CX0 2 _ _ _ _ := ok_is_point B F_is_point L_is_integer G_is_integer
  have G_is_mask : FnOk P w K mg base CX0 3 _ _ _ _ := ok_is_mask B F_is_mask L_is_point G_is_point
  have G_loss_at : FnOk P w K mg base CX0 1 _ _ _ _ := ok_loss_at B F_loss_at
  have G_guard : FnOk P w K mg base CX0 3 _ _ _ _ := ok_guard TB FC F_first_offset L_first_offset L_loss_at G_loss_at
  have G_both_masks : FnOk P w K mg base CX0 2 _ _ _ _ := ok_both_masks B F_both_masks L_loss_at G_loss_at
  have G_scaled : FnOk P w K mg base CX0 1 _ _ _ _ := ok_scaled B F_scaled
  have G__law_same : FnOk P w K mg base CX0 5 _ _ _ _ := ok__law_same B F__law_same L__law_same 5
  have G__law_pool : FnOk P w K mg base CX0 1 _ _ _ _ := ok__law_pool B F__law_pool
  have G__law_spread : FnOk P w K mg base CX0 1 _ _ _ _ := ok__law_spread B F__law_spread
  have G__law_draw : FnOk P w K mg base CX0 2 _ _ _ _ := ok__law_draw B F__law_draw L__law_spread G__law_spread
  have G__law_loss : FnOk P w K mg base CX0 1 _ _ _ _ := ok__law_loss B F__law_loss
  have G__law_mask : FnOk P w K mg base CX0 3 _ _ _ _ := ok__law_mask B F__law_mask L__law_draw G__law_draw
  have S := scL
  refine F_law.ok S (fun vs H Q E h => ?_) (fun cdv A outer s H vs Q E hr h => ?_)
  · obtain ⟨a, ns, rfl, _⟩ := h
    rfl
  obtain ⟨a, ns, rfl, hS, hlen, hC, kq⟩ := h
  refine ⟨_, ((pss_cons (ps_set (i := 1) S.nd rfl (by first | exact Or.inl rfl | exact Or.inr rfl) (pe_call G__law_pool (hr.mono (by first | exact Nat.le_refl _ | decide | omega)) (by rfl) L__law_pool.m L__law_pool.kp L__law_pool.bi .nil pass0 (pa_cons (pv 0) pa_nil)))
 (pss_cons (ps_set (i := 2) S.nd rfl (by first | exact Or.inl rfl | exact Or.inr rfl) (pe_call G__law_mask (hr.mono (by first | exact Nat.le_refl _ | decide | omega)) (by rfl) L__law_mask.m L__law_mask.kp L__law_mask.bi .nil pass0 (pa_cons (pv 1) pa_nil)))
 (pss_cons (ps_set (i := 3) S.nd rfl (by first | exact Or.inl rfl | exact Or.inr rfl) (pe_call G__law_mask (hr.mono (by first | exact Nat.le_refl _ | decide | omega)) (by rfl) L__law_mask.m L__law_mask.kp L__law_mask.bi .nil pass0 (pa_cons (pv 1) pa_nil)))
 (pss_cons (ps_set (i := 4) S.nd rfl (by first | exact Or.inl rfl | exact Or.inr rfl) (pe_lst pa_nil))
 (C8.pss_cut (ps_for PassesOwn.never rfl (pi_tup (pe_op op_catA (pv 2) (pv 3))) (pg_name (i := 5) S.nd rfl (by first | exact Or.inl rfl | exact Or.inr rfl))
 (pss_one (ps_if (pt_cmpR op_notIn_seq (pe_ix ix_tup (pv 5) pe_int (fun _ _ => rfl)) (pv 4) (by rfl))
 (pss_one (ps_expr (pe_bm PySem.F.plainAttrs_list PySem.F.slot_list_append PySem.F.type_list_append mt_append (pv 4) (pa_cons (pe_ix ix_tup (pv 5) pe_int (fun _ _ => rfl)) pa_nil))))
 pss_nil)))
 (pss_cons (ps_set (i := 6) S.nd rfl (by first | exact Or.inl rfl | exact Or.inr rfl) (pe_lst pa_nil))
 (C8.pss_cut (ps_for PassesOwn.never rfl (pi_list (pe_callB c_sortedI (by rfl) B.sorted (by decide +kernel) (pa_cons (pv 4) pa_nil))) (pg_name (i := 7) S.nd rfl (by first | exact Or.inl rfl | exact Or.inr rfl))
 (pss_one (ps_expr (pe_bm PySem.F.plainAttrs_list PySem.F.slot_list_append PySem.F.type_list_append mt_append (pv 6) (pa_cons (pe_tup (pa_cons (pv 7) (pa_cons (pe_op op_add (pe_ix ix_tup (pe_call G__law_loss (hr.mono (by first | exact Nat.le_refl _ | decide | omega)) (by rfl) L__law_loss.m L__law_loss.kp L__law_loss.bi .nil pass0 (pa_cons (pv 2) (pa_cons (pv 7) pa_nil))) pe_int (fun _ _ => rfl)) (pe_ix ix_tup (pe_call G__law_loss (hr.mono (by first | exact Nat.le_refl _ | decide | omega)) (by rfl) L__law_loss.m L__law_loss.kp L__law_loss.bi .nil pass0 (pa_cons (pv 3) (pa_cons (pv 7) pa_nil))) pe_int (fun _ _ => rfl))) pa_nil))) pa_nil)))))
 (pss_cons (ps_set (i := 8) S.nd rfl (by first | exact Or.inl rfl | exact Or.inr rfl) (pe_call G_both_masks (hr.mono (by first | exact Nat.le_refl _ | decide | omega)) (by rfl) L_both_masks.m L_both_masks.kp L_both_masks.bi .nil pass0 (pa_cons (pv 2) (pa_cons (pv 3) pa_nil))))
 (pss_cons (ps_if (PW.pt (pw_or (pt_not (pt_val (pe_call G__law_same (hr.mono (by first | exact Nat.le_refl _ | decide | omega)) (by rfl) L__law_same.m L__law_same.kp L__law_same.bi .nil pass0 (pa_cons (pv 8) (pa_cons (pe_callTy c_tupOf (by rfl) B.tuple (by decide +kernel) (pa_cons (pv 6) pa_nil)) pa_nil))))) (pw_or1 (pt_not (pt_val (pe_call G__law_same (hr.mono (by first | exact Nat.le_refl _ | decide | omega)) (by rfl) L__law_same.m L__law_same.kp L__law_same.bi .nil pass0 (pa_cons (pe_call G_is_mask (hr.mono (by first | exact Nat.le_refl _ | decide | omega)) (by rfl) L_is_mask.m L_is_mask.kp L_is_mask.bi .nil pass0 (pa_cons (pv 8) pa_nil)) (pa_cons pe_bl pa_nil))))))))
 (pss_one (ps_ret pe_bl))
 pss_nil)
 (pss_cons (ps_set (i := 9) S.nd rfl (by first | exact Or.inl rfl | exact Or.inr rfl) (pe_op op_add pe_int (pe_call G__law_draw (hr.mono (by first | exact Nat.le_refl _ | decide | omega)) (by rfl) L__law_draw.m L__law_draw.kp L__law_draw.bi .nil pass0 (pa_cons (pv 1) (pa_cons pe_int pa_nil)))))
 (pss_cons (ps_if (pt_not (pt_val (pe_call G__law_same (hr.mono (by first | exact Nat.le_refl _ | decide | omega)) (by rfl) L__law_same.m L__law_same.kp L__law_same.bi .nil pass0 (pa_cons (pe_call G_scaled (hr.mono (by first | exact Nat.le_refl _ | decide | omega)) (by rfl) L_scaled.m L_scaled.kp L_scaled.bi .nil pass0 (pa_cons (pv 2) (pa_cons (pv 9) pa_nil))) (pa_cons (pe_callTy c_tupOf (by rfl) B.tuple (by decide +kernel) (pa_cons (pe_lc (own := [("point", 5)]) (g := (gName 5)) (tt := tYes) (by rfl) S.nd (pi_tup (pv 2)) (blkOk_by (N := ["script", "pool", "one", "two", "offsets", "point", "due", "offset", "told", "factor", "turn", "level", "least", "fits"]) (sc := defScope s_law) (own := [("point", 5)]) (by decide +kernel)) (fun _ _ _ _ _ => (pg_name (i := 5) S.nd rfl (by first | exact Or.inl rfl | exact Or.inr rfl))) (fun _ _ _ _ _ => pts_nil) (fun _ _ _ _ _ => (pe_tup (pa_cons (pe_op op_mul (pe_ix (kix_tup (K := K) (by rfl)) (pv 5) pe_int (fun _ _ => rfl)) (pv 9)) (pa_cons (pe_ix (kix_tup (K := K) (by rfl)) (pv 5) pe_int (fun _ _ => rfl)) pa_nil))))) pa_nil)) pa_nil)))))
 (pss_one (ps_ret pe_bl))
 pss_nil)
 (C8.pss_cut (ps_for PassesOwn.never rfl (pi_range1 (by rfl) B.range (pa_cons pe_int pa_nil)) (pg_name (i := 10) S.nd rfl (by first | exact Or.inl rfl | exact Or.inr rfl))
 (pss_cons (ps_set (i := 11) S.nd rfl (by first | exact Or.inl rfl | exact Or.inr rfl) (pe_op op_sub (pe_call G__law_draw (hr.mono (by first | exact Nat.le_refl _ | decide | omega)) (by rfl) L__law_draw.m L__law_draw.kp L__law_draw.bi .nil pass0 (pa_cons (pv 1) (pa_cons pe_int pa_nil))) pe_int))
 (pss_cons (ps_set (i := 12) S.nd rfl (by first | exact Or.inl rfl | exact Or.inr rfl) (pe_op op_sub (pe_call G__law_draw (hr.mono (by first | exact Nat.le_refl _ | decide | omega)) (by rfl) L__law_draw.m L__law_draw.kp L__law_draw.bi .nil pass0 (pa_cons (pv 1) (pa_cons pe_int pa_nil))) pe_int))
 (pss_cons (ps_set (i := 13) S.nd rfl (by first | exact Or.inl rfl | exact Or.inr rfl) (pe_lst pa_nil))
 (C8.pss_cut (ps_for PassesOwn.never rfl (pi_range1 (by rfl) B.range (pa_cons (pe_op op_add (pe_ix ix_tup (pe_ix ix_tup (pv 8) (pe_un un_neg pe_int) (fun _ _ => rfl)) pe_int (fun _ _ => rfl)) pe_int) pa_nil)) (pg_name (i := 7) S.nd rfl (by first | exact Or.inl rfl | exact Or.inr rfl))
 (pss_one (ps_if (pt_cmpR op_le (pe_op op_sub (pv 11) (pe_ix ix_tup (pe_call G__law_loss (hr.mono (by first | exact Nat.le_refl _ | decide | omega)) (by rfl) L__law_loss.m L__law_loss.kp L__law_loss.bi .nil pass0 (pa_cons (pv 8) (pa_cons (pv 7) pa_nil))) pe_int (fun _ _ => rfl))) (pv 12) (nomark _))
 (pss_one (ps_expr (pe_bm PySem.F.plainAttrs_list PySem.F.slot_list_append PySem.F.type_list_append mt_append (pv 13) (pa_cons (pv 7) pa_nil))))
 pss_nil)))
 (pss_one (ps_if (pt_not (pt_val (pe_call G__law_same (hr.mono (by first | exact Nat.le_refl _ | decide | omega)) (by rfl) L__law_same.m L__law_same.kp L__law_same.bi .nil pass0 (pa_cons (pe_call G_guard (hr.mono (by first | exact Nat.le_refl _ | decide | omega)) (by rfl) L_guard.m L_guard.kp L_guard.bi .nil pass0 (pa_cons (pv 8) (pa_cons (pv 11) (pa_cons (pv 12) pa_nil)))) (pa_cons (pe_ifExp (pt_cmpR op_gt (pe_callB c_len (by rfl) B.len (by decide +kernel) (pa_cons (pv 13) pa_nil)) pe_int (nomark _)) (pe_ix ix_list (pv 13) pe_int (fun _ _ => rfl)) pe_non) pa_nil)))))
 (pss_one (ps_ret pe_bl))
 pss_nil)))))))
 (pss_one (ps_ret pe_bl))))))))))))))), ?_⟩
  have tj : TabJ C qGuard #[] H := TabJ.nil hC
  refine q (st_poolT (n := 14) hS hlen rfl rfl (by decide) tj fun p s σ3 H3 hne hpC hsC A3 => q ?_)
  replace A3 : At K (fun b => b ≠ p ∧ b ≠ C) (JPT p s ns C qGuard #[]) [none, some (.raw (.ref p)), none, none, none, none, none, none, none, none, none, none, none, none] σ3 H3 := A3
  have hP : ∀ ps, Pooled (fun b => b ≠ p ∧ b ≠ C) (JPT p s ns C qGuard ps) p s ns := fun ps => pooledT (fun z => z.1 rfl) hne hpC.symm
  have T : TblF (fun b => b ≠ p ∧ b ≠ C) C qGuard (JPT p s ns C qGuard) := tblP (fun z => z.2 rfl) hpC hsC
  clear tj
  generalize (fun b => b ≠ p ∧ b ≠ C : Addr → Prop) = φ at A3 hP T
  refine st_asg A3 (ev_callP (Pr := fun ds => ds = []) (hP _) rfl ea_nil fun ds e => ⟨by rw [e]; rfl, e⟩) fun d σ4 H4 hd A4 => q ?_
  obtain ⟨_, _, ms, rfl, M, ml, m1, m2⟩ := hd
  replace A4 : At K φ (JPT p s ns C qGuard #[]) [none, some (.raw (.ref p)), some (maskD ms), none, none, none, none, none, none, none, none, none, none, none] σ4 H4 := A4
  refine st_asg A4 (ev_callP (Pr := fun ds => ds = []) (hP _) rfl ea_nil fun ds e => ⟨by rw [e]; rfl, e⟩) fun d σ5 H5 hd A5 => q ?_
  obtain ⟨_, _, ns2, rfl, M2, ml2, n1, n2⟩ := hd
  replace A5 : At K φ (JPT p s ns C qGuard #[]) [none, some (.raw (.ref p)), some (maskD ms), some (maskD ns2), none, none, none, none, none, none, none, none, none, none] σ5 H5 := A5
  have cat : ∀ {φ : Addr → Prop} {J : Hp → Prop} {ρ : List (Option D)}, ρ[2]? = some (some (maskD ms)) → ρ[3]? = some (some (maskD ns2)) → EvD K φ J (tOp (rCatA K) (tVar 2) (tVar 3)) ρ (.tup ((ms ++ ns2).map prDD)) := fun h1 h2 => (ev_catT (ds := ms.map prDD) (es := ns2.map prDD) (ev_var h1) (ev_var h2) (by rw [List.length_map, List.length_map]; omega)).is (by rw [List.map_append])
  -- the offsets
  refine st_newL A5 (en_lstD ea_nil) fun l ds0 J1 σ6 H6 e hφl hn x1 L6 A6 => ?_
  subst e
  refine q_cut (M := fun σ' H' => ∃ os : List Int, os.Nodup ∧ (∀ k, k ∈ os ↔ k ∈ (ms ++ ns2).map (·.1)) ∧ os.length ≤ 10 ∧ At K φ (JPT p s ns C qGuard #[]) [none, some (.raw (.ref p)), some (maskD ms), some (maskD ns2), some (.lst (os.map D.int)), none, none, none, none, none, none, none, none, none] σ' H') ?_ ?_
  · refine st_for A6 (it_tup (cat rfl rfl)) (fun i ρ' J' => ∃ (os : List Int) (o5 : Option D), os.Nodup ∧ (∀ k, k ∈ os ↔ k ∈ ((ms ++ ns2).take i).map (·.1)) ∧ os.length ≤ i ∧ i ≤ 10 ∧ Liv K (wo φ l) (JPT p s ns C qGuard #[]) J' l (os.map D.int) ∧ ρ' = [none, some (.raw (.ref p)), some (maskD ms), some (maskD ns2), some (.raw (.ref l)), o5, none, none, none, none, none, none, none, none]) ⟨[], none, List.nodup_nil, fun k => by simp, Nat.le_refl _, by decide, L6, rfl⟩ ?_ ?_
    · rintro H7 i x ρ' J' b7 j7 hx ⟨os, o5, hnd, hmem, hl2, hi10, L7, rfl⟩ σ' H' A7
      rw [List.getElem?_map] at hx
      obtain ⟨y, hy, rfl⟩ := Option.map_eq_some_iff.mp hx
      have hi : i < 10 := by
        have := (List.getElem?_eq_some_iff.mp hy).1
        rw [List.length_append] at this
        omega
      have htk : (ms ++ ns2).take (i + 1) = (ms ++ ns2).take i ++ [y] := by rw [List.take_add_one, hy]; rfl
      obtain ⟨J2, L8, A8, x8⟩ := L7.push A7
      replace A8 : At K (wo φ l) J2 [none, some (.raw (.ref p)), some (maskD ms), some (maskD ns2), some (.raw (.ref l)), some (prDD y), none, none, none, none, none, none, none, none] σ' H' := A8
      have e0 : ∀ {J : Hp → Prop}, EvD K (wo φ l) J (tOp (rIxT K) (tVar 5) (tC (.int 0))) [none, some (.raw (.ref p)), some (maskD ms), some (maskD ns2), some (.raw (.ref l)), some (prDD y), none, none, none, none, none, none, none, none] (.int y.1) := ev_ixT (ds := [.int y.1, .int y.2]) (ev_var rfl) ev_int rfl
      refine st_if A8 (et_test (ev_notInS_ L8.toS e0 (ev_var rfl))) (fun hb H9 A9 => ?_) (fun hb H9 A9 => st_next ?_)
      · refine st_appL A9 L8 rfl e0 (by rw [List.length_map]; omega) fun d J3 H10 hd L10 A10 => ?_
        subst hd
        obtain ⟨J6, L11, A11⟩ := L10.pop (Mo.liv L6 j7) L6.st L6.pl A10
        have hny : y.1 ∉ os := fun z => by rw [decide_eq_true z] at hb; cases hb
        refine ⟨_, J6, ⟨os ++ [y.1], some (prDD y), List.nodup_append.mpr ⟨hnd, List.nodup_cons.mpr ⟨by simp, List.nodup_nil⟩, fun a ha b hb e => hny (by rw [List.mem_singleton.mp hb] at e; exact e ▸ ha)⟩, fun k => ?_, by rw [List.length_append]; show _ + 1 ≤ _; omega, hi, by rw [List.map_append]; exact L11, rfl⟩, A11⟩
        rw [htk, List.map_append, List.mem_append, List.mem_append, hmem k]
        rfl
      · obtain ⟨J6, L11, A11⟩ := L8.pop (Mo.liv L6 j7) L6.st L6.pl A9
        have hiy : y.1 ∈ os := by
          refine Classical.byContradiction fun z => ?_
          rw [decide_eq_false z] at hb
          cases hb
        refine ⟨_, J6, ⟨os, some (prDD y), hnd, fun k => ?_, by omega, hi, L11, rfl⟩, A11⟩
        rw [htk, List.map_append, List.mem_append, ← hmem k]
        exact ⟨.inl, fun z => z.elim id fun z => by rw [List.mem_singleton.mp z]; exact hiy⟩
    · rintro H7 ρ' J' σ' H' b7 j7 ⟨os, o5, hnd, hmem, hl2, hi10, L7, rfl⟩ A7
      have e : (ms ++ ns2).take (((ms ++ ns2).map prDD).length) = ms ++ ns2 := List.take_of_length_le (by rw [List.length_map]; exact Nat.le_refl _)
      rw [e] at hmem
      exact ⟨os, hnd, hmem, by omega, (L7.freeze hφl (L7.at A7) (k := 4) rfl).le (by walk_at "le")⟩
  rintro σ7 H7 ⟨os0, hnd, hmem, hl0, A7⟩
  refine q (st_newL A7 (en_lstD ea_nil) fun l2 ds0 J3 σ8 H8 e hφl2 hn2 x2 L8 A8 => ?_)
  subst e
  refine q_cut (M := fun σ' H' => ∃ os : List Int, os.Pairwise (· < ·) ∧ (∀ k, k ∈ os ↔ k ∈ (ms ++ ns2).map (·.1)) ∧ At K φ (JPT p s ns C qGuard #[]) [none, some (.raw (.ref p)), some (maskD ms), some (maskD ns2), none, none, some (.lst ((os.map D.int).map (ptD ms ns2))), none, none, none, none, none, none, none] σ' H') ?_ ?_
  · refine st_forP A8 (it_listP (P := fun ds => ∃ os : List Int, ds = os.map D.int ∧ os.Pairwise (· < ·) ∧ ∀ k, k ∈ os ↔ k ∈ (ms ++ ns2).map (·.1)) ((ev_sortedI (ns := os0) (ev_var rfl) (by omega)).imp fun z ⟨os, e, hp, hs⟩ => ⟨_, e, os, rfl, ?_, fun k => (hp.mem_iff).trans (hmem k)⟩)) ?_
    · have := (hp.nodup_iff).mpr hnd
      exact (hs.and this).imp fun {a b} h => by
        have := h.1
        have := h.2
        omega
    rintro ds9 H9 ⟨os, e, hs, hm⟩ A9
    subst e
    have hb : ∀ o ∈ os, 0 ≤ o := fun o ho => by
      obtain ⟨p, hp, rfl⟩ := List.mem_map.mp ((hm o).mp ho)
      rcases List.mem_append.mp hp with z | z
      · exact (M.sm p z).1
      · exact (M2.sm p z).1
    have hlo : os.length ≤ 10 := by
      have := nodup_le (rise_nodup hs) fun k hk => (hmem k).mpr ((hm k).mp hk)
      omega
    refine forG_by A9 (fun i ρ' J' => ∃ o7, i ≤ 10 ∧ Liv K (wo φ l2) (JPT p s ns C qGuard #[]) J' l2 (((os.take i).map D.int).map (ptD ms ns2)) ∧ ρ' = [none, some (.raw (.ref p)), some (maskD ms), some (maskD ns2), some (.lst (os0.map D.int)), none, some (.raw (.ref l2)), o7, none, none, none, none, none, none]) ⟨none, by decide, L8, rfl⟩ ?_ ?_
    · rintro i x ρ' J' hx ⟨o7, hi10, L10, rfl⟩
      refine ⟨_, _, eg_name, fun σ' H' A10 => ?_⟩
      rw [List.getElem?_map] at hx
      obtain ⟨o, ho, rfl⟩ := Option.map_eq_some_iff.mp hx
      have hi : i < 10 := by
        have := (List.getElem?_eq_some_iff.mp ho).1
        omega
      obtain ⟨J2, L11, A11, x11⟩ := L10.push A10
      replace A11 : At K (wo φ l2) J2 [none, some (.raw (.ref p)), some (maskD ms), some (maskD ns2), some (.lst (os0.map D.int)), none, some (.raw (.ref l2)), some (.int o), none, none, none, none, none, none] σ' H' := A11
      have ho0 := hb o (List.mem_of_getElem? ho)
      refine st_appL A11 L11 rfl (ev_tup (ea_cons (ev_var rfl) (ea_cons (ev_add (ev_ixT (ds := [.int (lossAt ms o).1, .int (lossAt ms o).2]) (ev_callD (ea_cons (ev_var rfl) (ea_cons (ev_var rfl) ea_nil)) ⟨ms, o, M, ho0, rfl, rfl⟩) ev_int rfl) (ev_ixT (ds := [.int (lossAt ns2 o).1, .int (lossAt ns2 o).2]) (ev_callD (ea_cons (ev_var rfl) (ea_cons (ev_var rfl) ea_nil)) ⟨ns2, o, M2, ho0, rfl, rfl⟩) ev_int rfl)) ea_nil))) (by rw [List.length_map, List.length_map, List.length_take]; omega) fun d J4 H12 hd L12 A12 => ?_
      subst hd
      obtain ⟨J6, L13, A13⟩ := L12.pop (Mo.liv L8 A9.j) L8.st L8.pl A12
      refine ⟨_, J6, ⟨some (.int o), hi, ?_, rfl⟩, A13⟩
      rw [List.take_add_one, ho, List.map_append, List.map_append]
      exact L13
    · rintro ρ' J' σ' H' ⟨o7, hi10, L10, rfl⟩ A10
      rw [List.length_map, List.take_length] at L10
      exact ⟨os, hs, hm, (L10.freeze hφl2 (L10.at A10) (k := 6) rfl).le (by walk_at "le")⟩
  rintro σ9 H9 ⟨os, hs, hm, A9⟩
  obtain ⟨MB, lB, lo⟩ := both_ok M M2 ⟨m1, m2⟩ ⟨n1, n2⟩ ml ml2 hs hm
  have eB : (os.map D.int).map (ptD ms ns2) = (bothP ms ns2 os).map prDD := by
    unfold bothP
    rw [List.map_map, List.map_map]
    rfl
  rw [eB] at A9
  refine q (st_set A9 (ev_callD (ea_cons (ev_var rfl) (ea_cons (ev_var rfl) ea_nil)) ⟨ms, ns2, os, M, M2, by omega, by omega, rfl, hs, hm, rfl⟩) fun σ10 H10 A10 => q ?_)
  have lbp : (bothP ms ns2 os).length ≤ 10 := by unfold bothP; rw [List.length_map]; exact lo
  generalize hbp : bothP ms ns2 os = bp at A10 MB lB lbp
  clear hbp eB
  replace A10 : At K φ (JPT p s ns C qGuard #[]) [none, some (.raw (.ref p)), some (maskD ms), some (maskD ns2), none, none, some (.lst (bp.map prDD)), none, some (maskD bp), none, none, none, none, none] σ10 H10 := A10
  have hpl : ∀ {ps : List (Int × Int)}, ps.length ≤ 200 → plain 5 (maskD ps) = true := fun h => okD_plain (s := 1000000) (by decide) (okD_mono (by decide) (by decide) (okD_mask h))
  have hok62 : okD 1000000 62 (maskD bp) = true := okD_mono (by decide) (by decide) (okD_mask (by omega))
  refine st_no A10 (et_or (b := false) (c := false) ((et_not (et_B (ev_callD (ea_cons (ev_var rfl) (ea_cons (ev_tupL (ev_var rfl)) ea_nil)) ⟨maskD bp, rfl, hpl (by omega), rfl⟩))).is rfl) fun _ => (et_not (et_B (ev_callD (ea_cons (ev_callD (ea_cons (ev_var rfl) ea_nil) ⟨maskD bp, rfl, hok62, rfl⟩) (ea_cons ev_bl ea_nil)) ⟨.bl true, by rw [maskB_ok MB], rfl, rfl⟩))).is rfl) rfl fun H11 A11 => st_next (q ?_)
  refine st_asg A11 (ei_add (ev_i ev_int) (ev_draw (hP _) rfl ev_int (by decide) (by decide))) fun d σ12 H12 hd A12 => q ?_
  obtain ⟨k, rfl, i1, j1, rfl, ⟨k0, k1⟩, rfl⟩ := hd
  replace A12 : At K φ (JPT p s ns C qGuard #[]) [none, some (.raw (.ref p)), some (maskD ms), some (maskD ns2), none, none, some (.lst (bp.map prDD)), none, some (maskD bp), some (.int (1 + j1)), none, none, none, none] σ12 H12 := A12
  refine st_no A12 (et_not (et_B (ev_callD (ea_cons (ev_callD (ea_cons (ev_var rfl) (ea_cons (ev_var rfl) ea_nil)) ⟨ms, 1 + j1, rfl, by omega, by omega, by omega, rfl⟩) (ea_cons ((ev_tupL (ev_lc (f := fun d => prDD ((pOf d).1 * (1 + j1), (pOf d).2)) (it_tup (ds := ms.map prDD) (ev_var rfl)) (by rw [List.length_map]; omega) fun d hd φ' J' hx => ?_)).is (d' := maskD (scaledP ms (1 + j1))) ?_) ea_nil)) ⟨maskD (scaledP ms (1 + j1)), rfl, hpl (by unfold scaledP; rw [List.length_map]; omega), rfl⟩))) rfl fun H13 A13 => st_next ?_
  · obtain ⟨y, _, rfl⟩ := List.mem_map.mp hd
    exact ev_tup (ea_cons (ev_mul (ev_ixT (ds := [.int y.1, .int y.2]) (ev_var rfl) ev_int rfl) (ev_var rfl) (.inr (by omega))) (ea_cons (ev_ixT (ds := [.int y.1, .int y.2]) (ev_var rfl) ev_int rfl) ea_nil))
  · unfold maskD scaledP
    rw [List.map_map, List.map_map]
    rfl
  have eBP : ∀ {φ : Addr → Prop} {J : Hp → Prop} {ρ : List (Option D)}, ρ[8]? = some (some (maskD bp)) → EvD K φ J (tVar 8) ρ (.tup (bp.map prDD)) := fun h => ev_var h
  obtain ⟨z0, z1⟩ := MB.last
  refine q_cut (M := fun _ _ => True) ?_ ?_
  · refine st_for A13 (it_range1 (ea_cons ev_int ea_nil) (by decide)) (fun i ρ' J' => ∃ ps o7 o10 o11 o12 o13, ρ' = [none, some (.raw (.ref p)), some (maskD ms), some (maskD ns2), none, none, some (.lst (bp.map prDD)), o7, some (maskD bp), some (.int (1 + j1)), o10, o11, o12, o13] ∧ J' = JPT p s ns C qGuard ps) ⟨#[], none, none, none, none, none, rfl, rfl⟩ ?_ ?_
    · rintro H14 i x ρ' J' b14 j14 hx ⟨ps, o7, o10, o11, o12, o13, rfl, rfl⟩ σ' H' A14
      replace A14 : At K φ (fun H_1 => JPT p s ns C qGuard ps H_1 ∧ But φ H14 H_1) [none, some (.raw (.ref p)), some (maskD ms), some (maskD ns2), none, none, some (.lst (bp.map prDD)), o7, some (maskD bp), some (.int (1 + j1)), some x, o11, o12, o13] σ' H' := A14
      have hP14 : Pooled φ (fun H_1 => JPT p s ns C qGuard ps H_1 ∧ But φ H14 H_1) p s ns := Ext.but'.pool _ _ _ (hP ps)
      refine q (st_asg A14 (ei_sub (ev_draw hP14 rfl ev_int (by decide) (by decide)) (ev_i ev_int)) fun d σ15 H15 hd A15 => q ?_)
      obtain ⟨level, rfl, _⟩ := hd
      refine st_asg A15 (ei_sub (ev_draw hP14 rfl ev_int (by decide) (by decide)) (ev_i ev_int)) fun d σ16 H16 hd A16 => q ?_
      obtain ⟨least, rfl, _⟩ := hd
      replace A16 : At K φ (fun H_1 => JPT p s ns C qGuard ps H_1 ∧ But φ H14 H_1) [none, some (.raw (.ref p)), some (maskD ms), some (maskD ns2), none, none, some (.lst (bp.map prDD)), o7, some (maskD bp), some (.int (1 + j1)), some x, some (.int level), some (.int least), o13] σ16 H16 := A16
      refine st_newL A16 (en_lstD ea_nil) fun l3 ds0 J5 σ17 H17 e hφl3 hn3 x3 L17 A17 => ?_
      subst e
      let good : D → Bool := fun d => decide (level - (lossAt bp (intV d)).1 ≤ least)
      refine q_cut (M := fun σ' H' => At K φ (fun H_1 => JPT p s ns C qGuard ps H_1 ∧ But φ H14 H_1) [none, some (.raw (.ref p)), some (maskD ms), some (maskD ns2), none, none, some (.lst (bp.map prDD)), none, some (maskD bp), some (.int (1 + j1)), some x, some (.int level), some (.int least), some (.lst ((rangeD 0 ((lastP bp).1 + 2).toNat).filter good))] σ' H') ?_ ?_
      · refine st_for A17 (it_range1 (ea_cons (ev_add (ev_ixT (ev_ixT (eBP rfl) (ev_neg ev_int) (atI_last MB.ne)) ev_int rfl) ev_int) ea_nil) (by omega)) (fun i ρ' J' => ∃ o7, Liv K (wo φ l3) (fun H_1 => JPT p s ns C qGuard ps H_1 ∧ But φ H14 H_1) J' l3 ((rangeD 0 i).filter good) ∧ ρ' = [none, some (.raw (.ref p)), some (maskD ms), some (maskD ns2), none, none, some (.lst (bp.map prDD)), o7, some (maskD bp), some (.int (1 + j1)), some x, some (.int level), some (.int least), some (.raw (.ref l3))]) ⟨o7, L17, rfl⟩ ?_ ?_
        · rintro H18 i y ρ' J' b18 j18 hy ⟨o7', L18, rfl⟩ σ' H' A18
          rw [rangeD_get] at hy
          split at hy
          · rename_i hi
            cases hy
            obtain ⟨J6, L19, A19, x19⟩ := L18.push A18
            replace A19 : At K (wo φ l3) J6 [none, some (.raw (.ref p)), some (maskD ms), some (maskD ns2), none, none, some (.lst (bp.map prDD)), some (.int (0 + (i : Int))), some (maskD bp), some (.int (1 + j1)), some x, some (.int level), some (.int least), some (.raw (.ref l3))] σ' H' := A19
            have hsn : (rangeD 0 (i + 1)).filter good = (rangeD 0 i).filter good ++ if good (.int (0 + (i : Int))) = true then [.int (0 + (i : Int))] else [] := by
              rw [rangeD_snoc, List.filter_append, List.filter_cons]
              rfl
            have hfl : ((rangeD 0 i).filter good).length ≤ i := by
              have := List.length_filter_le good (rangeD 0 i)
              rw [rangeD_length] at this
              exact this
            refine st_if A19 (et_test (ev_le (ev_sub (ev_var rfl) (ev_ixT (ds := [.int (lossAt bp (0 + (i : Int))).1, .int (lossAt bp (0 + (i : Int))).2]) (ev_callD (ea_cons (ev_var rfl) (ea_cons (ev_var rfl) ea_nil)) ⟨bp, _, MB, by omega, rfl, rfl⟩) ev_int rfl)) (ev_var rfl))) (fun hb H20 A20 => ?_) (fun hb H20 A20 => st_next ?_)
            · refine st_appL A20 L19 rfl (ev_var rfl) (by omega) fun d J7 H21 hd L21 A21 => ?_
              subst hd
              obtain ⟨J8, L22, A22⟩ := L21.pop (Mo.liv L17 j18) L17.st L17.pl A21
              refine ⟨_, J8, ⟨some (.int (0 + (i : Int))), ?_, rfl⟩, A22⟩
              rw [hsn, if_pos (show good (.int (0 + (i : Int))) = true from hb.symm)]
              exact L22
            · obtain ⟨J8, L22, A22⟩ := L19.pop (Mo.liv L17 j18) L17.st L17.pl A20
              refine ⟨_, J8, ⟨some (.int (0 + (i : Int))), ?_, rfl⟩, A22⟩
              rw [hsn, if_neg (show ¬ good (.int (0 + (i : Int))) = true from fun z => by
                have z2 : good (.int (0 + (i : Int))) = false := hb.symm
                rw [z2] at z
                cases z), List.append_nil]
              exact L22
          · cases hy
        · rintro H18 ρ' J' σ' H' b18 j18 ⟨o7', L18, rfl⟩ A18
          rw [rangeD_length] at L18
          exact (L18.freeze hφl3 (L18.at A18) (k := 13) rfl).le (by walk_at "le")
      intro σ18 H18 A18
      have hF := guard_first MB level least
      show (tIfS _ _ _) _ σ18 H18
      have hgood : good = fun d => decide (level - (lossAt bp (intV d)).1 ≤ least) := rfl
      rw [← hgood] at hF
      generalize hE : (rangeD 0 ((lastP bp).1 + 2).toNat).filter good = E at A18 hF
      have hint : plain 5 (hdD E) = true := by
        cases E with
        | nil => rfl
        | cons d r =>
          have : d ∈ (rangeD 0 ((lastP bp).1 + 2).toNat).filter good := by rw [hE]; exact List.mem_cons_self
          obtain ⟨k, hk⟩ := List.mem_iff_getElem?.mp (List.mem_filter.mp this).1
          rw [rangeD_get] at hk
          split at hk
          · cases hk; rfl
          · cases hk
      have eD : ∀ {ps' : Array Value}, EvD K φ (fun H_1 => JPT p s ns C qGuard ps' H_1 ∧ But φ H14 H_1) (tIf (tTest (tOp (rI0 fun i j => .bl (decide (j < i))) (tCB (rLen K) (tCons (tVar 13) tNil)) (tC (.int 0)))) (tOp (rIxL K) (tVar 13) (tC (.int 0))) (tC .non)) [none, some (.raw (.ref p)), some (maskD ms), some (maskD ns2), none, none, some (.lst (bp.map prDD)), none, some (maskD bp), some (.int (1 + j1)), some x, some (.int level), some (.int least), some (.lst E)] (hdD E) := by
        intro ps'
        cases E with
        | nil => exact ev_if (et_test (ev_gt (ev_lenL (ds := []) (ev_var rfl)) ev_int)) (fun h => absurd h (by decide)) fun _ => ev_non
        | cons d r =>
          exact ev_if (et_test (ev_gt (ev_lenL (ds := d :: r) (ev_var rfl)) ev_int)) (fun _ => ev_ixL (ev_var rfl) ev_int atI_0) fun h => by
            rw [decide_eq_true (show (0 : Int) < ((d :: r).length : Int) by rw [List.length_cons]; omega)] at h
            cases h
      generalize (hdD E) = dd at hF hint eD
      refine st_noJ (J := fun ps H_1 => JPT p s ns C qGuard ps H_1 ∧ But φ H14 H_1) A18 (etu_no (etu_B (eu_call (P := fun d => ∃ b, d = .bl b ∧ b = true) (eau_cons (eu_callT (P := fun z => z = dd) T.but (eau_of (Pr := fun z => z = [maskD bp, .int level, .int least]) fun ps => ea_cons (ev_var rfl) (ea_cons (ev_var rfl) (ea_cons (ev_var rfl) ea_nil))) ?_) (eau_of (Pr := fun z => z = [dd]) fun ps' => ea_cons eD ea_nil)) ?_))) fun ps' H19 A19 => st_next ⟨_, _, ⟨ps', _, _, _, _, _, rfl, rfl⟩, A19⟩
      · rintro ds rfl
        exact ⟨dd, rfl, ⟨bp, level, least, rfl, hF⟩, rfl⟩
      · rintro ds ⟨d, r, rfl, rfl, rfl⟩
        exact ⟨.bl true, rfl, ⟨_, rfl, hint, rfl⟩, true, rfl, rfl⟩
    · intro H14 ρ' J' σ' H' b14 j14 _ A14
      exact trivial
  intro σ14 H14 _
  exact kq H14
end
/-! ### what the top has written; the law's own head -/
theorem all_mk {l : PySem.W.OpenLaw} {w : World} {K : PySem.W.Frag} {h : Heap} {mg : Str → Option Value} {fa : Addr} {f0 : Addr} {od0 an0 : Option Addr} {sl0 : Array (Option Value)} {oc0 kV0 dc0 pm0 cd0 ct0 : Value} {f1 : Addr} {od1 an1 : Option Addr} {sl1 : Array (Option Value)} {oc1 kV1 dc1 pm1 cd1 ct1 : Value} {f2 : Addr} {od2 an2 : Option Addr} {sl2 : Array (Option Value)} {oc2 kV2 dc2 pm2 cd2 ct2 : Value} {f3 : Addr} {od3 an3 : Option Addr} {sl3 : Array (Option Value)} {oc3 kV3 dc3 pm3 cd3 ct3 : Value} {f4 : Addr} {od4 an4 : Option Addr} {sl4 : Array (Option Value)} {oc4 kV4 dc4 pm4 cd4 ct4 : Value} {f5 : Addr} {od5 an5 : Option Addr} {sl5 : Array (Option Value)} {oc5 kV5 dc5 pm5 cd5 ct5 : Value} {f6 : Addr} {od6 an6 : Option Addr} {sl6 : Array (Option Value)} {oc6 kV6 dc6 pm6 cd6 ct6 : Value} {f7 : Addr} {od7 an7 : Option Addr} {sl7 : Array (Option Value)} {oc7 kV7 dc7 pm7 ct7 : Value} {f8 : Addr} {od8 an8 : Option Addr} {sl8 : Array (Option Value)} {oc8 kV8 dc8 pm8 cd8 ct8 : Value} {f9 : Addr} {od9 an9 : Option Addr} {sl9 : Array (Option Value)} {oc9 kV9 dc9 pm9 cd9 ct9 : Value} {f10 : Addr} {od10 an10 : Option Addr} {sl10 : Array (Option Value)} {oc10 kV10 dc10 pm10 cd10 ct10 : Value} {f11 : Addr} {od11 an11 : Option Addr} {sl11 : Array (Option Value)} {oc11 kV11 dc11 pm11 cd11 ct11 : Value} {f12 : Addr} {od12 an12 : Option Addr} {sl12 : Array (Option Value)} {oc12 kV12 dc12 pm12 cd12 ct12 : Value} {f13 : Addr} {od13 an13 : Option Addr} {sl13 : Array (Option Value)} {oc13 kV13 dc13 pm13 cd13 ct13 : Value} {f14 : Addr} {od14 an14 : Option Addr} {sl14 : Array (Option Value)} {oc14 kV14 dc14 pm14 cd14 ct14 : Value} {cR C : Addr} (X : K.In h) (G : h.Ns mainGlobals mg) (hfa : mg "law" = some (.ref fa))
    (hT : h.get? C = some { cls := .none, data := .fields #[] }) (a0 : PySem.W.nsIn K mainGlobals "is_integer" = some (some (.ref f0))) (l0 : K.lookup f0 = some ⟨oc0, od0, .func (PySem.W.fnOf "is_integer" "is_integer" (defArgs s_is_integer) (defBody s_is_integer) (defScope s_is_integer) .none kV0 dc0 pm0 an0 cd0 ct0), sl0⟩) (c0 : PySem.W.codeIn K cd0 "is_integer" = true) (k0 : PySem.W.keepIn K (.ref f0) = true) (a1 : PySem.W.nsIn K mainGlobals "is_point" = some (some (.ref f1))) (l1 : K.lookup f1 = some ⟨oc1, od1, .func (PySem.W.fnOf "is_point" "is_point" (defArgs s_is_point) (defBody s_is_point) (defScope s_is_point) .none kV1 dc1 pm1 an1 cd1 ct1), sl1⟩) (c1 : PySem.W.codeIn K cd1 "is_point" = true) (k1 : PySem.W.keepIn K (.ref f1) = true) (a2 : PySem.W.nsIn K mainGlobals "is_mask" = some (some (.ref f2))) (l2 : K.lookup f2 = some ⟨oc2, od2, .func (PySem.W.fnOf "is_mask" "is_mask" (defArgs s_is_mask) (defBody s_is_mask) (defScope s_is_mask) .none kV2 dc2 pm2 an2 cd2 ct2), sl2⟩) (c2 : PySem.W.codeIn K cd2 "is_mask" = true) (k2 : PySem.W.keepIn K (.ref f2) = true) (a3 : PySem.W.nsIn K mainGlobals "loss_at" = some (some (.ref f3))) (l3 : K.lookup f3 = some ⟨oc3, od3, .func (PySem.W.fnOf "loss_at" "loss_at" (defArgs s_loss_at) (defBody s_loss_at) (defScope s_loss_at) .none kV3 dc3 pm3 an3 cd3 ct3), sl3⟩) (c3 : PySem.W.codeIn K cd3 "loss_at" = true) (k3 : PySem.W.keepIn K (.ref f3) = true) (a4 : PySem.W.nsIn K mainGlobals "first_offset" = some (some (.ref f4))) (l4 : K.lookup f4 = some ⟨oc4, od4, .func (PySem.W.fnOf "first_offset" "first_offset" (defArgs s_first_offset) (defBody s_first_offset) (defScope s_first_offset) .none kV4 dc4 pm4 an4 cd4 ct4), sl4⟩) (c4 : PySem.W.codeIn K cd4 "first_offset" = true) (k4 : PySem.W.keepIn K (.ref f4) = true) (a5 : PySem.W.nsIn K mainGlobals "both_masks" = some (some (.ref f5))) (l5 : K.lookup f5 = some ⟨oc5, od5, .func (PySem.W.fnOf "both_masks" "both_masks" (defArgs s_both_masks) (defBody s_both_masks) (defScope s_both_masks) .none kV5 dc5 pm5 an5 cd5 ct5), sl5⟩) (c5 : PySem.W.codeIn K cd5 "both_masks" = true) (k5 : PySem.W.keepIn K (.ref f5) = true) (a6 : PySem.W.nsIn K mainGlobals "scaled" = some (some (.ref f6))) (l6 : K.lookup f6 = some ⟨oc6, od6, .func (PySem.W.fnOf "scaled" "scaled" (defArgs s_scaled) (defBody s_scaled) (defScope s_scaled) .none kV6 dc6 pm6 an6 cd6 ct6), sl6⟩) (c6 : PySem.W.codeIn K cd6 "scaled" = true) (k6 : PySem.W.keepIn K (.ref f6) = true) (a7 : PySem.W.nsIn K mainGlobals "guard" = some (some (.ref f7))) (l7 : K.lookup f7 = some ⟨oc7, od7, .func (PySem.W.fnOf "guard" "guard" (defArgs s_guard) (defBody s_guard) (defScope s_guard) .none kV7 dc7 pm7 an7 (.ref cR) ct7), sl7⟩) (c7 : PySem.W.codeIn K (.ref cR) "guard" = true) (k7 : PySem.W.keepIn K (.ref f7) = true) (a8 : PySem.W.nsIn K mainGlobals "_law_same" = some (some (.ref f8))) (l8 : K.lookup f8 = some ⟨oc8, od8, .func (PySem.W.fnOf "_law_same" "_law_same" (defArgs s__law_same) (defBody s__law_same) (defScope s__law_same) .none kV8 dc8 pm8 an8 cd8 ct8), sl8⟩) (c8 : PySem.W.codeIn K cd8 "_law_same" = true) (k8 : PySem.W.keepIn K (.ref f8) = true) (a9 : PySem.W.nsIn K mainGlobals "_law_pool" = some (some (.ref f9))) (l9 : K.lookup f9 = some ⟨oc9, od9, .func (PySem.W.fnOf "_law_pool" "_law_pool" (defArgs s__law_pool) (defBody s__law_pool) (defScope s__law_pool) .none kV9 dc9 pm9 an9 cd9 ct9), sl9⟩) (c9 : PySem.W.codeIn K cd9 "_law_pool" = true) (k9 : PySem.W.keepIn K (.ref f9) = true) (a10 : PySem.W.nsIn K mainGlobals "_law_spread" = some (some (.ref f10))) (l10 : K.lookup f10 = some ⟨oc10, od10, .func (PySem.W.fnOf "_law_spread" "_law_spread" (defArgs s__law_spread) (defBody s__law_spread) (defScope s__law_spread) .none kV10 dc10 pm10 an10 cd10 ct10), sl10⟩) (c10 : PySem.W.codeIn K cd10 "_law_spread" = true) (k10 : PySem.W.keepIn K (.ref f10) = true) (a11 : PySem.W.nsIn K mainGlobals "_law_draw" = some (some (.ref f11))) (l11 : K.lookup f11 = some ⟨oc11, od11, .func (PySem.W.fnOf "_law_draw" "_law_draw" (defArgs s__law_draw) (defBody s__law_draw) (defScope s__law_draw) .none kV11 dc11 pm11 an11 cd11 ct11), sl11⟩) (c11 : PySem.W.codeIn K cd11 "_law_draw" = true) (k11 : PySem.W.keepIn K (.ref f11) = true) (a12 : PySem.W.nsIn K mainGlobals "_law_mask" = some (some (.ref f12))) (l12 : K.lookup f12 = some ⟨oc12, od12, .func (PySem.W.fnOf "_law_mask" "_law_mask" (defArgs s__law_mask) (defBody s__law_mask) (defScope s__law_mask) .none kV12 dc12 pm12 an12 cd12 ct12), sl12⟩) (c12 : PySem.W.codeIn K cd12 "_law_mask" = true) (k12 : PySem.W.keepIn K (.ref f12) = true) (a13 : PySem.W.nsIn K mainGlobals "_law_loss" = some (some (.ref f13))) (l13 : K.lookup f13 = some ⟨oc13, od13, .func (PySem.W.fnOf "_law_loss" "_law_loss" (defArgs s__law_loss) (defBody s__law_loss) (defScope s__law_loss) .none kV13 dc13 pm13 an13 cd13 ct13), sl13⟩) (c13 : PySem.W.codeIn K cd13 "_law_loss" = true) (k13 : PySem.W.keepIn K (.ref f13) = true) (a14 : PySem.W.nsIn K mainGlobals "law" = some (some (.ref f14))) (l14 : K.lookup f14 = some ⟨oc14, od14, .func (PySem.W.fnOf "law" "law" (defArgs s_law) (defBody s_law) (defScope s_law) .none kV14 dc14 pm14 an14 cd14 ct14), sl14⟩) (c14 : PySem.W.codeIn K cd14 "law" = true) (k14 : PySem.W.keepIn K (.ref f14) = true) (z_len : PySem.W.nsIn K mainGlobals "len" = some none) (z_range : PySem.W.nsIn K mainGlobals "range" = some none) (z_isinstance : PySem.W.nsIn K mainGlobals "isinstance" = some none) (z_int : PySem.W.nsIn K mainGlobals "int" = some none) (z_str : PySem.W.nsIn K mainGlobals "str" = some none) (z_bool : PySem.W.nsIn K mainGlobals "bool" = some none) (z_list : PySem.W.nsIn K mainGlobals "list" = some none) (z_tuple : PySem.W.nsIn K mainGlobals "tuple" = some none) (z_dict : PySem.W.nsIn K mainGlobals "dict" = some none) (z_sum : PySem.W.nsIn K mainGlobals "sum" = some none) (z_max : PySem.W.nsIn K mainGlobals "max" = some none) (z_min : PySem.W.nsIn K mainGlobals "min" = some none) (z_abs : PySem.W.nsIn K mainGlobals "abs" = some none) (z_sorted : PySem.W.nsIn K mainGlobals "sorted" = some none) (z_enumerate : PySem.W.nsIn K mainGlobals "enumerate" = some none) (z_zip : PySem.W.nsIn K mainGlobals "zip" = some none) (z_set : PySem.W.nsIn K mainGlobals "set" = some none) (nT : K.lookup C = none) (hC : PySem.W.codeHdIn K cR C = true) :
    LamX.LawAtS l w K CX0 7 63 "script" mg fa h := by
  have e := hfa.symm.trans (PySem.W.mg_of X G a14)
  cases e
  have F0 := fun_mk (st := s_is_integer) l0 c0 k0
  have b0 := F0.binds (ps := ["value"]) fun _ _ _ _ _ _ us hl => match us, hl with | [_], _ => rfl
  have L0 : Lk K mg "is_integer" f0 _ ["value"] := ⟨PySem.W.mg_of X G a0, k0, b0⟩
  have F1 := fun_mk (st := s_is_point) l1 c1 k1
  have b1 := F1.binds (ps := ["value"]) fun _ _ _ _ _ _ us hl => match us, hl with | [_], _ => rfl
  have L1 : Lk K mg "is_point" f1 _ ["value"] := ⟨PySem.W.mg_of X G a1, k1, b1⟩
  have F2 := fun_mk (st := s_is_mask) l2 c2 k2
  have b2 := F2.binds (ps := ["value"]) fun _ _ _ _ _ _ us hl => match us, hl with | [_], _ => rfl
  have L2 : Lk K mg "is_mask" f2 _ ["value"] := ⟨PySem.W.mg_of X G a2, k2, b2⟩
  have F3 := fun_mk (st := s_loss_at) l3 c3 k3
  have b3 := F3.binds (ps := ["mask", "offset"]) fun _ _ _ _ _ _ us hl => match us, hl with | [_, _], _ => rfl
  have L3 : Lk K mg "loss_at" f3 _ ["mask", "offset"] := ⟨PySem.W.mg_of X G a3, k3, b3⟩
  have F4 := fun_mk (st := s_first_offset) l4 c4 k4
  have b4 := F4.binds (ps := ["mask", "is_enough"]) fun _ _ _ _ _ _ us hl => match us, hl with | [_, _], _ => rfl
  have L4 : Lk K mg "first_offset" f4 _ ["mask", "is_enough"] := ⟨PySem.W.mg_of X G a4, k4, b4⟩
  have F5 := fun_mk (st := s_both_masks) l5 c5 k5
  have b5 := F5.binds (ps := ["sending", "hearing"]) fun _ _ _ _ _ _ us hl => match us, hl with | [_, _], _ => rfl
  have L5 : Lk K mg "both_masks" f5 _ ["sending", "hearing"] := ⟨PySem.W.mg_of X G a5, k5, b5⟩
  have F6 := fun_mk (st := s_scaled) l6 c6 k6
  have b6 := F6.binds (ps := ["mask", "factor"]) fun _ _ _ _ _ _ us hl => match us, hl with | [_, _], _ => rfl
  have L6 : Lk K mg "scaled" f6 _ ["mask", "factor"] := ⟨PySem.W.mg_of X G a6, k6, b6⟩
  have F7 := (funC_mk (st := s_guard) l7 c7 k7)
  have b7 := F7.fn.binds (ps := ["mask", "level", "least"]) fun _ _ _ _ _ _ us hl => match us, hl with | [_, _, _], _ => rfl
  have L7 : Lk K mg "guard" f7 _ ["mask", "level", "least"] := ⟨PySem.W.mg_of X G a7, k7, b7⟩
  have F8 := fun_mk (st := s__law_same) l8 c8 k8
  have b8 := F8.binds (ps := ["actual", "due"]) fun _ _ _ _ _ _ us hl => match us, hl with | [_, _], _ => rfl
  have L8 : Lk K mg "_law_same" f8 _ ["actual", "due"] := ⟨PySem.W.mg_of X G a8, k8, b8⟩
  have F9 := fun_mk (st := s__law_pool) l9 c9 k9
  have b9 := F9.binds (ps := ["script"]) fun _ _ _ _ _ _ us hl => match us, hl with | [_], _ => rfl
  have L9 : Lk K mg "_law_pool" f9 _ ["script"] := ⟨PySem.W.mg_of X G a9, k9, b9⟩
  have F10 := fun_mk (st := s__law_spread) l10 c10 k10
  have b10 := F10.binds (ps := ["cell"]) fun _ _ _ _ _ _ us hl => match us, hl with | [_], _ => rfl
  have L10 : Lk K mg "_law_spread" f10 _ ["cell"] := ⟨PySem.W.mg_of X G a10, k10, b10⟩
  have F11 := fun_mk (st := s__law_draw) l11 c11 k11
  have b11 := F11.binds (ps := ["pool", "many"]) fun _ _ _ _ _ _ us hl => match us, hl with | [_, _], _ => rfl
  have L11 : Lk K mg "_law_draw" f11 _ ["pool", "many"] := ⟨PySem.W.mg_of X G a11, k11, b11⟩
  have F12 := fun_mk (st := s__law_mask) l12 c12 k12
  have b12 := F12.binds (ps := ["pool"]) fun _ _ _ _ _ _ us hl => match us, hl with | [_], _ => rfl
  have L12 : Lk K mg "_law_mask" f12 _ ["pool"] := ⟨PySem.W.mg_of X G a12, k12, b12⟩
  have F13 := fun_mk (st := s__law_loss) l13 c13 k13
  have b13 := F13.binds (ps := ["mask", "offset"]) fun _ _ _ _ _ _ us hl => match us, hl with | [_, _], _ => rfl
  have L13 : Lk K mg "_law_loss" f13 _ ["mask", "offset"] := ⟨PySem.W.mg_of X G a13, k13, b13⟩
  have F14 := fun_mk (st := s_law) l14 c14 k14
  have b14 := F14.binds (ps := ["script"]) fun _ _ _ _ _ _ us hl => match us, hl with | [_], _ => rfl
  have L14 : Lk K mg "law" fa _ ["script"] := ⟨PySem.W.mg_of X G a14, k14, b14⟩
  have B : Bi mg := ⟨PySem.W.mg_none_of X G z_len, PySem.W.mg_none_of X G z_range, PySem.W.mg_none_of X G z_isinstance, PySem.W.mg_none_of X G z_int, PySem.W.mg_none_of X G z_str, PySem.W.mg_none_of X G z_bool, PySem.W.mg_none_of X G z_list, PySem.W.mg_none_of X G z_tuple, PySem.W.mg_none_of X G z_dict, PySem.W.mg_none_of X G z_sum, PySem.W.mg_none_of X G z_max, PySem.W.mg_none_of X G z_min, PySem.W.mg_none_of X G z_abs, PySem.W.mg_none_of X G z_sorted, PySem.W.mg_none_of X G z_enumerate, PySem.W.mg_none_of X G z_zip, PySem.W.mg_none_of X G z_set⟩
  have one : ∀ {p : Addr × Addr}, p ∈ [(cR, C)] → p = (cR, C) := fun h => List.mem_singleton.mp h
  refine ⟨_, [(cR, C)], spLawT K C, fun p hp => by rw [one hp]; exact hT, fun p hp => by rw [one hp]; exact nT, fun p hp => by rw [one hp]; exact PySem.W.codeHd_of_K X hC, fun s v => .of_eq rfl, fun H a ns hl _ hH hS => ⟨a, ns, rfl, hS, hl, hH _ (List.mem_singleton.mpr rfl), fun _ => rfl⟩, fun base _ _ TB => ok_all B (cR := cR) (C := C) (TB _ (List.mem_singleton.mpr rfl)) F0 L0 F1 L1 F2 L2 F3 L3 F4 L4 F5 L5 F6 L6 F7.fn L7 F8 L8 F9 L9 F10 L10 F11 L11 F12 L12 F13 L13 F14 L14 F7⟩
end DL
open PySem PySem.W PyProof.Rows
set_option maxRecDepth 100000 in
set_option maxHeartbeats 0 in
theorem PySem.Challenge.cw_airwave_k71_masks_of_two_radios_holds : PySem.Challenge.rw_airwave_k71_masks_of_two_radios.Holds := by
  w_on; o_law; k_head; (case hw => w_witness2)
  k_fill
  refine LamX.walk_ofTs (l := PySem.Challenge.rw_airwave_k71_masks_of_two_radios) (n := 63) (k := 7) (x := "script") (CX := fun _ => L2.CX0) rfl (by decide) rfl ⟨rfl, by decide, by decide⟩ (fun w h Y => PySem.W.km_in_of Y) ?F (fun _ _ _ _ _ h => h)
  case F =>
    intro w mg fa h Y KX G hmg
    have hT := PySem.W.km_tabs_of Y
    refine' DL.all_mk (C := 59) KX G hmg (hT _ (by simp)) ?a0 ?l0 ?c0 ?k0 ?a1 ?l1 ?c1 ?k1 ?a2 ?l2 ?c2 ?k2 ?a3 ?l3 ?c3 ?k3 ?a4 ?l4 ?c4 ?k4 ?a5 ?l5 ?c5 ?k5 ?a6 ?l6 ?c6 ?k6 ?a7 ?l7 ?c7 ?k7 ?a8 ?l8 ?c8 ?k8 ?a9 ?l9 ?c9 ?k9 ?a10 ?l10 ?c10 ?k10 ?a11 ?l11 ?c11 ?k11 ?a12 ?l12 ?c12 ?k12 ?a13 ?l13 ?c13 ?k13 ?a14 ?l14 ?c14 ?k14 ?z_len ?z_range ?z_isinstance ?z_int ?z_str ?z_bool ?z_list ?z_tuple ?z_dict ?z_sum ?z_max ?z_min ?z_abs ?z_sorted ?z_enumerate ?z_zip ?z_set ?nT ?hC
    (case a0 => k_is); (case l0 => k_is); (case c0 => k_is); (case k0 => k_is); (case a1 => k_is); (case l1 => k_is); (case c1 => k_is); (case k1 => k_is); (case a2 => k_is); (case l2 => k_is); (case c2 => k_is); (case k2 => k_is); (case a3 => k_is); (case l3 => k_is); (case c3 => k_is); (case k3 => k_is); (case a4 => k_is); (case l4 => k_is); (case c4 => k_is); (case k4 => k_is); (case a5 => k_is); (case l5 => k_is); (case c5 => k_is); (case k5 => k_is); (case a6 => k_is); (case l6 => k_is); (case c6 => k_is); (case k6 => k_is); (case a7 => k_is); (case l7 => k_is); (case c7 => k_is); (case k7 => k_is); (case a8 => k_is); (case l8 => k_is); (case c8 => k_is); (case k8 => k_is); (case a9 => k_is); (case l9 => k_is); (case c9 => k_is); (case k9 => k_is); (case a10 => k_is); (case l10 => k_is); (case c10 => k_is); (case k10 => k_is); (case a11 => k_is); (case l11 => k_is); (case c11 => k_is); (case k11 => k_is); (case a12 => k_is); (case l12 => k_is); (case c12 => k_is); (case k12 => k_is); (case a13 => k_is); (case l13 => k_is); (case c13 => k_is); (case k13 => k_is); (case a14 => k_is); (case l14 => k_is); (case c14 => k_is); (case k14 => k_is); (case z_len => k_is); (case z_range => k_is); (case z_isinstance => k_is); (case z_int => k_is); (case z_str => k_is); (case z_bool => k_is); (case z_list => k_is); (case z_tuple => k_is); (case z_dict => k_is); (case z_sum => k_is); (case z_max => k_is); (case z_min => k_is); (case z_abs => k_is); (case z_sorted => k_is); (case z_enumerate => k_is); (case z_zip => k_is); (case z_set => k_is); (case nT => kernel_rfl); (case hC => kernel_rfl)
#print axioms PySem.Challenge.cw_airwave_k71_masks_of_two_radios_holds
