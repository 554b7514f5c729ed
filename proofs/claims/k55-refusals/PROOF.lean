import PyProof.Rows.All
import Wide.All
import OpenK.AllK
import Wide.FinOn
import HandS.ForMost
import HandS.IsInst
import HandS.Wide
import HandS.Gcd
import HandS.Deep
import HandS.TupAny
import HandS.Zip
import HandS.Codes
import KE.GoesEnumKw
import HandS.SortKw
import HandS.Exc
import HandS.ExcOwn
import HandS.TryOnly
import HandS.WordsExc
import HandS.TupMul
import HandS.Dict
import HandS.SortOrd
import HandS.SortRule
import HandS.SortInts
import HandS.DictTup
import HandS.More
import KE.KDictCopyH
import KE.KDictWalk
import KE.KDictExact
import HandS.DictComp
import HandS.TupLe
import HandS.Conv
import KE.SortData
import KE.DataMinMax
import KE.DatumOrd
import HandS.Iter
import KE.KDictDisplayH
import HandS.Comp
import HandS.Text
import HandS.Steps
import HandS.StrMore
import HandS.FStr
import HandS.Style
import PyProof.StrOps2
import KE.KRevSl
import HandS.RaiseMore
import PySem.Challenge.RW_airwave_k55_texts_of_refusals
set_option Elab.async false
set_option linter.all false
set_option maxRecDepth 100000
/-! DL: a layer of data. D: trees of values; Rep: a value stands for a tree; Ev..: what a reading evaluates to, by trees. -/
namespace DL
open PySem PySem.Spec PyProof.Rows L2

inductive D where
  | non | bl (b : Bool) | int (i : Int) | str (x : Str) | tup (xs : List D) | lst (xs : List D) | raw (v : V) | dk (ks : List Key) (xs : List D) | dt (ks : List (List Key)) (xs : List D)

theorem same_tr {H H' : Hp} (s : Same H H') : ∀ a, H a ≠ none → H' a ≠ none := fun a h => by
  cases e : H a with
  | none => exact absurd e h
  | some o => rw [s a o e]; exact fun z => by cases z
theorem upd_tr {H : Hp} {l : Addr} {o : HO} : ∀ a, H a ≠ none → L2.upd H l o a ≠ none := fun a h => by
  by_cases e : a = l
  · rw [e, upd_same]; exact fun z => by cases z
  · rw [upd_ne e]; exact h
/-- what φ says is kept, nothing is lost from sight -/
structure But (φ : Addr → Prop) (H H' : Hp) : Prop where
  keep : ∀ a o, φ a → H a = some o → H' a = some o
  tr : ∀ a, H a ≠ none → H' a ≠ none
theorem But.refl (φ : Addr → Prop) (H : Hp) : But φ H H := ⟨fun _ _ _ e => e, fun _ h => h⟩
theorem But.trans {φ : Addr → Prop} {H H1 H2 : Hp} (a : But φ H H1) (b : But φ H1 H2) : But φ H H2 := ⟨fun x o h e => b.keep x o h (a.keep x o h e), fun x h => b.tr x (a.tr x h)⟩
theorem But.of {φ : Addr → Prop} {H H' : Hp} (s : Same H H') : But φ H H' := ⟨fun a o _ e => s a o e, same_tr s⟩
theorem But.upd {φ : Addr → Prop} {H H' : Hp} {l : Addr} {o : HO} (b : But φ H H') (h : ¬ φ l) : But φ H (L2.upd H' l o) := ⟨fun a u p e => by
  rw [L2.upd_ne (show a ≠ l from fun z => h (z ▸ p))]
  exact b.keep a u p e, fun a h => upd_tr a (b.tr a h)⟩
theorem But.imp {φ φ' : Addr → Prop} {H H' : Hp} (b : But φ' H H') (h : ∀ a, φ a → H a ≠ none → φ' a) : But φ H H' := ⟨fun a o p e => b.keep a o (h a p (by rw [e]; exact fun z => by cases z)) e, b.tr⟩
theorem same_new {H : Hp} {p : Addr} {o : HO} (h : H p = none) : Same H (upd H p o) := fun b x e => by
  rw [upd_ne (ne_of_none e h)]
  exact e

section
variable (K : PySem.W.Frag) (φ : Addr → Prop) (H : Hp)
def WrT (a : Addr) (xs : List V) : Prop := ∃ (o : Obj) (its : Array Value) (n : Nat), K.lookup a = some o ∧ o.cls = .type "tuple" ∧ o.data = .seq its n ∧ its.size ≤ sizeLine ∧ Vals xs its.toList
def WrL (a : Addr) (xs : List V) : Prop := ∃ (o : Obj) (its : Array Value) (n : Nat), K.lookup a = some o ∧ o.cls = .type "list" ∧ o.dict = none ∧ o.data = .seq its n ∧ its.size ≤ sizeLine ∧ Vals xs its.toList
def PT (a : Addr) (xs : List V) : Prop := (φ a ∧ (H a = some (.tup xs) ∨ False)) ∨ (False ∧ K.lookup a = none)
def PL (a : Addr) (xs : List V) : Prop := (φ a ∧ Rd H a (.lst xs)) ∨ WrL K a xs
mutual
def Rep : D → V → Prop
  | .non, v => v = .non
  | .bl b, v => v = .bl b
  | .int i, v => v = .int i
  | .str x, v => v = .str x
  | .tup ds, v => ∃ a vs, v = .ref a ∧ PT K φ H a vs ∧ Reps ds vs
  | .lst ds, v => ∃ a vs, v = .ref a ∧ PL K φ H a vs ∧ Reps ds vs
  | .raw w, v => v = w
  | .dk ks ds, v => ∃ a vs, v = .ref a ∧ (φ a ∧ H a = some (.dK (ks.zip vs)) ∧ ks.length = ds.length) ∧ Reps ds vs
  | .dt ks ds, v => ∃ a vs, v = .ref a ∧ (φ a ∧ H a = some (.dT (ks.zip vs)) ∧ ks.length = ds.length) ∧ Reps ds vs
def Reps : List D → List V → Prop
  | [], vs => vs = []
  | d :: ds, vs => ∃ v r, vs = v :: r ∧ Rep d v ∧ Reps ds r
end
end

section
variable {K : PySem.W.Frag} {φ φ' : Addr → Prop} {H H' : Hp} {a : Addr} {xs : List V} {ds es : List D} {d : D} {v : V} {vs ws : List V}
theorem PT.at (h : PT K φ H a xs) : φ a ∧ H a = some (.tup xs) := h.elim (fun z => ⟨z.1, z.2.elim id False.elim⟩) fun z => z.1.elim
theorem PT.sq (h : PT K φ H a xs) : SqT K H a xs := .inl (.inl h.at.2)
theorem PL.sq (h : PL K φ H a xs) : SqL K H a xs := h.elim (fun z => .inl z.2) .inr
/-- a change that keeps what Rep leans on -/
def Up (φ φ' : Addr → Prop) (H H' : Hp) : Prop := ∀ a o, φ a → H a = some o → φ' a ∧ H' a = some o
theorem Up.of (b : But φ H H') : Up φ φ H H' := fun a o p e => ⟨p, b.keep a o p e⟩
theorem Up.new {p : Addr} (h : H p = none) : Up φ (fun a => φ a ∧ a ≠ p) H H := fun a o q e => ⟨⟨q, ne_of_none e h⟩, e⟩
theorem Rd.up {u : HO} (k : Up φ φ' H H') (p : φ a) (h : Rd H a u) : φ' a ∧ Rd H' a u := by
  rcases h with h | ⟨o, h⟩
  · exact ⟨(k a _ p h).1, .inl (k a _ p h).2⟩
  · exact ⟨(k a _ p h).1, .inr ⟨o, (k a _ p h).2⟩⟩
theorem PT.up (k : Up φ φ' H H') (h : PT K φ H a xs) : PT K φ' H' a xs := .inl ⟨(k a _ h.at.1 h.at.2).1, .inl (k a _ h.at.1 h.at.2).2⟩
theorem PL.up (k : Up φ φ' H H') (h : PL K φ H a xs) : PL K φ' H' a xs := h.elim (fun z => .inl (Rd.up k z.1 z.2)) .inr
mutual
theorem Rep.up (k : Up φ φ' H H') : ∀ (d : D) (v : V), Rep K φ H d v → Rep K φ' H' d v
  | .non, _, h => h
  | .bl _, _, h => h
  | .int _, _, h => h
  | .str _, _, h => h
  | .raw _, _, h => h
  | .dk ks ds, v, h => by
    obtain ⟨a, vs, e, ⟨p, e2, hl⟩, r⟩ := (show ∃ a vs, v = .ref a ∧ (φ a ∧ H a = some (.dK (ks.zip vs)) ∧ ks.length = ds.length) ∧ Reps K φ H ds vs from h)
    exact ⟨a, vs, e, ⟨(k a _ p e2).1, (k a _ p e2).2, hl⟩, Reps.up k ds vs r⟩
  | .dt ks ds, v, h => by
    obtain ⟨a, vs, e, ⟨p, e2, hl⟩, r⟩ := (show ∃ a vs, v = .ref a ∧ (φ a ∧ H a = some (.dT (ks.zip vs)) ∧ ks.length = ds.length) ∧ Reps K φ H ds vs from h)
    exact ⟨a, vs, e, ⟨(k a _ p e2).1, (k a _ p e2).2, hl⟩, Reps.up k ds vs r⟩
  | .tup ds, v, h => by
    obtain ⟨a, vs, e, p, r⟩ := (show ∃ a vs, v = .ref a ∧ PT K φ H a vs ∧ Reps K φ H ds vs from h)
    exact ⟨a, vs, e, p.up k, Reps.up k ds vs r⟩
  | .lst ds, v, h => by
    obtain ⟨a, vs, e, p, r⟩ := (show ∃ a vs, v = .ref a ∧ PL K φ H a vs ∧ Reps K φ H ds vs from h)
    exact ⟨a, vs, e, p.up k, Reps.up k ds vs r⟩
theorem Reps.up (k : Up φ φ' H H') : ∀ (ds : List D) (vs : List V), Reps K φ H ds vs → Reps K φ' H' ds vs
  | [], _, h => h
  | d :: ds, vs, h => by
    obtain ⟨v, r, e, h1, h2⟩ := (show ∃ v r, vs = v :: r ∧ Rep K φ H d v ∧ Reps K φ H ds r from h)
    exact ⟨v, r, e, Rep.up k d v h1, Reps.up k ds r h2⟩
end
theorem Rep.mono (h : Rep K φ H d v) (b : But φ H H') : Rep K φ H' d v := Rep.up (Up.of b) d v h
theorem Reps.mono (h : Reps K φ H ds vs) (b : But φ H H') : Reps K φ H' ds vs := Reps.up (Up.of b) ds vs h
theorem Reps.length : ∀ {ds : List D} {vs : List V}, Reps K φ H ds vs → vs.length = ds.length
  | [], vs, h => by
    have e : vs = [] := h
    rw [e]
    rfl
  | d :: ds, vs, h => by
    obtain ⟨v, r, rfl, h1, h2⟩ := (show ∃ v r, vs = v :: r ∧ Rep K φ H d v ∧ Reps K φ H ds r from h)
    rw [List.length_cons, List.length_cons, Reps.length h2]
theorem Reps.nil : Reps K φ H [] [] := rfl
theorem Reps.cons (h1 : Rep K φ H d v) (h2 : Reps K φ H ds vs) : Reps K φ H (d :: ds) (v :: vs) := ⟨v, vs, rfl, h1, h2⟩
theorem Reps.get : ∀ {ds : List D} {vs : List V} {i : Nat} {d : D}, Reps K φ H ds vs → ds[i]? = some d → ∃ v, vs[i]? = some v ∧ Rep K φ H d v
  | [], vs, i, d, _, e => by simp at e
  | x :: ds, vs, i, d, h, e => by
    obtain ⟨v, r, rfl, h1, h2⟩ := (show ∃ v r, vs = v :: r ∧ Rep K φ H x v ∧ Reps K φ H ds r from h)
    cases i with
    | zero =>
      have e' : x = d := by simpa using e
      exact ⟨v, rfl, e' ▸ h1⟩
    | succ i =>
      obtain ⟨w, e1, r1⟩ := Reps.get (i := i) h2 (by simpa using e)
      exact ⟨w, by simpa using e1, r1⟩
theorem Reps.getV {i : Nat} (h : Reps K φ H ds vs) (e : vs[i]? = some v) : ∃ d, ds[i]? = some d ∧ Rep K φ H d v := by
  have hl := h.length
  obtain ⟨hi, _⟩ := List.getElem?_eq_some_iff.mp e
  obtain ⟨w, e1, r1⟩ := h.get (List.getElem?_eq_getElem (show i < ds.length by omega))
  rw [e] at e1
  cases e1
  exact ⟨_, List.getElem?_eq_getElem (show i < ds.length by omega), r1⟩
theorem Reps.append : ∀ {ds : List D} {vs : List V}, Reps K φ H ds vs → Reps K φ H es ws → Reps K φ H (ds ++ es) (vs ++ ws)
  | [], vs, h, k => by
    have e : vs = [] := h
    rw [e]
    exact k
  | d :: ds, vs, h, k => by
    obtain ⟨v, r, rfl, h1, h2⟩ := (show ∃ v r, vs = v :: r ∧ Rep K φ H d v ∧ Reps K φ H ds r from h)
    exact ⟨v, r ++ ws, rfl, h1, Reps.append h2 k⟩
theorem Reps.drop : ∀ (n : Nat) {ds : List D} {vs : List V}, Reps K φ H ds vs → Reps K φ H (ds.drop n) (vs.drop n)
  | 0, _, _, h => h
  | n + 1, [], vs, h => by
    have e : vs = [] := h
    rw [e]
    exact rfl
  | n + 1, d :: ds, vs, h => by
    obtain ⟨v, r, rfl, h1, h2⟩ := (show ∃ v r, vs = v :: r ∧ Rep K φ H d v ∧ Reps K φ H ds r from h)
    exact Reps.drop n h2
theorem Reps.take : ∀ (n : Nat) {ds : List D} {vs : List V}, Reps K φ H ds vs → Reps K φ H (ds.take n) (vs.take n)
  | 0, _, _, h => rfl
  | n + 1, [], vs, h => by
    have e : vs = [] := h
    rw [e]
    exact rfl
  | n + 1, d :: ds, vs, h => by
    obtain ⟨v, r, rfl, h1, h2⟩ := (show ∃ v r, vs = v :: r ∧ Rep K φ H d v ∧ Reps K φ H ds r from h)
    exact ⟨v, _, rfl, h1, Reps.take n h2⟩
theorem Reps.set : ∀ {ds : List D} {vs : List V} (i : Nat), Reps K φ H ds vs → Rep K φ H d v → Reps K φ H (ds.set i d) (vs.set i v)
  | [], vs, i, h, _ => by
    have e : vs = [] := h
    rw [e]
    exact rfl
  | x :: ds, vs, i, h, k => by
    obtain ⟨w, r, rfl, h1, h2⟩ := (show ∃ v r, vs = v :: r ∧ Rep K φ H x v ∧ Reps K φ H ds r from h)
    cases i with
    | zero => exact ⟨v, r, rfl, k, h2⟩
    | succ i => exact ⟨w, r.set i v, rfl, h1, Reps.set i h2 k⟩
theorem Reps.ints : ∀ {ns : List Int} {vs : List V}, Reps K φ H (ns.map D.int) vs → vs = ns.map V.int
  | [], vs, h => h
  | n :: ns, vs, h => by
    obtain ⟨v, r, rfl, h1, h2⟩ := (show ∃ v r, vs = v :: r ∧ Rep K φ H (.int n) v ∧ Reps K φ H (ns.map D.int) r from h)
    have e : v = .int n := h1
    rw [e, Reps.ints h2]
    rfl
theorem Reps.of_ints : ∀ {ns : List Int}, Reps K φ H (ns.map D.int) (ns.map V.int)
  | [] => rfl
  | n :: ns => ⟨.int n, ns.map V.int, rfl, rfl, Reps.of_ints⟩
theorem Reps.strs : ∀ {ns : List Str} {vs : List V}, Reps K φ H (ns.map D.str) vs → vs = ns.map V.str
  | [], vs, h => h
  | n :: ns, vs, h => by
    obtain ⟨v, r, rfl, h1, h2⟩ := (show ∃ v r, vs = v :: r ∧ Rep K φ H (.str n) v ∧ Reps K φ H (ns.map D.str) r from h)
    have e : v = .str n := h1
    rw [e, Reps.strs h2]
    rfl
end

/-! ### the slots -/
def SR (K : PySem.W.Frag) (φ : Addr → Prop) (H : Hp) (ρ : List (Option D)) (σ : L2.St) : Prop :=
  σ.length = ρ.length ∧ ∀ (i : Nat) (d : D), ρ[i]? = some (some d) → ∃ v, σ[i]? = some (some v) ∧ Rep K φ H d v
section
variable {K : PySem.W.Frag} {φ φ' : Addr → Prop} {H H' : Hp} {ρ ρ' : List (Option D)} {σ : L2.St} {d : D} {v : V}
theorem SR.up (k : Up φ φ' H H') (h : SR K φ H ρ σ) : SR K φ' H' ρ σ := ⟨h.1, fun i d e => by
  obtain ⟨v, e1, r⟩ := h.2 i d e
  exact ⟨v, e1, Rep.up k d v r⟩⟩
theorem SR.set (i : Nat) (h : SR K φ H ρ σ) (r : Rep K φ H d v) : SR K φ H (ρ.set i (some d)) (σ.set i (some v)) := by
  refine ⟨by rw [List.length_set, List.length_set]; exact h.1, fun j e hj => ?_⟩
  by_cases hij : i = j
  · subst hij
    have hl : i < ρ.length := by
      obtain ⟨z, _⟩ := List.getElem?_eq_some_iff.mp hj
      simpa using z
    rw [List.getElem?_set_self hl] at hj
    cases hj
    exact ⟨v, List.getElem?_set_self (by rw [h.1]; exact hl), r⟩
  · rw [List.getElem?_set_ne hij] at hj
    obtain ⟨w, e1, r1⟩ := h.2 j e hj
    exact ⟨w, by rw [List.getElem?_set_ne hij]; exact e1, r1⟩
/-- ρ' knows no more than ρ -/
inductive Le : List (Option D) → List (Option D) → Prop where
  | nil : Le [] []
  | keep {x : Option D} {a b : List (Option D)} : Le a b → Le (x :: a) (x :: b)
  | drop {x : Option D} {a b : List (Option D)} : Le a b → Le (none :: a) (x :: b)
theorem Le.length : ∀ {a b : List (Option D)}, Le a b → a.length = b.length
  | _, _, .nil => rfl
  | _, _, .keep h => by rw [List.length_cons, List.length_cons, h.length]
  | _, _, .drop h => by rw [List.length_cons, List.length_cons, h.length]
theorem Le.get : ∀ {a b : List (Option D)} {i : Nat} {d : D}, Le a b → a[i]? = some (some d) → b[i]? = some (some d)
  | _, _, _, _, .nil, e => e
  | _, _, 0, _, .keep h, e => e
  | _, _, i + 1, _, .keep h, e => by
    have z := Le.get (i := i) h (by simpa using e)
    simpa using z
  | _, _, 0, _, .drop h, e => by simp at e
  | _, _, i + 1, _, .drop h, e => by
    have z := Le.get (i := i) h (by simpa using e)
    simpa using z
theorem Le.refl : ∀ (a : List (Option D)), Le a a
  | [] => .nil
  | _ :: a => .keep (Le.refl a)
theorem SR.le (h : SR K φ H ρ σ) (l : Le ρ' ρ) : SR K φ H ρ' σ := ⟨by rw [h.1, l.length], fun i d e => h.2 i d (l.get e)⟩
theorem SR.start : ∀ {ds : List D} {vs : List V} {n : Nat}, Reps K φ H ds vs → SR K φ H (ds.map some ++ List.replicate n none) (vs.map some ++ List.replicate n none)
  | [], vs, n, h => by
    have e : vs = [] := h
    rw [e]
    refine ⟨by simp, fun i d hd => ?_⟩
    simp [List.getElem?_replicate] at hd
  | d :: ds, vs, n, h => by
    obtain ⟨v, r, rfl, h1, h2⟩ := (show ∃ v r, vs = v :: r ∧ Rep K φ H d v ∧ Reps K φ H ds r from h)
    obtain ⟨l, g⟩ := SR.start (n := n) h2
    refine ⟨by simp only [List.map_cons, List.cons_append, List.length_cons, l], fun i d' hd => ?_⟩
    cases i with
    | zero =>
      simp at hd
      exact ⟨v, rfl, hd ▸ h1⟩
    | succ i =>
      obtain ⟨w, e, q⟩ := g i d' (by simpa using hd)
      exact ⟨w, by simpa using e, q⟩
end

/-! ### a state: the slots by trees, the live facts J -/
/-- J leans on what H tracks alone -/
def Mo (H : Hp) (J : Hp → Prop) : Prop := ∀ H1 H2 : Hp, (∀ a o, H a ≠ none → H1 a = some o → H2 a = some o) → J H1 → J H2
theorem Mo.up {H H' : Hp} {J : Hp → Prop} (m : Mo H J) (s : ∀ a, H a ≠ none → H' a ≠ none) : Mo H' J := fun H1 H2 k j => m H1 H2 (fun a o h e => k a o (s a h) e) j
theorem Mo.same {H H' : Hp} {J : Hp → Prop} (m : Mo H J) (s : Same H H') : Mo H' J := m.up (same_tr s)
theorem Mo.upd {H : Hp} {J : Hp → Prop} {l : Addr} {o : HO} (m : Mo H J) : Mo (L2.upd H l o) J := m.up upd_tr
theorem Mo.and {H : Hp} {J J' : Hp → Prop} (m : Mo H J) (m' : Mo H J') : Mo H (fun H => J H ∧ J' H) := fun H1 H2 k j => ⟨m H1 H2 k j.1, m' H1 H2 k j.2⟩
theorem Mo.at {H : Hp} {l : Addr} {o : HO} (h : H l ≠ none) : Mo H (fun H => H l = some o) := fun H1 H2 k j => k l o h j
theorem Mo.sames {H H0 : Hp} (h : ∀ a, H0 a ≠ none → H a ≠ none) : Mo H (Same H0) := fun H1 H2 k j b o e => k b o (h b (by rw [e]; exact fun z => by cases z)) (j b o e)
theorem Mo.but {φ : Addr → Prop} {H H0 : Hp} (h : ∀ a, H0 a ≠ none → H a ≠ none) : Mo H (But φ H0) := fun H1 H2 k j => ⟨fun b o p e => k b o (h b (by rw [e]; exact fun z => by cases z)) (j.keep b o p e), fun b hb => by
  cases e : H1 b with
  | none => exact absurd e (j.tr b hb)
  | some o => rw [k b o (h b hb) e]; exact fun z => by cases z⟩
theorem Mo.tt {H : Hp} {p : Prop} : Mo H (fun _ => p) := fun H1 H2 k j => j
/-- what is free, and every tuple, is in φ -/
structure Frm (φ : Addr → Prop) (H : Hp) : Prop where
  new : ∀ a, H a = none → φ a
  tup : ∀ a xs, H a = some (.tup xs) → φ a
instance {φ : Addr → Prop} {H : Hp} : CoeFun (Frm φ H) (fun _ => ∀ a, H a = none → φ a) := ⟨Frm.new⟩
theorem Frm.same {φ : Addr → Prop} {H H' : Hp} (F : Frm φ H) (s : Same H H') : Frm φ H' := ⟨fun a h => F.new a (s.free h), fun a xs h => by
  cases e : H a with
  | none => exact F.new a e
  | some o =>
    have z := s a o e
    rw [h] at z
    cases z
    exact F.tup a xs e⟩
theorem Frm.fst {φ : Addr → Prop} {l : Addr} {H : Hp} (F : Frm (fun a => φ a ∧ a ≠ l) H) : Frm φ H := ⟨fun a h => (F.new a h).1, fun a xs h => (F.tup a xs h).1⟩
theorem Frm.upd {φ : Addr → Prop} {H : Hp} {l : Addr} {o : HO} (F : Frm φ H) (ho : ∀ xs, o ≠ .tup xs) : Frm φ (L2.upd H l o) := ⟨fun a h => by
  by_cases e : a = l
  · rw [e, upd_same] at h; cases h
  · rw [upd_ne e] at h; exact F.new a h, fun a xs h => by
  by_cases e : a = l
  · rw [e, upd_same] at h; exact absurd (Option.some.inj h) (ho xs)
  · rw [upd_ne e] at h; exact F.tup a xs h⟩
theorem Frm.updW {φ : Addr → Prop} {H : Hp} {l : Addr} {o : HO} (F : Frm φ H) (ho : ∀ xs, o ≠ .tup xs) : Frm (fun a => φ a ∧ a ≠ l) (L2.upd H l o) := ⟨fun a h => ⟨(F.upd ho).new a h, fun e => by rw [e, upd_same] at h; cases h⟩, fun a xs h => ⟨(F.upd ho).tup a xs h, fun e => by
  rw [e, upd_same] at h
  exact ho xs (Option.some.inj h)⟩⟩
theorem Frm.at {φ : Addr → Prop} {H : Hp} {l : Addr} {o : HO} (F : Frm φ H) (h : H l = some o) (ho : ∀ xs, o ≠ .tup xs) : Frm (fun a => φ a ∧ a ≠ l) H := ⟨fun a ha => ⟨F.new a ha, fun e => by rw [e, h] at ha; cases ha⟩, fun a xs ha => ⟨F.tup a xs ha, fun e => by
  rw [e, h] at ha
  exact ho xs (Option.some.inj ha)⟩⟩
structure At (K : PySem.W.Frag) (φ : Addr → Prop) (J : Hp → Prop) (ρ : List (Option D)) (σ : L2.St) (H : Hp) : Prop where
  sr : SR K φ H ρ σ
  fr : Frm φ H
  j : J H
  mono : Mo H J
section
variable {K : PySem.W.Frag} {φ φ' : Addr → Prop} {J J' : Hp → Prop} {H H' : Hp} {ρ ρ' : List (Option D)} {σ : L2.St} {d : D} {v : V}
theorem At.same (A : At K φ J ρ σ H) (s : Same H H') : At K φ J ρ σ H' :=
  ⟨A.sr.up (Up.of (But.of s)), A.fr.same s, A.mono _ _ (fun a o _ e => s a o e) A.j, A.mono.same s⟩
theorem At.le (A : At K φ J ρ σ H) (l : Le ρ' ρ) : At K φ J ρ' σ H := ⟨A.sr.le l, A.fr, A.j, A.mono⟩
theorem At.set (A : At K φ J ρ σ H) (i : Nat) (r : Rep K φ H d v) : At K φ J (ρ.set i (some d)) (σ.set i (some v)) H := ⟨A.sr.set i r, A.fr, A.j, A.mono⟩
theorem At.live (A : At K φ J ρ σ H) (j : J' H) (m : Mo H J') : At K φ J' ρ σ H := ⟨A.sr, A.fr, j, m⟩
/-- a new live object at p -/
theorem At.newLive {p : Addr} {o : HO} (A : At K φ J ρ σ H) (hp : H p = none) (j : J' (L2.upd H p o)) (m : Mo (L2.upd H p o) J') (ho : ∀ xs, o ≠ .tup xs := by intro xs h; cases h) : At K (fun a => φ a ∧ a ≠ p) J' ρ σ (L2.upd H p o) :=
  ⟨A.sr.up fun a u q e => ⟨⟨q, ne_of_none e hp⟩, by rw [upd_ne (ne_of_none e hp)]; exact e⟩, A.fr.updW ho, j, m⟩
/-- a live object is written -/
theorem At.upd {l : Addr} {o : HO} (A : At K φ J ρ σ H) (hl : ¬ φ l) (j : J' (L2.upd H l o)) (m : Mo (L2.upd H l o) J') (ho : ∀ xs, o ≠ .tup xs := by intro xs h; cases h) : At K φ J' ρ σ (L2.upd H l o) :=
  ⟨A.sr.up (Up.of ((But.refl φ H).upd hl)), A.fr.upd ho, j, m⟩
/-- slots and heap may be another's, if they say the same -/
theorem Same.upd_live {H H' : Hp} {l : Addr} {o : HO} (s : Same H H') (hl : H l = none) : Same H (L2.upd H' l o) := fun b u e => by
  rw [upd_ne (ne_of_none e hl)]
  exact s b u e
end

/-! ### what a reading evaluates to -/
section
variable (K : PySem.W.Frag) (φ : Addr → Prop) (J : Hp → Prop)
def EvP (te : TE) (ρ : List (Option D)) (P : D → Prop) : Prop := ∀ σ H, At K φ J ρ σ H → ∀ Q : VK, (∀ v d H', But φ H H' → At K φ J ρ σ H' → P d → Rep K φ H' d v → Q v H') → te σ H Q
abbrev EvD (te : TE) (ρ : List (Option D)) (d : D) : Prop := EvP K φ J te ρ (fun x => x = d)
abbrev EvI (te : TE) (ρ : List (Option D)) (p : Int → Prop) : Prop := EvP K φ J te ρ (fun x => ∃ i, x = .int i ∧ p i)
abbrev EvB (te : TE) (ρ : List (Option D)) (p : Bool → Prop) : Prop := EvP K φ J te ρ (fun x => ∃ b, x = .bl b ∧ p b)
def EvA (ta : TA) (ρ : List (Option D)) (P : List D → Prop) : Prop := ∀ σ H, At K φ J ρ σ H → ∀ Q : List V → Hp → Prop, (∀ vs ds H', But φ H H' → At K φ J ρ σ H' → P ds → Reps K φ H' ds vs → Q vs H') → ta σ H Q
def EvT (tt : TT) (ρ : List (Option D)) (p : Bool → Prop) : Prop := ∀ σ H, At K φ J ρ σ H → ∀ Q : Bool → Hp → Prop, (∀ b H', But φ H H' → At K φ J ρ σ H' → p b → Q b H') → tt σ H Q
def EvO (to : TO) (ρ : List (Option D)) (o : Option Int) : Prop := ∀ σ H, At K φ J ρ σ H → ∀ Q : Option Int → Hp → Prop, (∀ H', But φ H H' → At K φ J ρ σ H' → Q o H') → to σ H Q
/-- a two-place operation by trees -/
def Op2 (r : R2) (x y : D) (P : D → Prop) : Prop := ∀ (H : Hp) v w, Frm φ H → Rep K φ H x v → Rep K φ H y w → ∀ Q : VK, (∀ u z H', Same H H' → P z → Rep K φ H' z u → Q u H') → r v w H Q
/-- a call by trees -/
def Cl (r : List V → Hp → VK → Prop) (ds : List D) (P : D → Prop) : Prop := ∀ (H : Hp) vs, Frm φ H → Reps K φ H ds vs → ∀ Q : VK, (∀ u z H', Same H H' → P z → Rep K φ H' z u → Q u H') → r vs H Q
end
section
variable {K : PySem.W.Frag} {φ : Addr → Prop} {J : Hp → Prop} {ρ : List (Option D)} {ta tb te tc : TE} {x y z d : D} {P Pa Pb : D → Prop} {i j : Int} {p q : Int → Prop}
theorem EvP.imp {P' : D → Prop} (h : EvP K φ J te ρ P) (k : ∀ d, P d → P' d) : EvP K φ J te ρ P' := fun σ H A Q q => h σ H A Q fun v d H' b A' pd r => q v d H' b A' (k d pd) r
theorem EvP.is {d' : D} (h : EvD K φ J te ρ d) (e : d = d') : EvD K φ J te ρ d' := e ▸ h
theorem ev_var {i : Nat} (h : ρ[i]? = some (some d)) : EvD K φ J (tVar i) ρ d := fun σ H A Q q => by
  obtain ⟨v, e, r⟩ := A.sr.2 i d h
  exact ⟨v, e, q v d H (But.refl _ _) A rfl r⟩
theorem ev_int : EvD K φ J (tC (.int i)) ρ (.int i) := fun σ H A Q q => q _ _ H (But.refl _ _) A rfl rfl
theorem ev_bl {b : Bool} : EvD K φ J (tC (.bl b)) ρ (.bl b) := fun σ H A Q q => q _ _ H (But.refl _ _) A rfl rfl
theorem ev_str {s : Str} : EvD K φ J (tC (.str s)) ρ (.str s) := fun σ H A Q q => q _ _ H (But.refl _ _) A rfl rfl
theorem ev_non : EvD K φ J (tC .non) ρ .non := fun σ H A Q q => q _ _ H (But.refl _ _) A rfl rfl
theorem ev_ty {n : String} : EvD K φ J (tC (.ty n)) ρ (.raw (.ty n)) := fun σ H A Q q => q _ _ H (But.refl _ _) A rfl rfl
theorem ev_ref {a : Addr} : EvD K φ J (tC (.ref a)) ρ (.raw (.ref a)) := fun σ H A Q q => q _ _ H (But.refl _ _) A rfl rfl
theorem ev_op {r : R2} (ha : EvP K φ J ta ρ Pa) (hb : EvP K φ J tb ρ Pb) (hr : ∀ x y, Pa x → Pb y → Op2 K φ r x y P) : EvP K φ J (tOp r ta tb) ρ P := fun σ H A Q q =>
  ha σ H A _ fun v x H1 b1 A1 px r1 => hb σ H1 A1 _ fun w y H2 b2 A2 py r2 => hr x y px py H2 v w A2.fr (r1.mono b2) r2 Q fun u z H3 s pz r3 => q u z H3 ((b1.trans b2).trans (But.of s)) (A2.same s) pz r3
theorem ev_opD {r : R2} (ha : EvD K φ J ta ρ x) (hb : EvD K φ J tb ρ y) (hr : Op2 K φ r x y P) : EvP K φ J (tOp r ta tb) ρ P := ev_op ha hb fun _ _ e1 e2 => by
  subst e1 e2
  exact hr
/-! the operators on ints -/
theorem o2_I0 {g : Int → Int → V} {z : D} (hz : ∀ H, Rep K φ H z (g i j)) : Op2 K φ (rI0 g) (.int i) (.int j) (fun x => x = z) := fun H v w _ r1 r2 Q q => ⟨i, j, r1, r2, q _ _ H (Same.refl H) rfl (hz H)⟩
theorem o2_I {C : Int → Int → Prop} {g : Int → Int → V} {z : D} (hc : C i j) (hz : ∀ H, Rep K φ H z (g i j)) : Op2 K φ (rI C g) (.int i) (.int j) (fun x => x = z) := fun H v w _ r1 r2 Q q => ⟨i, j, r1, r2, hc, q _ _ H (Same.refl H) rfl (hz H)⟩
theorem ev_add (ha : EvD K φ J ta ρ (.int i)) (hb : EvD K φ J tb ρ (.int j)) : EvD K φ J (tOp (rI0 fun i j => .int (i + j)) ta tb) ρ (.int (i + j)) := ev_opD ha hb (o2_I0 fun _ => rfl)
theorem ev_sub (ha : EvD K φ J ta ρ (.int i)) (hb : EvD K φ J tb ρ (.int j)) : EvD K φ J (tOp (rI0 fun i j => .int (i - j)) ta tb) ρ (.int (i - j)) := ev_opD ha hb (o2_I0 fun _ => rfl)
theorem ev_lt (ha : EvD K φ J ta ρ (.int i)) (hb : EvD K φ J tb ρ (.int j)) : EvD K φ J (tOp (rI0 fun i j => .bl (decide (i < j))) ta tb) ρ (.bl (decide (i < j))) := ev_opD ha hb (o2_I0 fun _ => rfl)
theorem ev_le (ha : EvD K φ J ta ρ (.int i)) (hb : EvD K φ J tb ρ (.int j)) : EvD K φ J (tOp (rI0 fun i j => .bl (decide (i ≤ j))) ta tb) ρ (.bl (decide (i ≤ j))) := ev_opD ha hb (o2_I0 fun _ => rfl)
theorem ev_gt (ha : EvD K φ J ta ρ (.int i)) (hb : EvD K φ J tb ρ (.int j)) : EvD K φ J (tOp (rI0 fun i j => .bl (decide (j < i))) ta tb) ρ (.bl (decide (j < i))) := ev_opD ha hb (o2_I0 fun _ => rfl)
theorem ev_ge (ha : EvD K φ J ta ρ (.int i)) (hb : EvD K φ J tb ρ (.int j)) : EvD K φ J (tOp (rI0 fun i j => .bl (decide (j ≤ i))) ta tb) ρ (.bl (decide (j ≤ i))) := ev_opD ha hb (o2_I0 fun _ => rfl)
theorem ev_mul (ha : EvD K φ J ta ρ (.int i)) (hb : EvD K φ J tb ρ (.int j)) (hc : CMul i j) : EvD K φ J (tOp (rI CMul fun i j => .int (i * j)) ta tb) ρ (.int (i * j)) := ev_opD ha hb (o2_I hc fun _ => rfl)
theorem ev_mulW (ha : EvD K φ J ta ρ (.int i)) (hb : EvD K φ J tb ρ (.int j)) (hc : CMulW i j) : EvD K φ J (tOp (rI CMulW fun i j => .int (i * j)) ta tb) ρ (.int (i * j)) := ev_opD ha hb (o2_I hc fun _ => rfl)
theorem ev_fdiv (ha : EvD K φ J ta ρ (.int i)) (hb : EvD K φ J tb ρ (.int j)) (hc : CDiv i j) : EvD K φ J (tOp (rI CDiv fun i j => .int (i / j)) ta tb) ρ (.int (i / j)) := ev_opD ha hb (o2_I hc fun _ => rfl)
theorem ev_fdivW (ha : EvD K φ J ta ρ (.int i)) (hb : EvD K φ J tb ρ (.int j)) (hc : CDivW i j) : EvD K φ J (tOp (rI CDivW fun i j => .int (i / j)) ta tb) ρ (.int (i / j)) := ev_opD ha hb (o2_I hc fun _ => rfl)
theorem ev_mod (ha : EvD K φ J ta ρ (.int i)) (hb : EvD K φ J tb ρ (.int j)) (hc : 0 < j) : EvD K φ J (tOp (rI (fun _ j => 0 < j) fun i j => .int (i % j)) ta tb) ρ (.int (i % j)) := ev_opD ha hb (o2_I hc fun _ => rfl)
theorem ev_neg (ha : EvD K φ J ta ρ (.int i)) : EvD K φ J (tUn (rU fun i => .int (-i)) ta) ρ (.int (-i)) := fun σ H A Q q =>
  ha σ H A _ fun v x H1 b1 A1 px r1 => by
    subst px
    exact ⟨i, r1, q _ _ H1 b1 A1 rfl rfl⟩
/-- scalars compared -/
def scD : D → D → Bool
  | .non, .non => true
  | .bl _, .bl _ => true
  | .int _, .int _ => true
  | .str _, .str _ => true
  | _, _ => false
def eqS : D → D → Bool
  | .non, .non => true
  | .bl a, .bl b => a == b
  | .int a, .int b => decide (a = b)
  | .str a, .str b => decide (a = b)
  | _, _ => false
end
end DL
namespace DL
open PySem PySem.Spec PyProof.Rows L2

section
variable {K : PySem.W.Frag} {φ φ' : Addr → Prop} {J J' : Hp → Prop} {H H' : Hp} {ρ ρ' : List (Option D)} {σ : L2.St} {ta tb te tc : TE} {x y z d : D} {P Pa Pb Pc : D → Prop} {i j : Int} {p q : Int → Prop} {b c : Bool} {s t : Str} {ds es : List D} {v : V} {vs : List V}

/-! ### one-place forms -/
theorem ev_un {r : V → Hp → VK → Prop} (ha : EvP K φ J ta ρ Pa) (hr : ∀ x, Pa x → ∀ (H : Hp) v, Frm φ H → Rep K φ H x v → ∀ Q : VK, (∀ u z H', Same H H' → P z → Rep K φ H' z u → Q u H') → r v H Q) : EvP K φ J (tUn r ta) ρ P := fun σ H A Q q =>
  ha σ H A _ fun v x H1 b1 A1 px r1 => hr x px H1 v A1.fr r1 Q fun u z H2 s pz r2 => q u z H2 (b1.trans (But.of s)) (A1.same s) pz r2

/-! ### == of scalars -/
theorem o2_eqI : Op2 K φ rEq (.int i) (.int j) (fun x => x = .bl (decide (i = j))) := fun H v w _ r1 r2 Q q => by
  cases (show v = .int i from r1)
  cases (show w = .int j from r2)
  exact ⟨rfl, q _ _ H (Same.refl H) rfl (by rw [dec_int, Bool.beq_eq_decide_eq]; rfl)⟩
theorem o2_neI : Op2 K φ rNe (.int i) (.int j) (fun x => x = .bl (!decide (i = j))) := fun H v w _ r1 r2 Q q => by
  cases (show v = .int i from r1)
  cases (show w = .int j from r2)
  exact ⟨rfl, q _ _ H (Same.refl H) rfl (by rw [dec_int, Bool.beq_eq_decide_eq]; rfl)⟩
theorem o2_eqB : Op2 K φ rEq (.bl b) (.bl c) (fun x => x = .bl (b == c)) := fun H v w _ r1 r2 Q q => by
  cases (show v = .bl b from r1)
  cases (show w = .bl c from r2)
  exact ⟨rfl, q _ _ H (Same.refl H) rfl (by rw [dec_bl]; rfl)⟩
theorem o2_neB : Op2 K φ rNe (.bl b) (.bl c) (fun x => x = .bl (!(b == c))) := fun H v w _ r1 r2 Q q => by
  cases (show v = .bl b from r1)
  cases (show w = .bl c from r2)
  exact ⟨rfl, q _ _ H (Same.refl H) rfl (by rw [dec_bl]; rfl)⟩
theorem dec_strD : decide (V.str s = V.str t) = decide (s = t) := by
  by_cases h : s = t
  · subst h
    simp
  · rw [decide_eq_false h, decide_eq_false fun z => h (V.str.inj z)]
theorem o2_eqS : Op2 K φ rEq (.str s) (.str t) (fun x => x = .bl (decide (s = t))) := fun H v w _ r1 r2 Q q => by
  cases (show v = .str s from r1)
  cases (show w = .str t from r2)
  exact ⟨rfl, q _ _ H (Same.refl H) rfl (by rw [dec_strD]; rfl)⟩
theorem o2_neS : Op2 K φ rNe (.str s) (.str t) (fun x => x = .bl (!decide (s = t))) := fun H v w _ r1 r2 Q q => by
  cases (show v = .str s from r1)
  cases (show w = .str t from r2)
  exact ⟨rfl, q _ _ H (Same.refl H) rfl (by rw [dec_strD]; rfl)⟩
theorem ev_eqI (ha : EvD K φ J ta ρ (.int i)) (hb : EvD K φ J tb ρ (.int j)) : EvD K φ J (tOp rEq ta tb) ρ (.bl (decide (i = j))) := ev_opD ha hb o2_eqI
theorem ev_neI (ha : EvD K φ J ta ρ (.int i)) (hb : EvD K φ J tb ρ (.int j)) : EvD K φ J (tOp rNe ta tb) ρ (.bl (!decide (i = j))) := ev_opD ha hb o2_neI
theorem ev_eqB (ha : EvD K φ J ta ρ (.bl b)) (hb : EvD K φ J tb ρ (.bl c)) : EvD K φ J (tOp rEq ta tb) ρ (.bl (b == c)) := ev_opD ha hb o2_eqB
theorem ev_neB (ha : EvD K φ J ta ρ (.bl b)) (hb : EvD K φ J tb ρ (.bl c)) : EvD K φ J (tOp rNe ta tb) ρ (.bl (!(b == c))) := ev_opD ha hb o2_neB
theorem ev_eqS (ha : EvD K φ J ta ρ (.str s)) (hb : EvD K φ J tb ρ (.str t)) : EvD K φ J (tOp rEq ta tb) ρ (.bl (decide (s = t))) := ev_opD ha hb o2_eqS
theorem ev_neS (ha : EvD K φ J ta ρ (.str s)) (hb : EvD K φ J tb ρ (.str t)) : EvD K φ J (tOp rNe ta tb) ρ (.bl (!decide (s = t))) := ev_opD ha hb o2_neS

/-! ### is None -/
def isNon : D → Bool
  | .non => true
  | .raw w => decide (w = .non)
  | _ => false
def rIsN : R2 := fun x y H Q => y = .non ∧ Q (.bl (decide (x = .non))) H
def rNotN : R2 := fun x y H Q => y = .non ∧ Q (.bl (!decide (x = .non))) H
theorem op_isN1 {X : Cx} : OpR X (compareOp .Is) rIsN := op_isN
theorem op_notN1 {X : Cx} : OpR X (compareOp .IsNot) rNotN := op_notN
theorem isNon_rep : ∀ {d : D}, Rep K φ H d v → decide (v = .non) = isNon d
  | .non, h => by cases (show v = .non from h); rfl
  | .bl _, h => by cases (show v = _ from h); rfl
  | .int _, h => by cases (show v = _ from h); rfl
  | .str _, h => by cases (show v = _ from h); rfl
  | .raw w, h => by cases (show v = _ from h); rfl
  | .tup ds, h => by
    obtain ⟨a, vs, e, _⟩ := (show ∃ a vs, v = .ref a ∧ PT K φ H a vs ∧ Reps K φ H ds vs from h)
    subst e
    rfl
  | .lst ds, h => by
    obtain ⟨a, vs, e, _⟩ := (show ∃ a vs, v = .ref a ∧ PL K φ H a vs ∧ Reps K φ H ds vs from h)
    subst e
    rfl
  | .dk ks ds, h => by
    obtain ⟨a, vs, e, _⟩ := (show ∃ a vs, v = .ref a ∧ (φ a ∧ H a = some (.dK (ks.zip vs)) ∧ ks.length = ds.length) ∧ Reps K φ H ds vs from h)
    subst e
    rfl
  | .dt ks ds, h => by
    obtain ⟨a, vs, e, _⟩ := (show ∃ a vs, v = .ref a ∧ (φ a ∧ H a = some (.dT (ks.zip vs)) ∧ ks.length = ds.length) ∧ Reps K φ H ds vs from h)
    subst e
    rfl
theorem ev_isN (ha : EvD K φ J ta ρ x) : EvD K φ J (tOp rIsN ta (tC .non)) ρ (.bl (isNon x)) := ev_opD ha ev_non fun H v w _ r1 r2 Q q => ⟨r2, q _ _ H (Same.refl H) rfl (by rw [isNon_rep r1]; rfl)⟩
theorem ev_notN (ha : EvD K φ J ta ρ x) : EvD K φ J (tOp rNotN ta (tC .non)) ρ (.bl (!isNon x)) := ev_opD ha ev_non fun H v w _ r1 r2 Q q => ⟨r2, q _ _ H (Same.refl H) rfl (by rw [isNon_rep r1]; rfl)⟩

/-! ### chains, and, or, not, if-else -/
theorem ev_chain {r r' : R2} {k : Bool} (ha : EvD K φ J ta ρ x) (hb : EvD K φ J tb ρ y) (hr : Op2 K φ r x y (fun u => u = .bl k)) (hc : k = true → EvD K φ J tc ρ z) (hr' : k = true → Op2 K φ r' y z (fun u => u = .bl b)) :
    EvD K φ J (tChain r r' ta tb tc) ρ (.bl (k && b)) := fun σ H A Q q =>
  ha σ H A _ fun v x1 H1 b1 A1 e1 r1 => hb σ H1 A1 _ fun w y1 H2 b2 A2 e2 r2 => by
    subst e1 e2
    refine hr H2 v w A2.fr (r1.mono b2) r2 _ fun u z1 H3 s3 e3 r3 => ?_
    subst e3
    refine ⟨k, r3, ?_⟩
    cases k with
    | false =>
      rw [if_neg (by simp)]
      exact q _ _ H3 ((b1.trans b2).trans (But.of s3)) (A2.same s3) rfl rfl
    | true =>
      rw [if_pos rfl]
      refine hc rfl σ H3 (A2.same s3) _ fun w' z1 H4 b4 A4 e4 r4 => ?_
      subst e4
      exact hr' rfl H4 w w' A4.fr ((r2.mono (But.of s3)).mono b4) r4 Q fun u z1 H5 s5 e5 r5 => q u z1 H5 ((((b1.trans b2).trans (But.of s3)).trans b4).trans (But.of s5)) (A4.same s5) e5 r5
theorem ev_chainI {f g : Int → Int → Bool} {i j k : Int} (ha : EvD K φ J ta ρ (.int i)) (hb : EvD K φ J tb ρ (.int j)) (hc : EvD K φ J tc ρ (.int k)) :
    EvD K φ J (tChain (rI0 fun i j => .bl (f i j)) (rI0 fun i j => .bl (g i j)) ta tb tc) ρ (.bl (f i j && g j k)) := ev_chain ha hb (o2_I0 fun _ => rfl) (fun _ => hc) fun _ => o2_I0 fun _ => rfl
theorem ev_andV (ha : EvD K φ J ta ρ (.bl b)) (hb : b = true → EvD K φ J tb ρ (.bl c)) : EvD K φ J (tAndV ta tb) ρ (.bl (b && c)) := fun σ H A Q q =>
  ha σ H A _ fun v x1 H1 b1 A1 e1 r1 => by
    subst e1
    refine ⟨b, r1, ?_⟩
    cases b with
    | false =>
      rw [if_neg (by simp)]
      exact q _ _ H1 b1 A1 rfl rfl
    | true =>
      rw [if_pos rfl]
      exact hb rfl σ H1 A1 Q fun w y H2 b2 A2 e2 r2 => q w y H2 (b1.trans b2) A2 e2 r2
theorem ev_orV (ha : EvD K φ J ta ρ (.bl b)) (hb : b = false → EvD K φ J tb ρ (.bl c)) : EvD K φ J (tOrV ta tb) ρ (.bl (b || c)) := fun σ H A Q q =>
  ha σ H A _ fun v x1 H1 b1 A1 e1 r1 => by
    subst e1
    refine ⟨b, r1, ?_⟩
    cases b with
    | true =>
      rw [if_pos rfl]
      exact q _ _ H1 b1 A1 rfl rfl
    | false =>
      rw [if_neg (by simp)]
      exact hb rfl σ H1 A1 Q fun w y H2 b2 A2 e2 r2 => q w y H2 (b1.trans b2) A2 e2 r2
theorem ev_notV (ha : EvD K φ J ta ρ (.bl b)) : EvD K φ J (tNotV ta) ρ (.bl (!b)) := fun σ H A Q q =>
  ha σ H A _ fun v x1 H1 b1 A1 e1 r1 => by
    subst e1
    exact ⟨b, r1, q _ _ H1 b1 A1 rfl rfl⟩
theorem ev_one (ha : EvP K φ J ta ρ P) : EvP K φ J ta ρ P := ha
theorem ev_if {tt : TT} {p : Bool → Prop} (hc : EvT K φ J tt ρ p) (h1 : p true → EvP K φ J ta ρ P) (h2 : p false → EvP K φ J tb ρ P) : EvP K φ J (tIf tt ta tb) ρ P := fun σ H A Q q =>
  hc σ H A _ fun k H1 b1 A1 pk => by
    cases k with
    | true =>
      rw [if_pos rfl]
      exact h1 pk σ H1 A1 Q fun w y H2 b2 A2 e2 r2 => q w y H2 (b1.trans b2) A2 e2 r2
    | false =>
      rw [if_neg (by simp)]
      exact h2 pk σ H1 A1 Q fun w y H2 b2 A2 e2 r2 => q w y H2 (b1.trans b2) A2 e2 r2

/-! ### tests -/
abbrev EvX (K : PySem.W.Frag) (φ : Addr → Prop) (J : Hp → Prop) (tt : TT) (ρ : List (Option D)) (b : Bool) : Prop := EvT K φ J tt ρ fun x => x = b
theorem EvT.imp {tt : TT} {p p' : Bool → Prop} (h : EvT K φ J tt ρ p) (k : ∀ b, p b → p' b) : EvT K φ J tt ρ p' := fun σ H A Q q => h σ H A Q fun b H' bt A' pb => q b H' bt A' (k b pb)
theorem EvT.is {tt : TT} {b c : Bool} (h : EvX K φ J tt ρ b) (e : b = c) : EvX K φ J tt ρ c := e ▸ h
theorem et_testP {p : Bool → Prop} (h : EvB K φ J te ρ p) : EvT K φ J (tTest te) ρ p := fun σ H A Q q => h σ H A _ fun v d H' bt A' ⟨b, e, pb⟩ r => by
  subst e
  exact ⟨b, r, q b H' bt A' pb⟩
theorem et_BP {p : Bool → Prop} (h : EvB K φ J te ρ p) : EvT K φ J (tB te) ρ p := et_testP h
theorem ev_b (h : EvD K φ J te ρ (.bl b)) : EvB K φ J te ρ (fun x => x = b) := h.imp fun d e => ⟨b, e, rfl⟩
theorem ev_i (h : EvD K φ J te ρ (.int i)) : EvI K φ J te ρ (fun x => x = i) := h.imp fun d e => ⟨i, e, rfl⟩
theorem et_test (h : EvD K φ J te ρ (.bl b)) : EvX K φ J (tTest te) ρ b := et_testP (ev_b h)
theorem et_B (h : EvD K φ J te ρ (.bl b)) : EvX K φ J (tB te) ρ b := et_BP (ev_b h)
theorem et_and {t1 t2 : TT} (ha : EvX K φ J t1 ρ b) (hb : b = true → EvX K φ J t2 ρ c) : EvX K φ J (tAnd t1 t2) ρ (b && c) := fun σ H A Q q => ha σ H A _ fun k H1 b1 A1 e1 => by
  subst e1
  cases k with
  | false =>
    rw [if_neg (by simp)]
    exact q _ H1 b1 A1 rfl
  | true =>
    rw [if_pos rfl]
    exact hb rfl σ H1 A1 Q fun k2 H2 b2 A2 e2 => q k2 H2 (b1.trans b2) A2 e2
theorem et_or {t1 t2 : TT} (ha : EvX K φ J t1 ρ b) (hb : b = false → EvX K φ J t2 ρ c) : EvX K φ J (tOr t1 t2) ρ (b || c) := fun σ H A Q q => ha σ H A _ fun k H1 b1 A1 e1 => by
  subst e1
  cases k with
  | true =>
    rw [if_pos rfl]
    exact q _ H1 b1 A1 rfl
  | false =>
    rw [if_neg (by simp)]
    exact hb rfl σ H1 A1 Q fun k2 H2 b2 A2 e2 => q k2 H2 (b1.trans b2) A2 e2
theorem et_not {t1 : TT} (ha : EvX K φ J t1 ρ b) : EvX K φ J (tNot t1) ρ (!b) := fun σ H A Q q => ha σ H A _ fun k H1 b1 A1 e1 => by
  subst e1
  exact q _ H1 b1 A1 rfl
theorem et_notP {t1 : TT} {p : Bool → Prop} (ha : EvT K φ J t1 ρ p) : EvT K φ J (tNot t1) ρ (fun x => p (!x)) := fun σ H A Q q => ha σ H A _ fun k H1 b1 A1 e1 => q _ H1 b1 A1 (by show p (!(!k)); rw [Bool.not_not]; exact e1)

/-! ### arguments, displays -/
abbrev EvAD (K : PySem.W.Frag) (φ : Addr → Prop) (J : Hp → Prop) (ta : TA) (ρ : List (Option D)) (ds : List D) : Prop := EvA K φ J ta ρ fun x => x = ds
theorem ea_nil : EvAD K φ J tNil ρ [] := fun σ H A Q q => q [] [] H (But.refl _ _) A rfl rfl
theorem ea_consP {tr : TA} {Pr : List D → Prop} (ha : EvP K φ J ta ρ P) (hr : EvA K φ J tr ρ Pr) : EvA K φ J (tCons ta tr) ρ (fun x => ∃ d r, x = d :: r ∧ P d ∧ Pr r) := fun σ H A Q q =>
  ha σ H A _ fun v x H1 b1 A1 px r1 => hr σ H1 A1 _ fun ws ys H2 b2 A2 py r2 => q (v :: ws) (x :: ys) H2 (b1.trans b2) A2 ⟨x, ys, rfl, px, py⟩ (Reps.cons (r1.mono b2) r2)
theorem ea_cons {tr : TA} (ha : EvD K φ J ta ρ x) (hr : EvAD K φ J tr ρ ds) : EvAD K φ J (tCons ta tr) ρ (x :: ds) := fun σ H A Q q =>
  ha σ H A _ fun v y H1 b1 A1 e1 r1 => hr σ H1 A1 _ fun ws ys H2 b2 A2 e2 r2 => q (v :: ws) (y :: ys) H2 (b1.trans b2) A2 (by rw [e1, e2]) (Reps.cons (r1.mono b2) r2)
theorem sz {n : Nat} (h : n ≤ 1000000) : n ≤ sizeLine := Nat.le_trans h (by decide)
theorem szlt {n : Nat} (h : n ≤ 1000000) : n < sizeLine := Nat.lt_of_le_of_lt h (by decide)
theorem ev_tupP {ta : TA} {Pr : List D → Prop} (ha : EvA K φ J ta ρ Pr) (hl : ∀ r, Pr r → r.length ≤ 1000000) : EvP K φ J (tTup ta) ρ (fun x => ∃ r, x = .tup r ∧ Pr r) := fun σ H A Q q =>
  ha σ H A _ fun vs ds H1 b1 A1 pd r1 => ⟨by rw [r1.length]; exact sz (hl _ pd), fun p hp =>
    q _ _ _ (b1.trans (But.of (same_new hp))) (A1.same (same_new hp)) ⟨ds, rfl, pd⟩ ⟨p, vs, rfl, .inl ⟨A1.fr p hp, .inl upd_same⟩, r1.mono (But.of (same_new hp))⟩⟩
theorem ev_lstP {ta : TA} {Pr : List D → Prop} (ha : EvA K φ J ta ρ Pr) (hl : ∀ r, Pr r → r.length ≤ 1000000) : EvP K φ J (tLst ta) ρ (fun x => ∃ r, x = .lst r ∧ Pr r) := fun σ H A Q q =>
  ha σ H A _ fun vs ds H1 b1 A1 pd r1 => ⟨by rw [r1.length]; exact sz (hl _ pd), fun p hp =>
    q _ _ _ (b1.trans (But.of (same_new hp))) (A1.same (same_new hp)) ⟨ds, rfl, pd⟩ ⟨p, vs, rfl, .inl ⟨A1.fr p hp, .inl upd_same⟩, r1.mono (But.of (same_new hp))⟩⟩
theorem ev_tup {ta : TA} (ha : EvAD K φ J ta ρ ds) (hl : ds.length ≤ 1000000 := by first | exact Nat.le_of_ble_eq_true rfl | decide) : EvD K φ J (tTup ta) ρ (.tup ds) := (ev_tupP ha fun r e => by rw [e]; exact hl).imp fun x ⟨r, e, e2⟩ => by rw [e, e2]
theorem ev_lst {ta : TA} (ha : EvAD K φ J ta ρ ds) (hl : ds.length ≤ 1000000 := by first | exact Nat.le_of_ble_eq_true rfl | decide) : EvD K φ J (tLst ta) ρ (.lst ds) := (ev_lstP ha fun r e => by rw [e]; exact hl).imp fun x ⟨r, e, e2⟩ => by rw [e, e2]

/-! ### subscripts -/
theorem Reps.atI {i : Int} (h : Reps K φ H ds vs) (e : L2.atI ds i = some d) : ∃ v, L2.atI vs i = some v ∧ Rep K φ H d v := by
  unfold L2.atI at e ⊢
  rw [h.length]
  cases hj : ixN ds.length i with
  | none => rw [hj] at e; cases e
  | some j =>
    rw [hj] at e
    exact h.get e
theorem rep_tup (h : Rep K φ H (.tup ds) v) : ∃ a vs, v = .ref a ∧ PT K φ H a vs ∧ Reps K φ H ds vs := h
theorem rep_lst (h : Rep K φ H (.lst ds) v) : ∃ a vs, v = .ref a ∧ PL K φ H a vs ∧ Reps K φ H ds vs := h
theorem o2_ixT (e : L2.atI ds i = some d) : Op2 K φ (rIxT K) (.tup ds) (.int i) (fun x => x = d) := fun H v w _ r1 r2 Q q => by
  obtain ⟨a, vs, rfl, p, r⟩ := rep_tup r1
  obtain ⟨u, e1, r3⟩ := r.atI e
  exact ⟨a, vs, i, u, rfl, r2, p.sq, e1, q u d H (Same.refl H) rfl r3⟩
theorem o2_ixL (e : L2.atI ds i = some d) : Op2 K φ (rIxL K) (.lst ds) (.int i) (fun x => x = d) := fun H v w _ r1 r2 Q q => by
  obtain ⟨a, vs, rfl, p, r⟩ := rep_lst r1
  obtain ⟨u, e1, r3⟩ := r.atI e
  exact ⟨a, vs, i, u, rfl, r2, p.sq, e1, q u d H (Same.refl H) rfl r3⟩
theorem ev_ixT (ha : EvD K φ J ta ρ (.tup ds)) (hb : EvD K φ J tb ρ (.int i)) (e : L2.atI ds i = some d) : EvD K φ J (tOp (rIxT K) ta tb) ρ d := ev_opD ha hb (o2_ixT e)
theorem ev_ixL (ha : EvD K φ J ta ρ (.lst ds)) (hb : EvD K φ J tb ρ (.int i)) (e : L2.atI ds i = some d) : EvD K φ J (tOp (rIxL K) ta tb) ρ d := ev_opD ha hb (o2_ixL e)
theorem ev_ixTP (ha : EvP K φ J ta ρ Pa) (hb : EvI K φ J tb ρ p) (e : ∀ x i, Pa x → p i → ∃ ds d, x = .tup ds ∧ L2.atI ds i = some d ∧ P d) : EvP K φ J (tOp (rIxT K) ta tb) ρ P := ev_op ha hb fun x y px ⟨i, e1, pi⟩ => by
  obtain ⟨ds, d, e2, e3, pd⟩ := e x i px pi
  subst e1 e2
  exact fun H v w f r1 r2 Q q => o2_ixT e3 H v w f r1 r2 Q fun u z H' s ez r => q u z H' s (ez ▸ pd) r
theorem ev_ixLP (ha : EvP K φ J ta ρ Pa) (hb : EvI K φ J tb ρ p) (e : ∀ x i, Pa x → p i → ∃ ds d, x = .lst ds ∧ L2.atI ds i = some d ∧ P d) : EvP K φ J (tOp (rIxL K) ta tb) ρ P := ev_op ha hb fun x y px ⟨i, e1, pi⟩ => by
  obtain ⟨ds, d, e2, e3, pd⟩ := e x i px pi
  subst e1 e2
  exact fun H v w f r1 r2 Q q => o2_ixL e3 H v w f r1 r2 Q fun u z H' s ez r => q u z H' s (ez ▸ pd) r

/-! ### slices -/
def cutD {α : Type} (xs : List α) (lo hi : Option Int) : List α := (xs.drop (HT.sIx xs.length 0 lo)).take (HT.sIx xs.length xs.length hi - HT.sIx xs.length 0 lo)
theorem Reps.cut (h : Reps K φ H ds vs) (lo hi : Option Int) : Reps K φ H (cutD ds lo hi) (cutV vs lo hi) := by
  unfold cutD cutV
  rw [h.length]
  exact (h.drop _).take _
theorem cutD_length {α : Type} (xs : List α) (lo hi : Option Int) : (cutD xs lo hi).length ≤ xs.length := by
  unfold cutD
  rw [List.length_take, List.length_drop]
  omega
theorem eo_none : EvO K φ J tNoPart ρ none := fun σ H A Q q => q H (But.refl _ _) A
theorem eo_some (h : EvD K φ J te ρ (.int i)) : EvO K φ J (tPart te) ρ (some i) := fun σ H A Q q => h σ H A _ fun v d H' bt A' e r => by
  subst e
  exact ⟨i, r, q H' bt A'⟩
theorem ev_slL {tl th : TO} {lo hi : Option Int} (ha : EvD K φ J te ρ (.lst ds)) (hl : EvO K φ J tl ρ lo) (hh : EvO K φ J th ρ hi) : EvD K φ J (tSl (rSlL K) te tl th) ρ (.lst (cutD ds lo hi)) := fun σ H A Q q =>
  ha σ H A _ fun v x H1 b1 A1 e1 r1 => hl σ H1 A1 _ fun H2 b2 A2 => hh σ H2 A2 _ fun H3 b3 A3 => by
    subst e1
    obtain ⟨a, vs, rfl, pl, rs⟩ := rep_lst ((r1.mono b2).mono b3)
    exact ⟨a, vs, rfl, pl.sq, fun p hp => q _ _ _ (((b1.trans b2).trans b3).trans (But.of (same_new hp))) (A3.same (same_new hp)) rfl ⟨p, _, rfl, .inl ⟨A3.fr p hp, .inl upd_same⟩, (rs.mono (But.of (same_new hp))).cut lo hi⟩⟩
theorem take_all {α : Type} {xs : List α} {lo hi : Option Int} (h : HT.sIx xs.length 0 lo = 0 ∧ HT.sIx xs.length xs.length hi = xs.length) : cutD xs lo hi = xs := by
  unfold cutD
  rw [h.1, h.2, List.drop_zero, Nat.sub_zero, List.take_length]
theorem ev_slT {tl th : TO} {lo hi : Option Int} (ha : EvD K φ J te ρ (.tup ds)) (hl : EvO K φ J tl ρ lo) (hh : EvO K φ J th ρ hi) : EvD K φ J (tSl (rSlA K) te tl th) ρ (.tup (cutD ds lo hi)) := fun σ H A Q q =>
  ha σ H A _ fun v x H1 b1 A1 e1 r1 => hl σ H1 A1 _ fun H2 b2 A2 => hh σ H2 A2 _ fun H3 b3 A3 => by
    subst e1
    obtain ⟨a, vs, rfl, pl, rs⟩ := rep_tup ((r1.mono b2).mono b3)
    refine ⟨a, vs, rfl, pl.sq, fun hw => ?_, fun _ p hp => q _ _ _ (((b1.trans b2).trans b3).trans (But.of (same_new hp))) (A3.same (same_new hp)) rfl ⟨p, _, rfl, .inl ⟨A3.fr p hp, .inl upd_same⟩, (rs.mono (But.of (same_new hp))).cut lo hi⟩⟩
    rw [rs.length] at hw
    exact q _ _ _ ((b1.trans b2).trans b3) A3 rfl ⟨a, vs, rfl, pl, by rw [take_all hw]; exact rs⟩

/-! ### tuple + tuple, list + list -/
theorem o2_catT {es : List D} (hz : ds.length + es.length ≤ 1000000) : Op2 K φ (rCatA K) (.tup ds) (.tup es) (fun x => x = .tup (ds ++ es)) := fun H v w f r1 r2 Q q => by
  obtain ⟨a, vs, rfl, pa, ra⟩ := rep_tup r1
  obtain ⟨b, ws, rfl, pb, rb⟩ := rep_tup r2
  refine ⟨a, b, vs, ws, rfl, rfl, pa.sq, pb.sq, by rw [ra.length, rb.length]; exact sz hz, fun e => ?_, fun _ e => ?_, fun _ _ p hp => ?_⟩
  · subst e
    have e0 : ds = [] := List.eq_nil_of_length_eq_zero ra.length.symm
    subst e0
    exact q _ _ H (Same.refl H) rfl ⟨b, ws, rfl, pb, rb⟩
  · subst e
    have e0 : es = [] := List.eq_nil_of_length_eq_zero rb.length.symm
    subst e0
    exact q _ _ H (Same.refl H) rfl ⟨a, vs, rfl, pa, by rw [List.append_nil]; exact ra⟩
  · exact q _ _ _ (same_new hp) rfl ⟨p, _, rfl, .inl ⟨f p hp, .inl upd_same⟩, (ra.append rb).mono (But.of (same_new hp))⟩
theorem ev_catT (ha : EvD K φ J ta ρ (.tup ds)) (hb : EvD K φ J tb ρ (.tup es)) (hz : ds.length + es.length ≤ 1000000) : EvD K φ J (tOp (rCatA K) ta tb) ρ (.tup (ds ++ es)) := ev_opD ha hb (o2_catT hz)

/-! ### calls of built-ins -/
theorem ev_cb {ta : TA} {r : List V → Hp → VK → Prop} {Pr : List D → Prop} (ha : EvA K φ J ta ρ Pr) (hr : ∀ ds, Pr ds → Cl K φ r ds P) : EvP K φ J (tCB r ta) ρ P := fun σ H A Q q =>
  ha σ H A _ fun vs ds H1 b1 A1 pd r1 => hr ds pd H1 vs A1.fr r1 Q fun u z H2 s pz r2 => q u z H2 (b1.trans (But.of s)) (A1.same s) pz r2
theorem ev_cbD {ta : TA} {r : List V → Hp → VK → Prop} (ha : EvAD K φ J ta ρ ds) (hr : Cl K φ r ds P) : EvP K φ J (tCB r ta) ρ P := ev_cb ha fun ds' e => e ▸ hr
theorem Reps.one (h : Reps K φ H [d] vs) : ∃ v, vs = [v] ∧ Rep K φ H d v := by
  obtain ⟨v, r, rfl, h1, h2⟩ := (show ∃ v r, vs = v :: r ∧ Rep K φ H d v ∧ Reps K φ H [] r from h)
  have e : r = [] := h2
  subst e
  exact ⟨v, rfl, h1⟩
theorem Reps.two (h : Reps K φ H [d, x] vs) : ∃ v w, vs = [v, w] ∧ Rep K φ H d v ∧ Rep K φ H x w := by
  obtain ⟨v, r, rfl, h1, h2⟩ := (show ∃ v r, vs = v :: r ∧ Rep K φ H d v ∧ Reps K φ H [x] r from h)
  obtain ⟨w, rfl, h3⟩ := h2.one
  exact ⟨v, w, rfl, h1, h3⟩
def rLen (K : PySem.W.Frag) : List V → Hp → VK → Prop := fun xs H Q => ∃ p ys, xs = [.ref p] ∧ (SqL K H p ys ∨ SqT K H p ys) ∧ Q (.int ys.length) H
theorem c_len {X : Cx} : CallR X (.builtin "len") (rLen X.K) := call_len_seq
theorem cl_lenL : Cl K φ (rLen K) [.lst ds] (fun x => x = .int ds.length) := fun H vs f r Q q => by
  obtain ⟨v, rfl, r1⟩ := r.one
  obtain ⟨a, vs, rfl, p, rs⟩ := rep_lst r1
  exact ⟨a, vs, rfl, .inl p.sq, q _ _ H (Same.refl H) rfl (by rw [rs.length]; rfl)⟩
theorem cl_lenT : Cl K φ (rLen K) [.tup ds] (fun x => x = .int ds.length) := fun H vs f r Q q => by
  obtain ⟨v, rfl, r1⟩ := r.one
  obtain ⟨a, vs, rfl, p, rs⟩ := rep_tup r1
  exact ⟨a, vs, rfl, .inr p.sq, q _ _ H (Same.refl H) rfl (by rw [rs.length]; rfl)⟩
theorem ev_lenL (ha : EvD K φ J te ρ (.lst ds)) : EvD K φ J (tCB (rLen K) (tCons te tNil)) ρ (.int ds.length) := ev_cbD (ea_cons ha ea_nil) cl_lenL
theorem ev_lenT (ha : EvD K φ J te ρ (.tup ds)) : EvD K φ J (tCB (rLen K) (tCons te tNil)) ρ (.int ds.length) := ev_cbD (ea_cons ha ea_nil) cl_lenT
def rLenS : List V → Hp → VK → Prop := fun xs H Q => ∃ z, xs = [.str z] ∧ z.length ≤ sizeLine ∧ Q (.int z.length) H
theorem c_lenS {X : Cx} : CallR X (.builtin "len") rLenS := call_len_str
theorem ev_lenS (ha : EvD K φ J te ρ (.str s)) (hz : s.length ≤ 1000000) : EvD K φ J (tCB rLenS (tCons te tNil)) ρ (.int s.length) := ev_cbD (ea_cons ha ea_nil) fun H vs f r Q q => by
  obtain ⟨v, rfl, r1⟩ := r.one
  cases (show v = _ from r1)
  exact ⟨s, rfl, sz hz, q _ _ H (Same.refl H) rfl rfl⟩
def rInt1 : List V → Hp → VK → Prop := fun xs H Q => (∃ i, xs = [.int i] ∧ Q (.int i) H) ∨ ∃ k, xs = [.bl k] ∧ Q (.int (if k then 1 else 0)) H
theorem c_int1 {X : Cx} : CallR X (.type "int") rInt1 := call_int1
theorem cl_intI : Cl K φ rInt1 [.int i] (fun x => x = .int i) := fun H vs f r Q q => by
  obtain ⟨v, rfl, r1⟩ := r.one
  cases (show v = _ from r1)
  exact .inl ⟨i, rfl, q _ _ H (Same.refl H) rfl rfl⟩
theorem cl_intB : Cl K φ rInt1 [.bl b] (fun x => x = .int (if b then 1 else 0)) := fun H vs f r Q q => by
  obtain ⟨v, rfl, r1⟩ := r.one
  cases (show v = _ from r1)
  exact .inr ⟨b, rfl, q _ _ H (Same.refl H) rfl rfl⟩
theorem ev_intI (ha : EvD K φ J te ρ (.int i)) : EvD K φ J (tCB rInt1 (tCons te tNil)) ρ (.int i) := ev_cbD (ea_cons ha ea_nil) cl_intI
theorem ev_intB (ha : EvD K φ J te ρ (.bl b)) : EvD K φ J (tCB rInt1 (tCons te tNil)) ρ (.int (if b then 1 else 0)) := ev_cbD (ea_cons ha ea_nil) cl_intB
def rStrI : List V → Hp → VK → Prop := fun xs H Q => ∃ i, xs = [.int i] ∧ i.natAbs.log2 < 1920 ∧ Q (.str (toString i)) H
theorem c_strI {X : Cx} : CallR X (.type "str") rStrI := call_str_int
theorem ev_strI (ha : EvD K φ J te ρ (.int i)) (hz : i.natAbs.log2 < 1920) : EvD K φ J (tCB rStrI (tCons te tNil)) ρ (.str (toString i)) := ev_cbD (ea_cons ha ea_nil) fun H vs f r Q q => by
  obtain ⟨v, rfl, r1⟩ := r.one
  cases (show v = _ from r1)
  exact ⟨i, rfl, hz, q _ _ H (Same.refl H) rfl rfl⟩
def rListOf (K : PySem.W.Frag) : List V → Hp → VK → Prop := fun xs H Q => ∃ p ys, xs = [.ref p] ∧ (SqL K H p ys ∨ SqT K H p ys) ∧ ∀ l, H l = none → Q (.ref l) (upd H l (.lst ys))
theorem c_listOf {X : Cx} : CallR X (.type "list") (rListOf X.K) := call_list_of
theorem ev_listL (ha : EvD K φ J te ρ (.lst ds)) : EvD K φ J (tCB (rListOf K) (tCons te tNil)) ρ (.lst ds) := ev_cbD (ea_cons ha ea_nil) fun H vs f r Q q => by
  obtain ⟨v, rfl, r1⟩ := r.one
  obtain ⟨a, vs, rfl, p, rs⟩ := rep_lst r1
  exact ⟨a, vs, rfl, .inl p.sq, fun l hl => q _ _ _ (same_new hl) rfl ⟨l, vs, rfl, .inl ⟨f l hl, .inl upd_same⟩, rs.mono (But.of (same_new hl))⟩⟩
theorem ev_listT (ha : EvD K φ J te ρ (.tup ds)) : EvD K φ J (tCB (rListOf K) (tCons te tNil)) ρ (.lst ds) := ev_cbD (ea_cons ha ea_nil) fun H vs f r Q q => by
  obtain ⟨v, rfl, r1⟩ := r.one
  obtain ⟨a, vs, rfl, p, rs⟩ := rep_tup r1
  exact ⟨a, vs, rfl, .inr p.sq, fun l hl => q _ _ _ (same_new hl) rfl ⟨l, vs, rfl, .inl ⟨f l hl, .inl upd_same⟩, rs.mono (But.of (same_new hl))⟩⟩
def rTupOf (K : PySem.W.Frag) : List V → Hp → VK → Prop := fun xs H Q => ∃ p ys, xs = [.ref p] ∧ ((SqL K H p ys ∧ ∀ l, H l = none → Q (.ref l) (upd H l (.tup ys))) ∨ (SqT K H p ys ∧ Q (.ref p) H))
theorem c_tupOf {X : Cx} : CallR X (.type "tuple") (rTupOf X.K) := call_tuple_of
theorem cl_tupL : Cl K φ (rTupOf K) [.lst ds] (fun x => x = .tup ds) := fun H vs f r Q q => by
  obtain ⟨v, rfl, r1⟩ := r.one
  obtain ⟨a, vs, rfl, p, rs⟩ := rep_lst r1
  exact ⟨a, vs, rfl, .inl ⟨p.sq, fun l hl => q _ _ _ (same_new hl) rfl ⟨l, vs, rfl, .inl ⟨f l hl, .inl upd_same⟩, rs.mono (But.of (same_new hl))⟩⟩⟩
theorem ev_tupL (ha : EvD K φ J te ρ (.lst ds)) : EvD K φ J (tCB (rTupOf K) (tCons te tNil)) ρ (.tup ds) := ev_cbD (ea_cons ha ea_nil) cl_tupL
theorem ev_tupT (ha : EvD K φ J te ρ (.tup ds)) : EvD K φ J (tCB (rTupOf K) (tCons te tNil)) ρ (.tup ds) := ev_cbD (ea_cons ha ea_nil) fun H vs f r Q q => by
  obtain ⟨v, rfl, r1⟩ := r.one
  obtain ⟨a, vs, rfl, p, rs⟩ := rep_tup r1
  exact ⟨a, vs, rfl, .inr ⟨p.sq, q _ _ H (Same.refl H) rfl ⟨a, vs, rfl, p, rs⟩⟩⟩
def rAbs : List V → Hp → VK → Prop := fun xs H Q => ∃ i, xs = [.int i] ∧ Q (.int (if i < 0 then -i else i)) H
theorem c_abs {X : Cx} : CallR X (.builtin "abs") rAbs := call_abs
theorem abs_if (i : Int) : (if i < 0 then -i else i) = (i.natAbs : Int) := by split <;> omega
theorem ev_abs (ha : EvD K φ J te ρ (.int i)) : EvD K φ J (tCB rAbs (tCons te tNil)) ρ (.int (i.natAbs : Int)) := ev_cbD (ea_cons ha ea_nil) fun H vs f r Q q => by
  obtain ⟨v, rfl, r1⟩ := r.one
  cases (show v = _ from r1)
  exact ⟨i, rfl, q _ _ H (Same.refl H) rfl (by rw [abs_if]; rfl)⟩
def rMax2 : List V → Hp → VK → Prop := fun xs H Q => ∃ i j, xs = [.int i, .int j] ∧ Q (.int (if j > i then j else i)) H
def rMin2 : List V → Hp → VK → Prop := fun xs H Q => ∃ i j, xs = [.int i, .int j] ∧ Q (.int (if j < i then j else i)) H
theorem c_max2 {X : Cx} (hc : X.calm = true := by rfl) : CallR X (.builtin "max") rMax2 := call_max2 hc
theorem c_min2 {X : Cx} (hc : X.calm = true := by rfl) : CallR X (.builtin "min") rMin2 := call_min2 hc
theorem max_if (i j : Int) : (if j > i then j else i) = max i j := by split <;> omega
theorem min_if (i j : Int) : (if j < i then j else i) = min i j := by split <;> omega
theorem ev_max2 (ha : EvD K φ J ta ρ (.int i)) (hb : EvD K φ J tb ρ (.int j)) : EvD K φ J (tCB rMax2 (tCons ta (tCons tb tNil))) ρ (.int (max i j)) := ev_cbD (ea_cons ha (ea_cons hb ea_nil)) fun H vs f r Q q => by
  obtain ⟨v, w, rfl, r1, r2⟩ := r.two
  cases (show v = _ from r1)
  cases (show w = _ from r2)
  exact ⟨i, j, rfl, q _ _ H (Same.refl H) rfl (by rw [max_if]; rfl)⟩
theorem ev_min2 (ha : EvD K φ J ta ρ (.int i)) (hb : EvD K φ J tb ρ (.int j)) : EvD K φ J (tCB rMin2 (tCons ta (tCons tb tNil))) ρ (.int (min i j)) := ev_cbD (ea_cons ha (ea_cons hb ea_nil)) fun H vs f r Q q => by
  obtain ⟨v, w, rfl, r1, r2⟩ := r.two
  cases (show v = _ from r1)
  cases (show w = _ from r2)
  exact ⟨i, j, rfl, q _ _ H (Same.refl H) rfl (by rw [min_if]; rfl)⟩
theorem rep_ints {ns : List Int} (h : Rep K φ H (.lst (ns.map D.int)) v) : ∃ a, v = .ref a ∧ SqL K H a (ns.map V.int) := by
  obtain ⟨a, vs, rfl, p, r⟩ := rep_lst h
  exact ⟨a, rfl, r.ints ▸ p.sq⟩
theorem c_sum {X : Cx} (hc : X.calm = true := by rfl) : CallR X (.builtin "sum") (rSum X.K) := cr_sum hc
theorem ev_sum {ns : List Int} (ha : EvD K φ J te ρ (.lst (ns.map D.int))) : EvD K φ J (tCB (rSum K) (tCons te tNil)) ρ (.int ns.sum) := ev_cbD (ea_cons ha ea_nil) fun H vs f r Q q => by
  obtain ⟨v, rfl, r1⟩ := r.one
  obtain ⟨a, rfl, h⟩ := rep_ints r1
  exact ⟨a, ns, rfl, h, q _ _ H (Same.refl H) rfl rfl⟩
def rGcd1 : List V → Hp → VK → Prop := rGcd
theorem ev_gcd (ha : EvD K φ J ta ρ (.int i)) (hb : EvD K φ J tb ρ (.int j)) : EvD K φ J (tCB rGcd (tCons ta (tCons tb tNil))) ρ (.int ((Nat.gcd i.natAbs j.natAbs : Nat) : Int)) := ev_cbD (ea_cons ha (ea_cons hb ea_nil)) fun H vs f r Q q => by
  obtain ⟨v, w, rfl, r1, r2⟩ := r.two
  cases (show v = _ from r1)
  cases (show w = _ from r2)
  exact ⟨i, j, rfl, q _ _ H (Same.refl H) rfl rfl⟩

/-! ### isinstance -/
def tyD : D → String
  | .non => "NoneType"
  | .bl _ => "bool"
  | .int _ => "int"
  | .str _ => "str"
  | .tup _ => "tuple"
  | .lst _ => "list"
  | .raw _ => "?"
  | .dk _ _ => "dict"
  | .dt _ _ => "dict"
def isRaw : D → Bool
  | .raw _ => true
  | _ => false
theorem tyx_rep : ∀ {d : D}, Rep K φ H d v → isRaw d = false → TyX K H v (.type (tyD d))
  | .non, h, _ => by cases (show v = _ from h); exact .base .non
  | .bl b, h, _ => by cases (show v = _ from h); exact .base (.bl b)
  | .int b, h, _ => by cases (show v = _ from h); exact .base (.int b)
  | .str b, h, _ => by cases (show v = _ from h); exact .base (.str b)
  | .raw w, _, e => by cases e
  | .tup ds, h, _ => by
    obtain ⟨a, vs, rfl, p, _⟩ := rep_tup h
    exact .base (.tup p.at.2)
  | .dk ks ds, h, _ => by
    obtain ⟨a, vs, rfl, ⟨_, e, _⟩, _⟩ := (show ∃ a vs, v = .ref a ∧ (φ a ∧ H a = some (.dK (ks.zip vs)) ∧ ks.length = ds.length) ∧ Reps K φ H ds vs from h)
    exact .base (.dK e)
  | .dt ks ds, h, _ => by
    obtain ⟨a, vs, rfl, ⟨_, e, _⟩, _⟩ := (show ∃ a vs, v = .ref a ∧ (φ a ∧ H a = some (.dT (ks.zip vs)) ∧ ks.length = ds.length) ∧ Reps K φ H ds vs from h)
    exact .base (.dT e)
  | .lst ds, h, _ => by
    obtain ⟨a, vs, rfl, p, _⟩ := rep_lst h
    rcases p with ⟨_, p⟩ | ⟨o, its, n, hk, hc, _⟩
    · rcases p with p | ⟨o, p⟩
      · exact .base (.lst p)
      · exact .base (.frz p)
    · exact .kList hk hc
def isT (n : String) (d : D) : Bool := tyD d == n || (n == "int" && tyD d == "bool")
theorem kit_tab : ∀ t ∈ (["NoneType", "bool", "int", "str", "tuple", "list", "dict"] : List String), ∀ n ∈ (["tuple", "list", "bool", "int", "str", "dict"] : List String), kitB t n = some (t == n || (n == "int" && t == "bool")) := by decide +kernel
theorem ty_mem {d : D} (h : isRaw d = false) : tyD d ∈ (["NoneType", "bool", "int", "str", "tuple", "list", "dict"] : List String) := by
  cases d <;> first | (cases h; done) | simp [tyD]
theorem kit_all {d : D} {n : String} (hn : n ∈ (["tuple", "list", "bool", "int", "str", "dict"] : List String)) (h : isRaw d = false) : kitB (tyD d) n = some (isT n d) := kit_tab _ (ty_mem h) n hn
theorem ev_isi {n : String} (ha : EvD K φ J ta ρ x) (hb : EvD K φ J tb ρ (.raw (.ty n))) (hx : isRaw x = false) (hn : n ∈ (["tuple", "list", "bool", "int", "str", "dict"] : List String) := by simp) : EvD K φ J (tCB (rIsi K) (tCons ta (tCons tb tNil))) ρ (.bl (isT n x)) := ev_cbD (ea_cons ha (ea_cons hb ea_nil)) fun H vs f r Q q => by
  obtain ⟨v, w, rfl, r1, r2⟩ := r.two
  cases (show w = _ from r2)
  exact ⟨v, _, _, _, _, rfl, .ty n, tyx_rep r1 hx, kit_ty (kit_all hn hx), q _ _ H (Same.refl H) rfl rfl⟩
end
end DL
namespace DL
open PySem PySem.Spec PyProof.Rows L2

/-! ### the pool of draws -/
def PoolOk (p s : Addr) (ns : List Int) (H : Hp) : Prop := ∃ at_ cur cnt salt : Int, H p = some (.lst [.ref s, .int at_, .int cur, .int cnt, .int salt]) ∧ H s = some (.lst (ns.map V.int)) ∧ 0 ≤ at_
def ButP (p : Addr) (H H' : Hp) : Prop := ∀ a o, a ≠ p → H a = some o → H' a = some o
structure Pooled (φ : Addr → Prop) (J : Hp → Prop) (p s : Addr) (ns : List Int) : Prop where
  np : ¬ φ p
  ne : s ≠ p
  ok : ∀ H, J H → PoolOk p s ns H
  st : ∀ H H', J H → ButP p H H' → PoolOk p s ns H' → J H'
structure Ext (φ : Addr → Prop) (J : Hp → Prop) (φ' : Addr → Prop) (J' : Hp → Prop) : Prop where
  imp : ∀ H, J' H → J H
  pool : ∀ p s ns, Pooled φ J p s ns → Pooled φ' J' p s ns
  keep : ∀ a, φ a → (∀ H, J H → H a ≠ none) → φ' a
theorem Ext.refl {φ : Addr → Prop} {J : Hp → Prop} : Ext φ J φ J := ⟨fun _ h => h, fun _ _ _ h => h, fun _ p _ => p⟩
theorem Ext.trans {φ φ1 φ2 : Addr → Prop} {J J1 J2 : Hp → Prop} (a : Ext φ J φ1 J1) (b : Ext φ1 J1 φ2 J2) : Ext φ J φ2 J2 := ⟨fun H h => a.imp H (b.imp H h), fun p s ns h => b.pool p s ns (a.pool p s ns h), fun x p h => b.keep x (a.keep x p h) fun H j => h H (a.imp H j)⟩

/-! ### walks -/
def Walks (K : PySem.W.Frag) (φ : Addr → Prop) (J0 : It) (H : Hp) (ds : List D) : Prop := ∀ (φ' : Addr → Prop) (i : Nat) (H1 : Hp), Up φ φ' H H1 → Frm φ' H1 →
  (∀ d, ds[i]? = some d → J0.go i H1 ∧ ∀ x H2, J0.yld i H1 x H2 → Same H1 H2 ∧ Rep K φ' H2 d x) ∧ (i = ds.length → J0.stop i H1)
def IterP (K : PySem.W.Frag) (φ : Addr → Prop) (J : Hp → Prop) (wi : TI) (ρ : List (Option D)) (P : List D → Prop) : Prop := ∀ σ H, At K φ J ρ σ H → ∀ R : It → Hp → Prop, (∀ J0 ds H', But φ H H' → At K φ J ρ σ H' → P ds → Walks K φ J0 H' ds → R J0 H') → wi σ H R
abbrev IterD (K : PySem.W.Frag) (φ : Addr → Prop) (J : Hp → Prop) (wi : TI) (ρ : List (Option D)) (ds : List D) : Prop := IterP K φ J wi ρ fun x => x = ds
section
variable {K : PySem.W.Frag} {φ φ' : Addr → Prop} {J J' : Hp → Prop} {H H' H1 : Hp} {ρ ρ' : List (Option D)} {σ : L2.St} {ta tb te tc : TE} {x y z d : D} {P Pa Pb Pc : D → Prop} {i j : Int} {b c : Bool} {s t : Str} {ds es : List D} {v : V} {vs : List V} {a : Addr}
theorem IterP.imp {wi : TI} {P P' : List D → Prop} (h : IterP K φ J wi ρ P) (k : ∀ ds, P ds → P' ds) : IterP K φ J wi ρ P' := fun σ H A R q => h σ H A R fun J0 ds H' bt A' pd w => q J0 ds H' bt A' (k ds pd) w
theorem walks_list (p : PL K φ H a vs) (r : Reps K φ H ds vs) : Walks K φ (Itl K a) H ds := fun φ' i H1 u f => by
  have p1 := p.up u
  have r1 := Reps.up u ds vs r
  refine ⟨fun d hd => ?_, fun hi => ⟨vs, p1.sq, by rw [r1.length]; exact Nat.le_of_eq hi.symm⟩⟩
  obtain ⟨w, e, rw'⟩ := r1.get hd
  refine ⟨⟨vs, w, p1.sq, e⟩, fun x H2 hy => ?_⟩
  obtain ⟨rfl, hx⟩ := hy
  have e2 := hx vs p1.sq
  rw [e] at e2
  cases e2
  exact ⟨Same.refl _, rw'⟩
theorem walks_tup (p : PT K φ H a vs) (r : Reps K φ H ds vs) : Walks K φ (Itt K a) H ds := fun φ' i H1 u f => by
  have p1 := p.up u
  have r1 := Reps.up u ds vs r
  refine ⟨fun d hd => ?_, fun hi => ⟨vs, p1.sq, by rw [r1.length]; exact Nat.le_of_eq hi.symm⟩⟩
  obtain ⟨w, e, rw'⟩ := r1.get hd
  refine ⟨⟨vs, w, p1.sq, e⟩, fun x H2 hy => ?_⟩
  obtain ⟨rfl, hx⟩ := hy
  have e2 := hx vs p1.sq
  rw [e] at e2
  cases e2
  exact ⟨Same.refl _, rw'⟩
theorem it_list (h : EvD K φ J te ρ (.lst ds)) : IterD K φ J (iList K te) ρ ds := fun σ H A R q => h σ H A _ fun v d H1 b1 A1 e r => by
  subst e
  obtain ⟨a, vs, rfl, p, rs⟩ := rep_lst r
  exact ⟨a, rfl, ⟨vs, p.sq⟩, q _ ds H1 b1 A1 rfl (walks_list p rs)⟩
theorem it_listP {P : List D → Prop} (h : EvP K φ J te ρ (fun z => ∃ ds, z = .lst ds ∧ P ds)) : IterP K φ J (iList K te) ρ P := fun σ H A R q => h σ H A _ fun v d H1 b1 A1 ⟨ds, e, pd⟩ r => by
  subst e
  obtain ⟨a, vs, rfl, p, rs⟩ := rep_lst r
  exact ⟨a, rfl, ⟨vs, p.sq⟩, q _ ds H1 b1 A1 pd (walks_list p rs)⟩
theorem it_tup (h : EvD K φ J te ρ (.tup ds)) : IterD K φ J (iTup K te) ρ ds := fun σ H A R q => h σ H A _ fun v d H1 b1 A1 e r => by
  subst e
  obtain ⟨a, vs, rfl, p, rs⟩ := rep_tup r
  exact ⟨a, rfl, ⟨vs, p.sq⟩, q _ ds H1 b1 A1 rfl (walks_tup p rs)⟩
def rangeD (lo : Int) (n : Nat) : List D := (List.range n).map fun i => .int (lo + (i : Nat))
theorem rangeD_length {lo : Int} {n : Nat} : (rangeD lo n).length = n := by unfold rangeD; rw [List.length_map, List.length_range]
theorem rangeD_get {lo : Int} {n i : Nat} : (rangeD lo n)[i]? = if i < n then some (.int (lo + i)) else none := by
  unfold rangeD
  rw [List.getElem?_map]
  by_cases h : i < n
  · rw [List.getElem?_range h, if_pos h]
    rfl
  · rw [if_neg h, List.getElem?_eq_none (by rw [List.length_range]; omega)]
    rfl
theorem walks_range {lo : Int} {n : Nat} : Walks K φ (Itr lo n) H (rangeD lo n) := fun φ' i H1 u f => by
  refine ⟨fun d hd => ?_, fun hi => by rw [rangeD_length] at hi; exact Nat.le_of_eq hi.symm⟩
  rw [rangeD_get] at hd
  by_cases h : i < n
  · rw [if_pos h] at hd
    cases hd
    refine ⟨h, fun x H2 hy => ?_⟩
    obtain ⟨rfl, rfl⟩ := hy
    exact ⟨Same.refl _, rfl⟩
  · rw [if_neg h] at hd
    cases hd
theorem it_range1P {ta : TA} {p : Int → Prop} (h : EvA K φ J ta ρ (fun x => ∃ n, x = [.int n] ∧ p n)) (hn : ∀ n, p n → -(2 ^ 62) ≤ n ∧ n < 2 ^ 62) : IterP K φ J (iRng1 ta) ρ (fun x => ∃ n, p n ∧ x = rangeD 0 n.toNat) := fun σ H A R q => h σ H A _ fun vs ds H1 b1 A1 ⟨n, e, pn⟩ r => by
  subst e
  obtain ⟨v, rfl, r1⟩ := r.one
  cases (show v = _ from r1)
  exact ⟨n, rfl, (hn n pn).1, (hn n pn).2, q _ _ H1 b1 A1 ⟨n, pn, rfl⟩ walks_range⟩
theorem it_range1 {ta : TA} {n : Int} (h : EvAD K φ J ta ρ [.int n]) (hn : -(2 ^ 62) ≤ n ∧ n < 2 ^ 62) : IterD K φ J (iRng1 ta) ρ (rangeD 0 n.toNat) := fun σ H A R q => h σ H A _ fun vs ds H1 b1 A1 e r => by
  subst e
  obtain ⟨v, rfl, r1⟩ := r.one
  cases (show v = _ from r1)
  exact ⟨n, rfl, hn.1, hn.2, q _ _ H1 b1 A1 rfl walks_range⟩
theorem it_range2 {ta : TA} {m n : Int} (h : EvAD K φ J ta ρ [.int m, .int n]) (hn : (-(2 ^ 62) ≤ m ∧ m < 2 ^ 62) ∧ -(2 ^ 62) ≤ n ∧ n < 2 ^ 62) : IterD K φ J (iRng2 ta) ρ (rangeD m (n - m).toNat) := fun σ H A R q => h σ H A _ fun vs ds H1 b1 A1 e r => by
  subst e
  obtain ⟨v, w, rfl, r1, r2⟩ := r.two
  cases (show v = _ from r1)
  cases (show w = _ from r2)
  exact ⟨m, n, rfl, ⟨hn.1.1, hn.1.2, hn.2.1, hn.2.2⟩, q _ _ H1 b1 A1 rfl walks_range⟩
def enumD (k : Int) (ds : List D) : List D := ds.mapIdx fun i d => .tup [.int (k + (i : Nat)), d]
theorem enumD_length {k : Int} : (enumD k ds).length = ds.length := List.length_mapIdx
theorem enumD_get {k : Int} {i : Nat} : (enumD k ds)[i]? = (ds[i]?).map fun d => .tup [.int (k + (i : Nat)), d] := List.getElem?_mapIdx
theorem rep_pair {H : Hp} {T : Addr} {x1 x2 : V} {d1 d2 : D} (f : φ T) (h : H T = some (.tup [x1, x2])) (r1 : Rep K φ H d1 x1) (r2 : Rep K φ H d2 x2) : Rep K φ H (.tup [d1, d2]) (.ref T) := ⟨T, _, rfl, .inl ⟨f, .inl h⟩, Reps.cons r1 (Reps.cons r2 Reps.nil)⟩
theorem it_enum {ta : TA} (h : EvAD K φ J ta ρ [.lst ds]) : IterD K φ J (iEnum K ta) ρ (enumD 0 ds) := fun σ H A R q => h σ H A _ fun vs es H1 b1 A1 e r => by
  subst e
  obtain ⟨v, rfl, r1⟩ := r.one
  obtain ⟨a, vs, rfl, p, rs⟩ := rep_lst r1
  refine ⟨a, vs, rfl, p.sq, q _ _ H1 b1 A1 rfl fun φ' i H2 u f => ?_⟩
  have p1 := p.up u
  have r1 := Reps.up u ds vs rs
  refine ⟨fun d hd => ?_, fun hi => ⟨vs, p1.sq, by rw [r1.length]; rw [enumD_length] at hi; exact Nat.le_of_eq hi.symm⟩⟩
  rw [enumD_get] at hd
  cases hx : ds[i]? with
  | none => rw [hx] at hd; cases hd
  | some d0 =>
    rw [hx] at hd
    cases hd
    obtain ⟨w, e, rw'⟩ := r1.get hx
    refine ⟨⟨vs, w, p1.sq, e⟩, fun x H3 hy => ?_⟩
    obtain ⟨T, x1, rfl, hT, rfl, hx1⟩ := hy
    have e2 := hx1 vs p1.sq
    rw [e] at e2
    cases e2
    exact ⟨same_new hT, rep_pair (f T hT) upd_same (by show V.int _ = V.int _; congr 1; omega) (rw'.mono (But.of (same_new hT)))⟩
def zipD (ds es : List D) : List D := List.zipWith (fun a b => .tup [a, b]) ds es
theorem zipD_get {i : Nat} {d1 d2 : D} (h1 : ds[i]? = some d1) (h2 : es[i]? = some d2) : (zipD ds es)[i]? = some (.tup [d1, d2]) := by
  unfold zipD
  rw [List.getElem?_zipWith, h1, h2]
theorem zipD_getD {i : Nat} {d : D} (h : (zipD ds es)[i]? = some d) : ∃ d1 d2, ds[i]? = some d1 ∧ es[i]? = some d2 ∧ d = .tup [d1, d2] := by
  unfold zipD at h
  rw [List.getElem?_zipWith] at h
  cases h1 : ds[i]? with
  | none => rw [h1] at h; cases h
  | some d1 =>
    cases h2 : es[i]? with
    | none => rw [h1, h2] at h; cases h
    | some d2 =>
      rw [h1, h2] at h
      cases h
      exact ⟨d1, d2, rfl, rfl, rfl⟩
theorem it_zipL {ta : TA} (h : EvAD K φ J ta ρ [.lst ds, .lst es]) : IterD K φ J (RZ.iZipA K ta) ρ (zipD ds es) := fun σ H A R q => h σ H A _ fun vs fs H1 b1 A1 e r => by
  subst e
  obtain ⟨v, w, rfl, r1, r2⟩ := r.two
  obtain ⟨a, vs, rfl, p, rs⟩ := rep_lst r1
  obtain ⟨b, ws, rfl, p', rs'⟩ := rep_lst r2
  refine ⟨a, b, vs, ws, rfl, .inl ⟨p.sq, p'.sq, q _ _ H1 b1 A1 rfl fun φ' i H2 u f => ?_⟩⟩
  have p1 := p.up u
  have r1 := Reps.up u ds vs rs
  have p2 := p'.up u
  have r2 := Reps.up u es ws rs'
  refine ⟨fun d hd => ?_, fun hi => ⟨vs, ws, p1.sq, p2.sq, by rw [r1.length, r2.length]; unfold zipD at hi; rw [List.length_zipWith] at hi; omega⟩⟩
  obtain ⟨d1, d2, g1, g2, rfl⟩ := zipD_getD hd
  obtain ⟨v1, e1, q1⟩ := r1.get g1
  obtain ⟨v2, e2, q2⟩ := r2.get g2
  refine ⟨⟨vs, ws, v1, v2, p1.sq, p2.sq, e1, e2⟩, fun x H3 hy => ?_⟩
  obtain ⟨T, x1, x2, rfl, hT, rfl, hx1, hx2⟩ := hy
  have z1 := hx1 vs p1.sq
  have z2 := hx2 ws p2.sq
  rw [e1] at z1
  rw [e2] at z2
  cases z1
  cases z2
  exact ⟨same_new hT, rep_pair (f T hT) upd_same (q1.mono (But.of (same_new hT))) (q2.mono (But.of (same_new hT)))⟩
theorem it_zipT {ta : TA} (h : EvAD K φ J ta ρ [.tup ds, .tup es]) : IterD K φ J (RZ.iZipA K ta) ρ (zipD ds es) := fun σ H A R q => h σ H A _ fun vs fs H1 b1 A1 e r => by
  subst e
  obtain ⟨v, w, rfl, r1, r2⟩ := r.two
  obtain ⟨a, vs, rfl, p, rs⟩ := rep_tup r1
  obtain ⟨b, ws, rfl, p', rs'⟩ := rep_tup r2
  refine ⟨a, b, vs, ws, rfl, .inr ⟨p.sq, p'.sq, q _ _ H1 b1 A1 rfl fun φ' i H2 u f => ?_⟩⟩
  have p1 := p.up u
  have r1 := Reps.up u ds vs rs
  have p2 := p'.up u
  have r2 := Reps.up u es ws rs'
  refine ⟨fun d hd => ?_, fun hi => ⟨vs, ws, p1.sq, p2.sq, by rw [r1.length, r2.length]; unfold zipD at hi; rw [List.length_zipWith] at hi; omega⟩⟩
  obtain ⟨d1, d2, g1, g2, rfl⟩ := zipD_getD hd
  obtain ⟨v1, e1, q1⟩ := r1.get g1
  obtain ⟨v2, e2, q2⟩ := r2.get g2
  refine ⟨⟨vs, ws, v1, v2, p1.sq, p2.sq, e1, e2⟩, fun x H3 hy => ?_⟩
  obtain ⟨T, x1, x2, rfl, hT, rfl, hx1, hx2⟩ := hy
  have z1 := hx1 vs p1.sq
  have z2 := hx2 ws p2.sq
  rw [e1] at z1
  rw [e2] at z2
  cases z1
  cases z2
  exact ⟨same_new hT, rep_pair (f T hT) upd_same (q1.mono (But.of (same_new hT))) (q2.mono (But.of (same_new hT)))⟩
def strD (s : Str) : List D := s.cps.toList.map fun c => .str ⟨#[c]⟩
theorem it_str (h : EvD K φ J te ρ (.str s)) : IterD K φ J (iStr te) ρ (strD s) := fun σ H A R q => h σ H A _ fun v d H1 b1 A1 e r => by
  subst e
  cases (show v = _ from r)
  refine ⟨s, rfl, q _ _ H1 b1 A1 rfl fun φ' i H2 u f => ⟨fun d hd => ?_, fun hi => by unfold strD at hi; rw [List.length_map, Array.length_toList] at hi; exact Nat.le_of_eq hi.symm⟩⟩
  unfold strD at hd
  rw [List.getElem?_map] at hd
  cases hc : s.cps.toList[i]? with
  | none => rw [hc] at hd; cases hd
  | some c =>
    rw [hc] at hd
    cases hd
    have hc' : s.cps[i]? = some c := by rw [← hc]; simp
    obtain ⟨hi, _⟩ := Array.getElem?_eq_some_iff.mp hc'
    refine ⟨hi, fun x H3 hy => ?_⟩
    obtain ⟨rfl, c2, e2, rfl⟩ := hy
    rw [hc'] at e2
    cases e2
    exact ⟨Same.refl _, rfl⟩

/-! ### targets -/
def wipeR (ρ : List (Option D)) : List Nat → List (Option D)
  | [] => ρ
  | v :: vs => (wipeR ρ vs).set v none
theorem SR.none (i : Nat) (h : SR K φ H ρ σ) : SR K φ H (ρ.set i Option.none) (σ.set i Option.none) := by
  refine ⟨by rw [List.length_set, List.length_set]; exact h.1, fun j e hj => ?_⟩
  by_cases hij : i = j
  · subst hij
    by_cases hl : i < ρ.length
    · rw [List.getElem?_set_self hl] at hj
      cases hj
    · rw [List.getElem?_eq_none (by rw [List.length_set]; omega)] at hj
      cases hj
  · rw [List.getElem?_set_ne hij] at hj
    obtain ⟨w, e1, r1⟩ := h.2 j e hj
    exact ⟨w, by rw [List.getElem?_set_ne hij]; exact e1, r1⟩
theorem SR.wipe (h : SR K φ H ρ σ) : ∀ vs : List Nat, SR K φ H (wipeR ρ vs) (L2.wipe σ vs)
  | [] => h
  | v :: vs => SR.none v (SR.wipe h vs)
theorem wipe_set {i : Nat} {o : Option V} : ∀ {vs : List Nat}, i ∈ vs → L2.wipe (σ.set i o) vs = L2.wipe σ vs
  | v :: vs, h => by
    show (L2.wipe (σ.set i o) vs).set v none = (L2.wipe σ vs).set v none
    by_cases hi : i ∈ vs
    · rw [wipe_set hi]
    · have e : i = v := (List.mem_cons.mp h).resolve_right hi
      subst e
      have g : ∀ (us : List Nat), i ∉ us → L2.wipe (σ.set i o) us = (L2.wipe σ us).set i o := by
        intro us
        induction us with
        | nil => intro _; rfl
        | cons u us ih =>
          intro hu
          have h1 : i ≠ u := fun e => hu (by rw [e]; exact List.mem_cons_self)
          show (L2.wipe (σ.set i o) us).set u none = ((L2.wipe σ us).set u none).set i o
          rw [ih fun m => hu (List.mem_cons_of_mem _ m), List.set_comm _ _ h1]
      rw [g vs hi, List.set_set]
theorem wipe_get {j : Nat} : ∀ {vs : List Nat}, (L2.wipe σ vs)[j]? = if j ∈ vs then (σ[j]?).map (fun _ => none) else σ[j]?
  | [] => by simp [L2.wipe]
  | v :: vs => by
    show ((L2.wipe σ vs).set v none)[j]? = _
    rw [List.getElem?_set]
    by_cases e : v = j
    · subst e
      rw [if_pos rfl, if_pos List.mem_cons_self]
      rw [L2.wipe_length]
      by_cases h : v < σ.length
      · rw [if_pos h, List.getElem?_eq_getElem h]
        rfl
      · rw [if_neg h, List.getElem?_eq_none (by omega)]
        rfl
    · rw [if_neg e, wipe_get]
      have : (j ∈ v :: vs) ↔ j ∈ vs := by
        rw [List.mem_cons]
        exact ⟨fun z => z.resolve_left fun q => e q.symm, .inr⟩
      by_cases h : j ∈ vs
      · rw [if_pos h, if_pos (this.mpr h)]
      · rw [if_neg h, if_neg fun z => h (this.mp z)]
theorem wipe_wipe (vs : List Nat) : L2.wipe (L2.wipe σ vs) vs = L2.wipe σ vs := by
  apply List.ext_getElem?
  intro j
  rw [wipe_get]
  by_cases h : j ∈ vs
  · rw [if_pos h, wipe_get, if_pos h]
    cases σ[j]? <;> rfl
  · rw [if_neg h]
/-- a target: d is stored, ρ becomes ρ', the slots us are written -/
def EvG (K : PySem.W.Frag) (g : TG) (d : D) (ρ ρ' : List (Option D)) (us : List Nat) : Prop := ∀ (φ : Addr → Prop) (J : Hp → Prop) σ H v, At K φ J ρ σ H → Rep K φ H d v → ∀ Q : L2.St → Hp → Prop,
  (∀ σ', At K φ J ρ' σ' H → (∀ vs : List Nat, (∀ i ∈ us, i ∈ vs) → L2.wipe σ' vs = L2.wipe σ vs) → Q σ' H) → g v σ H Q
theorem eg_name {k : Nat} : EvG K (gName k) d ρ (ρ.set k (some d)) [k] := fun φ J σ H v A r Q q => q _ (A.set k r) fun vs h => wipe_set (h k (by simp))
def EvGs (K : PySem.W.Frag) (g : TGs) (ds : List D) (ρ ρ' : List (Option D)) (us : List Nat) : Prop := ∀ (φ : Addr → Prop) (J : Hp → Prop) σ H ws, At K φ J ρ σ H → Reps K φ H ds ws → ∀ Q : L2.St → Hp → Prop,
  (∀ σ', At K φ J ρ' σ' H → (∀ vs : List Nat, (∀ i ∈ us, i ∈ vs) → L2.wipe σ' vs = L2.wipe σ vs) → Q σ' H) → g ws σ H Q
theorem egs_nil : EvGs K gNil [] ρ ρ [] := fun φ J σ H ws A r Q q => ⟨r, q σ A fun _ _ => rfl⟩
theorem egs_cons {g : TG} {gs : TGs} {ρ1 ρ2 : List (Option D)} {us ws : List Nat} (h : EvG K g d ρ ρ1 us) (hs : EvGs K gs ds ρ1 ρ2 ws) : EvGs K (gCons g gs) (d :: ds) ρ ρ2 (us ++ ws) := fun φ J σ H xs A r Q q => by
  obtain ⟨v, r', rfl, h1, h2⟩ := (show ∃ v r, xs = v :: r ∧ Rep K φ H d v ∧ Reps K φ H ds r from r)
  refine ⟨v, r', rfl, h φ J σ H v A h1 _ fun σ1 A1 w1 => hs φ J σ1 H r' A1 h2 Q fun σ2 A2 w2 => q σ2 A2 fun vs hv => ?_⟩
  rw [w2 vs fun i hi => hv i (List.mem_append_right _ hi), w1 vs fun i hi => hv i (List.mem_append_left _ hi)]
theorem eg_tup {gs : TGs} {us : List Nat} (h : EvGs K gs ds ρ ρ' us) : EvG K (gTup K ds.length gs) (.tup ds) ρ ρ' us := fun φ J σ H v A r Q q => by
  obtain ⟨a, vs, rfl, p, rs⟩ := rep_tup r
  exact ⟨a, vs, rfl, p.sq, rs.length, h φ J σ H vs A rs Q q⟩

/-! ### list comprehensions -/
inductive Comp (pt : D → Bool → Prop) (pe : D → D → Prop) : List D → List D → Prop where
  | nil : Comp pt pe [] []
  | take {d y : D} {ds ys : List D} : pt d true → pe d y → Comp pt pe ds ys → Comp pt pe (d :: ds) (y :: ys)
  | skip {d : D} {ds ys : List D} : pt d false → Comp pt pe ds ys → Comp pt pe (d :: ds) ys
theorem Comp.snoc1 {pt : D → Bool → Prop} {pe : D → D → Prop} : ∀ {ds ys : List D}, Comp pt pe ds ys → pt d true → pe d y → Comp pt pe (ds ++ [d]) (ys ++ [y])
  | _, _, .nil, h, k => .take h k .nil
  | _, _, .take a b c, h, k => .take a b (Comp.snoc1 c h k)
  | _, _, .skip a c, h, k => .skip a (Comp.snoc1 c h k)
theorem Comp.snoc0 {pt : D → Bool → Prop} {pe : D → D → Prop} : ∀ {ds ys : List D}, Comp pt pe ds ys → pt d false → Comp pt pe (ds ++ [d]) ys
  | _, _, .nil, h => .skip h .nil
  | _, _, .take a b c, h => .take a b (Comp.snoc0 c h)
  | _, _, .skip a c, h => .skip a (Comp.snoc0 c h)
theorem Comp.map {f : D → D} : ∀ {ds ys : List D}, Comp (fun _ b => b = true) (fun d y => y = f d) ds ys → ys = ds.map f
  | _, _, .nil => rfl
  | _, _, .take _ e c => by rw [e, c.map]; rfl
  | _, _, .skip e _ => by cases e
theorem Comp.filter {p : D → Bool} {f : D → D} : ∀ {ds ys : List D}, Comp (fun d b => b = p d) (fun d y => y = f d) ds ys → ys = (ds.filter p).map f
  | _, _, .nil => rfl
  | _, _, .take e1 e c => by rw [List.filter_cons, if_pos e1.symm, e, c.filter]; rfl
  | _, _, .skip e c => by rw [List.filter_cons, if_neg (by rw [← e]; simp), c.filter]
theorem Comp.len {pt : D → Bool → Prop} {pe : D → D → Prop} : ∀ {ds ys : List D}, Comp pt pe ds ys → ys.length ≤ ds.length
  | _, _, .nil => Nat.le_refl _
  | _, _, .take _ _ c => Nat.succ_le_succ c.len
  | _, _, .skip _ c => Nat.le_succ_of_le c.len
theorem Comp.all {pe : D → D → Prop} : ∀ {ds ys : List D}, Comp (fun _ b => b = true) pe ds ys → ys.length = ds.length ∧ ∀ y ∈ ys, ∃ d ∈ ds, pe d y
  | _, _, .nil => ⟨rfl, fun _ h => by simp at h⟩
  | _, _, .take _ e c => ⟨by rw [List.length_cons, List.length_cons, c.all.1], fun z h => by
    rcases List.mem_cons.mp h with rfl | h
    · exact ⟨_, List.mem_cons_self, e⟩
    · obtain ⟨d, hd, p⟩ := c.all.2 z h
      exact ⟨d, List.mem_cons_of_mem _ hd, p⟩⟩
  | _, _, .skip e _ => by cases e
theorem ev_lcP {wi : TI} {g : TG} {tt : TT} {te : TE} {ws us : List Nat} {Pi : List D → Prop} {ρd : D → List (Option D)} {pt : D → Bool → Prop} {pe : D → D → Prop} (hi : IterP K φ J wi ρ Pi) (hl : ∀ ds, Pi ds → ds.length ≤ 1000000) (hu : ∀ i ∈ us, i ∈ ws)
    (hg : ∀ ds, Pi ds → ∀ d ∈ ds, EvG K g d (wipeR ρ ws) (ρd d) us)
    (ht : ∀ ds, Pi ds → ∀ d ∈ ds, ∀ φ' J', Ext φ J φ' J' → EvT K φ' J' tt (ρd d) (pt d))
    (he : ∀ ds, Pi ds → ∀ d ∈ ds, pt d true → ∀ φ' J', Ext φ J φ' J' → EvP K φ' J' te (ρd d) (pe d)) :
    EvP K φ J (tLc wi g tt te ws) ρ (fun z => ∃ ds ys, Pi ds ∧ z = .lst ys ∧ Comp pt pe ds ys) := fun σ H A Q q => by
  refine hi σ H A _ fun J0 ds H1 b1 A1 pd w => ?_
  intro D0 hD
  -- inside: the list at D0 is live
  have neP : ∀ p s ns, Pooled φ J p s ns → p ≠ D0 := fun p s ns hp => by
    obtain ⟨a1, a2, a3, a4, h1, _⟩ := hp.ok _ A1.j
    exact ne_of_none h1 hD
  let φ' : Addr → Prop := fun a => φ a ∧ a ≠ D0
  have ext : ∀ acc : List V, Ext φ J φ' (fun H => J H ∧ H D0 = some (.lst acc)) := fun acc => ⟨fun _ h => h.1, fun p s ns hp => ⟨fun z => hp.np z.1, hp.ne, fun H h => hp.ok H h.1, fun H H' h k o => ⟨hp.st H H' h.1 k o, k _ _ (neP p s ns hp).symm h.2⟩⟩, fun a p h => ⟨p, fun e => h H1 A1.j (by rw [e]; exact hD)⟩⟩
  have mono : ∀ (acc : List V) (H2 : Hp), (∀ a, H1 a ≠ none → H2 a ≠ none) → H2 D0 ≠ none → Mo H2 (fun H => J H ∧ H D0 = some (.lst acc)) := fun acc H2 s h => (A1.mono.up s).and (Mo.at h)
  refine ⟨fun i m H2 => m = ds.length - i ∧ i ≤ ds.length ∧ But φ H1 H2 ∧ ∃ acc ys, Reps K φ' H2 ys acc ∧ Comp pt pe (ds.take i) ys ∧ At K φ' (fun H => J H ∧ H D0 = some (.lst acc)) (wipeR ρ ws) (L2.wipe σ ws) H2,
    ⟨ds.length, rfl, Nat.zero_le _, But.of (same_new hD), [], [], Reps.nil, .nil, ?_⟩, ?_⟩
  · have A2 := A1.newLive (o := .lst []) (J' := fun H => J H ∧ H D0 = some (.lst [])) hD ⟨A1.mono _ _ (fun a o _ e => same_new hD a o e) A1.j, upd_same⟩ (mono [] _ upd_tr (by rw [upd_same]; exact fun z => by cases z))
    exact ⟨A2.sr.wipe ws, A2.fr, A2.j, A2.mono⟩
  · rintro i m H2 ⟨rfl, hi, b2, acc, ys, rs, cp, A2⟩
    have upw : Up φ φ' H1 H2 := fun a o p e => ⟨⟨p, ne_of_none e hD⟩, b2.keep a o p e⟩
    have fr2 : Frm φ' H2 := A2.fr
    obtain ⟨wg, wstop⟩ := w φ' i H2 upw fr2
    by_cases hlt : i < ds.length
    · have hd : ds[i]? = some ds[i] := List.getElem?_eq_getElem hlt
      obtain ⟨go, yl⟩ := wg _ hd
      refine .inr ⟨go, fun H3 => But φ H1 H3 ∧ ∃ acc ys, Reps K φ' H3 ys acc ∧ Comp pt pe (ds.take (i + 1)) ys ∧ At K φ' (fun H => J H ∧ H D0 = some (.lst acc)) (wipeR ρ ws) (L2.wipe σ ws) H3, ?_, ?_⟩
      · rintro H3 ⟨b3, acc3, ys3, r3, c3, A3⟩
        exact ⟨ds.length - (i + 1), by omega, rfl, hlt, b3, acc3, ys3, r3, c3, A3⟩
      · intro x H3 hy
        obtain ⟨s3, r3⟩ := yl x H3 hy
        have A3 := A2.same s3
        have rs3 := rs.mono (But.of (φ := φ') s3)
        have b3 : But φ H1 H3 := b2.trans (But.of s3)
        have hmem : ds[i] ∈ ds := List.getElem_mem hlt
        have tk : ds.take (i + 1) = ds.take i ++ [ds[i]] := by rw [List.take_add_one, hd]; rfl
        refine hg ds pd _ hmem φ' _ _ H3 x A3 r3 _ fun σ4 A4 hw4 => ⟨?_, ?_⟩
        · rw [hw4 ws hu]
          exact wipe_wipe ws
        · refine ht ds pd _ hmem φ' _ (ext acc) σ4 H3 A4 _ fun bb H5 b5 A5 hp => ?_
          have b35 : But φ H1 H5 := ⟨fun a o p e => b5.keep a o ⟨p, ne_of_none e hD⟩ (b3.keep a o p e), fun a h => b5.tr a (b3.tr a h)⟩
          have A5' : At K φ' (fun H => J H ∧ H D0 = some (.lst acc)) (wipeR ρ ws) (L2.wipe σ ws) H5 := ⟨A3.sr.up (Up.of b5), A5.fr, A5.j, A5.mono⟩
          cases bb with
          | false =>
            rw [if_neg (by simp)]
            exact ⟨b35, acc, ys, rs3.mono b5, by rw [tk]; exact cp.snoc0 hp, A5'⟩
          | true =>
            rw [if_pos rfl]
            refine he ds pd _ hmem hp φ' _ (ext acc) σ4 H5 A5 _ fun v d H6 b6 A6 pv r6 => ?_
            have rl := (rs3.mono b5).mono b6
            have nD : ¬ φ' D0 := fun z => z.2 rfl
            have cl := cp.len
            refine ⟨acc, A6.j.2, ?_, ?_, acc ++ [v], ys ++ [d], ?_, by rw [tk]; exact cp.snoc1 hp pv, ?_⟩
            · rw [rl.length]
              have h1 := hl ds pd
              rw [List.length_take] at cl
              exact szlt (by omega)
            · refine ⟨fun a o p e => ?_, fun a h => upd_tr a (b6.tr a (b35.tr a h))⟩
              have ne := ne_of_none e hD
              rw [upd_ne ne]
              exact b6.keep a o ⟨p, ne⟩ (b35.keep a o p e)
            · exact (rl.append (Reps.cons r6 Reps.nil)).mono ((But.refl φ' H6).upd nD)
            · have A6' : At K φ' (fun H => J H ∧ H D0 = some (.lst acc)) (wipeR ρ ws) (L2.wipe σ ws) H6 := ⟨A5'.sr.up (Up.of b6), A6.fr, A6.j, A6.mono⟩
              have jj : J (upd H6 D0 (.lst (acc ++ [v]))) := A1.mono H6 _ (fun a o h e => by
                rw [upd_ne (show a ≠ D0 from fun z => h (by rw [z]; exact hD))]
                exact e) A6.j.1
              exact A6'.upd nD ⟨jj, upd_same⟩ (mono _ _ (fun a h => upd_tr a (b6.tr a (b35.tr a h))) (by rw [upd_same]; exact fun z => by cases z))
    · have e : i = ds.length := by omega
      subst e
      refine .inl ⟨wstop rfl, ?_⟩
      rw [List.take_length] at cp
      have A3 : At K φ J ρ σ H2 := ⟨A1.sr.up (Up.of b2), A2.fr.fst, A2.j.1, A1.mono.up b2.tr⟩
      refine q _ (.lst ys) H2 (b1.trans b2) A3 ⟨ds, ys, pd, rfl, cp⟩ ⟨D0, acc, rfl, .inl ⟨A1.fr D0 hD, .inl A2.j.2⟩, ?_⟩
      exact Reps.up (fun a o p e => ⟨p.1, e⟩) ys acc rs
end
end DL
namespace DL
open PySem PySem.Spec PyProof.Rows L2

section
variable {K : PySem.W.Frag} {φ φ' : Addr → Prop} {J J' : Hp → Prop} {H H' H1 : Hp} {ρ ρ' : List (Option D)} {σ : L2.St} {ta tb te tc : TE} {x y z d : D} {P Pa Pb Pc : D → Prop} {i j : Int} {b c : Bool} {ds es : List D} {v : V} {vs : List V} {a : Addr} {D0 : Ends} {t u : TS}

/-! ### comprehensions, by one name -/
/-- [e for x in ds]: all by f -/
theorem ev_lc {wi : TI} {te : TE} {k : Nat} {f : D → D} (hi : IterD K φ J wi ρ ds) (hl : ds.length ≤ 1000000) (he : ∀ d ∈ ds, ∀ φ' J', Ext φ J φ' J' → EvD K φ' J' te ((wipeR ρ [k]).set k (some d)) (f d)) :
    EvD K φ J (tLc wi (gName k) tYes te [k]) ρ (.lst (ds.map f)) :=
  (ev_lcP (ρd := fun d => (wipeR ρ [k]).set k (some d)) (us := [k]) (pt := fun _ b => b = true) (pe := fun d y => y = f d) hi (fun ds' e => by rw [e]; exact hl) (fun _ h => h) (fun _ _ d _ => eg_name)
    (fun _ _ d _ φ' J' _ σ H A Q q => q true H (But.refl _ _) A rfl) (fun ds' e d hd _ φ' J' x => he d (e ▸ hd) φ' J' x)).imp fun z ⟨ds', ys, e1, e2, c⟩ => by
      subst e1
      rw [e2, c.map]
/-- [e for x in ds if t] -/
theorem ev_lcF {wi : TI} {tt : TT} {te : TE} {k : Nat} {p : D → Bool} {f : D → D} (hi : IterD K φ J wi ρ ds) (hl : ds.length ≤ 1000000) (ht : ∀ d ∈ ds, ∀ φ' J', Ext φ J φ' J' → EvX K φ' J' tt ((wipeR ρ [k]).set k (some d)) (p d))
    (he : ∀ d ∈ ds, p d = true → ∀ φ' J', Ext φ J φ' J' → EvD K φ' J' te ((wipeR ρ [k]).set k (some d)) (f d)) :
    EvD K φ J (tLc wi (gName k) tt te [k]) ρ (.lst ((ds.filter p).map f)) :=
  (ev_lcP (ρd := fun d => (wipeR ρ [k]).set k (some d)) (us := [k]) (pt := fun d b => b = p d) (pe := fun d y => y = f d) hi (fun ds' e => by rw [e]; exact hl) (fun _ h => h) (fun _ _ d _ => eg_name)
    (fun ds' e d hd φ' J' x => ht d (e ▸ hd) φ' J' x) (fun ds' e d hd pd φ' J' x => he d (e ▸ hd) pd.symm φ' J' x)).imp fun z ⟨ds', ys, e1, e2, c⟩ => by
      subst e1
      rw [e2, c.filter]
theorem et_yes : EvT K φ J tYes ρ (fun b => b = true) := fun σ H A Q q => q true H (But.refl _ _) A rfl
/-- any element: a property of each -/
theorem ev_lcE {wi : TI} {te : TE} {k : Nat} {Pi : List D → Prop} {pe : D → D → Prop} (hi : IterP K φ J wi ρ Pi) (hl : ∀ ds, Pi ds → ds.length ≤ 1000000) (he : ∀ ds, Pi ds → ∀ d ∈ ds, ∀ φ' J', Ext φ J φ' J' → EvP K φ' J' te ((wipeR ρ [k]).set k (some d)) (pe d)) :
    EvP K φ J (tLc wi (gName k) tYes te [k]) ρ (fun z => ∃ ds ys, Pi ds ∧ z = .lst ys ∧ Comp (fun _ b => b = true) pe ds ys) :=
  ev_lcP (ρd := fun d => (wipeR ρ [k]).set k (some d)) (us := [k]) hi hl (fun _ h => h) (fun _ _ d _ => eg_name) (fun _ _ d _ φ' J' _ => et_yes) (fun ds' e d hd _ φ' J' x => he ds' e d hd φ' J' x)

/-! ### statements -/
theorem q (h : t { D0 with nx := u D0 } σ H) : tSeq t u D0 σ H := h
theorem st_next (h : D0.nx σ H) : tNext D0 σ H := h
theorem st_asg {k : Nat} (A : At K φ J ρ σ H) (h : EvP K φ J te ρ P) (kk : ∀ d σ' H', P d → At K φ J (ρ.set k (some d)) σ' H' → D0.nx σ' H') : tAsg te (gName k) D0 σ H :=
  h σ H A _ fun v d H' b A' pd r => kk d _ H' pd (A'.set k r)
/-- .. where the value is known -/
theorem st_set {k : Nat} (A : At K φ J ρ σ H) (h : EvD K φ J te ρ d) (kk : ∀ σ' H', At K φ J (ρ.set k (some d)) σ' H' → D0.nx σ' H') : tAsg te (gName k) D0 σ H :=
  st_asg A h fun d' σ' H' e A' => kk σ' H' (e ▸ A')
theorem st_asgG {g : TG} {us : List Nat} {ρ2 : D → List (Option D)} (A : At K φ J ρ σ H) (h : EvP K φ J te ρ P) (hg : ∀ d, P d → EvG K g d ρ (ρ2 d) us) (kk : ∀ d σ' H', P d → At K φ J (ρ2 d) σ' H' → D0.nx σ' H') : tAsg te g D0 σ H :=
  h σ H A _ fun v d H' b A' pd r => hg d pd φ J σ H' v A' r _ fun σ' A2 _ => kk d σ' H' pd A2
theorem st_ret (A : At K φ J ρ σ H) (h : EvP K φ J te ρ P) (kk : ∀ v d H', P d → At K φ J ρ σ H' → Rep K φ H' d v → D0.rt v H') : tRet te D0 σ H :=
  h σ H A _ fun v d H' b A' pd r => kk v d H' pd A' r
theorem st_retN (h : D0.rt .non H) : tRetN D0 σ H := h
theorem st_drop (A : At K φ J ρ σ H) (h : EvP K φ J te ρ P) (kk : ∀ d H', P d → At K φ J ρ σ H' → D0.nx σ H') : tDrop te D0 σ H :=
  h σ H A _ fun v d H' b A' pd r => kk d H' pd A'
theorem st_if {tt : TT} {p : Bool → Prop} (A : At K φ J ρ σ H) (h : EvT K φ J tt ρ p) (k1 : p true → ∀ H', At K φ J ρ σ H' → t D0 σ H') (k2 : p false → ∀ H', At K φ J ρ σ H' → u D0 σ H') : tIfS tt t u D0 σ H :=
  h σ H A _ fun b H' bt A' pb => by
    cases b with
    | true =>
      rw [if_pos rfl]
      exact k1 pb H' A'
    | false =>
      rw [if_neg (by simp)]
      exact k2 pb H' A'
/-- the test is known -/
theorem st_yes {tt : TT} (A : At K φ J ρ σ H) (h : EvX K φ J tt ρ b) (e : b = true) (k1 : ∀ H', At K φ J ρ σ H' → t D0 σ H') : tIfS tt t u D0 σ H :=
  st_if A h (fun _ H' A' => k1 H' A') fun z => by rw [e] at z; cases z
theorem st_no {tt : TT} (A : At K φ J ρ σ H) (h : EvX K φ J tt ρ b) (e : b = false) (k2 : ∀ H', At K φ J ρ σ H' → u D0 σ H') : tIfS tt t u D0 σ H :=
  st_if A h (fun z => by rw [e] at z; cases z) fun _ H' A' => k2 H' A'
theorem st_aug {k : Nat} {f : Int → Int → Int} (A : At K φ J ρ σ H) (hx : ρ[k]? = some (some (.int i))) (h : EvD K φ J te ρ (.int j)) (kk : ∀ σ' H', At K φ J (ρ.set k (some (.int (f i j)))) σ' H' → D0.nx σ' H') : tAug k te (ipI f) D0 σ H := by
  obtain ⟨v, e, r⟩ := A.sr.2 k _ hx
  cases (show v = _ from r)
  refine ⟨_, e, h σ H A _ fun w d H' b A' pd r' => ?_⟩
  subst pd
  exact ⟨i, j, rfl, r', kk _ H' (A'.set k rfl)⟩

/-! ### for -/
def NX (K : PySem.W.Frag) (φ : Addr → Prop) (H1 : Hp) (Inv : Nat → List (Option D) → (Hp → Prop) → Prop) (i : Nat) : L2.St → Hp → Prop := fun σ H => ∃ ρ'' J'', Inv i ρ'' J'' ∧ At K φ (fun H => J'' H ∧ But φ H1 H) ρ'' σ H
theorem NX.go {Inv : Nat → List (Option D) → (Hp → Prop) → Prop} {n : Nat} (A : At K φ (fun H => J H ∧ But φ H1 H) ρ σ H) (h : Inv n ρ J) : NX K φ H1 Inv n σ H := ⟨ρ, J, h, A⟩
theorem Ext.but {H1 : Hp} (h : ∀ p s ns, Pooled φ J p s ns → H1 p ≠ none) : Ext φ J φ (fun H => J H ∧ But φ H1 H) := ⟨fun _ h => h.1, fun p s ns hp => ⟨hp.np, hp.ne, fun H h => hp.ok H h.1, fun H H' hh k o => ⟨hp.st H H' hh.1 k o, ⟨fun a u pa e => k a u (fun z => hp.np (z ▸ pa)) (hh.2.keep a u pa e), fun a ha => by
  by_cases z : a = p
  · subst z
    obtain ⟨_, _, _, _, e, _⟩ := o
    rw [e]
    exact fun z => by cases z
  · cases e : H a with
    | none => exact absurd e (hh.2.tr a ha)
    | some u => rw [k a u z e]; exact fun z => by cases z⟩⟩⟩, fun _ p _ => p⟩
theorem Ext.but' {H1 : Hp} : Ext φ J φ (fun H => J H ∧ But φ H1 H) := ⟨fun _ h => h.1, fun p s ns hp => ⟨hp.np, hp.ne, fun H h => hp.ok H h.1, fun H H' hh k o => ⟨hp.st H H' hh.1 k o, ⟨fun a u pa e => k a u (fun z => hp.np (z ▸ pa)) (hh.2.keep a u pa e), fun a ha => by
  by_cases z : a = p
  · subst z
    obtain ⟨_, _, _, _, e, _⟩ := o
    rw [e]
    exact fun z => by cases z
  · cases e : H a with
    | none => exact absurd e (hh.2.tr a ha)
    | some u => rw [k a u z e]; exact fun z => by cases z⟩⟩⟩, fun _ p _ => p⟩
def ForG (K : PySem.W.Frag) (φ : Addr → Prop) (g : TG) (tb : TS) (ds : List D) (D0 : Ends) (σ : L2.St) (H1 : Hp) : Prop := ∀ J0, Walks K φ J0 H1 ds → ∃ W : Nat → Nat → L2.St → Hp → Prop, (∃ m, W 0 m σ H1) ∧ ∀ i m σ H, W i m σ H →
  (J0.stop i H ∧ D0.nx σ H) ∨ (J0.go i H ∧ ∃ N : L2.St → Hp → Prop, (∀ σ' H', N σ' H' → ∃ m', m' < m ∧ W (i + 1) m' σ' H') ∧ ∀ x H', J0.yld i H x H' → g x σ H' fun σ2 H2 => tb { D0 with nx := N, ct := N, bk := D0.nx } σ2 H2)
theorem st_forP {wi : TI} {g : TG} {tb : TS} {Pi : List D → Prop} (A : At K φ J ρ σ H) (hi : IterP K φ J wi ρ Pi) (k : ∀ ds H1, Pi ds → At K φ J ρ σ H1 → ForG K φ g tb ds D0 σ H1) : tFor wi g tb D0 σ H :=
  hi σ H A _ fun J0 ds H1 b A1 pd w => k ds H1 pd A1 J0 w
theorem forG_by {g : TG} {tb : TS} (A : At K φ J ρ σ H1) (Inv : Nat → List (Option D) → (Hp → Prop) → Prop) (h0 : Inv 0 ρ J)
    (hs : ∀ i d ρ' J', ds[i]? = some d → Inv i ρ' J' → ∃ ρ2 us, EvG K g d ρ' ρ2 us ∧ ∀ σ' H', At K φ (fun H => J' H ∧ But φ H1 H) ρ2 σ' H' → tb { D0 with nx := NX K φ H1 Inv (i + 1), ct := NX K φ H1 Inv (i + 1), bk := D0.nx } σ' H')
    (hd : ∀ ρ' J' σ' H', Inv ds.length ρ' J' → At K φ (fun H => J' H ∧ But φ H1 H) ρ' σ' H' → D0.nx σ' H') : ForG K φ g tb ds D0 σ H1 := fun J0 w => by
  refine ⟨fun i m σ H => m = ds.length - i ∧ i ≤ ds.length ∧ NX K φ H1 Inv i σ H, ⟨ds.length, rfl, Nat.zero_le _, ρ, J, h0, A.live ⟨A.j, But.refl _ _⟩ (A.mono.and (Mo.but fun _ h => h))⟩, ?_⟩
  rintro i m σ2 H2 ⟨rfl, hi, ρ2, J2, inv, A2⟩
  obtain ⟨wg, ws⟩ := w φ i H2 (Up.of A2.j.2) A2.fr
  by_cases hlt : i < ds.length
  · have hx : ds[i]? = some ds[i] := List.getElem?_eq_getElem hlt
    obtain ⟨go, yl⟩ := wg _ hx
    obtain ⟨ρ3, us, eg, body⟩ := hs i _ ρ2 J2 hx inv
    refine .inr ⟨go, NX K φ H1 Inv (i + 1), fun σ' H' n => ⟨ds.length - (i + 1), by omega, rfl, hlt, n⟩, fun x H3 hy => ?_⟩
    obtain ⟨s3, r3⟩ := yl x H3 hy
    exact eg φ _ σ2 H3 x (A2.same s3) r3 _ fun σ4 A4 _ => body σ4 H3 A4
  · have e : i = ds.length := by omega
    subst e
    exact .inl ⟨ws rfl, hd ρ2 J2 σ2 H2 inv A2⟩
/-- by one name -/
theorem st_for {wi : TI} {tb : TS} {k : Nat} (A : At K φ J ρ σ H) (hi : IterD K φ J wi ρ ds) (Inv : Nat → List (Option D) → (Hp → Prop) → Prop) (h0 : Inv 0 ρ J)
    (hs : ∀ H1 i d ρ' J', But φ H H1 → J H1 → ds[i]? = some d → Inv i ρ' J' → ∀ σ' H', At K φ (fun H => J' H ∧ But φ H1 H) (ρ'.set k (some d)) σ' H' → tb { D0 with nx := NX K φ H1 Inv (i + 1), ct := NX K φ H1 Inv (i + 1), bk := D0.nx } σ' H')
    (hd : ∀ H1 ρ' J' σ' H', But φ H H1 → J H1 → Inv ds.length ρ' J' → At K φ (fun H => J' H ∧ But φ H1 H) ρ' σ' H' → D0.nx σ' H') : tFor wi (gName k) tb D0 σ H :=
  hi σ H A _ fun J0 ds' H1 b A1 pd w => by
    subst pd
    exact forG_by (D0 := D0) A1 Inv h0 (fun i d ρ' J' hx inv => ⟨_, _, eg_name, fun σ' H' A' => hs H1 i d ρ' J' b A1.j hx inv σ' H' A'⟩) (fun ρ' J' σ' H' inv A' => hd H1 ρ' J' σ' H' b A1.j inv A') J0 w
/-- by a target of any form -/
theorem st_forT {wi : TI} {tb : TS} {g : TG} {us : List Nat} {ρt : D → List (Option D) → List (Option D)} (A : At K φ J ρ σ H) (hi : IterD K φ J wi ρ ds) (Inv : Nat → List (Option D) → (Hp → Prop) → Prop) (h0 : Inv 0 ρ J)
    (hg : ∀ i d ρ' J', ds[i]? = some d → Inv i ρ' J' → EvG K g d ρ' (ρt d ρ') us)
    (hs : ∀ H1 i d ρ' J', But φ H H1 → J H1 → ds[i]? = some d → Inv i ρ' J' → ∀ σ' H', At K φ (fun H => J' H ∧ But φ H1 H) (ρt d ρ') σ' H' → tb { D0 with nx := NX K φ H1 Inv (i + 1), ct := NX K φ H1 Inv (i + 1), bk := D0.nx } σ' H')
    (hd : ∀ H1 ρ' J' σ' H', But φ H H1 → J H1 → Inv ds.length ρ' J' → At K φ (fun H => J' H ∧ But φ H1 H) ρ' σ' H' → D0.nx σ' H') : tFor wi g tb D0 σ H :=
  hi σ H A _ fun J0 ds' H1 b A1 pd w => by
    subst pd
    exact forG_by (D0 := D0) A1 Inv h0 (fun i d ρ' J' hx inv => ⟨_, _, hg i d ρ' J' hx inv, fun σ' H' A' => hs H1 i d ρ' J' b A1.j hx inv σ' H' A'⟩) (fun ρ' J' σ' H' inv A' => hd H1 ρ' J' σ' H' b A1.j inv A') J0 w
theorem st_while {tt : TT} {tb : TS} (A : At K φ J ρ σ H) (Inv : Nat → List (Option D) → (Hp → Prop) → Prop) (m0 : Nat) (h0 : Inv m0 ρ J)
    (hs : ∀ m ρ' J', Inv m ρ' J' → ∃ p, EvT K φ (fun H1 => J' H1 ∧ But φ H H1) tt ρ' p ∧
      (p true → ∀ σ' H', At K φ (fun H1 => J' H1 ∧ But φ H H1) ρ' σ' H' → ∀ N : L2.St → Hp → Prop, (∀ m' σ' H', m' < m → NX K φ H Inv m' σ' H' → N σ' H') → tb { D0 with nx := N, ct := N, bk := D0.nx } σ' H') ∧
      (p false → ∀ σ' H', At K φ (fun H1 => J' H1 ∧ But φ H H1) ρ' σ' H' → D0.nx σ' H')) : tWhile tt tb D0 σ H := by
  refine ⟨NX K φ H Inv, ⟨m0, ρ, J, h0, A.live ⟨A.j, But.refl _ _⟩ (A.mono.and (Mo.but fun _ h => h))⟩, ?_⟩
  rintro m σ2 H2 ⟨ρ2, J2, inv, A2⟩
  obtain ⟨p, ht, h1, h2⟩ := hs m ρ2 J2 inv
  refine ht σ2 H2 A2 _ fun b H3 b3 A3 pb => ?_
  cases b with
  | true =>
    rw [if_pos rfl]
    exact ⟨fun σ' H' => ∃ m', m' < m ∧ NX K φ H Inv m' σ' H', fun σ' H' n => n, h1 pb σ2 H3 A3 _ fun m' σ' H' l n => ⟨m', l, n⟩⟩
  | false =>
    rw [if_neg (by simp)]
    exact h2 pb σ2 H3 A3

/-! ### defs of pure values -/
/-- the promise: a relation of trees -/
def SpD (K : PySem.W.Frag) (n : Nat) (R : List D → D → Prop) : Sp := fun vs H Q _ => ∃ φ ds d, ds.length = n ∧ Reps K φ H ds vs ∧ Frm φ H ∧ R ds d ∧ ∀ v H', Same H H' → Rep K φ H' d v → Q v H'
theorem ev_call {n : Nat} {R : List D → D → Prop} {E : XK} {ta : TA} {Pr : List D → Prop} (ha : EvA K φ J ta ρ Pr) (hr : ∀ ds, Pr ds → ∃ d, ds.length = n ∧ R ds d ∧ P d) : EvP K φ J (tCall (SpD K n R) [] E ta) ρ P := fun σ H A Q q =>
  ha σ H A _ fun vs ds H1 b1 A1 pd r1 => by
    obtain ⟨d, hl, hd, pd'⟩ := hr ds pd
    refine ⟨φ, ds, d, hl, by rw [List.append_nil]; exact r1, A1.fr, hd, fun v H' s r => ?_⟩
    exact q v d H' (b1.trans (But.of s)) (A1.same s) pd' r
theorem ev_callD {n : Nat} {R : List D → D → Prop} {E : XK} {ta : TA} (ha : EvAD K φ J ta ρ ds) (hr : R ds d) (hl : ds.length = n := by rfl) : EvD K φ J (tCall (SpD K n R) [] E ta) ρ d := ev_call ha fun ds' e => ⟨d, by rw [e]; exact hl, by rw [e]; exact hr, rfl⟩
section
variable {PP : Program} {w : World} {mg : Str → Option Value} {base : Heap}
/-- a def keeps the promise, by its body's reading -/
theorem fn_ok {x qual : Str} {st : Stmt} {f : Addr} {fd : FuncData} {N ps : List Str} {k n : Nat} {R : List D → D → Prop} (F : Fun K x qual st f fd) (S : FnScope N ps (defScope st)) (hn : ps.length = n) (m : Nat) (hm : N.length = n + m)
    (hbody : ∀ (cdv : Value) (A : Around) (outer : List Env) (s : Shared) (H : Hp) (E : XK), Room k (A.deeper (envOfC qual (defScope st) s.heap.objs.size f cdv)) →
      ∃ t, PSs (cxOf CX0 PP w K mg base N qual (defScope st) f cdv A outer s H E).nox (defBody st) t ∧
        ∀ (φ : Addr → Prop) (ds : List D) (d : D) (H : Hp) (D0 : Ends) (σ : L2.St), ds.length = n → R ds d → (∀ v H', Same H H' → Rep K φ H' d v → D0.rt v H') → (d = .non → ∀ H', Same H H' → ∀ σ', D0.nx σ' H') → At K φ (Same H) (ds.map some ++ List.replicate m none) σ H → t D0 σ H) :
    FnOk PP w K mg base CX0 (k + 1) f fd ps (SpD K n R) := by
  refine F.ok S (fun vs H Q E h => ?_) (fun cdv A outer s H vs Q E hr h => ?_)
  · obtain ⟨φ, ds, d, hl, r, _⟩ := h
    rw [r.length, hl, hn]
  · obtain ⟨φ, ds, d, hl, r, fr, hd, q⟩ := h
    obtain ⟨t, ht, run⟩ := hbody cdv A outer s H E hr
    refine ⟨t, ht, run φ ds d H _ _ hl hd (fun v H' s r => q v H' s r) (fun e H' s σ' => q .non H' s (by rw [e]; rfl)) ⟨?_, fr, Same.refl H, Mo.sames fun _ h => h⟩⟩
    have e : N.length - vs.length = m := by rw [hm, r.length, hl]; omega
    unfold L2.start
    rw [e]
    exact SR.start r
end

theorem Frm.butP {φ : Addr → Prop} {H H' : Hp} {p s : Addr} {ns : List Int} (F : Frm φ H) (bp : ButP p H H') (po : PoolOk p s ns H') (tr : ∀ a, H a ≠ none → H' a ≠ none) : Frm φ H' := ⟨fun a h => F.new a (by
  cases e : H a with
  | none => rfl
  | some u => exact absurd h (tr a (by rw [e]; exact fun z => by cases z))), fun a xs h => by
  cases e : H a with
  | none => exact F.new a e
  | some u =>
    by_cases ea : a = p
    · subst ea
      obtain ⟨_, _, _, _, e1, _⟩ := po
      rw [e1] at h
      cases h
    · have z := bp a u ea e
      rw [h] at z
      cases z
      exact F.tup a xs e⟩
/-! ### draws -/
def spDraw : Sp := fun vs H Q _ => ∃ p s ns n, vs = [.ref p, .int n] ∧ PoolOk p s ns H ∧ s ≠ p ∧ 0 < n ∧ n < 4294967296 ∧ ∀ r H', 0 ≤ r → r < n → ButP p H H' → PoolOk p s ns H' → Q (.int r) H'
theorem butP_but {p : Addr} (h : ButP p H H') (np : ¬ φ p) {s : Addr} {ns : List Int} (o : PoolOk p s ns H') : But φ H H' := ⟨fun a u pa e => h a u (fun z => np (z ▸ pa)) e, fun a ha => by
  by_cases z : a = p
  · subst z
    obtain ⟨_, _, _, _, e, _⟩ := o
    rw [e]
    exact fun z => by cases z
  · cases e : H a with
    | none => exact absurd e ha
    | some u => rw [h a u z e]; exact fun z => by cases z⟩
theorem ev_draw {E : XK} {p s : Addr} {ns : List Int} {n : Int} {k : Nat} (hp : Pooled φ J p s ns) (hk : ρ[k]? = some (some (.raw (.ref p)))) (he : EvD K φ J te ρ (.int n)) (h0 : 0 < n) (h1 : n < 4294967296) :
    EvI K φ J (tCall spDraw [] E (tCons (tVar k) (tCons te tNil))) ρ (fun r => 0 ≤ r ∧ r < n) := fun σ H A Q q =>
  ev_var hk σ H A _ fun v d H1 b1 A1 e1 r1 => he σ H1 A1 _ fun v2 d2 H2 b2 A2 e2 r2 => by
    subst e1 e2
    cases (show v = _ from r1)
    cases (show v2 = _ from r2)
    refine ⟨p, s, ns, n, rfl, hp.ok _ A2.j, hp.ne, h0, h1, fun r H' g0 g1 bp po => ?_⟩
    have bt : But φ H2 H' := butP_but bp hp.np po
    have bt' : ∀ a, H2 a ≠ none → H' a ≠ none := bt.tr
    refine q _ (.int r) H' ((b1.trans b2).trans bt) ⟨A2.sr.up (Up.of bt), A2.fr.butP bp po bt', hp.st _ _ A2.j bp po, A2.mono.up bt'⟩ ⟨r, rfl, g0, g1⟩ rfl
/-- where the bound is drawn too -/
theorem ev_drawP {E : XK} {p s : Addr} {ns : List Int} {pn : Int → Prop} {k : Nat} (hp : Pooled φ J p s ns) (hk : ρ[k]? = some (some (.raw (.ref p)))) (he : EvI K φ J te ρ pn) (h0 : ∀ n, pn n → 0 < n ∧ n < 4294967296) :
    EvI K φ J (tCall spDraw [] E (tCons (tVar k) (tCons te tNil))) ρ (fun r => 0 ≤ r ∧ ∃ n, pn n ∧ r < n) := fun σ H A Q q =>
  ev_var hk σ H A _ fun v d H1 b1 A1 e1 r1 => he σ H1 A1 _ fun v2 d2 H2 b2 A2 ⟨n, e2, hn⟩ r2 => by
    subst e1 e2
    cases (show v = _ from r1)
    cases (show v2 = _ from r2)
    refine ⟨p, s, ns, n, rfl, hp.ok _ A2.j, hp.ne, (h0 n hn).1, (h0 n hn).2, fun r H' g0 g1 bp po => ?_⟩
    have bt : But φ H2 H' := butP_but bp hp.np po
    have bt' : ∀ a, H2 a ≠ none → H' a ≠ none := bt.tr
    refine q _ (.int r) H' ((b1.trans b2).trans bt) ⟨A2.sr.up (Up.of bt), A2.fr.butP bp po bt', hp.st _ _ A2.j bp po, A2.mono.up bt'⟩ ⟨r, rfl, g0, n, hn, g1⟩ rfl
/-! P-mode operators on ints -/
theorem ei_add {p q : Int → Prop} (ha : EvI K φ J ta ρ p) (hb : EvI K φ J tb ρ q) : EvI K φ J (tOp (rI0 fun i j => .int (i + j)) ta tb) ρ (fun k => ∃ i j, p i ∧ q j ∧ k = i + j) := ev_op ha hb fun x y ⟨i, e1, pi⟩ ⟨j, e2, qj⟩ => by
  subst e1 e2
  exact fun H v w _ r1 r2 Q k => ⟨i, j, r1, r2, k _ _ H (Same.refl H) ⟨_, rfl, i, j, pi, qj, rfl⟩ rfl⟩
theorem ei_sub {p q : Int → Prop} (ha : EvI K φ J ta ρ p) (hb : EvI K φ J tb ρ q) : EvI K φ J (tOp (rI0 fun i j => .int (i - j)) ta tb) ρ (fun k => ∃ i j, p i ∧ q j ∧ k = i - j) := ev_op ha hb fun x y ⟨i, e1, pi⟩ ⟨j, e2, qj⟩ => by
  subst e1 e2
  exact fun H v w _ r1 r2 Q k => ⟨i, j, r1, r2, k _ _ H (Same.refl H) ⟨_, rfl, i, j, pi, qj, rfl⟩ rfl⟩
theorem ei_mul {p q : Int → Prop} (ha : EvI K φ J ta ρ p) (hb : EvI K φ J tb ρ q) (hc : ∀ i j, p i → q j → CMul i j) : EvI K φ J (tOp (rI CMul fun i j => .int (i * j)) ta tb) ρ (fun k => ∃ i j, p i ∧ q j ∧ k = i * j) := ev_op ha hb fun x y ⟨i, e1, pi⟩ ⟨j, e2, qj⟩ => by
  subst e1 e2
  exact fun H v w _ r1 r2 Q k => ⟨i, j, r1, r2, hc i j pi qj, k _ _ H (Same.refl H) ⟨_, rfl, i, j, pi, qj, rfl⟩ rfl⟩
theorem eb_cmp {f : Int → Int → Bool} {p q : Int → Prop} (ha : EvI K φ J ta ρ p) (hb : EvI K φ J tb ρ q) : EvB K φ J (tOp (rI0 fun i j => .bl (f i j)) ta tb) ρ (fun k => ∃ i j, p i ∧ q j ∧ k = f i j) := ev_op ha hb fun x y ⟨i, e1, pi⟩ ⟨j, e2, qj⟩ => by
  subst e1 e2
  exact fun H v w _ r1 r2 Q k => ⟨i, j, r1, r2, k _ _ H (Same.refl H) ⟨_, rfl, i, j, pi, qj, rfl⟩ rfl⟩
theorem eb_eq {p q : Int → Prop} (ha : EvI K φ J ta ρ p) (hb : EvI K φ J tb ρ q) : EvB K φ J (tOp rEq ta tb) ρ (fun k => ∃ i j, p i ∧ q j ∧ k = decide (i = j)) := ev_op ha hb fun x y ⟨i, e1, pi⟩ ⟨j, e2, qj⟩ => by
  subst e1 e2
  exact fun H v w f r1 r2 Q k => o2_eqI (φ := φ) (K := K) H v w f r1 r2 Q fun u z H' s e r => k u z H' s ⟨_, e, i, j, pi, qj, rfl⟩ r
theorem ei_intB {p : Bool → Prop} (ha : EvB K φ J te ρ p) : EvI K φ J (tCB rInt1 (tCons te tNil)) ρ (fun k => ∃ b, p b ∧ k = if b then 1 else 0) := ev_cb (ea_consP ha ea_nil) fun ds ⟨d, r, e, ⟨b, e1, pb⟩, e2⟩ => by
  subst e e1 e2
  exact fun H vs f r Q k => cl_intB (K := K) (φ := φ) H vs f r Q fun u z H' s e r => k u z H' s ⟨_, e, b, pb, rfl⟩ r
end
end DL
namespace DL
open PySem PySem.Spec PyProof.Rows L2

/-- a def of the top as others call it -/
structure Lk (K : PySem.W.Frag) (mg : Str → Option Value) (x : Str) (f : Addr) (fd : FuncData) (ps : List Str) : Prop where
  m : mg x = some (.ref f)
  kp : PySem.W.keepIn K (.ref f) = true
  bi : Binds K fd ps []
section
variable {X : Cx} {x : Str} {pos : Pos}
/-- a built-in class as a value -/
theorem pe_ty {n : String} (hm : X.mg x = none) (hv : bootBuiltins x = some (.type n)) (hg : Gl X x := by rfl) (hn : x ≠ "__name__" := by decide) (hd : (x == ("__debug__" : Str)) = false := by decide) : PE X (.Name x pos) (tC (.ty n)) := pe_bltn hg hm hv rfl hn hd
/-- a constant of the module -/
theorem pe_cst {v : V} (h : ∃ u, X.mg x = some u ∧ RelV v u) (hg : Gl X x := by rfl) (hd : (x == ("__debug__" : Str)) = false := by decide) : PE X (.Name x pos) (tC v) := by
  obtain ⟨u, hm, r⟩ := h
  exact pe_glob hg hm r hd
end

def Stab (p : Addr) (J : Hp → Prop) : Prop := ∀ H o, J H → J (L2.upd H p o)
theorem Stab.and {p : Addr} {J J' : Hp → Prop} (a : Stab p J) (b : Stab p J') : Stab p (fun H => J H ∧ J' H) := fun H o h => ⟨a H o h.1, b H o h.2⟩
theorem Stab.but {p : Addr} {φ : Addr → Prop} {H0 : Hp} (h : ¬ φ p ∨ H0 p = none) : Stab p (But φ H0) := fun H o b => ⟨fun a u pa e => by
  have ne : a ≠ p := fun z => h.elim (fun n => n (z ▸ pa)) fun n => by rw [z, n] at e; cases e
  rw [upd_ne ne]
  exact b.keep a u pa e, fun a h => upd_tr a (b.tr a h)⟩
theorem Stab.at {p l : Addr} {u : HO} (h : l ≠ p) : Stab p (fun H => H l = some u) := fun H o e => by
  show L2.upd H p o l = some u
  rw [upd_ne h]
  exact e
theorem Stab.of {p : Addr} {J : Hp → Prop} {H0 : Hp} (m : Mo H0 J) (h : H0 p = none) : Stab p J := fun H o j => m H _ (fun a u ha e => by
  rw [upd_ne (show a ≠ p from fun z => ha (by rw [z]; exact h))]
  exact e) j

section
variable {K : PySem.W.Frag} {φ φ' : Addr → Prop} {J J' : Hp → Prop} {H H' H1 : Hp} {ρ ρ' : List (Option D)} {σ : L2.St} {ta tb te tc : TE} {x y z d : D} {P Pa Pb Pc : D → Prop} {i j : Int} {b c : Bool} {ds es : List D} {v : V} {vs : List V} {a : Addr} {D0 : Ends} {t u : TS}
/-- a new list comes out -/
def EvN (K : PySem.W.Frag) (φ : Addr → Prop) (J : Hp → Prop) (te : TE) (ρ : List (Option D)) (P : List D → Prop) : Prop := ∀ σ H, At K φ J ρ σ H → ∀ Q : VK, (∀ p vs ds H0 H', But φ H H0 → At K φ J ρ σ H0 → H0 p = none → But φ H0 H' → At K φ J ρ σ H' → P ds → H' p = some (.lst vs) → Reps K (fun a => φ a ∧ a ≠ p) H' ds vs → Q (.ref p) H') → te σ H Q
theorem ev_new {P : List D → Prop} (h : EvN K φ J te ρ P) : EvP K φ J te ρ (fun z => ∃ ds, z = .lst ds ∧ P ds) := fun σ H A Q q => h σ H A Q fun p vs ds H0 H' b0 A0 hp b A' pd e r =>
  q _ (.lst ds) H' (b0.trans b) A' ⟨ds, rfl, pd⟩ ⟨p, vs, rfl, .inl ⟨A0.fr p hp, .inl e⟩, Reps.up (fun a o p e => ⟨p.1, e⟩) ds vs r⟩
theorem ev_newD (h : EvN K φ J te ρ (fun x => x = ds)) : EvD K φ J te ρ (.lst ds) := (ev_new h).imp fun z ⟨ds', e, e2⟩ => by rw [e, e2]
theorem reps_new {p : Addr} {o : HO} (hp : H p = none) (r : Reps K φ H ds vs) : Reps K (fun a => φ a ∧ a ≠ p) (L2.upd H p o) ds vs :=
  Reps.up (fun a u q e => ⟨⟨q, ne_of_none e hp⟩, by rw [upd_ne (ne_of_none e hp)]; exact e⟩) ds vs r
theorem en_lst {ta : TA} {Pr : List D → Prop} (ha : EvA K φ J ta ρ Pr) (hl : ∀ r, Pr r → r.length ≤ 1000000) : EvN K φ J (tLst ta) ρ Pr := fun σ H A Q q =>
  ha σ H A _ fun vs ds H1 b1 A1 pd r1 => ⟨by rw [r1.length]; exact sz (hl _ pd), fun p hp => q p vs ds H1 _ b1 A1 hp (But.of (same_new hp)) (A1.same (same_new hp)) pd upd_same (reps_new hp r1)⟩
theorem en_lstD {ta : TA} (ha : EvAD K φ J ta ρ ds) (hl : ds.length ≤ 1000000 := by first | exact Nat.le_of_ble_eq_true rfl | decide) : EvN K φ J (tLst ta) ρ (fun x => x = ds) := en_lst ha fun r e => by rw [e]; exact hl
theorem en_list (ha : EvD K φ J te ρ (.lst ds)) : EvN K φ J (tCB (rListOf K) (tCons te tNil)) ρ (fun x => x = ds) := fun σ H A Q q => ha σ H A _ fun v d H1 b1 A1 e r => by
  subst e
  obtain ⟨a, vs, rfl, p, rs⟩ := rep_lst r
  exact ⟨a, vs, rfl, .inl p.sq, fun l hl => q l vs ds H1 _ b1 A1 hl (But.of (same_new hl)) (A1.same (same_new hl)) rfl upd_same (reps_new hl rs)⟩
theorem en_listT (ha : EvD K φ J te ρ (.tup ds)) : EvN K φ J (tCB (rListOf K) (tCons te tNil)) ρ (fun x => x = ds) := fun σ H A Q q => ha σ H A _ fun v d H1 b1 A1 e r => by
  subst e
  obtain ⟨a, vs, rfl, p, rs⟩ := rep_tup r
  exact ⟨a, vs, rfl, .inr p.sq, fun l hl => q l vs ds H1 _ b1 A1 hl (But.of (same_new hl)) (A1.same (same_new hl)) rfl upd_same (reps_new hl rs)⟩
theorem en_lcP {wi : TI} {g : TG} {tt : TT} {te : TE} {ws us : List Nat} {Pi : List D → Prop} {ρd : D → List (Option D)} {pt : D → Bool → Prop} {pe : D → D → Prop} (hi : IterP K φ J wi ρ Pi) (hl : ∀ ds, Pi ds → ds.length ≤ 1000000) (hu : ∀ i ∈ us, i ∈ ws)
    (hg : ∀ ds, Pi ds → ∀ d ∈ ds, EvG K g d (wipeR ρ ws) (ρd d) us)
    (ht : ∀ ds, Pi ds → ∀ d ∈ ds, ∀ φ' J', Ext φ J φ' J' → EvT K φ' J' tt (ρd d) (pt d))
    (he : ∀ ds, Pi ds → ∀ d ∈ ds, pt d true → ∀ φ' J', Ext φ J φ' J' → EvP K φ' J' te (ρd d) (pe d)) :
    EvN K φ J (tLc wi g tt te ws) ρ (fun ys => ∃ ds, Pi ds ∧ Comp pt pe ds ys) := fun σ H A Q q => by
  refine hi σ H A _ fun J0 ds H1 b1 A1 pd w => ?_
  intro D0 hD
  have neP : ∀ p s ns, Pooled φ J p s ns → p ≠ D0 := fun p s ns hp => by
    obtain ⟨a1, a2, a3, a4, h1, _⟩ := hp.ok _ A1.j
    exact ne_of_none h1 hD
  let φ' : Addr → Prop := fun a => φ a ∧ a ≠ D0
  have ext : ∀ acc : List V, Ext φ J φ' (fun H => J H ∧ H D0 = some (.lst acc)) := fun acc => ⟨fun _ h => h.1, fun p s ns hp => ⟨fun z => hp.np z.1, hp.ne, fun H h => hp.ok H h.1, fun H H' h k o => ⟨hp.st H H' h.1 k o, k _ _ (neP p s ns hp).symm h.2⟩⟩, fun a p h => ⟨p, fun e => h H1 A1.j (by rw [e]; exact hD)⟩⟩
  have mono : ∀ (acc : List V) (H2 : Hp), (∀ a, H1 a ≠ none → H2 a ≠ none) → H2 D0 ≠ none → Mo H2 (fun H => J H ∧ H D0 = some (.lst acc)) := fun acc H2 s h => (A1.mono.up s).and (Mo.at h)
  refine ⟨fun i m H2 => m = ds.length - i ∧ i ≤ ds.length ∧ But φ H1 H2 ∧ ∃ acc ys, Reps K φ' H2 ys acc ∧ Comp pt pe (ds.take i) ys ∧ At K φ' (fun H => J H ∧ H D0 = some (.lst acc)) (wipeR ρ ws) (L2.wipe σ ws) H2,
    ⟨ds.length, rfl, Nat.zero_le _, But.of (same_new hD), [], [], Reps.nil, .nil, ?_⟩, ?_⟩
  · have A2 := A1.newLive (o := .lst []) (J' := fun H => J H ∧ H D0 = some (.lst [])) hD ⟨A1.mono _ _ (fun a o _ e => same_new hD a o e) A1.j, upd_same⟩ (mono [] _ upd_tr (by rw [upd_same]; exact fun z => by cases z))
    exact ⟨A2.sr.wipe ws, A2.fr, A2.j, A2.mono⟩
  · rintro i m H2 ⟨rfl, hi, b2, acc, ys, rs, cp, A2⟩
    have upw : Up φ φ' H1 H2 := fun a o p e => ⟨⟨p, ne_of_none e hD⟩, b2.keep a o p e⟩
    have fr2 : Frm φ' H2 := A2.fr
    obtain ⟨wg, wstop⟩ := w φ' i H2 upw fr2
    by_cases hlt : i < ds.length
    · have hd : ds[i]? = some ds[i] := List.getElem?_eq_getElem hlt
      obtain ⟨go, yl⟩ := wg _ hd
      refine .inr ⟨go, fun H3 => But φ H1 H3 ∧ ∃ acc ys, Reps K φ' H3 ys acc ∧ Comp pt pe (ds.take (i + 1)) ys ∧ At K φ' (fun H => J H ∧ H D0 = some (.lst acc)) (wipeR ρ ws) (L2.wipe σ ws) H3, ?_, ?_⟩
      · rintro H3 ⟨b3, acc3, ys3, r3, c3, A3⟩
        exact ⟨ds.length - (i + 1), by omega, rfl, hlt, b3, acc3, ys3, r3, c3, A3⟩
      · intro x H3 hy
        obtain ⟨s3, r3⟩ := yl x H3 hy
        have A3 := A2.same s3
        have rs3 := rs.mono (But.of (φ := φ') s3)
        have b3 : But φ H1 H3 := b2.trans (But.of s3)
        have hmem : ds[i] ∈ ds := List.getElem_mem hlt
        have tk : ds.take (i + 1) = ds.take i ++ [ds[i]] := by rw [List.take_add_one, hd]; rfl
        refine hg ds pd _ hmem φ' _ _ H3 x A3 r3 _ fun σ4 A4 hw4 => ⟨?_, ?_⟩
        · rw [hw4 ws hu]
          exact wipe_wipe ws
        · refine ht ds pd _ hmem φ' _ (ext acc) σ4 H3 A4 _ fun bb H5 b5 A5 hp => ?_
          have b35 : But φ H1 H5 := ⟨fun a o p e => b5.keep a o ⟨p, ne_of_none e hD⟩ (b3.keep a o p e), fun a h => b5.tr a (b3.tr a h)⟩
          have A5' : At K φ' (fun H => J H ∧ H D0 = some (.lst acc)) (wipeR ρ ws) (L2.wipe σ ws) H5 := ⟨A3.sr.up (Up.of b5), A5.fr, A5.j, A5.mono⟩
          cases bb with
          | false =>
            rw [if_neg (by simp)]
            exact ⟨b35, acc, ys, rs3.mono b5, by rw [tk]; exact cp.snoc0 hp, A5'⟩
          | true =>
            rw [if_pos rfl]
            refine he ds pd _ hmem hp φ' _ (ext acc) σ4 H5 A5 _ fun v d H6 b6 A6 pv r6 => ?_
            have rl := (rs3.mono b5).mono b6
            have nD : ¬ φ' D0 := fun z => z.2 rfl
            have cl := cp.len
            refine ⟨acc, A6.j.2, ?_, ?_, acc ++ [v], ys ++ [d], ?_, by rw [tk]; exact cp.snoc1 hp pv, ?_⟩
            · rw [rl.length]
              have h1 := hl ds pd
              rw [List.length_take] at cl
              exact szlt (by omega)
            · refine ⟨fun a o p e => ?_, fun a h => upd_tr a (b6.tr a (b35.tr a h))⟩
              have ne := ne_of_none e hD
              rw [upd_ne ne]
              exact b6.keep a o ⟨p, ne⟩ (b35.keep a o p e)
            · exact (rl.append (Reps.cons r6 Reps.nil)).mono ((But.refl φ' H6).upd nD)
            · have A6' : At K φ' (fun H => J H ∧ H D0 = some (.lst acc)) (wipeR ρ ws) (L2.wipe σ ws) H6 := ⟨A5'.sr.up (Up.of b6), A6.fr, A6.j, A6.mono⟩
              have jj : J (upd H6 D0 (.lst (acc ++ [v]))) := A1.mono H6 _ (fun a o h e => by
                rw [upd_ne (show a ≠ D0 from fun z => h (by rw [z]; exact hD))]
                exact e) A6.j.1
              exact A6'.upd nD ⟨jj, upd_same⟩ (mono _ _ (fun a h => upd_tr a (b6.tr a (b35.tr a h))) (by rw [upd_same]; exact fun z => by cases z))
    · have e : i = ds.length := by omega
      subst e
      refine .inl ⟨wstop rfl, ?_⟩
      rw [List.take_length] at cp
      have A3 : At K φ J ρ σ H2 := ⟨A1.sr.up (Up.of b2), A2.fr.fst, A2.j.1, A1.mono.up b2.tr⟩
      exact q D0 acc ys H1 H2 b1 A1 hD b2 A3 ⟨ds, pd, cp⟩ A2.j.2 rs
theorem en_lc {wi : TI} {te : TE} {k : Nat} {f : D → D} (hi : IterD K φ J wi ρ ds) (hl : ds.length ≤ 1000000) (he : ∀ d ∈ ds, ∀ φ' J', Ext φ J φ' J' → EvD K φ' J' te ((wipeR ρ [k]).set k (some d)) (f d)) :
    EvN K φ J (tLc wi (gName k) tYes te [k]) ρ (fun x => x = ds.map f) := fun σ H A Q q =>
  (en_lcP (ρd := fun d => (wipeR ρ [k]).set k (some d)) (us := [k]) (pt := fun _ b => b = true) (pe := fun d y => y = f d) hi (fun ds' e => by rw [e]; exact hl) (fun _ h => h) (fun _ _ d _ => eg_name)
    (fun _ _ d _ φ' J' _ => et_yes) (fun ds' e d hd _ φ' J' x => he d (e ▸ hd) φ' J' x)) σ H A Q fun p vs ys H0 H' b0 A0 hp b A' pd e r => by
      obtain ⟨ds', e1, c⟩ := pd
      subst e1
      exact q p vs ys H0 H' b0 A0 hp b A' c.map e r
theorem en_lcE {wi : TI} {te : TE} {k : Nat} {Pi : List D → Prop} {pe : D → D → Prop} (hi : IterP K φ J wi ρ Pi) (hl : ∀ ds, Pi ds → ds.length ≤ 1000000) (he : ∀ ds, Pi ds → ∀ d ∈ ds, ∀ φ' J', Ext φ J φ' J' → EvP K φ' J' te ((wipeR ρ [k]).set k (some d)) (pe d)) :
    EvN K φ J (tLc wi (gName k) tYes te [k]) ρ (fun ys => ∃ ds, Pi ds ∧ Comp (fun _ b => b = true) pe ds ys) :=
  en_lcP (ρd := fun d => (wipeR ρ [k]).set k (some d)) (us := [k]) hi hl (fun _ h => h) (fun _ _ d _ => eg_name) (fun _ _ d _ φ' J' _ => et_yes) (fun ds' e d hd _ φ' J' x => he ds' e d hd φ' J' x)
/-- xs + ys, both new -/
theorem en_cat (ha : EvN K φ J ta ρ (fun x => x = ds)) (hb : EvN K φ J tb ρ (fun x => x = es)) (hz : ds.length + es.length ≤ 1000000) : EvN K φ J (tOp rCat ta tb) ρ (fun x => x = ds ++ es) := fun σ H A Q q =>
  ha σ H A _ fun p vs ds' H0 H1 b0 A0 hp b1 A1 pd e1 r1 => hb σ H1 A1 _ fun p2 ws es' H2 H3 b2 A2 hp2 b3 A3 pe e3 r3 => by
    subst pd pe
    have e1' : H3 p = some (.lst vs) := b3.keep _ _ (A0.fr p hp) (b2.keep _ _ (A0.fr p hp) e1)
    have r1' : Reps K φ H3 ds' vs := (Reps.up (fun a o q e => ⟨q.1, e⟩) ds' vs r1).mono (b2.trans b3)
    have r3' : Reps K φ H3 es' ws := Reps.up (fun a o q e => ⟨q.1, e⟩) es' ws r3
    refine ⟨p, p2, vs, ws, rfl, rfl, e1', e3, by rw [r1.length, r3.length]; exact sz hz, fun p4 hp4 => ?_⟩
    exact q p4 _ _ H3 _ (((b0.trans b1).trans b2).trans b3) A3 hp4 (But.of (same_new hp4)) (A3.same (same_new hp4)) rfl upd_same (reps_new hp4 (r1'.append r3'))
/-- x = a new list; it is live from then on -/
theorem st_new {k : Nat} {P : List D → Prop} (A : At K φ J ρ σ H) (h : EvN K φ J te ρ P) (kk : ∀ p vs ds σ' H', P ds → H p = none → φ p → Reps K (fun a => φ a ∧ a ≠ p) H' ds vs → Stab p J → (∀ s ps ns, Pooled φ J ps s ns → ps ≠ p ∧ s ≠ p) → But φ H H' → H' p = some (.lst vs) →
    At K (fun a => φ a ∧ a ≠ p) (fun H => (J H ∧ H p = some (.lst vs)) ∧ But (fun a => φ a ∧ a ≠ p) H' H) (ρ.set k (some (.raw (.ref p)))) σ' H' → D0.nx σ' H') : tAsg te (gName k) D0 σ H :=
  h σ H A _ fun p vs ds H0 H' b0 A0 hp b A' pd e r => by
    have hpH : H p = none := by
      cases z : H p with
      | none => rfl
      | some u => exact absurd hp (b0.tr p (by rw [z]; exact fun w => by cases w))
    have st : Stab p J := Stab.of A0.mono hp
    have neP : ∀ s ps ns, Pooled φ J ps s ns → ps ≠ p ∧ s ≠ p := fun s ps ns hq => by
      obtain ⟨a1, a2, a3, a4, h1, h2⟩ := hq.ok _ A0.j
      exact ⟨ne_of_none h1 hp, ne_of_none h2.1 hp⟩
    have u : Up φ (fun a => φ a ∧ a ≠ p) H H' := fun a o q e2 => ⟨⟨q, ne_of_none e2 hpH⟩, (b0.trans b).keep a o q e2⟩
    have sr : SR K (fun a => φ a ∧ a ≠ p) H' ρ σ := A.sr.up u
    have A2 : At K (fun a => φ a ∧ a ≠ p) (fun H => (J H ∧ H p = some (.lst vs)) ∧ But (fun a => φ a ∧ a ≠ p) H' H) ρ σ H' :=
      ⟨sr, A'.fr.at e (fun xs h => nomatch h), ⟨⟨A'.j, e⟩, But.refl _ _⟩, (A'.mono.and (Mo.at (by rw [e]; exact fun w => by cases w))).and (Mo.but fun _ h => h)⟩
    exact kk p vs ds _ H' pd hpH (A0.fr p hp) r st neP (b0.trans b) e (A2.set k rfl)
/-- .append on a live list -/
theorem st_app {k : Nat} {l : Addr} (A : At K φ J ρ σ H) (hk : ρ[k]? = some (some (.raw (.ref l)))) (hv : ∀ H, J H → H l = some (.lst vs)) (he : EvP K φ J te ρ P) (hz : vs.length ≤ 1000000)
    (kk : ∀ v d H', P d → Rep K φ H' d v → But φ H H' → At K φ J ρ σ H' → D0.nx σ (L2.upd H' l (.lst (vs ++ [v])))) : tDrop (tBM K "list" rAppend (tVar k) (tCons te tNil)) D0 σ H := by
  obtain ⟨w, e, r⟩ := A.sr.2 k _ hk
  cases (show w = _ from r)
  refine ⟨_, e, .inl ⟨rfl, _, SqL.of (hv H A.j)⟩, he σ H A _ fun v d H' b A' pd r' => ⟨l, vs, v, rfl, rfl, hv H' A'.j, szlt hz, kk v d H' pd r' b A'⟩⟩
/-- len of a live list -/
theorem ev_lenLive {l : Addr} (hk : EvD K φ J ta ρ (.raw (.ref l))) (hv : ∀ H, J H → H l = some (.lst vs)) : EvD K φ J (tCB (rLen K) (tCons ta tNil)) ρ (.int vs.length) := fun σ H A Q q =>
  hk σ H A _ fun v d H1 b1 A1 e1 r1 => by
    subst e1
    cases (show v = _ from r1)
    exact ⟨l, vs, rfl, .inl (SqL.of (hv H1 A1.j)), q _ _ H1 b1 A1 rfl rfl⟩
/-- a live list's item -/
theorem ev_ixLive {l : Addr} (hk : EvD K φ J ta ρ (.raw (.ref l))) (hb : EvD K φ J tb ρ (.int i)) (hv : ∀ H, J H → ∃ vs, H l = some (.lst vs) ∧ ∃ v, atI vs i = some v ∧ Rep K φ H d v) : EvD K φ J (tOp (rIxL K) ta tb) ρ d := fun σ H A Q q =>
  hk σ H A _ fun v x H1 b1 A1 e1 r1 => hb σ H1 A1 _ fun w y H2 b2 A2 e2 r2 => by
    subst e1 e2
    cases (show v = _ from r1)
    cases (show w = _ from r2)
    obtain ⟨vs, e, u, hu, ru⟩ := hv H2 A2.j
    exact ⟨l, vs, i, u, rfl, rfl, SqL.of e, hu, q u d H2 (b1.trans b2) A2 rfl ru⟩
/-- xs[i] = e on a live list -/
theorem st_setL {k n : Nat} {l : Addr} (A : At K φ J ρ σ H) (he : EvP K φ J te ρ P) (hk : ρ[k]? = some (some (.raw (.ref l)))) (hi : EvD K φ J tb ρ (.int i)) (hv : ∀ H, J H → H l = some (.lst vs)) (hj : ixN vs.length i = some n)
    (kk : ∀ v d H', P d → Rep K φ H' d v → But φ H H' → At K φ J ρ σ H' → D0.nx σ (L2.upd H' l (.lst (vs.set n v)))) : tAsg te (gSub (tVar k) tb rSetL) D0 σ H :=
  he σ H A _ fun v d H1 b1 A1 pd r1 => ev_var hk σ H1 A1 _ fun w x H2 b2 A2 e2 r2 => hi σ H2 A2 _ fun u y H3 b3 A3 e3 r3 => by
    subst e2 e3
    cases (show w = _ from r2)
    cases (show u = _ from r3)
    exact ⟨l, vs, i, n, rfl, rfl, hv H3 A3.j, hj, kk v d H3 pd ((r1.mono b2).mono b3) ((b1.trans b2).trans b3) A3⟩
/-- a subscript of a tuple or a list -/
def seqOf : D → Option (List D)
  | .tup ds => some ds
  | .lst ds => some ds
  | _ => none
theorem ev_ixQ (ha : EvD K φ J ta ρ x) (hx : seqOf x = some ds) (hb : EvD K φ J tb ρ (.int i)) (e : L2.atI ds i = some d) : EvD K φ J (tOp (rIx K) ta tb) ρ d := ev_opD ha hb fun H v w f r1 r2 Q q => by
  cases x with
  | tup es =>
    cases hx
    exact .inr (.inl (o2_ixT (φ := φ) e H v w f r1 r2 Q q))
  | lst es =>
    cases hx
    exact .inl (o2_ixL (φ := φ) e H v w f r1 r2 Q q)
  | _ => cases hx
theorem q_cut {M : L2.St → Hp → Prop} (h : t { D0 with nx := M } σ H) (k : ∀ σ' H', M σ' H' → u D0 σ' H') : C8.tCut t u D0 σ H := ⟨M, h, k⟩
theorem ev_lenQ (ha : EvD K φ J te ρ x) (hx : seqOf x = some ds) : EvD K φ J (tCB (rLen K) (tCons te tNil)) ρ (.int ds.length) := by
  cases x with
  | tup es => cases hx; exact ev_lenT ha
  | lst es => cases hx; exact ev_lenL ha
  | _ => cases hx
end
end DL
namespace DL
open PySem PySem.Spec PyProof.Rows L2
def top (i : Nat) : Stmt := PySem.Challenge.pw_airwave_k55_texts_of_refusals.main.body.getD i (.Pass ⟨0, 0, 0, 0⟩)
abbrev s_read_number : Stmt := top 7
abbrev s_refusal_text : Stmt := top 8
abbrev s_TreeReader___init__ : Stmt := inClass (top 9) 0
abbrev s_TreeReader_number : Stmt := inClass (top 9) 1
abbrev s_TreeReader_tree : Stmt := inClass (top 9) 2
abbrev s_read_refusal : Stmt := top 10
abbrev s__law_same : Stmt := top 12
abbrev s__law_is_integer : Stmt := top 13
abbrev s__law_pool : Stmt := top 14
abbrev s__law_spread : Stmt := top 15
abbrev s__law_draw : Stmt := top 16
abbrev s__law_some_tree : Stmt := top 17
abbrev s__law_tree_text : Stmt := top 18
abbrev s__law_count_word : Stmt := top 19
abbrev s__law_take : Stmt := top 20
abbrev s__law_reads : Stmt := top 21
abbrev s__law_told : Stmt := top 22
abbrev s_law : Stmt := top 23
-- import KE.GoesEnumKw
-- import HandS.SortKw
/-! ### enumerate over a list or a tuple, from any count -/
section
variable {P : Program} {w : World} {K : PySem.W.Frag}
def Itn (Sq : Hp → List V → Prop) (k : Int) : It :=
  ⟨fun i H => ∃ (xs : List V) (x : V), Sq H xs ∧ xs[i]? = some x, fun i H v H' => ∃ T x, v = .ref T ∧ H T = none ∧ H' = upd H T (.tup [.int (k + (i : Nat)), x]) ∧ ∀ xs, Sq H xs → xs[i]? = some x, fun i H => ∃ xs : List V, Sq H xs ∧ xs.length = i⟩
structure EnSrc (P : Program) (w : World) (K : PySem.W.Frag) (a it : Addr) (Sq : Hp → List V → Prop) (Ho : Heap → Array Value → Prop) (Is : Nat → Heap → Prop) : Prop where
  src : ∀ (X : Cx) pins σ H s xs, X.K = K → Inv X pins σ H s → Sq H xs → ∃ its : List Value, Vals xs its ∧ Ho s.heap its.toArray ∧ xs.length ≤ sizeLine
  inj : ∀ (X : Cx) pins σ H s xs ys, X.K = K → Inv X pins σ H s → Sq H xs → Sq H ys → xs = ys
  draws : ∀ (A : Around) (items : Array Value), A.handled = none → a ≠ it → Draws P w A it [it, a] items.size (fun i v => items[i]? = some v) (fun i h => Is i h ∧ Ho h items)
  at' : ∀ i h h', Is i h → (∀ o, h.get? it = some o → h'.get? it = some o) → Is i h'
  live : ∀ i h, Is i h → ∃ o, h.get? it = some o ∧ (∀ v, o.data ≠ .cell v)
  ne : ∀ i h items, Is i h → Ho h items → a ≠ it
  nea : ∀ h items e c old, Ho h items → IsEnum h e it c old → e ≠ a
  nei : ∀ i h e c old, Is i h → IsEnum h e it c old → e ≠ it
theorem turn_enumN {elts : List Expr} {kk : Nat} {tpos : Pos} {a e it : Addr} {Sq : Hp → List V → Prop} {Ho : Heap → Array Value → Prop} {Is : Nat → Heap → Prop} (k : Int) (Z : EnSrc P w K a it Sq Ho Is) :
    Turn P w K (.Tuple elts kk tpos) (Itn Sq k) [e, it] e (fun i h => (∃ old, IsEnum h e it (k + ((i : Nat) : Int)) old) ∧ Is i h) where
  mem := by simp
  obj := fun i h st b hb => by
    obtain ⟨⟨old, he⟩, hi⟩ := st
    obtain ⟨o, ho, hd⟩ := Z.live i h hi
    have e' : b = e ∨ b = it := by simpa using hb
    rcases e' with z | z
    · rw [z]; exact ⟨_, he, fun v q => nomatch q⟩
    · rw [z]; exact ⟨o, ho, hd⟩
  keep := fun i h h' st kp => ⟨let ⟨old, he⟩ := st.1; ⟨old, kp e (by simp) _ he⟩, Z.at' i h h' st.2 fun o q => kp it (by simp) o q⟩
  item := by
    intro X hP hw hK hc i pins s σ H E I hf st hg
    obtain ⟨⟨old, he⟩, hit⟩ := st
    obtain ⟨xs, x, hq, hx⟩ := hg
    obtain ⟨its, rv, p, hz⟩ := Z.src X pins σ H s xs hK I hq
    obtain ⟨u, hu, ru⟩ := rv.get hx
    have hne : e ≠ it := Z.nei i _ e _ _ hit he
    have hea : e ≠ a := Z.nea _ _ e _ _ p he
    have hel : e < s.heap.objs.size := Heap.lt_size he
    have hil : it < s.heap.objs.size := by obtain ⟨_, q, _⟩ := Z.live i _ hit; exact Heap.lt_size q
    have hilt : i < its.toArray.size := by
      have := (List.getElem?_eq_some_iff.mp hu).1
      simpa using this
    subst hP hw
    refine wpAny_pyNext_enum_itemC (Z.draws X.A.in1 its.toArray (I.ok.hd hc) (Z.ne i _ _ hit p)) he ⟨hit, p⟩ hilt hne (by simp [hne, hea]) fun u' h' tk hP' ho hit' hT hsz hk => ?_
    have hu' : u' = u := by
      have : its.toArray[i]? = some u := by simpa using hu
      rw [this] at hP'
      exact (Option.some.inj hP').symm
    subst hu'
    refine ⟨_, rfl, wpAny_letOwnedTupleGo_enum (s := { s with heap := h', toks := tk + 1 }) ho fun h'' he' sb => ?_⟩
    have hT2 : h''.get? s.heap.objs.size = some { cls := .type "tuple", data := .seq #[.int (k + (i : Int)) tk, u'] } := (sb.2 _ (Nat.ne_of_gt hel)).trans hT
    have new : ObjOk X.prog X.w (upd H s.heap.objs.size (.tup [.int (k + (i : Nat)), x])) h'' s.heap.objs.size (.tup [.int (k + (i : Nat)), x]) :=
      ⟨by show 2 ≤ sizeLine; decide, [.int (k + (i : Int)) tk, u'], .cons ⟨_, rfl⟩ (.cons ru .nil), ⟨_, hT2, rfl, _, rfl⟩⟩
    have I1 : Inv X pins σ (upd H s.heap.objs.size (.tup [.int (k + (i : Nat)), x])) { s with heap := h'', toks := tk + 1 } :=
      I.turnedNew (ch := [e, it]) (fun b ob hb q => (sb.2 b (fun z => hb (by simp [z]))).trans (hk b ob (fun z => hb (by simp [z])) (fun z => hb (by simp [z])) q)) hf (Nat.le_refl _) new
    refine ⟨.ref s.heap.objs.size, _, I1, rfl, ⟨_, x, rfl, I.hok.fresh (Nat.le_refl _), rfl, fun ys hy => by rw [Z.inj X pins σ H s ys xs hK I hy hq]; exact hx⟩, ⟨⟨u', ?_⟩, Z.at' _ _ _ hit'.1 fun o q => (sb.2 it (Ne.symm hne)).trans q⟩, fun b hb => ?_⟩
    · have e1 : k + ((i + 1 : Nat) : Int) = k + (i : Int) + 1 := by omega
      rw [e1]; exact he'
    · have hb' : b < s.heap.objs.size := by
        have e' : b = e ∨ b = it := by simpa using hb
        rcases e' with z | z
        · rw [z]; exact hel
        · rw [z]; exact hil
      rw [upd_ne (Nat.ne_of_lt hb')]
      exact (hf b hb).1
  done := by
    intro X hP hw hK hc i pins s σ H E I hf st hg
    obtain ⟨⟨old, he⟩, hit⟩ := st
    obtain ⟨xs, hq, hx⟩ := hg
    obtain ⟨its, rv, p, hz⟩ := Z.src X pins σ H s xs hK I hq
    obtain ⟨f0, f1, f2, f3, f4, f5⟩ := hf it (by simp)
    have hl := rv.length
    have en : i = its.toArray.size := by rw [List.size_toArray]; omega
    subst hP hw
    exact wpAny_pyNext_enum_endD (Z.draws X.A.in1 its.toArray (I.ok.hd hc) (Z.ne i _ _ hit p)) he ⟨en ▸ hit, p⟩ fun h' eb => ⟨rfl, I.turned (t' := s.toks) (fun b o hb q => eb b o hb q) f0 f1 f3 f4 f5⟩
  self := fun A i s Q E st h => let ⟨⟨_, he⟩, _⟩ := st; wpAny_pyIter_enum he h
theorem apart_of {h : Heap} {a b : Addr} {o u : Obj} (h1 : h.get? a = some o) (h2 : h.get? b = some u) (hc : o.cls ≠ u.cls) : a ≠ b := fun e => by
  subst e
  rw [h1] at h2
  cases h2
  exact hc rfl
theorem enSrc_list (a it : Addr) : EnSrc P w K a it (fun H xs => SqL K H a xs) (fun h its => h.IsList a its) (fun i h => h.IsListIter it a i) where
  src := fun X pins σ H s xs hK I h => by
    subst hK
    obtain ⟨its, rv, p, hz⟩ := I.list h
    exact ⟨its, rv, p.isList, hz⟩
  inj := fun X pins σ H s xs ys hK I h h' => by
    subst hK
    exact I.list_inj h h'
  draws := fun A items hh hne => Draws.list hh it a hne items
  at' := fun i h h' st k => st.at fun o e => k o e
  live := fun i h st => by
    obtain ⟨o, e, c, d⟩ := st
    exact ⟨o, e, fun v z => by rw [d] at z; cases z⟩
  ne := fun i h items st hl => by
    obtain ⟨o, e, c, d⟩ := st
    obtain ⟨u, e2, c2, _⟩ := hl
    exact apart_of e2 e (by rw [c, c2]; decide)
  nea := fun h items e c old hl he => by
    obtain ⟨u, e2, c2, _⟩ := hl
    exact apart_of he e2 (by rw [c2]; show Value.type "enumerate" ≠ _; decide)
  nei := fun i h e c old st he => by
    obtain ⟨o, e1, c1, d⟩ := st
    exact apart_of he e1 (by rw [c1]; show Value.type "enumerate" ≠ _; decide)
theorem enSrc_tup (a it : Addr) : EnSrc P w K a it (fun H xs => SqT K H a xs) (fun h its => h.IsTuple a its) (fun i h => h.IsTupleIter it a i) where
  src := fun X pins σ H s xs hK I h => by
    subst hK
    obtain ⟨its, rv, p, hz⟩ := I.tuple h
    exact ⟨its, rv, p, hz⟩
  inj := fun X pins σ H s xs ys hK I h h' => by
    subst hK
    exact I.tuple_inj h h'
  draws := fun A items hh hne => Draws.tuple hh it a hne items
  at' := fun i h h' st k => by
    obtain ⟨o, e, r⟩ := st
    exact ⟨o, k o e, r⟩
  live := fun i h st => by
    obtain ⟨o, e, c, d⟩ := st
    exact ⟨o, e, fun v z => by rw [d] at z; cases z⟩
  ne := fun i h items st hl => by
    obtain ⟨o, e, c, d⟩ := st
    obtain ⟨u, e2, c2, _⟩ := hl
    exact apart_of e2 e (by rw [c, c2]; decide)
  nea := fun h items e c old hl he => by
    obtain ⟨u, e2, c2, _⟩ := hl
    exact apart_of he e2 (by rw [c2]; show Value.type "enumerate" ≠ _; decide)
  nei := fun i h e c old st he => by
    obtain ⟨o, e1, c1, d⟩ := st
    exact apart_of he e1 (by rw [c1]; show Value.type "enumerate" ≠ _; decide)
section
variable {M : Model} {A : Around} {E : Value → Shared → Prop} {s : Shared} {env : Env}
theorem callWith_type_kwB {pos : Pos} {T : String} {e : Expr} {rest : List Expr} {kws : List Keyword} {Q : Value → Shared → Prop}
    (h : wpAny M A (spliced (backTo pos (starEach (e :: rest) env))) (fun vs s₁ => wpAny M A (evalAll ((backToKw pos (keywordEach kws env)).map (·.2)))
      (fun kvs s₂ => wpAny M A (call (.type T) vs (((backToKw pos (keywordEach kws env)).filterMap (·.1)).zip kvs)) Q E s₂) E s₁) E s)
    (he : backTo pos (starEach (e :: rest) env) = (false, eval e env) :: backTo pos (starEach rest env))
    (hplain : (backTo pos (starEach (e :: rest) env)).any (·.1) = false)
    (hall : (backToKw pos (keywordEach kws env)).all (·.1.isSome) = true)
    (hkw : (backToKw pos (keywordEach kws env)).any (·.1.isNone) = false) :
    wpAny M A (callWith pos (.type T) [] (backTo pos (starEach (e :: rest) env)) (backToKw pos (keywordEach kws env))) Q E s := by
  unfold callWith
  refine wpAny_bind (wpAny_holding (wpAny_mono (Q := fun a s₁ => wpAny M A (call (.type T) ([] ++ a.pos) a.kw) Q E s₁) ?_ (fun a s₁ h₁ => wpAny_bind (wpAny_standAt ?_)) fun _ _ x => x))
  · rw [he] at h ⊢
    exact evalArgs_kwB hall h
  · simp only [hplain, hkw, Bool.or_false]
    refine wpAny_bind (wpAny_pure ?_)
    exact wpAny_bind (wpAny_mono h₁ (fun r s₂ hr => wpAny_bind (wpAny_holding (wpAny_point (wpAny_pure hr)))) fun _ _ x => x)
end
section
variable {X : Cx} {e : Expr} {ta tb : TE} {ta1 : TA} {p pos tpos kpos : Pos} {elts : List Expr} {kk : Nat}
/-- what a made enumerate object gives -/
theorem enum_pie {pins : List (Addr × Obj)} {σ : L2.St} {H1 : Hp} {s1 : Shared} {R : It → Hp → Prop} {h' : Heap} {Sq : Hp → List V → Prop} {Ho : Heap → Array Value → Prop} {Is : Addr → Nat → Heap → Prop} {a : Addr} {k : Int}
    (I1 : Inv X pins σ H1 s1) (Z : EnSrc X.prog X.w X.K a s1.heap.objs.size Sq Ho (Is s1.heap.objs.size)) (he : IsEnum h' (s1.heap.objs.size + 1) s1.heap.objs.size k .none) (hit : Is s1.heap.objs.size 0 h') (hk : ∀ b o, s1.heap.get? b = some o → h'.get? b = some o) (q : R (Itn Sq k) H1) :
    wpAny (model X.prog X.w) X.A (pyIter (.ref (s1.heap.objs.size + 1))) (PIE X pins σ (.Tuple elts kk tpos) R) X.xe { s1 with heap := h' } := by
  refine wpAny_pyIter_enum he ?_
  have I2 : Inv X pins σ H1 { s1 with heap := h' } := I1.kept (t' := s1.toks) hk
  refine ⟨s1.heap.objs.size + 1, [s1.heap.objs.size + 1, s1.heap.objs.size], _, _, H1, rfl, I2, turn_enumN k Z, ⟨⟨.none, by rw [show k + ((0 : Nat) : Int) = k by omega]; exact he⟩, hit⟩, fun b hb => ?_, q⟩
  have e' : b = s1.heap.objs.size + 1 ∨ b = s1.heap.objs.size := by simpa using hb
  have hle : s1.heap.objs.size ≤ b := by
    rcases e' with z | z
    · rw [z]; exact Nat.le_add_right _ _
    · rw [z]; exact Nat.le_refl _
  exact I1.fpOk hle (I1.hok.fresh hle)
def iEnumS (K : PySem.W.Frag) (ta tb : TE) : TI := fun σ H R => ta σ H fun v H1 => tb σ H1 fun u H2 => ∃ a k xs, v = .ref a ∧ u = .int k ∧ -(2 ^ 63) ≤ k ∧ k < 2 ^ 63 ∧ ((SqL K H2 a xs ∧ R (Itn (fun H xs => SqL K H a xs) k) H2) ∨ (SqT K H2 a xs ∧ R (Itn (fun H xs => SqT K H a xs) k) H2))
/-- enumerate(xs, start=k) -/
theorem pi_enumS {b : Expr} (hg : Gl X "enumerate") (hm : X.mg "enumerate" = none) (ha : PE X e ta) (hb : PE X b tb) (hs : starEach [e] X.env = [(false, eval e X.env)] := by rfl)
    (hall : (backToKw pos (keywordEach [⟨some "start", b, kpos⟩] X.env)).all (·.1.isSome) = true := by rfl) (hnone : (backToKw pos (keywordEach [⟨some "start", b, kpos⟩] X.env)).any (·.1.isNone) = false := by rfl)
    (hks : (backToKw pos (keywordEach [⟨some "start", b, kpos⟩] X.env)).filterMap (·.1) = [Str.ofString "start"] := by rfl) (he : backTo pos (starEach [e] X.env) = (false, eval e X.env) :: backTo pos (starEach [] X.env) := by rfl) (hpl : (backTo pos (starEach [e] X.env)).any (·.1) = false := by rfl) :
    PI X (.Tuple elts kk tpos) (.Call (.Name "enumerate" p) [e] [⟨some "start", b, kpos⟩] pos) (iEnumS X.K ta tb) := by
  refine ⟨fun pins s σ H R I h => ?_⟩
  refine wpAny_Call_Name_kw (ld_blt I hg hm boot_enumerate ?_)
  refine callWith_type_kwB (thn ((pa_cons (X := X) ha pa_nil hs).run pos pins s σ H (fun vs H1 => match vs with
    | [v] => tb σ H1 fun u H2 => ∃ a k xs, v = .ref a ∧ u = .int k ∧ -(2 ^ 63) ≤ k ∧ k < 2 ^ 63 ∧ ((SqL X.K H2 a xs ∧ R (Itn (fun H xs => SqL X.K H a xs) k) H2) ∨ (SqT X.K H2 a xs ∧ R (Itn (fun H xs => SqT X.K H a xs) k) H2))
    | _ => False) I ?_) fun us s1 ⟨vs, H1, I1, r1, q1⟩ => ?_) he hpl hall hnone
  · exact h
  · obtain ⟨v, rfl⟩ : ∃ v, vs = [v] := by
      cases vs with
      | nil => exact q1.elim
      | cons v r =>
        cases r with
        | nil => exact ⟨v, rfl⟩
        | cons _ _ => exact q1.elim
    rw [hks]
    refine PyProof.Rows.kws_cons (thn (hb.run pins s1 σ H1 _ I1 q1) fun u s2 ⟨x, H2, I2, rx, a, k, xs, e1, e2, k0, k1, q2⟩ => PyProof.Rows.kws_nil ?_)
    subst e1 e2
    obtain ⟨t, rfl⟩ := rx
    cases r1 with
    | cons r rr =>
      cases rr
      cases r
      rcases q2 with ⟨hq, q⟩ | ⟨hq, q⟩
      · obtain ⟨its, rv, p', hz⟩ := I2.list hq
        exact enum_begins_start (begins_list a its.toArray) p'.isList k0 k1 fun h' he' hit hsz hk => enum_pie (Is := fun it i h => h.IsListIter it a i) I2 (enSrc_list a _) he' ⟨_, hit, rfl, rfl⟩ hk q
      · obtain ⟨its, rv, p', hz⟩ := I2.tuple hq
        exact enum_begins_start (begins_tuple a its.toArray) p' k0 k1 fun h' he' hit hsz hk => enum_pie (Is := fun it i h => h.IsTupleIter it a i) I2 (enSrc_tup a _) he' ⟨_, hit, rfl, rfl⟩ hk q
end
section
variable {φ : Addr → Prop} {J : Hp → Prop} {ρ : List (Option D)} {ta tb : TE} {ds : List D} {k : Int} {x : D}
theorem it_enumS (h : EvD K φ J ta ρ x) (hx : seqOf x = some ds) (hb : EvD K φ J tb ρ (.int k)) (hk : -(2 ^ 63) ≤ k ∧ k < 2 ^ 63) : IterD K φ J (iEnumS K ta tb) ρ (enumD k ds) := fun σ H A R q => h σ H A _ fun v d H1 b1 A1 e r => hb σ H1 A1 _ fun u d2 H2 b2 A2 e2 r2 => by
  subst e e2
  cases (show u = _ from r2)
  have r := r.mono b2
  have fin : ∀ {Sq : Hp → List V → Prop} {vs : List V}, Reps K φ H2 ds vs → (∀ φ' H3, Up φ φ' H2 H3 → Sq H3 vs) → Walks K φ (Itn Sq k) H2 (enumD k ds) := fun {Sq vs} rs hS φ' i H3 up f => by
    have r1 := Reps.up up ds vs rs
    have s1 := hS φ' H3 up
    refine ⟨fun d hd => ?_, fun hi => ⟨vs, s1, by rw [r1.length, hi, enumD_length]⟩⟩
    rw [enumD_get] at hd
    cases hx : ds[i]? with
    | none => rw [hx] at hd; cases hd
    | some d0 =>
      rw [hx] at hd
      cases hd
      obtain ⟨w, e, rw'⟩ := r1.get hx
      refine ⟨⟨vs, w, s1, e⟩, fun x H4 hy => ?_⟩
      obtain ⟨T, x1, rfl, hT, rfl, hx1⟩ := hy
      have e2 := hx1 vs s1
      rw [e] at e2
      cases e2
      exact ⟨same_new hT, rep_pair (f T hT) upd_same rfl (rw'.mono (But.of (same_new hT)))⟩
  cases d with
  | tup es =>
    cases hx
    obtain ⟨a, vs, rfl, p, rs⟩ := rep_tup r
    exact ⟨a, k, vs, rfl, rfl, hk.1, hk.2, .inr ⟨p.sq, q _ _ H2 (b1.trans b2) A2 rfl (fin rs fun φ' H3 up => (p.up up).sq)⟩⟩
  | lst es =>
    cases hx
    obtain ⟨a, vs, rfl, p, rs⟩ := rep_lst r
    exact ⟨a, k, vs, rfl, rfl, hk.1, hk.2, .inl ⟨p.sq, q _ _ H2 (b1.trans b2) A2 rfl (fin rs fun φ' H3 up => (p.up up).sq)⟩⟩
  | _ => cases hx
end
end

/-! ### == and != of data -/
mutual
def toPy : D → PyData
  | .non => .none
  | .bl b => .bool b
  | .int i => .int i
  | .str x => .str x
  | .tup ds => .tuple (toPys ds)
  | .lst ds => .list (toPys ds)
  | .raw _ => .none
  | .dk _ _ => .none
  | .dt _ _ => .none
def toPys : List D → List PyData
  | [] => []
  | d :: ds => toPy d :: toPys ds
end
/-- bounded depth, no raw values, texts within the bounds -/
def okq : Nat → D → Bool
  | _, .non => true
  | _, .bl _ => true
  | _, .int _ => true
  | _, .str x => PyData.strOk x
  | n + 1, .tup ds => ds.all (okq n)
  | n + 1, .lst ds => ds.all (okq n)
  | 0, .tup _ => false
  | 0, .lst _ => false
  | _, .raw _ => false
  | _, .dk _ _ => false
  | _, .dt _ _ => false
theorem okq_lay : ∀ (n : Nat) (d : D), okq n d = true → (toPy d).canLay0 = true ∧ (toPy d).depth ≤ n := by
  intro n
  induction n with
  | zero =>
    intro d h
    cases d with
    | non => exact ⟨rfl, Nat.le_refl _⟩
    | bl b => exact ⟨rfl, Nat.le_refl _⟩
    | int i => exact ⟨rfl, Nat.le_refl _⟩
    | str x => exact ⟨h, Nat.le_refl _⟩
    | tup ds => cases h
    | lst ds => cases h
    | raw v => cases h
    | dk ks ds => cases h
    | dt ks ds => cases h
  | succ n ih =>
    have all : ∀ ds : List D, ds.all (okq n) = true → PyData.canLayAll0 (toPys ds) = true ∧ PyData.depthAll (toPys ds) ≤ n := by
      intro ds
      induction ds with
      | nil => intro _; exact ⟨rfl, Nat.zero_le _⟩
      | cons d ds ihd =>
        intro h
        rw [List.all_cons, Bool.and_eq_true] at h
        obtain ⟨h1, h2⟩ := ih d h.1
        obtain ⟨h3, h4⟩ := ihd h.2
        refine ⟨?_, ?_⟩
        · show ((toPy d).canLay0 && PyData.canLayAll0 (toPys ds)) = true
          rw [h1, h3]
          rfl
        · show max (toPy d).depth (PyData.depthAll (toPys ds)) ≤ n
          omega
    intro d h
    cases d with
    | non => exact ⟨rfl, Nat.zero_le _⟩
    | bl b => exact ⟨rfl, Nat.zero_le _⟩
    | int i => exact ⟨rfl, Nat.zero_le _⟩
    | str x => exact ⟨h, Nat.zero_le _⟩
    | tup ds => exact ⟨(all ds h).1, Nat.succ_le_succ (all ds h).2⟩
    | lst ds => exact ⟨(all ds h).1, Nat.succ_le_succ (all ds h).2⟩
    | raw v => cases h
    | dk ks ds => cases h
    | dt ks ds => cases h
theorem okq_shaped {n : Nat} {d : D} (h : okq n d = true) (hn : n ≤ 64) : SeqAt.shaped (toPy d) = true := by
  obtain ⟨h1, h2⟩ := okq_lay n d h
  unfold SeqAt.shaped
  rw [h1, decide_eq_true (Nat.le_trans h2 hn)]
  rfl
def eqvD (x y : D) : Bool := PyData.eqv (toPy x) (toPy y)
section
variable {K : PySem.W.Frag} {φ : Addr → Prop} {J : Hp → Prop} {H : Hp} {ρ : List (Option D)} {ta tb : TE} {x y : D} {v : V} {ds : List D} {vs : List V}
mutual
theorem dp_of : ∀ (d : D) (v : V) (n : Nat), okq n d = true → Rep K φ H d v → Dp K H v (toPy d)
  | .non, v, n, _, r => by cases (show v = _ from r); exact .non
  | .bl b, v, n, _, r => by cases (show v = _ from r); exact .bl b
  | .int i, v, n, _, r => by cases (show v = _ from r); exact .int i
  | .str x, v, n, _, r => by cases (show v = _ from r); exact .str x
  | .raw w, v, n, h, _ => by cases n <;> cases h
  | .dk ks ds, v, n, h, _ => by cases n <;> cases h
  | .dt ks ds, v, n, h, _ => by cases n <;> cases h
  | .tup ds, v, 0, h, _ => by cases h
  | .lst ds, v, 0, h, _ => by cases h
  | .tup ds, v, n + 1, h, r => by
    obtain ⟨a, vs, rfl, p, rs⟩ := rep_tup r
    exact .tup p.sq (dps_of ds vs n h rs)
  | .lst ds, v, n + 1, h, r => by
    obtain ⟨a, vs, rfl, p, rs⟩ := rep_lst r
    exact .lst p.sq (dps_of ds vs n h rs)
theorem dps_of : ∀ (ds : List D) (vs : List V) (n : Nat), ds.all (okq n) = true → Reps K φ H ds vs → DpAll K H vs (toPys ds)
  | [], vs, n, _, r => by
    have e : vs = [] := r
    subst e
    exact .nil
  | d :: ds, vs, n, h, r => by
    obtain ⟨v, r', rfl, h1, h2⟩ := (show ∃ v r, vs = v :: r ∧ Rep K φ H d v ∧ Reps K φ H ds r from r)
    rw [List.all_cons, Bool.and_eq_true] at h
    exact .cons (dp_of d v n h.1 h1) (dps_of ds r' n h.2 h2)
end
theorem ev_eqQ (ha : EvD K φ J ta ρ x) (hb : EvD K φ J tb ρ y) (hx : okq 64 x = true) (hy : okq 64 y = true) : EvD K φ J (tOp (rEqD K) ta tb) ρ (.bl (eqvD x y)) := ev_opD ha hb fun H v w _ r1 r2 Q q =>
  ⟨_, _, dp_of x v 64 hx r1, dp_of y w 64 hy r2, okq_shaped hx (Nat.le_refl _), okq_shaped hy (Nat.le_refl _), q _ _ H (Same.refl H) rfl rfl⟩
theorem ev_neQ (ha : EvD K φ J ta ρ x) (hb : EvD K φ J tb ρ y) (hx : okq 64 x = true) (hy : okq 64 y = true) : EvD K φ J (tOp (rNeD K) ta tb) ρ (.bl (!eqvD x y)) := ev_opD ha hb fun H v w _ r1 r2 Q q =>
  ⟨_, _, dp_of x v 64 hx r1, dp_of y w 64 hy r2, okq_shaped hx (Nat.le_refl _), okq_shaped hy (Nat.le_refl _), q _ _ H (Same.refl H) rfl rfl⟩
theorem eqvD_refl {n : Nat} (h : okq n x = true) : eqvD x x = true := SeqAt.eqv_refl _ (okq_lay n x h).1
theorem toPys_ints : ∀ ns : List Int, toPys (ns.map D.int) = ns.map PyData.int
  | [] => rfl
  | n :: ns => by
    show PyData.int n :: toPys (ns.map D.int) = _
    rw [toPys_ints ns]
    rfl
theorem okq_ints {n : Nat} {ns : List Int} : okq (n + 1) (.lst (ns.map D.int)) = true := by
  show (ns.map D.int).all (okq n) = true
  rw [List.all_map, List.all_eq_true]
  intro i _
  cases n <;> rfl
theorem eqvD_nil {ds : List D} : eqvD (.lst ds) (.lst []) = ds.isEmpty := by
  unfold eqvD
  show PyData.eqvAll (toPys ds) [] = _
  cases ds <;> rfl
end

-- import HandS.Exc
-- import HandS.ExcOwn
-- import HandS.TryOnly
-- import HandS.WordsExc
-- import HandS.TupMul
/-! ### exceptions -/
/-- a class of exceptions of the program, without own __init__ -/
structure ExC (K : PySem.W.Frag) (mg : Str → Option Value) (x : Str) (c : Addr) : Prop where
  m : mg x = some (.ref c)
  e : PySem.W.excIn K c [.type "ValueError", .type "Exception", .type "BaseException", .type "object"] "ValueError.__new__" = true
  k : PySem.W.keepIn K (.ref c) = true
  s : PySem.W.subIn K (.ref c) (.type "BaseException") = some true
  t : PySem.W.typeIn K (.ref c) = some (.type "type")
  x : PySem.W.exmOne K (.ref c) (.ref c) = some true
theorem exm_sub {K : PySem.W.Frag} {S T : Addr} {b : Bool} (h1 : PySem.W.subIn K (.ref T) (.type "BaseException") = some true) (h2 : PySem.W.isClsIn K T = true) (h3 : PySem.W.typeIn K (.ref T) = some (.type "type")) (h4 : PySem.W.subIn K (.ref S) (.ref T) = some b) : PySem.W.exmOne K (.ref S) (.ref T) = some b := by
  have e2 : ((PySem.W.clsIn K T).isSome && PySem.W.typeIn K (.ref T) == some (.type "type")) = true := by
    rw [show (PySem.W.clsIn K T).isSome = true from h2, h3]
    rfl
  unfold PySem.W.exmOne
  rw [if_pos (by rw [h1]; rfl)]
  unfold PySem.W.kitCls
  dsimp only
  rw [if_pos e2]
  exact h4
/-- the promise of a def that may raise: a tree or a class -/
def SpX (K : PySem.W.Frag) (n : Nat) (R : List D → D ⊕ Addr → Prop) : Sp := fun vs H Q E => ∃ φ ds o, ds.length = n ∧ Reps K φ H ds vs ∧ Frm φ H ∧ R ds o ∧ (∀ d, o = .inl d → ∀ v H', Same H H' → Rep K φ H' d v → Q v H') ∧ (∀ c, o = .inr c → ∀ H', Same H H' → E (.ref c) none H')
section
variable {K : PySem.W.Frag} {φ φ' : Addr → Prop} {J J' : Hp → Prop} {H H' H1 : Hp} {ρ ρ' : List (Option D)} {σ : L2.St} {ta : TA} {te tb : TE} {x y z d : D} {P Pa Pb : D → Prop} {ds es : List D} {v : V} {D0 : Ends} {t u : TS} {W : WX} {c : Addr}
/-- a reading that raises -/
def Rs (K : PySem.W.Frag) (φ : Addr → Prop) (J : Hp → Prop) (te : TE) (ρ : List (Option D)) (W : WX) (c : Addr) : Prop := ∀ σ H, At K φ J ρ σ H → (∀ H', But φ H H' → At K φ J ρ σ H' → W (.ref c) none σ H') → ∀ Q, te σ H Q
theorem ev_callX {n : Nat} {R : List D → D ⊕ Addr → Prop} (ha : EvAD K φ J ta ρ ds) (hr : R ds (.inl d)) (hl : ds.length = n := by rfl) : EvD K φ J (tCallS (SpX K n R) (WE W) ta) ρ d := fun σ H A Q q =>
  ha σ H A _ fun vs ds' H1 b1 A1 e r1 => by
    subst e
    refine ⟨φ, _, _, hl, r1, A1.fr, hr, fun d' e v H' s r => ?_, fun c' e => nomatch e⟩
    cases e
    exact q v d H' (b1.trans (But.of s)) (A1.same s) rfl r
theorem rs_call {n : Nat} {R : List D → D ⊕ Addr → Prop} (ha : EvAD K φ J ta ρ ds) (hr : R ds (.inr c)) (hl : ds.length = n := by rfl) : Rs K φ J (tCallS (SpX K n R) (WE W) ta) ρ W c := fun σ H A k Q =>
  ha σ H A _ fun vs ds' H1 b1 A1 e r1 => by
    subst e
    refine ⟨φ, _, _, hl, r1, A1.fr, hr, (fun d' e => nomatch e), fun c' e H' s => ?_⟩
    cases e
    exact k H' (b1.trans (But.of s)) (A1.same s)
/-- an assignment, a return .. whose expression raises -/
theorem st_rs (A : At K φ J ρ σ H) (h : Rs K φ J te ρ W c) (k : ∀ H', But φ H H' → At K φ J ρ σ H' → W (.ref c) none σ H') {Q : VK} : te σ H Q := h σ H A k Q
theorem wonly_yes {C : Value} {ts : Addr → Value → Option Addr → TS} (hx : PySem.W.exmOne K (.ref c) C = some true) (h : ∀ a, H a = none → ts a (.ref c) none D0 σ H) : wOnly K C ts W D0 (.ref c) none σ H := ⟨true, hx, fun _ => h, fun e => nomatch e⟩
section
variable {PP : Program} {w : World} {mg : Str → Option Value} {base : Heap}
/-- a def that may raise keeps its promise -/
theorem fn_okX {x qual : Str} {st : Stmt} {f : Addr} {fd : FuncData} {N ps : List Str} {k n : Nat} {R : List D → D ⊕ Addr → Prop} (F : Fun K x qual st f fd) (S : FnScope N ps (defScope st)) (hn : ps.length = n) (m : Nat) (hm : N.length = n + m)
    (hbody : ∀ (cdv : Value) (A : Around) (outer : List Env) (s : Shared) (H : Hp) (E : XK), Room k (A.deeper (envOfC qual (defScope st) s.heap.objs.size f cdv)) →
      ∃ t, PSs (cxOf (L2.CX PP w) PP w K mg base N qual (defScope st) f cdv A outer s H E) (defBody st) t ∧
        ∀ (φ : Addr → Prop) (ds : List D) (o : D ⊕ Addr) (H : Hp) (D0 : Ends) (σ : L2.St), ds.length = n → R ds o → (∀ d, o = .inl d → ∀ v H', Same H H' → Rep K φ H' d v → D0.rt v H') → (∀ c, o = .inr c → ∀ H', Same H H' → E (.ref c) none H') → At K φ (Same H) (ds.map some ++ List.replicate m none) σ H → t D0 σ H) :
    FnOk PP w K mg base (L2.CX PP w) (k + 1) f fd ps (SpX K n R) := by
  refine F.okX S (fun vs H Q E h => ?_) (fun cdv A outer s H vs Q E hr h => ?_)
  · obtain ⟨φ, ds, d, hl, r, _⟩ := h
    rw [r.length, hl, hn]
  · obtain ⟨φ, ds, o, hl, r, fr, hd, q, qe⟩ := h
    obtain ⟨t, ht, run⟩ := hbody cdv A outer s H E hr
    refine ⟨t, ht, run φ ds o H _ _ hl hd (fun d e v H' s r => q d e v H' s r) qe ⟨?_, fr, Same.refl H, Mo.sames fun _ h => h⟩⟩
    have e : N.length - vs.length = m := by rw [hm, r.length, hl]; omega
    unfold L2.start
    rw [e]
    exact SR.start r
end
/-! ### two fors in a comprehension -/
theorem ev_lc2 {wi wi1 : TI} {g g1 : TG} {te : TE} {ws us us1 vs1 : List Nat} {es : D → List D} {f : D → D → D} {ρ1 : D → List (Option D)} {ρ2 : D → D → List (Option D)}
    (hi : IterD K φ J wi ρ ds) (hl : (ds.flatMap es).length ≤ 1000000) (hu : ∀ i ∈ us, i ∈ ws) (hu1 : ∀ i ∈ us1, i ∈ vs1) (hv : ∀ i ∈ vs1, i ∈ ws)
    (hg : ∀ d ∈ ds, EvG K g d (wipeR ρ ws) (ρ1 d) us)
    (hi1 : ∀ d ∈ ds, ∀ φ' J', Ext φ J φ' J' → IterD K φ' J' wi1 (ρ1 d) (es d))
    (hg1 : ∀ d ∈ ds, ∀ e ∈ es d, EvG K g1 e (wipeR (ρ1 d) vs1) (ρ2 d e) us1)
    (he : ∀ d ∈ ds, ∀ e ∈ es d, ∀ φ' J', Ext φ J φ' J' → EvD K φ' J' te (ρ2 d e) (f d e)) :
    EvD K φ J (tLc2 wi g tYes wi1 g1 tYes te ws vs1) ρ (.lst (ds.flatMap fun d => (es d).map (f d))) := fun σ H A Q q => by
  refine hi σ H A _ fun J0 ds' H1 b1 A1 pd w => ?_
  subst pd
  intro D0 hD
  have neP : ∀ p s ns, Pooled φ J p s ns → p ≠ D0 := fun p s ns hp => by
    obtain ⟨a1, a2, a3, a4, h1, _⟩ := hp.ok _ A1.j
    exact ne_of_none h1 hD
  let φ' : Addr → Prop := fun a => φ a ∧ a ≠ D0
  let F : Nat → List D := fun i => (ds'.take i).flatMap fun d => (es d).map (f d)
  have ext : ∀ acc : List V, Ext φ J φ' (fun H => J H ∧ H D0 = some (.lst acc)) := fun acc => ⟨fun _ h => h.1, fun p s ns hp => ⟨fun z => hp.np z.1, hp.ne, fun H h => hp.ok H h.1, fun H H' h k o => ⟨hp.st H H' h.1 k o, k _ _ (neP p s ns hp).symm h.2⟩⟩, fun a p h => ⟨p, fun e => h H1 A1.j (by rw [e]; exact hD)⟩⟩
  have mono : ∀ (acc : List V) (H2 : Hp), (∀ a, H1 a ≠ none → H2 a ≠ none) → H2 D0 ≠ none → Mo H2 (fun H => J H ∧ H D0 = some (.lst acc)) := fun acc H2 s h => (A1.mono.up s).and (Mo.at h)
  have lenT : ∀ i, i < ds'.length → ∀ d, ds'[i]? = some d → ∀ j, j < (es d).length → (F i ++ ((es d).take j).map (f d)).length < 1000000 := fun i hi d hd j hj => by
    have e1 : ds' = ds'.take i ++ d :: ds'.drop (i + 1) := by
      have z := (List.getElem?_eq_some_iff.mp hd)
      obtain ⟨z1, z2⟩ := z
      rw [← z2, List.getElem_cons_drop, List.take_append_drop]
    have e2 : (ds'.flatMap es).length = ((ds'.take i).flatMap es).length + ((es d).length + ((ds'.drop (i + 1)).flatMap es).length) := by
      conv => lhs; rw [e1]
      rw [List.flatMap_append, List.length_append, List.flatMap_cons, List.length_append]
    have e3 : (F i).length = ((ds'.take i).flatMap es).length := by
      show ((ds'.take i).flatMap fun d => (es d).map (f d)).length = _
      simp only [List.length_flatMap, List.length_map]
    rw [List.length_append, List.length_map, List.length_take, e3]
    omega
  refine ⟨fun i m H2 => m = ds'.length - i ∧ i ≤ ds'.length ∧ But φ H1 H2 ∧ ∃ acc, Reps K φ' H2 (F i) acc ∧ At K φ' (fun H => J H ∧ H D0 = some (.lst acc)) (wipeR ρ ws) (L2.wipe σ ws) H2,
    ⟨ds'.length, rfl, Nat.zero_le _, But.of (same_new hD), [], Reps.nil, ?_⟩, ?_⟩
  · have A2 := A1.newLive (o := .lst []) (J' := fun H => J H ∧ H D0 = some (.lst [])) hD ⟨A1.mono _ _ (fun a o _ e => same_new hD a o e) A1.j, upd_same⟩ (mono [] _ upd_tr (by rw [upd_same]; exact fun z => by cases z))
    exact ⟨A2.sr.wipe ws, A2.fr, A2.j, A2.mono⟩
  · rintro i m H2 ⟨rfl, hi, b2, acc, rs, A2⟩
    have upw : Up φ φ' H1 H2 := fun a o p e => ⟨⟨p, ne_of_none e hD⟩, b2.keep a o p e⟩
    have fr2 : Frm φ' H2 := A2.fr
    obtain ⟨wg, wstop⟩ := w φ' i H2 upw fr2
    by_cases hlt : i < ds'.length
    · have hd : ds'[i]? = some ds'[i] := List.getElem?_eq_getElem hlt
      obtain ⟨go, yl⟩ := wg _ hd
      have hmem : ds'[i] ∈ ds' := List.getElem_mem hlt
      have tk : F (i + 1) = F i ++ (es ds'[i]).map (f ds'[i]) := by
        show (ds'.take (i + 1)).flatMap _ = _
        rw [List.take_add_one, hd, List.flatMap_append]
        show _ ++ List.flatMap _ [ds'[i]] = _
        rw [List.flatMap_cons, List.flatMap_nil, List.append_nil]
      refine .inr ⟨go, fun H3 => But φ H1 H3 ∧ ∃ acc, Reps K φ' H3 (F (i + 1)) acc ∧ At K φ' (fun H => J H ∧ H D0 = some (.lst acc)) (wipeR ρ ws) (L2.wipe σ ws) H3, ?_, ?_⟩
      · rintro H3 ⟨b3, acc3, r3, A3⟩
        exact ⟨ds'.length - (i + 1), by omega, rfl, hlt, b3, acc3, r3, A3⟩
      · intro x H3 hy
        obtain ⟨s3, r3⟩ := yl x H3 hy
        have A3 := A2.same s3
        have rs3 := rs.mono (But.of (φ := φ') s3)
        have b3 : But φ H1 H3 := b2.trans (But.of s3)
        refine hg _ hmem φ' _ _ H3 x A3 r3 _ fun σ4 A4 hw4 => ⟨?_, ?_⟩
        · rw [hw4 ws hu]
          exact wipe_wipe ws
        · refine et_yes (K := K) (φ := φ') σ4 H3 A4 _ fun bb H4 b4 A4' hbb => ?_
          subst hbb
          rw [if_pos rfl]
          replace rs3 := rs3.mono b4
          replace b3 : But φ H1 H4 := ⟨fun a o p e => b4.keep a o ⟨p, ne_of_none e hD⟩ (b3.keep a o p e), fun a h => b4.tr a (b3.tr a h)⟩
          refine hi1 _ hmem φ' _ (ext acc) σ4 H4 A4' _ fun J1 es' H5 b5 A5 pe1 w1 => ?_
          subst pe1
          have b15 : But φ H1 H5 := ⟨fun a o p e => b5.keep a o ⟨p, ne_of_none e hD⟩ (b3.keep a o p e), fun a h => b5.tr a (b3.tr a h)⟩
          let G : Nat → List D := fun j => F i ++ ((es ds'[i]).take j).map (f ds'[i])
          refine ⟨fun j k H6 => k = (es ds'[i]).length - j ∧ j ≤ (es ds'[i]).length ∧ But φ H1 H6 ∧ (∀ a o, φ' a → H5 a = some o → H6 a = some o) ∧ ∃ acc, Reps K φ' H6 (G j) acc ∧ At K φ' (fun H => J H ∧ H D0 = some (.lst acc)) (wipeR (ρ1 ds'[i]) vs1) (L2.wipe σ4 vs1) H6,
            ⟨(es ds'[i]).length, rfl, Nat.zero_le _, b15, fun _ _ _ e => e, acc, ?_, ?_⟩, ?_⟩
          · show Reps K φ' H5 (F i ++ List.map _ (List.take 0 _)) acc
            rw [List.take_zero, List.map_nil, List.append_nil]
            exact rs3.mono b5
          · exact ⟨A5.sr.wipe vs1, A5.fr, A5.j, A5.mono⟩
          · rintro j k H6 ⟨rfl, hj, b6, kp6, acc6, rs6, A6⟩
            have up6 : Up φ' φ' H5 H6 := fun a o p e => ⟨p, kp6 a o p e⟩
            obtain ⟨wg1, ws1⟩ := w1 φ' j H6 up6 A6.fr
            by_cases hlt1 : j < (es ds'[i]).length
            · have hd1 : (es ds'[i])[j]? = some (es ds'[i])[j] := List.getElem?_eq_getElem hlt1
              obtain ⟨go1, yl1⟩ := wg1 _ hd1
              have hmem1 : (es ds'[i])[j] ∈ es ds'[i] := List.getElem_mem hlt1
              have tk1 : G (j + 1) = G j ++ [f ds'[i] (es ds'[i])[j]] := by
                show F i ++ _ = (F i ++ _) ++ _
                rw [List.take_add_one, hd1, List.map_append, List.append_assoc]
                rfl
              refine .inr ⟨go1, fun H7 => But φ H1 H7 ∧ (∀ a o, φ' a → H5 a = some o → H7 a = some o) ∧ ∃ acc, Reps K φ' H7 (G (j + 1)) acc ∧ At K φ' (fun H => J H ∧ H D0 = some (.lst acc)) (wipeR (ρ1 ds'[i]) vs1) (L2.wipe σ4 vs1) H7, ?_, ?_⟩
              · rintro H7 ⟨b7, kp7, acc7, r7, A7⟩
                exact ⟨(es ds'[i]).length - (j + 1), by omega, rfl, hlt1, b7, kp7, acc7, r7, A7⟩
              · intro x1 H7 hy1
                obtain ⟨s7, r7⟩ := yl1 x1 H7 hy1
                have A7 := A6.same s7
                have rs7 := rs6.mono (But.of (φ := φ') s7)
                have b7 : But φ H1 H7 := b6.trans (But.of s7)
                have kp7 : ∀ a o, φ' a → H5 a = some o → H7 a = some o := fun a o p e => s7 a o (kp6 a o p e)
                refine hg1 _ hmem _ hmem1 φ' _ _ H7 x1 A7 r7 _ fun σ8 A8 hw8 => ⟨?_, ?_⟩
                · rw [hw8 vs1 hu1]
                  exact wipe_wipe vs1
                · refine et_yes (K := K) (φ := φ') σ8 H7 A8 _ fun bb H8 b8 A8' hbb => ?_
                  subst hbb
                  rw [if_pos rfl]
                  replace rs7 := rs7.mono b8
                  replace b7 : But φ H1 H8 := ⟨fun a o p e => b8.keep a o ⟨p, ne_of_none e hD⟩ (b7.keep a o p e), fun a h => b8.tr a (b7.tr a h)⟩
                  replace kp7 : ∀ a o, φ' a → H5 a = some o → H8 a = some o := fun a o p e => b8.keep a o p (kp7 a o p e)
                  replace A7 : At K φ' (fun H => J H ∧ H D0 = some (.lst acc6)) (wipeR (ρ1 ds'[i]) vs1) (L2.wipe σ4 vs1) H8 := ⟨A7.sr.up (Up.of b8), A8'.fr, A8'.j, A8'.mono⟩
                  refine he _ hmem _ hmem1 φ' _ (ext acc6) σ8 H8 A8' _ fun v d H9 b9 A9 pv r9 => ?_
                  subst pv
                  have rl := rs7.mono b9
                  have nD : ¬ φ' D0 := fun z => z.2 rfl
                  refine ⟨acc6, A9.j.2, ?_, ?_, ?_, acc6 ++ [v], ?_, ?_⟩
                  · rw [rl.length]
                    exact szlt (Nat.le_of_lt (lenT i hlt _ hd j hlt1))
                  · refine ⟨fun a o p e => ?_, fun a h => upd_tr a (b9.tr a (b7.tr a h))⟩
                    have ne := ne_of_none e hD
                    rw [upd_ne ne]
                    exact b9.keep a o ⟨p, ne⟩ (b7.keep a o p e)
                  · intro a o p e
                    rw [upd_ne p.2]
                    exact b9.keep a o p (kp7 a o p e)
                  · rw [tk1]
                    exact (rl.append (Reps.cons r9 Reps.nil)).mono ((But.refl φ' H9).upd nD)
                  · have A9' : At K φ' (fun H => J H ∧ H D0 = some (.lst acc6)) (wipeR (ρ1 ds'[i]) vs1) (L2.wipe σ4 vs1) H9 := ⟨A7.sr.up (Up.of b9), A9.fr, A9.j, A9.mono⟩
                    have jj : J (upd H9 D0 (.lst (acc6 ++ [v]))) := A1.mono H9 _ (fun a o h e => by
                      rw [upd_ne (show a ≠ D0 from fun z => h (by rw [z]; exact hD))]
                      exact e) A9.j.1
                    exact A9'.upd nD ⟨jj, upd_same⟩ (mono _ _ (fun a h => upd_tr a (b9.tr a (b7.tr a h))) (by rw [upd_same]; exact fun z => by cases z))
            · have e : j = (es ds'[i]).length := by omega
              subst e
              refine .inl ⟨ws1 rfl, b6, acc6, ?_, ?_⟩
              · rw [tk]
                have e2 : G (es ds'[i]).length = F i ++ (es ds'[i]).map (f ds'[i]) := by
                  show F i ++ _ = _
                  rw [List.take_length]
                rw [← e2]
                exact rs6
              · have b26 : Up φ' φ' H2 H6 := fun a o p e => ⟨p, kp6 a o p (b5.keep a o p (b4.keep a o p (s3 a o e)))⟩
                exact ⟨A2.sr.up b26, A6.fr, A6.j, A6.mono⟩
    · have e : i = ds'.length := by omega
      subst e
      refine .inl ⟨wstop rfl, ?_⟩
      have eF : F ds'.length = ds'.flatMap fun d => (es d).map (f d) := by
        show (ds'.take _).flatMap _ = _
        rw [List.take_length]
      rw [eF] at rs
      have A3 : At K φ J ρ σ H2 := ⟨A1.sr.up (Up.of b2), A2.fr.fst, A2.j.1, A1.mono.up b2.tr⟩
      exact q _ (.lst (ds'.flatMap fun d => (es d).map (f d))) H2 (b1.trans b2) A3 rfl ⟨D0, acc, rfl, .inl ⟨A1.fr D0 hD, .inl A2.j.2⟩, Reps.up (fun a o p e => ⟨p.1, e⟩) _ _ rs⟩
/-! ### a tuple times an int -/
theorem replicate_reps {vs : List V} (r : Reps K φ H ds vs) : ∀ n : Nat, Reps K φ H (List.replicate n ds).flatten (List.replicate n vs).flatten
  | 0 => Reps.nil
  | n + 1 => by
    rw [List.replicate_succ, List.replicate_succ, List.flatten_cons, List.flatten_cons]
    exact r.append (replicate_reps r n)
theorem ev_repT {i : Int} (ha : EvD K φ J te ρ (.tup ds)) (hb : EvD K φ J tb ρ (.int i)) (hne : ds ≠ []) (h2 : 2 ≤ i) (h3 : i ≤ 1000) (hz : ds.length ≤ 1000) : EvD K φ J (tOp (rRepT K) te tb) ρ (.tup (List.replicate i.toNat ds).flatten) :=
  ev_opD ha hb fun H v w fr r1 r2 Q q => by
    obtain ⟨a, vs, rfl, p, rs⟩ := rep_tup r1
    cases (show w = _ from r2)
    refine ⟨a, i, vs, rfl, rfl, p.sq, fun z => hne (List.eq_nil_of_length_eq_zero (by rw [← rs.length, z]; rfl)), h2, h3, by rw [rs.length]; exact hz, fun l hl => q _ _ _ (same_new hl) rfl ⟨l, _, rfl, .inl ⟨fr l hl, .inl upd_same⟩, ?_⟩⟩
    exact (replicate_reps rs _).mono (But.of (same_new hl))
end

theorem _root_.L2.Room.units1 {k : Nat} {A : Around} (r : Room k A) : A.units + 1 < cLine := by have := r.un; omega
theorem _root_.L2.Room.units65 {k : Nat} {A : Around} (r : Room k A) : A.units + 65 < cLine := by have := r.un; omega
/-! ### rules with the frame K told (in comprehensions), chains of three operators -/
section
variable {X : Cx} {K : PySem.W.Frag}
theorem kix_list (h : X.K = K) : IxR X (rIxL K) := h ▸ ix_list
theorem kix_tup (h : X.K = K) : IxR X (rIxT K) := h ▸ ix_tup
theorem kix_seq (h : X.K = K) : IxR X (rIx K) := h ▸ ix_seq
theorem ksl_list (h : X.K = K) : SlR X (rSlL K) := h ▸ sl_list
theorem ksl_tupA (h : X.K = K) : SlR X (rSlA K) := h ▸ sl_tupA
theorem kop_catA (h : X.K = K) : OpR X (binaryOp .Add) (rCatA K) := h ▸ op_catA
theorem kop_repT (h : X.K = K) : OpR X (binaryOp .Mult) (rRepT K) := h ▸ op_repT
theorem kop_inD (h : X.K = K) (hu : X.A.units + 65 < cLine) : OpR X (compareOp .In) (rInD K) := h ▸ op_inD hu
theorem kop_notInD (h : X.K = K) (hu : X.A.units + 65 < cLine) : OpR X (compareOp .NotIn) (rNotInD K) := h ▸ op_notInD hu
theorem kop_eqD (h : X.K = K) (hu : X.A.units + 64 < cLine) : OpR X (compareOp .Eq) (rEqD K) := h ▸ op_eqD hu
theorem kop_neD (h : X.K = K) (hu : X.A.units + 64 < cLine) : OpR X (compareOp .NotEq) (rNeD K) := h ▸ op_neD hu
theorem kop_in_seq (h : X.K = K) : OpR X (compareOp .In) (rIn K false) := h ▸ op_in_seq
theorem kop_notIn_seq (h : X.K = K) : OpR X (compareOp .NotIn) (rIn K true) := h ▸ op_notIn_seq
theorem kc_len (h : X.K = K) : CallR X (.builtin "len") (rLen K) := h ▸ c_len
theorem kc_listOf (h : X.K = K) : CallR X (.type "list") (rListOf K) := h ▸ c_listOf
theorem kc_tupOf (h : X.K = K) : CallR X (.type "tuple") (rTupOf K) := h ▸ c_tupOf
theorem kcall_isi (h : X.K = K) : CallR X (.builtin "isinstance") (rIsi K) := h ▸ call_isi
theorem kc_sum (h : X.K = K) (hc : X.calm = true := by rfl) : CallR X (.builtin "sum") (rSum K) := h ▸ c_sum hc
theorem kcr_max (h : X.K = K) (hc : X.calm = true) : CallR X (.builtin "max") (rMax K) := h ▸ cr_max hc
theorem kcr_min (h : X.K = K) (hc : X.calm = true) : CallR X (.builtin "min") (rMin K) := h ▸ cr_min hc
theorem kpi_list {tg l : Expr} {tl : TE} (h : X.K = K) (hl : PE X l tl) : PI X tg l (iList K tl) := h ▸ pi_list hl
theorem kpi_tup {tg l : Expr} {tl : TE} (h : X.K = K) (hl : PE X l tl) : PI X tg l (iTup K tl) := h ▸ pi_tup hl
end
/-- a < b <= c < d -/
def tChain3 (r r' r2 : R2) (ta tb tc td : TE) : TE := fun σ H Q => ta σ H fun x H1 => tb σ H1 fun y H2 => r x y H2 fun z H3 => ∃ k, z = .bl k ∧
  (if k = true then tc σ H3 fun w' H4 => r' y w' H4 fun z2 H5 => ∃ k2, z2 = .bl k2 ∧ (if k2 = true then td σ H5 fun w2 H6 => r2 w' w2 H6 Q else Q (.bl false) H5) else Q (.bl false) H3)
section
variable {X : Cx} {a b c e : Expr} {ta tb tc td : TE} {pos : Pos}
theorem pe_chain3 {op op' op2 : CmpOp} {r r' r2 : R2} (ho : OpR X (compareOp op) r) (ho' : OpR X (compareOp op') r') (ho2 : OpR X (compareOp op2) r2) (ha : PE X a ta) (hb : PE X b tb) (hc : PE X c tc) (hd : PE X e td)
    (hm : lastMarks [op, op', op2] [b, c, e] = false := by with_unfolding_all rfl) : PE X (.Compare a [op, op', op2] [b, c, e] pos) (tChain3 r r' r2 ta tb tc td) := by
  refine ⟨fun pins s σ H Q I h => ?_⟩
  refine Compare_chain (thn (ha.run pins s σ H _ I h) fun v s1 ⟨x, H1, I1, r1, q1⟩ => chain_link (thn (hb.run pins s1 σ H1 _ I1 q1) fun u s2 ⟨y, H2, I2, rr2, q2⟩ =>
    thn (ho pins s2 σ H2 x y v u _ I2 r1 rr2 q2) fun d s3 ⟨z, H3, I3, r3, k, e, q3⟩ => ?_)) hm
  subst e
  cases r3
  refine wpAny_truthy_bool ?_
  cases k with
  | false => exact ite_ff ⟨.bl false, H3, I3, rfl, q3⟩
  | true =>
    refine ite_tt (chain_link (thn (hc.run pins s3 σ H3 _ I3 q3) fun w' s4 ⟨z', H4, I4, r4, q4⟩ => thn (ho' pins s4 σ H4 y z' u w' _ I4 rr2 r4 q4) fun d' s5 ⟨z5, H5, I5, r5, k2, e2, q5⟩ => ?_))
    subst e2
    cases r5
    refine wpAny_truthy_bool ?_
    cases k2 with
    | false => exact ite_ff ⟨.bl false, H5, I5, rfl, q5⟩
    | true => exact ite_tt (chain_last (thn (hd.run pins s5 σ H5 _ I5 q5) fun w2 s6 ⟨z6, H6, I6, r6, q6⟩ => ho2 pins s6 σ H6 z' z6 w' w2 Q I6 r4 r6 q6))
theorem pt_chain3 {op op' op2 : CmpOp} {r r' r2 : R2} (ho : OpR X (compareOp op) r) (ho' : OpR X (compareOp op') r') (ho2 : OpR X (compareOp op2) r2) (ha : PE X a ta) (hb : PE X b tb) (hc : PE X c tc) (hd : PE X e td)
    (hm : lastMarks [op, op', op2] [b, c, e] = false := by with_unfolding_all rfl) : L2.PT X (.Compare a [op, op', op2] [b, c, e] pos) (tTest (tChain3 r r' r2 ta tb tc td)) := by
  refine ⟨fun pins s σ H Q I h => ?_⟩
  refine isTrue_chain (thn (ha.run pins s σ H _ I h) fun v s1 ⟨x, H1, I1, r1, q1⟩ => test_link (thn (hb.run pins s1 σ H1 _ I1 q1) fun u s2 ⟨y, H2, I2, rr2, q2⟩ =>
    thn (ho pins s2 σ H2 x y v u _ I2 r1 rr2 q2) fun d s3 ⟨z, H3, I3, r3, k, e, q3⟩ => ?_)) hm
  subst e
  cases r3
  refine wpAny_truthy_bool ?_
  cases k with
  | false =>
    obtain ⟨k', e', q'⟩ := q3
    cases e'
    exact ite_ff ⟨H3, I3, q'⟩
  | true =>
    refine ite_tt (test_link (thn (hc.run pins s3 σ H3 _ I3 q3) fun w' s4 ⟨z', H4, I4, r4, q4⟩ => thn (ho' pins s4 σ H4 y z' u w' _ I4 rr2 r4 q4) fun d' s5 ⟨z5, H5, I5, r5, k2, e2, q5⟩ => ?_))
    subst e2
    cases r5
    refine wpAny_truthy_bool ?_
    cases k2 with
    | false =>
      obtain ⟨k', e', q'⟩ := q5
      cases e'
      exact ite_ff ⟨H5, I5, q'⟩
    | true =>
      refine ite_tt (test_last (thn (hd.run pins s5 σ H5 _ I5 q5) fun w2 s6 ⟨z6, H6, I6, r6, q6⟩ => thn (ho2 pins s6 σ H6 z' z6 w' w2 _ I6 r4 r6 q6) fun d2 s7 ⟨z7, H7, I7, r7, k7, e7, q7⟩ => ?_))
      subst e7
      cases r7
      exact wpAny_truthy_bool ⟨H7, I7, q7⟩
end
section
variable {K : PySem.W.Frag} {φ : Addr → Prop} {J : Hp → Prop} {ρ : List (Option D)} {ta tb tc td : TE}
theorem ev_chainI3 {f g h : Int → Int → Bool} {i j k l : Int} (ha : EvD K φ J ta ρ (.int i)) (hb : EvD K φ J tb ρ (.int j)) (hc : EvD K φ J tc ρ (.int k)) (hd : EvD K φ J td ρ (.int l)) :
    EvD K φ J (tChain3 (rI0 fun i j => .bl (f i j)) (rI0 fun i j => .bl (g i j)) (rI0 fun i j => .bl (h i j)) ta tb tc td) ρ (.bl (f i j && (g j k && h k l))) := fun σ H A Q q =>
  ha σ H A _ fun v x1 H1 b1 A1 e1 r1 => hb σ H1 A1 _ fun w y1 H2 b2 A2 e2 r2 => by
    subst e1 e2
    cases (show v = _ from r1)
    cases (show w = _ from r2)
    refine ⟨i, j, rfl, rfl, f i j, rfl, ?_⟩
    cases hf : f i j with
    | false =>
      rw [if_neg (by simp)]
      exact q _ _ H2 (b1.trans b2) A2 rfl (by rw [hf]; rfl)
    | true =>
      rw [if_pos rfl]
      refine hc σ H2 A2 _ fun v3 x3 H3 b3 A3 e3 r3 => ?_
      subst e3
      cases (show v3 = _ from r3)
      refine ⟨j, k, rfl, rfl, g j k, rfl, ?_⟩
      cases hg : g j k with
      | false =>
        rw [if_neg (by simp)]
        exact q _ _ H3 ((b1.trans b2).trans b3) A3 rfl (by rw [hf, hg]; rfl)
      | true =>
        rw [if_pos rfl]
        refine hd σ H3 A3 _ fun v4 x4 H4 b4 A4 e4 r4 => ?_
        subst e4
        cases (show v4 = _ from r4)
        exact ⟨k, l, rfl, rfl, q _ _ H4 (((b1.trans b2).trans b3).trans b4) A4 rfl (by rw [hf, hg]; rfl)⟩
end

/-! ### live lists of trees -/
/-- the frame without l -/
abbrev wo (φ : Addr → Prop) (l : Addr) : Addr → Prop := fun a => φ a ∧ a ≠ l
structure LivO (K : PySem.W.Frag) (φ : Addr → Prop) (Jb J : Hp → Prop) (l : Addr) (C : List V → HO) (ds : List D) : Prop where
  np : ¬ φ l
  st : Stab l Jb
  pl : ∀ p s ns, Pooled φ Jb p s ns → p ≠ l ∧ s ≠ l
  ex : ∃ vs H0, Reps K φ H0 ds vs ∧ Mo H0 Jb ∧ H0 l ≠ none ∧ J = fun H => (Jb H ∧ H l = some (C vs)) ∧ But φ H0 H
abbrev Liv (K : PySem.W.Frag) (φ : Addr → Prop) (Jb J : Hp → Prop) (l : Addr) (ds : List D) : Prop := LivO K φ Jb J l HO.lst ds
/-- a new object comes out, C of values -/
def EvNO (K : PySem.W.Frag) (φ : Addr → Prop) (J : Hp → Prop) (te : TE) (ρ : List (Option D)) (P : List D → (List V → HO) → Prop) : Prop := ∀ σ H, At K φ J ρ σ H → ∀ Q : VK, (∀ p vs ds C H0 H', But φ H H0 → At K φ J ρ σ H0 → H0 p = none → But φ H0 H' → At K φ J ρ σ H' → P ds C → (∀ xs, C vs ≠ .tup xs) → H' p = some (C vs) → Reps K (wo φ p) H' ds vs → Q (.ref p) H') → te σ H Q
section
variable {K : PySem.W.Frag} {φ φ' : Addr → Prop} {Jb J J' : Hp → Prop} {H H' H1 : Hp} {ρ ρ' : List (Option D)} {σ : L2.St} {ta : TA} {te tb : TE} {x y z d : D} {P Pa Pb : D → Prop} {ds es : List D} {v : V} {vs : List V} {D0 : Ends} {t u : TS} {l : Addr} {C : List V → HO}
theorem Ext.but2 {p s : Addr} {ns : List Int} {H0 : Hp} (np : ¬ φ p) : ∀ H H', But φ H0 H → ButP p H H' → PoolOk p s ns H' → But φ H0 H' := fun H H' b k o => ⟨fun a u pa e => k a u (fun z => np (z ▸ pa)) (b.keep a u pa e), fun a ha => by
  by_cases z : a = p
  · subst z
    obtain ⟨_, _, _, _, e, _⟩ := o
    rw [e]
    exact fun z => by cases z
  · cases e : H a with
    | none => exact absurd e (b.tr a ha)
    | some u => rw [k a u z e]; exact fun z => by cases z⟩
theorem LivO.ext (L : LivO K φ Jb J l C ds) : Ext φ Jb φ J := by
  obtain ⟨vs, H0, r, m, hl, rfl⟩ := L.ex
  exact ⟨fun H h => h.1.1, fun p s ns hp => ⟨hp.np, hp.ne, fun H h => hp.ok H h.1.1, fun H H' h k o => ⟨⟨hp.st H H' h.1.1 k o, k _ _ (L.pl p s ns hp).1.symm h.1.2⟩, Ext.but2 hp.np H H' h.2 k o⟩⟩, fun _ p _ => p⟩
theorem LivO.len (L : Liv K φ Jb J l ds) : ∃ vs, vs.length = ds.length ∧ ∀ H, J H → H l = some (.lst vs) := by
  obtain ⟨vs, H0, r, m, hl, rfl⟩ := L.ex
  exact ⟨vs, r.length, fun H h => h.1.2⟩
/-- x = a new object -/
theorem st_newO {k : Nat} {P : List D → (List V → HO) → Prop} (A : At K φ J ρ σ H) (h : EvNO K φ J te ρ P) (kk : ∀ l ds C J' σ' H', P ds C → φ l → H l = none → Ext φ J (wo φ l) J → LivO K (wo φ l) J J' l C ds → At K (wo φ l) J' (ρ.set k (some (.raw (.ref l)))) σ' H' → D0.nx σ' H') : tAsg te (gName k) D0 σ H :=
  h σ H A _ fun p vs ds C H0 H' b0 A0 hp b A' pd nt e r => by
    have hpH : H p = none := by
      cases z : H p with
      | none => rfl
      | some u => exact absurd hp (b0.tr p (by rw [z]; exact fun w => by cases w))
    have st : Stab p J := Stab.of A0.mono hp
    have u : Up φ (wo φ p) H H' := fun a o q e2 => ⟨⟨q, ne_of_none e2 hpH⟩, (b0.trans b).keep a o q e2⟩
    have sr : SR K (wo φ p) H' ρ σ := A.sr.up u
    have A2 : At K (wo φ p) (fun H => (J H ∧ H p = some (C vs)) ∧ But (wo φ p) H' H) ρ σ H' :=
      ⟨sr, A'.fr.at e nt, ⟨⟨A'.j, e⟩, But.refl _ _⟩, (A'.mono.and (Mo.at (by rw [e]; exact fun w => by cases w))).and (Mo.but fun _ h => h)⟩
    exact kk p ds C _ _ H' pd (A0.fr p hp) hpH ⟨fun _ h => h, fun p s ns q => ⟨fun z => q.np z.1, q.ne, q.ok, q.st⟩, fun a p' h => ⟨p', fun e => h H0 A0.j (by rw [e]; exact hp)⟩⟩
      ⟨fun z => z.2 rfl, st, fun s ps ns q => by
        obtain ⟨_, _, _, _, h1, h2, _⟩ := q.ok _ A0.j
        exact ⟨ne_of_none h1 hp, ne_of_none h2 hp⟩, vs, H', r, A'.mono, (by rw [e]; exact fun z => nomatch z), rfl⟩ (A2.set k rfl)
/-- x = a new list -/
theorem st_newL {k : Nat} {P : List D → Prop} (A : At K φ J ρ σ H) (h : EvN K φ J te ρ P) (kk : ∀ l ds J' σ' H', P ds → φ l → H l = none → Ext φ J (wo φ l) J → Liv K (wo φ l) J J' l ds → At K (wo φ l) J' (ρ.set k (some (.raw (.ref l)))) σ' H' → D0.nx σ' H') : tAsg te (gName k) D0 σ H :=
  st_new A h fun l vs ds σ' H' pd hn hp r st ne b e A' => kk l ds _ σ' H' pd hp hn ⟨fun _ h => h, fun p s ns q => ⟨fun z => q.np z.1, q.ne, q.ok, q.st⟩, fun a p' h => ⟨p', fun e' => h H A.j (by rw [e']; exact hn)⟩⟩
    ⟨fun z => z.2 rfl, st, fun p s ns q => by
      obtain ⟨_, _, _, _, h1, h2, _⟩ := q.ok _ A.j
      exact ⟨ne_of_none h1 hn, ne_of_none h2 hn⟩, vs, H', r, A.mono.up b.tr, (by rw [e]; exact fun z => nomatch z), rfl⟩ A'
/-- .append -/
theorem st_appL {k : Nat} (A : At K φ J ρ σ H) (L : Liv K φ Jb J l ds) (hk : ρ[k]? = some (some (.raw (.ref l)))) (he : EvP K φ J te ρ P) (hz : ds.length ≤ 1000000)
    (kk : ∀ d J' H', P d → Liv K φ Jb J' l (ds ++ [d]) → At K φ J' ρ σ H' → D0.nx σ H') : tDrop (tBM K "list" rAppend (tVar k) (tCons te tNil)) D0 σ H := by
  obtain ⟨vs, H0, r, m, hl, rfl⟩ := L.ex
  refine st_app (vs := vs) A hk (fun H h => h.1.2) he (by rw [r.length]; exact hz) fun v d H' pd rv b A' => ?_
  have b0 : But φ H0 H' := A'.j.2
  have trl : H' l ≠ none := b0.tr l hl
  refine kk d _ _ pd ⟨L.np, L.st, L.pl, vs ++ [v], L2.upd H' l (.lst (vs ++ [v])), ?_, m.up fun a h => upd_tr a (b0.tr a h), (by rw [upd_same]; exact fun z => nomatch z), rfl⟩ (A'.upd L.np ⟨⟨L.st _ _ A'.j.1.1, upd_same⟩, But.refl _ _⟩ ?_)
  · exact ((r.mono b0).append (Reps.cons rv Reps.nil)).mono ((But.refl φ H').upd L.np)
  · exact (((m.up fun a h => upd_tr a (b0.tr a h))).and (Mo.at (by rw [upd_same]; exact fun z => by cases z))).and (Mo.but fun _ h => h)
/-- xs[i] = e -/
theorem st_setLL {k n : Nat} {i : Int} (A : At K φ J ρ σ H) (L : Liv K φ Jb J l ds) (he : EvP K φ J te ρ P) (hk : ρ[k]? = some (some (.raw (.ref l)))) (hi : EvD K φ J tb ρ (.int i)) (hj : ixN ds.length i = some n)
    (kk : ∀ d J' H', P d → Liv K φ Jb J' l (ds.set n d) → At K φ J' ρ σ H' → D0.nx σ H') : tAsg te (gSub (tVar k) tb rSetL) D0 σ H := by
  obtain ⟨vs, H0, r, m, hl, rfl⟩ := L.ex
  refine st_setL (vs := vs) A he hk hi (fun H h => h.1.2) (by rw [r.length]; exact hj) fun v d H' pd rv b A' => ?_
  have b0 : But φ H0 H' := A'.j.2
  refine kk d _ _ pd ⟨L.np, L.st, L.pl, vs.set n v, L2.upd H' l (.lst (vs.set n v)), ?_, m.up fun a h => upd_tr a (b0.tr a h), (by rw [upd_same]; exact fun z => nomatch z), rfl⟩ (A'.upd L.np ⟨⟨L.st _ _ A'.j.1.1, upd_same⟩, But.refl _ _⟩ ?_)
  · exact ((r.mono b0).set n rv).mono ((But.refl φ H').upd L.np)
  · exact (((m.up fun a h => upd_tr a (b0.tr a h))).and (Mo.at (by rw [upd_same]; exact fun z => by cases z))).and (Mo.but fun _ h => h)
/-- into a loop's turn and out of it -/
theorem LivO.push {H1 : Hp} (L : LivO K φ Jb J l C ds) (A : At K φ (fun H => J H ∧ But φ H1 H) ρ σ H) : ∃ J2, LivO K φ (fun H => Jb H ∧ But φ H1 H) J2 l C ds ∧ At K φ J2 ρ σ H ∧ Ext φ Jb φ (fun H => Jb H ∧ But φ H1 H) := by
  obtain ⟨vs, H0, r, m, hl, rfl⟩ := L.ex
  have sb : Stab l (But φ H1) := fun H o b => ⟨fun a u pa e => by
    rw [upd_ne (show a ≠ l from fun z => L.np (z ▸ pa))]
    exact b.keep a u pa e, fun a ha => upd_tr a (b.tr a ha)⟩
  have b0 : But φ H0 H := A.j.1.2
  have e : Ext φ Jb φ (fun H => Jb H ∧ But φ H1 H) := Ext.but'
  refine ⟨_, ⟨L.np, L.st.and sb, fun p s ns q => ?_, vs, H, r.mono b0, (m.up b0.tr).and (Mo.but A.j.2.tr), b0.tr l hl, rfl⟩, A.live ⟨⟨⟨A.j.1.1.1, A.j.2⟩, A.j.1.1.2⟩, But.refl _ _⟩ (((m.up b0.tr).and (Mo.but A.j.2.tr)).and (Mo.at (b0.tr l hl)) |>.and (Mo.but fun _ h => h)), e⟩
  obtain ⟨_, _, _, _, h1, h2, _⟩ := q.ok H ⟨A.j.1.1.1, A.j.2⟩
  refine ⟨fun z => ?_, fun z => ?_⟩
  · -- the pool is no live list of ours: its content would be rewritten
    subst z
    have po := q.ok _ ((L.st.and sb) H (.lst []) ⟨A.j.1.1.1, A.j.2⟩)
    obtain ⟨_, _, _, _, e1, _⟩ := po
    rw [upd_same] at e1
    cases e1
  · subst z
    have po := q.ok _ ((L.st.and sb) H (.tup []) ⟨A.j.1.1.1, A.j.2⟩)
    obtain ⟨_, _, _, _, e1, e2, _⟩ := po
    rw [upd_same] at e2
    cases e2
theorem LivO.pop {H1 : Hp} {J2 : Hp → Prop} (L : LivO K φ (fun H => Jb H ∧ But φ H1 H) J2 l C ds) (hm : Mo H1 Jb) (hs : Stab l Jb) (hp : ∀ p s ns, Pooled φ Jb p s ns → p ≠ l ∧ s ≠ l) (A : At K φ J2 ρ σ H) : ∃ J, LivO K φ Jb J l C ds ∧ At K φ (fun H => J H ∧ But φ H1 H) ρ σ H := by
  obtain ⟨vs, H0, r, m, hl, rfl⟩ := L.ex
  have b0 : But φ H0 H := A.j.2
  have b1 : But φ H1 H := A.j.1.1.2
  have m1 : Mo H Jb := hm.up b1.tr
  exact ⟨_, ⟨L.np, hs, hp, vs, H, r.mono b0, m1, b0.tr l hl, rfl⟩, A.live ⟨⟨⟨A.j.1.1.1, A.j.1.2⟩, But.refl _ _⟩, b1⟩ (((m1.and (Mo.at (b0.tr l hl))).and (Mo.but fun _ h => h)).and (Mo.but b1.tr))⟩
/-- the list is left as it is from here on -/
theorem LivO.freeze (L : Liv K (wo φ l) Jb J l ds) (hl : φ l) {k : Nat} (A : At K (wo φ l) J ρ σ H) (hk : ρ[k]? = some (some (.raw (.ref l)))) : At K φ Jb (ρ.set k (some (.lst ds))) σ H := by
  obtain ⟨vs, H0, r, m, hn, rfl⟩ := L.ex
  have b0 : But (wo φ l) H0 H := A.j.2
  have up : Up (wo φ l) φ H H := fun a o p e => ⟨p.1, e⟩
  have rr : Rep K φ H (.lst ds) (.ref l) := ⟨l, vs, rfl, .inl ⟨hl, .inl A.j.1.2⟩, Reps.up up ds vs (r.mono b0)⟩
  obtain ⟨w, ew, rw'⟩ := A.sr.2 k _ hk
  cases (show w = _ from rw')
  refine ⟨?_, A.fr.fst, A.j.1.1, m.up b0.tr⟩
  have s1 := (A.sr.up up)
  refine ⟨by rw [List.length_set]; exact s1.1, fun i d hd => ?_⟩
  by_cases e : k = i
  · subst e
    have hlt : k < ρ.length := (List.getElem?_eq_some_iff.mp hk).1
    rw [List.getElem?_set_self hlt] at hd
    cases hd
    exact ⟨_, ew, rr⟩
  · rw [List.getElem?_set_ne e] at hd
    exact s1.2 i d hd
theorem ev_lenLL (L : Liv K φ Jb J l ds) (hk : EvD K φ J te ρ (.raw (.ref l))) : EvD K φ J (tCB (rLen K) (tCons te tNil)) ρ (.int ds.length) := by
  obtain ⟨vs, e, hv⟩ := L.len
  rw [← e]
  exact ev_lenLive hk hv
theorem ev_ixLL {i : Int} (L : Liv K φ Jb J l ds) (hk : EvD K φ J te ρ (.raw (.ref l))) (hb : EvD K φ J tb ρ (.int i)) (e : L2.atI ds i = some d) : EvD K φ J (tOp (rIxL K) te tb) ρ d := by
  obtain ⟨vs, H0, r, m, hn, rfl⟩ := L.ex
  refine ev_ixLive hk hb fun H h => ⟨vs, h.1.2, ?_⟩
  unfold L2.atI at e ⊢
  rw [r.length]
  cases hx : L2.ixN ds.length i with
  | none => rw [hx] at e; cases e
  | some n =>
    rw [hx] at e
    obtain ⟨v, hv, rv⟩ := r.get (i := n) e
    exact ⟨v, hv, rv.mono h.2⟩
end
theorem Mo.liv {K : PySem.W.Frag} {φ : Addr → Prop} {Jb J : Hp → Prop} {l : Addr} {C : List V → HO} {ds : List D} {H1 : Hp} (L : LivO K φ Jb J l C ds) (j : J H1) : Mo H1 Jb := by
  obtain ⟨vs, H0, r, m, hl, rfl⟩ := L.ex
  exact m.up j.2.tr
/-! ### slices, tuples of unknown trees -/
theorem cutD_hi {α : Type} {xs : List α} {i : Int} (h0 : 0 ≤ i) : cutD xs none (some i) = xs.take i.toNat := by
  have e : HT.sIx xs.length xs.length (some i) = min i.toNat xs.length := by
    have z := HT.sIx_nat xs.length xs.length i.toNat
    rw [Int.toNat_of_nonneg h0] at z
    exact z
  unfold cutD
  rw [e, HT.sIx_none, List.drop_zero, Nat.sub_zero, List.take_eq_take_iff]
  omega
theorem cutD_lo {α : Type} {xs : List α} {i : Int} (h0 : 0 ≤ i) : cutD xs (some i) none = xs.drop i.toNat := by
  have e : HT.sIx xs.length 0 (some i) = min i.toNat xs.length := by
    have z := HT.sIx_nat xs.length 0 i.toNat
    rw [Int.toNat_of_nonneg h0] at z
    exact z
  unfold cutD
  rw [e, HT.sIx_none]
  by_cases hl : i.toNat ≤ xs.length
  · rw [Nat.min_eq_left hl, List.take_of_length_le (by rw [List.length_drop]; omega)]
  · rw [Nat.min_eq_right (by omega), List.drop_eq_nil_of_le (Nat.le_refl _), List.drop_eq_nil_of_le (by omega), List.take_nil]
section
variable {K : PySem.W.Frag} {φ : Addr → Prop} {J : Hp → Prop} {ρ : List (Option D)} {te ta tb : TE} {P : D → Prop}
theorem Op2.imp {r : R2} {x y : D} {P P' : D → Prop} (h : Op2 K φ r x y P) (k : ∀ d, P d → P' d) : Op2 K φ r x y P' := fun H v w f r1 r2 Q q => h H v w f r1 r2 Q fun u z H' s p r => q u z H' s (k z p) r
theorem ev_catTP {Pa Pb : List D → Prop} (ha : EvP K φ J ta ρ (fun z => ∃ ds, z = .tup ds ∧ Pa ds)) (hb : EvP K φ J tb ρ (fun z => ∃ ds, z = .tup ds ∧ Pb ds)) (hz : ∀ a b, Pa a → Pb b → a.length + b.length ≤ 1000000) : EvP K φ J (tOp (rCatA K) ta tb) ρ (fun z => ∃ ds, z = .tup ds ∧ ∃ a b, ds = a ++ b ∧ Pa a ∧ Pb b) :=
  ev_op ha hb fun x y ⟨a, e1, pa⟩ ⟨b, e2, pb⟩ => by
    subst e1 e2
    exact (o2_catT (hz a b pa pb)).imp fun z e => ⟨_, e, a, b, rfl, pa, pb⟩
theorem ev_tupLP {Pl : List D → Prop} (h : EvP K φ J te ρ (fun z => ∃ ds, z = .lst ds ∧ Pl ds)) : EvP K φ J (tCB (rTupOf K) (tCons te tNil)) ρ (fun z => ∃ ds, z = .tup ds ∧ Pl ds) := ev_cb (ea_consP h ea_nil) fun ds ⟨d, r, e, ⟨es, e1, pe⟩, e2⟩ => by
  subst e e1 e2
  exact fun H vs f r Q q => cl_tupL H vs f r Q fun u z H' s e r => q u z H' s ⟨es, e, pe⟩ r
/-- a tuple of one unknown value -/
theorem ev_tup1P (h : EvP K φ J te ρ P) : EvP K φ J (tTup (tCons te tNil)) ρ (fun z => ∃ ds, z = .tup ds ∧ ∃ d, ds = [d] ∧ P d) := (ev_tupP (ea_consP h ea_nil) fun r ⟨d, r', e, p, e2⟩ => by rw [e, e2]; exact Nat.le_of_ble_eq_true rfl).imp fun z ⟨r, e, d, r', e1, p, e2⟩ => ⟨r, e, d, by rw [e1, e2], p⟩
end
section
variable {K : PySem.W.Frag} {φ : Addr → Prop} {J : Hp → Prop} {ρ : List (Option D)} {te ta tb : TE}
theorem ev_repTP {ds : List D} {p : Int → Prop} (ha : EvD K φ J te ρ (.tup ds)) (hb : EvI K φ J tb ρ p) (hne : ds ≠ []) (hp : ∀ i, p i → 2 ≤ i ∧ i ≤ 1000) (hz : ds.length ≤ 1000) : EvP K φ J (tOp (rRepT K) te tb) ρ (fun z => ∃ i : Int, p i ∧ z = .tup (List.replicate i.toNat ds).flatten) :=
  ev_op ha hb fun x y e ⟨i, e2, pi⟩ => by
    subst e e2
    intro H v w fr r1 r2 Q q
    obtain ⟨a, vs, rfl, p', rs⟩ := rep_tup r1
    cases (show w = _ from r2)
    refine ⟨a, i, vs, rfl, rfl, p'.sq, fun z => hne (List.eq_nil_of_length_eq_zero (by rw [← rs.length, z]; rfl)), (hp i pi).1, (hp i pi).2, by rw [rs.length]; exact hz, fun l hl => q _ _ _ (same_new hl) ⟨i, pi, rfl⟩ ⟨l, _, rfl, .inl ⟨fr l hl, .inl upd_same⟩, ?_⟩⟩
    exact (replicate_reps rs _).mono (But.of (same_new hl))
end

-- import HandS.Dict
/-! ### dicts: keys ints and texts, or tuples of these -/
def keyD : Key → D
  | .inl i => .int i
  | .inr s => .str s
class DKind (κ : Type) [DecidableEq κ] where
  kd : κ → D
  ho : List (κ × V) → HO
  nt : ∀ kvs xs, ho kvs ≠ .tup xs
  d : List κ → List D → D
  get : ∀ {K : PySem.W.Frag} {φ : Addr → Prop} {H : Hp} {a : Addr} {kvs : List (κ × V)} {k : κ} {v : V}, Rep K φ H (kd k) v → H a = some (ho kvs) → DGet H a v (valV kvs k)
  put : ∀ {K : PySem.W.Frag} {φ : Addr → Prop} {H : Hp} {a : Addr} {kvs : List (κ × V)} {k : κ} {y v : V}, Rep K φ H (kd k) y → H a = some (ho kvs) → kvs.length < sizeLine → DPut H a y v (upd H a (ho (putK kvs k v)))
  isd : ∀ {H : Hp} {a : Addr} {kvs : List (κ × V)}, H a = some (ho kvs) → IsD H a
  rep : ∀ {K : PySem.W.Frag} {φ : Addr → Prop} {H : Hp} {ks : List κ} {ds : List D} {v : V}, Rep K φ H (d ks ds) v ↔ ∃ a vs, v = .ref a ∧ (φ a ∧ H a = some (ho (ks.zip vs)) ∧ ks.length = ds.length) ∧ Reps K φ H ds vs
theorem keyD_v {K : PySem.W.Frag} {φ : Addr → Prop} {H : Hp} {k : Key} {v : V} (h : Rep K φ H (keyD k) v) : v = kV k := by
  cases k <;> exact h
theorem keysD_v {K : PySem.W.Frag} {φ : Addr → Prop} {H : Hp} : ∀ {ks : List Key} {vs : List V}, Reps K φ H (ks.map keyD) vs → vs = ks.map kV
  | [], _, h => h
  | k :: ks, vs, h => by
    obtain ⟨v, r, rfl, h1, h2⟩ := (show ∃ v r, vs = v :: r ∧ Rep K φ H (keyD k) v ∧ Reps K φ H (ks.map keyD) r from h)
    rw [keyD_v h1, keysD_v h2]
    rfl
instance : DKind Key where
  kd := keyD
  ho := HO.dK
  nt := fun _ _ h => nomatch h
  d := D.dk
  get := fun r e => by
    rw [keyD_v r]
    exact DGet.k e
  put := fun r e hl => by
    rw [keyD_v r]
    exact DPut.k e hl
  isd := fun e => .inl ⟨_, .inl e⟩
  rep := Iff.rfl
instance : DKind (List Key) where
  kd := fun ks => .tup (ks.map keyD)
  ho := HO.dT
  nt := fun _ _ h => nomatch h
  d := D.dt
  get := fun r e => by
    obtain ⟨b, vs, rfl, p, rs⟩ := rep_tup r
    rw [keysD_v rs] at p
    exact DGet.t e p.at.2
  put := fun r e hl => by
    obtain ⟨b, vs, rfl, p, rs⟩ := rep_tup r
    rw [keysD_v rs] at p
    exact DPut.t e p.at.2 hl
  isd := fun e => .inr ⟨_, .inl e⟩
  rep := Iff.rfl
section
variable {κ : Type} [DecidableEq κ] [DKind κ]
def valD (kds : List (κ × D)) (k : κ) : Option D := (kds.find? fun kv => decide (kv.1 = k)).map (·.2)
def putD (kds : List (κ × D)) (k : κ) (d : D) : List (κ × D) :=
  if (kds.any fun kv => decide (kv.1 = k)) = true then kds.map (fun kv => if kv.1 = k then (kv.1, d) else kv) else kds ++ [(k, d)]
theorem valD_nil {k : κ} : valD ([] : List (κ × D)) k = none := rfl
theorem valD_pos {p : κ × D} {r : List (κ × D)} {k : κ} (e : p.1 = k) : valD (p :: r) k = some p.2 := by simp [valD, List.find?_cons, e]
theorem valD_neg {p : κ × D} {r : List (κ × D)} {k : κ} (e : ¬ p.1 = k) : valD (p :: r) k = valD r k := by simp [valD, List.find?_cons, e]
theorem valD_any (k : κ) : ∀ kds : List (κ × D), (kds.any fun kv => decide (kv.1 = k)) = (valD kds k).isSome
  | [] => rfl
  | p :: r => by
    rw [List.any_cons]
    by_cases e : p.1 = k
    · simp only [valD_pos e, decide_eq_true e, Bool.true_or, Option.isSome_some]
    · rw [valD_neg e, decide_eq_false e, Bool.false_or]; exact valD_any k r
theorem valD_map (k j : κ) (y : D) : ∀ kds : List (κ × D), valD (kds.map fun kv => if kv.1 = k then (kv.1, y) else kv) j = (valD kds j).map fun x => if j = k then y else x
  | [] => rfl
  | p :: r => by
    have ih := valD_map k j y r
    rw [List.map_cons]
    by_cases h : p.1 = k
    · rw [if_pos h]
      by_cases e : p.1 = j
      · rw [valD_pos (p := (p.1, y)) e, valD_pos e, Option.map_some, if_pos (e.symm.trans h)]
      · rw [valD_neg (p := (p.1, y)) e, valD_neg e, ih]
    · rw [if_neg h]
      by_cases e : p.1 = j
      · rw [valD_pos (p := p) e, valD_pos e, Option.map_some, if_neg (fun z => h (e.trans z))]
      · rw [valD_neg (p := p) e, valD_neg e, ih]
theorem valD_snoc (k j : κ) (y : D) : ∀ kds : List (κ × D), valD kds k = none → valD (kds ++ [(k, y)]) j = if j = k then some y else valD kds j
  | [], _ => by
    by_cases e : k = j
    · rw [if_pos e.symm]; exact valD_pos (p := (k, y)) e
    · rw [if_neg (fun z => e z.symm)]; exact valD_neg (p := (k, y)) e
  | p :: r, hn => by
    rw [List.cons_append]
    have hk : ¬ p.1 = k := fun z => by rw [valD_pos z] at hn; cases hn
    rw [valD_neg hk] at hn
    have ih := valD_snoc k j y r hn
    by_cases e : p.1 = j
    · rw [valD_pos e, valD_pos e, if_neg (fun z => hk (e.trans z))]
    · rw [valD_neg e, valD_neg e, ih]
/-- what a dict holds behind a store -/
theorem valD_put (kds : List (κ × D)) (k j : κ) (y : D) : valD (putD kds k y) j = if j = k then some y else valD kds j := by
  unfold putD
  rw [valD_any]
  cases h : valD kds k with
  | none =>
    rw [if_neg (by simp)]
    exact valD_snoc k j y kds h
  | some x =>
    rw [if_pos (show (some x).isSome = true from rfl), valD_map]
    by_cases e : j = k
    · subst e
      rw [h, if_pos rfl]
      simp
    · rw [if_neg e]
      simp [e]
theorem putD_len (kds : List (κ × D)) (k : κ) (y : D) : (putD kds k y).length ≤ kds.length + 1 := by
  unfold putD
  split
  · rw [List.length_map]; omega
  · rw [List.length_append]; exact Nat.le_refl _
theorem putD_keys_old {kds : List (κ × D)} {k : κ} {y x : D} (h : valD kds k = some x) : (putD kds k y).map (·.1) = kds.map (·.1) := by
  unfold putD
  rw [valD_any, h, if_pos (show (some x).isSome = true from rfl), List.map_map]
  refine List.map_congr_left fun p _ => ?_
  show (if p.1 = k then (p.1, y) else p).1 = p.1
  split <;> rfl
theorem putD_new {kds : List (κ × D)} {k : κ} {y : D} (h : valD kds k = none) : putD kds k y = kds ++ [(k, y)] := by
  unfold putD
  rw [valD_any, h, if_neg (by simp)]
theorem valD_some {kds : List (κ × D)} {k : κ} : (valD kds k).isSome = true ↔ k ∈ kds.map (·.1) := by
  rw [← valD_any, List.any_eq_true]
  constructor
  · rintro ⟨p, hp, e⟩
    exact List.mem_map.mpr ⟨p, hp, of_decide_eq_true e⟩
  · intro h
    obtain ⟨p, hp, e⟩ := List.mem_map.mp h
    exact ⟨p, hp, decide_eq_true e⟩
variable {K : PySem.W.Frag} {φ φ' : Addr → Prop} {Jb J J' : Hp → Prop} {H H' H1 : Hp} {ρ ρ' : List (Option D)} {σ : L2.St} {ta : TA} {te tb td ty tv tx : TE} {x y z d : D} {P : D → Prop} {ds es : List D} {v : V} {vs : List V} {D0 : Ends} {l : Addr} {kds : List (κ × D)} {k : κ}
theorem zip_val : ∀ {kds : List (κ × D)} {vs : List V}, Reps K φ H (kds.map (·.2)) vs → ∀ k, (valD kds k = none ∧ valV ((kds.map (·.1)).zip vs) k = none) ∨ ∃ d v, valD kds k = some d ∧ valV ((kds.map (·.1)).zip vs) k = some v ∧ Rep K φ H d v
  | [], vs, h, k => .inl ⟨rfl, rfl⟩
  | p :: kds, vs, h, k => by
    obtain ⟨v, r, rfl, h1, h2⟩ := (show ∃ v r, vs = v :: r ∧ Rep K φ H p.2 v ∧ Reps K φ H (kds.map (·.2)) r from h)
    rw [List.map_cons, List.zip_cons_cons]
    by_cases e : p.1 = k
    · exact .inr ⟨p.2, v, valD_pos e, valV_pos e, h1⟩
    · rw [valD_neg e, valV_neg (p := (p.1, v)) e]
      exact zip_val h2 k
theorem zip_put (hd : Rep K φ H d v) {kds : List (κ × D)} {vs : List V} (h : Reps K φ H (kds.map (·.2)) vs) : ∃ vs', putK ((kds.map (·.1)).zip vs) k v = ((putD kds k d).map (·.1)).zip vs' ∧ Reps K φ H ((putD kds k d).map (·.2)) vs' := by
  have hl := h.length
  rw [List.length_map] at hl
  have hsome : (valV ((kds.map (·.1)).zip vs) k).isSome = (valD kds k).isSome := by
    rcases zip_val h k with ⟨e1, e2⟩ | ⟨d, v, e1, e2, _⟩ <;> rw [e1, e2] <;> rfl
  unfold putK putD
  rw [valV_any, valD_any, hsome]
  by_cases hs : (valD kds k).isSome = true
  · rw [if_pos hs, if_pos hs]
    clear hsome hs
    induction kds generalizing vs with
    | nil => exact ⟨vs, rfl, h⟩
    | cons p kds ih =>
      obtain ⟨u, r, rfl, h1, h2⟩ := (show ∃ v r, vs = v :: r ∧ Rep K φ H p.2 v ∧ Reps K φ H (kds.map (·.2)) r from h)
      obtain ⟨vs', e, r'⟩ := ih h2 (by simpa using hl)
      rw [List.map_cons, List.zip_cons_cons, List.map_cons, List.map_cons]
      by_cases hk : p.1 = k
      · refine ⟨v :: vs', ?_, ?_⟩
        · rw [List.map_cons, List.zip_cons_cons, ← e, if_pos hk, if_pos hk]
        · rw [List.map_cons, if_pos hk]
          exact Reps.cons hd r'
      · refine ⟨u :: vs', ?_, ?_⟩
        · rw [List.map_cons, List.zip_cons_cons, ← e, if_neg hk, if_neg hk]
        · rw [List.map_cons, if_neg hk]
          exact Reps.cons h1 r'
  · rw [if_neg hs, if_neg hs]
    refine ⟨vs ++ [v], ?_, ?_⟩
    · rw [List.map_append, List.zip_append (by rw [List.length_map, hl])]
      rfl
    · rw [List.map_append]
      exact h.append (Reps.cons hd Reps.nil)
/-- a live dict -/
abbrev LivD (K : PySem.W.Frag) (φ : Addr → Prop) (Jb J : Hp → Prop) (l : Addr) (kds : List (κ × D)) : Prop := LivO K φ Jb J l (fun vs => DKind.ho ((kds.map (·.1)).zip vs)) (kds.map (·.2))
def dictD (kds : List (κ × D)) : D := DKind.d (kds.map (·.1)) (kds.map (·.2))
/-- a dict, live or left as it is -/
def EvDict (K : PySem.W.Frag) (φ : Addr → Prop) (J : Hp → Prop) (td : TE) (ρ : List (Option D)) (kds : List (κ × D)) : Prop := ∀ σ H, At K φ J ρ σ H → ∀ Q : VK, (∀ a H', But φ H H' → At K φ J ρ σ H' → (∀ H'', But φ H' H'' → J H'' → ∃ vs, H'' a = some (DKind.ho ((kds.map (·.1)).zip vs)) ∧ Reps K φ H'' (kds.map (·.2)) vs) → Q (.ref a) H') → td σ H Q
theorem ed_frozen (h : EvD K φ J td ρ (dictD kds)) : EvDict K φ J td ρ kds := fun σ H A Q q => h σ H A _ fun v d H' b A' e r => by
  subst e
  obtain ⟨a, vs, rfl, ⟨p, e, hl⟩, rs⟩ := DKind.rep.mp r
  exact q a H' b A' fun H'' b' j => ⟨vs, b'.keep a _ p e, rs.mono b'⟩
theorem ed_live (L : LivD K φ Jb J l kds) (h : EvD K φ J td ρ (.raw (.ref l))) : EvDict K φ J td ρ kds := fun σ H A Q q => h σ H A _ fun v d H' b A' e r => by
  subst e
  cases (show v = _ from r)
  obtain ⟨vs, H0, rs, m, hl, rfl⟩ := L.ex
  exact q l H' b A' fun H'' b' j => ⟨vs, j.1.2, rs.mono j.2⟩
theorem ev_dget (hd : EvDict K φ J td ρ kds) (hy : EvD K φ J ty ρ (DKind.kd k)) (e : valD kds k = some d) : EvD K φ J (tDGet td ty) ρ d := fun σ H A Q q =>
  hd σ H A _ fun a H1 b1 A1 per => hy σ H1 A1 _ fun y d' H2 b2 A2 e2 r2 => by
    subst e2
    obtain ⟨vs, ea, rs⟩ := per H2 b2 A2.j
    rcases zip_val rs k with ⟨e1, _⟩ | ⟨d1, v1, e1, ev, r1⟩
    · rw [e] at e1; cases e1
    · rw [e] at e1
      cases e1
      refine ⟨a, v1, rfl, ?_, q v1 _ H2 (b1.trans b2) A2 rfl r1⟩
      rw [← ev]
      exact DKind.get r2 ea
theorem ev_din (hy : EvD K φ J ty ρ (DKind.kd k)) (hd : EvDict K φ J td ρ kds) : EvD K φ J (tDIn ty td) ρ (.bl (valD kds k).isSome) := fun σ H A Q q =>
  hy σ H A _ fun y d' H1 b1 A1 e1 r1 => hd σ H1 A1 _ fun a H2 b2 A2 per => by
    subst e1
    obtain ⟨vs, ea, rs⟩ := per H2 (But.refl _ _) A2.j
    refine ⟨a, _, rfl, DKind.get (r1.mono b2) ea, q _ _ H2 (b1.trans b2) A2 rfl ?_⟩
    rcases zip_val rs k with ⟨e1, e2⟩ | ⟨d1, v1, e1, e2, _⟩ <;> rw [e1, e2] <;> rfl
theorem ev_dnotin (hy : EvD K φ J ty ρ (DKind.kd k)) (hd : EvDict K φ J td ρ kds) : EvD K φ J (tDNotIn ty td) ρ (.bl (!(valD kds k).isSome)) := fun σ H A Q q =>
  hy σ H A _ fun y d' H1 b1 A1 e1 r1 => hd σ H1 A1 _ fun a H2 b2 A2 per => by
    subst e1
    obtain ⟨vs, ea, rs⟩ := per H2 (But.refl _ _) A2.j
    refine ⟨a, _, rfl, DKind.get (r1.mono b2) ea, q _ _ H2 (b1.trans b2) A2 rfl ?_⟩
    rcases zip_val rs k with ⟨e1, e2⟩ | ⟨d1, v1, e1, e2, _⟩ <;> rw [e1, e2] <;> rfl
theorem ev_dget2 (hd : EvDict K φ J td ρ kds) (hy : EvD K φ J ty ρ (DKind.kd k)) (hx : EvD K φ J tx ρ x) : EvD K φ J (tDGet2 td ty tx) ρ ((valD kds k).getD x) := fun σ H A Q q =>
  hd σ H A _ fun a H1 b1 A1 per => by
    obtain ⟨vs1, ea1, _⟩ := per H1 (But.refl _ _) A1.j
    refine ⟨a, rfl, DKind.isd ea1, hy σ H1 A1 _ fun y d' H2 b2 A2 e2 r2 => hx σ H2 A2 _ fun u d3 H3 b3 A3 e3 r3 => ?_⟩
    subst e2 e3
    obtain ⟨vs, ea, rs⟩ := per H3 (b2.trans b3) A3.j
    refine ⟨_, DKind.get (r2.mono b3) ea, q _ _ H3 ((b1.trans b2).trans b3) A3 rfl ?_⟩
    rcases zip_val rs k with ⟨e1, e2⟩ | ⟨d1, v1, e1, e2, r1⟩
    · rw [e1, e2]; exact r3
    · rw [e1, e2]; exact r1
/-- d[y] = v -/
theorem st_dputL {i : Nat} (A : At K φ J ρ σ H) (L : LivD K φ Jb J l kds) (hv : EvP K φ J tv ρ P) (hk : ρ[i]? = some (some (.raw (.ref l)))) (hy : EvD K φ J ty ρ (DKind.kd k)) (hz : kds.length ≤ 1000000)
    (kk : ∀ d J' H', P d → LivD K φ Jb J' l (putD kds k d) → At K φ J' ρ σ H' → D0.nx σ H') : sDPut (tVar i) ty tv D0 σ H := by
  obtain ⟨vs, H0, r, m, hl, rfl⟩ := L.ex
  refine hv σ H A _ fun v d H1 b1 A1 pd r1 => ev_var hk σ H1 A1 _ fun w d2 H2 b2 A2 e2 r2 => hy σ H2 A2 _ fun y d3 H3 b3 A3 e3 r3 => ?_
  subst e2 e3
  cases (show w = _ from r2)
  have b0 : But φ H0 H3 := A3.j.2
  have trl : H3 l ≠ none := b0.tr l hl
  obtain ⟨vs', ep, rp⟩ := zip_put (k := k) ((r1.mono b2).mono b3) (r.mono b0)
  have hlen : ((kds.map (·.1)).zip vs).length < sizeLine := szlt (by
    rw [List.length_zip, List.length_map]
    omega)
  refine ⟨l, _, rfl, DKind.put r3 A3.j.1.2 hlen, ?_⟩
  rw [ep]
  refine kk d _ _ pd ⟨L.np, L.st, L.pl, vs', L2.upd H3 l (DKind.ho (((putD kds k d).map (·.1)).zip vs')), rp.mono ((But.refl φ H3).upd L.np), m.up fun a h => upd_tr a (b0.tr a h), (by rw [upd_same]; exact fun z => nomatch z), rfl⟩ (A3.upd (ho := fun xs => DKind.nt _ xs) L.np ⟨⟨L.st _ _ A3.j.1.1, upd_same⟩, But.refl _ _⟩ ?_)
  exact ((m.up fun a h => upd_tr a (b0.tr a h)).and (Mo.at (by rw [upd_same]; exact fun z => nomatch z))).and (Mo.but fun _ h => h)
theorem LivO.freezeD (L : LivD K (wo φ l) Jb J l kds) (hl : φ l) {i : Nat} (A : At K (wo φ l) J ρ σ H) (hk : ρ[i]? = some (some (.raw (.ref l)))) : At K φ Jb (ρ.set i (some (dictD kds))) σ H := by
  obtain ⟨vs, H0, r, m, hn, rfl⟩ := L.ex
  have b0 : But (wo φ l) H0 H := A.j.2
  have up : Up (wo φ l) φ H H := fun a o p e => ⟨p.1, e⟩
  have rr : Rep K φ H (dictD kds) (.ref l) := DKind.rep.mpr ⟨l, vs, rfl, ⟨hl, A.j.1.2, by rw [List.length_map, List.length_map]⟩, Reps.up up _ vs (r.mono b0)⟩
  obtain ⟨w, ew, rw'⟩ := A.sr.2 i _ hk
  cases (show w = _ from rw')
  refine ⟨?_, A.fr.fst, A.j.1.1, m.up b0.tr⟩
  have s1 := (A.sr.up up)
  refine ⟨by rw [List.length_set]; exact s1.1, fun j d hd => ?_⟩
  by_cases e : i = j
  · subst e
    have hlt : i < ρ.length := (List.getElem?_eq_some_iff.mp hk).1
    rw [List.getElem?_set_self hlt] at hd
    cases hd
    exact ⟨_, ew, rr⟩
  · rw [List.getElem?_set_ne e] at hd
    exact s1.2 j d hd
end
section
variable {K : PySem.W.Frag} {φ : Addr → Prop} {J : Hp → Prop} {ρ : List (Option D)} {te tk tv : TE}
/-- {} -/
theorem en_dnewK : EvNO K φ J tDNewK ρ (fun ds C => ds = (([] : List (Key × D)).map (·.2)) ∧ C = fun vs => HO.dK ((([] : List (Key × D)).map (·.1)).zip vs)) := fun σ H A Q q p hp =>
  q p [] [] _ H _ (But.refl _ _) A hp (But.of (same_new hp)) (A.same (same_new hp)) ⟨rfl, rfl⟩ (fun _ h => nomatch h) upd_same Reps.nil
theorem en_dnewT : EvNO K φ J tDNewT ρ (fun ds C => ds = (([] : List (List Key × D)).map (·.2)) ∧ C = fun vs => HO.dT ((([] : List (List Key × D)).map (·.1)).zip vs)) := fun σ H A Q q p hp =>
  q p [] [] _ H _ (But.refl _ _) A hp (But.of (same_new hp)) (A.same (same_new hp)) ⟨rfl, rfl⟩ (fun _ h => nomatch h) upd_same Reps.nil
/-- {k: v} -/
theorem en_disp1 {k : Key} {d : D} (hk : ∀ J' φ', Ext φ J φ' J' → EvD K φ' J' tk ρ (keyD k)) (hv : ∀ J' φ', Ext φ J φ' J' → EvD K φ' J' tv ρ d) : EvNO K φ J (tDisp [(tk, tv)]) ρ (fun ds C => ds = ([(k, d)].map (·.2)) ∧ C = fun vs => HO.dK (([(k, d)].map (·.1)).zip vs)) := fun σ H A Q q p hp => by
  have ext : Ext φ J (wo φ p) (fun H => J H ∧ H p = some (.dK [])) := ⟨fun _ h => h.1, fun p' s ns hq => ⟨fun z => hq.np z.1, hq.ne, fun H h => hq.ok H h.1, fun H' H'' h k o => ⟨hq.st H' H'' h.1 k o, k _ _ (by
    obtain ⟨_, _, _, _, h1, _⟩ := hq.ok _ A.j
    exact (ne_of_none h1 hp).symm) h.2⟩⟩, fun a p' h => ⟨p', fun e => h H A.j (by rw [e]; exact hp)⟩⟩
  have A1 : At K (wo φ p) (fun H => J H ∧ H p = some (.dK [])) ρ σ (upd H p (.dK [])) := A.newLive hp ⟨A.mono _ _ (fun a o _ e => same_new hp a o e) A.j, upd_same⟩ ((A.mono.up upd_tr).and (Mo.at (by rw [upd_same]; exact fun z => nomatch z)))
  refine hk _ _ ext σ _ A1 _ fun v1 d1 H2 b2 A2 e1 r1 => hv _ _ ext σ H2 A2 _ fun v2 d2 H3 b3 A3 e2 r2 => ?_
  subst e1 e2
  have hv1 : v1 = kV k := keyD_v r1
  subst hv1
  refine ⟨A3.j.2, [(k, v2)], rfl, Nat.le_of_ble_eq_true rfl, ?_⟩
  have np : ¬ wo φ p p := fun z => z.2 rfl
  have bb : But φ H (upd H3 p (.dK [(k, v2)])) := ⟨fun a o pa e => by
    have ne := ne_of_none e hp
    rw [upd_ne ne]
    exact b3.keep a o ⟨pa, ne⟩ (b2.keep a o ⟨pa, ne⟩ (by rw [upd_ne ne]; exact e)), fun a h => upd_tr a (b3.tr a (b2.tr a (upd_tr a h)))⟩
  have jj : J (upd H3 p (.dK [(k, v2)])) := A.mono H3 _ (fun a o h e => by
    rw [upd_ne (show a ≠ p from fun z => h (by rw [z]; exact hp))]
    exact e) A3.j.1
  refine q p [v2] [d2] _ H _ (But.refl _ _) A hp bb ⟨A.sr.up (Up.of bb), A3.fr.fst.upd (fun _ h => nomatch h), jj, A.mono.up bb.tr⟩ ⟨rfl, rfl⟩ (fun _ h => nomatch h) upd_same (Reps.cons (r2.mono ((But.refl _ H3).upd np)) Reps.nil)
end

-- import HandS.SortKw
-- import HandS.SortOrd
-- import HandS.SortRule
-- import HandS.SortInts
-- import HandS.DictTup
-- import HandS.More
-- import KE.KDictCopyH
-- import KE.KDictWalk
-- import KE.KDictExact
/-! ### sorted(d): the keys of a dict, in order -/
section
variable {prog : Program} {w : World} {A : Around} {E : Value → Shared → Prop} {s : Shared}
open SrtO in
theorem sorted_raw {d : Addr} {es : Array DictEntry} {ep : Nat} {b : Bool} {kw : List (Str × Value)} {ltv : Value → Value → Bool} {Q : Value → Shared → Prop} (lo : (d == sysModules) = false) (hh : A.handled = none) (hm : s.heap.DictRaw d es ep) (hz : es.size ≤ sizeLine)
    (hk : ∀ a, Builtin.«list.sort» ⟨[.ref a], kw⟩ = Builtin.«list.sort» ⟨[.ref a], [(Str.ofString "reverse", .bool b)]⟩) (ha1 : argsOk "sorted" ⟨[.ref d], kw⟩) (ha2 : ∀ a, argsOk "list.sort" ⟨[a], kw⟩) (O : Swo ltv)
    (hS : 2 ≤ (es.toList.map (·.key)).length → ∀ (h₁ : Heap) (tk : Nat) (a : Addr), h₁.get? a = some (seqObj "list" (es.toList.map (·.key)).toArray 0) → (∀ b o, s.heap.get? b = some o → b ≠ a ∧ h₁.get? b = some o) → SortableO prog w A.in1.in1 { s with heap := h₁, toks := tk } a (es.toList.map (·.key)) ltv)
    (h : ∀ (out : List Value) (h1 h' : Heap) (tk : Nat) (a : Addr) (n : Nat), Srtd ltv out → Stb ltv out (if b = true then (es.toList.map (·.key)).reverse else es.toList.map (·.key)) → (∀ b o, s.heap.get? b = some o → h1.get? b = some o) → (∀ b o, h1.get? b = some o → h'.get? b = some o) → h1.objs.size ≤ a → h'.get? a = some (seqObj "list" (if b = true then out.toArray.reverse else out.toArray) n) → Q (.ref a) { s with heap := h', toks := tk }) :
    wpAny (model prog w) A (call (.builtin "sorted") [.ref d] kw) Q E s := by
  refine PyProof.Rows.call_function_entry_kw PyProof.Rows.kind_sorted PyProof.Rows.plain_sorted PyProof.Rows.entry_sorted ha1 ?_
  unfold Builtin.«sorted»
  refine wpAny_bind (m := checkCount "sorted" 1 1 _) (wpAny_pure ?_)
  refine wpAny_bind (PySem.W.kdu_collect (A := A.in1) (KdlSrc.rawDict (es := es) (ep := ep) lo) hh hm hz fun h' tk acc hkp hacc => ?_)
  have eacc : acc.toList = es.toList.map (·.key) := by
    refine List.ext_getElem? fun j => ?_
    rw [List.getElem?_map]
    cases e : acc.toList[j]? with
    | none =>
      have h1 : acc.toList.length ≤ j := List.getElem?_eq_none_iff.mp e
      rw [Array.length_toList, hacc.1] at h1
      rw [List.getElem?_eq_none (by rw [Array.length_toList]; exact h1)]
      rfl
    | some v =>
      obtain ⟨hi, ev⟩ := hacc.2 j v (by rw [← Array.getElem?_toList]; exact e)
      rw [Array.getElem?_toList, Array.getElem?_eq_getElem hi, ev]
      rfl
  have hlen : acc.toList.length = es.size := by rw [Array.length_toList, hacc.1]
  refine wpAny_bind (wpAny_newList ?_ (by rw [hlen]; exact hz))
  rw [eacc]
  have hoL : (h'.push (seqObj "list" (es.toList.map (·.key)).toArray 0)).get? h'.objs.size = some (seqObj "list" (es.toList.map (·.key)).toArray 0) := Heap.get?_push_size _ rfl
  show wpAny _ _ _ _ _ { s with heap := h'.push (seqObj "list" (es.toList.map (·.key)).toArray 0), toks := tk }
  have keep : ∀ b o, s.heap.get? b = some o → b ≠ h'.objs.size ∧ (h'.push (seqObj "list" (es.toList.map (·.key)).toArray 0)).get? b = some o := fun b o q =>
    ⟨Nat.ne_of_lt (Heap.lt_size (hkp b o q)), Heap.get?_push_of_some _ (hkp b o q)⟩
  refine wpAny_bind (wpAny_holding (PyProof.Rows.wpAny_call_entry_kw PyProof.Rows.slot_list_sort ⟨_, hoL, rfl⟩ PyProof.Rows.entry_list_sort ?_ (ha2 _)))
  rw [hk]
  refine SrtR.list_sort_ordR O hoL (by rw [← eacc, hlen]; exact hz) (fun h2 => hS h2 _ _ _ hoL keep) fun out hs hb => ⟨_, rfl, ?_⟩
  obtain ⟨n, hn⟩ := PyProof.Rows.sortedHeap_at (vs := es.toList.map (·.key)) (out := if b = true then out.toArray.reverse else out.toArray) hoL
  refine wpAny_pure ⟨_, rfl, h out h' _ _ _ n hs hb hkp (fun b o q => ?_) (Nat.le_refl _) hn⟩
  have hlt : b < h'.objs.size := Heap.lt_size q
  rw [PyProof.Rows.sortedHeap_old (Nat.ne_of_lt hlt) (by rw [PyProof.Rows.size_push']; exact Nat.lt_succ_of_lt hlt)]
  exact Heap.get?_push_of_some _ q
end
/-- the raw entries of a dict with keys ints and texts -/
theorem mixRaw {P : Program} {w : World} {h : Heap} {a : Addr} {vs : List (Key × Value)} (x : h.DictOf (mixKind P w) a vs) : ∃ es ep, h.DictRaw a es ep ∧ es.size = vs.length ∧ ∀ (j : Nat) (k : Key), (vs.map (·.1))[j]? = some k → ∃ v, (es.toList.map (·.key))[j]? = some v ∧ keyIs k v = true := by
  obtain ⟨ep, hat⟩ := x.dictAt
  obtain ⟨es, hr, hsz, hall⟩ := PySem.Heap.DictAt.raw hat
  refine ⟨es, ep, hr, hsz, fun j k hk => ?_⟩
  rw [List.getElem?_map] at hk
  obtain ⟨p, hp, e⟩ := Option.map_eq_some_iff.mp hk
  have hj : j < vs.length := (List.getElem?_eq_some_iff.mp hp).1
  have hi : j < es.size := by omega
  refine ⟨es[j].key, by rw [List.getElem?_map, Array.getElem?_toList, Array.getElem?_eq_getElem hi]; rfl, ?_⟩
  have z := hall j hi p.1 p.2 hp
  rw [← e]
  first | exact z | exact z.1
def OrdB' (b : Bool) (ns : List Int) : Prop := if b = true then ns.Pairwise (· ≥ ·) else ns.Pairwise (· ≤ ·)
def rSortD (b : Bool) (zs0 : List V) : List V → List V → Hp → VK → Prop := fun xs zs H Q => ∃ (a : Addr) (kvs : List (Key × V)) (ks : List Int), xs = [.ref a] ∧ zs = zs0 ∧ H a = some (.dK kvs) ∧ kvs.map (·.1) = ks.map Sum.inl ∧
  ∀ (ys : List Int) (p : Addr), ys.Perm ks → OrdB b ys → H p = none → Q (.ref p) (upd H p (.lst (ys.map V.int)))
section
variable {X : Cx}
theorem sortD_run (hcalm : X.calm = true) {b : Bool} {kw : List (Str × Value)} {pins : List (Addr × Obj)} {s : Shared} {σ : L2.St} {H : Hp} {a : Addr} {kvs : List (Key × V)} {ks : List Int} {Q : VK} (I : Inv X pins σ H s) (hd : H a = some (.dK kvs)) (hks : kvs.map (·.1) = ks.map Sum.inl)
    (hk : ∀ a, Builtin.«list.sort» ⟨[.ref a], kw⟩ = Builtin.«list.sort» ⟨[.ref a], [(Str.ofString "reverse", .bool b)]⟩) (ha1 : argsOk "sorted" ⟨[.ref a], kw⟩) (ha2 : ∀ a, argsOk "list.sort" ⟨[a], kw⟩)
    (q : ∀ (ys : List Int) (p : Addr), ys.Perm ks → OrdB b ys → H p = none → Q (.ref p) (upd H p (.lst (ys.map V.int)))) : wpAny (model X.prog X.w) X.A (call (.builtin "sorted") [.ref a] kw) (EP X pins σ Q) X.xe s := by
  obtain ⟨z, lo, vs, rel, dd⟩ := dk_of I.hok hd
  have hkeys : vs.map (·.1) = ks.map Sum.inl := rel.keys.symm.trans hks
  obtain ⟨es, ep, hr, hsz, hall⟩ := mixRaw dd
  have hl : vs.length = ks.length := by
    have e := congrArg List.length hkeys
    rw [List.length_map, List.length_map] at e
    exact e
  have hz : es.size ≤ sizeLine := by rw [hsz, ← rel.length]; exact z
  have hi : IntsAre (es.toList.map (·.key)) ks := ints_each (by rw [List.length_map, Array.length_toList, hsz, hl]) fun j v e => by
    have hj : j < ks.length := by
      have := (List.getElem?_eq_some_iff.mp e).1
      rw [List.length_map, Array.length_toList, hsz, hl] at this
      exact this
    have e3 : (vs.map (·.1))[j]? = some (Sum.inl ks[j]) := by rw [hkeys, List.getElem?_map, List.getElem?_eq_getElem hj]; rfl
    obtain ⟨v', e4, k4⟩ := hall j _ e3
    rw [e] at e4
    cases e4
    rcases keyIs_shape k4 with ⟨i, t, ek, ev⟩ | ⟨y, t, ek, ev⟩
    · cases ek
      exact ⟨_, t, List.getElem?_eq_getElem hj, ev⟩
    · cases ek
  refine sorted_raw lo (I.ok.hd hcalm) hr hz hk ha1 ha2 SrtO.swo_int (fun h2 h₁ tk a' _ _ => SrtO.ints_sortable hi h2) fun out h1 h' tk a' n h2 h3 k1 k2 ha' hn => ?_
  obtain ⟨ns', g1, g2, g3⟩ := SrtR.ints_outR hi h2 h3
  have I1 : Inv X pins σ H { s with heap := h1, toks := tk } := I.kept k1
  have e0 : ((if b = true then out.toArray.reverse else out.toArray).toList).toArray = (if b = true then out.toArray.reverse else out.toArray) := by rw [Array.toArray_toList]
  have hlen : (ns'.map V.int).length ≤ sizeLine := by
    rw [List.length_map, g2.length_eq, ← hl, ← hsz]
    exact hz
  exact ⟨.ref a', upd H a' (.lst (ns'.map V.int)), I1.laid (t' := tk) k2 ha' ⟨hlen, _, n, vals_of_ints g1, by rw [e0]; exact hn⟩, rfl, q _ _ g2 g3 (I1.hok.fresh ha')⟩
theorem cr_sortDRev (hcalm : X.calm = true) {b : Bool} : CallRK X (.builtin "sorted") [Str.ofString "reverse"] (rSortD b [.bl b]) := by
  intro pins s σ H vs zs us ws Q I r rz h
  obtain ⟨a, kvs, ks, rfl, rfl, hs, hks, q⟩ := h
  obtain rfl := Vals.ref1 r
  obtain ⟨w1, rfl, e1⟩ := vals1 rz
  obtain rfl : w1 = Value.bool b := e1
  exact sortD_run hcalm I hs hks (fun _ => rfl) (PyProof.Rows.args_sorted_rev _ _) (fun _ => PyProof.Rows.args_list_sort_rev _ _) q
end

-- import HandS.DictComp
/-! ### dict comprehensions, pop(i), in a tuple of ints -/
section
variable {K : PySem.W.Frag} {φ φ' : Addr → Prop} {Jb J J' : Hp → Prop} {H H' H1 : Hp} {ρ ρ' : List (Option D)} {σ : L2.St} {te tb tk tv : TE} {x y z d : D} {P : D → Prop} {ds es : List D} {v : V} {vs : List V} {D0 : Ends} {l : Addr}
def foldK (kf : D → Key) (vf : D → D) (ds : List D) : List (Key × D) := ds.foldl (fun acc d => putD acc (kf d) (vf d)) []
theorem foldK_snoc {kf : D → Key} {vf : D → D} {ds : List D} {d : D} : foldK kf vf (ds ++ [d]) = putD (foldK kf vf ds) (kf d) (vf d) := by
  unfold foldK
  rw [List.foldl_append]
  rfl
theorem foldK_len {kf : D → Key} {vf : D → D} {ds : List D} : (foldK kf vf ds).length ≤ ds.length := by
  suffices h : ∀ acc : List (Key × D), (ds.foldl (fun acc d => putD acc (kf d) (vf d)) acc).length ≤ acc.length + ds.length by
    have := h []
    rw [List.length_nil, Nat.zero_add] at this
    exact this
  induction ds with
  | nil => intro acc; exact Nat.le_refl _
  | cons d ds ih =>
    intro acc
    have h1 := ih (putD acc (kf d) (vf d))
    have h2 := putD_len acc (kf d) (vf d)
    rw [List.foldl_cons, List.length_cons]
    omega
/-- {k: v for x in ds} -/
theorem en_dc {wi : TI} {g : TG} {ws us : List Nat} {ρd : D → List (Option D)} {kf : D → Key} {vf : D → D} (hi : IterD K φ J wi ρ ds) (hl : ds.length ≤ 1000000) (hu : ∀ i ∈ us, i ∈ ws)
    (hg : ∀ d ∈ ds, EvG K g d (wipeR ρ ws) (ρd d) us)
    (hk : ∀ d ∈ ds, ∀ φ' J', Ext φ J φ' J' → EvD K φ' J' tk (ρd d) (keyD (kf d)))
    (he : ∀ d ∈ ds, ∀ φ' J', Ext φ J φ' J' → EvD K φ' J' tv (ρd d) (vf d)) :
    EvNO K φ J (tDc wi g tYes tk tv ws) ρ (fun xs C => xs = ((foldK kf vf ds).map (·.2)) ∧ C = fun vs => HO.dK (((foldK kf vf ds).map (·.1)).zip vs)) := fun σ H A Q q => by
  refine hi σ H A _ fun J0 ds' H1 b1 A1 pd w => ?_
  subst pd
  intro D0 hD
  have neP : ∀ p s ns, Pooled φ J p s ns → p ≠ D0 := fun p s ns hp => by
    obtain ⟨a1, a2, a3, a4, h1, _⟩ := hp.ok _ A1.j
    exact ne_of_none h1 hD
  let φ' : Addr → Prop := fun a => φ a ∧ a ≠ D0
  let KV (i : Nat) : List (Key × D) := foldK kf vf (ds'.take i)
  have ext : ∀ acc : HO, Ext φ J φ' (fun H => J H ∧ H D0 = some acc) := fun acc => ⟨fun _ h => h.1, fun p s ns hp => ⟨fun z => hp.np z.1, hp.ne, fun H h => hp.ok H h.1, fun H H' h k o => ⟨hp.st H H' h.1 k o, k _ _ (neP p s ns hp).symm h.2⟩⟩, fun a p h => ⟨p, fun e => h H1 A1.j (by rw [e]; exact hD)⟩⟩
  have mono : ∀ (acc : HO) (H2 : Hp), (∀ a, H1 a ≠ none → H2 a ≠ none) → H2 D0 ≠ none → Mo H2 (fun H => J H ∧ H D0 = some acc) := fun acc H2 s h => (A1.mono.up s).and (Mo.at h)
  refine ⟨fun i m H2 => m = ds'.length - i ∧ i ≤ ds'.length ∧ But φ H1 H2 ∧ ∃ acc, Reps K φ' H2 ((KV i).map (·.2)) acc ∧ At K φ' (fun H => J H ∧ H D0 = some (.dK (((KV i).map (·.1)).zip acc))) (wipeR ρ ws) (L2.wipe σ ws) H2,
    ⟨ds'.length, rfl, Nat.zero_le _, But.of (same_new hD), [], Reps.nil, ?_⟩, ?_⟩
  · have A2 := A1.newLive (o := .dK []) (J' := fun H => J H ∧ H D0 = some (.dK [])) hD ⟨A1.mono _ _ (fun a o _ e => same_new hD a o e) A1.j, upd_same⟩ (mono _ _ upd_tr (by rw [upd_same]; exact fun z => by cases z))
    exact ⟨A2.sr.wipe ws, A2.fr, A2.j, A2.mono⟩
  · rintro i m H2 ⟨rfl, hi, b2, acc, rs, A2⟩
    have upw : Up φ φ' H1 H2 := fun a o p e => ⟨⟨p, ne_of_none e hD⟩, b2.keep a o p e⟩
    have fr2 : Frm φ' H2 := A2.fr
    obtain ⟨wg, wstop⟩ := w φ' i H2 upw fr2
    by_cases hlt : i < ds'.length
    · have hd : ds'[i]? = some ds'[i] := List.getElem?_eq_getElem hlt
      obtain ⟨go, yl⟩ := wg _ hd
      have hmem : ds'[i] ∈ ds' := List.getElem_mem hlt
      have tkk : KV (i + 1) = putD (KV i) (kf ds'[i]) (vf ds'[i]) := by
        show foldK kf vf (ds'.take (i + 1)) = _
        rw [List.take_add_one, hd]
        exact foldK_snoc
      refine .inr ⟨go, fun H3 => But φ H1 H3 ∧ ∃ acc, Reps K φ' H3 ((KV (i + 1)).map (·.2)) acc ∧ At K φ' (fun H => J H ∧ H D0 = some (.dK (((KV (i + 1)).map (·.1)).zip acc))) (wipeR ρ ws) (L2.wipe σ ws) H3, ?_, ?_⟩
      · rintro H3 ⟨b3, acc3, r3, A3⟩
        exact ⟨ds'.length - (i + 1), by omega, rfl, hlt, b3, acc3, r3, A3⟩
      · intro x H3 hy
        obtain ⟨s3, r3⟩ := yl x H3 hy
        have A3 := A2.same s3
        have rs3 := rs.mono (But.of (φ := φ') s3)
        have b3 : But φ H1 H3 := b2.trans (But.of s3)
        refine hg _ hmem φ' _ _ H3 x A3 r3 _ fun σ4 A4 hw4 => ⟨?_, ?_⟩
        · rw [hw4 ws hu]
          exact wipe_wipe ws
        · refine et_yes (K := K) (φ := φ') σ4 H3 A4 _ fun bb H4 b4 A4' hbb => ?_
          subst hbb
          rw [if_pos rfl]
          refine hk _ hmem φ' _ (ext _) σ4 H4 A4' _ fun u d5 H5 b5 A5 e5 r5 => he _ hmem φ' _ (ext _) σ4 H5 A5 _ fun v d6 H6 b6 A6 e6 r6 => ?_
          subst e5 e6
          have ek : u = kV (kf ds'[i]) := keyD_v r5
          have nD : ¬ φ' D0 := fun z => z.2 rfl
          have b46 : But φ' H3 H6 := (b4.trans b5).trans b6
          obtain ⟨acc', ep, rp⟩ := zip_put (k := kf ds'[i]) r6 (rs3.mono b46)
          have bb6 : But φ H1 H6 := ⟨fun a o p e => b46.keep a o ⟨p, ne_of_none e hD⟩ (b3.keep a o p e), fun a h => b46.tr a (b3.tr a h)⟩
          have hlen : (((KV i).map (·.1)).zip acc).length < sizeLine := szlt (by
            have h1 : (KV i).length ≤ (ds'.take i).length := foldK_len
            rw [List.length_zip, List.length_map]
            rw [List.length_take] at h1
            omega)
          refine ⟨_, kf ds'[i], ek, A6.j.2, hlen, ?_⟩
          rw [ep, tkk]
          refine ⟨⟨fun a o p e => ?_, fun a h => upd_tr a (bb6.tr a h)⟩, acc', rp.mono ((But.refl φ' H6).upd nD), ?_⟩
          · rw [upd_ne (ne_of_none e hD)]
            exact bb6.keep a o p e
          · have A6' : At K φ' (fun H => J H ∧ H D0 = some (.dK (((KV i).map (·.1)).zip acc))) (wipeR ρ ws) (L2.wipe σ ws) H6 := ⟨A3.sr.up (Up.of b46), A6.fr, A6.j, A6.mono⟩
            have jj : ∀ o, J (upd H6 D0 o) := fun o => A1.mono H6 _ (fun a o h e => by
              rw [upd_ne (show a ≠ D0 from fun z => h (by rw [z]; exact hD))]
              exact e) A6.j.1
            exact A6'.upd nD ⟨jj _, upd_same⟩ (mono _ _ (fun a h => upd_tr a (bb6.tr a h)) (by rw [upd_same]; exact fun z => by cases z))
    · have e : i = ds'.length := by omega
      subst e
      refine .inl ⟨wstop rfl, ?_⟩
      have eF : KV ds'.length = foldK kf vf ds' := by
        show foldK kf vf (ds'.take _) = _
        rw [List.take_length]
      rw [eF] at rs A2
      have A3 : At K φ J ρ σ H2 := ⟨A1.sr.up (Up.of b2), A2.fr.fst, A2.j.1, A1.mono.up b2.tr⟩
      exact q D0 acc _ _ H1 H2 b1 A1 hD b2 A3 ⟨rfl, rfl⟩ (fun _ h => nomatch h) A2.j.2 rs
/-- x = xs.pop(i) -/
theorem st_popL {j k n : Nat} {i : Int} (A : At K φ J ρ σ H) (L : Liv K φ Jb J l ds) (hk : ρ[k]? = some (some (.raw (.ref l)))) (hn : seqIndex? i ds.length = some n) (hd : ds[n]? = some d) (h1 : -(2 ^ 63) ≤ i) (h2 : i < 2 ^ 63)
    (kk : ∀ J' σ' H', Liv K φ Jb J' l (ds.eraseIdx n) → At K φ J' (ρ.set j (some d)) σ' H' → D0.nx σ' H') : tAsg (tBM K "list" rPopAt (tVar k) (tCons (tC (.int i)) tNil)) (gName j) D0 σ H := by
  obtain ⟨vs, H0, r, m, hl, rfl⟩ := L.ex
  obtain ⟨w, e, rw'⟩ := A.sr.2 k _ hk
  cases (show w = _ from rw')
  obtain ⟨v, hv, rv⟩ := r.get hd
  have b0 : But φ H0 H := A.j.2
  refine ⟨_, e, .inl ⟨rfl, _, SqL.of A.j.1.2⟩, l, vs, i, n, v, rfl, rfl, A.j.1.2, h1, h2, by rw [r.length]; exact hn, hv, ?_⟩
  have re : ∀ (ds : List D) (vs : List V) (n : Nat), Reps K φ H0 ds vs → Reps K φ H0 (ds.eraseIdx n) (vs.eraseIdx n) := by
    intro ds
    induction ds with
    | nil =>
      intro vs n h
      cases (show vs = [] from h)
      exact Reps.nil
    | cons x ds ih =>
      intro vs n h
      obtain ⟨u, r', rfl, g1, g2⟩ := (show ∃ v r, vs = v :: r ∧ Rep K φ H0 x v ∧ Reps K φ H0 ds r from h)
      cases n with
      | zero => exact g2
      | succ n => exact Reps.cons g1 (ih r' n g2)
  have bu : But φ H0 (L2.upd H l (.lst (vs.eraseIdx n))) := b0.upd L.np
  refine kk _ _ _ ⟨L.np, L.st, L.pl, vs.eraseIdx n, L2.upd H l (.lst (vs.eraseIdx n)), (re ds vs n r).mono bu, m.up bu.tr, (by rw [upd_same]; exact fun z => nomatch z), rfl⟩ ?_
  have A2 := A.upd (J' := fun H'' => (Jb H'' ∧ H'' l = some (.lst (vs.eraseIdx n))) ∧ But φ (L2.upd H l (.lst (vs.eraseIdx n))) H'') L.np ⟨⟨L.st _ _ A.j.1.1, upd_same⟩, But.refl _ _⟩ (((m.up bu.tr).and (Mo.at (by rw [upd_same]; exact fun z => nomatch z))).and (Mo.but fun _ h => h))
  exact A2.set j (rv.mono bu)
/-- an int in a tuple or list of ints -/
theorem inV_ints {i : Int} : ∀ ns : List Int, inV (.int i) (ns.map V.int) = decide (i ∈ ns)
  | [] => rfl
  | n :: ns => by
    have ih := inV_ints (i := i) ns
    unfold inV at ih ⊢
    rw [List.map_cons, List.any_cons, ih]
    by_cases h : i = n
    · subst h
      simp [eqV]
    · have h' : ¬ n = i := fun z => h z.symm
      simp [eqV, h, h']
theorem flat_ints {ns : List Int} : (ns.map V.int).all flatV = true := by
  rw [List.all_map, List.all_eq_true]
  intro _ _
  rfl
theorem ev_inT {i : Int} {ns : List Int} (ha : EvD K φ J te ρ (.int i)) (hb : EvD K φ J tb ρ (.tup (ns.map D.int))) : EvD K φ J (tOp (rIn K false) te tb) ρ (.bl (decide (i ∈ ns))) := ev_opD ha hb fun H v w _ r1 r2 Q q => by
  cases (show v = _ from r1)
  obtain ⟨a, vs, rfl, p, rs⟩ := rep_tup r2
  rw [rs.ints] at p
  exact ⟨a, _, rfl, .inr p.sq, rfl, flat_ints, q _ _ H (Same.refl H) rfl (by rw [if_neg (by simp), inV_ints]; rfl)⟩
theorem ev_inL {i : Int} {ns : List Int} (ha : EvD K φ J te ρ (.int i)) (hb : EvD K φ J tb ρ (.lst (ns.map D.int))) : EvD K φ J (tOp (rIn K false) te tb) ρ (.bl (decide (i ∈ ns))) := ev_opD ha hb fun H v w _ r1 r2 Q q => by
  cases (show v = _ from r1)
  obtain ⟨a, vs, rfl, p, rs⟩ := rep_lst r2
  rw [rs.ints] at p
  exact ⟨a, _, rfl, .inl p.sq, rfl, flat_ints, q _ _ H (Same.refl H) rfl (by rw [if_neg (by simp), inV_ints]; rfl)⟩
/-- .. in a live list -/
theorem ev_inLL {i : Int} {ns : List Int} (L : Liv K φ Jb J l (ns.map D.int)) (ha : EvD K φ J te ρ (.int i)) (hb : EvD K φ J tb ρ (.raw (.ref l))) : EvD K φ J (tOp (rIn K false) te tb) ρ (.bl (decide (i ∈ ns))) := fun σ H A Q q =>
  ha σ H A _ fun v x H1 b1 A1 e1 r1 => hb σ H1 A1 _ fun w y H2 b2 A2 e2 r2 => by
    subst e1 e2
    cases (show v = _ from r1)
    cases (show w = _ from r2)
    obtain ⟨vs, H0, r, m, hl, rfl⟩ := L.ex
    have ev := r.ints
    subst ev
    exact ⟨l, _, rfl, .inl (SqL.of A2.j.1.2), rfl, flat_ints, q _ _ H2 (b1.trans b2) A2 rfl (by rw [if_neg (by simp), inV_ints]; rfl)⟩
theorem ev_notInLL {i : Int} {ns : List Int} (L : Liv K φ Jb J l (ns.map D.int)) (ha : EvD K φ J te ρ (.int i)) (hb : EvD K φ J tb ρ (.raw (.ref l))) : EvD K φ J (tOp (rIn K true) te tb) ρ (.bl (!decide (i ∈ ns))) := fun σ H A Q q =>
  ha σ H A _ fun v x H1 b1 A1 e1 r1 => hb σ H1 A1 _ fun w y H2 b2 A2 e2 r2 => by
    subst e1 e2
    cases (show v = _ from r1)
    cases (show w = _ from r2)
    obtain ⟨vs, H0, r, m, hl, rfl⟩ := L.ex
    have ev := r.ints
    subst ev
    exact ⟨l, _, rfl, .inl (SqL.of A2.j.1.2), rfl, flat_ints, q _ _ H2 (b1.trans b2) A2 rfl (by rw [if_pos rfl, inV_ints]; rfl)⟩
/-- sorted(d, reverse=b), the keys ints -/
theorem ev_sortDRev {td : TE} {b : Bool} {tb' : TA} {kds : List (Key × D)} {ks : List Int} (hd : EvDict K φ J td ρ kds) (hks : kds.map (·.1) = ks.map Sum.inl) (hb : EvAD K φ J tb' ρ [.bl b]) :
    EvP K φ J (tCKw (rSortD b [.bl b]) (tCons td tNil) tb') ρ (fun z => ∃ ns : List Int, z = .lst (ns.map D.int) ∧ ns.Perm ks ∧ OrdB b ns) := fun σ H A Q q =>
  hd σ H A _ fun a H1 b1 A1 per => hb σ H1 A1 _ fun ws ds H2 b2 A2 e2 r2 => by
    subst e2
    obtain ⟨w, rfl, r⟩ := r2.one
    cases (show w = _ from r)
    obtain ⟨vs, ea, rs⟩ := per H2 b2 A2.j
    have hl : vs.length = kds.length := by rw [rs.length, List.length_map]
    refine ⟨a, _, ks, rfl, rfl, ea, ?_, fun ys p hp ho hn => ?_⟩
    · rw [List.map_fst_zip (by rw [List.length_map]; omega), hks]
    · exact q _ (.lst (ys.map D.int)) _ ((b1.trans b2).trans (But.of (same_new hn))) (A2.same (same_new hn)) ⟨ys, rfl, hp, ho⟩ ⟨p, _, rfl, .inl ⟨A2.fr p hn, .inl upd_same⟩, Reps.of_ints⟩
end
section
variable {K : PySem.W.Frag} {φ : Addr → Prop} {J : Hp → Prop} {ρ : List (Option D)} {te : TE} {Jb : Hp → Prop} {l : Addr}
/-- sorted of ints, any number of them -/
theorem c_sortedA {X : Cx} : CallR X (.builtin "sorted") (rSortedI X.K) := cr_sortedI
theorem ev_sortedA {ns : List Int} (ha : EvD K φ J te ρ (.lst (ns.map D.int))) : EvP K φ J (tCB (rSortedI K) (tCons te tNil)) ρ (fun z => ∃ ns' : List Int, z = .lst (ns'.map D.int) ∧ ns'.Perm ns ∧ ns'.Pairwise (· ≤ ·)) := ev_cbD (ea_cons ha ea_nil) fun H vs f r Q q => by
  obtain ⟨v, rfl, r1⟩ := r.one
  obtain ⟨a, rfl, h⟩ := rep_ints r1
  exact ⟨a, ns, rfl, h, fun ns' p hp hs hn => q _ _ _ (same_new hn) ⟨ns', rfl, hp, hs⟩ ⟨p, _, rfl, .inl ⟨f p hn, .inl upd_same⟩, Reps.of_ints⟩⟩
end
section
variable {X : Cx}
theorem sw_trueD {kx vx : Expr} {gs : List Comprehension} {scope : Scope} {pos py : Pos} {y : Str} {l : Nat} {env : Env} (hk : env.scope.kind = .function) (hy : env.scope.names.lookup y = some .local) (hl : (py.line == pos.line) = true)
    (ha : (scope.names.any fun (n, k) => n == y && (k == .local || k == .cell)) = false) : swapsWith (.DictComp kx vx gs scope pos) (some (.Name y py)) l env = pure true := by
  have ky : env.kindOf y = some .local := hy
  have hb : env.blockKind = .function := by unfold Env.blockKind; rw [hk]; rfl
  unfold swapsWith
  simp only [hb, ky, ha, Expr.pos, hl]
  rfl
/-- x = {k: v for ..} -/
theorem ps_setDc {i : Nat} {y : Str} {py : Pos} {kx vx tg iter : Expr} {ifs : List Expr} {scope : Scope} {own : List (Str × Nat)} {pos spos : Pos} {wi : TI} {g : TG} {tt : TT} {tk tv : TE} (hc : X.calm = true) (hN : X.N.Nodup) (hy : X.N[i]? = some y) (hyl : X.env.scope.names.lookup y = some .local)
    (hsw : swapsWith (.DictComp kx vx [⟨tg, iter, ifs, 0⟩] scope pos) (some (.Name y py)) spos.line X.env = pure true) (hi : PI X tg iter wi) (ok : BlkOk X.N X.env.scope scope own)
    (hg : ∀ (s : Shared) (H : Hp) (C : Addr) (cl : List (Str × Addr)) (fp : List Addr), PG (X.blk s H scope (compEnvC scope cl C X.env) fp) tg g) (ht : ∀ (s : Shared) (H : Hp) (C : Addr) (cl : List (Str × Addr)) (fp : List Addr), PTs (X.blk s H scope (compEnvC scope cl C X.env) fp) ifs tt)
    (hk : ∀ (s : Shared) (H : Hp) (C : Addr) (cl : List (Str × Addr)) (fp : List Addr), PE (X.blk s H scope (compEnvC scope cl C X.env) fp) kx tk)
    (he : ∀ (s : Shared) (H : Hp) (C : Addr) (cl : List (Str × Addr)) (fp : List Addr), PE (X.blk s H scope (compEnvC scope cl C X.env) fp) vx tv) (hs : ∀ x, foldedSetIterable iter X.env x = pure x := by intro _; rfl) :
    PS X (.Assign [.Name y py] (.DictComp kx vx [⟨tg, iter, ifs, 0⟩] scope pos) spos) (tAsg (tDc wi g tt tk tv (own.map (·.2))) (gName i)) := by
  refine ⟨fun pins s σ H D I h => ?_⟩
  rw [exec_Assign_Name_used _ _ _ _ hsw]
  refine wpAny_bind (wpAny_standAt (wpAny_bind ?_))
  show wpAny _ X.A (do let _ ← comprehension (.DictComp kx vx [⟨tg, iter, ifs, 0⟩] scope pos) scope X.env (firstIterPos [⟨tg, iter, ifs, 0⟩] pos) newDict false (eval iter X.env) (some (assign (.Name y py) X.env))) _ _ s
  have h : tDc wi g tt tk tv (own.map (·.2)) σ H (fun x H1 => gName i x σ H1 D.nx) := h
  refine wpAny_bind (thn (dc_core (Qf := fun _ s' => SP X pins D .next s') hc hN I hi ok hg ht hk he hs h fun L C s' m H' I' q hn f => ?_) fun _ s' hq => wpAny_pure (wpAny_pure hq))
  show wpAny _ _ (assign (.Name y py) X.env (.ref L)) _ _ _
  refine wpAny_assign_Name (store_ok2 (v := V.ref L) I' hN hy (.inl hyl) rfl (fun s2 I2 ⟨a, sb, ha⟩ => ?_) (.inr hyl))
  obtain ⟨f0, f1, f2, f3, f4, f5⟩ := f
  have haC : C ≠ a := by
    rcases ha with z | z
    · rw [z]; exact f1
    · exact fun e => f4 y a z e.symm
  refine ⟨m, hn.sameBut sb haC, fun h3 sb3 => ?_⟩
  exact ⟨_, H', I2.turned (t' := s2.toks) (fun b o hb e => (sb3.2 b hb).trans e) f0 f1 f3 f4 f5, q⟩
end

/-! ### live objects, any number of them: what J says of each -/
structure LivS (K : PySem.W.Frag) (φ : Addr → Prop) (J : Hp → Prop) (l : Addr) (C : List V → HO) (ds : List D) : Prop where
  np : ¬ φ l
  ex : ∃ vs H0, Reps K φ H0 ds vs ∧ H0 l ≠ none ∧ ∀ H, J H → H l = some (C vs) ∧ But φ H0 H
/-- J' : l is written, the rest is as J has it -/
structure Wr (K : PySem.W.Frag) (φ : Addr → Prop) (J J' : Hp → Prop) (l : Addr) : Prop where
  base : ∀ Jb : Hp → Prop, (∀ H, J H → Jb H) → Stab l Jb → ∀ H, J' H → Jb H
  pool : ∀ p s ns, Pooled φ J p s ns → p ≠ l → s ≠ l → Pooled φ J' p s ns
  liv : ∀ l2 C2 ds2, LivS K φ J l2 C2 ds2 → l2 ≠ l → LivS K φ J' l2 C2 ds2
/-- a new object at l: J' has what J has -/
structure Nw (K : PySem.W.Frag) (φ : Addr → Prop) (J J' : Hp → Prop) (l : Addr) : Prop where
  fr : φ l
  ext : Ext φ J (wo φ l) J'
  pl : ∀ p s ns, Pooled φ J p s ns → p ≠ l ∧ s ≠ l
  liv : ∀ l2 C2 ds2, LivS K φ J l2 C2 ds2 → l2 ≠ l ∧ LivS K (wo φ l) J' l2 C2 ds2
  st : Stab l J
  hc : ∃ Hc, J Hc ∧ Hc l = none
section
variable {K : PySem.W.Frag} {φ φ' : Addr → Prop} {Jb J J' : Hp → Prop} {H H' H1 : Hp} {ρ ρ' : List (Option D)} {σ : L2.St} {ta : TA} {te tb td ty tv : TE} {x y z d : D} {P Pa Pb : D → Prop} {ds es : List D} {v : V} {vs : List V} {D0 : Ends} {t u : TS} {l : Addr} {C : List V → HO}
theorem LivS.imp (L : LivS K φ J l C ds) (h : ∀ H, J' H → J H) : LivS K φ J' l C ds := ⟨L.np, let ⟨vs, H0, r, n, k⟩ := L.ex; ⟨vs, H0, r, n, fun H j => k H (h H j)⟩⟩
theorem LivS.but (L : LivS K φ J l C ds) : LivS K φ (fun H => J H ∧ But φ H1 H) l C ds := L.imp fun _ h => h.1
theorem upd_upd {H : Hp} {l : Addr} {o u : HO} (h : H l = some o) : L2.upd (L2.upd H l u) l o = H := funext fun a => by
  by_cases e : a = l
  · rw [e, upd_same, h]
  · rw [upd_ne e, upd_ne e]
theorem But.unupd {l : Addr} {u : HO} {H0 H : Hp} (np : ¬ φ l) (hl : H l ≠ none) (b : But φ H0 (L2.upd H l u)) : But φ H0 H := ⟨fun a o p e => by
  have z := b.keep a o p e
  rw [upd_ne (show a ≠ l from fun z => np (z ▸ p))] at z
  exact z, fun a h => by
  by_cases e : a = l
  · rw [e]; exact hl
  · have z := b.tr a h
    rw [upd_ne e] at z
    exact z⟩
/-- l is written -/
def wrJ (φ : Addr → Prop) (J : Hp → Prop) (l : Addr) (o : HO) (H3 : Hp) : Hp → Prop := fun H => (H l = some o ∧ ∃ u, J (L2.upd H l u)) ∧ But φ H3 H
theorem LivS.write {C' : List V → HO} {ds' : List D} {vs' : List V} (L : LivS K φ J l C ds) (A : At K φ J ρ σ H) (r : Reps K φ H ds' vs') (hC : ∀ xs, C' vs' ≠ .tup xs := by intro xs h; cases h) :
    At K φ (wrJ φ J l (C' vs') (L2.upd H l (C' vs'))) ρ σ (L2.upd H l (C' vs')) ∧ LivS K φ (wrJ φ J l (C' vs') (L2.upd H l (C' vs'))) l C' ds' ∧ Wr K φ J (wrJ φ J l (C' vs') (L2.upd H l (C' vs'))) l := by
  obtain ⟨vs, H0, r0, n0, k0⟩ := L.ex
  have hl := (k0 H A.j).1
  have hln : H l ≠ none := by rw [hl]; exact fun z => nomatch z
  refine ⟨A.upd (ho := hC) L.np ⟨⟨upd_same, C vs, by rw [show L2.upd (L2.upd H l (C' vs')) l (C vs) = H from upd_upd hl]; exact A.j⟩, But.refl _ _⟩ ?_, ⟨L.np, vs', _, r.mono ((But.refl φ H).upd L.np), (by rw [upd_same]; exact fun z => nomatch z), fun H' h => ⟨h.1.1, h.2⟩⟩, ⟨fun Jb hb st H' h => ?_, fun p s ns hp hpl hsl => ?_, fun l2 C2 ds2 L2' hne => ?_⟩⟩
  · refine Mo.and (fun Ha Hb k j => ⟨k l _ (by rw [upd_same]; exact fun z => nomatch z) j.1, ?_⟩) (Mo.but fun _ h => h)
    obtain ⟨u, ju⟩ := j.2
    refine ⟨u, A.mono _ _ (fun a o h e => ?_) ju⟩
    by_cases ea : a = l
    · rw [ea, upd_same] at e ⊢
      exact e
    · rw [upd_ne ea] at e ⊢
      exact k a o (upd_tr a h) e
  · obtain ⟨⟨e, u, ju⟩, _⟩ := h
    have z := st _ (C' vs') (hb _ ju)
    rw [upd_upd e] at z
    exact z
  · refine ⟨hp.np, hp.ne, fun H' h => ?_, fun Ha Hb h k o => ?_⟩
    · obtain ⟨⟨e, u, ju⟩, _⟩ := h
      obtain ⟨a, c, n, z, e1, e2, h0⟩ := hp.ok _ ju
      rw [upd_ne hpl] at e1
      rw [upd_ne hsl] at e2
      exact ⟨a, c, n, z, e1, e2, h0⟩
    · obtain ⟨⟨e, u, ju⟩, b⟩ := h
      refine ⟨⟨k l _ hpl.symm e, u, hp.st _ _ ju (fun a w na ea => ?_) ?_⟩, Ext.but2 hp.np _ _ b k o⟩
      · by_cases eal : a = l
        · rw [eal, upd_same] at ea ⊢
          exact ea
        · rw [upd_ne eal] at ea ⊢
          exact k a w na ea
      · obtain ⟨a, c, n, z, e1, e2, h0⟩ := o
        exact ⟨a, c, n, z, by rw [upd_ne hpl]; exact e1, by rw [upd_ne hsl]; exact e2, h0⟩
  · obtain ⟨vs2, H2, r2, n2, k2⟩ := L2'.ex
    refine ⟨L2'.np, vs2, H2, r2, n2, fun H' h => ?_⟩
    obtain ⟨⟨e, u, ju⟩, _⟩ := h
    obtain ⟨e2, b2⟩ := k2 _ ju
    rw [upd_ne hne] at e2
    exact ⟨e2, b2.unupd L.np (by rw [e]; exact fun z => nomatch z)⟩
theorem Nw.same {H0 : Hp} (N : Nw K φ J J' l) (hb : ∀ H', J H' → Same H0 H') : Stab l (Same H0) := fun H' o s => by
  obtain ⟨Hc, jc, e⟩ := N.hc
  exact Same.upd_live s ((hb Hc jc).free e)
theorem stab_pool {p s : Addr} {ns : List Int} (h1 : p ≠ l) (h2 : s ≠ l) : Stab l (PoolOk p s ns) := fun H' o j => by
  obtain ⟨a, c, n, z, e1, e2, h0⟩ := j
  exact ⟨a, c, n, z, by rw [upd_ne h1]; exact e1, by rw [upd_ne h2]; exact e2, h0⟩
/-- x = a new object -/
theorem st_newS {k : Nat} {P : List D → (List V → HO) → Prop} (A : At K φ J ρ σ H) (h : EvNO K φ J te ρ P) (kk : ∀ l ds C J' σ' H', P ds C → Nw K φ J J' l → LivS K (wo φ l) J' l C ds → At K (wo φ l) J' (ρ.set k (some (.raw (.ref l)))) σ' H' → D0.nx σ' H') : tAsg te (gName k) D0 σ H :=
  h σ H A _ fun p vs ds C H0 H' b0 A0 hp b A' pd nt e r => by
    have hpH : H p = none := by
      cases z : H p with
      | none => rfl
      | some u => exact absurd hp (b0.tr p (by rw [z]; exact fun w => by cases w))
    have u : Up φ (wo φ p) H H' := fun a o q e2 => ⟨⟨q, ne_of_none e2 hpH⟩, (b0.trans b).keep a o q e2⟩
    have pne : ∀ s ps ns, Pooled φ J s ps ns → s ≠ p ∧ ps ≠ p := fun s ps ns q => by
      obtain ⟨_, _, _, _, h1, h2, _⟩ := q.ok _ A0.j
      exact ⟨ne_of_none h1 hp, ne_of_none h2 hp⟩
    have hpn : H' p ≠ none := by rw [e]; exact fun z => nomatch z
    have A2 : At K (wo φ p) (fun H => (J H ∧ H p = some (C vs)) ∧ But (wo φ p) H' H) ρ σ H' :=
      ⟨A.sr.up u, A'.fr.at e nt, ⟨⟨A'.j, e⟩, But.refl _ _⟩, (A'.mono.and (Mo.at hpn)).and (Mo.but fun _ h => h)⟩
    refine kk p ds C _ _ H' pd ⟨A0.fr p hp, ⟨fun _ h => h.1.1, fun s ps ns q => ⟨fun z => q.np z.1, q.ne, fun H h => q.ok H h.1.1, fun Ha Hb h k o => ⟨⟨q.st _ _ h.1.1 k o, k _ _ (pne s ps ns q).1.symm h.1.2⟩, Ext.but2 (fun z => q.np z.1) _ _ h.2 k o⟩⟩, fun a p' h => ⟨p', fun e' => h H0 A0.j (by rw [e']; exact hp)⟩⟩, pne, fun l2 C2 ds2 L2' => ?_, Stab.of A0.mono hp, H0, A0.j, hp⟩ ⟨fun z => z.2 rfl, vs, H', r, hpn, fun H h => ⟨h.1.2, h.2⟩⟩ (A2.set k rfl)
    obtain ⟨vs2, H2, r2, n2, k2⟩ := L2'.ex
    obtain ⟨e0, b2⟩ := k2 _ A0.j
    have ne : l2 ≠ p := ne_of_none e0 hp
    refine ⟨ne, fun z => L2'.np z.1, vs2, H', ?_, (by rw [(k2 _ A'.j).1]; exact fun z => nomatch z), fun H h => ⟨(k2 _ h.1.1).1, h.2⟩⟩
    have r3 : Reps K φ H0 ds2 vs2 := r2.mono b2
    exact Reps.up (fun a o q e2 => ⟨⟨q, ne_of_none e2 hp⟩, b.keep a o q e2⟩) ds2 vs2 r3
theorem en_ofN {P : List D → Prop} (h : EvN K φ J te ρ P) : EvNO K φ J te ρ (fun ds C => P ds ∧ C = HO.lst) := fun σ H A Q q => h σ H A Q fun p vs ds H0 H' b0 A0 hp b A' pd e r => q p vs ds HO.lst H0 H' b0 A0 hp b A' ⟨pd, rfl⟩ (fun xs h => nomatch h) e r
/-- .append -/
theorem st_appS {k : Nat} (A : At K φ J ρ σ H) (L : LivS K φ J l HO.lst ds) (hk : ρ[k]? = some (some (.raw (.ref l)))) (he : EvP K φ J te ρ P) (hz : ds.length ≤ 1000000)
    (kk : ∀ d J' H', P d → Wr K φ J J' l → LivS K φ J' l HO.lst (ds ++ [d]) → At K φ J' ρ σ H' → D0.nx σ H') : tDrop (tBM K "list" rAppend (tVar k) (tCons te tNil)) D0 σ H := by
  obtain ⟨vs, H0, r, n, k0⟩ := L.ex
  refine st_app (vs := vs) A hk (fun H h => (k0 H h).1) he (by rw [r.length]; exact hz) fun v d H' pd rv b A' => ?_
  obtain ⟨A2, L2', W⟩ := L.write (C' := HO.lst) A' ((r.mono (k0 _ A'.j).2).append (Reps.cons rv Reps.nil))
  exact kk d _ _ pd W L2' A2
/-- xs[i] = e -/
theorem st_setLS {k n : Nat} {i : Int} (A : At K φ J ρ σ H) (L : LivS K φ J l HO.lst ds) (he : EvP K φ J te ρ P) (hk : ρ[k]? = some (some (.raw (.ref l)))) (hi : EvD K φ J tb ρ (.int i)) (hj : ixN ds.length i = some n)
    (kk : ∀ d J' H', P d → Wr K φ J J' l → LivS K φ J' l HO.lst (ds.set n d) → At K φ J' ρ σ H' → D0.nx σ H') : tAsg te (gSub (tVar k) tb rSetL) D0 σ H := by
  obtain ⟨vs, H0, r, n, k0⟩ := L.ex
  refine st_setL (vs := vs) A he hk hi (fun H h => (k0 H h).1) (by rw [r.length]; exact hj) fun v d H' pd rv b A' => ?_
  obtain ⟨A2, L2', W⟩ := L.write (C' := HO.lst) A' ((r.mono (k0 _ A'.j).2).set _ rv)
  exact kk d _ _ pd W L2' A2
theorem reps_erase : ∀ {ds : List D} {vs : List V} (n : Nat), Reps K φ H ds vs → Reps K φ H (ds.eraseIdx n) (vs.eraseIdx n)
  | [], vs, n, h => by
    cases (show vs = [] from h)
    exact Reps.nil
  | x :: ds, vs, n, h => by
    obtain ⟨u, r', rfl, g1, g2⟩ := (show ∃ v r, vs = v :: r ∧ Rep K φ H x v ∧ Reps K φ H ds r from h)
    cases n with
    | zero => exact g2
    | succ n => exact Reps.cons g1 (reps_erase n g2)
/-- x = xs.pop(i) -/
theorem st_popS {j k n : Nat} {i : Int} (A : At K φ J ρ σ H) (L : LivS K φ J l HO.lst ds) (hk : ρ[k]? = some (some (.raw (.ref l)))) (hn : seqIndex? i ds.length = some n) (hd : ds[n]? = some d) (h1 : -(2 ^ 63) ≤ i) (h2 : i < 2 ^ 63)
    (kk : ∀ J' σ' H', Wr K φ J J' l → LivS K φ J' l HO.lst (ds.eraseIdx n) → At K φ J' (ρ.set j (some d)) σ' H' → D0.nx σ' H') : tAsg (tBM K "list" rPopAt (tVar k) (tCons (tC (.int i)) tNil)) (gName j) D0 σ H := by
  obtain ⟨vs, H0, r, m, k0⟩ := L.ex
  obtain ⟨w, e, rw'⟩ := A.sr.2 k _ hk
  cases (show w = _ from rw')
  have r1 := r.mono (k0 _ A.j).2
  obtain ⟨v, hv, rv⟩ := r1.get hd
  refine ⟨_, e, .inl ⟨rfl, _, SqL.of (k0 _ A.j).1⟩, l, vs, i, n, v, rfl, rfl, (k0 _ A.j).1, h1, h2, by rw [r.length]; exact hn, hv, ?_⟩
  obtain ⟨A2, L2', W⟩ := L.write (C' := HO.lst) (vs' := vs.eraseIdx n) A (reps_erase n r1)
  exact kk _ _ _ W L2' (A2.set j (rv.mono ((But.refl φ H).upd L.np)))
theorem ev_lenS' (L : LivS K φ J l HO.lst ds) (hk : EvD K φ J te ρ (.raw (.ref l))) : EvD K φ J (tCB (rLen K) (tCons te tNil)) ρ (.int ds.length) := by
  obtain ⟨vs, H0, r, m, k0⟩ := L.ex
  rw [← r.length]
  exact ev_lenLive hk fun H h => (k0 H h).1
theorem ev_ixS {i : Int} (L : LivS K φ J l HO.lst ds) (hk : EvD K φ J te ρ (.raw (.ref l))) (hb : EvD K φ J tb ρ (.int i)) (e : L2.atI ds i = some d) : EvD K φ J (tOp (rIxL K) te tb) ρ d := by
  obtain ⟨vs, H0, r, m, k0⟩ := L.ex
  refine ev_ixLive hk hb fun H h => ⟨vs, (k0 H h).1, ?_⟩
  unfold L2.atI at e ⊢
  rw [r.length]
  cases hx : L2.ixN ds.length i with
  | none => rw [hx] at e; cases e
  | some n =>
    rw [hx] at e
    obtain ⟨v, hv, rv⟩ := r.get (i := n) e
    exact ⟨v, hv, rv.mono (k0 H h).2⟩
theorem ev_inS_ {i : Int} {ns : List Int} (L : LivS K φ J l HO.lst (ns.map D.int)) (ha : EvD K φ J te ρ (.int i)) (hb : EvD K φ J tb ρ (.raw (.ref l))) : EvD K φ J (tOp (rIn K false) te tb) ρ (.bl (decide (i ∈ ns))) := fun σ H A Q q =>
  ha σ H A _ fun v x H1 b1 A1 e1 r1 => hb σ H1 A1 _ fun w y H2 b2 A2 e2 r2 => by
    subst e1 e2
    cases (show v = _ from r1)
    cases (show w = _ from r2)
    obtain ⟨vs, H0, r, m, k0⟩ := L.ex
    have ev := r.ints
    subst ev
    exact ⟨l, _, rfl, .inl (SqL.of (k0 _ A2.j).1), rfl, flat_ints, q _ _ H2 (b1.trans b2) A2 rfl (by rw [if_neg (by simp), inV_ints]; rfl)⟩
theorem ev_notInS_ {i : Int} {ns : List Int} (L : LivS K φ J l HO.lst (ns.map D.int)) (ha : EvD K φ J te ρ (.int i)) (hb : EvD K φ J tb ρ (.raw (.ref l))) : EvD K φ J (tOp (rIn K true) te tb) ρ (.bl (!decide (i ∈ ns))) := fun σ H A Q q =>
  ha σ H A _ fun v x H1 b1 A1 e1 r1 => hb σ H1 A1 _ fun w y H2 b2 A2 e2 r2 => by
    subst e1 e2
    cases (show v = _ from r1)
    cases (show w = _ from r2)
    obtain ⟨vs, H0, r, m, k0⟩ := L.ex
    have ev := r.ints
    subst ev
    exact ⟨l, _, rfl, .inl (SqL.of (k0 _ A2.j).1), rfl, flat_ints, q _ _ H2 (b1.trans b2) A2 rfl (by rw [if_pos rfl, inV_ints]; rfl)⟩
/-- xs != [] -/
theorem ev_neNilS {n : Nat} (L : LivS K φ J l HO.lst ds) (hq : okq 64 (.lst ds) = true) (ha : EvD K φ J te ρ (.raw (.ref l))) : EvD K φ J (tOp (rNeD K) te (tLst tNil)) ρ (.bl (!ds.isEmpty)) := fun σ H A Q q =>
  ha σ H A _ fun v x H1 b1 A1 e1 r1 => (show EvD K φ J (tLst tNil) ρ (.lst []) from ev_lst ea_nil) σ H1 A1 _ fun w y H2 b2 A2 e2 r2 => by
    subst e1 e2
    cases (show v = _ from r1)
    obtain ⟨vs, H0, r, m, k0⟩ := L.ex
    obtain ⟨el, b0⟩ := k0 _ A2.j
    have dp : Dp K H2 (.ref l) (toPy (.lst ds)) := .lst (SqL.of el) (dps_of ds vs 63 hq (r.mono b0))
    exact ⟨_, _, dp, dp_of (.lst []) w 64 rfl r2, okq_shaped hq (Nat.le_refl _), okq_shaped (d := .lst []) rfl (Nat.le_refl 64), q _ (.bl (!eqvD (.lst ds) (.lst []))) H2 (b1.trans b2) A2 (by rw [eqvD_nil]) rfl⟩
/-- the list is left as it is from here on -/
theorem LivS.freeze (L : LivS K (wo φ l) J l HO.lst ds) (hl : φ l) {k : Nat} (A : At K (wo φ l) J ρ σ H) (hk : ρ[k]? = some (some (.raw (.ref l)))) : At K φ (fun H' => J H' ∧ But φ H H') (ρ.set k (some (.lst ds))) σ H := by
  obtain ⟨vs, H0, r, hn, k0⟩ := L.ex
  obtain ⟨el, b0⟩ := k0 _ A.j
  have up : Up (wo φ l) φ H H := fun a o p e => ⟨p.1, e⟩
  have rr : Rep K φ H (.lst ds) (.ref l) := ⟨l, vs, rfl, .inl ⟨hl, .inl el⟩, Reps.up up ds vs (r.mono b0)⟩
  obtain ⟨w, ew, rw'⟩ := A.sr.2 k _ hk
  cases (show w = _ from rw')
  refine ⟨?_, A.fr.fst, ⟨A.j, But.refl _ _⟩, A.mono.and (Mo.but fun _ h => h)⟩
  have s1 := (A.sr.up up)
  refine ⟨by rw [List.length_set]; exact s1.1, fun i d hd => ?_⟩
  by_cases e : k = i
  · subst e
    have hlt : k < ρ.length := (List.getElem?_eq_some_iff.mp hk).1
    rw [List.getElem?_set_self hlt] at hd
    cases hd
    exact ⟨_, ew, rr⟩
  · rw [List.getElem?_set_ne e] at hd
    exact s1.2 i d hd
/-- others stay live -/
theorem LivS.thaw {l2 : Addr} {C2 : List V → HO} {ds2 : List D} (L : LivS K (wo φ l) J l2 C2 ds2) (ne : l2 ≠ l) (j : J H) : LivS K φ (fun H' => J H' ∧ But φ H H') l2 C2 ds2 := by
  obtain ⟨vs, H0, r, hn, k0⟩ := L.ex
  obtain ⟨el, b0⟩ := k0 _ j
  exact ⟨fun z => L.np ⟨z, ne⟩, vs, H, Reps.up (fun a o p e => ⟨p.1, e⟩) ds2 vs (r.mono b0), (by rw [el]; exact fun z => nomatch z), fun H' h => ⟨(k0 _ h.1).1, h.2⟩⟩
theorem pool_thaw {p s : Addr} {ns : List Int} (hp : Pooled (wo φ l) J p s ns) (ne : p ≠ l) : Pooled φ (fun H' => J H' ∧ But φ H H') p s ns := by
  have np : ¬ φ p := fun z => hp.np ⟨z, ne⟩
  exact ⟨np, hp.ne, fun H' h => hp.ok _ h.1, fun Ha Hb h k o => ⟨hp.st _ _ h.1 k o, Ext.but2 np _ _ h.2 k o⟩⟩
/-! dicts -/
variable {κ : Type} [DecidableEq κ] [DKind κ] {kds : List (κ × D)} {k : κ}
abbrev LivDS (K : PySem.W.Frag) (φ : Addr → Prop) (J : Hp → Prop) (l : Addr) (kds : List (κ × D)) : Prop := LivS K φ J l (fun vs => DKind.ho ((kds.map (·.1)).zip vs)) (kds.map (·.2))
theorem ed_liveS (L : LivDS K φ J l kds) (h : EvD K φ J td ρ (.raw (.ref l))) : EvDict K φ J td ρ kds := fun σ H A Q q => h σ H A _ fun v d H' b A' e r => by
  subst e
  cases (show v = _ from r)
  obtain ⟨vs, H0, rs, m, k0⟩ := L.ex
  exact q l H' b A' fun H'' b' j => ⟨vs, (k0 _ j).1, rs.mono (k0 _ j).2⟩
/-- d[y] = v -/
theorem st_dputS {i : Nat} (A : At K φ J ρ σ H) (L : LivDS K φ J l kds) (hv : EvP K φ J tv ρ P) (hk : ρ[i]? = some (some (.raw (.ref l)))) (hy : EvD K φ J ty ρ (DKind.kd k)) (hz : kds.length ≤ 1000000)
    (kk : ∀ d J' H', P d → Wr K φ J J' l → LivDS K φ J' l (putD kds k d) → At K φ J' ρ σ H' → D0.nx σ H') : sDPut (tVar i) ty tv D0 σ H := by
  obtain ⟨vs, H0, r, m, k0⟩ := L.ex
  refine hv σ H A _ fun v d H1 b1 A1 pd r1 => ev_var hk σ H1 A1 _ fun w d2 H2 b2 A2 e2 r2 => hy σ H2 A2 _ fun y d3 H3 b3 A3 e3 r3 => ?_
  subst e2 e3
  cases (show w = _ from r2)
  obtain ⟨el, b0⟩ := k0 _ A3.j
  obtain ⟨vs', ep, rp⟩ := zip_put (k := k) ((r1.mono b2).mono b3) (r.mono b0)
  have hlen : ((kds.map (·.1)).zip vs).length < sizeLine := szlt (by
    rw [List.length_zip, List.length_map]
    omega)
  refine ⟨l, _, rfl, DKind.put r3 el hlen, ?_⟩
  rw [ep]
  obtain ⟨A4, L4, W⟩ := L.write (C' := fun vs => DKind.ho (((putD kds k d).map (·.1)).zip vs)) A3 rp (fun xs => DKind.nt _ xs)
  exact kk d _ _ pd W L4 A4
theorem LivS.freezeD (L : LivDS K (wo φ l) J l kds) (hl : φ l) {i : Nat} (A : At K (wo φ l) J ρ σ H) (hk : ρ[i]? = some (some (.raw (.ref l)))) : At K φ (fun H' => J H' ∧ But φ H H') (ρ.set i (some (dictD kds))) σ H := by
  obtain ⟨vs, H0, r, hn, k0⟩ := L.ex
  obtain ⟨el, b0⟩ := k0 _ A.j
  have up : Up (wo φ l) φ H H := fun a o p e => ⟨p.1, e⟩
  have rr : Rep K φ H (dictD kds) (.ref l) := DKind.rep.mpr ⟨l, vs, rfl, ⟨hl, el, by rw [List.length_map, List.length_map]⟩, Reps.up up _ vs (r.mono b0)⟩
  obtain ⟨w, ew, rw'⟩ := A.sr.2 i _ hk
  cases (show w = _ from rw')
  refine ⟨?_, A.fr.fst, ⟨A.j, But.refl _ _⟩, A.mono.and (Mo.but fun _ h => h)⟩
  have s1 := (A.sr.up up)
  refine ⟨by rw [List.length_set]; exact s1.1, fun j d hd => ?_⟩
  by_cases e : i = j
  · subst e
    have hlt : i < ρ.length := (List.getElem?_eq_some_iff.mp hk).1
    rw [List.getElem?_set_self hlt] at hd
    cases hd
    exact ⟨_, ew, rr⟩
  · rw [List.getElem?_set_ne e] at hd
    exact s1.2 j d hd
end

/-! ### defs whose result is told by a property -/
def SpR (K : PySem.W.Frag) (n : Nat) (Pre : List D → Prop) (R : List D → D → Prop) : Sp := fun vs H Q _ => ∃ φ ds, ds.length = n ∧ Reps K φ H ds vs ∧ Frm φ H ∧ Pre ds ∧ ∀ d v H', R ds d → Same H H' → Rep K φ H' d v → Q v H'
section
variable {K : PySem.W.Frag} {φ : Addr → Prop} {J : Hp → Prop} {ρ : List (Option D)} {ds : List D}
theorem ev_callR {n : Nat} {Pre : List D → Prop} {R : List D → D → Prop} {E : XK} {ta : TA} (ha : EvAD K φ J ta ρ ds) (hp : Pre ds) (hl : ds.length = n := by rfl) : EvP K φ J (tCall (SpR K n Pre R) [] E ta) ρ (R ds) := fun σ H A Q q =>
  ha σ H A _ fun vs ds' H1 b1 A1 e r1 => by
    subst e
    exact ⟨φ, _, hl, by rw [List.append_nil]; exact r1, A1.fr, hp, fun d v H' rd s r => q v d H' (b1.trans (But.of s)) (A1.same s) rd r⟩
variable {PP : Program} {w : World} {mg : Str → Option Value} {base : Heap}
theorem fn_okR {x qual : Str} {st : Stmt} {f : Addr} {fd : FuncData} {N ps : List Str} {k n : Nat} {Pre : List D → Prop} {R : List D → D → Prop} (F : Fun K x qual st f fd) (S : FnScope N ps (defScope st)) (hn : ps.length = n) (m : Nat) (hm : N.length = n + m)
    (hbody : ∀ (cdv : Value) (A : Around) (outer : List Env) (s : Shared) (H : Hp) (E : XK), Room k (A.deeper (envOfC qual (defScope st) s.heap.objs.size f cdv)) →
      ∃ t, PSs (cxOf CX0 PP w K mg base N qual (defScope st) f cdv A outer s H E).nox (defBody st) t ∧
        ∀ (φ : Addr → Prop) (ds : List D) (H : Hp) (D0 : Ends) (σ : L2.St), ds.length = n → Pre ds → (∀ d v H', R ds d → Same H H' → Rep K φ H' d v → D0.rt v H') → At K φ (Same H) (ds.map some ++ List.replicate m none) σ H → t D0 σ H) :
    FnOk PP w K mg base CX0 (k + 1) f fd ps (SpR K n Pre R) := by
  refine F.ok S (fun vs H Q E h => ?_) (fun cdv A outer s H vs Q E hr h => ?_)
  · obtain ⟨φ, ds, hl, r, _⟩ := h
    rw [r.length, hl, hn]
  · obtain ⟨φ, ds, hl, r, fr, hp, q⟩ := h
    obtain ⟨t, ht, run⟩ := hbody cdv A outer s H E hr
    refine ⟨t, ht, run φ ds H _ _ hl hp (fun d v H' rd s r => q d v H' rd s r) ⟨?_, fr, Same.refl H, Mo.sames fun _ h => h⟩⟩
    have e : N.length - vs.length = m := by rw [hm, r.length, hl]; omega
    unfold L2.start
    rw [e]
    exact SR.start r
end

-- import HandS.SortRule
-- import HandS.DictTup
/-! ### sorted(d) of dicts with pairs of ints as keys -/
def prK (p : Int × Int) : List Key := [Sum.inl p.1, Sum.inl p.2]
theorem prK_inj {p q : Int × Int} (h : prK p = prK q) : p = q := by
  have h1 := (List.cons.inj h).1
  have h2 := (List.cons.inj (List.cons.inj h).2).1
  injection h1 with h1
  injection h2 with h2
  exact Prod.ext h1 h2
def prDD (p : Int × Int) : D := .tup [.int p.1, .int p.2]
theorem prDD_kd (p : Int × Int) : DKind.kd (prK p) = prDD p := rfl
/-- sorted, by pairs -/
def LexS (ps : List (Int × Int)) : Prop := ps.Pairwise fun a b => SrtO.lexB b a = false
def rSortT : List V → Hp → VK → Prop := fun vs H Q => ∃ (a : Addr) (kvs : List (List Key × V)) (ks : List (Int × Int)), vs = [.ref a] ∧ H a = some (.dT kvs) ∧ kvs.map (·.1) = ks.map prK ∧
  ∀ (out : List (Addr × Int × Int)) (p : Addr), (out.map (·.2)).Perm ks → LexS (out.map (·.2)) → (∀ z ∈ out, H z.1 = some (.tup [.int z.2.1, .int z.2.2])) → H p = none → Q (.ref p) (upd H p (.lst (out.map fun z => V.ref z.1)))
section
variable {X : Cx}
/-- the pair that a reference is, by H -/
def prOf (H : Hp) (v : Value) : Int × Int := match v with
  | .ref b => match H b with
    | some (.tup [.int i, .int j]) => (i, j)
    | _ => (0, 0)
  | _ => (0, 0)
theorem prOf_at {H : Hp} {b : Addr} {p : Int × Int} (h : H b = some (.tup [.int p.1, .int p.2])) : prOf H (.ref b) = p := by
  unfold prOf
  simp only [h]
def adOf : Value → Addr
  | .ref b => b
  | _ => 0
theorem cr_sortT (hcalm : X.calm = true) : CallR X (.builtin "sorted") rSortT := by
  intro pins s σ H vs us Q I r h
  obtain ⟨a, kvs, ks, rfl, hd, hks, q⟩ := h
  obtain rfl := Vals.ref1 r
  obtain ⟨z, lo, xs', rel, o, es, ep, ho, hx, hdat, hes, his, hn⟩ := dt_of I.hok hd
  have l1 : kvs.length = xs'.length := Paired.length rel
  have l2 : es.size = xs'.length := size_of_entries hes
  have lk : kvs.length = ks.length := by
    have e := congrArg List.length hks
    rw [List.length_map, List.length_map] at e
    exact e
  have hz : es.size ≤ sizeLine := by rw [l2, ← l1]; exact z
  have hr : s.heap.DictRaw a es ep := ⟨o, ho, hx, hdat⟩
  have at_ : ∀ (j : Nat) (v : Value), (es.toList.map (·.key))[j]? = some v → ∃ b p, v = .ref b ∧ ks[j]? = some p ∧ H b = some (.tup [.int p.1, .int p.2]) := by
    intro j v hv
    rw [List.getElem?_map, Array.getElem?_toList, entry_at hes j, Option.map_map] at hv
    obtain ⟨x, hxj, e⟩ := Option.map_eq_some_iff.mp hv
    obtain ⟨e0, he0, r1, r2, r3⟩ := L2.DX.pget rel hxj
    have e1 : (kvs.map (·.1))[j]? = some e0.1 := by rw [List.getElem?_map, he0]; rfl
    rw [hks, List.getElem?_map] at e1
    obtain ⟨p, hp, ep1⟩ := Option.map_eq_some_iff.mp e1
    refine ⟨x.2.1, p, e.symm, hp, ?_⟩
    rw [r2, ← ep1]
    rfl
  have hkeys : (es.toList.map (·.key)).map (prOf H) = ks := by
    refine List.ext_getElem? fun j => ?_
    rw [List.getElem?_map]
    cases e : (es.toList.map (·.key))[j]? with
    | none =>
      have h1 := List.getElem?_eq_none_iff.mp e
      rw [List.length_map, Array.length_toList, l2, ← l1, lk] at h1
      rw [List.getElem?_eq_none h1]
      rfl
    | some v =>
      obtain ⟨b, p, rfl, hp, hb⟩ := at_ j v e
      rw [hp]
      show some (prOf H (.ref b)) = some p
      rw [prOf_at hb]
  have mem_ : ∀ v ∈ es.toList.map (·.key), v = .ref (adOf v) ∧ H (adOf v) = some (.tup [.int (prOf H v).1, .int (prOf H v).2]) := by
    intro v hv
    obtain ⟨j, hj⟩ := List.mem_iff_getElem?.mp hv
    obtain ⟨b, p, rfl, _, hb⟩ := at_ j v hj
    exact ⟨rfl, by rw [prOf_at hb]; exact hb⟩
  have pairs : ∀ v ∈ es.toList.map (·.key), Srt.IsPair s.heap v (prOf H v).1 (prOf H v).2 := by
    intro v hv
    obtain ⟨e, hb⟩ := mem_ v hv
    obtain ⟨_, its2, r2, o2, ho2, hc, n, hd2⟩ := I.hok _ _ hb
    obtain ⟨u1, u2, rfl, ri, rj⟩ := vals2 r2
    obtain ⟨t1, rfl⟩ := ri
    obtain ⟨t2, rfl⟩ := rj
    exact ⟨_, o2, t1, t2, n, e, ho2, hc, hd2⟩
  refine sorted_raw (b := false) (kw := []) lo (I.ok.hd hcalm) hr hz (fun _ => rfl) (by unfold argsOk; kernel_rfl) (fun _ => PyProof.Rows.args_list_sort _) (SrtO.swo_lex (prOf H)) (fun h2 h₁ tk a' ha' kk => ?_) fun out h1 h' tk a' n hs hb k1 k2 ha' hn' => ?_
  · refine SrtO.pairs_sortableO (by omega) (fun v hv => (pairs v hv).keeps fun b o e _ => (kk b o e).2) fun o e => ?_
    have e' := e.symm.trans ha'
    cases e'
    intro c
    exact absurd (Value.type.inj c) (by decide)
  · have h3 : ∀ v ∈ out, v = .ref (adOf v) ∧ H (adOf v) = some (.tup [.int (prOf H v).1, .int (prOf H v).2]) := fun v hv => mem_ v (hb.perm.mem_iff.mp hv)
    have I1 : Inv X pins σ H { s with heap := h1, toks := tk } := I.kept k1
    have hv : Vals (out.map fun v => V.ref (adOf v)) out := by
      clear hs hb hn'
      induction out with
      | nil => exact .nil
      | cons v out ih =>
        refine .cons (show v = .ref (adOf v) from (h3 v List.mem_cons_self).1) (ih fun u hu => h3 u (List.mem_cons_of_mem _ hu))
    have el : (out.map fun v => V.ref (adOf v)) = (out.map fun v => (adOf v, prOf H v)).map fun z => V.ref z.1 := by rw [List.map_map]; rfl
    have e2 : (out.map fun v => (adOf v, prOf H v)).map (·.2) = out.map (prOf H) := by rw [List.map_map]; rfl
    refine ⟨.ref a', upd H a' (.lst ((out.map fun v => (adOf v, prOf H v)).map fun z => V.ref z.1)), I1.laid (t' := tk) k2 ha' ⟨?_, out, n, el ▸ hv, hn'⟩, rfl, q _ a' ?_ ?_ ?_ (I1.hok.fresh ha')⟩
    · rw [List.length_map, List.length_map, hb.len]
      show (es.toList.map (·.key)).length ≤ _
      rw [List.length_map, Array.length_toList]
      exact hz
    · rw [e2, ← hkeys]
      exact hb.perm.map _
    · rw [e2]
      exact List.pairwise_map.mpr hs
    · intro z hz
      obtain ⟨v, hv, rfl⟩ := List.mem_map.mp hz
      exact (h3 v hv).2
end
section
variable {K : PySem.W.Frag} {φ : Addr → Prop} {J : Hp → Prop} {ρ : List (Option D)} {td : TE}
theorem reps_prs {H : Hp} (F : Frm φ H) : ∀ {out : List (Addr × Int × Int)}, (∀ z ∈ out, H z.1 = some (.tup [.int z.2.1, .int z.2.2])) → Reps K φ H ((out.map (·.2)).map prDD) (out.map fun z => V.ref z.1)
  | [], _ => Reps.nil
  | z :: out, h => Reps.cons ⟨z.1, _, rfl, .inl ⟨F.tup _ _ (h z List.mem_cons_self), .inl (h z List.mem_cons_self)⟩, Reps.cons rfl (Reps.cons rfl Reps.nil)⟩ (reps_prs F fun u hu => h u (List.mem_cons_of_mem _ hu))
/-- sorted(d): the pairs in order -/
theorem ev_sortT {kds : List (List Key × D)} {ks : List (Int × Int)} (hd : EvDict K φ J td ρ kds) (hks : kds.map (·.1) = ks.map prK) : EvP K φ J (tCB rSortT (tCons td tNil)) ρ (fun z => ∃ ps : List (Int × Int), z = .lst (ps.map prDD) ∧ ps.Perm ks ∧ LexS ps) := fun σ H A Q q =>
  hd σ H A _ fun a H1 b1 A1 per => by
    obtain ⟨vs, ea, rs⟩ := per H1 (But.refl _ _) A1.j
    have hl := rs.length
    rw [List.length_map] at hl
    refine ⟨a, _, ks, rfl, ea, ?_, fun out p hp hs ht hn => ?_⟩
    · rw [← hks]
      have e : (kds.map (·.1)).length = vs.length := by rw [List.length_map, hl]
      exact List.map_fst_zip (by omega)
    · refine q _ (.lst ((out.map (·.2)).map prDD)) _ (b1.trans (But.of (same_new hn))) (A1.same (same_new hn)) ⟨_, rfl, hp, hs⟩ ⟨p, _, rfl, .inl ⟨A1.fr.new p hn, .inl upd_same⟩, (reps_prs A1.fr ht).mono (But.of (same_new hn))⟩
end

-- import HandS.TupLe
-- import HandS.Conv
-- import KE.SortData
-- import KE.DataMinMax
-- import KE.DatumOrd
/-! ### t >= u, list + list, list * int, list(range(..)), min and max of tuples, sorted of data -/
theorem _root_.L2.Room.units66 {k : Nat} {A : Around} (r : Room k A) : A.units + 66 < cLine := by have := r.un; omega
def rGeT (K : PySem.W.Frag) : R2 := fun x y H Q => ∃ (a b : Addr) (ns ms : List Int), x = .ref a ∧ y = .ref b ∧ SqT K H a (ns.map V.int) ∧ SqT K H b (ms.map V.int) ∧
  Q (.bl (Ob.lexAt (fun j => decide (ns.getD j 0 = ms.getD j 0)) (fun j => decide (ms.getD j 0 ≤ ns.getD j 0)) (decide (ns.length ≥ ms.length)) 0 (min ns.length ms.length))) H
theorem op_geT {X : Cx} (hu : X.A.units < cLine) : OpR X (compareOp .GtE) (rGeT X.K) := by
  intro pins s σ H x y v u Q I rx ry h
  obtain ⟨a, b, ns, ms, rfl, rfl, ha, hb, q⟩ := h
  cases rx
  cases ry
  obtain ⟨its, r1, p1, _⟩ := I.tuple ha
  obtain ⟨its2, r2, p2, _⟩ := I.tuple hb
  have i1 : PyProof.Rows.IntsAre its ns := Vals.ints r1
  have i2 : PyProof.Rows.IntsAre its2 ms := Vals.ints r2
  have e1 : its.toArray.size = ns.length := by rw [List.size_toArray]; exact i1.length
  have e2 : its2.toArray.size = ms.length := by rw [List.size_toArray]; exact i2.length
  have at1 : ∀ j (h1 : j < its.toArray.size), ∃ t, its.toArray[j] = .int (ns.getD j 0) t := fun j h1 => PyProof.Rows.IntsAre.int_at i1 _ _ (by simp at h1; simp [h1])
  have at2 : ∀ j (h1 : j < its2.toArray.size), ∃ t, its2.toArray[j] = .int (ms.getD j 0) t := fun j h1 => PyProof.Rows.IntsAre.int_at i2 _ _ (by simp at h1; simp [h1])
  have R := Ob.RcOp.tuples_ge (A := X.A) (s := s) (e := fun j => decide (ns.getD j 0 = ms.getD j 0)) (r := fun j => decide (ms.getD j 0 ≤ ns.getD j 0)) p1 p2 hu (fun j h1 h2 => by
    obtain ⟨t, et⟩ := at1 j h1
    obtain ⟨t', et'⟩ := at2 j h2
    rw [et, et']
    have z : (ns.getD j 0 == ms.getD j 0) = decide (ns.getD j 0 = ms.getD j 0) := by
      by_cases q : ns.getD j 0 = ms.getD j 0
      · rw [decide_eq_true q]; exact beq_iff_eq.mpr q
      · rw [decide_eq_false q]; exact beq_eq_false_iff_ne.mpr q
    rw [← z]
    exact SeqAt.EqAt.int_int _ _ _ _) (fun j h1 h2 _ => by
    obtain ⟨t, et⟩ := at1 j h1
    obtain ⟨t', et'⟩ := at2 j h2
    rw [et, et']
    exact Ob.RcOp.ge_int _ _ _ _)
  rw [e1, e2] at R
  exact R _ _ _ _ ⟨.bl _, H, I, rfl, q⟩
theorem kop_geT {X : Cx} {K : PySem.W.Frag} (h : X.K = K) (hu : X.A.units < cLine) : OpR X (compareOp .GtE) (rGeT K) := h ▸ op_geT hu
def rCatL (K : PySem.W.Frag) : R2 := fun x y H Q => ∃ l b xs zs, x = .ref l ∧ y = .ref b ∧ SqL K H l xs ∧ SqL K H b zs ∧ xs.length + zs.length ≤ sizeLine ∧ ∀ p, H p = none → Q (.ref p) (upd H p (.lst (xs ++ zs)))
theorem op_catL {X : Cx} : OpR X (binaryOp .Add) (rCatL X.K) := by
  intro pins s σ H x y v u Q I rx ry h
  obtain ⟨l, b, xs, zs, rfl, rfl, hH, hB, hz, q⟩ := h
  cases rx
  cases ry
  obtain ⟨its, r, p, hl⟩ := I.list hH
  obtain ⟨its2, r2, p2, hl2⟩ := I.list hB
  have e0 := r.length
  have e02 := r2.length
  obtain ⟨⟨cls, dd, data, sl⟩, ho, hc, n, hd⟩ := p.isList
  obtain ⟨⟨cls2, dd2, data2, sl2⟩, ho2, hc2, n2, hd2⟩ := p2.isList
  simp only at hc hd hc2 hd2
  subst hc hd hc2 hd2
  have ea : its.toArray ++ its2.toArray = (its ++ its2).toArray := by simp
  refine concat_meets ⟨_, ho, rfl⟩ ⟨_, ho2, rfl⟩ noFill_list_add seq_list_add PySem.F.slot_list_add PySem.F.entry_list_add (PySem.F.args_list_add_2 _ _) (list_addW l b its.toArray its2.toArray n n2 dd dd2 sl sl2 (by rw [List.size_toArray, List.size_toArray]; omega)) ⟨ho, ho2, ?_⟩
  rw [ea]
  exact ⟨.ref _, _, I.lnew (t' := s.toks) (r.append r2) (by rw [List.length_append]; omega), rfl, q _ I.fresh⟩
theorem kop_catL {X : Cx} {K : PySem.W.Frag} (h : X.K = K) : OpR X (binaryOp .Add) (rCatL K) := h ▸ op_catL
/-- min, max of a tuple of ints -/
def rMinT (K : PySem.W.Frag) : List V → Hp → VK → Prop := fun vs H Q => ∃ (a : Addr) (ns : List Int), vs = [V.ref a] ∧ SqT K H a (ns.map V.int) ∧ 0 < ns.length ∧ ∀ m, m ∈ ns → (∀ y, y ∈ ns → m ≤ y) → Q (.int m) H
def rMaxT (K : PySem.W.Frag) : List V → Hp → VK → Prop := fun vs H Q => ∃ (a : Addr) (ns : List Int), vs = [V.ref a] ∧ SqT K H a (ns.map V.int) ∧ 0 < ns.length ∧ ∀ m, m ∈ ns → (∀ y, y ∈ ns → y ≤ m) → Q (.int m) H
theorem minOf_int (x : Int) : ∀ xs : List Int, PySem.W.minOf x xs ∈ x :: xs ∧ ∀ y ∈ x :: xs, PySem.W.minOf x xs ≤ y := by
  intro xs
  unfold PySem.W.minOf
  induction xs generalizing x with
  | nil => exact ⟨List.mem_cons_self, fun y hy => by rw [List.mem_singleton.mp hy]; exact Int.le_refl _⟩
  | cons z xs ih =>
    rw [List.foldl_cons]
    show (List.foldl _ (if decide (z < x) = true then z else x) xs) ∈ _ ∧ ∀ y ∈ _, List.foldl _ (if decide (z < x) = true then z else x) xs ≤ y
    by_cases h : z < x
    · rw [if_pos (decide_eq_true h)]
      obtain ⟨h1, h2⟩ := ih z
      refine ⟨List.mem_cons_of_mem _ h1, fun y hy => ?_⟩
      rcases List.mem_cons.mp hy with rfl | hy
      · have := h2 z List.mem_cons_self
        omega
      · exact h2 y hy
    · rw [if_neg (by simp [h])]
      obtain ⟨h1, h2⟩ := ih x
      refine ⟨?_, fun y hy => ?_⟩
      · rcases List.mem_cons.mp h1 with e | e
        · rw [e]; exact List.mem_cons_self
        · exact List.mem_cons_of_mem _ (List.mem_cons_of_mem _ e)
      · rcases List.mem_cons.mp hy with rfl | hy
        · exact h2 y List.mem_cons_self
        · rcases List.mem_cons.mp hy with rfl | hy
          · have := h2 x List.mem_cons_self
            omega
          · exact h2 y (List.mem_cons_of_mem _ hy)
theorem maxOf_int (x : Int) : ∀ xs : List Int, PySem.W.maxOf x xs ∈ x :: xs ∧ ∀ y ∈ x :: xs, y ≤ PySem.W.maxOf x xs := by
  intro xs
  unfold PySem.W.maxOf
  induction xs generalizing x with
  | nil => exact ⟨List.mem_cons_self, fun y hy => by rw [List.mem_singleton.mp hy]; exact Int.le_refl _⟩
  | cons z xs ih =>
    rw [List.foldl_cons]
    show (List.foldl _ (if decide (x < z) = true then z else x) xs) ∈ _ ∧ ∀ y ∈ _, y ≤ List.foldl _ (if decide (x < z) = true then z else x) xs
    by_cases h : x < z
    · rw [if_pos (decide_eq_true h)]
      obtain ⟨h1, h2⟩ := ih z
      refine ⟨List.mem_cons_of_mem _ h1, fun y hy => ?_⟩
      rcases List.mem_cons.mp hy with rfl | hy
      · have := h2 z List.mem_cons_self
        omega
      · exact h2 y hy
    · rw [if_neg (by simp [h])]
      obtain ⟨h1, h2⟩ := ih x
      refine ⟨?_, fun y hy => ?_⟩
      · rcases List.mem_cons.mp h1 with e | e
        · rw [e]; exact List.mem_cons_self
        · exact List.mem_cons_of_mem _ (List.mem_cons_of_mem _ e)
      · rcases List.mem_cons.mp hy with rfl | hy
        · exact h2 y List.mem_cons_self
        · rcases List.mem_cons.mp hy with rfl | hy
          · have := h2 x List.mem_cons_self
            omega
          · exact h2 y (List.mem_cons_of_mem _ hy)
theorem dpAll_ints {K : PySem.W.Frag} {H : Hp} : ∀ ns : List Int, DpAll K H (ns.map V.int) (ns.map PyData.int)
  | [] => .nil
  | n :: ns => .cons (.int n) (dpAll_ints ns)
theorem cr_minT {X : Cx} (hc : X.calm = true) (hu : X.A.units + 1 < cLine) : CallR X (.builtin "min") (rMinT X.K) := by
  intro pins s σ H vs us Q I r h
  obtain ⟨a, ns, rfl, hs, hn, q⟩ := h
  obtain rfl := Vals.ref1 r
  obtain ⟨its, rv, p, hz⟩ := I.tuple hs
  obtain ⟨as, rd⟩ := Dp.readsAll I (ns.map PyData.int) _ its (dpAll_ints ns) rv
  obtain ⟨x, xs, rfl⟩ : ∃ x xs, ns = x :: xs := by cases ns with | nil => cases hn | cons x xs => exact ⟨x, xs, rfl⟩
  refine PySem.W.min_tuple_datum (α := Int) (x := x) (xs := xs) (I.ok.hd hc) p ⟨as, by rw [List.toList_toArray]; exact rd⟩ (by show X.A.units + 1 + 0 < cLine; omega) fun i v h' tk hi ⟨bs, rb⟩ kp => ?_
  have e : ∃ t, v = Value.int (PySem.W.minOf x xs) t := by cases rb; exact ⟨_, rfl⟩
  obtain ⟨t, rfl⟩ := e
  exact ⟨.int _, H, I.kept (t' := tk) kp, ⟨t, rfl⟩, q _ (minOf_int x xs).1 (minOf_int x xs).2⟩
theorem cr_maxT {X : Cx} (hc : X.calm = true) (hu : X.A.units + 1 < cLine) : CallR X (.builtin "max") (rMaxT X.K) := by
  intro pins s σ H vs us Q I r h
  obtain ⟨a, ns, rfl, hs, hn, q⟩ := h
  obtain rfl := Vals.ref1 r
  obtain ⟨its, rv, p, hz⟩ := I.tuple hs
  obtain ⟨as, rd⟩ := Dp.readsAll I (ns.map PyData.int) _ its (dpAll_ints ns) rv
  obtain ⟨x, xs, rfl⟩ : ∃ x xs, ns = x :: xs := by cases ns with | nil => cases hn | cons x xs => exact ⟨x, xs, rfl⟩
  refine PySem.W.max_tuple_datum (α := Int) (x := x) (xs := xs) (I.ok.hd hc) p ⟨as, by rw [List.toList_toArray]; exact rd⟩ (by show X.A.units + 1 + 0 < cLine; omega) fun i v h' tk hi ⟨bs, rb⟩ kp => ?_
  have e : ∃ t, v = Value.int (PySem.W.maxOf x xs) t := by cases rb; exact ⟨_, rfl⟩
  obtain ⟨t, rfl⟩ := e
  exact ⟨.int _, H, I.kept (t' := tk) kp, ⟨t, rfl⟩, q _ (maxOf_int x xs).1 (maxOf_int x xs).2⟩
theorem kcr_minT {X : Cx} {K : PySem.W.Frag} (h : X.K = K) (hc : X.calm = true) (hu : X.A.units + 1 < cLine) : CallR X (.builtin "min") (rMinT K) := h ▸ cr_minT hc hu
theorem kcr_maxT {X : Cx} {K : PySem.W.Frag} (h : X.K = K) (hc : X.calm = true) (hu : X.A.units + 1 < cLine) : CallR X (.builtin "max") (rMaxT K) := h ▸ cr_maxT hc hu
/-- sorted(xs) of data of one kind -/
def rSortQ (K : PySem.W.Frag) : List V → Hp → VK → Prop := fun vs H Q => ∃ (a : Addr) (xs : List V) (ds : List PyData), vs = [V.ref a] ∧ SqL K H a xs ∧ DpAll K H xs ds ∧ PySem.W.AllAlike ds ∧ PySem.W.Sortable ds ∧ (∀ d ∈ ds, d.depth ≤ 64) ∧
  ∀ (zs : List (V × PyData)) (p : Addr), zs.Perm (xs.zip ds) → (zs.map (·.2)).Pairwise (fun a b => PySem.W.dataLt b a = false) → H p = none → Q (.ref p) (upd H p (.lst (zs.map (·.1))))
theorem dpAll_len {K : PySem.W.Frag} {H : Hp} : ∀ (xs : List V) (ds : List PyData), DpAll K H xs ds → xs.length = ds.length
  | [], _, h => by cases h; rfl
  | x :: xs, _, h => by
    cases h with
    | cons _ h2 => rw [List.length_cons, List.length_cons, dpAll_len xs _ h2]
theorem dpAll_vals {K : PySem.W.Frag} {H : Hp} : ∀ (xs : List V) (ds : List PyData) (its : List Value), DpAll K H xs ds → Vals xs its → PySem.W.EachIs (fun (v : Value) (b : V × PyData) => RelV b.1 v) its (xs.zip ds)
  | [], _, _, h, r => by cases h; cases r; exact .nil
  | x :: xs, _, _, h, r => by
    cases h with
    | cons _ h2 =>
      cases r with
      | cons r0 r1 => exact .cons r0 (dpAll_vals xs _ _ h2 r1)
theorem dpAll_reads {X : Cx} {pins : List (Addr × Obj)} {σ : L2.St} {H : Hp} {s : Shared} (I : Inv X pins σ H s) : ∀ (xs : List V) (ds : List PyData) (its : List Value), DpAll X.K H xs ds → Vals xs its → PySem.W.EachIs (fun (v : Value) (b : V × PyData) => ∃ as, Reads s.heap v b.2 as) its (xs.zip ds)
  | [], _, _, h, r => by cases h; cases r; exact .nil
  | x :: xs, _, _, h, r => by
    cases h with
    | cons h1 h2 =>
      cases r with
      | cons r0 r1 => exact .cons (Dp.reads I _ _ _ h1 r0) (dpAll_reads I xs _ _ h2 r1)
theorem cr_sortQ {X : Cx} (hu : X.A.units + 66 < cLine) : CallR X (.builtin "sorted") (rSortQ X.K) := by
  intro pins s σ H vs us Q I r h
  obtain ⟨a, xs, ds, rfl, hs, hd, hal, hso, hdep, q⟩ := h
  obtain rfl := Vals.ref1 r
  obtain ⟨its, rv, p, hz⟩ := I.list hs
  have lxd := dpAll_len xs ds hd
  have em : (xs.zip ds).map (·.2) = ds := List.map_snd_zip (by omega)
  have e1 := dpAll_vals (K := X.K) (H := H) xs ds its hd rv
  have e2 := dpAll_reads I xs ds its hd rv
  have e3 : (xs.zip ds).map Prod.snd = ds := em
  refine PySem.W.sorted_data (enc := Prod.snd) p.isList e1 e2 (by rw [e3]; exact hal) (by rw [e3]; exact hso) (by rw [List.length_zip]; omega) (fun b hb => ?_) fun out hl he => ?_
  · have := hdep b.2 (by rw [← e3]; exact List.mem_map.mpr ⟨b, hb, rfl⟩)
    omega
  · have hv : Vals (((xs.zip ds).mergeSort (PySem.W.dataLe false Prod.snd)).map (·.1)) out := by
      generalize (xs.zip ds).mergeSort (PySem.W.dataLe false Prod.snd) = zs at he
      clear hl
      induction he with
      | nil => exact .nil
      | cons r0 _ ih => exact .cons r0 ih
    obtain ⟨ep, he'⟩ := PyProof.Rows.sortedAll_at s.heap its out.toArray
    refine ⟨.ref _, upd H (s.heap.objs.size + 1) (.lst (((xs.zip ds).mergeSort (PySem.W.dataLe false Prod.snd)).map (·.1))), I.laid (t' := s.toks) (fun _ _ => PyProof.Rows.sortedAll_old) (Nat.le_succ _) ⟨?_, out, ep, hv, he'⟩, rfl, q _ _ (List.mergeSort_perm _ _) ?_ (I.hok.fresh (Nat.le_succ _))⟩
    · rw [hv.length, hl, List.length_zip]; omega
    · refine List.pairwise_map.mpr ((PySem.W.sort_pairwise (PySem.W.sortLe_total (PyProof.Rows.listOrd PyProof.Rows.itemOrd) false fun b : V × PyData => PySem.W.keyToks b.2) (xs.zip ds)).imp fun {a b} h => ?_)
      have h' : PySem.W.dataLe false (Prod.snd : V × PyData → PyData) a b = true := h
      rw [PySem.W.dataLe_eq] at h'
      have h2 : (!PySem.W.dataLt b.2 a.2) = true := h'
      cases e : PySem.W.dataLt b.2 a.2 with
      | false => rfl
      | true => rw [e] at h2; cases h2
theorem kcr_sortQ {X : Cx} {K : PySem.W.Frag} (h : X.K = K) (hu : X.A.units + 66 < cLine) : CallR X (.builtin "sorted") (rSortQ K) := h ▸ cr_sortQ hu
section
variable {K : PySem.W.Frag} {φ : Addr → Prop} {J : Hp → Prop} {ρ : List (Option D)} {ta tb te : TE} {x y d : D} {ds es : List D} {i j : Int} {ns ms : List Int}
theorem rep_tupI {H : Hp} {v : V} (h : Rep K φ H (.tup (ns.map D.int)) v) : ∃ a, v = .ref a ∧ SqT K H a (ns.map V.int) := by
  obtain ⟨a, vs, rfl, p, r⟩ := rep_tup h
  exact ⟨a, rfl, r.ints ▸ p.sq⟩
theorem ev_geT (ha : EvD K φ J ta ρ (.tup (ns.map D.int))) (hb : EvD K φ J tb ρ (.tup (ms.map D.int))) : EvD K φ J (tOp (rGeT K) ta tb) ρ (.bl (Ob.lexAt (fun j => decide (ns.getD j 0 = ms.getD j 0)) (fun j => decide (ms.getD j 0 ≤ ns.getD j 0)) (decide (ns.length ≥ ms.length)) 0 (min ns.length ms.length))) := ev_opD ha hb fun H v w _ r1 r2 Q q => by
  obtain ⟨a, rfl, h1⟩ := rep_tupI r1
  obtain ⟨b, rfl, h2⟩ := rep_tupI r2
  exact ⟨a, b, ns, ms, rfl, rfl, h1, h2, q _ _ H (Same.refl H) rfl rfl⟩
theorem lexAt2 (a b c d : Int) : Ob.lexAt (fun j => decide (([a, b] : List Int).getD j 0 = ([c, d] : List Int).getD j 0)) (fun j => decide (([c, d] : List Int).getD j 0 ≤ ([a, b] : List Int).getD j 0)) (decide (([a, b] : List Int).length ≥ ([c, d] : List Int).length)) 0 (min ([a, b] : List Int).length ([c, d] : List Int).length) = !SrtO.lexB (a, b) (c, d) := by
  have e : min ([a, b] : List Int).length ([c, d] : List Int).length = 2 := rfl
  rw [e, Ob.lexAt_succ]
  show (if decide (a = c) = true then _ else decide (c ≤ a)) = _
  by_cases h1 : a = c
  · rw [if_pos (decide_eq_true h1), Ob.lexAt_succ]
    show (if decide (b = d) = true then _ else decide (d ≤ b)) = _
    by_cases h2 : b = d
    · rw [if_pos (decide_eq_true h2), Ob.lexAt_zero]
      unfold SrtO.lexB
      rw [if_pos (show (a, b).1 = (c, d).1 from h1), decide_eq_false (show ¬ b < d by omega)]
      rfl
    · rw [if_neg (by simp [h2])]
      unfold SrtO.lexB
      rw [if_pos (show (a, b).1 = (c, d).1 from h1)]
      show decide (d ≤ b) = !decide (b < d)
      by_cases h3 : b < d
      · rw [decide_eq_true h3, decide_eq_false (by omega)]; rfl
      · rw [decide_eq_false h3, decide_eq_true (by omega)]; rfl
  · rw [if_neg (by simp [h1])]
    unfold SrtO.lexB
    rw [if_neg (show ¬ (a, b).1 = (c, d).1 from h1)]
    show decide (c ≤ a) = !decide (a < c)
    by_cases h3 : a < c
    · rw [decide_eq_true h3, decide_eq_false (by omega)]; rfl
    · rw [decide_eq_false h3, decide_eq_true (by omega)]; rfl
theorem ev_geP2 {p q : Int × Int} (ha : EvD K φ J ta ρ (prDD p)) (hb : EvD K φ J tb ρ (prDD q)) : EvD K φ J (tOp (rGeT K) ta tb) ρ (.bl (!SrtO.lexB p q)) := by
  rw [show (!SrtO.lexB p q) = _ from (lexAt2 p.1 p.2 q.1 q.2).symm]
  exact ev_geT (ns := [p.1, p.2]) (ms := [q.1, q.2]) ha hb
theorem en_catL (ha : EvD K φ J ta ρ (.lst ds)) (hb : EvD K φ J tb ρ (.lst es)) (hz : ds.length + es.length ≤ 1000000) : EvN K φ J (tOp (rCatL K) ta tb) ρ (fun x => x = ds ++ es) := fun σ H A Q q =>
  ha σ H A _ fun v x H1 b1 A1 e1 r1 => hb σ H1 A1 _ fun w y H2 b2 A2 e2 r2 => by
    subst e1 e2
    obtain ⟨a, vs, rfl, pa, ra⟩ := rep_lst (r1.mono b2)
    obtain ⟨b, ws, rfl, pb, rb⟩ := rep_lst r2
    refine ⟨a, b, vs, ws, rfl, rfl, pa.sq, pb.sq, by rw [ra.length, rb.length]; exact sz hz, fun p hp => ?_⟩
    exact q p _ _ H2 _ (b1.trans b2) A2 hp (But.of (same_new hp)) (A2.same (same_new hp)) rfl upd_same (reps_new hp (ra.append rb))
theorem ev_catL (ha : EvD K φ J ta ρ (.lst ds)) (hb : EvD K φ J tb ρ (.lst es)) (hz : ds.length + es.length ≤ 1000000) : EvD K φ J (tOp (rCatL K) ta tb) ρ (.lst (ds ++ es)) := ev_newD (en_catL ha hb hz)
/-- [..] * n -/
theorem ev_repL (ha : EvN K φ J ta ρ (fun x => x = ds)) (hb : EvD K φ J tb ρ (.int i)) (hi : -(2 ^ 63) ≤ i ∧ i < 2 ^ 63) (hz : ds.length * i.toNat ≤ 1000000) : EvN K φ J (tOp rRep ta tb) ρ (fun x => x = (List.replicate i.toNat ds).flatten) := fun σ H A Q q =>
  ha σ H A _ fun p vs ds' H0 H1 b0 A0 hp b1 A1 pd e1 r1 => hb σ H1 A1 _ fun w y H2 b2 A2 e2 r2 => by
    subst pd e2
    cases (show w = _ from r2)
    have e1' : H2 p = some (.lst vs) := b2.keep _ _ (A0.fr.new p hp) e1
    have r1' : Reps K φ H2 ds' vs := (Reps.up (fun a o q e => ⟨q.1, e⟩) ds' vs r1).mono b2
    refine ⟨p, i, vs, rfl, rfl, e1', hi.1, hi.2, by rw [r1'.length]; exact sz hz, fun p4 hp4 => ?_⟩
    exact q p4 _ _ H2 _ ((b0.trans b1).trans b2) A2 hp4 (But.of (same_new hp4)) (A2.same (same_new hp4)) rfl upd_same (reps_new hp4 (replicate_reps r1' _))
/-- list(range(a, b)) -/
theorem reps_rg {H : Hp} {a b : Int} : Reps K φ H (rangeD a (b - a).toNat) (rgV a b) := by
  unfold rangeD rgV
  generalize List.range (b - a).toNat = ks
  induction ks with
  | nil => exact Reps.nil
  | cons k ks ih => exact Reps.cons rfl ih
theorem en_listRg2 (ha : EvD K φ J ta ρ (.int i)) (hb : EvD K φ J tb ρ (.int j)) (hr : RgOk i j) : EvN K φ J (tLstRg (tRg2 ta tb)) ρ (fun x => x = rangeD i (j - i).toNat) := fun σ H A Q q =>
  ha σ H A _ fun v x H1 b1 A1 e1 r1 => hb σ H1 A1 _ fun w y H2 b2 A2 e2 r2 => by
    subst e1 e2
    exact ⟨i, j, r1, r2, hr, fun p hp => q p _ _ H2 _ (b1.trans b2) A2 hp (But.of (same_new hp)) (A2.same (same_new hp)) rfl upd_same (reps_new hp reps_rg)⟩
theorem ev_listRg2 (ha : EvD K φ J ta ρ (.int i)) (hb : EvD K φ J tb ρ (.int j)) (hr : RgOk i j) : EvD K φ J (tLstRg (tRg2 ta tb)) ρ (.lst (rangeD i (j - i).toNat)) := ev_newD (en_listRg2 ha hb hr)
theorem en_listRg1 (hb : EvD K φ J tb ρ (.int j)) (hr : RgOk 0 j) : EvN K φ J (tLstRg (tRg1 tb)) ρ (fun x => x = rangeD 0 (j - 0).toNat) := fun σ H A Q q =>
  hb σ H A _ fun w y H2 b2 A2 e2 r2 => by
    subst e2
    exact ⟨j, r2, hr, fun p hp => q p _ _ H2 _ b2 A2 hp (But.of (same_new hp)) (A2.same (same_new hp)) rfl upd_same (reps_new hp reps_rg)⟩
theorem ev_minT (ha : EvD K φ J te ρ (.tup (ns.map D.int))) (hn : 0 < ns.length) : EvI K φ J (tCB (rMinT K) (tCons te tNil)) ρ (fun m => m ∈ ns ∧ ∀ y ∈ ns, m ≤ y) := ev_cbD (ea_cons ha ea_nil) fun H vs f r Q q => by
  obtain ⟨v, rfl, r1⟩ := r.one
  obtain ⟨a, rfl, h⟩ := rep_tupI r1
  exact ⟨a, ns, rfl, h, hn, fun m h1 h2 => q _ _ H (Same.refl H) ⟨m, rfl, h1, h2⟩ rfl⟩
theorem ev_maxT (ha : EvD K φ J te ρ (.tup (ns.map D.int))) (hn : 0 < ns.length) : EvI K φ J (tCB (rMaxT K) (tCons te tNil)) ρ (fun m => m ∈ ns ∧ ∀ y ∈ ns, y ≤ m) := ev_cbD (ea_cons ha ea_nil) fun H vs f r Q q => by
  obtain ⟨v, rfl, r1⟩ := r.one
  obtain ⟨a, rfl, h⟩ := rep_tupI r1
  exact ⟨a, ns, rfl, h, hn, fun m h1 h2 => q _ _ H (Same.refl H) ⟨m, rfl, h1, h2⟩ rfl⟩
theorem toPys_map : ∀ ds : List D, toPys ds = ds.map toPy
  | [] => rfl
  | d :: ds => by show toPy d :: toPys ds = _; rw [toPys_map ds]; rfl
theorem zip_map2 {α β γ : Type} (f : β → γ) : ∀ (as : List α) (bs : List β), as.zip (bs.map f) = (as.zip bs).map fun z => (z.1, f z.2)
  | [], _ => rfl
  | _ :: _, [] => rfl
  | a :: as, b :: bs => by rw [List.map_cons, List.zip_cons_cons, List.zip_cons_cons, zip_map2 f as bs]; rfl
theorem reps_zip {H : Hp} {vs : List V} (r : Reps K φ H ds vs) : ∀ z ∈ vs.zip ds, Rep K φ H z.2 z.1 := by
  induction ds generalizing vs with
  | nil => intro z hz; simp at hz
  | cons d ds ih =>
    obtain ⟨v, r', rfl, h1, h2⟩ := (show ∃ v r, vs = v :: r ∧ Rep K φ H d v ∧ Reps K φ H ds r from r)
    intro z hz
    rw [List.zip_cons_cons] at hz
    rcases List.mem_cons.mp hz with rfl | hz
    · exact h1
    · exact ih h2 z hz
/-- each listed value stands for some tree of that data -/
theorem sort_back {H : Hp} {vs : List V} (r : Reps K φ H ds vs) : ∀ {zs : List (V × PyData)}, (∀ z ∈ zs, z ∈ vs.zip (ds.map toPy)) → ∃ es : List D, Reps K φ H es (zs.map (·.1)) ∧ es.map toPy = zs.map (·.2) ∧ ∀ e ∈ es, e ∈ ds
  | [], _ => ⟨[], Reps.nil, rfl, fun _ h => nomatch h⟩
  | z :: zs, h => by
    obtain ⟨es, h1, h2, h3⟩ := sort_back r (zs := zs) fun u hu => h u (List.mem_cons_of_mem _ hu)
    have hz := h z List.mem_cons_self
    rw [zip_map2] at hz
    obtain ⟨u, hu, e⟩ := List.mem_map.mp hz
    have hr := reps_zip r u hu
    subst e
    exact ⟨u.2 :: es, Reps.cons hr h1, by rw [List.map_cons, h2]; rfl, fun e he => by
      rcases List.mem_cons.mp he with rfl | he
      · exact (List.of_mem_zip hu).2
      · exact h3 e he⟩
theorem ev_sortQ (ha : EvD K φ J te ρ (.lst ds)) (hq : okq 64 (.lst ds) = true) (hal : PySem.W.AllAlike (ds.map toPy)) (hso : PySem.W.Sortable (ds.map toPy)) : EvP K φ J (tCB (rSortQ K) (tCons te tNil)) ρ (fun z => ∃ es : List D, z = .lst es ∧ (es.map toPy).Perm (ds.map toPy) ∧ (∀ e ∈ es, e ∈ ds) ∧ (es.map toPy).Pairwise (fun a b => PySem.W.dataLt b a = false)) := ev_cbD (ea_cons ha ea_nil) fun H vs f r Q q => by
  obtain ⟨v, rfl, r1⟩ := r.one
  obtain ⟨a, vs, rfl, p, rs⟩ := rep_lst r1
  have hl := rs.length
  have hd := dps_of ds vs 63 hq rs
  rw [toPys_map] at hd
  refine ⟨a, vs, ds.map toPy, rfl, p.sq, hd, hal, hso, fun d hd => ?_, fun zs p hp hs hn => ?_⟩
  · obtain ⟨e, he, rfl⟩ := List.mem_map.mp hd
    exact Nat.le_succ_of_le (okq_lay 63 e (List.all_eq_true.mp (show ds.all (okq 63) = true from hq) e he)).2
  · obtain ⟨es, h1, h2, h3⟩ := sort_back rs (zs := zs) fun z hz => hp.mem_iff.mp hz
    refine q _ (.lst es) _ (same_new hn) ⟨es, rfl, ?_, h3, by rw [h2]; exact hs⟩ ⟨p, _, rfl, .inl ⟨f.new p hn, .inl upd_same⟩, h1.mono (But.of (same_new hn))⟩
    rw [h2]
    have := hp.map Prod.snd
    rw [List.map_snd_zip (by rw [List.length_map]; omega)] at this
    exact this
end

-- import HandS.Iter
-- import KE.KDictDisplayH
/-! ### a tuple times 1; walks over dicts (locked meanwhile) -/
theorem tuple_mul1W (l : Addr) (items : Array Value) (n : Nat) (dd : Option Addr) (sl : Array (Option Value)) (u : Tok) :
    Meets (Builtin.«tuple.__mul__» ⟨[.ref l, .int 1 u], []⟩) (fun _ R s => s.heap.get? l = some { cls := .type "tuple", dict := dd, data := .seq items n, slots := sl } ∧ R (.ok (.ret (Value.ref l))) s) :=
  .of_wp fun prog w A R s h => by
    obtain ⟨hp, g, d, tk, os⟩ := s
    obtain ⟨hl, h⟩ := h
    have f1 := AutoSeq1.idx_int
    have c1 : (items.isEmpty || (1 : Int) == 1) = true := by simp
    wp_walk using wpAny_loadPart' hl
    repeat (first
      | (refine wpAny_ite_true (decide_eq_true (by rw [c1])) ?_; wp_walk using wpAny_loadPart' hl)
      | (refine wpAny_ite_false (by decide) ?_; wp_walk using wpAny_loadPart' hl))
    exact ⟨_, rfl, h⟩
def rRepT1 (K : PySem.W.Frag) : R2 := fun x y H Q => ∃ l k xs, x = .ref l ∧ y = .int k ∧ SqT K H l xs ∧ xs ≠ [] ∧ xs.length ≤ 1000 ∧ 1 ≤ k ∧ k ≤ 1000 ∧ (k = 1 → Q (.ref l) H) ∧ (2 ≤ k → ∀ p, H p = none → Q (.ref p) (upd H p (.tup (List.replicate k.toNat xs).flatten)))
theorem op_repT1 {X : Cx} : OpR X (binaryOp .Mult) (rRepT1 X.K) := by
  intro pins s σ H x y v u Q I rx ry h
  obtain ⟨l, k, xs, rfl, rfl, hT, hne, hz, h1, h2, q1, q2⟩ := h
  by_cases e : k = 1
  · subst e
    cases rx
    obtain ⟨t, rfl⟩ := ry
    obtain ⟨its, r, ⟨⟨cls, dd, data, sl⟩, ho, hc, n, hd⟩, hs⟩ := I.tuple hT
    simp only at hc hd
    subst hc hd
    exact wpAny_binaryOp_repeat_ref (T := "tuple") (U := "int") (by decide) ⟨_, ho, rfl⟩ (fun s' => typeIs_int s' 1 t) noFill_tuple_mul PySem.F.fills_int_mul PySem.F.slot_int_rmul repeat_tuple PySem.F.slot_int_index.lookup
      (call_meets PySem.F.slot_int_rmul (typeIs_int s 1 t) PySem.F.entry_int_rmul (PySem.F.args_int_rmul_2 _ _) (int_rmul_tuple 1 t l its.toArray n dd sl)
        ⟨ho, rfl, ⟨_, ho, rfl⟩, call_meets PySem.F.slot_tuple_mul ⟨_, ho, rfl⟩ PySem.F.entry_tuple_mul (PySem.F.args_tuple_mul_2 _ _) (tuple_mul1W l its.toArray n dd sl t) ⟨ho, .ref l, H, I, rfl, q1 rfl⟩⟩)
  · exact op_repT pins s σ H _ _ v u Q I rx ry ⟨l, k, xs, rfl, rfl, hT, hne, by omega, h2, hz, q2 (by omega)⟩
theorem kop_repT1 {X : Cx} {K : PySem.W.Frag} (h : X.K = K) : OpR X (binaryOp .Mult) (rRepT1 K) := h ▸ op_repT1
/-- what a tree may stand at -/
def TreeO (o : HO) : Prop := (∃ xs, o = .tup xs) ∨ (∃ xs, o = .lst xs) ∨ (∃ od xs, o = .frz od (.lst xs)) ∨ (∃ kvs, o = .dK kvs) ∨ ∃ kvs, o = .dT kvs
section
variable {K : PySem.W.Frag} {φ φ' : Addr → Prop} {H H' : Hp}
def UpW (φ φ' : Addr → Prop) (H H' : Hp) : Prop := ∀ a o, φ a → H a = some o → TreeO o → φ' a ∧ H' a = some o
mutual
theorem Rep.upW (k : UpW φ φ' H H') : ∀ (d : D) (v : V), Rep K φ H d v → Rep K φ' H' d v
  | .non, _, h => h
  | .bl _, _, h => h
  | .int _, _, h => h
  | .str _, _, h => h
  | .raw _, _, h => h
  | .dk ks ds, v, h => by
    obtain ⟨a, vs, e, ⟨p, e2, hl⟩, r⟩ := (show ∃ a vs, v = .ref a ∧ (φ a ∧ H a = some (.dK (ks.zip vs)) ∧ ks.length = ds.length) ∧ Reps K φ H ds vs from h)
    have z := k a _ p e2 (.inr (.inr (.inr (.inl ⟨_, rfl⟩))))
    exact ⟨a, vs, e, ⟨z.1, z.2, hl⟩, Reps.upW k ds vs r⟩
  | .dt ks ds, v, h => by
    obtain ⟨a, vs, e, ⟨p, e2, hl⟩, r⟩ := (show ∃ a vs, v = .ref a ∧ (φ a ∧ H a = some (.dT (ks.zip vs)) ∧ ks.length = ds.length) ∧ Reps K φ H ds vs from h)
    have z := k a _ p e2 (.inr (.inr (.inr (.inr ⟨_, rfl⟩))))
    exact ⟨a, vs, e, ⟨z.1, z.2, hl⟩, Reps.upW k ds vs r⟩
  | .tup ds, v, h => by
    obtain ⟨a, vs, e, p, r⟩ := (show ∃ a vs, v = .ref a ∧ PT K φ H a vs ∧ Reps K φ H ds vs from h)
    have z := k a _ p.at.1 p.at.2 (.inl ⟨_, rfl⟩)
    exact ⟨a, vs, e, .inl ⟨z.1, .inl z.2⟩, Reps.upW k ds vs r⟩
  | .lst ds, v, h => by
    obtain ⟨a, vs, e, p, r⟩ := (show ∃ a vs, v = .ref a ∧ PL K φ H a vs ∧ Reps K φ H ds vs from h)
    refine ⟨a, vs, e, p.elim (fun ⟨pa, rd⟩ => ?_) .inr, Reps.upW k ds vs r⟩
    rcases rd with rd | ⟨od, rd⟩
    · have z := k a _ pa rd (.inr (.inl ⟨_, rfl⟩))
      exact .inl ⟨z.1, .inl z.2⟩
    · have z := k a _ pa rd (.inr (.inr (.inl ⟨_, _, rfl⟩)))
      exact .inl ⟨z.1, .inr ⟨od, z.2⟩⟩
theorem Reps.upW (k : UpW φ φ' H H') : ∀ (ds : List D) (vs : List V), Reps K φ H ds vs → Reps K φ' H' ds vs
  | [], _, h => h
  | d :: ds, vs, h => by
    obtain ⟨v, r, e, h1, h2⟩ := (show ∃ v r, vs = v :: r ∧ Rep K φ H d v ∧ Reps K φ H ds r from h)
    exact ⟨v, r, e, Rep.upW k d v h1, Reps.upW k ds r h2⟩
end
end
section
variable {K : PySem.W.Frag} {φ : Addr → Prop} {J : Hp → Prop} {ρ : List (Option D)} {td ty : TE} {κ : Type} [DecidableEq κ] [DKind κ] {kds : List (κ × D)} {l : Addr} {d : D}
theorem ho_mut (kvs : List (κ × V)) (h : DKind.ho kvs = .dK [] ∨ True) : True := trivial
theorem frz_tree {od : Obj} {u : HO} (hu : ∀ xs, u ≠ .lst xs) : ¬ TreeO (.frz od u) := fun h => by
  rcases h with ⟨_, e⟩ | ⟨_, e⟩ | ⟨_, _, e⟩ | ⟨_, e⟩ | ⟨_, e⟩
  · cases e
  · cases e
  · injection e with _ e
    exact hu _ e
  · cases e
  · cases e
/-- a live dict is locked while it is walked -/
theorem ev_lockS {t : TE} {P : D → Prop} (L : LivDS K (wo φ l) J l kds) (hl : φ l) (hm : ∀ vs, Mut (some (DKind.ho ((kds.map (·.1)).zip vs)))) (hn : ∀ vs xs, DKind.ho ((kds.map (·.1)).zip vs) ≠ .lst xs)
    (h : ∀ (od : Obj) (vs : List V) (J1 : Hp → Prop), vs.length = kds.length → (∀ H, J1 H → H l = some (.frz od (DKind.ho ((kds.map (·.1)).zip vs))) ∧ Reps K (fun a => φ a ∧ ∀ H, J1 H → H a ≠ none) H (kds.map (·.2)) vs) → EvP K φ J1 t ρ P) : EvP K (wo φ l) J (tLockE t) ρ P := fun σ H A Q q => by
  obtain ⟨vs, H0, r0, n0, k0⟩ := L.ex
  have hd := (k0 H A.j).1
  generalize hu : DKind.ho ((kds.map (·.1)).zip vs) = u at hd
  refine ⟨l, u, hd, hu ▸ hm vs, fun od => ?_⟩
  have nlst : ∀ xs, u ≠ .lst xs := hu ▸ hn vs
  have A1 : At K φ (fun H2 => H2 l = some (.frz od u) ∧ J (L2.upd H2 l u)) ρ σ (L2.upd H l (.frz od u)) := by
    refine ⟨A.sr.up fun a o p e => ⟨p.1, by rw [upd_ne p.2]; exact e⟩, ⟨fun a ha => ?_, fun a xs ha => ?_⟩, ⟨upd_same, by rw [upd_upd hd]; exact A.j⟩, fun Ha Hb k j => ⟨k l _ (by rw [upd_same]; exact fun z => nomatch z) j.1, A.mono _ _ (fun a o ha e => ?_) j.2⟩⟩
    · by_cases e : a = l
      · rw [e]; exact hl
      · rw [upd_ne e] at ha; exact (A.fr.new a ha).1
    · by_cases e : a = l
      · rw [e]; exact hl
      · rw [upd_ne e] at ha; exact (A.fr.tup a xs ha).1
    · by_cases ea : a = l
      · rw [ea, upd_same] at e ⊢; exact e
      · rw [upd_ne ea] at e ⊢
        exact k a o (upd_tr a ha) e
  refine h od vs _ (by rw [r0.length, List.length_map]) (fun H2 j => ⟨hu ▸ j.1, ?_⟩) σ _ A1 _ fun v x H2 b2 A2 px r2 => ⟨A2.j.1, ?_⟩
  · have b := (k0 _ j.2).2
    exact Reps.up (fun a o p e => ⟨⟨p.1, fun H3 j3 => by
      have z := (k0 _ j3.2).2.keep a o p e
      rw [upd_ne p.2] at z
      rw [z]
      exact fun z => nomatch z⟩, by
      have z := b.keep a o p e
      rw [upd_ne p.2] at z
      exact z⟩) _ vs r0
  · have el := A2.j.1
    have ub : But (wo φ l) H (L2.upd H2 l u) := ⟨fun a o p e => by
      rw [upd_ne p.2]
      exact b2.keep a o p.1 (by rw [upd_ne p.2]; exact e), fun a ha => upd_tr a (b2.tr a (upd_tr a ha))⟩
    refine q v x (L2.upd H2 l u) ub ⟨A.sr.up (Up.of ub), ?_, A2.j.2, A.mono.up ub.tr⟩ px (Rep.upW (fun a o p e ht => ?_) x v r2)
    · refine A2.fr.updW fun xs e => ?_
      rw [← hu] at e
      exact DKind.nt _ xs e
    · have na : a ≠ l := fun z => by
        subst z
        rw [el] at e
        cases e
        exact frz_tree nlst ht
      exact ⟨⟨p, na⟩, by rw [upd_ne na]; exact e⟩
/-- .. a dict left as it is: what else the slots hold is forgotten meanwhile -/
theorem ev_lockD {k n : Nat} {t : TE} {P : D → Prop} (hn0 : ρ.length = n) (hk : ρ[k]? = some (some (dictD kds))) (hm : ∀ vs, Mut (some (DKind.ho ((kds.map (·.1)).zip vs)))) (hn : ∀ vs xs, DKind.ho ((kds.map (·.1)).zip vs) ≠ .lst xs)
    (h : ∀ (l : Addr) (od : Obj) (vs : List V) (J1 : Hp → Prop), vs.length = kds.length → φ l → (∀ H, J1 H → H l = some (.frz od (DKind.ho ((kds.map (·.1)).zip vs)))) → EvP K φ J1 t ((List.replicate n none).set k (some (.raw (.ref l)))) P) : EvP K φ J (tLockE t) ρ P := fun σ H A Q q => by
  obtain ⟨v0, ev0, rv0⟩ := A.sr.2 k _ hk
  obtain ⟨l, vs, rfl, ⟨hl, hd, _⟩, rs⟩ := DKind.rep.mp rv0
  have hlen : vs.length = kds.length := by rw [rs.length, List.length_map]
  generalize hu : DKind.ho ((kds.map (·.1)).zip vs) = u at hd
  refine ⟨l, u, hd, hu ▸ hm vs, fun od => ?_⟩
  have nlst : ∀ xs, u ≠ .lst xs := hu ▸ hn vs
  have A1 : At K φ (fun H2 => H2 l = some (.frz od u) ∧ J (L2.upd H2 l u)) ((List.replicate n none).set k (some (.raw (.ref l)))) σ (L2.upd H l (.frz od u)) := by
    refine ⟨⟨by rw [List.length_set, List.length_replicate, A.sr.1, hn0], fun i x hi => ?_⟩, A.fr.upd (fun _ h => nomatch h), ⟨upd_same, by rw [upd_upd hd]; exact A.j⟩, fun Ha Hb k j => ⟨k l _ (by rw [upd_same]; exact fun z => nomatch z) j.1, A.mono _ _ (fun a o ha e => ?_) j.2⟩⟩
    · by_cases e : k = i
      · subst e
        have hlt : k < n := by rw [← hn0]; exact (List.getElem?_eq_some_iff.mp hk).1
        rw [List.getElem?_set_self (by rw [List.length_replicate]; exact hlt)] at hi
        cases hi
        exact ⟨_, ev0, rfl⟩
      · rw [List.getElem?_set_ne e, List.getElem?_replicate] at hi
        split at hi <;> cases hi
    · by_cases ea : a = l
      · rw [ea, upd_same] at e ⊢; exact e
      · rw [upd_ne ea] at e ⊢
        exact k a o (upd_tr a ha) e
  refine h l od vs _ hlen hl (fun H2 j => hu ▸ j.1) σ _ A1 _ fun v x H2 b2 A2 px r2 => ⟨A2.j.1, ?_⟩
  have el := A2.j.1
  have ub : But φ H (L2.upd H2 l u) := ⟨fun a o p e => by
    by_cases ea : a = l
    · rw [ea] at e ⊢
      rw [hd] at e
      rw [upd_same]; exact e
    · rw [upd_ne ea]
      exact b2.keep a o p (by rw [upd_ne ea]; exact e), fun a ha => upd_tr a (b2.tr a (upd_tr a ha))⟩
  refine q v x (L2.upd H2 l u) ub ⟨A.sr.up (Up.of ub), A2.fr.upd (fun xs e => ?_), A2.j.2, A.mono.up ub.tr⟩ px (Rep.upW (fun a o p e ht => ?_) x v r2)
  · rw [← hu] at e
    exact DKind.nt _ xs e
  · have na : a ≠ l := fun z => by
      subst z
      rw [el] at e
      cases e
      exact frz_tree nlst ht
    exact ⟨p, by rw [upd_ne na]; exact e⟩
theorem reps_keys {H : Hp} : ∀ ks : List Key, Reps K φ H (ks.map keyD) (ks.map kV)
  | [] => Reps.nil
  | k :: ks => Reps.cons (by cases k <;> rfl) (reps_keys ks)
/-- the keys of a locked dict -/
theorem it_keysT {od : Obj} {kvs : List (List Key × V)} (h : EvD K φ J td ρ (.raw (.ref l))) (hl : φ l) (hJ : ∀ H, J H → H l = some (.frz od (.dT kvs))) : IterD K φ J (iKeys td) ρ (kvs.map fun kv => .tup (kv.1.map keyD)) := fun σ H A R q => h σ H A _ fun v x H1 b1 A1 e r => by
  subst e
  cases (show v = _ from r)
  refine ⟨l, od, rfl, .inr ⟨kvs, hJ _ A1.j, q _ _ H1 b1 A1 rfl fun φ' i H2 u f => ?_⟩⟩
  have e2 := (u l _ hl (hJ _ A1.j)).2
  refine ⟨fun x hx => ?_, fun hi => ⟨e2, by rw [hi, List.length_map]; exact Nat.le_refl _⟩⟩
  rw [List.getElem?_map] at hx
  obtain ⟨kv, hkv, rfl⟩ := Option.map_eq_some_iff.mp hx
  refine ⟨⟨e2, (List.getElem?_eq_some_iff.mp hkv).1⟩, fun y H3 hy => ?_⟩
  obtain ⟨rfl, k, w, a, hk, rfl, ha⟩ := hy
  rw [hkv] at hk
  cases hk
  exact ⟨Same.refl _, a, _, rfl, .inl ⟨f.tup a _ ha, .inl ha⟩, reps_keys _⟩
theorem it_keysK {od : Obj} {kvs : List (Key × V)} (h : EvD K φ J td ρ (.raw (.ref l))) (hl : φ l) (hJ : ∀ H, J H → H l = some (.frz od (.dK kvs))) : IterD K φ J (iKeys td) ρ (kvs.map fun kv => keyD kv.1) := fun σ H A R q => h σ H A _ fun v x H1 b1 A1 e r => by
  subst e
  cases (show v = _ from r)
  refine ⟨l, od, rfl, .inl ⟨kvs, hJ _ A1.j, q _ _ H1 b1 A1 rfl fun φ' i H2 u f => ?_⟩⟩
  have e2 := (u l _ hl (hJ _ A1.j)).2
  refine ⟨fun x hx => ?_, fun hi => ⟨e2, by rw [hi, List.length_map]; exact Nat.le_refl _⟩⟩
  rw [List.getElem?_map] at hx
  obtain ⟨kv, hkv, rfl⟩ := Option.map_eq_some_iff.mp hx
  refine ⟨⟨e2, (List.getElem?_eq_some_iff.mp hkv).1⟩, fun y H3 hy => ?_⟩
  obtain ⟨rfl, k, w, hk, rfl⟩ := hy
  rw [hkv] at hk
  cases hk
  exact ⟨Same.refl _, by cases k <;> rfl⟩
/-- d[k] while d is locked -/
theorem ev_dgetF {od : Obj} {kds : List (Key × D)} {vs : List V} {k : Key} (hd : EvD K φ J td ρ (.raw (.ref l))) (hJ : ∀ H, J H → H l = some (.frz od (.dK ((kds.map (·.1)).zip vs))) ∧ Reps K φ H (kds.map (·.2)) vs) (hy : EvD K φ J ty ρ (keyD k)) (e : valD kds k = some d) : EvD K φ J (tDGet td ty) ρ d := fun σ H A Q q =>
  hd σ H A _ fun a x H1 b1 A1 ex rx => hy σ H1 A1 _ fun y d' H2 b2 A2 e2 r2 => by
    subst ex e2
    cases (show a = _ from rx)
    obtain ⟨ea, rs⟩ := hJ H2 A2.j
    rcases zip_val rs k with ⟨e1, _⟩ | ⟨d1, v1, e1, ev, r1⟩
    · rw [e] at e1; cases e1
    · rw [e] at e1
      cases e1
      refine ⟨l, v1, rfl, ?_, q v1 _ H2 (b1.trans b2) A2 rfl r1⟩
      rw [← ev, keyD_v r2]
      exact .inl ⟨_, k, .inr ⟨od, ea⟩, rfl, rfl⟩
/-- t * n, n at least 1 -/
theorem ev_repT1 {ta tb : TE} {ds : List D} {i : Int} (ha : EvD K φ J ta ρ (.tup ds)) (hb : EvD K φ J tb ρ (.int i)) (hne : ds ≠ []) (h1 : 1 ≤ i) (h3 : i ≤ 1000) (hz : ds.length ≤ 1000) : EvD K φ J (tOp (rRepT1 K) ta tb) ρ (.tup (List.replicate i.toNat ds).flatten) :=
  ev_opD ha hb fun H v w fr r1 r2 Q q => by
    obtain ⟨a, vs, rfl, p, rs⟩ := rep_tup r1
    cases (show w = _ from r2)
    refine ⟨a, i, vs, rfl, rfl, p.sq, fun z => hne (List.eq_nil_of_length_eq_zero (by rw [← rs.length, z]; rfl)), by rw [rs.length]; exact hz, h1, h3, fun e => ?_, fun h2 l hl => q _ _ _ (same_new hl) rfl ⟨l, _, rfl, .inl ⟨fr l hl, .inl upd_same⟩, ?_⟩⟩
    · subst e
      refine q _ _ H (Same.refl H) rfl ⟨a, vs, rfl, p, ?_⟩
      show Reps K φ H (List.replicate 1 ds).flatten vs
      rw [List.replicate_succ, List.replicate_zero, List.flatten_cons, List.flatten_nil, List.append_nil]
      exact rs
    · exact (replicate_reps rs _).mono (But.of (same_new hl))
end
/-! ### {t: v}, t a tuple of ints and texts -/
def tDispT1 (tk tv : TE) : TE := fun σ H Q => ∀ p, H p = none → tk σ (upd H p (.dT [])) fun x H1 => tv σ H1 fun y H2 => H2 p = some (.dT []) ∧ ∃ (k : List Key) (b : Addr), x = .ref b ∧ H2 b = some (.tup (k.map kV)) ∧ Q (.ref p) (upd H2 p (.dT [(k, y)]))
theorem pe_dispT1 {X : Cx} {pos : Pos} {ke ve : Expr} {tk tv : TE} (hu : X.A.units + 1 < cLine) (h : PPs X pos [some ke] [ve] [(tk, tv)]) : PE X (.Dict [some ke] [ve] pos) (tDispT1 tk tv) := by
  refine ⟨fun pins s σ H Q I q => ?_⟩
  have hn := I.hok.fresh (Nat.le_refl s.heap.objs.size)
  have I1 := I.laid (a := s.heap.objs.size) (o := .dT []) (h' := s.heap.push { cls := .type "dict", data := .dict #[] }) (t' := s.toks) (fun _ _ q => Heap.get?_push_of_some _ q) (Nat.le_refl _) (dt_empty s.heap I.big)
  have q' := q _ hn
  rw [arm_eval_Dict, zip_pairTrees [some ke] [ve] X.env pos rfl rfl, dictDisplay_pairs (pairTrees [some ke] [ve] X.env pos) (by intro z; cases z) (Nat.le_of_ble_eq_true rfl)]
  refine wpAny_bind (wpAny_standAt (wpAny_bind (wpAny_subDictH (knd := tupleKind (mixKind X.prog X.w)) (Q := fun d s' => wpAny (model X.prog X.w) X.A (pure (Value.ref d)) (EP X pins σ Q) X.xe s') (show X.A.units < cLine by omega) (Nat.le_of_ble_eq_true rfl) ?_)))
  refine thn (h.run pins _ σ _ (fun ps H2 => match ps with
    | [(x, y)] => H2 s.heap.objs.size = some (.dT []) ∧ ∃ (k : List Key) (b : Addr), x = .ref b ∧ H2 b = some (.tup (k.map kV)) ∧ Q (.ref s.heap.objs.size) (upd H2 s.heap.objs.size (.dT [(k, y)]))
    | _ => False) I1 q') fun ws s2 ⟨ps, H2, I2, rel, q2⟩ => ?_
  obtain ⟨x, y, rfl⟩ : ∃ x y, ps = [(x, y)] := by
    cases ps with
    | nil => exact q2.elim
    | cons p r =>
      cases r with
      | nil => exact ⟨p.1, p.2, rfl⟩
      | cons _ _ => exact q2.elim
  obtain ⟨e, k, b, rfl, eb, q3⟩ := q2
  cases rel with
  | @cons a b1 as bs hp t =>
    cases t
    obtain ⟨b2, b3⟩ := hp
    have exw : b1.1 = .ref b := b2
    obtain ⟨z, hd, xs0, r0, dd⟩ := dt_of I2.hok e
    cases r0
    refine ⟨[(k, b, b1.2)], ⟨exw, rfl, key_of I2.hok eb, trivial⟩, dd, fun h' tk dd' hs => wpAny_pure ⟨.ref s.heap.objs.size, _, ?_, rfl, q3⟩⟩
    obtain ⟨o, es, ep, hq, h2, h3, h4, _, h5⟩ := dd'
    refine d_write I2 (by rw [e]; exact True.intro) hs ⟨o, hq⟩ ⟨by show 1 ≤ sizeLine; decide, hd, _, (.cons ⟨rfl, ?_, b3⟩ .nil : KT (upd H2 s.heap.objs.size (.dT [(k, y)])) [(k, y)] [(k, b, b1.2)]), o, es, ep, hq, h2, h3, h4, h5⟩
    show upd H2 s.heap.objs.size _ b = _
    rw [upd_ne (fun z => by rw [z, e] at eb; cases eb)]
    exact eb
section
variable {K : PySem.W.Frag} {φ : Addr → Prop} {J : Hp → Prop} {ρ : List (Option D)} {tk tv : TE}
theorem en_dispT1 {k : List Key} {d : D} (hk : ∀ J' φ', Ext φ J φ' J' → EvD K φ' J' tk ρ (.tup (k.map keyD))) (hv : ∀ J' φ', Ext φ J φ' J' → EvD K φ' J' tv ρ d) : EvNO K φ J (tDispT1 tk tv) ρ (fun ds C => ds = ([(k, d)].map (·.2)) ∧ C = fun vs => HO.dT (([(k, d)].map (·.1)).zip vs)) := fun σ H A Q q p hp => by
  have ext : Ext φ J (wo φ p) (fun H => J H ∧ H p = some (.dT [])) := ⟨fun _ h => h.1, fun p' s ns hq => ⟨fun z => hq.np z.1, hq.ne, fun H h => hq.ok H h.1, fun H' H'' h k o => ⟨hq.st H' H'' h.1 k o, k _ _ (by
    obtain ⟨_, _, _, _, h1, _⟩ := hq.ok _ A.j
    exact (ne_of_none h1 hp).symm) h.2⟩⟩, fun a p' h => ⟨p', fun e => h H A.j (by rw [e]; exact hp)⟩⟩
  have A1 : At K (wo φ p) (fun H => J H ∧ H p = some (.dT [])) ρ σ (upd H p (.dT [])) := A.newLive hp ⟨A.mono _ _ (fun a o _ e => same_new hp a o e) A.j, upd_same⟩ ((A.mono.up upd_tr).and (Mo.at (by rw [upd_same]; exact fun z => nomatch z)))
  refine hk _ _ ext σ _ A1 _ fun v1 d1 H2 b2 A2 e1 r1 => hv _ _ ext σ H2 A2 _ fun v2 d2 H3 b3 A3 e2 r2 => ?_
  subst e1 e2
  obtain ⟨b, vs, rfl, pb, rs⟩ := rep_tup (r1.mono b3)
  rw [keysD_v rs] at pb
  refine ⟨A3.j.2, k, b, rfl, pb.at.2, ?_⟩
  have np : ¬ wo φ p p := fun z => z.2 rfl
  have bb : But φ H (upd H3 p (.dT [(k, v2)])) := ⟨fun a o pa e => by
    have ne := ne_of_none e hp
    rw [upd_ne ne]
    exact b3.keep a o ⟨pa, ne⟩ (b2.keep a o ⟨pa, ne⟩ (by rw [upd_ne ne]; exact e)), fun a h => upd_tr a (b3.tr a (b2.tr a (upd_tr a h)))⟩
  have jj : J (upd H3 p (.dT [(k, v2)])) := A.mono H3 _ (fun a o h e => by
    rw [upd_ne (show a ≠ p from fun z => h (by rw [z]; exact hp))]
    exact e) A3.j.1
  exact q p [v2] [d2] _ H _ (But.refl _ _) A hp bb ⟨A.sr.up (Up.of bb), A3.fr.fst.upd (fun _ h => nomatch h), jj, A.mono.up bb.tr⟩ ⟨rfl, rfl⟩ (fun _ h => nomatch h) upd_same (Reps.cons (r2.mono ((But.refl _ H3).upd np)) Reps.nil)
end
/-! ### sorted, the trees told themselves -/
theorem perm_lift {α β : Type} (f : α → β) : ∀ {l k : List β}, l.Perm k → ∀ {m : List α}, k = m.map f → ∃ m' : List α, m'.Perm m ∧ l = m'.map f := by
  intro l k p
  induction p with
  | nil => intro m e; exact ⟨m, List.Perm.refl _, e⟩
  | cons x _ ih =>
    intro m e
    cases m with
    | nil => cases e
    | cons a m =>
      obtain ⟨e1, e2⟩ := List.cons.inj e
      obtain ⟨m', p', e'⟩ := ih e2
      exact ⟨a :: m', p'.cons a, by rw [List.map_cons, ← e', e1]⟩
  | swap x y t =>
    intro m e
    cases m with
    | nil => cases e
    | cons a m =>
      cases m with
      | nil => have := (List.cons.inj e).2; cases this
      | cons b m =>
        obtain ⟨e1, e2⟩ := List.cons.inj e
        obtain ⟨e3, e4⟩ := List.cons.inj e2
        exact ⟨b :: a :: m, List.Perm.swap a b m, by rw [List.map_cons, List.map_cons, e1, e3, e4]⟩
  | trans _ _ ih1 ih2 =>
    intro m e
    obtain ⟨m2, p2, e2⟩ := ih2 e
    obtain ⟨m1, p1, e1⟩ := ih1 e2
    exact ⟨m1, p1.trans p2, e1⟩
theorem perm_uniq {α : Type} {R : α → α → Prop} (anti : ∀ a b, R a b → R b a → a = b) : ∀ {a b : List α}, a.Pairwise R → b.Pairwise R → a.Perm b → a = b
  | [], b, _, _, h => (List.Perm.eq_nil h.symm).symm
  | x :: a, [], _, _, h => absurd h.length_eq (by simp)
  | x :: a, y :: b, ha, hb, h => by
    have e : x = y := by
      rcases List.mem_cons.mp (h.mem_iff.mp (List.mem_cons_self (a := x) (l := a))) with e | hx
      · exact e
      · rcases List.mem_cons.mp (h.mem_iff.mpr (List.mem_cons_self (a := y) (l := b))) with e | hy
        · exact e.symm
        · exact anti x y ((List.pairwise_cons.mp ha).1 y hy) ((List.pairwise_cons.mp hb).1 x hx)
    subst e
    rw [perm_uniq anti (List.pairwise_cons.mp ha).2 (List.pairwise_cons.mp hb).2 h.cons_inv]
theorem dataLt_anti {x y : PyData} (ha : PySem.W.alike x y = true) (h1 : PySem.W.dataLt x y = false) (h2 : PySem.W.dataLt y x = false) : PyData.eqv x y = true := by
  have e : PySem.W.keyToks x = PySem.W.keyToks y := PyProof.Rows.lex_total _ _ h1 h2
  cases h : PyData.eqv x y with
  | true => rfl
  | false =>
    have z := (PySem.W.toks_eqv x y ha).2 h [] [.inl 0]
    have z2 := (PySem.W.toks_eqv x y ha).2 h [] []
    rw [e] at z z2
    have z3 : PyProof.Rows.lexLt PyProof.Rows.itemOrd (PySem.W.keyToks y ++ []) (PySem.W.keyToks y ++ [.inl 0]) = true := by
      rw [PySem.W.lex_pre]; rfl
    have z4 : PyProof.Rows.lexLt PyProof.Rows.itemOrd (PySem.W.keyToks y ++ []) (PySem.W.keyToks y ++ []) = false := by
      rw [PySem.W.lex_pre]; rfl
    rw [z3] at z
    rw [z4] at z2
    rw [← z2] at z
    cases z
section
variable {K : PySem.W.Frag} {φ : Addr → Prop} {J : Hp → Prop} {ρ : List (Option D)} {te : TE} {ds : List D}
theorem ev_sortQP (ha : EvD K φ J te ρ (.lst ds)) (hq : okq 64 (.lst ds) = true) (hal : PySem.W.AllAlike (ds.map toPy)) (hso : PySem.W.Sortable (ds.map toPy)) : EvP K φ J (tCB (rSortQ K) (tCons te tNil)) ρ (fun z => ∃ es : List D, z = .lst es ∧ es.Perm ds ∧ es.Pairwise (fun a b => PySem.W.dataLt (toPy b) (toPy a) = false)) := ev_cbD (ea_cons ha ea_nil) fun H vs f r Q q => by
  obtain ⟨v, rfl, r1⟩ := r.one
  obtain ⟨a, vs, rfl, p, rs⟩ := rep_lst r1
  have hl := rs.length
  have hd := dps_of ds vs 63 hq rs
  rw [toPys_map] at hd
  refine ⟨a, vs, ds.map toPy, rfl, p.sq, hd, hal, hso, fun d hd => ?_, fun zs p hp hs hn => ?_⟩
  · obtain ⟨e, he, rfl⟩ := List.mem_map.mp hd
    exact Nat.le_succ_of_le (okq_lay 63 e (List.all_eq_true.mp (show ds.all (okq 63) = true from hq) e he)).2
  · rw [zip_map2] at hp
    obtain ⟨us, hu, rfl⟩ := perm_lift (fun z : V × D => (z.1, toPy z.2)) hp rfl
    have hr : Reps K φ H (us.map (·.2)) (us.map (·.1)) := by
      have hall : ∀ z ∈ us, Rep K φ H z.2 z.1 := fun z hz => reps_zip rs z (hu.mem_iff.mp hz)
      clear hu hp hs
      induction us with
      | nil => exact Reps.nil
      | cons z us ih => exact Reps.cons (hall z List.mem_cons_self) (ih fun u hu => hall u (List.mem_cons_of_mem _ hu))
    rw [List.map_map] at hs ⊢
    refine q _ (.lst (us.map (·.2))) _ (same_new hn) ⟨us.map (·.2), rfl, ?_, ?_⟩ ⟨p, _, rfl, .inl ⟨f.new p hn, .inl upd_same⟩, hr.mono (But.of (same_new hn))⟩
    · have := hu.map Prod.snd
      rw [List.map_snd_zip (by omega)] at this
      exact this
    · rw [List.pairwise_map] at hs ⊢
      exact hs
end

-- import HandS.Comp
-- import HandS.Exc
-- import HandS.ExcOwn
/-! ### an exception that leaves a list comprehension -/
/-- an exception in the air of X, the frame L told -/
def XEL (X : Cx) (L : Addr) (W : WX) (u : Value) (s' : Shared) : Prop :=
  ∃ (a : Addr) (B : Heap) (sI : Shared) (pins : List (Addr × Obj)) (σ : L2.St) (H : Hp) (cls : Value) (d : Option Addr),
    u = .ref a ∧ Inv X pins σ H sI ∧ (∀ b o, sI.heap.get? b = some o → b ∉ frs X.stack → B.get? b = some o) ∧ sI.heap.UpToSlots s'.heap ∧
      Sky B X.stack a (Zc cls d) L s'.heap ∧ H a = none ∧ s'.os = sI.os ∧ AllBare s'.gens ∧ W cls d σ H
/-- what X wants of exceptions takes those that leave its frame L -/
structure TakesL (X : Cx) (L : Addr) (W : WX) : Prop where
  tk : ∀ u s', XEL X L W u s' → X.xe u s'
  st : ∃ e0 outer, X.stack = e0 :: outer ∧ e0.frame = some L
  fr : X.env.frame = some L
theorem takesL {X : Cx} {W : WX} (tk : Takes X W) (hs : X.stack = X.env :: X.outer) (hf : X.env.frame = some X.env.locals) : TakesL X X.env.locals W := ⟨tk, ⟨_, _, hs, hf⟩, hf⟩
section
variable {X : Cx} {pins : List (Addr × Obj)} {σ : L2.St} {H : Hp} {sI s s' : Shared} {B : Heap} {W : WX} {E : XK} {L : Addr}
theorem XEL.of_call (I : Inv X pins σ H s) (hW : ∀ cls d H', E cls d H' → W cls d σ H') {u : Value} (c : L2.CX X.prog X.w X.stack H s E u s') : XEL X L W u s' := by
  obtain ⟨a, B, H', cls, d, rfl, fl, hok, ub, na, os, ag, hE⟩ := c
  obtain ⟨G, g1, g2⟩ := restrict s'.heap fun b => (B.get? b).isSome || decide (b ∈ frs X.stack)
  have st : B.StaysIn s'.heap := fl.1
  have gB : ∀ b o, B.get? b = some o → G.get? b = some o := fun b o e => by
    rw [g1 b (by simp [e])]
    exact st b o e
  have gF : ∀ b, b ∈ frs X.stack → G.get? b = s'.heap.get? b := fun b hb => g1 b (by simp [hb])
  have og : ∀ b o, G.get? b = some o → s'.heap.get? b = some o ∧ ((B.get? b).isSome = true ∨ b ∈ frs X.stack) := fun b o e => by
    cases q : ((B.get? b).isSome || decide (b ∈ frs X.stack)) with
    | false => rw [g2 b q] at e; cases e
    | true =>
      rw [g1 b q] at e
      exact ⟨e, by simpa [Bool.or_eq_true] using q⟩
  refine ⟨a, B, { s with heap := G, gens := s'.gens, drawn := s'.drawn, toks := s'.toks }, pins, σ, H', cls, d, rfl, ?_, fun b o e hb => ?_, Heap.UpToSlots.of_keeps fun b o e => (og b o e).1, .inr (.inl fl), na, os, ag, hW _ _ _ hE⟩
  · refine I.call (ch := []) ⟨fun b o e n hb _ => gB b o (ub.keep b o e n hb), fun b o e n hb _ => ?_, fun b o e n _ => ub.free b o e n, fun b o e _ => ?_, ub.tups, ub.frzs, ub.tbls⟩ (hok.kept gB) ag (fun _ z => nomatch z)
    · obtain ⟨sl, q⟩ := ub.slot b o e hb
      exact ⟨sl, by rw [gF b hb]; exact q⟩
    · by_cases hb : b ∈ frs X.stack
      · obtain ⟨sl, q⟩ := ub.slot b o e hb
        exact ⟨_, by rw [gF b hb]; exact q⟩
      · obtain ⟨o', q⟩ := ub.there b o e hb
        exact ⟨o', gB b o' q⟩
  · obtain ⟨e', h⟩ := og b o e
    rcases h with h | h
    · obtain ⟨o', q⟩ := Option.isSome_iff_exists.mp h
      have z := st b o' q
      rw [e'] at z; cases z
      exact q
    · exact absurd h hb
theorem passAtL {X : Cx} {W : WX} {L : Addr} (tk : TakesL X L W) (σ : L2.St) : PassesAt (L2.CX X.prog X.w) X σ (WE W σ) := fun _ _ _ e s' I c => tk.tk e s' (XEL.of_call I (fun _ _ _ h => h) c)
/-- noting asks for the frame alone -/
theorem note_congr {e : Value} {env env' : Env} (h : env.frame = env'.frame) : noteFrame e env = noteFrame e env' := by
  unfold noteFrame PySem.frameOf
  rw [h]
theorem funFrames_but {B B2 h h2 : Heap} {C : Addr} (k : ∀ b, b ≠ C → h2.get? b = h.get? b) (hB : ∀ b, B.get? b = none → B2.get? b = none) : ∀ {l : List Env}, h.FunFrames B l → C ∉ frs l → h2.FunFrames B2 l
  | [], _, _ => trivial
  | env :: l, ⟨hk, ⟨L, o, hf, hn, ho, hd⟩, hr⟩, hC => by
    have hL : L ∈ frs (env :: l) := List.mem_filterMap.mpr ⟨env, List.mem_cons_self, hf⟩
    refine ⟨hk, ⟨L, o, hf, hB _ hn, ?_, hd⟩, funFrames_but k hB hr fun z => hC ?_⟩
    · rw [k L fun z => hC (z ▸ hL)]
      exact ho
    · obtain ⟨e, he, q⟩ := List.mem_filterMap.mp z
      exact List.mem_filterMap.mpr ⟨e, List.mem_cons_of_mem _ he, q⟩
/-- Sky, noted by the frame -/
theorem Sky.note {M : Model} {A : Around} {E₁ : Value → Shared → Prop} {env : Env} {outer : List Env} {L a : Addr} {Z : Obj → Prop} {Q : Unit → Shared → Prop} (hZ : HandSPX.Steady Z) (hfr : A.frames = some (env :: outer)) (hf : env.frame = some L)
    (x : Sky B (env :: outer) a Z L s.heap) (hQ : ∀ h', HandSPX.HeldZ B (env :: outer) a Z L h' → s.heap.UpToSlots h' → Q () { s with heap := h' }) : wpAny M A (noteFrame (.ref a) env) Q E₁ s := by
  rcases x with ⟨hB, hn, hl, oe, vs, he, hz, hd, h1⟩ | fl | hh
  · exact HandSPX.look_newZ hZ hfr hl hf he hB hn hd h1 hz hQ
  · exact HandSPX.looks_onZ hZ hfr hf fl hQ
  · exact HandSPX.againZ hf hh.2.2.2 (hQ s.heap hh (Heap.UpToSlots.refl _))
end
/-- as compPost, the frame of the block told -/
def compPostF (M : Model) (A : Around) (E : Value → Shared → Prop) (use : Option (Value → Sem Unit)) (Q : Value → Shared → Prop) (acc : Value) (C : Addr) (F : Option Addr) (r : Result) (s' : Shared) : Prop :=
  match r with
  | .ok f => compPost M A E use Q acc C (.ok f) s'
  | .error x => ∃ m, s'.heap.Ns C m ∧ ∀ h', Heap.SameBut C s'.heap h' → ∀ cenv : Env, cenv.locals = C → cenv.frame = F → wpAny M A (passOn "comprehension.variables-let-go" x cenv : Sem Value) (fun _ _ => False) E { s' with heap := h' }
/-- the library's wpAny_comprehension_free, an exception allowed -/
theorem comp_freeF {M : Model} {A : Around} {E : Value → Shared → Prop} {s : Shared} {env : Env} {e : Expr} {scope : Scope} {pos : Pos} {newAcc first : Sem Value} {g : Comprehension} {gs : List Comprehension} {cl : List (Str × Addr)} {use : Option (Value → Sem Unit)}
    {Q : Value → Shared → Prop}
    (hcl : clausesOf e = g :: gs) (hs : ∀ x, foldedSetIterable g.iter env x = pure x) (hclos : closureFor scope env = pure cl)
    (hkind : scope.kind = .function) (hnames : ∀ x ∈ scope.names, x.2 = .local → scope.names.lookup x.1 = some .local)
    (h : wpAny M A first (fun x s₁ => wpAny M A (pyIter x) (fun it s₂ => wpAny M A newAcc (fun acc s₃ =>
      wpAny M A (newFunctionEnv scope env.globals cl [] env.qual none .none (some env)) (fun cenv s₄ =>
        codeAny M A (.compStart e 0 it acc { cenv with scope := relabel scope env }) (compPostF M A E use Q acc cenv.locals cenv.frame) s₄) E s₃) E s₂) E s₁) E s) :
    wpAny M A (comprehension e scope env pos newAcc false first use) Q E s := by
  unfold comprehension
  rw [hclos, hcl]
  refine wpAny_bind (wpAny_mono h (fun x s₁ h₁ => wpAny_bind (wpAny_standAt (wpAny_bind (wpAny_of_eq (hs x) (wpAny_bind (wpAny_holding (wpAny_mono h₁ (fun it s₂ h₂ =>
    wpAny_standIf (wpAny_bind (wpAny_mono h₂ (fun acc s₃ h₃ => wpAny_bind (wpAny_pure (wpAny_bind (wpAny_mono h₃ (fun cenv s₄ h₄ => ?_) fun _ _ h' => h')))) fun _ _ h' => h')))
      fun _ _ h' => h'))))))) fun _ _ h' => h')
  dsimp only
  have hv : ∀ x ∈ (scope.names.filter fun x => (x.2 == .local || x.2 == .cell) && x.1 != (".0" : Str)).reverse, x.2 = .local →
      Env.kindOf { cenv with scope := relabel scope env } x.1 = some .local := fun x hx hl => lookup_relabel_local (hnames x (List.mem_filter.mp (List.mem_reverse.mp hx)).1 hl)
  have hv' : ∀ x ∈ (scope.names.filter fun x => (x.2 == .local || x.2 == .cell) && x.1 != (".0" : Str)).reverse.drop 1 ++ (scope.names.filter fun x => (x.2 == .local || x.2 == .cell) && x.1 != (".0" : Str)).reverse.take 1,
      x.2 = .local → Env.kindOf { cenv with scope := relabel scope env } x.1 = some .local := fun x hx hl => by
    rcases List.mem_append.mp hx with h1 | h1
    · exact hv x (List.mem_of_mem_drop h1) hl
    · exact hv x (List.mem_of_mem_take h1) hl
  refine wpAny_holding (wpAny_bind (wpAny_attempt (wpAny_holding (wpAny_run (codeAny_mono h₄ fun r s' hr => ?_)))))
  cases r with
  | ok f =>
    cases use with
    | none =>
      obtain ⟨m, hn, hr⟩ := hr
      exact wpAny_bind (wpAny_holding (wpAny_comp_letGo (cenv := { cenv with scope := relabel scope env }) hkind _ s' m hv hn fun h' m' _ hs' => wpAny_pure (hr h' hs')))
    | some u =>
      refine wpAny_bind (wpAny_rule (wpAny_bind (wpAny_holding (wpAny_mono hr (fun _ s'' hr' => ?_) fun _ _ h' => h'))))
      obtain ⟨m, hn, hr'⟩ := hr'
      exact wpAny_bind (wpAny_comp_letGo (cenv := { cenv with scope := relabel scope env }) hkind _ s'' m hv' hn fun h' m' _ hs' => wpAny_pure (hr' h' hs'))
  | error x =>
    obtain ⟨m, hn, hr⟩ := hr
    exact wpAny_bind (wpAny_holding (wpAny_comp_letGo (cenv := { cenv with scope := relabel scope env }) hkind _ s' m hv hn fun h' m' _ hs' => wpAny_mono (hr h' hs' _ rfl rfl) (fun _ _ f => f.elim) fun _ _ y => y))
section
variable {X : Cx}
/-- a block's exception, out of the block -/
theorem block_out {pins : List (Addr × Obj)} {σ : L2.St} {H3 : Hp} {s3 : Shared} {scope : Scope} {ce : Env} {fp : List Addr} {E : XK} {L C : Addr} {use : Option (Value → Sem Unit)} {Q : Value → Shared → Prop} {acc u : Value} {s' : Shared}
    (I3 : Inv X pins σ H3 s3) (tk : TakesL X L fun cls d _ H => E cls d H) (hce : ce.frame = X.env.frame) (cL : ce.locals = C) (hC : s3.heap.objs.size = C) (f3 : ∀ b ∈ fp, FpOk X pins H3 b ∧ b < s3.heap.objs.size)
    (x : XEL (X.blk s3 H3 scope ce fp) L (fun cls d _ H => E cls d H) u s') : notedBy (model X.prog X.w) X.A ce (fun e s' => compPostF (model X.prog X.w) X.A X.xe use Q acc C X.env.frame (.error e) s') u s' := by
  obtain ⟨a, B, sI, p, σ', H, cls, d, rfl, IB, nb, up, sky, na, os, ag, hE⟩ := x
  obtain ⟨e0, outer, hst, he0⟩ := tk.st
  have I7 : Inv X pins σ H sI := I3.call' (ch := fp) IB.os IB.base IB.hok IB.bare fun b hb => ⟨(f3 b hb).1.2.2.2.1, (f3 b hb).1.2.1, (f3 b hb).1.2.2.2.2.1, (f3 b hb).1.2.2.2.2.2⟩
  have nC : H C = none := by
    have z : H ce.locals = none := IB.free
    rw [cL] at z
    exact z
  have fC : FpOk X pins H C := I3.fpOk (Nat.le_of_eq hC) nC
  obtain ⟨m, hn, _⟩ := IB.loc
  have hn : sI.heap.Ns ce.locals m := hn
  rw [cL] at hn
  obtain ⟨oC, es, ep, hoC, hdC, hsk, hfd⟩ := hn
  have hCs : C ∉ frs X.stack := fun z => by
    rcases List.mem_cons.mp (I3.stkSub C z) with e | e
    · exact fC.2.1 e
    · exact fC.2.2.1 e
  have hBC : B.get? C = some oC := nb C oC hoC hCs
  have hfr : X.A.frames = some (e0 :: outer) := by rw [I3.ok.frames, hst]
  unfold notedBy
  rw [note_congr (env' := e0) (by rw [hce, tk.fr, he0])]
  have sky : Sky B (e0 :: outer) a (Zc cls d) L s'.heap := by
    have z : Sky B X.stack a (Zc cls d) L s'.heap := sky
    rw [hst] at z
    exact z
  refine Sky.note Zc.steady hfr he0 sky fun h1 hh up1 => ?_
  refine ⟨m, ⟨oC, es, ep, hh.1 _ _ hBC, hdC, hsk, hfd⟩, fun h2 sb cenv _ hcf => ?_⟩
  obtain ⟨k1, k2, k3, oe, vs, T, oT, ts, he, hz, hd, h1', hnT, hTe, hT, hdT, hfl⟩ := hh
  have aC : a ≠ C := fun z => by
    rw [z, hBC] at k2
    cases k2
  have TC : T ≠ C := fun z => by
    rw [z, hBC] at hnT
    cases hnT
  have at2 : ∀ b, b ≠ C → h2.get? b = h1.get? b := sb.2
  obtain ⟨B2, hB2⟩ : ∃ B2, B2 = PySem.W.hideAll B [C] := ⟨_, rfl⟩
  have b2n : ∀ b, B.get? b = none → B2.get? b = none := fun b e => by
    rw [hB2]
    cases q : (PySem.W.hideAll B [C]).get? b with
    | none => rfl
    | some o =>
      rw [PySem.W.of_hideAll _ q] at e
      cases e
  have b2C : B2.get? C = none := by
    rw [hB2]
    exact PySem.W.hideAll_none _ List.mem_cons_self
  have b2g : ∀ b o, b ≠ C → B.get? b = some o → B2.get? b = some o := fun b o h e => by
    rw [hB2]
    exact PySem.W.hideAll_get _ e fun z => h (List.mem_singleton.mp z)
  have b2o : ∀ b o, B2.get? b = some o → B.get? b = some o ∧ b ≠ C := fun b o e => ⟨by rw [hB2] at e; exact PySem.W.of_hideAll _ e, fun z => by rw [z, b2C] at e; cases e⟩
  have s2 : B2.StaysIn h2 := fun b o e => by
    rw [at2 b (b2o b o e).2]
    exact k1 b o (b2o b o e).1
  have ff2 : h2.FunFrames B2 (e0 :: outer) := funFrames_but at2 b2n k3 (by rw [← hst]; exact hCs)
  have he2 : h2.get? a = some oe := by
    rw [at2 a aC]
    exact he
  have tr2 : HandSPX.TracedZ h2 B2 a (Zc cls d) (rawInt L) := ⟨oe, vs, T, oT, ts, he2, hz, hd, h1', b2n _ hnT, hTe, by rw [at2 T TC]; exact hT, hdT, hfl⟩
  unfold PySem.passOn
  refine wpAny_bind (wpAny_field he2 hd h1' ?_)
  rw [if_neg (show ¬ ((Value.ref T == Value.none) = true) from by simp)]
  have fin : wpAny (model X.prog X.w) X.A (setFlight (.ref a) cenv.frame) (fun _ s4 => wpAny (model X.prog X.w) X.A (throw (.ref a) : Sem Value) (fun _ _ => False) X.xe s4) X.xe { s' with heap := h2 } := by
    rw [hcf, tk.fr]
    refine HandSPX.setFlight_anyZ s2 ff2 tr2 fun h3 s3' ff3 tr3 up3 => wpAny_throw (tk.tk _ _ ?_)
    obtain ⟨G, g1, g2⟩ := restrict h3 fun b => (B2.get? b).isSome || decide (b ∈ frs X.stack)
    have gB : ∀ b o, B2.get? b = some o → G.get? b = some o := fun b o e => by
      rw [g1 b (by simp [e])]
      exact s3' b o e
    have gF : ∀ b, b ∈ frs X.stack → G.get? b = h3.get? b := fun b hb => g1 b (by simp [hb])
    have og : ∀ b o, G.get? b = some o → h3.get? b = some o ∧ ((B2.get? b).isSome = true ∨ b ∈ frs X.stack) := fun b o e => by
      cases q : ((B2.get? b).isSome || decide (b ∈ frs X.stack)) with
      | false => rw [g2 b q] at e; cases e
      | true =>
        rw [g1 b q] at e
        exact ⟨e, by simpa [Bool.or_eq_true] using q⟩
    have slot : ∀ b o, sI.heap.get? b = some o → b ∈ frs X.stack → ∃ sl, G.get? b = some { o with slots := sl } := fun b o e hb => by
      obtain ⟨_, o', e', hnf⟩ := I7.stack.mem hb
      rw [e] at e'; cases e'
      obtain ⟨sl1, q1⟩ := up b o e hnf
      obtain ⟨sl2, q2⟩ := up1 b _ q1 hnf
      have q2' : h2.get? b = _ := (at2 b fun z => hCs (z ▸ hb)).trans q2
      obtain ⟨sl3, q3⟩ := up3 b _ q2' hnf
      exact ⟨sl3, by rw [gF b hb]; exact q3⟩
    refine ⟨a, B2, { sI with heap := G, gens := s'.gens, drawn := s'.drawn, toks := s'.toks }, pins, σ, H, cls, d, rfl, ?_, fun b o e hb => ?_, Heap.UpToSlots.of_keeps fun b o e => (og b o e).1, .inr (.inr ⟨s3', b2n _ k2, by rw [hst]; exact ff3, tr3⟩), na, os, ag, hE⟩
    · refine I7.call (ch := [C]) ⟨fun b o e n hb hc => gB b o (b2g b o (fun z => hc (by rw [z]; exact List.mem_cons_self)) (nb b o e hb)), fun b o e n hb _ => slot b o e hb, fun b o e n _ => n, fun b o e hc => ?_, fun _ _ e => e, fun _ _ _ e => e, fun b ps e => ⟨#[], by rw [e]; simp⟩⟩ ?_ ag fun b z => ?_
      · by_cases hb : b ∈ frs X.stack
        · obtain ⟨sl, q⟩ := slot b o e hb
          exact ⟨_, q⟩
        · exact ⟨o, gB b o (b2g b o (fun z => hc (by rw [z]; exact List.mem_cons_self)) (nb b o e hb))⟩
      · exact fun b o q => (I7.hok b o q).stay (fun c u hc r => gB c u (b2g c u (fun z => by
          rw [z] at hc
          rcases hc with hc | hc
          · rw [← hc, nC] at q; cases q
          · rw [nC] at hc; cases hc) (nb c u r fun hm => by
          have z := I7.stkFree c hm
          rcases hc with hc | hc
          · rw [hc, q] at z; cases z
          · rw [hc] at z; cases z))) (fun _ r => r) fun _ _ r => r
      · rw [List.mem_singleton.mp z]
        exact ⟨fC.2.2.2.1, fC.2.1, fC.2.2.2.2.1, fC.2.2.2.2.2⟩
    · obtain ⟨e', h⟩ := og b o e
      rcases h with h | h
      · obtain ⟨o', q⟩ := Option.isSome_iff_exists.mp h
        have z := s3' b o' q
        rw [e'] at z; cases z
        exact q
      · exact absurd h hb
  first
    | exact wpAny_bind (wpAny_pure (wpAny_bind fin))
    | exact wpAny_bind fin
end
/-- HandS's lc_core, an exception of the element allowed -/
theorem lc_coreX {X : Cx} {pins : List (Addr × Obj)} {s : Shared} {σ : L2.St} {H : Hp} {Q : VK} {elt tg iter : Expr} {ifs : List Expr} {scope : Scope} {own : List (Str × Nat)} {pos pos' : Pos} {wi : TI} {g : TG} {tt : TT} {te : TE} {use : Option (Value → Sem Unit)} {Qf : Value → Shared → Prop} {E : XK} {L : Addr}
    (tk : TakesL X L fun cls d _ H => E cls d H) (hc : X.calm = true) (hN : X.N.Nodup) (I : Inv X pins σ H s) (hi : PI X tg iter wi) (ok : BlkOk X.N X.env.scope scope own)
    (hg : ∀ (s : Shared) (H : Hp) (C : Addr) (cl : List (Str × Addr)) (fp : List Addr), PG (X.blk s H scope (compEnvC scope cl C X.env) fp) tg g) (ht : ∀ (s : Shared) (H : Hp) (C : Addr) (cl : List (Str × Addr)) (fp : List Addr), PTs (X.blk s H scope (compEnvC scope cl C X.env) fp) ifs tt)
    (he : ∀ (s : Shared) (H : Hp) (C : Addr) (cl : List (Str × Addr)) (fp : List Addr) (xe : Value → Shared → Prop), TakesL ((X.blk s H scope (compEnvC scope cl C X.env) fp).wish xe) L (fun cls d _ H => E cls d H) → PE ((X.blk s H scope (compEnvC scope cl C X.env) fp).wish xe) elt te) (hs : ∀ x, foldedSetIterable iter X.env x = pure x)
    (h : tLc wi g tt te (own.map (·.2)) σ H Q)
    (hRR : ∀ D C s' m H', Inv X pins σ H' s' → Q (.ref D) H' → s'.heap.Ns C m → FpOk X pins H' C → compPost (model X.prog X.w) X.A X.xe use Qf (.ref D) C (.ok .next) s') :
    wpAny (model X.prog X.w) X.A (comprehension (.ListComp elt [⟨tg, iter, ifs, 0⟩] scope pos) scope X.env pos' (newList []) false (eval iter X.env) use) Qf X.xe s := by
  have hfree : ∀ y ∈ scope.names, y.2 = .free → ∃ c, X.env.cells.lookup y.1 = some c := fun y hy e => by
    rcases ok.free y hy e with k | k
    · exact I.ok.has _ (.inl k)
    · exact I.ok.has _ (.inr k)
  refine comp_freeF (use := use) rfl hs (closure_ok hfree) ok.kind (fun y hy e => by rw [ok.uniq y hy, e])
    (thn (hi.run pins s σ H _ I h) fun xv s1 hx => thn hx fun itv s2 h2 => ?_)
  obtain ⟨it, fp, tn, J, H2, e, I2, T, st2, f2, q⟩ := h2
  subst e
  refine wpAny_newObj_type (newEnv_comp ?_) (by show 0 ≤ sizeLine; decide)
  generalize hD : s2.heap.objs.size = D
  have hDn : H2 D = none := I2.hok.fresh (Nat.le_of_eq hD)
  obtain ⟨W, ⟨m0, w0⟩, turn⟩ := q D hDn
  generalize hs3 : ({ s2 with heap := s2.heap.push { cls := .type "list", data := .seq ([] : List Value).toArray } } : Shared) = s3
  have I3 : Inv X pins σ (upd H2 D (.lst [])) s3 := by
    rw [← hs3]
    refine I2.laid (t' := s2.toks) (fun b o e => Heap.get?_push_of_some _ e) (Nat.le_of_eq hD) ⟨Nat.zero_le _, [], 0, .nil, ?_⟩
    rw [← hD]
    exact Heap.get?_push_size _ rfl
  have h3 : s3.heap = s2.heap.push { cls := .type "list", data := .seq ([] : List Value).toArray } := by rw [← hs3]
  have sz : ∀ b ∈ fp, b < s2.heap.objs.size := fun b hb => by
    obtain ⟨o, e, _⟩ := T.obj _ _ st2 b hb
    exact Heap.lt_size e
  have f3 : ∀ b ∈ fp, FpOk X pins (upd H2 D (.lst [])) b ∧ b < s3.heap.objs.size := fun b hb => by
    have hlt := sz b hb
    refine ⟨⟨?_, (f2 b hb).2⟩, by rw [h3, Heap.size_push]; exact Nat.lt_succ_of_lt hlt⟩
    rw [upd_ne (by rw [← hD]; exact Nat.ne_of_lt hlt)]
    exact (f2 b hb).1
  have st3 : tn 0 s3.heap := T.keep _ _ _ st2 fun b _ o e => by rw [h3]; exact Heap.get?_push_of_some _ e
  have I4 := block_start I3 ok hN f3
  have pg := hg s3 (upd H2 D (.lst [])) s3.heap.objs.size (cellsFrom (s3.heap.objs.size + 1) scope.names (cloFrom X.env.cells scope.names [])) fp
  have pt := ht s3 (upd H2 D (.lst [])) s3.heap.objs.size (cellsFrom (s3.heap.objs.size + 1) scope.names (cloFrom X.env.cells scope.names [])) fp
  have pe := he s3 (upd H2 D (.lst [])) s3.heap.objs.size (cellsFrom (s3.heap.objs.size + 1) scope.names (cloFrom X.env.cells scope.names [])) fp
  show codeAny _ _ (.compStart (.ListComp elt [⟨tg, iter, ifs, 0⟩] scope pos) 0 (.ref it) (.ref D) (compEnvC scope (cellsFrom (s3.heap.objs.size + 1) scope.names (cloFrom X.env.cells scope.names [])) s3.heap.objs.size X.env)) (compPostF (model X.prog X.w) X.A X.xe use Qf (.ref D) s3.heap.objs.size X.env.frame) { s3 with heap := pushCells (s3.heap.push { cls := .type "dict", data := .dict #[] }) scope.names }
  have nfp : ∀ b ∈ fp, (upd H2 D (.lst [])) b = none := fun b hb => (f3 b hb).1.1
  generalize hce : compEnvC scope (cellsFrom (s3.heap.objs.size + 1) scope.names (cloFrom X.env.cells scope.names [])) s3.heap.objs.size X.env = ce at I4 pg pt pe ⊢
  have cL : ce.locals = s3.heap.objs.size := by subst hce; rfl
  have cF : ce.frame = X.env.frame := by subst hce; rfl
  generalize hH3 : upd H2 D (.lst []) = H3 at I3 I4 pg pt pe w0 nfp f3
  generalize hs4 : ({ s3 with heap := pushCells (s3.heap.push { cls := .type "dict", data := .dict #[] }) scope.names } : Shared) = s4 at I4 ⊢
  have st4 : tn 0 s4.heap := T.keep _ _ _ st3 fun b _ o e => by rw [← hs4]; exact pushCells_keeps _ _ _ _ (Heap.get?_push_of_some _ e)
  have stat : ∀ {σ' : L2.St} {H' : Hp} {s' : Shared}, Inv (X.blk s3 H3 scope ce fp) [] σ' H' s' → (∀ b ∈ fp, H' b = none) → ∀ b ∈ fp, FpOk (X.blk s3 H3 scope ce fp) [] H' b := fun {σ' H' s'} I' hn b hb =>
    ⟨hn b hb, (I'.ok.exf b hb).1, I'.ok.exfs b hb, .inl hb, fun x c e => (I'.ok.exf b hb).2 x c e, fun p hp => absurd (show p ∈ ([] : List (Addr × Obj)) ++ [] from hp) (by simp)⟩
  have pe' := pe (XEL (X.blk s3 H3 scope ce fp) L fun cls d _ H => E cls d H) ⟨fun u s' ⟨a, B, sI, p, σ', H, cls, d, e, IB, z⟩ => ⟨a, B, sI, p, σ', H, cls, d, e, IB.unwish, z⟩, tk.st, cF.trans tk.fr⟩
  have loop : codeAny (model X.prog X.w) X.A (.compLoop (.ListComp elt [⟨tg, iter, ifs, 0⟩] scope pos) 0 (.ref it) (.ref D) ce) (compPostF (model X.prog X.w) X.A X.xe use Qf (.ref D) s3.heap.objs.size X.env.frame) s4 := by
    refine compLoop_any (fun n s' => ∃ i H', Inv (X.blk s3 H3 scope ce fp) [] (wipe σ (own.map (·.2))) H' s' ∧ tn i s'.heap ∧ (∀ b ∈ fp, H' b = none) ∧ W i n H') ?_ m0 ⟨0, H3, I4, st4, nfp, w0⟩
    rintro n s5 ⟨i, H5, I5, st5, n5, w5⟩
    rcases turn i n H5 w5 with ⟨stop, qq⟩ | ⟨go, Nx, hNx, step⟩
    · have td := T.done (X.blk s3 H3 scope ce fp) rfl rfl rfl hc i [] s5 _ H5 (fun _ _ => False) I5 (stat I5 n5) st5 stop
      refine thnF td fun r s6 ⟨hr, I6⟩ => ?_
      subst hr
      have I7 : Inv X pins σ H5 s6 := I3.call' (ch := fp) I6.os I6.base I6.hok I6.bare fun b hb => ⟨(f3 b hb).1.2.2.2.1, (f3 b hb).1.2.1, (f3 b hb).1.2.2.2.2.1, (f3 b hb).1.2.2.2.2.2⟩
      have nC : H5 s3.heap.objs.size = none := by
        have z : H5 ce.locals = none := I6.free
        rw [cL] at z
        exact z
      obtain ⟨m, hn, _⟩ := I6.loc
      have hn : s6.heap.Ns ce.locals m := hn
      rw [cL] at hn
      exact hRR D s3.heap.objs.size s6 m H5 I7 qq hn (I3.fpOk (Nat.le_refl _) nC)
    · have ti := T.item (X.blk s3 H3 scope ce fp) rfl rfl rfl hc i [] s5 _ H5 (fun _ _ => False) I5 (stat I5 n5) st5 go
      refine thnF ti fun r s6 ⟨u, hr, h6⟩ => ?_
      subst hr
      refine thnF h6 fun _ s7 ⟨x, H7, I7, r7, y7, st7, n7⟩ => ?_
      have I7' := I7.pinned (stat I7 n7) (T.obj _ _ st7)
      refine thnF (pg.run _ s7 _ H7 x u _ I7' r7 (step x H7 y7)) fun _ s8 ⟨σ8, H8, I8, hw8, q8⟩ => ?_
      refine thnF (pt.run _ s8 σ8 H8 _ I8 q8) fun b s9 ⟨H9, I9, q9⟩ => ?_
      have fin : ∀ {s' : Shared} {H' : Hp}, Inv (X.blk s3 H3 scope ce fp) ([] ++ pinsAt fp s7.heap) σ8 H' s' → Nx H' → ∃ m, m < n ∧ ∃ i H', Inv (X.blk s3 H3 scope ce fp) [] (wipe σ (own.map (·.2))) H' s' ∧ tn i s'.heap ∧ (∀ b ∈ fp, H' b = none) ∧ W i m H' := fun {s' H'} I' nx => by
        obtain ⟨m', hm, w'⟩ := hNx H' nx
        have pin' : ∀ b ∈ fp, ∀ o, s7.heap.get? b = some o → s'.heap.get? b = some o ∧ H' b = none := fun b hb o e =>
          let z := I'.pin (b, o) (List.mem_append_right _ (List.mem_append_right _ (mem_pinsAt hb e)))
          ⟨z.1, z.2.1⟩
        have hl : (wipe σ (own.map (·.2))).length = σ8.length := by rw [← hw8, wipe_length]
        refine ⟨m', hm, i + 1, H', (I'.unpinned (pins := [])).weak hl (fun j v e => ?_), T.keep _ _ _ st7 fun b hb o e => (pin' b hb o e).1, fun b hb => ?_, w'⟩
        · rw [← hw8] at e
          exact (wipe_some e).1
        · obtain ⟨o, e, _⟩ := T.obj _ _ st7 b hb
          exact (pin' b hb o e).2
      cases b with
      | false =>
        simp only [Bool.false_eq_true, if_false] at q9 ⊢
        exact fin I9 q9
      | true =>
        simp only [if_true] at q9 ⊢
        refine wpAny_mono (pe'.run _ s9 σ8 H9 _ (I9.wish _) q9) (fun z s10 ⟨yv, H10, I10, r10, acc, hD10, hz10, nx⟩ => ?_) fun u s10 hx => block_out I3 tk cF cL rfl f3 hx
        exact app_ok (X := X.blk s3 H3 scope ce fp) I10.unwish hD10 hz10 r10 fun s11 I11 => fin I11 nx
  exact codeAny_compStart_list loop (T.self X.A 0 _ _ _ st4 loop)
section
variable {X : Cx}
/-- as a value -/
theorem pe_lcX {elt tg iter : Expr} {ifs : List Expr} {scope : Scope} {own : List (Str × Nat)} {pos : Pos} {wi : TI} {g : TG} {tt : TT} {te : TE} {E : XK} {L : Addr} (tk : TakesL X L fun cls d _ H => E cls d H) (hc : X.calm = true) (hN : X.N.Nodup) (hi : PI X tg iter wi) (ok : BlkOk X.N X.env.scope scope own)
    (hg : ∀ (s : Shared) (H : Hp) (C : Addr) (cl : List (Str × Addr)) (fp : List Addr), PG (X.blk s H scope (compEnvC scope cl C X.env) fp) tg g) (ht : ∀ (s : Shared) (H : Hp) (C : Addr) (cl : List (Str × Addr)) (fp : List Addr), PTs (X.blk s H scope (compEnvC scope cl C X.env) fp) ifs tt)
    (he : ∀ (s : Shared) (H : Hp) (C : Addr) (cl : List (Str × Addr)) (fp : List Addr) (xe : Value → Shared → Prop), TakesL ((X.blk s H scope (compEnvC scope cl C X.env) fp).wish xe) L (fun cls d _ H => E cls d H) → PE ((X.blk s H scope (compEnvC scope cl C X.env) fp).wish xe) elt te) (hs : ∀ x, foldedSetIterable iter X.env x = pure x := by intro _; rfl) :
    PE X (.ListComp elt [⟨tg, iter, ifs, 0⟩] scope pos) (tLc wi g tt te (own.map (·.2))) := by
  refine ⟨fun pins s σ H Q I h => ?_⟩
  rw [eval_ListComp]
  refine lc_coreX tk hc hN I hi ok hg ht he hs h fun D C s' m H' I' q hn f => ⟨m, hn, fun h'' sb => ?_⟩
  obtain ⟨f0, f1, f2, f3, f4, f5⟩ := f
  exact ⟨.ref D, H', I'.turned (t' := s'.toks) (fun b o hb e => (sb.2 b hb).trans e) f0 f1 f3 f4 f5, rfl, q⟩
/-- name = [..] on one line, the name a local -/
theorem ps_setLcX {i : Nat} {y : Str} {py : Pos} {elt tg iter : Expr} {ifs : List Expr} {scope : Scope} {own : List (Str × Nat)} {pos spos : Pos} {wi : TI} {g : TG} {tt : TT} {te : TE} {E : XK} {L : Addr} (tk : TakesL X L fun cls d _ H => E cls d H) (hc : X.calm = true) (hN : X.N.Nodup) (hy : X.N[i]? = some y) (hyl : X.env.scope.names.lookup y = some .local)
    (hsw : swapsWith (.ListComp elt [⟨tg, iter, ifs, 0⟩] scope pos) (some (.Name y py)) spos.line X.env = pure true) (hi : PI X tg iter wi) (ok : BlkOk X.N X.env.scope scope own)
    (hg : ∀ (s : Shared) (H : Hp) (C : Addr) (cl : List (Str × Addr)) (fp : List Addr), PG (X.blk s H scope (compEnvC scope cl C X.env) fp) tg g) (ht : ∀ (s : Shared) (H : Hp) (C : Addr) (cl : List (Str × Addr)) (fp : List Addr), PTs (X.blk s H scope (compEnvC scope cl C X.env) fp) ifs tt)
    (he : ∀ (s : Shared) (H : Hp) (C : Addr) (cl : List (Str × Addr)) (fp : List Addr) (xe : Value → Shared → Prop), TakesL ((X.blk s H scope (compEnvC scope cl C X.env) fp).wish xe) L (fun cls d _ H => E cls d H) → PE ((X.blk s H scope (compEnvC scope cl C X.env) fp).wish xe) elt te) (hs : ∀ x, foldedSetIterable iter X.env x = pure x := by intro _; rfl) :
    PS X (.Assign [.Name y py] (.ListComp elt [⟨tg, iter, ifs, 0⟩] scope pos) spos) (tAsg (tLc wi g tt te (own.map (·.2))) (gName i)) := by
  refine ⟨fun pins s σ H D I h => ?_⟩
  rw [exec_Assign_Name_used _ _ _ _ hsw]
  refine wpAny_bind (wpAny_standAt (wpAny_bind ?_))
  show wpAny _ X.A (do let _ ← comprehension (.ListComp elt [⟨tg, iter, ifs, 0⟩] scope pos) scope X.env (firstIterPos [⟨tg, iter, ifs, 0⟩] pos) (newList []) false (eval iter X.env) (some (assign (.Name y py) X.env))) _ _ s
  have h : tLc wi g tt te (own.map (·.2)) σ H (fun x H1 => gName i x σ H1 D.nx) := h
  refine wpAny_bind (thn (lc_coreX (Qf := fun _ s' => SP X pins D .next s') tk hc hN I hi ok hg ht he hs h fun L C s' m H' I' q hn f => ?_) fun _ s' hq => wpAny_pure (wpAny_pure hq))
  show wpAny _ _ (assign (.Name y py) X.env (.ref L)) _ _ _
  refine wpAny_assign_Name (store_ok2 (v := V.ref L) I' hN hy (.inl hyl) rfl (fun s2 I2 ⟨a, sb, ha⟩ => ?_) (.inr hyl))
  obtain ⟨f0, f1, f2, f3, f4, f5⟩ := f
  have haC : C ≠ a := by
    rcases ha with z | z
    · rw [z]; exact f1
    · exact fun e => f4 y a z e.symm
  refine ⟨m, hn.sameBut sb haC, fun h3 sb3 => ?_⟩
  exact ⟨_, H', I2.turned (t' := s2.toks) (fun b o hb e => (sb3.2 b hb).trans e) f0 f1 f3 f4 f5, q⟩
end
/-! ### .. as a reading: the first element that raises -/
abbrev XW (E : XK) : WX := fun cls d _ H => E cls d H
section
variable {K : PySem.W.Frag} {φ φ' : Addr → Prop} {J J' : Hp → Prop} {H H' H1 : Hp} {ρ ρ' : List (Option D)} {σ : L2.St} {E : XK} {c : Addr}
theorem rs_lc {wi : TI} {te : TE} {k : Nat} {pre post : List D} {d : D} {f : D → D} (hi : IterD K φ J wi ρ (pre ++ d :: post)) (hl : pre.length ≤ 1000000)
    (he : ∀ e ∈ pre, ∀ φ' J', Ext φ J φ' J' → EvD K φ' J' te ((wipeR ρ [k]).set k (some e)) (f e))
    (hr : ∀ φ' J', Ext φ J φ' J' → Rs K φ' J' te ((wipeR ρ [k]).set k (some d)) (XW E) c) : Rs K φ J (tLc wi (gName k) tYes te [k]) ρ (XW E) c := fun σ H A kx Q => by
  refine hi σ H A _ fun J0 ds H1 b1 A1 pd w => ?_
  subst pd
  intro D0 hD
  have neP : ∀ p s ns, Pooled φ J p s ns → p ≠ D0 := fun p s ns hp => by
    obtain ⟨a1, a2, a3, a4, h1, _⟩ := hp.ok _ A1.j
    exact ne_of_none h1 hD
  let φ' : Addr → Prop := fun a => φ a ∧ a ≠ D0
  have ext : ∀ acc : List V, Ext φ J φ' (fun H => J H ∧ H D0 = some (.lst acc)) := fun acc => ⟨fun _ h => h.1, fun p s ns hp => ⟨fun z => hp.np z.1, hp.ne, fun H h => hp.ok H h.1, fun H H' h k o => ⟨hp.st H H' h.1 k o, k _ _ (neP p s ns hp).symm h.2⟩⟩, fun a p h => ⟨p, fun e => h H1 A1.j (by rw [e]; exact hD)⟩⟩
  have mono : ∀ (acc : List V) (H2 : Hp), (∀ a, H1 a ≠ none → H2 a ≠ none) → H2 D0 ≠ none → Mo H2 (fun H => J H ∧ H D0 = some (.lst acc)) := fun acc H2 s h => (A1.mono.up s).and (Mo.at h)
  refine ⟨fun i m H2 => m = pre.length + 1 - i ∧ i ≤ pre.length ∧ But φ H1 H2 ∧ ∃ acc, Reps K φ' H2 ((pre.take i).map f) acc ∧ At K φ' (fun H => J H ∧ H D0 = some (.lst acc)) (wipeR ρ [k]) (L2.wipe σ [k]) H2,
    ⟨pre.length + 1, rfl, Nat.zero_le _, But.of (same_new hD), [], Reps.nil, ?_⟩, ?_⟩
  · have A2 := A1.newLive (o := .lst []) (J' := fun H => J H ∧ H D0 = some (.lst [])) hD ⟨A1.mono _ _ (fun a o _ e => same_new hD a o e) A1.j, upd_same⟩ (mono [] _ upd_tr (by rw [upd_same]; exact fun z => by cases z))
    exact ⟨A2.sr.wipe [k], A2.fr, A2.j, A2.mono⟩
  · rintro i m H2 ⟨rfl, hi, b2, acc, rs, A2⟩
    have upw : Up φ φ' H1 H2 := fun a o p e => ⟨⟨p, ne_of_none e hD⟩, b2.keep a o p e⟩
    obtain ⟨wg, _⟩ := w φ' i H2 upw A2.fr
    by_cases hlt : i < pre.length
    · have hd : (pre ++ d :: post)[i]? = some pre[i] := by rw [List.getElem?_append_left hlt]; exact List.getElem?_eq_getElem hlt
      obtain ⟨go, yl⟩ := wg _ hd
      refine .inr ⟨go, fun H3 => But φ H1 H3 ∧ ∃ acc, Reps K φ' H3 ((pre.take (i + 1)).map f) acc ∧ At K φ' (fun H => J H ∧ H D0 = some (.lst acc)) (wipeR ρ [k]) (L2.wipe σ [k]) H3, ?_, ?_⟩
      · rintro H3 ⟨b3, acc3, r3, A3⟩
        exact ⟨pre.length + 1 - (i + 1), by omega, rfl, hlt, b3, acc3, r3, A3⟩
      · intro x H3 hy
        obtain ⟨s3, r3⟩ := yl x H3 hy
        have A3 := A2.same s3
        have rs3 := rs.mono (But.of (φ := φ') s3)
        have b3 : But φ H1 H3 := b2.trans (But.of s3)
        have hmem : pre[i] ∈ pre := List.getElem_mem hlt
        have tk : (pre.take (i + 1)).map f = (pre.take i).map f ++ [f pre[i]] := by rw [List.take_add_one, List.getElem?_eq_getElem hlt, List.map_append]; rfl
        refine ⟨(wipe_set (o := some x) (show k ∈ [k] by simp)).trans (wipe_wipe [k]), ?_⟩
        show tYes _ _ _
        refine he _ hmem φ' _ (ext acc) _ H3 (A3.set k r3) _ fun v y H6 b6 A6 pv r6 => ?_
        subst pv
        have rl := rs3.mono b6
        have nD : ¬ φ' D0 := fun z => z.2 rfl
        refine ⟨acc, A6.j.2, ?_, ?_, acc ++ [v], ?_, ?_⟩
        · rw [rl.length, List.length_map, List.length_take]
          exact szlt (by omega)
        · refine ⟨fun a o p e => ?_, fun a h => upd_tr a (b6.tr a (b3.tr a h))⟩
          have ne := ne_of_none e hD
          rw [upd_ne ne]
          exact b6.keep a o ⟨p, ne⟩ (b3.keep a o p e)
        · rw [tk]
          exact (rl.append (Reps.cons r6 Reps.nil)).mono ((But.refl φ' H6).upd nD)
        · have A6' : At K φ' (fun H => J H ∧ H D0 = some (.lst acc)) (wipeR ρ [k]) (L2.wipe σ [k]) H6 := ⟨A3.sr.up (Up.of b6), A6.fr, A6.j, A6.mono⟩
          have jj : J (upd H6 D0 (.lst (acc ++ [v]))) := A1.mono H6 _ (fun a o h e => by
            rw [upd_ne (show a ≠ D0 from fun z => h (by rw [z]; exact hD))]
            exact e) A6.j.1
          exact A6'.upd nD ⟨jj, upd_same⟩ (mono _ _ (fun a h => upd_tr a (b6.tr a (b3.tr a h))) (by rw [upd_same]; exact fun z => by cases z))
    · have e : i = pre.length := by omega
      subst e
      have hd : (pre ++ d :: post)[pre.length]? = some d := by rw [List.getElem?_append_right (Nat.le_refl _), Nat.sub_self]; rfl
      obtain ⟨go, yl⟩ := wg _ hd
      refine .inr ⟨go, fun _ => False, fun _ z => z.elim, ?_⟩
      intro x H3 hy
      obtain ⟨s3, r3⟩ := yl x H3 hy
      have A3 := A2.same s3
      have b3 : But φ H1 H3 := b2.trans (But.of s3)
      refine ⟨(wipe_set (o := some x) (show k ∈ [k] by simp)).trans (wipe_wipe [k]), ?_⟩
      show tYes _ _ _
      refine hr φ' _ (ext acc) _ H3 (A3.set k r3) (fun H' b' A' => ?_) _
      have bb : But φ H1 H' := ⟨fun a o p e => b'.keep a o ⟨p, ne_of_none e hD⟩ (b3.keep a o p e), fun a h => b'.tr a (b3.tr a h)⟩
      exact kx H' (b1.trans bb) ⟨A1.sr.up (Up.of bb), A'.fr.fst, A'.j.1, A1.mono.up bb.tr⟩
end

-- import HandS.Text
-- import HandS.Steps
-- import HandS.StrMore
-- import HandS.FStr
-- import HandS.Style
-- import HandS.TupLe
/-! ### texts -/
open TL
def rSplit : V → List V → Hp → VK → Prop := fun x xs H Q => ∃ a b, x = .str a ∧ xs = [.str b] ∧ (b.length == 0) = false ∧ a.length + 2 ≤ sizeLine ∧ rNewStrs (Txt.split a b) H Q
theorem mu_split {X : Cx} : MtR X "str.split" rSplit := mt_split
def rJoin (K : PySem.W.Frag) : V → List V → Hp → VK → Prop := fun x xs H Q => ∃ a p, ∃ ys : List Str, x = .str a ∧ xs = [.ref p] ∧ (SqL K H p (ys.map V.str) ∨ SqT K H p (ys.map V.str)) ∧ (ys.map (·.length)).sum + ys.length * a.length ≤ 16777216 ∧ Q (.str (Txt.join a ys)) H
theorem mu_join {X : Cx} : MtR X "str.join" (rJoin X.K) := mt_join
theorem kmu_join {X : Cx} {K : PySem.W.Frag} (h : X.K = K) : MtR X "str.join" (rJoin K) := h ▸ mt_join
def rStarts : V → List V → Hp → VK → Prop := fun x xs H Q => ∃ a b, x = .str a ∧ xs = [.str b] ∧ Q (.bl (Txt.startswith a b)) H
theorem mu_startswith {X : Cx} : MtR X "str.startswith" rStarts := mt_startswith
def rRemP : V → List V → Hp → VK → Prop := fun x xs H Q => ∃ a b, x = .str a ∧ xs = [.str b] ∧ a.length ≤ sizeLine ∧ Q (.str (Txt.removeprefix a b)) H
theorem mu_removeprefix {X : Cx} : MtR X "str.removeprefix" rRemP := mt_removeprefix
def rIntS : List V → Hp → VK → Prop := fun xs H Q => ∃ a n, xs = [.str a] ∧ PySem.intText? a = some n ∧ a.length ≤ 640 ∧ Q (.int n) H
theorem c_intS {X : Cx} : CallR X (.type "int") rIntS := call_int_str
theorem op_addS {X : Cx} : OpR X (binaryOp .Add) rAddS := op_add_str
section
variable {K : PySem.W.Frag} {φ φ' : Addr → Prop} {J J' : Hp → Prop} {H H' H1 : Hp} {ρ ρ' : List (Option D)} {σ : L2.St} {te ta tb to : TE} {s t : Str} {i : Int}
theorem reps_strs : ∀ ys : List Str, Reps K φ H (ys.map D.str) (ys.map V.str)
  | [] => Reps.nil
  | _ :: ys => Reps.cons rfl (reps_strs ys)
theorem ev_split (ha : EvD K φ J to ρ (.str s)) (hb : EvD K φ J te ρ (.str t)) (ht : (t.length == 0) = false) (hz : s.length ≤ 1000000) : EvN K φ J (tM1 rSplit to te) ρ (fun x => x = (Txt.split s t).map D.str) := fun σ H A Q q =>
  ha σ H A _ fun v x H1 b1 A1 e1 r1 => by
    subst e1
    cases (show v = _ from r1)
    refine ⟨⟨s, rfl⟩, hb σ H1 A1 _ fun w y H2 b2 A2 e2 r2 => ?_⟩
    subst e2
    cases (show w = _ from r2)
    refine ⟨s, t, rfl, rfl, ht, Nat.le_trans (Nat.add_le_add_right hz 2) (by decide), fun p hp => ?_⟩
    refine q p _ _ H2 _ (b1.trans b2) A2 hp (But.of (same_new hp)) (A2.same (same_new hp)) rfl upd_same ?_
    exact reps_strs _
theorem ev_splitD (ha : EvD K φ J to ρ (.str s)) (hb : EvD K φ J te ρ (.str t)) (ht : (t.length == 0) = false) (hz : s.length ≤ 1000000) : EvD K φ J (tM1 rSplit to te) ρ (.lst ((Txt.split s t).map D.str)) := ev_newD (ev_split ha hb ht hz)
theorem ev_join {ys : List Str} (ha : EvD K φ J to ρ (.str s)) (hb : EvD K φ J te ρ (.lst (ys.map D.str))) (hz : (ys.map (·.length)).sum + ys.length * s.length ≤ 16777216) : EvD K φ J (tM1 (rJoin K) to te) ρ (.str (Txt.join s ys)) := fun σ H A Q q =>
  ha σ H A _ fun v x H1 b1 A1 e1 r1 => by
    subst e1
    cases (show v = _ from r1)
    refine ⟨⟨s, rfl⟩, hb σ H1 A1 _ fun w y H2 b2 A2 e2 r2 => ?_⟩
    subst e2
    obtain ⟨a, vs, rfl, pa, ra⟩ := rep_lst r2
    cases Reps.strs ra
    exact ⟨s, a, ys, rfl, rfl, .inl pa.sq, hz, q _ _ H2 (b1.trans b2) A2 rfl rfl⟩
theorem ev_startswith (ha : EvD K φ J to ρ (.str s)) (hb : EvD K φ J te ρ (.str t)) : EvD K φ J (tM1 rStarts to te) ρ (.bl (Txt.startswith s t)) := fun σ H A Q q =>
  ha σ H A _ fun v x H1 b1 A1 e1 r1 => by
    subst e1
    cases (show v = _ from r1)
    refine ⟨⟨s, rfl⟩, hb σ H1 A1 _ fun w y H2 b2 A2 e2 r2 => ?_⟩
    subst e2
    cases (show w = _ from r2)
    exact ⟨s, t, rfl, rfl, q _ _ H2 (b1.trans b2) A2 rfl rfl⟩
theorem ev_removeprefix (ha : EvD K φ J to ρ (.str s)) (hb : EvD K φ J te ρ (.str t)) (hz : s.length ≤ 1000000) : EvD K φ J (tM1 rRemP to te) ρ (.str (Txt.removeprefix s t)) := fun σ H A Q q =>
  ha σ H A _ fun v x H1 b1 A1 e1 r1 => by
    subst e1
    cases (show v = _ from r1)
    refine ⟨⟨s, rfl⟩, hb σ H1 A1 _ fun w y H2 b2 A2 e2 r2 => ?_⟩
    subst e2
    cases (show w = _ from r2)
    exact ⟨s, t, rfl, rfl, sz hz, q _ _ H2 (b1.trans b2) A2 rfl rfl⟩
theorem ev_intS {n : Int} (ha : EvD K φ J te ρ (.str s)) (hn : PySem.intText? s = some n) (hz : s.length ≤ 640) : EvD K φ J (tCB rIntS (tCons te tNil)) ρ (.int n) := ev_cbD (ea_cons ha ea_nil) fun H vs f r Q q => by
  obtain ⟨v, rfl, r1⟩ := r.one
  cases (show v = _ from r1)
  exact ⟨s, n, rfl, hn, hz, q _ _ H (Same.refl H) rfl rfl⟩
theorem ev_addS (ha : EvD K φ J ta ρ (.str s)) (hb : EvD K φ J tb ρ (.str t)) (hz : s.length + t.length ≤ 1000000) : EvD K φ J (tOp rAddS ta tb) ρ (.str (s ++ t)) := ev_opD ha hb fun H v w f r1 r2 Q q => by
  cases (show v = _ from r1)
  cases (show w = _ from r2)
  exact ⟨s, t, rfl, rfl, sz hz, q _ _ H (Same.refl H) rfl rfl⟩
theorem ev_inS {c : Nat} (ha : EvD K φ J ta ρ (.str ⟨#[c]⟩)) (hb : EvD K φ J tb ρ (.str t)) : EvD K φ J (tOp rInS ta tb) ρ (.bl (decide (c ∈ tl t))) := ev_opD ha hb fun H v w f r1 r2 Q q => by
  cases (show v = _ from r1)
  cases (show w = _ from r2)
  exact ⟨c, t, rfl, rfl, q _ _ H (Same.refl H) rfl rfl⟩
theorem ev_notInS {c : Nat} (ha : EvD K φ J ta ρ (.str ⟨#[c]⟩)) (hb : EvD K φ J tb ρ (.str t)) : EvD K φ J (tOp rNotInS ta tb) ρ (.bl (!decide (c ∈ tl t))) := ev_opD ha hb fun H v w f r1 r2 Q q => by
  cases (show v = _ from r1)
  cases (show w = _ from r2)
  exact ⟨c, t, rfl, rfl, q _ _ H (Same.refl H) rfl rfl⟩
theorem ev_ixStr {c : Nat} (ha : EvD K φ J ta ρ (.str s)) (hb : EvD K φ J tb ρ (.int i)) (hz : s.length ≤ 1000000) (h : L2.atI (tl s) i = some c) : EvD K φ J (tOp rIxS ta tb) ρ (.str ⟨#[c]⟩) := ev_opD ha hb fun H v w f r1 r2 Q q => by
  cases (show v = _ from r1)
  cases (show w = _ from r2)
  exact ⟨s, i, c, rfl, rfl, sz hz, h, q _ _ H (Same.refl H) rfl rfl⟩
theorem ev_slS {tl th : TO} {lo hi : Option Int} (ha : EvD K φ J te ρ (.str s)) (hl : EvO K φ J tl ρ lo) (hh : EvO K φ J th ρ hi) (hz : s.length ≤ 1000000) : EvD K φ J (tSl rSlS te tl th) ρ (.str (cutS s lo hi)) := fun σ H A Q q =>
  ha σ H A _ fun v x H1 b1 A1 e1 r1 => hl σ H1 A1 _ fun H2 b2 A2 => hh σ H2 A2 _ fun H3 b3 A3 => by
    subst e1
    cases (show v = _ from r1)
    exact ⟨s, rfl, sz hz, q _ _ H3 ((b1.trans b2).trans b3) A3 rfl rfl⟩
/-- the texts of an f-string -/
inductive EvJ (K : PySem.W.Frag) (φ : Addr → Prop) (J : Hp → Prop) (ρ : List (Option D)) : List TE → List Str → Prop where
  | nil : EvJ K φ J ρ [] []
  | cons {te : TE} {ts : List TE} {s : Str} {ss : List Str} (h : EvD K φ J te ρ (.str s)) (r : EvJ K φ J ρ ts ss) : EvJ K φ J ρ (te :: ts) (s :: ss)
theorem evj_run {ts : List TE} {ss : List Str} (h : EvJ K φ J ρ ts ss) : ∀ (acc : Str) (σ : L2.St) (H : Hp), At K φ J ρ σ H → acc.length + (ss.map (·.length)).sum ≤ 1000000 → ∀ Q : Str → Hp → Prop, (∀ H', But φ H H' → At K φ J ρ σ H' → Q (ss.foldl (· ++ ·) acc) H') → tJs ts acc σ H Q := by
  induction h with
  | nil => exact fun acc σ H A _ Q q => q H (But.refl _ _) A
  | @cons te ts s ss h r ih =>
    intro acc σ H A hz Q q
    rw [List.map_cons, List.sum_cons] at hz
    refine h σ H A _ fun v d H1 b1 A1 e r1 => ?_
    subst e
    cases (show v = _ from r1)
    have hl : (acc ++ s).length = acc.length + s.length := by simp only [len_tl, tl_append, List.length_append]
    exact ⟨s, rfl, sz (by rw [hl]; omega), ih (acc ++ s) σ H1 A1 (by rw [hl]; omega) Q fun H' b A' => q H' (b1.trans b) A'⟩
theorem ev_fstr {ts : List TE} {ss : List Str} (h : EvJ K φ J ρ ts ss) (hz : (ss.map (·.length)).sum ≤ 1000000) : EvD K φ J (fun σ H Q => tJs ts Str.empty σ H fun out H1 => Q (.str out) H1) ρ (.str (ss.foldl (· ++ ·) Str.empty)) := fun σ H A Q q =>
  evj_run h Str.empty σ H A (by show 0 + _ ≤ _; omega) _ fun H' b A' => q _ _ H' b A' rfl rfl
theorem ev_fmtI (h : EvD K φ J te ρ (.int i)) (hz : i.natAbs.log2 < 1920) : EvD K φ J (tFmt te) ρ (.str (toString i)) := fun σ H A Q q =>
  h σ H A _ fun v d H1 b1 A1 e r1 => by
    subst e
    exact .inr ⟨i, r1, hz, q _ _ H1 b1 A1 rfl rfl⟩
theorem ev_fmtS (h : EvD K φ J te ρ (.str s)) (hz : s.length ≤ 1000000) : EvD K φ J (tFmt te) ρ (.str s) := fun σ H A Q q =>
  h σ H A _ fun v d H1 b1 A1 e r1 => by
    subst e
    exact .inl ⟨s, r1, sz hz, q _ _ H1 b1 A1 rfl rfl⟩
end
/-! ### xs.pop() as a part of a reading -/
section
variable {K : PySem.W.Frag} {φ φ' : Addr → Prop} {J J' : Hp → Prop} {H H' H1 : Hp} {ρ ρ' : List (Option D)} {σ : L2.St} {te ta tb to : TE} {s : Str} {D0 : Ends} {t u : TS} {l : Addr} {ds : List D} {d : D}
theorem pop_run {k : Nat} (A : At K φ J ρ σ H) (L : LivS K φ J l HO.lst (ds ++ [d])) (hk : ρ[k]? = some (some (.raw (.ref l)))) {Q : VK}
    (kk : ∀ v J' H', Wr K φ J J' l → LivS K φ J' l HO.lst ds → At K φ J' ρ σ H' → Rep K φ H' d v → Q v H') : tBM0 K "list" rPop (tVar k) σ H Q := by
  obtain ⟨vs, H0, r, m, k0⟩ := L.ex
  obtain ⟨w, e, rw'⟩ := A.sr.2 k _ hk
  cases (show w = _ from rw')
  have r1 := r.mono (k0 _ A.j).2
  have hl : vs.length = ds.length + 1 := by rw [r1.length, List.length_append]; rfl
  obtain ⟨v, hv, rv⟩ := r1.get (i := ds.length) (d := d) (by rw [List.getElem?_append_right (Nat.le_refl _), Nat.sub_self]; rfl)
  have e2 : (ds ++ [d]).eraseIdx ds.length = ds := by rw [List.eraseIdx_append_of_length_le (Nat.le_refl _), Nat.sub_self]; exact List.append_nil ds
  have e3 : vs.eraseIdx ds.length = vs.dropLast := by rw [← show vs.length - 1 = ds.length by omega]; exact List.eraseIdx_length_sub_one
  refine ⟨_, e, .inl ⟨rfl, _, SqL.of (k0 _ A.j).1⟩, l, vs, v, rfl, rfl, (k0 _ A.j).1, by rw [hl]; exact hv, ?_⟩
  have r2 := reps_erase ds.length r1
  rw [e2, e3] at r2
  obtain ⟨A2, L2', W⟩ := L.write (C' := HO.lst) (vs' := vs.dropLast) A r2
  exact kk v _ _ W L2' A2 (rv.mono ((But.refl φ H).upd L.np))
/-- if xs.pop() != "..": -/
theorem st_popNe {k : Nat} (A : At K φ J ρ σ H) (L : LivS K φ J l HO.lst (ds ++ [.str s])) (hk : ρ[k]? = some (some (.raw (.ref l))))
    (kk : ∀ J' H', Wr K φ J J' l → LivS K φ J' l HO.lst ds → At K φ J' ρ σ H' → tIfS (tTest (tOp rNe (tC (.str s)) tb)) t u D0 σ H') : tIfS (tTest (tOp rNe (tBM0 K "list" rPop (tVar k)) tb)) t u D0 σ H :=
  pop_run A L hk fun v J' H' W L' A' r => by
    cases (show v = _ from r)
    exact kk J' H' W L' A'
/-- if xs.pop() != ".." or ..: -/
theorem st_popOr {k : Nat} {rest : TT} (A : At K φ J ρ σ H) (L : LivS K φ J l HO.lst (ds ++ [.str s])) (hk : ρ[k]? = some (some (.raw (.ref l))))
    (kk : ∀ J' H', Wr K φ J J' l → LivS K φ J' l HO.lst ds → At K φ J' ρ σ H' → tIfS (tOr (tTest (tOp rNe (tC (.str s)) tb)) rest) t u D0 σ H') : tIfS (tOr (tTest (tOp rNe (tBM0 K "list" rPop (tVar k)) tb)) rest) t u D0 σ H :=
  pop_run A L hk fun v J' H' W L' A' r => by
    cases (show v = _ from r)
    exact kk J' H' W L' A'
end
/-! ### xs[::-1], t <= u -/
section
variable {K : PySem.W.Frag} {φ : Addr → Prop} {J : Hp → Prop} {ρ : List (Option D)} {ta tb te : TE} {ds : List D} {ns ms : List Int}
theorem reps_rev {H : Hp} : ∀ {ds : List D} {vs : List V}, Reps K φ H ds vs → Reps K φ H ds.reverse vs.reverse
  | [], vs, h => by
    cases (show vs = [] from h)
    exact Reps.nil
  | x :: ds, vs, h => by
    obtain ⟨u, r', rfl, g1, g2⟩ := (show ∃ v r, vs = v :: r ∧ Rep K φ H x v ∧ Reps K φ H ds r from h)
    rw [List.reverse_cons, List.reverse_cons]
    exact (reps_rev g2).append (Reps.cons g1 Reps.nil)
theorem en_revL (ha : EvD K φ J te ρ (.lst ds)) : EvN K φ J (tRevL K te) ρ (fun x => x = ds.reverse) := fun σ H A Q q =>
  ha σ H A _ fun v x H1 b1 A1 e1 r1 => by
    subst e1
    obtain ⟨a, vs, rfl, pa, ra⟩ := rep_lst r1
    exact ⟨a, vs, rfl, pa.sq, fun p hp => q p _ _ H1 _ b1 A1 hp (But.of (same_new hp)) (A1.same (same_new hp)) rfl upd_same (reps_new hp (reps_rev ra))⟩
theorem ev_revL (ha : EvD K φ J te ρ (.lst ds)) : EvD K φ J (tRevL K te) ρ (.lst ds.reverse) := ev_newD (en_revL ha)
theorem ev_leT (ha : EvD K φ J ta ρ (.tup (ns.map D.int))) (hb : EvD K φ J tb ρ (.tup (ms.map D.int))) : EvD K φ J (tOp (rLeT K) ta tb) ρ (.bl (Ob.lexAt (fun j => decide (ns.getD j 0 = ms.getD j 0)) (fun j => decide (ns.getD j 0 ≤ ms.getD j 0)) (decide (ns.length ≤ ms.length)) 0 (min ns.length ms.length))) := ev_opD ha hb fun H v w _ r1 r2 Q q => by
  obtain ⟨a, rfl, h1⟩ := rep_tupI r1
  obtain ⟨b, rfl, h2⟩ := rep_tupI r2
  exact ⟨a, b, ns, ms, rfl, rfl, h1, h2, q _ _ H (Same.refl H) rfl rfl⟩
theorem lexAtLe2 (a b c d : Int) : Ob.lexAt (fun j => decide (([a, b] : List Int).getD j 0 = ([c, d] : List Int).getD j 0)) (fun j => decide (([a, b] : List Int).getD j 0 ≤ ([c, d] : List Int).getD j 0)) (decide (([a, b] : List Int).length ≤ ([c, d] : List Int).length)) 0 (min ([a, b] : List Int).length ([c, d] : List Int).length) = !SrtO.lexB (c, d) (a, b) := by
  have e : min ([a, b] : List Int).length ([c, d] : List Int).length = 2 := rfl
  rw [e, Ob.lexAt_succ]
  show (if decide (a = c) = true then _ else decide (a ≤ c)) = _
  by_cases h1 : a = c
  · rw [if_pos (decide_eq_true h1), Ob.lexAt_succ]
    show (if decide (b = d) = true then _ else decide (b ≤ d)) = _
    by_cases h2 : b = d
    · rw [if_pos (decide_eq_true h2), Ob.lexAt_zero]
      unfold SrtO.lexB
      rw [if_pos (show (c, d).1 = (a, b).1 from h1.symm), decide_eq_false (show ¬ d < b by omega)]
      rfl
    · rw [if_neg (by simp [h2])]
      unfold SrtO.lexB
      rw [if_pos (show (c, d).1 = (a, b).1 from h1.symm)]
      show decide (b ≤ d) = !decide (d < b)
      by_cases h3 : d < b
      · rw [decide_eq_true h3, decide_eq_false (by omega)]; rfl
      · rw [decide_eq_false h3, decide_eq_true (by omega)]; rfl
  · rw [if_neg (by simp [h1])]
    unfold SrtO.lexB
    rw [if_neg (show ¬ (c, d).1 = (a, b).1 from fun z => h1 z.symm)]
    show decide (a ≤ c) = !decide (c < a)
    by_cases h3 : c < a
    · rw [decide_eq_true h3, decide_eq_false (by omega)]; rfl
    · rw [decide_eq_false h3, decide_eq_true (by omega)]; rfl
theorem ev_leP2 {p q : Int × Int} (ha : EvD K φ J ta ρ (prDD p)) (hb : EvD K φ J tb ρ (prDD q)) : EvD K φ J (tOp (rLeT K) ta tb) ρ (.bl (!SrtO.lexB q p)) := by
  rw [show (!SrtO.lexB q p) = _ from (lexAtLe2 p.1 p.2 q.1 q.2).symm]
  exact ev_leT (ns := [p.1, p.2]) (ms := [q.1, q.2]) ha hb
/-- a comprehension by three names -/
theorem en_lcT3 {wi : TI} {k1 k2 k3 : Nat} {f : D → D} (hi : IterD K φ J wi ρ ds) (hl : ds.length ≤ 1000000) (hd : ∀ d ∈ ds, ∃ a b c, d = .tup [a, b, c])
    (he : ∀ a b c, .tup [a, b, c] ∈ ds → ∀ φ' J', Ext φ J φ' J' → EvD K φ' J' te ((((wipeR ρ [k1, k2, k3]).set k1 (some a)).set k2 (some b)).set k3 (some c)) (f (.tup [a, b, c]))) :
    EvN K φ J (tLc wi (gTup K 3 (gCons (gName k1) (gCons (gName k2) (gCons (gName k3) gNil)))) tYes te [k1, k2, k3]) ρ (fun x => x = ds.map f) := fun σ H A Q q =>
  (en_lcP (ρd := fun d => match d with | .tup [a, b, c] => (((wipeR ρ [k1, k2, k3]).set k1 (some a)).set k2 (some b)).set k3 (some c) | _ => ρ) (us := [k1, k2, k3]) (pt := fun _ b => b = true) (pe := fun d y => y = f d) hi (fun ds' e => by rw [e]; exact hl) (fun _ h => h) (fun ds' e d hm => by
      subst e
      obtain ⟨a, b, c, rfl⟩ := hd d hm
      exact eg_tup (ds := [a, b, c]) (egs_cons eg_name (egs_cons eg_name (egs_cons eg_name egs_nil))))
    (fun ds' e d hm φ' J' x => by
      subst e
      obtain ⟨a, b, c, rfl⟩ := hd d hm
      exact et_yes) (fun ds' e d hm pd φ' J' x => by
      subst e
      obtain ⟨a, b, c, rfl⟩ := hd d hm
      exact he a b c hm φ' J' x)) σ H A Q fun p vs ys H0 H' b0 A0 hp b A' pd e r => by
      obtain ⟨ds', e1, c⟩ := pd
      subst e1
      exact q p vs ys H0 H' b0 A0 hp b A' c.map e r
end

-- import PyProof.StrOps2
-- import HandS.Style
-- import KE.KRevSl
/-! ### text * int, t[::-1] of a tuple -/
def mulS (a : Str) (n : Nat) : Str := ⟨(List.replicate n a.cps).foldl (· ++ ·) #[]⟩
def rMulS : R2 := fun x y H Q => ∃ (a : Str) (n : Int), x = .str a ∧ y = .int n ∧ 2 ≤ n ∧ n ≤ 1000 ∧ 1 ≤ a.length ∧ a.length ≤ 1000 ∧ Q (.str (mulS a n.toNat)) H
theorem foldl_app_size {α : Type} (xs : Array α) : ∀ (n : Nat) (acc : Array α), ((List.replicate n xs).foldl (· ++ ·) acc).size = acc.size + n * xs.size
  | 0, acc => by simp
  | n + 1, acc => by
    rw [List.replicate_succ, List.foldl_cons, foldl_app_size xs n, Array.size_append, Nat.succ_mul]
    omega
theorem mulS_length (a : Str) (n : Nat) : (mulS a n).length = n * a.length := by
  show ((List.replicate n a.cps).foldl (· ++ ·) #[]).size = n * a.cps.size
  rw [foldl_app_size]
  simp
theorem foldl_app_list {α : Type} (xs : Array α) : ∀ (n : Nat) (acc : Array α), ((List.replicate n xs).foldl (· ++ ·) acc).toList = acc.toList ++ (List.replicate n xs.toList).flatten
  | 0, acc => by simp
  | n + 1, acc => by
    rw [List.replicate_succ, List.foldl_cons, foldl_app_list xs n, Array.toList_append, List.replicate_succ, List.flatten_cons, List.append_assoc]
theorem tl_mulS (a : Str) (n : Nat) : TL.tl (mulS a n) = (List.replicate n (TL.tl a)).flatten := by
  show ((List.replicate n a.cps).foldl (· ++ ·) #[]).toList = _
  rw [foldl_app_list]
  rfl
theorem op_mulS {X : Cx} : OpR X (binaryOp .Mult) rMulS := by
  intro pins s σ H x y v u Q I rx ry h
  obtain ⟨a, n, rfl, rfl, h1, h2, h3, h4, q⟩ := h
  obtain ⟨t, rfl⟩ := rx
  obtain ⟨t', rfl⟩ := ry
  have hl : a.length * n.toNat ≤ 1000000 := by
    have : n.toNat ≤ 1000 := by omega
    exact Nat.mul_le_mul h4 this
  have e1 : ¬ n < 1 := by omega
  have e2 : ¬ (n == 1 || a.length == 0) = true := by
    rw [Bool.or_eq_true, beq_iff_eq, beq_iff_eq]
    omega
  refine PySem.P.mul_str (by rw [decide_eq_false (show ¬ n < -(2 ^ 63 : Int) by omega), decide_eq_false (show ¬ n ≥ 2 ^ 63 by omega)]; rfl) (fun _ _ => ?_) (fun _ _ => ?_) ?_
  · have : (2 ^ 63 - 1) / n ≥ 1000 := by
      refine (Int.le_ediv_iff_mul_le (by omega)).mpr ?_
      omega
    omega
  · have hs : a.length * n.toNat ≤ sizeLine := sz hl
    show decide (a.length * n.toNat > sizeLine) = false
    exact decide_eq_false (Nat.not_lt.mpr hs)
  · rw [if_neg e1, if_neg e2]
    refine ⟨?_, .str (mulS a n.toNat), H, I.tok _, ⟨_, rfl⟩, q⟩
    show ((List.replicate n.toNat a.cps).foldl (· ++ ·) #[]).size ≤ _
    have := mulS_length a n.toNat
    unfold mulS at this
    exact Nat.le_trans (Nat.le_of_eq this) (by rw [Nat.mul_comm]; exact sz hl)
section
variable {K : PySem.W.Frag} {φ : Addr → Prop} {J : Hp → Prop} {ρ : List (Option D)} {ta tb : TE} {s : Str} {i : Int}
theorem ev_mulS (ha : EvD K φ J ta ρ (.str s)) (hb : EvD K φ J tb ρ (.int i)) (h1 : 2 ≤ i) (h2 : i ≤ 1000) (h3 : 1 ≤ s.length) (h4 : s.length ≤ 1000) : EvD K φ J (tOp rMulS ta tb) ρ (.str (mulS s i.toNat)) := ev_opD ha hb fun H v w f r1 r2 Q q => by
  cases (show v = _ from r1)
  cases (show w = _ from r2)
  exact ⟨s, i, rfl, rfl, h1, h2, h3, h4, q _ _ H (Same.refl H) rfl rfl⟩
end
/-! ### t[::-1] -/
section
open HT PyProof.Rows PySem.SeqAt PySem.MeetsSeq PySem.MeetsSeq2 PySem.MeetsSeq3
open PySem.AutoSeq1 (wpAny_loadPart')
variable {prog : Program} {w : World} {A : Around} {E : Value → Shared → Prop} {s : Shared}
theorem sliceApplied_rev {sl : Addr} {vl vu vs : Value} {n : Nat} {Q : Int × Int × Nat → Shared → Prop} (hs : s.heap.IsSliceOf sl vl vu vs) (pl : IsPart vl none) (pu : IsPart vu none) (ps : IsPart vs (some (-1)))
    (h : Q ((n : Int) - 1, -1, n) s) : wpAny (model prog w) A (Builtin.Slice.sliceApplied (.ref sl) (pure (n : Int))) Q E s := by
  obtain ⟨os, hos, hcs, hds⟩ := id hs
  unfold Builtin.Slice.sliceApplied Builtin.Slice.sliceFields
  refine wpAny_bind (wpAny_bind (wpAny_field hos hds (x := vl) rfl (wpAny_bind (wpAny_field hos hds (x := vu) rfl (wpAny_bind (wpAny_field hos hds (x := vs) rfl (wpAny_pure ?_)))))))
  refine wpAny_bind (HT.slicePart_ ps ?_)
  show wpAny _ _ (if ((-1 : Int) == 0) = true then _ else _) _ _ s
  rw [if_neg (by decide)]
  refine wpAny_bind (HT.slicePart_ pl (wpAny_bind (HT.slicePart_ pu (wpAny_bind (wpAny_pure ?_)))))
  have e : Builtin.Slice.slicePlaces ((n : Int) - 1) (-1) (-1) = n := by
    unfold Builtin.Slice.slicePlaces
    rw [if_neg (by decide)]
    by_cases h0 : n = 0
    · subst h0
      rfl
    · rw [if_pos (by omega), show (- -1 : Int) = 1 by decide, Int.ediv_one]
      omega
  show wpAny _ _ (pure ((n : Int) - 1, (-1 : Int), Builtin.Slice.slicePlaces ((n : Int) - 1) (-1) (-1))) _ _ s
  rw [e]
  exact wpAny_pure h
theorem filterMap_same {α β : Type} {f g : α → Option β} : ∀ {l : List α}, (∀ m ∈ l, f m = g m) → l.filterMap f = l.filterMap g
  | [], _ => rfl
  | a :: l, h => by
    rw [List.filterMap_cons, List.filterMap_cons, h a List.mem_cons_self, filterMap_same fun m hm => h m (List.mem_cons_of_mem _ hm)]
theorem pick_rev (xs : Array Value) : ((List.range xs.size).filterMap fun (m : Nat) => xs[((xs.size : Int) - 1 + (m : Int) * -1).toNat]?).toArray = xs.toList.reverse.toArray := by
  have h1 : (List.range xs.size).filterMap (fun (m : Nat) => xs[((xs.size : Int) - 1 + (m : Int) * -1).toNat]?) = ((List.range xs.size).map (fun k => xs.size - 1 - k)).filterMap (xs[·]?) := by
    rw [List.filterMap_map]
    refine filterMap_same fun m hm => ?_
    have := List.mem_range.mp hm
    show _ = xs[xs.size - 1 - m]?
    rw [show ((xs.size : Int) - 1 + (m : Int) * -1).toNat = xs.size - 1 - m by omega]
  rw [h1, PySem.W.krv_range, List.filterMap_reverse, PySem.W.krv_all]
theorem getItem_tuple_rev {t sl : Addr} {items : Array Value} {vl vu vs : Value} {Q : Value → Shared → Prop} (ht : IsTup s.heap t items) (hs : s.heap.IsSliceOf sl vl vu vs) (pl : IsPart vl none) (pu : IsPart vu none) (ps : IsPart vs (some (-1)))
    (h : Q (.ref s.heap.objs.size) { s with heap := s.heap.push { cls := .type "tuple", data := .seq items.toList.reverse.toArray } })
    (hsz : items.size ≤ sizeLine) : wpAny (model prog w) A (getItem (.ref t) (.ref sl)) Q E s := by
  have htake : sizeOk (.seq items.toList.reverse.toArray) := by
    show items.toList.reverse.toArray.size ≤ sizeLine
    rw [List.size_toArray, List.length_reverse, Array.length_toList]
    exact hsz
  obtain ⟨os, hos, hcs, hds⟩ := id hs
  have hTs : s.TypeIs (.ref sl) "slice" := ⟨os, hos, hcs⟩
  unfold getItem
  try with_reducible refine wpAny_holding ?_
  first | refine wpAny_bind (wpAny_pure ?_) | skip
  refine wpAny_bind (wpAny_sequenceKey ht.typeIs (by decide) ?_)
  refine wpAny_bind (wpAny_callSpecial?_slot (name := Str.ofString "__getitem__") ht.typeIs PyProof.Rows.slot_tuple_getitem
    (wpAny_call_entry PyProof.Rows.slot_tuple_getitem ht.typeIs entry_tuple_getitem ?_ (args_tuple_getitem _ _)))
  show wpAny _ _ (Builtin.Tuple.tupleItemsOf (.ref t) >>= _) _ _ s
  refine wpAny_bind (tupleItemsOf_ ht ?_)
  refine wpAny_bind (wpAny_typeOf hTs ?_)
  rw [if_pos (by decide)]
  refine wpAny_bind (sliceApplied_rev hs pl pu ps ?_)
  have hno : ¬ ((((items.size : Int) - 1) == 0 && (-1 : Int) == 1 && items.size == items.size) = true) := by
    intro q
    rw [Bool.and_eq_true, Bool.and_eq_true] at q
    exact absurd q.1.2 (by decide)
  show wpAny _ _ (if (((items.size : Int) - 1) == 0 && (-1 : Int) == 1 && items.size == items.size) = true then _ else _) _ _ s
  rw [if_neg hno, pick_rev]
  first
    | exact wpAny_bind (m := Builtin.Tuple.tupleExact _) (wpAny_newObj_type (wpAny_pure ⟨_, rfl, wpAny_pure h⟩) htake)
    | exact wpAny_bind (m := Builtin.Tuple.tupleExact _) (wpAny_newObj_type (wpAny_bind (wpAny_pure (wpAny_pure ⟨_, rfl, wpAny_pure h⟩))) htake)
    | exact wpAny_bind (wpAny_bind (m := Builtin.Tuple.tupleExact _) (wpAny_newObj_type (wpAny_pure (wpAny_pure ⟨_, rfl, wpAny_pure h⟩)) htake))
    | exact wpAny_bind (wpAny_bind (m := Builtin.Tuple.tupleExact _) (wpAny_newObj_type (wpAny_pure ⟨_, rfl, wpAny_pure h⟩) htake))
end
def tRevT (K : PySem.W.Frag) (te : TE) : TE := fun σ H Q => te σ H fun x H1 => ∃ a xs, x = .ref a ∧ SqT K H1 a xs ∧ ∀ p, H1 p = none → Q (.ref p) (upd H1 p (.tup xs.reverse))
theorem pe_revT {X : Cx} {te : TE} {e : Expr} {k : Nat} {p1 p2 p3 pos : Pos} (he : PE X e te) : PE X (.Subscript e (.Slice none none (some (.UnaryOp .USub (.Constant (.int 1) k p1) p2)) p3) pos) (tRevT X.K te) := by
  refine ⟨fun pins s σ H Q I h => ?_⟩
  refine Subscript_ (thn (he.run pins s σ H _ I h) fun v s1 ⟨x, H1, I1, r1, q1⟩ => ?_)
  obtain ⟨a, xs, ex, hx, q⟩ := q1
  subst ex
  cases r1
  have hst : PO X (some (.UnaryOp .USub (.Constant (.int 1) k p1) p2)) (tPart (tUn (rU fun i => .int (-i)) (tC (.int 1)))) := po_some (pe_un un_neg pe_int)
  refine wpAny_Slice (thn (po_none.run pins s1 σ H1 (fun o H2 => o = none ∧ H2 = H1) I1 ⟨rfl, rfl⟩) fun vl s2 ⟨l, H2, I2, pl, el, e2⟩ => ?_)
  subst el e2
  refine thn (po_none.run pins s2 σ H2 (fun o H3 => o = none ∧ H3 = H2) I2 ⟨rfl, rfl⟩) fun vu s3 ⟨u, H3, I3, pu, eu, e3⟩ => ?_
  subst eu e3
  refine thn (hst.run pins s3 σ H3 (fun o H4 => o = some (-1) ∧ H4 = H3) I3 ⟨1, rfl, -1, rfl, rfl, rfl⟩) fun vs s4 ⟨o, H4, I4, ps, eo, e4⟩ => ?_
  subst eo e4
  have I5 : Inv X pins σ H4 { s4 with heap := s4.heap.push { cls := .type "slice", data := .fields #[vl, vu, vs] } } := I4.kept (t' := s4.toks) fun b ob q => Heap.get?_push_of_some _ q
  obtain ⟨its, r, ht, hz⟩ := I5.tuple hx
  have hlen := r.length
  show wpAny (model X.prog X.w) X.A (subscriptTail e (.Slice none none (some (.UnaryOp .USub (.Constant (.int 1) k p1) p2)) p3) (.ref a) (.ref s4.heap.objs.size)) (EP X pins σ Q) X.xe { s4 with heap := s4.heap.push { cls := .type "slice", data := .fields #[vl, vu, vs] } }
  refine PyProof.Rows.tail_any (ops := [.ref a, .ref s4.heap.objs.size]) ht.typeIs (PyProof.Rows.slot_tuple_getitem.lookup) ?_ (by with_unfolding_all rfl)
  refine getItem_tuple_rev ht (Heap.IsSliceOf.new _ vl vu vs) pl pu ps ?_ (by rw [List.size_toArray]; omega)
  refine ⟨.ref _, _, I5.laid (t' := s4.toks) (o := .tup xs.reverse) (fun b ob q => Heap.get?_push_of_some _ q) (Nat.le_refl _) ?_, rfl, q _ (I5.hok.fresh (Nat.le_refl _))⟩
  exact ⟨by rw [List.length_reverse]; exact hz, _, r.reverse, IsTup.new _ _⟩
section
variable {K : PySem.W.Frag} {φ : Addr → Prop} {J : Hp → Prop} {ρ : List (Option D)} {te : TE} {ds : List D}
theorem ev_revT (ha : EvD K φ J te ρ (.tup ds)) : EvD K φ J (tRevT K te) ρ (.tup ds.reverse) := fun σ H A Q q =>
  ha σ H A _ fun v x H1 b1 A1 e1 r1 => by
    subst e1
    obtain ⟨a, vs, rfl, pa, ra⟩ := rep_tup r1
    exact ⟨a, vs, rfl, pa.sq, fun p hp => q _ _ _ (b1.trans (But.of (same_new hp))) (A1.same (same_new hp)) rfl ⟨p, _, rfl, .inl ⟨A1.fr p hp, .inl upd_same⟩, (reps_rev ra).mono (But.of (same_new hp))⟩⟩
end
/-! ### a comprehension within a comprehension -/
theorem blk_in {N : List Str} {sc scope scope2 : Scope} {own : List (Str × Nat)} {cl : List (Str × Addr)} {C : Addr} {env : Env} (hs : env.scope = sc) (h : blkC N (relS scope sc) scope2 own = true) : BlkOk N (compEnvC scope cl C env).scope scope2 own := by
  have e : (compEnvC scope cl C env).scope = relS scope env.scope := rfl
  rw [e, hs]
  exact blkOk_by h

/-! ### the law's own helpers -/
structure Bi (mg : Str → Option Value) : Prop where
  len : mg "len" = none
  range : mg "range" = none
  isinstance : mg "isinstance" = none
  int : mg "int" = none
  str : mg "str" = none
  bool : mg "bool" = none
  list : mg "list" = none
  tuple : mg "tuple" = none
  dict : mg "dict" = none
  sum : mg "sum" = none
  max : mg "max" = none
  min : mg "min" = none
  abs : mg "abs" = none
  sorted : mg "sorted" = none
  enumerate : mg "enumerate" = none
  zip : mg "zip" = none
  set : mg "set" = none
local macro_rules | `(tactic| walk_at "ev") => `(tactic| repeat' (first
  | exact ev_int | exact ev_bl | exact ev_str | exact ev_non | exact ev_ty | exact ev_var rfl
  | refine ev_add ?_ ?_ | refine ev_sub ?_ ?_ | refine ev_mul ?_ ?_ ?_ | refine ev_mulW ?_ ?_ ?_ | refine ev_fdiv ?_ ?_ ?_ | refine ev_fdivW ?_ ?_ ?_ | refine ev_mod ?_ ?_ ?_ | refine ev_neg ?_
  | refine ev_lt ?_ ?_ | refine ev_le ?_ ?_ | refine ev_gt ?_ ?_ | refine ev_ge ?_ ?_
  | refine ev_eqI ?_ ?_ | refine ev_neI ?_ ?_ | refine ev_isN ?_ | refine ev_notN ?_
  | refine ea_cons ?_ ?_ | exact ea_nil
  | refine ev_intI ?_ | refine ev_abs ?_ | refine ev_max2 ?_ ?_ | refine ev_min2 ?_ ?_
  | refine et_test ?_ | refine et_B ?_))
/-- no raw values, a bounded depth -/
def plain : Nat → D → Bool
  | 0, _ => false
  | _ + 1, .non => true
  | _ + 1, .bl _ => true
  | _ + 1, .int _ => true
  | _ + 1, .str _ => true
  | n + 1, .tup ds => decide (ds.length ≤ 1000000) && ds.all (plain n)
  | n + 1, .lst ds => decide (ds.length ≤ 1000000) && ds.all (plain n)
  | _ + 1, .raw _ => false
  | _ + 1, .dk _ _ => false
  | _ + 1, .dt _ _ => false
theorem plain_raw {n : Nat} {d : D} (h : plain n d = true) : isRaw d = false := by
  cases n with
  | zero => cases h
  | succ n => cases d <;> first | rfl | cases h
theorem plain_seq {n : Nat} {d : D} {es : List D} (h : plain (n + 1) d = true) (e : seqOf d = some es) : es.length ≤ 1000000 ∧ ∀ x ∈ es, plain n x = true := by
  cases d <;> first | (cases e; done) | skip
  all_goals
    cases e
    simp only [plain, Bool.and_eq_true, decide_eq_true_eq, List.all_eq_true] at h
    exact h
def RSame (n : Nat) : List D → D → Prop := fun ds r => ∃ d, ds = [d, d] ∧ plain n d = true ∧ r = .bl true
section
variable {P : Program} {w : World} {K : PySem.W.Frag} {mg : Str → Option Value} {base : Heap}
theorem atI_ofNat {α : Type} {xs : List α} {i : Nat} {x : α} (h : xs[i]? = some x) : L2.atI xs (i : Int) = some x := by
  have hi : i < xs.length := (List.getElem?_eq_some_iff.mp h).1
  unfold L2.atI L2.ixN
  rw [if_pos (by omega), if_pos (by omega)]
  exact h
theorem sc__law_same : FnScope ["actual", "due", "k"] ["actual", "due"] (defScope s__law_same) := ⟨rfl, rfl, rfl, by decide +kernel, rfl, by decide +kernel, by decide +kernel⟩
theorem ok__law_same (B : Bi mg) {f : Addr} {fd : FuncData} (F : Fun K "_law_same" "_law_same" s__law_same f fd) (L__law_same : Lk K mg "_law_same" f fd ["actual", "due"]) : ∀ n : Nat, FnOk P w K mg base CX0 n f fd ["actual", "due"] (SpD K 2 (RSame n))
  | 0 => by
    have no : ∀ vs H Q E, ¬ SpD K 2 (RSame 0) vs H Q E := fun vs H Q E h => by
      obtain ⟨_, _, _, _, _, _, ⟨_, _, h, _⟩, _⟩ := h
      cases h
    exact ⟨fun vs H Q E h => absurd h (no vs H Q E), fun A outer s H args us vs Q E _ _ _ _ h => absurd h (no vs H Q E)⟩
  | n + 1 => by
    have G__law_same : FnOk P w K mg base CX0 n f fd ["actual", "due"] (SpD K 2 (RSame n)) := ok__law_same B F L__law_same n
    have S := sc__law_same
    refine fn_ok F S rfl 1 rfl fun cdv A outer s H E hr => ⟨_, ((pss_cons (ps_if (PW.pt (pw_or (pt_val (pe_callB call_isi (by rfl) B.isinstance (by decide +kernel) (pa_cons (pv 1) (pa_cons (pe_ty (n := "tuple") B.tuple (by decide +kernel)) pa_nil)))) (pw_or1 (pt_val (pe_callB call_isi (by rfl) B.isinstance (by decide +kernel) (pa_cons (pv 1) (pa_cons (pe_ty (n := "list") B.list (by decide +kernel)) pa_nil)))))))
 (pss_cons (ps_if (PW.pt (pw_or (pt_cmpR op_ne (pe_callB call_isi (by rfl) B.isinstance (by decide +kernel) (pa_cons (pv 1) (pa_cons (pe_ty (n := "tuple") B.tuple (by decide +kernel)) pa_nil))) (pe_callB call_isi (by rfl) B.isinstance (by decide +kernel) (pa_cons (pv 0) (pa_cons (pe_ty (n := "tuple") B.tuple (by decide +kernel)) pa_nil))) (nomark _)) (pw_or1 (pt_cmpR op_ne (pe_callB call_isi (by rfl) B.isinstance (by decide +kernel) (pa_cons (pv 1) (pa_cons (pe_ty (n := "list") B.list (by decide +kernel)) pa_nil))) (pe_callB call_isi (by rfl) B.isinstance (by decide +kernel) (pa_cons (pv 0) (pa_cons (pe_ty (n := "list") B.list (by decide +kernel)) pa_nil))) (nomark _)))))
 (pss_one (ps_ret pe_bl))
 pss_nil)
 (pss_cons (ps_if (pt_cmpR op_ne (pe_callB c_len (by rfl) B.len (by decide +kernel) (pa_cons (pv 0) pa_nil)) (pe_callB c_len (by rfl) B.len (by decide +kernel) (pa_cons (pv 1) pa_nil)) (nomark _))
 (pss_one (ps_ret pe_bl))
 pss_nil)
 (pss_cons (ps_for PassesOwn.never rfl (pi_range1 (by rfl) B.range (pa_cons (pe_callB c_len (by rfl) B.len (by decide +kernel) (pa_cons (pv 1) pa_nil)) pa_nil)) (pg_name (i := 2) S.nd rfl (by first | exact Or.inl rfl | exact Or.inr rfl))
 (pss_one (ps_if (pt_not (pt_val (pe_call G__law_same (hr.mono (by first | exact Nat.le_refl _ | decide | omega)) (by rfl) L__law_same.m L__law_same.kp L__law_same.bi .nil pass0 (pa_cons (pe_ix ix_seq (pv 0) (pv 2) (fun _ _ => rfl)) (pa_cons (pe_ix ix_seq (pv 1) (pv 2) (fun _ _ => rfl)) pa_nil)))))
 (pss_one (ps_ret pe_bl))
 pss_nil)))
 (pss_one (ps_ret pe_bl)))))
 pss_nil)
 (pss_cons (ps_if (pt_cmpR op_isN1 (pv 1) pe_non (nomark _))
 (pss_one (ps_ret (pe_cmpR op_isN1 (pv 0) pe_non (nomark _))))
 pss_nil)
 (pss_cons (ps_if (pt_val (pe_callB call_isi (by rfl) B.isinstance (by decide +kernel) (pa_cons (pv 1) (pa_cons (pe_ty (n := "bool") B.bool (by decide +kernel)) pa_nil))))
 (pss_one (ps_ret (pe_and (pe_callB call_isi (by rfl) B.isinstance (by decide +kernel) (pa_cons (pv 0) (pa_cons (pe_ty (n := "bool") B.bool (by decide +kernel)) pa_nil))) (pe_one (pe_cmpR op_eq (pv 0) (pv 1) (nomark _))))))
 pss_nil)
 (pss_cons (ps_if (pt_val (pe_callB call_isi (by rfl) B.isinstance (by decide +kernel) (pa_cons (pv 1) (pa_cons (pe_ty (n := "int") B.int (by decide +kernel)) pa_nil))))
 (pss_one (ps_ret (pe_and (pe_callB call_isi (by rfl) B.isinstance (by decide +kernel) (pa_cons (pv 0) (pa_cons (pe_ty (n := "int") B.int (by decide +kernel)) pa_nil))) (pe_and (pe_not (pe_callB call_isi (by rfl) B.isinstance (by decide +kernel) (pa_cons (pv 0) (pa_cons (pe_ty (n := "bool") B.bool (by decide +kernel)) pa_nil)))) (pe_one (pe_cmpR op_eq (pv 0) (pv 1) (nomark _)))))))
 pss_nil)
 (pss_one (ps_ret (pe_and (pe_callB call_isi (by rfl) B.isinstance (by decide +kernel) (pa_cons (pv 0) (pa_cons (pe_ty (n := "str") B.str (by decide +kernel)) pa_nil))) (pe_one (pe_cmpR op_eq (pv 0) (pv 1) (nomark _))))))))))), fun φ ds d H D0 σ hl hR hrt hnx A => ?_⟩
    obtain ⟨d, rfl, hp, rfl⟩ := hR
    replace A : At K φ (Same H) [some d, some d, none] σ H := A
    have hraw := plain_raw hp
    have isi : ∀ {ρ : List (Option D)} {J : Hp → Prop} {i : Nat} {n : String}, ρ[i]? = some (some d) → n ∈ (["tuple", "list", "bool", "int", "str", "dict"] : List String) → EvD K φ J (tCB (rIsi K) (tCons (tVar i) (tCons (tC (.ty n)) tNil))) ρ (.bl (isT n d)) := fun h hn => ev_isi (ev_var h) ev_ty hraw hn
    refine q ?_
    refine st_if A (et_or (et_B (isi rfl (by simp))) fun _ => et_B (isi rfl (by simp))) (fun hb H1 A1 => ?_) (fun hb H1 A1 => ?_)
    · -- a tuple or a list
      obtain ⟨es, hes⟩ : ∃ es, seqOf d = some es := by
        cases d <;> first | exact ⟨_, rfl⟩ | (simp [isT, tyD] at hb)
      obtain ⟨hlen, hpl⟩ := plain_seq hp hes
      refine q ?_
      refine st_no A1 (et_or (et_test (ev_neB (isi rfl (by simp)) (isi rfl (by simp)))) fun _ => et_test (ev_neB (isi rfl (by simp)) (isi rfl (by simp)))) (by simp) fun H2 A2 => ?_
      refine q ?_
      refine st_no A2 (et_test (ev_neI (ev_lenQ (ev_var rfl) hes) (ev_lenQ (ev_var rfl) hes))) (by simp) fun H3 A3 => ?_
      refine q ?_
      refine st_for A3 (it_range1 (ea_cons (ev_lenQ (ev_var rfl) hes) ea_nil) (by omega)) (fun i ρ' J' => (∃ o, ρ' = [some d, some d, o]) ∧ J' = Same H) ⟨⟨none, rfl⟩, rfl⟩ ?_ ?_
      · rintro H4 i x ρ' J' b4 j4 hx ⟨⟨o, rfl⟩, rfl⟩ σ' H' A5
        rw [rangeD_get] at hx
        have hi : i < es.length := by
          by_cases h : i < (es.length : Int).toNat
          · omega
          · rw [if_neg h] at hx; cases hx
        rw [if_pos (by omega)] at hx
        cases hx
        have hxi : L2.atI es (0 + (i : Int)) = some es[i] := by
          rw [Int.zero_add]
          exact atI_ofNat (List.getElem?_eq_getElem hi)
        have A5' : At K φ (fun H_1 => Same H H_1 ∧ But φ H4 H_1) [some d, some d, some (.int (0 + (i : Int)))] σ' H' := A5
        refine st_no A5' (et_not (et_B (ev_callD (ea_cons (ev_ixQ (ev_var rfl) hes (ev_var rfl) hxi) (ea_cons (ev_ixQ (ev_var rfl) hes (ev_var rfl) hxi) ea_nil)) ⟨es[i], rfl, hpl _ (List.getElem_mem hi), rfl⟩))) rfl fun H6 A6 => ?_
        exact ⟨_, _, ⟨⟨_, rfl⟩, rfl⟩, A6⟩
      · rintro H4 ρ' J' σ' H' b4 j4 ⟨⟨o, rfl⟩, rfl⟩ A5
        exact st_ret A5 ev_bl fun v d' H6 e A6 r => hrt v H6 A6.j.1 (e ▸ r)
    · refine st_next ?_
      have hnt : isT "tuple" d = false ∧ isT "list" d = false := by
        exact Bool.or_eq_false_iff.mp hb.symm
      refine q ?_
      refine st_if A1 (et_test (ev_isN (ev_var rfl))) (fun hn H2 A2 => ?_) (fun hn H2 A2 => ?_)
      · exact st_ret A2 (ev_isN (ev_var rfl)) fun v d' H6 e A6 r => hrt v H6 A6.j (by rw [e, ← hn] at r; exact r)
      · refine st_next (q ?_)
        refine st_if A2 (et_B (isi rfl (by simp))) (fun hB H3 A3 => ?_) (fun hB H3 A3 => ?_)
        · obtain ⟨b, rfl⟩ : ∃ b, d = .bl b := by
            cases d <;> first | exact ⟨_, rfl⟩ | (simp [isT, tyD] at hB)
          exact st_ret A3 (ev_andV (isi rfl (by simp)) fun _ => ev_one (ev_eqB (ev_var rfl) (ev_var rfl))) fun v d' H6 e A6 r => hrt v H6 A6.j (by rw [e, ← hB] at r; simpa using r)
        · refine st_next (q ?_)
          refine st_if A3 (et_B (isi rfl (by simp))) (fun hI H4 A4 => ?_) (fun hI H4 A4 => ?_)
          · obtain ⟨b, rfl⟩ : ∃ b, d = .int b := by
              cases d <;> first | exact ⟨_, rfl⟩ | (simp [isT, tyD] at hI hB)
            exact st_ret A4 (ev_andV (isi rfl (by simp)) fun _ => ev_andV (ev_notV (isi rfl (by simp))) fun _ => ev_one (ev_eqI (ev_var rfl) (ev_var rfl))) fun v d' H6 e A6 r => hrt v H6 A6.j (by rw [e, ← hI, ← hB] at r; simpa using r)
          · refine st_next ?_
            obtain ⟨b, rfl⟩ : ∃ b, d = .str b := by
              cases d <;> first | exact ⟨_, rfl⟩ | (cases hraw; done) | (cases hp; done) | (simp [isT, tyD, isNon] at hI hB hnt hn)
            exact st_ret A4 (ev_andV (isi rfl (by simp)) fun _ => ev_one (ev_eqS (ev_var rfl) (ev_var rfl))) fun v d' H6 e A6 r => hrt v H6 A6.j (by rw [e] at r; simpa [isT, tyD] using r)
end
/-! ### spread, pool, draw -/
section
variable {P : Program} {w : World} {K : PySem.W.Frag} {mg : Str → Option Value} {base : Heap}
def spreadN (c : Int) : Nat → Int × Int
  | 0 => (c % 2147483647, 1)
  | n + 1 => (((spreadN c n).1 * 48271 + 12345 + (0 + (n : Int))) % 2147483647, (spreadN c n).2 * 2147483647 + ((spreadN c n).1 * 48271 + 12345 + (0 + (n : Int))) % 2147483647)
theorem spreadN_lt (c : Int) : ∀ n, 0 ≤ (spreadN c n).1 ∧ (spreadN c n).1 < 2147483647
  | 0 => ⟨Int.emod_nonneg _ (by decide), Int.emod_lt_of_pos _ (by decide)⟩
  | n + 1 => ⟨Int.emod_nonneg _ (by decide), Int.emod_lt_of_pos _ (by decide)⟩
def RSpread : List D → D → Prop := fun ds r => ∃ c : Int, ds = [.int c] ∧ r = .int (spreadN c 4).2
theorem sc__law_spread : FnScope ["cell", "mixed", "total", "k"] ["cell"] (defScope s__law_spread) := ⟨rfl, rfl, rfl, by decide +kernel, rfl, by decide +kernel, by decide +kernel⟩
theorem ok__law_spread (B : Bi mg) {f : Addr} {fd : FuncData} (F : Fun K "_law_spread" "_law_spread" s__law_spread f fd) : FnOk P w K mg base CX0 1 f fd ["cell"] (SpD K 1 RSpread) := by
  have S := sc__law_spread
  refine fn_ok F S rfl 3 rfl fun cdv A outer s H E hr => ⟨_, ((pss_cons (ps_set (i := 1) S.nd rfl (by first | exact Or.inl rfl | exact Or.inr rfl) (pe_op op_mod (pe_callTy c_int1 (by rfl) B.int (by decide +kernel) (pa_cons (pv 0) pa_nil)) pe_int))
 (pss_cons (ps_set (i := 2) S.nd rfl (by first | exact Or.inl rfl | exact Or.inr rfl) pe_int)
 (pss_cons (ps_for PassesOwn.never rfl (pi_range1 (by rfl) B.range (pa_cons pe_int pa_nil)) (pg_name (i := 3) S.nd rfl (by first | exact Or.inl rfl | exact Or.inr rfl))
 (pss_cons (ps_set (i := 1) S.nd rfl (by first | exact Or.inl rfl | exact Or.inr rfl) (pe_op op_mod (pe_callTy c_int1 (by rfl) B.int (by decide +kernel) (pa_cons (pe_op op_add (pe_op op_add (pe_op op_mul (pv 1) pe_int) pe_int) (pv 3)) pa_nil)) pe_int))
 (pss_one (ps_set (i := 2) S.nd rfl (by first | exact Or.inl rfl | exact Or.inr rfl) (pe_op op_add (pe_op op_mul (pv 2) pe_int) (pv 1))))))
 (pss_one (ps_ret (pv 2))))))), fun φ ds d H D0 σ hl hR hrt hnx A => ?_⟩
  obtain ⟨c, rfl, rfl⟩ := hR
  replace A : At K φ (Same H) [some (.int c), none, none, none] σ H := A
  refine q (st_set A (ev_mod (ev_intI (ev_var rfl)) ev_int (by decide)) fun σ1 H1 A1 => q (st_set A1 ev_int fun σ2 H2 A2 => q ?_))
  refine st_for A2 (it_range1 (ea_cons ev_int ea_nil) (by decide)) (fun i ρ' J' => (∃ o, ρ' = [some (.int c), some (.int (spreadN c i).1), some (.int (spreadN c i).2), o]) ∧ J' = Same H) ⟨⟨none, rfl⟩, rfl⟩ ?_ ?_
  · rintro H4 i x ρ' J' b4 j4 hx ⟨⟨o, rfl⟩, rfl⟩ σ' H' A5
    rw [rangeD_get] at hx
    split at hx
    · cases hx
      have h := spreadN_lt c i
      refine q (st_set A5 (ev_mod (ev_intI (ev_add (ev_add (ev_mul (ev_var rfl) ev_int (.inl (by omega))) ev_int) (ev_var rfl))) ev_int (by decide)) fun σ6 H6 A6 => ?_)
      refine st_set A6 (ev_add (ev_mul (ev_var rfl) ev_int (.inr (by decide))) (ev_var rfl)) fun σ7 H7 A7 => ?_
      exact ⟨_, _, ⟨⟨_, rfl⟩, rfl⟩, A7⟩
    · cases hx
  · rintro H4 ρ' J' σ' H' b4 j4 ⟨⟨o, rfl⟩, rfl⟩ A5
    exact st_ret A5 (ev_var rfl) fun v d' H6 e A6 r => hrt v H6 A6.j.1 (e ▸ r)
/-- a new pool for the script -/
def spPool (K : PySem.W.Frag) : Sp := fun vs H Q _ => ∃ (a : Addr) (ns : List Int), vs = [.ref a] ∧ SqL K H a (ns.map V.int) ∧ ns.length ≤ 63 ∧ ∀ p s H', Same H H' → H p = none → H s = none → s ≠ p → PoolOk p s ns H' → Q (.ref p) H'
theorem sc__law_pool : FnScope ["script", "salt", "cell"] ["script"] (defScope s__law_pool) := ⟨rfl, rfl, rfl, by decide +kernel, rfl, by decide +kernel, by decide +kernel⟩
theorem ok__law_pool (B : Bi mg) {f : Addr} {fd : FuncData} (F : Fun K "_law_pool" "_law_pool" s__law_pool f fd) : FnOk P w K mg base CX0 1 f fd ["script"] (spPool K) := by
  have S := sc__law_pool
  refine F.ok S (fun vs H Q E h => ?_) (fun cdv A outer s H vs Q E hr h => ?_)
  · obtain ⟨a, ns, rfl, _⟩ := h
    rfl
  obtain ⟨a, ns, rfl, hS, hlen, kq⟩ := h
  refine ⟨_, ((pss_cons (ps_set (i := 1) S.nd rfl (by first | exact Or.inl rfl | exact Or.inr rfl) pe_int)
 (pss_cons (ps_for PassesOwn.never rfl (pi_list (pe_slice sl_list (pv 0) po_none (po_some pe_int))) (pg_name (i := 2) S.nd rfl (by first | exact Or.inl rfl | exact Or.inr rfl))
 (pss_one (ps_set (i := 1) S.nd rfl (by first | exact Or.inl rfl | exact Or.inr rfl) (pe_op op_mod (pe_callTy c_int1 (by rfl) B.int (by decide +kernel) (pa_cons (pe_op op_add (pe_op op_mul (pv 1) pe_int) (pv 2)) pa_nil)) pe_int))))
 (pss_one (ps_ret (pe_lst (pa_cons (pe_callTy c_listOf (by rfl) B.list (by decide +kernel) (pa_cons (pv 0) pa_nil)) (pa_cons pe_int (pa_cons pe_int (pa_cons pe_int (pa_cons (pv 1) pa_nil))))))))))), ?_⟩
  have A0 : At K (fun _ => True) (Same H) [some (.lst (ns.map D.int)), none, none] [some (.ref a), none, none] H := by
    have hpl : PL K (fun _ => True) H a (ns.map V.int) := hS.elim (fun z => .inl ⟨trivial, z⟩) .inr
    exact ⟨SR.start (ds := [.lst (ns.map D.int)]) (n := 2) (Reps.cons ⟨a, _, rfl, hpl, Reps.of_ints⟩ Reps.nil), ⟨fun _ _ => trivial, fun _ _ _ => trivial⟩, Same.refl H, Mo.sames fun _ h => h⟩
  refine q (st_set A0 ev_int fun σ1 H1 A1 => q ?_)
  refine st_for A1 (it_list (ev_slL (ev_var rfl) eo_none (eo_some ev_int))) (fun i ρ' J' => (∃ o, ∃ z : Int, 0 ≤ z ∧ z < 1000003 ∧ ρ' = [some (.lst (ns.map D.int)), some (.int z), o]) ∧ J' = Same H) ⟨⟨none, 7, by decide, by decide, rfl⟩, rfl⟩ ?_ ?_
  · rintro H4 i x ρ' J' b4 j4 hx ⟨⟨o, z, hz, hz2, rfl⟩, rfl⟩ σ' H' A5
    obtain ⟨n, rfl⟩ : ∃ n, x = .int n := by
      have hm : x ∈ cutD (ns.map D.int) none (some 63) := List.mem_of_getElem? hx
      have hm2 : x ∈ ns.map D.int := List.mem_of_mem_drop (List.mem_of_mem_take hm)
      obtain ⟨n, _, e⟩ := List.mem_map.mp hm2
      exact ⟨n, e.symm⟩
    refine st_set A5 (ev_mod (ev_intI (ev_add (ev_mul (ev_var rfl) ev_int (.inl (by omega))) (ev_var rfl))) ev_int (by decide)) fun σ7 H7 A7 => ?_
    exact ⟨_, _, ⟨⟨_, _, Int.emod_nonneg _ (by decide), Int.emod_lt_of_pos _ (by decide), rfl⟩, rfl⟩, A7⟩
  · rintro H4 ρ' J' σ' H' b4 j4 ⟨⟨o, z, hz, hz2, rfl⟩, rfl⟩ A5
    refine en_list (ev_var rfl) σ' H' A5 _ fun s vs ds H5 H6 b5 A6 hs b6 A7 e hst r => ?_
    subst e
    have ev : vs = ns.map V.int := r.ints
    subst ev
    obtain ⟨v, ev, rv⟩ := A7.sr.2 1 _ rfl
    cases (show v = _ from rv)
    refine ⟨_, ev, by show 5 ≤ sizeLine; decide, fun p hp => ?_⟩
    have nsp : s ≠ p := ne_of_none hst hp
    refine kq p s _ (A7.j.1.trans (same_new hp)) (Same.free A7.j.1 hp) (Same.free A6.j.1 hs) nsp ⟨0, 0, 0, z, upd_same, ?_, Int.le_refl _⟩
    rw [upd_ne nsp]
    exact hst
/-- the pool's list -/
def plV (s : Addr) (a c n z : Int) : List V := [.ref s, .int a, .int c, .int n, .int z]
theorem sc__law_draw : FnScope ["pool", "many", "cell", "mixed", "value"] ["pool", "many"] (defScope s__law_draw) := ⟨rfl, rfl, rfl, by decide +kernel, rfl, by decide +kernel, by decide +kernel⟩
theorem ok__law_draw (B : Bi mg) {f g : Addr} {fd gd : FuncData} (F : Fun K "_law_draw" "_law_draw" s__law_draw f fd) (L__law_spread : Lk K mg "_law_spread" g gd ["cell"]) (G__law_spread : FnOk P w K mg base CX0 1 g gd ["cell"] (SpD K 1 RSpread)) : FnOk P w K mg base CX0 2 f fd ["pool", "many"] spDraw := by
  have S := sc__law_draw
  refine F.ok S (fun vs H Q E h => ?_) (fun cdv A outer s H vs Q E hr h => ?_)
  · obtain ⟨p, s, ns, n, rfl, _⟩ := h
    rfl
  obtain ⟨p, s, ns, many, rfl, ⟨a0, c0, n0, z0, hp, hs, ha0⟩, nsp, hm0, hm1, kq⟩ := h
  refine ⟨_, ((C8.pss_cut (ps_if (PW.pt (pw_and (pt_cmpR op_le (pe_ix ix_list (pv 0) pe_int (fun _ _ => rfl)) pe_int (nomark _)) (pw_and1 (pt_cmpR op_lt (pe_ix ix_list (pv 0) pe_int (fun _ _ => rfl)) (pe_callB c_len (by rfl) B.len (by decide +kernel) (pa_cons (pe_ix ix_list (pv 0) pe_int (fun _ _ => rfl)) pa_nil)) (nomark _)))))
 (pss_cons (ps_set (i := 2) S.nd rfl (by first | exact Or.inl rfl | exact Or.inr rfl) (pe_ix ix_list (pe_ix ix_list (pv 0) pe_int (fun _ _ => rfl)) (pe_ix ix_list (pv 0) pe_int (fun _ _ => rfl)) (fun _ _ => rfl)))
 (pss_cons (ps_asg (pe_op op_add (pe_ix ix_list (pv 0) pe_int (fun _ _ => rfl)) pe_int) (pg_sub (pv 0) pe_int set_list))
 (pss_cons (ps_asg (pv 2) (pg_sub (pv 0) pe_int set_list))
 (pss_one (ps_if (pt_cmpR op_lt (pv 2) pe_int (nomark _))
 (pss_one (ps_asg (pe_call G__law_spread (hr.mono (by first | exact Nat.le_refl _ | decide | omega)) (by rfl) L__law_spread.m L__law_spread.kp L__law_spread.bi .nil pass0 (pa_cons (pv 2) pa_nil)) (pg_sub (pv 0) pe_int set_list)))
 pss_nil)))))
 pss_nil)
 (pss_cons (ps_asg (pe_op op_add (pe_ix ix_list (pv 0) pe_int (fun _ _ => rfl)) pe_int) (pg_sub (pv 0) pe_int set_list))
 (pss_cons (ps_if (pt_cmpR op_le (pe_ix ix_list (pv 0) pe_int (fun _ _ => rfl)) pe_int (nomark _))
 (pss_cons (ps_set (i := 3) S.nd rfl (by first | exact Or.inl rfl | exact Or.inr rfl) (pe_op op_mod (pe_callTy c_int1 (by rfl) B.int (by decide +kernel) (pa_cons (pe_op op_add (pe_op op_add (pe_op op_mul (pe_ix ix_list (pv 0) pe_int (fun _ _ => rfl)) pe_int) (pe_op op_mul (pe_ix ix_list (pv 0) pe_int (fun _ _ => rfl)) pe_int)) pe_int) pa_nil)) pe_int))
 (pss_cons (ps_set (i := 3) S.nd rfl (by first | exact Or.inl rfl | exact Or.inr rfl) (pe_op op_mod (pe_callTy c_int1 (by rfl) B.int (by decide +kernel) (pa_cons (pe_op op_add (pe_op op_mul (pv 3) pe_int) (pe_ix ix_list (pv 0) pe_int (fun _ _ => rfl))) pa_nil)) pe_int))
 (pss_one (ps_ret (pe_op op_mod (pe_op op_fdiv (pv 3) pe_int) (pv 1))))))
 pss_nil)
 (pss_cons (ps_set (i := 4) S.nd rfl (by first | exact Or.inl rfl | exact Or.inr rfl) (pe_op op_mod (pe_callTy c_int1 (by rfl) B.int (by decide +kernel) (pa_cons (pe_ix ix_list (pv 0) pe_int (fun _ _ => rfl)) pa_nil)) (pv 1)))
 (pss_cons (ps_asg (pe_op op_fdivW (pe_ix ix_list (pv 0) pe_int (fun _ _ => rfl)) (pv 1)) (pg_sub (pv 0) pe_int set_list))
 (pss_one (ps_ret (pv 4))))))))), ?_⟩
  let φ : Addr → Prop := fun a => a ≠ p
  let JJ : Int → Int → Int → Hp → Prop := fun a c n H' => H' p = some (.lst (plV s a c n z0)) ∧ But φ H H'
  have trp : ∀ {H' : Hp}, But φ H H' → H' p ≠ none := fun b => b.tr p (by rw [hp]; exact fun z => by cases z)
  have moJ : ∀ {a c n : Int} {H' : Hp}, But φ H H' → Mo H' (JJ a c n) := fun b => (Mo.at (trp b)).and (Mo.but b.tr)
  have nφ : ¬ φ p := fun z => z rfl
  have updA : ∀ {a c n a' c' n' : Int} {ρ : List (Option D)} {σ : L2.St} {H' : Hp}, At K φ (JJ a c n) ρ σ H' → At K φ (JJ a' c' n') ρ σ (L2.upd H' p (.lst (plV s a' c' n' z0))) := fun {a c n a' c' n' ρ σ H'} A =>
    A.upd nφ ⟨upd_same, A.j.2.upd nφ⟩ (moJ (A.j.2.upd nφ))
  have A0 : At K φ (JJ a0 c0 n0) [some (.raw (.ref p)), some (.int many), none, none, none] [some (.ref p), some (.int many), none, none, none] H :=
    ⟨SR.start (ds := [.raw (.ref p), .int many]) (n := 3) (Reps.cons rfl (Reps.cons rfl Reps.nil)), ⟨fun a h z => (by rw [z, hp] at h; cases h), fun a xs h z => (by rw [z, hp] at h; cases h)⟩, ⟨hp, But.refl _ _⟩, moJ (But.refl _ _)⟩
  -- the pool's cells
  have ix : ∀ {a c n : Int} {ρ : List (Option D)} {i : Int} {d : D} {v : V}, ρ[0]? = some (some (.raw (.ref p))) → atI (plV s a c n z0) i = some v → (∀ H', Rep K φ H' d v) → EvD K φ (JJ a c n) (tOp (rIxL K) (tVar 0) (tC (.int i))) ρ d := fun h e r => ev_ixLive (ev_var h) ev_int fun H' j => ⟨_, j.1, _, e, r H'⟩
  have fin : ∀ {a c n : Int} {ρ : List (Option D)} {σ : L2.St} {H' : Hp} {r : Int}, At K φ (JJ a c n) ρ σ H' → 0 ≤ a → 0 ≤ r → r < many → Q (.int r) H' := fun {a c n ρ σ H' r} A ha h0 h1 =>
    kq r H' h0 h1 (fun b o nb e => A.j.2.keep b o nb e) ⟨a, c, n, z0, A.j.1, A.j.2.keep _ _ nsp hs, ha⟩
  refine q_cut (M := fun σ' H' => ∃ a c o, 0 ≤ a ∧ At K φ (JJ a c n0) [some (.raw (.ref p)), some (.int many), o, none, none] σ' H') ?_ ?_
  · refine st_if A0 (et_and (et_test (ev_le (ix rfl rfl fun _ => rfl) ev_int)) fun _ => et_test (ev_lt (ix rfl rfl fun _ => rfl) (ev_lenLive (ix rfl rfl fun _ => rfl) fun H' j => j.2.keep _ _ nsp hs))) (fun hb H1 A1 => ?_) (fun hb H1 A1 => ⟨a0, c0, none, ha0, A1⟩)
    have hlt : a0 < ((ns.map V.int).length : Nat) := by
      have h1 := hb.symm
      rw [Bool.and_eq_true] at h1
      exact of_decide_eq_true h1.2
    have hltn : a0.toNat < ns.length := by rw [List.length_map] at hlt; omega
    have hat : atI (ns.map V.int) a0 = some (.int ns[a0.toNat]) := by
      have z := atI_ofNat (xs := ns.map V.int) (i := a0.toNat) (x := .int ns[a0.toNat]) (by rw [List.getElem?_map, List.getElem?_eq_getElem hltn]; rfl)
      rw [Int.toNat_of_nonneg ha0] at z
      exact z
    refine q (st_set A1 (ev_ixLive (d := .int ns[a0.toNat]) (ix rfl rfl fun _ => rfl) (ix rfl rfl fun _ => rfl) fun H' j => ⟨_, j.2.keep _ _ nsp hs, _, hat, rfl⟩) fun σ2 H2 A2 => q ?_)
    refine st_setL (n := 1) A2 (ev_add (ix rfl rfl fun _ => rfl) ev_int) rfl ev_int (fun H' j => j.1) rfl fun v d H3 e r b A3 => ?_
    subst e
    cases (show v = _ from r)
    have A4 : At K φ (JJ (a0 + 1) c0 n0) [some (.raw (.ref p)), some (.int many), some (.int ns[a0.toNat]), none, none] σ2 _ := updA (a' := a0 + 1) (c' := c0) (n' := n0) A3
    refine q (st_setL (n := 2) A4 (ev_var rfl) rfl ev_int (fun H' j => j.1) rfl fun v d H5 e r b A5 => ?_)
    subst e
    cases (show v = _ from r)
    have A6 : At K φ (JJ (a0 + 1) ns[a0.toNat] n0) [some (.raw (.ref p)), some (.int many), some (.int ns[a0.toNat]), none, none] σ2 _ := updA (a' := a0 + 1) (c' := ns[a0.toNat]) (n' := n0) A5
    refine st_if A6 (et_test (ev_lt (ev_var rfl) ev_int)) (fun _ H7 A7 => ?_) (fun _ H7 A7 => ⟨_, _, _, by omega, A7⟩)
    refine st_setL (n := 2) A7 (ev_callD (ea_cons (ev_var rfl) ea_nil) ⟨_, rfl, rfl⟩) rfl ev_int (fun H' j => j.1) rfl fun v d H8 e r b A8 => ?_
    subst e
    cases (show v = _ from r)
    exact ⟨a0 + 1, (spreadN ns[a0.toNat] 4).2, _, by omega, updA (a' := a0 + 1) (n' := n0) A8⟩
  · rintro σ1 H1 ⟨a, c, o, ha, A1⟩
    refine q (st_setL (n := 3) A1 (ev_add (ix rfl rfl fun _ => rfl) ev_int) rfl ev_int (fun H' j => j.1) rfl fun v d H3 e r b A3 => ?_)
    subst e
    cases (show v = _ from r)
    have A4 : At K φ (JJ a c (n0 + 1)) [some (.raw (.ref p)), some (.int many), o, none, none] σ1 _ := updA (a' := a) (c' := c) (n' := n0 + 1) A3
    refine q (st_if A4 (et_test (ev_le (ix rfl rfl fun _ => rfl) ev_int)) (fun _ H5 A5 => ?_) (fun hc H5 A5 => st_next ?_))
    · refine q (st_set A5 (ev_mod (ev_intI (ev_add (ev_add (ev_mul (ix rfl rfl fun _ => rfl) ev_int (.inr (by decide))) (ev_mul (ix rfl rfl fun _ => rfl) ev_int (.inr (by decide)))) ev_int)) ev_int (by decide)) fun σ6 H6 A6 => q ?_)
      refine st_set A6 (ev_mod (ev_intI (ev_add (ev_mul (ev_var rfl) ev_int (.inr (by decide))) (ix rfl rfl fun _ => rfl))) ev_int (by decide)) fun σ7 H7 A7 => ?_
      refine st_ret A7 (ev_mod (ev_fdiv (ev_var rfl) ev_int ⟨by decide, by decide⟩) (ev_var rfl) hm0) fun v d H8 e A8 r => ?_
      subst e
      cases (show v = _ from r)
      exact fin A8 ha (Int.emod_nonneg _ (by omega)) (Int.emod_lt_of_pos _ hm0)
    · refine q (st_set A5 (ev_mod (ev_intI (ix rfl rfl fun _ => rfl)) (ev_var rfl) hm0) fun σ6 H6 A6 => q ?_)
      refine st_setL (n := 2) A6 (ev_fdivW (ix rfl rfl fun _ => rfl) (ev_var rfl) ⟨hm0, (Nat.log2_lt (by omega)).mpr (Nat.lt_of_lt_of_le (show _ < 2 ^ 32 by omega) (Nat.pow_le_pow_right (by decide) (by decide)))⟩) rfl ev_int (fun H' j => j.1) rfl fun v d H8 e r b A8 => ?_
      subst e
      cases (show v = _ from r)
      have A9 : At K φ (JJ a (c / many) (n0 + 1)) [some (.raw (.ref p)), some (.int many), o, none, some (.int (c % many))] σ6 _ := updA (a' := a) (c' := c / many) (n' := n0 + 1) A8
      refine st_ret A9 (ev_var rfl) fun v d H10 e A10 r => ?_
      subst e
      cases (show v = _ from r)
      exact fin A10 ha (Int.emod_nonneg _ (by omega)) (Int.emod_lt_of_pos _ hm0)
end
def spLaw (K : PySem.W.Frag) : Sp := fun vs H Q _ => ∃ (a : Addr) (ns : List Int), vs = [.ref a] ∧ SqL K H a (ns.map V.int) ∧ ns.length ≤ 63 ∧ ∀ H', Q (.bl true) H'
/-- behind the making of the pool -/
def JP (p s : Addr) (ns : List Int) : Hp → Prop := PoolOk p s ns
theorem mo_pool {p s : Addr} {ns : List Int} {H : Hp} (hp : H p ≠ none) (hs : H s ≠ none) : Mo H (PoolOk p s ns) := fun H1 H2 k j => by
  obtain ⟨a, c, n, z, e1, e2, h⟩ := j
  exact ⟨a, c, n, z, k p _ hp e1, k s _ hs e2, h⟩
theorem mo_poolOf {p s : Addr} {ns : List Int} {H : Hp} (j : PoolOk p s ns H) : Mo H (PoolOk p s ns) := by
  obtain ⟨_, _, _, _, e1, e2, _⟩ := id j
  exact mo_pool (by rw [e1]; exact fun z => by cases z) (by rw [e2]; exact fun z => by cases z)
theorem mo_of {p s : Addr} {ns : List Int} {φ : Addr → Prop} {H H2 : Hp} (j : PoolOk p s ns H ∧ But φ H2 H) : Mo H (fun H => PoolOk p s ns H ∧ But φ H2 H) := (mo_poolOf j.1).and (Mo.but j.2.tr)
theorem pooled {p s : Addr} {ns : List Int} {φ : Addr → Prop} (np : ¬ φ p) (ne : s ≠ p) : Pooled φ (PoolOk p s ns) p s ns := ⟨np, ne, fun _ h => h, fun _ _ _ _ o => o⟩
section
variable {K : PySem.W.Frag} {D0 : Ends} {σ : L2.St} {H : Hp} {ρ : List (Option D)}
/-- pool = _law_pool(script), the first row of a law: from then on only the pool is live -/
theorem st_pool {E : XK} {k n : Nat} {a : Addr} {ns : List Int} (hS : SqL K H a (ns.map V.int)) (hl : ns.length ≤ 63) (h0 : σ[0]? = some (some (.ref a))) (hk : σ.length = n) (hkn : k < n)
    (kk : ∀ p s σ' H', s ≠ p → At K (fun b => b ≠ p) (PoolOk p s ns) ((List.replicate n none).set k (some (.raw (.ref p)))) σ' H' → D0.nx σ' H') : tAsg (tCall (spPool K) [] E (tCons (tVar 0) tNil)) (gName k) D0 σ H := by
  refine ⟨_, h0, a, ns, rfl, hS, hl, fun p s H' sm hp hs ne po => ?_⟩
  have hp' : H' p ≠ none := by obtain ⟨_, _, _, _, e, _⟩ := po; rw [e]; exact fun z => by cases z
  have hs' : H' s ≠ none := by obtain ⟨_, _, _, _, _, e, _⟩ := po; rw [e]; exact fun z => by cases z
  refine kk p s _ H' ne ⟨⟨by rw [List.length_set, List.length_set, List.length_replicate]; exact hk, fun i d hd => ?_⟩, ⟨fun b hb z => hp' (z ▸ hb), fun b xs hb z => by obtain ⟨_, _, _, _, e, _⟩ := po; rw [z, e] at hb; cases hb⟩, po, mo_pool hp' hs'⟩
  by_cases e : k = i
  · subst e
    rw [List.getElem?_set_self (by rw [List.length_replicate]; exact hkn)] at hd
    cases hd
    exact ⟨_, List.getElem?_set_self (by rw [hk]; exact hkn), rfl⟩
  · rw [List.getElem?_set_ne e, List.getElem?_replicate] at hd
    split at hd <;> cases hd
end

/-! ### defs that take the pool ahead of other values -/
theorem ButP.trans {p : Addr} {H H' H2 : Hp} (a : ButP p H H') (b : ButP p H' H2) : ButP p H H2 := fun x o n e => b x o n (a x o n e)
theorem ButP.of {p : Addr} {H H' : Hp} (s : Same H H') : ButP p H H' := fun x o _ e => s x o e
def SpP (K : PySem.W.Frag) (n : Nat) (Pre : List D → Prop) (R : List D → D → Prop) : Sp := fun vs H Q _ => ∃ φ p s ns ds ws, vs = .ref p :: ws ∧ ds.length = n ∧ Reps K φ H ds ws ∧ Frm φ H ∧ ¬ φ p ∧ s ≠ p ∧ PoolOk p s ns H ∧ Pre ds ∧
  ∀ v d H', R ds d → ButP p H H' → PoolOk p s ns H' → Rep K φ H' d v → Q v H'
section
variable {K : PySem.W.Frag} {φ φ' : Addr → Prop} {J J' : Hp → Prop} {H H' H1 : Hp} {ρ ρ' : List (Option D)} {σ : L2.St} {ta : TA} {te tb : TE} {x y z d : D} {P Pa Pb : D → Prop} {ds es : List D} {v : V} {D0 : Ends} {t u : TS}
theorem mo_butP {p : Addr} {H0 : Hp} (h : ∀ a, H0 a ≠ none → H a ≠ none) : Mo H (ButP p H0) := fun H1 H2 k j a o n e => k a o (h a (by rw [e]; exact fun z => by cases z)) (j a o n e)
theorem butP_tr {p s : Addr} {ns : List Int} (b : ButP p H H') (o : PoolOk p s ns H') : ∀ a, H a ≠ none → H' a ≠ none := fun a h => by
  by_cases e : a = p
  · obtain ⟨_, _, _, _, e1, _⟩ := o
    rw [e, e1]
    exact fun z => by cases z
  · cases q : H a with
    | none => exact absurd q h
    | some u => rw [b a u e q]; exact fun z => by cases z
abbrev JB (p s : Addr) (ns : List Int) (H0 : Hp) : Hp → Prop := fun H' => PoolOk p s ns H' ∧ ButP p H0 H'
theorem pooledB {p s : Addr} {ns : List Int} {H0 : Hp} (np : ¬ φ p) (ne : s ≠ p) : Pooled φ (JB p s ns H0) p s ns := ⟨np, ne, fun _ h => h.1, fun _ _ h k o => ⟨o, h.2.trans k⟩⟩
theorem ev_callP {n k : Nat} {Pre Pr : List D → Prop} {R : List D → D → Prop} {E : XK} {p s : Addr} {ns : List Int} (hp : Pooled φ J p s ns) (hk : ρ[k]? = some (some (.raw (.ref p)))) (ha : EvA K φ J ta ρ Pr) (hr : ∀ ds, Pr ds → ds.length = n ∧ Pre ds) :
    EvP K φ J (tCall (SpP K n Pre R) [] E (tCons (tVar k) ta)) ρ (fun d => ∃ ds, Pr ds ∧ R ds d) := fun σ H A Q q =>
  ev_var hk σ H A _ fun v d H1 b1 A1 e1 r1 => ha σ H1 A1 _ fun vs ds H2 b2 A2 pd r2 => by
    subst e1
    cases (show v = _ from r1)
    obtain ⟨hl, pre⟩ := hr ds pd
    refine ⟨φ, p, s, ns, ds, vs, by rw [List.append_nil], hl, r2, A2.fr, hp.np, hp.ne, hp.ok _ A2.j, pre, fun v d H' rd bp po r => ?_⟩
    have bt : But φ H2 H' := butP_but bp hp.np po
    have bt' : ∀ a, H2 a ≠ none → H' a ≠ none := bt.tr
    refine q v d H' ((b1.trans b2).trans bt) ⟨A2.sr.up (Up.of bt), A2.fr.butP bp po bt', hp.st _ _ A2.j bp po, A2.mono.up bt'⟩ ⟨ds, pd, rd⟩ r
section
variable {PP : Program} {w : World} {mg : Str → Option Value} {base : Heap}
/-- .. keeps its promise -/
theorem fn_okP {x qual : Str} {st : Stmt} {f : Addr} {fd : FuncData} {N ps : List Str} {k n : Nat} {Pre : List D → Prop} {R : List D → D → Prop} (F : Fun K x qual st f fd) (S : FnScope N ps (defScope st)) (hn : ps.length = n + 1) (m : Nat) (hm : N.length = n + 1 + m)
    (hbody : ∀ (cdv : Value) (A : Around) (outer : List Env) (s : Shared) (H : Hp) (E : XK), Room k (A.deeper (envOfC qual (defScope st) s.heap.objs.size f cdv)) →
      ∃ t, PSs (cxOf CX0 PP w K mg base N qual (defScope st) f cdv A outer s H E).nox (defBody st) t ∧
        ∀ (φ : Addr → Prop) (p q : Addr) (ns : List Int) (ds : List D) (H : Hp) (D0 : Ends) (σ : L2.St), ds.length = n → Pre ds → ¬ φ p → q ≠ p → (∀ v d H', R ds d → JB p q ns H H' → Rep K φ H' d v → D0.rt v H') → At K φ (JB p q ns H) (some (.raw (.ref p)) :: (ds.map some ++ List.replicate m none)) σ H → t D0 σ H) :
    FnOk PP w K mg base CX0 (k + 1) f fd ps (SpP K n Pre R) := by
  refine F.ok S (fun vs H Q E h => ?_) (fun cdv A outer s H vs Q E hr h => ?_)
  · obtain ⟨φ, p, s, ns, ds, ws, rfl, hl, r, _⟩ := h
    rw [List.length_cons, r.length, hl, hn]
  · obtain ⟨φ, p, s', ns, ds, ws, rfl, hl, r, fr, np, ne, po, pre, q⟩ := h
    obtain ⟨t, ht, run⟩ := hbody cdv A outer s H E hr
    refine ⟨t, ht, run φ p s' ns ds H _ _ hl pre np ne (fun v d H' rd j r => q v d H' rd j.2 j.1 r) ⟨?_, fr, ⟨po, ButP.of (Same.refl H)⟩, (mo_poolOf po).and (mo_butP fun _ h => h)⟩⟩
    have e : N.length - (V.ref p :: ws).length = m := by rw [hm, List.length_cons, r.length, hl]; omega
    unfold L2.start
    rw [e]
    have z := SR.start (K := K) (φ := φ) (H := H) (ds := .raw (.ref p) :: ds) (vs := .ref p :: ws) (n := m) (Reps.cons rfl r)
    exact z
end
end

-- import HandS.Exc
-- import HandS.ExcOwn
/-! ### o.m(..) of a method that may raise, at the caller's slots -/
def tMethX (C : Addr) (m : Str) (sp : Sp) (E : L2.St → XK) (ta : TE) (t : TA) : TE := fun σ H Q => ta σ H fun x H1 => ∃ a dx fs, x = .ref a ∧ H1 a = some (.ins C dx fs) ∧ fs.lookup m = none ∧ t σ H1 fun vs H2 => sp (x :: vs) H2 Q (E σ)
section
variable {X : Cx} {CX : CXT} {k : Nat} {f C : Addr} {fd : FuncData} {ps : List Str} {sp : Sp} {E : L2.St → XK} {m : Str} {pos apos : Pos} {e o : Expr} {es : List Expr} {ta : TE} {t : TA}
theorem pe_methX {pl : Sem Bool} (he : PE X o ta) (c : Cls X.K C) (hm : Meth X.K C m f) (F : FnOk X.prog X.w X.K X.mg X.base CX k f fd ps sp) (hr : Room k X.A) (hb : Binds X.K fd ps []) (hx : ∀ σ, PassesAt CX X σ (E σ)) (ha : PA X (e :: es) t)
    (hst : starEach (e :: es) X.env = (false, eval e X.env) :: starEach es X.env := by rfl) (hpl : (backTo pos (starEach es X.env)).any (·.1) = false := by rfl)
    (ht : eval (.Call (.Attribute o m apos) (e :: es) [] pos) X.env = (do
      let ov ← eval o X.env
      standAt apos.atName
      let (f, first) ← holding [ov] (getMethod ov m pl)
      callWith pos f first (backTo pos (starEach (e :: es) X.env)) (backToKw pos (keywordEach [] X.env))) := by rfl) :
    PE X (.Call (.Attribute o m apos) (e :: es) [] pos) (tMethX C m sp E ta t) := by
  refine ⟨fun pins s σ H Q I h => ?_⟩
  refine PySem.W.methodCall_KW (pl := pl) (thn (he.run pins s σ H _ I h) fun u s1 ⟨x, H1, I1, rx, a, dx, fs, ex, ea, l, q⟩ => ?_) ht
  subst ex
  obtain rfl : u = Value.ref a := rx
  refine getmeth_ok I1 ea c hm l ?_
  refine PySem.W.callWith_K (first := [.ref a]) (h₀ := X.base) I.ok.mod.kin hm.kp (thn (ha.run pos pins s1 σ H1 _ I1 q) fun us s2 ⟨vs, H2, I2, r, q2⟩ => ⟨I2.kIn, ?_⟩) hst hpl
  exact run_fnS (us := .ref a :: us) (vs := .ref a :: vs) F hr hb (hx σ) I2 (.cons rfl r) q2
theorem pe_methX0 {pl : Sem Bool} (he : PE X o ta) (c : Cls X.K C) (hm : Meth X.K C m f) (F : FnOk X.prog X.w X.K X.mg X.base CX k f fd ps sp) (hr : Room k X.A) (hb : Binds X.K fd ps []) (hx : ∀ σ, PassesAt CX X σ (E σ))
    (ht : eval (.Call (.Attribute o m apos) [] [] pos) X.env = (do
      let ov ← eval o X.env
      standAt apos.atName
      let (f, first) ← holding [ov] (getMethod ov m pl)
      callWith pos f first (backTo pos (starEach [] X.env)) (backToKw pos (keywordEach [] X.env))) := by rfl) :
    PE X (.Call (.Attribute o m apos) [] [] pos) (tMethX C m sp E ta tNil) := by
  refine ⟨fun pins s σ H Q I h => ?_⟩
  refine PySem.W.methodCall_KW (pl := pl) (thn (he.run pins s σ H _ I h) fun u s1 ⟨x, H1, I1, rx, a, dx, fs, ex, ea, l, q⟩ => ?_) ht
  subst ex
  obtain rfl : u = Value.ref a := rx
  refine getmeth_ok I1 ea c hm l ?_
  exact PySem.W.callWith_K0 (first := [.ref a]) I1.kIn hm.kp (run_fnS (us := [.ref a]) (vs := [.ref a]) F hr hb (hx σ) I1 (.cons rfl .nil) q)
end
/-! ### an instance that its methods change: a family of what is told, by its state -/
section
variable {K : PySem.W.Frag} {φ φ' : Addr → Prop} {H H' H0 H1 : Hp} {p C dx : Addr} {o : HO}
theorem butP_trI (b : ButP p H H') (e : H' p = some o) : ∀ a, H a ≠ none → H' a ≠ none := fun a h => by
  by_cases z : a = p
  · rw [z, e]; exact fun z => by cases z
  · cases q : H a with
    | none => exact absurd q h
    | some u => rw [b a u z q]; exact fun z => by cases z
theorem butP_butI (np : ¬ φ p) (b : ButP p H H') (e : H' p = some o) : But φ H H' := ⟨fun a u pa h => b a u (fun z => np (z ▸ pa)) h, butP_trI b e⟩
theorem Frm.butI (F : Frm φ H) (b : ButP p H H') (e : H' p = some o) (no : ∀ xs, o ≠ .tup xs) : Frm φ H' := ⟨fun a h => F.new a (by
  cases q : H a with
  | none => rfl
  | some u => exact absurd h (butP_trI b e a (by rw [q]; exact fun z => by cases z))), fun a xs h => by
  cases q : H a with
  | none => exact F.new a q
  | some u =>
    by_cases z : a = p
    · rw [z, e] at h
      exact absurd (Option.some.inj h) (no xs)
    · have w := b a u z q
      rw [h] at w
      cases w
      exact F.tup a xs q⟩
end
structure ObjF {ι : Type} (K : PySem.W.Frag) (φ : Addr → Prop) (p C dx : Addr) (F : ι → List (Str × V)) (sd : List D) (sv : List V) (J : ι → Hp → Prop) : Prop where
  np : ¬ φ p
  at_ : ∀ i H, J i H → H p = some (.ins C dx (F i))
  sr : ∀ i H, J i H → Reps K φ H sd sv
  st : ∀ i i' H H', J i H → ButP p H H' → H' p = some (.ins C dx (F i')) → J i' H'
  mo : ∀ i H, J i H → Mo H (J i)
section
variable {ι : Type} {K : PySem.W.Frag} {φ φ' : Addr → Prop} {J : ι → Hp → Prop} {Jb : Hp → Prop} {H H' H0 H1 : Hp} {p C dx : Addr} {F : ι → List (Str × V)} {G : List V → ι → List (Str × V)} {sd ds : List D} {sv : List V} {ρ : List (Option D)} {σ : L2.St} {i i' i1 i2 : ι} {d : D} {te tv : TE} {ta : TA} {E : XK} {D0 : Ends} {c : Addr} {m f : Str}
theorem At.obj (T : ObjF K φ p C dx F sd sv J) (A : At K φ (J i) ρ σ H) (b : ButP p H H') (e : H' p = some (.ins C dx (F i'))) : At K φ (J i') ρ σ H' :=
  ⟨A.sr.up (Up.of (butP_butI T.np b e)), A.fr.butI b e (fun xs h => nomatch h), T.st _ _ _ _ A.j b e, T.mo _ _ (T.st _ _ _ _ A.j b e)⟩
theorem ObjF.but (T : ObjF K φ p C dx F sd sv J) : ObjF K φ p C dx F sd sv (fun i H => J i H ∧ But φ H1 H) := ⟨T.np, fun i H h => T.at_ i H h.1, fun i H h => T.sr i H h.1, fun i i' H H' h b e => ⟨T.st i i' H H' h.1 b e, h.2.trans (butP_butI T.np b e)⟩, fun i H h => (T.mo i H h.1).and (Mo.but h.2.tr)⟩
/-- what an expression comes to where the instance may change, and where it may raise -/
def EvM (K : PySem.W.Frag) (φ : Addr → Prop) (J : ι → Hp → Prop) (E : XK) (te : TE) (ρ : List (Option D)) (i : ι) (o : (D × ι) ⊕ Addr) : Prop := ∀ σ H, At K φ (J i) ρ σ H → ∀ Q : VK,
  (∀ d i', o = .inl (d, i') → ∀ v H', But φ H H' → At K φ (J i') ρ σ H' → Rep K φ H' d v → Q v H') → (∀ c, o = .inr c → ∀ i' H', But φ H H' → At K φ (J i') ρ σ H' → E (.ref c) none H') → te σ H Q
def EvMA (K : PySem.W.Frag) (φ : Addr → Prop) (J : ι → Hp → Prop) (E : XK) (ta : TA) (ρ : List (Option D)) (i : ι) (o : (List D × ι) ⊕ Addr) : Prop := ∀ σ H, At K φ (J i) ρ σ H → ∀ Q : List V → Hp → Prop,
  (∀ ds i', o = .inl (ds, i') → ∀ vs H', But φ H H' → At K φ (J i') ρ σ H' → Reps K φ H' ds vs → Q vs H') → (∀ c, o = .inr c → ∀ i' H', But φ H H' → At K φ (J i') ρ σ H' → E (.ref c) none H') → ta σ H Q
theorem em_of (h : EvD K φ (J i) te ρ d) : EvM K φ J E te ρ i (.inl (d, i)) := fun σ H A Q k _ => h σ H A Q fun v d' H' b A' e r => by
  subst e
  exact k _ _ rfl v H' b A' r
theorem ema_of (h : EvAD K φ (J i) ta ρ ds) : EvMA K φ J E ta ρ i (.inl (ds, i)) := fun σ H A Q k _ => h σ H A Q fun v d' H' b A' e r => by
  subst e
  exact k _ _ rfl v H' b A' r
theorem ema_nil : EvMA K φ J E tNil ρ i (.inl ([], i)) := fun σ H A Q k _ => k _ _ rfl [] H (But.refl _ _) A rfl
theorem ema_cons (h : EvM K φ J E te ρ i (.inl (d, i1))) (hs : EvMA K φ J E ta ρ i1 (.inl (ds, i2))) : EvMA K φ J E (tCons te ta) ρ i (.inl (d :: ds, i2)) := fun σ H A Q k _ =>
  h σ H A _ (fun d' i' e v H1 b1 A1 r1 => by
    cases e
    exact hs σ H1 A1 _ (fun ds' i'' e vs H2 b2 A2 r2 => by
      cases e
      exact k _ _ rfl (v :: vs) H2 (b1.trans b2) A2 (Reps.cons (r1.mono b2) r2)) fun c e => nomatch e) fun c e => nomatch e
theorem ema_bad1 (h : EvM K φ J E te ρ i (.inr c)) : EvMA K φ J E (tCons te ta) ρ i (.inr c) := fun σ H A Q _ bad => h σ H A _ (fun d' i' e => nomatch e) fun c' e i' H' b A' => by
  cases e
  exact bad _ rfl i' H' b A'
theorem ema_bad2 (h : EvM K φ J E te ρ i (.inl (d, i1))) (hs : EvMA K φ J E ta ρ i1 (.inr c)) : EvMA K φ J E (tCons te ta) ρ i (.inr c) := fun σ H A Q _ bad =>
  h σ H A _ (fun d' i' e v H1 b1 A1 r1 => by
    cases e
    exact hs σ H1 A1 _ (fun ds' i'' e => nomatch e) fun c' e i' H' b A' => by
      cases e
      exact bad _ rfl i' H' (b1.trans b) A') fun c e => nomatch e
theorem em_tup (h : EvMA K φ J E ta ρ i (.inl (ds, i'))) (hl : ds.length ≤ 1000000) : EvM K φ J E (tTup ta) ρ i (.inl (.tup ds, i')) := fun σ H A Q k _ => h σ H A _ (fun ds' i1 e vs H1 b1 A1 r1 => by
  cases e
  exact ⟨by rw [r1.length]; exact sz hl, fun p hp => k _ _ rfl _ _ (b1.trans (But.of (same_new hp))) (A1.same (same_new hp)) ⟨p, vs, rfl, .inl ⟨A1.fr p hp, .inl upd_same⟩, r1.mono (But.of (same_new hp))⟩⟩) fun c e => nomatch e
theorem em_tup_bad (h : EvMA K φ J E ta ρ i (.inr c)) : EvM K φ J E (tTup ta) ρ i (.inr c) := fun σ H A Q _ bad => h σ H A _ (fun d' i' e => nomatch e) fun c' e i' H' b A' => by
  cases e
  exact bad _ rfl i' H' b A'
theorem em_cb {r : List V → Hp → VK → Prop} (h : EvMA K φ J E ta ρ i (.inl (ds, i'))) (hc : Cl K φ r ds (fun x => x = d)) : EvM K φ J E (tCB r ta) ρ i (.inl (d, i')) := fun σ H A Q k _ => h σ H A _ (fun ds' i1 e vs H1 b1 A1 r1 => by
  cases e
  exact hc H1 vs A1.fr r1 Q fun u z H2 s2 e r => by
    subst e
    exact k _ _ rfl u H2 (b1.trans (But.of s2)) (A1.same s2) r) fun c e => nomatch e
theorem em_cb_bad {r : List V → Hp → VK → Prop} (h : EvMA K φ J E ta ρ i (.inr c)) : EvM K φ J E (tCB r ta) ρ i (.inr c) := fun σ H A Q _ bad => h σ H A _ (fun d' i' e => nomatch e) fun c' e i' H' b A' => by
  cases e
  exact bad _ rfl i' H' b A'
theorem em_tupL (h : EvM K φ J E te ρ i (.inl (.lst ds, i'))) : EvM K φ J E (tCB (rTupOf K) (tCons te tNil)) ρ i (.inl (.tup ds, i')) := em_cb (ema_cons h ema_nil) cl_tupL
/-- the promise of a method: what it is told, the state behind it, or a class of exceptions -/
def SpO (K : PySem.W.Frag) (C : Addr) (G : List V → ι → List (Str × V)) (n : Nat) (R : List D → ι → List D → (D × ι) ⊕ Addr → Prop) : Sp := fun vs H Q E => ∃ φ p dx sd sv i ds ws o, vs = .ref p :: ws ∧ ds.length = n ∧ Reps K φ H ds ws ∧ Reps K φ H sd sv ∧ Frm φ H ∧ ¬ φ p ∧ H p = some (.ins C dx (G sv i)) ∧ R sd i ds o ∧
  (∀ d i', o = .inl (d, i') → ∀ v H', ButP p H H' → H' p = some (.ins C dx (G sv i')) → Rep K φ H' d v → Q v H') ∧ (∀ c, o = .inr c → ∀ i' H', ButP p H H' → H' p = some (.ins C dx (G sv i')) → E (.ref c) none H')
theorem em_meth {n k : Nat} {R : List D → ι → List D → (D × ι) ⊕ Addr → Prop} {o : (D × ι) ⊕ Addr} (T : ObjF K φ p C dx (G sv) sd sv J) (hk : ρ[k]? = some (some (.raw (.ref p)))) (hm : ∀ i, (G sv i).lookup m = none) (ha : EvMA K φ J E ta ρ i (.inl (ds, i1))) (hR : R sd i1 ds o) (hl : ds.length = n := by rfl) :
    EvM K φ J E (tMethX C m (SpO K C G n R) (fun _ => E) (tVar k) ta) ρ i o := fun σ H A Q ok bad => by
  obtain ⟨v, e, r⟩ := A.sr.2 k _ hk
  cases (show v = _ from r)
  refine ⟨_, e, p, dx, _, rfl, T.at_ _ _ A.j, hm i, ha σ H A _ (fun ds' i' e vs H1 b1 A1 r1 => ?_) fun c e => nomatch e⟩
  cases e
  exact ⟨φ, p, dx, sd, sv, i1, ds, vs, o, rfl, hl, r1, T.sr _ _ A1.j, A1.fr, T.np, T.at_ _ _ A1.j, hR, fun d i' e v H' b e2 r => ok d i' e v H' (b1.trans (butP_butI T.np b e2)) (At.obj T A1 b e2) r, fun c e i' H' b e2 => bad c e i' H' (b1.trans (butP_butI T.np b e2)) (At.obj T A1 b e2)⟩
def liftO (i : ι) : D ⊕ Addr → (D × ι) ⊕ Addr
  | .inl d => .inl (d, i)
  | .inr c => .inr c
theorem em_callX {n : Nat} {R : List D → D ⊕ Addr → Prop} {o : D ⊕ Addr} (ha : EvMA K φ J E ta ρ i (.inl (ds, i1))) (hR : R ds o) (hl : ds.length = n := by rfl) : EvM K φ J E (tCallS (SpX K n R) (fun _ => E) ta) ρ i (liftO i1 o) := fun σ H A Q ok bad =>
  ha σ H A _ (fun ds' i' e vs H1 b1 A1 r1 => by
    cases e
    refine ⟨φ, _, o, hl, r1, A1.fr, hR, fun d e v H' s r => ?_, fun c e H' s => ?_⟩
    · subst e
      exact ok _ _ rfl v H' (b1.trans (But.of s)) (A1.same s) r
    · subst e
      exact bad _ rfl i1 H' (b1.trans (But.of s)) (A1.same s)) fun c e => nomatch e
/-- a field -/
theorem ev_fldO {k : Nat} {v : V} (T : ObjF K φ p C dx F sd sv J) (hk : ρ[k]? = some (some (.raw (.ref p)))) (cl : Cls K C) (na : NoAttr K C f) (hf : (F i).lookup f = some v) (hv : ∀ H, J i H → Rep K φ H d v) : EvD K φ (J i) (tFld K (tVar k) f) ρ d := fun σ H A Q q => by
  obtain ⟨u, e, r⟩ := A.sr.2 k _ hk
  cases (show u = _ from r)
  exact ⟨_, e, p, C, dx, _, v, rfl, T.at_ _ _ A.j, cl, na, hf, q v d H (But.refl _ _) A rfl (hv H A.j)⟩
/-- o.f += n -/
theorem st_fldAug {k : Nat} {a b : Int} (T : ObjF K φ p C dx F sd sv J) (A : At K φ (J i) ρ σ H) (hk : ρ[k]? = some (some (.raw (.ref p)))) (cl : Cls K C) (na : NoAttr K C f) (hf : (F i).lookup f = some (.int a)) (hp : putF f (.int (a + b)) (F i) = F i') (hl : (F i).length < 1000)
    (kk : ∀ H', But φ H H' → At K φ (J i') ρ σ H' → D0.nx σ H') : sFldAug K (tVar k) (tC (.int b)) rAdd f D0 σ H := by
  obtain ⟨u, e, r⟩ := A.sr.2 k _ hk
  cases (show u = _ from r)
  refine ⟨_, e, p, C, dx, _, _, rfl, T.at_ _ _ A.j, cl, na, hf, a, b, rfl, rfl, dx, _, T.at_ _ _ A.j, hl, ?_⟩
  rw [hp]
  have b1 : ButP p H (L2.upd H p (.ins C dx (F i'))) := fun x o n e => by
    rw [upd_ne n]
    exact e
  exact kk _ (butP_butI T.np b1 upd_same) (At.obj T A b1 upd_same)
theorem st_setM {k : Nat} {o : (D × ι) ⊕ Addr} (A : At K φ (J i) ρ σ H) (h : EvM K φ J E te ρ i o) (ok : ∀ d i' σ' H', o = .inl (d, i') → But φ H H' → At K φ (J i') (ρ.set k (some d)) σ' H' → D0.nx σ' H') (bad : ∀ c i' H', o = .inr c → But φ H H' → At K φ (J i') ρ σ H' → E (.ref c) none H') : tAsg te (gName k) D0 σ H :=
  h σ H A _ (fun d i' e v H' b A' r => ok d i' _ H' e b (A'.set k r)) fun c e i' H' b A' => bad c i' H' e b A'
theorem st_retM {o : (D × ι) ⊕ Addr} (A : At K φ (J i) ρ σ H) (h : EvM K φ J E te ρ i o) (ok : ∀ v d i' H', o = .inl (d, i') → But φ H H' → At K φ (J i') ρ σ H' → Rep K φ H' d v → D0.rt v H') (bad : ∀ c i' H', o = .inr c → But φ H H' → At K φ (J i') ρ σ H' → E (.ref c) none H') : tRet te D0 σ H :=
  h σ H A _ (fun d i' e v H' b A' r => ok v d i' H' e b A' r) fun c e i' H' b A' => bad c i' H' e b A'
/-! ### an instance is made -/
def SpI (C : Addr) (n : Nat) (G : List V → List (Str × V)) : Sp := fun vs H Q _ => ∃ p dx ws, vs = .ref p :: ws ∧ ws.length = n ∧ H p = some (.ins C dx []) ∧ ∀ H', ButP p H H' → H' p = some (.ins C dx (G ws)) → Q .non H'
theorem st_make {n k : Nat} {i0 : ι} {E0 : XK} (A : At K φ Jb ρ σ H) (ha : EvAD K φ Jb ta ρ ds) (hl : ds.length = n)
    (kk : ∀ p dx sv (J : ι → Hp → Prop) σ' H', φ p → H p = none → ObjF K (wo φ p) p C dx (G sv) ds sv J → (∀ i H', J i H' → Jb H' ∧ But φ H H') → At K (wo φ p) (J i0) (ρ.set k (some (.raw (.ref p)))) σ' H' → D0.nx σ' H') : tAsg (tMake C (SpI C n fun sv => G sv i0) [] E0 ta) (gName k) D0 σ H :=
  ha σ H A _ fun vs ds' H1 b1 A1 e r1 => by
    subst e
    intro x dx hx hdx ne
    refine ⟨x, dx, vs, by rw [List.append_nil], by rw [r1.length]; exact hl, upd_same, fun H3 b3 e3 => ⟨rfl, ?_⟩⟩
    have s13 : Same H1 H3 := fun b o e => by
      have n1 := ne_of_none e hx
      refine b3 b o n1 ?_
      rw [upd_ne n1, upd_ne (ne_of_none e hdx)]
      exact e
    have hxH : H x = none := by
      cases q : H x with
      | none => rfl
      | some u => exact absurd hx (b1.tr x (by rw [q]; exact fun z => by cases z))
    have nx : ∀ a, H1 a ≠ none → a ≠ x := fun a h z => h (by rw [z]; exact hx)
    have up3 : ∀ H4, ButP x H3 H4 → H4 x ≠ none → ∀ a o, H1 a = some o → H4 a = some o := fun H4 b4 _ a o e => b4 a o (ne_of_none e hx) (s13 a o e)
    let J : ι → Hp → Prop := fun i H4 => (H4 x = some (.ins C dx (G vs i)) ∧ ButP x H3 H4) ∧ Jb H4
    have rp : ∀ i H4, J i H4 → Reps K (wo φ x) H4 ds' vs := fun i H4 j => Reps.up (fun a o q e => ⟨⟨q, ne_of_none e hx⟩, up3 H4 j.1.2 (by rw [j.1.1]; exact fun z => by cases z) a o e⟩) ds' vs r1
    have tr4 : ∀ i H4, J i H4 → ∀ a, H1 a ≠ none → H4 a ≠ none := fun i H4 j a h => by
      cases q : H1 a with
      | none => exact absurd q h
      | some u => rw [up3 H4 j.1.2 (by rw [j.1.1]; exact fun z => by cases z) a u q]; exact fun z => by cases z
    have T : ObjF K (wo φ x) x C dx (G vs) ds' vs J := ⟨fun z => z.2 rfl, fun i H4 j => j.1.1, rp, fun i i' H4 H5 j b e => ⟨⟨e, j.1.2.trans b⟩, A1.mono H4 H5 (fun a o h e => b a o (nx a h) e) j.2⟩,
      fun i H4 j => ((Mo.at (by rw [j.1.1]; exact fun z => by cases z)).and (mo_butP (butP_trI j.1.2 j.1.1))).and (A1.mono.up (tr4 i H4 j))⟩
    have j3 : J i0 H3 := ⟨⟨e3, fun _ _ _ h => h⟩, A1.mono H1 H3 (fun a o _ e => s13 a o e) A1.j⟩
    refine kk x dx vs J _ H3 (A1.fr.new x hx) hxH T (fun i H4 j => ⟨j.2, ⟨fun a o q e => up3 H4 j.1.2 (by rw [j.1.1]; exact fun z => by cases z) a o (b1.keep a o q e), fun a h => tr4 i H4 j a (b1.tr a h)⟩⟩) (At.set ⟨A1.sr.up fun a o q e => ⟨⟨q, ne_of_none e hx⟩, s13 a o e⟩, ⟨fun a h => ?_, fun a xs h => ?_⟩, j3, T.mo _ _ j3⟩ k rfl)
    · refine ⟨A1.fr.new a (s13.free h), fun z => ?_⟩
      rw [z, e3] at h
      cases h
    · have na : a ≠ x := fun z => by
        rw [z, e3] at h
        cases h
      refine ⟨?_, na⟩
      cases q : H1 a with
      | none => exact A1.fr.new a q
      | some u =>
        have w := s13 a u q
        rw [h] at w
        cases w
        exact A1.fr.tup a xs q
section
variable {PP : Program} {w : World} {mg : Str → Option Value} {base : Heap}
theorem fn_never {CX : CXT} {k : Nat} {f : Addr} {fd : FuncData} {ps : List Str} {sp : Sp} (no : ∀ vs H Q E, ¬ sp vs H Q E) : FnOk PP w K mg base CX k f fd ps sp := ⟨fun vs H Q E h => absurd h (no vs H Q E), fun A outer s H args us vs Q E _ _ _ _ h => absurd h (no vs H Q E)⟩
/-- a method that may raise keeps its promise -/
theorem fn_okO {x qual : Str} {st : Stmt} {f : Addr} {fd : FuncData} {N ps : List Str} {k n : Nat} {R : List D → ι → List D → (D × ι) ⊕ Addr → Prop} (F : Fun K x qual st f fd) (S : FnScope N ps (defScope st)) (hn : ps.length = n + 1) (m : Nat) (hm : N.length = n + 1 + m)
    (hbody : ∀ (cdv : Value) (A : Around) (outer : List Env) (s : Shared) (H : Hp) (E : XK), Room k (A.deeper (envOfC qual (defScope st) s.heap.objs.size f cdv)) →
      ∃ t, PSs (cxOf (L2.CX PP w) PP w K mg base N qual (defScope st) f cdv A outer s H E) (defBody st) t ∧
        ∀ (φ : Addr → Prop) (p dx : Addr) (sd : List D) (sv : List V) (J : ι → Hp → Prop) (i : ι) (ds : List D) (o : (D × ι) ⊕ Addr) (H : Hp) (D0 : Ends) (σ : L2.St), ds.length = n → R sd i ds o → ObjF K φ p C dx (G sv) sd sv J → (∀ d i', o = .inl (d, i') → ∀ v H', J i' H' → Rep K φ H' d v → D0.rt v H') → (∀ c, o = .inr c → ∀ i' H', J i' H' → E (.ref c) none H') →
          At K φ (J i) (some (.raw (.ref p)) :: ds.map some ++ List.replicate m none) σ H → t D0 σ H) :
    FnOk PP w K mg base (L2.CX PP w) (k + 1) f fd ps (SpO K C G n R) := by
  refine F.okX S (fun vs H Q E h => ?_) (fun cdv A outer s H vs Q E hr h => ?_)
  · obtain ⟨φ, p, dx, sd, sv, i, ds, ws, o, rfl, hl, r, _⟩ := h
    rw [List.length_cons, r.length, hl, hn]
  · obtain ⟨φ, p, dx, sd, sv, i, ds, ws, o, rfl, hl, r, rs, fr, np, hp, hR, q, qe⟩ := h
    obtain ⟨t, ht, run⟩ := hbody cdv A outer s H E hr
    let J : ι → Hp → Prop := fun i H' => H' p = some (.ins C dx (G sv i)) ∧ ButP p H H'
    have mo : ∀ i H', J i H' → Mo H' (J i) := fun i H' j => (Mo.at (by rw [j.1]; exact fun z => by cases z)).and (mo_butP (butP_trI j.2 j.1))
    have T : ObjF K φ p C dx (G sv) sd sv J := ⟨np, fun i H' j => j.1, fun i H' j => rs.mono (butP_butI np j.2 j.1), fun i i' H1 H2 j b e => ⟨e, j.2.trans b⟩, mo⟩
    have j0 : J i H := ⟨hp, fun _ _ _ h => h⟩
    refine ⟨t, ht, run φ p dx sd sv J i ds o H _ _ hl hR T (fun d i' e v H' j r => q d i' e v H' j.2 j.1 r) (fun c e i' H' j => qe c e i' H' j.2 j.1) ⟨?_, fr, j0, mo i H j0⟩⟩
    have e : N.length - (V.ref p :: ws).length = m := by rw [hm, List.length_cons, r.length, hl]; omega
    unfold L2.start
    rw [e]
    exact SR.start (ds := .raw (.ref p) :: ds) (Reps.cons rfl r)
end
/-! ### a comprehension whose elements change the instance and may raise -/
def iterM (f : D → ι → (D × ι) ⊕ Addr) : List D → ι → (List D × ι) ⊕ Addr
  | [], i => .inl ([], i)
  | d :: ds, i => match f d i with
    | .inr c => .inr c
    | .inl (y, i1) => match iterM f ds i1 with
      | .inr c => .inr c
      | .inl (ys, i2) => .inl (y :: ys, i2)
theorem iterM_app {g : D → ι → (D × ι) ⊕ Addr} : ∀ {as bs : List D} {i i1 : ι} {ys : List D}, iterM g as i = .inl (ys, i1) → iterM g (as ++ bs) i = match iterM g bs i1 with | .inr c => .inr c | .inl (zs, i2) => .inl (ys ++ zs, i2)
  | [], bs, i, i1, ys, h => by
    cases h
    show iterM g bs i = _
    cases iterM g bs i with
    | inr c => rfl
    | inl z => rfl
  | a :: as, bs, i, i1, ys, h => by
    show (match g a i with | .inr c => _ | .inl (y, i1) => _) = _
    have h : (match g a i with | .inr c => (.inr c : (List D × ι) ⊕ Addr) | .inl (y, i1) => match iterM g as i1 with | .inr c => .inr c | .inl (ys, i2) => .inl (y :: ys, i2)) = .inl (ys, i1) := h
    cases ha : g a i with
    | inr c => rw [ha] at h; cases h
    | inl z =>
      obtain ⟨y, j⟩ := z
      rw [ha] at h
      dsimp only at h ⊢
      cases hb : iterM g as j with
      | inr c => rw [hb] at h; cases h
      | inl z =>
        obtain ⟨ys', j'⟩ := z
        rw [hb] at h
        cases h
        rw [List.append_eq, iterM_app hb]
        cases iterM g bs i1 with
        | inr c => rfl
        | inl z => rfl
def lstO : (List D × ι) ⊕ Addr → (D × ι) ⊕ Addr
  | .inl (ys, i) => .inl (.lst ys, i)
  | .inr c => .inr c
theorem em_lc {wi : TI} {k : Nat} {g : D → ι → (D × ι) ⊕ Addr} (Inv : ι → Prop) (T : ObjF K φ p C dx F sd sv J) (hi : IterD K φ (J i) wi ρ ds) (hl : ds.length ≤ 1000000) (h0 : Inv i) (hI : ∀ d ∈ ds, ∀ i1 y i2, Inv i1 → g d i1 = .inl (y, i2) → Inv i2)
    (he : ∀ d ∈ ds, ∀ φ' J' i1, Inv i1 → ObjF K φ' p C dx F sd sv J' → EvM K φ' J' E te ((wipeR ρ [k]).set k (some d)) i1 (g d i1)) : EvM K φ J E (tLc wi (gName k) tYes te [k]) ρ i (lstO (iterM g ds i)) := fun σ H A Q ok bad => by
  refine hi σ H A _ fun J0 ds' H1 b1 A1 pd w => ?_
  subst pd
  intro D0 hD
  have pD : p ≠ D0 := ne_of_none (T.at_ _ _ A1.j) hD
  let φ' : Addr → Prop := fun a => φ a ∧ a ≠ D0
  let J' : List V → ι → Hp → Prop := fun acc i H => (J i H ∧ But φ H1 H) ∧ H D0 = some (.lst acc)
  have moJ : ∀ acc i H, J' acc i H → Mo H (J' acc i) := fun acc i H j => ((T.mo i H j.1.1).and (Mo.but j.1.2.tr)).and (Mo.at (by rw [j.2]; exact fun z => by cases z))
  have T' : ∀ acc, ObjF K φ' p C dx F sd sv (J' acc) := fun acc => ⟨fun z => T.np z.1, fun i H j => T.at_ i H j.1.1, fun i H j => Reps.up (fun a o q e => ⟨⟨q, ne_of_none e hD⟩, j.1.2.keep a o q e⟩) sd sv (T.sr _ _ A1.j), fun i i' H H' j b e => ⟨⟨T.st i i' H H' j.1.1 b e, j.1.2.trans (butP_butI T.np b e)⟩, b D0 _ pD.symm j.2⟩, moJ acc⟩
  refine ⟨fun n m H2 => m = ds'.length - n ∧ n ≤ ds'.length ∧ But φ H1 H2 ∧ ∃ acc ys i1, Inv i1 ∧ Reps K φ' H2 ys acc ∧ ys.length = n ∧ iterM g (ds'.take n) i = .inl (ys, i1) ∧ At K φ' (J' acc i1) (wipeR ρ [k]) (L2.wipe σ [k]) H2,
    ⟨ds'.length, rfl, Nat.zero_le _, But.of (same_new hD), [], [], i, h0, Reps.nil, rfl, rfl, ?_⟩, ?_⟩
  · have j : J' [] i (upd H1 D0 (.lst [])) := ⟨⟨A1.mono _ _ (fun a o _ e => same_new hD a o e) A1.j, But.of (same_new hD)⟩, upd_same⟩
    have A2 := A1.newLive (o := .lst []) (J' := J' [] i) hD j (moJ _ _ _ j)
    exact ⟨A2.sr.wipe [k], A2.fr, A2.j, A2.mono⟩
  · rintro n m H2 ⟨rfl, hi, b2, acc, ys, i1, hI1, rs, hys, hit, A2⟩
    have upw : Up φ φ' H1 H2 := fun a o p e => ⟨⟨p, ne_of_none e hD⟩, b2.keep a o p e⟩
    have fr2 : Frm φ' H2 := A2.fr
    obtain ⟨wg, wstop⟩ := w φ' n H2 upw fr2
    by_cases hlt : n < ds'.length
    · have hd : ds'[n]? = some ds'[n] := List.getElem?_eq_getElem hlt
      obtain ⟨go, yl⟩ := wg _ hd
      refine .inr ⟨go, fun H3 => But φ H1 H3 ∧ ∃ acc ys i1, Inv i1 ∧ Reps K φ' H3 ys acc ∧ ys.length = n + 1 ∧ iterM g (ds'.take (n + 1)) i = .inl (ys, i1) ∧ At K φ' (J' acc i1) (wipeR ρ [k]) (L2.wipe σ [k]) H3, ?_, ?_⟩
      · rintro H3 ⟨b3, acc3, ys3, i3, hI3, r3, l3, c3, A3⟩
        exact ⟨ds'.length - (n + 1), by omega, rfl, hlt, b3, acc3, ys3, i3, hI3, r3, l3, c3, A3⟩
      · intro x H3 hy
        obtain ⟨s3, r3⟩ := yl x H3 hy
        have A3 := A2.same s3
        have rs3 := rs.mono (But.of (φ := φ') s3)
        have b3 : But φ H1 H3 := b2.trans (But.of s3)
        have hmem : ds'[n] ∈ ds' := List.getElem_mem hlt
        have tk : ds'.take (n + 1) = ds'.take n ++ [ds'[n]] := by rw [List.take_add_one, hd]; rfl
        refine eg_name φ' _ _ H3 x A3 r3 _ fun σ4 A4 hw4 => ⟨?_, ?_⟩
        · rw [hw4 [k] fun _ h => h]
          exact wipe_wipe [k]
        · unfold tYes
          dsimp only
          rw [if_pos rfl]
          refine he _ hmem φ' (J' acc) i1 hI1 (T' acc) σ4 H3 A4 _ (fun d i2 eo v H6 b6 A6 r6 => ?_) fun c eo i2 H6 b6 A6 => ?_
          · have rl := rs3.mono b6
            have nD : ¬ φ' D0 := fun z => z.2 rfl
            have b36 : But φ H1 H6 := A6.j.1.2
            refine ⟨acc, A6.j.2, ?_, ⟨fun a o p e => ?_, fun a h => upd_tr a (b36.tr a h)⟩, acc ++ [v], ys ++ [d], i2, hI _ hmem i1 d i2 hI1 eo, ?_, by rw [List.length_append, hys]; rfl, ?_, ?_⟩
            · rw [rl.length, hys]
              exact szlt (by omega)
            · rw [upd_ne (ne_of_none e hD)]
              exact b36.keep a o p e
            · exact (rl.append (Reps.cons r6 Reps.nil)).mono ((But.refl φ' H6).upd nD)
            · rw [tk, iterM_app hit]
              show (match (match g ds'[n] i1 with | .inr c => (.inr c : (List D × ι) ⊕ Addr) | .inl (y, i1) => match iterM g [] i1 with | .inr c => .inr c | .inl (ys, i2) => .inl (y :: ys, i2)) with | .inr c => _ | .inl (zs, i2) => _) = _
              rw [eo]
              rfl
            · have j6 : J' (acc ++ [v]) i2 (upd H6 D0 (.lst (acc ++ [v]))) := by
                refine ⟨⟨?_, ⟨fun a o p e => ?_, fun a h => upd_tr a (b36.tr a h)⟩⟩, upd_same⟩
                · have hb : ButP p H1 (upd H1 p (.ins C dx (F i2))) := fun x o n e => by
                    rw [upd_ne n]
                    exact e
                  have jq := T.st i i2 H1 _ A1.j hb upd_same
                  refine T.mo i2 _ jq H6 _ (fun a o h e => ?_) A6.j.1.1
                  rw [upd_ne (show a ≠ D0 from fun z => h (by rw [z, upd_ne pD.symm]; exact hD))]
                  exact e
                · rw [upd_ne (ne_of_none e hD)]
                  exact b36.keep a o p e
              have A6' : At K φ' (J' acc i2) (wipeR ρ [k]) (L2.wipe σ [k]) H6 := ⟨A3.sr.up (Up.of b6), A6.fr, A6.j, A6.mono⟩
              exact A6'.upd nD j6 (moJ _ _ _ j6)
          · refine bad c ?_ i2 H6 (b1.trans A6.j.1.2) ⟨A1.sr.up (Up.of A6.j.1.2), A6.fr.fst, A6.j.1.1, T.mo _ _ A6.j.1.1⟩
            have e2 : iterM g ds' i = .inr c := by
              have e3 : ds' = ds'.take n ++ (ds'[n] :: ds'.drop (n + 1)) := by rw [← List.drop_eq_getElem_cons hlt, List.take_append_drop]
              rw [e3, iterM_app hit]
              show (match (match g ds'[n] i1 with | .inr c => (.inr c : (List D × ι) ⊕ Addr) | .inl (y, i1) => match iterM g (ds'.drop (n + 1)) i1 with | .inr c => .inr c | .inl (ys, i2) => .inl (y :: ys, i2)) with | .inr c => _ | .inl (zs, i2) => _) = _
              rw [eo]
            rw [e2]
            rfl
    · have e : n = ds'.length := by omega
      subst e
      refine .inl ⟨wstop rfl, ?_⟩
      rw [List.take_length] at hit
      rw [hit] at ok
      exact ok (.lst ys) i1 rfl _ H2 (b1.trans b2) ⟨A1.sr.up (Up.of b2), A2.fr.fst, A2.j.1.1, T.mo _ _ A2.j.1.1⟩ ⟨D0, acc, rfl, .inl ⟨A1.fr D0 hD, .inl A2.j.2⟩, Reps.up (fun a o p e => ⟨p.1, e⟩) ys acc rs⟩
end
/-- a method as a caller wants it -/
structure LkM (K : PySem.W.Frag) (C : Addr) (m : Str) (f : Addr) (fd : FuncData) (ps : List Str) : Prop where
  me : Meth K C m f
  bi : Binds K fd ps []

/-! ### sorted lists of ints -/
section
variable {P : Program} {w : World} {K : PySem.W.Frag} {mg : Str → Option Value} {base : Heap}
theorem c_sortedI {X : Cx} : CallR X (.builtin "sorted") (rSorted X.K) := cr_sorted
theorem ev_sortedI {φ : Addr → Prop} {J : Hp → Prop} {ρ : List (Option D)} {te : TE} {ns : List Int} (ha : EvD K φ J te ρ (.lst (ns.map D.int))) (hl : ns.length < 64) : EvP K φ J (tCB (rSorted K) (tCons te tNil)) ρ (fun z => ∃ ns' : List Int, z = .lst (ns'.map D.int) ∧ ns'.Perm ns ∧ ns'.Pairwise (· ≤ ·)) := ev_cbD (ea_cons ha ea_nil) fun H vs f r Q q => by
  obtain ⟨v, rfl, r1⟩ := r.one
  obtain ⟨a, rfl, h⟩ := rep_ints r1
  exact ⟨a, ns, rfl, h, hl, fun ns' p hp hs hn => q _ _ _ (same_new hn) ⟨ns', rfl, hp, hs⟩ ⟨p, _, rfl, .inl ⟨f p hn, .inl upd_same⟩, Reps.of_ints⟩⟩
theorem all_ints : ∀ {ys : List D}, (∀ y ∈ ys, ∃ i, y = .int i) → ∃ ns : List Int, ys = ns.map D.int
  | [], _ => ⟨[], rfl⟩
  | y :: ys, h => by
    obtain ⟨i, rfl⟩ := h y List.mem_cons_self
    obtain ⟨ns, rfl⟩ := all_ints fun z hz => h z (List.mem_cons_of_mem _ hz)
    exact ⟨i :: ns, rfl⟩
end

/-! ### plain trees: no raw values, a bounded depth, bounded lengths, texts within the bounds -/
def okD (s : Nat) : Nat → D → Bool
  | 0, _ => false
  | _ + 1, .non => true
  | _ + 1, .bl _ => true
  | _ + 1, .int _ => true
  | _ + 1, .str x => PyData.strOk x
  | n + 1, .tup ds => decide (ds.length ≤ s) && ds.all (okD s n)
  | n + 1, .lst ds => decide (ds.length ≤ s) && ds.all (okD s n)
  | _ + 1, .raw _ => false
  | _ + 1, .dk _ _ => false
  | _ + 1, .dt _ _ => false
theorem okD_raw {s n : Nat} {d : D} (h : okD s n d = true) : isRaw d = false := by
  cases n with
  | zero => cases h
  | succ n => cases d <;> first | rfl | cases h
theorem okD_tup {s n : Nat} {es : List D} : okD s (n + 1) (.tup es) = true ↔ es.length ≤ s ∧ ∀ x ∈ es, okD s n x = true := by
  show (decide (es.length ≤ s) && es.all (okD s n)) = true ↔ _
  rw [Bool.and_eq_true, decide_eq_true_eq, List.all_eq_true]
theorem okD_lst {s n : Nat} {es : List D} : okD s (n + 1) (.lst es) = true ↔ es.length ≤ s ∧ ∀ x ∈ es, okD s n x = true := by
  show (decide (es.length ≤ s) && es.all (okD s n)) = true ↔ _
  rw [Bool.and_eq_true, decide_eq_true_eq, List.all_eq_true]
theorem okD_mono {s s' : Nat} (hs : s ≤ s') : ∀ {n n' : Nat} {d : D}, n ≤ n' → okD s n d = true → okD s' n' d = true := by
  intro n
  induction n with
  | zero => intro n' d _ h; cases h
  | succ n ih =>
    intro n' d hn h
    obtain ⟨k, rfl⟩ : ∃ k, n' = k + 1 := ⟨n' - 1, by omega⟩
    cases d with
    | tup ds =>
      rw [okD_tup] at h ⊢
      exact ⟨by omega, fun x hx => ih (by omega) (h.2 x hx)⟩
    | lst ds =>
      rw [okD_lst] at h ⊢
      exact ⟨by omega, fun x hx => ih (by omega) (h.2 x hx)⟩
    | str x => exact h
    | raw v => cases h
    | dk ks ds => cases h
    | dt ks ds => cases h
    | _ => rfl
theorem okD_okq {s : Nat} : ∀ {n : Nat} {d : D}, okD s n d = true → okq n d = true := by
  intro n
  induction n with
  | zero => intro d h; cases h
  | succ n ih =>
    intro d h
    cases d with
    | tup ds => exact List.all_eq_true.mpr fun x hx => ih ((okD_tup.mp h).2 x hx)
    | lst ds => exact List.all_eq_true.mpr fun x hx => ih ((okD_lst.mp h).2 x hx)
    | str x => exact h
    | raw v => cases h
    | dk ks ds => cases h
    | dt ks ds => cases h
    | _ => rfl
theorem okq_mono : ∀ {n n' : Nat} {d : D}, n ≤ n' → okq n d = true → okq n' d = true := by
  intro n
  induction n with
  | zero =>
    intro n' d _ h
    cases d with
    | tup ds => cases h
    | lst ds => cases h
    | raw v => cases h
    | dk ks ds => cases h
    | dt ks ds => cases h
    | str x => cases n' <;> exact h
    | _ => cases n' <;> rfl
  | succ n ih =>
    intro n' d hn h
    obtain ⟨k, rfl⟩ : ∃ k, n' = k + 1 := ⟨n' - 1, by omega⟩
    cases d with
    | tup ds => exact List.all_eq_true.mpr fun x hx => ih (by omega) (List.all_eq_true.mp h x hx)
    | lst ds => exact List.all_eq_true.mpr fun x hx => ih (by omega) (List.all_eq_true.mp h x hx)
    | str x => exact h
    | raw v => cases h
    | dk ks ds => cases h
    | dt ks ds => cases h
    | _ => rfl
theorem okD_okq' {s n n' : Nat} {d : D} (h : okD s n d = true) (hn : n ≤ n') : okq n' d = true := okq_mono hn (okD_okq h)
theorem okD_plain {s : Nat} (hs : s ≤ 1000000) : ∀ {n : Nat} {d : D}, okD s n d = true → plain n d = true := by
  intro n
  induction n with
  | zero => intro d h; cases h
  | succ n ih =>
    intro d h
    cases d with
    | tup ds =>
      have z := okD_tup.mp h
      simp only [plain, Bool.and_eq_true, decide_eq_true_eq, List.all_eq_true]
      exact ⟨by omega, fun x hx => ih (z.2 x hx)⟩
    | lst ds =>
      have z := okD_lst.mp h
      simp only [plain, Bool.and_eq_true, decide_eq_true_eq, List.all_eq_true]
      exact ⟨by omega, fun x hx => ih (z.2 x hx)⟩
    | raw v => cases h
    | dk ks ds => cases h
    | dt ks ds => cases h
    | _ => rfl
def isIntD : D → Bool
  | .int _ => true
  | _ => false
def intV : D → Int
  | .int i => i
  | _ => 0
theorem isIntD_ex {d : D} (h : isIntD d = true) : ∃ i, d = .int i := by
  cases d with
  | int i => exact ⟨i, rfl⟩
  | _ => cases h
theorem isIntD_of {d : D} (h : isRaw d = false) : (isT "int" d && !isT "bool" d) = isIntD d := by
  cases d <;> first | (cases h; done) | rfl
section
variable {K : PySem.W.Frag} {φ : Addr → Prop} {J : Hp → Prop} {ρ : List (Option D)} {te : TE} {x : D} {b : Bool} {t1 t2 : TT} {p : Bool → Prop}
theorem et_andP (ha : EvX K φ J t1 ρ b) (hb : b = true → EvT K φ J t2 ρ p) : EvT K φ J (tAnd t1 t2) ρ (fun x => (b = true ∧ p x) ∨ (b = false ∧ x = false)) := fun σ H A Q q => ha σ H A _ fun k H1 b1 A1 e1 => by
  subst e1
  cases k with
  | false => exact q false H1 b1 A1 (.inr ⟨rfl, rfl⟩)
  | true => exact hb rfl σ H1 A1 _ fun k H2 b2 A2 pk => q k H2 (b1.trans b2) A2 (.inl ⟨rfl, pk⟩)
theorem et_orP (ha : EvX K φ J t1 ρ b) (hb : b = false → EvT K φ J t2 ρ p) : EvT K φ J (tOr t1 t2) ρ (fun x => (b = false ∧ p x) ∨ (b = true ∧ x = true)) := fun σ H A Q q => ha σ H A _ fun k H1 b1 A1 e1 => by
  subst e1
  cases k with
  | true => exact q true H1 b1 A1 (.inr ⟨rfl, rfl⟩)
  | false => exact hb rfl σ H1 A1 _ fun k H2 b2 A2 pk => q k H2 (b1.trans b2) A2 (.inl ⟨rfl, pk⟩)
theorem et_cmpP {f : Int → Int → Bool} {ta tb : TE} {p q : Int → Prop} (ha : EvI K φ J ta ρ p) (hb : EvI K φ J tb ρ q) : EvT K φ J (tTest (tOp (rI0 fun i j => .bl (f i j)) ta tb)) ρ (fun k => ∃ i j, p i ∧ q j ∧ k = f i j) := et_testP (eb_cmp ha hb)
theorem et_eqP {ta tb : TE} {p q : Int → Prop} (ha : EvI K φ J ta ρ p) (hb : EvI K φ J tb ρ q) : EvT K φ J (tTest (tOp rEq ta tb)) ρ (fun k => ∃ i j, p i ∧ q j ∧ k = decide (i = j)) := et_testP (eb_eq ha hb)
theorem any_toPys {x : D} : ∀ ds : List D, ((toPys ds).any fun z => PyData.eqv z (toPy x)) = ds.any fun z => eqvD z x
  | [] => rfl
  | d :: ds => by
    show (PyData.eqv (toPy d) (toPy x) || (toPys ds).any _) = (eqvD d x || ds.any _)
    rw [any_toPys ds]
    rfl
/-- `in` a list of data -/
theorem ev_inQ {ta tb : TE} {ds : List D} (ha : EvD K φ J ta ρ x) (hb : EvD K φ J tb ρ (.lst ds)) (hx : okq 64 x = true) (hy : okq 64 (.lst ds) = true) : EvD K φ J (tOp (rInD K) ta tb) ρ (.bl (ds.any fun z => eqvD z x)) := ev_opD ha hb fun H v w _ r1 r2 Q q => by
  refine ⟨toPy x, toPys ds, dp_of x v 64 hx r1, dp_of _ w 64 hy r2, okq_shaped hx (Nat.le_refl _), okq_shaped hy (Nat.le_refl _), ?_⟩
  rw [any_toPys ds]
  exact q _ _ H (Same.refl H) rfl rfl
end
section
variable {P : Program} {w : World} {K : PySem.W.Frag} {mg : Str → Option Value} {base : Heap}
def RIsInt : List D → D → Prop := fun ds r => ∃ d, ds = [d] ∧ isRaw d = false ∧ r = .bl (isIntD d)
end

-- import HandS.Text
/-! ### texts cut at one sign, numbers in texts -/
section
open TL
def splC (c : Nat) : List Nat → List (List Nat)
  | [] => [[]]
  | x :: r => if x = c then [] :: splC c r else match splC c r with
    | p :: q => (x :: p) :: q
    | [] => [[x]]
theorem splC_ne (c : Nat) : ∀ l, splC c l ≠ []
  | [] => by simp [splC]
  | x :: r => by
    unfold splC
    split
    · simp
    · split <;> simp
theorem splC_join (c : Nat) : ∀ l, joinL [c] (splC c l) = l
  | [] => rfl
  | x :: r => by
    have ih := splC_join c r
    have ne := splC_ne c r
    unfold splC
    split
    · rename_i h
      subst h
      cases e : splC x r with
      | nil => exact absurd e ne
      | cons p q =>
        rw [e] at ih
        show [] ++ ([x] ++ joinL [x] (p :: q)) = _
        rw [ih]
        rfl
    · cases e : splC c r with
      | nil => exact absurd e ne
      | cons p q =>
        rw [e] at ih
        show joinL [c] ((x :: p) :: q) = x :: r
        rw [← ih]
        cases q <;> rfl
theorem splC_free (c : Nat) : ∀ l, ∀ p ∈ splC c l, c ∉ p
  | [], p, h => by
    rw [List.mem_singleton.mp h]
    simp
  | x :: r, p, h => by
    have ih := splC_free c r
    unfold splC at h
    split at h
    · rcases List.mem_cons.mp h with rfl | h
      · simp
      · exact ih p h
    · rename_i hx
      cases e : splC c r with
      | nil => exact absurd e (splC_ne c r)
      | cons a q =>
        rw [e] at h ih
        rcases List.mem_cons.mp h with rfl | h
        · rw [List.mem_cons, not_or]
          exact ⟨fun z => hx z.symm, ih a List.mem_cons_self⟩
        · exact ih p (List.mem_cons_of_mem _ h)
theorem splC_spl (c : Nat) (l : List Nat) : spl [c] 0 [] l = splC c l := by
  have h := spl_join (s := c) (S := []) (splC_ne c l) (splC_free c l)
  rw [splC_join] at h
  exact h
theorem splC_uniq {c : Nat} {ps : List (List Nat)} (hne : ps ≠ []) (hf : ∀ p ∈ ps, c ∉ p) : splC c (joinL [c] ps) = ps := by
  rw [← splC_spl]
  exact spl_join (s := c) (S := []) hne hf
theorem tl_split {c : Nat} (hc : c < 256) (x : Str) : (Txt.split x ⟨#[c]⟩).map tl = splC c (tl x) := by
  rw [← splC_spl]
  exact split_spl x ⟨#[c]⟩ (by simp [tl]) (kind_ok (by simp [hc]))
theorem joinL_snoc {S p : List Nat} : ∀ {ps : List (List Nat)}, ps ≠ [] → joinL S (ps ++ [p]) = joinL S ps ++ (S ++ p)
  | [], h => absurd rfl h
  | [a], _ => rfl
  | a :: b :: r, _ => by
    have ih := joinL_snoc (S := S) (p := p) (ps := b :: r) (by simp)
    show a ++ (S ++ joinL S (b :: r ++ [p])) = a ++ (S ++ joinL S (b :: r)) ++ (S ++ p)
    rw [ih, List.append_assoc, List.append_assoc]
theorem splC_snoc (c : Nat) (l : List Nat) : splC c (l ++ [c]) = splC c l ++ [[]] := by
  have h : l ++ [c] = joinL [c] (splC c l ++ [[]]) := by
    rw [joinL_snoc (splC_ne c l), splC_join]
    rfl
  rw [h]
  refine splC_uniq (by simp) fun p hp => ?_
  rcases List.mem_append.mp hp with hp | hp
  · exact splC_free c l p hp
  · rw [List.mem_singleton.mp hp]
    simp
theorem splC_last {c : Nat} {l : List Nat} {xs : List (List Nat)} (h : splC c l = xs ++ [[]]) (hx : xs ≠ []) : ∃ l', l = l' ++ [c] ∧ xs = splC c l' := by
  refine ⟨joinL [c] xs, ?_, ?_⟩
  · rw [← splC_join c l, h, joinL_snoc hx]
    rfl
  · exact (splC_uniq hx fun p hp => splC_free c l p (by rw [h]; exact List.mem_append_left _ hp)).symm
theorem splC_app {c : Nat} {a l : List Nat} (h : c ∉ a) : splC c (a ++ c :: l) = a :: splC c l := by
  have e : a ++ c :: l = joinL [c] (a :: splC c l) := by
    cases e : splC c l with
    | nil => exact absurd e (splC_ne c l)
    | cons p q =>
      show _ = a ++ ([c] ++ joinL [c] (p :: q))
      rw [← e, splC_join]
      rfl
  rw [e]
  refine splC_uniq (by simp) fun p hp => ?_
  rcases List.mem_cons.mp hp with rfl | hp
  · exact h
  · exact splC_free c l p hp
theorem splC_one {c : Nat} {a : List Nat} (h : c ∉ a) : splC c a = [a] := splC_uniq (ps := [a]) (by simp) fun p hp => by rw [List.mem_singleton.mp hp]; exact h
theorem splC_two {c : Nat} {l a b : List Nat} (h : splC c l = [a, b]) : l = a ++ c :: b ∧ c ∉ a ∧ c ∉ b := by
  refine ⟨?_, splC_free c l a (by rw [h]; simp), splC_free c l b (by rw [h]; simp)⟩
  rw [← splC_join c l, h]
  rfl
theorem splC_len (c : Nat) : ∀ l, (splC c l).length ≤ l.length + 1
  | [] => Nat.le_refl _
  | x :: r => by
    have ih := splC_len c r
    unfold splC
    split
    · rw [List.length_cons, List.length_cons]
      omega
    · cases e : splC c r with
      | nil => exact absurd e (splC_ne c r)
      | cons p q =>
        rw [e] at ih
        rw [List.length_cons] at ih ⊢
        rw [List.length_cons]
        omega
theorem splC_mem_len {c : Nat} : ∀ {l p : List Nat}, p ∈ splC c l → p.length ≤ l.length
  | [], p, h => by rw [List.mem_singleton.mp h]; exact Nat.le_refl _
  | x :: r, p, h => by
    unfold splC at h
    split at h
    · rcases List.mem_cons.mp h with rfl | h
      · exact Nat.zero_le _
      · exact Nat.le_succ_of_le (splC_mem_len h)
    · cases e : splC c r with
      | nil => exact absurd e (splC_ne c r)
      | cons a q =>
        rw [e] at h
        rcases List.mem_cons.mp h with rfl | h
        · exact Nat.succ_le_succ (splC_mem_len (by rw [e]; exact List.mem_cons_self))
        · exact Nat.le_succ_of_le (splC_mem_len (by rw [e]; exact List.mem_cons_of_mem _ h))
/-! ### numbers -/
def digB (l : List Nat) : Bool := l.all fun c => decide (48 ≤ c ∧ c ≤ 57)
theorem digB_all {l : List Nat} : digB l = true ↔ NumText.AllDigits l := by
  unfold digB NumText.AllDigits
  rw [List.all_eq_true]
  exact ⟨fun h c hc => of_decide_eq_true (h c hc), fun h c hc => decide_eq_true (h c hc)⟩
/-- no needless zero ahead -/
def leadB (l : List Nat) : Bool := !(decide (l.head? = some 48) && !decide (l = [48]))
def okNum (k : Nat) (l : List Nat) : Option Nat := if digB l && (decide (1 ≤ l.length) && decide (l.length ≤ k)) && leadB l then some (NumText.digitsVal l) else none
theorem digitsVal_snoc (l : List Nat) (c : Nat) : NumText.digitsVal (l ++ [c]) = NumText.digitsVal l * 10 + (c - 48) := by
  unfold NumText.digitsVal
  rw [List.foldl_append]
  rfl
theorem digitsVal_ge (l : List Nat) : ∀ a : Nat, a ≤ l.foldl (fun acc c => acc * 10 + (c - 48)) a := by
  induction l with
  | nil => exact fun a => Nat.le_refl a
  | cons c l ih =>
    intro a
    rw [List.foldl_cons]
    exact Nat.le_trans (by omega) (ih _)
theorem digitsVal_pos {c : Nat} {l : List Nat} (h : 48 < c) : 1 ≤ NumText.digitsVal (c :: l) := by
  unfold NumText.digitsVal
  rw [List.foldl_cons]
  exact Nat.le_trans (by omega) (digitsVal_ge l _)
theorem num_back : ∀ (n : Nat) (l : List Nat), l.length = n → l ≠ [] → NumText.AllDigits l → l.head? ≠ some 48 ∨ l = [48] → numL (NumText.digitsVal l) = l
  | 0, l, hn, hne, _, _ => absurd (List.length_eq_zero_iff.mp hn) hne
  | n + 1, l, hn, hne, hd, hl => by
    have e := List.dropLast_concat_getLast hne
    generalize hm : l.dropLast = m at e
    generalize l.getLast hne = c at e
    subst e
    have hc := hd c (by simp)
    rw [digitsVal_snoc]
    cases m with
    | nil =>
      rw [show NumText.digitsVal [] = 0 from rfl, numL_lt (by omega), List.nil_append]
      congr 1
      omega
    | cons a m =>
      have ha := hd a (by simp)
      have hl' : (a :: m).head? ≠ some 48 := by
        rcases hl with h | h
        · exact h
        · exact absurd (congrArg List.length h) (by simp)
      have h48 : 48 < a := by
        have : a ≠ 48 := fun z => hl' (by rw [z]; rfl)
        omega
      have hp := digitsVal_pos (l := m) h48
      rw [numL_step (by omega), show (NumText.digitsVal (a :: m) * 10 + (c - 48)) / 10 = NumText.digitsVal (a :: m) by omega, show (NumText.digitsVal (a :: m) * 10 + (c - 48)) % 10 = c - 48 by omega,
        num_back n (a :: m) (by simp only [List.length_append, List.length_cons, List.length_nil] at hn ⊢; omega) (by simp) (fun x hx => hd x (List.mem_append_left _ hx)) (.inl hl'), show 48 + (c - 48) = c by omega]
theorem numL_head : ∀ n : Nat, (numL n).head? ≠ some 48 ∨ n = 0 := fun n => by
  induction n using Nat.strongRecOn with
  | _ n ih =>
    by_cases h : n < 10
    · rw [numL_lt h]
      by_cases h0 : n = 0
      · exact .inr h0
      · exact .inl fun z => by
          have := Option.some.inj z
          omega
    · rw [numL_step (by omega)]
      rcases ih (n / 10) (by omega) with z | z
      · left
        cases e : numL (n / 10) with
        | nil => exact absurd e (numL_ne _)
        | cons a r =>
          rw [e] at z
          exact z
      · omega
theorem leadB_num (n : Nat) : leadB (numL n) = true := by
  unfold leadB
  rcases numL_head n with h | h
  · rw [decide_eq_false h]
    rfl
  · rw [h, numL_lt (by decide)]
    rfl
theorem leadB_or {l : List Nat} : leadB l = true ↔ l.head? ≠ some 48 ∨ l = [48] := by
  unfold leadB
  by_cases h1 : l.head? = some 48 <;> by_cases h2 : l = [48] <;> simp [h1, h2]
/-- str(int(l)) == l -/
theorem leadB_iff {l : List Nat} (hd : NumText.AllDigits l) (hne : l ≠ []) : decide (numL (NumText.digitsVal l) = l) = leadB l := by
  cases h : leadB l with
  | true => exact decide_eq_true (num_back _ l rfl hne hd (leadB_or.mp h))
  | false =>
    refine decide_eq_false fun z => ?_
    rw [← z, leadB_num] at h
    cases h
theorem okNum_num {n k : Nat} (hk : 0 < k) (h : n < 10 ^ k) : okNum k (numL n) = some n := by
  unfold okNum
  have h1 : 1 ≤ (numL n).length := List.length_pos_iff.mpr (numL_ne n)
  rw [digB_all.mpr (numL_digits n), decide_eq_true h1, decide_eq_true (numL_len hk h), leadB_num, numL_val]
  rfl
theorem okNum_some {k n : Nat} {l : List Nat} (h : okNum k l = some n) : l = numL n ∧ NumText.AllDigits l ∧ l.length ≤ k := by
  unfold okNum at h
  split at h
  · rename_i hc
    simp only [Bool.and_eq_true, decide_eq_true_eq] at hc
    obtain ⟨⟨h1, h2, h3⟩, h4⟩ := hc
    refine ⟨?_, digB_all.mp h1, h3⟩
    rw [← Option.some.inj h]
    exact (num_back _ l rfl (List.length_pos_iff.mp h2) (digB_all.mp h1) (leadB_or.mp h4)).symm
  · cases h
def textL (ls : List (List Nat)) : List Nat := ls.flatMap fun l => l ++ [10]
theorem splC_text : ∀ {ls : List (List Nat)}, (∀ l ∈ ls, 10 ∉ l) → splC 10 (textL ls) = ls ++ [[]]
  | [], _ => rfl
  | l :: ls, h => by
    show splC 10 ((l ++ [10]) ++ textL ls) = _
    rw [List.append_assoc]
    show splC 10 (l ++ 10 :: textL ls) = _
    rw [splC_app (h l List.mem_cons_self), splC_text fun x hx => h x (List.mem_cons_of_mem _ hx)]
    rfl
end

/-! ### the readers of papertexts -/
section
open TL
def asc (l : List Nat) : Prop := ∀ c ∈ l, c < 128
theorem asc_strOk {s : Str} (h : asc (tl s)) : PyData.strOk s = true := by
  unfold PyData.strOk
  rw [Array.all_eq_true_iff_forall_mem]
  intro c hc
  have := h c (by simpa [tl] using hc)
  exact decide_eq_true (by omega)
theorem asc_spl {c : Nat} {l p : List Nat} (h : asc l) (hp : p ∈ splC c l) : asc p := fun x hx => by
  have : ∀ {l : List Nat}, p ∈ splC c l → x ∈ l := fun {l} => by
    intro hp
    have e := splC_join c l
    generalize splC c l = ps at hp e
    subst e
    induction ps with
    | nil => cases hp
    | cons a ps ih =>
      cases ps with
      | nil =>
        rw [List.mem_singleton.mp hp] at hx
        exact hx
      | cons b ps =>
        show x ∈ a ++ ([c] ++ joinL [c] (b :: ps))
        rcases List.mem_cons.mp hp with e | hp
        · rw [e] at hx
          exact List.mem_append_left _ hx
        · exact List.mem_append_right _ (List.mem_append_right _ (ih hp))
  exact h x (this hp)
theorem lit_sp : (" " : Str) = ⟨#[32]⟩ := by decide +kernel
theorem lit_nl : ("\n" : Str) = ⟨#[10]⟩ := by decide +kernel
theorem lit_0 : ("0" : Str) = ⟨#[48]⟩ := by decide +kernel
theorem tl_digits : tl ("0123456789" : Str) = [48, 49, 50, 51, 52, 53, 54, 55, 56, 57] := by decide +kernel
theorem mem_digits {c : Nat} : decide (c ∈ tl ("0123456789" : Str)) = decide (48 ≤ c ∧ c ≤ 57) := by
  rw [tl_digits, decide_eq_decide]
  simp only [List.mem_cons, List.not_mem_nil, or_false]
  omega
theorem str_eq_tl {a b : Str} : decide (a = b) = decide (tl a = tl b) := by
  rw [decide_eq_decide]
  exact ⟨fun e => by rw [e], ext_tl⟩
/-- the words of a text, the lines -/
theorem split_tl {c : Nat} (hc : c < 256) (x : Str) : ∃ ys : List Str, Txt.split x ⟨#[c]⟩ = ys ∧ ys.map tl = splC c (tl x) := ⟨_, rfl, tl_split hc x⟩
/-- the signs that are no digits -/
def noDig : D → Bool
  | .str s => !(tl s).all fun c => decide (48 ≤ c ∧ c ≤ 57)
  | _ => true
theorem noDig_empty (w : Str) : ((strD w).filter noDig).isEmpty = digB (tl w) := by
  unfold strD digB
  show ((((tl w).map fun c => D.str ⟨#[c]⟩)).filter noDig).isEmpty = _
  induction tl w with
  | nil => rfl
  | cons c l ih =>
    rw [List.map_cons, List.filter_cons, List.all_cons]
    have e : noDig (.str ⟨#[c]⟩) = !decide (48 ≤ c ∧ c ≤ 57) := by
      show (!([c].all fun c => decide (48 ≤ c ∧ c ≤ 57))) = _
      rw [List.all_cons, List.all_nil, Bool.and_true]
    rw [e]
    cases decide (48 ≤ c ∧ c ≤ 57) with
    | true => rw [Bool.true_and]; exact ih
    | false => rfl
theorem okq_chars {w : Str} (h : PyData.strOk w = true) (p : D → Bool) : okq 64 (.lst ((strD w).filter p)) = true := by
  show ((strD w).filter p).all (okq 63) = true
  rw [List.all_eq_true]
  intro d hd
  obtain ⟨c, hc, rfl⟩ := List.mem_map.mp (List.mem_filter.mp hd).1
  show PyData.strOk ⟨#[c]⟩ = true
  unfold PyData.strOk at h ⊢
  rw [Array.all_eq_true_iff_forall_mem] at h ⊢
  intro x hx
  rw [show x = c by simpa using hx]
  exact h c (by simpa using hc)
theorem lead_test {w : Str} {c : Nat} {r : List Nat} (e : tl w = c :: r) : (decide ((⟨#[c]⟩ : Str) = "0") && !decide (w = "0")) = !leadB (tl w) := by
  unfold leadB
  rw [Bool.not_not, str_eq_tl, str_eq_tl, lit_0, show tl (⟨#[c]⟩ : Str) = [c] from rfl, show tl (⟨#[48]⟩ : Str) = [48] from rfl, e]
  congr 1
  rw [decide_eq_decide, List.head?_cons]
  constructor
  · intro h; injection h with h; rw [h]
  · intro h; injection h with h; rw [h]
theorem first_bad {α : Type} (p : α → Bool) : ∀ xs : List α, (∀ x ∈ xs, p x = true) ∨ ∃ pre x post, xs = pre ++ x :: post ∧ (∀ y ∈ pre, p y = true) ∧ p x = false
  | [] => .inl fun _ h => nomatch h
  | a :: xs => by
    cases h : p a with
    | false => exact .inr ⟨[], a, xs, rfl, fun _ h => (nomatch h), h⟩
    | true =>
      rcases first_bad p xs with h2 | ⟨pre, x, post, e, h2, h3⟩
      · exact .inl fun x hx => by
          rcases List.mem_cons.mp hx with rfl | hx
          · exact h
          · exact h2 x hx
      · refine .inr ⟨a :: pre, x, post, by rw [e]; rfl, fun y hy => ?_, h3⟩
        rcases List.mem_cons.mp hy with rfl | hy
        · exact h
        · exact h2 y hy
section
variable {K : PySem.W.Frag} {φ : Addr → Prop} {J : Hp → Prop} {ρ : List (Option D)} {te ta tb : TE} {t : TA} {W : WX} {c : Addr} {P : D → Prop}
theorem rs_cb1 {r : List V → Hp → VK → Prop} (h : Rs K φ J te ρ W c) : Rs K φ J (tCB r (tCons te t)) ρ W c := fun σ H A k Q => h σ H A k _
theorem rs_tup2 (ha : EvP K φ J ta ρ P) (h : Rs K φ J te ρ W c) : Rs K φ J (tTup (tCons ta (tCons te t))) ρ W c := fun σ H A k Q => ha σ H A _ fun v d H1 b1 A1 pd r => h σ H1 A1 (fun H' b A' => k H' (b1.trans b) A') _
end
theorem word_ok {t : Str} {c : Nat} (hz : t.length ≤ 1000000) (ha : asc (tl t)) {ys : List Str} (hy : ys.map tl = splC c (tl t)) : ∀ y ∈ ys, y.length ≤ 1000000 ∧ asc (tl y) := fun y hm => by
  have h1 : tl y ∈ splC c (tl t) := by rw [← hy]; exact List.mem_map.mpr ⟨y, hm, rfl⟩
  refine ⟨?_, asc_spl ha h1⟩
  rw [len_tl] at hz ⊢
  exact Nat.le_trans (splC_mem_len h1) hz
theorem startswith_tl (x y : Str) : Txt.startswith x y = (tl y).isPrefixOf (tl x) := by
  unfold PySem.Txt.startswith
  rw [Bool.eq_iff_iff, Bool.and_eq_true, decide_eq_true_eq, List.isPrefixOf_iff_prefix, PySem.StrLaws.subAt_eq, List.prefix_iff_eq_take, List.drop_zero, beq_iff_eq, len_tl, len_tl]
  constructor
  · rintro ⟨_, h⟩; exact h.symm
  · intro h
    refine ⟨?_, h.symm⟩
    have := congrArg List.length h
    rw [List.length_take] at this
    omega
theorem removeprefix_tl {x y : Str} (h : (tl y).isPrefixOf (tl x) = true) : tl (Txt.removeprefix x y) = (tl x).drop (tl y).length := by
  have h2 := startswith_tl x y
  rw [h] at h2
  unfold PySem.Txt.startswith at h2
  rw [PySem.StrLaws.removeprefix_eq, if_pos h2]
  show ((tl x).drop y.length).take (x.length - y.length) = _
  rw [len_tl y, len_tl x]
  refine List.take_of_length_le ?_
  rw [List.length_drop]
  exact Nat.le_refl _
theorem okq_strs {ys : List Str} (h : ∀ y ∈ ys, PyData.strOk y = true) : okq 64 (.lst (ys.map D.str)) = true := by
  show (ys.map D.str).all (okq 63) = true
  rw [List.all_map, List.all_eq_true]
  exact fun y hy => h y hy
def numS (i : Int) : Str := Str.ofString (toString i)
def nlS (s : Str) : Str := s ++ "\n"
theorem empty_app (a : Str) : Str.empty ++ a = a := ext_tl (by rw [tl_append]; rfl)
theorem joinL_nil : ∀ ps : List (List Nat), joinL [] ps = ps.flatten
  | [] => rfl
  | [p] => by simp [joinL]
  | p :: q :: r => by
    show p ++ ([] ++ joinL [] (q :: r)) = _
    rw [joinL_nil (q :: r)]
    rfl
theorem tl_joinE (ys : List Str) : tl (Txt.join "" ys) = (ys.map tl).flatten := by
  rw [join_eq, tl_join, show tl ("" : Str) = [] from rfl, joinL_nil]
theorem tl_nlS (s : Str) : tl (nlS s) = tl s ++ [10] := by
  unfold nlS
  rw [tl_append, lit_nl]
theorem len_app (a b : Str) : (a ++ b).length = a.length + b.length := by simp only [len_tl, tl_append, List.length_append]
theorem sum_le {b : Nat} : ∀ {ys : List Str}, (∀ y ∈ ys, y.length ≤ b) → (ys.map (·.length)).sum ≤ ys.length * b
  | [], _ => Nat.zero_le _
  | y :: ys, h => by
    have ih := sum_le fun x hx => h x (List.mem_cons_of_mem _ hx)
    have h1 := h y List.mem_cons_self
    rw [List.map_cons, List.sum_cons, List.length_cons, Nat.succ_mul]
    omega
theorem len_nlS (s : Str) : (nlS s).length = s.length + 1 := by
  unfold nlS
  rw [len_app, lit_nl]
  rfl
theorem asc_numL (n : Nat) : asc (numL n) := fun c hc => by
  have := numL_digits n c hc
  omega
theorem digitsVal_lt : ∀ (n : Nat) (l : List Nat), l.length = n → NumText.AllDigits l → NumText.digitsVal l < 10 ^ n
  | 0, l, hn, _ => by
    rw [List.length_eq_zero_iff.mp hn]
    decide
  | n + 1, l, hn, hd => by
    have hne : l ≠ [] := fun z => by rw [z] at hn; cases hn
    have e := List.dropLast_concat_getLast hne
    generalize hm : l.dropLast = m at e
    generalize l.getLast hne = c at e
    subst e
    have hc := hd c (by simp)
    have ih := digitsVal_lt n m (by rw [List.length_append] at hn; exact Nat.succ.inj hn) fun x hx => hd x (List.mem_append_left _ hx)
    rw [digitsVal_snoc, Nat.pow_succ]
    omega
theorem tl_cut (z : Str) (lo hi : Option Int) : tl (cutS z lo hi) = ((tl z).drop (HT.sIx (tl z).length 0 lo)).take (HT.sIx (tl z).length (tl z).length hi - HT.sIx (tl z).length 0 lo) := by
  rw [← len_tl]
  rfl
theorem tl_last (t : Str) : tl (cutS t (some (-1)) none) = (tl t).drop ((tl t).length - 1) := by
  rw [tl_cut]
  have e : HT.sIx (tl t).length 0 (some (-1)) = (tl t).length - 1 := by
    show (if (-1 : Int) < 0 then ((-1 : Int) + ((tl t).length : Int)).toNat else min (-1 : Int).toNat (tl t).length) = _
    rw [if_pos (by decide)]
    omega
  rw [e]
  show List.take ((tl t).length - _) _ = _
  refine List.take_of_length_le ?_
  rw [List.length_drop]
  exact Nat.le_refl _
theorem tl_init (t : Str) : tl (cutS t none (some (-1))) = (tl t).dropLast := by
  rw [tl_cut]
  have e : HT.sIx (tl t).length (tl t).length (some (-1)) = (tl t).length - 1 := by
    show (if (-1 : Int) < 0 then ((-1 : Int) + ((tl t).length : Int)).toNat else min (-1 : Int).toNat (tl t).length) = _
    rw [if_pos (by decide)]
    omega
  rw [e, List.dropLast_eq_take]
  rfl
theorem last_test (t : Str) : decide (cutS t (some (-1)) none = "\n") = decide ((tl t).getLast? = some 10) := by
  rw [str_eq_tl, tl_last, lit_nl, show tl (⟨#[10]⟩ : Str) = [10] from rfl, decide_eq_decide]
  rcases List.eq_nil_or_concat (tl t) with h | ⟨i, x, h⟩
  · rw [h]
    simp
  · rw [h, List.concat_eq_append, List.length_append]
    simp
end

structure Cs (mg : Str → Option Value) : Prop where
  DIGITS : ∃ u, mg "DIGITS" = some u ∧ RelV (.str "0123456789") u
  MOST_DIGITS : ∃ u, mg "MOST_DIGITS" = some u ∧ RelV (.int (9)) u
  MOST_NEST : ∃ u, mg "MOST_NEST" = some u ∧ RelV (.int (30)) u

/-! ### the readers of papertexts -/
section
open TL
section
variable {P : Program} {w : World} {K : PySem.W.Frag} {mg : Str → Option Value} {base : Heap}
def RNum (c : Addr) : List D → D ⊕ Addr → Prop := fun ds o => ∃ w : Str, ds = [.str w] ∧ w.length ≤ 1000000 ∧ PyData.strOk w = true ∧ o = match okNum 9 (tl w) with
  | some n => .inl (.int (n : Int))
  | none => .inr c
theorem sc_read_number : FnScope ["word", "wrong", "char"] ["word"] (defScope s_read_number) := ⟨rfl, rfl, rfl, by decide +kernel, rfl, by decide +kernel, by decide +kernel⟩
theorem ok_read_number (B : Bi mg) (C : Cs mg) {c : Addr} (X_InvalidText : ExC K mg "InvalidText" c) {f : Addr} {fd : FuncData} (F : Fun K "read_number" "read_number" s_read_number f fd) : FnOk P w K mg base (L2.CX P w) 1 f fd ["word"] (SpX K 1 (RNum c)) := by
  have S := sc_read_number
  refine fn_okX F S rfl 2 rfl fun cdv A outer s H E hr => ⟨_, ((pss_cons (ps_setLc (i := 1) (own := [("char", 2)]) (g := (gName 2)) (by rfl) S.nd rfl rfl (sw_true rfl rfl rfl (by decide +kernel)) (pi_str (pv 0)) (blkOk_by (N := ["word", "wrong", "char"]) (sc := defScope s_read_number) (own := [("char", 2)]) (by decide +kernel)) (fun _ _ _ _ _ => (pg_name (i := 2) S.nd rfl (by first | exact Or.inl rfl | exact Or.inr rfl))) (fun _ _ _ _ _ => pts_one (pt_cmpR op_notInS (pv 2) (pe_cst C.DIGITS) rfl)) (fun _ _ _ _ _ => (pv 2)))
 (pss_cons (ps_if (PW.pt (pw_or (pt_not (pt_chain op_le op_le pe_int (pe_callB c_lenS (by rfl) B.len (by decide +kernel) (pa_cons (pv 0) pa_nil)) (pe_cst C.MOST_DIGITS))) (pw_or (pt_cmpR (op_neD hr.units) (pv 1) (pe_lst pa_nil) (nomark _)) (pw_or1 (PW.pt (pw_and (pt_cmpR op_eq (pe_ix ix_str (pv 0) pe_int (fun _ _ => rfl)) pe_str (nomark _)) (pw_and1 (pt_cmpR op_ne (pv 0) pe_str (nomark _)))))))))
 (pss_one (ps_raise rfl (takes_of rfl rfl rfl rfl) (pmk_own PySem.F.excBase_ValueError X_InvalidText.e X_InvalidText.m X_InvalidText.k (raises_own X_InvalidText.s X_InvalidText.t) (by rfl))))
 pss_nil)
 (pss_one (ps_ret (pe_callTy c_intS (by rfl) B.int (by decide +kernel) (pa_cons (pv 0) pa_nil))))))), fun φ ds o H D0 σ hl hR hrt hex A => ?_⟩
  obtain ⟨w, rfl, hz, hok, rfl⟩ := hR
  replace A : At K φ (Same H) [some (.str w), none, none] σ H := A
  refine q (st_set (d := .lst ((strD w).filter noDig)) A ((ev_lcF (k := 2) (p := noDig) (f := fun d => d) (it_str (ev_var rfl)) (by unfold strD; rw [List.length_map, Array.length_toList]; exact hz) (fun d hd φ' J' hx => ?_) fun d hd pd φ' J' hx => ev_var rfl).is (congrArg D.lst (List.map_id' _))) fun σ1 H1 A1 => ?_)
  · obtain ⟨x, hx', rfl⟩ := List.mem_map.mp hd
    refine (et_test (ev_notInS (c := x) (ev_var rfl) ev_str)).is ?_
    rw [mem_digits]
    show _ = !([x].all fun c => decide (48 ≤ c ∧ c ≤ 57))
    rw [List.all_cons, List.all_nil, Bool.and_true]
  replace A1 : At K φ (Same H) [some (.str w), some (.lst ((strD w).filter noDig)), none] σ1 H1 := A1
  have key : okNum 9 (tl w) = if (!(decide (1 ≤ (w.length : Int)) && decide ((w.length : Int) ≤ 9)) || (!digB (tl w) || !leadB (tl w))) = true then none else some (NumText.digitsVal (tl w)) := by
    unfold okNum
    rw [len_tl, show decide (1 ≤ ((tl w).length : Int)) = decide (1 ≤ (tl w).length) from decide_eq_decide.mpr (by omega), show decide (((tl w).length : Int) ≤ 9) = decide ((tl w).length ≤ 9) from decide_eq_decide.mpr (by omega)]
    cases decide (1 ≤ (tl w).length) <;> cases decide ((tl w).length ≤ 9) <;> cases digB (tl w) <;> cases leadB (tl w) <;> rfl
  dsimp only
  refine q (st_if A1 (et_or (et_not (et_test (ev_chainI ev_int (ev_lenS (ev_var (i := 0) rfl) hz) ev_int))) fun hb1 => et_or (b := !digB (tl w)) (c := !leadB (tl w)) ((et_test (ev_neQ (ev_var (i := 1) rfl) (ev_lst ea_nil) (okq_chars hok _) rfl)).is (by rw [eqvD_nil, noDig_empty])) fun hb2 => ?_) (fun hb H2 A2 => ?_) (fun hb H2 A2 => st_next ?_))
  · cases e : tl w with
    | nil =>
      exfalso
      have h0 : w.length = 0 := by rw [len_tl, e]; rfl
      rw [h0] at hb1
      exact absurd hb1 (by decide)
    | cons x r =>
      have e2 := lead_test e
      rw [e] at e2
      exact (et_and (et_test (ev_eqS (ev_ixStr (ev_var (i := 0) rfl) ev_int hz (by rw [e]; exact atI_ofNat (i := 0) rfl)) ev_str)) fun _ => et_test (ev_neS (ev_var (i := 0) rfl) ev_str)).is e2
  · rw [key, if_pos hb.symm] at hex
    exact hex c rfl H2 A2.j
  · have hb := hb.symm
    rw [key, if_neg (by rw [hb]; exact Bool.false_ne_true)] at hrt
    rw [Bool.or_eq_false_iff, Bool.or_eq_false_iff] at hb
    obtain ⟨h1, h2, _⟩ := hb
    have h1 : (decide (1 ≤ (w.length : Int)) && decide ((w.length : Int) ≤ 9)) = true := by simpa using h1
    rw [Bool.and_eq_true, decide_eq_true_eq, decide_eq_true_eq] at h1
    have h2 : digB (tl w) = true := by simpa using h2
    exact st_ret A2 (ev_intS (ev_var (i := 0) rfl) (intText_digits (x := w) (digB_all.mp h2) (fun z => by
      have : w.length = 0 := by rw [len_tl]; exact congrArg List.length z
      omega) (by omega)) (by omega)) fun v d H3 e A3 r => hrt _ rfl v H3 A3.j (by rw [e] at r; exact r)
theorem num_rd {c : Addr} {W : WX} {φ : Addr → Prop} {J : Hp → Prop} {ρ : List (Option D)} {ta : TE} {s : Str} {n : Nat} (ha : EvD K φ J ta ρ (.str s)) (hz : s.length ≤ 1000000) (hok : PyData.strOk s = true) (h : okNum 9 (tl s) = some n) :
    EvD K φ J (tCallS (SpX K 1 (RNum c)) (WE W) (tCons ta tNil)) ρ (.int (n : Int)) := ev_callX (ea_cons ha ea_nil) ⟨s, rfl, hz, hok, by rw [h]⟩
theorem num_no {c : Addr} {W : WX} {φ : Addr → Prop} {J : Hp → Prop} {ρ : List (Option D)} {ta : TE} {s : Str} (ha : EvD K φ J ta ρ (.str s)) (hz : s.length ≤ 1000000) (hok : PyData.strOk s = true) (h : okNum 9 (tl s) = none) :
    Rs K φ J (tCallS (SpX K 1 (RNum c)) (WE W) (tCons ta tNil)) ρ W c := rs_call (ea_cons ha ea_nil) ⟨s, rfl, hz, hok, by rw [h]⟩
end
end

/-! ### the reader of refusals -/
structure TTreeReader (K : PySem.W.Frag) (mg : Str → Option Value) (C : Addr) : Prop where
  cl : Cls K C
  n_words : NoAttr K C "words"
  n_channels : NoAttr K C "channels"
  n_at : NoAttr K C "at"
  mgC : mg "TreeReader" = some (.ref C)
section
open TL
theorem lk_hit {f : Str} {v : V} {r : List (Str × V)} : ((f, v) :: r).lookup f = some v := by simp [List.lookup]
theorem lk_miss {f g : Str} {v : V} {r : List (Str × V)} (h : (g == f) = false) : ((f, v) :: r).lookup g = r.lookup g := by simp [List.lookup, h]
theorem pf_hit {f : Str} {v u : V} {r : List (Str × V)} : putF f v ((f, u) :: r) = (f, v) :: r := if_pos rfl
theorem pf_miss {f g : Str} {v u : V} {r : List (Str × V)} (h : ¬ g = f) : putF f v ((g, u) :: r) = (g, u) :: putF f v r := if_neg h
def G55 : List V → Nat → List (Str × V) := fun sv k => [("words", sv.getD 0 .non), ("channels", sv.getD 1 .non), ("at", .int (k : Int))]
theorem G55_words {sv : List V} {k : Nat} : (G55 sv k).lookup ("words" : Str) = some (sv.getD 0 .non) := lk_hit
theorem G55_channels {sv : List V} {k : Nat} : (G55 sv k).lookup ("channels" : Str) = some (sv.getD 1 .non) := (lk_miss (by decide +kernel)).trans lk_hit
theorem G55_at {sv : List V} {k : Nat} : (G55 sv k).lookup ("at" : Str) = some (.int (k : Int)) := (lk_miss (by decide +kernel)).trans ((lk_miss (by decide +kernel)).trans lk_hit)
theorem G55_put {sv : List V} {k : Nat} : putF "at" (.int ((k : Int) + 1)) (G55 sv k) = G55 sv (k + 1) := by
  show putF "at" (.int ((k : Int) + 1)) [(("words" : Str), sv.getD 0 .non), ("channels", sv.getD 1 .non), ("at", .int (k : Int))] = _
  rw [pf_miss (by decide +kernel), pf_miss (by decide +kernel), pf_hit]
  rfl
def WordsOk (ws : List Str) : Prop := ∀ w ∈ ws, w.length ≤ 1000000 ∧ asc (tl w)
def numAt (ws : List Str) (k : Nat) : Option Nat := match ws[k]? with
  | none => none
  | some w => okNum 9 (tl w)
def takes (f : Nat → Option (D × Nat)) : Nat → Nat → Option (List D × Nat)
  | 0, k => some ([], k)
  | m + 1, k => match f k with
    | none => none
    | some (d, k1) => match takes f m k1 with
      | none => none
      | some (ds, k2) => some (d :: ds, k2)
def takeT (ws : List Str) (ch : Nat) : Nat → Nat → Option (D × Nat)
  | 0, _ => none
  | n + 1, k => match ws[k]? with
    | none => none
    | some w => if w = "clash" then (match numAt ws (k + 1) with
        | none => none
        | some a => match numAt ws (k + 2) with
          | none => none
          | some b => some (.tup [.str "clash", .int (a : Int), .int (b : Int)], k + 3))
      else if w = "full" then (match numAt ws (k + 1) with
        | none => none
        | some a => some (.tup [.str "full", .int (a : Int)], k + 2))
      else if w = "split" then (match numAt ws (k + 1) with
        | none => none
        | some u => match takes (takeT ws ch n) ch (k + 2) with
          | none => none
          | some (ts, k') => some (.tup [.str "split", .int (u : Int), .tup ts], k'))
      else none
theorem numAt_lt {ws : List Str} {k a : Nat} (h : numAt ws k = some a) : k < ws.length := by
  unfold numAt at h
  cases e : ws[k]? with
  | none => rw [e] at h; cases h
  | some w => exact (List.getElem?_eq_some_iff.mp e).1
theorem takes_le {f : Nat → Option (D × Nat)} {L : Nat} (hf : ∀ k d k', k ≤ L → f k = some (d, k') → k' ≤ L) : ∀ (m k : Nat) (ts : List D) (k' : Nat), k ≤ L → takes f m k = some (ts, k') → k' ≤ L
  | 0, k, ts, k', hk, h => by cases h; exact hk
  | m + 1, k, ts, k', hk, h => by
    unfold takes at h
    cases e : f k with
    | none => rw [e] at h; cases h
    | some z =>
      obtain ⟨d, k1⟩ := z
      rw [e] at h
      dsimp only at h
      cases e2 : takes f m k1 with
      | none => rw [e2] at h; cases h
      | some z =>
        obtain ⟨ds, k2⟩ := z
        rw [e2] at h
        cases h
        exact takes_le hf m k1 _ _ (hf k d k1 hk e) e2
theorem takeT_le {ws : List Str} {ch : Nat} : ∀ (n k : Nat) (d : D) (k' : Nat), k ≤ ws.length → takeT ws ch n k = some (d, k') → k' ≤ ws.length
  | 0, k, d, k', _, h => by cases h
  | n + 1, k, d, k', hk, h => by
    unfold takeT at h
    cases e : ws[k]? with
    | none => rw [e] at h; cases h
    | some w =>
      rw [e] at h
      dsimp only at h
      split at h
      · cases h1 : numAt ws (k + 1) with
        | none => rw [h1] at h; cases h
        | some a =>
          cases h2 : numAt ws (k + 2) with
          | none => rw [h1, h2] at h; cases h
          | some b =>
            rw [h1, h2] at h
            cases h
            have := numAt_lt h2
            omega
      · split at h
        · cases h1 : numAt ws (k + 1) with
          | none => rw [h1] at h; cases h
          | some a =>
            rw [h1] at h
            cases h
            have := numAt_lt h1
            omega
        · split at h
          · cases h1 : numAt ws (k + 1) with
            | none => rw [h1] at h; cases h
            | some a =>
              rw [h1] at h
              dsimp only at h
              cases h2 : takes (takeT ws ch n) ch (k + 2) with
              | none => rw [h2] at h; cases h
              | some z =>
                obtain ⟨ts, k2⟩ := z
                rw [h2] at h
                cases h
                have := numAt_lt h1
                exact takes_le (L := ws.length) (fun k d k' hk h => takeT_le n k d k' hk h) ch (k + 2) _ _ (by omega) h2
          · cases h
def oT (c : Addr) : Option (D × Nat) → (D × Nat) ⊕ Addr
  | some z => .inl z
  | none => .inr c
def oN (c : Addr) (k : Nat) : Option Nat → (D × Nat) ⊕ Addr
  | some n => .inl (.int (n : Int), k + 1)
  | none => .inr c
theorem iter_takes {c : Addr} {f : Nat → Option (D × Nat)} : ∀ (ds : List D) (k : Nat), iterM (fun _ k => oT c (f k)) ds k = match takes f ds.length k with | some z => .inl z | none => .inr c
  | [], k => rfl
  | d :: ds, k => by
    rw [List.length_cons]
    unfold iterM takes
    cases f k with
    | none => rfl
    | some z =>
      obtain ⟨y, k1⟩ := z
      rw [show oT c (some (y, k1)) = .inl (y, k1) from rfl]
      dsimp only
      rw [iter_takes ds k1]
      cases takes f ds.length k1 with
      | none => rfl
      | some z => rfl
def sdOf (ws : List Str) (ch : Int) : List D := [.lst (ws.map D.str), .int ch]
def RNumber (c : Addr) : List D → Nat → List D → (D × Nat) ⊕ Addr → Prop := fun sd k ds o => ∃ ws ch, sd = sdOf ws ch ∧ WordsOk ws ∧ ws.length ≤ 1000000 ∧ k ≤ ws.length ∧ ds = [] ∧ o = oN c k (numAt ws k)
def RTree (c : Addr) (n : Nat) : List D → Nat → List D → (D × Nat) ⊕ Addr → Prop := fun sd k ds o => ∃ ws ch m, n = m + 1 ∧ sd = sdOf ws ch ∧ WordsOk ws ∧ ws.length ≤ 1000000 ∧ k ≤ ws.length ∧ (0 ≤ ch ∧ ch ≤ 1000) ∧ m ≤ 30 ∧ ds = [.int (31 - (m : Int))] ∧ o = oT c (takeT ws ch.toNat m k)
section
variable {P : Program} {w : World} {K : PySem.W.Frag} {mg : Str → Option Value} {base : Heap}
section
variable {φ : Addr → Prop} {p C dx : Addr} {sv : List V} {J : Nat → Hp → Prop} {ws : List Str} {ch : Int} {ρ : List (Option D)} {k i : Nat}
theorem ev_words (T : ObjF K φ p C dx (G55 sv) (sdOf ws ch) sv J) (TC : TTreeReader K mg C) (hk : ρ[k]? = some (some (.raw (.ref p)))) : EvD K φ (J i) (tFld K (tVar k) "words") ρ (.lst (ws.map D.str)) := ev_fldO T hk TC.cl TC.n_words G55_words fun H j => by
  obtain ⟨v, r, rfl, h1, _⟩ := T.sr _ _ j
  exact h1
theorem ev_channels (T : ObjF K φ p C dx (G55 sv) (sdOf ws ch) sv J) (TC : TTreeReader K mg C) (hk : ρ[k]? = some (some (.raw (.ref p)))) : EvD K φ (J i) (tFld K (tVar k) "channels") ρ (.int ch) := ev_fldO T hk TC.cl TC.n_channels G55_channels fun H j => by
  obtain ⟨v, r, rfl, _, h2⟩ := T.sr _ _ j
  obtain ⟨v2, r2, rfl, h2, _⟩ := h2
  exact h2
theorem ev_at (T : ObjF K φ p C dx (G55 sv) (sdOf ws ch) sv J) (TC : TTreeReader K mg C) (hk : ρ[k]? = some (some (.raw (.ref p)))) : EvD K φ (J i) (tFld K (tVar k) "at") ρ (.int (i : Int)) := ev_fldO T hk TC.cl TC.n_at G55_at fun H j => rfl
end
theorem sc_TreeReader_number : FnScope ["self"] ["self"] (defScope s_TreeReader_number) := ⟨rfl, rfl, rfl, by decide +kernel, rfl, by decide +kernel, by decide +kernel⟩
theorem ok_TreeReader_number (B : Bi mg) {CT c : Addr} (X_InvalidText : ExC K mg "InvalidText" c) (T_TreeReader : TTreeReader K mg CT) {f g : Addr} {fd gd : FuncData} (F : Fun K "number" "TreeReader.number" s_TreeReader_number f fd)
    (L_read_number : Lk K mg "read_number" g gd ["word"]) (G_read_number : FnOk P w K mg base (L2.CX P w) 1 g gd ["word"] (SpX K 1 (RNum c))) : FnOk P w K mg base (L2.CX P w) 2 f fd ["self"] (SpO K CT G55 0 (RNumber c)) := by
  have S := sc_TreeReader_number
  refine fn_okO F S rfl 0 rfl fun cdv A outer s H E hr => ⟨_, ((pss_cons (ps_if (pt_cmpR op_eq (pe_fld (pv 0) rfl) (pe_callB c_len (by rfl) B.len (by decide +kernel) (pa_cons (pe_fld (pv 0) rfl) pa_nil)) (nomark _))
 (pss_one (ps_raise rfl (takes_of rfl rfl rfl rfl) (pmk_own PySem.F.excBase_ValueError X_InvalidText.e X_InvalidText.m X_InvalidText.k (raises_own X_InvalidText.s X_InvalidText.t) (by rfl))))
 pss_nil)
 (pss_cons (ps_fldaug (pv 0) pe_int in_add)
 (pss_one (ps_ret (pe_callS G_read_number (hr.mono (by first | exact Nat.le_refl _ | decide | omega)) (by rfl) L_read_number.m L_read_number.kp L_read_number.bi (fun σ => passAt (takes_of rfl rfl rfl rfl) σ) (pa_cons (pe_ix ix_list (pe_fld (pv 0) rfl) (pe_op op_sub (pe_fld (pv 0) rfl) pe_int) (fun _ _ => rfl)) pa_nil))))))), fun φ p dx sd sv J k ds o H D0 σ hl hR T hrt hex A => ?_⟩
  obtain ⟨ws, ch, rfl, W, lw, hk, rfl, rfl⟩ := hR
  replace A : At K φ (J k) [some (.raw (.ref p))] σ H := A
  refine q (st_if A (et_test (ev_eqI (ev_at T T_TreeReader rfl) (ev_lenL (ds := ws.map D.str) (ev_words T T_TreeReader rfl)))) (fun hb H1 A1 => ?_) (fun hb H1 A1 => st_next (q ?_)))
  · have hb := decide_eq_true_iff.mp hb.symm
    rw [List.length_map] at hb
    have e : numAt ws k = none := by
      unfold numAt
      rw [List.getElem?_eq_none (by omega)]
    rw [e] at hex
    exact hex c rfl k H1 A1.j
  · have hb : ¬ ((k : Int) = ((ws.map D.str).length : Int)) := fun z => by rw [decide_eq_true z] at hb; cases hb
    rw [List.length_map] at hb
    have hlt : k < ws.length := by omega
    have hw : ws[k]? = some ws[k] := List.getElem?_eq_getElem hlt
    have eN : numAt ws k = okNum 9 (tl ws[k]) := by
      unfold numAt
      rw [hw]
    obtain ⟨wl, wa⟩ := W ws[k] (List.getElem_mem hlt)
    refine st_fldAug (i' := k + 1) T A1 rfl T_TreeReader.cl T_TreeReader.n_at G55_at G55_put (by show 3 < 1000; decide) fun H2 b2 A2 => ?_
    refine st_retM A2 (em_callX (ema_of (ea_cons (ev_ixL (d := .str ws[k]) (ev_words T T_TreeReader rfl) (ev_sub (ev_at T T_TreeReader rfl) ev_int) ?_) ea_nil)) ⟨ws[k], rfl, wl, asc_strOk wa, rfl⟩) (fun v d i' H3 e b A3 r => ?_) fun c' i' H3 e b A3 => ?_
    · rw [show ((k + 1 : Nat) : Int) - 1 = (k : Int) by omega]
      exact atI_ofNat (by rw [List.getElem?_map, hw]; rfl)
    · rw [eN] at hrt
      cases h : okNum 9 (tl ws[k]) with
      | none => rw [h] at e; cases e
      | some n =>
        rw [h] at e hrt
        cases e
        exact hrt _ _ rfl v H3 A3.j r
    · rw [eN] at hex
      cases h : okNum 9 (tl ws[k]) with
      | some n => rw [h] at e; cases e
      | none =>
        rw [h] at e hex
        cases e
        exact hex _ rfl _ H3 A3.j
theorem sc_TreeReader_tree : FnScope ["self", "depth", "word", "user", "_"] ["self", "depth"] (defScope s_TreeReader_tree) := ⟨rfl, rfl, rfl, by decide +kernel, rfl, by decide +kernel, by decide +kernel⟩
set_option maxHeartbeats 1000000 in
theorem ok_TreeReader_tree (B : Bi mg) (C : Cs mg) {CT c : Addr} (X_InvalidText : ExC K mg "InvalidText" c) (T_TreeReader : TTreeReader K mg CT) {f g : Addr} {fd gd : FuncData} (F : Fun K "tree" "TreeReader.tree" s_TreeReader_tree f fd) (L_TreeReader_tree : LkM K CT "tree" f fd ["self", "depth"])
    (L_TreeReader_number : LkM K CT "number" g gd ["self"]) (G_TreeReader_number : FnOk P w K mg base (L2.CX P w) 2 g gd ["self"] (SpO K CT G55 0 (RNumber c))) : ∀ n, FnOk P w K mg base (L2.CX P w) (n + 2) f fd ["self", "depth"] (SpO K CT G55 1 (RTree c n))
  | 0 => fn_never fun vs H Q E h => by
    obtain ⟨_, _, _, _, _, _, _, _, _, _, _, _, _, _, _, _, ⟨_, _, _, h, _⟩, _⟩ := h
    cases h
  | n + 1 => by
    have G_TreeReader_tree : FnOk P w K mg base (L2.CX P w) (n + 2) f fd ["self", "depth"] (SpO K CT G55 1 (RTree c n)) := ok_TreeReader_tree B C X_InvalidText T_TreeReader F L_TreeReader_tree L_TreeReader_number G_TreeReader_number n
    have S := sc_TreeReader_tree
    refine fn_okO F S rfl 3 rfl fun cdv A outer s H E hr => ⟨_, ((pss_cons (ps_if (PW.pt (pw_or (pt_cmpR op_eq (pe_fld (pv 0) rfl) (pe_callB c_len (by rfl) B.len (by decide +kernel) (pa_cons (pe_fld (pv 0) rfl) pa_nil)) (nomark _)) (pw_or1 (pt_cmpR op_gt (pv 1) (pe_cst C.MOST_NEST) (nomark _)))))
 (pss_one (ps_raise rfl (takes_of rfl rfl rfl rfl) (pmk_own PySem.F.excBase_ValueError X_InvalidText.e X_InvalidText.m X_InvalidText.k (raises_own X_InvalidText.s X_InvalidText.t) (by rfl))))
 pss_nil)
 (pss_cons (ps_set (i := 2) S.nd rfl (by first | exact Or.inl rfl | exact Or.inr rfl) (pe_ix ix_list (pe_fld (pv 0) rfl) (pe_fld (pv 0) rfl) (fun _ _ => rfl)))
 (pss_cons (ps_fldaug (pv 0) pe_int in_add)
 (pss_cons (ps_if (pt_cmpR op_eq (pv 2) pe_str (nomark _))
 (pss_one (ps_ret (pe_tup (pa_cons pe_str (pa_cons (pe_methX0 (pv 0) T_TreeReader.cl L_TreeReader_number.me G_TreeReader_number (hr.mono (by first | exact Nat.le_refl _ | decide | omega)) L_TreeReader_number.bi (fun σ => passAt (takes_of rfl rfl rfl rfl) σ) ) (pa_cons (pe_methX0 (pv 0) T_TreeReader.cl L_TreeReader_number.me G_TreeReader_number (hr.mono (by first | exact Nat.le_refl _ | decide | omega)) L_TreeReader_number.bi (fun σ => passAt (takes_of rfl rfl rfl rfl) σ) ) pa_nil))))))
 pss_nil)
 (pss_cons (ps_if (pt_cmpR op_eq (pv 2) pe_str (nomark _))
 (pss_one (ps_ret (pe_tup (pa_cons pe_str (pa_cons (pe_methX0 (pv 0) T_TreeReader.cl L_TreeReader_number.me G_TreeReader_number (hr.mono (by first | exact Nat.le_refl _ | decide | omega)) L_TreeReader_number.bi (fun σ => passAt (takes_of rfl rfl rfl rfl) σ) ) pa_nil)))))
 pss_nil)
 (pss_cons (ps_if (pt_cmpR op_ne (pv 2) pe_str (nomark _))
 (pss_one (ps_raise rfl (takes_of rfl rfl rfl rfl) (pmk_own PySem.F.excBase_ValueError X_InvalidText.e X_InvalidText.m X_InvalidText.k (raises_own X_InvalidText.s X_InvalidText.t) (by rfl))))
 pss_nil)
 (pss_cons (ps_set (i := 3) S.nd rfl (by first | exact Or.inl rfl | exact Or.inr rfl) (pe_methX0 (pv 0) T_TreeReader.cl L_TreeReader_number.me G_TreeReader_number (hr.mono (by first | exact Nat.le_refl _ | decide | omega)) L_TreeReader_number.bi (fun σ => passAt (takes_of rfl rfl rfl rfl) σ) ))
 (pss_one (ps_ret (pe_tup (pa_cons pe_str (pa_cons (pv 3) (pa_cons (pe_callTy c_tupOf (by rfl) B.tuple (by decide +kernel) (pa_cons (pe_lcX (own := [("_", 4)]) (g := (gName 4)) (tt := tYes) (takesL (takes_of rfl rfl rfl rfl) rfl rfl) (by rfl) S.nd (pi_range1 (by rfl) B.range (pa_cons (pe_fld (pv 0) rfl) pa_nil)) (blkOk_by (N := ["self", "depth", "word", "user", "_"]) (sc := defScope s_TreeReader_tree) (own := [("_", 4)]) (by decide +kernel)) (fun _ _ _ _ _ => (pg_name (i := 4) S.nd rfl (by first | exact Or.inl rfl | exact Or.inr rfl))) (fun _ _ _ _ _ => pts_nil) (fun _ _ _ _ _ xe tk => (pe_methX (pv 0) T_TreeReader.cl L_TreeReader_tree.me G_TreeReader_tree (hr.mono (by first | exact Nat.le_refl _ | decide | omega)) L_TreeReader_tree.bi (fun σ => passAtL tk σ) (pa_cons (pe_op op_add (pv 1) pe_int) pa_nil)))) pa_nil)) pa_nil)))))))))))))), fun φ p dx sd sv J k ds o H D0 σ hl hR T hrt hex A => ?_⟩
    obtain ⟨ws, ch, m, hn, rfl, W, lw, hk, hch, hm, rfl, rfl⟩ := hR
    have hn : n = m := by omega
    subst hn
    replace A : At K φ (J k) [some (.raw (.ref p)), some (.int (31 - (n : Int))), none, none, none] σ H := A
    have noM : ∀ {sv : List V} {i : Nat}, (G55 sv i).lookup ("number" : Str) = none := (lk_miss (by decide +kernel)).trans ((lk_miss (by decide +kernel)).trans ((lk_miss (by decide +kernel)).trans rfl))
    have noT : ∀ {sv : List V} {i : Nat}, (G55 sv i).lookup ("tree" : Str) = none := (lk_miss (by decide +kernel)).trans ((lk_miss (by decide +kernel)).trans ((lk_miss (by decide +kernel)).trans rfl))
    have num : ∀ {φ : Addr → Prop} {J : Nat → Hp → Prop} {ρ : List (Option D)} {i : Nat}, ObjF K φ p CT dx (G55 sv) (sdOf ws ch) sv J → ρ[0]? = some (some (.raw (.ref p))) → i ≤ ws.length → EvM K φ J E (tMethX CT "number" (SpO K CT G55 0 (RNumber c)) (fun _ => E) (tVar 0) tNil) ρ i (oN c i (numAt ws i)) := fun T h hi => em_meth T h (fun _ => noM) ema_nil ⟨ws, ch, rfl, W, lw, hi, rfl, rfl⟩
    refine q (st_if A (et_or (et_test (ev_eqI (ev_at T T_TreeReader rfl) (ev_lenL (ds := ws.map D.str) (ev_words T T_TreeReader rfl)))) fun _ => et_test (ev_gt (ev_var rfl) ev_int)) (fun hb H1 A1 => ?_) (fun hb H1 A1 => st_next (q ?_)))
    · have e : takeT ws ch.toNat n k = none := by
        have hb := hb.symm
        rw [Bool.or_eq_true, decide_eq_true_eq, decide_eq_true_eq, List.length_map] at hb
        cases n with
        | zero => rfl
        | succ n =>
          have : k = ws.length := by omega
          unfold takeT
          rw [List.getElem?_eq_none (by omega)]
      rw [e] at hex
      exact hex c rfl k H1 A1.j
    · have hb := hb.symm
      rw [Bool.or_eq_false_iff, decide_eq_false_iff_not, decide_eq_false_iff_not, List.length_map] at hb
      obtain ⟨n, rfl⟩ : ∃ n', n = n' + 1 := ⟨n - 1, by omega⟩
      have hlt : k < ws.length := by omega
      have hw : ws[k]? = some ws[k] := List.getElem?_eq_getElem hlt
      have eT : takeT ws ch.toNat (n + 1) k = if ws[k] = "clash" then (match numAt ws (k + 1) with
        | none => none
        | some a => match numAt ws (k + 2) with
          | none => none
          | some b => some (.tup [.str "clash", .int (a : Int), .int (b : Int)], k + 3))
      else if ws[k] = "full" then (match numAt ws (k + 1) with
        | none => none
        | some a => some (.tup [.str "full", .int (a : Int)], k + 2))
      else if ws[k] = "split" then (match numAt ws (k + 1) with
        | none => none
        | some u => match takes (takeT ws ch.toNat n) ch.toNat (k + 2) with
          | none => none
          | some (ts, k') => some (.tup [.str "split", .int (u : Int), .tup ts], k'))
      else none := by
        conv => lhs; unfold takeT
        rw [hw]
        try rfl
      rw [eT] at hrt hex
      refine st_set A1 (ev_ixL (d := .str ws[k]) (ev_words T T_TreeReader rfl) (ev_at T T_TreeReader rfl) (atI_ofNat (by rw [List.getElem?_map, hw]; rfl))) fun σ2 H2 A2 => q ?_
      refine st_fldAug (i' := k + 1) T A2 rfl T_TreeReader.cl T_TreeReader.n_at G55_at G55_put (by show 3 < 1000; decide) fun H3 b3 A3 => q ?_
      generalize hx : ws[k] = x at A2 A3 hrt hex eT
      replace A3 : At K φ (J (k + 1)) [some (.raw (.ref p)), some (.int (31 - ((n + 1 : Nat) : Int))), some (.str x), none, none] σ2 H3 := A3
      have fin : ∀ {te : TE} {o : Option (D × Nat)} {σ' : L2.St} {H' : Hp} {ρ : List (Option D)} {i : Nat}, (∀ d i', oT c o = .inl (d, i') → ∀ v H', J i' H' → Rep K φ H' d v → D0.rt v H') → (∀ c', oT c o = .inr c' → ∀ i' H', J i' H' → E (.ref c') none H') → At K φ (J i) ρ σ' H' → EvM K φ J E te ρ i (oT c o) → tRet te D0 σ' H' := fun h1 h2 A h => st_retM A h (fun v d i' H' e b A' r => h1 d i' e v H' A'.j r) fun c' i' H' e b A' => h2 c' e i' H' A'.j
      refine st_if A3 (et_test (ev_eqS (ev_var rfl) ev_str)) (fun hb1 H4 A4 => ?_) (fun hb1 H4 A4 => st_next (q ?_))
      · have hb1 := decide_eq_true_iff.mp hb1.symm
        rw [if_pos hb1] at hrt hex
        refine fin hrt hex A4 ?_
        have n1 := num (ρ := [some (.raw (.ref p)), some (.int (31 - ((n + 1 : Nat) : Int))), some (.str x), none, none]) (i := k + 1) T rfl (by omega)
        cases h1 : numAt ws (k + 1) with
        | none =>
          rw [h1] at n1
          exact em_tup_bad (ema_bad2 (em_of ev_str) (ema_bad1 n1))
        | some a =>
          rw [h1] at n1
          have l1 := numAt_lt h1
          have n2 := num (ρ := [some (.raw (.ref p)), some (.int (31 - ((n + 1 : Nat) : Int))), some (.str x), none, none]) (i := k + 2) T rfl (by omega)
          cases h2 : numAt ws (k + 2) with
          | none =>
            rw [h2] at n2
            exact em_tup_bad (ema_bad2 (em_of ev_str) (ema_bad2 n1 (ema_bad1 n2)))
          | some b =>
            rw [h2] at n2
            exact em_tup (ema_cons (em_of ev_str) (ema_cons n1 (ema_cons n2 ema_nil))) (by show 3 ≤ 1000000; decide)
      · have hb1 : ¬ x = "clash" := fun z => by rw [decide_eq_true z] at hb1; cases hb1
        rw [if_neg hb1] at hrt hex
        refine st_if A4 (et_test (ev_eqS (ev_var rfl) ev_str)) (fun hb2 H5 A5 => ?_) (fun hb2 H5 A5 => st_next ?_)
        · have hb2 := decide_eq_true_iff.mp hb2.symm
          rw [if_pos hb2] at hrt hex
          refine fin hrt hex A5 ?_
          have n1 := num (ρ := [some (.raw (.ref p)), some (.int (31 - ((n + 1 : Nat) : Int))), some (.str x), none, none]) (i := k + 1) T rfl (by omega)
          cases h1 : numAt ws (k + 1) with
          | none =>
            rw [h1] at n1
            exact em_tup_bad (ema_bad2 (em_of ev_str) (ema_bad1 n1))
          | some a =>
            rw [h1] at n1
            exact em_tup (ema_cons (em_of ev_str) (ema_cons n1 ema_nil)) (by show 2 ≤ 1000000; decide)
        · have hb2 : ¬ x = "full" := fun z => by rw [decide_eq_true z] at hb2; cases hb2
          rw [if_neg hb2] at hrt hex
          dsimp only
          refine q (st_if A5 (et_test (ev_neS (ev_var (i := 2) rfl) ev_str)) (fun hb3 H6 A6 => ?_) (fun hb3 H6 A6 => st_next (q ?_)))
          · have hb3 : ¬ x = "split" := fun z => by rw [decide_eq_true z] at hb3; cases hb3
            rw [if_neg hb3] at hex
            exact hex c rfl _ H6 A6.j
          · have hb3 : x = "split" := Classical.byContradiction fun z => by rw [decide_eq_false z] at hb3; cases hb3
            rw [if_pos hb3] at hrt hex
            have n1 := num (ρ := [some (.raw (.ref p)), some (.int (31 - ((n + 1 : Nat) : Int))), some (.str x), none, none]) (i := k + 1) T rfl (by omega)
            cases h1 : numAt ws (k + 1) with
            | none =>
              rw [h1] at n1 hex
              exact st_setM A6 n1 (fun d i' σ' H' e _ _ => nomatch e) fun c' i' H' e b A' => by
                cases e
                exact hex _ rfl i' H' A'.j
            | some u =>
              rw [h1] at n1 hrt hex
              dsimp only at hrt hex
              have l1 := numAt_lt h1
              refine st_setM A6 n1 (fun d i' σ7 H7 e b7 A7 => ?_) fun c' i' H' e b A' => nomatch e
              cases e
              replace A7 : At K φ (J (k + 2)) [some (.raw (.ref p)), some (.int (31 - ((n + 1 : Nat) : Int))), some (.str x), some (.int (u : Int)), none] σ7 H7 := A7
              have lc := em_lc (K := K) (φ := φ) (J := J) (E := E) (ρ := [some (.raw (.ref p)), some (.int (31 - ((n + 1 : Nat) : Int))), some (.str x), some (.int (u : Int)), none]) (i := k + 2) (k := 4) (te := tMethX CT "tree" (SpO K CT G55 1 (RTree c (n + 1))) (fun _ => E) (tVar 0) (tCons (tOp (rI0 fun i j => .int (i + j)) (tVar 1) (tC (.int 1))) tNil)) (g := fun _ k => oT c (takeT ws ch.toNat n k)) (fun i => i ≤ ws.length) T
                (it_range1 (ea_cons (ev_channels (k := 0) T T_TreeReader rfl) ea_nil) (by omega)) (by rw [rangeD_length]; omega) (by omega) (fun d hd i1 y i2 h1 h2 => by
                  cases h3 : takeT ws ch.toNat n i1 with
                  | none => rw [h3] at h2; cases h2
                  | some z =>
                    rw [h3] at h2
                    cases h2
                    exact takeT_le n i1 _ _ h1 h3) fun d hd φ' J' i1 hi1 T' => em_meth T' rfl (fun _ => noT) (ema_of (ea_cons (ev_add (ev_var rfl) ev_int) ea_nil)) ⟨ws, ch, n, rfl, rfl, W, lw, hi1, hch, by omega, by
                    rw [show (31 : Int) - ((n + 1 : Nat) : Int) + 1 = 31 - (n : Int) by omega], rfl⟩
              rw [iter_takes, rangeD_length] at lc
              dsimp only
              refine fin hrt hex A7 ?_
              cases h2 : takes (takeT ws ch.toNat n) ch.toNat (k + 2) with
              | none =>
                rw [h2] at lc
                exact em_tup_bad (ema_bad2 (em_of ev_str) (ema_bad2 (em_of (ev_var rfl)) (ema_bad1 (em_cb_bad (ema_bad1 lc)))))
              | some z =>
                obtain ⟨ts, k2⟩ := z
                rw [h2] at lc
                exact em_tup (ema_cons (em_of ev_str) (ema_cons (em_of (ev_var rfl)) (ema_cons (em_tupL lc) ema_nil))) (by show 3 ≤ 1000000; decide)
end
end

-- import HandS.RaiseMore
/-! ### str(x) of an int or a text -/
def rStrA : List V → Hp → VK → Prop := fun vs H Q => rStrI vs H Q ∨ ∃ a, vs = [.str a] ∧ Q (.str a) H
theorem c_strA {X : Cx} : CallR X (.type "str") rStrA := fun pins s σ H xs us Q I r h => h.elim (fun h => c_strI pins s σ H xs us Q I r h) fun h => SkE.call_str_str pins s σ H xs us Q I r h
section
variable {K : PySem.W.Frag} {φ : Addr → Prop} {J : Hp → Prop} {ρ : List (Option D)} {te : TE}
theorem ev_strAI {i : Int} (ha : EvD K φ J te ρ (.int i)) (hz : i.natAbs.log2 < 1920) : EvD K φ J (tCB rStrA (tCons te tNil)) ρ (.str (toString i)) := fun σ H A Q q => by
  have := ev_strI ha hz σ H A Q q
  exact ha σ H A _ fun v d H' b A' e r => .inl (by
    subst e
    cases (show v = _ from r)
    exact ⟨i, rfl, hz, q _ _ H' b A' rfl rfl⟩)
theorem ev_strAS {s : Str} (ha : EvD K φ J te ρ (.str s)) : EvD K φ J (tCB rStrA (tCons te tNil)) ρ (.str s) := fun σ H A Q q => ha σ H A _ fun v d H' b A' e r => .inr (by
  subst e
  cases (show v = _ from r)
  exact ⟨s, rfl, q _ _ H' b A' rfl rfl⟩)
/-- a display of written texts with written ints -/
theorem ev_disp3 {a b c : Str} {i j k : Int} (h : mergeK [] [(Sum.inr a, V.int i), (Sum.inr b, V.int j), (Sum.inr c, V.int k)] = [(Sum.inr a, V.int i), (Sum.inr b, V.int j), (Sum.inr c, V.int k)]) :
    EvD K φ J (tDisp [(tC (.str a), tC (.int i)), (tC (.str b), tC (.int j)), (tC (.str c), tC (.int k))]) ρ (dictD [((Sum.inr a : Key), D.int i), (Sum.inr b, D.int j), (Sum.inr c, D.int k)]) := fun σ H A Q q => by
  intro p hp
  refine ⟨upd_same, [(Sum.inr a, V.int i), (Sum.inr b, V.int j), (Sum.inr c, V.int k)], rfl, (by decide : 3 ≤ 15), ?_⟩
  rw [h]
  have e : L2.upd (L2.upd H p (.dK [])) p (.dK [(Sum.inr a, V.int i), (Sum.inr b, V.int j), (Sum.inr c, V.int k)]) = L2.upd H p (.dK [(Sum.inr a, V.int i), (Sum.inr b, V.int j), (Sum.inr c, V.int k)]) := funext fun x => by
    by_cases z : x = p
    · rw [z, upd_same, upd_same]
    · rw [upd_ne z, upd_ne z, upd_ne z]
  rw [e]
  exact q _ _ _ (But.of (same_new hp)) (A.same (same_new hp)) rfl ⟨p, [V.int i, V.int j, V.int k], rfl, ⟨A.fr.new p hp, upd_same, rfl⟩, ⟨_, _, rfl, rfl, _, _, rfl, rfl, _, _, rfl, rfl, rfl⟩⟩
end

/-! ### read_refusal -/
section
open TL
def readT (t : Str) (ch : Int) : Option D := match takeT (Txt.split t " ") ch.toNat 30 0 with
  | some (d, k) => if k = (Txt.split t " ").length then some d else none
  | none => none
def RReadRef (c : Addr) : List D → D ⊕ Addr → Prop := fun ds o => ∃ t ch, ds = [.str t, .int ch] ∧ t.length ≤ 900000 ∧ asc (tl t) ∧ (0 ≤ ch ∧ ch ≤ 1000) ∧ o = match readT t ch with
  | some d => .inl d
  | none => .inr c
theorem words_ok {t : Str} (hz : t.length ≤ 900000) (ha : asc (tl t)) : WordsOk (Txt.split t " ") ∧ (Txt.split t " ").length ≤ 1000000 ∧ (Txt.split t " ").map tl = splC 32 (tl t) := by
  have e : (Txt.split t " ").map tl = splC 32 (tl t) := by
    rw [lit_sp]
    exact tl_split (by decide) t
  refine ⟨word_ok (c := 32) (by omega) ha e, ?_, e⟩
  have := splC_len 32 (tl t)
  rw [← e, List.length_map, ← len_tl] at this
  omega
section
variable {P : Program} {w : World} {K : PySem.W.Frag} {mg : Str → Option Value} {base : Heap}
theorem sc_TreeReader_init : FnScope ["self", "words", "channels"] ["self", "words", "channels"] (defScope s_TreeReader___init__) := ⟨rfl, rfl, rfl, by decide +kernel, rfl, by decide +kernel, by decide +kernel⟩
theorem ok_TreeReader_init {CT : Addr} (T_TreeReader : TTreeReader K mg CT) {f : Addr} {fd : FuncData} (F : Fun K "__init__" "TreeReader.__init__" s_TreeReader___init__ f fd) : FnOk P w K mg base CX0 1 f fd ["self", "words", "channels"] (SpI CT 2 fun sv => G55 sv 0) := by
  have S := sc_TreeReader_init
  refine F.ok S (fun vs H Q E h => ?_) (fun cdv A outer s H vs Q E hr h => ?_)
  · obtain ⟨p, dx, ws, rfl, hl, _⟩ := h
    rw [List.length_cons, hl]
    rfl
  · obtain ⟨p, dx, ws, rfl, hl, hp, k⟩ := h
    obtain ⟨a, b, rfl⟩ : ∃ a b, ws = [a, b] := by
      match ws, hl with
      | [a, b], _ => exact ⟨a, b, rfl⟩
    refine ⟨_, ((pss_cons (ps_fld (pv 0) (pv 1) rfl)
 (pss_cons (ps_fld (pv 0) (pv 2) rfl)
 (pss_one (ps_fld (pv 0) pe_int rfl))))), ?_⟩
    refine ⟨a, rfl, .ref p, rfl, p, CT, dx, [], rfl, hp, T_TreeReader.cl, T_TreeReader.n_words, (by decide), ?_⟩
    refine ⟨b, rfl, .ref p, rfl, p, CT, dx, _, rfl, upd_same, T_TreeReader.cl, T_TreeReader.n_channels, (by show 1 < 1000; decide), ?_⟩
    refine ⟨.ref p, rfl, p, CT, dx, _, rfl, upd_same, T_TreeReader.cl, T_TreeReader.n_at, ?_, ?_⟩
    · have := length_putF "channels" b (putF "words" a [])
      have := length_putF "words" a []
      have : ([] : List (Str × V)).length = 0 := rfl
      omega
    · refine k _ (fun x o n e => ?_) (by
        rw [upd_same]
        congr 2)
      rw [upd_ne n, upd_ne n, upd_ne n]
      exact e
theorem sc_read_refusal : FnScope ["text", "channels", "reader", "tree"] ["text", "channels"] (defScope s_read_refusal) := ⟨rfl, rfl, rfl, by decide +kernel, rfl, by decide +kernel, by decide +kernel⟩
theorem ok_read_refusal (B : Bi mg) {c : Addr} (X_InvalidText : ExC K mg "InvalidText" c) {CT : Addr} (T_TreeReader : TTreeReader K mg CT) {f f1 g : Addr} {fd fd1 gd : FuncData} (F : Fun K "read_refusal" "read_refusal" s_read_refusal f fd)
    (L_TreeReader___init__ : LkM K CT "__init__" f1 fd1 ["self", "words", "channels"]) (M_TreeReader : Mk K CT f1) (G_TreeReader___init__ : FnOk P w K mg base CX0 1 f1 fd1 ["self", "words", "channels"] (SpI CT 2 fun sv => G55 sv 0))
    (L_TreeReader_tree : LkM K CT "tree" g gd ["self", "depth"]) (G_TreeReader_tree : FnOk P w K mg base (L2.CX P w) 33 g gd ["self", "depth"] (SpO K CT G55 1 (RTree c 31))) : FnOk P w K mg base (L2.CX P w) 34 f fd ["text", "channels"] (SpX K 2 (RReadRef c)) := by
  have S := sc_read_refusal
  refine fn_okX F S rfl 2 rfl fun cdv A outer s H E hr => ⟨_, ((pss_cons (ps_set (i := 2) S.nd rfl (by first | exact Or.inl rfl | exact Or.inr rfl) (pe_make M_TreeReader G_TreeReader___init__ (hr.mono (by first | exact Nat.le_refl _ | decide | omega)) (by rfl) T_TreeReader.mgC L_TreeReader___init__.bi .nil pass0 (pa_cons (pe_m1 PySem.F.slot_str_split PySem.F.type_str_split mu_split (pv 0) pe_str) (pa_cons (pv 1) pa_nil))))
 (pss_cons (ps_set (i := 3) S.nd rfl (by first | exact Or.inl rfl | exact Or.inr rfl) (pe_methX (pv 2) T_TreeReader.cl L_TreeReader_tree.me G_TreeReader_tree (hr.mono (by first | exact Nat.le_refl _ | decide | omega)) L_TreeReader_tree.bi (fun σ => passAt (takes_of rfl rfl rfl rfl) σ) (pa_cons pe_int pa_nil)))
 (pss_cons (ps_if (pt_cmpR op_lt (pe_fld (pv 2) rfl) (pe_callB c_len (by rfl) B.len (by decide +kernel) (pa_cons (pe_fld (pv 2) rfl) pa_nil)) (nomark _))
 (pss_one (ps_raise rfl (takes_of rfl rfl rfl rfl) (pmk_own PySem.F.excBase_ValueError X_InvalidText.e X_InvalidText.m X_InvalidText.k (raises_own X_InvalidText.s X_InvalidText.t) (by rfl))))
 pss_nil)
 (pss_one (ps_ret (pv 3))))))), fun φ ds o H D0 σ hl hR hrt hex A => ?_⟩
  obtain ⟨t, ch, rfl, hz, ha, hch, rfl⟩ := hR
  obtain ⟨W, lw, _⟩ := words_ok hz ha
  replace A : At K φ (Same H) [some (.str t), some (.int ch), none, none] σ H := A
  have noT : ∀ {sv : List V} {i : Nat}, (G55 sv i).lookup ("tree" : Str) = none := (lk_miss (by decide +kernel)).trans ((lk_miss (by decide +kernel)).trans ((lk_miss (by decide +kernel)).trans rfl))
  refine q (st_make (G := G55) (i0 := 0) A (ea_cons (ev_splitD (ev_var rfl) ev_str (by rw [lit_sp]; rfl) (by omega)) (ea_cons (ev_var rfl) ea_nil)) rfl fun p dx sv J σ1 H1 hp hn T imp A1 => q ?_)
  replace A1 : At K (wo φ p) (J 0) [some (.str t), some (.int ch), some (.raw (.ref p)), none] σ1 H1 := A1
  have hrt' : ∀ d, readT t ch = some d → ∀ v H', Same H H' → Rep K φ H' d v → D0.rt v H' := fun d e v H' s r => hrt d (by rw [e]) v H' s r
  have hex' : readT t ch = none → ∀ H', Same H H' → E (.ref c) none H' := fun e H' s => hex c (by rw [e]) H' s
  refine st_setM (o := oT c (takeT (Txt.split t " ") ch.toNat 30 0)) A1 (em_meth T rfl (fun _ => noT) (ema_of (ea_cons ev_int ea_nil)) ⟨_, ch, 30, rfl, rfl, W, lw, Nat.zero_le _, hch, Nat.le_refl _, rfl, rfl⟩) (fun d i' σ2 H2 e b2 A2 => ?_) fun c' i' H2 e b2 A2 => ?_
  · have e2 : takeT (Txt.split t " ") ch.toNat 30 0 = some (d, i') := by
      cases h : takeT (Txt.split t " ") ch.toNat 30 0 with
      | none => rw [h] at e; cases e
      | some z => rw [h] at e; cases e; rfl
    have hle := takeT_le 30 0 d i' (Nat.zero_le _) e2
    replace A2 : At K (wo φ p) (J i') [some (.str t), some (.int ch), some (.raw (.ref p)), some d] σ2 H2 := A2
    dsimp only
    refine q (st_if A2 (et_test (ev_lt (ev_at (k := 2) T T_TreeReader rfl) (ev_lenL (ds := (Txt.split t " ").map D.str) (ev_words (k := 2) T T_TreeReader rfl)))) (fun hb H3 A3 => ?_) (fun hb H3 A3 => st_next ?_))
    · have hb := decide_eq_true_iff.mp hb.symm
      rw [List.length_map] at hb
      refine hex' ?_ H3 (imp _ _ A3.j).1
      unfold readT
      rw [e2]
      exact if_neg (by omega)
    · have hb : ¬ ((i' : Int) < (((Txt.split t " ").map D.str).length : Int)) := fun z => by rw [decide_eq_true z] at hb; cases hb
      rw [List.length_map] at hb
      refine st_ret A3 (ev_var rfl) fun v d' H4 e A4 r => hrt' d ?_ v H4 (imp _ _ A4.j).1 (by
        subst e
        exact Rep.up (fun a o q e => ⟨q.1, e⟩) _ v r)
      unfold readT
      rw [e2]
      exact if_pos (by omega)
  · cases h : takeT (Txt.split t " ") ch.toNat 30 0 with
    | some z => rw [h] at e; cases e
    | none =>
      rw [h] at e
      cases e
      refine hex' ?_ H2 (imp _ _ A2.j).1
      unfold readT
      rw [h]
end
end

/-! ### texts of refusals -/
section
open TL
theorem tl_numS55 {i : Int} (h : 0 ≤ i) : tl (numS i) = numL i.toNat := by
  have e := tl_num i.toNat
  rw [Int.toNat_of_nonneg h] at e
  exact e
theorem len_numB {i : Int} (h : 0 ≤ i) (h2 : i ≤ 2000000000) : (numS i).length ≤ 10 := by
  rw [len_tl, tl_numS55 h]
  exact numL_len (by decide) (by omega)
theorem log_b {i : Int} (h : 0 ≤ i) (h2 : i ≤ 2000000000) : i.natAbs.log2 < 1920 := by
  by_cases z : i.natAbs = 0
  · rw [z]
    decide
  · exact (Nat.log2_lt z).mpr (Nat.lt_of_lt_of_le (show i.natAbs < 2 ^ 31 by omega) (Nat.pow_le_pow_right (by decide) (by decide)))
def itemS : D → Str
  | .str s => s
  | .int i => numS i
  | _ => Str.empty
def treeTx : Nat → D → Str
  | n + 1, .tup [.str _, .int u, .tup ts] => Txt.join " " (("split " ++ numS u) :: ts.map (treeTx n))
  | _ + 1, .tup xs => Txt.join " " (xs.map itemS)
  | _, _ => Str.empty
def smallN (i : Int) : Prop := 0 ≤ i ∧ i ≤ 2000000000
inductive TreeOk : Nat → D → Prop
  | clash {n : Nat} {a b : Int} (ha : smallN a) (hb : smallN b) : TreeOk (n + 1) (.tup [.str "clash", .int a, .int b])
  | full {n : Nat} {a : Int} (ha : smallN a) : TreeOk (n + 1) (.tup [.str "full", .int a])
  | split {n : Nat} {u : Int} {ts : List D} (hu : smallN u) (hl : ts.length ≤ 7) (h : ∀ t ∈ ts, TreeOk n t) : TreeOk (n + 1) (.tup [.str "split", .int u, .tup ts])
theorem TreeOk.up : ∀ {n : Nat} {d : D}, TreeOk n d → TreeOk (n + 1) d
  | _, _, .clash ha hb => .clash ha hb
  | _, _, .full ha => .full ha
  | _, _, .split hu hl h => .split hu hl fun t ht => (h t ht).up
theorem treeOk_plain : ∀ {n : Nat} {d : D}, TreeOk n d → plain (2 * n) d = true
  | n + 1, _, .clash _ _ => rfl
  | n + 1, _, .full _ => rfl
  | n + 1, _, .split (ts := ts) _ hl h => by
    show (decide (3 ≤ 1000000) && (true && (true && ((decide (ts.length ≤ 1000000) && ts.all (plain (2 * n))) && true)))) = true
    rw [decide_eq_true (show ts.length ≤ 1000000 by omega), List.all_eq_true.mpr fun t ht => treeOk_plain (h t ht)]
    rfl
def tb : Nat → Nat
  | 0 => 0
  | n + 1 => 8 * tb n + 40
def lenS : List Str → Nat := fun ys => (ys.map fun y => y.length + 1).sum
theorem joinL_le : ∀ ps : List (List Nat), (joinL [32] ps).length ≤ (ps.map fun p => p.length + 1).sum
  | [] => Nat.le_refl _
  | [p] => by simp [joinL]
  | p :: q :: r => by
    have := joinL_le (q :: r)
    show (p ++ ([32] ++ joinL [32] (q :: r))).length ≤ (p.length + 1) + ((q :: r).map fun p => p.length + 1).sum
    rw [List.length_append, List.length_append]
    show p.length + (1 + _) ≤ _
    omega
theorem tl_joinSp (ys : List Str) : tl (Txt.join " " ys) = joinL [32] (ys.map tl) := by
  have e : tl (" " : Str) = [32] := by rw [lit_sp]
  rw [join_eq, tl_join, e]
theorem len_join (ys : List Str) : (Txt.join " " ys).length ≤ lenS ys := by
  rw [len_tl, tl_joinSp]
  refine Nat.le_trans (joinL_le _) ?_
  unfold lenS
  rw [List.map_map]
  exact Nat.le_of_eq (congrArg List.sum (List.map_congr_left fun y _ => by show (tl y).length + 1 = y.length + 1; rw [len_tl]))
theorem asc_joinL : ∀ {ps : List (List Nat)}, (∀ p ∈ ps, asc p) → asc (joinL [32] ps)
  | [], _, c, hc => by cases hc
  | [p], h, c, hc => h p List.mem_cons_self c hc
  | p :: q :: r, h, c, hc => by
    rcases List.mem_append.mp (show c ∈ p ++ ([32] ++ joinL [32] (q :: r)) from hc) with z | z
    · exact h p List.mem_cons_self c z
    · rcases List.mem_append.mp z with z | z
      · rw [List.mem_singleton.mp z]
        decide
      · exact asc_joinL (fun p hp => h p (List.mem_cons_of_mem _ hp)) c z
theorem asc_join {ys : List Str} (h : ∀ y ∈ ys, asc (tl y)) : asc (tl (Txt.join " " ys)) := by
  rw [tl_joinSp]
  refine asc_joinL fun p hp => ?_
  obtain ⟨y, hy, rfl⟩ := List.mem_map.mp hp
  exact h y hy
theorem lenS_map {α : Type} {f : α → Str} {b : Nat} : ∀ {xs : List α}, (∀ x ∈ xs, (f x).length + 1 ≤ b) → lenS (xs.map f) ≤ xs.length * b
  | [], _ => Nat.zero_le _
  | x :: xs, h => by
    have h1 := h x List.mem_cons_self
    have h2 := lenS_map (xs := xs) fun y hy => h y (List.mem_cons_of_mem _ hy)
    show ((f x).length + 1) + lenS (xs.map f) ≤ (xs.length + 1) * b
    rw [Nat.add_mul]
    omega
theorem asc_lit {s : Str} (h : (tl s).all (fun c => decide (c < 128)) = true) : asc (tl s) := fun c hc => of_decide_eq_true (List.all_eq_true.mp h c hc)
theorem asc_numS {i : Int} (h : 0 ≤ i) : asc (tl (numS i)) := by
  rw [tl_numS55 h]
  exact asc_numL _
theorem asc_app {a b : Str} (ha : asc (tl a)) (hb : asc (tl b)) : asc (tl (a ++ b)) := by
  rw [tl_append]
  intro c hc
  rcases List.mem_append.mp hc with z | z
  · exact ha c z
  · exact hb c z
theorem lenK : ("clash" : Str).length = 5 ∧ ("full" : Str).length = 4 ∧ ("split " : Str).length = 6 := by decide +kernel
theorem treeTx_ok : ∀ {n : Nat} {d : D}, TreeOk n d → (treeTx n d).length ≤ tb n ∧ asc (tl (treeTx n d))
  | n + 1, _, .clash (a := a) (b := b) ha hb => by
    have e : treeTx (n + 1) (.tup [.str "clash", .int a, .int b]) = Txt.join " " ["clash", numS a, numS b] := rfl
    rw [e]
    refine ⟨Nat.le_trans (len_join _) ?_, asc_join fun y hy => ?_⟩
    · show ("clash" : Str).length + 1 + ((numS a).length + 1 + ((numS b).length + 1 + 0)) ≤ 8 * tb n + 40
      have := len_numB ha.1 ha.2
      have := len_numB hb.1 hb.2
      have := lenK.1
      omega
    · simp only [List.mem_cons, List.not_mem_nil, or_false] at hy
      rcases hy with rfl | rfl | rfl
      · exact asc_lit (by decide +kernel)
      · exact asc_numS ha.1
      · exact asc_numS hb.1
  | n + 1, _, .full (a := a) ha => by
    have e : treeTx (n + 1) (.tup [.str "full", .int a]) = Txt.join " " ["full", numS a] := rfl
    rw [e]
    refine ⟨Nat.le_trans (len_join _) ?_, asc_join fun y hy => ?_⟩
    · show ("full" : Str).length + 1 + ((numS a).length + 1 + 0) ≤ 8 * tb n + 40
      have := len_numB ha.1 ha.2
      have := lenK.2.1
      omega
    · simp only [List.mem_cons, List.not_mem_nil, or_false] at hy
      rcases hy with rfl | rfl
      · exact asc_lit (by decide +kernel)
      · exact asc_numS ha.1
  | n + 1, _, .split (u := u) (ts := ts) hu hl h => by
    have e : treeTx (n + 1) (.tup [.str "split", .int u, .tup ts]) = Txt.join " " (("split " ++ numS u) :: ts.map (treeTx n)) := rfl
    rw [e]
    have h1 : lenS (ts.map (treeTx n)) ≤ ts.length * (tb n + 1) := lenS_map fun t ht => Nat.succ_le_succ (treeTx_ok (h t ht)).1
    have h2 : ts.length * (tb n + 1) ≤ 7 * (tb n + 1) := Nat.mul_le_mul_right _ hl
    refine ⟨Nat.le_trans (len_join _) ?_, asc_join fun y hy => ?_⟩
    · show ("split " ++ numS u : Str).length + 1 + lenS (ts.map (treeTx n)) ≤ 8 * tb n + 40
      rw [len_app]
      have := len_numB hu.1 hu.2
      have := lenK.2.2
      omega
    · rcases List.mem_cons.mp hy with rfl | hy
      · exact asc_app (asc_lit (by decide +kernel)) (asc_numS hu.1)
      · obtain ⟨t, ht, rfl⟩ := List.mem_map.mp hy
        exact (treeTx_ok (h t ht)).2
def itemOk : D → Prop
  | .str s => s.length ≤ 10
  | .int i => smallN i
  | _ => False
def RText (n : Nat) : List D → D → Prop := fun ds d => ∃ t, ds = [t] ∧ n ≤ 5 ∧ TreeOk n t ∧ d = .str (treeTx n t)
theorem tb5 : ∀ {n : Nat}, n ≤ 5 → tb n ≤ 200000
  | 0, _ => by decide
  | 1, _ => by decide
  | 2, _ => by decide
  | 3, _ => by decide
  | 4, _ => by decide
  | 5, _ => by decide
  | n + 6, h => by omega
theorem sum_lenS (ys : List Str) : (ys.map (·.length)).sum + ys.length * (" " : Str).length ≤ lenS ys := by
  rw [show (" " : Str).length = 1 from by rw [lit_sp]; rfl, Nat.mul_one]
  induction ys with
  | nil => exact Nat.le_refl _
  | cons y ys ih =>
    show y.length + (ys.map (·.length)).sum + (ys.length + 1) ≤ y.length + 1 + lenS ys
    omega
section
variable {P : Program} {w : World} {K : PySem.W.Frag} {mg : Str → Option Value} {base : Heap}
theorem ev_item {φ : Addr → Prop} {J : Hp → Prop} {ρ : List (Option D)} {te : TE} {d : D} (h : EvD K φ J te ρ d) (hd : itemOk d) : EvD K φ J (tCB rStrA (tCons te tNil)) ρ (.str (itemS d)) := by
  cases d with
  | str s => exact ev_strAS h
  | int i => exact ev_strAI h (log_b hd.1 hd.2)
  | _ => exact hd.elim
/-- " ".join([str(item) for item in tree]) -/
theorem ev_items {φ : Addr → Prop} {J : Hp → Prop} {ρ : List (Option D)} {te : TE} {k : Nat} {xs : List D} (h : EvD K φ J te ρ (.tup xs)) (hx : ∀ x ∈ xs, itemOk x) (hl : xs.length ≤ 3) (hk : ∀ d : D, ((wipeR ρ [k]).set k (some d))[k]? = some (some d)) :
    EvD K φ J (tM1 (rJoin K) (tC (.str " ")) (tLc (iTup K te) (gName k) tYes (tCB rStrA (tCons (tVar k) tNil)) [k])) ρ (.str (Txt.join " " (xs.map itemS))) := by
  refine ev_join ev_str ((ev_lc (k := k) (f := fun d => .str (itemS d)) (it_tup h) (by omega) fun d hd φ' J' _ => ev_item (ev_var (hk _)) (hx d hd)).is (by rw [List.map_map]; rfl)) ?_
  have h1 := sum_lenS (xs.map itemS)
  have h2 : lenS (xs.map itemS) ≤ xs.length * 11 := lenS_map fun x hx' => by
    have := hx x hx'
    cases x with
    | str s => exact Nat.succ_le_succ this
    | int i => exact Nat.succ_le_succ (len_numB this.1 this.2)
    | _ => exact this.elim
  omega
theorem item_clash {a b : Int} (ha : smallN a) (hb : smallN b) : ∀ x ∈ [D.str "clash", .int a, .int b], itemOk x := fun x hx => by
  simp only [List.mem_cons, List.not_mem_nil, or_false] at hx
  rcases hx with rfl | rfl | rfl
  · show ("clash" : Str).length ≤ 10
    rw [lenK.1]
    decide
  · exact ha
  · exact hb
theorem item_full {a : Int} (ha : smallN a) : ∀ x ∈ [D.str "full", .int a], itemOk x := fun x hx => by
  simp only [List.mem_cons, List.not_mem_nil, or_false] at hx
  rcases hx with rfl | rfl
  · show ("full" : Str).length ≤ 10
    rw [lenK.2.1]
    decide
  · exact ha
theorem ne_words : ¬ (("clash" : Str) = "split") ∧ ¬ (("full" : Str) = "split") ∧ ¬ (("clash" : Str) = "full") ∧ ¬ (("split" : Str) = "clash") ∧ ¬ (("split" : Str) = "full") ∧ ¬ (("full" : Str) = "clash") := by decide +kernel
theorem sum_split {n : Nat} {u : Int} {ts : List D} (hn : n + 1 ≤ 5) (hu : smallN u) (hl : ts.length ≤ 7) (h : ∀ t ∈ ts, TreeOk n t) : ((("split " ++ numS u) :: ts.map (treeTx n)).map (·.length)).sum + (("split " ++ numS u) :: ts.map (treeTx n)).length * (" " : Str).length ≤ 16777216 := by
  refine Nat.le_trans (sum_lenS _) ?_
  have h1 : lenS (ts.map (treeTx n)) ≤ ts.length * (tb n + 1) := lenS_map fun t ht => Nat.succ_le_succ (treeTx_ok (h t ht)).1
  have h2 : ts.length * (tb n + 1) ≤ 7 * (tb n + 1) := Nat.mul_le_mul_right _ hl
  have := tb5 (show n ≤ 5 by omega)
  show ("split " ++ numS u : Str).length + 1 + lenS (ts.map (treeTx n)) ≤ 16777216
  rw [len_app]
  have := len_numB hu.1 hu.2
  have := lenK.2.2
  omega
theorem sc_refusal_text : FnScope ["tree", "item", "inner"] ["tree"] (defScope s_refusal_text) := ⟨rfl, rfl, rfl, by decide +kernel, rfl, by decide +kernel, by decide +kernel⟩
theorem ok_refusal_text (B : Bi mg) {f : Addr} {fd : FuncData} (F : Fun K "refusal_text" "refusal_text" s_refusal_text f fd) (L_refusal_text : Lk K mg "refusal_text" f fd ["tree"]) : ∀ n : Nat, FnOk P w K mg base CX0 n f fd ["tree"] (SpD K 1 (RText n))
  | 0 => fn_never fun vs H Q E h => by
    obtain ⟨_, _, _, _, _, _, ⟨_, _, _, h, _⟩, _⟩ := h
    cases h
  | n + 1 => by
    have G_refusal_text : FnOk P w K mg base CX0 n f fd ["tree"] (SpD K 1 (RText n)) := ok_refusal_text B F L_refusal_text n
    have S := sc_refusal_text
    refine fn_ok F S rfl 2 rfl fun cdv A outer s H E hr => ⟨_, ((pss_cons (ps_if (pt_cmpR op_ne (pe_ix ix_tup (pv 0) pe_int (fun _ _ => rfl)) pe_str (nomark _))
 (pss_one (ps_ret (pe_m1 PySem.F.slot_str_join PySem.F.type_str_join mu_join pe_str (pe_lc (own := [("item", 1)]) (g := (gName 1)) (tt := tYes) (by rfl) S.nd (pi_tup (pv 0)) (blkOk_by (N := ["tree", "item", "inner"]) (sc := defScope s_refusal_text) (own := [("item", 1)]) (by decide +kernel)) (fun _ _ _ _ _ => (pg_name (i := 1) S.nd rfl (by first | exact Or.inl rfl | exact Or.inr rfl))) (fun _ _ _ _ _ => pts_nil) (fun _ _ _ _ _ => (pe_callTy c_strA (by rfl) B.str (by decide +kernel) (pa_cons (pv 1) pa_nil)))))))
 pss_nil)
 (pss_one (ps_ret (pe_m1 PySem.F.slot_str_join PySem.F.type_str_join mu_join pe_str (pe_op op_catL (pe_lst (pa_cons (pe_joined (PJ.cons pe_str (PJ.cons (pe_fmt (pe_ix ix_tup (pv 0) pe_int (fun _ _ => rfl))) PJ.nil))) pa_nil)) (pe_lc (own := [("inner", 2)]) (g := (gName 2)) (tt := tYes) (by rfl) S.nd (pi_tup (pe_ix ix_tup (pv 0) pe_int (fun _ _ => rfl))) (blkOk_by (N := ["tree", "item", "inner"]) (sc := defScope s_refusal_text) (own := [("inner", 2)]) (by decide +kernel)) (fun _ _ _ _ _ => (pg_name (i := 2) S.nd rfl (by first | exact Or.inl rfl | exact Or.inr rfl))) (fun _ _ _ _ _ => pts_nil) (fun _ _ _ _ _ => (pe_call G_refusal_text (hr.mono (by first | exact Nat.le_refl _ | decide | omega)) (by rfl) L_refusal_text.m L_refusal_text.kp L_refusal_text.bi .nil pass0 (pa_cons (pv 2) pa_nil)))))))))), fun φ ds d H D0 σ hl hR hrt hnx A => ?_⟩
    obtain ⟨t, rfl, hn, ht, rfl⟩ := hR
    replace A : At K φ (Same H) [some t, none, none] σ H := A
    cases ht with
    | @clash _ a b ha hb =>
      refine q (st_yes A (et_test (ev_neS (ev_ixT (ds := [.str "clash", .int a, .int b]) (ev_var (i := 0) rfl) ev_int rfl) ev_str)) (by rw [decide_eq_false ne_words.1]; rfl) fun H1 A1 => ?_)
      exact st_ret A1 (ev_items (ev_var rfl) (item_clash ha hb) (Nat.le_of_ble_eq_true rfl) fun _ => rfl) fun v d' H9 e A9 r => hrt v H9 A9.j (by rw [e] at r; exact r)
    | @full _ a ha =>
      refine q (st_yes A (et_test (ev_neS (ev_ixT (ds := [.str "full", .int a]) (ev_var (i := 0) rfl) ev_int rfl) ev_str)) (by rw [decide_eq_false ne_words.2.1]; rfl) fun H1 A1 => ?_)
      exact st_ret A1 (ev_items (ev_var rfl) (item_full ha) (Nat.le_of_ble_eq_true rfl) fun _ => rfl) fun v d' H9 e A9 r => hrt v H9 A9.j (by rw [e] at r; exact r)
    | @split _ u ts hu hts h =>
      refine q (st_no A (et_test (ev_neS (ev_ixT (ds := [.str "split", .int u, .tup ts]) (ev_var (i := 0) rfl) ev_int rfl) ev_str)) (by rw [decide_eq_true rfl]; rfl) fun H1 A1 => st_next ?_)
      refine st_ret A1 (ev_join (ys := ("split " ++ numS u) :: ts.map (treeTx n)) ev_str ((ev_catL (ev_lst (ds := [.str ("split " ++ numS u)]) (ea_cons ((ev_fstr (EvJ.cons ev_str (EvJ.cons (ev_fmtI (ev_ixT (ds := [.str "split", .int u, .tup ts]) (ev_var rfl) ev_int rfl) (log_b hu.1 hu.2)) EvJ.nil)) ?_).is ?_) ea_nil)) (ev_lc (k := 2) (f := fun d => .str (treeTx n d)) (it_tup (ds := ts) (ev_ixT (ds := [.str "split", .int u, .tup ts]) (ev_var rfl) ev_int rfl)) (by omega) fun d hd φ' J' _ => ev_callD (ea_cons (ev_var rfl) ea_nil) ⟨d, rfl, by omega, h d hd, rfl⟩) ?_).is ?_) (sum_split hn hu hts h)) fun v d' H9 e A9 r => hrt v H9 A9.j (by rw [e] at r; exact r)
      · have := len_numB hu.1 hu.2
        have := lenK.2.2
        show ("split " : Str).length + ((numS u).length + 0) ≤ 1000000
        omega
      · show D.str (Str.empty ++ "split " ++ numS u) = _
        rw [empty_app]
      · rw [List.length_map]
        show 1 + _ ≤ _
        omega
      · rw [List.map_cons, List.map_map]
        rfl
theorem sc__law_tree_text : FnScope ["tree", "one", "item"] ["tree"] (defScope s__law_tree_text) := ⟨rfl, rfl, rfl, by decide +kernel, rfl, by decide +kernel, by decide +kernel⟩
theorem ok__law_tree_text (B : Bi mg) {f : Addr} {fd : FuncData} (F : Fun K "_law_tree_text" "_law_tree_text" s__law_tree_text f fd) (L__law_tree_text : Lk K mg "_law_tree_text" f fd ["tree"]) : ∀ n : Nat, FnOk P w K mg base CX0 n f fd ["tree"] (SpD K 1 (RText n))
  | 0 => fn_never fun vs H Q E h => by
    obtain ⟨_, _, _, _, _, _, ⟨_, _, _, h, _⟩, _⟩ := h
    cases h
  | n + 1 => by
    have G__law_tree_text : FnOk P w K mg base CX0 n f fd ["tree"] (SpD K 1 (RText n)) := ok__law_tree_text B F L__law_tree_text n
    have S := sc__law_tree_text
    refine fn_ok F S rfl 2 rfl fun cdv A outer s H E hr => ⟨_, ((pss_cons (ps_if (pt_cmpR op_eq (pe_ix ix_tup (pv 0) pe_int (fun _ _ => rfl)) pe_str (nomark _))
 (pss_one (ps_ret (pe_m1 PySem.F.slot_str_join PySem.F.type_str_join mu_join pe_str (pe_op op_catL (pe_lst (pa_cons (pe_op op_addS pe_str (pe_callTy c_strI (by rfl) B.str (by decide +kernel) (pa_cons (pe_ix ix_tup (pv 0) pe_int (fun _ _ => rfl)) pa_nil))) pa_nil)) (pe_lc (own := [("one", 1)]) (g := (gName 1)) (tt := tYes) (by rfl) S.nd (pi_tup (pe_ix ix_tup (pv 0) pe_int (fun _ _ => rfl))) (blkOk_by (N := ["tree", "one", "item"]) (sc := defScope s__law_tree_text) (own := [("one", 1)]) (by decide +kernel)) (fun _ _ _ _ _ => (pg_name (i := 1) S.nd rfl (by first | exact Or.inl rfl | exact Or.inr rfl))) (fun _ _ _ _ _ => pts_nil) (fun _ _ _ _ _ => (pe_call G__law_tree_text (hr.mono (by first | exact Nat.le_refl _ | decide | omega)) (by rfl) L__law_tree_text.m L__law_tree_text.kp L__law_tree_text.bi .nil pass0 (pa_cons (pv 1) pa_nil))))))))
 pss_nil)
 (pss_one (ps_ret (pe_m1 PySem.F.slot_str_join PySem.F.type_str_join mu_join pe_str (pe_lc (own := [("item", 2)]) (g := (gName 2)) (tt := tYes) (by rfl) S.nd (pi_tup (pv 0)) (blkOk_by (N := ["tree", "one", "item"]) (sc := defScope s__law_tree_text) (own := [("item", 2)]) (by decide +kernel)) (fun _ _ _ _ _ => (pg_name (i := 2) S.nd rfl (by first | exact Or.inl rfl | exact Or.inr rfl))) (fun _ _ _ _ _ => pts_nil) (fun _ _ _ _ _ => (pe_callTy c_strA (by rfl) B.str (by decide +kernel) (pa_cons (pv 2) pa_nil))))))))), fun φ ds d H D0 σ hl hR hrt hnx A => ?_⟩
    obtain ⟨t, rfl, hn, ht, rfl⟩ := hR
    replace A : At K φ (Same H) [some t, none, none] σ H := A
    cases ht with
    | @clash _ a b ha hb =>
      refine q (st_no A (et_test (ev_eqS (ev_ixT (ds := [.str "clash", .int a, .int b]) (ev_var (i := 0) rfl) ev_int rfl) ev_str)) (by rw [decide_eq_false ne_words.1]) fun H1 A1 => st_next ?_)
      exact st_ret A1 (ev_items (ev_var rfl) (item_clash ha hb) (Nat.le_of_ble_eq_true rfl) fun _ => rfl) fun v d' H9 e A9 r => hrt v H9 A9.j (by rw [e] at r; exact r)
    | @full _ a ha =>
      refine q (st_no A (et_test (ev_eqS (ev_ixT (ds := [.str "full", .int a]) (ev_var (i := 0) rfl) ev_int rfl) ev_str)) (by rw [decide_eq_false ne_words.2.1]) fun H1 A1 => st_next ?_)
      exact st_ret A1 (ev_items (ev_var rfl) (item_full ha) (Nat.le_of_ble_eq_true rfl) fun _ => rfl) fun v d' H9 e A9 r => hrt v H9 A9.j (by rw [e] at r; exact r)
    | @split _ u ts hu hts h =>
      refine q (st_yes A (et_test (ev_eqS (ev_ixT (ds := [.str "split", .int u, .tup ts]) (ev_var (i := 0) rfl) ev_int rfl) ev_str)) (by rw [decide_eq_true rfl]) fun H1 A1 => ?_)
      refine st_ret A1 (ev_join (ys := ("split " ++ numS u) :: ts.map (treeTx n)) ev_str ((ev_catL (ev_lst (ds := [.str ("split " ++ numS u)]) (ea_cons (ev_addS ev_str (ev_strI (ev_ixT (ds := [.str "split", .int u, .tup ts]) (ev_var rfl) ev_int rfl) (log_b hu.1 hu.2)) ?_) ea_nil)) (ev_lc (k := 1) (f := fun d => .str (treeTx n d)) (it_tup (ds := ts) (ev_ixT (ds := [.str "split", .int u, .tup ts]) (ev_var rfl) ev_int rfl)) (by omega) fun d hd φ' J' _ => ev_callD (ea_cons (ev_var rfl) ea_nil) ⟨d, rfl, by omega, h d hd, rfl⟩) ?_).is ?_) (sum_split hn hu hts h)) fun v d' H9 e A9 r => hrt v H9 A9.j (by rw [e] at r; exact r)
      · have := len_numB hu.1 hu.2
        have := lenK.2.2
        show ("split " : Str).length + (numS u).length ≤ 1000000
        omega
      · rw [List.length_map]
        show 1 + _ ≤ _
        omega
      · rw [List.map_cons, List.map_map]
        rfl
end
end

/-! ### the law's own reading of refusals -/
section
open TL
def cwI (w : Str) : Int := match okNum 9 (tl w) with
  | some n => (n : Int)
  | none => -1
theorem cw_key (l : List Nat) : (match okNum 9 l with | some n => ((n : Nat) : Int) | none => -1) = if (decide (l.length = 0) || (decide (9 < l.length) || !digB l)) = true then -1 else if leadB l = true then ((NumText.digitsVal l : Nat) : Int) else -1 := by
  unfold okNum
  by_cases h1 : l.length = 0
  · rw [decide_eq_true h1, decide_eq_false (show ¬ 1 ≤ l.length by omega), Bool.false_and, Bool.and_false, Bool.false_and]
    rfl
  · rw [decide_eq_false h1, decide_eq_true (show 1 ≤ l.length by omega), Bool.true_and, Bool.false_or]
    by_cases h2 : 9 < l.length
    · rw [decide_eq_true h2, decide_eq_false (show ¬ l.length ≤ 9 by omega), Bool.and_false, Bool.false_and]
      rfl
    · rw [decide_eq_false h2, decide_eq_true (show l.length ≤ 9 by omega), Bool.and_true, Bool.false_or]
      cases digB l with
      | false => rfl
      | true =>
        cases leadB l with
        | false => rfl
        | true => rfl
def nsOf (ws : List Str) (j m : Nat) : List Int := ((ws.drop j).take m).map cwI
theorem numAt_cw {ws : List Str} {j : Nat} {w : Str} (h : ws[j]? = some w) : (numAt ws j = none ∧ cwI w = -1) ∨ ∃ n : Nat, numAt ws j = some n ∧ cwI w = (n : Int) := by
  unfold numAt cwI
  rw [h]
  dsimp only
  cases okNum 9 (tl w) with
  | none => exact .inl ⟨rfl, rfl⟩
  | some n => exact .inr ⟨n, rfl, rfl⟩
def badB (ns : List Int) (m : Nat) : Bool := decide (ns.length < m) || ns.any fun n => decide (n < 0)
theorem drop_none {ws : List Str} {j : Nat} (h : ws[j]? = none) : ws.drop j = [] := List.drop_eq_nil_of_le (List.getElem?_eq_none_iff.mp h)
theorem drop_some {ws : List Str} {j : Nat} {w : Str} (h : ws[j]? = some w) : ws.drop j = w :: ws.drop (j + 1) := by
  obtain ⟨hj, e⟩ := List.getElem?_eq_some_iff.mp h
  rw [List.drop_eq_getElem_cons hj, e]
theorem nums1 (ws : List Str) (j : Nat) : (numAt ws j = none ∧ badB (nsOf ws j 1) 1 = true) ∨ ∃ n : Nat, numAt ws j = some n ∧ badB (nsOf ws j 1) 1 = false ∧ nsOf ws j 1 = [(n : Int)] := by
  cases h : ws[j]? with
  | none =>
    refine .inl ⟨by unfold numAt; rw [h], ?_⟩
    unfold nsOf
    rw [drop_none h]
    rfl
  | some w =>
    have e : nsOf ws j 1 = [cwI w] := by
      unfold nsOf
      rw [drop_some h]
      rfl
    rcases numAt_cw h with ⟨h1, h2⟩ | ⟨n, h1, h2⟩
    · refine .inl ⟨h1, ?_⟩
      rw [e, h2]
      rfl
    · refine .inr ⟨n, h1, ?_, by rw [e, h2]⟩
      rw [e, h2]
      show (decide (1 < 1) || (decide ((n : Int) < 0) || false)) = false
      rw [decide_eq_false (show ¬ ((n : Int) < 0) by omega)]
      rfl
theorem nums2 (ws : List Str) (j : Nat) : (numAt ws j = none ∧ badB (nsOf ws j 2) 2 = true) ∨ (∃ a : Nat, numAt ws j = some a ∧ numAt ws (j + 1) = none ∧ badB (nsOf ws j 2) 2 = true) ∨ ∃ a b : Nat, numAt ws j = some a ∧ numAt ws (j + 1) = some b ∧ badB (nsOf ws j 2) 2 = false ∧ nsOf ws j 2 = [(a : Int), (b : Int)] := by
  cases h : ws[j]? with
  | none =>
    refine .inl ⟨by unfold numAt; rw [h], ?_⟩
    unfold nsOf
    rw [drop_none h]
    rfl
  | some w =>
    cases h' : ws[j + 1]? with
    | none =>
      have e : nsOf ws j 2 = [cwI w] := by
        unfold nsOf
        rw [drop_some h, drop_none h']
        rfl
      have hb : badB (nsOf ws j 2) 2 = true := by
        rw [e]
        rfl
      rcases numAt_cw h with ⟨h1, h2⟩ | ⟨n, h1, h2⟩
      · exact .inl ⟨h1, hb⟩
      · exact .inr (.inl ⟨n, h1, by unfold numAt; rw [h'], hb⟩)
    | some w' =>
      have e : nsOf ws j 2 = [cwI w, cwI w'] := by
        unfold nsOf
        rw [drop_some h, drop_some h']
        rfl
      have hb : badB (nsOf ws j 2) 2 = (decide (cwI w < 0) || decide (cwI w' < 0)) := by
        rw [e]
        show (decide (2 < 2) || (decide (cwI w < 0) || (decide (cwI w' < 0) || false))) = _
        rw [Bool.or_false]
        rfl
      rcases numAt_cw h with ⟨h1, h2⟩ | ⟨n, h1, h2⟩
      · exact .inl ⟨h1, by rw [hb, h2]; rfl⟩
      · rcases numAt_cw h' with ⟨h3, h4⟩ | ⟨n', h3, h4⟩
        · exact .inr (.inl ⟨n, h1, h3, by rw [hb, h4, Bool.or_comm]; rfl⟩)
        · refine .inr (.inr ⟨n, n', h1, h3, ?_, by rw [e, h2, h4]⟩)
          rw [hb, h2, h4, decide_eq_false (show ¬ ((n : Int) < 0) by omega), decide_eq_false (show ¬ ((n' : Int) < 0) by omega)]
          rfl
def manyOf (w : Str) : Nat := if w = "clash" then 2 else if w = "full" then 1 else if w = "split" then 1 else 0
theorem takes_succ {f : Nat → Option (D × Nat)} {m k : Nat} : takes f (m + 1) k = match f k with
    | none => none
    | some (d, k1) => match takes f m k1 with
      | none => none
      | some (ds, k2) => some (d :: ds, k2) := rfl
theorem takes_add {f : Nat → Option (D × Nat)} : ∀ {i j k k1 : Nat} {ys : List D}, takes f i k = some (ys, k1) → takes f (i + j) k = match takes f j k1 with | none => none | some (zs, k2) => some (ys ++ zs, k2)
  | 0, j, k, k1, ys, h => by
    cases h
    rw [Nat.zero_add]
    cases takes f j k with
    | none => rfl
    | some z => rfl
  | i + 1, j, k, k1, ys, h => by
    rw [show i + 1 + j = (i + j) + 1 by omega]
    rw [takes_succ] at h ⊢
    cases hk : f k with
    | none => rw [hk] at h; cases h
    | some z =>
      obtain ⟨y, k'⟩ := z
      rw [hk] at h
      dsimp only at h ⊢
      cases hb : takes f i k' with
      | none => rw [hb] at h; cases h
      | some z =>
        obtain ⟨ys', k''⟩ := z
        rw [hb] at h
        cases h
        rw [takes_add hb]
        cases takes f j k1 with
        | none => rfl
        | some z => rfl
def resT : Option (D × Nat) → D
  | some z => .lst [z.1, .int (z.2 : Int)]
  | none => .non
def optD : Option D → D
  | some d => d
  | none => .non
def RCount : List D → D → Prop := fun ds d => ∃ w : Str, ds = [.str w] ∧ w.length ≤ 1000000 ∧ d = .int (cwI w)
def RTake (n : Nat) : List D → D → Prop := fun ds d => ∃ (ws : List Str) (ch : Int) (m k : Nat), n = m + 1 ∧ ds = [.lst (ws.map D.str), .int (k : Int), .int ch, .int (31 - (m : Int))] ∧ WordsOk ws ∧ ws.length ≤ 1000000 ∧ k ≤ ws.length ∧ (0 ≤ ch ∧ ch ≤ 1000) ∧ m ≤ 30 ∧ d = resT (takeT ws ch.toNat m k)
def RReadL : List D → D → Prop := fun ds d => ∃ t ch, ds = [.str t, .int ch] ∧ t.length ≤ 900000 ∧ asc (tl t) ∧ (0 ≤ ch ∧ ch ≤ 1000) ∧ d = optD (readT t ch)
theorem cut_nat {α : Type} {xs : List α} {a m : Nat} : cutD xs (some ((a : Int) + 1)) (some ((a : Int) + 1 + (m : Int))) = (xs.drop (a + 1)).take m := by
  unfold cutD
  rw [show ((a : Int) + 1) = ((a + 1 : Nat) : Int) by omega, show ((a + 1 : Nat) : Int) + (m : Int) = ((a + 1 + m : Nat) : Int) by omega, HT.sIx_nat, HT.sIx_nat]
  by_cases h : a + 1 ≤ xs.length
  · rw [Nat.min_eq_left h]
    by_cases h2 : a + 1 + m ≤ xs.length
    · rw [Nat.min_eq_left h2]
      congr 1
      omega
    · rw [Nat.min_eq_right (by omega), List.take_of_length_le (by rw [List.length_drop]; omega), List.take_of_length_le (by rw [List.length_drop]; omega)]
  · rw [Nat.min_eq_right (by omega : xs.length ≤ a + 1), List.drop_eq_nil_of_le (Nat.le_refl _), List.drop_eq_nil_of_le (by omega)]
    simp
section
variable {P : Program} {w : World} {K : PySem.W.Frag} {mg : Str → Option Value} {base : Heap}
local macro_rules | `(tactic| walk_at "le") => `(tactic| repeat' (first | exact Le.nil | refine Le.drop ?_ | refine Le.keep ?_))
theorem ev_minL {φ : Addr → Prop} {J : Hp → Prop} {ρ : List (Option D)} {te : TE} {ns : List Int} (ha : EvD K φ J te ρ (.lst (ns.map D.int))) (hn : 0 < ns.length) : EvI K φ J (tCB (rMin K) (tCons te tNil)) ρ (fun m => m ∈ ns ∧ ∀ y ∈ ns, m ≤ y) := ev_cbD (ea_cons ha ea_nil) fun H vs f r Q q => by
  obtain ⟨v, rfl, r1⟩ := r.one
  obtain ⟨a, vs, rfl, p, rs⟩ := rep_lst r1
  have ev := rs.ints
  subst ev
  exact ⟨a, ns, rfl, p.sq, hn, fun m hm hle => q _ _ H (Same.refl H) ⟨m, rfl, hm, fun y hy => hle y hy⟩ rfl⟩
/-- many == 0 or len(numbers) < many or min(numbers) < 0 -/
theorem et_bad {φ : Addr → Prop} {J : Hp → Prop} {ρ : List (Option D)} {t0 t1 : TE} {ns : List Int} {m : Nat} (h0 : EvD K φ J t0 ρ (.int (m : Int))) (h1 : EvD K φ J t1 ρ (.lst (ns.map D.int))) :
    EvX K φ J (tOr (tTest (tOp rEq t0 (tC (.int 0)))) (tOr (tTest (tOp (rI0 fun i j => .bl (decide (i < j))) (tCB (rLen K) (tCons t1 tNil)) t0)) (tTest (tOp (rI0 fun i j => .bl (decide (i < j))) (tCB (rMin K) (tCons t1 tNil)) (tC (.int 0)))))) ρ (decide (m = 0) || badB ns m) := by
  refine (et_or (c := badB ns m) ((et_test (ev_eqI h0 ev_int)).is (c := decide (m = 0)) (by rw [decide_eq_decide]; omega)) fun hm => ?_).is rfl
  have hm : ¬ m = 0 := of_decide_eq_false hm
  refine et_or ((et_test (ev_lt (ev_lenL h1) h0)).is (c := decide (ns.length < m)) (by rw [List.length_map, decide_eq_decide]; omega)) fun hl => ?_
  have hl : ¬ ns.length < m := of_decide_eq_false hl
  refine (et_cmpP (f := fun i j => decide (i < j)) (ev_minL h1 (by omega)) (ev_i ev_int)).imp fun b ⟨i, j, ⟨hi, hj⟩, e, eb⟩ => ?_
  subst e eb
  cases ha : ns.any fun n => decide (n < 0) with
  | true =>
    obtain ⟨y, hy, h⟩ := List.any_eq_true.mp ha
    have := hj y hy
    have := of_decide_eq_true h
    exact decide_eq_true (by omega)
  | false =>
    have := List.any_eq_false.mp ha i hi
    exact decide_eq_false fun z => this (decide_eq_true z)
theorem sc__law_count_word : FnScope ["word", "c"] ["word"] (defScope s__law_count_word) := ⟨rfl, rfl, rfl, by decide +kernel, rfl, by decide +kernel, by decide +kernel⟩
theorem ok__law_count_word (B : Bi mg) {f : Addr} {fd : FuncData} (F : Fun K "_law_count_word" "_law_count_word" s__law_count_word f fd) : FnOk P w K mg base CX0 1 f fd ["word"] (SpD K 1 RCount) := by
  have S := sc__law_count_word
  refine fn_ok F S rfl 1 rfl fun cdv A outer s H E hr => ⟨_, ((pss_cons (ps_if (PW.pt (pw_or (pt_cmpR op_eq (pe_callB c_lenS (by rfl) B.len (by decide +kernel) (pa_cons (pv 0) pa_nil)) pe_int (nomark _)) (pw_or (pt_cmpR op_gt (pe_callB c_lenS (by rfl) B.len (by decide +kernel) (pa_cons (pv 0) pa_nil)) pe_int (nomark _)) (pw_or1 (pt_cmpR op_gt (pe_callB c_len (by rfl) B.len (by decide +kernel) (pa_cons (pe_lc (own := [("c", 1)]) (g := (gName 1)) (by rfl) S.nd (pi_str (pv 0)) (blkOk_by (N := ["word", "c"]) (sc := defScope s__law_count_word) (own := [("c", 1)]) (by decide +kernel)) (fun _ _ _ _ _ => (pg_name (i := 1) S.nd rfl (by first | exact Or.inl rfl | exact Or.inr rfl))) (fun _ _ _ _ _ => pts_one (pt_cmpR op_notInS (pv 1) pe_str rfl)) (fun _ _ _ _ _ => (pv 1))) pa_nil)) pe_int (nomark _))))))
 (pss_one (ps_ret (pe_un un_neg pe_int)))
 pss_nil)
 (pss_one (ps_ret (pe_ifExp (pt_cmpR op_eq (pe_callTy c_strI (by rfl) B.str (by decide +kernel) (pa_cons (pe_callTy c_intS (by rfl) B.int (by decide +kernel) (pa_cons (pv 0) pa_nil)) pa_nil)) (pv 0) (nomark _)) (pe_callTy c_intS (by rfl) B.int (by decide +kernel) (pa_cons (pv 0) pa_nil)) (pe_un un_neg pe_int)))))), fun φ ds d H D0 σ hl hR hrt hnx A => ?_⟩
  obtain ⟨w, rfl, hz, rfl⟩ := hR
  replace A : At K φ (Same H) [some (.str w), none] σ H := A
  have hlist : EvD K φ (Same H) (tLc (iStr (tVar 0)) (gName 1) (tTest (tOp rNotInS (tVar 1) (tC (.str "0123456789")))) (tVar 1) [1]) [some (.str w), none] (.lst ((strD w).filter noDig)) :=
    (ev_lcF (k := 1) (p := noDig) (f := fun d => d) (it_str (ev_var rfl)) (by unfold strD; rw [List.length_map, Array.length_toList]; exact hz) (fun d hd φ' J' hx => by
      obtain ⟨x, hx', rfl⟩ := List.mem_map.mp hd
      refine (et_test (ev_notInS (c := x) (ev_var rfl) ev_str)).is ?_
      rw [mem_digits]
      show _ = !([x].all fun c => decide (48 ≤ c ∧ c ≤ 57))
      rw [List.all_cons, List.all_nil, Bool.and_true]) fun d hd pd φ' J' hx => ev_var rfl).is (congrArg D.lst (List.map_id' _))
  have e3 : decide (0 < (((strD w).filter noDig).length : Int)) = !digB (tl w) := by
    rw [← noDig_empty]
    cases (strD w).filter noDig with
    | nil => rfl
    | cons a r => exact decide_eq_true (by simp)
  have e1 : decide ((w.length : Int) = 0) = decide ((tl w).length = 0) := by rw [decide_eq_decide, len_tl]; omega
  have e2 : decide (9 < (w.length : Int)) = decide (9 < (tl w).length) := by rw [decide_eq_decide, len_tl]; omega
  have key := cw_key (tl w)
  replace key : cwI w = _ := key
  refine q (st_if A ((et_or (et_test (ev_eqI (ev_lenS (ev_var (i := 0) rfl) hz) ev_int)) fun _ => et_or (et_test (ev_gt (ev_lenS (ev_var (i := 0) rfl) hz) ev_int)) fun _ => et_test (ev_gt (ev_lenL hlist) ev_int)).is (by rw [e1, e2, e3])) (fun hb H2 A2 => ?_) (fun hb H2 A2 => st_next ?_))
  · rw [if_pos hb.symm] at key
    rw [key] at hrt
    exact st_ret A2 (ev_neg ev_int) fun v d H3 e A3 r => hrt v H3 A3.j (e ▸ r)
  · have hb := hb.symm
    rw [if_neg (by rw [hb]; exact Bool.false_ne_true)] at key
    rw [key] at hrt
    rw [Bool.or_eq_false_iff, Bool.or_eq_false_iff, decide_eq_false_iff_not, decide_eq_false_iff_not] at hb
    obtain ⟨h1, h2, h3⟩ := hb
    have hd : NumText.AllDigits (tl w) := digB_all.mp (by simpa using h3)
    have hne : tl w ≠ [] := fun z => h1 (by rw [z]; rfl)
    have hint : ∀ {J : Hp → Prop}, EvD K φ J (tCB rIntS (tCons (tVar 0) tNil)) [some (.str w), none] (.int ((NumText.digitsVal (tl w) : Nat) : Int)) := ev_intS (ev_var (i := 0) rfl) (intText_digits (x := w) hd hne (by rw [len_tl]; omega)) (by rw [len_tl]; omega)
    have hlog : ((NumText.digitsVal (tl w) : Nat) : Int).natAbs.log2 < 1920 := by
      have h9 := digitsVal_lt _ (tl w) rfl hd
      have h10 : 10 ^ (tl w).length ≤ 10 ^ 9 := Nat.pow_le_pow_right (by decide) (by omega)
      rw [Int.natAbs_natCast]
      by_cases z : NumText.digitsVal (tl w) = 0
      · rw [z]; decide
      · exact (Nat.log2_lt z).mpr (Nat.lt_of_lt_of_le (Nat.lt_of_lt_of_le h9 h10) (Nat.le_trans (show 10 ^ 9 ≤ 2 ^ 30 by decide) (Nat.pow_le_pow_right (by decide) (by decide))))
    have hstr : decide ((Str.ofString (toString ((NumText.digitsVal (tl w) : Nat) : Int))) = w) = leadB (tl w) := by
      rw [str_eq_tl, tl_num]
      exact leadB_iff hd hne
    dsimp only
    refine st_ret A2 (P := fun d => d = .int (if leadB (tl w) = true then ((NumText.digitsVal (tl w) : Nat) : Int) else -1)) (ev_if (p := fun b => b = leadB (tl w)) ((et_test (ev_eqS (ev_strI hint hlog) (ev_var (i := 0) rfl))).is (by rw [hstr])) (fun hb => hint.is (by rw [if_pos hb.symm])) fun hb => (ev_neg ev_int).is (by rw [← hb]; rfl)) fun v d H3 e A3 r => hrt v H3 A3.j (e ▸ r)
theorem disp55 : mergeK [] [((Sum.inr ("clash" : Str) : Key), V.int 2), (Sum.inr ("full" : Str), V.int 1), (Sum.inr ("split" : Str), V.int 1)] = [(Sum.inr ("clash" : Str), V.int 2), (Sum.inr ("full" : Str), V.int 1), (Sum.inr ("split" : Str), V.int 1)] := by decide +kernel
theorem many_val (w : Str) : (valD [((Sum.inr ("clash" : Str) : Key), D.int 2), (Sum.inr ("full" : Str), D.int 1), (Sum.inr ("split" : Str), D.int 1)] (Sum.inr w)).getD (.int 0) = .int (manyOf w : Int) := by
  unfold manyOf
  by_cases h1 : w = "clash"
  · rw [valD_pos (by rw [h1]), if_pos h1]
    rfl
  · rw [valD_neg (fun z => h1 (Sum.inr.inj z).symm), if_neg h1]
    by_cases h2 : w = "full"
    · rw [valD_pos (by rw [h2]), if_pos h2]
      rfl
    · rw [valD_neg (fun z => h2 (Sum.inr.inj z).symm), if_neg h2]
      by_cases h3 : w = "split"
      · rw [valD_pos (by rw [h3]), if_pos h3]
        rfl
      · rw [valD_neg (fun z => h3 (Sum.inr.inj z).symm), if_neg h3]
        rfl
theorem LivO.j {φ : Addr → Prop} {Jb J : Hp → Prop} {l : Addr} {C : List V → HO} {ds : List D} {H : Hp} (L : LivO K φ Jb J l C ds) (j : J H) : Jb H := by
  obtain ⟨vs, H0, r, m, hl, rfl⟩ := L.ex
  exact j.1.1
theorem LivO.at {φ : Addr → Prop} {Jb J : Hp → Prop} {H1 : Hp} {ρ : List (Option D)} {σ : L2.St} {H : Hp} {l : Addr} {ds : List D} (L : Liv K φ Jb J l ds) (A : At K φ (fun H => J H ∧ But φ H1 H) ρ σ H) : At K φ J ρ σ H := by
  obtain ⟨vs, H0, r, m, hl0, rfl⟩ := L.ex
  exact A.live (J' := fun H => (Jb H ∧ H l = some (HO.lst vs)) ∧ But φ H0 H) A.j.1 (((m.up A.j.1.2.tr).and (Mo.at (A.j.1.2.tr l hl0))).and (Mo.but A.j.1.2.tr))
theorem sc__law_take : FnScope ["words", "at", "channels", "depth", "many", "numbers", "word", "trees", "k", "found"] ["words", "at", "channels", "depth"] (defScope s__law_take) := ⟨rfl, rfl, rfl, by decide +kernel, rfl, by decide +kernel, by decide +kernel⟩
set_option maxHeartbeats 1000000 in
theorem ok__law_take (B : Bi mg) {f g : Addr} {fd gd : FuncData} (F : Fun K "_law_take" "_law_take" s__law_take f fd) (L__law_take : Lk K mg "_law_take" f fd ["words", "at", "channels", "depth"]) (L__law_count_word : Lk K mg "_law_count_word" g gd ["word"]) (G__law_count_word : FnOk P w K mg base CX0 1 g gd ["word"] (SpD K 1 RCount)) :
    ∀ n : Nat, FnOk P w K mg base CX0 (n + 1) f fd ["words", "at", "channels", "depth"] (SpD K 4 (RTake n))
  | 0 => fn_never fun vs H Q E h => by
    obtain ⟨_, _, _, _, _, _, ⟨_, _, _, _, h, _⟩, _⟩ := h
    cases h
  | n + 1 => by
    have G__law_take : FnOk P w K mg base CX0 (n + 1) f fd ["words", "at", "channels", "depth"] (SpD K 4 (RTake n)) := ok__law_take B F L__law_take L__law_count_word G__law_count_word n
    have S := sc__law_take
    refine fn_ok F S rfl 6 rfl fun cdv A outer s H E hr => ⟨_, ((pss_cons (ps_if (PW.pt (pw_or (pt_cmpR op_ge (pv 1) (pe_callB c_len (by rfl) B.len (by decide +kernel) (pa_cons (pv 0) pa_nil)) (nomark _)) (pw_or1 (pt_cmpR op_gt (pv 3) pe_int (nomark _)))))
 (pss_one (ps_ret pe_non))
 pss_nil)
 (pss_cons (ps_set (i := 4) S.nd rfl (by first | exact Or.inl rfl | exact Or.inr rfl) (pe_dget2 hr.units1 (pe_disp (pps_cons pe_str pe_int (pps_cons pe_str pe_int (pps_cons pe_str pe_int pps_nil))) rfl rfl (by simp) (by decide)) (pe_ix ix_list (pv 0) (pv 1) (fun _ _ => rfl)) pe_int ⟨rfl, rfl, rfl, rfl⟩))
 (pss_cons (ps_setLc (i := 5) (own := [("word", 6)]) (g := (gName 6)) (tt := tYes) (by rfl) S.nd rfl rfl (sw_true rfl rfl rfl (by decide +kernel)) (pi_list (pe_slice sl_list (pv 0) (po_some (pe_op op_add (pv 1) pe_int)) (po_some (pe_op op_add (pe_op op_add (pv 1) pe_int) (pv 4))))) (blkOk_by (N := ["words", "at", "channels", "depth", "many", "numbers", "word", "trees", "k", "found"]) (sc := defScope s__law_take) (own := [("word", 6)]) (by decide +kernel)) (fun _ _ _ _ _ => (pg_name (i := 6) S.nd rfl (by first | exact Or.inl rfl | exact Or.inr rfl))) (fun _ _ _ _ _ => pts_nil) (fun _ _ _ _ _ => (pe_call G__law_count_word (hr.mono (by first | exact Nat.le_refl _ | decide | omega)) (by rfl) L__law_count_word.m L__law_count_word.kp L__law_count_word.bi .nil pass0 (pa_cons (pv 6) pa_nil))))
 (pss_cons (ps_if (PW.pt (pw_or (pt_cmpR op_eq (pv 4) pe_int (nomark _)) (pw_or (pt_cmpR op_lt (pe_callB c_len (by rfl) B.len (by decide +kernel) (pa_cons (pv 5) pa_nil)) (pv 4) (nomark _)) (pw_or1 (pt_cmpR op_lt (pe_callB (cr_min rfl) (by rfl) B.min (by decide +kernel) (pa_cons (pv 5) pa_nil)) pe_int (nomark _))))))
 (pss_one (ps_ret pe_non))
 pss_nil)
 (pss_cons (ps_set (i := 1) S.nd rfl (by first | exact Or.inl rfl | exact Or.inr rfl) (pe_op op_add (pe_op op_add (pv 1) pe_int) (pv 4)))
 (pss_cons (ps_if (pt_cmpR op_ne (pe_ix ix_list (pv 0) (pe_op op_sub (pe_op op_sub (pv 1) pe_int) (pv 4)) (fun _ _ => rfl)) pe_str (nomark _))
 (pss_one (ps_ret (pe_lst (pa_cons (pe_op op_catA (pe_tup (pa_cons (pe_ix ix_list (pv 0) (pe_op op_sub (pe_op op_sub (pv 1) pe_int) (pv 4)) (fun _ _ => rfl)) pa_nil)) (pe_callTy c_tupOf (by rfl) B.tuple (by decide +kernel) (pa_cons (pv 5) pa_nil))) (pa_cons (pv 1) pa_nil)))))
 pss_nil)
 (pss_cons (ps_set (i := 7) S.nd rfl (by first | exact Or.inl rfl | exact Or.inr rfl) (pe_lst pa_nil))
 (pss_cons (ps_for PassesOwn.never rfl (pi_range1 (by rfl) B.range (pa_cons (pv 2) pa_nil)) (pg_name (i := 8) S.nd rfl (by first | exact Or.inl rfl | exact Or.inr rfl))
 (pss_cons (ps_set (i := 9) S.nd rfl (by first | exact Or.inl rfl | exact Or.inr rfl) (pe_call G__law_take (hr.mono (by first | exact Nat.le_refl _ | decide | omega)) (by rfl) L__law_take.m L__law_take.kp L__law_take.bi .nil pass0 (pa_cons (pv 0) (pa_cons (pv 1) (pa_cons (pv 2) (pa_cons (pe_op op_add (pv 3) pe_int) pa_nil))))))
 (pss_cons (ps_if (pt_cmpR op_isN1 (pv 9) pe_non (nomark _))
 (pss_one (ps_ret pe_non))
 pss_nil)
 (pss_cons (ps_expr (pe_bm PySem.F.plainAttrs_list PySem.F.slot_list_append PySem.F.type_list_append mt_append (pv 7) (pa_cons (pe_ix ix_list (pv 9) pe_int (fun _ _ => rfl)) pa_nil)))
 (pss_one (ps_set (i := 1) S.nd rfl (by first | exact Or.inl rfl | exact Or.inr rfl) (pe_ix ix_list (pv 9) pe_int (fun _ _ => rfl))))))))
 (pss_one (ps_ret (pe_lst (pa_cons (pe_tup (pa_cons pe_str (pa_cons (pe_ix ix_list (pv 5) pe_int (fun _ _ => rfl)) (pa_cons (pe_callTy c_tupOf (by rfl) B.tuple (by decide +kernel) (pa_cons (pv 7) pa_nil)) pa_nil)))) (pa_cons (pv 1) pa_nil)))))))))))))), fun φ ds d H D0 σ hl hR hrt hnx A => ?_⟩
    obtain ⟨ws, ch, m, k, hn, rfl, W, lw, hk, hch, hm, rfl⟩ := hR
    have hn : n = m := by omega
    subst hn
    replace A : At K φ (Same H) [some (.lst (ws.map D.str)), some (.int (k : Int)), some (.int ch), some (.int (31 - (n : Int))), none, none, none, none, none, none] σ H := A
    have lws : (ws.map D.str).length = ws.length := List.length_map ..
    refine q (st_if A (et_or (et_test (ev_ge (ev_var rfl) (ev_lenL (ds := ws.map D.str) (ev_var rfl)))) fun _ => et_test (ev_gt (ev_var rfl) ev_int)) (fun hb H1 A1 => ?_) (fun hb H1 A1 => st_next (q ?_)))
    · have e : takeT ws ch.toNat n k = none := by
        have hb := hb.symm
        rw [Bool.or_eq_true, decide_eq_true_eq, decide_eq_true_eq, lws] at hb
        cases n with
        | zero => rfl
        | succ n =>
          unfold takeT
          rw [List.getElem?_eq_none (by omega)]
      rw [e] at hrt
      exact st_ret A1 ev_non fun v d H2 e A2 r => hrt v H2 A2.j (by subst e; exact r)
    · have hb := hb.symm
      rw [Bool.or_eq_false_iff, decide_eq_false_iff_not, decide_eq_false_iff_not, lws] at hb
      obtain ⟨n, rfl⟩ : ∃ n', n = n' + 1 := ⟨n - 1, by omega⟩
      have hlt : k < ws.length := by omega
      have hw : ws[k]? = some ws[k] := List.getElem?_eq_getElem hlt
      have eT : takeT ws ch.toNat (n + 1) k = if ws[k] = "clash" then (match numAt ws (k + 1) with
        | none => none
        | some a => match numAt ws (k + 2) with
          | none => none
          | some b => some (.tup [.str "clash", .int (a : Int), .int (b : Int)], k + 3))
      else if ws[k] = "full" then (match numAt ws (k + 1) with
        | none => none
        | some a => some (.tup [.str "full", .int (a : Int)], k + 2))
      else if ws[k] = "split" then (match numAt ws (k + 1) with
        | none => none
        | some u => match takes (takeT ws ch.toNat n) ch.toNat (k + 2) with
          | none => none
          | some (ts, k') => some (.tup [.str "split", .int (u : Int), .tup ts], k'))
      else none := by
        conv => lhs; unfold takeT
        rw [hw]
        try rfl
      rw [eT] at hrt
      have hatk : L2.atI (ws.map D.str) (k : Int) = some (.str ws[k]) := atI_ofNat (by rw [List.getElem?_map, hw]; rfl)
      generalize hx : ws[k] = x at hrt hatk eT
      refine st_set A1 ((ev_dget2 (k := (Sum.inr x : Key)) (ed_frozen (ev_disp3 disp55)) (ev_ixL (ev_var rfl) (ev_var rfl) hatk) ev_int).is (many_val x)) fun σ2 H2 A2 => q ?_
      replace A2 : At K φ (Same H) [some (.lst (ws.map D.str)), some (.int (k : Int)), some (.int ch), some (.int (31 - ((n + 1 : Nat) : Int))), some (.int (manyOf x : Int)), none, none, none, none, none] σ2 H2 := A2
      refine st_set A2 ((ev_lc (k := 6) (f := fun d => match d with | .str w => .int (cwI w) | d => d) (it_list (ev_slL (ds := ws.map D.str) (ev_var rfl) (eo_some (ev_add (ev_var rfl) ev_int)) (eo_some (ev_add (ev_add (ev_var rfl) ev_int) (ev_var rfl))))) (Nat.le_trans (cutD_length _ _ _) (by omega)) fun d hd φ' J' hx' => ?_).is (d' := .lst ((nsOf ws (k + 1) (manyOf x)).map D.int)) ?_) fun σ3 H3 A3 => q ?_
      · have hd2 := List.mem_of_mem_drop (List.mem_of_mem_take hd)
        obtain ⟨y, hy, rfl⟩ := List.mem_map.mp hd2
        exact ev_callD (ea_cons (ev_var rfl) ea_nil) ⟨y, rfl, (W y hy).1, rfl⟩
      · unfold nsOf
        rw [cut_nat, List.map_drop.symm, List.map_take.symm, List.map_map, List.map_map]
        rfl
      replace A3 : At K φ (Same H) [some (.lst (ws.map D.str)), some (.int (k : Int)), some (.int ch), some (.int (31 - ((n + 1 : Nat) : Int))), some (.int (manyOf x : Int)), some (.lst ((nsOf ws (k + 1) (manyOf x)).map D.int)), none, none, none, none] σ3 H3 := A3
      have stop : ∀ {H' : Hp} {σ' : L2.St} {ρ : List (Option D)}, (∀ v H', Same H H' → Rep K φ H' .non v → D0.rt v H') → At K φ (Same H) ρ σ' H' → tRet (tC .non) D0 σ' H' := fun h A => st_ret A ev_non fun v d H2 e A2 r => h v H2 A2.j (by subst e; exact r)
      refine st_if A3 (et_bad (ev_var rfl) (ev_var rfl)) (fun hb1 H4 A4 => ?_) (fun hb1 H4 A4 => st_next (q ?_))
      · refine stop (fun v H' s r => hrt v H' s ?_) A4
        have hb1 := hb1.symm
        by_cases h1 : x = "clash"
        · rw [if_pos h1]
          have em : manyOf x = 2 := if_pos h1
          rw [em] at hb1
          rcases nums2 ws (k + 1) with ⟨e1, _⟩ | ⟨a, e1, e2, _⟩ | ⟨a, b, _, _, e3, _⟩
          · rw [e1]
            exact r
          · rw [e1, e2]
            exact r
          · rw [e3] at hb1
            cases hb1
        · rw [if_neg h1]
          by_cases h2 : x = "full"
          · rw [if_pos h2]
            have em : manyOf x = 1 := by unfold manyOf; rw [if_neg h1, if_pos h2]
            rw [em] at hb1
            rcases nums1 ws (k + 1) with ⟨e1, _⟩ | ⟨a, _, e3, _⟩
            · rw [e1]
              exact r
            · rw [e3] at hb1
              cases hb1
          · rw [if_neg h2]
            by_cases h3 : x = "split"
            · rw [if_pos h3]
              have em : manyOf x = 1 := by unfold manyOf; rw [if_neg h1, if_neg h2, if_pos h3]
              rw [em] at hb1
              rcases nums1 ws (k + 1) with ⟨e1, _⟩ | ⟨a, _, e3, _⟩
              · rw [e1]
                exact r
              · rw [e3] at hb1
                cases hb1
            · rw [if_neg h3]
              exact r
      · have hb1 := hb1.symm
        rw [Bool.or_eq_false_iff, decide_eq_false_iff_not] at hb1
        obtain ⟨hm0, hbad⟩ := hb1
        refine st_set A4 (ev_add (ev_add (ev_var rfl) ev_int) (ev_var rfl)) fun σ5 H5 A5 => q ?_
        replace A5 : At K φ (Same H) [some (.lst (ws.map D.str)), some (.int ((k : Int) + 1 + (manyOf x : Int))), some (.int ch), some (.int (31 - ((n + 1 : Nat) : Int))), some (.int (manyOf x : Int)), some (.lst ((nsOf ws (k + 1) (manyOf x)).map D.int)), none, none, none, none] σ5 H5 := A5
        have ex : ∀ {J : Hp → Prop}, EvD K φ J (tOp (rIxL K) (tVar 0) (tOp (rI0 fun i j => .int (i - j)) (tOp (rI0 fun i j => .int (i - j)) (tVar 1) (tC (.int 1))) (tVar 4))) [some (.lst (ws.map D.str)), some (.int ((k : Int) + 1 + (manyOf x : Int))), some (.int ch), some (.int (31 - ((n + 1 : Nat) : Int))), some (.int (manyOf x : Int)), some (.lst ((nsOf ws (k + 1) (manyOf x)).map D.int)), none, none, none, none] (.str x) := ev_ixL (ev_var rfl) (ev_sub (ev_sub (ev_var rfl) ev_int) (ev_var rfl)) (by
          rw [show (k : Int) + 1 + (manyOf x : Int) - 1 - (manyOf x : Int) = (k : Int) by omega]
          exact hatk)
        have hns : (nsOf ws (k + 1) (manyOf x)).length ≤ 2 := by
          unfold nsOf
          rw [List.length_map, List.length_take]
          have : manyOf x ≤ 2 := by
            unfold manyOf
            split
            · omega
            · split
              · omega
              · split <;> omega
          omega
        refine st_if A5 (et_test (ev_neS ex ev_str)) (fun hb2 H6 A6 => ?_) (fun hb2 H6 A6 => st_next (q ?_))
        · have hb2 : ¬ x = "split" := fun z => by rw [decide_eq_true z] at hb2; cases hb2
          refine st_ret A6 (ev_lst (ea_cons (ev_catT (ev_tup (ea_cons ex ea_nil)) (ev_tupL (ev_var rfl)) (by rw [List.length_map]; show 1 + _ ≤ _; omega)) (ea_cons (ev_var rfl) ea_nil))) fun v d H7 e A7 r => hrt v H7 A7.j ?_
          subst e
          by_cases h1 : x = "clash"
          · rw [if_pos h1]
            have em : manyOf x = 2 := if_pos h1
            rw [em] at hbad r
            rcases nums2 ws (k + 1) with ⟨_, e3⟩ | ⟨a, _, _, e3⟩ | ⟨a, b, e1, e2, _, e4⟩
            · rw [e3] at hbad
              cases hbad
            · rw [e3] at hbad
              cases hbad
            · rw [e1, e2]
              rw [e4, h1, show (k : Int) + 1 + ((2 : Nat) : Int) = ((k + 3 : Nat) : Int) by omega] at r
              exact r
          · rw [if_neg h1]
            have h2 : x = "full" := Classical.byContradiction fun h2 => hm0 (by unfold manyOf; rw [if_neg h1, if_neg h2, if_neg hb2])
            rw [if_pos h2]
            have em : manyOf x = 1 := by unfold manyOf; rw [if_neg h1, if_pos h2]
            rw [em] at hbad r
            rcases nums1 ws (k + 1) with ⟨_, e3⟩ | ⟨a, e1, _, e4⟩
            · rw [e3] at hbad
              cases hbad
            · rw [e1]
              rw [e4, h2, show (k : Int) + 1 + ((1 : Nat) : Int) = ((k + 2 : Nat) : Int) by omega] at r
              exact r
        · have hb2 : x = "split" := Classical.byContradiction fun z => by rw [decide_eq_false z] at hb2; cases hb2
          have h1 : ¬ x = "clash" := by rw [hb2]; exact ne_words.2.2.2.1
          have h2 : ¬ x = "full" := by rw [hb2]; exact ne_words.2.2.2.2.1
          have em : manyOf x = 1 := by unfold manyOf; rw [if_neg h1, if_neg h2, if_pos hb2]
          rw [if_neg h1, if_neg h2, if_pos hb2] at hrt
          rw [em] at hbad
          obtain ⟨u, e1, e4⟩ : ∃ u : Nat, numAt ws (k + 1) = some u ∧ nsOf ws (k + 1) 1 = [(u : Int)] := by
            rcases nums1 ws (k + 1) with ⟨_, e3⟩ | ⟨a, e1, _, e4⟩
            · rw [e3] at hbad
              cases hbad
            · exact ⟨a, e1, e4⟩
          have l1 := numAt_lt e1
          rw [e1] at hrt
          dsimp only at hrt
          rw [em, e4] at A6
          clear ex
          have ek : (k : Int) + 1 + ((1 : Nat) : Int) = ((k + 2 : Nat) : Int) := by omega
          rw [ek] at A6
          replace A6 : At K φ (Same H) [some (.lst (ws.map D.str)), some (.int ((k + 2 : Nat) : Int)), some (.int ch), some (.int (31 - ((n + 1 : Nat) : Int))), some (.int ((1 : Nat) : Int)), some (.lst [.int (u : Int)]), none, none, none, none] σ5 H6 := A6
          refine st_newL A6 (en_lstD ea_nil) fun l ds0 J1 σ7 H7 e hφl hnl x1 L7 A7 => q ?_
          subst e
          have hle : ∀ {i : Nat} {ys : List D} {k' : Nat}, takes (takeT ws ch.toNat n) i (k + 2) = some (ys, k') → k' ≤ ws.length := fun h => takes_le (L := ws.length) (fun k d k' hk h => takeT_le n k d k' hk h) _ (k + 2) _ _ (by omega) h
          refine st_for A7 (it_range1 (ea_cons (ev_var rfl) ea_nil) (by omega)) (fun i ρ' J' => ∃ (ys : List D) (k' : Nat) (o8 o9 : Option D), takes (takeT ws ch.toNat n) i (k + 2) = some (ys, k') ∧ ys.length = i ∧ Liv K (wo φ l) (Same H) J' l ys ∧ ρ' = [some (.lst (ws.map D.str)), some (.int (k' : Int)), some (.int ch), some (.int (31 - ((n + 1 : Nat) : Int))), some (.int ((1 : Nat) : Int)), some (.lst [.int (u : Int)]), none, some (.raw (.ref l)), o8, o9]) ⟨[], k + 2, none, none, rfl, rfl, L7, rfl⟩ ?_ ?_
          · rintro H8 i y ρ' J' b8 j8 hy ⟨ys, k', o8, o9, ht, hys, L8, rfl⟩ σ' H' A8
            have hi : i < ch.toNat := by
              have := (List.getElem?_eq_some_iff.mp hy).1
              rw [rangeD_length] at this
              exact this
            obtain ⟨J2, L9, A9, x9⟩ := L8.push A8
            replace A9 : At K (wo φ l) J2 [some (.lst (ws.map D.str)), some (.int (k' : Int)), some (.int ch), some (.int (31 - ((n + 1 : Nat) : Int))), some (.int ((1 : Nat) : Int)), some (.lst [.int (u : Int)]), none, some (.raw (.ref l)), some y, o9] σ' H' := A9
            have hk' := hle ht
            have hall : takes (takeT ws ch.toNat n) ch.toNat (k + 2) = match takes (takeT ws ch.toNat n) (ch.toNat - i) k' with | none => none | some (zs, k2) => some (ys ++ zs, k2) := by
              have := takes_add (j := ch.toNat - i) ht
              rw [show i + (ch.toNat - i) = ch.toNat by omega] at this
              exact this
            have hnext : takes (takeT ws ch.toNat n) (i + 1) (k + 2) = match takes (takeT ws ch.toNat n) 1 k' with | none => none | some (zs, k2) => some (ys ++ zs, k2) := takes_add (j := 1) ht
            refine q (st_set A9 (ev_callD (ea_cons (ev_var rfl) (ea_cons (ev_var rfl) (ea_cons (ev_var rfl) (ea_cons (ev_add (ev_var rfl) ev_int) ea_nil)))) (d := resT (takeT ws ch.toNat n k')) ⟨ws, ch, n, k', rfl, by rw [show (31 : Int) - ((n + 1 : Nat) : Int) + 1 = 31 - (n : Int) by omega], W, lw, hk', hch, by omega, rfl⟩) fun σ10 H10 A10 => q ?_)
            cases hf : takeT ws ch.toNat n k' with
            | none =>
              rw [hf] at A10
              replace A10 : At K (wo φ l) J2 [some (.lst (ws.map D.str)), some (.int (k' : Int)), some (.int ch), some (.int (31 - ((n + 1 : Nat) : Int))), some (.int ((1 : Nat) : Int)), some (.lst [.int (u : Int)]), none, some (.raw (.ref l)), some y, some .non] σ10 H10 := A10
              refine st_yes A10 (et_test (ev_isN (ev_var rfl))) rfl fun H11 A11 => ?_
              refine st_ret A11 ev_non fun v d H12 e A12 r => hrt v H12 (L9.j A12.j).1 ?_
              subst e
              rw [hall]
              have : takes (takeT ws ch.toNat n) (ch.toNat - i) k' = none := by
                rw [show ch.toNat - i = (ch.toNat - i - 1) + 1 by omega]
                unfold takes
                rw [hf]
              rw [this]
              exact r
            | some z =>
              obtain ⟨t, k2⟩ := z
              rw [hf] at A10
              replace A10 : At K (wo φ l) J2 [some (.lst (ws.map D.str)), some (.int (k' : Int)), some (.int ch), some (.int (31 - ((n + 1 : Nat) : Int))), some (.int ((1 : Nat) : Int)), some (.lst [.int (u : Int)]), none, some (.raw (.ref l)), some y, some (.lst [t, .int (k2 : Int)])] σ10 H10 := A10
              refine st_no A10 (et_test (ev_isN (ev_var rfl))) rfl fun H11 A11 => st_next (q ?_)
              refine st_appL A11 L9 rfl (ev_ixL (ds := [t, .int (k2 : Int)]) (ev_var rfl) ev_int rfl) (by omega) fun d J5 H12 hd L12 A12 => ?_
              subst hd
              refine st_set A12 (ev_ixL (ds := [d, .int (k2 : Int)]) (ev_var rfl) ev_int rfl) fun σ13 H13 A13 => ?_
              obtain ⟨J6, L14, A14⟩ := L12.pop (Mo.liv L7 j8) L7.st L7.pl A13
              refine ⟨_, J6, ⟨ys ++ [d], k2, some y, _, ?_, by rw [List.length_append, hys]; rfl, L14, rfl⟩, A14⟩
              rw [hnext]
              unfold takes
              rw [hf]
              rfl
          · rintro H8 ρ' J' σ' H' b8 j8 ⟨ys, k', o8, o9, ht, hys, L8, rfl⟩ A8
            rw [rangeD_length] at ht
            rw [ht] at hrt
            have A9 := L8.freeze hφl (L8.at A8) (k := 7) rfl
            replace A9 : At K φ (Same H) [some (.lst (ws.map D.str)), some (.int (k' : Int)), some (.int ch), some (.int (31 - ((n + 1 : Nat) : Int))), some (.int ((1 : Nat) : Int)), some (.lst [.int (u : Int)]), none, some (.lst ys), o8, o9] σ' H' := A9
            exact st_ret A9 (ev_lst (ea_cons (ev_tup (ea_cons ev_str (ea_cons (ev_ixL (ds := [.int (u : Int)]) (ev_var rfl) ev_int rfl) (ea_cons (ev_tupL (ev_var rfl)) ea_nil)))) (ea_cons (ev_var rfl) ea_nil))) fun v d H10 e A10 r => hrt v H10 A10.j (by subst e; exact r)
end
end

/-! ### the law's told, reads, drawn trees -/
section
open TL
theorem takes_all {f : Nat → Option (D × Nat)} {p : D → Bool} (hf : ∀ k d k', f k = some (d, k') → p d = true) : ∀ (m k : Nat) (ts : List D) (k' : Nat), takes f m k = some (ts, k') → ts.length = m ∧ ts.all p = true
  | 0, k, ts, k', h => by cases h; exact ⟨rfl, rfl⟩
  | m + 1, k, ts, k', h => by
    rw [takes_succ] at h
    cases e : f k with
    | none => rw [e] at h; cases h
    | some z =>
      obtain ⟨d, k1⟩ := z
      rw [e] at h
      dsimp only at h
      cases e2 : takes f m k1 with
      | none => rw [e2] at h; cases h
      | some z =>
        obtain ⟨ds, k2⟩ := z
        rw [e2] at h
        cases h
        obtain ⟨h1, h2⟩ := takes_all hf m k1 ds _ e2
        exact ⟨by rw [List.length_cons, h1], by rw [List.all_cons, hf k d k1 e, h2]; rfl⟩
theorem takeT_plain {ws : List Str} {ch : Nat} (hc : ch ≤ 1000) : ∀ (n k : Nat) (d : D) (k' : Nat), takeT ws ch n k = some (d, k') → plain (2 * n) d = true
  | 0, k, d, k', h => by cases h
  | n + 1, k, d, k', h => by
    unfold takeT at h
    cases e : ws[k]? with
    | none => rw [e] at h; cases h
    | some w =>
      rw [e] at h
      dsimp only at h
      split at h
      · cases h1 : numAt ws (k + 1) with
        | none => rw [h1] at h; cases h
        | some a =>
          cases h2 : numAt ws (k + 2) with
          | none => rw [h1, h2] at h; cases h
          | some b =>
            rw [h1, h2] at h
            cases h
            rfl
      · split at h
        · cases h1 : numAt ws (k + 1) with
          | none => rw [h1] at h; cases h
          | some a =>
            rw [h1] at h
            cases h
            rfl
        · split at h
          · cases h1 : numAt ws (k + 1) with
            | none => rw [h1] at h; cases h
            | some a =>
              rw [h1] at h
              dsimp only at h
              cases h2 : takes (takeT ws ch n) ch (k + 2) with
              | none => rw [h2] at h; cases h
              | some z =>
                obtain ⟨ts, k2⟩ := z
                rw [h2] at h
                cases h
                obtain ⟨l1, l2⟩ := takes_all (p := plain (2 * n)) (fun k d k' h => takeT_plain hc n k d k' h) ch (k + 2) ts _ h2
                show (decide (3 ≤ 1000000) && (true && (true && ((decide (ts.length ≤ 1000000) && ts.all (plain (2 * n))) && true)))) = true
                rw [decide_eq_true (show ts.length ≤ 1000000 by omega), l2]
                rfl
          · cases h
theorem readT_plain {t : Str} {ch : Int} (hc : 0 ≤ ch ∧ ch ≤ 1000) : plain 60 (optD (readT t ch)) = true := by
  unfold readT
  cases e : takeT (Txt.split t " ") ch.toNat 30 0 with
  | none => rfl
  | some z =>
    obtain ⟨d, k⟩ := z
    dsimp only
    split
    · exact takeT_plain (by omega) 30 0 d k e
    · rfl
section
variable {P : Program} {w : World} {K : PySem.W.Frag} {mg : Str → Option Value} {base : Heap}
theorem sc__law_told : FnScope ["text", "channels"] ["text", "channels"] (defScope s__law_told) := ⟨rfl, rfl, rfl, by decide +kernel, rfl, by decide +kernel, by decide +kernel⟩
theorem ok__law_told (B : Bi mg) {c : Addr} (X_InvalidText : ExC K mg "InvalidText" c) {f g : Addr} {fd gd : FuncData} (F : Fun K "_law_told" "_law_told" s__law_told f fd) (L_read_refusal : Lk K mg "read_refusal" g gd ["text", "channels"]) (G_read_refusal : FnOk P w K mg base (L2.CX P w) 34 g gd ["text", "channels"] (SpX K 2 (RReadRef c))) : FnOk P w K mg base CX0 35 f fd ["text", "channels"] (SpD K 2 RReadL) := by
  have S := sc__law_told
  refine fn_ok F S rfl 0 rfl fun cdv A outer s H E hr => ⟨_, ((pss_one (ps_try_only rfl rfl ⟨(by rfl), by decide, .inl X_InvalidText.m⟩ takes0 (fun W pn xe tk po => (pss_one (ps_ret (pe_callS G_read_refusal (hr.mono (by first | exact Nat.le_refl _ | decide | omega)) (by rfl) L_read_refusal.m L_read_refusal.kp L_read_refusal.bi (fun σ => passAt tk σ) (pa_cons (pv 0) (pa_cons (pv 1) pa_nil))))))
 (fun a oe cls d pn _ _ => (pss_one (ps_ret pe_non)))))), fun φ ds d H D0 σ hl hR hrt hnx A => ?_⟩
  obtain ⟨t, ch, rfl, hz, ha, hch, rfl⟩ := hR
  replace A : At K φ (Same H) [some (.str t), some (.int ch)] σ H := A
  cases e : readT t ch with
  | some r =>
    rw [e] at hrt
    exact st_ret A (ev_callX (ea_cons (ev_var rfl) (ea_cons (ev_var rfl) ea_nil)) ⟨t, ch, rfl, hz, ha, hch, by rw [e]⟩) fun v d H1 e A1 r => hrt v H1 A1.j (by rw [e] at r; exact r)
  | none =>
    rw [e] at hrt
    refine st_rs A (rs_call (c := c) (ea_cons (ev_var rfl) (ea_cons (ev_var rfl) ea_nil)) ⟨t, ch, rfl, hz, ha, hch, by rw [e]⟩) fun H1 b1 A1 => ?_
    exact wonly_yes X_InvalidText.x fun a ha => st_ret A1 ev_non fun v d H2 e A2 r => hrt v H2 A2.j (by rw [e] at r; exact r)
theorem sc__law_reads : FnScope ["text", "channels", "words", "found"] ["text", "channels"] (defScope s__law_reads) := ⟨rfl, rfl, rfl, by decide +kernel, rfl, by decide +kernel, by decide +kernel⟩
theorem ok__law_reads (B : Bi mg) {f g : Addr} {fd gd : FuncData} (F : Fun K "_law_reads" "_law_reads" s__law_reads f fd) (L__law_take : Lk K mg "_law_take" g gd ["words", "at", "channels", "depth"]) (G__law_take : FnOk P w K mg base CX0 32 g gd ["words", "at", "channels", "depth"] (SpD K 4 (RTake 31))) : FnOk P w K mg base CX0 33 f fd ["text", "channels"] (SpD K 2 RReadL) := by
  have S := sc__law_reads
  refine fn_ok F S rfl 2 rfl fun cdv A outer s H E hr => ⟨_, ((pss_cons (ps_set (i := 2) S.nd rfl (by first | exact Or.inl rfl | exact Or.inr rfl) (pe_m1 PySem.F.slot_str_split PySem.F.type_str_split mu_split (pv 0) pe_str))
 (pss_cons (ps_set (i := 3) S.nd rfl (by first | exact Or.inl rfl | exact Or.inr rfl) (pe_call G__law_take (hr.mono (by first | exact Nat.le_refl _ | decide | omega)) (by rfl) L__law_take.m L__law_take.kp L__law_take.bi .nil pass0 (pa_cons (pv 2) (pa_cons pe_int (pa_cons (pv 1) (pa_cons pe_int pa_nil))))))
 (pss_one (ps_ret (pe_ifExp (PW.pt (pw_and (pt_cmpR op_notN1 (pv 3) pe_non (nomark _)) (pw_and1 (pt_cmpR op_eq (pe_ix ix_list (pv 3) pe_int (fun _ _ => rfl)) (pe_callB c_len (by rfl) B.len (by decide +kernel) (pa_cons (pv 2) pa_nil)) (nomark _))))) (pe_ix ix_list (pv 3) pe_int (fun _ _ => rfl)) pe_non)))))), fun φ ds d H D0 σ hl hR hrt hnx A => ?_⟩
  obtain ⟨t, ch, rfl, hz, ha, hch, rfl⟩ := hR
  obtain ⟨W, lw, _⟩ := words_ok hz ha
  replace A : At K φ (Same H) [some (.str t), some (.int ch), none, none] σ H := A
  refine q (st_set A (ev_splitD (ev_var rfl) ev_str (by rw [lit_sp]; rfl) (by omega)) fun σ1 H1 A1 => q ?_)
  refine st_set A1 (ev_callD (d := resT (takeT (Txt.split t " ") ch.toNat 30 0)) (ea_cons (ev_var rfl) (ea_cons ev_int (ea_cons (ev_var rfl) (ea_cons ev_int ea_nil)))) ⟨_, ch, 30, 0, rfl, rfl, W, lw, Nat.zero_le _, hch, Nat.le_refl _, rfl⟩) fun σ2 H2 A2 => ?_
  have key : ∀ {J : Hp → Prop}, EvD K φ J (tIf (tAnd (tTest (tOp rNotN (tVar 3) (tC .non))) (tTest (tOp rEq (tOp (rIxL K) (tVar 3) (tC (.int 1))) (tCB (rLen K) (tCons (tVar 2) tNil))))) (tOp (rIxL K) (tVar 3) (tC (.int 0))) (tC .non)) [some (.str t), some (.int ch), some (.lst ((Txt.split t " ").map D.str)), some (resT (takeT (Txt.split t " ") ch.toNat 30 0))] (optD (readT t ch)) := by
    intro J
    unfold readT
    cases e : takeT (Txt.split t " ") ch.toNat 30 0 with
    | none => exact ev_if (p := fun b => b = false) ((et_and (c := false) (et_test (ev_notN (ev_var (i := 3) rfl))) fun hb => by cases hb).is rfl) (fun h => by cases h) fun _ => ev_non
    | some z =>
      obtain ⟨d, k⟩ := z
      refine ev_if (p := fun b => b = decide (k = (Txt.split t " ").length)) ((et_and (et_test (ev_notN (ev_var (i := 3) rfl))) fun _ => et_test (ev_eqI (ev_ixL (ds := [d, .int (k : Int)]) (ev_var (i := 3) rfl) ev_int rfl) (ev_lenL (ds := (Txt.split t " ").map D.str) (ev_var rfl)))).is ?_) (fun h => ?_) fun h => ?_
      · show (true && decide ((k : Int) = (((Txt.split t " ").map D.str).length : Int))) = _
        rw [Bool.true_and, List.length_map, decide_eq_decide]
        omega
      · dsimp only
        rw [if_pos (of_decide_eq_true h.symm)]
        exact ev_ixL (ds := [d, .int (k : Int)]) (ev_var (i := 3) rfl) ev_int rfl
      · dsimp only
        rw [if_neg (of_decide_eq_false h.symm)]
        exact ev_non
  exact st_ret A2 key fun v d H3 e A3 r => hrt v H3 A3.j (by subst e; exact r)
def PreTree (n : Nat) : List D → Prop := fun ds => ∃ (ch : Int) (m : Nat), m < n ∧ ds = [.int ch, .int (m : Int)] ∧ 0 ≤ ch ∧ ch ≤ 3
def RTreeD (n : Nat) : List D → D → Prop := fun _ d => TreeOk n d
theorem sc__law_some_tree : FnScope ["pool", "channels", "depth", "turn", "k"] ["pool", "channels", "depth"] (defScope s__law_some_tree) := ⟨rfl, rfl, rfl, by decide +kernel, rfl, by decide +kernel, by decide +kernel⟩
theorem ok__law_some_tree (B : Bi mg) {f g : Addr} {fd gd : FuncData} (F : Fun K "_law_some_tree" "_law_some_tree" s__law_some_tree f fd) (L__law_some_tree : Lk K mg "_law_some_tree" f fd ["pool", "channels", "depth"]) (L__law_draw : Lk K mg "_law_draw" g gd ["pool", "many"]) (G__law_draw : FnOk P w K mg base CX0 2 g gd ["pool", "many"] spDraw) :
    ∀ n : Nat, FnOk P w K mg base CX0 (n + 2) f fd ["pool", "channels", "depth"] (SpP K 2 (PreTree n) (RTreeD n))
  | 0 => fn_never fun vs H Q E h => by
    obtain ⟨_, _, _, _, _, _, _, _, _, _, _, _, _, ⟨_, _, h, _⟩, _⟩ := h
    exact Nat.not_lt_zero _ h
  | n + 1 => by
    have G__law_some_tree : FnOk P w K mg base CX0 (n + 2) f fd ["pool", "channels", "depth"] (SpP K 2 (PreTree n) (RTreeD n)) := ok__law_some_tree B F L__law_some_tree L__law_draw G__law_draw n
    have S := sc__law_some_tree
    refine fn_okP F S rfl 2 rfl fun cdv A outer s H E hr => ⟨_, ((pss_cons (ps_set (i := 3) S.nd rfl (by first | exact Or.inl rfl | exact Or.inr rfl) (pe_call G__law_draw (hr.mono (by first | exact Nat.le_refl _ | decide | omega)) (by rfl) L__law_draw.m L__law_draw.kp L__law_draw.bi .nil pass0 (pa_cons (pv 0) (pa_cons pe_int pa_nil))))
 (pss_cons (ps_if (pt_cmpR op_eq (pv 3) pe_int (nomark _))
 (pss_one (ps_ret (pe_tup (pa_cons pe_str (pa_cons (pe_call G__law_draw (hr.mono (by first | exact Nat.le_refl _ | decide | omega)) (by rfl) L__law_draw.m L__law_draw.kp L__law_draw.bi .nil pass0 (pa_cons (pv 0) (pa_cons pe_int pa_nil))) (pa_cons (pe_call G__law_draw (hr.mono (by first | exact Nat.le_refl _ | decide | omega)) (by rfl) L__law_draw.m L__law_draw.kp L__law_draw.bi .nil pass0 (pa_cons (pv 0) (pa_cons pe_int pa_nil))) pa_nil))))))
 pss_nil)
 (pss_cons (ps_if (PW.pt (pw_or (pt_cmpR op_eq (pv 3) pe_int (nomark _)) (pw_or1 (pt_cmpR op_eq (pv 2) pe_int (nomark _)))))
 (pss_one (ps_ret (pe_tup (pa_cons pe_str (pa_cons (pe_ifExp (pt_cmpR op_eq (pe_call G__law_draw (hr.mono (by first | exact Nat.le_refl _ | decide | omega)) (by rfl) L__law_draw.m L__law_draw.kp L__law_draw.bi .nil pass0 (pa_cons (pv 0) (pa_cons pe_int pa_nil))) pe_int (nomark _)) (pe_call G__law_draw (hr.mono (by first | exact Nat.le_refl _ | decide | omega)) (by rfl) L__law_draw.m L__law_draw.kp L__law_draw.bi .nil pass0 (pa_cons (pv 0) (pa_cons pe_int pa_nil))) (pe_call G__law_draw (hr.mono (by first | exact Nat.le_refl _ | decide | omega)) (by rfl) L__law_draw.m L__law_draw.kp L__law_draw.bi .nil pass0 (pa_cons (pv 0) (pa_cons pe_int pa_nil)))) pa_nil)))))
 pss_nil)
 (pss_one (ps_ret (pe_tup (pa_cons pe_str (pa_cons (pe_call G__law_draw (hr.mono (by first | exact Nat.le_refl _ | decide | omega)) (by rfl) L__law_draw.m L__law_draw.kp L__law_draw.bi .nil pass0 (pa_cons (pv 0) (pa_cons pe_int pa_nil))) (pa_cons (pe_callTy c_tupOf (by rfl) B.tuple (by decide +kernel) (pa_cons (pe_lc (own := [("k", 4)]) (g := (gName 4)) (tt := tYes) (by rfl) S.nd (pi_range1 (by rfl) B.range (pa_cons (pv 1) pa_nil)) (blkOk_by (N := ["pool", "channels", "depth", "turn", "k"]) (sc := defScope s__law_some_tree) (own := [("k", 4)]) (by decide +kernel)) (fun _ _ _ _ _ => (pg_name (i := 4) S.nd rfl (by first | exact Or.inl rfl | exact Or.inr rfl))) (fun _ _ _ _ _ => pts_nil) (fun _ _ _ _ _ => (pe_call G__law_some_tree (hr.mono (by first | exact Nat.le_refl _ | decide | omega)) (by rfl) L__law_some_tree.m L__law_some_tree.kp L__law_some_tree.bi .nil pass0 (pa_cons (pv 0) (pa_cons (pv 1) (pa_cons (pe_op op_sub (pv 2) pe_int) pa_nil)))))) pa_nil)) pa_nil)))))))))), fun φ p pl ns ds H D0 σ hl pre np ne hrt A => ?_⟩
    obtain ⟨ch, m, hn, rfl, c0, c1⟩ := pre
    replace A : At K φ (JB p pl ns H) [some (.raw (.ref p)), some (.int ch), some (.int (m : Int)), none, none] σ H := A
    have hP : Pooled φ (JB p pl ns H) p pl ns := pooledB np ne
    have drawP : ∀ {φ : Addr → Prop} {J : Hp → Prop} {ρ : List (Option D)} {m : Int}, Pooled φ J p pl ns → ρ[0]? = some (some (.raw (.ref p))) → 0 < m → m ≤ 2000000000 → EvP K φ J (tCall spDraw [] E0 (tCons (tVar 0) (tCons (tC (.int m)) tNil))) ρ (fun d => ∃ i, d = .int i ∧ smallN i) := fun hP h h1 h2 => (ev_draw hP h ev_int h1 (by omega)).imp fun d ⟨i, e, h3, h4⟩ => ⟨i, e, h3, by omega⟩
    refine q (st_asg A (ev_draw hP rfl ev_int (by decide) (by decide)) fun d σ1 H1 hd A1 => q ?_)
    obtain ⟨turn, rfl, ht⟩ := hd
    replace A1 : At K φ (JB p pl ns H) [some (.raw (.ref p)), some (.int ch), some (.int (m : Int)), some (.int turn), none] σ1 H1 := A1
    refine st_if A1 (et_test (ev_eqI (ev_var rfl) ev_int)) (fun _ H2 A2 => ?_) (fun _ H2 A2 => st_next (q ?_))
    · refine st_ret A2 (ev_tupP (ea_consP ev_str (ea_consP (drawP hP rfl (by decide) (by decide)) (ea_consP (drawP hP rfl (by decide) (by decide)) ea_nil))) ?_) fun v d H3 hd A3 r => hrt v d H3 ?_ A3.j r
      · rintro r ⟨d, r', rfl, _, d2, r2, rfl, _, d3, r3, rfl, _, rfl⟩
        exact Nat.le_of_ble_eq_true rfl
      · obtain ⟨r, rfl, d, r', rfl, rfl, d2, r2, rfl, ⟨a, rfl, ha⟩, d3, r3, rfl, ⟨b, rfl, hb⟩, rfl⟩ := hd
        exact .clash ha hb
    · refine st_if A2 (et_or (et_test (ev_eqI (ev_var rfl) ev_int)) fun _ => et_test (ev_eqI (ev_var rfl) ev_int)) (fun _ H3 A3 => ?_) (fun hb H3 A3 => st_next ?_)
      · refine st_ret A3 (ev_tupP (ea_consP ev_str (ea_consP (ev_if (et_eqP (ev_draw hP rfl ev_int (by decide) (by decide)) (ev_i ev_int)) (fun _ => drawP hP rfl (by decide) (by decide)) fun _ => drawP hP rfl (by decide) (by decide)) ea_nil)) ?_) fun v d H4 hd A4 r => hrt v d H4 ?_ A4.j r
        · rintro r ⟨d, r', rfl, _, d2, r2, rfl, _, rfl⟩
          exact Nat.le_of_ble_eq_true rfl
        · obtain ⟨r, rfl, d, r', rfl, rfl, d2, r2, rfl, ⟨a, rfl, ha⟩, rfl⟩ := hd
          exact .full ha
      · have hb := hb.symm
        rw [Bool.or_eq_false_iff, decide_eq_false_iff_not, decide_eq_false_iff_not] at hb
        obtain ⟨m, rfl⟩ : ∃ m', m = m' + 1 := ⟨m - 1, by omega⟩
        refine st_ret A3 (ev_tupP (ea_consP ev_str (ea_consP (drawP hP rfl (by decide) (by decide)) (ea_consP (ev_tupLP (Pl := fun ts => ts.length ≤ 7 ∧ ∀ t ∈ ts, TreeOk n t) ((ev_lcE (k := 4) (pe := fun _ y => TreeOk n y) (it_range1 (ea_cons (ev_var rfl) ea_nil) (by omega)) (fun ds e => by rw [e, rangeD_length]; omega) fun ds e d hd φ' J' hx => ?_).imp fun z ⟨ds, ys, e, e2, c⟩ => ⟨ys, e2, by
          obtain ⟨h1, h2⟩ := c.all
          rw [e, rangeD_length] at h1
          exact ⟨by omega, fun t ht => (h2 t ht).elim fun _ h => h.2⟩⟩)) ea_nil))) ?_) fun v d H4 hd A4 r => hrt v d H4 ?_ A4.j r
        · exact (ev_callP (hx.pool _ _ _ hP) rfl (Pr := fun ds => ds = [.int ch, .int (m : Int)]) (ea_cons (ev_var rfl) (ea_cons ((ev_sub (ev_var rfl) ev_int).is (by rw [show ((m + 1 : Nat) : Int) - 1 = (m : Int) by omega])) ea_nil)) fun ds e => ⟨by rw [e]; rfl, ch, m, by omega, e, c0, c1⟩).imp fun d ⟨_, _, h⟩ => h
        · rintro r ⟨d, r', rfl, _, d2, r2, rfl, _, d3, r3, rfl, _, rfl⟩
          exact Nat.le_of_ble_eq_true rfl
        · obtain ⟨r, rfl, d, r', rfl, rfl, d2, r2, rfl, ⟨a, rfl, ha⟩, d3, r3, rfl, ⟨ts, rfl, h1, h2⟩, rfl⟩ := hd
          exact .split ha h1 h2
end
def wideD : D := .tup [.str "split", .int 3, .tup [.tup [.str "full", .int 1], .tup [.str "clash", .int 0, .int 1], .tup [.str "full", .int 2], .tup [.str "full", .int 4], .tup [.str "full", .int 5], .tup [.str "full", .int 6], .tup [.str "split", .int 2, .tup (List.replicate 7 (.tup [.str "full", .int 1]))]]]
set_option maxRecDepth 1000000 in
theorem wide_read : readT (treeTx 4 wideD) 7 = some wideD := by kernel_rfl
end

/-! ### the law -/
section
open TL
theorem wide_ok : TreeOk 3 wideD := .split ⟨by decide, by decide⟩ (by decide) fun t ht => by
  simp only [List.mem_cons, List.not_mem_nil, or_false] at ht
  rcases ht with rfl | rfl | rfl | rfl | rfl | rfl | rfl
  · exact .full ⟨by decide, by decide⟩
  · exact .clash ⟨by decide, by decide⟩ ⟨by decide, by decide⟩
  · exact .full ⟨by decide, by decide⟩
  · exact .full ⟨by decide, by decide⟩
  · exact .full ⟨by decide, by decide⟩
  · exact .full ⟨by decide, by decide⟩
  · refine .split ⟨by decide, by decide⟩ (by decide) fun t ht => ?_
    rw [List.eq_of_mem_replicate ht]
    exact .full ⟨by decide, by decide⟩
theorem wide_all : ∃ X0 : Str, treeTx 4 wideD = X0 ∧ X0.length ≤ 900000 ∧ asc (tl X0) ∧ readT X0 7 = some wideD :=
  ⟨_, rfl, Nat.le_trans (treeTx_ok wide_ok.up).1 (Nat.le_trans (tb5 (n := 4) (by decide)) (by decide)), (treeTx_ok wide_ok.up).2, wide_read⟩
theorem wide_plain : plain 60 wideD = true := by
  obtain ⟨X0, _, _, _, e⟩ := wide_all
  have := readT_plain (t := X0) (ch := 7) ⟨by decide, by decide⟩
  rw [e] at this
  exact this
theorem joinL_eq : ∀ {ps : List (List Nat)}, ps ≠ [] → (joinL [32] ps).length + 1 = (ps.map fun p => p.length + 1).sum
  | [], h => absurd rfl h
  | [p], _ => by simp [joinL]
  | p :: q :: r, _ => by
    have := joinL_eq (ps := q :: r) (fun h => nomatch h)
    show (p ++ ([32] ++ joinL [32] (q :: r))).length + 1 = (p.length + 1) + ((q :: r).map fun p => p.length + 1).sum
    rw [List.length_append, List.length_append]
    show p.length + (1 + _) + 1 = _
    omega
theorem lenS_split {t : Str} (hz : t.length ≤ 900000) (ha : asc (tl t)) : lenS (Txt.split t " ") = t.length + 1 := by
  obtain ⟨_, _, e⟩ := words_ok hz ha
  have h1 : lenS (Txt.split t " ") = (((Txt.split t " ").map tl).map fun p => p.length + 1).sum := by
    unfold lenS
    rw [List.map_map]
    exact congrArg List.sum (List.map_congr_left fun y _ => by show y.length + 1 = (tl y).length + 1; rw [len_tl])
  rw [h1, e, ← joinL_eq (splC_ne 32 _), splC_join, len_tl]
theorem lenS_app (xs ys : List Str) : lenS (xs ++ ys) = lenS xs + lenS ys := by
  unfold lenS
  rw [List.map_append, List.sum_append]
theorem lenS_take : ∀ (n : Nat) (xs : List Str), lenS (xs.take n) ≤ lenS xs
  | 0, _ => Nat.zero_le _
  | n + 1, [] => Nat.le_refl _
  | n + 1, x :: xs => Nat.add_le_add_left (lenS_take n xs) _
theorem lenS_drop : ∀ (n : Nat) (xs : List Str), lenS (xs.drop n) ≤ lenS xs
  | 0, _ => Nat.le_refl _
  | n + 1, [] => Nat.le_refl _
  | n + 1, x :: xs => Nat.le_trans (lenS_drop n xs) (Nat.le_add_left _ _)
theorem len_small {n : Nat} (h : n ≤ 1000000) : (n : Int) < 4294967296 := by omega
theorem len_pos {n : Nat} (h : 0 < n) : (0 : Int) < (n : Int) := by omega
def pairD (t : Str) (ch : Int) : D := .tup [.str t, .int ch]
def pairOk (d : D) : Prop := ∃ t ch, d = pairD t ch ∧ t.length ≤ 900000 ∧ asc (tl t) ∧ 0 ≤ ch ∧ ch ≤ 1000
def W7 : List Str := ["split", "full", "clash", "0", "7", "1234567890", "x"]
def L8 : List Str := ["full 1", "", "split 5", "full", "clash 0 1 ", " full 1", "full  1", "full 01", "full -1", "full 1\n", "clash 0"]
theorem w7_ok : ∀ y ∈ W7, y.length ≤ 10 ∧ asc (tl y) := by
  have h : (W7.all fun s => decide (s.length ≤ 10) && (tl s).all fun c => decide (c < 128)) = true := by decide +kernel
  intro y hy
  have := List.all_eq_true.mp h y hy
  rw [Bool.and_eq_true, decide_eq_true_eq, List.all_eq_true] at this
  exact ⟨this.1, fun c hc => of_decide_eq_true (this.2 c hc)⟩
theorem l8_ok : ∀ y ∈ L8, y.length ≤ 10 ∧ asc (tl y) := by
  have h : (L8.all fun s => decide (s.length ≤ 10) && (tl s).all fun c => decide (c < 128)) = true := by decide +kernel
  intro y hy
  have := List.all_eq_true.mp h y hy
  rw [Bool.and_eq_true, decide_eq_true_eq, List.all_eq_true] at this
  exact ⟨this.1, fun c hc => of_decide_eq_true (this.2 c hc)⟩
theorem l8_pair {y : Str} {ch : Int} (h : y ∈ L8) (hc : 0 ≤ ch ∧ ch ≤ 1000) : pairOk (pairD y ch) := ⟨y, ch, rfl, by have := (l8_ok y h).1; omega, (l8_ok y h).2, hc⟩
theorem s0_ok : ("split 0 " : Str).length = 8 ∧ ((tl ("split 0 " : Str)).all fun c => decide (c < 128)) = true ∧ ("full 1" : Str).length = 6 ∧ ((tl ("full 1" : Str)).all fun c => decide (c < 128)) = true := by decide +kernel
theorem deep_ok {n : Nat} (hn : n ≤ 40) : (mulS "split 0 " n ++ "full 1").length ≤ 900000 ∧ asc (tl (mulS "split 0 " n ++ "full 1")) := by
  refine ⟨by rw [len_app, mulS_length, s0_ok.1, s0_ok.2.2.1]; omega, asc_app (fun c hc => ?_) (asc_lit s0_ok.2.2.2)⟩
  rw [tl_mulS] at hc
  obtain ⟨l, hl, hc⟩ := List.mem_flatten.mp hc
  rw [List.eq_of_mem_replicate hl] at hc
  exact asc_lit s0_ok.2.1 c hc
section
variable {P : Program} {w : World} {K : PySem.W.Frag} {mg : Str → Option Value} {base : Heap}
local macro_rules | `(tactic| walk_at "le") => `(tactic| repeat' (first | exact Le.nil | refine Le.drop ?_ | refine Le.keep ?_))
theorem sqL_same {H H' : Hp} {a : Addr} {xs : List V} (h : SqL K H a xs) (s : Same H H') : SqL K H' a xs := by
  rcases h with h | h
  · rcases h with h | ⟨o, h⟩
    · exact .inl (.inl (s _ _ h))
    · exact .inl (.inr ⟨o, s _ _ h⟩)
  · exact .inr h
/-- " ".join(..) of some of the words -/
theorem ev_joinW {φ : Addr → Prop} {J : Hp → Prop} {ρ : List (Option D)} {te : TE} {ys : List Str} (h : EvD K φ J te ρ (.lst (ys.map D.str))) (hz : lenS ys ≤ 100000) : EvD K φ J (tM1 (rJoin K) (tC (.str " ")) te) ρ (.str (Txt.join " " ys)) := ev_join ev_str h (by have := sum_lenS ys; omega)
theorem join_pair {ys : List Str} {ch : Int} (hz : lenS ys ≤ 100000) (ha : ∀ y ∈ ys, asc (tl y)) (hc : 0 ≤ ch ∧ ch ≤ 1000) : pairOk (pairD (Txt.join " " ys) ch) := ⟨_, ch, rfl, Nat.le_trans (len_join ys) (by omega), asc_join ha, hc⟩
theorem scL : FnScope ["script", "wide", "pool", "channels", "tree", "text", "deep", "pairs", "words", "turn", "at", "word", "pair"] ["script"] (defScope s_law) := ⟨rfl, rfl, rfl, by decide +kernel, rfl, by decide +kernel, by decide +kernel⟩
set_option maxHeartbeats 4000000 in
theorem ok_all (B : Bi mg) (C : Cs mg) {c_InvalidText : Addr} (X_InvalidText : ExC K mg "InvalidText" c_InvalidText) {C_TreeReader : Addr} (T_TreeReader : TTreeReader K mg C_TreeReader) {f_TreeReader___init__ : Addr} {fd_TreeReader___init__ : FuncData} (F_TreeReader___init__ : Fun K "__init__" "TreeReader.__init__" s_TreeReader___init__ f_TreeReader___init__ fd_TreeReader___init__) (L_TreeReader___init__ : LkM K C_TreeReader "__init__" f_TreeReader___init__ fd_TreeReader___init__ ["self", "words", "channels"]) (M_TreeReader : Mk K C_TreeReader f_TreeReader___init__) {f_TreeReader_number : Addr} {fd_TreeReader_number : FuncData} (F_TreeReader_number : Fun K "number" "TreeReader.number" s_TreeReader_number f_TreeReader_number fd_TreeReader_number) (L_TreeReader_number : LkM K C_TreeReader "number" f_TreeReader_number fd_TreeReader_number ["self"]) {f_TreeReader_tree : Addr} {fd_TreeReader_tree : FuncData} (F_TreeReader_tree : Fun K "tree" "TreeReader.tree" s_TreeReader_tree f_TreeReader_tree fd_TreeReader_tree) (L_TreeReader_tree : LkM K C_TreeReader "tree" f_TreeReader_tree fd_TreeReader_tree ["self", "depth"]) {f_read_number : Addr} {fd_read_number : FuncData} (F_read_number : Fun K "read_number" "read_number" s_read_number f_read_number fd_read_number) (L_read_number : Lk K mg "read_number" f_read_number fd_read_number ["word"]) {f_refusal_text : Addr} {fd_refusal_text : FuncData} (F_refusal_text : Fun K "refusal_text" "refusal_text" s_refusal_text f_refusal_text fd_refusal_text) (L_refusal_text : Lk K mg "refusal_text" f_refusal_text fd_refusal_text ["tree"]) {f_read_refusal : Addr} {fd_read_refusal : FuncData} (F_read_refusal : Fun K "read_refusal" "read_refusal" s_read_refusal f_read_refusal fd_read_refusal) (L_read_refusal : Lk K mg "read_refusal" f_read_refusal fd_read_refusal ["text", "channels"]) {f__law_same : Addr} {fd__law_same : FuncData} (F__law_same : Fun K "_law_same" "_law_same" s__law_same f__law_same fd__law_same) (L__law_same : Lk K mg "_law_same" f__law_same fd__law_same ["actual", "due"]) {f__law_pool : Addr} {fd__law_pool : FuncData} (F__law_pool : Fun K "_law_pool" "_law_pool" s__law_pool f__law_pool fd__law_pool) (L__law_pool : Lk K mg "_law_pool" f__law_pool fd__law_pool ["script"]) {f__law_spread : Addr} {fd__law_spread : FuncData} (F__law_spread : Fun K "_law_spread" "_law_spread" s__law_spread f__law_spread fd__law_spread) (L__law_spread : Lk K mg "_law_spread" f__law_spread fd__law_spread ["cell"]) {f__law_draw : Addr} {fd__law_draw : FuncData} (F__law_draw : Fun K "_law_draw" "_law_draw" s__law_draw f__law_draw fd__law_draw) (L__law_draw : Lk K mg "_law_draw" f__law_draw fd__law_draw ["pool", "many"]) {f__law_some_tree : Addr} {fd__law_some_tree : FuncData} (F__law_some_tree : Fun K "_law_some_tree" "_law_some_tree" s__law_some_tree f__law_some_tree fd__law_some_tree) (L__law_some_tree : Lk K mg "_law_some_tree" f__law_some_tree fd__law_some_tree ["pool", "channels", "depth"]) {f__law_tree_text : Addr} {fd__law_tree_text : FuncData} (F__law_tree_text : Fun K "_law_tree_text" "_law_tree_text" s__law_tree_text f__law_tree_text fd__law_tree_text) (L__law_tree_text : Lk K mg "_law_tree_text" f__law_tree_text fd__law_tree_text ["tree"]) {f__law_count_word : Addr} {fd__law_count_word : FuncData} (F__law_count_word : Fun K "_law_count_word" "_law_count_word" s__law_count_word f__law_count_word fd__law_count_word) (L__law_count_word : Lk K mg "_law_count_word" f__law_count_word fd__law_count_word ["word"]) {f__law_take : Addr} {fd__law_take : FuncData} (F__law_take : Fun K "_law_take" "_law_take" s__law_take f__law_take fd__law_take) (L__law_take : Lk K mg "_law_take" f__law_take fd__law_take ["words", "at", "channels", "depth"]) {f__law_reads : Addr} {fd__law_reads : FuncData} (F__law_reads : Fun K "_law_reads" "_law_reads" s__law_reads f__law_reads fd__law_reads) (L__law_reads : Lk K mg "_law_reads" f__law_reads fd__law_reads ["text", "channels"]) {f__law_told : Addr} {fd__law_told : FuncData} (F__law_told : Fun K "_law_told" "_law_told" s__law_told f__law_told fd__law_told) (L__law_told : Lk K mg "_law_told" f__law_told fd__law_told ["text", "channels"]) {f_law : Addr} {fd_law : FuncData} (F_law : Fun K "law" "law" s_law f_law fd_law) (L_law : Lk K mg "law" f_law fd_law ["script"]) : FnOk P w K mg base CX0 62 f_law fd_law ["script"] (spLaw K) := by
  have G_read_number : FnOk P w K mg base (L2.CX P w) 1 _ _ _ _ := ok_read_number B C X_InvalidText F_read_number
  have G_TreeReader___init__ : FnOk P w K mg base CX0 1 _ _ _ _ := ok_TreeReader_init T_TreeReader F_TreeReader___init__
  have G_TreeReader_number : FnOk P w K mg base (L2.CX P w) 2 _ _ _ _ := ok_TreeReader_number B X_InvalidText T_TreeReader F_TreeReader_number L_read_number G_read_number
  have G_TreeReader_tree : FnOk P w K mg base (L2.CX P w) 33 _ _ _ _ := ok_TreeReader_tree B C X_InvalidText T_TreeReader F_TreeReader_tree L_TreeReader_tree L_TreeReader_number G_TreeReader_number 31
  have G_read_refusal : FnOk P w K mg base (L2.CX P w) 34 _ _ _ _ := ok_read_refusal B X_InvalidText T_TreeReader F_read_refusal L_TreeReader___init__ M_TreeReader G_TreeReader___init__ L_TreeReader_tree G_TreeReader_tree
  have G_refusal_text : FnOk P w K mg base CX0 4 _ _ _ _ := ok_refusal_text B F_refusal_text L_refusal_text 4
  have G__law_tree_text : FnOk P w K mg base CX0 4 _ _ _ _ := ok__law_tree_text B F__law_tree_text L__law_tree_text 4
  have G__law_same : FnOk P w K mg base CX0 60 _ _ _ _ := ok__law_same B F__law_same L__law_same 60
  have G__law_pool : FnOk P w K mg base CX0 1 _ _ _ _ := ok__law_pool B F__law_pool
  have G__law_spread : FnOk P w K mg base CX0 1 _ _ _ _ := ok__law_spread B F__law_spread
  have G__law_draw : FnOk P w K mg base CX0 2 _ _ _ _ := ok__law_draw B F__law_draw L__law_spread G__law_spread
  have G__law_some_tree : FnOk P w K mg base CX0 6 _ _ _ _ := ok__law_some_tree B F__law_some_tree L__law_some_tree L__law_draw G__law_draw 4
  have G__law_count_word : FnOk P w K mg base CX0 1 _ _ _ _ := ok__law_count_word B F__law_count_word
  have G__law_take : FnOk P w K mg base CX0 32 _ _ _ _ := ok__law_take B F__law_take L__law_take L__law_count_word G__law_count_word 31
  have G__law_reads : FnOk P w K mg base CX0 33 _ _ _ _ := ok__law_reads B F__law_reads L__law_take G__law_take
  have G__law_told : FnOk P w K mg base CX0 35 _ _ _ _ := ok__law_told B X_InvalidText F__law_told L_read_refusal G_read_refusal
  have S := scL
  refine F_law.ok S (fun vs H Q E h => ?_) (fun cdv A outer s H vs Q E hr h => ?_)
  · obtain ⟨a, ns, rfl, _⟩ := h
    rfl
  obtain ⟨a, ns, rfl, hS, hlen, kq⟩ := h
  refine ⟨_, ((pss_cons (ps_set (i := 1) S.nd rfl (by first | exact Or.inl rfl | exact Or.inr rfl) (pe_tup (pa_cons pe_str (pa_cons pe_int (pa_cons (pe_tup (pa_cons (pe_tup (pa_cons pe_str (pa_cons pe_int pa_nil))) (pa_cons (pe_tup (pa_cons pe_str (pa_cons pe_int (pa_cons pe_int pa_nil)))) (pa_cons (pe_tup (pa_cons pe_str (pa_cons pe_int pa_nil))) (pa_cons (pe_tup (pa_cons pe_str (pa_cons pe_int pa_nil))) (pa_cons (pe_tup (pa_cons pe_str (pa_cons pe_int pa_nil))) (pa_cons (pe_tup (pa_cons pe_str (pa_cons pe_int pa_nil))) (pa_cons (pe_tup (pa_cons pe_str (pa_cons pe_int (pa_cons (pe_op op_repT (pe_tup (pa_cons (pe_tup (pa_cons pe_str (pa_cons pe_int pa_nil))) pa_nil)) pe_int) pa_nil)))) pa_nil)))))))) pa_nil)))))
 (pss_cons (ps_if (PW.pt (pw_or (pt_not (pt_val (pe_call G__law_same (hr.mono (by first | exact Nat.le_refl _ | decide | omega)) (by rfl) L__law_same.m L__law_same.kp L__law_same.bi .nil pass0 (pa_cons (pe_call G_refusal_text (hr.mono (by first | exact Nat.le_refl _ | decide | omega)) (by rfl) L_refusal_text.m L_refusal_text.kp L_refusal_text.bi .nil pass0 (pa_cons (pv 1) pa_nil)) (pa_cons (pe_call G__law_tree_text (hr.mono (by first | exact Nat.le_refl _ | decide | omega)) (by rfl) L__law_tree_text.m L__law_tree_text.kp L__law_tree_text.bi .nil pass0 (pa_cons (pv 1) pa_nil)) pa_nil))))) (pw_or1 (pt_not (pt_val (pe_call G__law_same (hr.mono (by first | exact Nat.le_refl _ | decide | omega)) (by rfl) L__law_same.m L__law_same.kp L__law_same.bi .nil pass0 (pa_cons (pe_call G__law_told (hr.mono (by first | exact Nat.le_refl _ | decide | omega)) (by rfl) L__law_told.m L__law_told.kp L__law_told.bi .nil pass0 (pa_cons (pe_call G__law_tree_text (hr.mono (by first | exact Nat.le_refl _ | decide | omega)) (by rfl) L__law_tree_text.m L__law_tree_text.kp L__law_tree_text.bi .nil pass0 (pa_cons (pv 1) pa_nil)) (pa_cons pe_int pa_nil))) (pa_cons (pv 1) pa_nil))))))))
 (pss_one (ps_ret pe_bl))
 pss_nil)
 (pss_cons (ps_set (i := 2) S.nd rfl (by first | exact Or.inl rfl | exact Or.inr rfl) (pe_call G__law_pool (hr.mono (by first | exact Nat.le_refl _ | decide | omega)) (by rfl) L__law_pool.m L__law_pool.kp L__law_pool.bi .nil pass0 (pa_cons (pv 0) pa_nil)))
 (pss_cons (ps_set (i := 3) S.nd rfl (by first | exact Or.inl rfl | exact Or.inr rfl) (pe_call G__law_draw (hr.mono (by first | exact Nat.le_refl _ | decide | omega)) (by rfl) L__law_draw.m L__law_draw.kp L__law_draw.bi .nil pass0 (pa_cons (pv 2) (pa_cons pe_int pa_nil))))
 (pss_cons (ps_set (i := 4) S.nd rfl (by first | exact Or.inl rfl | exact Or.inr rfl) (pe_call G__law_some_tree (hr.mono (by first | exact Nat.le_refl _ | decide | omega)) (by rfl) L__law_some_tree.m L__law_some_tree.kp L__law_some_tree.bi .nil pass0 (pa_cons (pv 2) (pa_cons (pv 3) (pa_cons (pe_ifExp (pt_cmpR op_lt (pv 3) pe_int (nomark _)) pe_int pe_int) pa_nil)))))
 (pss_cons (ps_set (i := 5) S.nd rfl (by first | exact Or.inl rfl | exact Or.inr rfl) (pe_call G__law_tree_text (hr.mono (by first | exact Nat.le_refl _ | decide | omega)) (by rfl) L__law_tree_text.m L__law_tree_text.kp L__law_tree_text.bi .nil pass0 (pa_cons (pv 4) pa_nil)))
 (pss_cons (ps_if (pt_not (pt_val (pe_call G__law_same (hr.mono (by first | exact Nat.le_refl _ | decide | omega)) (by rfl) L__law_same.m L__law_same.kp L__law_same.bi .nil pass0 (pa_cons (pe_call G_refusal_text (hr.mono (by first | exact Nat.le_refl _ | decide | omega)) (by rfl) L_refusal_text.m L_refusal_text.kp L_refusal_text.bi .nil pass0 (pa_cons (pv 4) pa_nil)) (pa_cons (pv 5) pa_nil)))))
 (pss_one (ps_ret pe_bl))
 pss_nil)
 (pss_cons (ps_set (i := 6) S.nd rfl (by first | exact Or.inl rfl | exact Or.inr rfl) (pe_op op_add pe_int (pe_call G__law_draw (hr.mono (by first | exact Nat.le_refl _ | decide | omega)) (by rfl) L__law_draw.m L__law_draw.kp L__law_draw.bi .nil pass0 (pa_cons (pv 2) (pa_cons pe_int pa_nil)))))
 (pss_cons (ps_set (i := 7) S.nd rfl (by first | exact Or.inl rfl | exact Or.inr rfl) (pe_lst (pa_cons (pe_tup (pa_cons (pv 5) (pa_cons (pv 3) pa_nil))) (pa_cons (pe_tup (pa_cons (pv 5) (pa_cons (pe_op op_add (pv 3) pe_int) pa_nil))) (pa_cons (pe_tup (pa_cons (pe_op op_addS (pe_op op_mulS pe_str (pv 6)) pe_str) (pa_cons pe_int pa_nil))) (pa_cons (pe_tup (pa_cons pe_str (pa_cons (pv 3) pa_nil))) (pa_cons (pe_tup (pa_cons pe_str (pa_cons pe_int pa_nil))) (pa_cons (pe_tup (pa_cons pe_str (pa_cons pe_int pa_nil))) pa_nil))))))))
 (pss_cons (ps_set (i := 7) S.nd rfl (by first | exact Or.inl rfl | exact Or.inr rfl) (pe_op op_catL (pv 7) (pe_lst (pa_cons (pe_tup (pa_cons pe_str (pa_cons pe_int pa_nil))) (pa_cons (pe_tup (pa_cons pe_str (pa_cons pe_int pa_nil))) (pa_cons (pe_tup (pa_cons pe_str (pa_cons pe_int pa_nil))) (pa_cons (pe_tup (pa_cons pe_str (pa_cons pe_int pa_nil))) (pa_cons (pe_tup (pa_cons pe_str (pa_cons pe_int pa_nil))) (pa_cons (pe_tup (pa_cons pe_str (pa_cons pe_int pa_nil))) (pa_cons (pe_tup (pa_cons pe_str (pa_cons pe_int pa_nil))) pa_nil))))))))))
 (pss_cons (ps_set (i := 8) S.nd rfl (by first | exact Or.inl rfl | exact Or.inr rfl) (pe_m1 PySem.F.slot_str_split PySem.F.type_str_split mu_split (pv 5) pe_str))
 (C8.pss_cut (ps_for PassesOwn.never rfl (pi_range1 (by rfl) B.range (pa_cons pe_int pa_nil)) (pg_name (i := 9) S.nd rfl (by first | exact Or.inl rfl | exact Or.inr rfl))
 (pss_cons (ps_set (i := 10) S.nd rfl (by first | exact Or.inl rfl | exact Or.inr rfl) (pe_call G__law_draw (hr.mono (by first | exact Nat.le_refl _ | decide | omega)) (by rfl) L__law_draw.m L__law_draw.kp L__law_draw.bi .nil pass0 (pa_cons (pv 2) (pa_cons (pe_callB c_len (by rfl) B.len (by decide +kernel) (pa_cons (pv 8) pa_nil)) pa_nil))))
 (pss_cons (ps_set (i := 11) S.nd rfl (by first | exact Or.inl rfl | exact Or.inr rfl) (pe_ix ix_tup (pe_tup (pa_cons pe_str (pa_cons pe_str (pa_cons pe_str (pa_cons pe_str (pa_cons pe_str (pa_cons pe_str (pa_cons pe_str pa_nil)))))))) (pe_call G__law_draw (hr.mono (by first | exact Nat.le_refl _ | decide | omega)) (by rfl) L__law_draw.m L__law_draw.kp L__law_draw.bi .nil pass0 (pa_cons (pv 2) (pa_cons pe_int pa_nil))) (fun _ _ => rfl)))
 (pss_cons (ps_expr (pe_bm PySem.F.plainAttrs_list PySem.F.slot_list_append PySem.F.type_list_append mt_append (pv 7) (pa_cons (pe_tup (pa_cons (pe_m1 PySem.F.slot_str_join PySem.F.type_str_join mu_join pe_str (pe_op op_catL (pe_slice sl_list (pv 8) po_none (po_some (pv 10))) (pe_slice sl_list (pv 8) (po_some (pe_op op_add (pv 10) pe_int)) po_none))) (pa_cons (pv 3) pa_nil))) pa_nil)))
 (pss_cons (ps_expr (pe_bm PySem.F.plainAttrs_list PySem.F.slot_list_append PySem.F.type_list_append mt_append (pv 7) (pa_cons (pe_tup (pa_cons (pe_m1 PySem.F.slot_str_join PySem.F.type_str_join mu_join pe_str (pe_op op_catL (pe_op op_catL (pe_slice sl_list (pv 8) po_none (po_some (pv 10))) (pe_lst (pa_cons (pv 11) pa_nil))) (pe_slice sl_list (pv 8) (po_some (pv 10)) po_none))) (pa_cons (pv 3) pa_nil))) pa_nil)))
 (pss_one (ps_expr (pe_bm PySem.F.plainAttrs_list PySem.F.slot_list_append PySem.F.type_list_append mt_append (pv 7) (pa_cons (pe_tup (pa_cons (pe_m1 PySem.F.slot_str_join PySem.F.type_str_join mu_join pe_str (pe_op op_catL (pe_op op_catL (pe_slice sl_list (pv 8) po_none (po_some (pv 10))) (pe_lst (pa_cons (pv 11) pa_nil))) (pe_slice sl_list (pv 8) (po_some (pe_op op_add (pv 10) pe_int)) po_none))) (pa_cons (pv 3) pa_nil))) pa_nil)))))))))
 (C8.pss_cut (ps_for PassesOwn.never rfl (pi_list (pv 7)) (pg_name (i := 12) S.nd rfl (by first | exact Or.inl rfl | exact Or.inr rfl))
 (pss_one (ps_if (pt_not (pt_val (pe_call G__law_same (hr.mono (by first | exact Nat.le_refl _ | decide | omega)) (by rfl) L__law_same.m L__law_same.kp L__law_same.bi .nil pass0 (pa_cons (pe_call G__law_told (hr.mono (by first | exact Nat.le_refl _ | decide | omega)) (by rfl) L__law_told.m L__law_told.kp L__law_told.bi .nil pass0 (pa_cons (pe_ix ix_tup (pv 12) pe_int (fun _ _ => rfl)) (pa_cons (pe_ix ix_tup (pv 12) pe_int (fun _ _ => rfl)) pa_nil))) (pa_cons (pe_call G__law_reads (hr.mono (by first | exact Nat.le_refl _ | decide | omega)) (by rfl) L__law_reads.m L__law_reads.kp L__law_reads.bi .nil pass0 (pa_cons (pe_ix ix_tup (pv 12) pe_int (fun _ _ => rfl)) (pa_cons (pe_ix ix_tup (pv 12) pe_int (fun _ _ => rfl)) pa_nil))) pa_nil)))))
 (pss_one (ps_ret pe_bl))
 pss_nil)))
 (pss_one (ps_ret pe_bl)))))))))))))))), ?_⟩
  have A0 : At K (fun _ => True) (Same H) [some (.raw (.ref a)), none, none, none, none, none, none, none, none, none, none, none, none] (L2.start ["script", "wide", "pool", "channels", "tree", "text", "deep", "pairs", "words", "turn", "at", "word", "pair"] [.ref a]) H := ⟨SR.start (ds := [.raw (.ref a)]) (n := 12) (Reps.cons rfl Reps.nil), ⟨fun _ _ => trivial, fun _ _ _ => trivial⟩, Same.refl H, Mo.sames fun _ h => h⟩
  have eF : ∀ {φ : Addr → Prop} {J : Hp → Prop} {ρ : List (Option D)} {x : Str} {i : Int}, EvD K φ J (tTup (tCons (tC (.str x)) (tCons (tC (.int i)) tNil))) ρ (.tup [.str x, .int i]) := ev_tup (ea_cons ev_str (ea_cons ev_int ea_nil))
  refine q (st_set (d := wideD) A0 (ev_tup (ea_cons ev_str (ea_cons ev_int (ea_cons (ev_tup (ea_cons eF (ea_cons (ev_tup (ea_cons ev_str (ea_cons ev_int (ea_cons ev_int ea_nil)))) (ea_cons eF (ea_cons eF (ea_cons eF (ea_cons eF (ea_cons (ev_tup (ea_cons ev_str (ea_cons ev_int (ea_cons ((ev_repT (i := 7) (ev_tup (ea_cons eF ea_nil)) ev_int (fun h => nomatch h) (by decide) (by decide) (Nat.le_of_ble_eq_true rfl)).is (d' := .tup (List.replicate 7 (.tup [.str "full", .int 1]))) rfl) ea_nil)))) ea_nil)))))))) ea_nil)))) fun σ1 H1 A1 => q ?_)
  have hw4 : TreeOk 4 wideD := wide_ok.up
  obtain ⟨X0, eX0, wl, wa, wr⟩ := wide_all
  have pW := wide_plain
  generalize wideD = WD at A1 hw4 eX0 wr pW
  have eW : ∀ {φ : Addr → Prop} {J : Hp → Prop} {ρ : List (Option D)} {E : XK}, ρ[1]? = some (some WD) → EvD K φ J (tCall (SpD K 1 (RText 4)) [] E (tCons (tVar 1) tNil)) ρ (.str X0) := fun h => ev_callD (ea_cons (ev_var h) ea_nil) ⟨WD, rfl, by decide, hw4, by rw [eX0]⟩
  refine st_no A1 (et_or (b := false) (c := false) ((et_not (et_B (ev_callD (ea_cons (eW rfl) (ea_cons (eW rfl) ea_nil)) ⟨_, rfl, rfl, rfl⟩))).is rfl) fun _ => (et_not (et_B (ev_callD (ea_cons (ev_callD (d := WD) (ea_cons (eW rfl) (ea_cons ev_int ea_nil)) ⟨X0, 7, rfl, wl, wa, ⟨by decide, by decide⟩, by rw [wr]; rfl⟩) (ea_cons (ev_var rfl) ea_nil)) ⟨_, rfl, pW, rfl⟩))).is rfl) rfl fun H2 A2 => st_next (q ?_)
  clear eW
  obtain ⟨v0, e0, r0⟩ := A2.sr.2 0 _ rfl
  cases (show v0 = _ from r0)
  refine st_pool (n := 13) (sqL_same hS A2.j) hlen e0 A2.sr.1 (by decide) fun p s σ3 H3 hne A3 => q ?_
  replace A3 : At K (fun b => b ≠ p) (PoolOk p s ns) [none, none, some (.raw (.ref p)), none, none, none, none, none, none, none, none, none, none] σ3 H3 := A3
  have hP : Pooled (fun b => b ≠ p) (PoolOk p s ns) p s ns := pooled (fun z => z rfl) hne
  generalize (fun b => b ≠ p : Addr → Prop) = φ at A3 hP
  refine st_asg A3 (ev_draw hP rfl ev_int (by decide) (by decide)) fun d σ4 H4 hd A4 => q ?_
  obtain ⟨ch, rfl, c0, c1⟩ := hd
  replace A4 : At K φ (PoolOk p s ns) [none, none, some (.raw (.ref p)), some (.int ch), none, none, none, none, none, none, none, none, none] σ4 H4 := A4
  have hc : 0 ≤ ch ∧ ch ≤ 1000 := by omega
  refine st_asg A4 (ev_callP hP rfl (Pr := fun ds => ∃ m : Nat, ds = [.int ch, .int (m : Int)] ∧ m < 4) (fun σ H A Q k => ea_consP (P := fun x => x = .int ch) (ev_var rfl) (ea_consP (P := fun x => ∃ m : Nat, x = .int (m : Int) ∧ m < 4) (ev_if (p := fun _ => True) ((et_test (ev_lt (ev_var rfl) ev_int)).imp fun _ _ => trivial) (fun _ => ev_int.imp fun d e => ⟨3, e, by decide⟩) fun _ => ev_int.imp fun d e => ⟨2, e, by decide⟩) ea_nil) σ H A Q fun vs ds H' b A' h r => k vs ds H' b A' (by
    obtain ⟨d, r', rfl, rfl, d2, r2, rfl, ⟨m, rfl, hm⟩, rfl⟩ := h
    exact ⟨m, rfl, hm⟩) r) fun ds ⟨m, e, hm⟩ => ⟨by rw [e]; rfl, ch, m, hm, e, c0, by omega⟩) fun t σ5 H5 hd A5 => q ?_
  obtain ⟨_, _, ht⟩ := hd
  replace ht : TreeOk 4 t := ht
  obtain ⟨tlen, tasc⟩ := treeTx_ok ht
  have htb : (treeTx 4 t).length ≤ 23400 := tlen
  replace A5 : At K φ (PoolOk p s ns) [none, none, some (.raw (.ref p)), some (.int ch), some t, none, none, none, none, none, none, none, none] σ5 H5 := A5
  refine st_set A5 (ev_callD (ea_cons (ev_var rfl) ea_nil) ⟨t, rfl, by decide, ht, rfl⟩) fun σ6 H6 A6 => q ?_
  refine st_no A6 (et_not (et_B (ev_callD (ea_cons (ev_callD (d := .str (treeTx 4 t)) (ea_cons (ev_var rfl) ea_nil) ⟨t, rfl, by decide, ht, rfl⟩) (ea_cons (ev_var rfl) ea_nil)) ⟨_, rfl, rfl, rfl⟩))) rfl fun H7 A7 => st_next (q ?_)
  generalize hX : treeTx 4 t = X at A7 htb tasc
  replace A7 : At K φ (PoolOk p s ns) [none, none, some (.raw (.ref p)), some (.int ch), some t, some (.str X), none, none, none, none, none, none, none] σ6 H7 := A7
  refine st_asg A7 (ei_add (ev_i ev_int) (ev_draw hP rfl ev_int (by decide) (by decide))) fun d σ8 H8 hd A8 => q ?_
  obtain ⟨deep, rfl, i1, j1, rfl, ⟨d0, d1⟩, rfl⟩ := hd
  replace A8 : At K φ (PoolOk p s ns) [none, none, some (.raw (.ref p)), some (.int ch), some t, some (.str X), some (.int (27 + j1)), none, none, none, none, none, none] σ8 H8 := A8
  refine st_set (d := .lst [pairD X ch, pairD X (ch + 1), pairD (mulS "split 0 " (27 + j1).toNat ++ "full 1") 1, pairD "" ch, pairD "split 5" 0, pairD "full" 1]) A8 (ev_lst (ea_cons (ev_tup (ea_cons (ev_var rfl) (ea_cons (ev_var rfl) ea_nil))) (ea_cons (ev_tup (ea_cons (ev_var rfl) (ea_cons (ev_add (ev_var rfl) ev_int) ea_nil))) (ea_cons (ev_tup (ea_cons (ev_addS (ev_mulS ev_str (ev_var rfl) (by omega) (by omega) (by rw [s0_ok.1]; decide) (by rw [s0_ok.1]; decide)) ev_str (by rw [mulS_length, s0_ok.1, s0_ok.2.2.1]; omega)) (ea_cons ev_int ea_nil))) (ea_cons (ev_tup (ea_cons ev_str (ea_cons (ev_var rfl) ea_nil))) (ea_cons eF (ea_cons eF ea_nil))))))) fun σ9 H9 A9 => q ?_
  have hX1 : X.length ≤ 900000 := by omega
  refine st_newL A9 (en_catL (ds := [pairD X ch, pairD X (ch + 1), pairD (mulS "split 0 " (27 + j1).toNat ++ "full 1") 1, pairD "" ch, pairD "split 5" 0, pairD "full" 1]) (es := [pairD "clash 0 1 " 1, pairD " full 1" 1, pairD "full  1" 1, pairD "full 01" 1, pairD "full -1" 1, pairD "full 1\n" 1, pairD "clash 0" 2]) (ev_var rfl) (ev_lst (ea_cons eF (ea_cons eF (ea_cons eF (ea_cons eF (ea_cons eF (ea_cons eF (ea_cons eF ea_nil)))))))) (Nat.le_of_ble_eq_true rfl)) fun l ds0 J1 σ10 H10 e hφl hnl x1 L10 A10 => q ?_
  have hall : ∀ d ∈ ds0, pairOk d := by
    subst e
    intro d hd
    simp only [List.cons_append, List.nil_append, List.mem_cons, List.not_mem_nil, or_false] at hd
    have one : (0 : Int) ≤ 1 ∧ (1 : Int) ≤ 1000 := by decide
    rcases hd with rfl | rfl | rfl | rfl | rfl | rfl | rfl | rfl | rfl | rfl | rfl | rfl | rfl
    · exact ⟨X, ch, rfl, hX1, tasc, hc⟩
    · exact ⟨X, ch + 1, rfl, hX1, tasc, by omega, by omega⟩
    · have := deep_ok (n := (27 + j1).toNat) (by omega)
      exact ⟨_, 1, rfl, this.1, this.2, one⟩
    · exact l8_pair (by simp [L8]) hc
    · exact l8_pair (by simp [L8]) (by decide)
    · exact l8_pair (by simp [L8]) one
    · exact l8_pair (by simp [L8]) one
    · exact l8_pair (by simp [L8]) one
    · exact l8_pair (by simp [L8]) one
    · exact l8_pair (by simp [L8]) one
    · exact l8_pair (by simp [L8]) one
    · exact l8_pair (by simp [L8]) one
    · exact l8_pair (by simp [L8]) (by decide)
  have hlen0 : ds0.length = 13 := by rw [e]; rfl
  clear e
  have hP1 : Pooled (wo φ l) J1 p s ns := (x1.trans L10.ext).pool _ _ _ hP
  replace A10 : At K (wo φ l) J1 [none, none, some (.raw (.ref p)), some (.int ch), some t, some (.str X), some (.int (27 + j1)), some (.raw (.ref l)), none, none, none, none, none] σ10 H10 := A10
  refine st_set A10 (ev_splitD (ev_var rfl) ev_str (by rw [lit_sp]; rfl) (by omega)) fun σ11 H11 A11 => ?_
  obtain ⟨WO, lws, ews⟩ := words_ok hX1 tasc
  have hsum := lenS_split hX1 tasc
  have hwne : 0 < (Txt.split X " ").length := by
    have := congrArg List.length ews
    rw [List.length_map] at this
    rw [this]
    exact List.length_pos_iff.mpr (splC_ne 32 _)
  generalize Txt.split X " " = ws at A11 WO lws hsum hwne
  replace A11 : At K (wo φ l) J1 [none, none, some (.raw (.ref p)), some (.int ch), some t, some (.str X), some (.int (27 + j1)), some (.raw (.ref l)), some (.lst (ws.map D.str)), none, none, none, none] σ11 H11 := A11
  refine q_cut (M := fun σ' H' => ∃ ds, (∀ d ∈ ds, pairOk d) ∧ At K φ (PoolOk p s ns) [none, none, some (.raw (.ref p)), none, none, none, none, some (.lst ds), none, none, none, none, none] σ' H') ?_ ?_
  · refine st_for A11 (it_range1 (ea_cons ev_int ea_nil) (by decide)) (fun i ρ' J' => ∃ (ds : List D) (o9 o10 o11 : Option D), (∀ d ∈ ds, pairOk d) ∧ ds.length = 13 + 3 * i ∧ Liv K (wo φ l) (PoolOk p s ns) J' l ds ∧ ρ' = [none, none, some (.raw (.ref p)), some (.int ch), some t, some (.str X), some (.int (27 + j1)), some (.raw (.ref l)), some (.lst (ws.map D.str)), o9, o10, o11, none]) ⟨ds0, none, none, none, hall, hlen0, L10, rfl⟩ ?_ ?_
    · rintro H12 i x ρ' J' b12 j12 hx ⟨ds, o9, o10, o11, hok, hl, L12, rfl⟩ σ' H' A12
      have hi : i < 6 := by
        have := (List.getElem?_eq_some_iff.mp hx).1
        rw [rangeD_length] at this
        exact this
      obtain ⟨J2, L13, A13, x13⟩ := L12.push A12
      replace A13 : At K (wo φ l) J2 [none, none, some (.raw (.ref p)), some (.int ch), some t, some (.str X), some (.int (27 + j1)), some (.raw (.ref l)), some (.lst (ws.map D.str)), some x, o10, o11, none] σ' H' := A13
      have hP13 : Pooled (wo φ l) J2 p s ns := ((x1.trans x13).trans L13.ext).pool _ _ _ hP
      have lws2 : ((ws.map D.str).length : Int) = (ws.length : Int) := by rw [List.length_map]
      have hdr : EvI K (wo φ l) J2 (tCall spDraw [] E0 (tCons (tVar 2) (tCons (tCB (rLen K) (tCons (tVar 8) tNil)) tNil))) [none, none, some (.raw (.ref p)), some (.int ch), some t, some (.str X), some (.int (27 + j1)), some (.raw (.ref l)), some (.lst (ws.map D.str)), some x, o10, o11, none] (fun i => 0 ≤ i ∧ i < (ws.length : Int)) := ev_draw (n := (ws.length : Int)) hP13 rfl ((ev_lenL (ds := ws.map D.str) (ev_var rfl)).is (by rw [lws2])) (len_pos hwne) (len_small lws)
      clear lws2
      refine q (st_asg A13 hdr fun d σ14 H14 hd A14 => ?_)
      dsimp only
      refine q ?_
      obtain ⟨at', rfl, a0, a1⟩ := hd
      replace A14 : At K (wo φ l) J2 [none, none, some (.raw (.ref p)), some (.int ch), some t, some (.str X), some (.int (27 + j1)), some (.raw (.ref l)), some (.lst (ws.map D.str)), some x, some (.int at'), o11, none] σ14 H14 := A14
      refine st_asg A14 (ev_ixTP (P := fun d => ∃ y ∈ W7, d = .str y) (ev_tup (ds := W7.map D.str) (ea_cons ev_str (ea_cons ev_str (ea_cons ev_str (ea_cons ev_str (ea_cons ev_str (ea_cons ev_str (ea_cons ev_str ea_nil)))))))) (ev_draw hP13 rfl ev_int (by decide) (by decide)) fun z i e hi => ?_) fun d σ15 H15 hd A15 => ?_
      · subst e
        obtain ⟨n, rfl⟩ := Int.eq_ofNat_of_zero_le hi.1
        have hn : n < W7.length := by
          have : (n : Int) < 7 := hi.2
          show n < 7
          omega
        exact ⟨_, .str W7[n], rfl, atI_ofNat (by rw [List.getElem?_map, List.getElem?_eq_getElem hn]; rfl), W7[n], List.getElem_mem hn, rfl⟩
      obtain ⟨y, hy, rfl⟩ := hd
      dsimp only
      refine q ?_
      obtain ⟨yl, ya⟩ := w7_ok y hy
      replace A15 : At K (wo φ l) J2 [none, none, some (.raw (.ref p)), some (.int ch), some t, some (.str X), some (.int (27 + j1)), some (.raw (.ref l)), some (.lst (ws.map D.str)), some x, some (.int at'), some (.str y), none] σ15 H15 := A15
      have wasc : ∀ z ∈ ws, asc (tl z) := fun z hz => (WO z hz).2
      have lT := lenS_take at'.toNat ws
      have lD := fun n => lenS_drop n ws
      have eT : ∀ {J : Hp → Prop}, EvD K (wo φ l) J (tSl (rSlL K) (tVar 8) tNoPart (tPart (tVar 10))) [none, none, some (.raw (.ref p)), some (.int ch), some t, some (.str X), some (.int (27 + j1)), some (.raw (.ref l)), some (.lst (ws.map D.str)), some x, some (.int at'), some (.str y), none] (.lst ((ws.take at'.toNat).map D.str)) := (ev_slL (ds := ws.map D.str) (ev_var rfl) eo_none (eo_some (ev_var rfl))).is (by rw [cutD_hi a0, List.map_take])
      have eD1 : ∀ {J : Hp → Prop}, EvD K (wo φ l) J (tSl (rSlL K) (tVar 8) (tPart (tOp (rI0 fun i j => .int (i + j)) (tVar 10) (tC (.int 1)))) tNoPart) [none, none, some (.raw (.ref p)), some (.int ch), some t, some (.str X), some (.int (27 + j1)), some (.raw (.ref l)), some (.lst (ws.map D.str)), some x, some (.int at'), some (.str y), none] (.lst ((ws.drop (at' + 1).toNat).map D.str)) := (ev_slL (ds := ws.map D.str) (ev_var rfl) (eo_some (ev_add (ev_var rfl) ev_int)) eo_none).is (by rw [cutD_lo (by omega), List.map_drop])
      have eD0 : ∀ {J : Hp → Prop}, EvD K (wo φ l) J (tSl (rSlL K) (tVar 8) (tPart (tVar 10)) tNoPart) [none, none, some (.raw (.ref p)), some (.int ch), some t, some (.str X), some (.int (27 + j1)), some (.raw (.ref l)), some (.lst (ws.map D.str)), some x, some (.int at'), some (.str y), none] (.lst ((ws.drop at'.toNat).map D.str)) := (ev_slL (ds := ws.map D.str) (ev_var rfl) (eo_some (ev_var rfl)) eo_none).is (by rw [cutD_lo a0, List.map_drop])
      have cat2 : ∀ {J : Hp → Prop} {ta tb : TE} {ρ : List (Option D)} {xs ys : List Str}, EvD K (wo φ l) J ta ρ (.lst (xs.map D.str)) → EvD K (wo φ l) J tb ρ (.lst (ys.map D.str)) → xs.length ≤ 400000 → ys.length ≤ 400000 → EvD K (wo φ l) J (tOp (rCatL K) ta tb) ρ (.lst ((xs ++ ys).map D.str)) := fun h1 h2 l1 l2 => (ev_catL h1 h2 (by rw [List.length_map, List.length_map]; omega)).is (by rw [List.map_append])
      have lw1 : ws.length ≤ 30000 := by
        have : ws.length ≤ lenS ws := by
          have := sum_lenS ws
          rw [show (" " : Str).length = 1 from by rw [lit_sp]; rfl, Nat.mul_one] at this
          omega
        omega
      have lt1 : (ws.take at'.toNat).length ≤ 30000 := by rw [List.length_take]; omega
      have ld1 : ∀ n, (ws.drop n).length ≤ 30000 := fun n => by rw [List.length_drop]; omega
      have a1' : lenS (ws.take at'.toNat ++ ws.drop (at' + 1).toNat) ≤ 100000 := by rw [lenS_app]; have := lD (at' + 1).toNat; omega
      have hy1 : lenS [y] = y.length + 1 := rfl
      have a2' : lenS ((ws.take at'.toNat ++ [y]) ++ ws.drop at'.toNat) ≤ 100000 := by rw [lenS_app, lenS_app, hy1]; have := lD at'.toNat; omega
      have a3' : lenS ((ws.take at'.toNat ++ [y]) ++ ws.drop (at' + 1).toNat) ≤ 100000 := by rw [lenS_app, lenS_app, hy1]; have := lD (at' + 1).toNat; omega
      have asc1 : ∀ z ∈ ws.take at'.toNat ++ ws.drop (at' + 1).toNat, asc (tl z) := fun z hz => (List.mem_append.mp hz).elim (fun h => wasc z (List.mem_of_mem_take h)) fun h => wasc z (List.mem_of_mem_drop h)
      have asc2 : ∀ n, ∀ z ∈ (ws.take at'.toNat ++ [y]) ++ ws.drop n, asc (tl z) := fun n z hz => (List.mem_append.mp hz).elim (fun h => (List.mem_append.mp h).elim (fun h => wasc z (List.mem_of_mem_take h)) fun h => by rw [List.mem_singleton.mp h]; exact ya) fun h => wasc z (List.mem_of_mem_drop h)
      have eY : ∀ {J : Hp → Prop}, EvD K (wo φ l) J (tLst (tCons (tVar 11) tNil)) [none, none, some (.raw (.ref p)), some (.int ch), some t, some (.str X), some (.int (27 + j1)), some (.raw (.ref l)), some (.lst (ws.map D.str)), some x, some (.int at'), some (.str y), none] (.lst (([y] : List Str).map D.str)) := ev_lst (ea_cons (ev_var rfl) ea_nil)
      refine st_appL A15 L13 rfl (ev_tup (ea_cons (ev_joinW (cat2 eT eD1 (by omega) (Nat.le_trans (ld1 _) (by decide))) a1') (ea_cons (ev_var rfl) ea_nil))) (by omega) fun d J3 H16 hd L16 A16 => ?_
      dsimp only
      refine q ?_
      have hd1 : pairOk d := by subst hd; exact join_pair a1' asc1 hc
      clear hd
      refine st_appL A16 L16 rfl (ev_tup (ea_cons (ev_joinW (cat2 (cat2 eT eY (by omega) (Nat.le_of_ble_eq_true rfl)) eD0 (by rw [List.length_append]; show _ + 1 ≤ _; omega) (Nat.le_trans (ld1 _) (by decide))) a2') (ea_cons (ev_var rfl) ea_nil))) (by rw [List.length_append]; show _ + 1 ≤ _; omega) fun d2 J4 H17 hd L17 A17 => ?_
      have hd2 : pairOk d2 := by subst hd; exact join_pair a2' (asc2 _) hc
      clear hd
      refine st_appL A17 L17 rfl (ev_tup (ea_cons (ev_joinW (cat2 (cat2 eT eY (by omega) (Nat.le_of_ble_eq_true rfl)) eD1 (by rw [List.length_append]; show _ + 1 ≤ _; omega) (Nat.le_trans (ld1 _) (by decide))) a3') (ea_cons (ev_var rfl) ea_nil))) (by rw [List.length_append, List.length_append]; show _ + 1 + 1 ≤ _; omega) fun d3 J5 H18 hd L18 A18 => ?_
      have hd3 : pairOk d3 := by subst hd; exact join_pair a3' (asc2 _) hc
      clear hd
      obtain ⟨J6, L19, A19⟩ := L18.pop (Mo.liv L10 j12) L10.st L10.pl A18
      refine ⟨_, J6, ⟨ds ++ [d] ++ [d2] ++ [d3], some x, some (.int at'), some (.str y), fun z hz => ?_, by rw [List.length_append, List.length_append, List.length_append]; show _ + 1 + 1 + 1 = _; omega, L19, rfl⟩, A19⟩
      rcases List.mem_append.mp hz with hz | hz
      · rcases List.mem_append.mp hz with hz | hz
        · rcases List.mem_append.mp hz with hz | hz
          · exact hok z hz
          · rw [List.mem_singleton.mp hz]; exact hd1
        · rw [List.mem_singleton.mp hz]; exact hd2
      · rw [List.mem_singleton.mp hz]; exact hd3
    · rintro H12 ρ' J' σ' H' b12 j12 ⟨ds, o9, o10, o11, hok, hl, L12, rfl⟩ A12
      exact ⟨ds, hok, (L12.freeze hφl (L12.at A12) (k := 7) rfl).le (by walk_at "le")⟩
  rintro σ12 H12 ⟨ds, hok, A12⟩
  refine q_cut (M := fun _ _ => True) ?_ ?_
  · refine st_for A12 (it_list (ev_var rfl)) (fun i ρ' J' => (∃ o12, ρ' = [none, none, some (.raw (.ref p)), none, none, none, none, some (.lst ds), none, none, none, none, o12]) ∧ J' = PoolOk p s ns) ⟨⟨none, rfl⟩, rfl⟩ ?_ ?_
    · rintro H13 i x ρ' J' b13 j13 hx ⟨⟨o12, rfl⟩, rfl⟩ σ' H' A13
      obtain ⟨y, c', rfl, hyl, hya, hyc⟩ := hok x (List.mem_of_getElem? hx)
      replace A13 : At K φ (fun H_1 => PoolOk p s ns H_1 ∧ But φ H13 H_1) [none, none, some (.raw (.ref p)), none, none, none, none, some (.lst ds), none, none, none, none, some (.tup [.str y, .int c'])] σ' H' := A13
      have ep : ∀ {J : Hp → Prop} {E : XK}, EvD K φ J (tCall (SpD K 2 RReadL) [] E (tCons (tOp (rIxT K) (tVar 12) (tC (.int 0))) (tCons (tOp (rIxT K) (tVar 12) (tC (.int 1))) tNil))) [none, none, some (.raw (.ref p)), none, none, none, none, some (.lst ds), none, none, none, none, some (.tup [.str y, .int c'])] (optD (readT y c')) := ev_callD (ea_cons (ev_ixT (ds := [.str y, .int c']) (ev_var rfl) ev_int rfl) (ea_cons (ev_ixT (ds := [.str y, .int c']) (ev_var rfl) ev_int rfl) ea_nil)) ⟨y, c', rfl, hyl, hya, hyc, rfl⟩
      refine st_no A13 (et_not (et_B (ev_callD (ea_cons ep (ea_cons ep ea_nil)) ⟨_, rfl, readT_plain hyc, rfl⟩))) rfl fun H14 A14 => ?_
      exact st_next ⟨_, _, ⟨⟨_, rfl⟩, rfl⟩, A14⟩
    · intro H13 ρ' J' σ' H' b13 j13 _ A13
      exact trivial
  intro σ13 H13 _
  exact kq H13
end
end
/-! ### what the top has written; the law's own head -/
theorem all_mk {l : PySem.W.OpenLaw} {w : World} {K : PySem.W.Frag} {h : Heap} {mg : Str → Option Value} {fa : Addr} (X : K.In h) (G : h.Ns mainGlobals mg) (hfa : mg "law" = some (.ref fa))
    {f0 : Addr} {od0 an0 : Option Addr} {sl0 : Array (Option Value)} {oc0 kV0 dc0 pm0 cd0 ct0 : Value} {f1 : Addr} {od1 an1 : Option Addr} {sl1 : Array (Option Value)} {oc1 kV1 dc1 pm1 cd1 ct1 : Value} {f2 : Addr} {od2 an2 : Option Addr} {sl2 : Array (Option Value)} {oc2 kV2 dc2 pm2 cd2 ct2 : Value} {f3 : Addr} {od3 an3 : Option Addr} {sl3 : Array (Option Value)} {oc3 kV3 dc3 pm3 cd3 ct3 : Value} {f4 : Addr} {od4 an4 : Option Addr} {sl4 : Array (Option Value)} {oc4 kV4 dc4 pm4 cd4 ct4 : Value} {f5 : Addr} {od5 an5 : Option Addr} {sl5 : Array (Option Value)} {oc5 kV5 dc5 pm5 cd5 ct5 : Value} {f6 : Addr} {od6 an6 : Option Addr} {sl6 : Array (Option Value)} {oc6 kV6 dc6 pm6 cd6 ct6 : Value} {f7 : Addr} {od7 an7 : Option Addr} {sl7 : Array (Option Value)} {oc7 kV7 dc7 pm7 cd7 ct7 : Value} {f8 : Addr} {od8 an8 : Option Addr} {sl8 : Array (Option Value)} {oc8 kV8 dc8 pm8 cd8 ct8 : Value} {f9 : Addr} {od9 an9 : Option Addr} {sl9 : Array (Option Value)} {oc9 kV9 dc9 pm9 cd9 ct9 : Value} {f10 : Addr} {od10 an10 : Option Addr} {sl10 : Array (Option Value)} {oc10 kV10 dc10 pm10 cd10 ct10 : Value} {f11 : Addr} {od11 an11 : Option Addr} {sl11 : Array (Option Value)} {oc11 kV11 dc11 pm11 cd11 ct11 : Value} {f12 : Addr} {od12 an12 : Option Addr} {sl12 : Array (Option Value)} {oc12 kV12 dc12 pm12 cd12 ct12 : Value} {f13 : Addr} {od13 an13 : Option Addr} {sl13 : Array (Option Value)} {oc13 kV13 dc13 pm13 cd13 ct13 : Value} {t_DIGITS : Tok} {t_MOST_DIGITS : Tok} {t_MOST_NEST : Tok} {c_InvalidText : Addr} {C_TreeReader : Addr} {f_TreeReader___init__ : Addr} {od_TreeReader___init__ an_TreeReader___init__ : Option Addr} {sl_TreeReader___init__ : Array (Option Value)} {oc_TreeReader___init__ kV_TreeReader___init__ dc_TreeReader___init__ pm_TreeReader___init__ cd_TreeReader___init__ ct_TreeReader___init__ : Value} {f_TreeReader_number : Addr} {od_TreeReader_number an_TreeReader_number : Option Addr} {sl_TreeReader_number : Array (Option Value)} {oc_TreeReader_number kV_TreeReader_number dc_TreeReader_number pm_TreeReader_number cd_TreeReader_number ct_TreeReader_number : Value} {f_TreeReader_tree : Addr} {od_TreeReader_tree an_TreeReader_tree : Option Addr} {sl_TreeReader_tree : Array (Option Value)} {oc_TreeReader_tree kV_TreeReader_tree dc_TreeReader_tree pm_TreeReader_tree cd_TreeReader_tree ct_TreeReader_tree : Value}
    (a0 : PySem.W.nsIn K mainGlobals "read_number" = some (some (.ref f0))) (l0 : K.lookup f0 = some ⟨oc0, od0, .func (PySem.W.fnOf "read_number" "read_number" (defArgs s_read_number) (defBody s_read_number) (defScope s_read_number) .none kV0 dc0 pm0 an0 cd0 ct0), sl0⟩) (c0 : PySem.W.codeIn K cd0 "read_number" = true) (k0 : PySem.W.keepIn K (.ref f0) = true) (a1 : PySem.W.nsIn K mainGlobals "refusal_text" = some (some (.ref f1))) (l1 : K.lookup f1 = some ⟨oc1, od1, .func (PySem.W.fnOf "refusal_text" "refusal_text" (defArgs s_refusal_text) (defBody s_refusal_text) (defScope s_refusal_text) .none kV1 dc1 pm1 an1 cd1 ct1), sl1⟩) (c1 : PySem.W.codeIn K cd1 "refusal_text" = true) (k1 : PySem.W.keepIn K (.ref f1) = true) (a2 : PySem.W.nsIn K mainGlobals "read_refusal" = some (some (.ref f2))) (l2 : K.lookup f2 = some ⟨oc2, od2, .func (PySem.W.fnOf "read_refusal" "read_refusal" (defArgs s_read_refusal) (defBody s_read_refusal) (defScope s_read_refusal) .none kV2 dc2 pm2 an2 cd2 ct2), sl2⟩) (c2 : PySem.W.codeIn K cd2 "read_refusal" = true) (k2 : PySem.W.keepIn K (.ref f2) = true) (a3 : PySem.W.nsIn K mainGlobals "_law_same" = some (some (.ref f3))) (l3 : K.lookup f3 = some ⟨oc3, od3, .func (PySem.W.fnOf "_law_same" "_law_same" (defArgs s__law_same) (defBody s__law_same) (defScope s__law_same) .none kV3 dc3 pm3 an3 cd3 ct3), sl3⟩) (c3 : PySem.W.codeIn K cd3 "_law_same" = true) (k3 : PySem.W.keepIn K (.ref f3) = true) (a4 : PySem.W.nsIn K mainGlobals "_law_pool" = some (some (.ref f4))) (l4 : K.lookup f4 = some ⟨oc4, od4, .func (PySem.W.fnOf "_law_pool" "_law_pool" (defArgs s__law_pool) (defBody s__law_pool) (defScope s__law_pool) .none kV4 dc4 pm4 an4 cd4 ct4), sl4⟩) (c4 : PySem.W.codeIn K cd4 "_law_pool" = true) (k4 : PySem.W.keepIn K (.ref f4) = true) (a5 : PySem.W.nsIn K mainGlobals "_law_spread" = some (some (.ref f5))) (l5 : K.lookup f5 = some ⟨oc5, od5, .func (PySem.W.fnOf "_law_spread" "_law_spread" (defArgs s__law_spread) (defBody s__law_spread) (defScope s__law_spread) .none kV5 dc5 pm5 an5 cd5 ct5), sl5⟩) (c5 : PySem.W.codeIn K cd5 "_law_spread" = true) (k5 : PySem.W.keepIn K (.ref f5) = true) (a6 : PySem.W.nsIn K mainGlobals "_law_draw" = some (some (.ref f6))) (l6 : K.lookup f6 = some ⟨oc6, od6, .func (PySem.W.fnOf "_law_draw" "_law_draw" (defArgs s__law_draw) (defBody s__law_draw) (defScope s__law_draw) .none kV6 dc6 pm6 an6 cd6 ct6), sl6⟩) (c6 : PySem.W.codeIn K cd6 "_law_draw" = true) (k6 : PySem.W.keepIn K (.ref f6) = true) (a7 : PySem.W.nsIn K mainGlobals "_law_some_tree" = some (some (.ref f7))) (l7 : K.lookup f7 = some ⟨oc7, od7, .func (PySem.W.fnOf "_law_some_tree" "_law_some_tree" (defArgs s__law_some_tree) (defBody s__law_some_tree) (defScope s__law_some_tree) .none kV7 dc7 pm7 an7 cd7 ct7), sl7⟩) (c7 : PySem.W.codeIn K cd7 "_law_some_tree" = true) (k7 : PySem.W.keepIn K (.ref f7) = true) (a8 : PySem.W.nsIn K mainGlobals "_law_tree_text" = some (some (.ref f8))) (l8 : K.lookup f8 = some ⟨oc8, od8, .func (PySem.W.fnOf "_law_tree_text" "_law_tree_text" (defArgs s__law_tree_text) (defBody s__law_tree_text) (defScope s__law_tree_text) .none kV8 dc8 pm8 an8 cd8 ct8), sl8⟩) (c8 : PySem.W.codeIn K cd8 "_law_tree_text" = true) (k8 : PySem.W.keepIn K (.ref f8) = true) (a9 : PySem.W.nsIn K mainGlobals "_law_count_word" = some (some (.ref f9))) (l9 : K.lookup f9 = some ⟨oc9, od9, .func (PySem.W.fnOf "_law_count_word" "_law_count_word" (defArgs s__law_count_word) (defBody s__law_count_word) (defScope s__law_count_word) .none kV9 dc9 pm9 an9 cd9 ct9), sl9⟩) (c9 : PySem.W.codeIn K cd9 "_law_count_word" = true) (k9 : PySem.W.keepIn K (.ref f9) = true) (a10 : PySem.W.nsIn K mainGlobals "_law_take" = some (some (.ref f10))) (l10 : K.lookup f10 = some ⟨oc10, od10, .func (PySem.W.fnOf "_law_take" "_law_take" (defArgs s__law_take) (defBody s__law_take) (defScope s__law_take) .none kV10 dc10 pm10 an10 cd10 ct10), sl10⟩) (c10 : PySem.W.codeIn K cd10 "_law_take" = true) (k10 : PySem.W.keepIn K (.ref f10) = true) (a11 : PySem.W.nsIn K mainGlobals "_law_reads" = some (some (.ref f11))) (l11 : K.lookup f11 = some ⟨oc11, od11, .func (PySem.W.fnOf "_law_reads" "_law_reads" (defArgs s__law_reads) (defBody s__law_reads) (defScope s__law_reads) .none kV11 dc11 pm11 an11 cd11 ct11), sl11⟩) (c11 : PySem.W.codeIn K cd11 "_law_reads" = true) (k11 : PySem.W.keepIn K (.ref f11) = true) (a12 : PySem.W.nsIn K mainGlobals "_law_told" = some (some (.ref f12))) (l12 : K.lookup f12 = some ⟨oc12, od12, .func (PySem.W.fnOf "_law_told" "_law_told" (defArgs s__law_told) (defBody s__law_told) (defScope s__law_told) .none kV12 dc12 pm12 an12 cd12 ct12), sl12⟩) (c12 : PySem.W.codeIn K cd12 "_law_told" = true) (k12 : PySem.W.keepIn K (.ref f12) = true) (a13 : PySem.W.nsIn K mainGlobals "law" = some (some (.ref f13))) (l13 : K.lookup f13 = some ⟨oc13, od13, .func (PySem.W.fnOf "law" "law" (defArgs s_law) (defBody s_law) (defScope s_law) .none kV13 dc13 pm13 an13 cd13 ct13), sl13⟩) (c13 : PySem.W.codeIn K cd13 "law" = true) (k13 : PySem.W.keepIn K (.ref f13) = true) (z_len : PySem.W.nsIn K mainGlobals "len" = some none) (z_range : PySem.W.nsIn K mainGlobals "range" = some none) (z_isinstance : PySem.W.nsIn K mainGlobals "isinstance" = some none) (z_int : PySem.W.nsIn K mainGlobals "int" = some none) (z_str : PySem.W.nsIn K mainGlobals "str" = some none) (z_bool : PySem.W.nsIn K mainGlobals "bool" = some none) (z_list : PySem.W.nsIn K mainGlobals "list" = some none) (z_tuple : PySem.W.nsIn K mainGlobals "tuple" = some none) (z_dict : PySem.W.nsIn K mainGlobals "dict" = some none) (z_sum : PySem.W.nsIn K mainGlobals "sum" = some none) (z_max : PySem.W.nsIn K mainGlobals "max" = some none) (z_min : PySem.W.nsIn K mainGlobals "min" = some none) (z_abs : PySem.W.nsIn K mainGlobals "abs" = some none) (z_sorted : PySem.W.nsIn K mainGlobals "sorted" = some none) (z_enumerate : PySem.W.nsIn K mainGlobals "enumerate" = some none) (z_zip : PySem.W.nsIn K mainGlobals "zip" = some none) (z_set : PySem.W.nsIn K mainGlobals "set" = some none) (y_DIGITS : PySem.W.nsIn K mainGlobals "DIGITS" = some (some (.str "0123456789" t_DIGITS))) (y_MOST_DIGITS : PySem.W.nsIn K mainGlobals "MOST_DIGITS" = some (some (.int (9) t_MOST_DIGITS))) (y_MOST_NEST : PySem.W.nsIn K mainGlobals "MOST_NEST" = some (some (.int (30) t_MOST_NEST))) (xa_InvalidText : PySem.W.nsIn K mainGlobals "InvalidText" = some (some (.ref c_InvalidText))) (xe_InvalidText : PySem.W.excIn K c_InvalidText [.type "ValueError", .type "Exception", .type "BaseException", .type "object"] "ValueError.__new__" = true) (xk_InvalidText : PySem.W.keepIn K (.ref c_InvalidText) = true) (xs_InvalidText : PySem.W.subIn K (.ref c_InvalidText) (.type "BaseException") = some true) (xt_InvalidText : PySem.W.typeIn K (.ref c_InvalidText) = some (.type "type")) (xi_InvalidText : PySem.W.isClsIn K c_InvalidText = true) (xy_InvalidText : PySem.W.subIn K (.ref c_InvalidText) (.ref c_InvalidText) = some true) (qa_TreeReader : PySem.W.nsIn K mainGlobals "TreeReader" = some (some (.ref C_TreeReader))) (qpg_TreeReader : PySem.W.plainGet K C_TreeReader Str.empty = true) (qhd_TreeReader : PySem.W.hasDictIn K C_TreeReader = true) (qpo_TreeReader : PySem.W.plainOver K C_TreeReader = true) (qsa_TreeReader : PySem.W.findIn K (.ref C_TreeReader) "__setattr__" = some (some (.builtin "object.__setattr__"))) (qmk_TreeReader : PySem.W.makesIn K C_TreeReader = true) (qkc_TreeReader : PySem.W.keepIn K (.ref C_TreeReader) = true) (qn_TreeReader_words : PySem.W.findIn K (.ref C_TreeReader) "words" = some none) (qn_TreeReader_channels : PySem.W.findIn K (.ref C_TreeReader) "channels" = some none) (qn_TreeReader_at : PySem.W.findIn K (.ref C_TreeReader) "at" = some none) (ma_TreeReader___init__ : PySem.W.findIn K (.ref C_TreeReader) "__init__" = some (some (.ref f_TreeReader___init__))) (mi_TreeReader___init__ : PySem.W.isFn K (.ref f_TreeReader___init__) = true) (ml_TreeReader___init__ : K.lookup f_TreeReader___init__ = some ⟨oc_TreeReader___init__, od_TreeReader___init__, .func (PySem.W.fnOf "__init__" "TreeReader.__init__" (defArgs s_TreeReader___init__) (defBody s_TreeReader___init__) (defScope s_TreeReader___init__) .none kV_TreeReader___init__ dc_TreeReader___init__ pm_TreeReader___init__ an_TreeReader___init__ cd_TreeReader___init__ ct_TreeReader___init__), sl_TreeReader___init__⟩) (mc_TreeReader___init__ : PySem.W.codeIn K cd_TreeReader___init__ "TreeReader.__init__" = true) (mk_TreeReader___init__ : PySem.W.keepIn K (.ref f_TreeReader___init__) = true) (ma_TreeReader_number : PySem.W.findIn K (.ref C_TreeReader) "number" = some (some (.ref f_TreeReader_number))) (mi_TreeReader_number : PySem.W.isFn K (.ref f_TreeReader_number) = true) (ml_TreeReader_number : K.lookup f_TreeReader_number = some ⟨oc_TreeReader_number, od_TreeReader_number, .func (PySem.W.fnOf "number" "TreeReader.number" (defArgs s_TreeReader_number) (defBody s_TreeReader_number) (defScope s_TreeReader_number) .none kV_TreeReader_number dc_TreeReader_number pm_TreeReader_number an_TreeReader_number cd_TreeReader_number ct_TreeReader_number), sl_TreeReader_number⟩) (mc_TreeReader_number : PySem.W.codeIn K cd_TreeReader_number "TreeReader.number" = true) (mk_TreeReader_number : PySem.W.keepIn K (.ref f_TreeReader_number) = true) (ma_TreeReader_tree : PySem.W.findIn K (.ref C_TreeReader) "tree" = some (some (.ref f_TreeReader_tree))) (mi_TreeReader_tree : PySem.W.isFn K (.ref f_TreeReader_tree) = true) (ml_TreeReader_tree : K.lookup f_TreeReader_tree = some ⟨oc_TreeReader_tree, od_TreeReader_tree, .func (PySem.W.fnOf "tree" "TreeReader.tree" (defArgs s_TreeReader_tree) (defBody s_TreeReader_tree) (defScope s_TreeReader_tree) .none kV_TreeReader_tree dc_TreeReader_tree pm_TreeReader_tree an_TreeReader_tree cd_TreeReader_tree ct_TreeReader_tree), sl_TreeReader_tree⟩) (mc_TreeReader_tree : PySem.W.codeIn K cd_TreeReader_tree "TreeReader.tree" = true) (mk_TreeReader_tree : PySem.W.keepIn K (.ref f_TreeReader_tree) = true) :
    ∃ fd : FuncData, (∀ (s : Shared) (v : Value), BindsTo s fd ⟨[v], []⟩ [("script", v)]) ∧ ∀ base : Heap, K.In base → base.Ns mainGlobals mg → FnOk l.prog w K mg base CX0 62 fa fd ["script"] (spLaw K) := by
  have e := hfa.symm.trans (PySem.W.mg_of X G a13)
  cases e
  have F0 := fun_mk (st := s_read_number) l0 c0 k0
  have b0 := F0.binds (ps := ["word"]) fun _ _ _ _ _ _ us hl => match us, hl with | [_], _ => rfl
  have L0 : Lk K mg "read_number" f0 _ ["word"] := ⟨PySem.W.mg_of X G a0, k0, b0⟩
  have F1 := fun_mk (st := s_refusal_text) l1 c1 k1
  have b1 := F1.binds (ps := ["tree"]) fun _ _ _ _ _ _ us hl => match us, hl with | [_], _ => rfl
  have L1 : Lk K mg "refusal_text" f1 _ ["tree"] := ⟨PySem.W.mg_of X G a1, k1, b1⟩
  have F2 := fun_mk (st := s_read_refusal) l2 c2 k2
  have b2 := F2.binds (ps := ["text", "channels"]) fun _ _ _ _ _ _ us hl => match us, hl with | [_, _], _ => rfl
  have L2 : Lk K mg "read_refusal" f2 _ ["text", "channels"] := ⟨PySem.W.mg_of X G a2, k2, b2⟩
  have F3 := fun_mk (st := s__law_same) l3 c3 k3
  have b3 := F3.binds (ps := ["actual", "due"]) fun _ _ _ _ _ _ us hl => match us, hl with | [_, _], _ => rfl
  have L3 : Lk K mg "_law_same" f3 _ ["actual", "due"] := ⟨PySem.W.mg_of X G a3, k3, b3⟩
  have F4 := fun_mk (st := s__law_pool) l4 c4 k4
  have b4 := F4.binds (ps := ["script"]) fun _ _ _ _ _ _ us hl => match us, hl with | [_], _ => rfl
  have L4 : Lk K mg "_law_pool" f4 _ ["script"] := ⟨PySem.W.mg_of X G a4, k4, b4⟩
  have F5 := fun_mk (st := s__law_spread) l5 c5 k5
  have b5 := F5.binds (ps := ["cell"]) fun _ _ _ _ _ _ us hl => match us, hl with | [_], _ => rfl
  have L5 : Lk K mg "_law_spread" f5 _ ["cell"] := ⟨PySem.W.mg_of X G a5, k5, b5⟩
  have F6 := fun_mk (st := s__law_draw) l6 c6 k6
  have b6 := F6.binds (ps := ["pool", "many"]) fun _ _ _ _ _ _ us hl => match us, hl with | [_, _], _ => rfl
  have L6 : Lk K mg "_law_draw" f6 _ ["pool", "many"] := ⟨PySem.W.mg_of X G a6, k6, b6⟩
  have F7 := fun_mk (st := s__law_some_tree) l7 c7 k7
  have b7 := F7.binds (ps := ["pool", "channels", "depth"]) fun _ _ _ _ _ _ us hl => match us, hl with | [_, _, _], _ => rfl
  have L7 : Lk K mg "_law_some_tree" f7 _ ["pool", "channels", "depth"] := ⟨PySem.W.mg_of X G a7, k7, b7⟩
  have F8 := fun_mk (st := s__law_tree_text) l8 c8 k8
  have b8 := F8.binds (ps := ["tree"]) fun _ _ _ _ _ _ us hl => match us, hl with | [_], _ => rfl
  have L8 : Lk K mg "_law_tree_text" f8 _ ["tree"] := ⟨PySem.W.mg_of X G a8, k8, b8⟩
  have F9 := fun_mk (st := s__law_count_word) l9 c9 k9
  have b9 := F9.binds (ps := ["word"]) fun _ _ _ _ _ _ us hl => match us, hl with | [_], _ => rfl
  have L9 : Lk K mg "_law_count_word" f9 _ ["word"] := ⟨PySem.W.mg_of X G a9, k9, b9⟩
  have F10 := fun_mk (st := s__law_take) l10 c10 k10
  have b10 := F10.binds (ps := ["words", "at", "channels", "depth"]) fun _ _ _ _ _ _ us hl => match us, hl with | [_, _, _, _], _ => rfl
  have L10 : Lk K mg "_law_take" f10 _ ["words", "at", "channels", "depth"] := ⟨PySem.W.mg_of X G a10, k10, b10⟩
  have F11 := fun_mk (st := s__law_reads) l11 c11 k11
  have b11 := F11.binds (ps := ["text", "channels"]) fun _ _ _ _ _ _ us hl => match us, hl with | [_, _], _ => rfl
  have L11 : Lk K mg "_law_reads" f11 _ ["text", "channels"] := ⟨PySem.W.mg_of X G a11, k11, b11⟩
  have F12 := fun_mk (st := s__law_told) l12 c12 k12
  have b12 := F12.binds (ps := ["text", "channels"]) fun _ _ _ _ _ _ us hl => match us, hl with | [_, _], _ => rfl
  have L12 : Lk K mg "_law_told" f12 _ ["text", "channels"] := ⟨PySem.W.mg_of X G a12, k12, b12⟩
  have F13 := fun_mk (st := s_law) l13 c13 k13
  have b13 := F13.binds (ps := ["script"]) fun _ _ _ _ _ _ us hl => match us, hl with | [_], _ => rfl
  have L13 : Lk K mg "law" fa _ ["script"] := ⟨PySem.W.mg_of X G a13, k13, b13⟩
  have B : Bi mg := ⟨PySem.W.mg_none_of X G z_len, PySem.W.mg_none_of X G z_range, PySem.W.mg_none_of X G z_isinstance, PySem.W.mg_none_of X G z_int, PySem.W.mg_none_of X G z_str, PySem.W.mg_none_of X G z_bool, PySem.W.mg_none_of X G z_list, PySem.W.mg_none_of X G z_tuple, PySem.W.mg_none_of X G z_dict, PySem.W.mg_none_of X G z_sum, PySem.W.mg_none_of X G z_max, PySem.W.mg_none_of X G z_min, PySem.W.mg_none_of X G z_abs, PySem.W.mg_none_of X G z_sorted, PySem.W.mg_none_of X G z_enumerate, PySem.W.mg_none_of X G z_zip, PySem.W.mg_none_of X G z_set⟩
  have C : Cs mg := ⟨⟨_, PySem.W.mg_of X G y_DIGITS, _, rfl⟩, ⟨_, PySem.W.mg_of X G y_MOST_DIGITS, _, rfl⟩, ⟨_, PySem.W.mg_of X G y_MOST_NEST, _, rfl⟩⟩
  have X_InvalidText : ExC K mg "InvalidText" c_InvalidText := ⟨PySem.W.mg_of X G xa_InvalidText, xe_InvalidText, xk_InvalidText, xs_InvalidText, xt_InvalidText, exm_sub xs_InvalidText xi_InvalidText xt_InvalidText xy_InvalidText⟩
  have T_TreeReader : TTreeReader K mg C_TreeReader := ⟨⟨qpg_TreeReader, qhd_TreeReader, qpo_TreeReader, qsa_TreeReader⟩, qn_TreeReader_words, qn_TreeReader_channels, qn_TreeReader_at, PySem.W.mg_of X G qa_TreeReader⟩
  have F_TreeReader___init__ := fun_mk (st := s_TreeReader___init__) ml_TreeReader___init__ mc_TreeReader___init__ mk_TreeReader___init__
  have b_TreeReader___init__ := F_TreeReader___init__.binds (ps := ["self", "words", "channels"]) fun _ _ _ _ _ _ us hl => match us, hl with | [_, _, _], _ => rfl
  have L_TreeReader___init__ : LkM K C_TreeReader "__init__" f_TreeReader___init__ _ ["self", "words", "channels"] := ⟨⟨ma_TreeReader___init__, mi_TreeReader___init__, mk_TreeReader___init__⟩, b_TreeReader___init__⟩
  have M_TreeReader : Mk K C_TreeReader f_TreeReader___init__ := ⟨qmk_TreeReader, ma_TreeReader___init__, mi_TreeReader___init__, qkc_TreeReader⟩
  have F_TreeReader_number := fun_mk (st := s_TreeReader_number) ml_TreeReader_number mc_TreeReader_number mk_TreeReader_number
  have b_TreeReader_number := F_TreeReader_number.binds (ps := ["self"]) fun _ _ _ _ _ _ us hl => match us, hl with | [_], _ => rfl
  have L_TreeReader_number : LkM K C_TreeReader "number" f_TreeReader_number _ ["self"] := ⟨⟨ma_TreeReader_number, mi_TreeReader_number, mk_TreeReader_number⟩, b_TreeReader_number⟩
  have F_TreeReader_tree := fun_mk (st := s_TreeReader_tree) ml_TreeReader_tree mc_TreeReader_tree mk_TreeReader_tree
  have b_TreeReader_tree := F_TreeReader_tree.binds (ps := ["self", "depth"]) fun _ _ _ _ _ _ us hl => match us, hl with | [_, _], _ => rfl
  have L_TreeReader_tree : LkM K C_TreeReader "tree" f_TreeReader_tree _ ["self", "depth"] := ⟨⟨ma_TreeReader_tree, mi_TreeReader_tree, mk_TreeReader_tree⟩, b_TreeReader_tree⟩
  exact ⟨_, fun s v => .of_eq rfl, fun base _ _ => ok_all B C X_InvalidText T_TreeReader F_TreeReader___init__ L_TreeReader___init__ M_TreeReader F_TreeReader_number L_TreeReader_number F_TreeReader_tree L_TreeReader_tree F0 L0 F1 L1 F2 L2 F3 L3 F4 L4 F5 L5 F6 L6 F7 L7 F8 L8 F9 L9 F10 L10 F11 L11 F12 L12 F13 L13⟩
end DL
open PySem PySem.W PyProof.Rows
set_option maxRecDepth 100000 in
set_option maxHeartbeats 0 in
theorem PySem.Challenge.cw_airwave_k55_texts_of_refusals_holds : PySem.Challenge.rw_airwave_k55_texts_of_refusals.Holds := by
  w_on; o_law; k_head; (case hw => w_witness2)
  k_fill
  refine L2.walk_of (l := PySem.Challenge.rw_airwave_k55_texts_of_refusals) (n := 63) (k := 62) (x := "script") (CX := fun _ => L2.CX0) (sp := fun w => DL.spLaw _) rfl (by decide) rfl ⟨rfl, by decide, by decide⟩ (fun w h Y => PySem.W.kIn_of Y) ?F (fun _ _ a ns hl _ hS => ⟨a, ns, rfl, hS, hl, fun _ => rfl⟩) (fun _ _ _ _ _ h => h)
  case F =>
    intro w mg fa h KX G hmg
    refine' DL.all_mk KX G hmg ?a0 ?l0 ?c0 ?k0 ?a1 ?l1 ?c1 ?k1 ?a2 ?l2 ?c2 ?k2 ?a3 ?l3 ?c3 ?k3 ?a4 ?l4 ?c4 ?k4 ?a5 ?l5 ?c5 ?k5 ?a6 ?l6 ?c6 ?k6 ?a7 ?l7 ?c7 ?k7 ?a8 ?l8 ?c8 ?k8 ?a9 ?l9 ?c9 ?k9 ?a10 ?l10 ?c10 ?k10 ?a11 ?l11 ?c11 ?k11 ?a12 ?l12 ?c12 ?k12 ?a13 ?l13 ?c13 ?k13 ?z_len ?z_range ?z_isinstance ?z_int ?z_str ?z_bool ?z_list ?z_tuple ?z_dict ?z_sum ?z_max ?z_min ?z_abs ?z_sorted ?z_enumerate ?z_zip ?z_set ?y_DIGITS ?y_MOST_DIGITS ?y_MOST_NEST ?xa_InvalidText ?xe_InvalidText ?xk_InvalidText ?xs_InvalidText ?xt_InvalidText ?xi_InvalidText ?xy_InvalidText ?qa_TreeReader ?qpg_TreeReader ?qhd_TreeReader ?qpo_TreeReader ?qsa_TreeReader ?qmk_TreeReader ?qkc_TreeReader ?qn_TreeReader_words ?qn_TreeReader_channels ?qn_TreeReader_at ?ma_TreeReader___init__ ?mi_TreeReader___init__ ?ml_TreeReader___init__ ?mc_TreeReader___init__ ?mk_TreeReader___init__ ?ma_TreeReader_number ?mi_TreeReader_number ?ml_TreeReader_number ?mc_TreeReader_number ?mk_TreeReader_number ?ma_TreeReader_tree ?mi_TreeReader_tree ?ml_TreeReader_tree ?mc_TreeReader_tree ?mk_TreeReader_tree
    (case a0 => k_is); (case l0 => k_is); (case c0 => k_is); (case k0 => k_is); (case a1 => k_is); (case l1 => k_is); (case c1 => k_is); (case k1 => k_is); (case a2 => k_is); (case l2 => k_is); (case c2 => k_is); (case k2 => k_is); (case a3 => k_is); (case l3 => k_is); (case c3 => k_is); (case k3 => k_is); (case a4 => k_is); (case l4 => k_is); (case c4 => k_is); (case k4 => k_is); (case a5 => k_is); (case l5 => k_is); (case c5 => k_is); (case k5 => k_is); (case a6 => k_is); (case l6 => k_is); (case c6 => k_is); (case k6 => k_is); (case a7 => k_is); (case l7 => k_is); (case c7 => k_is); (case k7 => k_is); (case a8 => k_is); (case l8 => k_is); (case c8 => k_is); (case k8 => k_is); (case a9 => k_is); (case l9 => k_is); (case c9 => k_is); (case k9 => k_is); (case a10 => k_is); (case l10 => k_is); (case c10 => k_is); (case k10 => k_is); (case a11 => k_is); (case l11 => k_is); (case c11 => k_is); (case k11 => k_is); (case a12 => k_is); (case l12 => k_is); (case c12 => k_is); (case k12 => k_is); (case a13 => k_is); (case l13 => k_is); (case c13 => k_is); (case k13 => k_is); (case z_len => k_is); (case z_range => k_is); (case z_isinstance => k_is); (case z_int => k_is); (case z_str => k_is); (case z_bool => k_is); (case z_list => k_is); (case z_tuple => k_is); (case z_dict => k_is); (case z_sum => k_is); (case z_max => k_is); (case z_min => k_is); (case z_abs => k_is); (case z_sorted => k_is); (case z_enumerate => k_is); (case z_zip => k_is); (case z_set => k_is); (case y_DIGITS => k_is); (case y_MOST_DIGITS => k_is); (case y_MOST_NEST => k_is); (case xa_InvalidText => k_is); (case xe_InvalidText => k_exc); (case xk_InvalidText => k_is); (case xs_InvalidText => k_is); (case xt_InvalidText => k_is); (case xi_InvalidText => k_is); (case xy_InvalidText => k_is); (case qa_TreeReader => k_is); (case qpg_TreeReader => k_is); (case qhd_TreeReader => k_is); (case qpo_TreeReader => k_is); (case qsa_TreeReader => k_is); (case qmk_TreeReader => k_is); (case qkc_TreeReader => k_is); (case qn_TreeReader_words => k_is); (case qn_TreeReader_channels => k_is); (case qn_TreeReader_at => k_is); (case ma_TreeReader___init__ => k_is); (case mi_TreeReader___init__ => k_is); (case ml_TreeReader___init__ => k_is); (case mc_TreeReader___init__ => k_is); (case mk_TreeReader___init__ => k_is); (case ma_TreeReader_number => k_is); (case mi_TreeReader_number => k_is); (case ml_TreeReader_number => k_is); (case mc_TreeReader_number => k_is); (case mk_TreeReader_number => k_is); (case ma_TreeReader_tree => k_is); (case mi_TreeReader_tree => k_is); (case ml_TreeReader_tree => k_is); (case mc_TreeReader_tree => k_is); (case mk_TreeReader_tree => k_is)
#print axioms PySem.Challenge.cw_airwave_k55_texts_of_refusals_holds
