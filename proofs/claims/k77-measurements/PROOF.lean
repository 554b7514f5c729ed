import PyProof.Rows.All
import Wide.All
import OpenK.AllK
import Wide.FinOn
import HandS.ForMost
import HandS.IsInst
import HandS.Wide
import HandS.Gcd
import HandS.Deep
import HandS.TupAny
import HandS.Zip
import HandS.Codes
import KE.GoesEnumKw
import HandS.SortKw
import HandS.Exc
import HandS.ExcOwn
import HandS.TryOnly
import HandS.WordsExc
import HandS.TupMul
import HandS.Dict
import HandS.SortOrd
import HandS.SortRule
import HandS.SortInts
import HandS.DictTup
import HandS.More
import KE.KDictCopyH
import KE.KDictWalk
import KE.KDictExact
import HandS.DictComp
import HandS.TupLe
import HandS.Conv
import KE.SortData
import KE.DataMinMax
import KE.DatumOrd
import HandS.Iter
import KE.KDictDisplayH
import HandS.Comp
import HandS.Text
import HandS.Steps
import HandS.StrMore
import HandS.FStr
import HandS.Style
import PyProof.StrOps2
import KE.KRevSl
import HandS.Lambda
import HandS.WideBits
import HandS.TryMany
import PySem.Challenge.RW_airwave_k77_measurements
set_option Elab.async false
set_option linter.all false
set_option maxRecDepth 100000
/-! DL: a layer of data. D: trees of values; Rep: a value stands for a tree; Ev..: what a reading evaluates to, by trees. -/
namespace DL
open PySem PySem.Spec PyProof.Rows L2

inductive D where
  | non | bl (b : Bool) | int (i : Int) | str (x : Str) | tup (xs : List D) | lst (xs : List D) | raw (v : V) | dk (ks : List Key) (xs : List D) | dt (ks : List (List Key)) (xs : List D)

theorem same_tr {H H' : Hp} (s : Same H H') : ∀ a, H a ≠ none → H' a ≠ none := fun a h => by
  cases e : H a with
  | none => exact absurd e h
  | some o => rw [s a o e]; exact fun z => by cases z
theorem upd_tr {H : Hp} {l : Addr} {o : HO} : ∀ a, H a ≠ none → L2.upd H l o a ≠ none := fun a h => by
  by_cases e : a = l
  · rw [e, upd_same]; exact fun z => by cases z
  · rw [upd_ne e]; exact h
/-- what φ says is kept, nothing is lost from sight -/
structure But (φ : Addr → Prop) (H H' : Hp) : Prop where
  keep : ∀ a o, φ a → H a = some o → H' a = some o
  tr : ∀ a, H a ≠ none → H' a ≠ none
theorem But.refl (φ : Addr → Prop) (H : Hp) : But φ H H := ⟨fun _ _ _ e => e, fun _ h => h⟩
theorem But.trans {φ : Addr → Prop} {H H1 H2 : Hp} (a : But φ H H1) (b : But φ H1 H2) : But φ H H2 := ⟨fun x o h e => b.keep x o h (a.keep x o h e), fun x h => b.tr x (a.tr x h)⟩
theorem But.of {φ : Addr → Prop} {H H' : Hp} (s : Same H H') : But φ H H' := ⟨fun a o _ e => s a o e, same_tr s⟩
theorem But.upd {φ : Addr → Prop} {H H' : Hp} {l : Addr} {o : HO} (b : But φ H H') (h : ¬ φ l) : But φ H (L2.upd H' l o) := ⟨fun a u p e => by
  rw [L2.upd_ne (show a ≠ l from fun z => h (z ▸ p))]
  exact b.keep a u p e, fun a h => upd_tr a (b.tr a h)⟩
theorem But.imp {φ φ' : Addr → Prop} {H H' : Hp} (b : But φ' H H') (h : ∀ a, φ a → H a ≠ none → φ' a) : But φ H H' := ⟨fun a o p e => b.keep a o (h a p (by rw [e]; exact fun z => by cases z)) e, b.tr⟩
theorem same_new {H : Hp} {p : Addr} {o : HO} (h : H p = none) : Same H (upd H p o) := fun b x e => by
  rw [upd_ne (ne_of_none e h)]
  exact e

section
variable (K : PySem.W.Frag) (φ : Addr → Prop) (H : Hp)
def WrT (a : Addr) (xs : List V) : Prop := ∃ (o : Obj) (its : Array Value) (n : Nat), K.lookup a = some o ∧ o.cls = .type "tuple" ∧ o.data = .seq its n ∧ its.size ≤ sizeLine ∧ Vals xs its.toList
def WrL (a : Addr) (xs : List V) : Prop := ∃ (o : Obj) (its : Array Value) (n : Nat), K.lookup a = some o ∧ o.cls = .type "list" ∧ o.dict = none ∧ o.data = .seq its n ∧ its.size ≤ sizeLine ∧ Vals xs its.toList
def PT (a : Addr) (xs : List V) : Prop := (φ a ∧ (H a = some (.tup xs) ∨ False)) ∨ (False ∧ K.lookup a = none)
def PL (a : Addr) (xs : List V) : Prop := (φ a ∧ Rd H a (.lst xs)) ∨ WrL K a xs
mutual
def Rep : D → V → Prop
  | .non, v => v = .non
  | .bl b, v => v = .bl b
  | .int i, v => v = .int i
  | .str x, v => v = .str x
  | .tup ds, v => ∃ a vs, v = .ref a ∧ PT K φ H a vs ∧ Reps ds vs
  | .lst ds, v => ∃ a vs, v = .ref a ∧ PL K φ H a vs ∧ Reps ds vs
  | .raw w, v => v = w
  | .dk ks ds, v => ∃ a vs, v = .ref a ∧ (φ a ∧ H a = some (.dK (ks.zip vs)) ∧ ks.length = ds.length) ∧ Reps ds vs
  | .dt ks ds, v => ∃ a vs, v = .ref a ∧ (φ a ∧ H a = some (.dT (ks.zip vs)) ∧ ks.length = ds.length) ∧ Reps ds vs
def Reps : List D → List V → Prop
  | [], vs => vs = []
  | d :: ds, vs => ∃ v r, vs = v :: r ∧ Rep d v ∧ Reps ds r
end
end

section
variable {K : PySem.W.Frag} {φ φ' : Addr → Prop} {H H' : Hp} {a : Addr} {xs : List V} {ds es : List D} {d : D} {v : V} {vs ws : List V}
theorem PT.at (h : PT K φ H a xs) : φ a ∧ H a = some (.tup xs) := h.elim (fun z => ⟨z.1, z.2.elim id False.elim⟩) fun z => z.1.elim
theorem PT.sq (h : PT K φ H a xs) : SqT K H a xs := .inl (.inl h.at.2)
theorem PL.sq (h : PL K φ H a xs) : SqL K H a xs := h.elim (fun z => .inl z.2) .inr
/-- a change that keeps what Rep leans on -/
def Up (φ φ' : Addr → Prop) (H H' : Hp) : Prop := ∀ a o, φ a → H a = some o → φ' a ∧ H' a = some o
theorem Up.of (b : But φ H H') : Up φ φ H H' := fun a o p e => ⟨p, b.keep a o p e⟩
theorem Up.new {p : Addr} (h : H p = none) : Up φ (fun a => φ a ∧ a ≠ p) H H := fun a o q e => ⟨⟨q, ne_of_none e h⟩, e⟩
theorem Rd.up {u : HO} (k : Up φ φ' H H') (p : φ a) (h : Rd H a u) : φ' a ∧ Rd H' a u := by
  rcases h with h | ⟨o, h⟩
  · exact ⟨(k a _ p h).1, .inl (k a _ p h).2⟩
  · exact ⟨(k a _ p h).1, .inr ⟨o, (k a _ p h).2⟩⟩
theorem PT.up (k : Up φ φ' H H') (h : PT K φ H a xs) : PT K φ' H' a xs := .inl ⟨(k a _ h.at.1 h.at.2).1, .inl (k a _ h.at.1 h.at.2).2⟩
theorem PL.up (k : Up φ φ' H H') (h : PL K φ H a xs) : PL K φ' H' a xs := h.elim (fun z => .inl (Rd.up k z.1 z.2)) .inr
mutual
theorem Rep.up (k : Up φ φ' H H') : ∀ (d : D) (v : V), Rep K φ H d v → Rep K φ' H' d v
  | .non, _, h => h
  | .bl _, _, h => h
  | .int _, _, h => h
  | .str _, _, h => h
  | .raw _, _, h => h
  | .dk ks ds, v, h => by
    obtain ⟨a, vs, e, ⟨p, e2, hl⟩, r⟩ := (show ∃ a vs, v = .ref a ∧ (φ a ∧ H a = some (.dK (ks.zip vs)) ∧ ks.length = ds.length) ∧ Reps K φ H ds vs from h)
    exact ⟨a, vs, e, ⟨(k a _ p e2).1, (k a _ p e2).2, hl⟩, Reps.up k ds vs r⟩
  | .dt ks ds, v, h => by
    obtain ⟨a, vs, e, ⟨p, e2, hl⟩, r⟩ := (show ∃ a vs, v = .ref a ∧ (φ a ∧ H a = some (.dT (ks.zip vs)) ∧ ks.length = ds.length) ∧ Reps K φ H ds vs from h)
    exact ⟨a, vs, e, ⟨(k a _ p e2).1, (k a _ p e2).2, hl⟩, Reps.up k ds vs r⟩
  | .tup ds, v, h => by
    obtain ⟨a, vs, e, p, r⟩ := (show ∃ a vs, v = .ref a ∧ PT K φ H a vs ∧ Reps K φ H ds vs from h)
    exact ⟨a, vs, e, p.up k, Reps.up k ds vs r⟩
  | .lst ds, v, h => by
    obtain ⟨a, vs, e, p, r⟩ := (show ∃ a vs, v = .ref a ∧ PL K φ H a vs ∧ Reps K φ H ds vs from h)
    exact ⟨a, vs, e, p.up k, Reps.up k ds vs r⟩
theorem Reps.up (k : Up φ φ' H H') : ∀ (ds : List D) (vs : List V), Reps K φ H ds vs → Reps K φ' H' ds vs
  | [], _, h => h
  | d :: ds, vs, h => by
    obtain ⟨v, r, e, h1, h2⟩ := (show ∃ v r, vs = v :: r ∧ Rep K φ H d v ∧ Reps K φ H ds r from h)
    exact ⟨v, r, e, Rep.up k d v h1, Reps.up k ds r h2⟩
end
theorem Rep.mono (h : Rep K φ H d v) (b : But φ H H') : Rep K φ H' d v := Rep.up (Up.of b) d v h
theorem Reps.mono (h : Reps K φ H ds vs) (b : But φ H H') : Reps K φ H' ds vs := Reps.up (Up.of b) ds vs h
theorem Reps.length : ∀ {ds : List D} {vs : List V}, Reps K φ H ds vs → vs.length = ds.length
  | [], vs, h => by
    have e : vs = [] := h
    rw [e]
    rfl
  | d :: ds, vs, h => by
    obtain ⟨v, r, rfl, h1, h2⟩ := (show ∃ v r, vs = v :: r ∧ Rep K φ H d v ∧ Reps K φ H ds r from h)
    rw [List.length_cons, List.length_cons, Reps.length h2]
theorem Reps.nil : Reps K φ H [] [] := rfl
theorem Reps.cons (h1 : Rep K φ H d v) (h2 : Reps K φ H ds vs) : Reps K φ H (d :: ds) (v :: vs) := ⟨v, vs, rfl, h1, h2⟩
theorem Reps.get : ∀ {ds : List D} {vs : List V} {i : Nat} {d : D}, Reps K φ H ds vs → ds[i]? = some d → ∃ v, vs[i]? = some v ∧ Rep K φ H d v
  | [], vs, i, d, _, e => by simp at e
  | x :: ds, vs, i, d, h, e => by
    obtain ⟨v, r, rfl, h1, h2⟩ := (show ∃ v r, vs = v :: r ∧ Rep K φ H x v ∧ Reps K φ H ds r from h)
    cases i with
    | zero =>
      have e' : x = d := by simpa using e
      exact ⟨v, rfl, e' ▸ h1⟩
    | succ i =>
      obtain ⟨w, e1, r1⟩ := Reps.get (i := i) h2 (by simpa using e)
      exact ⟨w, by simpa using e1, r1⟩
theorem Reps.getV {i : Nat} (h : Reps K φ H ds vs) (e : vs[i]? = some v) : ∃ d, ds[i]? = some d ∧ Rep K φ H d v := by
  have hl := h.length
  obtain ⟨hi, _⟩ := List.getElem?_eq_some_iff.mp e
  obtain ⟨w, e1, r1⟩ := h.get (List.getElem?_eq_getElem (show i < ds.length by omega))
  rw [e] at e1
  cases e1
  exact ⟨_, List.getElem?_eq_getElem (show i < ds.length by omega), r1⟩
theorem Reps.append : ∀ {ds : List D} {vs : List V}, Reps K φ H ds vs → Reps K φ H es ws → Reps K φ H (ds ++ es) (vs ++ ws)
  | [], vs, h, k => by
    have e : vs = [] := h
    rw [e]
    exact k
  | d :: ds, vs, h, k => by
    obtain ⟨v, r, rfl, h1, h2⟩ := (show ∃ v r, vs = v :: r ∧ Rep K φ H d v ∧ Reps K φ H ds r from h)
    exact ⟨v, r ++ ws, rfl, h1, Reps.append h2 k⟩
theorem Reps.drop : ∀ (n : Nat) {ds : List D} {vs : List V}, Reps K φ H ds vs → Reps K φ H (ds.drop n) (vs.drop n)
  | 0, _, _, h => h
  | n + 1, [], vs, h => by
    have e : vs = [] := h
    rw [e]
    exact rfl
  | n + 1, d :: ds, vs, h => by
    obtain ⟨v, r, rfl, h1, h2⟩ := (show ∃ v r, vs = v :: r ∧ Rep K φ H d v ∧ Reps K φ H ds r from h)
    exact Reps.drop n h2
theorem Reps.take : ∀ (n : Nat) {ds : List D} {vs : List V}, Reps K φ H ds vs → Reps K φ H (ds.take n) (vs.take n)
  | 0, _, _, h => rfl
  | n + 1, [], vs, h => by
    have e : vs = [] := h
    rw [e]
    exact rfl
  | n + 1, d :: ds, vs, h => by
    obtain ⟨v, r, rfl, h1, h2⟩ := (show ∃ v r, vs = v :: r ∧ Rep K φ H d v ∧ Reps K φ H ds r from h)
    exact ⟨v, _, rfl, h1, Reps.take n h2⟩
theorem Reps.set : ∀ {ds : List D} {vs : List V} (i : Nat), Reps K φ H ds vs → Rep K φ H d v → Reps K φ H (ds.set i d) (vs.set i v)
  | [], vs, i, h, _ => by
    have e : vs = [] := h
    rw [e]
    exact rfl
  | x :: ds, vs, i, h, k => by
    obtain ⟨w, r, rfl, h1, h2⟩ := (show ∃ v r, vs = v :: r ∧ Rep K φ H x v ∧ Reps K φ H ds r from h)
    cases i with
    | zero => exact ⟨v, r, rfl, k, h2⟩
    | succ i => exact ⟨w, r.set i v, rfl, h1, Reps.set i h2 k⟩
theorem Reps.ints : ∀ {ns : List Int} {vs : List V}, Reps K φ H (ns.map D.int) vs → vs = ns.map V.int
  | [], vs, h => h
  | n :: ns, vs, h => by
    obtain ⟨v, r, rfl, h1, h2⟩ := (show ∃ v r, vs = v :: r ∧ Rep K φ H (.int n) v ∧ Reps K φ H (ns.map D.int) r from h)
    have e : v = .int n := h1
    rw [e, Reps.ints h2]
    rfl
theorem Reps.of_ints : ∀ {ns : List Int}, Reps K φ H (ns.map D.int) (ns.map V.int)
  | [] => rfl
  | n :: ns => ⟨.int n, ns.map V.int, rfl, rfl, Reps.of_ints⟩
theorem Reps.strs : ∀ {ns : List Str} {vs : List V}, Reps K φ H (ns.map D.str) vs → vs = ns.map V.str
  | [], vs, h => h
  | n :: ns, vs, h => by
    obtain ⟨v, r, rfl, h1, h2⟩ := (show ∃ v r, vs = v :: r ∧ Rep K φ H (.str n) v ∧ Reps K φ H (ns.map D.str) r from h)
    have e : v = .str n := h1
    rw [e, Reps.strs h2]
    rfl
end

/-! ### the slots -/
def SR (K : PySem.W.Frag) (φ : Addr → Prop) (H : Hp) (ρ : List (Option D)) (σ : L2.St) : Prop :=
  σ.length = ρ.length ∧ ∀ (i : Nat) (d : D), ρ[i]? = some (some d) → ∃ v, σ[i]? = some (some v) ∧ Rep K φ H d v
section
variable {K : PySem.W.Frag} {φ φ' : Addr → Prop} {H H' : Hp} {ρ ρ' : List (Option D)} {σ : L2.St} {d : D} {v : V}
theorem SR.up (k : Up φ φ' H H') (h : SR K φ H ρ σ) : SR K φ' H' ρ σ := ⟨h.1, fun i d e => by
  obtain ⟨v, e1, r⟩ := h.2 i d e
  exact ⟨v, e1, Rep.up k d v r⟩⟩
theorem SR.set (i : Nat) (h : SR K φ H ρ σ) (r : Rep K φ H d v) : SR K φ H (ρ.set i (some d)) (σ.set i (some v)) := by
  refine ⟨by rw [List.length_set, List.length_set]; exact h.1, fun j e hj => ?_⟩
  by_cases hij : i = j
  · subst hij
    have hl : i < ρ.length := by
      obtain ⟨z, _⟩ := List.getElem?_eq_some_iff.mp hj
      simpa using z
    rw [List.getElem?_set_self hl] at hj
    cases hj
    exact ⟨v, List.getElem?_set_self (by rw [h.1]; exact hl), r⟩
  · rw [List.getElem?_set_ne hij] at hj
    obtain ⟨w, e1, r1⟩ := h.2 j e hj
    exact ⟨w, by rw [List.getElem?_set_ne hij]; exact e1, r1⟩
/-- ρ' knows no more than ρ -/
inductive Le : List (Option D) → List (Option D) → Prop where
  | nil : Le [] []
  | keep {x : Option D} {a b : List (Option D)} : Le a b → Le (x :: a) (x :: b)
  | drop {x : Option D} {a b : List (Option D)} : Le a b → Le (none :: a) (x :: b)
theorem Le.length : ∀ {a b : List (Option D)}, Le a b → a.length = b.length
  | _, _, .nil => rfl
  | _, _, .keep h => by rw [List.length_cons, List.length_cons, h.length]
  | _, _, .drop h => by rw [List.length_cons, List.length_cons, h.length]
theorem Le.get : ∀ {a b : List (Option D)} {i : Nat} {d : D}, Le a b → a[i]? = some (some d) → b[i]? = some (some d)
  | _, _, _, _, .nil, e => e
  | _, _, 0, _, .keep h, e => e
  | _, _, i + 1, _, .keep h, e => by
    have z := Le.get (i := i) h (by simpa using e)
    simpa using z
  | _, _, 0, _, .drop h, e => by simp at e
  | _, _, i + 1, _, .drop h, e => by
    have z := Le.get (i := i) h (by simpa using e)
    simpa using z
theorem Le.refl : ∀ (a : List (Option D)), Le a a
  | [] => .nil
  | _ :: a => .keep (Le.refl a)
theorem SR.le (h : SR K φ H ρ σ) (l : Le ρ' ρ) : SR K φ H ρ' σ := ⟨by rw [h.1, l.length], fun i d e => h.2 i d (l.get e)⟩
theorem SR.start : ∀ {ds : List D} {vs : List V} {n : Nat}, Reps K φ H ds vs → SR K φ H (ds.map some ++ List.replicate n none) (vs.map some ++ List.replicate n none)
  | [], vs, n, h => by
    have e : vs = [] := h
    rw [e]
    refine ⟨by simp, fun i d hd => ?_⟩
    simp [List.getElem?_replicate] at hd
  | d :: ds, vs, n, h => by
    obtain ⟨v, r, rfl, h1, h2⟩ := (show ∃ v r, vs = v :: r ∧ Rep K φ H d v ∧ Reps K φ H ds r from h)
    obtain ⟨l, g⟩ := SR.start (n := n) h2
    refine ⟨by simp only [List.map_cons, List.cons_append, List.length_cons, l], fun i d' hd => ?_⟩
    cases i with
    | zero =>
      simp at hd
      exact ⟨v, rfl, hd ▸ h1⟩
    | succ i =>
      obtain ⟨w, e, q⟩ := g i d' (by simpa using hd)
      exact ⟨w, by simpa using e, q⟩
end

/-! ### a state: the slots by trees, the live facts J -/
/-- J leans on what H tracks alone -/
def Mo (H : Hp) (J : Hp → Prop) : Prop := ∀ H1 H2 : Hp, (∀ a o, H a ≠ none → H1 a = some o → H2 a = some o) → J H1 → J H2
theorem Mo.up {H H' : Hp} {J : Hp → Prop} (m : Mo H J) (s : ∀ a, H a ≠ none → H' a ≠ none) : Mo H' J := fun H1 H2 k j => m H1 H2 (fun a o h e => k a o (s a h) e) j
theorem Mo.same {H H' : Hp} {J : Hp → Prop} (m : Mo H J) (s : Same H H') : Mo H' J := m.up (same_tr s)
theorem Mo.upd {H : Hp} {J : Hp → Prop} {l : Addr} {o : HO} (m : Mo H J) : Mo (L2.upd H l o) J := m.up upd_tr
theorem Mo.and {H : Hp} {J J' : Hp → Prop} (m : Mo H J) (m' : Mo H J') : Mo H (fun H => J H ∧ J' H) := fun H1 H2 k j => ⟨m H1 H2 k j.1, m' H1 H2 k j.2⟩
theorem Mo.at {H : Hp} {l : Addr} {o : HO} (h : H l ≠ none) : Mo H (fun H => H l = some o) := fun H1 H2 k j => k l o h j
theorem Mo.sames {H H0 : Hp} (h : ∀ a, H0 a ≠ none → H a ≠ none) : Mo H (Same H0) := fun H1 H2 k j b o e => k b o (h b (by rw [e]; exact fun z => by cases z)) (j b o e)
theorem Mo.but {φ : Addr → Prop} {H H0 : Hp} (h : ∀ a, H0 a ≠ none → H a ≠ none) : Mo H (But φ H0) := fun H1 H2 k j => ⟨fun b o p e => k b o (h b (by rw [e]; exact fun z => by cases z)) (j.keep b o p e), fun b hb => by
  cases e : H1 b with
  | none => exact absurd e (j.tr b hb)
  | some o => rw [k b o (h b hb) e]; exact fun z => by cases z⟩
theorem Mo.tt {H : Hp} {p : Prop} : Mo H (fun _ => p) := fun H1 H2 k j => j
/-- what is free, and every tuple, is in φ -/
structure Frm (φ : Addr → Prop) (H : Hp) : Prop where
  new : ∀ a, H a = none → φ a
  tup : ∀ a xs, H a = some (.tup xs) → φ a
instance {φ : Addr → Prop} {H : Hp} : CoeFun (Frm φ H) (fun _ => ∀ a, H a = none → φ a) := ⟨Frm.new⟩
theorem Frm.same {φ : Addr → Prop} {H H' : Hp} (F : Frm φ H) (s : Same H H') : Frm φ H' := ⟨fun a h => F.new a (s.free h), fun a xs h => by
  cases e : H a with
  | none => exact F.new a e
  | some o =>
    have z := s a o e
    rw [h] at z
    cases z
    exact F.tup a xs e⟩
theorem Frm.fst {φ : Addr → Prop} {l : Addr} {H : Hp} (F : Frm (fun a => φ a ∧ a ≠ l) H) : Frm φ H := ⟨fun a h => (F.new a h).1, fun a xs h => (F.tup a xs h).1⟩
theorem Frm.upd {φ : Addr → Prop} {H : Hp} {l : Addr} {o : HO} (F : Frm φ H) (ho : ∀ xs, o ≠ .tup xs) : Frm φ (L2.upd H l o) := ⟨fun a h => by
  by_cases e : a = l
  · rw [e, upd_same] at h; cases h
  · rw [upd_ne e] at h; exact F.new a h, fun a xs h => by
  by_cases e : a = l
  · rw [e, upd_same] at h; exact absurd (Option.some.inj h) (ho xs)
  · rw [upd_ne e] at h; exact F.tup a xs h⟩
theorem Frm.updW {φ : Addr → Prop} {H : Hp} {l : Addr} {o : HO} (F : Frm φ H) (ho : ∀ xs, o ≠ .tup xs) : Frm (fun a => φ a ∧ a ≠ l) (L2.upd H l o) := ⟨fun a h => ⟨(F.upd ho).new a h, fun e => by rw [e, upd_same] at h; cases h⟩, fun a xs h => ⟨(F.upd ho).tup a xs h, fun e => by
  rw [e, upd_same] at h
  exact ho xs (Option.some.inj h)⟩⟩
theorem Frm.at {φ : Addr → Prop} {H : Hp} {l : Addr} {o : HO} (F : Frm φ H) (h : H l = some o) (ho : ∀ xs, o ≠ .tup xs) : Frm (fun a => φ a ∧ a ≠ l) H := ⟨fun a ha => ⟨F.new a ha, fun e => by rw [e, h] at ha; cases ha⟩, fun a xs ha => ⟨F.tup a xs ha, fun e => by
  rw [e, h] at ha
  exact ho xs (Option.some.inj ha)⟩⟩
structure At (K : PySem.W.Frag) (φ : Addr → Prop) (J : Hp → Prop) (ρ : List (Option D)) (σ : L2.St) (H : Hp) : Prop where
  sr : SR K φ H ρ σ
  fr : Frm φ H
  j : J H
  mono : Mo H J
section
variable {K : PySem.W.Frag} {φ φ' : Addr → Prop} {J J' : Hp → Prop} {H H' : Hp} {ρ ρ' : List (Option D)} {σ : L2.St} {d : D} {v : V}
theorem At.same (A : At K φ J ρ σ H) (s : Same H H') : At K φ J ρ σ H' :=
  ⟨A.sr.up (Up.of (But.of s)), A.fr.same s, A.mono _ _ (fun a o _ e => s a o e) A.j, A.mono.same s⟩
theorem At.le (A : At K φ J ρ σ H) (l : Le ρ' ρ) : At K φ J ρ' σ H := ⟨A.sr.le l, A.fr, A.j, A.mono⟩
theorem At.set (A : At K φ J ρ σ H) (i : Nat) (r : Rep K φ H d v) : At K φ J (ρ.set i (some d)) (σ.set i (some v)) H := ⟨A.sr.set i r, A.fr, A.j, A.mono⟩
theorem At.live (A : At K φ J ρ σ H) (j : J' H) (m : Mo H J') : At K φ J' ρ σ H := ⟨A.sr, A.fr, j, m⟩
/-- a new live object at p -/
theorem At.newLive {p : Addr} {o : HO} (A : At K φ J ρ σ H) (hp : H p = none) (j : J' (L2.upd H p o)) (m : Mo (L2.upd H p o) J') (ho : ∀ xs, o ≠ .tup xs := by intro xs h; cases h) : At K (fun a => φ a ∧ a ≠ p) J' ρ σ (L2.upd H p o) :=
  ⟨A.sr.up fun a u q e => ⟨⟨q, ne_of_none e hp⟩, by rw [upd_ne (ne_of_none e hp)]; exact e⟩, A.fr.updW ho, j, m⟩
/-- a live object is written -/
theorem At.upd {l : Addr} {o : HO} (A : At K φ J ρ σ H) (hl : ¬ φ l) (j : J' (L2.upd H l o)) (m : Mo (L2.upd H l o) J') (ho : ∀ xs, o ≠ .tup xs := by intro xs h; cases h) : At K φ J' ρ σ (L2.upd H l o) :=
  ⟨A.sr.up (Up.of ((But.refl φ H).upd hl)), A.fr.upd ho, j, m⟩
/-- slots and heap may be another's, if they say the same -/
theorem Same.upd_live {H H' : Hp} {l : Addr} {o : HO} (s : Same H H') (hl : H l = none) : Same H (L2.upd H' l o) := fun b u e => by
  rw [upd_ne (ne_of_none e hl)]
  exact s b u e
end

/-! ### what a reading evaluates to -/
section
variable (K : PySem.W.Frag) (φ : Addr → Prop) (J : Hp → Prop)
def EvP (te : TE) (ρ : List (Option D)) (P : D → Prop) : Prop := ∀ σ H, At K φ J ρ σ H → ∀ Q : VK, (∀ v d H', But φ H H' → At K φ J ρ σ H' → P d → Rep K φ H' d v → Q v H') → te σ H Q
abbrev EvD (te : TE) (ρ : List (Option D)) (d : D) : Prop := EvP K φ J te ρ (fun x => x = d)
abbrev EvI (te : TE) (ρ : List (Option D)) (p : Int → Prop) : Prop := EvP K φ J te ρ (fun x => ∃ i, x = .int i ∧ p i)
abbrev EvB (te : TE) (ρ : List (Option D)) (p : Bool → Prop) : Prop := EvP K φ J te ρ (fun x => ∃ b, x = .bl b ∧ p b)
def EvA (ta : TA) (ρ : List (Option D)) (P : List D → Prop) : Prop := ∀ σ H, At K φ J ρ σ H → ∀ Q : List V → Hp → Prop, (∀ vs ds H', But φ H H' → At K φ J ρ σ H' → P ds → Reps K φ H' ds vs → Q vs H') → ta σ H Q
def EvT (tt : TT) (ρ : List (Option D)) (p : Bool → Prop) : Prop := ∀ σ H, At K φ J ρ σ H → ∀ Q : Bool → Hp → Prop, (∀ b H', But φ H H' → At K φ J ρ σ H' → p b → Q b H') → tt σ H Q
def EvO (to : TO) (ρ : List (Option D)) (o : Option Int) : Prop := ∀ σ H, At K φ J ρ σ H → ∀ Q : Option Int → Hp → Prop, (∀ H', But φ H H' → At K φ J ρ σ H' → Q o H') → to σ H Q
/-- a two-place operation by trees -/
def Op2 (r : R2) (x y : D) (P : D → Prop) : Prop := ∀ (H : Hp) v w, Frm φ H → Rep K φ H x v → Rep K φ H y w → ∀ Q : VK, (∀ u z H', Same H H' → P z → Rep K φ H' z u → Q u H') → r v w H Q
/-- a call by trees -/
def Cl (r : List V → Hp → VK → Prop) (ds : List D) (P : D → Prop) : Prop := ∀ (H : Hp) vs, Frm φ H → Reps K φ H ds vs → ∀ Q : VK, (∀ u z H', Same H H' → P z → Rep K φ H' z u → Q u H') → r vs H Q
end
section
variable {K : PySem.W.Frag} {φ : Addr → Prop} {J : Hp → Prop} {ρ : List (Option D)} {ta tb te tc : TE} {x y z d : D} {P Pa Pb : D → Prop} {i j : Int} {p q : Int → Prop}
theorem EvP.imp {P' : D → Prop} (h : EvP K φ J te ρ P) (k : ∀ d, P d → P' d) : EvP K φ J te ρ P' := fun σ H A Q q => h σ H A Q fun v d H' b A' pd r => q v d H' b A' (k d pd) r
theorem EvP.is {d' : D} (h : EvD K φ J te ρ d) (e : d = d') : EvD K φ J te ρ d' := e ▸ h
theorem ev_var {i : Nat} (h : ρ[i]? = some (some d)) : EvD K φ J (tVar i) ρ d := fun σ H A Q q => by
  obtain ⟨v, e, r⟩ := A.sr.2 i d h
  exact ⟨v, e, q v d H (But.refl _ _) A rfl r⟩
theorem ev_int : EvD K φ J (tC (.int i)) ρ (.int i) := fun σ H A Q q => q _ _ H (But.refl _ _) A rfl rfl
theorem ev_bl {b : Bool} : EvD K φ J (tC (.bl b)) ρ (.bl b) := fun σ H A Q q => q _ _ H (But.refl _ _) A rfl rfl
theorem ev_str {s : Str} : EvD K φ J (tC (.str s)) ρ (.str s) := fun σ H A Q q => q _ _ H (But.refl _ _) A rfl rfl
theorem ev_non : EvD K φ J (tC .non) ρ .non := fun σ H A Q q => q _ _ H (But.refl _ _) A rfl rfl
theorem ev_ty {n : String} : EvD K φ J (tC (.ty n)) ρ (.raw (.ty n)) := fun σ H A Q q => q _ _ H (But.refl _ _) A rfl rfl
theorem ev_ref {a : Addr} : EvD K φ J (tC (.ref a)) ρ (.raw (.ref a)) := fun σ H A Q q => q _ _ H (But.refl _ _) A rfl rfl
theorem ev_op {r : R2} (ha : EvP K φ J ta ρ Pa) (hb : EvP K φ J tb ρ Pb) (hr : ∀ x y, Pa x → Pb y → Op2 K φ r x y P) : EvP K φ J (tOp r ta tb) ρ P := fun σ H A Q q =>
  ha σ H A _ fun v x H1 b1 A1 px r1 => hb σ H1 A1 _ fun w y H2 b2 A2 py r2 => hr x y px py H2 v w A2.fr (r1.mono b2) r2 Q fun u z H3 s pz r3 => q u z H3 ((b1.trans b2).trans (But.of s)) (A2.same s) pz r3
theorem ev_opD {r : R2} (ha : EvD K φ J ta ρ x) (hb : EvD K φ J tb ρ y) (hr : Op2 K φ r x y P) : EvP K φ J (tOp r ta tb) ρ P := ev_op ha hb fun _ _ e1 e2 => by
  subst e1 e2
  exact hr
/-! the operators on ints -/
theorem o2_I0 {g : Int → Int → V} {z : D} (hz : ∀ H, Rep K φ H z (g i j)) : Op2 K φ (rI0 g) (.int i) (.int j) (fun x => x = z) := fun H v w _ r1 r2 Q q => ⟨i, j, r1, r2, q _ _ H (Same.refl H) rfl (hz H)⟩
theorem o2_I {C : Int → Int → Prop} {g : Int → Int → V} {z : D} (hc : C i j) (hz : ∀ H, Rep K φ H z (g i j)) : Op2 K φ (rI C g) (.int i) (.int j) (fun x => x = z) := fun H v w _ r1 r2 Q q => ⟨i, j, r1, r2, hc, q _ _ H (Same.refl H) rfl (hz H)⟩
theorem ev_add (ha : EvD K φ J ta ρ (.int i)) (hb : EvD K φ J tb ρ (.int j)) : EvD K φ J (tOp (rI0 fun i j => .int (i + j)) ta tb) ρ (.int (i + j)) := ev_opD ha hb (o2_I0 fun _ => rfl)
theorem ev_sub (ha : EvD K φ J ta ρ (.int i)) (hb : EvD K φ J tb ρ (.int j)) : EvD K φ J (tOp (rI0 fun i j => .int (i - j)) ta tb) ρ (.int (i - j)) := ev_opD ha hb (o2_I0 fun _ => rfl)
theorem ev_lt (ha : EvD K φ J ta ρ (.int i)) (hb : EvD K φ J tb ρ (.int j)) : EvD K φ J (tOp (rI0 fun i j => .bl (decide (i < j))) ta tb) ρ (.bl (decide (i < j))) := ev_opD ha hb (o2_I0 fun _ => rfl)
theorem ev_le (ha : EvD K φ J ta ρ (.int i)) (hb : EvD K φ J tb ρ (.int j)) : EvD K φ J (tOp (rI0 fun i j => .bl (decide (i ≤ j))) ta tb) ρ (.bl (decide (i ≤ j))) := ev_opD ha hb (o2_I0 fun _ => rfl)
theorem ev_gt (ha : EvD K φ J ta ρ (.int i)) (hb : EvD K φ J tb ρ (.int j)) : EvD K φ J (tOp (rI0 fun i j => .bl (decide (j < i))) ta tb) ρ (.bl (decide (j < i))) := ev_opD ha hb (o2_I0 fun _ => rfl)
theorem ev_ge (ha : EvD K φ J ta ρ (.int i)) (hb : EvD K φ J tb ρ (.int j)) : EvD K φ J (tOp (rI0 fun i j => .bl (decide (j ≤ i))) ta tb) ρ (.bl (decide (j ≤ i))) := ev_opD ha hb (o2_I0 fun _ => rfl)
theorem ev_mul (ha : EvD K φ J ta ρ (.int i)) (hb : EvD K φ J tb ρ (.int j)) (hc : CMul i j) : EvD K φ J (tOp (rI CMul fun i j => .int (i * j)) ta tb) ρ (.int (i * j)) := ev_opD ha hb (o2_I hc fun _ => rfl)
theorem ev_mulW (ha : EvD K φ J ta ρ (.int i)) (hb : EvD K φ J tb ρ (.int j)) (hc : CMulW i j) : EvD K φ J (tOp (rI CMulW fun i j => .int (i * j)) ta tb) ρ (.int (i * j)) := ev_opD ha hb (o2_I hc fun _ => rfl)
theorem ev_fdiv (ha : EvD K φ J ta ρ (.int i)) (hb : EvD K φ J tb ρ (.int j)) (hc : CDiv i j) : EvD K φ J (tOp (rI CDiv fun i j => .int (i / j)) ta tb) ρ (.int (i / j)) := ev_opD ha hb (o2_I hc fun _ => rfl)
theorem ev_fdivW (ha : EvD K φ J ta ρ (.int i)) (hb : EvD K φ J tb ρ (.int j)) (hc : CDivW i j) : EvD K φ J (tOp (rI CDivW fun i j => .int (i / j)) ta tb) ρ (.int (i / j)) := ev_opD ha hb (o2_I hc fun _ => rfl)
theorem ev_mod (ha : EvD K φ J ta ρ (.int i)) (hb : EvD K φ J tb ρ (.int j)) (hc : 0 < j) : EvD K φ J (tOp (rI (fun _ j => 0 < j) fun i j => .int (i % j)) ta tb) ρ (.int (i % j)) := ev_opD ha hb (o2_I hc fun _ => rfl)
theorem ev_neg (ha : EvD K φ J ta ρ (.int i)) : EvD K φ J (tUn (rU fun i => .int (-i)) ta) ρ (.int (-i)) := fun σ H A Q q =>
  ha σ H A _ fun v x H1 b1 A1 px r1 => by
    subst px
    exact ⟨i, r1, q _ _ H1 b1 A1 rfl rfl⟩
/-- scalars compared -/
def scD : D → D → Bool
  | .non, .non => true
  | .bl _, .bl _ => true
  | .int _, .int _ => true
  | .str _, .str _ => true
  | _, _ => false
def eqS : D → D → Bool
  | .non, .non => true
  | .bl a, .bl b => a == b
  | .int a, .int b => decide (a = b)
  | .str a, .str b => decide (a = b)
  | _, _ => false
end
end DL
namespace DL
open PySem PySem.Spec PyProof.Rows L2

section
variable {K : PySem.W.Frag} {φ φ' : Addr → Prop} {J J' : Hp → Prop} {H H' : Hp} {ρ ρ' : List (Option D)} {σ : L2.St} {ta tb te tc : TE} {x y z d : D} {P Pa Pb Pc : D → Prop} {i j : Int} {p q : Int → Prop} {b c : Bool} {s t : Str} {ds es : List D} {v : V} {vs : List V}

/-! ### one-place forms -/
theorem ev_un {r : V → Hp → VK → Prop} (ha : EvP K φ J ta ρ Pa) (hr : ∀ x, Pa x → ∀ (H : Hp) v, Frm φ H → Rep K φ H x v → ∀ Q : VK, (∀ u z H', Same H H' → P z → Rep K φ H' z u → Q u H') → r v H Q) : EvP K φ J (tUn r ta) ρ P := fun σ H A Q q =>
  ha σ H A _ fun v x H1 b1 A1 px r1 => hr x px H1 v A1.fr r1 Q fun u z H2 s pz r2 => q u z H2 (b1.trans (But.of s)) (A1.same s) pz r2

/-! ### == of scalars -/
theorem o2_eqI : Op2 K φ rEq (.int i) (.int j) (fun x => x = .bl (decide (i = j))) := fun H v w _ r1 r2 Q q => by
  cases (show v = .int i from r1)
  cases (show w = .int j from r2)
  exact ⟨rfl, q _ _ H (Same.refl H) rfl (by rw [dec_int, Bool.beq_eq_decide_eq]; rfl)⟩
theorem o2_neI : Op2 K φ rNe (.int i) (.int j) (fun x => x = .bl (!decide (i = j))) := fun H v w _ r1 r2 Q q => by
  cases (show v = .int i from r1)
  cases (show w = .int j from r2)
  exact ⟨rfl, q _ _ H (Same.refl H) rfl (by rw [dec_int, Bool.beq_eq_decide_eq]; rfl)⟩
theorem o2_eqB : Op2 K φ rEq (.bl b) (.bl c) (fun x => x = .bl (b == c)) := fun H v w _ r1 r2 Q q => by
  cases (show v = .bl b from r1)
  cases (show w = .bl c from r2)
  exact ⟨rfl, q _ _ H (Same.refl H) rfl (by rw [dec_bl]; rfl)⟩
theorem o2_neB : Op2 K φ rNe (.bl b) (.bl c) (fun x => x = .bl (!(b == c))) := fun H v w _ r1 r2 Q q => by
  cases (show v = .bl b from r1)
  cases (show w = .bl c from r2)
  exact ⟨rfl, q _ _ H (Same.refl H) rfl (by rw [dec_bl]; rfl)⟩
theorem dec_strD : decide (V.str s = V.str t) = decide (s = t) := by
  by_cases h : s = t
  · subst h
    simp
  · rw [decide_eq_false h, decide_eq_false fun z => h (V.str.inj z)]
theorem o2_eqS : Op2 K φ rEq (.str s) (.str t) (fun x => x = .bl (decide (s = t))) := fun H v w _ r1 r2 Q q => by
  cases (show v = .str s from r1)
  cases (show w = .str t from r2)
  exact ⟨rfl, q _ _ H (Same.refl H) rfl (by rw [dec_strD]; rfl)⟩
theorem o2_neS : Op2 K φ rNe (.str s) (.str t) (fun x => x = .bl (!decide (s = t))) := fun H v w _ r1 r2 Q q => by
  cases (show v = .str s from r1)
  cases (show w = .str t from r2)
  exact ⟨rfl, q _ _ H (Same.refl H) rfl (by rw [dec_strD]; rfl)⟩
theorem ev_eqI (ha : EvD K φ J ta ρ (.int i)) (hb : EvD K φ J tb ρ (.int j)) : EvD K φ J (tOp rEq ta tb) ρ (.bl (decide (i = j))) := ev_opD ha hb o2_eqI
theorem ev_neI (ha : EvD K φ J ta ρ (.int i)) (hb : EvD K φ J tb ρ (.int j)) : EvD K φ J (tOp rNe ta tb) ρ (.bl (!decide (i = j))) := ev_opD ha hb o2_neI
theorem ev_eqB (ha : EvD K φ J ta ρ (.bl b)) (hb : EvD K φ J tb ρ (.bl c)) : EvD K φ J (tOp rEq ta tb) ρ (.bl (b == c)) := ev_opD ha hb o2_eqB
theorem ev_neB (ha : EvD K φ J ta ρ (.bl b)) (hb : EvD K φ J tb ρ (.bl c)) : EvD K φ J (tOp rNe ta tb) ρ (.bl (!(b == c))) := ev_opD ha hb o2_neB
theorem ev_eqS (ha : EvD K φ J ta ρ (.str s)) (hb : EvD K φ J tb ρ (.str t)) : EvD K φ J (tOp rEq ta tb) ρ (.bl (decide (s = t))) := ev_opD ha hb o2_eqS
theorem ev_neS (ha : EvD K φ J ta ρ (.str s)) (hb : EvD K φ J tb ρ (.str t)) : EvD K φ J (tOp rNe ta tb) ρ (.bl (!decide (s = t))) := ev_opD ha hb o2_neS

/-! ### is None -/
def isNon : D → Bool
  | .non => true
  | .raw w => decide (w = .non)
  | _ => false
def rIsN : R2 := fun x y H Q => y = .non ∧ Q (.bl (decide (x = .non))) H
def rNotN : R2 := fun x y H Q => y = .non ∧ Q (.bl (!decide (x = .non))) H
theorem op_isN1 {X : Cx} : OpR X (compareOp .Is) rIsN := op_isN
theorem op_notN1 {X : Cx} : OpR X (compareOp .IsNot) rNotN := op_notN
theorem isNon_rep : ∀ {d : D}, Rep K φ H d v → decide (v = .non) = isNon d
  | .non, h => by cases (show v = .non from h); rfl
  | .bl _, h => by cases (show v = _ from h); rfl
  | .int _, h => by cases (show v = _ from h); rfl
  | .str _, h => by cases (show v = _ from h); rfl
  | .raw w, h => by cases (show v = _ from h); rfl
  | .tup ds, h => by
    obtain ⟨a, vs, e, _⟩ := (show ∃ a vs, v = .ref a ∧ PT K φ H a vs ∧ Reps K φ H ds vs from h)
    subst e
    rfl
  | .lst ds, h => by
    obtain ⟨a, vs, e, _⟩ := (show ∃ a vs, v = .ref a ∧ PL K φ H a vs ∧ Reps K φ H ds vs from h)
    subst e
    rfl
  | .dk ks ds, h => by
    obtain ⟨a, vs, e, _⟩ := (show ∃ a vs, v = .ref a ∧ (φ a ∧ H a = some (.dK (ks.zip vs)) ∧ ks.length = ds.length) ∧ Reps K φ H ds vs from h)
    subst e
    rfl
  | .dt ks ds, h => by
    obtain ⟨a, vs, e, _⟩ := (show ∃ a vs, v = .ref a ∧ (φ a ∧ H a = some (.dT (ks.zip vs)) ∧ ks.length = ds.length) ∧ Reps K φ H ds vs from h)
    subst e
    rfl
theorem ev_isN (ha : EvD K φ J ta ρ x) : EvD K φ J (tOp rIsN ta (tC .non)) ρ (.bl (isNon x)) := ev_opD ha ev_non fun H v w _ r1 r2 Q q => ⟨r2, q _ _ H (Same.refl H) rfl (by rw [isNon_rep r1]; rfl)⟩
theorem ev_notN (ha : EvD K φ J ta ρ x) : EvD K φ J (tOp rNotN ta (tC .non)) ρ (.bl (!isNon x)) := ev_opD ha ev_non fun H v w _ r1 r2 Q q => ⟨r2, q _ _ H (Same.refl H) rfl (by rw [isNon_rep r1]; rfl)⟩

/-! ### chains, and, or, not, if-else -/
theorem ev_chain {r r' : R2} {k : Bool} (ha : EvD K φ J ta ρ x) (hb : EvD K φ J tb ρ y) (hr : Op2 K φ r x y (fun u => u = .bl k)) (hc : k = true → EvD K φ J tc ρ z) (hr' : k = true → Op2 K φ r' y z (fun u => u = .bl b)) :
    EvD K φ J (tChain r r' ta tb tc) ρ (.bl (k && b)) := fun σ H A Q q =>
  ha σ H A _ fun v x1 H1 b1 A1 e1 r1 => hb σ H1 A1 _ fun w y1 H2 b2 A2 e2 r2 => by
    subst e1 e2
    refine hr H2 v w A2.fr (r1.mono b2) r2 _ fun u z1 H3 s3 e3 r3 => ?_
    subst e3
    refine ⟨k, r3, ?_⟩
    cases k with
    | false =>
      rw [if_neg (by simp)]
      exact q _ _ H3 ((b1.trans b2).trans (But.of s3)) (A2.same s3) rfl rfl
    | true =>
      rw [if_pos rfl]
      refine hc rfl σ H3 (A2.same s3) _ fun w' z1 H4 b4 A4 e4 r4 => ?_
      subst e4
      exact hr' rfl H4 w w' A4.fr ((r2.mono (But.of s3)).mono b4) r4 Q fun u z1 H5 s5 e5 r5 => q u z1 H5 ((((b1.trans b2).trans (But.of s3)).trans b4).trans (But.of s5)) (A4.same s5) e5 r5
theorem ev_chainI {f g : Int → Int → Bool} {i j k : Int} (ha : EvD K φ J ta ρ (.int i)) (hb : EvD K φ J tb ρ (.int j)) (hc : EvD K φ J tc ρ (.int k)) :
    EvD K φ J (tChain (rI0 fun i j => .bl (f i j)) (rI0 fun i j => .bl (g i j)) ta tb tc) ρ (.bl (f i j && g j k)) := ev_chain ha hb (o2_I0 fun _ => rfl) (fun _ => hc) fun _ => o2_I0 fun _ => rfl
theorem ev_andV (ha : EvD K φ J ta ρ (.bl b)) (hb : b = true → EvD K φ J tb ρ (.bl c)) : EvD K φ J (tAndV ta tb) ρ (.bl (b && c)) := fun σ H A Q q =>
  ha σ H A _ fun v x1 H1 b1 A1 e1 r1 => by
    subst e1
    refine ⟨b, r1, ?_⟩
    cases b with
    | false =>
      rw [if_neg (by simp)]
      exact q _ _ H1 b1 A1 rfl rfl
    | true =>
      rw [if_pos rfl]
      exact hb rfl σ H1 A1 Q fun w y H2 b2 A2 e2 r2 => q w y H2 (b1.trans b2) A2 e2 r2
theorem ev_orV (ha : EvD K φ J ta ρ (.bl b)) (hb : b = false → EvD K φ J tb ρ (.bl c)) : EvD K φ J (tOrV ta tb) ρ (.bl (b || c)) := fun σ H A Q q =>
  ha σ H A _ fun v x1 H1 b1 A1 e1 r1 => by
    subst e1
    refine ⟨b, r1, ?_⟩
    cases b with
    | true =>
      rw [if_pos rfl]
      exact q _ _ H1 b1 A1 rfl rfl
    | false =>
      rw [if_neg (by simp)]
      exact hb rfl σ H1 A1 Q fun w y H2 b2 A2 e2 r2 => q w y H2 (b1.trans b2) A2 e2 r2
theorem ev_notV (ha : EvD K φ J ta ρ (.bl b)) : EvD K φ J (tNotV ta) ρ (.bl (!b)) := fun σ H A Q q =>
  ha σ H A _ fun v x1 H1 b1 A1 e1 r1 => by
    subst e1
    exact ⟨b, r1, q _ _ H1 b1 A1 rfl rfl⟩
theorem ev_one (ha : EvP K φ J ta ρ P) : EvP K φ J ta ρ P := ha
theorem ev_if {tt : TT} {p : Bool → Prop} (hc : EvT K φ J tt ρ p) (h1 : p true → EvP K φ J ta ρ P) (h2 : p false → EvP K φ J tb ρ P) : EvP K φ J (tIf tt ta tb) ρ P := fun σ H A Q q =>
  hc σ H A _ fun k H1 b1 A1 pk => by
    cases k with
    | true =>
      rw [if_pos rfl]
      exact h1 pk σ H1 A1 Q fun w y H2 b2 A2 e2 r2 => q w y H2 (b1.trans b2) A2 e2 r2
    | false =>
      rw [if_neg (by simp)]
      exact h2 pk σ H1 A1 Q fun w y H2 b2 A2 e2 r2 => q w y H2 (b1.trans b2) A2 e2 r2

/-! ### tests -/
abbrev EvX (K : PySem.W.Frag) (φ : Addr → Prop) (J : Hp → Prop) (tt : TT) (ρ : List (Option D)) (b : Bool) : Prop := EvT K φ J tt ρ fun x => x = b
theorem EvT.imp {tt : TT} {p p' : Bool → Prop} (h : EvT K φ J tt ρ p) (k : ∀ b, p b → p' b) : EvT K φ J tt ρ p' := fun σ H A Q q => h σ H A Q fun b H' bt A' pb => q b H' bt A' (k b pb)
theorem EvT.is {tt : TT} {b c : Bool} (h : EvX K φ J tt ρ b) (e : b = c) : EvX K φ J tt ρ c := e ▸ h
theorem et_testP {p : Bool → Prop} (h : EvB K φ J te ρ p) : EvT K φ J (tTest te) ρ p := fun σ H A Q q => h σ H A _ fun v d H' bt A' ⟨b, e, pb⟩ r => by
  subst e
  exact ⟨b, r, q b H' bt A' pb⟩
theorem et_BP {p : Bool → Prop} (h : EvB K φ J te ρ p) : EvT K φ J (tB te) ρ p := et_testP h
theorem ev_b (h : EvD K φ J te ρ (.bl b)) : EvB K φ J te ρ (fun x => x = b) := h.imp fun d e => ⟨b, e, rfl⟩
theorem ev_i (h : EvD K φ J te ρ (.int i)) : EvI K φ J te ρ (fun x => x = i) := h.imp fun d e => ⟨i, e, rfl⟩
theorem et_test (h : EvD K φ J te ρ (.bl b)) : EvX K φ J (tTest te) ρ b := et_testP (ev_b h)
theorem et_B (h : EvD K φ J te ρ (.bl b)) : EvX K φ J (tB te) ρ b := et_BP (ev_b h)
theorem et_and {t1 t2 : TT} (ha : EvX K φ J t1 ρ b) (hb : b = true → EvX K φ J t2 ρ c) : EvX K φ J (tAnd t1 t2) ρ (b && c) := fun σ H A Q q => ha σ H A _ fun k H1 b1 A1 e1 => by
  subst e1
  cases k with
  | false =>
    rw [if_neg (by simp)]
    exact q _ H1 b1 A1 rfl
  | true =>
    rw [if_pos rfl]
    exact hb rfl σ H1 A1 Q fun k2 H2 b2 A2 e2 => q k2 H2 (b1.trans b2) A2 e2
theorem et_or {t1 t2 : TT} (ha : EvX K φ J t1 ρ b) (hb : b = false → EvX K φ J t2 ρ c) : EvX K φ J (tOr t1 t2) ρ (b || c) := fun σ H A Q q => ha σ H A _ fun k H1 b1 A1 e1 => by
  subst e1
  cases k with
  | true =>
    rw [if_pos rfl]
    exact q _ H1 b1 A1 rfl
  | false =>
    rw [if_neg (by simp)]
    exact hb rfl σ H1 A1 Q fun k2 H2 b2 A2 e2 => q k2 H2 (b1.trans b2) A2 e2
theorem et_not {t1 : TT} (ha : EvX K φ J t1 ρ b) : EvX K φ J (tNot t1) ρ (!b) := fun σ H A Q q => ha σ H A _ fun k H1 b1 A1 e1 => by
  subst e1
  exact q _ H1 b1 A1 rfl
theorem et_notP {t1 : TT} {p : Bool → Prop} (ha : EvT K φ J t1 ρ p) : EvT K φ J (tNot t1) ρ (fun x => p (!x)) := fun σ H A Q q => ha σ H A _ fun k H1 b1 A1 e1 => q _ H1 b1 A1 (by show p (!(!k)); rw [Bool.not_not]; exact e1)

/-! ### arguments, displays -/
abbrev EvAD (K : PySem.W.Frag) (φ : Addr → Prop) (J : Hp → Prop) (ta : TA) (ρ : List (Option D)) (ds : List D) : Prop := EvA K φ J ta ρ fun x => x = ds
theorem ea_nil : EvAD K φ J tNil ρ [] := fun σ H A Q q => q [] [] H (But.refl _ _) A rfl rfl
theorem ea_consP {tr : TA} {Pr : List D → Prop} (ha : EvP K φ J ta ρ P) (hr : EvA K φ J tr ρ Pr) : EvA K φ J (tCons ta tr) ρ (fun x => ∃ d r, x = d :: r ∧ P d ∧ Pr r) := fun σ H A Q q =>
  ha σ H A _ fun v x H1 b1 A1 px r1 => hr σ H1 A1 _ fun ws ys H2 b2 A2 py r2 => q (v :: ws) (x :: ys) H2 (b1.trans b2) A2 ⟨x, ys, rfl, px, py⟩ (Reps.cons (r1.mono b2) r2)
theorem ea_cons {tr : TA} (ha : EvD K φ J ta ρ x) (hr : EvAD K φ J tr ρ ds) : EvAD K φ J (tCons ta tr) ρ (x :: ds) := fun σ H A Q q =>
  ha σ H A _ fun v y H1 b1 A1 e1 r1 => hr σ H1 A1 _ fun ws ys H2 b2 A2 e2 r2 => q (v :: ws) (y :: ys) H2 (b1.trans b2) A2 (by rw [e1, e2]) (Reps.cons (r1.mono b2) r2)
theorem sz {n : Nat} (h : n ≤ 1000000) : n ≤ sizeLine := Nat.le_trans h (by decide)
theorem szlt {n : Nat} (h : n ≤ 1000000) : n < sizeLine := Nat.lt_of_le_of_lt h (by decide)
theorem ev_tupP {ta : TA} {Pr : List D → Prop} (ha : EvA K φ J ta ρ Pr) (hl : ∀ r, Pr r → r.length ≤ 1000000) : EvP K φ J (tTup ta) ρ (fun x => ∃ r, x = .tup r ∧ Pr r) := fun σ H A Q q =>
  ha σ H A _ fun vs ds H1 b1 A1 pd r1 => ⟨by rw [r1.length]; exact sz (hl _ pd), fun p hp =>
    q _ _ _ (b1.trans (But.of (same_new hp))) (A1.same (same_new hp)) ⟨ds, rfl, pd⟩ ⟨p, vs, rfl, .inl ⟨A1.fr p hp, .inl upd_same⟩, r1.mono (But.of (same_new hp))⟩⟩
theorem ev_lstP {ta : TA} {Pr : List D → Prop} (ha : EvA K φ J ta ρ Pr) (hl : ∀ r, Pr r → r.length ≤ 1000000) : EvP K φ J (tLst ta) ρ (fun x => ∃ r, x = .lst r ∧ Pr r) := fun σ H A Q q =>
  ha σ H A _ fun vs ds H1 b1 A1 pd r1 => ⟨by rw [r1.length]; exact sz (hl _ pd), fun p hp =>
    q _ _ _ (b1.trans (But.of (same_new hp))) (A1.same (same_new hp)) ⟨ds, rfl, pd⟩ ⟨p, vs, rfl, .inl ⟨A1.fr p hp, .inl upd_same⟩, r1.mono (But.of (same_new hp))⟩⟩
theorem ev_tup {ta : TA} (ha : EvAD K φ J ta ρ ds) (hl : ds.length ≤ 1000000 := by first | exact Nat.le_of_ble_eq_true rfl | decide) : EvD K φ J (tTup ta) ρ (.tup ds) := (ev_tupP ha fun r e => by rw [e]; exact hl).imp fun x ⟨r, e, e2⟩ => by rw [e, e2]
theorem ev_lst {ta : TA} (ha : EvAD K φ J ta ρ ds) (hl : ds.length ≤ 1000000 := by first | exact Nat.le_of_ble_eq_true rfl | decide) : EvD K φ J (tLst ta) ρ (.lst ds) := (ev_lstP ha fun r e => by rw [e]; exact hl).imp fun x ⟨r, e, e2⟩ => by rw [e, e2]

/-! ### subscripts -/
theorem Reps.atI {i : Int} (h : Reps K φ H ds vs) (e : L2.atI ds i = some d) : ∃ v, L2.atI vs i = some v ∧ Rep K φ H d v := by
  unfold L2.atI at e ⊢
  rw [h.length]
  cases hj : ixN ds.length i with
  | none => rw [hj] at e; cases e
  | some j =>
    rw [hj] at e
    exact h.get e
theorem rep_tup (h : Rep K φ H (.tup ds) v) : ∃ a vs, v = .ref a ∧ PT K φ H a vs ∧ Reps K φ H ds vs := h
theorem rep_lst (h : Rep K φ H (.lst ds) v) : ∃ a vs, v = .ref a ∧ PL K φ H a vs ∧ Reps K φ H ds vs := h
theorem o2_ixT (e : L2.atI ds i = some d) : Op2 K φ (rIxT K) (.tup ds) (.int i) (fun x => x = d) := fun H v w _ r1 r2 Q q => by
  obtain ⟨a, vs, rfl, p, r⟩ := rep_tup r1
  obtain ⟨u, e1, r3⟩ := r.atI e
  exact ⟨a, vs, i, u, rfl, r2, p.sq, e1, q u d H (Same.refl H) rfl r3⟩
theorem o2_ixL (e : L2.atI ds i = some d) : Op2 K φ (rIxL K) (.lst ds) (.int i) (fun x => x = d) := fun H v w _ r1 r2 Q q => by
  obtain ⟨a, vs, rfl, p, r⟩ := rep_lst r1
  obtain ⟨u, e1, r3⟩ := r.atI e
  exact ⟨a, vs, i, u, rfl, r2, p.sq, e1, q u d H (Same.refl H) rfl r3⟩
theorem ev_ixT (ha : EvD K φ J ta ρ (.tup ds)) (hb : EvD K φ J tb ρ (.int i)) (e : L2.atI ds i = some d) : EvD K φ J (tOp (rIxT K) ta tb) ρ d := ev_opD ha hb (o2_ixT e)
theorem ev_ixL (ha : EvD K φ J ta ρ (.lst ds)) (hb : EvD K φ J tb ρ (.int i)) (e : L2.atI ds i = some d) : EvD K φ J (tOp (rIxL K) ta tb) ρ d := ev_opD ha hb (o2_ixL e)
theorem ev_ixTP (ha : EvP K φ J ta ρ Pa) (hb : EvI K φ J tb ρ p) (e : ∀ x i, Pa x → p i → ∃ ds d, x = .tup ds ∧ L2.atI ds i = some d ∧ P d) : EvP K φ J (tOp (rIxT K) ta tb) ρ P := ev_op ha hb fun x y px ⟨i, e1, pi⟩ => by
  obtain ⟨ds, d, e2, e3, pd⟩ := e x i px pi
  subst e1 e2
  exact fun H v w f r1 r2 Q q => o2_ixT e3 H v w f r1 r2 Q fun u z H' s ez r => q u z H' s (ez ▸ pd) r
theorem ev_ixLP (ha : EvP K φ J ta ρ Pa) (hb : EvI K φ J tb ρ p) (e : ∀ x i, Pa x → p i → ∃ ds d, x = .lst ds ∧ L2.atI ds i = some d ∧ P d) : EvP K φ J (tOp (rIxL K) ta tb) ρ P := ev_op ha hb fun x y px ⟨i, e1, pi⟩ => by
  obtain ⟨ds, d, e2, e3, pd⟩ := e x i px pi
  subst e1 e2
  exact fun H v w f r1 r2 Q q => o2_ixL e3 H v w f r1 r2 Q fun u z H' s ez r => q u z H' s (ez ▸ pd) r

/-! ### slices -/
def cutD {α : Type} (xs : List α) (lo hi : Option Int) : List α := (xs.drop (HT.sIx xs.length 0 lo)).take (HT.sIx xs.length xs.length hi - HT.sIx xs.length 0 lo)
theorem Reps.cut (h : Reps K φ H ds vs) (lo hi : Option Int) : Reps K φ H (cutD ds lo hi) (cutV vs lo hi) := by
  unfold cutD cutV
  rw [h.length]
  exact (h.drop _).take _
theorem cutD_length {α : Type} (xs : List α) (lo hi : Option Int) : (cutD xs lo hi).length ≤ xs.length := by
  unfold cutD
  rw [List.length_take, List.length_drop]
  omega
theorem eo_none : EvO K φ J tNoPart ρ none := fun σ H A Q q => q H (But.refl _ _) A
theorem eo_some (h : EvD K φ J te ρ (.int i)) : EvO K φ J (tPart te) ρ (some i) := fun σ H A Q q => h σ H A _ fun v d H' bt A' e r => by
  subst e
  exact ⟨i, r, q H' bt A'⟩
theorem ev_slL {tl th : TO} {lo hi : Option Int} (ha : EvD K φ J te ρ (.lst ds)) (hl : EvO K φ J tl ρ lo) (hh : EvO K φ J th ρ hi) : EvD K φ J (tSl (rSlL K) te tl th) ρ (.lst (cutD ds lo hi)) := fun σ H A Q q =>
  ha σ H A _ fun v x H1 b1 A1 e1 r1 => hl σ H1 A1 _ fun H2 b2 A2 => hh σ H2 A2 _ fun H3 b3 A3 => by
    subst e1
    obtain ⟨a, vs, rfl, pl, rs⟩ := rep_lst ((r1.mono b2).mono b3)
    exact ⟨a, vs, rfl, pl.sq, fun p hp => q _ _ _ (((b1.trans b2).trans b3).trans (But.of (same_new hp))) (A3.same (same_new hp)) rfl ⟨p, _, rfl, .inl ⟨A3.fr p hp, .inl upd_same⟩, (rs.mono (But.of (same_new hp))).cut lo hi⟩⟩
theorem take_all {α : Type} {xs : List α} {lo hi : Option Int} (h : HT.sIx xs.length 0 lo = 0 ∧ HT.sIx xs.length xs.length hi = xs.length) : cutD xs lo hi = xs := by
  unfold cutD
  rw [h.1, h.2, List.drop_zero, Nat.sub_zero, List.take_length]
theorem ev_slT {tl th : TO} {lo hi : Option Int} (ha : EvD K φ J te ρ (.tup ds)) (hl : EvO K φ J tl ρ lo) (hh : EvO K φ J th ρ hi) : EvD K φ J (tSl (rSlA K) te tl th) ρ (.tup (cutD ds lo hi)) := fun σ H A Q q =>
  ha σ H A _ fun v x H1 b1 A1 e1 r1 => hl σ H1 A1 _ fun H2 b2 A2 => hh σ H2 A2 _ fun H3 b3 A3 => by
    subst e1
    obtain ⟨a, vs, rfl, pl, rs⟩ := rep_tup ((r1.mono b2).mono b3)
    refine ⟨a, vs, rfl, pl.sq, fun hw => ?_, fun _ p hp => q _ _ _ (((b1.trans b2).trans b3).trans (But.of (same_new hp))) (A3.same (same_new hp)) rfl ⟨p, _, rfl, .inl ⟨A3.fr p hp, .inl upd_same⟩, (rs.mono (But.of (same_new hp))).cut lo hi⟩⟩
    rw [rs.length] at hw
    exact q _ _ _ ((b1.trans b2).trans b3) A3 rfl ⟨a, vs, rfl, pl, by rw [take_all hw]; exact rs⟩

/-! ### tuple + tuple, list + list -/
theorem o2_catT {es : List D} (hz : ds.length + es.length ≤ 1000000) : Op2 K φ (rCatA K) (.tup ds) (.tup es) (fun x => x = .tup (ds ++ es)) := fun H v w f r1 r2 Q q => by
  obtain ⟨a, vs, rfl, pa, ra⟩ := rep_tup r1
  obtain ⟨b, ws, rfl, pb, rb⟩ := rep_tup r2
  refine ⟨a, b, vs, ws, rfl, rfl, pa.sq, pb.sq, by rw [ra.length, rb.length]; exact sz hz, fun e => ?_, fun _ e => ?_, fun _ _ p hp => ?_⟩
  · subst e
    have e0 : ds = [] := List.eq_nil_of_length_eq_zero ra.length.symm
    subst e0
    exact q _ _ H (Same.refl H) rfl ⟨b, ws, rfl, pb, rb⟩
  · subst e
    have e0 : es = [] := List.eq_nil_of_length_eq_zero rb.length.symm
    subst e0
    exact q _ _ H (Same.refl H) rfl ⟨a, vs, rfl, pa, by rw [List.append_nil]; exact ra⟩
  · exact q _ _ _ (same_new hp) rfl ⟨p, _, rfl, .inl ⟨f p hp, .inl upd_same⟩, (ra.append rb).mono (But.of (same_new hp))⟩
theorem ev_catT (ha : EvD K φ J ta ρ (.tup ds)) (hb : EvD K φ J tb ρ (.tup es)) (hz : ds.length + es.length ≤ 1000000) : EvD K φ J (tOp (rCatA K) ta tb) ρ (.tup (ds ++ es)) := ev_opD ha hb (o2_catT hz)

/-! ### calls of built-ins -/
theorem ev_cb {ta : TA} {r : List V → Hp → VK → Prop} {Pr : List D → Prop} (ha : EvA K φ J ta ρ Pr) (hr : ∀ ds, Pr ds → Cl K φ r ds P) : EvP K φ J (tCB r ta) ρ P := fun σ H A Q q =>
  ha σ H A _ fun vs ds H1 b1 A1 pd r1 => hr ds pd H1 vs A1.fr r1 Q fun u z H2 s pz r2 => q u z H2 (b1.trans (But.of s)) (A1.same s) pz r2
theorem ev_cbD {ta : TA} {r : List V → Hp → VK → Prop} (ha : EvAD K φ J ta ρ ds) (hr : Cl K φ r ds P) : EvP K φ J (tCB r ta) ρ P := ev_cb ha fun ds' e => e ▸ hr
theorem Reps.one (h : Reps K φ H [d] vs) : ∃ v, vs = [v] ∧ Rep K φ H d v := by
  obtain ⟨v, r, rfl, h1, h2⟩ := (show ∃ v r, vs = v :: r ∧ Rep K φ H d v ∧ Reps K φ H [] r from h)
  have e : r = [] := h2
  subst e
  exact ⟨v, rfl, h1⟩
theorem Reps.two (h : Reps K φ H [d, x] vs) : ∃ v w, vs = [v, w] ∧ Rep K φ H d v ∧ Rep K φ H x w := by
  obtain ⟨v, r, rfl, h1, h2⟩ := (show ∃ v r, vs = v :: r ∧ Rep K φ H d v ∧ Reps K φ H [x] r from h)
  obtain ⟨w, rfl, h3⟩ := h2.one
  exact ⟨v, w, rfl, h1, h3⟩
def rLen (K : PySem.W.Frag) : List V → Hp → VK → Prop := fun xs H Q => ∃ p ys, xs = [.ref p] ∧ (SqL K H p ys ∨ SqT K H p ys) ∧ Q (.int ys.length) H
theorem c_len {X : Cx} : CallR X (.builtin "len") (rLen X.K) := call_len_seq
theorem cl_lenL : Cl K φ (rLen K) [.lst ds] (fun x => x = .int ds.length) := fun H vs f r Q q => by
  obtain ⟨v, rfl, r1⟩ := r.one
  obtain ⟨a, vs, rfl, p, rs⟩ := rep_lst r1
  exact ⟨a, vs, rfl, .inl p.sq, q _ _ H (Same.refl H) rfl (by rw [rs.length]; rfl)⟩
theorem cl_lenT : Cl K φ (rLen K) [.tup ds] (fun x => x = .int ds.length) := fun H vs f r Q q => by
  obtain ⟨v, rfl, r1⟩ := r.one
  obtain ⟨a, vs, rfl, p, rs⟩ := rep_tup r1
  exact ⟨a, vs, rfl, .inr p.sq, q _ _ H (Same.refl H) rfl (by rw [rs.length]; rfl)⟩
theorem ev_lenL (ha : EvD K φ J te ρ (.lst ds)) : EvD K φ J (tCB (rLen K) (tCons te tNil)) ρ (.int ds.length) := ev_cbD (ea_cons ha ea_nil) cl_lenL
theorem ev_lenT (ha : EvD K φ J te ρ (.tup ds)) : EvD K φ J (tCB (rLen K) (tCons te tNil)) ρ (.int ds.length) := ev_cbD (ea_cons ha ea_nil) cl_lenT
def rLenS : List V → Hp → VK → Prop := fun xs H Q => ∃ z, xs = [.str z] ∧ z.length ≤ sizeLine ∧ Q (.int z.length) H
theorem c_lenS {X : Cx} : CallR X (.builtin "len") rLenS := call_len_str
theorem ev_lenS (ha : EvD K φ J te ρ (.str s)) (hz : s.length ≤ 1000000) : EvD K φ J (tCB rLenS (tCons te tNil)) ρ (.int s.length) := ev_cbD (ea_cons ha ea_nil) fun H vs f r Q q => by
  obtain ⟨v, rfl, r1⟩ := r.one
  cases (show v = _ from r1)
  exact ⟨s, rfl, sz hz, q _ _ H (Same.refl H) rfl rfl⟩
def rInt1 : List V → Hp → VK → Prop := fun xs H Q => (∃ i, xs = [.int i] ∧ Q (.int i) H) ∨ ∃ k, xs = [.bl k] ∧ Q (.int (if k then 1 else 0)) H
theorem c_int1 {X : Cx} : CallR X (.type "int") rInt1 := call_int1
theorem cl_intI : Cl K φ rInt1 [.int i] (fun x => x = .int i) := fun H vs f r Q q => by
  obtain ⟨v, rfl, r1⟩ := r.one
  cases (show v = _ from r1)
  exact .inl ⟨i, rfl, q _ _ H (Same.refl H) rfl rfl⟩
theorem cl_intB : Cl K φ rInt1 [.bl b] (fun x => x = .int (if b then 1 else 0)) := fun H vs f r Q q => by
  obtain ⟨v, rfl, r1⟩ := r.one
  cases (show v = _ from r1)
  exact .inr ⟨b, rfl, q _ _ H (Same.refl H) rfl rfl⟩
theorem ev_intI (ha : EvD K φ J te ρ (.int i)) : EvD K φ J (tCB rInt1 (tCons te tNil)) ρ (.int i) := ev_cbD (ea_cons ha ea_nil) cl_intI
theorem ev_intB (ha : EvD K φ J te ρ (.bl b)) : EvD K φ J (tCB rInt1 (tCons te tNil)) ρ (.int (if b then 1 else 0)) := ev_cbD (ea_cons ha ea_nil) cl_intB
def rStrI : List V → Hp → VK → Prop := fun xs H Q => ∃ i, xs = [.int i] ∧ i.natAbs.log2 < 1920 ∧ Q (.str (toString i)) H
theorem c_strI {X : Cx} : CallR X (.type "str") rStrI := call_str_int
theorem ev_strI (ha : EvD K φ J te ρ (.int i)) (hz : i.natAbs.log2 < 1920) : EvD K φ J (tCB rStrI (tCons te tNil)) ρ (.str (toString i)) := ev_cbD (ea_cons ha ea_nil) fun H vs f r Q q => by
  obtain ⟨v, rfl, r1⟩ := r.one
  cases (show v = _ from r1)
  exact ⟨i, rfl, hz, q _ _ H (Same.refl H) rfl rfl⟩
def rListOf (K : PySem.W.Frag) : List V → Hp → VK → Prop := fun xs H Q => ∃ p ys, xs = [.ref p] ∧ (SqL K H p ys ∨ SqT K H p ys) ∧ ∀ l, H l = none → Q (.ref l) (upd H l (.lst ys))
theorem c_listOf {X : Cx} : CallR X (.type "list") (rListOf X.K) := call_list_of
theorem ev_listL (ha : EvD K φ J te ρ (.lst ds)) : EvD K φ J (tCB (rListOf K) (tCons te tNil)) ρ (.lst ds) := ev_cbD (ea_cons ha ea_nil) fun H vs f r Q q => by
  obtain ⟨v, rfl, r1⟩ := r.one
  obtain ⟨a, vs, rfl, p, rs⟩ := rep_lst r1
  exact ⟨a, vs, rfl, .inl p.sq, fun l hl => q _ _ _ (same_new hl) rfl ⟨l, vs, rfl, .inl ⟨f l hl, .inl upd_same⟩, rs.mono (But.of (same_new hl))⟩⟩
theorem ev_listT (ha : EvD K φ J te ρ (.tup ds)) : EvD K φ J (tCB (rListOf K) (tCons te tNil)) ρ (.lst ds) := ev_cbD (ea_cons ha ea_nil) fun H vs f r Q q => by
  obtain ⟨v, rfl, r1⟩ := r.one
  obtain ⟨a, vs, rfl, p, rs⟩ := rep_tup r1
  exact ⟨a, vs, rfl, .inr p.sq, fun l hl => q _ _ _ (same_new hl) rfl ⟨l, vs, rfl, .inl ⟨f l hl, .inl upd_same⟩, rs.mono (But.of (same_new hl))⟩⟩
def rTupOf (K : PySem.W.Frag) : List V → Hp → VK → Prop := fun xs H Q => ∃ p ys, xs = [.ref p] ∧ ((SqL K H p ys ∧ ∀ l, H l = none → Q (.ref l) (upd H l (.tup ys))) ∨ (SqT K H p ys ∧ Q (.ref p) H))
theorem c_tupOf {X : Cx} : CallR X (.type "tuple") (rTupOf X.K) := call_tuple_of
theorem cl_tupL : Cl K φ (rTupOf K) [.lst ds] (fun x => x = .tup ds) := fun H vs f r Q q => by
  obtain ⟨v, rfl, r1⟩ := r.one
  obtain ⟨a, vs, rfl, p, rs⟩ := rep_lst r1
  exact ⟨a, vs, rfl, .inl ⟨p.sq, fun l hl => q _ _ _ (same_new hl) rfl ⟨l, vs, rfl, .inl ⟨f l hl, .inl upd_same⟩, rs.mono (But.of (same_new hl))⟩⟩⟩
theorem ev_tupL (ha : EvD K φ J te ρ (.lst ds)) : EvD K φ J (tCB (rTupOf K) (tCons te tNil)) ρ (.tup ds) := ev_cbD (ea_cons ha ea_nil) cl_tupL
theorem ev_tupT (ha : EvD K φ J te ρ (.tup ds)) : EvD K φ J (tCB (rTupOf K) (tCons te tNil)) ρ (.tup ds) := ev_cbD (ea_cons ha ea_nil) fun H vs f r Q q => by
  obtain ⟨v, rfl, r1⟩ := r.one
  obtain ⟨a, vs, rfl, p, rs⟩ := rep_tup r1
  exact ⟨a, vs, rfl, .inr ⟨p.sq, q _ _ H (Same.refl H) rfl ⟨a, vs, rfl, p, rs⟩⟩⟩
def rAbs : List V → Hp → VK → Prop := fun xs H Q => ∃ i, xs = [.int i] ∧ Q (.int (if i < 0 then -i else i)) H
theorem c_abs {X : Cx} : CallR X (.builtin "abs") rAbs := call_abs
theorem abs_if (i : Int) : (if i < 0 then -i else i) = (i.natAbs : Int) := by split <;> omega
theorem ev_abs (ha : EvD K φ J te ρ (.int i)) : EvD K φ J (tCB rAbs (tCons te tNil)) ρ (.int (i.natAbs : Int)) := ev_cbD (ea_cons ha ea_nil) fun H vs f r Q q => by
  obtain ⟨v, rfl, r1⟩ := r.one
  cases (show v = _ from r1)
  exact ⟨i, rfl, q _ _ H (Same.refl H) rfl (by rw [abs_if]; rfl)⟩
def rMax2 : List V → Hp → VK → Prop := fun xs H Q => ∃ i j, xs = [.int i, .int j] ∧ Q (.int (if j > i then j else i)) H
def rMin2 : List V → Hp → VK → Prop := fun xs H Q => ∃ i j, xs = [.int i, .int j] ∧ Q (.int (if j < i then j else i)) H
theorem c_max2 {X : Cx} (hc : X.calm = true := by rfl) : CallR X (.builtin "max") rMax2 := call_max2 hc
theorem c_min2 {X : Cx} (hc : X.calm = true := by rfl) : CallR X (.builtin "min") rMin2 := call_min2 hc
theorem max_if (i j : Int) : (if j > i then j else i) = max i j := by split <;> omega
theorem min_if (i j : Int) : (if j < i then j else i) = min i j := by split <;> omega
theorem ev_max2 (ha : EvD K φ J ta ρ (.int i)) (hb : EvD K φ J tb ρ (.int j)) : EvD K φ J (tCB rMax2 (tCons ta (tCons tb tNil))) ρ (.int (max i j)) := ev_cbD (ea_cons ha (ea_cons hb ea_nil)) fun H vs f r Q q => by
  obtain ⟨v, w, rfl, r1, r2⟩ := r.two
  cases (show v = _ from r1)
  cases (show w = _ from r2)
  exact ⟨i, j, rfl, q _ _ H (Same.refl H) rfl (by rw [max_if]; rfl)⟩
theorem ev_min2 (ha : EvD K φ J ta ρ (.int i)) (hb : EvD K φ J tb ρ (.int j)) : EvD K φ J (tCB rMin2 (tCons ta (tCons tb tNil))) ρ (.int (min i j)) := ev_cbD (ea_cons ha (ea_cons hb ea_nil)) fun H vs f r Q q => by
  obtain ⟨v, w, rfl, r1, r2⟩ := r.two
  cases (show v = _ from r1)
  cases (show w = _ from r2)
  exact ⟨i, j, rfl, q _ _ H (Same.refl H) rfl (by rw [min_if]; rfl)⟩
theorem rep_ints {ns : List Int} (h : Rep K φ H (.lst (ns.map D.int)) v) : ∃ a, v = .ref a ∧ SqL K H a (ns.map V.int) := by
  obtain ⟨a, vs, rfl, p, r⟩ := rep_lst h
  exact ⟨a, rfl, r.ints ▸ p.sq⟩
theorem c_sum {X : Cx} (hc : X.calm = true := by rfl) : CallR X (.builtin "sum") (rSum X.K) := cr_sum hc
theorem ev_sum {ns : List Int} (ha : EvD K φ J te ρ (.lst (ns.map D.int))) : EvD K φ J (tCB (rSum K) (tCons te tNil)) ρ (.int ns.sum) := ev_cbD (ea_cons ha ea_nil) fun H vs f r Q q => by
  obtain ⟨v, rfl, r1⟩ := r.one
  obtain ⟨a, rfl, h⟩ := rep_ints r1
  exact ⟨a, ns, rfl, h, q _ _ H (Same.refl H) rfl rfl⟩
def rGcd1 : List V → Hp → VK → Prop := rGcd
theorem ev_gcd (ha : EvD K φ J ta ρ (.int i)) (hb : EvD K φ J tb ρ (.int j)) : EvD K φ J (tCB rGcd (tCons ta (tCons tb tNil))) ρ (.int ((Nat.gcd i.natAbs j.natAbs : Nat) : Int)) := ev_cbD (ea_cons ha (ea_cons hb ea_nil)) fun H vs f r Q q => by
  obtain ⟨v, w, rfl, r1, r2⟩ := r.two
  cases (show v = _ from r1)
  cases (show w = _ from r2)
  exact ⟨i, j, rfl, q _ _ H (Same.refl H) rfl rfl⟩

/-! ### isinstance -/
def tyD : D → String
  | .non => "NoneType"
  | .bl _ => "bool"
  | .int _ => "int"
  | .str _ => "str"
  | .tup _ => "tuple"
  | .lst _ => "list"
  | .raw _ => "?"
  | .dk _ _ => "dict"
  | .dt _ _ => "dict"
def isRaw : D → Bool
  | .raw _ => true
  | _ => false
theorem tyx_rep : ∀ {d : D}, Rep K φ H d v → isRaw d = false → TyX K H v (.type (tyD d))
  | .non, h, _ => by cases (show v = _ from h); exact .base .non
  | .bl b, h, _ => by cases (show v = _ from h); exact .base (.bl b)
  | .int b, h, _ => by cases (show v = _ from h); exact .base (.int b)
  | .str b, h, _ => by cases (show v = _ from h); exact .base (.str b)
  | .raw w, _, e => by cases e
  | .tup ds, h, _ => by
    obtain ⟨a, vs, rfl, p, _⟩ := rep_tup h
    exact .base (.tup p.at.2)
  | .dk ks ds, h, _ => by
    obtain ⟨a, vs, rfl, ⟨_, e, _⟩, _⟩ := (show ∃ a vs, v = .ref a ∧ (φ a ∧ H a = some (.dK (ks.zip vs)) ∧ ks.length = ds.length) ∧ Reps K φ H ds vs from h)
    exact .base (.dK e)
  | .dt ks ds, h, _ => by
    obtain ⟨a, vs, rfl, ⟨_, e, _⟩, _⟩ := (show ∃ a vs, v = .ref a ∧ (φ a ∧ H a = some (.dT (ks.zip vs)) ∧ ks.length = ds.length) ∧ Reps K φ H ds vs from h)
    exact .base (.dT e)
  | .lst ds, h, _ => by
    obtain ⟨a, vs, rfl, p, _⟩ := rep_lst h
    rcases p with ⟨_, p⟩ | ⟨o, its, n, hk, hc, _⟩
    · rcases p with p | ⟨o, p⟩
      · exact .base (.lst p)
      · exact .base (.frz p)
    · exact .kList hk hc
def isT (n : String) (d : D) : Bool := tyD d == n || (n == "int" && tyD d == "bool")
theorem kit_tab : ∀ t ∈ (["NoneType", "bool", "int", "str", "tuple", "list", "dict"] : List String), ∀ n ∈ (["tuple", "list", "bool", "int", "str", "dict"] : List String), kitB t n = some (t == n || (n == "int" && t == "bool")) := by decide +kernel
theorem ty_mem {d : D} (h : isRaw d = false) : tyD d ∈ (["NoneType", "bool", "int", "str", "tuple", "list", "dict"] : List String) := by
  cases d <;> first | (cases h; done) | simp [tyD]
theorem kit_all {d : D} {n : String} (hn : n ∈ (["tuple", "list", "bool", "int", "str", "dict"] : List String)) (h : isRaw d = false) : kitB (tyD d) n = some (isT n d) := kit_tab _ (ty_mem h) n hn
theorem ev_isi {n : String} (ha : EvD K φ J ta ρ x) (hb : EvD K φ J tb ρ (.raw (.ty n))) (hx : isRaw x = false) (hn : n ∈ (["tuple", "list", "bool", "int", "str", "dict"] : List String) := by simp) : EvD K φ J (tCB (rIsi K) (tCons ta (tCons tb tNil))) ρ (.bl (isT n x)) := ev_cbD (ea_cons ha (ea_cons hb ea_nil)) fun H vs f r Q q => by
  obtain ⟨v, w, rfl, r1, r2⟩ := r.two
  cases (show w = _ from r2)
  exact ⟨v, _, _, _, _, rfl, .ty n, tyx_rep r1 hx, kit_ty (kit_all hn hx), q _ _ H (Same.refl H) rfl rfl⟩
end
end DL
namespace DL
open PySem PySem.Spec PyProof.Rows L2

/-! ### the pool of draws -/
def PoolOk (p s : Addr) (ns : List Int) (H : Hp) : Prop := ∃ at_ cur cnt salt : Int, H p = some (.lst [.ref s, .int at_, .int cur, .int cnt, .int salt]) ∧ H s = some (.lst (ns.map V.int)) ∧ 0 ≤ at_
def ButP (p : Addr) (H H' : Hp) : Prop := ∀ a o, a ≠ p → H a = some o → H' a = some o
structure Pooled (φ : Addr → Prop) (J : Hp → Prop) (p s : Addr) (ns : List Int) : Prop where
  np : ¬ φ p
  ne : s ≠ p
  ok : ∀ H, J H → PoolOk p s ns H
  st : ∀ H H', J H → ButP p H H' → PoolOk p s ns H' → J H'
structure Ext (φ : Addr → Prop) (J : Hp → Prop) (φ' : Addr → Prop) (J' : Hp → Prop) : Prop where
  imp : ∀ H, J' H → J H
  pool : ∀ p s ns, Pooled φ J p s ns → Pooled φ' J' p s ns
  keep : ∀ a, φ a → (∀ H, J H → H a ≠ none) → φ' a
theorem Ext.refl {φ : Addr → Prop} {J : Hp → Prop} : Ext φ J φ J := ⟨fun _ h => h, fun _ _ _ h => h, fun _ p _ => p⟩
theorem Ext.trans {φ φ1 φ2 : Addr → Prop} {J J1 J2 : Hp → Prop} (a : Ext φ J φ1 J1) (b : Ext φ1 J1 φ2 J2) : Ext φ J φ2 J2 := ⟨fun H h => a.imp H (b.imp H h), fun p s ns h => b.pool p s ns (a.pool p s ns h), fun x p h => b.keep x (a.keep x p h) fun H j => h H (a.imp H j)⟩

/-! ### walks -/
def Walks (K : PySem.W.Frag) (φ : Addr → Prop) (J0 : It) (H : Hp) (ds : List D) : Prop := ∀ (φ' : Addr → Prop) (i : Nat) (H1 : Hp), Up φ φ' H H1 → Frm φ' H1 →
  (∀ d, ds[i]? = some d → J0.go i H1 ∧ ∀ x H2, J0.yld i H1 x H2 → Same H1 H2 ∧ Rep K φ' H2 d x) ∧ (i = ds.length → J0.stop i H1)
def IterP (K : PySem.W.Frag) (φ : Addr → Prop) (J : Hp → Prop) (wi : TI) (ρ : List (Option D)) (P : List D → Prop) : Prop := ∀ σ H, At K φ J ρ σ H → ∀ R : It → Hp → Prop, (∀ J0 ds H', But φ H H' → At K φ J ρ σ H' → P ds → Walks K φ J0 H' ds → R J0 H') → wi σ H R
abbrev IterD (K : PySem.W.Frag) (φ : Addr → Prop) (J : Hp → Prop) (wi : TI) (ρ : List (Option D)) (ds : List D) : Prop := IterP K φ J wi ρ fun x => x = ds
section
variable {K : PySem.W.Frag} {φ φ' : Addr → Prop} {J J' : Hp → Prop} {H H' H1 : Hp} {ρ ρ' : List (Option D)} {σ : L2.St} {ta tb te tc : TE} {x y z d : D} {P Pa Pb Pc : D → Prop} {i j : Int} {b c : Bool} {s t : Str} {ds es : List D} {v : V} {vs : List V} {a : Addr}
theorem IterP.imp {wi : TI} {P P' : List D → Prop} (h : IterP K φ J wi ρ P) (k : ∀ ds, P ds → P' ds) : IterP K φ J wi ρ P' := fun σ H A R q => h σ H A R fun J0 ds H' bt A' pd w => q J0 ds H' bt A' (k ds pd) w
theorem walks_list (p : PL K φ H a vs) (r : Reps K φ H ds vs) : Walks K φ (Itl K a) H ds := fun φ' i H1 u f => by
  have p1 := p.up u
  have r1 := Reps.up u ds vs r
  refine ⟨fun d hd => ?_, fun hi => ⟨vs, p1.sq, by rw [r1.length]; exact Nat.le_of_eq hi.symm⟩⟩
  obtain ⟨w, e, rw'⟩ := r1.get hd
  refine ⟨⟨vs, w, p1.sq, e⟩, fun x H2 hy => ?_⟩
  obtain ⟨rfl, hx⟩ := hy
  have e2 := hx vs p1.sq
  rw [e] at e2
  cases e2
  exact ⟨Same.refl _, rw'⟩
theorem walks_tup (p : PT K φ H a vs) (r : Reps K φ H ds vs) : Walks K φ (Itt K a) H ds := fun φ' i H1 u f => by
  have p1 := p.up u
  have r1 := Reps.up u ds vs r
  refine ⟨fun d hd => ?_, fun hi => ⟨vs, p1.sq, by rw [r1.length]; exact Nat.le_of_eq hi.symm⟩⟩
  obtain ⟨w, e, rw'⟩ := r1.get hd
  refine ⟨⟨vs, w, p1.sq, e⟩, fun x H2 hy => ?_⟩
  obtain ⟨rfl, hx⟩ := hy
  have e2 := hx vs p1.sq
  rw [e] at e2
  cases e2
  exact ⟨Same.refl _, rw'⟩
theorem it_list (h : EvD K φ J te ρ (.lst ds)) : IterD K φ J (iList K te) ρ ds := fun σ H A R q => h σ H A _ fun v d H1 b1 A1 e r => by
  subst e
  obtain ⟨a, vs, rfl, p, rs⟩ := rep_lst r
  exact ⟨a, rfl, ⟨vs, p.sq⟩, q _ ds H1 b1 A1 rfl (walks_list p rs)⟩
theorem it_listP {P : List D → Prop} (h : EvP K φ J te ρ (fun z => ∃ ds, z = .lst ds ∧ P ds)) : IterP K φ J (iList K te) ρ P := fun σ H A R q => h σ H A _ fun v d H1 b1 A1 ⟨ds, e, pd⟩ r => by
  subst e
  obtain ⟨a, vs, rfl, p, rs⟩ := rep_lst r
  exact ⟨a, rfl, ⟨vs, p.sq⟩, q _ ds H1 b1 A1 pd (walks_list p rs)⟩
theorem it_tup (h : EvD K φ J te ρ (.tup ds)) : IterD K φ J (iTup K te) ρ ds := fun σ H A R q => h σ H A _ fun v d H1 b1 A1 e r => by
  subst e
  obtain ⟨a, vs, rfl, p, rs⟩ := rep_tup r
  exact ⟨a, rfl, ⟨vs, p.sq⟩, q _ ds H1 b1 A1 rfl (walks_tup p rs)⟩
def rangeD (lo : Int) (n : Nat) : List D := (List.range n).map fun i => .int (lo + (i : Nat))
theorem rangeD_length {lo : Int} {n : Nat} : (rangeD lo n).length = n := by unfold rangeD; rw [List.length_map, List.length_range]
theorem rangeD_get {lo : Int} {n i : Nat} : (rangeD lo n)[i]? = if i < n then some (.int (lo + i)) else none := by
  unfold rangeD
  rw [List.getElem?_map]
  by_cases h : i < n
  · rw [List.getElem?_range h, if_pos h]
    rfl
  · rw [if_neg h, List.getElem?_eq_none (by rw [List.length_range]; omega)]
    rfl
theorem walks_range {lo : Int} {n : Nat} : Walks K φ (Itr lo n) H (rangeD lo n) := fun φ' i H1 u f => by
  refine ⟨fun d hd => ?_, fun hi => by rw [rangeD_length] at hi; exact Nat.le_of_eq hi.symm⟩
  rw [rangeD_get] at hd
  by_cases h : i < n
  · rw [if_pos h] at hd
    cases hd
    refine ⟨h, fun x H2 hy => ?_⟩
    obtain ⟨rfl, rfl⟩ := hy
    exact ⟨Same.refl _, rfl⟩
  · rw [if_neg h] at hd
    cases hd
theorem it_range1P {ta : TA} {p : Int → Prop} (h : EvA K φ J ta ρ (fun x => ∃ n, x = [.int n] ∧ p n)) (hn : ∀ n, p n → -(2 ^ 62) ≤ n ∧ n < 2 ^ 62) : IterP K φ J (iRng1 ta) ρ (fun x => ∃ n, p n ∧ x = rangeD 0 n.toNat) := fun σ H A R q => h σ H A _ fun vs ds H1 b1 A1 ⟨n, e, pn⟩ r => by
  subst e
  obtain ⟨v, rfl, r1⟩ := r.one
  cases (show v = _ from r1)
  exact ⟨n, rfl, (hn n pn).1, (hn n pn).2, q _ _ H1 b1 A1 ⟨n, pn, rfl⟩ walks_range⟩
theorem it_range1 {ta : TA} {n : Int} (h : EvAD K φ J ta ρ [.int n]) (hn : -(2 ^ 62) ≤ n ∧ n < 2 ^ 62) : IterD K φ J (iRng1 ta) ρ (rangeD 0 n.toNat) := fun σ H A R q => h σ H A _ fun vs ds H1 b1 A1 e r => by
  subst e
  obtain ⟨v, rfl, r1⟩ := r.one
  cases (show v = _ from r1)
  exact ⟨n, rfl, hn.1, hn.2, q _ _ H1 b1 A1 rfl walks_range⟩
theorem it_range2 {ta : TA} {m n : Int} (h : EvAD K φ J ta ρ [.int m, .int n]) (hn : (-(2 ^ 62) ≤ m ∧ m < 2 ^ 62) ∧ -(2 ^ 62) ≤ n ∧ n < 2 ^ 62) : IterD K φ J (iRng2 ta) ρ (rangeD m (n - m).toNat) := fun σ H A R q => h σ H A _ fun vs ds H1 b1 A1 e r => by
  subst e
  obtain ⟨v, w, rfl, r1, r2⟩ := r.two
  cases (show v = _ from r1)
  cases (show w = _ from r2)
  exact ⟨m, n, rfl, ⟨hn.1.1, hn.1.2, hn.2.1, hn.2.2⟩, q _ _ H1 b1 A1 rfl walks_range⟩
def enumD (k : Int) (ds : List D) : List D := ds.mapIdx fun i d => .tup [.int (k + (i : Nat)), d]
theorem enumD_length {k : Int} : (enumD k ds).length = ds.length := List.length_mapIdx
theorem enumD_get {k : Int} {i : Nat} : (enumD k ds)[i]? = (ds[i]?).map fun d => .tup [.int (k + (i : Nat)), d] := List.getElem?_mapIdx
theorem rep_pair {H : Hp} {T : Addr} {x1 x2 : V} {d1 d2 : D} (f : φ T) (h : H T = some (.tup [x1, x2])) (r1 : Rep K φ H d1 x1) (r2 : Rep K φ H d2 x2) : Rep K φ H (.tup [d1, d2]) (.ref T) := ⟨T, _, rfl, .inl ⟨f, .inl h⟩, Reps.cons r1 (Reps.cons r2 Reps.nil)⟩
theorem it_enum {ta : TA} (h : EvAD K φ J ta ρ [.lst ds]) : IterD K φ J (iEnum K ta) ρ (enumD 0 ds) := fun σ H A R q => h σ H A _ fun vs es H1 b1 A1 e r => by
  subst e
  obtain ⟨v, rfl, r1⟩ := r.one
  obtain ⟨a, vs, rfl, p, rs⟩ := rep_lst r1
  refine ⟨a, vs, rfl, p.sq, q _ _ H1 b1 A1 rfl fun φ' i H2 u f => ?_⟩
  have p1 := p.up u
  have r1 := Reps.up u ds vs rs
  refine ⟨fun d hd => ?_, fun hi => ⟨vs, p1.sq, by rw [r1.length]; rw [enumD_length] at hi; exact Nat.le_of_eq hi.symm⟩⟩
  rw [enumD_get] at hd
  cases hx : ds[i]? with
  | none => rw [hx] at hd; cases hd
  | some d0 =>
    rw [hx] at hd
    cases hd
    obtain ⟨w, e, rw'⟩ := r1.get hx
    refine ⟨⟨vs, w, p1.sq, e⟩, fun x H3 hy => ?_⟩
    obtain ⟨T, x1, rfl, hT, rfl, hx1⟩ := hy
    have e2 := hx1 vs p1.sq
    rw [e] at e2
    cases e2
    exact ⟨same_new hT, rep_pair (f T hT) upd_same (by show V.int _ = V.int _; congr 1; omega) (rw'.mono (But.of (same_new hT)))⟩
def zipD (ds es : List D) : List D := List.zipWith (fun a b => .tup [a, b]) ds es
theorem zipD_get {i : Nat} {d1 d2 : D} (h1 : ds[i]? = some d1) (h2 : es[i]? = some d2) : (zipD ds es)[i]? = some (.tup [d1, d2]) := by
  unfold zipD
  rw [List.getElem?_zipWith, h1, h2]
theorem zipD_getD {i : Nat} {d : D} (h : (zipD ds es)[i]? = some d) : ∃ d1 d2, ds[i]? = some d1 ∧ es[i]? = some d2 ∧ d = .tup [d1, d2] := by
  unfold zipD at h
  rw [List.getElem?_zipWith] at h
  cases h1 : ds[i]? with
  | none => rw [h1] at h; cases h
  | some d1 =>
    cases h2 : es[i]? with
    | none => rw [h1, h2] at h; cases h
    | some d2 =>
      rw [h1, h2] at h
      cases h
      exact ⟨d1, d2, rfl, rfl, rfl⟩
theorem it_zipL {ta : TA} (h : EvAD K φ J ta ρ [.lst ds, .lst es]) : IterD K φ J (RZ.iZipA K ta) ρ (zipD ds es) := fun σ H A R q => h σ H A _ fun vs fs H1 b1 A1 e r => by
  subst e
  obtain ⟨v, w, rfl, r1, r2⟩ := r.two
  obtain ⟨a, vs, rfl, p, rs⟩ := rep_lst r1
  obtain ⟨b, ws, rfl, p', rs'⟩ := rep_lst r2
  refine ⟨a, b, vs, ws, rfl, .inl ⟨p.sq, p'.sq, q _ _ H1 b1 A1 rfl fun φ' i H2 u f => ?_⟩⟩
  have p1 := p.up u
  have r1 := Reps.up u ds vs rs
  have p2 := p'.up u
  have r2 := Reps.up u es ws rs'
  refine ⟨fun d hd => ?_, fun hi => ⟨vs, ws, p1.sq, p2.sq, by rw [r1.length, r2.length]; unfold zipD at hi; rw [List.length_zipWith] at hi; omega⟩⟩
  obtain ⟨d1, d2, g1, g2, rfl⟩ := zipD_getD hd
  obtain ⟨v1, e1, q1⟩ := r1.get g1
  obtain ⟨v2, e2, q2⟩ := r2.get g2
  refine ⟨⟨vs, ws, v1, v2, p1.sq, p2.sq, e1, e2⟩, fun x H3 hy => ?_⟩
  obtain ⟨T, x1, x2, rfl, hT, rfl, hx1, hx2⟩ := hy
  have z1 := hx1 vs p1.sq
  have z2 := hx2 ws p2.sq
  rw [e1] at z1
  rw [e2] at z2
  cases z1
  cases z2
  exact ⟨same_new hT, rep_pair (f T hT) upd_same (q1.mono (But.of (same_new hT))) (q2.mono (But.of (same_new hT)))⟩
theorem it_zipT {ta : TA} (h : EvAD K φ J ta ρ [.tup ds, .tup es]) : IterD K φ J (RZ.iZipA K ta) ρ (zipD ds es) := fun σ H A R q => h σ H A _ fun vs fs H1 b1 A1 e r => by
  subst e
  obtain ⟨v, w, rfl, r1, r2⟩ := r.two
  obtain ⟨a, vs, rfl, p, rs⟩ := rep_tup r1
  obtain ⟨b, ws, rfl, p', rs'⟩ := rep_tup r2
  refine ⟨a, b, vs, ws, rfl, .inr ⟨p.sq, p'.sq, q _ _ H1 b1 A1 rfl fun φ' i H2 u f => ?_⟩⟩
  have p1 := p.up u
  have r1 := Reps.up u ds vs rs
  have p2 := p'.up u
  have r2 := Reps.up u es ws rs'
  refine ⟨fun d hd => ?_, fun hi => ⟨vs, ws, p1.sq, p2.sq, by rw [r1.length, r2.length]; unfold zipD at hi; rw [List.length_zipWith] at hi; omega⟩⟩
  obtain ⟨d1, d2, g1, g2, rfl⟩ := zipD_getD hd
  obtain ⟨v1, e1, q1⟩ := r1.get g1
  obtain ⟨v2, e2, q2⟩ := r2.get g2
  refine ⟨⟨vs, ws, v1, v2, p1.sq, p2.sq, e1, e2⟩, fun x H3 hy => ?_⟩
  obtain ⟨T, x1, x2, rfl, hT, rfl, hx1, hx2⟩ := hy
  have z1 := hx1 vs p1.sq
  have z2 := hx2 ws p2.sq
  rw [e1] at z1
  rw [e2] at z2
  cases z1
  cases z2
  exact ⟨same_new hT, rep_pair (f T hT) upd_same (q1.mono (But.of (same_new hT))) (q2.mono (But.of (same_new hT)))⟩
def strD (s : Str) : List D := s.cps.toList.map fun c => .str ⟨#[c]⟩
theorem it_str (h : EvD K φ J te ρ (.str s)) : IterD K φ J (iStr te) ρ (strD s) := fun σ H A R q => h σ H A _ fun v d H1 b1 A1 e r => by
  subst e
  cases (show v = _ from r)
  refine ⟨s, rfl, q _ _ H1 b1 A1 rfl fun φ' i H2 u f => ⟨fun d hd => ?_, fun hi => by unfold strD at hi; rw [List.length_map, Array.length_toList] at hi; exact Nat.le_of_eq hi.symm⟩⟩
  unfold strD at hd
  rw [List.getElem?_map] at hd
  cases hc : s.cps.toList[i]? with
  | none => rw [hc] at hd; cases hd
  | some c =>
    rw [hc] at hd
    cases hd
    have hc' : s.cps[i]? = some c := by rw [← hc]; simp
    obtain ⟨hi, _⟩ := Array.getElem?_eq_some_iff.mp hc'
    refine ⟨hi, fun x H3 hy => ?_⟩
    obtain ⟨rfl, c2, e2, rfl⟩ := hy
    rw [hc'] at e2
    cases e2
    exact ⟨Same.refl _, rfl⟩

/-! ### targets -/
def wipeR (ρ : List (Option D)) : List Nat → List (Option D)
  | [] => ρ
  | v :: vs => (wipeR ρ vs).set v none
theorem SR.none (i : Nat) (h : SR K φ H ρ σ) : SR K φ H (ρ.set i Option.none) (σ.set i Option.none) := by
  refine ⟨by rw [List.length_set, List.length_set]; exact h.1, fun j e hj => ?_⟩
  by_cases hij : i = j
  · subst hij
    by_cases hl : i < ρ.length
    · rw [List.getElem?_set_self hl] at hj
      cases hj
    · rw [List.getElem?_eq_none (by rw [List.length_set]; omega)] at hj
      cases hj
  · rw [List.getElem?_set_ne hij] at hj
    obtain ⟨w, e1, r1⟩ := h.2 j e hj
    exact ⟨w, by rw [List.getElem?_set_ne hij]; exact e1, r1⟩
theorem SR.wipe (h : SR K φ H ρ σ) : ∀ vs : List Nat, SR K φ H (wipeR ρ vs) (L2.wipe σ vs)
  | [] => h
  | v :: vs => SR.none v (SR.wipe h vs)
theorem wipe_set {i : Nat} {o : Option V} : ∀ {vs : List Nat}, i ∈ vs → L2.wipe (σ.set i o) vs = L2.wipe σ vs
  | v :: vs, h => by
    show (L2.wipe (σ.set i o) vs).set v none = (L2.wipe σ vs).set v none
    by_cases hi : i ∈ vs
    · rw [wipe_set hi]
    · have e : i = v := (List.mem_cons.mp h).resolve_right hi
      subst e
      have g : ∀ (us : List Nat), i ∉ us → L2.wipe (σ.set i o) us = (L2.wipe σ us).set i o := by
        intro us
        induction us with
        | nil => intro _; rfl
        | cons u us ih =>
          intro hu
          have h1 : i ≠ u := fun e => hu (by rw [e]; exact List.mem_cons_self)
          show (L2.wipe (σ.set i o) us).set u none = ((L2.wipe σ us).set u none).set i o
          rw [ih fun m => hu (List.mem_cons_of_mem _ m), List.set_comm _ _ h1]
      rw [g vs hi, List.set_set]
theorem wipe_get {j : Nat} : ∀ {vs : List Nat}, (L2.wipe σ vs)[j]? = if j ∈ vs then (σ[j]?).map (fun _ => none) else σ[j]?
  | [] => by simp [L2.wipe]
  | v :: vs => by
    show ((L2.wipe σ vs).set v none)[j]? = _
    rw [List.getElem?_set]
    by_cases e : v = j
    · subst e
      rw [if_pos rfl, if_pos List.mem_cons_self]
      rw [L2.wipe_length]
      by_cases h : v < σ.length
      · rw [if_pos h, List.getElem?_eq_getElem h]
        rfl
      · rw [if_neg h, List.getElem?_eq_none (by omega)]
        rfl
    · rw [if_neg e, wipe_get]
      have : (j ∈ v :: vs) ↔ j ∈ vs := by
        rw [List.mem_cons]
        exact ⟨fun z => z.resolve_left fun q => e q.symm, .inr⟩
      by_cases h : j ∈ vs
      · rw [if_pos h, if_pos (this.mpr h)]
      · rw [if_neg h, if_neg fun z => h (this.mp z)]
theorem wipe_wipe (vs : List Nat) : L2.wipe (L2.wipe σ vs) vs = L2.wipe σ vs := by
  apply List.ext_getElem?
  intro j
  rw [wipe_get]
  by_cases h : j ∈ vs
  · rw [if_pos h, wipe_get, if_pos h]
    cases σ[j]? <;> rfl
  · rw [if_neg h]
/-- a target: d is stored, ρ becomes ρ', the slots us are written -/
def EvG (K : PySem.W.Frag) (g : TG) (d : D) (ρ ρ' : List (Option D)) (us : List Nat) : Prop := ∀ (φ : Addr → Prop) (J : Hp → Prop) σ H v, At K φ J ρ σ H → Rep K φ H d v → ∀ Q : L2.St → Hp → Prop,
  (∀ σ', At K φ J ρ' σ' H → (∀ vs : List Nat, (∀ i ∈ us, i ∈ vs) → L2.wipe σ' vs = L2.wipe σ vs) → Q σ' H) → g v σ H Q
theorem eg_name {k : Nat} : EvG K (gName k) d ρ (ρ.set k (some d)) [k] := fun φ J σ H v A r Q q => q _ (A.set k r) fun vs h => wipe_set (h k (by simp))
def EvGs (K : PySem.W.Frag) (g : TGs) (ds : List D) (ρ ρ' : List (Option D)) (us : List Nat) : Prop := ∀ (φ : Addr → Prop) (J : Hp → Prop) σ H ws, At K φ J ρ σ H → Reps K φ H ds ws → ∀ Q : L2.St → Hp → Prop,
  (∀ σ', At K φ J ρ' σ' H → (∀ vs : List Nat, (∀ i ∈ us, i ∈ vs) → L2.wipe σ' vs = L2.wipe σ vs) → Q σ' H) → g ws σ H Q
theorem egs_nil : EvGs K gNil [] ρ ρ [] := fun φ J σ H ws A r Q q => ⟨r, q σ A fun _ _ => rfl⟩
theorem egs_cons {g : TG} {gs : TGs} {ρ1 ρ2 : List (Option D)} {us ws : List Nat} (h : EvG K g d ρ ρ1 us) (hs : EvGs K gs ds ρ1 ρ2 ws) : EvGs K (gCons g gs) (d :: ds) ρ ρ2 (us ++ ws) := fun φ J σ H xs A r Q q => by
  obtain ⟨v, r', rfl, h1, h2⟩ := (show ∃ v r, xs = v :: r ∧ Rep K φ H d v ∧ Reps K φ H ds r from r)
  refine ⟨v, r', rfl, h φ J σ H v A h1 _ fun σ1 A1 w1 => hs φ J σ1 H r' A1 h2 Q fun σ2 A2 w2 => q σ2 A2 fun vs hv => ?_⟩
  rw [w2 vs fun i hi => hv i (List.mem_append_right _ hi), w1 vs fun i hi => hv i (List.mem_append_left _ hi)]
theorem eg_tup {gs : TGs} {us : List Nat} (h : EvGs K gs ds ρ ρ' us) : EvG K (gTup K ds.length gs) (.tup ds) ρ ρ' us := fun φ J σ H v A r Q q => by
  obtain ⟨a, vs, rfl, p, rs⟩ := rep_tup r
  exact ⟨a, vs, rfl, p.sq, rs.length, h φ J σ H vs A rs Q q⟩

/-! ### list comprehensions -/
inductive Comp (pt : D → Bool → Prop) (pe : D → D → Prop) : List D → List D → Prop where
  | nil : Comp pt pe [] []
  | take {d y : D} {ds ys : List D} : pt d true → pe d y → Comp pt pe ds ys → Comp pt pe (d :: ds) (y :: ys)
  | skip {d : D} {ds ys : List D} : pt d false → Comp pt pe ds ys → Comp pt pe (d :: ds) ys
theorem Comp.snoc1 {pt : D → Bool → Prop} {pe : D → D → Prop} : ∀ {ds ys : List D}, Comp pt pe ds ys → pt d true → pe d y → Comp pt pe (ds ++ [d]) (ys ++ [y])
  | _, _, .nil, h, k => .take h k .nil
  | _, _, .take a b c, h, k => .take a b (Comp.snoc1 c h k)
  | _, _, .skip a c, h, k => .skip a (Comp.snoc1 c h k)
theorem Comp.snoc0 {pt : D → Bool → Prop} {pe : D → D → Prop} : ∀ {ds ys : List D}, Comp pt pe ds ys → pt d false → Comp pt pe (ds ++ [d]) ys
  | _, _, .nil, h => .skip h .nil
  | _, _, .take a b c, h => .take a b (Comp.snoc0 c h)
  | _, _, .skip a c, h => .skip a (Comp.snoc0 c h)
theorem Comp.map {f : D → D} : ∀ {ds ys : List D}, Comp (fun _ b => b = true) (fun d y => y = f d) ds ys → ys = ds.map f
  | _, _, .nil => rfl
  | _, _, .take _ e c => by rw [e, c.map]; rfl
  | _, _, .skip e _ => by cases e
theorem Comp.filter {p : D → Bool} {f : D → D} : ∀ {ds ys : List D}, Comp (fun d b => b = p d) (fun d y => y = f d) ds ys → ys = (ds.filter p).map f
  | _, _, .nil => rfl
  | _, _, .take e1 e c => by rw [List.filter_cons, if_pos e1.symm, e, c.filter]; rfl
  | _, _, .skip e c => by rw [List.filter_cons, if_neg (by rw [← e]; simp), c.filter]
theorem Comp.len {pt : D → Bool → Prop} {pe : D → D → Prop} : ∀ {ds ys : List D}, Comp pt pe ds ys → ys.length ≤ ds.length
  | _, _, .nil => Nat.le_refl _
  | _, _, .take _ _ c => Nat.succ_le_succ c.len
  | _, _, .skip _ c => Nat.le_succ_of_le c.len
theorem Comp.all {pe : D → D → Prop} : ∀ {ds ys : List D}, Comp (fun _ b => b = true) pe ds ys → ys.length = ds.length ∧ ∀ y ∈ ys, ∃ d ∈ ds, pe d y
  | _, _, .nil => ⟨rfl, fun _ h => by simp at h⟩
  | _, _, .take _ e c => ⟨by rw [List.length_cons, List.length_cons, c.all.1], fun z h => by
    rcases List.mem_cons.mp h with rfl | h
    · exact ⟨_, List.mem_cons_self, e⟩
    · obtain ⟨d, hd, p⟩ := c.all.2 z h
      exact ⟨d, List.mem_cons_of_mem _ hd, p⟩⟩
  | _, _, .skip e _ => by cases e
theorem ev_lcP {wi : TI} {g : TG} {tt : TT} {te : TE} {ws us : List Nat} {Pi : List D → Prop} {ρd : D → List (Option D)} {pt : D → Bool → Prop} {pe : D → D → Prop} (hi : IterP K φ J wi ρ Pi) (hl : ∀ ds, Pi ds → ds.length ≤ 1000000) (hu : ∀ i ∈ us, i ∈ ws)
    (hg : ∀ ds, Pi ds → ∀ d ∈ ds, EvG K g d (wipeR ρ ws) (ρd d) us)
    (ht : ∀ ds, Pi ds → ∀ d ∈ ds, ∀ φ' J', Ext φ J φ' J' → EvT K φ' J' tt (ρd d) (pt d))
    (he : ∀ ds, Pi ds → ∀ d ∈ ds, pt d true → ∀ φ' J', Ext φ J φ' J' → EvP K φ' J' te (ρd d) (pe d)) :
    EvP K φ J (tLc wi g tt te ws) ρ (fun z => ∃ ds ys, Pi ds ∧ z = .lst ys ∧ Comp pt pe ds ys) := fun σ H A Q q => by
  refine hi σ H A _ fun J0 ds H1 b1 A1 pd w => ?_
  intro D0 hD
  -- inside: the list at D0 is live
  have neP : ∀ p s ns, Pooled φ J p s ns → p ≠ D0 := fun p s ns hp => by
    obtain ⟨a1, a2, a3, a4, h1, _⟩ := hp.ok _ A1.j
    exact ne_of_none h1 hD
  let φ' : Addr → Prop := fun a => φ a ∧ a ≠ D0
  have ext : ∀ acc : List V, Ext φ J φ' (fun H => J H ∧ H D0 = some (.lst acc)) := fun acc => ⟨fun _ h => h.1, fun p s ns hp => ⟨fun z => hp.np z.1, hp.ne, fun H h => hp.ok H h.1, fun H H' h k o => ⟨hp.st H H' h.1 k o, k _ _ (neP p s ns hp).symm h.2⟩⟩, fun a p h => ⟨p, fun e => h H1 A1.j (by rw [e]; exact hD)⟩⟩
  have mono : ∀ (acc : List V) (H2 : Hp), (∀ a, H1 a ≠ none → H2 a ≠ none) → H2 D0 ≠ none → Mo H2 (fun H => J H ∧ H D0 = some (.lst acc)) := fun acc H2 s h => (A1.mono.up s).and (Mo.at h)
  refine ⟨fun i m H2 => m = ds.length - i ∧ i ≤ ds.length ∧ But φ H1 H2 ∧ ∃ acc ys, Reps K φ' H2 ys acc ∧ Comp pt pe (ds.take i) ys ∧ At K φ' (fun H => J H ∧ H D0 = some (.lst acc)) (wipeR ρ ws) (L2.wipe σ ws) H2,
    ⟨ds.length, rfl, Nat.zero_le _, But.of (same_new hD), [], [], Reps.nil, .nil, ?_⟩, ?_⟩
  · have A2 := A1.newLive (o := .lst []) (J' := fun H => J H ∧ H D0 = some (.lst [])) hD ⟨A1.mono _ _ (fun a o _ e => same_new hD a o e) A1.j, upd_same⟩ (mono [] _ upd_tr (by rw [upd_same]; exact fun z => by cases z))
    exact ⟨A2.sr.wipe ws, A2.fr, A2.j, A2.mono⟩
  · rintro i m H2 ⟨rfl, hi, b2, acc, ys, rs, cp, A2⟩
    have upw : Up φ φ' H1 H2 := fun a o p e => ⟨⟨p, ne_of_none e hD⟩, b2.keep a o p e⟩
    have fr2 : Frm φ' H2 := A2.fr
    obtain ⟨wg, wstop⟩ := w φ' i H2 upw fr2
    by_cases hlt : i < ds.length
    · have hd : ds[i]? = some ds[i] := List.getElem?_eq_getElem hlt
      obtain ⟨go, yl⟩ := wg _ hd
      refine .inr ⟨go, fun H3 => But φ H1 H3 ∧ ∃ acc ys, Reps K φ' H3 ys acc ∧ Comp pt pe (ds.take (i + 1)) ys ∧ At K φ' (fun H => J H ∧ H D0 = some (.lst acc)) (wipeR ρ ws) (L2.wipe σ ws) H3, ?_, ?_⟩
      · rintro H3 ⟨b3, acc3, ys3, r3, c3, A3⟩
        exact ⟨ds.length - (i + 1), by omega, rfl, hlt, b3, acc3, ys3, r3, c3, A3⟩
      · intro x H3 hy
        obtain ⟨s3, r3⟩ := yl x H3 hy
        have A3 := A2.same s3
        have rs3 := rs.mono (But.of (φ := φ') s3)
        have b3 : But φ H1 H3 := b2.trans (But.of s3)
        have hmem : ds[i] ∈ ds := List.getElem_mem hlt
        have tk : ds.take (i + 1) = ds.take i ++ [ds[i]] := by rw [List.take_add_one, hd]; rfl
        refine hg ds pd _ hmem φ' _ _ H3 x A3 r3 _ fun σ4 A4 hw4 => ⟨?_, ?_⟩
        · rw [hw4 ws hu]
          exact wipe_wipe ws
        · refine ht ds pd _ hmem φ' _ (ext acc) σ4 H3 A4 _ fun bb H5 b5 A5 hp => ?_
          have b35 : But φ H1 H5 := ⟨fun a o p e => b5.keep a o ⟨p, ne_of_none e hD⟩ (b3.keep a o p e), fun a h => b5.tr a (b3.tr a h)⟩
          have A5' : At K φ' (fun H => J H ∧ H D0 = some (.lst acc)) (wipeR ρ ws) (L2.wipe σ ws) H5 := ⟨A3.sr.up (Up.of b5), A5.fr, A5.j, A5.mono⟩
          cases bb with
          | false =>
            rw [if_neg (by simp)]
            exact ⟨b35, acc, ys, rs3.mono b5, by rw [tk]; exact cp.snoc0 hp, A5'⟩
          | true =>
            rw [if_pos rfl]
            refine he ds pd _ hmem hp φ' _ (ext acc) σ4 H5 A5 _ fun v d H6 b6 A6 pv r6 => ?_
            have rl := (rs3.mono b5).mono b6
            have nD : ¬ φ' D0 := fun z => z.2 rfl
            have cl := cp.len
            refine ⟨acc, A6.j.2, ?_, ?_, acc ++ [v], ys ++ [d], ?_, by rw [tk]; exact cp.snoc1 hp pv, ?_⟩
            · rw [rl.length]
              have h1 := hl ds pd
              rw [List.length_take] at cl
              exact szlt (by omega)
            · refine ⟨fun a o p e => ?_, fun a h => upd_tr a (b6.tr a (b35.tr a h))⟩
              have ne := ne_of_none e hD
              rw [upd_ne ne]
              exact b6.keep a o ⟨p, ne⟩ (b35.keep a o p e)
            · exact (rl.append (Reps.cons r6 Reps.nil)).mono ((But.refl φ' H6).upd nD)
            · have A6' : At K φ' (fun H => J H ∧ H D0 = some (.lst acc)) (wipeR ρ ws) (L2.wipe σ ws) H6 := ⟨A5'.sr.up (Up.of b6), A6.fr, A6.j, A6.mono⟩
              have jj : J (upd H6 D0 (.lst (acc ++ [v]))) := A1.mono H6 _ (fun a o h e => by
                rw [upd_ne (show a ≠ D0 from fun z => h (by rw [z]; exact hD))]
                exact e) A6.j.1
              exact A6'.upd nD ⟨jj, upd_same⟩ (mono _ _ (fun a h => upd_tr a (b6.tr a (b35.tr a h))) (by rw [upd_same]; exact fun z => by cases z))
    · have e : i = ds.length := by omega
      subst e
      refine .inl ⟨wstop rfl, ?_⟩
      rw [List.take_length] at cp
      have A3 : At K φ J ρ σ H2 := ⟨A1.sr.up (Up.of b2), A2.fr.fst, A2.j.1, A1.mono.up b2.tr⟩
      refine q _ (.lst ys) H2 (b1.trans b2) A3 ⟨ds, ys, pd, rfl, cp⟩ ⟨D0, acc, rfl, .inl ⟨A1.fr D0 hD, .inl A2.j.2⟩, ?_⟩
      exact Reps.up (fun a o p e => ⟨p.1, e⟩) ys acc rs
end
end DL
namespace DL
open PySem PySem.Spec PyProof.Rows L2

section
variable {K : PySem.W.Frag} {φ φ' : Addr → Prop} {J J' : Hp → Prop} {H H' H1 : Hp} {ρ ρ' : List (Option D)} {σ : L2.St} {ta tb te tc : TE} {x y z d : D} {P Pa Pb Pc : D → Prop} {i j : Int} {b c : Bool} {ds es : List D} {v : V} {vs : List V} {a : Addr} {D0 : Ends} {t u : TS}

/-! ### comprehensions, by one name -/
/-- [e for x in ds]: all by f -/
theorem ev_lc {wi : TI} {te : TE} {k : Nat} {f : D → D} (hi : IterD K φ J wi ρ ds) (hl : ds.length ≤ 1000000) (he : ∀ d ∈ ds, ∀ φ' J', Ext φ J φ' J' → EvD K φ' J' te ((wipeR ρ [k]).set k (some d)) (f d)) :
    EvD K φ J (tLc wi (gName k) tYes te [k]) ρ (.lst (ds.map f)) :=
  (ev_lcP (ρd := fun d => (wipeR ρ [k]).set k (some d)) (us := [k]) (pt := fun _ b => b = true) (pe := fun d y => y = f d) hi (fun ds' e => by rw [e]; exact hl) (fun _ h => h) (fun _ _ d _ => eg_name)
    (fun _ _ d _ φ' J' _ σ H A Q q => q true H (But.refl _ _) A rfl) (fun ds' e d hd _ φ' J' x => he d (e ▸ hd) φ' J' x)).imp fun z ⟨ds', ys, e1, e2, c⟩ => by
      subst e1
      rw [e2, c.map]
/-- [e for x in ds if t] -/
theorem ev_lcF {wi : TI} {tt : TT} {te : TE} {k : Nat} {p : D → Bool} {f : D → D} (hi : IterD K φ J wi ρ ds) (hl : ds.length ≤ 1000000) (ht : ∀ d ∈ ds, ∀ φ' J', Ext φ J φ' J' → EvX K φ' J' tt ((wipeR ρ [k]).set k (some d)) (p d))
    (he : ∀ d ∈ ds, p d = true → ∀ φ' J', Ext φ J φ' J' → EvD K φ' J' te ((wipeR ρ [k]).set k (some d)) (f d)) :
    EvD K φ J (tLc wi (gName k) tt te [k]) ρ (.lst ((ds.filter p).map f)) :=
  (ev_lcP (ρd := fun d => (wipeR ρ [k]).set k (some d)) (us := [k]) (pt := fun d b => b = p d) (pe := fun d y => y = f d) hi (fun ds' e => by rw [e]; exact hl) (fun _ h => h) (fun _ _ d _ => eg_name)
    (fun ds' e d hd φ' J' x => ht d (e ▸ hd) φ' J' x) (fun ds' e d hd pd φ' J' x => he d (e ▸ hd) pd.symm φ' J' x)).imp fun z ⟨ds', ys, e1, e2, c⟩ => by
      subst e1
      rw [e2, c.filter]
theorem et_yes : EvT K φ J tYes ρ (fun b => b = true) := fun σ H A Q q => q true H (But.refl _ _) A rfl
/-- any element: a property of each -/
theorem ev_lcE {wi : TI} {te : TE} {k : Nat} {Pi : List D → Prop} {pe : D → D → Prop} (hi : IterP K φ J wi ρ Pi) (hl : ∀ ds, Pi ds → ds.length ≤ 1000000) (he : ∀ ds, Pi ds → ∀ d ∈ ds, ∀ φ' J', Ext φ J φ' J' → EvP K φ' J' te ((wipeR ρ [k]).set k (some d)) (pe d)) :
    EvP K φ J (tLc wi (gName k) tYes te [k]) ρ (fun z => ∃ ds ys, Pi ds ∧ z = .lst ys ∧ Comp (fun _ b => b = true) pe ds ys) :=
  ev_lcP (ρd := fun d => (wipeR ρ [k]).set k (some d)) (us := [k]) hi hl (fun _ h => h) (fun _ _ d _ => eg_name) (fun _ _ d _ φ' J' _ => et_yes) (fun ds' e d hd _ φ' J' x => he ds' e d hd φ' J' x)

/-! ### statements -/
theorem q (h : t { D0 with nx := u D0 } σ H) : tSeq t u D0 σ H := h
theorem st_next (h : D0.nx σ H) : tNext D0 σ H := h
theorem st_asg {k : Nat} (A : At K φ J ρ σ H) (h : EvP K φ J te ρ P) (kk : ∀ d σ' H', P d → At K φ J (ρ.set k (some d)) σ' H' → D0.nx σ' H') : tAsg te (gName k) D0 σ H :=
  h σ H A _ fun v d H' b A' pd r => kk d _ H' pd (A'.set k r)
/-- .. where the value is known -/
theorem st_set {k : Nat} (A : At K φ J ρ σ H) (h : EvD K φ J te ρ d) (kk : ∀ σ' H', At K φ J (ρ.set k (some d)) σ' H' → D0.nx σ' H') : tAsg te (gName k) D0 σ H :=
  st_asg A h fun d' σ' H' e A' => kk σ' H' (e ▸ A')
theorem st_asgG {g : TG} {us : List Nat} {ρ2 : D → List (Option D)} (A : At K φ J ρ σ H) (h : EvP K φ J te ρ P) (hg : ∀ d, P d → EvG K g d ρ (ρ2 d) us) (kk : ∀ d σ' H', P d → At K φ J (ρ2 d) σ' H' → D0.nx σ' H') : tAsg te g D0 σ H :=
  h σ H A _ fun v d H' b A' pd r => hg d pd φ J σ H' v A' r _ fun σ' A2 _ => kk d σ' H' pd A2
theorem st_ret (A : At K φ J ρ σ H) (h : EvP K φ J te ρ P) (kk : ∀ v d H', P d → At K φ J ρ σ H' → Rep K φ H' d v → D0.rt v H') : tRet te D0 σ H :=
  h σ H A _ fun v d H' b A' pd r => kk v d H' pd A' r
theorem st_retN (h : D0.rt .non H) : tRetN D0 σ H := h
theorem st_drop (A : At K φ J ρ σ H) (h : EvP K φ J te ρ P) (kk : ∀ d H', P d → At K φ J ρ σ H' → D0.nx σ H') : tDrop te D0 σ H :=
  h σ H A _ fun v d H' b A' pd r => kk d H' pd A'
theorem st_if {tt : TT} {p : Bool → Prop} (A : At K φ J ρ σ H) (h : EvT K φ J tt ρ p) (k1 : p true → ∀ H', At K φ J ρ σ H' → t D0 σ H') (k2 : p false → ∀ H', At K φ J ρ σ H' → u D0 σ H') : tIfS tt t u D0 σ H :=
  h σ H A _ fun b H' bt A' pb => by
    cases b with
    | true =>
      rw [if_pos rfl]
      exact k1 pb H' A'
    | false =>
      rw [if_neg (by simp)]
      exact k2 pb H' A'
/-- the test is known -/
theorem st_yes {tt : TT} (A : At K φ J ρ σ H) (h : EvX K φ J tt ρ b) (e : b = true) (k1 : ∀ H', At K φ J ρ σ H' → t D0 σ H') : tIfS tt t u D0 σ H :=
  st_if A h (fun _ H' A' => k1 H' A') fun z => by rw [e] at z; cases z
theorem st_no {tt : TT} (A : At K φ J ρ σ H) (h : EvX K φ J tt ρ b) (e : b = false) (k2 : ∀ H', At K φ J ρ σ H' → u D0 σ H') : tIfS tt t u D0 σ H :=
  st_if A h (fun z => by rw [e] at z; cases z) fun _ H' A' => k2 H' A'
theorem st_aug {k : Nat} {f : Int → Int → Int} (A : At K φ J ρ σ H) (hx : ρ[k]? = some (some (.int i))) (h : EvD K φ J te ρ (.int j)) (kk : ∀ σ' H', At K φ J (ρ.set k (some (.int (f i j)))) σ' H' → D0.nx σ' H') : tAug k te (ipI f) D0 σ H := by
  obtain ⟨v, e, r⟩ := A.sr.2 k _ hx
  cases (show v = _ from r)
  refine ⟨_, e, h σ H A _ fun w d H' b A' pd r' => ?_⟩
  subst pd
  exact ⟨i, j, rfl, r', kk _ H' (A'.set k rfl)⟩

/-! ### for -/
def NX (K : PySem.W.Frag) (φ : Addr → Prop) (H1 : Hp) (Inv : Nat → List (Option D) → (Hp → Prop) → Prop) (i : Nat) : L2.St → Hp → Prop := fun σ H => ∃ ρ'' J'', Inv i ρ'' J'' ∧ At K φ (fun H => J'' H ∧ But φ H1 H) ρ'' σ H
theorem NX.go {Inv : Nat → List (Option D) → (Hp → Prop) → Prop} {n : Nat} (A : At K φ (fun H => J H ∧ But φ H1 H) ρ σ H) (h : Inv n ρ J) : NX K φ H1 Inv n σ H := ⟨ρ, J, h, A⟩
theorem Ext.but {H1 : Hp} (h : ∀ p s ns, Pooled φ J p s ns → H1 p ≠ none) : Ext φ J φ (fun H => J H ∧ But φ H1 H) := ⟨fun _ h => h.1, fun p s ns hp => ⟨hp.np, hp.ne, fun H h => hp.ok H h.1, fun H H' hh k o => ⟨hp.st H H' hh.1 k o, ⟨fun a u pa e => k a u (fun z => hp.np (z ▸ pa)) (hh.2.keep a u pa e), fun a ha => by
  by_cases z : a = p
  · subst z
    obtain ⟨_, _, _, _, e, _⟩ := o
    rw [e]
    exact fun z => by cases z
  · cases e : H a with
    | none => exact absurd e (hh.2.tr a ha)
    | some u => rw [k a u z e]; exact fun z => by cases z⟩⟩⟩, fun _ p _ => p⟩
theorem Ext.but' {H1 : Hp} : Ext φ J φ (fun H => J H ∧ But φ H1 H) := ⟨fun _ h => h.1, fun p s ns hp => ⟨hp.np, hp.ne, fun H h => hp.ok H h.1, fun H H' hh k o => ⟨hp.st H H' hh.1 k o, ⟨fun a u pa e => k a u (fun z => hp.np (z ▸ pa)) (hh.2.keep a u pa e), fun a ha => by
  by_cases z : a = p
  · subst z
    obtain ⟨_, _, _, _, e, _⟩ := o
    rw [e]
    exact fun z => by cases z
  · cases e : H a with
    | none => exact absurd e (hh.2.tr a ha)
    | some u => rw [k a u z e]; exact fun z => by cases z⟩⟩⟩, fun _ p _ => p⟩
def ForG (K : PySem.W.Frag) (φ : Addr → Prop) (g : TG) (tb : TS) (ds : List D) (D0 : Ends) (σ : L2.St) (H1 : Hp) : Prop := ∀ J0, Walks K φ J0 H1 ds → ∃ W : Nat → Nat → L2.St → Hp → Prop, (∃ m, W 0 m σ H1) ∧ ∀ i m σ H, W i m σ H →
  (J0.stop i H ∧ D0.nx σ H) ∨ (J0.go i H ∧ ∃ N : L2.St → Hp → Prop, (∀ σ' H', N σ' H' → ∃ m', m' < m ∧ W (i + 1) m' σ' H') ∧ ∀ x H', J0.yld i H x H' → g x σ H' fun σ2 H2 => tb { D0 with nx := N, ct := N, bk := D0.nx } σ2 H2)
theorem st_forP {wi : TI} {g : TG} {tb : TS} {Pi : List D → Prop} (A : At K φ J ρ σ H) (hi : IterP K φ J wi ρ Pi) (k : ∀ ds H1, Pi ds → At K φ J ρ σ H1 → ForG K φ g tb ds D0 σ H1) : tFor wi g tb D0 σ H :=
  hi σ H A _ fun J0 ds H1 b A1 pd w => k ds H1 pd A1 J0 w
theorem forG_by {g : TG} {tb : TS} (A : At K φ J ρ σ H1) (Inv : Nat → List (Option D) → (Hp → Prop) → Prop) (h0 : Inv 0 ρ J)
    (hs : ∀ i d ρ' J', ds[i]? = some d → Inv i ρ' J' → ∃ ρ2 us, EvG K g d ρ' ρ2 us ∧ ∀ σ' H', At K φ (fun H => J' H ∧ But φ H1 H) ρ2 σ' H' → tb { D0 with nx := NX K φ H1 Inv (i + 1), ct := NX K φ H1 Inv (i + 1), bk := D0.nx } σ' H')
    (hd : ∀ ρ' J' σ' H', Inv ds.length ρ' J' → At K φ (fun H => J' H ∧ But φ H1 H) ρ' σ' H' → D0.nx σ' H') : ForG K φ g tb ds D0 σ H1 := fun J0 w => by
  refine ⟨fun i m σ H => m = ds.length - i ∧ i ≤ ds.length ∧ NX K φ H1 Inv i σ H, ⟨ds.length, rfl, Nat.zero_le _, ρ, J, h0, A.live ⟨A.j, But.refl _ _⟩ (A.mono.and (Mo.but fun _ h => h))⟩, ?_⟩
  rintro i m σ2 H2 ⟨rfl, hi, ρ2, J2, inv, A2⟩
  obtain ⟨wg, ws⟩ := w φ i H2 (Up.of A2.j.2) A2.fr
  by_cases hlt : i < ds.length
  · have hx : ds[i]? = some ds[i] := List.getElem?_eq_getElem hlt
    obtain ⟨go, yl⟩ := wg _ hx
    obtain ⟨ρ3, us, eg, body⟩ := hs i _ ρ2 J2 hx inv
    refine .inr ⟨go, NX K φ H1 Inv (i + 1), fun σ' H' n => ⟨ds.length - (i + 1), by omega, rfl, hlt, n⟩, fun x H3 hy => ?_⟩
    obtain ⟨s3, r3⟩ := yl x H3 hy
    exact eg φ _ σ2 H3 x (A2.same s3) r3 _ fun σ4 A4 _ => body σ4 H3 A4
  · have e : i = ds.length := by omega
    subst e
    exact .inl ⟨ws rfl, hd ρ2 J2 σ2 H2 inv A2⟩
/-- by one name -/
theorem st_for {wi : TI} {tb : TS} {k : Nat} (A : At K φ J ρ σ H) (hi : IterD K φ J wi ρ ds) (Inv : Nat → List (Option D) → (Hp → Prop) → Prop) (h0 : Inv 0 ρ J)
    (hs : ∀ H1 i d ρ' J', But φ H H1 → J H1 → ds[i]? = some d → Inv i ρ' J' → ∀ σ' H', At K φ (fun H => J' H ∧ But φ H1 H) (ρ'.set k (some d)) σ' H' → tb { D0 with nx := NX K φ H1 Inv (i + 1), ct := NX K φ H1 Inv (i + 1), bk := D0.nx } σ' H')
    (hd : ∀ H1 ρ' J' σ' H', But φ H H1 → J H1 → Inv ds.length ρ' J' → At K φ (fun H => J' H ∧ But φ H1 H) ρ' σ' H' → D0.nx σ' H') : tFor wi (gName k) tb D0 σ H :=
  hi σ H A _ fun J0 ds' H1 b A1 pd w => by
    subst pd
    exact forG_by (D0 := D0) A1 Inv h0 (fun i d ρ' J' hx inv => ⟨_, _, eg_name, fun σ' H' A' => hs H1 i d ρ' J' b A1.j hx inv σ' H' A'⟩) (fun ρ' J' σ' H' inv A' => hd H1 ρ' J' σ' H' b A1.j inv A') J0 w
/-- by a target of any form -/
theorem st_forT {wi : TI} {tb : TS} {g : TG} {us : List Nat} {ρt : D → List (Option D) → List (Option D)} (A : At K φ J ρ σ H) (hi : IterD K φ J wi ρ ds) (Inv : Nat → List (Option D) → (Hp → Prop) → Prop) (h0 : Inv 0 ρ J)
    (hg : ∀ i d ρ' J', ds[i]? = some d → Inv i ρ' J' → EvG K g d ρ' (ρt d ρ') us)
    (hs : ∀ H1 i d ρ' J', But φ H H1 → J H1 → ds[i]? = some d → Inv i ρ' J' → ∀ σ' H', At K φ (fun H => J' H ∧ But φ H1 H) (ρt d ρ') σ' H' → tb { D0 with nx := NX K φ H1 Inv (i + 1), ct := NX K φ H1 Inv (i + 1), bk := D0.nx } σ' H')
    (hd : ∀ H1 ρ' J' σ' H', But φ H H1 → J H1 → Inv ds.length ρ' J' → At K φ (fun H => J' H ∧ But φ H1 H) ρ' σ' H' → D0.nx σ' H') : tFor wi g tb D0 σ H :=
  hi σ H A _ fun J0 ds' H1 b A1 pd w => by
    subst pd
    exact forG_by (D0 := D0) A1 Inv h0 (fun i d ρ' J' hx inv => ⟨_, _, hg i d ρ' J' hx inv, fun σ' H' A' => hs H1 i d ρ' J' b A1.j hx inv σ' H' A'⟩) (fun ρ' J' σ' H' inv A' => hd H1 ρ' J' σ' H' b A1.j inv A') J0 w
theorem st_while {tt : TT} {tb : TS} (A : At K φ J ρ σ H) (Inv : Nat → List (Option D) → (Hp → Prop) → Prop) (m0 : Nat) (h0 : Inv m0 ρ J)
    (hs : ∀ m ρ' J', Inv m ρ' J' → ∃ p, EvT K φ (fun H1 => J' H1 ∧ But φ H H1) tt ρ' p ∧
      (p true → ∀ σ' H', At K φ (fun H1 => J' H1 ∧ But φ H H1) ρ' σ' H' → ∀ N : L2.St → Hp → Prop, (∀ m' σ' H', m' < m → NX K φ H Inv m' σ' H' → N σ' H') → tb { D0 with nx := N, ct := N, bk := D0.nx } σ' H') ∧
      (p false → ∀ σ' H', At K φ (fun H1 => J' H1 ∧ But φ H H1) ρ' σ' H' → D0.nx σ' H')) : tWhile tt tb D0 σ H := by
  refine ⟨NX K φ H Inv, ⟨m0, ρ, J, h0, A.live ⟨A.j, But.refl _ _⟩ (A.mono.and (Mo.but fun _ h => h))⟩, ?_⟩
  rintro m σ2 H2 ⟨ρ2, J2, inv, A2⟩
  obtain ⟨p, ht, h1, h2⟩ := hs m ρ2 J2 inv
  refine ht σ2 H2 A2 _ fun b H3 b3 A3 pb => ?_
  cases b with
  | true =>
    rw [if_pos rfl]
    exact ⟨fun σ' H' => ∃ m', m' < m ∧ NX K φ H Inv m' σ' H', fun σ' H' n => n, h1 pb σ2 H3 A3 _ fun m' σ' H' l n => ⟨m', l, n⟩⟩
  | false =>
    rw [if_neg (by simp)]
    exact h2 pb σ2 H3 A3

/-! ### defs of pure values -/
/-- the promise: a relation of trees -/
def SpD (K : PySem.W.Frag) (n : Nat) (R : List D → D → Prop) : Sp := fun vs H Q _ => ∃ φ ds d, ds.length = n ∧ Reps K φ H ds vs ∧ Frm φ H ∧ R ds d ∧ ∀ v H', Same H H' → Rep K φ H' d v → Q v H'
theorem ev_call {n : Nat} {R : List D → D → Prop} {E : XK} {ta : TA} {Pr : List D → Prop} (ha : EvA K φ J ta ρ Pr) (hr : ∀ ds, Pr ds → ∃ d, ds.length = n ∧ R ds d ∧ P d) : EvP K φ J (tCall (SpD K n R) [] E ta) ρ P := fun σ H A Q q =>
  ha σ H A _ fun vs ds H1 b1 A1 pd r1 => by
    obtain ⟨d, hl, hd, pd'⟩ := hr ds pd
    refine ⟨φ, ds, d, hl, by rw [List.append_nil]; exact r1, A1.fr, hd, fun v H' s r => ?_⟩
    exact q v d H' (b1.trans (But.of s)) (A1.same s) pd' r
theorem ev_callD {n : Nat} {R : List D → D → Prop} {E : XK} {ta : TA} (ha : EvAD K φ J ta ρ ds) (hr : R ds d) (hl : ds.length = n := by rfl) : EvD K φ J (tCall (SpD K n R) [] E ta) ρ d := ev_call ha fun ds' e => ⟨d, by rw [e]; exact hl, by rw [e]; exact hr, rfl⟩
section
variable {PP : Program} {w : World} {mg : Str → Option Value} {base : Heap}
/-- a def keeps the promise, by its body's reading -/
theorem fn_ok {x qual : Str} {st : Stmt} {f : Addr} {fd : FuncData} {N ps : List Str} {k n : Nat} {R : List D → D → Prop} (F : Fun K x qual st f fd) (S : FnScope N ps (defScope st)) (hn : ps.length = n) (m : Nat) (hm : N.length = n + m)
    (hbody : ∀ (cdv : Value) (A : Around) (outer : List Env) (s : Shared) (H : Hp) (E : XK), Room k (A.deeper (envOfC qual (defScope st) s.heap.objs.size f cdv)) →
      ∃ t, PSs (cxOf CX0 PP w K mg base N qual (defScope st) f cdv A outer s H E).nox (defBody st) t ∧
        ∀ (φ : Addr → Prop) (ds : List D) (d : D) (H : Hp) (D0 : Ends) (σ : L2.St), ds.length = n → R ds d → (∀ v H', Same H H' → Rep K φ H' d v → D0.rt v H') → (d = .non → ∀ H', Same H H' → ∀ σ', D0.nx σ' H') → At K φ (Same H) (ds.map some ++ List.replicate m none) σ H → t D0 σ H) :
    FnOk PP w K mg base CX0 (k + 1) f fd ps (SpD K n R) := by
  refine F.ok S (fun vs H Q E h => ?_) (fun cdv A outer s H vs Q E hr h => ?_)
  · obtain ⟨φ, ds, d, hl, r, _⟩ := h
    rw [r.length, hl, hn]
  · obtain ⟨φ, ds, d, hl, r, fr, hd, q⟩ := h
    obtain ⟨t, ht, run⟩ := hbody cdv A outer s H E hr
    refine ⟨t, ht, run φ ds d H _ _ hl hd (fun v H' s r => q v H' s r) (fun e H' s σ' => q .non H' s (by rw [e]; rfl)) ⟨?_, fr, Same.refl H, Mo.sames fun _ h => h⟩⟩
    have e : N.length - vs.length = m := by rw [hm, r.length, hl]; omega
    unfold L2.start
    rw [e]
    exact SR.start r
end

theorem Frm.butP {φ : Addr → Prop} {H H' : Hp} {p s : Addr} {ns : List Int} (F : Frm φ H) (bp : ButP p H H') (po : PoolOk p s ns H') (tr : ∀ a, H a ≠ none → H' a ≠ none) : Frm φ H' := ⟨fun a h => F.new a (by
  cases e : H a with
  | none => rfl
  | some u => exact absurd h (tr a (by rw [e]; exact fun z => by cases z))), fun a xs h => by
  cases e : H a with
  | none => exact F.new a e
  | some u =>
    by_cases ea : a = p
    · subst ea
      obtain ⟨_, _, _, _, e1, _⟩ := po
      rw [e1] at h
      cases h
    · have z := bp a u ea e
      rw [h] at z
      cases z
      exact F.tup a xs e⟩
/-! ### draws -/
def spDraw : Sp := fun vs H Q _ => ∃ p s ns n, vs = [.ref p, .int n] ∧ PoolOk p s ns H ∧ s ≠ p ∧ 0 < n ∧ n < 4294967296 ∧ ∀ r H', 0 ≤ r → r < n → ButP p H H' → PoolOk p s ns H' → Q (.int r) H'
theorem butP_but {p : Addr} (h : ButP p H H') (np : ¬ φ p) {s : Addr} {ns : List Int} (o : PoolOk p s ns H') : But φ H H' := ⟨fun a u pa e => h a u (fun z => np (z ▸ pa)) e, fun a ha => by
  by_cases z : a = p
  · subst z
    obtain ⟨_, _, _, _, e, _⟩ := o
    rw [e]
    exact fun z => by cases z
  · cases e : H a with
    | none => exact absurd e ha
    | some u => rw [h a u z e]; exact fun z => by cases z⟩
theorem ev_draw {E : XK} {p s : Addr} {ns : List Int} {n : Int} {k : Nat} (hp : Pooled φ J p s ns) (hk : ρ[k]? = some (some (.raw (.ref p)))) (he : EvD K φ J te ρ (.int n)) (h0 : 0 < n) (h1 : n < 4294967296) :
    EvI K φ J (tCall spDraw [] E (tCons (tVar k) (tCons te tNil))) ρ (fun r => 0 ≤ r ∧ r < n) := fun σ H A Q q =>
  ev_var hk σ H A _ fun v d H1 b1 A1 e1 r1 => he σ H1 A1 _ fun v2 d2 H2 b2 A2 e2 r2 => by
    subst e1 e2
    cases (show v = _ from r1)
    cases (show v2 = _ from r2)
    refine ⟨p, s, ns, n, rfl, hp.ok _ A2.j, hp.ne, h0, h1, fun r H' g0 g1 bp po => ?_⟩
    have bt : But φ H2 H' := butP_but bp hp.np po
    have bt' : ∀ a, H2 a ≠ none → H' a ≠ none := bt.tr
    refine q _ (.int r) H' ((b1.trans b2).trans bt) ⟨A2.sr.up (Up.of bt), A2.fr.butP bp po bt', hp.st _ _ A2.j bp po, A2.mono.up bt'⟩ ⟨r, rfl, g0, g1⟩ rfl
/-- where the bound is drawn too -/
theorem ev_drawP {E : XK} {p s : Addr} {ns : List Int} {pn : Int → Prop} {k : Nat} (hp : Pooled φ J p s ns) (hk : ρ[k]? = some (some (.raw (.ref p)))) (he : EvI K φ J te ρ pn) (h0 : ∀ n, pn n → 0 < n ∧ n < 4294967296) :
    EvI K φ J (tCall spDraw [] E (tCons (tVar k) (tCons te tNil))) ρ (fun r => 0 ≤ r ∧ ∃ n, pn n ∧ r < n) := fun σ H A Q q =>
  ev_var hk σ H A _ fun v d H1 b1 A1 e1 r1 => he σ H1 A1 _ fun v2 d2 H2 b2 A2 ⟨n, e2, hn⟩ r2 => by
    subst e1 e2
    cases (show v = _ from r1)
    cases (show v2 = _ from r2)
    refine ⟨p, s, ns, n, rfl, hp.ok _ A2.j, hp.ne, (h0 n hn).1, (h0 n hn).2, fun r H' g0 g1 bp po => ?_⟩
    have bt : But φ H2 H' := butP_but bp hp.np po
    have bt' : ∀ a, H2 a ≠ none → H' a ≠ none := bt.tr
    refine q _ (.int r) H' ((b1.trans b2).trans bt) ⟨A2.sr.up (Up.of bt), A2.fr.butP bp po bt', hp.st _ _ A2.j bp po, A2.mono.up bt'⟩ ⟨r, rfl, g0, n, hn, g1⟩ rfl
/-! P-mode operators on ints -/
theorem ei_add {p q : Int → Prop} (ha : EvI K φ J ta ρ p) (hb : EvI K φ J tb ρ q) : EvI K φ J (tOp (rI0 fun i j => .int (i + j)) ta tb) ρ (fun k => ∃ i j, p i ∧ q j ∧ k = i + j) := ev_op ha hb fun x y ⟨i, e1, pi⟩ ⟨j, e2, qj⟩ => by
  subst e1 e2
  exact fun H v w _ r1 r2 Q k => ⟨i, j, r1, r2, k _ _ H (Same.refl H) ⟨_, rfl, i, j, pi, qj, rfl⟩ rfl⟩
theorem ei_sub {p q : Int → Prop} (ha : EvI K φ J ta ρ p) (hb : EvI K φ J tb ρ q) : EvI K φ J (tOp (rI0 fun i j => .int (i - j)) ta tb) ρ (fun k => ∃ i j, p i ∧ q j ∧ k = i - j) := ev_op ha hb fun x y ⟨i, e1, pi⟩ ⟨j, e2, qj⟩ => by
  subst e1 e2
  exact fun H v w _ r1 r2 Q k => ⟨i, j, r1, r2, k _ _ H (Same.refl H) ⟨_, rfl, i, j, pi, qj, rfl⟩ rfl⟩
theorem ei_mul {p q : Int → Prop} (ha : EvI K φ J ta ρ p) (hb : EvI K φ J tb ρ q) (hc : ∀ i j, p i → q j → CMul i j) : EvI K φ J (tOp (rI CMul fun i j => .int (i * j)) ta tb) ρ (fun k => ∃ i j, p i ∧ q j ∧ k = i * j) := ev_op ha hb fun x y ⟨i, e1, pi⟩ ⟨j, e2, qj⟩ => by
  subst e1 e2
  exact fun H v w _ r1 r2 Q k => ⟨i, j, r1, r2, hc i j pi qj, k _ _ H (Same.refl H) ⟨_, rfl, i, j, pi, qj, rfl⟩ rfl⟩
theorem eb_cmp {f : Int → Int → Bool} {p q : Int → Prop} (ha : EvI K φ J ta ρ p) (hb : EvI K φ J tb ρ q) : EvB K φ J (tOp (rI0 fun i j => .bl (f i j)) ta tb) ρ (fun k => ∃ i j, p i ∧ q j ∧ k = f i j) := ev_op ha hb fun x y ⟨i, e1, pi⟩ ⟨j, e2, qj⟩ => by
  subst e1 e2
  exact fun H v w _ r1 r2 Q k => ⟨i, j, r1, r2, k _ _ H (Same.refl H) ⟨_, rfl, i, j, pi, qj, rfl⟩ rfl⟩
theorem eb_eq {p q : Int → Prop} (ha : EvI K φ J ta ρ p) (hb : EvI K φ J tb ρ q) : EvB K φ J (tOp rEq ta tb) ρ (fun k => ∃ i j, p i ∧ q j ∧ k = decide (i = j)) := ev_op ha hb fun x y ⟨i, e1, pi⟩ ⟨j, e2, qj⟩ => by
  subst e1 e2
  exact fun H v w f r1 r2 Q k => o2_eqI (φ := φ) (K := K) H v w f r1 r2 Q fun u z H' s e r => k u z H' s ⟨_, e, i, j, pi, qj, rfl⟩ r
theorem ei_intB {p : Bool → Prop} (ha : EvB K φ J te ρ p) : EvI K φ J (tCB rInt1 (tCons te tNil)) ρ (fun k => ∃ b, p b ∧ k = if b then 1 else 0) := ev_cb (ea_consP ha ea_nil) fun ds ⟨d, r, e, ⟨b, e1, pb⟩, e2⟩ => by
  subst e e1 e2
  exact fun H vs f r Q k => cl_intB (K := K) (φ := φ) H vs f r Q fun u z H' s e r => k u z H' s ⟨_, e, b, pb, rfl⟩ r
end
end DL
namespace DL
open PySem PySem.Spec PyProof.Rows L2

/-- a def of the top as others call it -/
structure Lk (K : PySem.W.Frag) (mg : Str → Option Value) (x : Str) (f : Addr) (fd : FuncData) (ps : List Str) : Prop where
  m : mg x = some (.ref f)
  kp : PySem.W.keepIn K (.ref f) = true
  bi : Binds K fd ps []
section
variable {X : Cx} {x : Str} {pos : Pos}
/-- a built-in class as a value -/
theorem pe_ty {n : String} (hm : X.mg x = none) (hv : bootBuiltins x = some (.type n)) (hg : Gl X x := by rfl) (hn : x ≠ "__name__" := by decide) (hd : (x == ("__debug__" : Str)) = false := by decide) : PE X (.Name x pos) (tC (.ty n)) := pe_bltn hg hm hv rfl hn hd
/-- a constant of the module -/
theorem pe_cst {v : V} (h : ∃ u, X.mg x = some u ∧ RelV v u) (hg : Gl X x := by rfl) (hd : (x == ("__debug__" : Str)) = false := by decide) : PE X (.Name x pos) (tC v) := by
  obtain ⟨u, hm, r⟩ := h
  exact pe_glob hg hm r hd
end

def Stab (p : Addr) (J : Hp → Prop) : Prop := ∀ H o, J H → J (L2.upd H p o)
theorem Stab.and {p : Addr} {J J' : Hp → Prop} (a : Stab p J) (b : Stab p J') : Stab p (fun H => J H ∧ J' H) := fun H o h => ⟨a H o h.1, b H o h.2⟩
theorem Stab.but {p : Addr} {φ : Addr → Prop} {H0 : Hp} (h : ¬ φ p ∨ H0 p = none) : Stab p (But φ H0) := fun H o b => ⟨fun a u pa e => by
  have ne : a ≠ p := fun z => h.elim (fun n => n (z ▸ pa)) fun n => by rw [z, n] at e; cases e
  rw [upd_ne ne]
  exact b.keep a u pa e, fun a h => upd_tr a (b.tr a h)⟩
theorem Stab.at {p l : Addr} {u : HO} (h : l ≠ p) : Stab p (fun H => H l = some u) := fun H o e => by
  show L2.upd H p o l = some u
  rw [upd_ne h]
  exact e
theorem Stab.of {p : Addr} {J : Hp → Prop} {H0 : Hp} (m : Mo H0 J) (h : H0 p = none) : Stab p J := fun H o j => m H _ (fun a u ha e => by
  rw [upd_ne (show a ≠ p from fun z => ha (by rw [z]; exact h))]
  exact e) j

section
variable {K : PySem.W.Frag} {φ φ' : Addr → Prop} {J J' : Hp → Prop} {H H' H1 : Hp} {ρ ρ' : List (Option D)} {σ : L2.St} {ta tb te tc : TE} {x y z d : D} {P Pa Pb Pc : D → Prop} {i j : Int} {b c : Bool} {ds es : List D} {v : V} {vs : List V} {a : Addr} {D0 : Ends} {t u : TS}
/-- a new list comes out -/
def EvN (K : PySem.W.Frag) (φ : Addr → Prop) (J : Hp → Prop) (te : TE) (ρ : List (Option D)) (P : List D → Prop) : Prop := ∀ σ H, At K φ J ρ σ H → ∀ Q : VK, (∀ p vs ds H0 H', But φ H H0 → At K φ J ρ σ H0 → H0 p = none → But φ H0 H' → At K φ J ρ σ H' → P ds → H' p = some (.lst vs) → Reps K (fun a => φ a ∧ a ≠ p) H' ds vs → Q (.ref p) H') → te σ H Q
theorem ev_new {P : List D → Prop} (h : EvN K φ J te ρ P) : EvP K φ J te ρ (fun z => ∃ ds, z = .lst ds ∧ P ds) := fun σ H A Q q => h σ H A Q fun p vs ds H0 H' b0 A0 hp b A' pd e r =>
  q _ (.lst ds) H' (b0.trans b) A' ⟨ds, rfl, pd⟩ ⟨p, vs, rfl, .inl ⟨A0.fr p hp, .inl e⟩, Reps.up (fun a o p e => ⟨p.1, e⟩) ds vs r⟩
theorem ev_newD (h : EvN K φ J te ρ (fun x => x = ds)) : EvD K φ J te ρ (.lst ds) := (ev_new h).imp fun z ⟨ds', e, e2⟩ => by rw [e, e2]
theorem reps_new {p : Addr} {o : HO} (hp : H p = none) (r : Reps K φ H ds vs) : Reps K (fun a => φ a ∧ a ≠ p) (L2.upd H p o) ds vs :=
  Reps.up (fun a u q e => ⟨⟨q, ne_of_none e hp⟩, by rw [upd_ne (ne_of_none e hp)]; exact e⟩) ds vs r
theorem en_lst {ta : TA} {Pr : List D → Prop} (ha : EvA K φ J ta ρ Pr) (hl : ∀ r, Pr r → r.length ≤ 1000000) : EvN K φ J (tLst ta) ρ Pr := fun σ H A Q q =>
  ha σ H A _ fun vs ds H1 b1 A1 pd r1 => ⟨by rw [r1.length]; exact sz (hl _ pd), fun p hp => q p vs ds H1 _ b1 A1 hp (But.of (same_new hp)) (A1.same (same_new hp)) pd upd_same (reps_new hp r1)⟩
theorem en_lstD {ta : TA} (ha : EvAD K φ J ta ρ ds) (hl : ds.length ≤ 1000000 := by first | exact Nat.le_of_ble_eq_true rfl | decide) : EvN K φ J (tLst ta) ρ (fun x => x = ds) := en_lst ha fun r e => by rw [e]; exact hl
theorem en_list (ha : EvD K φ J te ρ (.lst ds)) : EvN K φ J (tCB (rListOf K) (tCons te tNil)) ρ (fun x => x = ds) := fun σ H A Q q => ha σ H A _ fun v d H1 b1 A1 e r => by
  subst e
  obtain ⟨a, vs, rfl, p, rs⟩ := rep_lst r
  exact ⟨a, vs, rfl, .inl p.sq, fun l hl => q l vs ds H1 _ b1 A1 hl (But.of (same_new hl)) (A1.same (same_new hl)) rfl upd_same (reps_new hl rs)⟩
theorem en_listT (ha : EvD K φ J te ρ (.tup ds)) : EvN K φ J (tCB (rListOf K) (tCons te tNil)) ρ (fun x => x = ds) := fun σ H A Q q => ha σ H A _ fun v d H1 b1 A1 e r => by
  subst e
  obtain ⟨a, vs, rfl, p, rs⟩ := rep_tup r
  exact ⟨a, vs, rfl, .inr p.sq, fun l hl => q l vs ds H1 _ b1 A1 hl (But.of (same_new hl)) (A1.same (same_new hl)) rfl upd_same (reps_new hl rs)⟩
theorem en_lcP {wi : TI} {g : TG} {tt : TT} {te : TE} {ws us : List Nat} {Pi : List D → Prop} {ρd : D → List (Option D)} {pt : D → Bool → Prop} {pe : D → D → Prop} (hi : IterP K φ J wi ρ Pi) (hl : ∀ ds, Pi ds → ds.length ≤ 1000000) (hu : ∀ i ∈ us, i ∈ ws)
    (hg : ∀ ds, Pi ds → ∀ d ∈ ds, EvG K g d (wipeR ρ ws) (ρd d) us)
    (ht : ∀ ds, Pi ds → ∀ d ∈ ds, ∀ φ' J', Ext φ J φ' J' → EvT K φ' J' tt (ρd d) (pt d))
    (he : ∀ ds, Pi ds → ∀ d ∈ ds, pt d true → ∀ φ' J', Ext φ J φ' J' → EvP K φ' J' te (ρd d) (pe d)) :
    EvN K φ J (tLc wi g tt te ws) ρ (fun ys => ∃ ds, Pi ds ∧ Comp pt pe ds ys) := fun σ H A Q q => by
  refine hi σ H A _ fun J0 ds H1 b1 A1 pd w => ?_
  intro D0 hD
  have neP : ∀ p s ns, Pooled φ J p s ns → p ≠ D0 := fun p s ns hp => by
    obtain ⟨a1, a2, a3, a4, h1, _⟩ := hp.ok _ A1.j
    exact ne_of_none h1 hD
  let φ' : Addr → Prop := fun a => φ a ∧ a ≠ D0
  have ext : ∀ acc : List V, Ext φ J φ' (fun H => J H ∧ H D0 = some (.lst acc)) := fun acc => ⟨fun _ h => h.1, fun p s ns hp => ⟨fun z => hp.np z.1, hp.ne, fun H h => hp.ok H h.1, fun H H' h k o => ⟨hp.st H H' h.1 k o, k _ _ (neP p s ns hp).symm h.2⟩⟩, fun a p h => ⟨p, fun e => h H1 A1.j (by rw [e]; exact hD)⟩⟩
  have mono : ∀ (acc : List V) (H2 : Hp), (∀ a, H1 a ≠ none → H2 a ≠ none) → H2 D0 ≠ none → Mo H2 (fun H => J H ∧ H D0 = some (.lst acc)) := fun acc H2 s h => (A1.mono.up s).and (Mo.at h)
  refine ⟨fun i m H2 => m = ds.length - i ∧ i ≤ ds.length ∧ But φ H1 H2 ∧ ∃ acc ys, Reps K φ' H2 ys acc ∧ Comp pt pe (ds.take i) ys ∧ At K φ' (fun H => J H ∧ H D0 = some (.lst acc)) (wipeR ρ ws) (L2.wipe σ ws) H2,
    ⟨ds.length, rfl, Nat.zero_le _, But.of (same_new hD), [], [], Reps.nil, .nil, ?_⟩, ?_⟩
  · have A2 := A1.newLive (o := .lst []) (J' := fun H => J H ∧ H D0 = some (.lst [])) hD ⟨A1.mono _ _ (fun a o _ e => same_new hD a o e) A1.j, upd_same⟩ (mono [] _ upd_tr (by rw [upd_same]; exact fun z => by cases z))
    exact ⟨A2.sr.wipe ws, A2.fr, A2.j, A2.mono⟩
  · rintro i m H2 ⟨rfl, hi, b2, acc, ys, rs, cp, A2⟩
    have upw : Up φ φ' H1 H2 := fun a o p e => ⟨⟨p, ne_of_none e hD⟩, b2.keep a o p e⟩
    have fr2 : Frm φ' H2 := A2.fr
    obtain ⟨wg, wstop⟩ := w φ' i H2 upw fr2
    by_cases hlt : i < ds.length
    · have hd : ds[i]? = some ds[i] := List.getElem?_eq_getElem hlt
      obtain ⟨go, yl⟩ := wg _ hd
      refine .inr ⟨go, fun H3 => But φ H1 H3 ∧ ∃ acc ys, Reps K φ' H3 ys acc ∧ Comp pt pe (ds.take (i + 1)) ys ∧ At K φ' (fun H => J H ∧ H D0 = some (.lst acc)) (wipeR ρ ws) (L2.wipe σ ws) H3, ?_, ?_⟩
      · rintro H3 ⟨b3, acc3, ys3, r3, c3, A3⟩
        exact ⟨ds.length - (i + 1), by omega, rfl, hlt, b3, acc3, ys3, r3, c3, A3⟩
      · intro x H3 hy
        obtain ⟨s3, r3⟩ := yl x H3 hy
        have A3 := A2.same s3
        have rs3 := rs.mono (But.of (φ := φ') s3)
        have b3 : But φ H1 H3 := b2.trans (But.of s3)
        have hmem : ds[i] ∈ ds := List.getElem_mem hlt
        have tk : ds.take (i + 1) = ds.take i ++ [ds[i]] := by rw [List.take_add_one, hd]; rfl
        refine hg ds pd _ hmem φ' _ _ H3 x A3 r3 _ fun σ4 A4 hw4 => ⟨?_, ?_⟩
        · rw [hw4 ws hu]
          exact wipe_wipe ws
        · refine ht ds pd _ hmem φ' _ (ext acc) σ4 H3 A4 _ fun bb H5 b5 A5 hp => ?_
          have b35 : But φ H1 H5 := ⟨fun a o p e => b5.keep a o ⟨p, ne_of_none e hD⟩ (b3.keep a o p e), fun a h => b5.tr a (b3.tr a h)⟩
          have A5' : At K φ' (fun H => J H ∧ H D0 = some (.lst acc)) (wipeR ρ ws) (L2.wipe σ ws) H5 := ⟨A3.sr.up (Up.of b5), A5.fr, A5.j, A5.mono⟩
          cases bb with
          | false =>
            rw [if_neg (by simp)]
            exact ⟨b35, acc, ys, rs3.mono b5, by rw [tk]; exact cp.snoc0 hp, A5'⟩
          | true =>
            rw [if_pos rfl]
            refine he ds pd _ hmem hp φ' _ (ext acc) σ4 H5 A5 _ fun v d H6 b6 A6 pv r6 => ?_
            have rl := (rs3.mono b5).mono b6
            have nD : ¬ φ' D0 := fun z => z.2 rfl
            have cl := cp.len
            refine ⟨acc, A6.j.2, ?_, ?_, acc ++ [v], ys ++ [d], ?_, by rw [tk]; exact cp.snoc1 hp pv, ?_⟩
            · rw [rl.length]
              have h1 := hl ds pd
              rw [List.length_take] at cl
              exact szlt (by omega)
            · refine ⟨fun a o p e => ?_, fun a h => upd_tr a (b6.tr a (b35.tr a h))⟩
              have ne := ne_of_none e hD
              rw [upd_ne ne]
              exact b6.keep a o ⟨p, ne⟩ (b35.keep a o p e)
            · exact (rl.append (Reps.cons r6 Reps.nil)).mono ((But.refl φ' H6).upd nD)
            · have A6' : At K φ' (fun H => J H ∧ H D0 = some (.lst acc)) (wipeR ρ ws) (L2.wipe σ ws) H6 := ⟨A5'.sr.up (Up.of b6), A6.fr, A6.j, A6.mono⟩
              have jj : J (upd H6 D0 (.lst (acc ++ [v]))) := A1.mono H6 _ (fun a o h e => by
                rw [upd_ne (show a ≠ D0 from fun z => h (by rw [z]; exact hD))]
                exact e) A6.j.1
              exact A6'.upd nD ⟨jj, upd_same⟩ (mono _ _ (fun a h => upd_tr a (b6.tr a (b35.tr a h))) (by rw [upd_same]; exact fun z => by cases z))
    · have e : i = ds.length := by omega
      subst e
      refine .inl ⟨wstop rfl, ?_⟩
      rw [List.take_length] at cp
      have A3 : At K φ J ρ σ H2 := ⟨A1.sr.up (Up.of b2), A2.fr.fst, A2.j.1, A1.mono.up b2.tr⟩
      exact q D0 acc ys H1 H2 b1 A1 hD b2 A3 ⟨ds, pd, cp⟩ A2.j.2 rs
theorem en_lc {wi : TI} {te : TE} {k : Nat} {f : D → D} (hi : IterD K φ J wi ρ ds) (hl : ds.length ≤ 1000000) (he : ∀ d ∈ ds, ∀ φ' J', Ext φ J φ' J' → EvD K φ' J' te ((wipeR ρ [k]).set k (some d)) (f d)) :
    EvN K φ J (tLc wi (gName k) tYes te [k]) ρ (fun x => x = ds.map f) := fun σ H A Q q =>
  (en_lcP (ρd := fun d => (wipeR ρ [k]).set k (some d)) (us := [k]) (pt := fun _ b => b = true) (pe := fun d y => y = f d) hi (fun ds' e => by rw [e]; exact hl) (fun _ h => h) (fun _ _ d _ => eg_name)
    (fun _ _ d _ φ' J' _ => et_yes) (fun ds' e d hd _ φ' J' x => he d (e ▸ hd) φ' J' x)) σ H A Q fun p vs ys H0 H' b0 A0 hp b A' pd e r => by
      obtain ⟨ds', e1, c⟩ := pd
      subst e1
      exact q p vs ys H0 H' b0 A0 hp b A' c.map e r
theorem en_lcE {wi : TI} {te : TE} {k : Nat} {Pi : List D → Prop} {pe : D → D → Prop} (hi : IterP K φ J wi ρ Pi) (hl : ∀ ds, Pi ds → ds.length ≤ 1000000) (he : ∀ ds, Pi ds → ∀ d ∈ ds, ∀ φ' J', Ext φ J φ' J' → EvP K φ' J' te ((wipeR ρ [k]).set k (some d)) (pe d)) :
    EvN K φ J (tLc wi (gName k) tYes te [k]) ρ (fun ys => ∃ ds, Pi ds ∧ Comp (fun _ b => b = true) pe ds ys) :=
  en_lcP (ρd := fun d => (wipeR ρ [k]).set k (some d)) (us := [k]) hi hl (fun _ h => h) (fun _ _ d _ => eg_name) (fun _ _ d _ φ' J' _ => et_yes) (fun ds' e d hd _ φ' J' x => he ds' e d hd φ' J' x)
/-- xs + ys, both new -/
theorem en_cat (ha : EvN K φ J ta ρ (fun x => x = ds)) (hb : EvN K φ J tb ρ (fun x => x = es)) (hz : ds.length + es.length ≤ 1000000) : EvN K φ J (tOp rCat ta tb) ρ (fun x => x = ds ++ es) := fun σ H A Q q =>
  ha σ H A _ fun p vs ds' H0 H1 b0 A0 hp b1 A1 pd e1 r1 => hb σ H1 A1 _ fun p2 ws es' H2 H3 b2 A2 hp2 b3 A3 pe e3 r3 => by
    subst pd pe
    have e1' : H3 p = some (.lst vs) := b3.keep _ _ (A0.fr p hp) (b2.keep _ _ (A0.fr p hp) e1)
    have r1' : Reps K φ H3 ds' vs := (Reps.up (fun a o q e => ⟨q.1, e⟩) ds' vs r1).mono (b2.trans b3)
    have r3' : Reps K φ H3 es' ws := Reps.up (fun a o q e => ⟨q.1, e⟩) es' ws r3
    refine ⟨p, p2, vs, ws, rfl, rfl, e1', e3, by rw [r1.length, r3.length]; exact sz hz, fun p4 hp4 => ?_⟩
    exact q p4 _ _ H3 _ (((b0.trans b1).trans b2).trans b3) A3 hp4 (But.of (same_new hp4)) (A3.same (same_new hp4)) rfl upd_same (reps_new hp4 (r1'.append r3'))
/-- x = a new list; it is live from then on -/
theorem st_new {k : Nat} {P : List D → Prop} (A : At K φ J ρ σ H) (h : EvN K φ J te ρ P) (kk : ∀ p vs ds σ' H', P ds → H p = none → φ p → Reps K (fun a => φ a ∧ a ≠ p) H' ds vs → Stab p J → (∀ s ps ns, Pooled φ J ps s ns → ps ≠ p ∧ s ≠ p) → But φ H H' → H' p = some (.lst vs) →
    At K (fun a => φ a ∧ a ≠ p) (fun H => (J H ∧ H p = some (.lst vs)) ∧ But (fun a => φ a ∧ a ≠ p) H' H) (ρ.set k (some (.raw (.ref p)))) σ' H' → D0.nx σ' H') : tAsg te (gName k) D0 σ H :=
  h σ H A _ fun p vs ds H0 H' b0 A0 hp b A' pd e r => by
    have hpH : H p = none := by
      cases z : H p with
      | none => rfl
      | some u => exact absurd hp (b0.tr p (by rw [z]; exact fun w => by cases w))
    have st : Stab p J := Stab.of A0.mono hp
    have neP : ∀ s ps ns, Pooled φ J ps s ns → ps ≠ p ∧ s ≠ p := fun s ps ns hq => by
      obtain ⟨a1, a2, a3, a4, h1, h2⟩ := hq.ok _ A0.j
      exact ⟨ne_of_none h1 hp, ne_of_none h2.1 hp⟩
    have u : Up φ (fun a => φ a ∧ a ≠ p) H H' := fun a o q e2 => ⟨⟨q, ne_of_none e2 hpH⟩, (b0.trans b).keep a o q e2⟩
    have sr : SR K (fun a => φ a ∧ a ≠ p) H' ρ σ := A.sr.up u
    have A2 : At K (fun a => φ a ∧ a ≠ p) (fun H => (J H ∧ H p = some (.lst vs)) ∧ But (fun a => φ a ∧ a ≠ p) H' H) ρ σ H' :=
      ⟨sr, A'.fr.at e (fun xs h => nomatch h), ⟨⟨A'.j, e⟩, But.refl _ _⟩, (A'.mono.and (Mo.at (by rw [e]; exact fun w => by cases w))).and (Mo.but fun _ h => h)⟩
    exact kk p vs ds _ H' pd hpH (A0.fr p hp) r st neP (b0.trans b) e (A2.set k rfl)
/-- .append on a live list -/
theorem st_app {k : Nat} {l : Addr} (A : At K φ J ρ σ H) (hk : ρ[k]? = some (some (.raw (.ref l)))) (hv : ∀ H, J H → H l = some (.lst vs)) (he : EvP K φ J te ρ P) (hz : vs.length ≤ 1000000)
    (kk : ∀ v d H', P d → Rep K φ H' d v → But φ H H' → At K φ J ρ σ H' → D0.nx σ (L2.upd H' l (.lst (vs ++ [v])))) : tDrop (tBM K "list" rAppend (tVar k) (tCons te tNil)) D0 σ H := by
  obtain ⟨w, e, r⟩ := A.sr.2 k _ hk
  cases (show w = _ from r)
  refine ⟨_, e, .inl ⟨rfl, _, SqL.of (hv H A.j)⟩, he σ H A _ fun v d H' b A' pd r' => ⟨l, vs, v, rfl, rfl, hv H' A'.j, szlt hz, kk v d H' pd r' b A'⟩⟩
/-- len of a live list -/
theorem ev_lenLive {l : Addr} (hk : EvD K φ J ta ρ (.raw (.ref l))) (hv : ∀ H, J H → H l = some (.lst vs)) : EvD K φ J (tCB (rLen K) (tCons ta tNil)) ρ (.int vs.length) := fun σ H A Q q =>
  hk σ H A _ fun v d H1 b1 A1 e1 r1 => by
    subst e1
    cases (show v = _ from r1)
    exact ⟨l, vs, rfl, .inl (SqL.of (hv H1 A1.j)), q _ _ H1 b1 A1 rfl rfl⟩
/-- a live list's item -/
theorem ev_ixLive {l : Addr} (hk : EvD K φ J ta ρ (.raw (.ref l))) (hb : EvD K φ J tb ρ (.int i)) (hv : ∀ H, J H → ∃ vs, H l = some (.lst vs) ∧ ∃ v, atI vs i = some v ∧ Rep K φ H d v) : EvD K φ J (tOp (rIxL K) ta tb) ρ d := fun σ H A Q q =>
  hk σ H A _ fun v x H1 b1 A1 e1 r1 => hb σ H1 A1 _ fun w y H2 b2 A2 e2 r2 => by
    subst e1 e2
    cases (show v = _ from r1)
    cases (show w = _ from r2)
    obtain ⟨vs, e, u, hu, ru⟩ := hv H2 A2.j
    exact ⟨l, vs, i, u, rfl, rfl, SqL.of e, hu, q u d H2 (b1.trans b2) A2 rfl ru⟩
/-- xs[i] = e on a live list -/
theorem st_setL {k n : Nat} {l : Addr} (A : At K φ J ρ σ H) (he : EvP K φ J te ρ P) (hk : ρ[k]? = some (some (.raw (.ref l)))) (hi : EvD K φ J tb ρ (.int i)) (hv : ∀ H, J H → H l = some (.lst vs)) (hj : ixN vs.length i = some n)
    (kk : ∀ v d H', P d → Rep K φ H' d v → But φ H H' → At K φ J ρ σ H' → D0.nx σ (L2.upd H' l (.lst (vs.set n v)))) : tAsg te (gSub (tVar k) tb rSetL) D0 σ H :=
  he σ H A _ fun v d H1 b1 A1 pd r1 => ev_var hk σ H1 A1 _ fun w x H2 b2 A2 e2 r2 => hi σ H2 A2 _ fun u y H3 b3 A3 e3 r3 => by
    subst e2 e3
    cases (show w = _ from r2)
    cases (show u = _ from r3)
    exact ⟨l, vs, i, n, rfl, rfl, hv H3 A3.j, hj, kk v d H3 pd ((r1.mono b2).mono b3) ((b1.trans b2).trans b3) A3⟩
/-- a subscript of a tuple or a list -/
def seqOf : D → Option (List D)
  | .tup ds => some ds
  | .lst ds => some ds
  | _ => none
theorem ev_ixQ (ha : EvD K φ J ta ρ x) (hx : seqOf x = some ds) (hb : EvD K φ J tb ρ (.int i)) (e : L2.atI ds i = some d) : EvD K φ J (tOp (rIx K) ta tb) ρ d := ev_opD ha hb fun H v w f r1 r2 Q q => by
  cases x with
  | tup es =>
    cases hx
    exact .inr (.inl (o2_ixT (φ := φ) e H v w f r1 r2 Q q))
  | lst es =>
    cases hx
    exact .inl (o2_ixL (φ := φ) e H v w f r1 r2 Q q)
  | _ => cases hx
theorem q_cut {M : L2.St → Hp → Prop} (h : t { D0 with nx := M } σ H) (k : ∀ σ' H', M σ' H' → u D0 σ' H') : C8.tCut t u D0 σ H := ⟨M, h, k⟩
theorem ev_lenQ (ha : EvD K φ J te ρ x) (hx : seqOf x = some ds) : EvD K φ J (tCB (rLen K) (tCons te tNil)) ρ (.int ds.length) := by
  cases x with
  | tup es => cases hx; exact ev_lenT ha
  | lst es => cases hx; exact ev_lenL ha
  | _ => cases hx
end
end DL
namespace DL
open PySem PySem.Spec PyProof.Rows L2
def top (i : Nat) : Stmt := PySem.Challenge.pw_airwave_k77_measurements.main.body.getD i (.Pass ⟨0, 0, 0, 0⟩)
abbrev s_artanh : Stmt := top 6
abbrev s_log_of : Stmt := top 7
abbrev s_log_ten : Stmt := top 8
abbrev s_power_of_ten : Stmt := top 10
abbrev s_is_power : Stmt := top 11
abbrev s_level_of : Stmt := top 12
abbrev s_half_of : Stmt := top 13
abbrev s_added : Stmt := top 14
abbrev s_subtracted : Stmt := top 15
abbrev s_shifted : Stmt := top 16
abbrev s_is_place : Stmt := top 19
abbrev s_height_at : Stmt := top 20
abbrev s_square_distance : Stmt := top 21
abbrev s_steps_between : Stmt := top 22
abbrev s_nearest : Stmt := top 23
abbrev s_clearances : Stmt := top 24
abbrev s_half_of_turn : Stmt := top 26
abbrev s_is_before : Stmt := top 27
abbrev s_gain_toward : Stmt := top 28
abbrev s_station_named : Stmt := top 30
abbrev s_free_loss : Stmt := top 34
abbrev s_edge_loss : Stmt := top 35
abbrev s_way_loss : Stmt := top 36
abbrev s_gain_between : Stmt := top 37
abbrev s_received : Stmt := top 38
abbrev s_differences : Stmt := top 40
abbrev s_median : Stmt := top 41
abbrev s_offsets_of : Stmt := top 42
abbrev s_offset_of : Stmt := top 43
abbrev s_outliers : Stmt := top 44
abbrev s__law_same : Stmt := top 46
abbrev s__law_is_integer : Stmt := top 47
abbrev s__law_pool : Stmt := top 48
abbrev s__law_spread : Stmt := top 49
abbrev s__law_draw : Stmt := top 50
abbrev s__law_terrain : Stmt := top 51
abbrev s__law_antenna : Stmt := top 52
abbrev s__law_station : Stmt := top 53
abbrev s__law_net : Stmt := top 54
abbrev s__law_spot : Stmt := top 55
abbrev s__law_middle : Stmt := top 56
abbrev s__law_campaign : Stmt := top 57
abbrev s__law_word : Stmt := top 58
abbrev s__law_members : Stmt := top 59
abbrev s__law_own_outliers : Stmt := top 60
abbrev s_law : Stmt := top 61
-- import KE.GoesEnumKw
-- import HandS.SortKw
/-! ### enumerate over a list or a tuple, from any count -/
section
variable {P : Program} {w : World} {K : PySem.W.Frag}
def Itn (Sq : Hp → List V → Prop) (k : Int) : It :=
  ⟨fun i H => ∃ (xs : List V) (x : V), Sq H xs ∧ xs[i]? = some x, fun i H v H' => ∃ T x, v = .ref T ∧ H T = none ∧ H' = upd H T (.tup [.int (k + (i : Nat)), x]) ∧ ∀ xs, Sq H xs → xs[i]? = some x, fun i H => ∃ xs : List V, Sq H xs ∧ xs.length = i⟩
structure EnSrc (P : Program) (w : World) (K : PySem.W.Frag) (a it : Addr) (Sq : Hp → List V → Prop) (Ho : Heap → Array Value → Prop) (Is : Nat → Heap → Prop) : Prop where
  src : ∀ (X : Cx) pins σ H s xs, X.K = K → Inv X pins σ H s → Sq H xs → ∃ its : List Value, Vals xs its ∧ Ho s.heap its.toArray ∧ xs.length ≤ sizeLine
  inj : ∀ (X : Cx) pins σ H s xs ys, X.K = K → Inv X pins σ H s → Sq H xs → Sq H ys → xs = ys
  draws : ∀ (A : Around) (items : Array Value), A.handled = none → a ≠ it → Draws P w A it [it, a] items.size (fun i v => items[i]? = some v) (fun i h => Is i h ∧ Ho h items)
  at' : ∀ i h h', Is i h → (∀ o, h.get? it = some o → h'.get? it = some o) → Is i h'
  live : ∀ i h, Is i h → ∃ o, h.get? it = some o ∧ (∀ v, o.data ≠ .cell v)
  ne : ∀ i h items, Is i h → Ho h items → a ≠ it
  nea : ∀ h items e c old, Ho h items → IsEnum h e it c old → e ≠ a
  nei : ∀ i h e c old, Is i h → IsEnum h e it c old → e ≠ it
theorem turn_enumN {elts : List Expr} {kk : Nat} {tpos : Pos} {a e it : Addr} {Sq : Hp → List V → Prop} {Ho : Heap → Array Value → Prop} {Is : Nat → Heap → Prop} (k : Int) (Z : EnSrc P w K a it Sq Ho Is) :
    Turn P w K (.Tuple elts kk tpos) (Itn Sq k) [e, it] e (fun i h => (∃ old, IsEnum h e it (k + ((i : Nat) : Int)) old) ∧ Is i h) where
  mem := by simp
  obj := fun i h st b hb => by
    obtain ⟨⟨old, he⟩, hi⟩ := st
    obtain ⟨o, ho, hd⟩ := Z.live i h hi
    have e' : b = e ∨ b = it := by simpa using hb
    rcases e' with z | z
    · rw [z]; exact ⟨_, he, fun v q => nomatch q⟩
    · rw [z]; exact ⟨o, ho, hd⟩
  keep := fun i h h' st kp => ⟨let ⟨old, he⟩ := st.1; ⟨old, kp e (by simp) _ he⟩, Z.at' i h h' st.2 fun o q => kp it (by simp) o q⟩
  item := by
    intro X hP hw hK hc i pins s σ H E I hf st hg
    obtain ⟨⟨old, he⟩, hit⟩ := st
    obtain ⟨xs, x, hq, hx⟩ := hg
    obtain ⟨its, rv, p, hz⟩ := Z.src X pins σ H s xs hK I hq
    obtain ⟨u, hu, ru⟩ := rv.get hx
    have hne : e ≠ it := Z.nei i _ e _ _ hit he
    have hea : e ≠ a := Z.nea _ _ e _ _ p he
    have hel : e < s.heap.objs.size := Heap.lt_size he
    have hil : it < s.heap.objs.size := by obtain ⟨_, q, _⟩ := Z.live i _ hit; exact Heap.lt_size q
    have hilt : i < its.toArray.size := by
      have := (List.getElem?_eq_some_iff.mp hu).1
      simpa using this
    subst hP hw
    refine wpAny_pyNext_enum_itemC (Z.draws X.A.in1 its.toArray (I.ok.hd hc) (Z.ne i _ _ hit p)) he ⟨hit, p⟩ hilt hne (by simp [hne, hea]) fun u' h' tk hP' ho hit' hT hsz hk => ?_
    have hu' : u' = u := by
      have : its.toArray[i]? = some u := by simpa using hu
      rw [this] at hP'
      exact (Option.some.inj hP').symm
    subst hu'
    refine ⟨_, rfl, wpAny_letOwnedTupleGo_enum (s := { s with heap := h', toks := tk + 1 }) ho fun h'' he' sb => ?_⟩
    have hT2 : h''.get? s.heap.objs.size = some { cls := .type "tuple", data := .seq #[.int (k + (i : Int)) tk, u'] } := (sb.2 _ (Nat.ne_of_gt hel)).trans hT
    have new : ObjOk X.prog X.w (upd H s.heap.objs.size (.tup [.int (k + (i : Nat)), x])) h'' s.heap.objs.size (.tup [.int (k + (i : Nat)), x]) :=
      ⟨by show 2 ≤ sizeLine; decide, [.int (k + (i : Int)) tk, u'], .cons ⟨_, rfl⟩ (.cons ru .nil), ⟨_, hT2, rfl, _, rfl⟩⟩
    have I1 : Inv X pins σ (upd H s.heap.objs.size (.tup [.int (k + (i : Nat)), x])) { s with heap := h'', toks := tk + 1 } :=
      I.turnedNew (ch := [e, it]) (fun b ob hb q => (sb.2 b (fun z => hb (by simp [z]))).trans (hk b ob (fun z => hb (by simp [z])) (fun z => hb (by simp [z])) q)) hf (Nat.le_refl _) new
    refine ⟨.ref s.heap.objs.size, _, I1, rfl, ⟨_, x, rfl, I.hok.fresh (Nat.le_refl _), rfl, fun ys hy => by rw [Z.inj X pins σ H s ys xs hK I hy hq]; exact hx⟩, ⟨⟨u', ?_⟩, Z.at' _ _ _ hit'.1 fun o q => (sb.2 it (Ne.symm hne)).trans q⟩, fun b hb => ?_⟩
    · have e1 : k + ((i + 1 : Nat) : Int) = k + (i : Int) + 1 := by omega
      rw [e1]; exact he'
    · have hb' : b < s.heap.objs.size := by
        have e' : b = e ∨ b = it := by simpa using hb
        rcases e' with z | z
        · rw [z]; exact hel
        · rw [z]; exact hil
      rw [upd_ne (Nat.ne_of_lt hb')]
      exact (hf b hb).1
  done := by
    intro X hP hw hK hc i pins s σ H E I hf st hg
    obtain ⟨⟨old, he⟩, hit⟩ := st
    obtain ⟨xs, hq, hx⟩ := hg
    obtain ⟨its, rv, p, hz⟩ := Z.src X pins σ H s xs hK I hq
    obtain ⟨f0, f1, f2, f3, f4, f5⟩ := hf it (by simp)
    have hl := rv.length
    have en : i = its.toArray.size := by rw [List.size_toArray]; omega
    subst hP hw
    exact wpAny_pyNext_enum_endD (Z.draws X.A.in1 its.toArray (I.ok.hd hc) (Z.ne i _ _ hit p)) he ⟨en ▸ hit, p⟩ fun h' eb => ⟨rfl, I.turned (t' := s.toks) (fun b o hb q => eb b o hb q) f0 f1 f3 f4 f5⟩
  self := fun A i s Q E st h => let ⟨⟨_, he⟩, _⟩ := st; wpAny_pyIter_enum he h
theorem apart_of {h : Heap} {a b : Addr} {o u : Obj} (h1 : h.get? a = some o) (h2 : h.get? b = some u) (hc : o.cls ≠ u.cls) : a ≠ b := fun e => by
  subst e
  rw [h1] at h2
  cases h2
  exact hc rfl
theorem enSrc_list (a it : Addr) : EnSrc P w K a it (fun H xs => SqL K H a xs) (fun h its => h.IsList a its) (fun i h => h.IsListIter it a i) where
  src := fun X pins σ H s xs hK I h => by
    subst hK
    obtain ⟨its, rv, p, hz⟩ := I.list h
    exact ⟨its, rv, p.isList, hz⟩
  inj := fun X pins σ H s xs ys hK I h h' => by
    subst hK
    exact I.list_inj h h'
  draws := fun A items hh hne => Draws.list hh it a hne items
  at' := fun i h h' st k => st.at fun o e => k o e
  live := fun i h st => by
    obtain ⟨o, e, c, d⟩ := st
    exact ⟨o, e, fun v z => by rw [d] at z; cases z⟩
  ne := fun i h items st hl => by
    obtain ⟨o, e, c, d⟩ := st
    obtain ⟨u, e2, c2, _⟩ := hl
    exact apart_of e2 e (by rw [c, c2]; decide)
  nea := fun h items e c old hl he => by
    obtain ⟨u, e2, c2, _⟩ := hl
    exact apart_of he e2 (by rw [c2]; show Value.type "enumerate" ≠ _; decide)
  nei := fun i h e c old st he => by
    obtain ⟨o, e1, c1, d⟩ := st
    exact apart_of he e1 (by rw [c1]; show Value.type "enumerate" ≠ _; decide)
theorem enSrc_tup (a it : Addr) : EnSrc P w K a it (fun H xs => SqT K H a xs) (fun h its => h.IsTuple a its) (fun i h => h.IsTupleIter it a i) where
  src := fun X pins σ H s xs hK I h => by
    subst hK
    obtain ⟨its, rv, p, hz⟩ := I.tuple h
    exact ⟨its, rv, p, hz⟩
  inj := fun X pins σ H s xs ys hK I h h' => by
    subst hK
    exact I.tuple_inj h h'
  draws := fun A items hh hne => Draws.tuple hh it a hne items
  at' := fun i h h' st k => by
    obtain ⟨o, e, r⟩ := st
    exact ⟨o, k o e, r⟩
  live := fun i h st => by
    obtain ⟨o, e, c, d⟩ := st
    exact ⟨o, e, fun v z => by rw [d] at z; cases z⟩
  ne := fun i h items st hl => by
    obtain ⟨o, e, c, d⟩ := st
    obtain ⟨u, e2, c2, _⟩ := hl
    exact apart_of e2 e (by rw [c, c2]; decide)
  nea := fun h items e c old hl he => by
    obtain ⟨u, e2, c2, _⟩ := hl
    exact apart_of he e2 (by rw [c2]; show Value.type "enumerate" ≠ _; decide)
  nei := fun i h e c old st he => by
    obtain ⟨o, e1, c1, d⟩ := st
    exact apart_of he e1 (by rw [c1]; show Value.type "enumerate" ≠ _; decide)
section
variable {M : Model} {A : Around} {E : Value → Shared → Prop} {s : Shared} {env : Env}
theorem callWith_type_kwB {pos : Pos} {T : String} {e : Expr} {rest : List Expr} {kws : List Keyword} {Q : Value → Shared → Prop}
    (h : wpAny M A (spliced (backTo pos (starEach (e :: rest) env))) (fun vs s₁ => wpAny M A (evalAll ((backToKw pos (keywordEach kws env)).map (·.2)))
      (fun kvs s₂ => wpAny M A (call (.type T) vs (((backToKw pos (keywordEach kws env)).filterMap (·.1)).zip kvs)) Q E s₂) E s₁) E s)
    (he : backTo pos (starEach (e :: rest) env) = (false, eval e env) :: backTo pos (starEach rest env))
    (hplain : (backTo pos (starEach (e :: rest) env)).any (·.1) = false)
    (hall : (backToKw pos (keywordEach kws env)).all (·.1.isSome) = true)
    (hkw : (backToKw pos (keywordEach kws env)).any (·.1.isNone) = false) :
    wpAny M A (callWith pos (.type T) [] (backTo pos (starEach (e :: rest) env)) (backToKw pos (keywordEach kws env))) Q E s := by
  unfold callWith
  refine wpAny_bind (wpAny_holding (wpAny_mono (Q := fun a s₁ => wpAny M A (call (.type T) ([] ++ a.pos) a.kw) Q E s₁) ?_ (fun a s₁ h₁ => wpAny_bind (wpAny_standAt ?_)) fun _ _ x => x))
  · rw [he] at h ⊢
    exact evalArgs_kwB hall h
  · simp only [hplain, hkw, Bool.or_false]
    refine wpAny_bind (wpAny_pure ?_)
    exact wpAny_bind (wpAny_mono h₁ (fun r s₂ hr => wpAny_bind (wpAny_holding (wpAny_point (wpAny_pure hr)))) fun _ _ x => x)
end
section
variable {X : Cx} {e : Expr} {ta tb : TE} {ta1 : TA} {p pos tpos kpos : Pos} {elts : List Expr} {kk : Nat}
/-- what a made enumerate object gives -/
theorem enum_pie {pins : List (Addr × Obj)} {σ : L2.St} {H1 : Hp} {s1 : Shared} {R : It → Hp → Prop} {h' : Heap} {Sq : Hp → List V → Prop} {Ho : Heap → Array Value → Prop} {Is : Addr → Nat → Heap → Prop} {a : Addr} {k : Int}
    (I1 : Inv X pins σ H1 s1) (Z : EnSrc X.prog X.w X.K a s1.heap.objs.size Sq Ho (Is s1.heap.objs.size)) (he : IsEnum h' (s1.heap.objs.size + 1) s1.heap.objs.size k .none) (hit : Is s1.heap.objs.size 0 h') (hk : ∀ b o, s1.heap.get? b = some o → h'.get? b = some o) (q : R (Itn Sq k) H1) :
    wpAny (model X.prog X.w) X.A (pyIter (.ref (s1.heap.objs.size + 1))) (PIE X pins σ (.Tuple elts kk tpos) R) X.xe { s1 with heap := h' } := by
  refine wpAny_pyIter_enum he ?_
  have I2 : Inv X pins σ H1 { s1 with heap := h' } := I1.kept (t' := s1.toks) hk
  refine ⟨s1.heap.objs.size + 1, [s1.heap.objs.size + 1, s1.heap.objs.size], _, _, H1, rfl, I2, turn_enumN k Z, ⟨⟨.none, by rw [show k + ((0 : Nat) : Int) = k by omega]; exact he⟩, hit⟩, fun b hb => ?_, q⟩
  have e' : b = s1.heap.objs.size + 1 ∨ b = s1.heap.objs.size := by simpa using hb
  have hle : s1.heap.objs.size ≤ b := by
    rcases e' with z | z
    · rw [z]; exact Nat.le_add_right _ _
    · rw [z]; exact Nat.le_refl _
  exact I1.fpOk hle (I1.hok.fresh hle)
def iEnumS (K : PySem.W.Frag) (ta tb : TE) : TI := fun σ H R => ta σ H fun v H1 => tb σ H1 fun u H2 => ∃ a k xs, v = .ref a ∧ u = .int k ∧ -(2 ^ 63) ≤ k ∧ k < 2 ^ 63 ∧ ((SqL K H2 a xs ∧ R (Itn (fun H xs => SqL K H a xs) k) H2) ∨ (SqT K H2 a xs ∧ R (Itn (fun H xs => SqT K H a xs) k) H2))
/-- enumerate(xs, start=k) -/
theorem pi_enumS {b : Expr} (hg : Gl X "enumerate") (hm : X.mg "enumerate" = none) (ha : PE X e ta) (hb : PE X b tb) (hs : starEach [e] X.env = [(false, eval e X.env)] := by rfl)
    (hall : (backToKw pos (keywordEach [⟨some "start", b, kpos⟩] X.env)).all (·.1.isSome) = true := by rfl) (hnone : (backToKw pos (keywordEach [⟨some "start", b, kpos⟩] X.env)).any (·.1.isNone) = false := by rfl)
    (hks : (backToKw pos (keywordEach [⟨some "start", b, kpos⟩] X.env)).filterMap (·.1) = [Str.ofString "start"] := by rfl) (he : backTo pos (starEach [e] X.env) = (false, eval e X.env) :: backTo pos (starEach [] X.env) := by rfl) (hpl : (backTo pos (starEach [e] X.env)).any (·.1) = false := by rfl) :
    PI X (.Tuple elts kk tpos) (.Call (.Name "enumerate" p) [e] [⟨some "start", b, kpos⟩] pos) (iEnumS X.K ta tb) := by
  refine ⟨fun pins s σ H R I h => ?_⟩
  refine wpAny_Call_Name_kw (ld_blt I hg hm boot_enumerate ?_)
  refine callWith_type_kwB (thn ((pa_cons (X := X) ha pa_nil hs).run pos pins s σ H (fun vs H1 => match vs with
    | [v] => tb σ H1 fun u H2 => ∃ a k xs, v = .ref a ∧ u = .int k ∧ -(2 ^ 63) ≤ k ∧ k < 2 ^ 63 ∧ ((SqL X.K H2 a xs ∧ R (Itn (fun H xs => SqL X.K H a xs) k) H2) ∨ (SqT X.K H2 a xs ∧ R (Itn (fun H xs => SqT X.K H a xs) k) H2))
    | _ => False) I ?_) fun us s1 ⟨vs, H1, I1, r1, q1⟩ => ?_) he hpl hall hnone
  · exact h
  · obtain ⟨v, rfl⟩ : ∃ v, vs = [v] := by
      cases vs with
      | nil => exact q1.elim
      | cons v r =>
        cases r with
        | nil => exact ⟨v, rfl⟩
        | cons _ _ => exact q1.elim
    rw [hks]
    refine PyProof.Rows.kws_cons (thn (hb.run pins s1 σ H1 _ I1 q1) fun u s2 ⟨x, H2, I2, rx, a, k, xs, e1, e2, k0, k1, q2⟩ => PyProof.Rows.kws_nil ?_)
    subst e1 e2
    obtain ⟨t, rfl⟩ := rx
    cases r1 with
    | cons r rr =>
      cases rr
      cases r
      rcases q2 with ⟨hq, q⟩ | ⟨hq, q⟩
      · obtain ⟨its, rv, p', hz⟩ := I2.list hq
        exact enum_begins_start (begins_list a its.toArray) p'.isList k0 k1 fun h' he' hit hsz hk => enum_pie (Is := fun it i h => h.IsListIter it a i) I2 (enSrc_list a _) he' ⟨_, hit, rfl, rfl⟩ hk q
      · obtain ⟨its, rv, p', hz⟩ := I2.tuple hq
        exact enum_begins_start (begins_tuple a its.toArray) p' k0 k1 fun h' he' hit hsz hk => enum_pie (Is := fun it i h => h.IsTupleIter it a i) I2 (enSrc_tup a _) he' ⟨_, hit, rfl, rfl⟩ hk q
end
section
variable {φ : Addr → Prop} {J : Hp → Prop} {ρ : List (Option D)} {ta tb : TE} {ds : List D} {k : Int} {x : D}
theorem it_enumS (h : EvD K φ J ta ρ x) (hx : seqOf x = some ds) (hb : EvD K φ J tb ρ (.int k)) (hk : -(2 ^ 63) ≤ k ∧ k < 2 ^ 63) : IterD K φ J (iEnumS K ta tb) ρ (enumD k ds) := fun σ H A R q => h σ H A _ fun v d H1 b1 A1 e r => hb σ H1 A1 _ fun u d2 H2 b2 A2 e2 r2 => by
  subst e e2
  cases (show u = _ from r2)
  have r := r.mono b2
  have fin : ∀ {Sq : Hp → List V → Prop} {vs : List V}, Reps K φ H2 ds vs → (∀ φ' H3, Up φ φ' H2 H3 → Sq H3 vs) → Walks K φ (Itn Sq k) H2 (enumD k ds) := fun {Sq vs} rs hS φ' i H3 up f => by
    have r1 := Reps.up up ds vs rs
    have s1 := hS φ' H3 up
    refine ⟨fun d hd => ?_, fun hi => ⟨vs, s1, by rw [r1.length, hi, enumD_length]⟩⟩
    rw [enumD_get] at hd
    cases hx : ds[i]? with
    | none => rw [hx] at hd; cases hd
    | some d0 =>
      rw [hx] at hd
      cases hd
      obtain ⟨w, e, rw'⟩ := r1.get hx
      refine ⟨⟨vs, w, s1, e⟩, fun x H4 hy => ?_⟩
      obtain ⟨T, x1, rfl, hT, rfl, hx1⟩ := hy
      have e2 := hx1 vs s1
      rw [e] at e2
      cases e2
      exact ⟨same_new hT, rep_pair (f T hT) upd_same rfl (rw'.mono (But.of (same_new hT)))⟩
  cases d with
  | tup es =>
    cases hx
    obtain ⟨a, vs, rfl, p, rs⟩ := rep_tup r
    exact ⟨a, k, vs, rfl, rfl, hk.1, hk.2, .inr ⟨p.sq, q _ _ H2 (b1.trans b2) A2 rfl (fin rs fun φ' H3 up => (p.up up).sq)⟩⟩
  | lst es =>
    cases hx
    obtain ⟨a, vs, rfl, p, rs⟩ := rep_lst r
    exact ⟨a, k, vs, rfl, rfl, hk.1, hk.2, .inl ⟨p.sq, q _ _ H2 (b1.trans b2) A2 rfl (fin rs fun φ' H3 up => (p.up up).sq)⟩⟩
  | _ => cases hx
end
end

/-! ### == and != of data -/
mutual
def toPy : D → PyData
  | .non => .none
  | .bl b => .bool b
  | .int i => .int i
  | .str x => .str x
  | .tup ds => .tuple (toPys ds)
  | .lst ds => .list (toPys ds)
  | .raw _ => .none
  | .dk _ _ => .none
  | .dt _ _ => .none
def toPys : List D → List PyData
  | [] => []
  | d :: ds => toPy d :: toPys ds
end
/-- bounded depth, no raw values, texts within the bounds -/
def okq : Nat → D → Bool
  | _, .non => true
  | _, .bl _ => true
  | _, .int _ => true
  | _, .str x => PyData.strOk x
  | n + 1, .tup ds => ds.all (okq n)
  | n + 1, .lst ds => ds.all (okq n)
  | 0, .tup _ => false
  | 0, .lst _ => false
  | _, .raw _ => false
  | _, .dk _ _ => false
  | _, .dt _ _ => false
theorem okq_lay : ∀ (n : Nat) (d : D), okq n d = true → (toPy d).canLay0 = true ∧ (toPy d).depth ≤ n := by
  intro n
  induction n with
  | zero =>
    intro d h
    cases d with
    | non => exact ⟨rfl, Nat.le_refl _⟩
    | bl b => exact ⟨rfl, Nat.le_refl _⟩
    | int i => exact ⟨rfl, Nat.le_refl _⟩
    | str x => exact ⟨h, Nat.le_refl _⟩
    | tup ds => cases h
    | lst ds => cases h
    | raw v => cases h
    | dk ks ds => cases h
    | dt ks ds => cases h
  | succ n ih =>
    have all : ∀ ds : List D, ds.all (okq n) = true → PyData.canLayAll0 (toPys ds) = true ∧ PyData.depthAll (toPys ds) ≤ n := by
      intro ds
      induction ds with
      | nil => intro _; exact ⟨rfl, Nat.zero_le _⟩
      | cons d ds ihd =>
        intro h
        rw [List.all_cons, Bool.and_eq_true] at h
        obtain ⟨h1, h2⟩ := ih d h.1
        obtain ⟨h3, h4⟩ := ihd h.2
        refine ⟨?_, ?_⟩
        · show ((toPy d).canLay0 && PyData.canLayAll0 (toPys ds)) = true
          rw [h1, h3]
          rfl
        · show max (toPy d).depth (PyData.depthAll (toPys ds)) ≤ n
          omega
    intro d h
    cases d with
    | non => exact ⟨rfl, Nat.zero_le _⟩
    | bl b => exact ⟨rfl, Nat.zero_le _⟩
    | int i => exact ⟨rfl, Nat.zero_le _⟩
    | str x => exact ⟨h, Nat.zero_le _⟩
    | tup ds => exact ⟨(all ds h).1, Nat.succ_le_succ (all ds h).2⟩
    | lst ds => exact ⟨(all ds h).1, Nat.succ_le_succ (all ds h).2⟩
    | raw v => cases h
    | dk ks ds => cases h
    | dt ks ds => cases h
theorem okq_shaped {n : Nat} {d : D} (h : okq n d = true) (hn : n ≤ 64) : SeqAt.shaped (toPy d) = true := by
  obtain ⟨h1, h2⟩ := okq_lay n d h
  unfold SeqAt.shaped
  rw [h1, decide_eq_true (Nat.le_trans h2 hn)]
  rfl
def eqvD (x y : D) : Bool := PyData.eqv (toPy x) (toPy y)
section
variable {K : PySem.W.Frag} {φ : Addr → Prop} {J : Hp → Prop} {H : Hp} {ρ : List (Option D)} {ta tb : TE} {x y : D} {v : V} {ds : List D} {vs : List V}
mutual
theorem dp_of : ∀ (d : D) (v : V) (n : Nat), okq n d = true → Rep K φ H d v → Dp K H v (toPy d)
  | .non, v, n, _, r => by cases (show v = _ from r); exact .non
  | .bl b, v, n, _, r => by cases (show v = _ from r); exact .bl b
  | .int i, v, n, _, r => by cases (show v = _ from r); exact .int i
  | .str x, v, n, _, r => by cases (show v = _ from r); exact .str x
  | .raw w, v, n, h, _ => by cases n <;> cases h
  | .dk ks ds, v, n, h, _ => by cases n <;> cases h
  | .dt ks ds, v, n, h, _ => by cases n <;> cases h
  | .tup ds, v, 0, h, _ => by cases h
  | .lst ds, v, 0, h, _ => by cases h
  | .tup ds, v, n + 1, h, r => by
    obtain ⟨a, vs, rfl, p, rs⟩ := rep_tup r
    exact .tup p.sq (dps_of ds vs n h rs)
  | .lst ds, v, n + 1, h, r => by
    obtain ⟨a, vs, rfl, p, rs⟩ := rep_lst r
    exact .lst p.sq (dps_of ds vs n h rs)
theorem dps_of : ∀ (ds : List D) (vs : List V) (n : Nat), ds.all (okq n) = true → Reps K φ H ds vs → DpAll K H vs (toPys ds)
  | [], vs, n, _, r => by
    have e : vs = [] := r
    subst e
    exact .nil
  | d :: ds, vs, n, h, r => by
    obtain ⟨v, r', rfl, h1, h2⟩ := (show ∃ v r, vs = v :: r ∧ Rep K φ H d v ∧ Reps K φ H ds r from r)
    rw [List.all_cons, Bool.and_eq_true] at h
    exact .cons (dp_of d v n h.1 h1) (dps_of ds r' n h.2 h2)
end
theorem ev_eqQ (ha : EvD K φ J ta ρ x) (hb : EvD K φ J tb ρ y) (hx : okq 64 x = true) (hy : okq 64 y = true) : EvD K φ J (tOp (rEqD K) ta tb) ρ (.bl (eqvD x y)) := ev_opD ha hb fun H v w _ r1 r2 Q q =>
  ⟨_, _, dp_of x v 64 hx r1, dp_of y w 64 hy r2, okq_shaped hx (Nat.le_refl _), okq_shaped hy (Nat.le_refl _), q _ _ H (Same.refl H) rfl rfl⟩
theorem ev_neQ (ha : EvD K φ J ta ρ x) (hb : EvD K φ J tb ρ y) (hx : okq 64 x = true) (hy : okq 64 y = true) : EvD K φ J (tOp (rNeD K) ta tb) ρ (.bl (!eqvD x y)) := ev_opD ha hb fun H v w _ r1 r2 Q q =>
  ⟨_, _, dp_of x v 64 hx r1, dp_of y w 64 hy r2, okq_shaped hx (Nat.le_refl _), okq_shaped hy (Nat.le_refl _), q _ _ H (Same.refl H) rfl rfl⟩
theorem eqvD_refl {n : Nat} (h : okq n x = true) : eqvD x x = true := SeqAt.eqv_refl _ (okq_lay n x h).1
theorem toPys_ints : ∀ ns : List Int, toPys (ns.map D.int) = ns.map PyData.int
  | [] => rfl
  | n :: ns => by
    show PyData.int n :: toPys (ns.map D.int) = _
    rw [toPys_ints ns]
    rfl
theorem okq_ints {n : Nat} {ns : List Int} : okq (n + 1) (.lst (ns.map D.int)) = true := by
  show (ns.map D.int).all (okq n) = true
  rw [List.all_map, List.all_eq_true]
  intro i _
  cases n <;> rfl
theorem eqvD_nil {ds : List D} : eqvD (.lst ds) (.lst []) = ds.isEmpty := by
  unfold eqvD
  show PyData.eqvAll (toPys ds) [] = _
  cases ds <;> rfl
end

-- import HandS.Exc
-- import HandS.ExcOwn
-- import HandS.TryOnly
-- import HandS.WordsExc
-- import HandS.TupMul
/-! ### exceptions -/
/-- a class of exceptions of the program, without own __init__ -/
structure ExC (K : PySem.W.Frag) (mg : Str → Option Value) (x : Str) (c : Addr) : Prop where
  m : mg x = some (.ref c)
  e : PySem.W.excIn K c [.type "ValueError", .type "Exception", .type "BaseException", .type "object"] "ValueError.__new__" = true
  k : PySem.W.keepIn K (.ref c) = true
  s : PySem.W.subIn K (.ref c) (.type "BaseException") = some true
  t : PySem.W.typeIn K (.ref c) = some (.type "type")
  x : PySem.W.exmOne K (.ref c) (.ref c) = some true
theorem exm_sub {K : PySem.W.Frag} {S T : Addr} {b : Bool} (h1 : PySem.W.subIn K (.ref T) (.type "BaseException") = some true) (h2 : PySem.W.isClsIn K T = true) (h3 : PySem.W.typeIn K (.ref T) = some (.type "type")) (h4 : PySem.W.subIn K (.ref S) (.ref T) = some b) : PySem.W.exmOne K (.ref S) (.ref T) = some b := by
  have e2 : ((PySem.W.clsIn K T).isSome && PySem.W.typeIn K (.ref T) == some (.type "type")) = true := by
    rw [show (PySem.W.clsIn K T).isSome = true from h2, h3]
    rfl
  unfold PySem.W.exmOne
  rw [if_pos (by rw [h1]; rfl)]
  unfold PySem.W.kitCls
  dsimp only
  rw [if_pos e2]
  exact h4
/-- the promise of a def that may raise: a tree or a class -/
def SpX (K : PySem.W.Frag) (n : Nat) (R : List D → D ⊕ Addr → Prop) : Sp := fun vs H Q E => ∃ φ ds o, ds.length = n ∧ Reps K φ H ds vs ∧ Frm φ H ∧ R ds o ∧ (∀ d, o = .inl d → ∀ v H', Same H H' → Rep K φ H' d v → Q v H') ∧ (∀ c, o = .inr c → ∀ H', Same H H' → E (.ref c) none H')
section
variable {K : PySem.W.Frag} {φ φ' : Addr → Prop} {J J' : Hp → Prop} {H H' H1 : Hp} {ρ ρ' : List (Option D)} {σ : L2.St} {ta : TA} {te tb : TE} {x y z d : D} {P Pa Pb : D → Prop} {ds es : List D} {v : V} {D0 : Ends} {t u : TS} {W : WX} {c : Addr}
/-- a reading that raises -/
def Rs (K : PySem.W.Frag) (φ : Addr → Prop) (J : Hp → Prop) (te : TE) (ρ : List (Option D)) (W : WX) (c : Addr) : Prop := ∀ σ H, At K φ J ρ σ H → (∀ H', But φ H H' → At K φ J ρ σ H' → W (.ref c) none σ H') → ∀ Q, te σ H Q
theorem ev_callX {n : Nat} {R : List D → D ⊕ Addr → Prop} (ha : EvAD K φ J ta ρ ds) (hr : R ds (.inl d)) (hl : ds.length = n := by rfl) : EvD K φ J (tCallS (SpX K n R) (WE W) ta) ρ d := fun σ H A Q q =>
  ha σ H A _ fun vs ds' H1 b1 A1 e r1 => by
    subst e
    refine ⟨φ, _, _, hl, r1, A1.fr, hr, fun d' e v H' s r => ?_, fun c' e => nomatch e⟩
    cases e
    exact q v d H' (b1.trans (But.of s)) (A1.same s) rfl r
theorem rs_call {n : Nat} {R : List D → D ⊕ Addr → Prop} (ha : EvAD K φ J ta ρ ds) (hr : R ds (.inr c)) (hl : ds.length = n := by rfl) : Rs K φ J (tCallS (SpX K n R) (WE W) ta) ρ W c := fun σ H A k Q =>
  ha σ H A _ fun vs ds' H1 b1 A1 e r1 => by
    subst e
    refine ⟨φ, _, _, hl, r1, A1.fr, hr, (fun d' e => nomatch e), fun c' e H' s => ?_⟩
    cases e
    exact k H' (b1.trans (But.of s)) (A1.same s)
/-- an assignment, a return .. whose expression raises -/
theorem st_rs (A : At K φ J ρ σ H) (h : Rs K φ J te ρ W c) (k : ∀ H', But φ H H' → At K φ J ρ σ H' → W (.ref c) none σ H') {Q : VK} : te σ H Q := h σ H A k Q
theorem wonly_yes {C : Value} {ts : Addr → Value → Option Addr → TS} (hx : PySem.W.exmOne K (.ref c) C = some true) (h : ∀ a, H a = none → ts a (.ref c) none D0 σ H) : wOnly K C ts W D0 (.ref c) none σ H := ⟨true, hx, fun _ => h, fun e => nomatch e⟩
section
variable {PP : Program} {w : World} {mg : Str → Option Value} {base : Heap}
/-- a def that may raise keeps its promise -/
theorem fn_okX {x qual : Str} {st : Stmt} {f : Addr} {fd : FuncData} {N ps : List Str} {k n : Nat} {R : List D → D ⊕ Addr → Prop} (F : Fun K x qual st f fd) (S : FnScope N ps (defScope st)) (hn : ps.length = n) (m : Nat) (hm : N.length = n + m)
    (hbody : ∀ (cdv : Value) (A : Around) (outer : List Env) (s : Shared) (H : Hp) (E : XK), Room k (A.deeper (envOfC qual (defScope st) s.heap.objs.size f cdv)) →
      ∃ t, PSs (cxOf (L2.CX PP w) PP w K mg base N qual (defScope st) f cdv A outer s H E) (defBody st) t ∧
        ∀ (φ : Addr → Prop) (ds : List D) (o : D ⊕ Addr) (H : Hp) (D0 : Ends) (σ : L2.St), ds.length = n → R ds o → (∀ d, o = .inl d → ∀ v H', Same H H' → Rep K φ H' d v → D0.rt v H') → (∀ c, o = .inr c → ∀ H', Same H H' → E (.ref c) none H') → At K φ (Same H) (ds.map some ++ List.replicate m none) σ H → t D0 σ H) :
    FnOk PP w K mg base (L2.CX PP w) (k + 1) f fd ps (SpX K n R) := by
  refine F.okX S (fun vs H Q E h => ?_) (fun cdv A outer s H vs Q E hr h => ?_)
  · obtain ⟨φ, ds, d, hl, r, _⟩ := h
    rw [r.length, hl, hn]
  · obtain ⟨φ, ds, o, hl, r, fr, hd, q, qe⟩ := h
    obtain ⟨t, ht, run⟩ := hbody cdv A outer s H E hr
    refine ⟨t, ht, run φ ds o H _ _ hl hd (fun d e v H' s r => q d e v H' s r) qe ⟨?_, fr, Same.refl H, Mo.sames fun _ h => h⟩⟩
    have e : N.length - vs.length = m := by rw [hm, r.length, hl]; omega
    unfold L2.start
    rw [e]
    exact SR.start r
end
/-! ### two fors in a comprehension -/
theorem ev_lc2 {wi wi1 : TI} {g g1 : TG} {te : TE} {ws us us1 vs1 : List Nat} {es : D → List D} {f : D → D → D} {ρ1 : D → List (Option D)} {ρ2 : D → D → List (Option D)}
    (hi : IterD K φ J wi ρ ds) (hl : (ds.flatMap es).length ≤ 1000000) (hu : ∀ i ∈ us, i ∈ ws) (hu1 : ∀ i ∈ us1, i ∈ vs1) (hv : ∀ i ∈ vs1, i ∈ ws)
    (hg : ∀ d ∈ ds, EvG K g d (wipeR ρ ws) (ρ1 d) us)
    (hi1 : ∀ d ∈ ds, ∀ φ' J', Ext φ J φ' J' → IterD K φ' J' wi1 (ρ1 d) (es d))
    (hg1 : ∀ d ∈ ds, ∀ e ∈ es d, EvG K g1 e (wipeR (ρ1 d) vs1) (ρ2 d e) us1)
    (he : ∀ d ∈ ds, ∀ e ∈ es d, ∀ φ' J', Ext φ J φ' J' → EvD K φ' J' te (ρ2 d e) (f d e)) :
    EvD K φ J (tLc2 wi g tYes wi1 g1 tYes te ws vs1) ρ (.lst (ds.flatMap fun d => (es d).map (f d))) := fun σ H A Q q => by
  refine hi σ H A _ fun J0 ds' H1 b1 A1 pd w => ?_
  subst pd
  intro D0 hD
  have neP : ∀ p s ns, Pooled φ J p s ns → p ≠ D0 := fun p s ns hp => by
    obtain ⟨a1, a2, a3, a4, h1, _⟩ := hp.ok _ A1.j
    exact ne_of_none h1 hD
  let φ' : Addr → Prop := fun a => φ a ∧ a ≠ D0
  let F : Nat → List D := fun i => (ds'.take i).flatMap fun d => (es d).map (f d)
  have ext : ∀ acc : List V, Ext φ J φ' (fun H => J H ∧ H D0 = some (.lst acc)) := fun acc => ⟨fun _ h => h.1, fun p s ns hp => ⟨fun z => hp.np z.1, hp.ne, fun H h => hp.ok H h.1, fun H H' h k o => ⟨hp.st H H' h.1 k o, k _ _ (neP p s ns hp).symm h.2⟩⟩, fun a p h => ⟨p, fun e => h H1 A1.j (by rw [e]; exact hD)⟩⟩
  have mono : ∀ (acc : List V) (H2 : Hp), (∀ a, H1 a ≠ none → H2 a ≠ none) → H2 D0 ≠ none → Mo H2 (fun H => J H ∧ H D0 = some (.lst acc)) := fun acc H2 s h => (A1.mono.up s).and (Mo.at h)
  have lenT : ∀ i, i < ds'.length → ∀ d, ds'[i]? = some d → ∀ j, j < (es d).length → (F i ++ ((es d).take j).map (f d)).length < 1000000 := fun i hi d hd j hj => by
    have e1 : ds' = ds'.take i ++ d :: ds'.drop (i + 1) := by
      have z := (List.getElem?_eq_some_iff.mp hd)
      obtain ⟨z1, z2⟩ := z
      rw [← z2, List.getElem_cons_drop, List.take_append_drop]
    have e2 : (ds'.flatMap es).length = ((ds'.take i).flatMap es).length + ((es d).length + ((ds'.drop (i + 1)).flatMap es).length) := by
      conv => lhs; rw [e1]
      rw [List.flatMap_append, List.length_append, List.flatMap_cons, List.length_append]
    have e3 : (F i).length = ((ds'.take i).flatMap es).length := by
      show ((ds'.take i).flatMap fun d => (es d).map (f d)).length = _
      simp only [List.length_flatMap, List.length_map]
    rw [List.length_append, List.length_map, List.length_take, e3]
    omega
  refine ⟨fun i m H2 => m = ds'.length - i ∧ i ≤ ds'.length ∧ But φ H1 H2 ∧ ∃ acc, Reps K φ' H2 (F i) acc ∧ At K φ' (fun H => J H ∧ H D0 = some (.lst acc)) (wipeR ρ ws) (L2.wipe σ ws) H2,
    ⟨ds'.length, rfl, Nat.zero_le _, But.of (same_new hD), [], Reps.nil, ?_⟩, ?_⟩
  · have A2 := A1.newLive (o := .lst []) (J' := fun H => J H ∧ H D0 = some (.lst [])) hD ⟨A1.mono _ _ (fun a o _ e => same_new hD a o e) A1.j, upd_same⟩ (mono [] _ upd_tr (by rw [upd_same]; exact fun z => by cases z))
    exact ⟨A2.sr.wipe ws, A2.fr, A2.j, A2.mono⟩
  · rintro i m H2 ⟨rfl, hi, b2, acc, rs, A2⟩
    have upw : Up φ φ' H1 H2 := fun a o p e => ⟨⟨p, ne_of_none e hD⟩, b2.keep a o p e⟩
    have fr2 : Frm φ' H2 := A2.fr
    obtain ⟨wg, wstop⟩ := w φ' i H2 upw fr2
    by_cases hlt : i < ds'.length
    · have hd : ds'[i]? = some ds'[i] := List.getElem?_eq_getElem hlt
      obtain ⟨go, yl⟩ := wg _ hd
      have hmem : ds'[i] ∈ ds' := List.getElem_mem hlt
      have tk : F (i + 1) = F i ++ (es ds'[i]).map (f ds'[i]) := by
        show (ds'.take (i + 1)).flatMap _ = _
        rw [List.take_add_one, hd, List.flatMap_append]
        show _ ++ List.flatMap _ [ds'[i]] = _
        rw [List.flatMap_cons, List.flatMap_nil, List.append_nil]
      refine .inr ⟨go, fun H3 => But φ H1 H3 ∧ ∃ acc, Reps K φ' H3 (F (i + 1)) acc ∧ At K φ' (fun H => J H ∧ H D0 = some (.lst acc)) (wipeR ρ ws) (L2.wipe σ ws) H3, ?_, ?_⟩
      · rintro H3 ⟨b3, acc3, r3, A3⟩
        exact ⟨ds'.length - (i + 1), by omega, rfl, hlt, b3, acc3, r3, A3⟩
      · intro x H3 hy
        obtain ⟨s3, r3⟩ := yl x H3 hy
        have A3 := A2.same s3
        have rs3 := rs.mono (But.of (φ := φ') s3)
        have b3 : But φ H1 H3 := b2.trans (But.of s3)
        refine hg _ hmem φ' _ _ H3 x A3 r3 _ fun σ4 A4 hw4 => ⟨?_, ?_⟩
        · rw [hw4 ws hu]
          exact wipe_wipe ws
        · refine et_yes (K := K) (φ := φ') σ4 H3 A4 _ fun bb H4 b4 A4' hbb => ?_
          subst hbb
          rw [if_pos rfl]
          replace rs3 := rs3.mono b4
          replace b3 : But φ H1 H4 := ⟨fun a o p e => b4.keep a o ⟨p, ne_of_none e hD⟩ (b3.keep a o p e), fun a h => b4.tr a (b3.tr a h)⟩
          refine hi1 _ hmem φ' _ (ext acc) σ4 H4 A4' _ fun J1 es' H5 b5 A5 pe1 w1 => ?_
          subst pe1
          have b15 : But φ H1 H5 := ⟨fun a o p e => b5.keep a o ⟨p, ne_of_none e hD⟩ (b3.keep a o p e), fun a h => b5.tr a (b3.tr a h)⟩
          let G : Nat → List D := fun j => F i ++ ((es ds'[i]).take j).map (f ds'[i])
          refine ⟨fun j k H6 => k = (es ds'[i]).length - j ∧ j ≤ (es ds'[i]).length ∧ But φ H1 H6 ∧ (∀ a o, φ' a → H5 a = some o → H6 a = some o) ∧ ∃ acc, Reps K φ' H6 (G j) acc ∧ At K φ' (fun H => J H ∧ H D0 = some (.lst acc)) (wipeR (ρ1 ds'[i]) vs1) (L2.wipe σ4 vs1) H6,
            ⟨(es ds'[i]).length, rfl, Nat.zero_le _, b15, fun _ _ _ e => e, acc, ?_, ?_⟩, ?_⟩
          · show Reps K φ' H5 (F i ++ List.map _ (List.take 0 _)) acc
            rw [List.take_zero, List.map_nil, List.append_nil]
            exact rs3.mono b5
          · exact ⟨A5.sr.wipe vs1, A5.fr, A5.j, A5.mono⟩
          · rintro j k H6 ⟨rfl, hj, b6, kp6, acc6, rs6, A6⟩
            have up6 : Up φ' φ' H5 H6 := fun a o p e => ⟨p, kp6 a o p e⟩
            obtain ⟨wg1, ws1⟩ := w1 φ' j H6 up6 A6.fr
            by_cases hlt1 : j < (es ds'[i]).length
            · have hd1 : (es ds'[i])[j]? = some (es ds'[i])[j] := List.getElem?_eq_getElem hlt1
              obtain ⟨go1, yl1⟩ := wg1 _ hd1
              have hmem1 : (es ds'[i])[j] ∈ es ds'[i] := List.getElem_mem hlt1
              have tk1 : G (j + 1) = G j ++ [f ds'[i] (es ds'[i])[j]] := by
                show F i ++ _ = (F i ++ _) ++ _
                rw [List.take_add_one, hd1, List.map_append, List.append_assoc]
                rfl
              refine .inr ⟨go1, fun H7 => But φ H1 H7 ∧ (∀ a o, φ' a → H5 a = some o → H7 a = some o) ∧ ∃ acc, Reps K φ' H7 (G (j + 1)) acc ∧ At K φ' (fun H => J H ∧ H D0 = some (.lst acc)) (wipeR (ρ1 ds'[i]) vs1) (L2.wipe σ4 vs1) H7, ?_, ?_⟩
              · rintro H7 ⟨b7, kp7, acc7, r7, A7⟩
                exact ⟨(es ds'[i]).length - (j + 1), by omega, rfl, hlt1, b7, kp7, acc7, r7, A7⟩
              · intro x1 H7 hy1
                obtain ⟨s7, r7⟩ := yl1 x1 H7 hy1
                have A7 := A6.same s7
                have rs7 := rs6.mono (But.of (φ := φ') s7)
                have b7 : But φ H1 H7 := b6.trans (But.of s7)
                have kp7 : ∀ a o, φ' a → H5 a = some o → H7 a = some o := fun a o p e => s7 a o (kp6 a o p e)
                refine hg1 _ hmem _ hmem1 φ' _ _ H7 x1 A7 r7 _ fun σ8 A8 hw8 => ⟨?_, ?_⟩
                · rw [hw8 vs1 hu1]
                  exact wipe_wipe vs1
                · refine et_yes (K := K) (φ := φ') σ8 H7 A8 _ fun bb H8 b8 A8' hbb => ?_
                  subst hbb
                  rw [if_pos rfl]
                  replace rs7 := rs7.mono b8
                  replace b7 : But φ H1 H8 := ⟨fun a o p e => b8.keep a o ⟨p, ne_of_none e hD⟩ (b7.keep a o p e), fun a h => b8.tr a (b7.tr a h)⟩
                  replace kp7 : ∀ a o, φ' a → H5 a = some o → H8 a = some o := fun a o p e => b8.keep a o p (kp7 a o p e)
                  replace A7 : At K φ' (fun H => J H ∧ H D0 = some (.lst acc6)) (wipeR (ρ1 ds'[i]) vs1) (L2.wipe σ4 vs1) H8 := ⟨A7.sr.up (Up.of b8), A8'.fr, A8'.j, A8'.mono⟩
                  refine he _ hmem _ hmem1 φ' _ (ext acc6) σ8 H8 A8' _ fun v d H9 b9 A9 pv r9 => ?_
                  subst pv
                  have rl := rs7.mono b9
                  have nD : ¬ φ' D0 := fun z => z.2 rfl
                  refine ⟨acc6, A9.j.2, ?_, ?_, ?_, acc6 ++ [v], ?_, ?_⟩
                  · rw [rl.length]
                    exact szlt (Nat.le_of_lt (lenT i hlt _ hd j hlt1))
                  · refine ⟨fun a o p e => ?_, fun a h => upd_tr a (b9.tr a (b7.tr a h))⟩
                    have ne := ne_of_none e hD
                    rw [upd_ne ne]
                    exact b9.keep a o ⟨p, ne⟩ (b7.keep a o p e)
                  · intro a o p e
                    rw [upd_ne p.2]
                    exact b9.keep a o p (kp7 a o p e)
                  · rw [tk1]
                    exact (rl.append (Reps.cons r9 Reps.nil)).mono ((But.refl φ' H9).upd nD)
                  · have A9' : At K φ' (fun H => J H ∧ H D0 = some (.lst acc6)) (wipeR (ρ1 ds'[i]) vs1) (L2.wipe σ4 vs1) H9 := ⟨A7.sr.up (Up.of b9), A9.fr, A9.j, A9.mono⟩
                    have jj : J (upd H9 D0 (.lst (acc6 ++ [v]))) := A1.mono H9 _ (fun a o h e => by
                      rw [upd_ne (show a ≠ D0 from fun z => h (by rw [z]; exact hD))]
                      exact e) A9.j.1
                    exact A9'.upd nD ⟨jj, upd_same⟩ (mono _ _ (fun a h => upd_tr a (b9.tr a (b7.tr a h))) (by rw [upd_same]; exact fun z => by cases z))
            · have e : j = (es ds'[i]).length := by omega
              subst e
              refine .inl ⟨ws1 rfl, b6, acc6, ?_, ?_⟩
              · rw [tk]
                have e2 : G (es ds'[i]).length = F i ++ (es ds'[i]).map (f ds'[i]) := by
                  show F i ++ _ = _
                  rw [List.take_length]
                rw [← e2]
                exact rs6
              · have b26 : Up φ' φ' H2 H6 := fun a o p e => ⟨p, kp6 a o p (b5.keep a o p (b4.keep a o p (s3 a o e)))⟩
                exact ⟨A2.sr.up b26, A6.fr, A6.j, A6.mono⟩
    · have e : i = ds'.length := by omega
      subst e
      refine .inl ⟨wstop rfl, ?_⟩
      have eF : F ds'.length = ds'.flatMap fun d => (es d).map (f d) := by
        show (ds'.take _).flatMap _ = _
        rw [List.take_length]
      rw [eF] at rs
      have A3 : At K φ J ρ σ H2 := ⟨A1.sr.up (Up.of b2), A2.fr.fst, A2.j.1, A1.mono.up b2.tr⟩
      exact q _ (.lst (ds'.flatMap fun d => (es d).map (f d))) H2 (b1.trans b2) A3 rfl ⟨D0, acc, rfl, .inl ⟨A1.fr D0 hD, .inl A2.j.2⟩, Reps.up (fun a o p e => ⟨p.1, e⟩) _ _ rs⟩
/-! ### a tuple times an int -/
theorem replicate_reps {vs : List V} (r : Reps K φ H ds vs) : ∀ n : Nat, Reps K φ H (List.replicate n ds).flatten (List.replicate n vs).flatten
  | 0 => Reps.nil
  | n + 1 => by
    rw [List.replicate_succ, List.replicate_succ, List.flatten_cons, List.flatten_cons]
    exact r.append (replicate_reps r n)
theorem ev_repT {i : Int} (ha : EvD K φ J te ρ (.tup ds)) (hb : EvD K φ J tb ρ (.int i)) (hne : ds ≠ []) (h2 : 2 ≤ i) (h3 : i ≤ 1000) (hz : ds.length ≤ 1000) : EvD K φ J (tOp (rRepT K) te tb) ρ (.tup (List.replicate i.toNat ds).flatten) :=
  ev_opD ha hb fun H v w fr r1 r2 Q q => by
    obtain ⟨a, vs, rfl, p, rs⟩ := rep_tup r1
    cases (show w = _ from r2)
    refine ⟨a, i, vs, rfl, rfl, p.sq, fun z => hne (List.eq_nil_of_length_eq_zero (by rw [← rs.length, z]; rfl)), h2, h3, by rw [rs.length]; exact hz, fun l hl => q _ _ _ (same_new hl) rfl ⟨l, _, rfl, .inl ⟨fr l hl, .inl upd_same⟩, ?_⟩⟩
    exact (replicate_reps rs _).mono (But.of (same_new hl))
end

theorem _root_.L2.Room.units1 {k : Nat} {A : Around} (r : Room k A) : A.units + 1 < cLine := by have := r.un; omega
theorem _root_.L2.Room.units65 {k : Nat} {A : Around} (r : Room k A) : A.units + 65 < cLine := by have := r.un; omega
/-! ### rules with the frame K told (in comprehensions), chains of three operators -/
section
variable {X : Cx} {K : PySem.W.Frag}
theorem kix_list (h : X.K = K) : IxR X (rIxL K) := h ▸ ix_list
theorem kix_tup (h : X.K = K) : IxR X (rIxT K) := h ▸ ix_tup
theorem kix_seq (h : X.K = K) : IxR X (rIx K) := h ▸ ix_seq
theorem ksl_list (h : X.K = K) : SlR X (rSlL K) := h ▸ sl_list
theorem ksl_tupA (h : X.K = K) : SlR X (rSlA K) := h ▸ sl_tupA
theorem kop_catA (h : X.K = K) : OpR X (binaryOp .Add) (rCatA K) := h ▸ op_catA
theorem kop_repT (h : X.K = K) : OpR X (binaryOp .Mult) (rRepT K) := h ▸ op_repT
theorem kop_inD (h : X.K = K) (hu : X.A.units + 65 < cLine) : OpR X (compareOp .In) (rInD K) := h ▸ op_inD hu
theorem kop_notInD (h : X.K = K) (hu : X.A.units + 65 < cLine) : OpR X (compareOp .NotIn) (rNotInD K) := h ▸ op_notInD hu
theorem kop_eqD (h : X.K = K) (hu : X.A.units + 64 < cLine) : OpR X (compareOp .Eq) (rEqD K) := h ▸ op_eqD hu
theorem kop_neD (h : X.K = K) (hu : X.A.units + 64 < cLine) : OpR X (compareOp .NotEq) (rNeD K) := h ▸ op_neD hu
theorem kop_in_seq (h : X.K = K) : OpR X (compareOp .In) (rIn K false) := h ▸ op_in_seq
theorem kop_notIn_seq (h : X.K = K) : OpR X (compareOp .NotIn) (rIn K true) := h ▸ op_notIn_seq
theorem kc_len (h : X.K = K) : CallR X (.builtin "len") (rLen K) := h ▸ c_len
theorem kc_listOf (h : X.K = K) : CallR X (.type "list") (rListOf K) := h ▸ c_listOf
theorem kc_tupOf (h : X.K = K) : CallR X (.type "tuple") (rTupOf K) := h ▸ c_tupOf
theorem kcall_isi (h : X.K = K) : CallR X (.builtin "isinstance") (rIsi K) := h ▸ call_isi
theorem kc_sum (h : X.K = K) (hc : X.calm = true := by rfl) : CallR X (.builtin "sum") (rSum K) := h ▸ c_sum hc
theorem kcr_max (h : X.K = K) (hc : X.calm = true) : CallR X (.builtin "max") (rMax K) := h ▸ cr_max hc
theorem kcr_min (h : X.K = K) (hc : X.calm = true) : CallR X (.builtin "min") (rMin K) := h ▸ cr_min hc
theorem kpi_list {tg l : Expr} {tl : TE} (h : X.K = K) (hl : PE X l tl) : PI X tg l (iList K tl) := h ▸ pi_list hl
theorem kpi_tup {tg l : Expr} {tl : TE} (h : X.K = K) (hl : PE X l tl) : PI X tg l (iTup K tl) := h ▸ pi_tup hl
end
/-- a < b <= c < d -/
def tChain3 (r r' r2 : R2) (ta tb tc td : TE) : TE := fun σ H Q => ta σ H fun x H1 => tb σ H1 fun y H2 => r x y H2 fun z H3 => ∃ k, z = .bl k ∧
  (if k = true then tc σ H3 fun w' H4 => r' y w' H4 fun z2 H5 => ∃ k2, z2 = .bl k2 ∧ (if k2 = true then td σ H5 fun w2 H6 => r2 w' w2 H6 Q else Q (.bl false) H5) else Q (.bl false) H3)
section
variable {X : Cx} {a b c e : Expr} {ta tb tc td : TE} {pos : Pos}
theorem pe_chain3 {op op' op2 : CmpOp} {r r' r2 : R2} (ho : OpR X (compareOp op) r) (ho' : OpR X (compareOp op') r') (ho2 : OpR X (compareOp op2) r2) (ha : PE X a ta) (hb : PE X b tb) (hc : PE X c tc) (hd : PE X e td)
    (hm : lastMarks [op, op', op2] [b, c, e] = false := by with_unfolding_all rfl) : PE X (.Compare a [op, op', op2] [b, c, e] pos) (tChain3 r r' r2 ta tb tc td) := by
  refine ⟨fun pins s σ H Q I h => ?_⟩
  refine Compare_chain (thn (ha.run pins s σ H _ I h) fun v s1 ⟨x, H1, I1, r1, q1⟩ => chain_link (thn (hb.run pins s1 σ H1 _ I1 q1) fun u s2 ⟨y, H2, I2, rr2, q2⟩ =>
    thn (ho pins s2 σ H2 x y v u _ I2 r1 rr2 q2) fun d s3 ⟨z, H3, I3, r3, k, e, q3⟩ => ?_)) hm
  subst e
  cases r3
  refine wpAny_truthy_bool ?_
  cases k with
  | false => exact ite_ff ⟨.bl false, H3, I3, rfl, q3⟩
  | true =>
    refine ite_tt (chain_link (thn (hc.run pins s3 σ H3 _ I3 q3) fun w' s4 ⟨z', H4, I4, r4, q4⟩ => thn (ho' pins s4 σ H4 y z' u w' _ I4 rr2 r4 q4) fun d' s5 ⟨z5, H5, I5, r5, k2, e2, q5⟩ => ?_))
    subst e2
    cases r5
    refine wpAny_truthy_bool ?_
    cases k2 with
    | false => exact ite_ff ⟨.bl false, H5, I5, rfl, q5⟩
    | true => exact ite_tt (chain_last (thn (hd.run pins s5 σ H5 _ I5 q5) fun w2 s6 ⟨z6, H6, I6, r6, q6⟩ => ho2 pins s6 σ H6 z' z6 w' w2 Q I6 r4 r6 q6))
theorem pt_chain3 {op op' op2 : CmpOp} {r r' r2 : R2} (ho : OpR X (compareOp op) r) (ho' : OpR X (compareOp op') r') (ho2 : OpR X (compareOp op2) r2) (ha : PE X a ta) (hb : PE X b tb) (hc : PE X c tc) (hd : PE X e td)
    (hm : lastMarks [op, op', op2] [b, c, e] = false := by with_unfolding_all rfl) : L2.PT X (.Compare a [op, op', op2] [b, c, e] pos) (tTest (tChain3 r r' r2 ta tb tc td)) := by
  refine ⟨fun pins s σ H Q I h => ?_⟩
  refine isTrue_chain (thn (ha.run pins s σ H _ I h) fun v s1 ⟨x, H1, I1, r1, q1⟩ => test_link (thn (hb.run pins s1 σ H1 _ I1 q1) fun u s2 ⟨y, H2, I2, rr2, q2⟩ =>
    thn (ho pins s2 σ H2 x y v u _ I2 r1 rr2 q2) fun d s3 ⟨z, H3, I3, r3, k, e, q3⟩ => ?_)) hm
  subst e
  cases r3
  refine wpAny_truthy_bool ?_
  cases k with
  | false =>
    obtain ⟨k', e', q'⟩ := q3
    cases e'
    exact ite_ff ⟨H3, I3, q'⟩
  | true =>
    refine ite_tt (test_link (thn (hc.run pins s3 σ H3 _ I3 q3) fun w' s4 ⟨z', H4, I4, r4, q4⟩ => thn (ho' pins s4 σ H4 y z' u w' _ I4 rr2 r4 q4) fun d' s5 ⟨z5, H5, I5, r5, k2, e2, q5⟩ => ?_))
    subst e2
    cases r5
    refine wpAny_truthy_bool ?_
    cases k2 with
    | false =>
      obtain ⟨k', e', q'⟩ := q5
      cases e'
      exact ite_ff ⟨H5, I5, q'⟩
    | true =>
      refine ite_tt (test_last (thn (hd.run pins s5 σ H5 _ I5 q5) fun w2 s6 ⟨z6, H6, I6, r6, q6⟩ => thn (ho2 pins s6 σ H6 z' z6 w' w2 _ I6 r4 r6 q6) fun d2 s7 ⟨z7, H7, I7, r7, k7, e7, q7⟩ => ?_))
      subst e7
      cases r7
      exact wpAny_truthy_bool ⟨H7, I7, q7⟩
end
section
variable {K : PySem.W.Frag} {φ : Addr → Prop} {J : Hp → Prop} {ρ : List (Option D)} {ta tb tc td : TE}
theorem ev_chainI3 {f g h : Int → Int → Bool} {i j k l : Int} (ha : EvD K φ J ta ρ (.int i)) (hb : EvD K φ J tb ρ (.int j)) (hc : EvD K φ J tc ρ (.int k)) (hd : EvD K φ J td ρ (.int l)) :
    EvD K φ J (tChain3 (rI0 fun i j => .bl (f i j)) (rI0 fun i j => .bl (g i j)) (rI0 fun i j => .bl (h i j)) ta tb tc td) ρ (.bl (f i j && (g j k && h k l))) := fun σ H A Q q =>
  ha σ H A _ fun v x1 H1 b1 A1 e1 r1 => hb σ H1 A1 _ fun w y1 H2 b2 A2 e2 r2 => by
    subst e1 e2
    cases (show v = _ from r1)
    cases (show w = _ from r2)
    refine ⟨i, j, rfl, rfl, f i j, rfl, ?_⟩
    cases hf : f i j with
    | false =>
      rw [if_neg (by simp)]
      exact q _ _ H2 (b1.trans b2) A2 rfl (by rw [hf]; rfl)
    | true =>
      rw [if_pos rfl]
      refine hc σ H2 A2 _ fun v3 x3 H3 b3 A3 e3 r3 => ?_
      subst e3
      cases (show v3 = _ from r3)
      refine ⟨j, k, rfl, rfl, g j k, rfl, ?_⟩
      cases hg : g j k with
      | false =>
        rw [if_neg (by simp)]
        exact q _ _ H3 ((b1.trans b2).trans b3) A3 rfl (by rw [hf, hg]; rfl)
      | true =>
        rw [if_pos rfl]
        refine hd σ H3 A3 _ fun v4 x4 H4 b4 A4 e4 r4 => ?_
        subst e4
        cases (show v4 = _ from r4)
        exact ⟨k, l, rfl, rfl, q _ _ H4 (((b1.trans b2).trans b3).trans b4) A4 rfl (by rw [hf, hg]; rfl)⟩
end

/-! ### live lists of trees -/
/-- the frame without l -/
abbrev wo (φ : Addr → Prop) (l : Addr) : Addr → Prop := fun a => φ a ∧ a ≠ l
structure LivO (K : PySem.W.Frag) (φ : Addr → Prop) (Jb J : Hp → Prop) (l : Addr) (C : List V → HO) (ds : List D) : Prop where
  np : ¬ φ l
  st : Stab l Jb
  pl : ∀ p s ns, Pooled φ Jb p s ns → p ≠ l ∧ s ≠ l
  ex : ∃ vs H0, Reps K φ H0 ds vs ∧ Mo H0 Jb ∧ H0 l ≠ none ∧ J = fun H => (Jb H ∧ H l = some (C vs)) ∧ But φ H0 H
abbrev Liv (K : PySem.W.Frag) (φ : Addr → Prop) (Jb J : Hp → Prop) (l : Addr) (ds : List D) : Prop := LivO K φ Jb J l HO.lst ds
/-- a new object comes out, C of values -/
def EvNO (K : PySem.W.Frag) (φ : Addr → Prop) (J : Hp → Prop) (te : TE) (ρ : List (Option D)) (P : List D → (List V → HO) → Prop) : Prop := ∀ σ H, At K φ J ρ σ H → ∀ Q : VK, (∀ p vs ds C H0 H', But φ H H0 → At K φ J ρ σ H0 → H0 p = none → But φ H0 H' → At K φ J ρ σ H' → P ds C → (∀ xs, C vs ≠ .tup xs) → H' p = some (C vs) → Reps K (wo φ p) H' ds vs → Q (.ref p) H') → te σ H Q
section
variable {K : PySem.W.Frag} {φ φ' : Addr → Prop} {Jb J J' : Hp → Prop} {H H' H1 : Hp} {ρ ρ' : List (Option D)} {σ : L2.St} {ta : TA} {te tb : TE} {x y z d : D} {P Pa Pb : D → Prop} {ds es : List D} {v : V} {vs : List V} {D0 : Ends} {t u : TS} {l : Addr} {C : List V → HO}
theorem Ext.but2 {p s : Addr} {ns : List Int} {H0 : Hp} (np : ¬ φ p) : ∀ H H', But φ H0 H → ButP p H H' → PoolOk p s ns H' → But φ H0 H' := fun H H' b k o => ⟨fun a u pa e => k a u (fun z => np (z ▸ pa)) (b.keep a u pa e), fun a ha => by
  by_cases z : a = p
  · subst z
    obtain ⟨_, _, _, _, e, _⟩ := o
    rw [e]
    exact fun z => by cases z
  · cases e : H a with
    | none => exact absurd e (b.tr a ha)
    | some u => rw [k a u z e]; exact fun z => by cases z⟩
theorem LivO.ext (L : LivO K φ Jb J l C ds) : Ext φ Jb φ J := by
  obtain ⟨vs, H0, r, m, hl, rfl⟩ := L.ex
  exact ⟨fun H h => h.1.1, fun p s ns hp => ⟨hp.np, hp.ne, fun H h => hp.ok H h.1.1, fun H H' h k o => ⟨⟨hp.st H H' h.1.1 k o, k _ _ (L.pl p s ns hp).1.symm h.1.2⟩, Ext.but2 hp.np H H' h.2 k o⟩⟩, fun _ p _ => p⟩
theorem LivO.len (L : Liv K φ Jb J l ds) : ∃ vs, vs.length = ds.length ∧ ∀ H, J H → H l = some (.lst vs) := by
  obtain ⟨vs, H0, r, m, hl, rfl⟩ := L.ex
  exact ⟨vs, r.length, fun H h => h.1.2⟩
/-- x = a new object -/
theorem st_newO {k : Nat} {P : List D → (List V → HO) → Prop} (A : At K φ J ρ σ H) (h : EvNO K φ J te ρ P) (kk : ∀ l ds C J' σ' H', P ds C → φ l → H l = none → Ext φ J (wo φ l) J → LivO K (wo φ l) J J' l C ds → At K (wo φ l) J' (ρ.set k (some (.raw (.ref l)))) σ' H' → D0.nx σ' H') : tAsg te (gName k) D0 σ H :=
  h σ H A _ fun p vs ds C H0 H' b0 A0 hp b A' pd nt e r => by
    have hpH : H p = none := by
      cases z : H p with
      | none => rfl
      | some u => exact absurd hp (b0.tr p (by rw [z]; exact fun w => by cases w))
    have st : Stab p J := Stab.of A0.mono hp
    have u : Up φ (wo φ p) H H' := fun a o q e2 => ⟨⟨q, ne_of_none e2 hpH⟩, (b0.trans b).keep a o q e2⟩
    have sr : SR K (wo φ p) H' ρ σ := A.sr.up u
    have A2 : At K (wo φ p) (fun H => (J H ∧ H p = some (C vs)) ∧ But (wo φ p) H' H) ρ σ H' :=
      ⟨sr, A'.fr.at e nt, ⟨⟨A'.j, e⟩, But.refl _ _⟩, (A'.mono.and (Mo.at (by rw [e]; exact fun w => by cases w))).and (Mo.but fun _ h => h)⟩
    exact kk p ds C _ _ H' pd (A0.fr p hp) hpH ⟨fun _ h => h, fun p s ns q => ⟨fun z => q.np z.1, q.ne, q.ok, q.st⟩, fun a p' h => ⟨p', fun e => h H0 A0.j (by rw [e]; exact hp)⟩⟩
      ⟨fun z => z.2 rfl, st, fun s ps ns q => by
        obtain ⟨_, _, _, _, h1, h2, _⟩ := q.ok _ A0.j
        exact ⟨ne_of_none h1 hp, ne_of_none h2 hp⟩, vs, H', r, A'.mono, (by rw [e]; exact fun z => nomatch z), rfl⟩ (A2.set k rfl)
/-- x = a new list -/
theorem st_newL {k : Nat} {P : List D → Prop} (A : At K φ J ρ σ H) (h : EvN K φ J te ρ P) (kk : ∀ l ds J' σ' H', P ds → φ l → H l = none → Ext φ J (wo φ l) J → Liv K (wo φ l) J J' l ds → At K (wo φ l) J' (ρ.set k (some (.raw (.ref l)))) σ' H' → D0.nx σ' H') : tAsg te (gName k) D0 σ H :=
  st_new A h fun l vs ds σ' H' pd hn hp r st ne b e A' => kk l ds _ σ' H' pd hp hn ⟨fun _ h => h, fun p s ns q => ⟨fun z => q.np z.1, q.ne, q.ok, q.st⟩, fun a p' h => ⟨p', fun e' => h H A.j (by rw [e']; exact hn)⟩⟩
    ⟨fun z => z.2 rfl, st, fun p s ns q => by
      obtain ⟨_, _, _, _, h1, h2, _⟩ := q.ok _ A.j
      exact ⟨ne_of_none h1 hn, ne_of_none h2 hn⟩, vs, H', r, A.mono.up b.tr, (by rw [e]; exact fun z => nomatch z), rfl⟩ A'
/-- .append -/
theorem st_appL {k : Nat} (A : At K φ J ρ σ H) (L : Liv K φ Jb J l ds) (hk : ρ[k]? = some (some (.raw (.ref l)))) (he : EvP K φ J te ρ P) (hz : ds.length ≤ 1000000)
    (kk : ∀ d J' H', P d → Liv K φ Jb J' l (ds ++ [d]) → At K φ J' ρ σ H' → D0.nx σ H') : tDrop (tBM K "list" rAppend (tVar k) (tCons te tNil)) D0 σ H := by
  obtain ⟨vs, H0, r, m, hl, rfl⟩ := L.ex
  refine st_app (vs := vs) A hk (fun H h => h.1.2) he (by rw [r.length]; exact hz) fun v d H' pd rv b A' => ?_
  have b0 : But φ H0 H' := A'.j.2
  have trl : H' l ≠ none := b0.tr l hl
  refine kk d _ _ pd ⟨L.np, L.st, L.pl, vs ++ [v], L2.upd H' l (.lst (vs ++ [v])), ?_, m.up fun a h => upd_tr a (b0.tr a h), (by rw [upd_same]; exact fun z => nomatch z), rfl⟩ (A'.upd L.np ⟨⟨L.st _ _ A'.j.1.1, upd_same⟩, But.refl _ _⟩ ?_)
  · exact ((r.mono b0).append (Reps.cons rv Reps.nil)).mono ((But.refl φ H').upd L.np)
  · exact (((m.up fun a h => upd_tr a (b0.tr a h))).and (Mo.at (by rw [upd_same]; exact fun z => by cases z))).and (Mo.but fun _ h => h)
/-- xs[i] = e -/
theorem st_setLL {k n : Nat} {i : Int} (A : At K φ J ρ σ H) (L : Liv K φ Jb J l ds) (he : EvP K φ J te ρ P) (hk : ρ[k]? = some (some (.raw (.ref l)))) (hi : EvD K φ J tb ρ (.int i)) (hj : ixN ds.length i = some n)
    (kk : ∀ d J' H', P d → Liv K φ Jb J' l (ds.set n d) → At K φ J' ρ σ H' → D0.nx σ H') : tAsg te (gSub (tVar k) tb rSetL) D0 σ H := by
  obtain ⟨vs, H0, r, m, hl, rfl⟩ := L.ex
  refine st_setL (vs := vs) A he hk hi (fun H h => h.1.2) (by rw [r.length]; exact hj) fun v d H' pd rv b A' => ?_
  have b0 : But φ H0 H' := A'.j.2
  refine kk d _ _ pd ⟨L.np, L.st, L.pl, vs.set n v, L2.upd H' l (.lst (vs.set n v)), ?_, m.up fun a h => upd_tr a (b0.tr a h), (by rw [upd_same]; exact fun z => nomatch z), rfl⟩ (A'.upd L.np ⟨⟨L.st _ _ A'.j.1.1, upd_same⟩, But.refl _ _⟩ ?_)
  · exact ((r.mono b0).set n rv).mono ((But.refl φ H').upd L.np)
  · exact (((m.up fun a h => upd_tr a (b0.tr a h))).and (Mo.at (by rw [upd_same]; exact fun z => by cases z))).and (Mo.but fun _ h => h)
/-- into a loop's turn and out of it -/
theorem LivO.push {H1 : Hp} (L : LivO K φ Jb J l C ds) (A : At K φ (fun H => J H ∧ But φ H1 H) ρ σ H) : ∃ J2, LivO K φ (fun H => Jb H ∧ But φ H1 H) J2 l C ds ∧ At K φ J2 ρ σ H ∧ Ext φ Jb φ (fun H => Jb H ∧ But φ H1 H) := by
  obtain ⟨vs, H0, r, m, hl, rfl⟩ := L.ex
  have sb : Stab l (But φ H1) := fun H o b => ⟨fun a u pa e => by
    rw [upd_ne (show a ≠ l from fun z => L.np (z ▸ pa))]
    exact b.keep a u pa e, fun a ha => upd_tr a (b.tr a ha)⟩
  have b0 : But φ H0 H := A.j.1.2
  have e : Ext φ Jb φ (fun H => Jb H ∧ But φ H1 H) := Ext.but'
  refine ⟨_, ⟨L.np, L.st.and sb, fun p s ns q => ?_, vs, H, r.mono b0, (m.up b0.tr).and (Mo.but A.j.2.tr), b0.tr l hl, rfl⟩, A.live ⟨⟨⟨A.j.1.1.1, A.j.2⟩, A.j.1.1.2⟩, But.refl _ _⟩ (((m.up b0.tr).and (Mo.but A.j.2.tr)).and (Mo.at (b0.tr l hl)) |>.and (Mo.but fun _ h => h)), e⟩
  obtain ⟨_, _, _, _, h1, h2, _⟩ := q.ok H ⟨A.j.1.1.1, A.j.2⟩
  refine ⟨fun z => ?_, fun z => ?_⟩
  · -- the pool is no live list of ours: its content would be rewritten
    subst z
    have po := q.ok _ ((L.st.and sb) H (.lst []) ⟨A.j.1.1.1, A.j.2⟩)
    obtain ⟨_, _, _, _, e1, _⟩ := po
    rw [upd_same] at e1
    cases e1
  · subst z
    have po := q.ok _ ((L.st.and sb) H (.tup []) ⟨A.j.1.1.1, A.j.2⟩)
    obtain ⟨_, _, _, _, e1, e2, _⟩ := po
    rw [upd_same] at e2
    cases e2
theorem LivO.pop {H1 : Hp} {J2 : Hp → Prop} (L : LivO K φ (fun H => Jb H ∧ But φ H1 H) J2 l C ds) (hm : Mo H1 Jb) (hs : Stab l Jb) (hp : ∀ p s ns, Pooled φ Jb p s ns → p ≠ l ∧ s ≠ l) (A : At K φ J2 ρ σ H) : ∃ J, LivO K φ Jb J l C ds ∧ At K φ (fun H => J H ∧ But φ H1 H) ρ σ H := by
  obtain ⟨vs, H0, r, m, hl, rfl⟩ := L.ex
  have b0 : But φ H0 H := A.j.2
  have b1 : But φ H1 H := A.j.1.1.2
  have m1 : Mo H Jb := hm.up b1.tr
  exact ⟨_, ⟨L.np, hs, hp, vs, H, r.mono b0, m1, b0.tr l hl, rfl⟩, A.live ⟨⟨⟨A.j.1.1.1, A.j.1.2⟩, But.refl _ _⟩, b1⟩ (((m1.and (Mo.at (b0.tr l hl))).and (Mo.but fun _ h => h)).and (Mo.but b1.tr))⟩
/-- the list is left as it is from here on -/
theorem LivO.freeze (L : Liv K (wo φ l) Jb J l ds) (hl : φ l) {k : Nat} (A : At K (wo φ l) J ρ σ H) (hk : ρ[k]? = some (some (.raw (.ref l)))) : At K φ Jb (ρ.set k (some (.lst ds))) σ H := by
  obtain ⟨vs, H0, r, m, hn, rfl⟩ := L.ex
  have b0 : But (wo φ l) H0 H := A.j.2
  have up : Up (wo φ l) φ H H := fun a o p e => ⟨p.1, e⟩
  have rr : Rep K φ H (.lst ds) (.ref l) := ⟨l, vs, rfl, .inl ⟨hl, .inl A.j.1.2⟩, Reps.up up ds vs (r.mono b0)⟩
  obtain ⟨w, ew, rw'⟩ := A.sr.2 k _ hk
  cases (show w = _ from rw')
  refine ⟨?_, A.fr.fst, A.j.1.1, m.up b0.tr⟩
  have s1 := (A.sr.up up)
  refine ⟨by rw [List.length_set]; exact s1.1, fun i d hd => ?_⟩
  by_cases e : k = i
  · subst e
    have hlt : k < ρ.length := (List.getElem?_eq_some_iff.mp hk).1
    rw [List.getElem?_set_self hlt] at hd
    cases hd
    exact ⟨_, ew, rr⟩
  · rw [List.getElem?_set_ne e] at hd
    exact s1.2 i d hd
theorem ev_lenLL (L : Liv K φ Jb J l ds) (hk : EvD K φ J te ρ (.raw (.ref l))) : EvD K φ J (tCB (rLen K) (tCons te tNil)) ρ (.int ds.length) := by
  obtain ⟨vs, e, hv⟩ := L.len
  rw [← e]
  exact ev_lenLive hk hv
theorem ev_ixLL {i : Int} (L : Liv K φ Jb J l ds) (hk : EvD K φ J te ρ (.raw (.ref l))) (hb : EvD K φ J tb ρ (.int i)) (e : L2.atI ds i = some d) : EvD K φ J (tOp (rIxL K) te tb) ρ d := by
  obtain ⟨vs, H0, r, m, hn, rfl⟩ := L.ex
  refine ev_ixLive hk hb fun H h => ⟨vs, h.1.2, ?_⟩
  unfold L2.atI at e ⊢
  rw [r.length]
  cases hx : L2.ixN ds.length i with
  | none => rw [hx] at e; cases e
  | some n =>
    rw [hx] at e
    obtain ⟨v, hv, rv⟩ := r.get (i := n) e
    exact ⟨v, hv, rv.mono h.2⟩
end
theorem Mo.liv {K : PySem.W.Frag} {φ : Addr → Prop} {Jb J : Hp → Prop} {l : Addr} {C : List V → HO} {ds : List D} {H1 : Hp} (L : LivO K φ Jb J l C ds) (j : J H1) : Mo H1 Jb := by
  obtain ⟨vs, H0, r, m, hl, rfl⟩ := L.ex
  exact m.up j.2.tr
/-! ### slices, tuples of unknown trees -/
theorem cutD_hi {α : Type} {xs : List α} {i : Int} (h0 : 0 ≤ i) : cutD xs none (some i) = xs.take i.toNat := by
  have e : HT.sIx xs.length xs.length (some i) = min i.toNat xs.length := by
    have z := HT.sIx_nat xs.length xs.length i.toNat
    rw [Int.toNat_of_nonneg h0] at z
    exact z
  unfold cutD
  rw [e, HT.sIx_none, List.drop_zero, Nat.sub_zero, List.take_eq_take_iff]
  omega
theorem cutD_lo {α : Type} {xs : List α} {i : Int} (h0 : 0 ≤ i) : cutD xs (some i) none = xs.drop i.toNat := by
  have e : HT.sIx xs.length 0 (some i) = min i.toNat xs.length := by
    have z := HT.sIx_nat xs.length 0 i.toNat
    rw [Int.toNat_of_nonneg h0] at z
    exact z
  unfold cutD
  rw [e, HT.sIx_none]
  by_cases hl : i.toNat ≤ xs.length
  · rw [Nat.min_eq_left hl, List.take_of_length_le (by rw [List.length_drop]; omega)]
  · rw [Nat.min_eq_right (by omega), List.drop_eq_nil_of_le (Nat.le_refl _), List.drop_eq_nil_of_le (by omega), List.take_nil]
section
variable {K : PySem.W.Frag} {φ : Addr → Prop} {J : Hp → Prop} {ρ : List (Option D)} {te ta tb : TE} {P : D → Prop}
theorem Op2.imp {r : R2} {x y : D} {P P' : D → Prop} (h : Op2 K φ r x y P) (k : ∀ d, P d → P' d) : Op2 K φ r x y P' := fun H v w f r1 r2 Q q => h H v w f r1 r2 Q fun u z H' s p r => q u z H' s (k z p) r
theorem ev_catTP {Pa Pb : List D → Prop} (ha : EvP K φ J ta ρ (fun z => ∃ ds, z = .tup ds ∧ Pa ds)) (hb : EvP K φ J tb ρ (fun z => ∃ ds, z = .tup ds ∧ Pb ds)) (hz : ∀ a b, Pa a → Pb b → a.length + b.length ≤ 1000000) : EvP K φ J (tOp (rCatA K) ta tb) ρ (fun z => ∃ ds, z = .tup ds ∧ ∃ a b, ds = a ++ b ∧ Pa a ∧ Pb b) :=
  ev_op ha hb fun x y ⟨a, e1, pa⟩ ⟨b, e2, pb⟩ => by
    subst e1 e2
    exact (o2_catT (hz a b pa pb)).imp fun z e => ⟨_, e, a, b, rfl, pa, pb⟩
theorem ev_tupLP {Pl : List D → Prop} (h : EvP K φ J te ρ (fun z => ∃ ds, z = .lst ds ∧ Pl ds)) : EvP K φ J (tCB (rTupOf K) (tCons te tNil)) ρ (fun z => ∃ ds, z = .tup ds ∧ Pl ds) := ev_cb (ea_consP h ea_nil) fun ds ⟨d, r, e, ⟨es, e1, pe⟩, e2⟩ => by
  subst e e1 e2
  exact fun H vs f r Q q => cl_tupL H vs f r Q fun u z H' s e r => q u z H' s ⟨es, e, pe⟩ r
/-- a tuple of one unknown value -/
theorem ev_tup1P (h : EvP K φ J te ρ P) : EvP K φ J (tTup (tCons te tNil)) ρ (fun z => ∃ ds, z = .tup ds ∧ ∃ d, ds = [d] ∧ P d) := (ev_tupP (ea_consP h ea_nil) fun r ⟨d, r', e, p, e2⟩ => by rw [e, e2]; exact Nat.le_of_ble_eq_true rfl).imp fun z ⟨r, e, d, r', e1, p, e2⟩ => ⟨r, e, d, by rw [e1, e2], p⟩
end
section
variable {K : PySem.W.Frag} {φ : Addr → Prop} {J : Hp → Prop} {ρ : List (Option D)} {te ta tb : TE}
theorem ev_repTP {ds : List D} {p : Int → Prop} (ha : EvD K φ J te ρ (.tup ds)) (hb : EvI K φ J tb ρ p) (hne : ds ≠ []) (hp : ∀ i, p i → 2 ≤ i ∧ i ≤ 1000) (hz : ds.length ≤ 1000) : EvP K φ J (tOp (rRepT K) te tb) ρ (fun z => ∃ i : Int, p i ∧ z = .tup (List.replicate i.toNat ds).flatten) :=
  ev_op ha hb fun x y e ⟨i, e2, pi⟩ => by
    subst e e2
    intro H v w fr r1 r2 Q q
    obtain ⟨a, vs, rfl, p', rs⟩ := rep_tup r1
    cases (show w = _ from r2)
    refine ⟨a, i, vs, rfl, rfl, p'.sq, fun z => hne (List.eq_nil_of_length_eq_zero (by rw [← rs.length, z]; rfl)), (hp i pi).1, (hp i pi).2, by rw [rs.length]; exact hz, fun l hl => q _ _ _ (same_new hl) ⟨i, pi, rfl⟩ ⟨l, _, rfl, .inl ⟨fr l hl, .inl upd_same⟩, ?_⟩⟩
    exact (replicate_reps rs _).mono (But.of (same_new hl))
end

-- import HandS.Dict
/-! ### dicts: keys ints and texts, or tuples of these -/
def keyD : Key → D
  | .inl i => .int i
  | .inr s => .str s
class DKind (κ : Type) [DecidableEq κ] where
  kd : κ → D
  ho : List (κ × V) → HO
  nt : ∀ kvs xs, ho kvs ≠ .tup xs
  d : List κ → List D → D
  get : ∀ {K : PySem.W.Frag} {φ : Addr → Prop} {H : Hp} {a : Addr} {kvs : List (κ × V)} {k : κ} {v : V}, Rep K φ H (kd k) v → H a = some (ho kvs) → DGet H a v (valV kvs k)
  put : ∀ {K : PySem.W.Frag} {φ : Addr → Prop} {H : Hp} {a : Addr} {kvs : List (κ × V)} {k : κ} {y v : V}, Rep K φ H (kd k) y → H a = some (ho kvs) → kvs.length < sizeLine → DPut H a y v (upd H a (ho (putK kvs k v)))
  isd : ∀ {H : Hp} {a : Addr} {kvs : List (κ × V)}, H a = some (ho kvs) → IsD H a
  rep : ∀ {K : PySem.W.Frag} {φ : Addr → Prop} {H : Hp} {ks : List κ} {ds : List D} {v : V}, Rep K φ H (d ks ds) v ↔ ∃ a vs, v = .ref a ∧ (φ a ∧ H a = some (ho (ks.zip vs)) ∧ ks.length = ds.length) ∧ Reps K φ H ds vs
theorem keyD_v {K : PySem.W.Frag} {φ : Addr → Prop} {H : Hp} {k : Key} {v : V} (h : Rep K φ H (keyD k) v) : v = kV k := by
  cases k <;> exact h
theorem keysD_v {K : PySem.W.Frag} {φ : Addr → Prop} {H : Hp} : ∀ {ks : List Key} {vs : List V}, Reps K φ H (ks.map keyD) vs → vs = ks.map kV
  | [], _, h => h
  | k :: ks, vs, h => by
    obtain ⟨v, r, rfl, h1, h2⟩ := (show ∃ v r, vs = v :: r ∧ Rep K φ H (keyD k) v ∧ Reps K φ H (ks.map keyD) r from h)
    rw [keyD_v h1, keysD_v h2]
    rfl
instance : DKind Key where
  kd := keyD
  ho := HO.dK
  nt := fun _ _ h => nomatch h
  d := D.dk
  get := fun r e => by
    rw [keyD_v r]
    exact DGet.k e
  put := fun r e hl => by
    rw [keyD_v r]
    exact DPut.k e hl
  isd := fun e => .inl ⟨_, .inl e⟩
  rep := Iff.rfl
instance : DKind (List Key) where
  kd := fun ks => .tup (ks.map keyD)
  ho := HO.dT
  nt := fun _ _ h => nomatch h
  d := D.dt
  get := fun r e => by
    obtain ⟨b, vs, rfl, p, rs⟩ := rep_tup r
    rw [keysD_v rs] at p
    exact DGet.t e p.at.2
  put := fun r e hl => by
    obtain ⟨b, vs, rfl, p, rs⟩ := rep_tup r
    rw [keysD_v rs] at p
    exact DPut.t e p.at.2 hl
  isd := fun e => .inr ⟨_, .inl e⟩
  rep := Iff.rfl
section
variable {κ : Type} [DecidableEq κ] [DKind κ]
def valD (kds : List (κ × D)) (k : κ) : Option D := (kds.find? fun kv => decide (kv.1 = k)).map (·.2)
def putD (kds : List (κ × D)) (k : κ) (d : D) : List (κ × D) :=
  if (kds.any fun kv => decide (kv.1 = k)) = true then kds.map (fun kv => if kv.1 = k then (kv.1, d) else kv) else kds ++ [(k, d)]
theorem valD_nil {k : κ} : valD ([] : List (κ × D)) k = none := rfl
theorem valD_pos {p : κ × D} {r : List (κ × D)} {k : κ} (e : p.1 = k) : valD (p :: r) k = some p.2 := by simp [valD, List.find?_cons, e]
theorem valD_neg {p : κ × D} {r : List (κ × D)} {k : κ} (e : ¬ p.1 = k) : valD (p :: r) k = valD r k := by simp [valD, List.find?_cons, e]
theorem valD_any (k : κ) : ∀ kds : List (κ × D), (kds.any fun kv => decide (kv.1 = k)) = (valD kds k).isSome
  | [] => rfl
  | p :: r => by
    rw [List.any_cons]
    by_cases e : p.1 = k
    · simp only [valD_pos e, decide_eq_true e, Bool.true_or, Option.isSome_some]
    · rw [valD_neg e, decide_eq_false e, Bool.false_or]; exact valD_any k r
theorem valD_map (k j : κ) (y : D) : ∀ kds : List (κ × D), valD (kds.map fun kv => if kv.1 = k then (kv.1, y) else kv) j = (valD kds j).map fun x => if j = k then y else x
  | [] => rfl
  | p :: r => by
    have ih := valD_map k j y r
    rw [List.map_cons]
    by_cases h : p.1 = k
    · rw [if_pos h]
      by_cases e : p.1 = j
      · rw [valD_pos (p := (p.1, y)) e, valD_pos e, Option.map_some, if_pos (e.symm.trans h)]
      · rw [valD_neg (p := (p.1, y)) e, valD_neg e, ih]
    · rw [if_neg h]
      by_cases e : p.1 = j
      · rw [valD_pos (p := p) e, valD_pos e, Option.map_some, if_neg (fun z => h (e.trans z))]
      · rw [valD_neg (p := p) e, valD_neg e, ih]
theorem valD_snoc (k j : κ) (y : D) : ∀ kds : List (κ × D), valD kds k = none → valD (kds ++ [(k, y)]) j = if j = k then some y else valD kds j
  | [], _ => by
    by_cases e : k = j
    · rw [if_pos e.symm]; exact valD_pos (p := (k, y)) e
    · rw [if_neg (fun z => e z.symm)]; exact valD_neg (p := (k, y)) e
  | p :: r, hn => by
    rw [List.cons_append]
    have hk : ¬ p.1 = k := fun z => by rw [valD_pos z] at hn; cases hn
    rw [valD_neg hk] at hn
    have ih := valD_snoc k j y r hn
    by_cases e : p.1 = j
    · rw [valD_pos e, valD_pos e, if_neg (fun z => hk (e.trans z))]
    · rw [valD_neg e, valD_neg e, ih]
/-- what a dict holds behind a store -/
theorem valD_put (kds : List (κ × D)) (k j : κ) (y : D) : valD (putD kds k y) j = if j = k then some y else valD kds j := by
  unfold putD
  rw [valD_any]
  cases h : valD kds k with
  | none =>
    rw [if_neg (by simp)]
    exact valD_snoc k j y kds h
  | some x =>
    rw [if_pos (show (some x).isSome = true from rfl), valD_map]
    by_cases e : j = k
    · subst e
      rw [h, if_pos rfl]
      simp
    · rw [if_neg e]
      simp [e]
theorem putD_len (kds : List (κ × D)) (k : κ) (y : D) : (putD kds k y).length ≤ kds.length + 1 := by
  unfold putD
  split
  · rw [List.length_map]; omega
  · rw [List.length_append]; exact Nat.le_refl _
theorem putD_keys_old {kds : List (κ × D)} {k : κ} {y x : D} (h : valD kds k = some x) : (putD kds k y).map (·.1) = kds.map (·.1) := by
  unfold putD
  rw [valD_any, h, if_pos (show (some x).isSome = true from rfl), List.map_map]
  refine List.map_congr_left fun p _ => ?_
  show (if p.1 = k then (p.1, y) else p).1 = p.1
  split <;> rfl
theorem putD_new {kds : List (κ × D)} {k : κ} {y : D} (h : valD kds k = none) : putD kds k y = kds ++ [(k, y)] := by
  unfold putD
  rw [valD_any, h, if_neg (by simp)]
theorem valD_some {kds : List (κ × D)} {k : κ} : (valD kds k).isSome = true ↔ k ∈ kds.map (·.1) := by
  rw [← valD_any, List.any_eq_true]
  constructor
  · rintro ⟨p, hp, e⟩
    exact List.mem_map.mpr ⟨p, hp, of_decide_eq_true e⟩
  · intro h
    obtain ⟨p, hp, e⟩ := List.mem_map.mp h
    exact ⟨p, hp, decide_eq_true e⟩
variable {K : PySem.W.Frag} {φ φ' : Addr → Prop} {Jb J J' : Hp → Prop} {H H' H1 : Hp} {ρ ρ' : List (Option D)} {σ : L2.St} {ta : TA} {te tb td ty tv tx : TE} {x y z d : D} {P : D → Prop} {ds es : List D} {v : V} {vs : List V} {D0 : Ends} {l : Addr} {kds : List (κ × D)} {k : κ}
theorem zip_val : ∀ {kds : List (κ × D)} {vs : List V}, Reps K φ H (kds.map (·.2)) vs → ∀ k, (valD kds k = none ∧ valV ((kds.map (·.1)).zip vs) k = none) ∨ ∃ d v, valD kds k = some d ∧ valV ((kds.map (·.1)).zip vs) k = some v ∧ Rep K φ H d v
  | [], vs, h, k => .inl ⟨rfl, rfl⟩
  | p :: kds, vs, h, k => by
    obtain ⟨v, r, rfl, h1, h2⟩ := (show ∃ v r, vs = v :: r ∧ Rep K φ H p.2 v ∧ Reps K φ H (kds.map (·.2)) r from h)
    rw [List.map_cons, List.zip_cons_cons]
    by_cases e : p.1 = k
    · exact .inr ⟨p.2, v, valD_pos e, valV_pos e, h1⟩
    · rw [valD_neg e, valV_neg (p := (p.1, v)) e]
      exact zip_val h2 k
theorem zip_put (hd : Rep K φ H d v) {kds : List (κ × D)} {vs : List V} (h : Reps K φ H (kds.map (·.2)) vs) : ∃ vs', putK ((kds.map (·.1)).zip vs) k v = ((putD kds k d).map (·.1)).zip vs' ∧ Reps K φ H ((putD kds k d).map (·.2)) vs' := by
  have hl := h.length
  rw [List.length_map] at hl
  have hsome : (valV ((kds.map (·.1)).zip vs) k).isSome = (valD kds k).isSome := by
    rcases zip_val h k with ⟨e1, e2⟩ | ⟨d, v, e1, e2, _⟩ <;> rw [e1, e2] <;> rfl
  unfold putK putD
  rw [valV_any, valD_any, hsome]
  by_cases hs : (valD kds k).isSome = true
  · rw [if_pos hs, if_pos hs]
    clear hsome hs
    induction kds generalizing vs with
    | nil => exact ⟨vs, rfl, h⟩
    | cons p kds ih =>
      obtain ⟨u, r, rfl, h1, h2⟩ := (show ∃ v r, vs = v :: r ∧ Rep K φ H p.2 v ∧ Reps K φ H (kds.map (·.2)) r from h)
      obtain ⟨vs', e, r'⟩ := ih h2 (by simpa using hl)
      rw [List.map_cons, List.zip_cons_cons, List.map_cons, List.map_cons]
      by_cases hk : p.1 = k
      · refine ⟨v :: vs', ?_, ?_⟩
        · rw [List.map_cons, List.zip_cons_cons, ← e, if_pos hk, if_pos hk]
        · rw [List.map_cons, if_pos hk]
          exact Reps.cons hd r'
      · refine ⟨u :: vs', ?_, ?_⟩
        · rw [List.map_cons, List.zip_cons_cons, ← e, if_neg hk, if_neg hk]
        · rw [List.map_cons, if_neg hk]
          exact Reps.cons h1 r'
  · rw [if_neg hs, if_neg hs]
    refine ⟨vs ++ [v], ?_, ?_⟩
    · rw [List.map_append, List.zip_append (by rw [List.length_map, hl])]
      rfl
    · rw [List.map_append]
      exact h.append (Reps.cons hd Reps.nil)
/-- a live dict -/
abbrev LivD (K : PySem.W.Frag) (φ : Addr → Prop) (Jb J : Hp → Prop) (l : Addr) (kds : List (κ × D)) : Prop := LivO K φ Jb J l (fun vs => DKind.ho ((kds.map (·.1)).zip vs)) (kds.map (·.2))
def dictD (kds : List (κ × D)) : D := DKind.d (kds.map (·.1)) (kds.map (·.2))
/-- a dict, live or left as it is -/
def EvDict (K : PySem.W.Frag) (φ : Addr → Prop) (J : Hp → Prop) (td : TE) (ρ : List (Option D)) (kds : List (κ × D)) : Prop := ∀ σ H, At K φ J ρ σ H → ∀ Q : VK, (∀ a H', But φ H H' → At K φ J ρ σ H' → (∀ H'', But φ H' H'' → J H'' → ∃ vs, H'' a = some (DKind.ho ((kds.map (·.1)).zip vs)) ∧ Reps K φ H'' (kds.map (·.2)) vs) → Q (.ref a) H') → td σ H Q
theorem ed_frozen (h : EvD K φ J td ρ (dictD kds)) : EvDict K φ J td ρ kds := fun σ H A Q q => h σ H A _ fun v d H' b A' e r => by
  subst e
  obtain ⟨a, vs, rfl, ⟨p, e, hl⟩, rs⟩ := DKind.rep.mp r
  exact q a H' b A' fun H'' b' j => ⟨vs, b'.keep a _ p e, rs.mono b'⟩
theorem ed_live (L : LivD K φ Jb J l kds) (h : EvD K φ J td ρ (.raw (.ref l))) : EvDict K φ J td ρ kds := fun σ H A Q q => h σ H A _ fun v d H' b A' e r => by
  subst e
  cases (show v = _ from r)
  obtain ⟨vs, H0, rs, m, hl, rfl⟩ := L.ex
  exact q l H' b A' fun H'' b' j => ⟨vs, j.1.2, rs.mono j.2⟩
theorem ev_dget (hd : EvDict K φ J td ρ kds) (hy : EvD K φ J ty ρ (DKind.kd k)) (e : valD kds k = some d) : EvD K φ J (tDGet td ty) ρ d := fun σ H A Q q =>
  hd σ H A _ fun a H1 b1 A1 per => hy σ H1 A1 _ fun y d' H2 b2 A2 e2 r2 => by
    subst e2
    obtain ⟨vs, ea, rs⟩ := per H2 b2 A2.j
    rcases zip_val rs k with ⟨e1, _⟩ | ⟨d1, v1, e1, ev, r1⟩
    · rw [e] at e1; cases e1
    · rw [e] at e1
      cases e1
      refine ⟨a, v1, rfl, ?_, q v1 _ H2 (b1.trans b2) A2 rfl r1⟩
      rw [← ev]
      exact DKind.get r2 ea
theorem ev_din (hy : EvD K φ J ty ρ (DKind.kd k)) (hd : EvDict K φ J td ρ kds) : EvD K φ J (tDIn ty td) ρ (.bl (valD kds k).isSome) := fun σ H A Q q =>
  hy σ H A _ fun y d' H1 b1 A1 e1 r1 => hd σ H1 A1 _ fun a H2 b2 A2 per => by
    subst e1
    obtain ⟨vs, ea, rs⟩ := per H2 (But.refl _ _) A2.j
    refine ⟨a, _, rfl, DKind.get (r1.mono b2) ea, q _ _ H2 (b1.trans b2) A2 rfl ?_⟩
    rcases zip_val rs k with ⟨e1, e2⟩ | ⟨d1, v1, e1, e2, _⟩ <;> rw [e1, e2] <;> rfl
theorem ev_dnotin (hy : EvD K φ J ty ρ (DKind.kd k)) (hd : EvDict K φ J td ρ kds) : EvD K φ J (tDNotIn ty td) ρ (.bl (!(valD kds k).isSome)) := fun σ H A Q q =>
  hy σ H A _ fun y d' H1 b1 A1 e1 r1 => hd σ H1 A1 _ fun a H2 b2 A2 per => by
    subst e1
    obtain ⟨vs, ea, rs⟩ := per H2 (But.refl _ _) A2.j
    refine ⟨a, _, rfl, DKind.get (r1.mono b2) ea, q _ _ H2 (b1.trans b2) A2 rfl ?_⟩
    rcases zip_val rs k with ⟨e1, e2⟩ | ⟨d1, v1, e1, e2, _⟩ <;> rw [e1, e2] <;> rfl
theorem ev_dget2 (hd : EvDict K φ J td ρ kds) (hy : EvD K φ J ty ρ (DKind.kd k)) (hx : EvD K φ J tx ρ x) : EvD K φ J (tDGet2 td ty tx) ρ ((valD kds k).getD x) := fun σ H A Q q =>
  hd σ H A _ fun a H1 b1 A1 per => by
    obtain ⟨vs1, ea1, _⟩ := per H1 (But.refl _ _) A1.j
    refine ⟨a, rfl, DKind.isd ea1, hy σ H1 A1 _ fun y d' H2 b2 A2 e2 r2 => hx σ H2 A2 _ fun u d3 H3 b3 A3 e3 r3 => ?_⟩
    subst e2 e3
    obtain ⟨vs, ea, rs⟩ := per H3 (b2.trans b3) A3.j
    refine ⟨_, DKind.get (r2.mono b3) ea, q _ _ H3 ((b1.trans b2).trans b3) A3 rfl ?_⟩
    rcases zip_val rs k with ⟨e1, e2⟩ | ⟨d1, v1, e1, e2, r1⟩
    · rw [e1, e2]; exact r3
    · rw [e1, e2]; exact r1
/-- d[y] = v -/
theorem st_dputL {i : Nat} (A : At K φ J ρ σ H) (L : LivD K φ Jb J l kds) (hv : EvP K φ J tv ρ P) (hk : ρ[i]? = some (some (.raw (.ref l)))) (hy : EvD K φ J ty ρ (DKind.kd k)) (hz : kds.length ≤ 1000000)
    (kk : ∀ d J' H', P d → LivD K φ Jb J' l (putD kds k d) → At K φ J' ρ σ H' → D0.nx σ H') : sDPut (tVar i) ty tv D0 σ H := by
  obtain ⟨vs, H0, r, m, hl, rfl⟩ := L.ex
  refine hv σ H A _ fun v d H1 b1 A1 pd r1 => ev_var hk σ H1 A1 _ fun w d2 H2 b2 A2 e2 r2 => hy σ H2 A2 _ fun y d3 H3 b3 A3 e3 r3 => ?_
  subst e2 e3
  cases (show w = _ from r2)
  have b0 : But φ H0 H3 := A3.j.2
  have trl : H3 l ≠ none := b0.tr l hl
  obtain ⟨vs', ep, rp⟩ := zip_put (k := k) ((r1.mono b2).mono b3) (r.mono b0)
  have hlen : ((kds.map (·.1)).zip vs).length < sizeLine := szlt (by
    rw [List.length_zip, List.length_map]
    omega)
  refine ⟨l, _, rfl, DKind.put r3 A3.j.1.2 hlen, ?_⟩
  rw [ep]
  refine kk d _ _ pd ⟨L.np, L.st, L.pl, vs', L2.upd H3 l (DKind.ho (((putD kds k d).map (·.1)).zip vs')), rp.mono ((But.refl φ H3).upd L.np), m.up fun a h => upd_tr a (b0.tr a h), (by rw [upd_same]; exact fun z => nomatch z), rfl⟩ (A3.upd (ho := fun xs => DKind.nt _ xs) L.np ⟨⟨L.st _ _ A3.j.1.1, upd_same⟩, But.refl _ _⟩ ?_)
  exact ((m.up fun a h => upd_tr a (b0.tr a h)).and (Mo.at (by rw [upd_same]; exact fun z => nomatch z))).and (Mo.but fun _ h => h)
theorem LivO.freezeD (L : LivD K (wo φ l) Jb J l kds) (hl : φ l) {i : Nat} (A : At K (wo φ l) J ρ σ H) (hk : ρ[i]? = some (some (.raw (.ref l)))) : At K φ Jb (ρ.set i (some (dictD kds))) σ H := by
  obtain ⟨vs, H0, r, m, hn, rfl⟩ := L.ex
  have b0 : But (wo φ l) H0 H := A.j.2
  have up : Up (wo φ l) φ H H := fun a o p e => ⟨p.1, e⟩
  have rr : Rep K φ H (dictD kds) (.ref l) := DKind.rep.mpr ⟨l, vs, rfl, ⟨hl, A.j.1.2, by rw [List.length_map, List.length_map]⟩, Reps.up up _ vs (r.mono b0)⟩
  obtain ⟨w, ew, rw'⟩ := A.sr.2 i _ hk
  cases (show w = _ from rw')
  refine ⟨?_, A.fr.fst, A.j.1.1, m.up b0.tr⟩
  have s1 := (A.sr.up up)
  refine ⟨by rw [List.length_set]; exact s1.1, fun j d hd => ?_⟩
  by_cases e : i = j
  · subst e
    have hlt : i < ρ.length := (List.getElem?_eq_some_iff.mp hk).1
    rw [List.getElem?_set_self hlt] at hd
    cases hd
    exact ⟨_, ew, rr⟩
  · rw [List.getElem?_set_ne e] at hd
    exact s1.2 j d hd
end
section
variable {K : PySem.W.Frag} {φ : Addr → Prop} {J : Hp → Prop} {ρ : List (Option D)} {te tk tv : TE}
/-- {} -/
theorem en_dnewK : EvNO K φ J tDNewK ρ (fun ds C => ds = (([] : List (Key × D)).map (·.2)) ∧ C = fun vs => HO.dK ((([] : List (Key × D)).map (·.1)).zip vs)) := fun σ H A Q q p hp =>
  q p [] [] _ H _ (But.refl _ _) A hp (But.of (same_new hp)) (A.same (same_new hp)) ⟨rfl, rfl⟩ (fun _ h => nomatch h) upd_same Reps.nil
theorem en_dnewT : EvNO K φ J tDNewT ρ (fun ds C => ds = (([] : List (List Key × D)).map (·.2)) ∧ C = fun vs => HO.dT ((([] : List (List Key × D)).map (·.1)).zip vs)) := fun σ H A Q q p hp =>
  q p [] [] _ H _ (But.refl _ _) A hp (But.of (same_new hp)) (A.same (same_new hp)) ⟨rfl, rfl⟩ (fun _ h => nomatch h) upd_same Reps.nil
/-- {k: v} -/
theorem en_disp1 {k : Key} {d : D} (hk : ∀ J' φ', Ext φ J φ' J' → EvD K φ' J' tk ρ (keyD k)) (hv : ∀ J' φ', Ext φ J φ' J' → EvD K φ' J' tv ρ d) : EvNO K φ J (tDisp [(tk, tv)]) ρ (fun ds C => ds = ([(k, d)].map (·.2)) ∧ C = fun vs => HO.dK (([(k, d)].map (·.1)).zip vs)) := fun σ H A Q q p hp => by
  have ext : Ext φ J (wo φ p) (fun H => J H ∧ H p = some (.dK [])) := ⟨fun _ h => h.1, fun p' s ns hq => ⟨fun z => hq.np z.1, hq.ne, fun H h => hq.ok H h.1, fun H' H'' h k o => ⟨hq.st H' H'' h.1 k o, k _ _ (by
    obtain ⟨_, _, _, _, h1, _⟩ := hq.ok _ A.j
    exact (ne_of_none h1 hp).symm) h.2⟩⟩, fun a p' h => ⟨p', fun e => h H A.j (by rw [e]; exact hp)⟩⟩
  have A1 : At K (wo φ p) (fun H => J H ∧ H p = some (.dK [])) ρ σ (upd H p (.dK [])) := A.newLive hp ⟨A.mono _ _ (fun a o _ e => same_new hp a o e) A.j, upd_same⟩ ((A.mono.up upd_tr).and (Mo.at (by rw [upd_same]; exact fun z => nomatch z)))
  refine hk _ _ ext σ _ A1 _ fun v1 d1 H2 b2 A2 e1 r1 => hv _ _ ext σ H2 A2 _ fun v2 d2 H3 b3 A3 e2 r2 => ?_
  subst e1 e2
  have hv1 : v1 = kV k := keyD_v r1
  subst hv1
  refine ⟨A3.j.2, [(k, v2)], rfl, Nat.le_of_ble_eq_true rfl, ?_⟩
  have np : ¬ wo φ p p := fun z => z.2 rfl
  have bb : But φ H (upd H3 p (.dK [(k, v2)])) := ⟨fun a o pa e => by
    have ne := ne_of_none e hp
    rw [upd_ne ne]
    exact b3.keep a o ⟨pa, ne⟩ (b2.keep a o ⟨pa, ne⟩ (by rw [upd_ne ne]; exact e)), fun a h => upd_tr a (b3.tr a (b2.tr a (upd_tr a h)))⟩
  have jj : J (upd H3 p (.dK [(k, v2)])) := A.mono H3 _ (fun a o h e => by
    rw [upd_ne (show a ≠ p from fun z => h (by rw [z]; exact hp))]
    exact e) A3.j.1
  refine q p [v2] [d2] _ H _ (But.refl _ _) A hp bb ⟨A.sr.up (Up.of bb), A3.fr.fst.upd (fun _ h => nomatch h), jj, A.mono.up bb.tr⟩ ⟨rfl, rfl⟩ (fun _ h => nomatch h) upd_same (Reps.cons (r2.mono ((But.refl _ H3).upd np)) Reps.nil)
end

-- import HandS.SortKw
-- import HandS.SortOrd
-- import HandS.SortRule
-- import HandS.SortInts
-- import HandS.DictTup
-- import HandS.More
-- import KE.KDictCopyH
-- import KE.KDictWalk
-- import KE.KDictExact
/-! ### sorted(d): the keys of a dict, in order -/
section
variable {prog : Program} {w : World} {A : Around} {E : Value → Shared → Prop} {s : Shared}
open SrtO in
theorem sorted_raw {d : Addr} {es : Array DictEntry} {ep : Nat} {b : Bool} {kw : List (Str × Value)} {ltv : Value → Value → Bool} {Q : Value → Shared → Prop} (lo : (d == sysModules) = false) (hh : A.handled = none) (hm : s.heap.DictRaw d es ep) (hz : es.size ≤ sizeLine)
    (hk : ∀ a, Builtin.«list.sort» ⟨[.ref a], kw⟩ = Builtin.«list.sort» ⟨[.ref a], [(Str.ofString "reverse", .bool b)]⟩) (ha1 : argsOk "sorted" ⟨[.ref d], kw⟩) (ha2 : ∀ a, argsOk "list.sort" ⟨[a], kw⟩) (O : Swo ltv)
    (hS : 2 ≤ (es.toList.map (·.key)).length → ∀ (h₁ : Heap) (tk : Nat) (a : Addr), h₁.get? a = some (seqObj "list" (es.toList.map (·.key)).toArray 0) → (∀ b o, s.heap.get? b = some o → b ≠ a ∧ h₁.get? b = some o) → SortableO prog w A.in1.in1 { s with heap := h₁, toks := tk } a (es.toList.map (·.key)) ltv)
    (h : ∀ (out : List Value) (h1 h' : Heap) (tk : Nat) (a : Addr) (n : Nat), Srtd ltv out → Stb ltv out (if b = true then (es.toList.map (·.key)).reverse else es.toList.map (·.key)) → (∀ b o, s.heap.get? b = some o → h1.get? b = some o) → (∀ b o, h1.get? b = some o → h'.get? b = some o) → h1.objs.size ≤ a → h'.get? a = some (seqObj "list" (if b = true then out.toArray.reverse else out.toArray) n) → Q (.ref a) { s with heap := h', toks := tk }) :
    wpAny (model prog w) A (call (.builtin "sorted") [.ref d] kw) Q E s := by
  refine PyProof.Rows.call_function_entry_kw PyProof.Rows.kind_sorted PyProof.Rows.plain_sorted PyProof.Rows.entry_sorted ha1 ?_
  unfold Builtin.«sorted»
  refine wpAny_bind (m := checkCount "sorted" 1 1 _) (wpAny_pure ?_)
  refine wpAny_bind (PySem.W.kdu_collect (A := A.in1) (KdlSrc.rawDict (es := es) (ep := ep) lo) hh hm hz fun h' tk acc hkp hacc => ?_)
  have eacc : acc.toList = es.toList.map (·.key) := by
    refine List.ext_getElem? fun j => ?_
    rw [List.getElem?_map]
    cases e : acc.toList[j]? with
    | none =>
      have h1 : acc.toList.length ≤ j := List.getElem?_eq_none_iff.mp e
      rw [Array.length_toList, hacc.1] at h1
      rw [List.getElem?_eq_none (by rw [Array.length_toList]; exact h1)]
      rfl
    | some v =>
      obtain ⟨hi, ev⟩ := hacc.2 j v (by rw [← Array.getElem?_toList]; exact e)
      rw [Array.getElem?_toList, Array.getElem?_eq_getElem hi, ev]
      rfl
  have hlen : acc.toList.length = es.size := by rw [Array.length_toList, hacc.1]
  refine wpAny_bind (wpAny_newList ?_ (by rw [hlen]; exact hz))
  rw [eacc]
  have hoL : (h'.push (seqObj "list" (es.toList.map (·.key)).toArray 0)).get? h'.objs.size = some (seqObj "list" (es.toList.map (·.key)).toArray 0) := Heap.get?_push_size _ rfl
  show wpAny _ _ _ _ _ { s with heap := h'.push (seqObj "list" (es.toList.map (·.key)).toArray 0), toks := tk }
  have keep : ∀ b o, s.heap.get? b = some o → b ≠ h'.objs.size ∧ (h'.push (seqObj "list" (es.toList.map (·.key)).toArray 0)).get? b = some o := fun b o q =>
    ⟨Nat.ne_of_lt (Heap.lt_size (hkp b o q)), Heap.get?_push_of_some _ (hkp b o q)⟩
  refine wpAny_bind (wpAny_holding (PyProof.Rows.wpAny_call_entry_kw PyProof.Rows.slot_list_sort ⟨_, hoL, rfl⟩ PyProof.Rows.entry_list_sort ?_ (ha2 _)))
  rw [hk]
  refine SrtR.list_sort_ordR O hoL (by rw [← eacc, hlen]; exact hz) (fun h2 => hS h2 _ _ _ hoL keep) fun out hs hb => ⟨_, rfl, ?_⟩
  obtain ⟨n, hn⟩ := PyProof.Rows.sortedHeap_at (vs := es.toList.map (·.key)) (out := if b = true then out.toArray.reverse else out.toArray) hoL
  refine wpAny_pure ⟨_, rfl, h out h' _ _ _ n hs hb hkp (fun b o q => ?_) (Nat.le_refl _) hn⟩
  have hlt : b < h'.objs.size := Heap.lt_size q
  rw [PyProof.Rows.sortedHeap_old (Nat.ne_of_lt hlt) (by rw [PyProof.Rows.size_push']; exact Nat.lt_succ_of_lt hlt)]
  exact Heap.get?_push_of_some _ q
end
/-- the raw entries of a dict with keys ints and texts -/
theorem mixRaw {P : Program} {w : World} {h : Heap} {a : Addr} {vs : List (Key × Value)} (x : h.DictOf (mixKind P w) a vs) : ∃ es ep, h.DictRaw a es ep ∧ es.size = vs.length ∧ ∀ (j : Nat) (k : Key), (vs.map (·.1))[j]? = some k → ∃ v, (es.toList.map (·.key))[j]? = some v ∧ keyIs k v = true := by
  obtain ⟨ep, hat⟩ := x.dictAt
  obtain ⟨es, hr, hsz, hall⟩ := PySem.Heap.DictAt.raw hat
  refine ⟨es, ep, hr, hsz, fun j k hk => ?_⟩
  rw [List.getElem?_map] at hk
  obtain ⟨p, hp, e⟩ := Option.map_eq_some_iff.mp hk
  have hj : j < vs.length := (List.getElem?_eq_some_iff.mp hp).1
  have hi : j < es.size := by omega
  refine ⟨es[j].key, by rw [List.getElem?_map, Array.getElem?_toList, Array.getElem?_eq_getElem hi]; rfl, ?_⟩
  have z := hall j hi p.1 p.2 hp
  rw [← e]
  first | exact z | exact z.1
def OrdB' (b : Bool) (ns : List Int) : Prop := if b = true then ns.Pairwise (· ≥ ·) else ns.Pairwise (· ≤ ·)
def rSortD (b : Bool) (zs0 : List V) : List V → List V → Hp → VK → Prop := fun xs zs H Q => ∃ (a : Addr) (kvs : List (Key × V)) (ks : List Int), xs = [.ref a] ∧ zs = zs0 ∧ H a = some (.dK kvs) ∧ kvs.map (·.1) = ks.map Sum.inl ∧
  ∀ (ys : List Int) (p : Addr), ys.Perm ks → OrdB b ys → H p = none → Q (.ref p) (upd H p (.lst (ys.map V.int)))
section
variable {X : Cx}
theorem sortD_run (hcalm : X.calm = true) {b : Bool} {kw : List (Str × Value)} {pins : List (Addr × Obj)} {s : Shared} {σ : L2.St} {H : Hp} {a : Addr} {kvs : List (Key × V)} {ks : List Int} {Q : VK} (I : Inv X pins σ H s) (hd : H a = some (.dK kvs)) (hks : kvs.map (·.1) = ks.map Sum.inl)
    (hk : ∀ a, Builtin.«list.sort» ⟨[.ref a], kw⟩ = Builtin.«list.sort» ⟨[.ref a], [(Str.ofString "reverse", .bool b)]⟩) (ha1 : argsOk "sorted" ⟨[.ref a], kw⟩) (ha2 : ∀ a, argsOk "list.sort" ⟨[a], kw⟩)
    (q : ∀ (ys : List Int) (p : Addr), ys.Perm ks → OrdB b ys → H p = none → Q (.ref p) (upd H p (.lst (ys.map V.int)))) : wpAny (model X.prog X.w) X.A (call (.builtin "sorted") [.ref a] kw) (EP X pins σ Q) X.xe s := by
  obtain ⟨z, lo, vs, rel, dd⟩ := dk_of I.hok hd
  have hkeys : vs.map (·.1) = ks.map Sum.inl := rel.keys.symm.trans hks
  obtain ⟨es, ep, hr, hsz, hall⟩ := mixRaw dd
  have hl : vs.length = ks.length := by
    have e := congrArg List.length hkeys
    rw [List.length_map, List.length_map] at e
    exact e
  have hz : es.size ≤ sizeLine := by rw [hsz, ← rel.length]; exact z
  have hi : IntsAre (es.toList.map (·.key)) ks := ints_each (by rw [List.length_map, Array.length_toList, hsz, hl]) fun j v e => by
    have hj : j < ks.length := by
      have := (List.getElem?_eq_some_iff.mp e).1
      rw [List.length_map, Array.length_toList, hsz, hl] at this
      exact this
    have e3 : (vs.map (·.1))[j]? = some (Sum.inl ks[j]) := by rw [hkeys, List.getElem?_map, List.getElem?_eq_getElem hj]; rfl
    obtain ⟨v', e4, k4⟩ := hall j _ e3
    rw [e] at e4
    cases e4
    rcases keyIs_shape k4 with ⟨i, t, ek, ev⟩ | ⟨y, t, ek, ev⟩
    · cases ek
      exact ⟨_, t, List.getElem?_eq_getElem hj, ev⟩
    · cases ek
  refine sorted_raw lo (I.ok.hd hcalm) hr hz hk ha1 ha2 SrtO.swo_int (fun h2 h₁ tk a' _ _ => SrtO.ints_sortable hi h2) fun out h1 h' tk a' n h2 h3 k1 k2 ha' hn => ?_
  obtain ⟨ns', g1, g2, g3⟩ := SrtR.ints_outR hi h2 h3
  have I1 : Inv X pins σ H { s with heap := h1, toks := tk } := I.kept k1
  have e0 : ((if b = true then out.toArray.reverse else out.toArray).toList).toArray = (if b = true then out.toArray.reverse else out.toArray) := by rw [Array.toArray_toList]
  have hlen : (ns'.map V.int).length ≤ sizeLine := by
    rw [List.length_map, g2.length_eq, ← hl, ← hsz]
    exact hz
  exact ⟨.ref a', upd H a' (.lst (ns'.map V.int)), I1.laid (t' := tk) k2 ha' ⟨hlen, _, n, vals_of_ints g1, by rw [e0]; exact hn⟩, rfl, q _ _ g2 g3 (I1.hok.fresh ha')⟩
theorem cr_sortDRev (hcalm : X.calm = true) {b : Bool} : CallRK X (.builtin "sorted") [Str.ofString "reverse"] (rSortD b [.bl b]) := by
  intro pins s σ H vs zs us ws Q I r rz h
  obtain ⟨a, kvs, ks, rfl, rfl, hs, hks, q⟩ := h
  obtain rfl := Vals.ref1 r
  obtain ⟨w1, rfl, e1⟩ := vals1 rz
  obtain rfl : w1 = Value.bool b := e1
  exact sortD_run hcalm I hs hks (fun _ => rfl) (PyProof.Rows.args_sorted_rev _ _) (fun _ => PyProof.Rows.args_list_sort_rev _ _) q
end

-- import HandS.DictComp
/-! ### dict comprehensions, pop(i), in a tuple of ints -/
section
variable {K : PySem.W.Frag} {φ φ' : Addr → Prop} {Jb J J' : Hp → Prop} {H H' H1 : Hp} {ρ ρ' : List (Option D)} {σ : L2.St} {te tb tk tv : TE} {x y z d : D} {P : D → Prop} {ds es : List D} {v : V} {vs : List V} {D0 : Ends} {l : Addr}
def foldK (kf : D → Key) (vf : D → D) (ds : List D) : List (Key × D) := ds.foldl (fun acc d => putD acc (kf d) (vf d)) []
theorem foldK_snoc {kf : D → Key} {vf : D → D} {ds : List D} {d : D} : foldK kf vf (ds ++ [d]) = putD (foldK kf vf ds) (kf d) (vf d) := by
  unfold foldK
  rw [List.foldl_append]
  rfl
theorem foldK_len {kf : D → Key} {vf : D → D} {ds : List D} : (foldK kf vf ds).length ≤ ds.length := by
  suffices h : ∀ acc : List (Key × D), (ds.foldl (fun acc d => putD acc (kf d) (vf d)) acc).length ≤ acc.length + ds.length by
    have := h []
    rw [List.length_nil, Nat.zero_add] at this
    exact this
  induction ds with
  | nil => intro acc; exact Nat.le_refl _
  | cons d ds ih =>
    intro acc
    have h1 := ih (putD acc (kf d) (vf d))
    have h2 := putD_len acc (kf d) (vf d)
    rw [List.foldl_cons, List.length_cons]
    omega
/-- {k: v for x in ds} -/
theorem en_dc {wi : TI} {g : TG} {ws us : List Nat} {ρd : D → List (Option D)} {kf : D → Key} {vf : D → D} (hi : IterD K φ J wi ρ ds) (hl : ds.length ≤ 1000000) (hu : ∀ i ∈ us, i ∈ ws)
    (hg : ∀ d ∈ ds, EvG K g d (wipeR ρ ws) (ρd d) us)
    (hk : ∀ d ∈ ds, ∀ φ' J', Ext φ J φ' J' → EvD K φ' J' tk (ρd d) (keyD (kf d)))
    (he : ∀ d ∈ ds, ∀ φ' J', Ext φ J φ' J' → EvD K φ' J' tv (ρd d) (vf d)) :
    EvNO K φ J (tDc wi g tYes tk tv ws) ρ (fun xs C => xs = ((foldK kf vf ds).map (·.2)) ∧ C = fun vs => HO.dK (((foldK kf vf ds).map (·.1)).zip vs)) := fun σ H A Q q => by
  refine hi σ H A _ fun J0 ds' H1 b1 A1 pd w => ?_
  subst pd
  intro D0 hD
  have neP : ∀ p s ns, Pooled φ J p s ns → p ≠ D0 := fun p s ns hp => by
    obtain ⟨a1, a2, a3, a4, h1, _⟩ := hp.ok _ A1.j
    exact ne_of_none h1 hD
  let φ' : Addr → Prop := fun a => φ a ∧ a ≠ D0
  let KV (i : Nat) : List (Key × D) := foldK kf vf (ds'.take i)
  have ext : ∀ acc : HO, Ext φ J φ' (fun H => J H ∧ H D0 = some acc) := fun acc => ⟨fun _ h => h.1, fun p s ns hp => ⟨fun z => hp.np z.1, hp.ne, fun H h => hp.ok H h.1, fun H H' h k o => ⟨hp.st H H' h.1 k o, k _ _ (neP p s ns hp).symm h.2⟩⟩, fun a p h => ⟨p, fun e => h H1 A1.j (by rw [e]; exact hD)⟩⟩
  have mono : ∀ (acc : HO) (H2 : Hp), (∀ a, H1 a ≠ none → H2 a ≠ none) → H2 D0 ≠ none → Mo H2 (fun H => J H ∧ H D0 = some acc) := fun acc H2 s h => (A1.mono.up s).and (Mo.at h)
  refine ⟨fun i m H2 => m = ds'.length - i ∧ i ≤ ds'.length ∧ But φ H1 H2 ∧ ∃ acc, Reps K φ' H2 ((KV i).map (·.2)) acc ∧ At K φ' (fun H => J H ∧ H D0 = some (.dK (((KV i).map (·.1)).zip acc))) (wipeR ρ ws) (L2.wipe σ ws) H2,
    ⟨ds'.length, rfl, Nat.zero_le _, But.of (same_new hD), [], Reps.nil, ?_⟩, ?_⟩
  · have A2 := A1.newLive (o := .dK []) (J' := fun H => J H ∧ H D0 = some (.dK [])) hD ⟨A1.mono _ _ (fun a o _ e => same_new hD a o e) A1.j, upd_same⟩ (mono _ _ upd_tr (by rw [upd_same]; exact fun z => by cases z))
    exact ⟨A2.sr.wipe ws, A2.fr, A2.j, A2.mono⟩
  · rintro i m H2 ⟨rfl, hi, b2, acc, rs, A2⟩
    have upw : Up φ φ' H1 H2 := fun a o p e => ⟨⟨p, ne_of_none e hD⟩, b2.keep a o p e⟩
    have fr2 : Frm φ' H2 := A2.fr
    obtain ⟨wg, wstop⟩ := w φ' i H2 upw fr2
    by_cases hlt : i < ds'.length
    · have hd : ds'[i]? = some ds'[i] := List.getElem?_eq_getElem hlt
      obtain ⟨go, yl⟩ := wg _ hd
      have hmem : ds'[i] ∈ ds' := List.getElem_mem hlt
      have tkk : KV (i + 1) = putD (KV i) (kf ds'[i]) (vf ds'[i]) := by
        show foldK kf vf (ds'.take (i + 1)) = _
        rw [List.take_add_one, hd]
        exact foldK_snoc
      refine .inr ⟨go, fun H3 => But φ H1 H3 ∧ ∃ acc, Reps K φ' H3 ((KV (i + 1)).map (·.2)) acc ∧ At K φ' (fun H => J H ∧ H D0 = some (.dK (((KV (i + 1)).map (·.1)).zip acc))) (wipeR ρ ws) (L2.wipe σ ws) H3, ?_, ?_⟩
      · rintro H3 ⟨b3, acc3, r3, A3⟩
        exact ⟨ds'.length - (i + 1), by omega, rfl, hlt, b3, acc3, r3, A3⟩
      · intro x H3 hy
        obtain ⟨s3, r3⟩ := yl x H3 hy
        have A3 := A2.same s3
        have rs3 := rs.mono (But.of (φ := φ') s3)
        have b3 : But φ H1 H3 := b2.trans (But.of s3)
        refine hg _ hmem φ' _ _ H3 x A3 r3 _ fun σ4 A4 hw4 => ⟨?_, ?_⟩
        · rw [hw4 ws hu]
          exact wipe_wipe ws
        · refine et_yes (K := K) (φ := φ') σ4 H3 A4 _ fun bb H4 b4 A4' hbb => ?_
          subst hbb
          rw [if_pos rfl]
          refine hk _ hmem φ' _ (ext _) σ4 H4 A4' _ fun u d5 H5 b5 A5 e5 r5 => he _ hmem φ' _ (ext _) σ4 H5 A5 _ fun v d6 H6 b6 A6 e6 r6 => ?_
          subst e5 e6
          have ek : u = kV (kf ds'[i]) := keyD_v r5
          have nD : ¬ φ' D0 := fun z => z.2 rfl
          have b46 : But φ' H3 H6 := (b4.trans b5).trans b6
          obtain ⟨acc', ep, rp⟩ := zip_put (k := kf ds'[i]) r6 (rs3.mono b46)
          have bb6 : But φ H1 H6 := ⟨fun a o p e => b46.keep a o ⟨p, ne_of_none e hD⟩ (b3.keep a o p e), fun a h => b46.tr a (b3.tr a h)⟩
          have hlen : (((KV i).map (·.1)).zip acc).length < sizeLine := szlt (by
            have h1 : (KV i).length ≤ (ds'.take i).length := foldK_len
            rw [List.length_zip, List.length_map]
            rw [List.length_take] at h1
            omega)
          refine ⟨_, kf ds'[i], ek, A6.j.2, hlen, ?_⟩
          rw [ep, tkk]
          refine ⟨⟨fun a o p e => ?_, fun a h => upd_tr a (bb6.tr a h)⟩, acc', rp.mono ((But.refl φ' H6).upd nD), ?_⟩
          · rw [upd_ne (ne_of_none e hD)]
            exact bb6.keep a o p e
          · have A6' : At K φ' (fun H => J H ∧ H D0 = some (.dK (((KV i).map (·.1)).zip acc))) (wipeR ρ ws) (L2.wipe σ ws) H6 := ⟨A3.sr.up (Up.of b46), A6.fr, A6.j, A6.mono⟩
            have jj : ∀ o, J (upd H6 D0 o) := fun o => A1.mono H6 _ (fun a o h e => by
              rw [upd_ne (show a ≠ D0 from fun z => h (by rw [z]; exact hD))]
              exact e) A6.j.1
            exact A6'.upd nD ⟨jj _, upd_same⟩ (mono _ _ (fun a h => upd_tr a (bb6.tr a h)) (by rw [upd_same]; exact fun z => by cases z))
    · have e : i = ds'.length := by omega
      subst e
      refine .inl ⟨wstop rfl, ?_⟩
      have eF : KV ds'.length = foldK kf vf ds' := by
        show foldK kf vf (ds'.take _) = _
        rw [List.take_length]
      rw [eF] at rs A2
      have A3 : At K φ J ρ σ H2 := ⟨A1.sr.up (Up.of b2), A2.fr.fst, A2.j.1, A1.mono.up b2.tr⟩
      exact q D0 acc _ _ H1 H2 b1 A1 hD b2 A3 ⟨rfl, rfl⟩ (fun _ h => nomatch h) A2.j.2 rs
/-- x = xs.pop(i) -/
theorem st_popL {j k n : Nat} {i : Int} (A : At K φ J ρ σ H) (L : Liv K φ Jb J l ds) (hk : ρ[k]? = some (some (.raw (.ref l)))) (hn : seqIndex? i ds.length = some n) (hd : ds[n]? = some d) (h1 : -(2 ^ 63) ≤ i) (h2 : i < 2 ^ 63)
    (kk : ∀ J' σ' H', Liv K φ Jb J' l (ds.eraseIdx n) → At K φ J' (ρ.set j (some d)) σ' H' → D0.nx σ' H') : tAsg (tBM K "list" rPopAt (tVar k) (tCons (tC (.int i)) tNil)) (gName j) D0 σ H := by
  obtain ⟨vs, H0, r, m, hl, rfl⟩ := L.ex
  obtain ⟨w, e, rw'⟩ := A.sr.2 k _ hk
  cases (show w = _ from rw')
  obtain ⟨v, hv, rv⟩ := r.get hd
  have b0 : But φ H0 H := A.j.2
  refine ⟨_, e, .inl ⟨rfl, _, SqL.of A.j.1.2⟩, l, vs, i, n, v, rfl, rfl, A.j.1.2, h1, h2, by rw [r.length]; exact hn, hv, ?_⟩
  have re : ∀ (ds : List D) (vs : List V) (n : Nat), Reps K φ H0 ds vs → Reps K φ H0 (ds.eraseIdx n) (vs.eraseIdx n) := by
    intro ds
    induction ds with
    | nil =>
      intro vs n h
      cases (show vs = [] from h)
      exact Reps.nil
    | cons x ds ih =>
      intro vs n h
      obtain ⟨u, r', rfl, g1, g2⟩ := (show ∃ v r, vs = v :: r ∧ Rep K φ H0 x v ∧ Reps K φ H0 ds r from h)
      cases n with
      | zero => exact g2
      | succ n => exact Reps.cons g1 (ih r' n g2)
  have bu : But φ H0 (L2.upd H l (.lst (vs.eraseIdx n))) := b0.upd L.np
  refine kk _ _ _ ⟨L.np, L.st, L.pl, vs.eraseIdx n, L2.upd H l (.lst (vs.eraseIdx n)), (re ds vs n r).mono bu, m.up bu.tr, (by rw [upd_same]; exact fun z => nomatch z), rfl⟩ ?_
  have A2 := A.upd (J' := fun H'' => (Jb H'' ∧ H'' l = some (.lst (vs.eraseIdx n))) ∧ But φ (L2.upd H l (.lst (vs.eraseIdx n))) H'') L.np ⟨⟨L.st _ _ A.j.1.1, upd_same⟩, But.refl _ _⟩ (((m.up bu.tr).and (Mo.at (by rw [upd_same]; exact fun z => nomatch z))).and (Mo.but fun _ h => h))
  exact A2.set j (rv.mono bu)
/-- an int in a tuple or list of ints -/
theorem inV_ints {i : Int} : ∀ ns : List Int, inV (.int i) (ns.map V.int) = decide (i ∈ ns)
  | [] => rfl
  | n :: ns => by
    have ih := inV_ints (i := i) ns
    unfold inV at ih ⊢
    rw [List.map_cons, List.any_cons, ih]
    by_cases h : i = n
    · subst h
      simp [eqV]
    · have h' : ¬ n = i := fun z => h z.symm
      simp [eqV, h, h']
theorem flat_ints {ns : List Int} : (ns.map V.int).all flatV = true := by
  rw [List.all_map, List.all_eq_true]
  intro _ _
  rfl
theorem ev_inT {i : Int} {ns : List Int} (ha : EvD K φ J te ρ (.int i)) (hb : EvD K φ J tb ρ (.tup (ns.map D.int))) : EvD K φ J (tOp (rIn K false) te tb) ρ (.bl (decide (i ∈ ns))) := ev_opD ha hb fun H v w _ r1 r2 Q q => by
  cases (show v = _ from r1)
  obtain ⟨a, vs, rfl, p, rs⟩ := rep_tup r2
  rw [rs.ints] at p
  exact ⟨a, _, rfl, .inr p.sq, rfl, flat_ints, q _ _ H (Same.refl H) rfl (by rw [if_neg (by simp), inV_ints]; rfl)⟩
theorem ev_inL {i : Int} {ns : List Int} (ha : EvD K φ J te ρ (.int i)) (hb : EvD K φ J tb ρ (.lst (ns.map D.int))) : EvD K φ J (tOp (rIn K false) te tb) ρ (.bl (decide (i ∈ ns))) := ev_opD ha hb fun H v w _ r1 r2 Q q => by
  cases (show v = _ from r1)
  obtain ⟨a, vs, rfl, p, rs⟩ := rep_lst r2
  rw [rs.ints] at p
  exact ⟨a, _, rfl, .inl p.sq, rfl, flat_ints, q _ _ H (Same.refl H) rfl (by rw [if_neg (by simp), inV_ints]; rfl)⟩
/-- .. in a live list -/
theorem ev_inLL {i : Int} {ns : List Int} (L : Liv K φ Jb J l (ns.map D.int)) (ha : EvD K φ J te ρ (.int i)) (hb : EvD K φ J tb ρ (.raw (.ref l))) : EvD K φ J (tOp (rIn K false) te tb) ρ (.bl (decide (i ∈ ns))) := fun σ H A Q q =>
  ha σ H A _ fun v x H1 b1 A1 e1 r1 => hb σ H1 A1 _ fun w y H2 b2 A2 e2 r2 => by
    subst e1 e2
    cases (show v = _ from r1)
    cases (show w = _ from r2)
    obtain ⟨vs, H0, r, m, hl, rfl⟩ := L.ex
    have ev := r.ints
    subst ev
    exact ⟨l, _, rfl, .inl (SqL.of A2.j.1.2), rfl, flat_ints, q _ _ H2 (b1.trans b2) A2 rfl (by rw [if_neg (by simp), inV_ints]; rfl)⟩
theorem ev_notInLL {i : Int} {ns : List Int} (L : Liv K φ Jb J l (ns.map D.int)) (ha : EvD K φ J te ρ (.int i)) (hb : EvD K φ J tb ρ (.raw (.ref l))) : EvD K φ J (tOp (rIn K true) te tb) ρ (.bl (!decide (i ∈ ns))) := fun σ H A Q q =>
  ha σ H A _ fun v x H1 b1 A1 e1 r1 => hb σ H1 A1 _ fun w y H2 b2 A2 e2 r2 => by
    subst e1 e2
    cases (show v = _ from r1)
    cases (show w = _ from r2)
    obtain ⟨vs, H0, r, m, hl, rfl⟩ := L.ex
    have ev := r.ints
    subst ev
    exact ⟨l, _, rfl, .inl (SqL.of A2.j.1.2), rfl, flat_ints, q _ _ H2 (b1.trans b2) A2 rfl (by rw [if_pos rfl, inV_ints]; rfl)⟩
/-- sorted(d, reverse=b), the keys ints -/
theorem ev_sortDRev {td : TE} {b : Bool} {tb' : TA} {kds : List (Key × D)} {ks : List Int} (hd : EvDict K φ J td ρ kds) (hks : kds.map (·.1) = ks.map Sum.inl) (hb : EvAD K φ J tb' ρ [.bl b]) :
    EvP K φ J (tCKw (rSortD b [.bl b]) (tCons td tNil) tb') ρ (fun z => ∃ ns : List Int, z = .lst (ns.map D.int) ∧ ns.Perm ks ∧ OrdB b ns) := fun σ H A Q q =>
  hd σ H A _ fun a H1 b1 A1 per => hb σ H1 A1 _ fun ws ds H2 b2 A2 e2 r2 => by
    subst e2
    obtain ⟨w, rfl, r⟩ := r2.one
    cases (show w = _ from r)
    obtain ⟨vs, ea, rs⟩ := per H2 b2 A2.j
    have hl : vs.length = kds.length := by rw [rs.length, List.length_map]
    refine ⟨a, _, ks, rfl, rfl, ea, ?_, fun ys p hp ho hn => ?_⟩
    · rw [List.map_fst_zip (by rw [List.length_map]; omega), hks]
    · exact q _ (.lst (ys.map D.int)) _ ((b1.trans b2).trans (But.of (same_new hn))) (A2.same (same_new hn)) ⟨ys, rfl, hp, ho⟩ ⟨p, _, rfl, .inl ⟨A2.fr p hn, .inl upd_same⟩, Reps.of_ints⟩
end
section
variable {K : PySem.W.Frag} {φ : Addr → Prop} {J : Hp → Prop} {ρ : List (Option D)} {te : TE} {Jb : Hp → Prop} {l : Addr}
/-- sorted of ints, any number of them -/
theorem c_sortedA {X : Cx} : CallR X (.builtin "sorted") (rSortedI X.K) := cr_sortedI
theorem ev_sortedA {ns : List Int} (ha : EvD K φ J te ρ (.lst (ns.map D.int))) : EvP K φ J (tCB (rSortedI K) (tCons te tNil)) ρ (fun z => ∃ ns' : List Int, z = .lst (ns'.map D.int) ∧ ns'.Perm ns ∧ ns'.Pairwise (· ≤ ·)) := ev_cbD (ea_cons ha ea_nil) fun H vs f r Q q => by
  obtain ⟨v, rfl, r1⟩ := r.one
  obtain ⟨a, rfl, h⟩ := rep_ints r1
  exact ⟨a, ns, rfl, h, fun ns' p hp hs hn => q _ _ _ (same_new hn) ⟨ns', rfl, hp, hs⟩ ⟨p, _, rfl, .inl ⟨f p hn, .inl upd_same⟩, Reps.of_ints⟩⟩
end
section
variable {X : Cx}
theorem sw_trueD {kx vx : Expr} {gs : List Comprehension} {scope : Scope} {pos py : Pos} {y : Str} {l : Nat} {env : Env} (hk : env.scope.kind = .function) (hy : env.scope.names.lookup y = some .local) (hl : (py.line == pos.line) = true)
    (ha : (scope.names.any fun (n, k) => n == y && (k == .local || k == .cell)) = false) : swapsWith (.DictComp kx vx gs scope pos) (some (.Name y py)) l env = pure true := by
  have ky : env.kindOf y = some .local := hy
  have hb : env.blockKind = .function := by unfold Env.blockKind; rw [hk]; rfl
  unfold swapsWith
  simp only [hb, ky, ha, Expr.pos, hl]
  rfl
/-- x = {k: v for ..} -/
theorem ps_setDc {i : Nat} {y : Str} {py : Pos} {kx vx tg iter : Expr} {ifs : List Expr} {scope : Scope} {own : List (Str × Nat)} {pos spos : Pos} {wi : TI} {g : TG} {tt : TT} {tk tv : TE} (hc : X.calm = true) (hN : X.N.Nodup) (hy : X.N[i]? = some y) (hyl : X.env.scope.names.lookup y = some .local)
    (hsw : swapsWith (.DictComp kx vx [⟨tg, iter, ifs, 0⟩] scope pos) (some (.Name y py)) spos.line X.env = pure true) (hi : PI X tg iter wi) (ok : BlkOk X.N X.env.scope scope own)
    (hg : ∀ (s : Shared) (H : Hp) (C : Addr) (cl : List (Str × Addr)) (fp : List Addr), PG (X.blk s H scope (compEnvC scope cl C X.env) fp) tg g) (ht : ∀ (s : Shared) (H : Hp) (C : Addr) (cl : List (Str × Addr)) (fp : List Addr), PTs (X.blk s H scope (compEnvC scope cl C X.env) fp) ifs tt)
    (hk : ∀ (s : Shared) (H : Hp) (C : Addr) (cl : List (Str × Addr)) (fp : List Addr), PE (X.blk s H scope (compEnvC scope cl C X.env) fp) kx tk)
    (he : ∀ (s : Shared) (H : Hp) (C : Addr) (cl : List (Str × Addr)) (fp : List Addr), PE (X.blk s H scope (compEnvC scope cl C X.env) fp) vx tv) (hs : ∀ x, foldedSetIterable iter X.env x = pure x := by intro _; rfl) :
    PS X (.Assign [.Name y py] (.DictComp kx vx [⟨tg, iter, ifs, 0⟩] scope pos) spos) (tAsg (tDc wi g tt tk tv (own.map (·.2))) (gName i)) := by
  refine ⟨fun pins s σ H D I h => ?_⟩
  rw [exec_Assign_Name_used _ _ _ _ hsw]
  refine wpAny_bind (wpAny_standAt (wpAny_bind ?_))
  show wpAny _ X.A (do let _ ← comprehension (.DictComp kx vx [⟨tg, iter, ifs, 0⟩] scope pos) scope X.env (firstIterPos [⟨tg, iter, ifs, 0⟩] pos) newDict false (eval iter X.env) (some (assign (.Name y py) X.env))) _ _ s
  have h : tDc wi g tt tk tv (own.map (·.2)) σ H (fun x H1 => gName i x σ H1 D.nx) := h
  refine wpAny_bind (thn (dc_core (Qf := fun _ s' => SP X pins D .next s') hc hN I hi ok hg ht hk he hs h fun L C s' m H' I' q hn f => ?_) fun _ s' hq => wpAny_pure (wpAny_pure hq))
  show wpAny _ _ (assign (.Name y py) X.env (.ref L)) _ _ _
  refine wpAny_assign_Name (store_ok2 (v := V.ref L) I' hN hy (.inl hyl) rfl (fun s2 I2 ⟨a, sb, ha⟩ => ?_) (.inr hyl))
  obtain ⟨f0, f1, f2, f3, f4, f5⟩ := f
  have haC : C ≠ a := by
    rcases ha with z | z
    · rw [z]; exact f1
    · exact fun e => f4 y a z e.symm
  refine ⟨m, hn.sameBut sb haC, fun h3 sb3 => ?_⟩
  exact ⟨_, H', I2.turned (t' := s2.toks) (fun b o hb e => (sb3.2 b hb).trans e) f0 f1 f3 f4 f5, q⟩
end

/-! ### live objects, any number of them: what J says of each -/
structure LivS (K : PySem.W.Frag) (φ : Addr → Prop) (J : Hp → Prop) (l : Addr) (C : List V → HO) (ds : List D) : Prop where
  np : ¬ φ l
  ex : ∃ vs H0, Reps K φ H0 ds vs ∧ H0 l ≠ none ∧ ∀ H, J H → H l = some (C vs) ∧ But φ H0 H
/-- J' : l is written, the rest is as J has it -/
structure Wr (K : PySem.W.Frag) (φ : Addr → Prop) (J J' : Hp → Prop) (l : Addr) : Prop where
  base : ∀ Jb : Hp → Prop, (∀ H, J H → Jb H) → Stab l Jb → ∀ H, J' H → Jb H
  pool : ∀ p s ns, Pooled φ J p s ns → p ≠ l → s ≠ l → Pooled φ J' p s ns
  liv : ∀ l2 C2 ds2, LivS K φ J l2 C2 ds2 → l2 ≠ l → LivS K φ J' l2 C2 ds2
/-- a new object at l: J' has what J has -/
structure Nw (K : PySem.W.Frag) (φ : Addr → Prop) (J J' : Hp → Prop) (l : Addr) : Prop where
  fr : φ l
  ext : Ext φ J (wo φ l) J'
  pl : ∀ p s ns, Pooled φ J p s ns → p ≠ l ∧ s ≠ l
  liv : ∀ l2 C2 ds2, LivS K φ J l2 C2 ds2 → l2 ≠ l ∧ LivS K (wo φ l) J' l2 C2 ds2
  st : Stab l J
  hc : ∃ Hc, J Hc ∧ Hc l = none
section
variable {K : PySem.W.Frag} {φ φ' : Addr → Prop} {Jb J J' : Hp → Prop} {H H' H1 : Hp} {ρ ρ' : List (Option D)} {σ : L2.St} {ta : TA} {te tb td ty tv : TE} {x y z d : D} {P Pa Pb : D → Prop} {ds es : List D} {v : V} {vs : List V} {D0 : Ends} {t u : TS} {l : Addr} {C : List V → HO}
theorem LivS.imp (L : LivS K φ J l C ds) (h : ∀ H, J' H → J H) : LivS K φ J' l C ds := ⟨L.np, let ⟨vs, H0, r, n, k⟩ := L.ex; ⟨vs, H0, r, n, fun H j => k H (h H j)⟩⟩
theorem LivS.but (L : LivS K φ J l C ds) : LivS K φ (fun H => J H ∧ But φ H1 H) l C ds := L.imp fun _ h => h.1
theorem upd_upd {H : Hp} {l : Addr} {o u : HO} (h : H l = some o) : L2.upd (L2.upd H l u) l o = H := funext fun a => by
  by_cases e : a = l
  · rw [e, upd_same, h]
  · rw [upd_ne e, upd_ne e]
theorem But.unupd {l : Addr} {u : HO} {H0 H : Hp} (np : ¬ φ l) (hl : H l ≠ none) (b : But φ H0 (L2.upd H l u)) : But φ H0 H := ⟨fun a o p e => by
  have z := b.keep a o p e
  rw [upd_ne (show a ≠ l from fun z => np (z ▸ p))] at z
  exact z, fun a h => by
  by_cases e : a = l
  · rw [e]; exact hl
  · have z := b.tr a h
    rw [upd_ne e] at z
    exact z⟩
/-- l is written -/
def wrJ (φ : Addr → Prop) (J : Hp → Prop) (l : Addr) (o : HO) (H3 : Hp) : Hp → Prop := fun H => (H l = some o ∧ ∃ u, J (L2.upd H l u)) ∧ But φ H3 H
theorem LivS.write {C' : List V → HO} {ds' : List D} {vs' : List V} (L : LivS K φ J l C ds) (A : At K φ J ρ σ H) (r : Reps K φ H ds' vs') (hC : ∀ xs, C' vs' ≠ .tup xs := by intro xs h; cases h) :
    At K φ (wrJ φ J l (C' vs') (L2.upd H l (C' vs'))) ρ σ (L2.upd H l (C' vs')) ∧ LivS K φ (wrJ φ J l (C' vs') (L2.upd H l (C' vs'))) l C' ds' ∧ Wr K φ J (wrJ φ J l (C' vs') (L2.upd H l (C' vs'))) l := by
  obtain ⟨vs, H0, r0, n0, k0⟩ := L.ex
  have hl := (k0 H A.j).1
  have hln : H l ≠ none := by rw [hl]; exact fun z => nomatch z
  refine ⟨A.upd (ho := hC) L.np ⟨⟨upd_same, C vs, by rw [show L2.upd (L2.upd H l (C' vs')) l (C vs) = H from upd_upd hl]; exact A.j⟩, But.refl _ _⟩ ?_, ⟨L.np, vs', _, r.mono ((But.refl φ H).upd L.np), (by rw [upd_same]; exact fun z => nomatch z), fun H' h => ⟨h.1.1, h.2⟩⟩, ⟨fun Jb hb st H' h => ?_, fun p s ns hp hpl hsl => ?_, fun l2 C2 ds2 L2' hne => ?_⟩⟩
  · refine Mo.and (fun Ha Hb k j => ⟨k l _ (by rw [upd_same]; exact fun z => nomatch z) j.1, ?_⟩) (Mo.but fun _ h => h)
    obtain ⟨u, ju⟩ := j.2
    refine ⟨u, A.mono _ _ (fun a o h e => ?_) ju⟩
    by_cases ea : a = l
    · rw [ea, upd_same] at e ⊢
      exact e
    · rw [upd_ne ea] at e ⊢
      exact k a o (upd_tr a h) e
  · obtain ⟨⟨e, u, ju⟩, _⟩ := h
    have z := st _ (C' vs') (hb _ ju)
    rw [upd_upd e] at z
    exact z
  · refine ⟨hp.np, hp.ne, fun H' h => ?_, fun Ha Hb h k o => ?_⟩
    · obtain ⟨⟨e, u, ju⟩, _⟩ := h
      obtain ⟨a, c, n, z, e1, e2, h0⟩ := hp.ok _ ju
      rw [upd_ne hpl] at e1
      rw [upd_ne hsl] at e2
      exact ⟨a, c, n, z, e1, e2, h0⟩
    · obtain ⟨⟨e, u, ju⟩, b⟩ := h
      refine ⟨⟨k l _ hpl.symm e, u, hp.st _ _ ju (fun a w na ea => ?_) ?_⟩, Ext.but2 hp.np _ _ b k o⟩
      · by_cases eal : a = l
        · rw [eal, upd_same] at ea ⊢
          exact ea
        · rw [upd_ne eal] at ea ⊢
          exact k a w na ea
      · obtain ⟨a, c, n, z, e1, e2, h0⟩ := o
        exact ⟨a, c, n, z, by rw [upd_ne hpl]; exact e1, by rw [upd_ne hsl]; exact e2, h0⟩
  · obtain ⟨vs2, H2, r2, n2, k2⟩ := L2'.ex
    refine ⟨L2'.np, vs2, H2, r2, n2, fun H' h => ?_⟩
    obtain ⟨⟨e, u, ju⟩, _⟩ := h
    obtain ⟨e2, b2⟩ := k2 _ ju
    rw [upd_ne hne] at e2
    exact ⟨e2, b2.unupd L.np (by rw [e]; exact fun z => nomatch z)⟩
theorem Nw.same {H0 : Hp} (N : Nw K φ J J' l) (hb : ∀ H', J H' → Same H0 H') : Stab l (Same H0) := fun H' o s => by
  obtain ⟨Hc, jc, e⟩ := N.hc
  exact Same.upd_live s ((hb Hc jc).free e)
theorem stab_pool {p s : Addr} {ns : List Int} (h1 : p ≠ l) (h2 : s ≠ l) : Stab l (PoolOk p s ns) := fun H' o j => by
  obtain ⟨a, c, n, z, e1, e2, h0⟩ := j
  exact ⟨a, c, n, z, by rw [upd_ne h1]; exact e1, by rw [upd_ne h2]; exact e2, h0⟩
/-- x = a new object -/
theorem st_newS {k : Nat} {P : List D → (List V → HO) → Prop} (A : At K φ J ρ σ H) (h : EvNO K φ J te ρ P) (kk : ∀ l ds C J' σ' H', P ds C → Nw K φ J J' l → LivS K (wo φ l) J' l C ds → At K (wo φ l) J' (ρ.set k (some (.raw (.ref l)))) σ' H' → D0.nx σ' H') : tAsg te (gName k) D0 σ H :=
  h σ H A _ fun p vs ds C H0 H' b0 A0 hp b A' pd nt e r => by
    have hpH : H p = none := by
      cases z : H p with
      | none => rfl
      | some u => exact absurd hp (b0.tr p (by rw [z]; exact fun w => by cases w))
    have u : Up φ (wo φ p) H H' := fun a o q e2 => ⟨⟨q, ne_of_none e2 hpH⟩, (b0.trans b).keep a o q e2⟩
    have pne : ∀ s ps ns, Pooled φ J s ps ns → s ≠ p ∧ ps ≠ p := fun s ps ns q => by
      obtain ⟨_, _, _, _, h1, h2, _⟩ := q.ok _ A0.j
      exact ⟨ne_of_none h1 hp, ne_of_none h2 hp⟩
    have hpn : H' p ≠ none := by rw [e]; exact fun z => nomatch z
    have A2 : At K (wo φ p) (fun H => (J H ∧ H p = some (C vs)) ∧ But (wo φ p) H' H) ρ σ H' :=
      ⟨A.sr.up u, A'.fr.at e nt, ⟨⟨A'.j, e⟩, But.refl _ _⟩, (A'.mono.and (Mo.at hpn)).and (Mo.but fun _ h => h)⟩
    refine kk p ds C _ _ H' pd ⟨A0.fr p hp, ⟨fun _ h => h.1.1, fun s ps ns q => ⟨fun z => q.np z.1, q.ne, fun H h => q.ok H h.1.1, fun Ha Hb h k o => ⟨⟨q.st _ _ h.1.1 k o, k _ _ (pne s ps ns q).1.symm h.1.2⟩, Ext.but2 (fun z => q.np z.1) _ _ h.2 k o⟩⟩, fun a p' h => ⟨p', fun e' => h H0 A0.j (by rw [e']; exact hp)⟩⟩, pne, fun l2 C2 ds2 L2' => ?_, Stab.of A0.mono hp, H0, A0.j, hp⟩ ⟨fun z => z.2 rfl, vs, H', r, hpn, fun H h => ⟨h.1.2, h.2⟩⟩ (A2.set k rfl)
    obtain ⟨vs2, H2, r2, n2, k2⟩ := L2'.ex
    obtain ⟨e0, b2⟩ := k2 _ A0.j
    have ne : l2 ≠ p := ne_of_none e0 hp
    refine ⟨ne, fun z => L2'.np z.1, vs2, H', ?_, (by rw [(k2 _ A'.j).1]; exact fun z => nomatch z), fun H h => ⟨(k2 _ h.1.1).1, h.2⟩⟩
    have r3 : Reps K φ H0 ds2 vs2 := r2.mono b2
    exact Reps.up (fun a o q e2 => ⟨⟨q, ne_of_none e2 hp⟩, b.keep a o q e2⟩) ds2 vs2 r3
theorem en_ofN {P : List D → Prop} (h : EvN K φ J te ρ P) : EvNO K φ J te ρ (fun ds C => P ds ∧ C = HO.lst) := fun σ H A Q q => h σ H A Q fun p vs ds H0 H' b0 A0 hp b A' pd e r => q p vs ds HO.lst H0 H' b0 A0 hp b A' ⟨pd, rfl⟩ (fun xs h => nomatch h) e r
/-- .append -/
theorem st_appS {k : Nat} (A : At K φ J ρ σ H) (L : LivS K φ J l HO.lst ds) (hk : ρ[k]? = some (some (.raw (.ref l)))) (he : EvP K φ J te ρ P) (hz : ds.length ≤ 1000000)
    (kk : ∀ d J' H', P d → Wr K φ J J' l → LivS K φ J' l HO.lst (ds ++ [d]) → At K φ J' ρ σ H' → D0.nx σ H') : tDrop (tBM K "list" rAppend (tVar k) (tCons te tNil)) D0 σ H := by
  obtain ⟨vs, H0, r, n, k0⟩ := L.ex
  refine st_app (vs := vs) A hk (fun H h => (k0 H h).1) he (by rw [r.length]; exact hz) fun v d H' pd rv b A' => ?_
  obtain ⟨A2, L2', W⟩ := L.write (C' := HO.lst) A' ((r.mono (k0 _ A'.j).2).append (Reps.cons rv Reps.nil))
  exact kk d _ _ pd W L2' A2
/-- xs[i] = e -/
theorem st_setLS {k n : Nat} {i : Int} (A : At K φ J ρ σ H) (L : LivS K φ J l HO.lst ds) (he : EvP K φ J te ρ P) (hk : ρ[k]? = some (some (.raw (.ref l)))) (hi : EvD K φ J tb ρ (.int i)) (hj : ixN ds.length i = some n)
    (kk : ∀ d J' H', P d → Wr K φ J J' l → LivS K φ J' l HO.lst (ds.set n d) → At K φ J' ρ σ H' → D0.nx σ H') : tAsg te (gSub (tVar k) tb rSetL) D0 σ H := by
  obtain ⟨vs, H0, r, n, k0⟩ := L.ex
  refine st_setL (vs := vs) A he hk hi (fun H h => (k0 H h).1) (by rw [r.length]; exact hj) fun v d H' pd rv b A' => ?_
  obtain ⟨A2, L2', W⟩ := L.write (C' := HO.lst) A' ((r.mono (k0 _ A'.j).2).set _ rv)
  exact kk d _ _ pd W L2' A2
theorem reps_erase : ∀ {ds : List D} {vs : List V} (n : Nat), Reps K φ H ds vs → Reps K φ H (ds.eraseIdx n) (vs.eraseIdx n)
  | [], vs, n, h => by
    cases (show vs = [] from h)
    exact Reps.nil
  | x :: ds, vs, n, h => by
    obtain ⟨u, r', rfl, g1, g2⟩ := (show ∃ v r, vs = v :: r ∧ Rep K φ H x v ∧ Reps K φ H ds r from h)
    cases n with
    | zero => exact g2
    | succ n => exact Reps.cons g1 (reps_erase n g2)
/-- x = xs.pop(i) -/
theorem st_popS {j k n : Nat} {i : Int} (A : At K φ J ρ σ H) (L : LivS K φ J l HO.lst ds) (hk : ρ[k]? = some (some (.raw (.ref l)))) (hn : seqIndex? i ds.length = some n) (hd : ds[n]? = some d) (h1 : -(2 ^ 63) ≤ i) (h2 : i < 2 ^ 63)
    (kk : ∀ J' σ' H', Wr K φ J J' l → LivS K φ J' l HO.lst (ds.eraseIdx n) → At K φ J' (ρ.set j (some d)) σ' H' → D0.nx σ' H') : tAsg (tBM K "list" rPopAt (tVar k) (tCons (tC (.int i)) tNil)) (gName j) D0 σ H := by
  obtain ⟨vs, H0, r, m, k0⟩ := L.ex
  obtain ⟨w, e, rw'⟩ := A.sr.2 k _ hk
  cases (show w = _ from rw')
  have r1 := r.mono (k0 _ A.j).2
  obtain ⟨v, hv, rv⟩ := r1.get hd
  refine ⟨_, e, .inl ⟨rfl, _, SqL.of (k0 _ A.j).1⟩, l, vs, i, n, v, rfl, rfl, (k0 _ A.j).1, h1, h2, by rw [r.length]; exact hn, hv, ?_⟩
  obtain ⟨A2, L2', W⟩ := L.write (C' := HO.lst) (vs' := vs.eraseIdx n) A (reps_erase n r1)
  exact kk _ _ _ W L2' (A2.set j (rv.mono ((But.refl φ H).upd L.np)))
theorem ev_lenS' (L : LivS K φ J l HO.lst ds) (hk : EvD K φ J te ρ (.raw (.ref l))) : EvD K φ J (tCB (rLen K) (tCons te tNil)) ρ (.int ds.length) := by
  obtain ⟨vs, H0, r, m, k0⟩ := L.ex
  rw [← r.length]
  exact ev_lenLive hk fun H h => (k0 H h).1
theorem ev_ixS {i : Int} (L : LivS K φ J l HO.lst ds) (hk : EvD K φ J te ρ (.raw (.ref l))) (hb : EvD K φ J tb ρ (.int i)) (e : L2.atI ds i = some d) : EvD K φ J (tOp (rIxL K) te tb) ρ d := by
  obtain ⟨vs, H0, r, m, k0⟩ := L.ex
  refine ev_ixLive hk hb fun H h => ⟨vs, (k0 H h).1, ?_⟩
  unfold L2.atI at e ⊢
  rw [r.length]
  cases hx : L2.ixN ds.length i with
  | none => rw [hx] at e; cases e
  | some n =>
    rw [hx] at e
    obtain ⟨v, hv, rv⟩ := r.get (i := n) e
    exact ⟨v, hv, rv.mono (k0 H h).2⟩
theorem ev_inS_ {i : Int} {ns : List Int} (L : LivS K φ J l HO.lst (ns.map D.int)) (ha : EvD K φ J te ρ (.int i)) (hb : EvD K φ J tb ρ (.raw (.ref l))) : EvD K φ J (tOp (rIn K false) te tb) ρ (.bl (decide (i ∈ ns))) := fun σ H A Q q =>
  ha σ H A _ fun v x H1 b1 A1 e1 r1 => hb σ H1 A1 _ fun w y H2 b2 A2 e2 r2 => by
    subst e1 e2
    cases (show v = _ from r1)
    cases (show w = _ from r2)
    obtain ⟨vs, H0, r, m, k0⟩ := L.ex
    have ev := r.ints
    subst ev
    exact ⟨l, _, rfl, .inl (SqL.of (k0 _ A2.j).1), rfl, flat_ints, q _ _ H2 (b1.trans b2) A2 rfl (by rw [if_neg (by simp), inV_ints]; rfl)⟩
theorem ev_notInS_ {i : Int} {ns : List Int} (L : LivS K φ J l HO.lst (ns.map D.int)) (ha : EvD K φ J te ρ (.int i)) (hb : EvD K φ J tb ρ (.raw (.ref l))) : EvD K φ J (tOp (rIn K true) te tb) ρ (.bl (!decide (i ∈ ns))) := fun σ H A Q q =>
  ha σ H A _ fun v x H1 b1 A1 e1 r1 => hb σ H1 A1 _ fun w y H2 b2 A2 e2 r2 => by
    subst e1 e2
    cases (show v = _ from r1)
    cases (show w = _ from r2)
    obtain ⟨vs, H0, r, m, k0⟩ := L.ex
    have ev := r.ints
    subst ev
    exact ⟨l, _, rfl, .inl (SqL.of (k0 _ A2.j).1), rfl, flat_ints, q _ _ H2 (b1.trans b2) A2 rfl (by rw [if_pos rfl, inV_ints]; rfl)⟩
/-- xs != [] -/
theorem ev_neNilS {n : Nat} (L : LivS K φ J l HO.lst ds) (hq : okq 64 (.lst ds) = true) (ha : EvD K φ J te ρ (.raw (.ref l))) : EvD K φ J (tOp (rNeD K) te (tLst tNil)) ρ (.bl (!ds.isEmpty)) := fun σ H A Q q =>
  ha σ H A _ fun v x H1 b1 A1 e1 r1 => (show EvD K φ J (tLst tNil) ρ (.lst []) from ev_lst ea_nil) σ H1 A1 _ fun w y H2 b2 A2 e2 r2 => by
    subst e1 e2
    cases (show v = _ from r1)
    obtain ⟨vs, H0, r, m, k0⟩ := L.ex
    obtain ⟨el, b0⟩ := k0 _ A2.j
    have dp : Dp K H2 (.ref l) (toPy (.lst ds)) := .lst (SqL.of el) (dps_of ds vs 63 hq (r.mono b0))
    exact ⟨_, _, dp, dp_of (.lst []) w 64 rfl r2, okq_shaped hq (Nat.le_refl _), okq_shaped (d := .lst []) rfl (Nat.le_refl 64), q _ (.bl (!eqvD (.lst ds) (.lst []))) H2 (b1.trans b2) A2 (by rw [eqvD_nil]) rfl⟩
/-- the list is left as it is from here on -/
theorem LivS.freeze (L : LivS K (wo φ l) J l HO.lst ds) (hl : φ l) {k : Nat} (A : At K (wo φ l) J ρ σ H) (hk : ρ[k]? = some (some (.raw (.ref l)))) : At K φ (fun H' => J H' ∧ But φ H H') (ρ.set k (some (.lst ds))) σ H := by
  obtain ⟨vs, H0, r, hn, k0⟩ := L.ex
  obtain ⟨el, b0⟩ := k0 _ A.j
  have up : Up (wo φ l) φ H H := fun a o p e => ⟨p.1, e⟩
  have rr : Rep K φ H (.lst ds) (.ref l) := ⟨l, vs, rfl, .inl ⟨hl, .inl el⟩, Reps.up up ds vs (r.mono b0)⟩
  obtain ⟨w, ew, rw'⟩ := A.sr.2 k _ hk
  cases (show w = _ from rw')
  refine ⟨?_, A.fr.fst, ⟨A.j, But.refl _ _⟩, A.mono.and (Mo.but fun _ h => h)⟩
  have s1 := (A.sr.up up)
  refine ⟨by rw [List.length_set]; exact s1.1, fun i d hd => ?_⟩
  by_cases e : k = i
  · subst e
    have hlt : k < ρ.length := (List.getElem?_eq_some_iff.mp hk).1
    rw [List.getElem?_set_self hlt] at hd
    cases hd
    exact ⟨_, ew, rr⟩
  · rw [List.getElem?_set_ne e] at hd
    exact s1.2 i d hd
/-- others stay live -/
theorem LivS.thaw {l2 : Addr} {C2 : List V → HO} {ds2 : List D} (L : LivS K (wo φ l) J l2 C2 ds2) (ne : l2 ≠ l) (j : J H) : LivS K φ (fun H' => J H' ∧ But φ H H') l2 C2 ds2 := by
  obtain ⟨vs, H0, r, hn, k0⟩ := L.ex
  obtain ⟨el, b0⟩ := k0 _ j
  exact ⟨fun z => L.np ⟨z, ne⟩, vs, H, Reps.up (fun a o p e => ⟨p.1, e⟩) ds2 vs (r.mono b0), (by rw [el]; exact fun z => nomatch z), fun H' h => ⟨(k0 _ h.1).1, h.2⟩⟩
theorem pool_thaw {p s : Addr} {ns : List Int} (hp : Pooled (wo φ l) J p s ns) (ne : p ≠ l) : Pooled φ (fun H' => J H' ∧ But φ H H') p s ns := by
  have np : ¬ φ p := fun z => hp.np ⟨z, ne⟩
  exact ⟨np, hp.ne, fun H' h => hp.ok _ h.1, fun Ha Hb h k o => ⟨hp.st _ _ h.1 k o, Ext.but2 np _ _ h.2 k o⟩⟩
/-! dicts -/
variable {κ : Type} [DecidableEq κ] [DKind κ] {kds : List (κ × D)} {k : κ}
abbrev LivDS (K : PySem.W.Frag) (φ : Addr → Prop) (J : Hp → Prop) (l : Addr) (kds : List (κ × D)) : Prop := LivS K φ J l (fun vs => DKind.ho ((kds.map (·.1)).zip vs)) (kds.map (·.2))
theorem ed_liveS (L : LivDS K φ J l kds) (h : EvD K φ J td ρ (.raw (.ref l))) : EvDict K φ J td ρ kds := fun σ H A Q q => h σ H A _ fun v d H' b A' e r => by
  subst e
  cases (show v = _ from r)
  obtain ⟨vs, H0, rs, m, k0⟩ := L.ex
  exact q l H' b A' fun H'' b' j => ⟨vs, (k0 _ j).1, rs.mono (k0 _ j).2⟩
/-- d[y] = v -/
theorem st_dputS {i : Nat} (A : At K φ J ρ σ H) (L : LivDS K φ J l kds) (hv : EvP K φ J tv ρ P) (hk : ρ[i]? = some (some (.raw (.ref l)))) (hy : EvD K φ J ty ρ (DKind.kd k)) (hz : kds.length ≤ 1000000)
    (kk : ∀ d J' H', P d → Wr K φ J J' l → LivDS K φ J' l (putD kds k d) → At K φ J' ρ σ H' → D0.nx σ H') : sDPut (tVar i) ty tv D0 σ H := by
  obtain ⟨vs, H0, r, m, k0⟩ := L.ex
  refine hv σ H A _ fun v d H1 b1 A1 pd r1 => ev_var hk σ H1 A1 _ fun w d2 H2 b2 A2 e2 r2 => hy σ H2 A2 _ fun y d3 H3 b3 A3 e3 r3 => ?_
  subst e2 e3
  cases (show w = _ from r2)
  obtain ⟨el, b0⟩ := k0 _ A3.j
  obtain ⟨vs', ep, rp⟩ := zip_put (k := k) ((r1.mono b2).mono b3) (r.mono b0)
  have hlen : ((kds.map (·.1)).zip vs).length < sizeLine := szlt (by
    rw [List.length_zip, List.length_map]
    omega)
  refine ⟨l, _, rfl, DKind.put r3 el hlen, ?_⟩
  rw [ep]
  obtain ⟨A4, L4, W⟩ := L.write (C' := fun vs => DKind.ho (((putD kds k d).map (·.1)).zip vs)) A3 rp (fun xs => DKind.nt _ xs)
  exact kk d _ _ pd W L4 A4
theorem LivS.freezeD (L : LivDS K (wo φ l) J l kds) (hl : φ l) {i : Nat} (A : At K (wo φ l) J ρ σ H) (hk : ρ[i]? = some (some (.raw (.ref l)))) : At K φ (fun H' => J H' ∧ But φ H H') (ρ.set i (some (dictD kds))) σ H := by
  obtain ⟨vs, H0, r, hn, k0⟩ := L.ex
  obtain ⟨el, b0⟩ := k0 _ A.j
  have up : Up (wo φ l) φ H H := fun a o p e => ⟨p.1, e⟩
  have rr : Rep K φ H (dictD kds) (.ref l) := DKind.rep.mpr ⟨l, vs, rfl, ⟨hl, el, by rw [List.length_map, List.length_map]⟩, Reps.up up _ vs (r.mono b0)⟩
  obtain ⟨w, ew, rw'⟩ := A.sr.2 i _ hk
  cases (show w = _ from rw')
  refine ⟨?_, A.fr.fst, ⟨A.j, But.refl _ _⟩, A.mono.and (Mo.but fun _ h => h)⟩
  have s1 := (A.sr.up up)
  refine ⟨by rw [List.length_set]; exact s1.1, fun j d hd => ?_⟩
  by_cases e : i = j
  · subst e
    have hlt : i < ρ.length := (List.getElem?_eq_some_iff.mp hk).1
    rw [List.getElem?_set_self hlt] at hd
    cases hd
    exact ⟨_, ew, rr⟩
  · rw [List.getElem?_set_ne e] at hd
    exact s1.2 j d hd
end

/-! ### defs whose result is told by a property -/
def SpR (K : PySem.W.Frag) (n : Nat) (Pre : List D → Prop) (R : List D → D → Prop) : Sp := fun vs H Q _ => ∃ φ ds, ds.length = n ∧ Reps K φ H ds vs ∧ Frm φ H ∧ Pre ds ∧ ∀ d v H', R ds d → Same H H' → Rep K φ H' d v → Q v H'
section
variable {K : PySem.W.Frag} {φ : Addr → Prop} {J : Hp → Prop} {ρ : List (Option D)} {ds : List D}
theorem ev_callR {n : Nat} {Pre : List D → Prop} {R : List D → D → Prop} {E : XK} {ta : TA} (ha : EvAD K φ J ta ρ ds) (hp : Pre ds) (hl : ds.length = n := by rfl) : EvP K φ J (tCall (SpR K n Pre R) [] E ta) ρ (R ds) := fun σ H A Q q =>
  ha σ H A _ fun vs ds' H1 b1 A1 e r1 => by
    subst e
    exact ⟨φ, _, hl, by rw [List.append_nil]; exact r1, A1.fr, hp, fun d v H' rd s r => q v d H' (b1.trans (But.of s)) (A1.same s) rd r⟩
variable {PP : Program} {w : World} {mg : Str → Option Value} {base : Heap}
theorem fn_okR {x qual : Str} {st : Stmt} {f : Addr} {fd : FuncData} {N ps : List Str} {k n : Nat} {Pre : List D → Prop} {R : List D → D → Prop} (F : Fun K x qual st f fd) (S : FnScope N ps (defScope st)) (hn : ps.length = n) (m : Nat) (hm : N.length = n + m)
    (hbody : ∀ (cdv : Value) (A : Around) (outer : List Env) (s : Shared) (H : Hp) (E : XK), Room k (A.deeper (envOfC qual (defScope st) s.heap.objs.size f cdv)) →
      ∃ t, PSs (cxOf CX0 PP w K mg base N qual (defScope st) f cdv A outer s H E).nox (defBody st) t ∧
        ∀ (φ : Addr → Prop) (ds : List D) (H : Hp) (D0 : Ends) (σ : L2.St), ds.length = n → Pre ds → (∀ d v H', R ds d → Same H H' → Rep K φ H' d v → D0.rt v H') → At K φ (Same H) (ds.map some ++ List.replicate m none) σ H → t D0 σ H) :
    FnOk PP w K mg base CX0 (k + 1) f fd ps (SpR K n Pre R) := by
  refine F.ok S (fun vs H Q E h => ?_) (fun cdv A outer s H vs Q E hr h => ?_)
  · obtain ⟨φ, ds, hl, r, _⟩ := h
    rw [r.length, hl, hn]
  · obtain ⟨φ, ds, hl, r, fr, hp, q⟩ := h
    obtain ⟨t, ht, run⟩ := hbody cdv A outer s H E hr
    refine ⟨t, ht, run φ ds H _ _ hl hp (fun d v H' rd s r => q d v H' rd s r) ⟨?_, fr, Same.refl H, Mo.sames fun _ h => h⟩⟩
    have e : N.length - vs.length = m := by rw [hm, r.length, hl]; omega
    unfold L2.start
    rw [e]
    exact SR.start r
end

-- import HandS.SortRule
-- import HandS.DictTup
/-! ### sorted(d) of dicts with pairs of ints as keys -/
def prK (p : Int × Int) : List Key := [Sum.inl p.1, Sum.inl p.2]
theorem prK_inj {p q : Int × Int} (h : prK p = prK q) : p = q := by
  have h1 := (List.cons.inj h).1
  have h2 := (List.cons.inj (List.cons.inj h).2).1
  injection h1 with h1
  injection h2 with h2
  exact Prod.ext h1 h2
def prDD (p : Int × Int) : D := .tup [.int p.1, .int p.2]
theorem prDD_kd (p : Int × Int) : DKind.kd (prK p) = prDD p := rfl
/-- sorted, by pairs -/
def LexS (ps : List (Int × Int)) : Prop := ps.Pairwise fun a b => SrtO.lexB b a = false
def rSortT : List V → Hp → VK → Prop := fun vs H Q => ∃ (a : Addr) (kvs : List (List Key × V)) (ks : List (Int × Int)), vs = [.ref a] ∧ H a = some (.dT kvs) ∧ kvs.map (·.1) = ks.map prK ∧
  ∀ (out : List (Addr × Int × Int)) (p : Addr), (out.map (·.2)).Perm ks → LexS (out.map (·.2)) → (∀ z ∈ out, H z.1 = some (.tup [.int z.2.1, .int z.2.2])) → H p = none → Q (.ref p) (upd H p (.lst (out.map fun z => V.ref z.1)))
section
variable {X : Cx}
/-- the pair that a reference is, by H -/
def prOf (H : Hp) (v : Value) : Int × Int := match v with
  | .ref b => match H b with
    | some (.tup [.int i, .int j]) => (i, j)
    | _ => (0, 0)
  | _ => (0, 0)
theorem prOf_at {H : Hp} {b : Addr} {p : Int × Int} (h : H b = some (.tup [.int p.1, .int p.2])) : prOf H (.ref b) = p := by
  unfold prOf
  simp only [h]
def adOf : Value → Addr
  | .ref b => b
  | _ => 0
theorem cr_sortT (hcalm : X.calm = true) : CallR X (.builtin "sorted") rSortT := by
  intro pins s σ H vs us Q I r h
  obtain ⟨a, kvs, ks, rfl, hd, hks, q⟩ := h
  obtain rfl := Vals.ref1 r
  obtain ⟨z, lo, xs', rel, o, es, ep, ho, hx, hdat, hes, his, hn⟩ := dt_of I.hok hd
  have l1 : kvs.length = xs'.length := Paired.length rel
  have l2 : es.size = xs'.length := size_of_entries hes
  have lk : kvs.length = ks.length := by
    have e := congrArg List.length hks
    rw [List.length_map, List.length_map] at e
    exact e
  have hz : es.size ≤ sizeLine := by rw [l2, ← l1]; exact z
  have hr : s.heap.DictRaw a es ep := ⟨o, ho, hx, hdat⟩
  have at_ : ∀ (j : Nat) (v : Value), (es.toList.map (·.key))[j]? = some v → ∃ b p, v = .ref b ∧ ks[j]? = some p ∧ H b = some (.tup [.int p.1, .int p.2]) := by
    intro j v hv
    rw [List.getElem?_map, Array.getElem?_toList, entry_at hes j, Option.map_map] at hv
    obtain ⟨x, hxj, e⟩ := Option.map_eq_some_iff.mp hv
    obtain ⟨e0, he0, r1, r2, r3⟩ := L2.DX.pget rel hxj
    have e1 : (kvs.map (·.1))[j]? = some e0.1 := by rw [List.getElem?_map, he0]; rfl
    rw [hks, List.getElem?_map] at e1
    obtain ⟨p, hp, ep1⟩ := Option.map_eq_some_iff.mp e1
    refine ⟨x.2.1, p, e.symm, hp, ?_⟩
    rw [r2, ← ep1]
    rfl
  have hkeys : (es.toList.map (·.key)).map (prOf H) = ks := by
    refine List.ext_getElem? fun j => ?_
    rw [List.getElem?_map]
    cases e : (es.toList.map (·.key))[j]? with
    | none =>
      have h1 := List.getElem?_eq_none_iff.mp e
      rw [List.length_map, Array.length_toList, l2, ← l1, lk] at h1
      rw [List.getElem?_eq_none h1]
      rfl
    | some v =>
      obtain ⟨b, p, rfl, hp, hb⟩ := at_ j v e
      rw [hp]
      show some (prOf H (.ref b)) = some p
      rw [prOf_at hb]
  have mem_ : ∀ v ∈ es.toList.map (·.key), v = .ref (adOf v) ∧ H (adOf v) = some (.tup [.int (prOf H v).1, .int (prOf H v).2]) := by
    intro v hv
    obtain ⟨j, hj⟩ := List.mem_iff_getElem?.mp hv
    obtain ⟨b, p, rfl, _, hb⟩ := at_ j v hj
    exact ⟨rfl, by rw [prOf_at hb]; exact hb⟩
  have pairs : ∀ v ∈ es.toList.map (·.key), Srt.IsPair s.heap v (prOf H v).1 (prOf H v).2 := by
    intro v hv
    obtain ⟨e, hb⟩ := mem_ v hv
    obtain ⟨_, its2, r2, o2, ho2, hc, n, hd2⟩ := I.hok _ _ hb
    obtain ⟨u1, u2, rfl, ri, rj⟩ := vals2 r2
    obtain ⟨t1, rfl⟩ := ri
    obtain ⟨t2, rfl⟩ := rj
    exact ⟨_, o2, t1, t2, n, e, ho2, hc, hd2⟩
  refine sorted_raw (b := false) (kw := []) lo (I.ok.hd hcalm) hr hz (fun _ => rfl) (by unfold argsOk; kernel_rfl) (fun _ => PyProof.Rows.args_list_sort _) (SrtO.swo_lex (prOf H)) (fun h2 h₁ tk a' ha' kk => ?_) fun out h1 h' tk a' n hs hb k1 k2 ha' hn' => ?_
  · refine SrtO.pairs_sortableO (by omega) (fun v hv => (pairs v hv).keeps fun b o e _ => (kk b o e).2) fun o e => ?_
    have e' := e.symm.trans ha'
    cases e'
    intro c
    exact absurd (Value.type.inj c) (by decide)
  · have h3 : ∀ v ∈ out, v = .ref (adOf v) ∧ H (adOf v) = some (.tup [.int (prOf H v).1, .int (prOf H v).2]) := fun v hv => mem_ v (hb.perm.mem_iff.mp hv)
    have I1 : Inv X pins σ H { s with heap := h1, toks := tk } := I.kept k1
    have hv : Vals (out.map fun v => V.ref (adOf v)) out := by
      clear hs hb hn'
      induction out with
      | nil => exact .nil
      | cons v out ih =>
        refine .cons (show v = .ref (adOf v) from (h3 v List.mem_cons_self).1) (ih fun u hu => h3 u (List.mem_cons_of_mem _ hu))
    have el : (out.map fun v => V.ref (adOf v)) = (out.map fun v => (adOf v, prOf H v)).map fun z => V.ref z.1 := by rw [List.map_map]; rfl
    have e2 : (out.map fun v => (adOf v, prOf H v)).map (·.2) = out.map (prOf H) := by rw [List.map_map]; rfl
    refine ⟨.ref a', upd H a' (.lst ((out.map fun v => (adOf v, prOf H v)).map fun z => V.ref z.1)), I1.laid (t' := tk) k2 ha' ⟨?_, out, n, el ▸ hv, hn'⟩, rfl, q _ a' ?_ ?_ ?_ (I1.hok.fresh ha')⟩
    · rw [List.length_map, List.length_map, hb.len]
      show (es.toList.map (·.key)).length ≤ _
      rw [List.length_map, Array.length_toList]
      exact hz
    · rw [e2, ← hkeys]
      exact hb.perm.map _
    · rw [e2]
      exact List.pairwise_map.mpr hs
    · intro z hz
      obtain ⟨v, hv, rfl⟩ := List.mem_map.mp hz
      exact (h3 v hv).2
end
section
variable {K : PySem.W.Frag} {φ : Addr → Prop} {J : Hp → Prop} {ρ : List (Option D)} {td : TE}
theorem reps_prs {H : Hp} (F : Frm φ H) : ∀ {out : List (Addr × Int × Int)}, (∀ z ∈ out, H z.1 = some (.tup [.int z.2.1, .int z.2.2])) → Reps K φ H ((out.map (·.2)).map prDD) (out.map fun z => V.ref z.1)
  | [], _ => Reps.nil
  | z :: out, h => Reps.cons ⟨z.1, _, rfl, .inl ⟨F.tup _ _ (h z List.mem_cons_self), .inl (h z List.mem_cons_self)⟩, Reps.cons rfl (Reps.cons rfl Reps.nil)⟩ (reps_prs F fun u hu => h u (List.mem_cons_of_mem _ hu))
/-- sorted(d): the pairs in order -/
theorem ev_sortT {kds : List (List Key × D)} {ks : List (Int × Int)} (hd : EvDict K φ J td ρ kds) (hks : kds.map (·.1) = ks.map prK) : EvP K φ J (tCB rSortT (tCons td tNil)) ρ (fun z => ∃ ps : List (Int × Int), z = .lst (ps.map prDD) ∧ ps.Perm ks ∧ LexS ps) := fun σ H A Q q =>
  hd σ H A _ fun a H1 b1 A1 per => by
    obtain ⟨vs, ea, rs⟩ := per H1 (But.refl _ _) A1.j
    have hl := rs.length
    rw [List.length_map] at hl
    refine ⟨a, _, ks, rfl, ea, ?_, fun out p hp hs ht hn => ?_⟩
    · rw [← hks]
      have e : (kds.map (·.1)).length = vs.length := by rw [List.length_map, hl]
      exact List.map_fst_zip (by omega)
    · refine q _ (.lst ((out.map (·.2)).map prDD)) _ (b1.trans (But.of (same_new hn))) (A1.same (same_new hn)) ⟨_, rfl, hp, hs⟩ ⟨p, _, rfl, .inl ⟨A1.fr.new p hn, .inl upd_same⟩, (reps_prs A1.fr ht).mono (But.of (same_new hn))⟩
end

-- import HandS.TupLe
-- import HandS.Conv
-- import KE.SortData
-- import KE.DataMinMax
-- import KE.DatumOrd
/-! ### t >= u, list + list, list * int, list(range(..)), min and max of tuples, sorted of data -/
theorem _root_.L2.Room.units66 {k : Nat} {A : Around} (r : Room k A) : A.units + 66 < cLine := by have := r.un; omega
def rGeT (K : PySem.W.Frag) : R2 := fun x y H Q => ∃ (a b : Addr) (ns ms : List Int), x = .ref a ∧ y = .ref b ∧ SqT K H a (ns.map V.int) ∧ SqT K H b (ms.map V.int) ∧
  Q (.bl (Ob.lexAt (fun j => decide (ns.getD j 0 = ms.getD j 0)) (fun j => decide (ms.getD j 0 ≤ ns.getD j 0)) (decide (ns.length ≥ ms.length)) 0 (min ns.length ms.length))) H
theorem op_geT {X : Cx} (hu : X.A.units < cLine) : OpR X (compareOp .GtE) (rGeT X.K) := by
  intro pins s σ H x y v u Q I rx ry h
  obtain ⟨a, b, ns, ms, rfl, rfl, ha, hb, q⟩ := h
  cases rx
  cases ry
  obtain ⟨its, r1, p1, _⟩ := I.tuple ha
  obtain ⟨its2, r2, p2, _⟩ := I.tuple hb
  have i1 : PyProof.Rows.IntsAre its ns := Vals.ints r1
  have i2 : PyProof.Rows.IntsAre its2 ms := Vals.ints r2
  have e1 : its.toArray.size = ns.length := by rw [List.size_toArray]; exact i1.length
  have e2 : its2.toArray.size = ms.length := by rw [List.size_toArray]; exact i2.length
  have at1 : ∀ j (h1 : j < its.toArray.size), ∃ t, its.toArray[j] = .int (ns.getD j 0) t := fun j h1 => PyProof.Rows.IntsAre.int_at i1 _ _ (by simp at h1; simp [h1])
  have at2 : ∀ j (h1 : j < its2.toArray.size), ∃ t, its2.toArray[j] = .int (ms.getD j 0) t := fun j h1 => PyProof.Rows.IntsAre.int_at i2 _ _ (by simp at h1; simp [h1])
  have R := Ob.RcOp.tuples_ge (A := X.A) (s := s) (e := fun j => decide (ns.getD j 0 = ms.getD j 0)) (r := fun j => decide (ms.getD j 0 ≤ ns.getD j 0)) p1 p2 hu (fun j h1 h2 => by
    obtain ⟨t, et⟩ := at1 j h1
    obtain ⟨t', et'⟩ := at2 j h2
    rw [et, et']
    have z : (ns.getD j 0 == ms.getD j 0) = decide (ns.getD j 0 = ms.getD j 0) := by
      by_cases q : ns.getD j 0 = ms.getD j 0
      · rw [decide_eq_true q]; exact beq_iff_eq.mpr q
      · rw [decide_eq_false q]; exact beq_eq_false_iff_ne.mpr q
    rw [← z]
    exact SeqAt.EqAt.int_int _ _ _ _) (fun j h1 h2 _ => by
    obtain ⟨t, et⟩ := at1 j h1
    obtain ⟨t', et'⟩ := at2 j h2
    rw [et, et']
    exact Ob.RcOp.ge_int _ _ _ _)
  rw [e1, e2] at R
  exact R _ _ _ _ ⟨.bl _, H, I, rfl, q⟩
theorem kop_geT {X : Cx} {K : PySem.W.Frag} (h : X.K = K) (hu : X.A.units < cLine) : OpR X (compareOp .GtE) (rGeT K) := h ▸ op_geT hu
def rCatL (K : PySem.W.Frag) : R2 := fun x y H Q => ∃ l b xs zs, x = .ref l ∧ y = .ref b ∧ SqL K H l xs ∧ SqL K H b zs ∧ xs.length + zs.length ≤ sizeLine ∧ ∀ p, H p = none → Q (.ref p) (upd H p (.lst (xs ++ zs)))
theorem op_catL {X : Cx} : OpR X (binaryOp .Add) (rCatL X.K) := by
  intro pins s σ H x y v u Q I rx ry h
  obtain ⟨l, b, xs, zs, rfl, rfl, hH, hB, hz, q⟩ := h
  cases rx
  cases ry
  obtain ⟨its, r, p, hl⟩ := I.list hH
  obtain ⟨its2, r2, p2, hl2⟩ := I.list hB
  have e0 := r.length
  have e02 := r2.length
  obtain ⟨⟨cls, dd, data, sl⟩, ho, hc, n, hd⟩ := p.isList
  obtain ⟨⟨cls2, dd2, data2, sl2⟩, ho2, hc2, n2, hd2⟩ := p2.isList
  simp only at hc hd hc2 hd2
  subst hc hd hc2 hd2
  have ea : its.toArray ++ its2.toArray = (its ++ its2).toArray := by simp
  refine concat_meets ⟨_, ho, rfl⟩ ⟨_, ho2, rfl⟩ noFill_list_add seq_list_add PySem.F.slot_list_add PySem.F.entry_list_add (PySem.F.args_list_add_2 _ _) (list_addW l b its.toArray its2.toArray n n2 dd dd2 sl sl2 (by rw [List.size_toArray, List.size_toArray]; omega)) ⟨ho, ho2, ?_⟩
  rw [ea]
  exact ⟨.ref _, _, I.lnew (t' := s.toks) (r.append r2) (by rw [List.length_append]; omega), rfl, q _ I.fresh⟩
theorem kop_catL {X : Cx} {K : PySem.W.Frag} (h : X.K = K) : OpR X (binaryOp .Add) (rCatL K) := h ▸ op_catL
/-- min, max of a tuple of ints -/
def rMinT (K : PySem.W.Frag) : List V → Hp → VK → Prop := fun vs H Q => ∃ (a : Addr) (ns : List Int), vs = [V.ref a] ∧ SqT K H a (ns.map V.int) ∧ 0 < ns.length ∧ ∀ m, m ∈ ns → (∀ y, y ∈ ns → m ≤ y) → Q (.int m) H
def rMaxT (K : PySem.W.Frag) : List V → Hp → VK → Prop := fun vs H Q => ∃ (a : Addr) (ns : List Int), vs = [V.ref a] ∧ SqT K H a (ns.map V.int) ∧ 0 < ns.length ∧ ∀ m, m ∈ ns → (∀ y, y ∈ ns → y ≤ m) → Q (.int m) H
theorem minOf_int (x : Int) : ∀ xs : List Int, PySem.W.minOf x xs ∈ x :: xs ∧ ∀ y ∈ x :: xs, PySem.W.minOf x xs ≤ y := by
  intro xs
  unfold PySem.W.minOf
  induction xs generalizing x with
  | nil => exact ⟨List.mem_cons_self, fun y hy => by rw [List.mem_singleton.mp hy]; exact Int.le_refl _⟩
  | cons z xs ih =>
    rw [List.foldl_cons]
    show (List.foldl _ (if decide (z < x) = true then z else x) xs) ∈ _ ∧ ∀ y ∈ _, List.foldl _ (if decide (z < x) = true then z else x) xs ≤ y
    by_cases h : z < x
    · rw [if_pos (decide_eq_true h)]
      obtain ⟨h1, h2⟩ := ih z
      refine ⟨List.mem_cons_of_mem _ h1, fun y hy => ?_⟩
      rcases List.mem_cons.mp hy with rfl | hy
      · have := h2 z List.mem_cons_self
        omega
      · exact h2 y hy
    · rw [if_neg (by simp [h])]
      obtain ⟨h1, h2⟩ := ih x
      refine ⟨?_, fun y hy => ?_⟩
      · rcases List.mem_cons.mp h1 with e | e
        · rw [e]; exact List.mem_cons_self
        · exact List.mem_cons_of_mem _ (List.mem_cons_of_mem _ e)
      · rcases List.mem_cons.mp hy with rfl | hy
        · exact h2 y List.mem_cons_self
        · rcases List.mem_cons.mp hy with rfl | hy
          · have := h2 x List.mem_cons_self
            omega
          · exact h2 y (List.mem_cons_of_mem _ hy)
theorem maxOf_int (x : Int) : ∀ xs : List Int, PySem.W.maxOf x xs ∈ x :: xs ∧ ∀ y ∈ x :: xs, y ≤ PySem.W.maxOf x xs := by
  intro xs
  unfold PySem.W.maxOf
  induction xs generalizing x with
  | nil => exact ⟨List.mem_cons_self, fun y hy => by rw [List.mem_singleton.mp hy]; exact Int.le_refl _⟩
  | cons z xs ih =>
    rw [List.foldl_cons]
    show (List.foldl _ (if decide (x < z) = true then z else x) xs) ∈ _ ∧ ∀ y ∈ _, y ≤ List.foldl _ (if decide (x < z) = true then z else x) xs
    by_cases h : x < z
    · rw [if_pos (decide_eq_true h)]
      obtain ⟨h1, h2⟩ := ih z
      refine ⟨List.mem_cons_of_mem _ h1, fun y hy => ?_⟩
      rcases List.mem_cons.mp hy with rfl | hy
      · have := h2 z List.mem_cons_self
        omega
      · exact h2 y hy
    · rw [if_neg (by simp [h])]
      obtain ⟨h1, h2⟩ := ih x
      refine ⟨?_, fun y hy => ?_⟩
      · rcases List.mem_cons.mp h1 with e | e
        · rw [e]; exact List.mem_cons_self
        · exact List.mem_cons_of_mem _ (List.mem_cons_of_mem _ e)
      · rcases List.mem_cons.mp hy with rfl | hy
        · exact h2 y List.mem_cons_self
        · rcases List.mem_cons.mp hy with rfl | hy
          · have := h2 x List.mem_cons_self
            omega
          · exact h2 y (List.mem_cons_of_mem _ hy)
theorem dpAll_ints {K : PySem.W.Frag} {H : Hp} : ∀ ns : List Int, DpAll K H (ns.map V.int) (ns.map PyData.int)
  | [] => .nil
  | n :: ns => .cons (.int n) (dpAll_ints ns)
theorem cr_minT {X : Cx} (hc : X.calm = true) (hu : X.A.units + 1 < cLine) : CallR X (.builtin "min") (rMinT X.K) := by
  intro pins s σ H vs us Q I r h
  obtain ⟨a, ns, rfl, hs, hn, q⟩ := h
  obtain rfl := Vals.ref1 r
  obtain ⟨its, rv, p, hz⟩ := I.tuple hs
  obtain ⟨as, rd⟩ := Dp.readsAll I (ns.map PyData.int) _ its (dpAll_ints ns) rv
  obtain ⟨x, xs, rfl⟩ : ∃ x xs, ns = x :: xs := by cases ns with | nil => cases hn | cons x xs => exact ⟨x, xs, rfl⟩
  refine PySem.W.min_tuple_datum (α := Int) (x := x) (xs := xs) (I.ok.hd hc) p ⟨as, by rw [List.toList_toArray]; exact rd⟩ (by show X.A.units + 1 + 0 < cLine; omega) fun i v h' tk hi ⟨bs, rb⟩ kp => ?_
  have e : ∃ t, v = Value.int (PySem.W.minOf x xs) t := by cases rb; exact ⟨_, rfl⟩
  obtain ⟨t, rfl⟩ := e
  exact ⟨.int _, H, I.kept (t' := tk) kp, ⟨t, rfl⟩, q _ (minOf_int x xs).1 (minOf_int x xs).2⟩
theorem cr_maxT {X : Cx} (hc : X.calm = true) (hu : X.A.units + 1 < cLine) : CallR X (.builtin "max") (rMaxT X.K) := by
  intro pins s σ H vs us Q I r h
  obtain ⟨a, ns, rfl, hs, hn, q⟩ := h
  obtain rfl := Vals.ref1 r
  obtain ⟨its, rv, p, hz⟩ := I.tuple hs
  obtain ⟨as, rd⟩ := Dp.readsAll I (ns.map PyData.int) _ its (dpAll_ints ns) rv
  obtain ⟨x, xs, rfl⟩ : ∃ x xs, ns = x :: xs := by cases ns with | nil => cases hn | cons x xs => exact ⟨x, xs, rfl⟩
  refine PySem.W.max_tuple_datum (α := Int) (x := x) (xs := xs) (I.ok.hd hc) p ⟨as, by rw [List.toList_toArray]; exact rd⟩ (by show X.A.units + 1 + 0 < cLine; omega) fun i v h' tk hi ⟨bs, rb⟩ kp => ?_
  have e : ∃ t, v = Value.int (PySem.W.maxOf x xs) t := by cases rb; exact ⟨_, rfl⟩
  obtain ⟨t, rfl⟩ := e
  exact ⟨.int _, H, I.kept (t' := tk) kp, ⟨t, rfl⟩, q _ (maxOf_int x xs).1 (maxOf_int x xs).2⟩
theorem kcr_minT {X : Cx} {K : PySem.W.Frag} (h : X.K = K) (hc : X.calm = true) (hu : X.A.units + 1 < cLine) : CallR X (.builtin "min") (rMinT K) := h ▸ cr_minT hc hu
theorem kcr_maxT {X : Cx} {K : PySem.W.Frag} (h : X.K = K) (hc : X.calm = true) (hu : X.A.units + 1 < cLine) : CallR X (.builtin "max") (rMaxT K) := h ▸ cr_maxT hc hu
/-- sorted(xs) of data of one kind -/
def rSortQ (K : PySem.W.Frag) : List V → Hp → VK → Prop := fun vs H Q => ∃ (a : Addr) (xs : List V) (ds : List PyData), vs = [V.ref a] ∧ SqL K H a xs ∧ DpAll K H xs ds ∧ PySem.W.AllAlike ds ∧ PySem.W.Sortable ds ∧ (∀ d ∈ ds, d.depth ≤ 64) ∧
  ∀ (zs : List (V × PyData)) (p : Addr), zs.Perm (xs.zip ds) → (zs.map (·.2)).Pairwise (fun a b => PySem.W.dataLt b a = false) → H p = none → Q (.ref p) (upd H p (.lst (zs.map (·.1))))
theorem dpAll_len {K : PySem.W.Frag} {H : Hp} : ∀ (xs : List V) (ds : List PyData), DpAll K H xs ds → xs.length = ds.length
  | [], _, h => by cases h; rfl
  | x :: xs, _, h => by
    cases h with
    | cons _ h2 => rw [List.length_cons, List.length_cons, dpAll_len xs _ h2]
theorem dpAll_vals {K : PySem.W.Frag} {H : Hp} : ∀ (xs : List V) (ds : List PyData) (its : List Value), DpAll K H xs ds → Vals xs its → PySem.W.EachIs (fun (v : Value) (b : V × PyData) => RelV b.1 v) its (xs.zip ds)
  | [], _, _, h, r => by cases h; cases r; exact .nil
  | x :: xs, _, _, h, r => by
    cases h with
    | cons _ h2 =>
      cases r with
      | cons r0 r1 => exact .cons r0 (dpAll_vals xs _ _ h2 r1)
theorem dpAll_reads {X : Cx} {pins : List (Addr × Obj)} {σ : L2.St} {H : Hp} {s : Shared} (I : Inv X pins σ H s) : ∀ (xs : List V) (ds : List PyData) (its : List Value), DpAll X.K H xs ds → Vals xs its → PySem.W.EachIs (fun (v : Value) (b : V × PyData) => ∃ as, Reads s.heap v b.2 as) its (xs.zip ds)
  | [], _, _, h, r => by cases h; cases r; exact .nil
  | x :: xs, _, _, h, r => by
    cases h with
    | cons h1 h2 =>
      cases r with
      | cons r0 r1 => exact .cons (Dp.reads I _ _ _ h1 r0) (dpAll_reads I xs _ _ h2 r1)
theorem cr_sortQ {X : Cx} (hu : X.A.units + 66 < cLine) : CallR X (.builtin "sorted") (rSortQ X.K) := by
  intro pins s σ H vs us Q I r h
  obtain ⟨a, xs, ds, rfl, hs, hd, hal, hso, hdep, q⟩ := h
  obtain rfl := Vals.ref1 r
  obtain ⟨its, rv, p, hz⟩ := I.list hs
  have lxd := dpAll_len xs ds hd
  have em : (xs.zip ds).map (·.2) = ds := List.map_snd_zip (by omega)
  have e1 := dpAll_vals (K := X.K) (H := H) xs ds its hd rv
  have e2 := dpAll_reads I xs ds its hd rv
  have e3 : (xs.zip ds).map Prod.snd = ds := em
  refine PySem.W.sorted_data (enc := Prod.snd) p.isList e1 e2 (by rw [e3]; exact hal) (by rw [e3]; exact hso) (by rw [List.length_zip]; omega) (fun b hb => ?_) fun out hl he => ?_
  · have := hdep b.2 (by rw [← e3]; exact List.mem_map.mpr ⟨b, hb, rfl⟩)
    omega
  · have hv : Vals (((xs.zip ds).mergeSort (PySem.W.dataLe false Prod.snd)).map (·.1)) out := by
      generalize (xs.zip ds).mergeSort (PySem.W.dataLe false Prod.snd) = zs at he
      clear hl
      induction he with
      | nil => exact .nil
      | cons r0 _ ih => exact .cons r0 ih
    obtain ⟨ep, he'⟩ := PyProof.Rows.sortedAll_at s.heap its out.toArray
    refine ⟨.ref _, upd H (s.heap.objs.size + 1) (.lst (((xs.zip ds).mergeSort (PySem.W.dataLe false Prod.snd)).map (·.1))), I.laid (t' := s.toks) (fun _ _ => PyProof.Rows.sortedAll_old) (Nat.le_succ _) ⟨?_, out, ep, hv, he'⟩, rfl, q _ _ (List.mergeSort_perm _ _) ?_ (I.hok.fresh (Nat.le_succ _))⟩
    · rw [hv.length, hl, List.length_zip]; omega
    · refine List.pairwise_map.mpr ((PySem.W.sort_pairwise (PySem.W.sortLe_total (PyProof.Rows.listOrd PyProof.Rows.itemOrd) false fun b : V × PyData => PySem.W.keyToks b.2) (xs.zip ds)).imp fun {a b} h => ?_)
      have h' : PySem.W.dataLe false (Prod.snd : V × PyData → PyData) a b = true := h
      rw [PySem.W.dataLe_eq] at h'
      have h2 : (!PySem.W.dataLt b.2 a.2) = true := h'
      cases e : PySem.W.dataLt b.2 a.2 with
      | false => rfl
      | true => rw [e] at h2; cases h2
theorem kcr_sortQ {X : Cx} {K : PySem.W.Frag} (h : X.K = K) (hu : X.A.units + 66 < cLine) : CallR X (.builtin "sorted") (rSortQ K) := h ▸ cr_sortQ hu
section
variable {K : PySem.W.Frag} {φ : Addr → Prop} {J : Hp → Prop} {ρ : List (Option D)} {ta tb te : TE} {x y d : D} {ds es : List D} {i j : Int} {ns ms : List Int}
theorem rep_tupI {H : Hp} {v : V} (h : Rep K φ H (.tup (ns.map D.int)) v) : ∃ a, v = .ref a ∧ SqT K H a (ns.map V.int) := by
  obtain ⟨a, vs, rfl, p, r⟩ := rep_tup h
  exact ⟨a, rfl, r.ints ▸ p.sq⟩
theorem ev_geT (ha : EvD K φ J ta ρ (.tup (ns.map D.int))) (hb : EvD K φ J tb ρ (.tup (ms.map D.int))) : EvD K φ J (tOp (rGeT K) ta tb) ρ (.bl (Ob.lexAt (fun j => decide (ns.getD j 0 = ms.getD j 0)) (fun j => decide (ms.getD j 0 ≤ ns.getD j 0)) (decide (ns.length ≥ ms.length)) 0 (min ns.length ms.length))) := ev_opD ha hb fun H v w _ r1 r2 Q q => by
  obtain ⟨a, rfl, h1⟩ := rep_tupI r1
  obtain ⟨b, rfl, h2⟩ := rep_tupI r2
  exact ⟨a, b, ns, ms, rfl, rfl, h1, h2, q _ _ H (Same.refl H) rfl rfl⟩
theorem lexAt2 (a b c d : Int) : Ob.lexAt (fun j => decide (([a, b] : List Int).getD j 0 = ([c, d] : List Int).getD j 0)) (fun j => decide (([c, d] : List Int).getD j 0 ≤ ([a, b] : List Int).getD j 0)) (decide (([a, b] : List Int).length ≥ ([c, d] : List Int).length)) 0 (min ([a, b] : List Int).length ([c, d] : List Int).length) = !SrtO.lexB (a, b) (c, d) := by
  have e : min ([a, b] : List Int).length ([c, d] : List Int).length = 2 := rfl
  rw [e, Ob.lexAt_succ]
  show (if decide (a = c) = true then _ else decide (c ≤ a)) = _
  by_cases h1 : a = c
  · rw [if_pos (decide_eq_true h1), Ob.lexAt_succ]
    show (if decide (b = d) = true then _ else decide (d ≤ b)) = _
    by_cases h2 : b = d
    · rw [if_pos (decide_eq_true h2), Ob.lexAt_zero]
      unfold SrtO.lexB
      rw [if_pos (show (a, b).1 = (c, d).1 from h1), decide_eq_false (show ¬ b < d by omega)]
      rfl
    · rw [if_neg (by simp [h2])]
      unfold SrtO.lexB
      rw [if_pos (show (a, b).1 = (c, d).1 from h1)]
      show decide (d ≤ b) = !decide (b < d)
      by_cases h3 : b < d
      · rw [decide_eq_true h3, decide_eq_false (by omega)]; rfl
      · rw [decide_eq_false h3, decide_eq_true (by omega)]; rfl
  · rw [if_neg (by simp [h1])]
    unfold SrtO.lexB
    rw [if_neg (show ¬ (a, b).1 = (c, d).1 from h1)]
    show decide (c ≤ a) = !decide (a < c)
    by_cases h3 : a < c
    · rw [decide_eq_true h3, decide_eq_false (by omega)]; rfl
    · rw [decide_eq_false h3, decide_eq_true (by omega)]; rfl
theorem ev_geP2 {p q : Int × Int} (ha : EvD K φ J ta ρ (prDD p)) (hb : EvD K φ J tb ρ (prDD q)) : EvD K φ J (tOp (rGeT K) ta tb) ρ (.bl (!SrtO.lexB p q)) := by
  rw [show (!SrtO.lexB p q) = _ from (lexAt2 p.1 p.2 q.1 q.2).symm]
  exact ev_geT (ns := [p.1, p.2]) (ms := [q.1, q.2]) ha hb
theorem en_catL (ha : EvD K φ J ta ρ (.lst ds)) (hb : EvD K φ J tb ρ (.lst es)) (hz : ds.length + es.length ≤ 1000000) : EvN K φ J (tOp (rCatL K) ta tb) ρ (fun x => x = ds ++ es) := fun σ H A Q q =>
  ha σ H A _ fun v x H1 b1 A1 e1 r1 => hb σ H1 A1 _ fun w y H2 b2 A2 e2 r2 => by
    subst e1 e2
    obtain ⟨a, vs, rfl, pa, ra⟩ := rep_lst (r1.mono b2)
    obtain ⟨b, ws, rfl, pb, rb⟩ := rep_lst r2
    refine ⟨a, b, vs, ws, rfl, rfl, pa.sq, pb.sq, by rw [ra.length, rb.length]; exact sz hz, fun p hp => ?_⟩
    exact q p _ _ H2 _ (b1.trans b2) A2 hp (But.of (same_new hp)) (A2.same (same_new hp)) rfl upd_same (reps_new hp (ra.append rb))
theorem ev_catL (ha : EvD K φ J ta ρ (.lst ds)) (hb : EvD K φ J tb ρ (.lst es)) (hz : ds.length + es.length ≤ 1000000) : EvD K φ J (tOp (rCatL K) ta tb) ρ (.lst (ds ++ es)) := ev_newD (en_catL ha hb hz)
/-- [..] * n -/
theorem ev_repL (ha : EvN K φ J ta ρ (fun x => x = ds)) (hb : EvD K φ J tb ρ (.int i)) (hi : -(2 ^ 63) ≤ i ∧ i < 2 ^ 63) (hz : ds.length * i.toNat ≤ 1000000) : EvN K φ J (tOp rRep ta tb) ρ (fun x => x = (List.replicate i.toNat ds).flatten) := fun σ H A Q q =>
  ha σ H A _ fun p vs ds' H0 H1 b0 A0 hp b1 A1 pd e1 r1 => hb σ H1 A1 _ fun w y H2 b2 A2 e2 r2 => by
    subst pd e2
    cases (show w = _ from r2)
    have e1' : H2 p = some (.lst vs) := b2.keep _ _ (A0.fr.new p hp) e1
    have r1' : Reps K φ H2 ds' vs := (Reps.up (fun a o q e => ⟨q.1, e⟩) ds' vs r1).mono b2
    refine ⟨p, i, vs, rfl, rfl, e1', hi.1, hi.2, by rw [r1'.length]; exact sz hz, fun p4 hp4 => ?_⟩
    exact q p4 _ _ H2 _ ((b0.trans b1).trans b2) A2 hp4 (But.of (same_new hp4)) (A2.same (same_new hp4)) rfl upd_same (reps_new hp4 (replicate_reps r1' _))
/-- list(range(a, b)) -/
theorem reps_rg {H : Hp} {a b : Int} : Reps K φ H (rangeD a (b - a).toNat) (rgV a b) := by
  unfold rangeD rgV
  generalize List.range (b - a).toNat = ks
  induction ks with
  | nil => exact Reps.nil
  | cons k ks ih => exact Reps.cons rfl ih
theorem en_listRg2 (ha : EvD K φ J ta ρ (.int i)) (hb : EvD K φ J tb ρ (.int j)) (hr : RgOk i j) : EvN K φ J (tLstRg (tRg2 ta tb)) ρ (fun x => x = rangeD i (j - i).toNat) := fun σ H A Q q =>
  ha σ H A _ fun v x H1 b1 A1 e1 r1 => hb σ H1 A1 _ fun w y H2 b2 A2 e2 r2 => by
    subst e1 e2
    exact ⟨i, j, r1, r2, hr, fun p hp => q p _ _ H2 _ (b1.trans b2) A2 hp (But.of (same_new hp)) (A2.same (same_new hp)) rfl upd_same (reps_new hp reps_rg)⟩
theorem ev_listRg2 (ha : EvD K φ J ta ρ (.int i)) (hb : EvD K φ J tb ρ (.int j)) (hr : RgOk i j) : EvD K φ J (tLstRg (tRg2 ta tb)) ρ (.lst (rangeD i (j - i).toNat)) := ev_newD (en_listRg2 ha hb hr)
theorem en_listRg1 (hb : EvD K φ J tb ρ (.int j)) (hr : RgOk 0 j) : EvN K φ J (tLstRg (tRg1 tb)) ρ (fun x => x = rangeD 0 (j - 0).toNat) := fun σ H A Q q =>
  hb σ H A _ fun w y H2 b2 A2 e2 r2 => by
    subst e2
    exact ⟨j, r2, hr, fun p hp => q p _ _ H2 _ b2 A2 hp (But.of (same_new hp)) (A2.same (same_new hp)) rfl upd_same (reps_new hp reps_rg)⟩
theorem ev_minT (ha : EvD K φ J te ρ (.tup (ns.map D.int))) (hn : 0 < ns.length) : EvI K φ J (tCB (rMinT K) (tCons te tNil)) ρ (fun m => m ∈ ns ∧ ∀ y ∈ ns, m ≤ y) := ev_cbD (ea_cons ha ea_nil) fun H vs f r Q q => by
  obtain ⟨v, rfl, r1⟩ := r.one
  obtain ⟨a, rfl, h⟩ := rep_tupI r1
  exact ⟨a, ns, rfl, h, hn, fun m h1 h2 => q _ _ H (Same.refl H) ⟨m, rfl, h1, h2⟩ rfl⟩
theorem ev_maxT (ha : EvD K φ J te ρ (.tup (ns.map D.int))) (hn : 0 < ns.length) : EvI K φ J (tCB (rMaxT K) (tCons te tNil)) ρ (fun m => m ∈ ns ∧ ∀ y ∈ ns, y ≤ m) := ev_cbD (ea_cons ha ea_nil) fun H vs f r Q q => by
  obtain ⟨v, rfl, r1⟩ := r.one
  obtain ⟨a, rfl, h⟩ := rep_tupI r1
  exact ⟨a, ns, rfl, h, hn, fun m h1 h2 => q _ _ H (Same.refl H) ⟨m, rfl, h1, h2⟩ rfl⟩
theorem toPys_map : ∀ ds : List D, toPys ds = ds.map toPy
  | [] => rfl
  | d :: ds => by show toPy d :: toPys ds = _; rw [toPys_map ds]; rfl
theorem zip_map2 {α β γ : Type} (f : β → γ) : ∀ (as : List α) (bs : List β), as.zip (bs.map f) = (as.zip bs).map fun z => (z.1, f z.2)
  | [], _ => rfl
  | _ :: _, [] => rfl
  | a :: as, b :: bs => by rw [List.map_cons, List.zip_cons_cons, List.zip_cons_cons, zip_map2 f as bs]; rfl
theorem reps_zip {H : Hp} {vs : List V} (r : Reps K φ H ds vs) : ∀ z ∈ vs.zip ds, Rep K φ H z.2 z.1 := by
  induction ds generalizing vs with
  | nil => intro z hz; simp at hz
  | cons d ds ih =>
    obtain ⟨v, r', rfl, h1, h2⟩ := (show ∃ v r, vs = v :: r ∧ Rep K φ H d v ∧ Reps K φ H ds r from r)
    intro z hz
    rw [List.zip_cons_cons] at hz
    rcases List.mem_cons.mp hz with rfl | hz
    · exact h1
    · exact ih h2 z hz
/-- each listed value stands for some tree of that data -/
theorem sort_back {H : Hp} {vs : List V} (r : Reps K φ H ds vs) : ∀ {zs : List (V × PyData)}, (∀ z ∈ zs, z ∈ vs.zip (ds.map toPy)) → ∃ es : List D, Reps K φ H es (zs.map (·.1)) ∧ es.map toPy = zs.map (·.2) ∧ ∀ e ∈ es, e ∈ ds
  | [], _ => ⟨[], Reps.nil, rfl, fun _ h => nomatch h⟩
  | z :: zs, h => by
    obtain ⟨es, h1, h2, h3⟩ := sort_back r (zs := zs) fun u hu => h u (List.mem_cons_of_mem _ hu)
    have hz := h z List.mem_cons_self
    rw [zip_map2] at hz
    obtain ⟨u, hu, e⟩ := List.mem_map.mp hz
    have hr := reps_zip r u hu
    subst e
    exact ⟨u.2 :: es, Reps.cons hr h1, by rw [List.map_cons, h2]; rfl, fun e he => by
      rcases List.mem_cons.mp he with rfl | he
      · exact (List.of_mem_zip hu).2
      · exact h3 e he⟩
theorem ev_sortQ (ha : EvD K φ J te ρ (.lst ds)) (hq : okq 64 (.lst ds) = true) (hal : PySem.W.AllAlike (ds.map toPy)) (hso : PySem.W.Sortable (ds.map toPy)) : EvP K φ J (tCB (rSortQ K) (tCons te tNil)) ρ (fun z => ∃ es : List D, z = .lst es ∧ (es.map toPy).Perm (ds.map toPy) ∧ (∀ e ∈ es, e ∈ ds) ∧ (es.map toPy).Pairwise (fun a b => PySem.W.dataLt b a = false)) := ev_cbD (ea_cons ha ea_nil) fun H vs f r Q q => by
  obtain ⟨v, rfl, r1⟩ := r.one
  obtain ⟨a, vs, rfl, p, rs⟩ := rep_lst r1
  have hl := rs.length
  have hd := dps_of ds vs 63 hq rs
  rw [toPys_map] at hd
  refine ⟨a, vs, ds.map toPy, rfl, p.sq, hd, hal, hso, fun d hd => ?_, fun zs p hp hs hn => ?_⟩
  · obtain ⟨e, he, rfl⟩ := List.mem_map.mp hd
    exact Nat.le_succ_of_le (okq_lay 63 e (List.all_eq_true.mp (show ds.all (okq 63) = true from hq) e he)).2
  · obtain ⟨es, h1, h2, h3⟩ := sort_back rs (zs := zs) fun z hz => hp.mem_iff.mp hz
    refine q _ (.lst es) _ (same_new hn) ⟨es, rfl, ?_, h3, by rw [h2]; exact hs⟩ ⟨p, _, rfl, .inl ⟨f.new p hn, .inl upd_same⟩, h1.mono (But.of (same_new hn))⟩
    rw [h2]
    have := hp.map Prod.snd
    rw [List.map_snd_zip (by rw [List.length_map]; omega)] at this
    exact this
end

-- import HandS.Iter
-- import KE.KDictDisplayH
/-! ### a tuple times 1; walks over dicts (locked meanwhile) -/
theorem tuple_mul1W (l : Addr) (items : Array Value) (n : Nat) (dd : Option Addr) (sl : Array (Option Value)) (u : Tok) :
    Meets (Builtin.«tuple.__mul__» ⟨[.ref l, .int 1 u], []⟩) (fun _ R s => s.heap.get? l = some { cls := .type "tuple", dict := dd, data := .seq items n, slots := sl } ∧ R (.ok (.ret (Value.ref l))) s) :=
  .of_wp fun prog w A R s h => by
    obtain ⟨hp, g, d, tk, os⟩ := s
    obtain ⟨hl, h⟩ := h
    have f1 := AutoSeq1.idx_int
    have c1 : (items.isEmpty || (1 : Int) == 1) = true := by simp
    wp_walk using wpAny_loadPart' hl
    repeat (first
      | (refine wpAny_ite_true (decide_eq_true (by rw [c1])) ?_; wp_walk using wpAny_loadPart' hl)
      | (refine wpAny_ite_false (by decide) ?_; wp_walk using wpAny_loadPart' hl))
    exact ⟨_, rfl, h⟩
def rRepT1 (K : PySem.W.Frag) : R2 := fun x y H Q => ∃ l k xs, x = .ref l ∧ y = .int k ∧ SqT K H l xs ∧ xs ≠ [] ∧ xs.length ≤ 1000 ∧ 1 ≤ k ∧ k ≤ 1000 ∧ (k = 1 → Q (.ref l) H) ∧ (2 ≤ k → ∀ p, H p = none → Q (.ref p) (upd H p (.tup (List.replicate k.toNat xs).flatten)))
theorem op_repT1 {X : Cx} : OpR X (binaryOp .Mult) (rRepT1 X.K) := by
  intro pins s σ H x y v u Q I rx ry h
  obtain ⟨l, k, xs, rfl, rfl, hT, hne, hz, h1, h2, q1, q2⟩ := h
  by_cases e : k = 1
  · subst e
    cases rx
    obtain ⟨t, rfl⟩ := ry
    obtain ⟨its, r, ⟨⟨cls, dd, data, sl⟩, ho, hc, n, hd⟩, hs⟩ := I.tuple hT
    simp only at hc hd
    subst hc hd
    exact wpAny_binaryOp_repeat_ref (T := "tuple") (U := "int") (by decide) ⟨_, ho, rfl⟩ (fun s' => typeIs_int s' 1 t) noFill_tuple_mul PySem.F.fills_int_mul PySem.F.slot_int_rmul repeat_tuple PySem.F.slot_int_index.lookup
      (call_meets PySem.F.slot_int_rmul (typeIs_int s 1 t) PySem.F.entry_int_rmul (PySem.F.args_int_rmul_2 _ _) (int_rmul_tuple 1 t l its.toArray n dd sl)
        ⟨ho, rfl, ⟨_, ho, rfl⟩, call_meets PySem.F.slot_tuple_mul ⟨_, ho, rfl⟩ PySem.F.entry_tuple_mul (PySem.F.args_tuple_mul_2 _ _) (tuple_mul1W l its.toArray n dd sl t) ⟨ho, .ref l, H, I, rfl, q1 rfl⟩⟩)
  · exact op_repT pins s σ H _ _ v u Q I rx ry ⟨l, k, xs, rfl, rfl, hT, hne, by omega, h2, hz, q2 (by omega)⟩
theorem kop_repT1 {X : Cx} {K : PySem.W.Frag} (h : X.K = K) : OpR X (binaryOp .Mult) (rRepT1 K) := h ▸ op_repT1
/-- what a tree may stand at -/
def TreeO (o : HO) : Prop := (∃ xs, o = .tup xs) ∨ (∃ xs, o = .lst xs) ∨ (∃ od xs, o = .frz od (.lst xs)) ∨ (∃ kvs, o = .dK kvs) ∨ ∃ kvs, o = .dT kvs
section
variable {K : PySem.W.Frag} {φ φ' : Addr → Prop} {H H' : Hp}
def UpW (φ φ' : Addr → Prop) (H H' : Hp) : Prop := ∀ a o, φ a → H a = some o → TreeO o → φ' a ∧ H' a = some o
mutual
theorem Rep.upW (k : UpW φ φ' H H') : ∀ (d : D) (v : V), Rep K φ H d v → Rep K φ' H' d v
  | .non, _, h => h
  | .bl _, _, h => h
  | .int _, _, h => h
  | .str _, _, h => h
  | .raw _, _, h => h
  | .dk ks ds, v, h => by
    obtain ⟨a, vs, e, ⟨p, e2, hl⟩, r⟩ := (show ∃ a vs, v = .ref a ∧ (φ a ∧ H a = some (.dK (ks.zip vs)) ∧ ks.length = ds.length) ∧ Reps K φ H ds vs from h)
    have z := k a _ p e2 (.inr (.inr (.inr (.inl ⟨_, rfl⟩))))
    exact ⟨a, vs, e, ⟨z.1, z.2, hl⟩, Reps.upW k ds vs r⟩
  | .dt ks ds, v, h => by
    obtain ⟨a, vs, e, ⟨p, e2, hl⟩, r⟩ := (show ∃ a vs, v = .ref a ∧ (φ a ∧ H a = some (.dT (ks.zip vs)) ∧ ks.length = ds.length) ∧ Reps K φ H ds vs from h)
    have z := k a _ p e2 (.inr (.inr (.inr (.inr ⟨_, rfl⟩))))
    exact ⟨a, vs, e, ⟨z.1, z.2, hl⟩, Reps.upW k ds vs r⟩
  | .tup ds, v, h => by
    obtain ⟨a, vs, e, p, r⟩ := (show ∃ a vs, v = .ref a ∧ PT K φ H a vs ∧ Reps K φ H ds vs from h)
    have z := k a _ p.at.1 p.at.2 (.inl ⟨_, rfl⟩)
    exact ⟨a, vs, e, .inl ⟨z.1, .inl z.2⟩, Reps.upW k ds vs r⟩
  | .lst ds, v, h => by
    obtain ⟨a, vs, e, p, r⟩ := (show ∃ a vs, v = .ref a ∧ PL K φ H a vs ∧ Reps K φ H ds vs from h)
    refine ⟨a, vs, e, p.elim (fun ⟨pa, rd⟩ => ?_) .inr, Reps.upW k ds vs r⟩
    rcases rd with rd | ⟨od, rd⟩
    · have z := k a _ pa rd (.inr (.inl ⟨_, rfl⟩))
      exact .inl ⟨z.1, .inl z.2⟩
    · have z := k a _ pa rd (.inr (.inr (.inl ⟨_, _, rfl⟩)))
      exact .inl ⟨z.1, .inr ⟨od, z.2⟩⟩
theorem Reps.upW (k : UpW φ φ' H H') : ∀ (ds : List D) (vs : List V), Reps K φ H ds vs → Reps K φ' H' ds vs
  | [], _, h => h
  | d :: ds, vs, h => by
    obtain ⟨v, r, e, h1, h2⟩ := (show ∃ v r, vs = v :: r ∧ Rep K φ H d v ∧ Reps K φ H ds r from h)
    exact ⟨v, r, e, Rep.upW k d v h1, Reps.upW k ds r h2⟩
end
end
section
variable {K : PySem.W.Frag} {φ : Addr → Prop} {J : Hp → Prop} {ρ : List (Option D)} {td ty : TE} {κ : Type} [DecidableEq κ] [DKind κ] {kds : List (κ × D)} {l : Addr} {d : D}
theorem ho_mut (kvs : List (κ × V)) (h : DKind.ho kvs = .dK [] ∨ True) : True := trivial
theorem frz_tree {od : Obj} {u : HO} (hu : ∀ xs, u ≠ .lst xs) : ¬ TreeO (.frz od u) := fun h => by
  rcases h with ⟨_, e⟩ | ⟨_, e⟩ | ⟨_, _, e⟩ | ⟨_, e⟩ | ⟨_, e⟩
  · cases e
  · cases e
  · injection e with _ e
    exact hu _ e
  · cases e
  · cases e
/-- a live dict is locked while it is walked -/
theorem ev_lockS {t : TE} {P : D → Prop} (L : LivDS K (wo φ l) J l kds) (hl : φ l) (hm : ∀ vs, Mut (some (DKind.ho ((kds.map (·.1)).zip vs)))) (hn : ∀ vs xs, DKind.ho ((kds.map (·.1)).zip vs) ≠ .lst xs)
    (h : ∀ (od : Obj) (vs : List V) (J1 : Hp → Prop), vs.length = kds.length → (∀ H, J1 H → H l = some (.frz od (DKind.ho ((kds.map (·.1)).zip vs))) ∧ Reps K (fun a => φ a ∧ ∀ H, J1 H → H a ≠ none) H (kds.map (·.2)) vs) → EvP K φ J1 t ρ P) : EvP K (wo φ l) J (tLockE t) ρ P := fun σ H A Q q => by
  obtain ⟨vs, H0, r0, n0, k0⟩ := L.ex
  have hd := (k0 H A.j).1
  generalize hu : DKind.ho ((kds.map (·.1)).zip vs) = u at hd
  refine ⟨l, u, hd, hu ▸ hm vs, fun od => ?_⟩
  have nlst : ∀ xs, u ≠ .lst xs := hu ▸ hn vs
  have A1 : At K φ (fun H2 => H2 l = some (.frz od u) ∧ J (L2.upd H2 l u)) ρ σ (L2.upd H l (.frz od u)) := by
    refine ⟨A.sr.up fun a o p e => ⟨p.1, by rw [upd_ne p.2]; exact e⟩, ⟨fun a ha => ?_, fun a xs ha => ?_⟩, ⟨upd_same, by rw [upd_upd hd]; exact A.j⟩, fun Ha Hb k j => ⟨k l _ (by rw [upd_same]; exact fun z => nomatch z) j.1, A.mono _ _ (fun a o ha e => ?_) j.2⟩⟩
    · by_cases e : a = l
      · rw [e]; exact hl
      · rw [upd_ne e] at ha; exact (A.fr.new a ha).1
    · by_cases e : a = l
      · rw [e]; exact hl
      · rw [upd_ne e] at ha; exact (A.fr.tup a xs ha).1
    · by_cases ea : a = l
      · rw [ea, upd_same] at e ⊢; exact e
      · rw [upd_ne ea] at e ⊢
        exact k a o (upd_tr a ha) e
  refine h od vs _ (by rw [r0.length, List.length_map]) (fun H2 j => ⟨hu ▸ j.1, ?_⟩) σ _ A1 _ fun v x H2 b2 A2 px r2 => ⟨A2.j.1, ?_⟩
  · have b := (k0 _ j.2).2
    exact Reps.up (fun a o p e => ⟨⟨p.1, fun H3 j3 => by
      have z := (k0 _ j3.2).2.keep a o p e
      rw [upd_ne p.2] at z
      rw [z]
      exact fun z => nomatch z⟩, by
      have z := b.keep a o p e
      rw [upd_ne p.2] at z
      exact z⟩) _ vs r0
  · have el := A2.j.1
    have ub : But (wo φ l) H (L2.upd H2 l u) := ⟨fun a o p e => by
      rw [upd_ne p.2]
      exact b2.keep a o p.1 (by rw [upd_ne p.2]; exact e), fun a ha => upd_tr a (b2.tr a (upd_tr a ha))⟩
    refine q v x (L2.upd H2 l u) ub ⟨A.sr.up (Up.of ub), ?_, A2.j.2, A.mono.up ub.tr⟩ px (Rep.upW (fun a o p e ht => ?_) x v r2)
    · refine A2.fr.updW fun xs e => ?_
      rw [← hu] at e
      exact DKind.nt _ xs e
    · have na : a ≠ l := fun z => by
        subst z
        rw [el] at e
        cases e
        exact frz_tree nlst ht
      exact ⟨⟨p, na⟩, by rw [upd_ne na]; exact e⟩
/-- .. a dict left as it is: what else the slots hold is forgotten meanwhile -/
theorem ev_lockD {k n : Nat} {t : TE} {P : D → Prop} (hn0 : ρ.length = n) (hk : ρ[k]? = some (some (dictD kds))) (hm : ∀ vs, Mut (some (DKind.ho ((kds.map (·.1)).zip vs)))) (hn : ∀ vs xs, DKind.ho ((kds.map (·.1)).zip vs) ≠ .lst xs)
    (h : ∀ (l : Addr) (od : Obj) (vs : List V) (J1 : Hp → Prop), vs.length = kds.length → φ l → (∀ H, J1 H → H l = some (.frz od (DKind.ho ((kds.map (·.1)).zip vs)))) → EvP K φ J1 t ((List.replicate n none).set k (some (.raw (.ref l)))) P) : EvP K φ J (tLockE t) ρ P := fun σ H A Q q => by
  obtain ⟨v0, ev0, rv0⟩ := A.sr.2 k _ hk
  obtain ⟨l, vs, rfl, ⟨hl, hd, _⟩, rs⟩ := DKind.rep.mp rv0
  have hlen : vs.length = kds.length := by rw [rs.length, List.length_map]
  generalize hu : DKind.ho ((kds.map (·.1)).zip vs) = u at hd
  refine ⟨l, u, hd, hu ▸ hm vs, fun od => ?_⟩
  have nlst : ∀ xs, u ≠ .lst xs := hu ▸ hn vs
  have A1 : At K φ (fun H2 => H2 l = some (.frz od u) ∧ J (L2.upd H2 l u)) ((List.replicate n none).set k (some (.raw (.ref l)))) σ (L2.upd H l (.frz od u)) := by
    refine ⟨⟨by rw [List.length_set, List.length_replicate, A.sr.1, hn0], fun i x hi => ?_⟩, A.fr.upd (fun _ h => nomatch h), ⟨upd_same, by rw [upd_upd hd]; exact A.j⟩, fun Ha Hb k j => ⟨k l _ (by rw [upd_same]; exact fun z => nomatch z) j.1, A.mono _ _ (fun a o ha e => ?_) j.2⟩⟩
    · by_cases e : k = i
      · subst e
        have hlt : k < n := by rw [← hn0]; exact (List.getElem?_eq_some_iff.mp hk).1
        rw [List.getElem?_set_self (by rw [List.length_replicate]; exact hlt)] at hi
        cases hi
        exact ⟨_, ev0, rfl⟩
      · rw [List.getElem?_set_ne e, List.getElem?_replicate] at hi
        split at hi <;> cases hi
    · by_cases ea : a = l
      · rw [ea, upd_same] at e ⊢; exact e
      · rw [upd_ne ea] at e ⊢
        exact k a o (upd_tr a ha) e
  refine h l od vs _ hlen hl (fun H2 j => hu ▸ j.1) σ _ A1 _ fun v x H2 b2 A2 px r2 => ⟨A2.j.1, ?_⟩
  have el := A2.j.1
  have ub : But φ H (L2.upd H2 l u) := ⟨fun a o p e => by
    by_cases ea : a = l
    · rw [ea] at e ⊢
      rw [hd] at e
      rw [upd_same]; exact e
    · rw [upd_ne ea]
      exact b2.keep a o p (by rw [upd_ne ea]; exact e), fun a ha => upd_tr a (b2.tr a (upd_tr a ha))⟩
  refine q v x (L2.upd H2 l u) ub ⟨A.sr.up (Up.of ub), A2.fr.upd (fun xs e => ?_), A2.j.2, A.mono.up ub.tr⟩ px (Rep.upW (fun a o p e ht => ?_) x v r2)
  · rw [← hu] at e
    exact DKind.nt _ xs e
  · have na : a ≠ l := fun z => by
      subst z
      rw [el] at e
      cases e
      exact frz_tree nlst ht
    exact ⟨p, by rw [upd_ne na]; exact e⟩
theorem reps_keys {H : Hp} : ∀ ks : List Key, Reps K φ H (ks.map keyD) (ks.map kV)
  | [] => Reps.nil
  | k :: ks => Reps.cons (by cases k <;> rfl) (reps_keys ks)
/-- the keys of a locked dict -/
theorem it_keysT {od : Obj} {kvs : List (List Key × V)} (h : EvD K φ J td ρ (.raw (.ref l))) (hl : φ l) (hJ : ∀ H, J H → H l = some (.frz od (.dT kvs))) : IterD K φ J (iKeys td) ρ (kvs.map fun kv => .tup (kv.1.map keyD)) := fun σ H A R q => h σ H A _ fun v x H1 b1 A1 e r => by
  subst e
  cases (show v = _ from r)
  refine ⟨l, od, rfl, .inr ⟨kvs, hJ _ A1.j, q _ _ H1 b1 A1 rfl fun φ' i H2 u f => ?_⟩⟩
  have e2 := (u l _ hl (hJ _ A1.j)).2
  refine ⟨fun x hx => ?_, fun hi => ⟨e2, by rw [hi, List.length_map]; exact Nat.le_refl _⟩⟩
  rw [List.getElem?_map] at hx
  obtain ⟨kv, hkv, rfl⟩ := Option.map_eq_some_iff.mp hx
  refine ⟨⟨e2, (List.getElem?_eq_some_iff.mp hkv).1⟩, fun y H3 hy => ?_⟩
  obtain ⟨rfl, k, w, a, hk, rfl, ha⟩ := hy
  rw [hkv] at hk
  cases hk
  exact ⟨Same.refl _, a, _, rfl, .inl ⟨f.tup a _ ha, .inl ha⟩, reps_keys _⟩
theorem it_keysK {od : Obj} {kvs : List (Key × V)} (h : EvD K φ J td ρ (.raw (.ref l))) (hl : φ l) (hJ : ∀ H, J H → H l = some (.frz od (.dK kvs))) : IterD K φ J (iKeys td) ρ (kvs.map fun kv => keyD kv.1) := fun σ H A R q => h σ H A _ fun v x H1 b1 A1 e r => by
  subst e
  cases (show v = _ from r)
  refine ⟨l, od, rfl, .inl ⟨kvs, hJ _ A1.j, q _ _ H1 b1 A1 rfl fun φ' i H2 u f => ?_⟩⟩
  have e2 := (u l _ hl (hJ _ A1.j)).2
  refine ⟨fun x hx => ?_, fun hi => ⟨e2, by rw [hi, List.length_map]; exact Nat.le_refl _⟩⟩
  rw [List.getElem?_map] at hx
  obtain ⟨kv, hkv, rfl⟩ := Option.map_eq_some_iff.mp hx
  refine ⟨⟨e2, (List.getElem?_eq_some_iff.mp hkv).1⟩, fun y H3 hy => ?_⟩
  obtain ⟨rfl, k, w, hk, rfl⟩ := hy
  rw [hkv] at hk
  cases hk
  exact ⟨Same.refl _, by cases k <;> rfl⟩
/-- d[k] while d is locked -/
theorem ev_dgetF {od : Obj} {kds : List (Key × D)} {vs : List V} {k : Key} (hd : EvD K φ J td ρ (.raw (.ref l))) (hJ : ∀ H, J H → H l = some (.frz od (.dK ((kds.map (·.1)).zip vs))) ∧ Reps K φ H (kds.map (·.2)) vs) (hy : EvD K φ J ty ρ (keyD k)) (e : valD kds k = some d) : EvD K φ J (tDGet td ty) ρ d := fun σ H A Q q =>
  hd σ H A _ fun a x H1 b1 A1 ex rx => hy σ H1 A1 _ fun y d' H2 b2 A2 e2 r2 => by
    subst ex e2
    cases (show a = _ from rx)
    obtain ⟨ea, rs⟩ := hJ H2 A2.j
    rcases zip_val rs k with ⟨e1, _⟩ | ⟨d1, v1, e1, ev, r1⟩
    · rw [e] at e1; cases e1
    · rw [e] at e1
      cases e1
      refine ⟨l, v1, rfl, ?_, q v1 _ H2 (b1.trans b2) A2 rfl r1⟩
      rw [← ev, keyD_v r2]
      exact .inl ⟨_, k, .inr ⟨od, ea⟩, rfl, rfl⟩
/-- t * n, n at least 1 -/
theorem ev_repT1 {ta tb : TE} {ds : List D} {i : Int} (ha : EvD K φ J ta ρ (.tup ds)) (hb : EvD K φ J tb ρ (.int i)) (hne : ds ≠ []) (h1 : 1 ≤ i) (h3 : i ≤ 1000) (hz : ds.length ≤ 1000) : EvD K φ J (tOp (rRepT1 K) ta tb) ρ (.tup (List.replicate i.toNat ds).flatten) :=
  ev_opD ha hb fun H v w fr r1 r2 Q q => by
    obtain ⟨a, vs, rfl, p, rs⟩ := rep_tup r1
    cases (show w = _ from r2)
    refine ⟨a, i, vs, rfl, rfl, p.sq, fun z => hne (List.eq_nil_of_length_eq_zero (by rw [← rs.length, z]; rfl)), by rw [rs.length]; exact hz, h1, h3, fun e => ?_, fun h2 l hl => q _ _ _ (same_new hl) rfl ⟨l, _, rfl, .inl ⟨fr l hl, .inl upd_same⟩, ?_⟩⟩
    · subst e
      refine q _ _ H (Same.refl H) rfl ⟨a, vs, rfl, p, ?_⟩
      show Reps K φ H (List.replicate 1 ds).flatten vs
      rw [List.replicate_succ, List.replicate_zero, List.flatten_cons, List.flatten_nil, List.append_nil]
      exact rs
    · exact (replicate_reps rs _).mono (But.of (same_new hl))
end
/-! ### {t: v}, t a tuple of ints and texts -/
def tDispT1 (tk tv : TE) : TE := fun σ H Q => ∀ p, H p = none → tk σ (upd H p (.dT [])) fun x H1 => tv σ H1 fun y H2 => H2 p = some (.dT []) ∧ ∃ (k : List Key) (b : Addr), x = .ref b ∧ H2 b = some (.tup (k.map kV)) ∧ Q (.ref p) (upd H2 p (.dT [(k, y)]))
theorem pe_dispT1 {X : Cx} {pos : Pos} {ke ve : Expr} {tk tv : TE} (hu : X.A.units + 1 < cLine) (h : PPs X pos [some ke] [ve] [(tk, tv)]) : PE X (.Dict [some ke] [ve] pos) (tDispT1 tk tv) := by
  refine ⟨fun pins s σ H Q I q => ?_⟩
  have hn := I.hok.fresh (Nat.le_refl s.heap.objs.size)
  have I1 := I.laid (a := s.heap.objs.size) (o := .dT []) (h' := s.heap.push { cls := .type "dict", data := .dict #[] }) (t' := s.toks) (fun _ _ q => Heap.get?_push_of_some _ q) (Nat.le_refl _) (dt_empty s.heap I.big)
  have q' := q _ hn
  rw [arm_eval_Dict, zip_pairTrees [some ke] [ve] X.env pos rfl rfl, dictDisplay_pairs (pairTrees [some ke] [ve] X.env pos) (by intro z; cases z) (Nat.le_of_ble_eq_true rfl)]
  refine wpAny_bind (wpAny_standAt (wpAny_bind (wpAny_subDictH (knd := tupleKind (mixKind X.prog X.w)) (Q := fun d s' => wpAny (model X.prog X.w) X.A (pure (Value.ref d)) (EP X pins σ Q) X.xe s') (show X.A.units < cLine by omega) (Nat.le_of_ble_eq_true rfl) ?_)))
  refine thn (h.run pins _ σ _ (fun ps H2 => match ps with
    | [(x, y)] => H2 s.heap.objs.size = some (.dT []) ∧ ∃ (k : List Key) (b : Addr), x = .ref b ∧ H2 b = some (.tup (k.map kV)) ∧ Q (.ref s.heap.objs.size) (upd H2 s.heap.objs.size (.dT [(k, y)]))
    | _ => False) I1 q') fun ws s2 ⟨ps, H2, I2, rel, q2⟩ => ?_
  obtain ⟨x, y, rfl⟩ : ∃ x y, ps = [(x, y)] := by
    cases ps with
    | nil => exact q2.elim
    | cons p r =>
      cases r with
      | nil => exact ⟨p.1, p.2, rfl⟩
      | cons _ _ => exact q2.elim
  obtain ⟨e, k, b, rfl, eb, q3⟩ := q2
  cases rel with
  | @cons a b1 as bs hp t =>
    cases t
    obtain ⟨b2, b3⟩ := hp
    have exw : b1.1 = .ref b := b2
    obtain ⟨z, hd, xs0, r0, dd⟩ := dt_of I2.hok e
    cases r0
    refine ⟨[(k, b, b1.2)], ⟨exw, rfl, key_of I2.hok eb, trivial⟩, dd, fun h' tk dd' hs => wpAny_pure ⟨.ref s.heap.objs.size, _, ?_, rfl, q3⟩⟩
    obtain ⟨o, es, ep, hq, h2, h3, h4, _, h5⟩ := dd'
    refine d_write I2 (by rw [e]; exact True.intro) hs ⟨o, hq⟩ ⟨by show 1 ≤ sizeLine; decide, hd, _, (.cons ⟨rfl, ?_, b3⟩ .nil : KT (upd H2 s.heap.objs.size (.dT [(k, y)])) [(k, y)] [(k, b, b1.2)]), o, es, ep, hq, h2, h3, h4, h5⟩
    show upd H2 s.heap.objs.size _ b = _
    rw [upd_ne (fun z => by rw [z, e] at eb; cases eb)]
    exact eb
section
variable {K : PySem.W.Frag} {φ : Addr → Prop} {J : Hp → Prop} {ρ : List (Option D)} {tk tv : TE}
theorem en_dispT1 {k : List Key} {d : D} (hk : ∀ J' φ', Ext φ J φ' J' → EvD K φ' J' tk ρ (.tup (k.map keyD))) (hv : ∀ J' φ', Ext φ J φ' J' → EvD K φ' J' tv ρ d) : EvNO K φ J (tDispT1 tk tv) ρ (fun ds C => ds = ([(k, d)].map (·.2)) ∧ C = fun vs => HO.dT (([(k, d)].map (·.1)).zip vs)) := fun σ H A Q q p hp => by
  have ext : Ext φ J (wo φ p) (fun H => J H ∧ H p = some (.dT [])) := ⟨fun _ h => h.1, fun p' s ns hq => ⟨fun z => hq.np z.1, hq.ne, fun H h => hq.ok H h.1, fun H' H'' h k o => ⟨hq.st H' H'' h.1 k o, k _ _ (by
    obtain ⟨_, _, _, _, h1, _⟩ := hq.ok _ A.j
    exact (ne_of_none h1 hp).symm) h.2⟩⟩, fun a p' h => ⟨p', fun e => h H A.j (by rw [e]; exact hp)⟩⟩
  have A1 : At K (wo φ p) (fun H => J H ∧ H p = some (.dT [])) ρ σ (upd H p (.dT [])) := A.newLive hp ⟨A.mono _ _ (fun a o _ e => same_new hp a o e) A.j, upd_same⟩ ((A.mono.up upd_tr).and (Mo.at (by rw [upd_same]; exact fun z => nomatch z)))
  refine hk _ _ ext σ _ A1 _ fun v1 d1 H2 b2 A2 e1 r1 => hv _ _ ext σ H2 A2 _ fun v2 d2 H3 b3 A3 e2 r2 => ?_
  subst e1 e2
  obtain ⟨b, vs, rfl, pb, rs⟩ := rep_tup (r1.mono b3)
  rw [keysD_v rs] at pb
  refine ⟨A3.j.2, k, b, rfl, pb.at.2, ?_⟩
  have np : ¬ wo φ p p := fun z => z.2 rfl
  have bb : But φ H (upd H3 p (.dT [(k, v2)])) := ⟨fun a o pa e => by
    have ne := ne_of_none e hp
    rw [upd_ne ne]
    exact b3.keep a o ⟨pa, ne⟩ (b2.keep a o ⟨pa, ne⟩ (by rw [upd_ne ne]; exact e)), fun a h => upd_tr a (b3.tr a (b2.tr a (upd_tr a h)))⟩
  have jj : J (upd H3 p (.dT [(k, v2)])) := A.mono H3 _ (fun a o h e => by
    rw [upd_ne (show a ≠ p from fun z => h (by rw [z]; exact hp))]
    exact e) A3.j.1
  exact q p [v2] [d2] _ H _ (But.refl _ _) A hp bb ⟨A.sr.up (Up.of bb), A3.fr.fst.upd (fun _ h => nomatch h), jj, A.mono.up bb.tr⟩ ⟨rfl, rfl⟩ (fun _ h => nomatch h) upd_same (Reps.cons (r2.mono ((But.refl _ H3).upd np)) Reps.nil)
end
/-! ### sorted, the trees told themselves -/
theorem perm_lift {α β : Type} (f : α → β) : ∀ {l k : List β}, l.Perm k → ∀ {m : List α}, k = m.map f → ∃ m' : List α, m'.Perm m ∧ l = m'.map f := by
  intro l k p
  induction p with
  | nil => intro m e; exact ⟨m, List.Perm.refl _, e⟩
  | cons x _ ih =>
    intro m e
    cases m with
    | nil => cases e
    | cons a m =>
      obtain ⟨e1, e2⟩ := List.cons.inj e
      obtain ⟨m', p', e'⟩ := ih e2
      exact ⟨a :: m', p'.cons a, by rw [List.map_cons, ← e', e1]⟩
  | swap x y t =>
    intro m e
    cases m with
    | nil => cases e
    | cons a m =>
      cases m with
      | nil => have := (List.cons.inj e).2; cases this
      | cons b m =>
        obtain ⟨e1, e2⟩ := List.cons.inj e
        obtain ⟨e3, e4⟩ := List.cons.inj e2
        exact ⟨b :: a :: m, List.Perm.swap a b m, by rw [List.map_cons, List.map_cons, e1, e3, e4]⟩
  | trans _ _ ih1 ih2 =>
    intro m e
    obtain ⟨m2, p2, e2⟩ := ih2 e
    obtain ⟨m1, p1, e1⟩ := ih1 e2
    exact ⟨m1, p1.trans p2, e1⟩
theorem perm_uniq {α : Type} {R : α → α → Prop} (anti : ∀ a b, R a b → R b a → a = b) : ∀ {a b : List α}, a.Pairwise R → b.Pairwise R → a.Perm b → a = b
  | [], b, _, _, h => (List.Perm.eq_nil h.symm).symm
  | x :: a, [], _, _, h => absurd h.length_eq (by simp)
  | x :: a, y :: b, ha, hb, h => by
    have e : x = y := by
      rcases List.mem_cons.mp (h.mem_iff.mp (List.mem_cons_self (a := x) (l := a))) with e | hx
      · exact e
      · rcases List.mem_cons.mp (h.mem_iff.mpr (List.mem_cons_self (a := y) (l := b))) with e | hy
        · exact e.symm
        · exact anti x y ((List.pairwise_cons.mp ha).1 y hy) ((List.pairwise_cons.mp hb).1 x hx)
    subst e
    rw [perm_uniq anti (List.pairwise_cons.mp ha).2 (List.pairwise_cons.mp hb).2 h.cons_inv]
theorem dataLt_anti {x y : PyData} (ha : PySem.W.alike x y = true) (h1 : PySem.W.dataLt x y = false) (h2 : PySem.W.dataLt y x = false) : PyData.eqv x y = true := by
  have e : PySem.W.keyToks x = PySem.W.keyToks y := PyProof.Rows.lex_total _ _ h1 h2
  cases h : PyData.eqv x y with
  | true => rfl
  | false =>
    have z := (PySem.W.toks_eqv x y ha).2 h [] [.inl 0]
    have z2 := (PySem.W.toks_eqv x y ha).2 h [] []
    rw [e] at z z2
    have z3 : PyProof.Rows.lexLt PyProof.Rows.itemOrd (PySem.W.keyToks y ++ []) (PySem.W.keyToks y ++ [.inl 0]) = true := by
      rw [PySem.W.lex_pre]; rfl
    have z4 : PyProof.Rows.lexLt PyProof.Rows.itemOrd (PySem.W.keyToks y ++ []) (PySem.W.keyToks y ++ []) = false := by
      rw [PySem.W.lex_pre]; rfl
    rw [z3] at z
    rw [z4] at z2
    rw [← z2] at z
    cases z
section
variable {K : PySem.W.Frag} {φ : Addr → Prop} {J : Hp → Prop} {ρ : List (Option D)} {te : TE} {ds : List D}
theorem ev_sortQP (ha : EvD K φ J te ρ (.lst ds)) (hq : okq 64 (.lst ds) = true) (hal : PySem.W.AllAlike (ds.map toPy)) (hso : PySem.W.Sortable (ds.map toPy)) : EvP K φ J (tCB (rSortQ K) (tCons te tNil)) ρ (fun z => ∃ es : List D, z = .lst es ∧ es.Perm ds ∧ es.Pairwise (fun a b => PySem.W.dataLt (toPy b) (toPy a) = false)) := ev_cbD (ea_cons ha ea_nil) fun H vs f r Q q => by
  obtain ⟨v, rfl, r1⟩ := r.one
  obtain ⟨a, vs, rfl, p, rs⟩ := rep_lst r1
  have hl := rs.length
  have hd := dps_of ds vs 63 hq rs
  rw [toPys_map] at hd
  refine ⟨a, vs, ds.map toPy, rfl, p.sq, hd, hal, hso, fun d hd => ?_, fun zs p hp hs hn => ?_⟩
  · obtain ⟨e, he, rfl⟩ := List.mem_map.mp hd
    exact Nat.le_succ_of_le (okq_lay 63 e (List.all_eq_true.mp (show ds.all (okq 63) = true from hq) e he)).2
  · rw [zip_map2] at hp
    obtain ⟨us, hu, rfl⟩ := perm_lift (fun z : V × D => (z.1, toPy z.2)) hp rfl
    have hr : Reps K φ H (us.map (·.2)) (us.map (·.1)) := by
      have hall : ∀ z ∈ us, Rep K φ H z.2 z.1 := fun z hz => reps_zip rs z (hu.mem_iff.mp hz)
      clear hu hp hs
      induction us with
      | nil => exact Reps.nil
      | cons z us ih => exact Reps.cons (hall z List.mem_cons_self) (ih fun u hu => hall u (List.mem_cons_of_mem _ hu))
    rw [List.map_map] at hs ⊢
    refine q _ (.lst (us.map (·.2))) _ (same_new hn) ⟨us.map (·.2), rfl, ?_, ?_⟩ ⟨p, _, rfl, .inl ⟨f.new p hn, .inl upd_same⟩, hr.mono (But.of (same_new hn))⟩
    · have := hu.map Prod.snd
      rw [List.map_snd_zip (by omega)] at this
      exact this
    · rw [List.pairwise_map] at hs ⊢
      exact hs
end

-- import HandS.Comp
-- import HandS.Exc
-- import HandS.ExcOwn
/-! ### an exception that leaves a list comprehension -/
/-- an exception in the air of X, the frame L told -/
def XEL (X : Cx) (L : Addr) (W : WX) (u : Value) (s' : Shared) : Prop :=
  ∃ (a : Addr) (B : Heap) (sI : Shared) (pins : List (Addr × Obj)) (σ : L2.St) (H : Hp) (cls : Value) (d : Option Addr),
    u = .ref a ∧ Inv X pins σ H sI ∧ (∀ b o, sI.heap.get? b = some o → b ∉ frs X.stack → B.get? b = some o) ∧ sI.heap.UpToSlots s'.heap ∧
      Sky B X.stack a (Zc cls d) L s'.heap ∧ H a = none ∧ s'.os = sI.os ∧ AllBare s'.gens ∧ W cls d σ H
/-- what X wants of exceptions takes those that leave its frame L -/
structure TakesL (X : Cx) (L : Addr) (W : WX) : Prop where
  tk : ∀ u s', XEL X L W u s' → X.xe u s'
  st : ∃ e0 outer, X.stack = e0 :: outer ∧ e0.frame = some L
  fr : X.env.frame = some L
theorem takesL {X : Cx} {W : WX} (tk : Takes X W) (hs : X.stack = X.env :: X.outer) (hf : X.env.frame = some X.env.locals) : TakesL X X.env.locals W := ⟨tk, ⟨_, _, hs, hf⟩, hf⟩
section
variable {X : Cx} {pins : List (Addr × Obj)} {σ : L2.St} {H : Hp} {sI s s' : Shared} {B : Heap} {W : WX} {E : XK} {L : Addr}
theorem XEL.of_call (I : Inv X pins σ H s) (hW : ∀ cls d H', E cls d H' → W cls d σ H') {u : Value} (c : L2.CX X.prog X.w X.stack H s E u s') : XEL X L W u s' := by
  obtain ⟨a, B, H', cls, d, rfl, fl, hok, ub, na, os, ag, hE⟩ := c
  obtain ⟨G, g1, g2⟩ := restrict s'.heap fun b => (B.get? b).isSome || decide (b ∈ frs X.stack)
  have st : B.StaysIn s'.heap := fl.1
  have gB : ∀ b o, B.get? b = some o → G.get? b = some o := fun b o e => by
    rw [g1 b (by simp [e])]
    exact st b o e
  have gF : ∀ b, b ∈ frs X.stack → G.get? b = s'.heap.get? b := fun b hb => g1 b (by simp [hb])
  have og : ∀ b o, G.get? b = some o → s'.heap.get? b = some o ∧ ((B.get? b).isSome = true ∨ b ∈ frs X.stack) := fun b o e => by
    cases q : ((B.get? b).isSome || decide (b ∈ frs X.stack)) with
    | false => rw [g2 b q] at e; cases e
    | true =>
      rw [g1 b q] at e
      exact ⟨e, by simpa [Bool.or_eq_true] using q⟩
  refine ⟨a, B, { s with heap := G, gens := s'.gens, drawn := s'.drawn, toks := s'.toks }, pins, σ, H', cls, d, rfl, ?_, fun b o e hb => ?_, Heap.UpToSlots.of_keeps fun b o e => (og b o e).1, .inr (.inl fl), na, os, ag, hW _ _ _ hE⟩
  · refine I.call (ch := []) ⟨fun b o e n hb _ => gB b o (ub.keep b o e n hb), fun b o e n hb _ => ?_, fun b o e n _ => ub.free b o e n, fun b o e _ => ?_, ub.tups, ub.frzs, ub.tbls⟩ (hok.kept gB) ag (fun _ z => nomatch z)
    · obtain ⟨sl, q⟩ := ub.slot b o e hb
      exact ⟨sl, by rw [gF b hb]; exact q⟩
    · by_cases hb : b ∈ frs X.stack
      · obtain ⟨sl, q⟩ := ub.slot b o e hb
        exact ⟨_, by rw [gF b hb]; exact q⟩
      · obtain ⟨o', q⟩ := ub.there b o e hb
        exact ⟨o', gB b o' q⟩
  · obtain ⟨e', h⟩ := og b o e
    rcases h with h | h
    · obtain ⟨o', q⟩ := Option.isSome_iff_exists.mp h
      have z := st b o' q
      rw [e'] at z; cases z
      exact q
    · exact absurd h hb
theorem passAtL {X : Cx} {W : WX} {L : Addr} (tk : TakesL X L W) (σ : L2.St) : PassesAt (L2.CX X.prog X.w) X σ (WE W σ) := fun _ _ _ e s' I c => tk.tk e s' (XEL.of_call I (fun _ _ _ h => h) c)
/-- noting asks for the frame alone -/
theorem note_congr {e : Value} {env env' : Env} (h : env.frame = env'.frame) : noteFrame e env = noteFrame e env' := by
  unfold noteFrame PySem.frameOf
  rw [h]
theorem funFrames_but {B B2 h h2 : Heap} {C : Addr} (k : ∀ b, b ≠ C → h2.get? b = h.get? b) (hB : ∀ b, B.get? b = none → B2.get? b = none) : ∀ {l : List Env}, h.FunFrames B l → C ∉ frs l → h2.FunFrames B2 l
  | [], _, _ => trivial
  | env :: l, ⟨hk, ⟨L, o, hf, hn, ho, hd⟩, hr⟩, hC => by
    have hL : L ∈ frs (env :: l) := List.mem_filterMap.mpr ⟨env, List.mem_cons_self, hf⟩
    refine ⟨hk, ⟨L, o, hf, hB _ hn, ?_, hd⟩, funFrames_but k hB hr fun z => hC ?_⟩
    · rw [k L fun z => hC (z ▸ hL)]
      exact ho
    · obtain ⟨e, he, q⟩ := List.mem_filterMap.mp z
      exact List.mem_filterMap.mpr ⟨e, List.mem_cons_of_mem _ he, q⟩
/-- Sky, noted by the frame -/
theorem Sky.note {M : Model} {A : Around} {E₁ : Value → Shared → Prop} {env : Env} {outer : List Env} {L a : Addr} {Z : Obj → Prop} {Q : Unit → Shared → Prop} (hZ : HandSPX.Steady Z) (hfr : A.frames = some (env :: outer)) (hf : env.frame = some L)
    (x : Sky B (env :: outer) a Z L s.heap) (hQ : ∀ h', HandSPX.HeldZ B (env :: outer) a Z L h' → s.heap.UpToSlots h' → Q () { s with heap := h' }) : wpAny M A (noteFrame (.ref a) env) Q E₁ s := by
  rcases x with ⟨hB, hn, hl, oe, vs, he, hz, hd, h1⟩ | fl | hh
  · exact HandSPX.look_newZ hZ hfr hl hf he hB hn hd h1 hz hQ
  · exact HandSPX.looks_onZ hZ hfr hf fl hQ
  · exact HandSPX.againZ hf hh.2.2.2 (hQ s.heap hh (Heap.UpToSlots.refl _))
end
/-- as compPost, the frame of the block told -/
def compPostF (M : Model) (A : Around) (E : Value → Shared → Prop) (use : Option (Value → Sem Unit)) (Q : Value → Shared → Prop) (acc : Value) (C : Addr) (F : Option Addr) (r : Result) (s' : Shared) : Prop :=
  match r with
  | .ok f => compPost M A E use Q acc C (.ok f) s'
  | .error x => ∃ m, s'.heap.Ns C m ∧ ∀ h', Heap.SameBut C s'.heap h' → ∀ cenv : Env, cenv.locals = C → cenv.frame = F → wpAny M A (passOn "comprehension.variables-let-go" x cenv : Sem Value) (fun _ _ => False) E { s' with heap := h' }
/-- the library's wpAny_comprehension_free, an exception allowed -/
theorem comp_freeF {M : Model} {A : Around} {E : Value → Shared → Prop} {s : Shared} {env : Env} {e : Expr} {scope : Scope} {pos : Pos} {newAcc first : Sem Value} {g : Comprehension} {gs : List Comprehension} {cl : List (Str × Addr)} {use : Option (Value → Sem Unit)}
    {Q : Value → Shared → Prop}
    (hcl : clausesOf e = g :: gs) (hs : ∀ x, foldedSetIterable g.iter env x = pure x) (hclos : closureFor scope env = pure cl)
    (hkind : scope.kind = .function) (hnames : ∀ x ∈ scope.names, x.2 = .local → scope.names.lookup x.1 = some .local)
    (h : wpAny M A first (fun x s₁ => wpAny M A (pyIter x) (fun it s₂ => wpAny M A newAcc (fun acc s₃ =>
      wpAny M A (newFunctionEnv scope env.globals cl [] env.qual none .none (some env)) (fun cenv s₄ =>
        codeAny M A (.compStart e 0 it acc { cenv with scope := relabel scope env }) (compPostF M A E use Q acc cenv.locals cenv.frame) s₄) E s₃) E s₂) E s₁) E s) :
    wpAny M A (comprehension e scope env pos newAcc false first use) Q E s := by
  unfold comprehension
  rw [hclos, hcl]
  refine wpAny_bind (wpAny_mono h (fun x s₁ h₁ => wpAny_bind (wpAny_standAt (wpAny_bind (wpAny_of_eq (hs x) (wpAny_bind (wpAny_holding (wpAny_mono h₁ (fun it s₂ h₂ =>
    wpAny_standIf (wpAny_bind (wpAny_mono h₂ (fun acc s₃ h₃ => wpAny_bind (wpAny_pure (wpAny_bind (wpAny_mono h₃ (fun cenv s₄ h₄ => ?_) fun _ _ h' => h')))) fun _ _ h' => h')))
      fun _ _ h' => h'))))))) fun _ _ h' => h')
  dsimp only
  have hv : ∀ x ∈ (scope.names.filter fun x => (x.2 == .local || x.2 == .cell) && x.1 != (".0" : Str)).reverse, x.2 = .local →
      Env.kindOf { cenv with scope := relabel scope env } x.1 = some .local := fun x hx hl => lookup_relabel_local (hnames x (List.mem_filter.mp (List.mem_reverse.mp hx)).1 hl)
  have hv' : ∀ x ∈ (scope.names.filter fun x => (x.2 == .local || x.2 == .cell) && x.1 != (".0" : Str)).reverse.drop 1 ++ (scope.names.filter fun x => (x.2 == .local || x.2 == .cell) && x.1 != (".0" : Str)).reverse.take 1,
      x.2 = .local → Env.kindOf { cenv with scope := relabel scope env } x.1 = some .local := fun x hx hl => by
    rcases List.mem_append.mp hx with h1 | h1
    · exact hv x (List.mem_of_mem_drop h1) hl
    · exact hv x (List.mem_of_mem_take h1) hl
  refine wpAny_holding (wpAny_bind (wpAny_attempt (wpAny_holding (wpAny_run (codeAny_mono h₄ fun r s' hr => ?_)))))
  cases r with
  | ok f =>
    cases use with
    | none =>
      obtain ⟨m, hn, hr⟩ := hr
      exact wpAny_bind (wpAny_holding (wpAny_comp_letGo (cenv := { cenv with scope := relabel scope env }) hkind _ s' m hv hn fun h' m' _ hs' => wpAny_pure (hr h' hs')))
    | some u =>
      refine wpAny_bind (wpAny_rule (wpAny_bind (wpAny_holding (wpAny_mono hr (fun _ s'' hr' => ?_) fun _ _ h' => h'))))
      obtain ⟨m, hn, hr'⟩ := hr'
      exact wpAny_bind (wpAny_comp_letGo (cenv := { cenv with scope := relabel scope env }) hkind _ s'' m hv' hn fun h' m' _ hs' => wpAny_pure (hr' h' hs'))
  | error x =>
    obtain ⟨m, hn, hr⟩ := hr
    exact wpAny_bind (wpAny_holding (wpAny_comp_letGo (cenv := { cenv with scope := relabel scope env }) hkind _ s' m hv hn fun h' m' _ hs' => wpAny_mono (hr h' hs' _ rfl rfl) (fun _ _ f => f.elim) fun _ _ y => y))
section
variable {X : Cx}
/-- a block's exception, out of the block -/
theorem block_out {pins : List (Addr × Obj)} {σ : L2.St} {H3 : Hp} {s3 : Shared} {scope : Scope} {ce : Env} {fp : List Addr} {E : XK} {L C : Addr} {use : Option (Value → Sem Unit)} {Q : Value → Shared → Prop} {acc u : Value} {s' : Shared}
    (I3 : Inv X pins σ H3 s3) (tk : TakesL X L fun cls d _ H => E cls d H) (hce : ce.frame = X.env.frame) (cL : ce.locals = C) (hC : s3.heap.objs.size = C) (f3 : ∀ b ∈ fp, FpOk X pins H3 b ∧ b < s3.heap.objs.size)
    (x : XEL (X.blk s3 H3 scope ce fp) L (fun cls d _ H => E cls d H) u s') : notedBy (model X.prog X.w) X.A ce (fun e s' => compPostF (model X.prog X.w) X.A X.xe use Q acc C X.env.frame (.error e) s') u s' := by
  obtain ⟨a, B, sI, p, σ', H, cls, d, rfl, IB, nb, up, sky, na, os, ag, hE⟩ := x
  obtain ⟨e0, outer, hst, he0⟩ := tk.st
  have I7 : Inv X pins σ H sI := I3.call' (ch := fp) IB.os IB.base IB.hok IB.bare fun b hb => ⟨(f3 b hb).1.2.2.2.1, (f3 b hb).1.2.1, (f3 b hb).1.2.2.2.2.1, (f3 b hb).1.2.2.2.2.2⟩
  have nC : H C = none := by
    have z : H ce.locals = none := IB.free
    rw [cL] at z
    exact z
  have fC : FpOk X pins H C := I3.fpOk (Nat.le_of_eq hC) nC
  obtain ⟨m, hn, _⟩ := IB.loc
  have hn : sI.heap.Ns ce.locals m := hn
  rw [cL] at hn
  obtain ⟨oC, es, ep, hoC, hdC, hsk, hfd⟩ := hn
  have hCs : C ∉ frs X.stack := fun z => by
    rcases List.mem_cons.mp (I3.stkSub C z) with e | e
    · exact fC.2.1 e
    · exact fC.2.2.1 e
  have hBC : B.get? C = some oC := nb C oC hoC hCs
  have hfr : X.A.frames = some (e0 :: outer) := by rw [I3.ok.frames, hst]
  unfold notedBy
  rw [note_congr (env' := e0) (by rw [hce, tk.fr, he0])]
  have sky : Sky B (e0 :: outer) a (Zc cls d) L s'.heap := by
    have z : Sky B X.stack a (Zc cls d) L s'.heap := sky
    rw [hst] at z
    exact z
  refine Sky.note Zc.steady hfr he0 sky fun h1 hh up1 => ?_
  refine ⟨m, ⟨oC, es, ep, hh.1 _ _ hBC, hdC, hsk, hfd⟩, fun h2 sb cenv _ hcf => ?_⟩
  obtain ⟨k1, k2, k3, oe, vs, T, oT, ts, he, hz, hd, h1', hnT, hTe, hT, hdT, hfl⟩ := hh
  have aC : a ≠ C := fun z => by
    rw [z, hBC] at k2
    cases k2
  have TC : T ≠ C := fun z => by
    rw [z, hBC] at hnT
    cases hnT
  have at2 : ∀ b, b ≠ C → h2.get? b = h1.get? b := sb.2
  obtain ⟨B2, hB2⟩ : ∃ B2, B2 = PySem.W.hideAll B [C] := ⟨_, rfl⟩
  have b2n : ∀ b, B.get? b = none → B2.get? b = none := fun b e => by
    rw [hB2]
    cases q : (PySem.W.hideAll B [C]).get? b with
    | none => rfl
    | some o =>
      rw [PySem.W.of_hideAll _ q] at e
      cases e
  have b2C : B2.get? C = none := by
    rw [hB2]
    exact PySem.W.hideAll_none _ List.mem_cons_self
  have b2g : ∀ b o, b ≠ C → B.get? b = some o → B2.get? b = some o := fun b o h e => by
    rw [hB2]
    exact PySem.W.hideAll_get _ e fun z => h (List.mem_singleton.mp z)
  have b2o : ∀ b o, B2.get? b = some o → B.get? b = some o ∧ b ≠ C := fun b o e => ⟨by rw [hB2] at e; exact PySem.W.of_hideAll _ e, fun z => by rw [z, b2C] at e; cases e⟩
  have s2 : B2.StaysIn h2 := fun b o e => by
    rw [at2 b (b2o b o e).2]
    exact k1 b o (b2o b o e).1
  have ff2 : h2.FunFrames B2 (e0 :: outer) := funFrames_but at2 b2n k3 (by rw [← hst]; exact hCs)
  have he2 : h2.get? a = some oe := by
    rw [at2 a aC]
    exact he
  have tr2 : HandSPX.TracedZ h2 B2 a (Zc cls d) (rawInt L) := ⟨oe, vs, T, oT, ts, he2, hz, hd, h1', b2n _ hnT, hTe, by rw [at2 T TC]; exact hT, hdT, hfl⟩
  unfold PySem.passOn
  refine wpAny_bind (wpAny_field he2 hd h1' ?_)
  rw [if_neg (show ¬ ((Value.ref T == Value.none) = true) from by simp)]
  have fin : wpAny (model X.prog X.w) X.A (setFlight (.ref a) cenv.frame) (fun _ s4 => wpAny (model X.prog X.w) X.A (throw (.ref a) : Sem Value) (fun _ _ => False) X.xe s4) X.xe { s' with heap := h2 } := by
    rw [hcf, tk.fr]
    refine HandSPX.setFlight_anyZ s2 ff2 tr2 fun h3 s3' ff3 tr3 up3 => wpAny_throw (tk.tk _ _ ?_)
    obtain ⟨G, g1, g2⟩ := restrict h3 fun b => (B2.get? b).isSome || decide (b ∈ frs X.stack)
    have gB : ∀ b o, B2.get? b = some o → G.get? b = some o := fun b o e => by
      rw [g1 b (by simp [e])]
      exact s3' b o e
    have gF : ∀ b, b ∈ frs X.stack → G.get? b = h3.get? b := fun b hb => g1 b (by simp [hb])
    have og : ∀ b o, G.get? b = some o → h3.get? b = some o ∧ ((B2.get? b).isSome = true ∨ b ∈ frs X.stack) := fun b o e => by
      cases q : ((B2.get? b).isSome || decide (b ∈ frs X.stack)) with
      | false => rw [g2 b q] at e; cases e
      | true =>
        rw [g1 b q] at e
        exact ⟨e, by simpa [Bool.or_eq_true] using q⟩
    have slot : ∀ b o, sI.heap.get? b = some o → b ∈ frs X.stack → ∃ sl, G.get? b = some { o with slots := sl } := fun b o e hb => by
      obtain ⟨_, o', e', hnf⟩ := I7.stack.mem hb
      rw [e] at e'; cases e'
      obtain ⟨sl1, q1⟩ := up b o e hnf
      obtain ⟨sl2, q2⟩ := up1 b _ q1 hnf
      have q2' : h2.get? b = _ := (at2 b fun z => hCs (z ▸ hb)).trans q2
      obtain ⟨sl3, q3⟩ := up3 b _ q2' hnf
      exact ⟨sl3, by rw [gF b hb]; exact q3⟩
    refine ⟨a, B2, { sI with heap := G, gens := s'.gens, drawn := s'.drawn, toks := s'.toks }, pins, σ, H, cls, d, rfl, ?_, fun b o e hb => ?_, Heap.UpToSlots.of_keeps fun b o e => (og b o e).1, .inr (.inr ⟨s3', b2n _ k2, by rw [hst]; exact ff3, tr3⟩), na, os, ag, hE⟩
    · refine I7.call (ch := [C]) ⟨fun b o e n hb hc => gB b o (b2g b o (fun z => hc (by rw [z]; exact List.mem_cons_self)) (nb b o e hb)), fun b o e n hb _ => slot b o e hb, fun b o e n _ => n, fun b o e hc => ?_, fun _ _ e => e, fun _ _ _ e => e, fun b ps e => ⟨#[], by rw [e]; simp⟩⟩ ?_ ag fun b z => ?_
      · by_cases hb : b ∈ frs X.stack
        · obtain ⟨sl, q⟩ := slot b o e hb
          exact ⟨_, q⟩
        · exact ⟨o, gB b o (b2g b o (fun z => hc (by rw [z]; exact List.mem_cons_self)) (nb b o e hb))⟩
      · exact fun b o q => (I7.hok b o q).stay (fun c u hc r => gB c u (b2g c u (fun z => by
          rw [z] at hc
          rcases hc with hc | hc
          · rw [← hc, nC] at q; cases q
          · rw [nC] at hc; cases hc) (nb c u r fun hm => by
          have z := I7.stkFree c hm
          rcases hc with hc | hc
          · rw [hc, q] at z; cases z
          · rw [hc] at z; cases z))) (fun _ r => r) fun _ _ r => r
      · rw [List.mem_singleton.mp z]
        exact ⟨fC.2.2.2.1, fC.2.1, fC.2.2.2.2.1, fC.2.2.2.2.2⟩
    · obtain ⟨e', h⟩ := og b o e
      rcases h with h | h
      · obtain ⟨o', q⟩ := Option.isSome_iff_exists.mp h
        have z := s3' b o' q
        rw [e'] at z; cases z
        exact q
      · exact absurd h hb
  first
    | exact wpAny_bind (wpAny_pure (wpAny_bind fin))
    | exact wpAny_bind fin
end
/-- HandS's lc_core, an exception of the element allowed -/
theorem lc_coreX {X : Cx} {pins : List (Addr × Obj)} {s : Shared} {σ : L2.St} {H : Hp} {Q : VK} {elt tg iter : Expr} {ifs : List Expr} {scope : Scope} {own : List (Str × Nat)} {pos pos' : Pos} {wi : TI} {g : TG} {tt : TT} {te : TE} {use : Option (Value → Sem Unit)} {Qf : Value → Shared → Prop} {E : XK} {L : Addr}
    (tk : TakesL X L fun cls d _ H => E cls d H) (hc : X.calm = true) (hN : X.N.Nodup) (I : Inv X pins σ H s) (hi : PI X tg iter wi) (ok : BlkOk X.N X.env.scope scope own)
    (hg : ∀ (s : Shared) (H : Hp) (C : Addr) (cl : List (Str × Addr)) (fp : List Addr), PG (X.blk s H scope (compEnvC scope cl C X.env) fp) tg g) (ht : ∀ (s : Shared) (H : Hp) (C : Addr) (cl : List (Str × Addr)) (fp : List Addr), PTs (X.blk s H scope (compEnvC scope cl C X.env) fp) ifs tt)
    (he : ∀ (s : Shared) (H : Hp) (C : Addr) (cl : List (Str × Addr)) (fp : List Addr) (xe : Value → Shared → Prop), TakesL ((X.blk s H scope (compEnvC scope cl C X.env) fp).wish xe) L (fun cls d _ H => E cls d H) → PE ((X.blk s H scope (compEnvC scope cl C X.env) fp).wish xe) elt te) (hs : ∀ x, foldedSetIterable iter X.env x = pure x)
    (h : tLc wi g tt te (own.map (·.2)) σ H Q)
    (hRR : ∀ D C s' m H', Inv X pins σ H' s' → Q (.ref D) H' → s'.heap.Ns C m → FpOk X pins H' C → compPost (model X.prog X.w) X.A X.xe use Qf (.ref D) C (.ok .next) s') :
    wpAny (model X.prog X.w) X.A (comprehension (.ListComp elt [⟨tg, iter, ifs, 0⟩] scope pos) scope X.env pos' (newList []) false (eval iter X.env) use) Qf X.xe s := by
  have hfree : ∀ y ∈ scope.names, y.2 = .free → ∃ c, X.env.cells.lookup y.1 = some c := fun y hy e => by
    rcases ok.free y hy e with k | k
    · exact I.ok.has _ (.inl k)
    · exact I.ok.has _ (.inr k)
  refine comp_freeF (use := use) rfl hs (closure_ok hfree) ok.kind (fun y hy e => by rw [ok.uniq y hy, e])
    (thn (hi.run pins s σ H _ I h) fun xv s1 hx => thn hx fun itv s2 h2 => ?_)
  obtain ⟨it, fp, tn, J, H2, e, I2, T, st2, f2, q⟩ := h2
  subst e
  refine wpAny_newObj_type (newEnv_comp ?_) (by show 0 ≤ sizeLine; decide)
  generalize hD : s2.heap.objs.size = D
  have hDn : H2 D = none := I2.hok.fresh (Nat.le_of_eq hD)
  obtain ⟨W, ⟨m0, w0⟩, turn⟩ := q D hDn
  generalize hs3 : ({ s2 with heap := s2.heap.push { cls := .type "list", data := .seq ([] : List Value).toArray } } : Shared) = s3
  have I3 : Inv X pins σ (upd H2 D (.lst [])) s3 := by
    rw [← hs3]
    refine I2.laid (t' := s2.toks) (fun b o e => Heap.get?_push_of_some _ e) (Nat.le_of_eq hD) ⟨Nat.zero_le _, [], 0, .nil, ?_⟩
    rw [← hD]
    exact Heap.get?_push_size _ rfl
  have h3 : s3.heap = s2.heap.push { cls := .type "list", data := .seq ([] : List Value).toArray } := by rw [← hs3]
  have sz : ∀ b ∈ fp, b < s2.heap.objs.size := fun b hb => by
    obtain ⟨o, e, _⟩ := T.obj _ _ st2 b hb
    exact Heap.lt_size e
  have f3 : ∀ b ∈ fp, FpOk X pins (upd H2 D (.lst [])) b ∧ b < s3.heap.objs.size := fun b hb => by
    have hlt := sz b hb
    refine ⟨⟨?_, (f2 b hb).2⟩, by rw [h3, Heap.size_push]; exact Nat.lt_succ_of_lt hlt⟩
    rw [upd_ne (by rw [← hD]; exact Nat.ne_of_lt hlt)]
    exact (f2 b hb).1
  have st3 : tn 0 s3.heap := T.keep _ _ _ st2 fun b _ o e => by rw [h3]; exact Heap.get?_push_of_some _ e
  have I4 := block_start I3 ok hN f3
  have pg := hg s3 (upd H2 D (.lst [])) s3.heap.objs.size (cellsFrom (s3.heap.objs.size + 1) scope.names (cloFrom X.env.cells scope.names [])) fp
  have pt := ht s3 (upd H2 D (.lst [])) s3.heap.objs.size (cellsFrom (s3.heap.objs.size + 1) scope.names (cloFrom X.env.cells scope.names [])) fp
  have pe := he s3 (upd H2 D (.lst [])) s3.heap.objs.size (cellsFrom (s3.heap.objs.size + 1) scope.names (cloFrom X.env.cells scope.names [])) fp
  show codeAny _ _ (.compStart (.ListComp elt [⟨tg, iter, ifs, 0⟩] scope pos) 0 (.ref it) (.ref D) (compEnvC scope (cellsFrom (s3.heap.objs.size + 1) scope.names (cloFrom X.env.cells scope.names [])) s3.heap.objs.size X.env)) (compPostF (model X.prog X.w) X.A X.xe use Qf (.ref D) s3.heap.objs.size X.env.frame) { s3 with heap := pushCells (s3.heap.push { cls := .type "dict", data := .dict #[] }) scope.names }
  have nfp : ∀ b ∈ fp, (upd H2 D (.lst [])) b = none := fun b hb => (f3 b hb).1.1
  generalize hce : compEnvC scope (cellsFrom (s3.heap.objs.size + 1) scope.names (cloFrom X.env.cells scope.names [])) s3.heap.objs.size X.env = ce at I4 pg pt pe ⊢
  have cL : ce.locals = s3.heap.objs.size := by subst hce; rfl
  have cF : ce.frame = X.env.frame := by subst hce; rfl
  generalize hH3 : upd H2 D (.lst []) = H3 at I3 I4 pg pt pe w0 nfp f3
  generalize hs4 : ({ s3 with heap := pushCells (s3.heap.push { cls := .type "dict", data := .dict #[] }) scope.names } : Shared) = s4 at I4 ⊢
  have st4 : tn 0 s4.heap := T.keep _ _ _ st3 fun b _ o e => by rw [← hs4]; exact pushCells_keeps _ _ _ _ (Heap.get?_push_of_some _ e)
  have stat : ∀ {σ' : L2.St} {H' : Hp} {s' : Shared}, Inv (X.blk s3 H3 scope ce fp) [] σ' H' s' → (∀ b ∈ fp, H' b = none) → ∀ b ∈ fp, FpOk (X.blk s3 H3 scope ce fp) [] H' b := fun {σ' H' s'} I' hn b hb =>
    ⟨hn b hb, (I'.ok.exf b hb).1, I'.ok.exfs b hb, .inl hb, fun x c e => (I'.ok.exf b hb).2 x c e, fun p hp => absurd (show p ∈ ([] : List (Addr × Obj)) ++ [] from hp) (by simp)⟩
  have pe' := pe (XEL (X.blk s3 H3 scope ce fp) L fun cls d _ H => E cls d H) ⟨fun u s' ⟨a, B, sI, p, σ', H, cls, d, e, IB, z⟩ => ⟨a, B, sI, p, σ', H, cls, d, e, IB.unwish, z⟩, tk.st, cF.trans tk.fr⟩
  have loop : codeAny (model X.prog X.w) X.A (.compLoop (.ListComp elt [⟨tg, iter, ifs, 0⟩] scope pos) 0 (.ref it) (.ref D) ce) (compPostF (model X.prog X.w) X.A X.xe use Qf (.ref D) s3.heap.objs.size X.env.frame) s4 := by
    refine compLoop_any (fun n s' => ∃ i H', Inv (X.blk s3 H3 scope ce fp) [] (wipe σ (own.map (·.2))) H' s' ∧ tn i s'.heap ∧ (∀ b ∈ fp, H' b = none) ∧ W i n H') ?_ m0 ⟨0, H3, I4, st4, nfp, w0⟩
    rintro n s5 ⟨i, H5, I5, st5, n5, w5⟩
    rcases turn i n H5 w5 with ⟨stop, qq⟩ | ⟨go, Nx, hNx, step⟩
    · have td := T.done (X.blk s3 H3 scope ce fp) rfl rfl rfl hc i [] s5 _ H5 (fun _ _ => False) I5 (stat I5 n5) st5 stop
      refine thnF td fun r s6 ⟨hr, I6⟩ => ?_
      subst hr
      have I7 : Inv X pins σ H5 s6 := I3.call' (ch := fp) I6.os I6.base I6.hok I6.bare fun b hb => ⟨(f3 b hb).1.2.2.2.1, (f3 b hb).1.2.1, (f3 b hb).1.2.2.2.2.1, (f3 b hb).1.2.2.2.2.2⟩
      have nC : H5 s3.heap.objs.size = none := by
        have z : H5 ce.locals = none := I6.free
        rw [cL] at z
        exact z
      obtain ⟨m, hn, _⟩ := I6.loc
      have hn : s6.heap.Ns ce.locals m := hn
      rw [cL] at hn
      exact hRR D s3.heap.objs.size s6 m H5 I7 qq hn (I3.fpOk (Nat.le_refl _) nC)
    · have ti := T.item (X.blk s3 H3 scope ce fp) rfl rfl rfl hc i [] s5 _ H5 (fun _ _ => False) I5 (stat I5 n5) st5 go
      refine thnF ti fun r s6 ⟨u, hr, h6⟩ => ?_
      subst hr
      refine thnF h6 fun _ s7 ⟨x, H7, I7, r7, y7, st7, n7⟩ => ?_
      have I7' := I7.pinned (stat I7 n7) (T.obj _ _ st7)
      refine thnF (pg.run _ s7 _ H7 x u _ I7' r7 (step x H7 y7)) fun _ s8 ⟨σ8, H8, I8, hw8, q8⟩ => ?_
      refine thnF (pt.run _ s8 σ8 H8 _ I8 q8) fun b s9 ⟨H9, I9, q9⟩ => ?_
      have fin : ∀ {s' : Shared} {H' : Hp}, Inv (X.blk s3 H3 scope ce fp) ([] ++ pinsAt fp s7.heap) σ8 H' s' → Nx H' → ∃ m, m < n ∧ ∃ i H', Inv (X.blk s3 H3 scope ce fp) [] (wipe σ (own.map (·.2))) H' s' ∧ tn i s'.heap ∧ (∀ b ∈ fp, H' b = none) ∧ W i m H' := fun {s' H'} I' nx => by
        obtain ⟨m', hm, w'⟩ := hNx H' nx
        have pin' : ∀ b ∈ fp, ∀ o, s7.heap.get? b = some o → s'.heap.get? b = some o ∧ H' b = none := fun b hb o e =>
          let z := I'.pin (b, o) (List.mem_append_right _ (List.mem_append_right _ (mem_pinsAt hb e)))
          ⟨z.1, z.2.1⟩
        have hl : (wipe σ (own.map (·.2))).length = σ8.length := by rw [← hw8, wipe_length]
        refine ⟨m', hm, i + 1, H', (I'.unpinned (pins := [])).weak hl (fun j v e => ?_), T.keep _ _ _ st7 fun b hb o e => (pin' b hb o e).1, fun b hb => ?_, w'⟩
        · rw [← hw8] at e
          exact (wipe_some e).1
        · obtain ⟨o, e, _⟩ := T.obj _ _ st7 b hb
          exact (pin' b hb o e).2
      cases b with
      | false =>
        simp only [Bool.false_eq_true, if_false] at q9 ⊢
        exact fin I9 q9
      | true =>
        simp only [if_true] at q9 ⊢
        refine wpAny_mono (pe'.run _ s9 σ8 H9 _ (I9.wish _) q9) (fun z s10 ⟨yv, H10, I10, r10, acc, hD10, hz10, nx⟩ => ?_) fun u s10 hx => block_out I3 tk cF cL rfl f3 hx
        exact app_ok (X := X.blk s3 H3 scope ce fp) I10.unwish hD10 hz10 r10 fun s11 I11 => fin I11 nx
  exact codeAny_compStart_list loop (T.self X.A 0 _ _ _ st4 loop)
section
variable {X : Cx}
/-- as a value -/
theorem pe_lcX {elt tg iter : Expr} {ifs : List Expr} {scope : Scope} {own : List (Str × Nat)} {pos : Pos} {wi : TI} {g : TG} {tt : TT} {te : TE} {E : XK} {L : Addr} (tk : TakesL X L fun cls d _ H => E cls d H) (hc : X.calm = true) (hN : X.N.Nodup) (hi : PI X tg iter wi) (ok : BlkOk X.N X.env.scope scope own)
    (hg : ∀ (s : Shared) (H : Hp) (C : Addr) (cl : List (Str × Addr)) (fp : List Addr), PG (X.blk s H scope (compEnvC scope cl C X.env) fp) tg g) (ht : ∀ (s : Shared) (H : Hp) (C : Addr) (cl : List (Str × Addr)) (fp : List Addr), PTs (X.blk s H scope (compEnvC scope cl C X.env) fp) ifs tt)
    (he : ∀ (s : Shared) (H : Hp) (C : Addr) (cl : List (Str × Addr)) (fp : List Addr) (xe : Value → Shared → Prop), TakesL ((X.blk s H scope (compEnvC scope cl C X.env) fp).wish xe) L (fun cls d _ H => E cls d H) → PE ((X.blk s H scope (compEnvC scope cl C X.env) fp).wish xe) elt te) (hs : ∀ x, foldedSetIterable iter X.env x = pure x := by intro _; rfl) :
    PE X (.ListComp elt [⟨tg, iter, ifs, 0⟩] scope pos) (tLc wi g tt te (own.map (·.2))) := by
  refine ⟨fun pins s σ H Q I h => ?_⟩
  rw [eval_ListComp]
  refine lc_coreX tk hc hN I hi ok hg ht he hs h fun D C s' m H' I' q hn f => ⟨m, hn, fun h'' sb => ?_⟩
  obtain ⟨f0, f1, f2, f3, f4, f5⟩ := f
  exact ⟨.ref D, H', I'.turned (t' := s'.toks) (fun b o hb e => (sb.2 b hb).trans e) f0 f1 f3 f4 f5, rfl, q⟩
/-- name = [..] on one line, the name a local -/
theorem ps_setLcX {i : Nat} {y : Str} {py : Pos} {elt tg iter : Expr} {ifs : List Expr} {scope : Scope} {own : List (Str × Nat)} {pos spos : Pos} {wi : TI} {g : TG} {tt : TT} {te : TE} {E : XK} {L : Addr} (tk : TakesL X L fun cls d _ H => E cls d H) (hc : X.calm = true) (hN : X.N.Nodup) (hy : X.N[i]? = some y) (hyl : X.env.scope.names.lookup y = some .local)
    (hsw : swapsWith (.ListComp elt [⟨tg, iter, ifs, 0⟩] scope pos) (some (.Name y py)) spos.line X.env = pure true) (hi : PI X tg iter wi) (ok : BlkOk X.N X.env.scope scope own)
    (hg : ∀ (s : Shared) (H : Hp) (C : Addr) (cl : List (Str × Addr)) (fp : List Addr), PG (X.blk s H scope (compEnvC scope cl C X.env) fp) tg g) (ht : ∀ (s : Shared) (H : Hp) (C : Addr) (cl : List (Str × Addr)) (fp : List Addr), PTs (X.blk s H scope (compEnvC scope cl C X.env) fp) ifs tt)
    (he : ∀ (s : Shared) (H : Hp) (C : Addr) (cl : List (Str × Addr)) (fp : List Addr) (xe : Value → Shared → Prop), TakesL ((X.blk s H scope (compEnvC scope cl C X.env) fp).wish xe) L (fun cls d _ H => E cls d H) → PE ((X.blk s H scope (compEnvC scope cl C X.env) fp).wish xe) elt te) (hs : ∀ x, foldedSetIterable iter X.env x = pure x := by intro _; rfl) :
    PS X (.Assign [.Name y py] (.ListComp elt [⟨tg, iter, ifs, 0⟩] scope pos) spos) (tAsg (tLc wi g tt te (own.map (·.2))) (gName i)) := by
  refine ⟨fun pins s σ H D I h => ?_⟩
  rw [exec_Assign_Name_used _ _ _ _ hsw]
  refine wpAny_bind (wpAny_standAt (wpAny_bind ?_))
  show wpAny _ X.A (do let _ ← comprehension (.ListComp elt [⟨tg, iter, ifs, 0⟩] scope pos) scope X.env (firstIterPos [⟨tg, iter, ifs, 0⟩] pos) (newList []) false (eval iter X.env) (some (assign (.Name y py) X.env))) _ _ s
  have h : tLc wi g tt te (own.map (·.2)) σ H (fun x H1 => gName i x σ H1 D.nx) := h
  refine wpAny_bind (thn (lc_coreX (Qf := fun _ s' => SP X pins D .next s') tk hc hN I hi ok hg ht he hs h fun L C s' m H' I' q hn f => ?_) fun _ s' hq => wpAny_pure (wpAny_pure hq))
  show wpAny _ _ (assign (.Name y py) X.env (.ref L)) _ _ _
  refine wpAny_assign_Name (store_ok2 (v := V.ref L) I' hN hy (.inl hyl) rfl (fun s2 I2 ⟨a, sb, ha⟩ => ?_) (.inr hyl))
  obtain ⟨f0, f1, f2, f3, f4, f5⟩ := f
  have haC : C ≠ a := by
    rcases ha with z | z
    · rw [z]; exact f1
    · exact fun e => f4 y a z e.symm
  refine ⟨m, hn.sameBut sb haC, fun h3 sb3 => ?_⟩
  exact ⟨_, H', I2.turned (t' := s2.toks) (fun b o hb e => (sb3.2 b hb).trans e) f0 f1 f3 f4 f5, q⟩
end
/-! ### .. as a reading: the first element that raises -/
abbrev XW (E : XK) : WX := fun cls d _ H => E cls d H
section
variable {K : PySem.W.Frag} {φ φ' : Addr → Prop} {J J' : Hp → Prop} {H H' H1 : Hp} {ρ ρ' : List (Option D)} {σ : L2.St} {E : XK} {c : Addr}
theorem rs_lc {wi : TI} {te : TE} {k : Nat} {pre post : List D} {d : D} {f : D → D} (hi : IterD K φ J wi ρ (pre ++ d :: post)) (hl : pre.length ≤ 1000000)
    (he : ∀ e ∈ pre, ∀ φ' J', Ext φ J φ' J' → EvD K φ' J' te ((wipeR ρ [k]).set k (some e)) (f e))
    (hr : ∀ φ' J', Ext φ J φ' J' → Rs K φ' J' te ((wipeR ρ [k]).set k (some d)) (XW E) c) : Rs K φ J (tLc wi (gName k) tYes te [k]) ρ (XW E) c := fun σ H A kx Q => by
  refine hi σ H A _ fun J0 ds H1 b1 A1 pd w => ?_
  subst pd
  intro D0 hD
  have neP : ∀ p s ns, Pooled φ J p s ns → p ≠ D0 := fun p s ns hp => by
    obtain ⟨a1, a2, a3, a4, h1, _⟩ := hp.ok _ A1.j
    exact ne_of_none h1 hD
  let φ' : Addr → Prop := fun a => φ a ∧ a ≠ D0
  have ext : ∀ acc : List V, Ext φ J φ' (fun H => J H ∧ H D0 = some (.lst acc)) := fun acc => ⟨fun _ h => h.1, fun p s ns hp => ⟨fun z => hp.np z.1, hp.ne, fun H h => hp.ok H h.1, fun H H' h k o => ⟨hp.st H H' h.1 k o, k _ _ (neP p s ns hp).symm h.2⟩⟩, fun a p h => ⟨p, fun e => h H1 A1.j (by rw [e]; exact hD)⟩⟩
  have mono : ∀ (acc : List V) (H2 : Hp), (∀ a, H1 a ≠ none → H2 a ≠ none) → H2 D0 ≠ none → Mo H2 (fun H => J H ∧ H D0 = some (.lst acc)) := fun acc H2 s h => (A1.mono.up s).and (Mo.at h)
  refine ⟨fun i m H2 => m = pre.length + 1 - i ∧ i ≤ pre.length ∧ But φ H1 H2 ∧ ∃ acc, Reps K φ' H2 ((pre.take i).map f) acc ∧ At K φ' (fun H => J H ∧ H D0 = some (.lst acc)) (wipeR ρ [k]) (L2.wipe σ [k]) H2,
    ⟨pre.length + 1, rfl, Nat.zero_le _, But.of (same_new hD), [], Reps.nil, ?_⟩, ?_⟩
  · have A2 := A1.newLive (o := .lst []) (J' := fun H => J H ∧ H D0 = some (.lst [])) hD ⟨A1.mono _ _ (fun a o _ e => same_new hD a o e) A1.j, upd_same⟩ (mono [] _ upd_tr (by rw [upd_same]; exact fun z => by cases z))
    exact ⟨A2.sr.wipe [k], A2.fr, A2.j, A2.mono⟩
  · rintro i m H2 ⟨rfl, hi, b2, acc, rs, A2⟩
    have upw : Up φ φ' H1 H2 := fun a o p e => ⟨⟨p, ne_of_none e hD⟩, b2.keep a o p e⟩
    obtain ⟨wg, _⟩ := w φ' i H2 upw A2.fr
    by_cases hlt : i < pre.length
    · have hd : (pre ++ d :: post)[i]? = some pre[i] := by rw [List.getElem?_append_left hlt]; exact List.getElem?_eq_getElem hlt
      obtain ⟨go, yl⟩ := wg _ hd
      refine .inr ⟨go, fun H3 => But φ H1 H3 ∧ ∃ acc, Reps K φ' H3 ((pre.take (i + 1)).map f) acc ∧ At K φ' (fun H => J H ∧ H D0 = some (.lst acc)) (wipeR ρ [k]) (L2.wipe σ [k]) H3, ?_, ?_⟩
      · rintro H3 ⟨b3, acc3, r3, A3⟩
        exact ⟨pre.length + 1 - (i + 1), by omega, rfl, hlt, b3, acc3, r3, A3⟩
      · intro x H3 hy
        obtain ⟨s3, r3⟩ := yl x H3 hy
        have A3 := A2.same s3
        have rs3 := rs.mono (But.of (φ := φ') s3)
        have b3 : But φ H1 H3 := b2.trans (But.of s3)
        have hmem : pre[i] ∈ pre := List.getElem_mem hlt
        have tk : (pre.take (i + 1)).map f = (pre.take i).map f ++ [f pre[i]] := by rw [List.take_add_one, List.getElem?_eq_getElem hlt, List.map_append]; rfl
        refine ⟨(wipe_set (o := some x) (show k ∈ [k] by simp)).trans (wipe_wipe [k]), ?_⟩
        show tYes _ _ _
        refine he _ hmem φ' _ (ext acc) _ H3 (A3.set k r3) _ fun v y H6 b6 A6 pv r6 => ?_
        subst pv
        have rl := rs3.mono b6
        have nD : ¬ φ' D0 := fun z => z.2 rfl
        refine ⟨acc, A6.j.2, ?_, ?_, acc ++ [v], ?_, ?_⟩
        · rw [rl.length, List.length_map, List.length_take]
          exact szlt (by omega)
        · refine ⟨fun a o p e => ?_, fun a h => upd_tr a (b6.tr a (b3.tr a h))⟩
          have ne := ne_of_none e hD
          rw [upd_ne ne]
          exact b6.keep a o ⟨p, ne⟩ (b3.keep a o p e)
        · rw [tk]
          exact (rl.append (Reps.cons r6 Reps.nil)).mono ((But.refl φ' H6).upd nD)
        · have A6' : At K φ' (fun H => J H ∧ H D0 = some (.lst acc)) (wipeR ρ [k]) (L2.wipe σ [k]) H6 := ⟨A3.sr.up (Up.of b6), A6.fr, A6.j, A6.mono⟩
          have jj : J (upd H6 D0 (.lst (acc ++ [v]))) := A1.mono H6 _ (fun a o h e => by
            rw [upd_ne (show a ≠ D0 from fun z => h (by rw [z]; exact hD))]
            exact e) A6.j.1
          exact A6'.upd nD ⟨jj, upd_same⟩ (mono _ _ (fun a h => upd_tr a (b6.tr a (b3.tr a h))) (by rw [upd_same]; exact fun z => by cases z))
    · have e : i = pre.length := by omega
      subst e
      have hd : (pre ++ d :: post)[pre.length]? = some d := by rw [List.getElem?_append_right (Nat.le_refl _), Nat.sub_self]; rfl
      obtain ⟨go, yl⟩ := wg _ hd
      refine .inr ⟨go, fun _ => False, fun _ z => z.elim, ?_⟩
      intro x H3 hy
      obtain ⟨s3, r3⟩ := yl x H3 hy
      have A3 := A2.same s3
      have b3 : But φ H1 H3 := b2.trans (But.of s3)
      refine ⟨(wipe_set (o := some x) (show k ∈ [k] by simp)).trans (wipe_wipe [k]), ?_⟩
      show tYes _ _ _
      refine hr φ' _ (ext acc) _ H3 (A3.set k r3) (fun H' b' A' => ?_) _
      have bb : But φ H1 H' := ⟨fun a o p e => b'.keep a o ⟨p, ne_of_none e hD⟩ (b3.keep a o p e), fun a h => b'.tr a (b3.tr a h)⟩
      exact kx H' (b1.trans bb) ⟨A1.sr.up (Up.of bb), A'.fr.fst, A'.j.1, A1.mono.up bb.tr⟩
end

-- import HandS.Text
-- import HandS.Steps
-- import HandS.StrMore
-- import HandS.FStr
-- import HandS.Style
-- import HandS.TupLe
/-! ### texts -/
open TL
def rSplit : V → List V → Hp → VK → Prop := fun x xs H Q => ∃ a b, x = .str a ∧ xs = [.str b] ∧ (b.length == 0) = false ∧ a.length + 2 ≤ sizeLine ∧ rNewStrs (Txt.split a b) H Q
theorem mu_split {X : Cx} : MtR X "str.split" rSplit := mt_split
def rJoin (K : PySem.W.Frag) : V → List V → Hp → VK → Prop := fun x xs H Q => ∃ a p, ∃ ys : List Str, x = .str a ∧ xs = [.ref p] ∧ (SqL K H p (ys.map V.str) ∨ SqT K H p (ys.map V.str)) ∧ (ys.map (·.length)).sum + ys.length * a.length ≤ 16777216 ∧ Q (.str (Txt.join a ys)) H
theorem mu_join {X : Cx} : MtR X "str.join" (rJoin X.K) := mt_join
theorem kmu_join {X : Cx} {K : PySem.W.Frag} (h : X.K = K) : MtR X "str.join" (rJoin K) := h ▸ mt_join
def rStarts : V → List V → Hp → VK → Prop := fun x xs H Q => ∃ a b, x = .str a ∧ xs = [.str b] ∧ Q (.bl (Txt.startswith a b)) H
theorem mu_startswith {X : Cx} : MtR X "str.startswith" rStarts := mt_startswith
def rRemP : V → List V → Hp → VK → Prop := fun x xs H Q => ∃ a b, x = .str a ∧ xs = [.str b] ∧ a.length ≤ sizeLine ∧ Q (.str (Txt.removeprefix a b)) H
theorem mu_removeprefix {X : Cx} : MtR X "str.removeprefix" rRemP := mt_removeprefix
def rIntS : List V → Hp → VK → Prop := fun xs H Q => ∃ a n, xs = [.str a] ∧ PySem.intText? a = some n ∧ a.length ≤ 640 ∧ Q (.int n) H
theorem c_intS {X : Cx} : CallR X (.type "int") rIntS := call_int_str
theorem op_addS {X : Cx} : OpR X (binaryOp .Add) rAddS := op_add_str
section
variable {K : PySem.W.Frag} {φ φ' : Addr → Prop} {J J' : Hp → Prop} {H H' H1 : Hp} {ρ ρ' : List (Option D)} {σ : L2.St} {te ta tb to : TE} {s t : Str} {i : Int}
theorem reps_strs : ∀ ys : List Str, Reps K φ H (ys.map D.str) (ys.map V.str)
  | [] => Reps.nil
  | _ :: ys => Reps.cons rfl (reps_strs ys)
theorem ev_split (ha : EvD K φ J to ρ (.str s)) (hb : EvD K φ J te ρ (.str t)) (ht : (t.length == 0) = false) (hz : s.length ≤ 1000000) : EvN K φ J (tM1 rSplit to te) ρ (fun x => x = (Txt.split s t).map D.str) := fun σ H A Q q =>
  ha σ H A _ fun v x H1 b1 A1 e1 r1 => by
    subst e1
    cases (show v = _ from r1)
    refine ⟨⟨s, rfl⟩, hb σ H1 A1 _ fun w y H2 b2 A2 e2 r2 => ?_⟩
    subst e2
    cases (show w = _ from r2)
    refine ⟨s, t, rfl, rfl, ht, Nat.le_trans (Nat.add_le_add_right hz 2) (by decide), fun p hp => ?_⟩
    refine q p _ _ H2 _ (b1.trans b2) A2 hp (But.of (same_new hp)) (A2.same (same_new hp)) rfl upd_same ?_
    exact reps_strs _
theorem ev_splitD (ha : EvD K φ J to ρ (.str s)) (hb : EvD K φ J te ρ (.str t)) (ht : (t.length == 0) = false) (hz : s.length ≤ 1000000) : EvD K φ J (tM1 rSplit to te) ρ (.lst ((Txt.split s t).map D.str)) := ev_newD (ev_split ha hb ht hz)
theorem ev_join {ys : List Str} (ha : EvD K φ J to ρ (.str s)) (hb : EvD K φ J te ρ (.lst (ys.map D.str))) (hz : (ys.map (·.length)).sum + ys.length * s.length ≤ 16777216) : EvD K φ J (tM1 (rJoin K) to te) ρ (.str (Txt.join s ys)) := fun σ H A Q q =>
  ha σ H A _ fun v x H1 b1 A1 e1 r1 => by
    subst e1
    cases (show v = _ from r1)
    refine ⟨⟨s, rfl⟩, hb σ H1 A1 _ fun w y H2 b2 A2 e2 r2 => ?_⟩
    subst e2
    obtain ⟨a, vs, rfl, pa, ra⟩ := rep_lst r2
    cases Reps.strs ra
    exact ⟨s, a, ys, rfl, rfl, .inl pa.sq, hz, q _ _ H2 (b1.trans b2) A2 rfl rfl⟩
theorem ev_startswith (ha : EvD K φ J to ρ (.str s)) (hb : EvD K φ J te ρ (.str t)) : EvD K φ J (tM1 rStarts to te) ρ (.bl (Txt.startswith s t)) := fun σ H A Q q =>
  ha σ H A _ fun v x H1 b1 A1 e1 r1 => by
    subst e1
    cases (show v = _ from r1)
    refine ⟨⟨s, rfl⟩, hb σ H1 A1 _ fun w y H2 b2 A2 e2 r2 => ?_⟩
    subst e2
    cases (show w = _ from r2)
    exact ⟨s, t, rfl, rfl, q _ _ H2 (b1.trans b2) A2 rfl rfl⟩
theorem ev_removeprefix (ha : EvD K φ J to ρ (.str s)) (hb : EvD K φ J te ρ (.str t)) (hz : s.length ≤ 1000000) : EvD K φ J (tM1 rRemP to te) ρ (.str (Txt.removeprefix s t)) := fun σ H A Q q =>
  ha σ H A _ fun v x H1 b1 A1 e1 r1 => by
    subst e1
    cases (show v = _ from r1)
    refine ⟨⟨s, rfl⟩, hb σ H1 A1 _ fun w y H2 b2 A2 e2 r2 => ?_⟩
    subst e2
    cases (show w = _ from r2)
    exact ⟨s, t, rfl, rfl, sz hz, q _ _ H2 (b1.trans b2) A2 rfl rfl⟩
theorem ev_intS {n : Int} (ha : EvD K φ J te ρ (.str s)) (hn : PySem.intText? s = some n) (hz : s.length ≤ 640) : EvD K φ J (tCB rIntS (tCons te tNil)) ρ (.int n) := ev_cbD (ea_cons ha ea_nil) fun H vs f r Q q => by
  obtain ⟨v, rfl, r1⟩ := r.one
  cases (show v = _ from r1)
  exact ⟨s, n, rfl, hn, hz, q _ _ H (Same.refl H) rfl rfl⟩
theorem ev_addS (ha : EvD K φ J ta ρ (.str s)) (hb : EvD K φ J tb ρ (.str t)) (hz : s.length + t.length ≤ 1000000) : EvD K φ J (tOp rAddS ta tb) ρ (.str (s ++ t)) := ev_opD ha hb fun H v w f r1 r2 Q q => by
  cases (show v = _ from r1)
  cases (show w = _ from r2)
  exact ⟨s, t, rfl, rfl, sz hz, q _ _ H (Same.refl H) rfl rfl⟩
theorem ev_inS {c : Nat} (ha : EvD K φ J ta ρ (.str ⟨#[c]⟩)) (hb : EvD K φ J tb ρ (.str t)) : EvD K φ J (tOp rInS ta tb) ρ (.bl (decide (c ∈ tl t))) := ev_opD ha hb fun H v w f r1 r2 Q q => by
  cases (show v = _ from r1)
  cases (show w = _ from r2)
  exact ⟨c, t, rfl, rfl, q _ _ H (Same.refl H) rfl rfl⟩
theorem ev_notInS {c : Nat} (ha : EvD K φ J ta ρ (.str ⟨#[c]⟩)) (hb : EvD K φ J tb ρ (.str t)) : EvD K φ J (tOp rNotInS ta tb) ρ (.bl (!decide (c ∈ tl t))) := ev_opD ha hb fun H v w f r1 r2 Q q => by
  cases (show v = _ from r1)
  cases (show w = _ from r2)
  exact ⟨c, t, rfl, rfl, q _ _ H (Same.refl H) rfl rfl⟩
theorem ev_ixStr {c : Nat} (ha : EvD K φ J ta ρ (.str s)) (hb : EvD K φ J tb ρ (.int i)) (hz : s.length ≤ 1000000) (h : L2.atI (tl s) i = some c) : EvD K φ J (tOp rIxS ta tb) ρ (.str ⟨#[c]⟩) := ev_opD ha hb fun H v w f r1 r2 Q q => by
  cases (show v = _ from r1)
  cases (show w = _ from r2)
  exact ⟨s, i, c, rfl, rfl, sz hz, h, q _ _ H (Same.refl H) rfl rfl⟩
theorem ev_slS {tl th : TO} {lo hi : Option Int} (ha : EvD K φ J te ρ (.str s)) (hl : EvO K φ J tl ρ lo) (hh : EvO K φ J th ρ hi) (hz : s.length ≤ 1000000) : EvD K φ J (tSl rSlS te tl th) ρ (.str (cutS s lo hi)) := fun σ H A Q q =>
  ha σ H A _ fun v x H1 b1 A1 e1 r1 => hl σ H1 A1 _ fun H2 b2 A2 => hh σ H2 A2 _ fun H3 b3 A3 => by
    subst e1
    cases (show v = _ from r1)
    exact ⟨s, rfl, sz hz, q _ _ H3 ((b1.trans b2).trans b3) A3 rfl rfl⟩
/-- the texts of an f-string -/
inductive EvJ (K : PySem.W.Frag) (φ : Addr → Prop) (J : Hp → Prop) (ρ : List (Option D)) : List TE → List Str → Prop where
  | nil : EvJ K φ J ρ [] []
  | cons {te : TE} {ts : List TE} {s : Str} {ss : List Str} (h : EvD K φ J te ρ (.str s)) (r : EvJ K φ J ρ ts ss) : EvJ K φ J ρ (te :: ts) (s :: ss)
theorem evj_run {ts : List TE} {ss : List Str} (h : EvJ K φ J ρ ts ss) : ∀ (acc : Str) (σ : L2.St) (H : Hp), At K φ J ρ σ H → acc.length + (ss.map (·.length)).sum ≤ 1000000 → ∀ Q : Str → Hp → Prop, (∀ H', But φ H H' → At K φ J ρ σ H' → Q (ss.foldl (· ++ ·) acc) H') → tJs ts acc σ H Q := by
  induction h with
  | nil => exact fun acc σ H A _ Q q => q H (But.refl _ _) A
  | @cons te ts s ss h r ih =>
    intro acc σ H A hz Q q
    rw [List.map_cons, List.sum_cons] at hz
    refine h σ H A _ fun v d H1 b1 A1 e r1 => ?_
    subst e
    cases (show v = _ from r1)
    have hl : (acc ++ s).length = acc.length + s.length := by simp only [len_tl, tl_append, List.length_append]
    exact ⟨s, rfl, sz (by rw [hl]; omega), ih (acc ++ s) σ H1 A1 (by rw [hl]; omega) Q fun H' b A' => q H' (b1.trans b) A'⟩
theorem ev_fstr {ts : List TE} {ss : List Str} (h : EvJ K φ J ρ ts ss) (hz : (ss.map (·.length)).sum ≤ 1000000) : EvD K φ J (fun σ H Q => tJs ts Str.empty σ H fun out H1 => Q (.str out) H1) ρ (.str (ss.foldl (· ++ ·) Str.empty)) := fun σ H A Q q =>
  evj_run h Str.empty σ H A (by show 0 + _ ≤ _; omega) _ fun H' b A' => q _ _ H' b A' rfl rfl
theorem ev_fmtI (h : EvD K φ J te ρ (.int i)) (hz : i.natAbs.log2 < 1920) : EvD K φ J (tFmt te) ρ (.str (toString i)) := fun σ H A Q q =>
  h σ H A _ fun v d H1 b1 A1 e r1 => by
    subst e
    exact .inr ⟨i, r1, hz, q _ _ H1 b1 A1 rfl rfl⟩
theorem ev_fmtS (h : EvD K φ J te ρ (.str s)) (hz : s.length ≤ 1000000) : EvD K φ J (tFmt te) ρ (.str s) := fun σ H A Q q =>
  h σ H A _ fun v d H1 b1 A1 e r1 => by
    subst e
    exact .inl ⟨s, r1, sz hz, q _ _ H1 b1 A1 rfl rfl⟩
end
/-! ### xs.pop() as a part of a reading -/
section
variable {K : PySem.W.Frag} {φ φ' : Addr → Prop} {J J' : Hp → Prop} {H H' H1 : Hp} {ρ ρ' : List (Option D)} {σ : L2.St} {te ta tb to : TE} {s : Str} {D0 : Ends} {t u : TS} {l : Addr} {ds : List D} {d : D}
theorem pop_run {k : Nat} (A : At K φ J ρ σ H) (L : LivS K φ J l HO.lst (ds ++ [d])) (hk : ρ[k]? = some (some (.raw (.ref l)))) {Q : VK}
    (kk : ∀ v J' H', Wr K φ J J' l → LivS K φ J' l HO.lst ds → At K φ J' ρ σ H' → Rep K φ H' d v → Q v H') : tBM0 K "list" rPop (tVar k) σ H Q := by
  obtain ⟨vs, H0, r, m, k0⟩ := L.ex
  obtain ⟨w, e, rw'⟩ := A.sr.2 k _ hk
  cases (show w = _ from rw')
  have r1 := r.mono (k0 _ A.j).2
  have hl : vs.length = ds.length + 1 := by rw [r1.length, List.length_append]; rfl
  obtain ⟨v, hv, rv⟩ := r1.get (i := ds.length) (d := d) (by rw [List.getElem?_append_right (Nat.le_refl _), Nat.sub_self]; rfl)
  have e2 : (ds ++ [d]).eraseIdx ds.length = ds := by rw [List.eraseIdx_append_of_length_le (Nat.le_refl _), Nat.sub_self]; exact List.append_nil ds
  have e3 : vs.eraseIdx ds.length = vs.dropLast := by rw [← show vs.length - 1 = ds.length by omega]; exact List.eraseIdx_length_sub_one
  refine ⟨_, e, .inl ⟨rfl, _, SqL.of (k0 _ A.j).1⟩, l, vs, v, rfl, rfl, (k0 _ A.j).1, by rw [hl]; exact hv, ?_⟩
  have r2 := reps_erase ds.length r1
  rw [e2, e3] at r2
  obtain ⟨A2, L2', W⟩ := L.write (C' := HO.lst) (vs' := vs.dropLast) A r2
  exact kk v _ _ W L2' A2 (rv.mono ((But.refl φ H).upd L.np))
/-- if xs.pop() != "..": -/
theorem st_popNe {k : Nat} (A : At K φ J ρ σ H) (L : LivS K φ J l HO.lst (ds ++ [.str s])) (hk : ρ[k]? = some (some (.raw (.ref l))))
    (kk : ∀ J' H', Wr K φ J J' l → LivS K φ J' l HO.lst ds → At K φ J' ρ σ H' → tIfS (tTest (tOp rNe (tC (.str s)) tb)) t u D0 σ H') : tIfS (tTest (tOp rNe (tBM0 K "list" rPop (tVar k)) tb)) t u D0 σ H :=
  pop_run A L hk fun v J' H' W L' A' r => by
    cases (show v = _ from r)
    exact kk J' H' W L' A'
/-- if xs.pop() != ".." or ..: -/
theorem st_popOr {k : Nat} {rest : TT} (A : At K φ J ρ σ H) (L : LivS K φ J l HO.lst (ds ++ [.str s])) (hk : ρ[k]? = some (some (.raw (.ref l))))
    (kk : ∀ J' H', Wr K φ J J' l → LivS K φ J' l HO.lst ds → At K φ J' ρ σ H' → tIfS (tOr (tTest (tOp rNe (tC (.str s)) tb)) rest) t u D0 σ H') : tIfS (tOr (tTest (tOp rNe (tBM0 K "list" rPop (tVar k)) tb)) rest) t u D0 σ H :=
  pop_run A L hk fun v J' H' W L' A' r => by
    cases (show v = _ from r)
    exact kk J' H' W L' A'
end
/-! ### xs[::-1], t <= u -/
section
variable {K : PySem.W.Frag} {φ : Addr → Prop} {J : Hp → Prop} {ρ : List (Option D)} {ta tb te : TE} {ds : List D} {ns ms : List Int}
theorem reps_rev {H : Hp} : ∀ {ds : List D} {vs : List V}, Reps K φ H ds vs → Reps K φ H ds.reverse vs.reverse
  | [], vs, h => by
    cases (show vs = [] from h)
    exact Reps.nil
  | x :: ds, vs, h => by
    obtain ⟨u, r', rfl, g1, g2⟩ := (show ∃ v r, vs = v :: r ∧ Rep K φ H x v ∧ Reps K φ H ds r from h)
    rw [List.reverse_cons, List.reverse_cons]
    exact (reps_rev g2).append (Reps.cons g1 Reps.nil)
theorem en_revL (ha : EvD K φ J te ρ (.lst ds)) : EvN K φ J (tRevL K te) ρ (fun x => x = ds.reverse) := fun σ H A Q q =>
  ha σ H A _ fun v x H1 b1 A1 e1 r1 => by
    subst e1
    obtain ⟨a, vs, rfl, pa, ra⟩ := rep_lst r1
    exact ⟨a, vs, rfl, pa.sq, fun p hp => q p _ _ H1 _ b1 A1 hp (But.of (same_new hp)) (A1.same (same_new hp)) rfl upd_same (reps_new hp (reps_rev ra))⟩
theorem ev_revL (ha : EvD K φ J te ρ (.lst ds)) : EvD K φ J (tRevL K te) ρ (.lst ds.reverse) := ev_newD (en_revL ha)
theorem ev_leT (ha : EvD K φ J ta ρ (.tup (ns.map D.int))) (hb : EvD K φ J tb ρ (.tup (ms.map D.int))) : EvD K φ J (tOp (rLeT K) ta tb) ρ (.bl (Ob.lexAt (fun j => decide (ns.getD j 0 = ms.getD j 0)) (fun j => decide (ns.getD j 0 ≤ ms.getD j 0)) (decide (ns.length ≤ ms.length)) 0 (min ns.length ms.length))) := ev_opD ha hb fun H v w _ r1 r2 Q q => by
  obtain ⟨a, rfl, h1⟩ := rep_tupI r1
  obtain ⟨b, rfl, h2⟩ := rep_tupI r2
  exact ⟨a, b, ns, ms, rfl, rfl, h1, h2, q _ _ H (Same.refl H) rfl rfl⟩
theorem lexAtLe2 (a b c d : Int) : Ob.lexAt (fun j => decide (([a, b] : List Int).getD j 0 = ([c, d] : List Int).getD j 0)) (fun j => decide (([a, b] : List Int).getD j 0 ≤ ([c, d] : List Int).getD j 0)) (decide (([a, b] : List Int).length ≤ ([c, d] : List Int).length)) 0 (min ([a, b] : List Int).length ([c, d] : List Int).length) = !SrtO.lexB (c, d) (a, b) := by
  have e : min ([a, b] : List Int).length ([c, d] : List Int).length = 2 := rfl
  rw [e, Ob.lexAt_succ]
  show (if decide (a = c) = true then _ else decide (a ≤ c)) = _
  by_cases h1 : a = c
  · rw [if_pos (decide_eq_true h1), Ob.lexAt_succ]
    show (if decide (b = d) = true then _ else decide (b ≤ d)) = _
    by_cases h2 : b = d
    · rw [if_pos (decide_eq_true h2), Ob.lexAt_zero]
      unfold SrtO.lexB
      rw [if_pos (show (c, d).1 = (a, b).1 from h1.symm), decide_eq_false (show ¬ d < b by omega)]
      rfl
    · rw [if_neg (by simp [h2])]
      unfold SrtO.lexB
      rw [if_pos (show (c, d).1 = (a, b).1 from h1.symm)]
      show decide (b ≤ d) = !decide (d < b)
      by_cases h3 : d < b
      · rw [decide_eq_true h3, decide_eq_false (by omega)]; rfl
      · rw [decide_eq_false h3, decide_eq_true (by omega)]; rfl
  · rw [if_neg (by simp [h1])]
    unfold SrtO.lexB
    rw [if_neg (show ¬ (c, d).1 = (a, b).1 from fun z => h1 z.symm)]
    show decide (a ≤ c) = !decide (c < a)
    by_cases h3 : c < a
    · rw [decide_eq_true h3, decide_eq_false (by omega)]; rfl
    · rw [decide_eq_false h3, decide_eq_true (by omega)]; rfl
theorem ev_leP2 {p q : Int × Int} (ha : EvD K φ J ta ρ (prDD p)) (hb : EvD K φ J tb ρ (prDD q)) : EvD K φ J (tOp (rLeT K) ta tb) ρ (.bl (!SrtO.lexB q p)) := by
  rw [show (!SrtO.lexB q p) = _ from (lexAtLe2 p.1 p.2 q.1 q.2).symm]
  exact ev_leT (ns := [p.1, p.2]) (ms := [q.1, q.2]) ha hb
/-- a comprehension by three names -/
theorem en_lcT3 {wi : TI} {k1 k2 k3 : Nat} {f : D → D} (hi : IterD K φ J wi ρ ds) (hl : ds.length ≤ 1000000) (hd : ∀ d ∈ ds, ∃ a b c, d = .tup [a, b, c])
    (he : ∀ a b c, .tup [a, b, c] ∈ ds → ∀ φ' J', Ext φ J φ' J' → EvD K φ' J' te ((((wipeR ρ [k1, k2, k3]).set k1 (some a)).set k2 (some b)).set k3 (some c)) (f (.tup [a, b, c]))) :
    EvN K φ J (tLc wi (gTup K 3 (gCons (gName k1) (gCons (gName k2) (gCons (gName k3) gNil)))) tYes te [k1, k2, k3]) ρ (fun x => x = ds.map f) := fun σ H A Q q =>
  (en_lcP (ρd := fun d => match d with | .tup [a, b, c] => (((wipeR ρ [k1, k2, k3]).set k1 (some a)).set k2 (some b)).set k3 (some c) | _ => ρ) (us := [k1, k2, k3]) (pt := fun _ b => b = true) (pe := fun d y => y = f d) hi (fun ds' e => by rw [e]; exact hl) (fun _ h => h) (fun ds' e d hm => by
      subst e
      obtain ⟨a, b, c, rfl⟩ := hd d hm
      exact eg_tup (ds := [a, b, c]) (egs_cons eg_name (egs_cons eg_name (egs_cons eg_name egs_nil))))
    (fun ds' e d hm φ' J' x => by
      subst e
      obtain ⟨a, b, c, rfl⟩ := hd d hm
      exact et_yes) (fun ds' e d hm pd φ' J' x => by
      subst e
      obtain ⟨a, b, c, rfl⟩ := hd d hm
      exact he a b c hm φ' J' x)) σ H A Q fun p vs ys H0 H' b0 A0 hp b A' pd e r => by
      obtain ⟨ds', e1, c⟩ := pd
      subst e1
      exact q p vs ys H0 H' b0 A0 hp b A' c.map e r
end

-- import PyProof.StrOps2
-- import HandS.Style
-- import KE.KRevSl
/-! ### text * int, t[::-1] of a tuple -/
def mulS (a : Str) (n : Nat) : Str := ⟨(List.replicate n a.cps).foldl (· ++ ·) #[]⟩
def rMulS : R2 := fun x y H Q => ∃ (a : Str) (n : Int), x = .str a ∧ y = .int n ∧ 2 ≤ n ∧ n ≤ 1000 ∧ 1 ≤ a.length ∧ a.length ≤ 1000 ∧ Q (.str (mulS a n.toNat)) H
theorem foldl_app_size {α : Type} (xs : Array α) : ∀ (n : Nat) (acc : Array α), ((List.replicate n xs).foldl (· ++ ·) acc).size = acc.size + n * xs.size
  | 0, acc => by simp
  | n + 1, acc => by
    rw [List.replicate_succ, List.foldl_cons, foldl_app_size xs n, Array.size_append, Nat.succ_mul]
    omega
theorem mulS_length (a : Str) (n : Nat) : (mulS a n).length = n * a.length := by
  show ((List.replicate n a.cps).foldl (· ++ ·) #[]).size = n * a.cps.size
  rw [foldl_app_size]
  simp
theorem foldl_app_list {α : Type} (xs : Array α) : ∀ (n : Nat) (acc : Array α), ((List.replicate n xs).foldl (· ++ ·) acc).toList = acc.toList ++ (List.replicate n xs.toList).flatten
  | 0, acc => by simp
  | n + 1, acc => by
    rw [List.replicate_succ, List.foldl_cons, foldl_app_list xs n, Array.toList_append, List.replicate_succ, List.flatten_cons, List.append_assoc]
theorem tl_mulS (a : Str) (n : Nat) : TL.tl (mulS a n) = (List.replicate n (TL.tl a)).flatten := by
  show ((List.replicate n a.cps).foldl (· ++ ·) #[]).toList = _
  rw [foldl_app_list]
  rfl
theorem op_mulS {X : Cx} : OpR X (binaryOp .Mult) rMulS := by
  intro pins s σ H x y v u Q I rx ry h
  obtain ⟨a, n, rfl, rfl, h1, h2, h3, h4, q⟩ := h
  obtain ⟨t, rfl⟩ := rx
  obtain ⟨t', rfl⟩ := ry
  have hl : a.length * n.toNat ≤ 1000000 := by
    have : n.toNat ≤ 1000 := by omega
    exact Nat.mul_le_mul h4 this
  have e1 : ¬ n < 1 := by omega
  have e2 : ¬ (n == 1 || a.length == 0) = true := by
    rw [Bool.or_eq_true, beq_iff_eq, beq_iff_eq]
    omega
  refine PySem.P.mul_str (by rw [decide_eq_false (show ¬ n < -(2 ^ 63 : Int) by omega), decide_eq_false (show ¬ n ≥ 2 ^ 63 by omega)]; rfl) (fun _ _ => ?_) (fun _ _ => ?_) ?_
  · have : (2 ^ 63 - 1) / n ≥ 1000 := by
      refine (Int.le_ediv_iff_mul_le (by omega)).mpr ?_
      omega
    omega
  · have hs : a.length * n.toNat ≤ sizeLine := sz hl
    show decide (a.length * n.toNat > sizeLine) = false
    exact decide_eq_false (Nat.not_lt.mpr hs)
  · rw [if_neg e1, if_neg e2]
    refine ⟨?_, .str (mulS a n.toNat), H, I.tok _, ⟨_, rfl⟩, q⟩
    show ((List.replicate n.toNat a.cps).foldl (· ++ ·) #[]).size ≤ _
    have := mulS_length a n.toNat
    unfold mulS at this
    exact Nat.le_trans (Nat.le_of_eq this) (by rw [Nat.mul_comm]; exact sz hl)
section
variable {K : PySem.W.Frag} {φ : Addr → Prop} {J : Hp → Prop} {ρ : List (Option D)} {ta tb : TE} {s : Str} {i : Int}
theorem ev_mulS (ha : EvD K φ J ta ρ (.str s)) (hb : EvD K φ J tb ρ (.int i)) (h1 : 2 ≤ i) (h2 : i ≤ 1000) (h3 : 1 ≤ s.length) (h4 : s.length ≤ 1000) : EvD K φ J (tOp rMulS ta tb) ρ (.str (mulS s i.toNat)) := ev_opD ha hb fun H v w f r1 r2 Q q => by
  cases (show v = _ from r1)
  cases (show w = _ from r2)
  exact ⟨s, i, rfl, rfl, h1, h2, h3, h4, q _ _ H (Same.refl H) rfl rfl⟩
end
/-! ### t[::-1] -/
section
open HT PyProof.Rows PySem.SeqAt PySem.MeetsSeq PySem.MeetsSeq2 PySem.MeetsSeq3
open PySem.AutoSeq1 (wpAny_loadPart')
variable {prog : Program} {w : World} {A : Around} {E : Value → Shared → Prop} {s : Shared}
theorem sliceApplied_rev {sl : Addr} {vl vu vs : Value} {n : Nat} {Q : Int × Int × Nat → Shared → Prop} (hs : s.heap.IsSliceOf sl vl vu vs) (pl : IsPart vl none) (pu : IsPart vu none) (ps : IsPart vs (some (-1)))
    (h : Q ((n : Int) - 1, -1, n) s) : wpAny (model prog w) A (Builtin.Slice.sliceApplied (.ref sl) (pure (n : Int))) Q E s := by
  obtain ⟨os, hos, hcs, hds⟩ := id hs
  unfold Builtin.Slice.sliceApplied Builtin.Slice.sliceFields
  refine wpAny_bind (wpAny_bind (wpAny_field hos hds (x := vl) rfl (wpAny_bind (wpAny_field hos hds (x := vu) rfl (wpAny_bind (wpAny_field hos hds (x := vs) rfl (wpAny_pure ?_)))))))
  refine wpAny_bind (HT.slicePart_ ps ?_)
  show wpAny _ _ (if ((-1 : Int) == 0) = true then _ else _) _ _ s
  rw [if_neg (by decide)]
  refine wpAny_bind (HT.slicePart_ pl (wpAny_bind (HT.slicePart_ pu (wpAny_bind (wpAny_pure ?_)))))
  have e : Builtin.Slice.slicePlaces ((n : Int) - 1) (-1) (-1) = n := by
    unfold Builtin.Slice.slicePlaces
    rw [if_neg (by decide)]
    by_cases h0 : n = 0
    · subst h0
      rfl
    · rw [if_pos (by omega), show (- -1 : Int) = 1 by decide, Int.ediv_one]
      omega
  show wpAny _ _ (pure ((n : Int) - 1, (-1 : Int), Builtin.Slice.slicePlaces ((n : Int) - 1) (-1) (-1))) _ _ s
  rw [e]
  exact wpAny_pure h
theorem filterMap_same {α β : Type} {f g : α → Option β} : ∀ {l : List α}, (∀ m ∈ l, f m = g m) → l.filterMap f = l.filterMap g
  | [], _ => rfl
  | a :: l, h => by
    rw [List.filterMap_cons, List.filterMap_cons, h a List.mem_cons_self, filterMap_same fun m hm => h m (List.mem_cons_of_mem _ hm)]
theorem pick_rev (xs : Array Value) : ((List.range xs.size).filterMap fun (m : Nat) => xs[((xs.size : Int) - 1 + (m : Int) * -1).toNat]?).toArray = xs.toList.reverse.toArray := by
  have h1 : (List.range xs.size).filterMap (fun (m : Nat) => xs[((xs.size : Int) - 1 + (m : Int) * -1).toNat]?) = ((List.range xs.size).map (fun k => xs.size - 1 - k)).filterMap (xs[·]?) := by
    rw [List.filterMap_map]
    refine filterMap_same fun m hm => ?_
    have := List.mem_range.mp hm
    show _ = xs[xs.size - 1 - m]?
    rw [show ((xs.size : Int) - 1 + (m : Int) * -1).toNat = xs.size - 1 - m by omega]
  rw [h1, PySem.W.krv_range, List.filterMap_reverse, PySem.W.krv_all]
theorem getItem_tuple_rev {t sl : Addr} {items : Array Value} {vl vu vs : Value} {Q : Value → Shared → Prop} (ht : IsTup s.heap t items) (hs : s.heap.IsSliceOf sl vl vu vs) (pl : IsPart vl none) (pu : IsPart vu none) (ps : IsPart vs (some (-1)))
    (h : Q (.ref s.heap.objs.size) { s with heap := s.heap.push { cls := .type "tuple", data := .seq items.toList.reverse.toArray } })
    (hsz : items.size ≤ sizeLine) : wpAny (model prog w) A (getItem (.ref t) (.ref sl)) Q E s := by
  have htake : sizeOk (.seq items.toList.reverse.toArray) := by
    show items.toList.reverse.toArray.size ≤ sizeLine
    rw [List.size_toArray, List.length_reverse, Array.length_toList]
    exact hsz
  obtain ⟨os, hos, hcs, hds⟩ := id hs
  have hTs : s.TypeIs (.ref sl) "slice" := ⟨os, hos, hcs⟩
  unfold getItem
  try with_reducible refine wpAny_holding ?_
  first | refine wpAny_bind (wpAny_pure ?_) | skip
  refine wpAny_bind (wpAny_sequenceKey ht.typeIs (by decide) ?_)
  refine wpAny_bind (wpAny_callSpecial?_slot (name := Str.ofString "__getitem__") ht.typeIs PyProof.Rows.slot_tuple_getitem
    (wpAny_call_entry PyProof.Rows.slot_tuple_getitem ht.typeIs entry_tuple_getitem ?_ (args_tuple_getitem _ _)))
  show wpAny _ _ (Builtin.Tuple.tupleItemsOf (.ref t) >>= _) _ _ s
  refine wpAny_bind (tupleItemsOf_ ht ?_)
  refine wpAny_bind (wpAny_typeOf hTs ?_)
  rw [if_pos (by decide)]
  refine wpAny_bind (sliceApplied_rev hs pl pu ps ?_)
  have hno : ¬ ((((items.size : Int) - 1) == 0 && (-1 : Int) == 1 && items.size == items.size) = true) := by
    intro q
    rw [Bool.and_eq_true, Bool.and_eq_true] at q
    exact absurd q.1.2 (by decide)
  show wpAny _ _ (if (((items.size : Int) - 1) == 0 && (-1 : Int) == 1 && items.size == items.size) = true then _ else _) _ _ s
  rw [if_neg hno, pick_rev]
  first
    | exact wpAny_bind (m := Builtin.Tuple.tupleExact _) (wpAny_newObj_type (wpAny_pure ⟨_, rfl, wpAny_pure h⟩) htake)
    | exact wpAny_bind (m := Builtin.Tuple.tupleExact _) (wpAny_newObj_type (wpAny_bind (wpAny_pure (wpAny_pure ⟨_, rfl, wpAny_pure h⟩))) htake)
    | exact wpAny_bind (wpAny_bind (m := Builtin.Tuple.tupleExact _) (wpAny_newObj_type (wpAny_pure (wpAny_pure ⟨_, rfl, wpAny_pure h⟩)) htake))
    | exact wpAny_bind (wpAny_bind (m := Builtin.Tuple.tupleExact _) (wpAny_newObj_type (wpAny_pure ⟨_, rfl, wpAny_pure h⟩) htake))
end
def tRevT (K : PySem.W.Frag) (te : TE) : TE := fun σ H Q => te σ H fun x H1 => ∃ a xs, x = .ref a ∧ SqT K H1 a xs ∧ ∀ p, H1 p = none → Q (.ref p) (upd H1 p (.tup xs.reverse))
theorem pe_revT {X : Cx} {te : TE} {e : Expr} {k : Nat} {p1 p2 p3 pos : Pos} (he : PE X e te) : PE X (.Subscript e (.Slice none none (some (.UnaryOp .USub (.Constant (.int 1) k p1) p2)) p3) pos) (tRevT X.K te) := by
  refine ⟨fun pins s σ H Q I h => ?_⟩
  refine Subscript_ (thn (he.run pins s σ H _ I h) fun v s1 ⟨x, H1, I1, r1, q1⟩ => ?_)
  obtain ⟨a, xs, ex, hx, q⟩ := q1
  subst ex
  cases r1
  have hst : PO X (some (.UnaryOp .USub (.Constant (.int 1) k p1) p2)) (tPart (tUn (rU fun i => .int (-i)) (tC (.int 1)))) := po_some (pe_un un_neg pe_int)
  refine wpAny_Slice (thn (po_none.run pins s1 σ H1 (fun o H2 => o = none ∧ H2 = H1) I1 ⟨rfl, rfl⟩) fun vl s2 ⟨l, H2, I2, pl, el, e2⟩ => ?_)
  subst el e2
  refine thn (po_none.run pins s2 σ H2 (fun o H3 => o = none ∧ H3 = H2) I2 ⟨rfl, rfl⟩) fun vu s3 ⟨u, H3, I3, pu, eu, e3⟩ => ?_
  subst eu e3
  refine thn (hst.run pins s3 σ H3 (fun o H4 => o = some (-1) ∧ H4 = H3) I3 ⟨1, rfl, -1, rfl, rfl, rfl⟩) fun vs s4 ⟨o, H4, I4, ps, eo, e4⟩ => ?_
  subst eo e4
  have I5 : Inv X pins σ H4 { s4 with heap := s4.heap.push { cls := .type "slice", data := .fields #[vl, vu, vs] } } := I4.kept (t' := s4.toks) fun b ob q => Heap.get?_push_of_some _ q
  obtain ⟨its, r, ht, hz⟩ := I5.tuple hx
  have hlen := r.length
  show wpAny (model X.prog X.w) X.A (subscriptTail e (.Slice none none (some (.UnaryOp .USub (.Constant (.int 1) k p1) p2)) p3) (.ref a) (.ref s4.heap.objs.size)) (EP X pins σ Q) X.xe { s4 with heap := s4.heap.push { cls := .type "slice", data := .fields #[vl, vu, vs] } }
  refine PyProof.Rows.tail_any (ops := [.ref a, .ref s4.heap.objs.size]) ht.typeIs (PyProof.Rows.slot_tuple_getitem.lookup) ?_ (by with_unfolding_all rfl)
  refine getItem_tuple_rev ht (Heap.IsSliceOf.new _ vl vu vs) pl pu ps ?_ (by rw [List.size_toArray]; omega)
  refine ⟨.ref _, _, I5.laid (t' := s4.toks) (o := .tup xs.reverse) (fun b ob q => Heap.get?_push_of_some _ q) (Nat.le_refl _) ?_, rfl, q _ (I5.hok.fresh (Nat.le_refl _))⟩
  exact ⟨by rw [List.length_reverse]; exact hz, _, r.reverse, IsTup.new _ _⟩
section
variable {K : PySem.W.Frag} {φ : Addr → Prop} {J : Hp → Prop} {ρ : List (Option D)} {te : TE} {ds : List D}
theorem ev_revT (ha : EvD K φ J te ρ (.tup ds)) : EvD K φ J (tRevT K te) ρ (.tup ds.reverse) := fun σ H A Q q =>
  ha σ H A _ fun v x H1 b1 A1 e1 r1 => by
    subst e1
    obtain ⟨a, vs, rfl, pa, ra⟩ := rep_tup r1
    exact ⟨a, vs, rfl, pa.sq, fun p hp => q _ _ _ (b1.trans (But.of (same_new hp))) (A1.same (same_new hp)) rfl ⟨p, _, rfl, .inl ⟨A1.fr p hp, .inl upd_same⟩, (reps_rev ra).mono (But.of (same_new hp))⟩⟩
end
/-! ### a comprehension within a comprehension -/
theorem blk_in {N : List Str} {sc scope scope2 : Scope} {own : List (Str × Nat)} {cl : List (Str × Addr)} {C : Addr} {env : Env} (hs : env.scope = sc) (h : blkC N (relS scope sc) scope2 own = true) : BlkOk N (compEnvC scope cl C env).scope scope2 own := by
  have e : (compEnvC scope cl C env).scope = relS scope env.scope := rfl
  rw [e, hs]
  exact blkOk_by h

-- import HandS.Lambda
-- import HandS.Conv
/-! ### a lambda of one name, handed to a def -/
/-- one parameter, no other name of its own: captured ones and globals -/
structure LamS1 (sc scope : Scope) (x : Str) : Prop where
  kind : scope.kind = .function
  co : scope.isCoroutine = false
  gen : scope.isGenerator = false
  par : scope.names.lookup x = some .local
  own : ∀ y ∈ scope.names, y.2 ≠ .cell ∧ (y.2 = .local → y.1 = x)
  free : ∀ y ∈ scope.names, y.2 = .free → sc.names.lookup y.1 = some .cell ∨ sc.names.lookup y.1 = some .free
def lamS1B (sc scope : Scope) (x : Str) : Bool :=
  decide (scope.kind = .function) && !scope.isCoroutine && !scope.isGenerator && decide (scope.names.lookup x = some .local) && scope.names.all fun y => !decide (y.2 = .cell) && (!decide (y.2 = .local) || decide (y.1 = x)) && (!decide (y.2 = .free) || decide (sc.names.lookup y.1 = some .cell) || decide (sc.names.lookup y.1 = some .free))
theorem lamS1_by {sc scope : Scope} {x : Str} (h : lamS1B sc scope x = true) : LamS1 sc scope x := by
  unfold lamS1B at h
  simp only [Bool.and_eq_true, Bool.or_eq_true, Bool.not_eq_true', decide_eq_true_eq, decide_eq_false_iff_not, List.all_eq_true] at h
  obtain ⟨⟨⟨⟨h1, h2⟩, h3⟩, h0⟩, h4⟩ := h
  refine ⟨h1, h2, h3, h0, fun y hy => ⟨(h4 y hy).1.1, fun e => ?_⟩, fun y hy e => ?_⟩
  · rcases (h4 y hy).1.2 with z | z
    · exact absurd e z
    · exact z
  · rcases (h4 y hy).2 with (z | z) | z
    · exact absurd e z
    · exact .inl z
    · exact .inr z
section
open LamX
theorem LamS1.has {X : Cx} {scope : Scope} {x : Str} (L : LamS1 X.env.scope scope x) (ok : X.Ok) : ∀ y ∈ scope.names, y.2 = .free → ∃ c, X.env.cells.lookup y.1 = some c := fun y hy e => by
  rcases L.free y hy e with k | k
  · exact ok.has _ (.inl k)
  · exact ok.has _ (.inr k)
section
variable {X : Cx} {pins : List (Addr × Obj)} {σ : L2.St} {H HZ : Hp} {s s1 : Shared}
theorem lam_start1 {A : Around} {outer : List Env} {E : XK} {scope : Scope} {f c' : Addr} {h₁ : Heap} {tk : Nat} {x : Str} {i : Nat} {v : V} {u : Value} (I : Inv X pins σ H s) (L : LamS1 X.env.scope scope x) (hN : X.N.Nodup) (hi : X.N[i]? = some x) (hv : RelV v u) (e0 : Env0 X.prog X.w X.K X.mg X.base A outer s1 HZ) (hd : A.handled = none)
    (un : Un (frs X.stack) [] H HZ s.heap s1.heap) (hns : h₁.Ns s1.heap.objs.size fun y => ([(x, u)] : List (Str × Value)).reverse.lookup y) (kp : ∀ b o, s1.heap.get? b = some o → h₁.get? b = some o) :
    Inv (lamCx X A outer s1 HZ E scope f c') [] (σ.set i (some v)) HZ { s1 with heap := h₁, toks := tk } := by
  have hfree := L.has I.ok
  have cm : ∀ {y c}, (cloFrom X.env.cells scope.names []).lookup y = some c → X.env.cells.lookup y = some c := fun {y c} e => by
    rcases cloFrom_mem (PySem.mem_of_lookup e) with hm | ⟨h1, h2⟩
    · cases hm
    · obtain ⟨c1, hc⟩ := hfree _ h1 rfl
      have hc : X.env.cells.lookup y = some c1 := hc
      have e2 : c = c1 := by
        rw [h2, hc] <;> rfl
      rw [e2]
      exact hc
  have look : ∀ {y}, scope.names.lookup y = some .free → ∃ c, (cloFrom X.env.cells scope.names []).lookup y = some c := fun {y} hl => by
    have hy : (y, NameKind.free) ∈ scope.names := PySem.mem_of_lookup hl
    exact mem_lookup (cloFrom_has (cells := X.env.cells) (acc := []) hy)
  have cellK : ∀ {c : Addr} {v : Option Value}, H c = none → s.heap.IsCell c v → h₁.IsCell c v := fun {c v} n ⟨o, ho, hd⟩ => by
    obtain ⟨sl, q⟩ := un.any ho n (by simp)
    exact ⟨_, kp _ _ q, hd⟩
  have noA : ∀ b : Addr, b ∉ (lamCx X A outer s1 HZ E scope f c').ex := fun b z => absurd (show b ∈ ([] : List Addr) from z) (by simp)
  refine ⟨⟨e0.mod, L.kind, rfl, rfl, Nat.le_refl _, fun y z c e1 e2 => I.ok.inj y z c (cm e1) (cm e2), fun y hy => ?_, fun y c z _ => ?_, fun _ => hd, Around.frames_deeper e0.frames, .inr ⟨rfl, rfl⟩, fun b z => absurd z (noA b), e0.bs, e0.bsz, fun b _ _ => noA b,
      fun b z => absurd z (noA b), e0.funs, e0.frf⟩,
    rfl, e0.bare, Un.kept kp, ⟨_, hns, fun j y v' e1 e2 e3 => ?_⟩, fun y c e => ?_, e0.hok.fresh (Nat.le_refl _), fun y c e => ?_, fun q hq => absurd (show q ∈ ([] : List (Addr × Obj)) ++ [] from hq) (by simp), e0.hok.kept kp, by rw [List.length_set]; exact I.len⟩
  · have hy : scope.names.lookup y = some .cell ∨ scope.names.lookup y = some .free := hy
    rcases hy with hy | hy
    · exact absurd rfl (L.own _ (PySem.mem_of_lookup hy)).1
    · exact look hy
  · have z : false = true := z
    cases z
  · have e1 : X.N[j]? = some y := e1
    have e3 : Vis scope y := e3
    rcases e3 with k | k | k
    · have hy : y = x := (L.own _ (PySem.mem_of_lookup k)).2 rfl
      subst hy
      have hj : j = i := nodup_ix hN e1 hi
      subst hj
      have hlt : j < σ.length := by
        rw [I.len]
        exact (List.getElem?_eq_some_iff.mp e1).1
      rw [List.getElem?_set_self hlt] at e2
      cases e2
      refine ⟨u, hv, .inl ⟨k, ?_⟩⟩
      show List.lookup y [(y, u)] = some u
      simp [List.lookup]
    · exact absurd rfl (L.own _ (PySem.mem_of_lookup k)).1
    · have hyx : y ≠ x := fun z => by
        rw [z, L.par] at k
        cases k
      have hji : i ≠ j := fun z => by
        subst z
        rw [hi] at e1
        exact hyx (Option.some.inj e1).symm
      rw [List.getElem?_set_ne hji] at e2
      obtain ⟨m, hn, hl⟩ := I.loc
      have hvis : Vis X.env.scope y := (L.free _ (PySem.mem_of_lookup k) rfl).elim (fun k => .inr (.inl k)) (fun k => .inr (.inr k))
      obtain ⟨w', r, q⟩ := hl j y v' e1 e2 hvis
      obtain ⟨c2, h2⟩ := look k
      refine ⟨w', r, .inr ⟨.inr k, c2, h2, ?_⟩⟩
      have c1 := cm h2
      rcases q with ⟨k', _⟩ | ⟨_, c3, e', z⟩
      · have k' : X.env.scope.names.lookup y = some .local := k'
        rcases L.free _ (PySem.mem_of_lookup k) rfl with k2 | k2 <;> rw [show X.env.scope.names.lookup y = _ from k2] at k' <;> cases k'
      · rw [c1] at e'
        cases e'
        exact cellK (I.freeC y _ c1) z
  · obtain ⟨w', z⟩ := I.cell y c (cm e)
    exact ⟨w', cellK (I.freeC y c (cm e)) z⟩
  · obtain ⟨v, o, ho, hd⟩ := I.cell y c (cm e)
    exact un.free c o ho (I.freeC y c (cm e)) (by simp)
/-- x(e), in the def that got the lambda: Z is that def's context, entered at s -/
theorem pe_act1 {Ng : List Str} {qg : Str} {sg : Scope} {g f c' : Addr} {cdg pm ctv : Value} {params : Arguments} {body e : Expr} {scope : Scope} {k i ix : Nat} {a x : Str} {tb : TE} {ta : TA} {p1 p2 : Pos}
    (I : Inv X pins σ H s) (L : LamS1 X.env.scope scope x) (hXN : X.N.Nodup) (hx : X.N[ix]? = some x) (hf : s.heap.get? f = some (PySem.W.kla_obj "<lambda>" (X.env.qual ++ "<lambda>") params body scope (cloFrom X.env.cells scope.names []) pm c' ctv)) (hfn : H f = none) (hfr : f ∉ frs X.stack)
    (hbind : ∀ u, bindArgs (PySem.W.kla_fn "<lambda>" (X.env.qual ++ "<lambda>") params body scope (cloFrom X.env.cells scope.names []) pm (.ref c') ctv) ⟨[u], []⟩ = pure [(x, u)])
    (hr : Room (k + 1) (X.A.deeper (envOfC qg sg s.heap.objs.size g cdg)))
    (hbody : ∀ (A : Around) (outer : List Env) (s : Shared) (H : Hp), Room k (A.deeper (lamEnv X scope s.heap.objs.size f c')) → PE (lamCx X A outer s H C8.E0 scope f c').nox body tb)
    (hN : Ng[i]? = some a) (hv : Vis sg a) (ha : PA (cxOf C8.CX0 X.prog X.w X.K X.mg X.base Ng qg sg g cdg X.A X.stack s H C8.E0).nox [e] ta)
    (he : starEach [e] (cxOf C8.CX0 X.prog X.w X.K X.mg X.base Ng qg sg g cdg X.A X.stack s H C8.E0).nox.env = (false, eval e (cxOf C8.CX0 X.prog X.w X.K X.mg X.base Ng qg sg g cdg X.A X.stack s H C8.E0).nox.env) :: starEach [] (cxOf C8.CX0 X.prog X.w X.K X.mg X.base Ng qg sg g cdg X.A X.stack s H C8.E0).nox.env)
    (hd : (a == ("__debug__" : Str)) = false := by decide) (hcd : (a == ("__classdict__" : Str)) = false := by decide) :
    PE (cxOf C8.CX0 X.prog X.w X.K X.mg X.base Ng qg sg g cdg X.A X.stack s H C8.E0).nox (.Call (.Name a p1) [e] [] p2)
      (fun σZ HZ Q => σZ[i]? = some (some (.ref f)) ∧ ta σZ HZ fun vs H2 => ∃ v, vs = [v] ∧ H2 c' = some (CodeO c' (X.env.qual ++ "<lambda>")) ∧ tb (σ.set ix (some v)) H2 Q) := by
  refine ⟨fun pinsZ sZ σZ HZ Q IZ h => ?_⟩
  obtain ⟨hs, ht⟩ := h
  refine wpAny_Call_Name_kw (thn ((pe_var (pos := p1) (i := i) hN hv hd hcd).run pinsZ sZ σZ HZ (fun v H1 => v = .ref f ∧ H1 = HZ) IZ ⟨.ref f, hs, rfl, rfl⟩) fun u s1 ⟨v, H1, I1, r1, q1⟩ => ?_)
  obtain ⟨ev, eH⟩ := q1
  subst ev
  rw [eH] at I1
  obtain rfl : u = Value.ref f := r1
  have atF : ∀ {pins2 : List (Addr × Obj)} {σ2 : L2.St} {H2 : Hp} {s2 : Shared}, Inv (cxOf C8.CX0 X.prog X.w X.K X.mg X.base Ng qg sg g cdg X.A X.stack s H C8.E0).nox pins2 σ2 H2 s2 → s2.heap.get? f = some (PySem.W.kla_obj "<lambda>" (X.env.qual ++ "<lambda>") params body scope (cloFrom X.env.cells scope.names []) pm c' ctv) := fun I2 =>
    I2.base.keep f _ hf hfn hfr (fun z => nomatch (show f ∈ ([] : List Addr) from z))
  refine PySem.W.callWith_F ⟨_, _, _, _, atF I1⟩ (thn (ha.run p2 pinsZ s1 σZ HZ _ I1 ht) fun us s2 ⟨vs, H2, I2, r2, v, evs, hc, q2⟩ => ⟨⟨_, _, _, _, atF I2⟩, ?_⟩) he
  subst evs
  obtain ⟨u2, rfl, rv⟩ : ∃ u2, us = [u2] ∧ RelV v u2 := by
    cases r2 with
    | cons a b =>
      cases b
      exact ⟨_, rfl, a⟩
  have of1 := atF I2
  have un : Un (frs X.stack) [] H H2 s.heap s2.heap := I2.base
  obtain ⟨⟨oc, vs, t, hoc, hdc, hvc⟩, _, _⟩ := I2.hok c' _ hc
  have rc : codeAny (model X.prog X.w) (X.A.deeper (envOfC qg sg s.heap.objs.size g cdg)) (.call (.ref f) ⟨[u2], []⟩) (CR C8.CX0 (envOfC qg sg s.heap.objs.size g cdg :: X.stack) X.prog X.w H2 s2 Q C8.E0) s2 := by
    refine PySem.W.kla_callFunE hr.depth of1 rfl L.co L.gen rfl ⟨c', oc, vs, t, rfl, hoc, hdc, hvc⟩ ?_
    rw [hbind]
    refine wpAny_pure (wpAny_newFunctionEnv (fun y hy => (L.own y hy).1) (fun y hy => by rw [List.mem_singleton.mp hy]; exact L.par) (fun h₁ hns hsb => ⟨I2.nolimit.fresh _ hsb, ?_⟩) L.kind)
    show codeAny _ _ (.expr body (lamEnv X scope s2.heap.objs.size f c')) _ _
    have kp : ∀ b o, s2.heap.get? b = some o → h₁.get? b = some o := fun b o e => hsb.extBut b o (Nat.ne_of_lt (Heap.lt_size e)) (Heap.get?_push_of_some _ e)
    have J : Inv (lamCx X (X.A.deeper (envOfC qg sg s.heap.objs.size g cdg)) (envOfC qg sg s.heap.objs.size g cdg :: X.stack) s2 H2 C8.E0 scope f c') [] (σ.set ix (some v)) H2 { s2 with heap := h₁, toks := s2.toks + ([(x, u2)] : List (Str × Value)).length } :=
      lam_start1 I L hXN hx rv I2.env0 hr.hd un hns kp
    refine PySem.W.kla_codeExpr (wpAny_mono ((hbody _ _ s2 H2 (hr.deeper _)).run [] _ _ H2 Q (J.wish _) q2) (fun v s' hq => ?_) fun e s' hq => hq.elim)
    obtain ⟨w', H', J', rv, q⟩ := hq
    exact ⟨w', H', J'.os, J'.bare, J'.base, J'.hok, rv, q⟩
  refine wpAny_call (codeAny_mono rc fun r s' hq => ?_)
  cases r with
  | error e => exact (show False from hq).elim
  | ok fl =>
    cases fl with
    | ret u => exact I2.after hq
    | next => exact False.elim hq
    | brk => exact False.elim hq
    | cont => exact False.elim hq
end
/-- the table at P tells the code object of the place -/
def FullAt (P : Addr) (pos : Pos) (H : Hp) : Prop := ∃ ps : Array Value, H P = some (.tbl ps) ∧ (codeAmong pos ps.toList).isSome = true
theorem among_self {pos : Pos} {c : Value} (l : List Value) (h : TriplesOk l) : (codeAmong pos (l ++ [rawInt pos.line, rawInt pos.col, c])).isSome = true := by
  fun_induction TriplesOk l with
  | case1 =>
    simp [rawInt, codeAmong]
  | case2 a t b u x rest ih =>
    simp only [List.cons_append, codeAmong]
    split
    · rfl
    · exact ih h
  | case3 l h1 h2 => exact h.elim
/-- HandS's lam_make2, all but the table told to stay -/
theorem lam_make4 {X : Cx} {pins : List (Addr × Obj)} {σ : L2.St} {H : Hp} {s : Shared} {T : List (Addr × Str)} {c P : Addr} {params : Arguments} {body : Expr} {scope : Scope} {pos : Pos} {E : Value → Shared → Prop} {Q : Value → Shared → Prop} (I : Inv X pins σ H s) (TB : TabB X.base X.mg c P) (hcode : X.env.code = .ref c)
    (hm : (P, X.env.qual ++ "<lambda>") ∈ T) (hu : ∀ p ∈ T, p.1 = P → p.2 = X.env.qual ++ "<lambda>") (hT : Tabs T H) (hdef : defaultsOf params X.env = ([], [])) (hfree : ∀ y ∈ scope.names, y.2 = .free → ∃ c, X.env.cells.lookup y.1 = some c)
    (h : ∀ (f c' : Addr) (pm ctv : Value) (H1 : Hp) (s' : Shared), s.heap.objs.size ≤ f → FullAt P pos H1 → (FullAt P pos H → H1 = H) → Inv X pins σ H1 s' → ButP P H H1 → Tabs T H1 →
      s'.heap.get? f = some (PySem.W.kla_obj "<lambda>" (X.env.qual ++ "<lambda>") params body scope (cloFrom X.env.cells scope.names []) pm c' ctv) → H1 f = none → f ∉ frs X.stack → H1 c' = some (CodeO c' (X.env.qual ++ "<lambda>")) → Q (.ref f) s') :
    wpAny (model X.prog X.w) X.A (eval (.Lambda params body scope pos) X.env) Q E s := by
  obtain ⟨ps, hP, ht, ha⟩ := hT _ hm
  refine PySem.W.kla_eval hdef ?_
  have bP : s.heap.BuiltinsAt X.mg P := TB.bm.keeps I.bk
  have hP' : s.heap.get? P = some { cls := .none, data := .fields ps } := I.hok P _ hP
  have nofr : ∀ f, s.heap.objs.size ≤ f → f ∉ frs X.stack := fun f hf z => by
    rcases List.mem_cons.mp (I.stkSub _ z) with e | e
    · have h1 := I.lt
      rw [← e] at h1
      exact Nat.lt_irrefl _ (Nat.lt_of_lt_of_le h1 hf)
    · exact I.nofs hf e
  cases hc : codeAmong pos ps.toList with
  | none =>
    refine PySem.W.kla_makeFunction (mg := X.mg) (c := c) (P := P) (ps := ps) (closure_ok hfree) I.ok.glob (I.mod.glob.keeps I.bk) hcode (TB.code.keeps I.bk) hP' ht hc TB.gP bP fun c' ctv h' tk hx hge hlt hrec htb => ?_
    obtain ⟨c2, oc, vs, t, e2, hoc, hd, hv⟩ := hrec
    cases e2
    have hsz : s.heap.objs.size ≤ h'.objs.size := Nat.le_trans hge (Nat.le_of_lt hlt)
    have nC : H c' = none := I.hok.fresh hge
    have I1 := inv_table (t' := tk) (more := #[rawInt pos.line, rawInt pos.col, .ref c']) (h' := h'.push (PySem.W.kla_obj "<lambda>" (X.env.qual ++ "<lambda>") params body scope (cloFrom X.env.cells scope.names []) ((X.mg "__name__").getD .none) c' ctv)) I hP
      (fun b o hb e => Heap.get?_push_of_some _ (hx b o hb e)) (Heap.get?_push_of_some _ htb) hge ⟨oc, vs, t, Heap.get?_push_of_some _ hoc, hd, hv⟩
    have hB : ButP P H (upd (upd H P (.tbl (ps ++ #[rawInt pos.line, rawInt pos.col, .ref c']))) c' (CodeO c' (X.env.qual ++ "<lambda>"))) := fun b o n e => by
      rw [upd_ne (ne_of_none e nC), upd_ne n]
      exact e
    have hE : ExtN H (upd (upd H P (.tbl (ps ++ #[rawInt pos.line, rawInt pos.col, .ref c']))) c' (CodeO c' (X.env.qual ++ "<lambda>"))) := fun b o e n => by
      rw [upd_ne (ne_of_none e nC), upd_ne (fun z => n ps (Option.some.inj (e.symm.trans (by rw [z]; exact hP))))]
      exact e
    have eL : (ps ++ #[rawInt pos.line, rawInt pos.col, .ref c']).toList = ps.toList ++ [rawInt pos.line, rawInt pos.col, .ref c'] := by simp
    refine h h'.objs.size c' ((X.mg "__name__").getD .none) ctv _ _ hsz ⟨_, by rw [upd_ne (ne_of_none hP nC), upd_same], by rw [eL]; exact among_self _ ht⟩ (fun ⟨ps2, e1, e2⟩ => by
      rw [hP] at e1
      cases e1
      rw [hc] at e2
      cases e2) I1 hB (fun p hp => ?_) (Heap.get?_push_size _ rfl) ?_ (nofr _ hsz) upd_same
    · by_cases hb : p.1 = P
      · rw [hu p hp hb, hb]
        refine ⟨_, by rw [upd_ne (ne_of_none hP nC), upd_same], by rw [eL]; exact PySem.TriplesOk_snoc _ _ _ _ ht, fun p' cv hcv => ?_⟩
        rw [eL] at hcv
        rcases among_app _ ht hcv with z | z
        · obtain ⟨c0, e1, e2⟩ := ha p' cv z
          exact ⟨c0, e1, hE _ _ e2 codeO_ne⟩
        · exact ⟨c', z, upd_same⟩
      · obtain ⟨ps', a1, a2, a3⟩ := hT p hp
        refine ⟨ps', by rw [upd_ne (ne_of_none a1 nC), upd_ne hb]; exact a1, a2, fun p' cv hcv => ?_⟩
        obtain ⟨c0, e1, e2⟩ := a3 p' cv hcv
        exact ⟨c0, e1, hE _ _ e2 codeO_ne⟩
    · have n1 : h'.objs.size ≠ c' := Nat.ne_of_gt hlt
      have n2 : h'.objs.size ≠ P := Nat.ne_of_gt (Nat.lt_of_lt_of_le (Heap.lt_size hP') hsz)
      rw [upd_ne n1, upd_ne n2]
      exact I.hok.fresh hsz
  | some cv =>
    obtain ⟨c', e, hco⟩ := ha pos cv hc
    subst e
    refine PySem.W.kla_makeFunctionHit (mg := X.mg) (c := c) (P := P) (ps := ps) (closure_ok hfree) I.ok.glob (I.mod.glob.keeps I.bk) hcode (TB.code.keeps I.bk) hP' ht hc bP fun ctv h' tk hx hsz => ?_
    have I1 : Inv X pins σ H { s with heap := h'.push (PySem.W.kla_obj "<lambda>" (X.env.qual ++ "<lambda>") params body scope (cloFrom X.env.cells scope.names []) ((X.mg "__name__").getD .none) c' ctv), toks := tk } := I.kept fun b o e => Heap.get?_push_of_some _ (hx b o e)
    exact h h'.objs.size c' ((X.mg "__name__").getD .none) ctv H _ hsz ⟨ps, hP, by rw [hc]; rfl⟩ (fun _ => rfl) I1 (fun _ _ _ e => e) hT (Heap.get?_push_size _ rfl) (I.hok.fresh hsz) (nofr _ hsz) hco
theorem lam_make3 {X : Cx} {pins : List (Addr × Obj)} {σ : L2.St} {H : Hp} {s : Shared} {T : List (Addr × Str)} {c P : Addr} {params : Arguments} {body : Expr} {scope : Scope} {pos : Pos} {E : Value → Shared → Prop} {Q : Value → Shared → Prop} (I : Inv X pins σ H s) (TB : TabB X.base X.mg c P) (hcode : X.env.code = .ref c)
    (hm : (P, X.env.qual ++ "<lambda>") ∈ T) (hu : ∀ p ∈ T, p.1 = P → p.2 = X.env.qual ++ "<lambda>") (hT : Tabs T H) (hdef : defaultsOf params X.env = ([], [])) (hfree : ∀ y ∈ scope.names, y.2 = .free → ∃ c, X.env.cells.lookup y.1 = some c)
    (h : ∀ (f c' : Addr) (pm ctv : Value) (H1 : Hp) (s' : Shared), Inv X pins σ H1 s' → ButP P H H1 → Tabs T H1 →
      s'.heap.get? f = some (PySem.W.kla_obj "<lambda>" (X.env.qual ++ "<lambda>") params body scope (cloFrom X.env.cells scope.names []) pm c' ctv) → H1 f = none → f ∉ frs X.stack → H1 c' = some (CodeO c' (X.env.qual ++ "<lambda>")) → Q (.ref f) s') :
    wpAny (model X.prog X.w) X.A (eval (.Lambda params body scope pos) X.env) Q E s :=
  lam_make4 I TB hcode hm hu hT hdef hfree fun f c' pm ctv H1 s' _ _ _ I1 b t a1 a2 a3 a4 => h f c' pm ctv H1 s' I1 b t a1 a2 a3 a4
/-- the def that calls what it got as its second: TT: what it makes of the first and of the lambda's reading -/
def GivesTo1 (X : Cx) (Ng : List Str) (x : Str) (sg : Scope) (g : Addr) (cdg : Value) (bg : List Stmt) (a : Str) (q : Str) (k : Nat) (TT : V → (V → Hp → VK → Prop) → Hp → VK → Prop) : Prop :=
  ∀ (f c' : Addr) (s : Shared) (H : Hp) (Q : VK) (v1 : V) (tl : V → Hp → VK → Prop),
    Room k (X.A.deeper (envOfC x sg s.heap.objs.size g cdg)) →
    (∀ (e : Expr) (ta : TA) (p1 p2 : Pos), PA (cxOf C8.CX0 X.prog X.w X.K X.mg X.base Ng x sg g cdg X.A X.stack s H C8.E0).nox [e] ta →
      starEach [e] (cxOf C8.CX0 X.prog X.w X.K X.mg X.base Ng x sg g cdg X.A X.stack s H C8.E0).nox.env = (false, eval e (cxOf C8.CX0 X.prog X.w X.K X.mg X.base Ng x sg g cdg X.A X.stack s H C8.E0).nox.env) :: starEach [] (cxOf C8.CX0 X.prog X.w X.K X.mg X.base Ng x sg g cdg X.A X.stack s H C8.E0).nox.env →
      PE (cxOf C8.CX0 X.prog X.w X.K X.mg X.base Ng x sg g cdg X.A X.stack s H C8.E0).nox (.Call (.Name a p1) [e] [] p2) (fun σZ HZ Q => σZ[1]? = some (some (.ref f)) ∧ ta σZ HZ fun vs H2 => ∃ v, vs = [v] ∧ H2 c' = some (CodeO c' q) ∧ tl v H2 Q)) →
    H c' = some (CodeO c' q) → TT v1 tl H Q →
    ∃ t, PSs (cxOf C8.CX0 X.prog X.w X.K X.mg X.base Ng x sg g cdg X.A X.stack s H C8.E0).nox bg t ∧ t { nx := fun _ H' => Q .non H', rt := Q } (L2.start Ng [v1, .ref f]) H
def tLam1 (P : Addr) (T : List (Addr × Str)) (TT : V → (V → Hp → VK → Prop) → Hp → VK → Prop) (ix : Nat) (ta t : TE) : TE := fun σ H Q => ta σ H fun v1 H0 => Tabs T H0 ∧ ∀ H1, ButP P H0 H1 → Tabs T H1 → TT v1 (fun v H' Q' => t (σ.set ix (some v)) H' Q') H1 Q
/-- x(e, lambda y: body) -/
theorem pe_lamcall1 {X : Cx} {T : List (Addr × Str)} {TT : V → (V → Hp → VK → Prop) → Hp → VK → Prop} {x a b y : Str} {g c P : Addr} {k ix : Nat} {pg : Arguments} {bg : List Stmt} {sg : Scope} {dV kV doc pm cdv ct oc : Value} {an od : Option Addr} {osl : Array (Option Value)} {Ng : List Str}
    {params : Arguments} {e body : Expr} {scope : Scope} {ta t : TE} {p lpos pos : Pos} (hg : Gl X x) (hm : X.mg x = some (.ref g)) (hk : PySem.W.keepIn X.K (.ref g) = true)
    (lk : X.K.lookup g = some ⟨oc, od, .func (PySem.W.fnOf x x pg bg sg dV kV doc pm an cdv ct), osl⟩) (hcg : PySem.W.codeIn X.K cdv x = true) (hb : L2.Binds X.K (PySem.W.fnOf x x pg bg sg dV kV doc pm an cdv ct) [b, a] []) (Sg : FnScope Ng [b, a] sg) (hNg : Ng[1]? = some a) (hva : Vis sg a)
    (hG : GivesTo1 X Ng x sg g cdv bg a (X.env.qual ++ "<lambda>") (k + 1) TT)
    (TB : TabB X.base X.mg c P) (hcode : X.env.code = .ref c) (hmT : (P, X.env.qual ++ "<lambda>") ∈ T) (hu : ∀ p ∈ T, p.1 = P → p.2 = X.env.qual ++ "<lambda>") (hr : Room (k + 2) X.A) (L : LamS1 X.env.scope scope y) (hXN : X.N.Nodup) (hx : X.N[ix]? = some y) (hdef : defaultsOf params X.env = ([], []))
    (hbind : ∀ (q : Str) (cl : List (Str × Addr)) (pm cv ctv u : Value), bindArgs (PySem.W.kla_fn "<lambda>" q params body scope cl pm cv ctv) ⟨[u], []⟩ = pure [(y, u)])
    (he : PE X e ta) (hbody : ∀ (A : Around) (outer : List Env) (s : Shared) (H : Hp) (f c' : Addr), Room k (A.deeper (lamEnv X scope s.heap.objs.size f c')) → PE (lamCx X A outer s H C8.E0 scope f c').nox body t)
    (hs : starEach [e, .Lambda params body scope lpos] X.env = (false, eval e X.env) :: starEach [.Lambda params body scope lpos] X.env := by rfl)
    (hdb : (x == ("__debug__" : Str)) = false := by decide) (hd : (a == ("__debug__" : Str)) = false := by decide) (hcd : (a == ("__classdict__" : Str)) = false := by decide) :
    PE X (.Call (.Name x p) [e, .Lambda params body scope lpos] [] pos) (tLam1 P T TT ix ta t) := by
  refine ⟨fun pins s σ H Q I h => ?_⟩
  refine wpAny_Call_Name_kw (ld_glob I hg hm ?_ hdb)
  refine PySem.W.callWith_K (h₀ := X.base) I.ok.mod.kin hk ?_ hs (by rfl)
  rw [hs]
  show wpAny _ _ (spliced ((false, eval e X.env) :: backTo pos (starEach [.Lambda params body scope lpos] X.env))) _ _ s
  refine Calls.spliced_cons (thn (he.run pins s σ H _ I h) fun u1 s0 ⟨v1, H0, I0, r1, hT, h1⟩ => ?_)
  show wpAny _ _ (spliced ((false, eval (.Lambda params body scope lpos) X.env) :: backTo pos (starEach [] X.env))) _ _ s0
  refine Calls.spliced_cons (lam_make3 I0 TB hcode hmT hu hT hdef (L.has I0.ok) fun f c' pm' ctv H1 s' I1 eN T1 hf hfn hfr hco => ?_)
  refine Calls.spliced_nil ⟨I1.kIn, ?_⟩
  have rc : codeAny (model X.prog X.w) X.A (.call (.ref g) ⟨[u1, .ref f], []⟩) (CR C8.CX0 X.stack X.prog X.w H1 s' Q C8.E0) s' := by
    refine run_ofS (N := Ng) (ps := [b, a]) (us := [u1, .ref f]) (vs := [v1, .ref f]) lk hcg Sg hr I1.env0 (hb s' [u1, .ref f] I1.kIn rfl) (.cons r1 (.cons rfl .nil)) rfl fun hr' => ?_
    obtain ⟨t', ht', hq'⟩ := hG f c' s' H1 Q v1 (fun v H' Q' => t (σ.set ix (some v)) H' Q') hr' (fun e2 ta2 p1 p2 ha2 he2 => pe_act1 (i := 1) I1 L hXN hx hf hfn hfr (hbind _ _ _ _ _) hr' (fun A outer s H hr2 => hbody A outer s H f c' hr2) hNg hva ha2 he2 hd hcd) hco (h1 H1 eN T1)
    exact ⟨t', ht'.nox, hq'⟩
  refine wpAny_call (codeAny_mono rc fun r s2 hq => ?_)
  cases r with
  | error e => exact (show False from hq).elim
  | ok fl =>
    cases fl with
    | ret u => exact I1.after hq
    | next => exact False.elim hq
    | brk => exact False.elim hq
    | cont => exact False.elim hq
end

/-! ### the law's own helpers -/
structure Bi (mg : Str → Option Value) : Prop where
  len : mg "len" = none
  range : mg "range" = none
  isinstance : mg "isinstance" = none
  int : mg "int" = none
  str : mg "str" = none
  bool : mg "bool" = none
  list : mg "list" = none
  tuple : mg "tuple" = none
  dict : mg "dict" = none
  sum : mg "sum" = none
  max : mg "max" = none
  min : mg "min" = none
  abs : mg "abs" = none
  sorted : mg "sorted" = none
  enumerate : mg "enumerate" = none
  zip : mg "zip" = none
  set : mg "set" = none
local macro_rules | `(tactic| walk_at "ev") => `(tactic| repeat' (first
  | exact ev_int | exact ev_bl | exact ev_str | exact ev_non | exact ev_ty | exact ev_var rfl
  | refine ev_add ?_ ?_ | refine ev_sub ?_ ?_ | refine ev_mul ?_ ?_ ?_ | refine ev_mulW ?_ ?_ ?_ | refine ev_fdiv ?_ ?_ ?_ | refine ev_fdivW ?_ ?_ ?_ | refine ev_mod ?_ ?_ ?_ | refine ev_neg ?_
  | refine ev_lt ?_ ?_ | refine ev_le ?_ ?_ | refine ev_gt ?_ ?_ | refine ev_ge ?_ ?_
  | refine ev_eqI ?_ ?_ | refine ev_neI ?_ ?_ | refine ev_isN ?_ | refine ev_notN ?_
  | refine ea_cons ?_ ?_ | exact ea_nil
  | refine ev_intI ?_ | refine ev_abs ?_ | refine ev_max2 ?_ ?_ | refine ev_min2 ?_ ?_
  | refine et_test ?_ | refine et_B ?_))
/-- no raw values, a bounded depth -/
def plain : Nat → D → Bool
  | 0, _ => false
  | _ + 1, .non => true
  | _ + 1, .bl _ => true
  | _ + 1, .int _ => true
  | _ + 1, .str _ => true
  | n + 1, .tup ds => decide (ds.length ≤ 1000000) && ds.all (plain n)
  | n + 1, .lst ds => decide (ds.length ≤ 1000000) && ds.all (plain n)
  | _ + 1, .raw _ => false
  | _ + 1, .dk _ _ => false
  | _ + 1, .dt _ _ => false
theorem plain_raw {n : Nat} {d : D} (h : plain n d = true) : isRaw d = false := by
  cases n with
  | zero => cases h
  | succ n => cases d <;> first | rfl | cases h
theorem plain_seq {n : Nat} {d : D} {es : List D} (h : plain (n + 1) d = true) (e : seqOf d = some es) : es.length ≤ 1000000 ∧ ∀ x ∈ es, plain n x = true := by
  cases d <;> first | (cases e; done) | skip
  all_goals
    cases e
    simp only [plain, Bool.and_eq_true, decide_eq_true_eq, List.all_eq_true] at h
    exact h
def RSame (n : Nat) : List D → D → Prop := fun ds r => ∃ d, ds = [d, d] ∧ plain n d = true ∧ r = .bl true
section
variable {P : Program} {w : World} {K : PySem.W.Frag} {mg : Str → Option Value} {base : Heap}
theorem atI_ofNat {α : Type} {xs : List α} {i : Nat} {x : α} (h : xs[i]? = some x) : L2.atI xs (i : Int) = some x := by
  have hi : i < xs.length := (List.getElem?_eq_some_iff.mp h).1
  unfold L2.atI L2.ixN
  rw [if_pos (by omega), if_pos (by omega)]
  exact h
theorem sc__law_same : FnScope ["actual", "due", "k"] ["actual", "due"] (defScope s__law_same) := ⟨rfl, rfl, rfl, by decide +kernel, rfl, by decide +kernel, by decide +kernel⟩
theorem ok__law_same (B : Bi mg) {f : Addr} {fd : FuncData} (F : Fun K "_law_same" "_law_same" s__law_same f fd) (L__law_same : Lk K mg "_law_same" f fd ["actual", "due"]) : ∀ n : Nat, FnOk P w K mg base CX0 n f fd ["actual", "due"] (SpD K 2 (RSame n))
  | 0 => by
    have no : ∀ vs H Q E, ¬ SpD K 2 (RSame 0) vs H Q E := fun vs H Q E h => by
      obtain ⟨_, _, _, _, _, _, ⟨_, _, h, _⟩, _⟩ := h
      cases h
    exact ⟨fun vs H Q E h => absurd h (no vs H Q E), fun A outer s H args us vs Q E _ _ _ _ h => absurd h (no vs H Q E)⟩
  | n + 1 => by
    have G__law_same : FnOk P w K mg base CX0 n f fd ["actual", "due"] (SpD K 2 (RSame n)) := ok__law_same B F L__law_same n
    have S := sc__law_same
    refine fn_ok F S rfl 1 rfl fun cdv A outer s H E hr => ⟨_, ((pss_cons (ps_if (PW.pt (pw_or (pt_val (pe_callB call_isi (by rfl) B.isinstance (by decide +kernel) (pa_cons (pv 1) (pa_cons (pe_ty (n := "tuple") B.tuple (by decide +kernel)) pa_nil)))) (pw_or1 (pt_val (pe_callB call_isi (by rfl) B.isinstance (by decide +kernel) (pa_cons (pv 1) (pa_cons (pe_ty (n := "list") B.list (by decide +kernel)) pa_nil)))))))
 (pss_cons (ps_if (PW.pt (pw_or (pt_cmpR op_ne (pe_callB call_isi (by rfl) B.isinstance (by decide +kernel) (pa_cons (pv 1) (pa_cons (pe_ty (n := "tuple") B.tuple (by decide +kernel)) pa_nil))) (pe_callB call_isi (by rfl) B.isinstance (by decide +kernel) (pa_cons (pv 0) (pa_cons (pe_ty (n := "tuple") B.tuple (by decide +kernel)) pa_nil))) (nomark _)) (pw_or1 (pt_cmpR op_ne (pe_callB call_isi (by rfl) B.isinstance (by decide +kernel) (pa_cons (pv 1) (pa_cons (pe_ty (n := "list") B.list (by decide +kernel)) pa_nil))) (pe_callB call_isi (by rfl) B.isinstance (by decide +kernel) (pa_cons (pv 0) (pa_cons (pe_ty (n := "list") B.list (by decide +kernel)) pa_nil))) (nomark _)))))
 (pss_one (ps_ret pe_bl))
 pss_nil)
 (pss_cons (ps_if (pt_cmpR op_ne (pe_callB c_len (by rfl) B.len (by decide +kernel) (pa_cons (pv 0) pa_nil)) (pe_callB c_len (by rfl) B.len (by decide +kernel) (pa_cons (pv 1) pa_nil)) (nomark _))
 (pss_one (ps_ret pe_bl))
 pss_nil)
 (pss_cons (ps_for PassesOwn.never rfl (pi_range1 (by rfl) B.range (pa_cons (pe_callB c_len (by rfl) B.len (by decide +kernel) (pa_cons (pv 1) pa_nil)) pa_nil)) (pg_name (i := 2) S.nd rfl (by first | exact Or.inl rfl | exact Or.inr rfl))
 (pss_one (ps_if (pt_not (pt_val (pe_call G__law_same (hr.mono (by first | exact Nat.le_refl _ | decide | omega)) (by rfl) L__law_same.m L__law_same.kp L__law_same.bi .nil pass0 (pa_cons (pe_ix ix_seq (pv 0) (pv 2) (fun _ _ => rfl)) (pa_cons (pe_ix ix_seq (pv 1) (pv 2) (fun _ _ => rfl)) pa_nil)))))
 (pss_one (ps_ret pe_bl))
 pss_nil)))
 (pss_one (ps_ret pe_bl)))))
 pss_nil)
 (pss_cons (ps_if (pt_cmpR op_isN1 (pv 1) pe_non (nomark _))
 (pss_one (ps_ret (pe_cmpR op_isN1 (pv 0) pe_non (nomark _))))
 pss_nil)
 (pss_cons (ps_if (pt_val (pe_callB call_isi (by rfl) B.isinstance (by decide +kernel) (pa_cons (pv 1) (pa_cons (pe_ty (n := "bool") B.bool (by decide +kernel)) pa_nil))))
 (pss_one (ps_ret (pe_and (pe_callB call_isi (by rfl) B.isinstance (by decide +kernel) (pa_cons (pv 0) (pa_cons (pe_ty (n := "bool") B.bool (by decide +kernel)) pa_nil))) (pe_one (pe_cmpR op_eq (pv 0) (pv 1) (nomark _))))))
 pss_nil)
 (pss_cons (ps_if (pt_val (pe_callB call_isi (by rfl) B.isinstance (by decide +kernel) (pa_cons (pv 1) (pa_cons (pe_ty (n := "int") B.int (by decide +kernel)) pa_nil))))
 (pss_one (ps_ret (pe_and (pe_callB call_isi (by rfl) B.isinstance (by decide +kernel) (pa_cons (pv 0) (pa_cons (pe_ty (n := "int") B.int (by decide +kernel)) pa_nil))) (pe_and (pe_not (pe_callB call_isi (by rfl) B.isinstance (by decide +kernel) (pa_cons (pv 0) (pa_cons (pe_ty (n := "bool") B.bool (by decide +kernel)) pa_nil)))) (pe_one (pe_cmpR op_eq (pv 0) (pv 1) (nomark _)))))))
 pss_nil)
 (pss_one (ps_ret (pe_and (pe_callB call_isi (by rfl) B.isinstance (by decide +kernel) (pa_cons (pv 0) (pa_cons (pe_ty (n := "str") B.str (by decide +kernel)) pa_nil))) (pe_one (pe_cmpR op_eq (pv 0) (pv 1) (nomark _))))))))))), fun φ ds d H D0 σ hl hR hrt hnx A => ?_⟩
    obtain ⟨d, rfl, hp, rfl⟩ := hR
    replace A : At K φ (Same H) [some d, some d, none] σ H := A
    have hraw := plain_raw hp
    have isi : ∀ {ρ : List (Option D)} {J : Hp → Prop} {i : Nat} {n : String}, ρ[i]? = some (some d) → n ∈ (["tuple", "list", "bool", "int", "str", "dict"] : List String) → EvD K φ J (tCB (rIsi K) (tCons (tVar i) (tCons (tC (.ty n)) tNil))) ρ (.bl (isT n d)) := fun h hn => ev_isi (ev_var h) ev_ty hraw hn
    refine q ?_
    refine st_if A (et_or (et_B (isi rfl (by simp))) fun _ => et_B (isi rfl (by simp))) (fun hb H1 A1 => ?_) (fun hb H1 A1 => ?_)
    · -- a tuple or a list
      obtain ⟨es, hes⟩ : ∃ es, seqOf d = some es := by
        cases d <;> first | exact ⟨_, rfl⟩ | (simp [isT, tyD] at hb)
      obtain ⟨hlen, hpl⟩ := plain_seq hp hes
      refine q ?_
      refine st_no A1 (et_or (et_test (ev_neB (isi rfl (by simp)) (isi rfl (by simp)))) fun _ => et_test (ev_neB (isi rfl (by simp)) (isi rfl (by simp)))) (by simp) fun H2 A2 => ?_
      refine q ?_
      refine st_no A2 (et_test (ev_neI (ev_lenQ (ev_var rfl) hes) (ev_lenQ (ev_var rfl) hes))) (by simp) fun H3 A3 => ?_
      refine q ?_
      refine st_for A3 (it_range1 (ea_cons (ev_lenQ (ev_var rfl) hes) ea_nil) (by omega)) (fun i ρ' J' => (∃ o, ρ' = [some d, some d, o]) ∧ J' = Same H) ⟨⟨none, rfl⟩, rfl⟩ ?_ ?_
      · rintro H4 i x ρ' J' b4 j4 hx ⟨⟨o, rfl⟩, rfl⟩ σ' H' A5
        rw [rangeD_get] at hx
        have hi : i < es.length := by
          by_cases h : i < (es.length : Int).toNat
          · omega
          · rw [if_neg h] at hx; cases hx
        rw [if_pos (by omega)] at hx
        cases hx
        have hxi : L2.atI es (0 + (i : Int)) = some es[i] := by
          rw [Int.zero_add]
          exact atI_ofNat (List.getElem?_eq_getElem hi)
        have A5' : At K φ (fun H_1 => Same H H_1 ∧ But φ H4 H_1) [some d, some d, some (.int (0 + (i : Int)))] σ' H' := A5
        refine st_no A5' (et_not (et_B (ev_callD (ea_cons (ev_ixQ (ev_var rfl) hes (ev_var rfl) hxi) (ea_cons (ev_ixQ (ev_var rfl) hes (ev_var rfl) hxi) ea_nil)) ⟨es[i], rfl, hpl _ (List.getElem_mem hi), rfl⟩))) rfl fun H6 A6 => ?_
        exact ⟨_, _, ⟨⟨_, rfl⟩, rfl⟩, A6⟩
      · rintro H4 ρ' J' σ' H' b4 j4 ⟨⟨o, rfl⟩, rfl⟩ A5
        exact st_ret A5 ev_bl fun v d' H6 e A6 r => hrt v H6 A6.j.1 (e ▸ r)
    · refine st_next ?_
      have hnt : isT "tuple" d = false ∧ isT "list" d = false := by
        exact Bool.or_eq_false_iff.mp hb.symm
      refine q ?_
      refine st_if A1 (et_test (ev_isN (ev_var rfl))) (fun hn H2 A2 => ?_) (fun hn H2 A2 => ?_)
      · exact st_ret A2 (ev_isN (ev_var rfl)) fun v d' H6 e A6 r => hrt v H6 A6.j (by rw [e, ← hn] at r; exact r)
      · refine st_next (q ?_)
        refine st_if A2 (et_B (isi rfl (by simp))) (fun hB H3 A3 => ?_) (fun hB H3 A3 => ?_)
        · obtain ⟨b, rfl⟩ : ∃ b, d = .bl b := by
            cases d <;> first | exact ⟨_, rfl⟩ | (simp [isT, tyD] at hB)
          exact st_ret A3 (ev_andV (isi rfl (by simp)) fun _ => ev_one (ev_eqB (ev_var rfl) (ev_var rfl))) fun v d' H6 e A6 r => hrt v H6 A6.j (by rw [e, ← hB] at r; simpa using r)
        · refine st_next (q ?_)
          refine st_if A3 (et_B (isi rfl (by simp))) (fun hI H4 A4 => ?_) (fun hI H4 A4 => ?_)
          · obtain ⟨b, rfl⟩ : ∃ b, d = .int b := by
              cases d <;> first | exact ⟨_, rfl⟩ | (simp [isT, tyD] at hI hB)
            exact st_ret A4 (ev_andV (isi rfl (by simp)) fun _ => ev_andV (ev_notV (isi rfl (by simp))) fun _ => ev_one (ev_eqI (ev_var rfl) (ev_var rfl))) fun v d' H6 e A6 r => hrt v H6 A6.j (by rw [e, ← hI, ← hB] at r; simpa using r)
          · refine st_next ?_
            obtain ⟨b, rfl⟩ : ∃ b, d = .str b := by
              cases d <;> first | exact ⟨_, rfl⟩ | (cases hraw; done) | (cases hp; done) | (simp [isT, tyD, isNon] at hI hB hnt hn)
            exact st_ret A4 (ev_andV (isi rfl (by simp)) fun _ => ev_one (ev_eqS (ev_var rfl) (ev_var rfl))) fun v d' H6 e A6 r => hrt v H6 A6.j (by rw [e] at r; simpa [isT, tyD] using r)
end
/-! ### spread, pool, draw -/
section
variable {P : Program} {w : World} {K : PySem.W.Frag} {mg : Str → Option Value} {base : Heap}
def spreadN (c : Int) : Nat → Int × Int
  | 0 => (c % 2147483647, 1)
  | n + 1 => (((spreadN c n).1 * 48271 + 12345 + (0 + (n : Int))) % 2147483647, (spreadN c n).2 * 2147483647 + ((spreadN c n).1 * 48271 + 12345 + (0 + (n : Int))) % 2147483647)
theorem spreadN_lt (c : Int) : ∀ n, 0 ≤ (spreadN c n).1 ∧ (spreadN c n).1 < 2147483647
  | 0 => ⟨Int.emod_nonneg _ (by decide), Int.emod_lt_of_pos _ (by decide)⟩
  | n + 1 => ⟨Int.emod_nonneg _ (by decide), Int.emod_lt_of_pos _ (by decide)⟩
def RSpread : List D → D → Prop := fun ds r => ∃ c : Int, ds = [.int c] ∧ r = .int (spreadN c 4).2
theorem sc__law_spread : FnScope ["cell", "mixed", "total", "k"] ["cell"] (defScope s__law_spread) := ⟨rfl, rfl, rfl, by decide +kernel, rfl, by decide +kernel, by decide +kernel⟩
theorem ok__law_spread (B : Bi mg) {f : Addr} {fd : FuncData} (F : Fun K "_law_spread" "_law_spread" s__law_spread f fd) : FnOk P w K mg base CX0 1 f fd ["cell"] (SpD K 1 RSpread) := by
  have S := sc__law_spread
  refine fn_ok F S rfl 3 rfl fun cdv A outer s H E hr => ⟨_, ((pss_cons (ps_set (i := 1) S.nd rfl (by first | exact Or.inl rfl | exact Or.inr rfl) (pe_op op_mod (pe_callTy c_int1 (by rfl) B.int (by decide +kernel) (pa_cons (pv 0) pa_nil)) pe_int))
 (pss_cons (ps_set (i := 2) S.nd rfl (by first | exact Or.inl rfl | exact Or.inr rfl) pe_int)
 (pss_cons (ps_for PassesOwn.never rfl (pi_range1 (by rfl) B.range (pa_cons pe_int pa_nil)) (pg_name (i := 3) S.nd rfl (by first | exact Or.inl rfl | exact Or.inr rfl))
 (pss_cons (ps_set (i := 1) S.nd rfl (by first | exact Or.inl rfl | exact Or.inr rfl) (pe_op op_mod (pe_callTy c_int1 (by rfl) B.int (by decide +kernel) (pa_cons (pe_op op_add (pe_op op_add (pe_op op_mul (pv 1) pe_int) pe_int) (pv 3)) pa_nil)) pe_int))
 (pss_one (ps_set (i := 2) S.nd rfl (by first | exact Or.inl rfl | exact Or.inr rfl) (pe_op op_add (pe_op op_mul (pv 2) pe_int) (pv 1))))))
 (pss_one (ps_ret (pv 2))))))), fun φ ds d H D0 σ hl hR hrt hnx A => ?_⟩
  obtain ⟨c, rfl, rfl⟩ := hR
  replace A : At K φ (Same H) [some (.int c), none, none, none] σ H := A
  refine q (st_set A (ev_mod (ev_intI (ev_var rfl)) ev_int (by decide)) fun σ1 H1 A1 => q (st_set A1 ev_int fun σ2 H2 A2 => q ?_))
  refine st_for A2 (it_range1 (ea_cons ev_int ea_nil) (by decide)) (fun i ρ' J' => (∃ o, ρ' = [some (.int c), some (.int (spreadN c i).1), some (.int (spreadN c i).2), o]) ∧ J' = Same H) ⟨⟨none, rfl⟩, rfl⟩ ?_ ?_
  · rintro H4 i x ρ' J' b4 j4 hx ⟨⟨o, rfl⟩, rfl⟩ σ' H' A5
    rw [rangeD_get] at hx
    split at hx
    · cases hx
      have h := spreadN_lt c i
      refine q (st_set A5 (ev_mod (ev_intI (ev_add (ev_add (ev_mul (ev_var rfl) ev_int (.inl (by omega))) ev_int) (ev_var rfl))) ev_int (by decide)) fun σ6 H6 A6 => ?_)
      refine st_set A6 (ev_add (ev_mul (ev_var rfl) ev_int (.inr (by decide))) (ev_var rfl)) fun σ7 H7 A7 => ?_
      exact ⟨_, _, ⟨⟨_, rfl⟩, rfl⟩, A7⟩
    · cases hx
  · rintro H4 ρ' J' σ' H' b4 j4 ⟨⟨o, rfl⟩, rfl⟩ A5
    exact st_ret A5 (ev_var rfl) fun v d' H6 e A6 r => hrt v H6 A6.j.1 (e ▸ r)
/-- a new pool for the script -/
def spPool (K : PySem.W.Frag) : Sp := fun vs H Q _ => ∃ (a : Addr) (ns : List Int), vs = [.ref a] ∧ SqL K H a (ns.map V.int) ∧ ns.length ≤ 63 ∧ ∀ p s H', Same H H' → H p = none → H s = none → s ≠ p → PoolOk p s ns H' → Q (.ref p) H'
theorem sc__law_pool : FnScope ["script", "salt", "cell"] ["script"] (defScope s__law_pool) := ⟨rfl, rfl, rfl, by decide +kernel, rfl, by decide +kernel, by decide +kernel⟩
theorem ok__law_pool (B : Bi mg) {f : Addr} {fd : FuncData} (F : Fun K "_law_pool" "_law_pool" s__law_pool f fd) : FnOk P w K mg base CX0 1 f fd ["script"] (spPool K) := by
  have S := sc__law_pool
  refine F.ok S (fun vs H Q E h => ?_) (fun cdv A outer s H vs Q E hr h => ?_)
  · obtain ⟨a, ns, rfl, _⟩ := h
    rfl
  obtain ⟨a, ns, rfl, hS, hlen, kq⟩ := h
  refine ⟨_, ((pss_cons (ps_set (i := 1) S.nd rfl (by first | exact Or.inl rfl | exact Or.inr rfl) pe_int)
 (pss_cons (ps_for PassesOwn.never rfl (pi_list (pe_slice sl_list (pv 0) po_none (po_some pe_int))) (pg_name (i := 2) S.nd rfl (by first | exact Or.inl rfl | exact Or.inr rfl))
 (pss_one (ps_set (i := 1) S.nd rfl (by first | exact Or.inl rfl | exact Or.inr rfl) (pe_op op_mod (pe_callTy c_int1 (by rfl) B.int (by decide +kernel) (pa_cons (pe_op op_add (pe_op op_mul (pv 1) pe_int) (pv 2)) pa_nil)) pe_int))))
 (pss_one (ps_ret (pe_lst (pa_cons (pe_callTy c_listOf (by rfl) B.list (by decide +kernel) (pa_cons (pv 0) pa_nil)) (pa_cons pe_int (pa_cons pe_int (pa_cons pe_int (pa_cons (pv 1) pa_nil))))))))))), ?_⟩
  have A0 : At K (fun _ => True) (Same H) [some (.lst (ns.map D.int)), none, none] [some (.ref a), none, none] H := by
    have hpl : PL K (fun _ => True) H a (ns.map V.int) := hS.elim (fun z => .inl ⟨trivial, z⟩) .inr
    exact ⟨SR.start (ds := [.lst (ns.map D.int)]) (n := 2) (Reps.cons ⟨a, _, rfl, hpl, Reps.of_ints⟩ Reps.nil), ⟨fun _ _ => trivial, fun _ _ _ => trivial⟩, Same.refl H, Mo.sames fun _ h => h⟩
  refine q (st_set A0 ev_int fun σ1 H1 A1 => q ?_)
  refine st_for A1 (it_list (ev_slL (ev_var rfl) eo_none (eo_some ev_int))) (fun i ρ' J' => (∃ o, ∃ z : Int, 0 ≤ z ∧ z < 1000003 ∧ ρ' = [some (.lst (ns.map D.int)), some (.int z), o]) ∧ J' = Same H) ⟨⟨none, 7, by decide, by decide, rfl⟩, rfl⟩ ?_ ?_
  · rintro H4 i x ρ' J' b4 j4 hx ⟨⟨o, z, hz, hz2, rfl⟩, rfl⟩ σ' H' A5
    obtain ⟨n, rfl⟩ : ∃ n, x = .int n := by
      have hm : x ∈ cutD (ns.map D.int) none (some 63) := List.mem_of_getElem? hx
      have hm2 : x ∈ ns.map D.int := List.mem_of_mem_drop (List.mem_of_mem_take hm)
      obtain ⟨n, _, e⟩ := List.mem_map.mp hm2
      exact ⟨n, e.symm⟩
    refine st_set A5 (ev_mod (ev_intI (ev_add (ev_mul (ev_var rfl) ev_int (.inl (by omega))) (ev_var rfl))) ev_int (by decide)) fun σ7 H7 A7 => ?_
    exact ⟨_, _, ⟨⟨_, _, Int.emod_nonneg _ (by decide), Int.emod_lt_of_pos _ (by decide), rfl⟩, rfl⟩, A7⟩
  · rintro H4 ρ' J' σ' H' b4 j4 ⟨⟨o, z, hz, hz2, rfl⟩, rfl⟩ A5
    refine en_list (ev_var rfl) σ' H' A5 _ fun s vs ds H5 H6 b5 A6 hs b6 A7 e hst r => ?_
    subst e
    have ev : vs = ns.map V.int := r.ints
    subst ev
    obtain ⟨v, ev, rv⟩ := A7.sr.2 1 _ rfl
    cases (show v = _ from rv)
    refine ⟨_, ev, by show 5 ≤ sizeLine; decide, fun p hp => ?_⟩
    have nsp : s ≠ p := ne_of_none hst hp
    refine kq p s _ (A7.j.1.trans (same_new hp)) (Same.free A7.j.1 hp) (Same.free A6.j.1 hs) nsp ⟨0, 0, 0, z, upd_same, ?_, Int.le_refl _⟩
    rw [upd_ne nsp]
    exact hst
/-- the pool's list -/
def plV (s : Addr) (a c n z : Int) : List V := [.ref s, .int a, .int c, .int n, .int z]
theorem sc__law_draw : FnScope ["pool", "many", "cell", "mixed", "value"] ["pool", "many"] (defScope s__law_draw) := ⟨rfl, rfl, rfl, by decide +kernel, rfl, by decide +kernel, by decide +kernel⟩
theorem ok__law_draw (B : Bi mg) {f g : Addr} {fd gd : FuncData} (F : Fun K "_law_draw" "_law_draw" s__law_draw f fd) (L__law_spread : Lk K mg "_law_spread" g gd ["cell"]) (G__law_spread : FnOk P w K mg base CX0 1 g gd ["cell"] (SpD K 1 RSpread)) : FnOk P w K mg base CX0 2 f fd ["pool", "many"] spDraw := by
  have S := sc__law_draw
  refine F.ok S (fun vs H Q E h => ?_) (fun cdv A outer s H vs Q E hr h => ?_)
  · obtain ⟨p, s, ns, n, rfl, _⟩ := h
    rfl
  obtain ⟨p, s, ns, many, rfl, ⟨a0, c0, n0, z0, hp, hs, ha0⟩, nsp, hm0, hm1, kq⟩ := h
  refine ⟨_, ((C8.pss_cut (ps_if (PW.pt (pw_and (pt_cmpR op_le (pe_ix ix_list (pv 0) pe_int (fun _ _ => rfl)) pe_int (nomark _)) (pw_and1 (pt_cmpR op_lt (pe_ix ix_list (pv 0) pe_int (fun _ _ => rfl)) (pe_callB c_len (by rfl) B.len (by decide +kernel) (pa_cons (pe_ix ix_list (pv 0) pe_int (fun _ _ => rfl)) pa_nil)) (nomark _)))))
 (pss_cons (ps_set (i := 2) S.nd rfl (by first | exact Or.inl rfl | exact Or.inr rfl) (pe_ix ix_list (pe_ix ix_list (pv 0) pe_int (fun _ _ => rfl)) (pe_ix ix_list (pv 0) pe_int (fun _ _ => rfl)) (fun _ _ => rfl)))
 (pss_cons (ps_asg (pe_op op_add (pe_ix ix_list (pv 0) pe_int (fun _ _ => rfl)) pe_int) (pg_sub (pv 0) pe_int set_list))
 (pss_cons (ps_asg (pv 2) (pg_sub (pv 0) pe_int set_list))
 (pss_one (ps_if (pt_cmpR op_lt (pv 2) pe_int (nomark _))
 (pss_one (ps_asg (pe_call G__law_spread (hr.mono (by first | exact Nat.le_refl _ | decide | omega)) (by rfl) L__law_spread.m L__law_spread.kp L__law_spread.bi .nil pass0 (pa_cons (pv 2) pa_nil)) (pg_sub (pv 0) pe_int set_list)))
 pss_nil)))))
 pss_nil)
 (pss_cons (ps_asg (pe_op op_add (pe_ix ix_list (pv 0) pe_int (fun _ _ => rfl)) pe_int) (pg_sub (pv 0) pe_int set_list))
 (pss_cons (ps_if (pt_cmpR op_le (pe_ix ix_list (pv 0) pe_int (fun _ _ => rfl)) pe_int (nomark _))
 (pss_cons (ps_set (i := 3) S.nd rfl (by first | exact Or.inl rfl | exact Or.inr rfl) (pe_op op_mod (pe_callTy c_int1 (by rfl) B.int (by decide +kernel) (pa_cons (pe_op op_add (pe_op op_add (pe_op op_mul (pe_ix ix_list (pv 0) pe_int (fun _ _ => rfl)) pe_int) (pe_op op_mul (pe_ix ix_list (pv 0) pe_int (fun _ _ => rfl)) pe_int)) pe_int) pa_nil)) pe_int))
 (pss_cons (ps_set (i := 3) S.nd rfl (by first | exact Or.inl rfl | exact Or.inr rfl) (pe_op op_mod (pe_callTy c_int1 (by rfl) B.int (by decide +kernel) (pa_cons (pe_op op_add (pe_op op_mul (pv 3) pe_int) (pe_ix ix_list (pv 0) pe_int (fun _ _ => rfl))) pa_nil)) pe_int))
 (pss_one (ps_ret (pe_op op_mod (pe_op op_fdiv (pv 3) pe_int) (pv 1))))))
 pss_nil)
 (pss_cons (ps_set (i := 4) S.nd rfl (by first | exact Or.inl rfl | exact Or.inr rfl) (pe_op op_mod (pe_callTy c_int1 (by rfl) B.int (by decide +kernel) (pa_cons (pe_ix ix_list (pv 0) pe_int (fun _ _ => rfl)) pa_nil)) (pv 1)))
 (pss_cons (ps_asg (pe_op op_fdivW (pe_ix ix_list (pv 0) pe_int (fun _ _ => rfl)) (pv 1)) (pg_sub (pv 0) pe_int set_list))
 (pss_one (ps_ret (pv 4))))))))), ?_⟩
  let φ : Addr → Prop := fun a => a ≠ p
  let JJ : Int → Int → Int → Hp → Prop := fun a c n H' => H' p = some (.lst (plV s a c n z0)) ∧ But φ H H'
  have trp : ∀ {H' : Hp}, But φ H H' → H' p ≠ none := fun b => b.tr p (by rw [hp]; exact fun z => by cases z)
  have moJ : ∀ {a c n : Int} {H' : Hp}, But φ H H' → Mo H' (JJ a c n) := fun b => (Mo.at (trp b)).and (Mo.but b.tr)
  have nφ : ¬ φ p := fun z => z rfl
  have updA : ∀ {a c n a' c' n' : Int} {ρ : List (Option D)} {σ : L2.St} {H' : Hp}, At K φ (JJ a c n) ρ σ H' → At K φ (JJ a' c' n') ρ σ (L2.upd H' p (.lst (plV s a' c' n' z0))) := fun {a c n a' c' n' ρ σ H'} A =>
    A.upd nφ ⟨upd_same, A.j.2.upd nφ⟩ (moJ (A.j.2.upd nφ))
  have A0 : At K φ (JJ a0 c0 n0) [some (.raw (.ref p)), some (.int many), none, none, none] [some (.ref p), some (.int many), none, none, none] H :=
    ⟨SR.start (ds := [.raw (.ref p), .int many]) (n := 3) (Reps.cons rfl (Reps.cons rfl Reps.nil)), ⟨fun a h z => (by rw [z, hp] at h; cases h), fun a xs h z => (by rw [z, hp] at h; cases h)⟩, ⟨hp, But.refl _ _⟩, moJ (But.refl _ _)⟩
  -- the pool's cells
  have ix : ∀ {a c n : Int} {ρ : List (Option D)} {i : Int} {d : D} {v : V}, ρ[0]? = some (some (.raw (.ref p))) → atI (plV s a c n z0) i = some v → (∀ H', Rep K φ H' d v) → EvD K φ (JJ a c n) (tOp (rIxL K) (tVar 0) (tC (.int i))) ρ d := fun h e r => ev_ixLive (ev_var h) ev_int fun H' j => ⟨_, j.1, _, e, r H'⟩
  have fin : ∀ {a c n : Int} {ρ : List (Option D)} {σ : L2.St} {H' : Hp} {r : Int}, At K φ (JJ a c n) ρ σ H' → 0 ≤ a → 0 ≤ r → r < many → Q (.int r) H' := fun {a c n ρ σ H' r} A ha h0 h1 =>
    kq r H' h0 h1 (fun b o nb e => A.j.2.keep b o nb e) ⟨a, c, n, z0, A.j.1, A.j.2.keep _ _ nsp hs, ha⟩
  refine q_cut (M := fun σ' H' => ∃ a c o, 0 ≤ a ∧ At K φ (JJ a c n0) [some (.raw (.ref p)), some (.int many), o, none, none] σ' H') ?_ ?_
  · refine st_if A0 (et_and (et_test (ev_le (ix rfl rfl fun _ => rfl) ev_int)) fun _ => et_test (ev_lt (ix rfl rfl fun _ => rfl) (ev_lenLive (ix rfl rfl fun _ => rfl) fun H' j => j.2.keep _ _ nsp hs))) (fun hb H1 A1 => ?_) (fun hb H1 A1 => ⟨a0, c0, none, ha0, A1⟩)
    have hlt : a0 < ((ns.map V.int).length : Nat) := by
      have h1 := hb.symm
      rw [Bool.and_eq_true] at h1
      exact of_decide_eq_true h1.2
    have hltn : a0.toNat < ns.length := by rw [List.length_map] at hlt; omega
    have hat : atI (ns.map V.int) a0 = some (.int ns[a0.toNat]) := by
      have z := atI_ofNat (xs := ns.map V.int) (i := a0.toNat) (x := .int ns[a0.toNat]) (by rw [List.getElem?_map, List.getElem?_eq_getElem hltn]; rfl)
      rw [Int.toNat_of_nonneg ha0] at z
      exact z
    refine q (st_set A1 (ev_ixLive (d := .int ns[a0.toNat]) (ix rfl rfl fun _ => rfl) (ix rfl rfl fun _ => rfl) fun H' j => ⟨_, j.2.keep _ _ nsp hs, _, hat, rfl⟩) fun σ2 H2 A2 => q ?_)
    refine st_setL (n := 1) A2 (ev_add (ix rfl rfl fun _ => rfl) ev_int) rfl ev_int (fun H' j => j.1) rfl fun v d H3 e r b A3 => ?_
    subst e
    cases (show v = _ from r)
    have A4 : At K φ (JJ (a0 + 1) c0 n0) [some (.raw (.ref p)), some (.int many), some (.int ns[a0.toNat]), none, none] σ2 _ := updA (a' := a0 + 1) (c' := c0) (n' := n0) A3
    refine q (st_setL (n := 2) A4 (ev_var rfl) rfl ev_int (fun H' j => j.1) rfl fun v d H5 e r b A5 => ?_)
    subst e
    cases (show v = _ from r)
    have A6 : At K φ (JJ (a0 + 1) ns[a0.toNat] n0) [some (.raw (.ref p)), some (.int many), some (.int ns[a0.toNat]), none, none] σ2 _ := updA (a' := a0 + 1) (c' := ns[a0.toNat]) (n' := n0) A5
    refine st_if A6 (et_test (ev_lt (ev_var rfl) ev_int)) (fun _ H7 A7 => ?_) (fun _ H7 A7 => ⟨_, _, _, by omega, A7⟩)
    refine st_setL (n := 2) A7 (ev_callD (ea_cons (ev_var rfl) ea_nil) ⟨_, rfl, rfl⟩) rfl ev_int (fun H' j => j.1) rfl fun v d H8 e r b A8 => ?_
    subst e
    cases (show v = _ from r)
    exact ⟨a0 + 1, (spreadN ns[a0.toNat] 4).2, _, by omega, updA (a' := a0 + 1) (n' := n0) A8⟩
  · rintro σ1 H1 ⟨a, c, o, ha, A1⟩
    refine q (st_setL (n := 3) A1 (ev_add (ix rfl rfl fun _ => rfl) ev_int) rfl ev_int (fun H' j => j.1) rfl fun v d H3 e r b A3 => ?_)
    subst e
    cases (show v = _ from r)
    have A4 : At K φ (JJ a c (n0 + 1)) [some (.raw (.ref p)), some (.int many), o, none, none] σ1 _ := updA (a' := a) (c' := c) (n' := n0 + 1) A3
    refine q (st_if A4 (et_test (ev_le (ix rfl rfl fun _ => rfl) ev_int)) (fun _ H5 A5 => ?_) (fun hc H5 A5 => st_next ?_))
    · refine q (st_set A5 (ev_mod (ev_intI (ev_add (ev_add (ev_mul (ix rfl rfl fun _ => rfl) ev_int (.inr (by decide))) (ev_mul (ix rfl rfl fun _ => rfl) ev_int (.inr (by decide)))) ev_int)) ev_int (by decide)) fun σ6 H6 A6 => q ?_)
      refine st_set A6 (ev_mod (ev_intI (ev_add (ev_mul (ev_var rfl) ev_int (.inr (by decide))) (ix rfl rfl fun _ => rfl))) ev_int (by decide)) fun σ7 H7 A7 => ?_
      refine st_ret A7 (ev_mod (ev_fdiv (ev_var rfl) ev_int ⟨by decide, by decide⟩) (ev_var rfl) hm0) fun v d H8 e A8 r => ?_
      subst e
      cases (show v = _ from r)
      exact fin A8 ha (Int.emod_nonneg _ (by omega)) (Int.emod_lt_of_pos _ hm0)
    · refine q (st_set A5 (ev_mod (ev_intI (ix rfl rfl fun _ => rfl)) (ev_var rfl) hm0) fun σ6 H6 A6 => q ?_)
      refine st_setL (n := 2) A6 (ev_fdivW (ix rfl rfl fun _ => rfl) (ev_var rfl) ⟨hm0, (Nat.log2_lt (by omega)).mpr (Nat.lt_of_lt_of_le (show _ < 2 ^ 32 by omega) (Nat.pow_le_pow_right (by decide) (by decide)))⟩) rfl ev_int (fun H' j => j.1) rfl fun v d H8 e r b A8 => ?_
      subst e
      cases (show v = _ from r)
      have A9 : At K φ (JJ a (c / many) (n0 + 1)) [some (.raw (.ref p)), some (.int many), o, none, some (.int (c % many))] σ6 _ := updA (a' := a) (c' := c / many) (n' := n0 + 1) A8
      refine st_ret A9 (ev_var rfl) fun v d H10 e A10 r => ?_
      subst e
      cases (show v = _ from r)
      exact fin A10 ha (Int.emod_nonneg _ (by omega)) (Int.emod_lt_of_pos _ hm0)
end
def spLaw (K : PySem.W.Frag) : Sp := fun vs H Q _ => ∃ (a : Addr) (ns : List Int), vs = [.ref a] ∧ SqL K H a (ns.map V.int) ∧ ns.length ≤ 63 ∧ ∀ H', Q (.bl true) H'
/-- behind the making of the pool -/
def JP (p s : Addr) (ns : List Int) : Hp → Prop := PoolOk p s ns
theorem mo_pool {p s : Addr} {ns : List Int} {H : Hp} (hp : H p ≠ none) (hs : H s ≠ none) : Mo H (PoolOk p s ns) := fun H1 H2 k j => by
  obtain ⟨a, c, n, z, e1, e2, h⟩ := j
  exact ⟨a, c, n, z, k p _ hp e1, k s _ hs e2, h⟩
theorem mo_poolOf {p s : Addr} {ns : List Int} {H : Hp} (j : PoolOk p s ns H) : Mo H (PoolOk p s ns) := by
  obtain ⟨_, _, _, _, e1, e2, _⟩ := id j
  exact mo_pool (by rw [e1]; exact fun z => by cases z) (by rw [e2]; exact fun z => by cases z)
theorem mo_of {p s : Addr} {ns : List Int} {φ : Addr → Prop} {H H2 : Hp} (j : PoolOk p s ns H ∧ But φ H2 H) : Mo H (fun H => PoolOk p s ns H ∧ But φ H2 H) := (mo_poolOf j.1).and (Mo.but j.2.tr)
theorem pooled {p s : Addr} {ns : List Int} {φ : Addr → Prop} (np : ¬ φ p) (ne : s ≠ p) : Pooled φ (PoolOk p s ns) p s ns := ⟨np, ne, fun _ h => h, fun _ _ _ _ o => o⟩
section
variable {K : PySem.W.Frag} {D0 : Ends} {σ : L2.St} {H : Hp} {ρ : List (Option D)}
/-- pool = _law_pool(script), the first row of a law: from then on only the pool is live -/
theorem st_pool {E : XK} {k n : Nat} {a : Addr} {ns : List Int} (hS : SqL K H a (ns.map V.int)) (hl : ns.length ≤ 63) (h0 : σ[0]? = some (some (.ref a))) (hk : σ.length = n) (hkn : k < n)
    (kk : ∀ p s σ' H', s ≠ p → At K (fun b => b ≠ p) (PoolOk p s ns) ((List.replicate n none).set k (some (.raw (.ref p)))) σ' H' → D0.nx σ' H') : tAsg (tCall (spPool K) [] E (tCons (tVar 0) tNil)) (gName k) D0 σ H := by
  refine ⟨_, h0, a, ns, rfl, hS, hl, fun p s H' sm hp hs ne po => ?_⟩
  have hp' : H' p ≠ none := by obtain ⟨_, _, _, _, e, _⟩ := po; rw [e]; exact fun z => by cases z
  have hs' : H' s ≠ none := by obtain ⟨_, _, _, _, _, e, _⟩ := po; rw [e]; exact fun z => by cases z
  refine kk p s _ H' ne ⟨⟨by rw [List.length_set, List.length_set, List.length_replicate]; exact hk, fun i d hd => ?_⟩, ⟨fun b hb z => hp' (z ▸ hb), fun b xs hb z => by obtain ⟨_, _, _, _, e, _⟩ := po; rw [z, e] at hb; cases hb⟩, po, mo_pool hp' hs'⟩
  by_cases e : k = i
  · subst e
    rw [List.getElem?_set_self (by rw [List.length_replicate]; exact hkn)] at hd
    cases hd
    exact ⟨_, List.getElem?_set_self (by rw [hk]; exact hkn), rfl⟩
  · rw [List.getElem?_set_ne e, List.getElem?_replicate] at hd
    split at hd <;> cases hd
end

/-! ### _law_members; sorted lists of ints -/
section
variable {P : Program} {w : World} {K : PySem.W.Frag} {mg : Str → Option Value} {base : Heap}
theorem pi_or {X : Cx} {tg e : Expr} {w1 w2 : TI} (h1 : PI X tg e w1) (h2 : PI X tg e w2) : PI X tg e (fun σ H R => w1 σ H R ∨ w2 σ H R) := ⟨fun pins s σ H R I h => h.elim (h1.run pins s σ H R I) (h2.run pins s σ H R I)⟩
theorem it_or1 {φ : Addr → Prop} {J : Hp → Prop} {ρ : List (Option D)} {w1 w2 : TI} {Pi : List D → Prop} (h : IterP K φ J w1 ρ Pi) : IterP K φ J (fun σ H R => w1 σ H R ∨ w2 σ H R) ρ Pi := fun σ H A R q => .inl (h σ H A R q)
theorem it_or2 {φ : Addr → Prop} {J : Hp → Prop} {ρ : List (Option D)} {w1 w2 : TI} {Pi : List D → Prop} (h : IterP K φ J w2 ρ Pi) : IterP K φ J (fun σ H R => w1 σ H R ∨ w2 σ H R) ρ Pi := fun σ H A R q => .inr (h σ H A R q)
/-- a list's or tuple's members, none of another value -/
def memD (x : D) : D := .lst ((seqOf x).getD [])
def isDct : D → Bool
  | .dk _ _ => true
  | .dt _ _ => true
  | _ => false
def RMem : List D → D → Prop := fun ds r => ∃ x, ds = [x] ∧ (isRaw x || isDct x) = false ∧ ((seqOf x).getD []).length ≤ 1000000 ∧ r = memD x
theorem sc__law_members : FnScope ["value", "row"] ["value"] (defScope s__law_members) := ⟨rfl, rfl, rfl, by decide +kernel, rfl, by decide +kernel, by decide +kernel⟩
theorem ok__law_members (B : Bi mg) {f : Addr} {fd : FuncData} (F : Fun K "_law_members" "_law_members" s__law_members f fd) : FnOk P w K mg base CX0 1 f fd ["value"] (SpD K 1 RMem) := by
  have S := sc__law_members
  refine fn_ok F S rfl 1 rfl fun cdv A outer s H E hr => ⟨_, ((pss_cons (ps_if (PW.pt (pw_or (pt_val (pe_callB call_isi (by rfl) B.isinstance (by decide +kernel) (pa_cons (pv 0) (pa_cons (pe_ty (n := "list") B.list (by decide +kernel)) pa_nil)))) (pw_or (pt_val (pe_callB call_isi (by rfl) B.isinstance (by decide +kernel) (pa_cons (pv 0) (pa_cons (pe_ty (n := "tuple") B.tuple (by decide +kernel)) pa_nil)))) (pw_or1 (pt_val (pe_callB call_isi (by rfl) B.isinstance (by decide +kernel) (pa_cons (pv 0) (pa_cons (pe_ty (n := "dict") B.dict (by decide +kernel)) pa_nil))))))))
 (pss_one (ps_ret (pe_lc (own := [("row", 1)]) (g := (gName 1)) (tt := tYes) (by rfl) S.nd (pi_or (pi_list (pv 0)) (pi_tup (pv 0))) (blkOk_by (N := ["value", "row"]) (sc := defScope s__law_members) (own := [("row", 1)]) (by decide +kernel)) (fun _ _ _ _ _ => (pg_name (i := 1) S.nd rfl (by first | exact Or.inl rfl | exact Or.inr rfl))) (fun _ _ _ _ _ => pts_nil) (fun _ _ _ _ _ => (pv 1)))))
 pss_nil)
 (pss_one (ps_ret (pe_lst pa_nil))))), fun φ ds d H D0 σ hl hR hrt hnx A => ?_⟩
  obtain ⟨x, rfl, hraw', hlen, rfl⟩ := hR
  rw [Bool.or_eq_false_iff] at hraw'
  obtain ⟨hraw, hdk⟩ := hraw'
  replace A : At K φ (Same H) [some x, none] σ H := A
  have isi : ∀ {ρ : List (Option D)} {J : Hp → Prop} {n : String}, ρ[0]? = some (some x) → n ∈ (["tuple", "list", "bool", "int", "str", "dict"] : List String) → EvD K φ J (tCB (rIsi K) (tCons (tVar 0) (tCons (tC (.ty n)) tNil))) ρ (.bl (isT n x)) := fun h hn => ev_isi (ev_var h) ev_ty hraw hn
  refine q (st_if A (et_or (et_B (isi rfl (by simp))) fun _ => et_or (et_B (isi rfl (by simp))) fun _ => et_B (isi rfl (by simp))) (fun hb H1 A1 => ?_) (fun hb H1 A1 => ?_))
  · cases x with
    | tup es =>
      refine st_ret A1 (ev_lc (f := fun d => d) (it_or2 (it_tup (ev_var rfl))) hlen fun d hd φ' J' hx => ev_var rfl) fun v d' H6 e A6 r => hrt v H6 A6.j ?_
      subst e
      rw [List.map_id'] at r
      exact r
    | lst es =>
      refine st_ret A1 (ev_lc (f := fun d => d) (it_or1 (it_list (ev_var rfl))) hlen fun d hd φ' J' hx => ev_var rfl) fun v d' H6 e A6 r => hrt v H6 A6.j ?_
      subst e
      rw [List.map_id'] at r
      exact r
    | dk ks xs => cases hdk
    | dt ks xs => cases hdk
    | _ => simp [isT, tyD] at hb
  · refine st_next (st_ret A1 (ev_lst ea_nil) fun v d' H6 e A6 r => hrt v H6 A6.j ?_)
    subst e
    cases x with
    | tup es => simp [isT, tyD] at hb
    | lst es => simp [isT, tyD] at hb
    | _ => exact r
end

/-! ### defs that take the pool ahead of other values -/
theorem ButP.trans {p : Addr} {H H' H2 : Hp} (a : ButP p H H') (b : ButP p H' H2) : ButP p H H2 := fun x o n e => b x o n (a x o n e)
theorem ButP.of {p : Addr} {H H' : Hp} (s : Same H H') : ButP p H H' := fun x o _ e => s x o e
def SpP (K : PySem.W.Frag) (n : Nat) (Pre : List D → Prop) (R : List D → D → Prop) : Sp := fun vs H Q _ => ∃ φ p s ns ds ws, vs = .ref p :: ws ∧ ds.length = n ∧ Reps K φ H ds ws ∧ Frm φ H ∧ ¬ φ p ∧ s ≠ p ∧ PoolOk p s ns H ∧ Pre ds ∧
  ∀ v d H', R ds d → ButP p H H' → PoolOk p s ns H' → Rep K φ H' d v → Q v H'
section
variable {K : PySem.W.Frag} {φ φ' : Addr → Prop} {J J' : Hp → Prop} {H H' H1 : Hp} {ρ ρ' : List (Option D)} {σ : L2.St} {ta : TA} {te tb : TE} {x y z d : D} {P Pa Pb : D → Prop} {ds es : List D} {v : V} {D0 : Ends} {t u : TS}
theorem mo_butP {p : Addr} {H0 : Hp} (h : ∀ a, H0 a ≠ none → H a ≠ none) : Mo H (ButP p H0) := fun H1 H2 k j a o n e => k a o (h a (by rw [e]; exact fun z => by cases z)) (j a o n e)
theorem butP_tr {p s : Addr} {ns : List Int} (b : ButP p H H') (o : PoolOk p s ns H') : ∀ a, H a ≠ none → H' a ≠ none := fun a h => by
  by_cases e : a = p
  · obtain ⟨_, _, _, _, e1, _⟩ := o
    rw [e, e1]
    exact fun z => by cases z
  · cases q : H a with
    | none => exact absurd q h
    | some u => rw [b a u e q]; exact fun z => by cases z
abbrev JB (p s : Addr) (ns : List Int) (H0 : Hp) : Hp → Prop := fun H' => PoolOk p s ns H' ∧ ButP p H0 H'
theorem pooledB {p s : Addr} {ns : List Int} {H0 : Hp} (np : ¬ φ p) (ne : s ≠ p) : Pooled φ (JB p s ns H0) p s ns := ⟨np, ne, fun _ h => h.1, fun _ _ h k o => ⟨o, h.2.trans k⟩⟩
theorem ev_callP {n k : Nat} {Pre Pr : List D → Prop} {R : List D → D → Prop} {E : XK} {p s : Addr} {ns : List Int} (hp : Pooled φ J p s ns) (hk : ρ[k]? = some (some (.raw (.ref p)))) (ha : EvA K φ J ta ρ Pr) (hr : ∀ ds, Pr ds → ds.length = n ∧ Pre ds) :
    EvP K φ J (tCall (SpP K n Pre R) [] E (tCons (tVar k) ta)) ρ (fun d => ∃ ds, Pr ds ∧ R ds d) := fun σ H A Q q =>
  ev_var hk σ H A _ fun v d H1 b1 A1 e1 r1 => ha σ H1 A1 _ fun vs ds H2 b2 A2 pd r2 => by
    subst e1
    cases (show v = _ from r1)
    obtain ⟨hl, pre⟩ := hr ds pd
    refine ⟨φ, p, s, ns, ds, vs, by rw [List.append_nil], hl, r2, A2.fr, hp.np, hp.ne, hp.ok _ A2.j, pre, fun v d H' rd bp po r => ?_⟩
    have bt : But φ H2 H' := butP_but bp hp.np po
    have bt' : ∀ a, H2 a ≠ none → H' a ≠ none := bt.tr
    refine q v d H' ((b1.trans b2).trans bt) ⟨A2.sr.up (Up.of bt), A2.fr.butP bp po bt', hp.st _ _ A2.j bp po, A2.mono.up bt'⟩ ⟨ds, pd, rd⟩ r
section
variable {PP : Program} {w : World} {mg : Str → Option Value} {base : Heap}
/-- .. keeps its promise -/
theorem fn_okP {x qual : Str} {st : Stmt} {f : Addr} {fd : FuncData} {N ps : List Str} {k n : Nat} {Pre : List D → Prop} {R : List D → D → Prop} (F : Fun K x qual st f fd) (S : FnScope N ps (defScope st)) (hn : ps.length = n + 1) (m : Nat) (hm : N.length = n + 1 + m)
    (hbody : ∀ (cdv : Value) (A : Around) (outer : List Env) (s : Shared) (H : Hp) (E : XK), Room k (A.deeper (envOfC qual (defScope st) s.heap.objs.size f cdv)) →
      ∃ t, PSs (cxOf CX0 PP w K mg base N qual (defScope st) f cdv A outer s H E).nox (defBody st) t ∧
        ∀ (φ : Addr → Prop) (p q : Addr) (ns : List Int) (ds : List D) (H : Hp) (D0 : Ends) (σ : L2.St), ds.length = n → Pre ds → ¬ φ p → q ≠ p → (∀ v d H', R ds d → JB p q ns H H' → Rep K φ H' d v → D0.rt v H') → At K φ (JB p q ns H) (some (.raw (.ref p)) :: (ds.map some ++ List.replicate m none)) σ H → t D0 σ H) :
    FnOk PP w K mg base CX0 (k + 1) f fd ps (SpP K n Pre R) := by
  refine F.ok S (fun vs H Q E h => ?_) (fun cdv A outer s H vs Q E hr h => ?_)
  · obtain ⟨φ, p, s, ns, ds, ws, rfl, hl, r, _⟩ := h
    rw [List.length_cons, r.length, hl, hn]
  · obtain ⟨φ, p, s', ns, ds, ws, rfl, hl, r, fr, np, ne, po, pre, q⟩ := h
    obtain ⟨t, ht, run⟩ := hbody cdv A outer s H E hr
    refine ⟨t, ht, run φ p s' ns ds H _ _ hl pre np ne (fun v d H' rd j r => q v d H' rd j.2 j.1 r) ⟨?_, fr, ⟨po, ButP.of (Same.refl H)⟩, (mo_poolOf po).and (mo_butP fun _ h => h)⟩⟩
    have e : N.length - (V.ref p :: ws).length = m := by rw [hm, List.length_cons, r.length, hl]; omega
    unfold L2.start
    rw [e]
    have z := SR.start (K := K) (φ := φ) (H := H) (ds := .raw (.ref p) :: ds) (vs := .ref p :: ws) (n := m) (Reps.cons rfl r)
    exact z
end
end

/-! ### sorted lists of ints -/
section
variable {P : Program} {w : World} {K : PySem.W.Frag} {mg : Str → Option Value} {base : Heap}
theorem c_sortedI {X : Cx} : CallR X (.builtin "sorted") (rSorted X.K) := cr_sorted
theorem ev_sortedI {φ : Addr → Prop} {J : Hp → Prop} {ρ : List (Option D)} {te : TE} {ns : List Int} (ha : EvD K φ J te ρ (.lst (ns.map D.int))) (hl : ns.length < 64) : EvP K φ J (tCB (rSorted K) (tCons te tNil)) ρ (fun z => ∃ ns' : List Int, z = .lst (ns'.map D.int) ∧ ns'.Perm ns ∧ ns'.Pairwise (· ≤ ·)) := ev_cbD (ea_cons ha ea_nil) fun H vs f r Q q => by
  obtain ⟨v, rfl, r1⟩ := r.one
  obtain ⟨a, rfl, h⟩ := rep_ints r1
  exact ⟨a, ns, rfl, h, hl, fun ns' p hp hs hn => q _ _ _ (same_new hn) ⟨ns', rfl, hp, hs⟩ ⟨p, _, rfl, .inl ⟨f p hn, .inl upd_same⟩, Reps.of_ints⟩⟩
theorem all_ints : ∀ {ys : List D}, (∀ y ∈ ys, ∃ i, y = .int i) → ∃ ns : List Int, ys = ns.map D.int
  | [], _ => ⟨[], rfl⟩
  | y :: ys, h => by
    obtain ⟨i, rfl⟩ := h y List.mem_cons_self
    obtain ⟨ns, rfl⟩ := all_ints fun z hz => h z (List.mem_cons_of_mem _ hz)
    exact ⟨i :: ns, rfl⟩
end

/-! ### plain trees: no raw values, a bounded depth, bounded lengths, texts within the bounds -/
def okD (s : Nat) : Nat → D → Bool
  | 0, _ => false
  | _ + 1, .non => true
  | _ + 1, .bl _ => true
  | _ + 1, .int _ => true
  | _ + 1, .str x => PyData.strOk x
  | n + 1, .tup ds => decide (ds.length ≤ s) && ds.all (okD s n)
  | n + 1, .lst ds => decide (ds.length ≤ s) && ds.all (okD s n)
  | _ + 1, .raw _ => false
  | _ + 1, .dk _ _ => false
  | _ + 1, .dt _ _ => false
theorem okD_raw {s n : Nat} {d : D} (h : okD s n d = true) : isRaw d = false := by
  cases n with
  | zero => cases h
  | succ n => cases d <;> first | rfl | cases h
theorem okD_tup {s n : Nat} {es : List D} : okD s (n + 1) (.tup es) = true ↔ es.length ≤ s ∧ ∀ x ∈ es, okD s n x = true := by
  show (decide (es.length ≤ s) && es.all (okD s n)) = true ↔ _
  rw [Bool.and_eq_true, decide_eq_true_eq, List.all_eq_true]
theorem okD_lst {s n : Nat} {es : List D} : okD s (n + 1) (.lst es) = true ↔ es.length ≤ s ∧ ∀ x ∈ es, okD s n x = true := by
  show (decide (es.length ≤ s) && es.all (okD s n)) = true ↔ _
  rw [Bool.and_eq_true, decide_eq_true_eq, List.all_eq_true]
theorem okD_mono {s s' : Nat} (hs : s ≤ s') : ∀ {n n' : Nat} {d : D}, n ≤ n' → okD s n d = true → okD s' n' d = true := by
  intro n
  induction n with
  | zero => intro n' d _ h; cases h
  | succ n ih =>
    intro n' d hn h
    obtain ⟨k, rfl⟩ : ∃ k, n' = k + 1 := ⟨n' - 1, by omega⟩
    cases d with
    | tup ds =>
      rw [okD_tup] at h ⊢
      exact ⟨by omega, fun x hx => ih (by omega) (h.2 x hx)⟩
    | lst ds =>
      rw [okD_lst] at h ⊢
      exact ⟨by omega, fun x hx => ih (by omega) (h.2 x hx)⟩
    | str x => exact h
    | raw v => cases h
    | dk ks ds => cases h
    | dt ks ds => cases h
    | _ => rfl
theorem okD_okq {s : Nat} : ∀ {n : Nat} {d : D}, okD s n d = true → okq n d = true := by
  intro n
  induction n with
  | zero => intro d h; cases h
  | succ n ih =>
    intro d h
    cases d with
    | tup ds => exact List.all_eq_true.mpr fun x hx => ih ((okD_tup.mp h).2 x hx)
    | lst ds => exact List.all_eq_true.mpr fun x hx => ih ((okD_lst.mp h).2 x hx)
    | str x => exact h
    | raw v => cases h
    | dk ks ds => cases h
    | dt ks ds => cases h
    | _ => rfl
theorem okq_mono : ∀ {n n' : Nat} {d : D}, n ≤ n' → okq n d = true → okq n' d = true := by
  intro n
  induction n with
  | zero =>
    intro n' d _ h
    cases d with
    | tup ds => cases h
    | lst ds => cases h
    | raw v => cases h
    | dk ks ds => cases h
    | dt ks ds => cases h
    | str x => cases n' <;> exact h
    | _ => cases n' <;> rfl
  | succ n ih =>
    intro n' d hn h
    obtain ⟨k, rfl⟩ : ∃ k, n' = k + 1 := ⟨n' - 1, by omega⟩
    cases d with
    | tup ds => exact List.all_eq_true.mpr fun x hx => ih (by omega) (List.all_eq_true.mp h x hx)
    | lst ds => exact List.all_eq_true.mpr fun x hx => ih (by omega) (List.all_eq_true.mp h x hx)
    | str x => exact h
    | raw v => cases h
    | dk ks ds => cases h
    | dt ks ds => cases h
    | _ => rfl
theorem okD_okq' {s n n' : Nat} {d : D} (h : okD s n d = true) (hn : n ≤ n') : okq n' d = true := okq_mono hn (okD_okq h)
theorem okD_plain {s : Nat} (hs : s ≤ 1000000) : ∀ {n : Nat} {d : D}, okD s n d = true → plain n d = true := by
  intro n
  induction n with
  | zero => intro d h; cases h
  | succ n ih =>
    intro d h
    cases d with
    | tup ds =>
      have z := okD_tup.mp h
      simp only [plain, Bool.and_eq_true, decide_eq_true_eq, List.all_eq_true]
      exact ⟨by omega, fun x hx => ih (z.2 x hx)⟩
    | lst ds =>
      have z := okD_lst.mp h
      simp only [plain, Bool.and_eq_true, decide_eq_true_eq, List.all_eq_true]
      exact ⟨by omega, fun x hx => ih (z.2 x hx)⟩
    | raw v => cases h
    | dk ks ds => cases h
    | dt ks ds => cases h
    | _ => rfl
def isIntD : D → Bool
  | .int _ => true
  | _ => false
def intV : D → Int
  | .int i => i
  | _ => 0
theorem isIntD_ex {d : D} (h : isIntD d = true) : ∃ i, d = .int i := by
  cases d with
  | int i => exact ⟨i, rfl⟩
  | _ => cases h
theorem isIntD_of {d : D} (h : isRaw d = false) : (isT "int" d && !isT "bool" d) = isIntD d := by
  cases d <;> first | (cases h; done) | rfl
section
variable {K : PySem.W.Frag} {φ : Addr → Prop} {J : Hp → Prop} {ρ : List (Option D)} {te : TE} {x : D} {b : Bool} {t1 t2 : TT} {p : Bool → Prop}
theorem et_andP (ha : EvX K φ J t1 ρ b) (hb : b = true → EvT K φ J t2 ρ p) : EvT K φ J (tAnd t1 t2) ρ (fun x => (b = true ∧ p x) ∨ (b = false ∧ x = false)) := fun σ H A Q q => ha σ H A _ fun k H1 b1 A1 e1 => by
  subst e1
  cases k with
  | false => exact q false H1 b1 A1 (.inr ⟨rfl, rfl⟩)
  | true => exact hb rfl σ H1 A1 _ fun k H2 b2 A2 pk => q k H2 (b1.trans b2) A2 (.inl ⟨rfl, pk⟩)
theorem et_orP (ha : EvX K φ J t1 ρ b) (hb : b = false → EvT K φ J t2 ρ p) : EvT K φ J (tOr t1 t2) ρ (fun x => (b = false ∧ p x) ∨ (b = true ∧ x = true)) := fun σ H A Q q => ha σ H A _ fun k H1 b1 A1 e1 => by
  subst e1
  cases k with
  | true => exact q true H1 b1 A1 (.inr ⟨rfl, rfl⟩)
  | false => exact hb rfl σ H1 A1 _ fun k H2 b2 A2 pk => q k H2 (b1.trans b2) A2 (.inl ⟨rfl, pk⟩)
theorem et_cmpP {f : Int → Int → Bool} {ta tb : TE} {p q : Int → Prop} (ha : EvI K φ J ta ρ p) (hb : EvI K φ J tb ρ q) : EvT K φ J (tTest (tOp (rI0 fun i j => .bl (f i j)) ta tb)) ρ (fun k => ∃ i j, p i ∧ q j ∧ k = f i j) := et_testP (eb_cmp ha hb)
theorem et_eqP {ta tb : TE} {p q : Int → Prop} (ha : EvI K φ J ta ρ p) (hb : EvI K φ J tb ρ q) : EvT K φ J (tTest (tOp rEq ta tb)) ρ (fun k => ∃ i j, p i ∧ q j ∧ k = decide (i = j)) := et_testP (eb_eq ha hb)
theorem any_toPys {x : D} : ∀ ds : List D, ((toPys ds).any fun z => PyData.eqv z (toPy x)) = ds.any fun z => eqvD z x
  | [] => rfl
  | d :: ds => by
    show (PyData.eqv (toPy d) (toPy x) || (toPys ds).any _) = (eqvD d x || ds.any _)
    rw [any_toPys ds]
    rfl
/-- `in` a list of data -/
theorem ev_inQ {ta tb : TE} {ds : List D} (ha : EvD K φ J ta ρ x) (hb : EvD K φ J tb ρ (.lst ds)) (hx : okq 64 x = true) (hy : okq 64 (.lst ds) = true) : EvD K φ J (tOp (rInD K) ta tb) ρ (.bl (ds.any fun z => eqvD z x)) := ev_opD ha hb fun H v w _ r1 r2 Q q => by
  refine ⟨toPy x, toPys ds, dp_of x v 64 hx r1, dp_of _ w 64 hy r2, okq_shaped hx (Nat.le_refl _), okq_shaped hy (Nat.le_refl _), ?_⟩
  rw [any_toPys ds]
  exact q _ _ H (Same.refl H) rfl rfl
end
section
variable {P : Program} {w : World} {K : PySem.W.Frag} {mg : Str → Option Value} {base : Heap}
def RIsInt : List D → D → Prop := fun ds r => ∃ d, ds = [d] ∧ isRaw d = false ∧ r = .bl (isIntD d)
end

/-! ### logarithms of fractions, without reals -/
section
theorem pow_two_pt (a b : Rat) (h0 : 0 ≤ a) (h : a ≤ b) : ∀ n : Nat, 0 ≤ a ^ n ∧ a ^ n ≤ b ^ n ∧ ((n : Rat) + 1) * a ^ n * (b - a) ≤ b ^ (n + 1) - a ^ (n + 1) ∧ b ^ (n + 1) - a ^ (n + 1) ≤ ((n : Rat) + 1) * b ^ n * (b - a)
  | 0 => by
    simp only [Rat.pow_succ, Rat.pow_zero]
    refine ⟨by decide, by decide, ?_, ?_⟩ <;> grind
  | n + 1 => by
    obtain ⟨h1, h2, h3, h4⟩ := pow_two_pt a b h0 h n
    have hb : 0 ≤ b := Rat.le_trans h0 h
    have e1 : a ^ (n + 1) = a ^ n * a := Rat.pow_succ a n
    have e2 : b ^ (n + 1) = b ^ n * b := Rat.pow_succ b n
    have e3 : a ^ (n + 1 + 1) = a ^ n * a * a := by rw [Rat.pow_succ, e1]
    have e4 : b ^ (n + 1 + 1) = b ^ n * b * b := by rw [Rat.pow_succ, e2]
    have ec : ((n + 1 : Nat) : Rat) = (n : Rat) + 1 := by push_cast; rfl
    have p1 : 0 ≤ a ^ n * a := Rat.mul_nonneg h1 h0
    have p2 : a ^ n * a ≤ b ^ n * b := Rat.le_trans (Rat.mul_le_mul_of_nonneg_right h2 h0) (Rat.mul_le_mul_of_nonneg_left h (Rat.le_trans h1 h2))
    rw [e1, e2, e3, e4, ec]
    rw [e1, e2] at h3 h4
    refine ⟨p1, p2, ?_, ?_⟩
    · have k1 := Rat.mul_le_mul_of_nonneg_right h3 h0
      have k2 := Rat.mul_nonneg (Rat.mul_nonneg (Rat.le_trans h1 h2) hb) (show 0 ≤ b - a by grind)
      have k3 : a ^ n * a * (b - a) ≤ b ^ n * b * (b - a) := Rat.mul_le_mul_of_nonneg_right p2 (by grind)
      grind
    · have k1 := Rat.mul_le_mul_of_nonneg_right h4 hb
      have k3 : a ^ n * a * (b - a) ≤ b ^ n * b * (b - a) := Rat.mul_le_mul_of_nonneg_right p2 (by grind)
      grind
/-- the sum of N terms -/
def SN (x : Rat) : Nat → Rat
  | 0 => 0
  | k + 1 => SN x k + x ^ (2 * k + 1) / ((2 * k + 1 : Nat) : Rat)
def GN (z : Rat) : Nat → Rat
  | 0 => 0
  | k + 1 => GN z k + z ^ (2 * k)
theorem gn_eq (z : Rat) : ∀ N, GN z N * (1 - z * z) = 1 - z ^ (2 * N)
  | 0 => by
    show (0 : Rat) * _ = 1 - z ^ 0
    rw [Rat.pow_zero]
    grind
  | k + 1 => by
    have ih := gn_eq z k
    show (GN z k + z ^ (2 * k)) * (1 - z * z) = 1 - z ^ (2 * k + 1 + 1)
    rw [Rat.pow_succ, Rat.pow_succ]
    grind
theorem div_le_of {a b c : Rat} (hb : 0 < b) (h : a ≤ c * b) : a / b ≤ c := by
  have e : a / b * b = a := Rat.div_mul_cancel (by grind)
  exact Rat.le_of_mul_le_mul_right (by rw [e]; exact h) hb
theorem le_div_of {a b c : Rat} (hb : 0 < b) (h : c * b ≤ a) : c ≤ a / b := by
  have e : a / b * b = a := Rat.div_mul_cancel (by grind)
  exact Rat.le_of_mul_le_mul_right (by rw [e]; exact h) hb
theorem nat_pos {n : Nat} (h : 0 < n) : (0 : Rat) < (n : Rat) := by
  have := Rat.natCast_lt_natCast.mpr h
  simpa using this
theorem sn_step {a b : Rat} (h0 : 0 ≤ a) (h : a ≤ b) : ∀ N, GN a N * (b - a) ≤ SN b N - SN a N ∧ SN b N - SN a N ≤ GN b N * (b - a)
  | 0 => by
    show (0 : Rat) * _ ≤ 0 - 0 ∧ (0 : Rat) - 0 ≤ 0 * _
    grind
  | k + 1 => by
    obtain ⟨i1, i2⟩ := sn_step h0 h k
    obtain ⟨_, _, p3, p4⟩ := pow_two_pt a b h0 h (2 * k)
    have hp : (0 : Rat) < ((2 * k + 1 : Nat) : Rat) := nat_pos (by omega)
    have ec : ((2 * k + 1 : Nat) : Rat) = ((2 * k : Nat) : Rat) + 1 := by push_cast; rfl
    rw [← ec] at p3 p4
    rw [show GN a (k + 1) = GN a k + a ^ (2 * k) from rfl, show GN b (k + 1) = GN b k + b ^ (2 * k) from rfl, show SN a (k + 1) = SN a k + a ^ (2 * k + 1) / ((2 * k + 1 : Nat) : Rat) from rfl, show SN b (k + 1) = SN b k + b ^ (2 * k + 1) / ((2 * k + 1 : Nat) : Rat) from rfl]
    have q1 : a ^ (2 * k) * (b - a) ≤ (b ^ (2 * k + 1) - a ^ (2 * k + 1)) / ((2 * k + 1 : Nat) : Rat) := le_div_of hp (by grind)
    have q2 : (b ^ (2 * k + 1) - a ^ (2 * k + 1)) / ((2 * k + 1 : Nat) : Rat) ≤ b ^ (2 * k) * (b - a) := div_le_of hp (by grind)
    have e : (b ^ (2 * k + 1) - a ^ (2 * k + 1)) / ((2 * k + 1 : Nat) : Rat) = b ^ (2 * k + 1) / ((2 * k + 1 : Nat) : Rat) - a ^ (2 * k + 1) / ((2 * k + 1 : Nat) : Rat) := by
      rw [Rat.div_def, Rat.div_def, Rat.div_def]
      grind
    rw [e] at q1 q2
    constructor <;> grind
theorem pw_nonneg {z : Rat} (h : 0 ≤ z) (n : Nat) : 0 ≤ z ^ n := (pow_two_pt z z h Rat.le_refl n).1
/-- what a step tells: upper -/
theorem step_hi {y h : Rat} (y0 : 0 ≤ y) (h0 : 0 < h) (hy : y + h ≤ 1 / 3) (N : Nat) : (SN (y + h) N - SN y N) * (1 - 2 * h) * ((1 - y) * (1 + y + h)) ≤ h := by
  obtain ⟨_, s2⟩ := sn_step y0 (show y ≤ y + h by grind) N
  have g := gn_eq (y + h) N
  have pn := pw_nonneg (show 0 ≤ y + h by grind) (2 * N)
  have gb : GN (y + h) N * (1 - (y + h) * (y + h)) ≤ 1 := by grind
  have a1 : SN (y + h) N - SN y N ≤ GN (y + h) N * h := by grind
  have c1 : 0 ≤ (1 - 2 * h) * ((1 - y) * (1 + y + h)) := Rat.mul_nonneg (by grind) (Rat.mul_nonneg (by grind) (by grind))
  have a2 := Rat.mul_le_mul_of_nonneg_right a1 c1
  have yh : y * h ≤ h / 3 := by
    have := Rat.mul_le_mul_of_nonneg_right (show y ≤ 1 / 3 by grind) (Rat.le_of_lt h0)
    grind
  have c2 : (1 - 2 * h) * (1 - y) ≤ 1 - (y + h) := by grind
  have c3 : (1 - 2 * h) * ((1 - y) * (1 + y + h)) ≤ 1 - (y + h) * (y + h) := by
    have := Rat.mul_le_mul_of_nonneg_right c2 (show 0 ≤ 1 + y + h by grind)
    grind
  have gp : 0 ≤ GN (y + h) N := by
    have : ∀ (z : Rat), 0 ≤ z → ∀ N, 0 ≤ GN z N := fun z hz N => by
      induction N with
      | zero => exact Rat.le_refl
      | succ k ih => exact Rat.add_nonneg ih (pw_nonneg hz _)
    exact this _ (by grind) N
  have a3 := Rat.mul_le_mul_of_nonneg_left c3 (Rat.mul_nonneg gp (Rat.le_of_lt h0))
  have a4 := Rat.mul_le_mul_of_nonneg_right gb (Rat.le_of_lt h0)
  grind
/-- .. lower -/
theorem step_lo {y h θ : Rat} (y0 : 0 ≤ y) (h0 : 0 < h) (hy : y + h ≤ 1 / 3) (N : Nat) (ht : y ^ (2 * N) ≤ θ) (t1 : θ ≤ 1 / 2) : h * (1 - θ) ≤ (SN (y + h) N - SN y N) * (1 + 2 * h) * ((1 - (y + h)) * (1 + y)) := by
  obtain ⟨s1, _⟩ := sn_step y0 (show y ≤ y + h by grind) N
  have g := gn_eq y N
  have a1 : GN y N * h ≤ SN (y + h) N - SN y N := by grind
  have yh : (y + h) * h ≤ h / 3 := by
    have := Rat.mul_le_mul_of_nonneg_right hy (Rat.le_of_lt h0)
    grind
  have c2 : 1 - y ≤ (1 + 2 * h) * (1 - (y + h)) := by grind
  have c3 : 1 - y * y ≤ (1 + 2 * h) * ((1 - (y + h)) * (1 + y)) := by
    have := Rat.mul_le_mul_of_nonneg_right c2 (show 0 ≤ 1 + y by grind)
    grind
  have c1 : 0 ≤ (1 + 2 * h) * ((1 - (y + h)) * (1 + y)) := Rat.mul_nonneg (by grind) (Rat.mul_nonneg (by grind) (by grind))
  have gp : 0 ≤ GN y N := by
    have : ∀ (z : Rat), 0 ≤ z → ∀ N, 0 ≤ GN z N := fun z hz N => by
      induction N with
      | zero => exact Rat.le_refl
      | succ k ih => exact Rat.add_nonneg ih (pw_nonneg hz _)
    exact this _ y0 N
  have a2 := Rat.mul_le_mul_of_nonneg_right a1 c1
  have a3 := Rat.mul_le_mul_of_nonneg_left c3 (Rat.mul_nonneg gp (Rat.le_of_lt h0))
  have a4 : h * (1 - θ) ≤ h * (1 - y ^ (2 * N)) := Rat.mul_le_mul_of_nonneg_left (by grind) (Rat.le_of_lt h0)
  have e : GN y N * h * (1 - y * y) = h * (1 - y ^ (2 * N)) := by
    rw [← g]
    grind
  rw [e] at a3
  have a5 := Rat.le_trans a4 (Rat.le_trans a3 a2)
  rw [Rat.mul_assoc (SN (y + h) N - SN y N)]
  exact a5
/-- powers of 1 + u -/
theorem bern_lo {u : Rat} (hu : 0 ≤ u) : ∀ m : Nat, 1 + (m : Rat) * u ≤ (1 + u) ^ m
  | 0 => by
    rw [Rat.pow_zero]
    have : ((0 : Nat) : Rat) = 0 := rfl
    grind
  | m + 1 => by
    have ih := bern_lo hu m
    have ec : ((m + 1 : Nat) : Rat) = (m : Rat) + 1 := by push_cast; rfl
    have mp : (0 : Rat) ≤ (m : Rat) := by
      have := Rat.natCast_le_natCast.mpr (Nat.zero_le m)
      simpa using this
    have k := Rat.mul_le_mul_of_nonneg_right ih (show 0 ≤ 1 + u by grind)
    have k2 := Rat.mul_nonneg mp (Rat.mul_nonneg hu hu)
    rw [Rat.pow_succ, ec]
    grind
theorem bern_hi {u : Rat} (hu : 0 ≤ u) : ∀ m : Nat, (m : Rat) * u ≤ 1 → (1 + u) ^ m * (1 - (m : Rat) * u) ≤ 1
  | 0, _ => by
    rw [Rat.pow_zero]
    have : ((0 : Nat) : Rat) = 0 := rfl
    grind
  | m + 1, h => by
    have ec : ((m + 1 : Nat) : Rat) = (m : Rat) + 1 := by push_cast; rfl
    have mp : (0 : Rat) ≤ (m : Rat) := by
      have := Rat.natCast_le_natCast.mpr (Nat.zero_le m)
      simpa using this
    rw [ec] at h
    have ih := bern_hi hu m (by grind)
    have p := pw_nonneg (show 0 ≤ 1 + u by grind) m
    have k2 := Rat.mul_nonneg p (Rat.add_nonneg (Rat.mul_nonneg mp (Rat.mul_nonneg hu hu)) (Rat.mul_nonneg hu hu))
    rw [Rat.pow_succ, ec]
    grind
theorem wz_nat {w : Rat} (n : Nat) : w ^ ((n : Nat) : Int) = w ^ n := Rat.zpow_natCast w n
theorem wz_pos {w : Rat} (hw : 0 < w) (n : Int) : 0 < w ^ n := by
  cases n with
  | ofNat n => exact Rat.pow_pos hw
  | negSucc n =>
    rw [show Int.negSucc n = -((n + 1 : Nat) : Int) from rfl, Rat.zpow_neg, wz_nat]
    exact Rat.inv_pos.mpr (Rat.pow_pos hw)
theorem wz_add {w : Rat} (hw : 0 < w) (m n : Int) : w ^ (m + n) = w ^ m * w ^ n := Rat.zpow_add (by grind) m n
theorem w_ge {u : Rat} (hu : 0 ≤ u) (m : Nat) : 1 ≤ (1 + u) ^ m := by
  have h := bern_lo hu m
  have mp : (0 : Rat) ≤ (m : Rat) := by
    have := Rat.natCast_le_natCast.mpr (Nat.zero_le m)
    simpa using this
  have := Rat.mul_nonneg mp hu
  grind
theorem wz_mono {u : Rat} (hu : 0 < u) {m n : Int} (h : m ≤ n) : (1 + u) ^ m ≤ (1 + u) ^ n := by
  obtain ⟨k, rfl⟩ : ∃ k : Nat, n = m + k := ⟨(n - m).toNat, by omega⟩
  rw [wz_add (by grind), wz_nat]
  have p := wz_pos (show 0 < 1 + u by grind) m
  have q := Rat.mul_le_mul_of_nonneg_left (w_ge (Rat.le_of_lt hu) k) (Rat.le_of_lt p)
  grind
theorem int_cast_nat (m : Nat) : ((m : Int) : Rat) = (m : Rat) := by push_cast; rfl
theorem floor_bd (x : Rat) : (x.floor : Rat) ≤ x ∧ x < (x.floor : Rat) + 1 := by
  refine ⟨Rat.floor_le x, ?_⟩
  have := Rat.lt_floor_add_one x
  rw [Rat.intCast_add] at this
  exact this
/-- one step down -/
theorem one_lo {u y h : Rat} {n n2 : Int} (hu : 0 < u) (y0 : 0 ≤ y) (h0 : 0 < h) (hy : y + h ≤ 1 / 3) (ih : (1 + u) ^ n * (1 - y) ≤ 1 + y) (hm : (((n2 - n : Int) : Rat) * u) * ((1 - y) * (1 + y + h)) ≤ 2 * h) : (1 + u) ^ n2 * (1 - (y + h)) ≤ 1 + (y + h) := by
  have pn := wz_pos (show 0 < 1 + u by grind) n
  by_cases hmm : n2 ≤ n
  · have m1 := wz_mono hu hmm
    have m2 := Rat.mul_le_mul_of_nonneg_right m1 (show 0 ≤ 1 - (y + h) by grind)
    have m3 := Rat.mul_nonneg (Rat.le_of_lt pn) (Rat.le_of_lt h0)
    grind
  · obtain ⟨m, hm'⟩ : ∃ m : Nat, n2 = n + m := ⟨(n2 - n).toNat, by omega⟩
    subst hm'
    rw [show n + (m : Int) - n = (m : Int) by omega, int_cast_nat] at hm
    have dpos : 0 < (1 - y) * (1 + y + h) := Rat.mul_pos (by grind) (by grind)
    have mp : (0 : Rat) ≤ (m : Rat) * u := Rat.mul_nonneg (by
      have := Rat.natCast_le_natCast.mpr (Nat.zero_le m)
      simpa using this) (Rat.le_of_lt hu)
    have yh : y * h ≤ h / 3 := by
      have := Rat.mul_le_mul_of_nonneg_right (show y ≤ 1 / 3 by grind) (Rat.le_of_lt h0)
      grind
    have yy : y * y ≤ y / 3 := by
      have := Rat.mul_le_mul_of_nonneg_right (show y ≤ 1 / 3 by grind) y0
      grind
    have mu1 : (m : Rat) * u ≤ 1 := by
      refine Rat.le_of_mul_le_mul_right (c := (1 - y) * (1 + y + h)) ?_ dpos
      grind
    have b := bern_hi (Rat.le_of_lt hu) m mu1
    have pm := pw_nonneg (show 0 ≤ 1 + u by grind) m
    -- W^m (1 - y') (1 + y) ≤ (1 - y) (1 + y')
    have k1 : (1 - (y + h)) * (1 + y) ≤ (1 - (m : Rat) * u) * ((1 - y) * (1 + y + h)) := by grind
    have k2 := Rat.mul_le_mul_of_nonneg_left k1 pm
    have k3 := Rat.mul_le_mul_of_nonneg_right b (Rat.le_of_lt dpos)
    have k4 : (1 + u) ^ m * ((1 - (y + h)) * (1 + y)) ≤ (1 - y) * (1 + y + h) := by grind
    have k5 := Rat.mul_le_mul_of_nonneg_left k4 (Rat.le_of_lt pn)
    have k6 := Rat.mul_le_mul_of_nonneg_right ih (show 0 ≤ 1 + y + h by grind)
    refine Rat.le_of_mul_le_mul_right (c := 1 + y) ?_ (by grind)
    rw [wz_add (by grind), wz_nat]
    grind
/-- one step up -/
theorem one_hi {u y h : Rat} {n : Int} {m : Nat} (hu : 0 < u) (y0 : 0 ≤ y) (h0 : 0 < h) (hy : y + h ≤ 1 / 3) (ih : 1 + y ≤ (1 + u) ^ n * (1 - y)) (hm : 2 * h ≤ ((m : Rat) * u) * ((1 - (y + h)) * (1 + y))) : 1 + (y + h) ≤ (1 + u) ^ (n + (m : Int)) * (1 - (y + h)) := by
  have pn := wz_pos (show 0 < 1 + u by grind) n
  have dpos : 0 < (1 - (y + h)) * (1 + y) := Rat.mul_pos (by grind) (by grind)
  have b := bern_lo (Rat.le_of_lt hu) m
  have k1 := Rat.mul_le_mul_of_nonneg_right b (Rat.le_of_lt dpos)
  have k4 : (1 - y) * (1 + y + h) ≤ (1 + u) ^ m * ((1 - (y + h)) * (1 + y)) := by grind
  have k5 := Rat.mul_le_mul_of_nonneg_left k4 (Rat.le_of_lt pn)
  have k6 := Rat.mul_le_mul_of_nonneg_right ih (show 0 ≤ 1 + y + h by grind)
  refine Rat.le_of_mul_le_mul_right (c := 1 + y) ?_ (by grind)
  rw [wz_add (by grind), wz_nat]
  grind
theorem pow_zero_odd (k : Nat) : (0 : Rat) ^ (k + 1) = 0 := by
  rw [Rat.pow_succ]
  grind
theorem sn_zero : ∀ N, SN 0 N = 0
  | 0 => rfl
  | k + 1 => by
    show SN 0 k + (0 : Rat) ^ (2 * k + 1) / _ = 0
    rw [sn_zero k, pow_zero_odd, Rat.div_def]
    grind
theorem zero_div' (u : Rat) : (0 : Rat) / u = 0 := by
  rw [Rat.div_def]
  grind
theorem floor_zero : (0 : Rat).floor = 0 := by decide
theorem br_lo {u h : Rat} (hu : 0 < u) (h0 : 0 < h) (N : Nat) : ∀ j : Nat, (j : Rat) * h ≤ 1 / 3 → (1 + u) ^ ((2 * SN ((j : Rat) * h) N * (1 - 2 * h) / u).floor - (j : Int)) * (1 - (j : Rat) * h) ≤ 1 + (j : Rat) * h
  | 0, _ => by
    have e : ((0 : Nat) : Rat) * h = 0 := by
      have : ((0 : Nat) : Rat) = 0 := rfl
      grind
    rw [e, sn_zero, show (2 : Rat) * 0 * (1 - 2 * h) = 0 by grind, zero_div', floor_zero]
    show (1 + u) ^ (0 : Int) * (1 - 0) ≤ 1 + 0
    rw [show (1 + u) ^ (0 : Int) = 1 from Rat.pow_zero _]
    grind
  | j + 1, hj => by
    have ec : ((j + 1 : Nat) : Rat) * h = (j : Rat) * h + h := by
      have : ((j + 1 : Nat) : Rat) = (j : Rat) + 1 := by push_cast; rfl
      rw [this]
      grind
    rw [ec] at hj ⊢
    have jp : (0 : Rat) ≤ (j : Rat) := by
      have := Rat.natCast_le_natCast.mpr (Nat.zero_le j)
      simpa using this
    have y0 : 0 ≤ (j : Rat) * h := Rat.mul_nonneg jp (Rat.le_of_lt h0)
    have ih := br_lo hu h0 N j (by grind)
    generalize (j : Rat) * h = y at y0 hj ih
    have st := step_hi y0 h0 hj N
    refine one_lo (n := (2 * SN y N * (1 - 2 * h) / u).floor - (j : Int)) hu y0 h0 hj ih ?_
    obtain ⟨f1, _⟩ := floor_bd (2 * SN (y + h) N * (1 - 2 * h) / u)
    obtain ⟨_, f2⟩ := floor_bd (2 * SN y N * (1 - 2 * h) / u)
    have c : (((2 * SN (y + h) N * (1 - 2 * h) / u).floor - ((j + 1 : Nat) : Int) - ((2 * SN y N * (1 - 2 * h) / u).floor - (j : Int)) : Int) : Rat) = ((2 * SN (y + h) N * (1 - 2 * h) / u).floor : Rat) - ((2 * SN y N * (1 - 2 * h) / u).floor : Rat) - 1 := by
      rw [show (2 * SN (y + h) N * (1 - 2 * h) / u).floor - ((j + 1 : Nat) : Int) - ((2 * SN y N * (1 - 2 * h) / u).floor - (j : Int)) = (2 * SN (y + h) N * (1 - 2 * h) / u).floor - (2 * SN y N * (1 - 2 * h) / u).floor - 1 by omega, Rat.intCast_sub, Rat.intCast_sub]
      rfl
    rw [c]
    have e1 : 2 * SN (y + h) N * (1 - 2 * h) / u * u = 2 * SN (y + h) N * (1 - 2 * h) := Rat.div_mul_cancel (by grind)
    have e2 : 2 * SN y N * (1 - 2 * h) / u * u = 2 * SN y N * (1 - 2 * h) := Rat.div_mul_cancel (by grind)
    have g1 := Rat.mul_le_mul_of_nonneg_right f1 (Rat.le_of_lt hu)
    have g2 := Rat.mul_le_mul_of_nonneg_right (Rat.le_of_lt f2) (Rat.le_of_lt hu)
    have dpos : 0 < (1 - y) * (1 + y + h) := Rat.mul_pos (by grind) (by grind)
    have g3 : (((2 * SN (y + h) N * (1 - 2 * h) / u).floor : Rat) - ((2 * SN y N * (1 - 2 * h) / u).floor : Rat) - 1) * u ≤ 2 * ((SN (y + h) N - SN y N) * (1 - 2 * h)) := by grind
    have g4 := Rat.mul_le_mul_of_nonneg_right g3 (Rat.le_of_lt dpos)
    refine Rat.le_trans g4 ?_
    grind
theorem br_hi {u h θ : Rat} (hu : 0 < u) (h0 : 0 < h) (N : Nat) (t1 : θ ≤ 1 / 2) (ht : ∀ z : Rat, 0 ≤ z → z ≤ 1 / 3 → z ^ (2 * N) ≤ θ) : ∀ j : Nat, (j : Rat) * h ≤ 1 / 3 → 1 + (j : Rat) * h ≤ (1 + u) ^ ((2 * SN ((j : Rat) * h) N * ((1 + 2 * h) / (1 - θ)) / u).floor + (j : Int)) * (1 - (j : Rat) * h)
  | 0, _ => by
    have e : ((0 : Nat) : Rat) * h = 0 := by
      have : ((0 : Nat) : Rat) = 0 := rfl
      grind
    rw [e, sn_zero, show (2 : Rat) * 0 * ((1 + 2 * h) / (1 - θ)) = 0 by grind, zero_div', floor_zero]
    show 1 + 0 ≤ (1 + u) ^ (0 : Int) * (1 - 0)
    rw [show (1 + u) ^ (0 : Int) = 1 from Rat.pow_zero _]
    grind
  | j + 1, hj => by
    have ec : ((j + 1 : Nat) : Rat) * h = (j : Rat) * h + h := by
      have : ((j + 1 : Nat) : Rat) = (j : Rat) + 1 := by push_cast; rfl
      rw [this]
      grind
    rw [ec] at hj ⊢
    have jp : (0 : Rat) ≤ (j : Rat) := by
      have := Rat.natCast_le_natCast.mpr (Nat.zero_le j)
      simpa using this
    have y0 : 0 ≤ (j : Rat) * h := Rat.mul_nonneg jp (Rat.le_of_lt h0)
    have ih := br_hi hu h0 N t1 ht j (by grind)
    generalize (j : Rat) * h = y at y0 hj ih
    have st := step_lo (θ := θ) y0 h0 hj N (ht y y0 (by grind)) t1
    clear ht
    have d1 : 0 < 1 - θ := by grind
    have ecc : (1 + 2 * h) / (1 - θ) * (1 - θ) = 1 + 2 * h := Rat.div_mul_cancel (by grind)
    generalize (1 + 2 * h) / (1 - θ) = cc at ecc ih ⊢
    have epos : 0 < (1 - (y + h)) * (1 + y) := Rat.mul_pos (by grind) (by grind)
    -- 2 h ≤ (B' - B) E
    have s2 : 2 * h ≤ (2 * SN (y + h) N * cc - 2 * SN y N * cc) * ((1 - (y + h)) * (1 + y)) := by
      refine Rat.le_of_mul_le_mul_right (c := 1 - θ) ?_ d1
      rw [← ecc] at st
      clear ih ecc
      have e : (2 * SN (y + h) N * cc - 2 * SN y N * cc) * ((1 - (y + h)) * (1 + y)) * (1 - θ) = 2 * ((SN (y + h) N - SN y N) * (cc * (1 - θ)) * ((1 - (y + h)) * (1 + y))) := by grind
      rw [e, Rat.mul_assoc]
      exact Rat.mul_le_mul_of_nonneg_left st (by decide)
    obtain ⟨_, f1⟩ := floor_bd (2 * SN (y + h) N * cc / u)
    obtain ⟨f2, _⟩ := floor_bd (2 * SN y N * cc / u)
    have e1 : 2 * SN (y + h) N * cc / u * u = 2 * SN (y + h) N * cc := Rat.div_mul_cancel (by grind)
    have e2 : 2 * SN y N * cc / u * u = 2 * SN y N * cc := Rat.div_mul_cancel (by grind)
    have g1 := Rat.mul_le_mul_of_nonneg_right (Rat.le_of_lt f1) (Rat.le_of_lt hu)
    have g2 := Rat.mul_le_mul_of_nonneg_right f2 (Rat.le_of_lt hu)
    have bpos : 0 < 2 * SN (y + h) N * cc - 2 * SN y N * cc := by
      refine Rat.lt_of_mul_lt_mul_right (c := (1 - (y + h)) * (1 + y)) ?_ (Rat.le_of_lt epos)
      grind
    have mlt : (0 : Rat) < ((2 * SN (y + h) N * cc / u).floor : Rat) - ((2 * SN y N * cc / u).floor : Rat) + 1 := by
      refine Rat.lt_of_mul_lt_mul_right (c := u) ?_ (Rat.le_of_lt hu)
      grind
    have mi : 0 < (2 * SN (y + h) N * cc / u).floor - (2 * SN y N * cc / u).floor + 1 := by
      have : (((0 : Int)) : Rat) < (((2 * SN (y + h) N * cc / u).floor - (2 * SN y N * cc / u).floor + 1 : Int) : Rat) := by
        rw [Rat.intCast_add, Rat.intCast_sub]
        exact mlt
      exact Rat.intCast_lt_intCast.mp this
    obtain ⟨m, hm⟩ : ∃ m : Nat, (2 * SN (y + h) N * cc / u).floor - (2 * SN y N * cc / u).floor + 1 = (m : Int) := ⟨_, (Int.toNat_of_nonneg (by omega)).symm⟩
    have mr : (m : Rat) = ((2 * SN (y + h) N * cc / u).floor : Rat) - ((2 * SN y N * cc / u).floor : Rat) + 1 := by
      rw [← int_cast_nat, ← hm, Rat.intCast_add, Rat.intCast_sub]
      rfl
    have r := one_hi (n := (2 * SN y N * cc / u).floor + (j : Int)) (m := m) hu y0 h0 hj ih (by
      have k := Rat.mul_le_mul_of_nonneg_right (show 2 * SN (y + h) N * cc - 2 * SN y N * cc ≤ (m : Rat) * u by rw [mr]; grind) (Rat.le_of_lt epos)
      exact Rat.le_trans s2 k)
    rw [show (2 * SN (y + h) N * cc / u).floor + ((j + 1 : Nat) : Int) = (2 * SN y N * cc / u).floor + (j : Int) + (m : Int) by omega]
    exact r
theorem nat_nn (n : Nat) : (0 : Rat) ≤ (n : Rat) := by
  have := Rat.natCast_le_natCast.mpr (Nat.zero_le n)
  simpa using this
theorem theta_bd {z : Rat} (z0 : 0 ≤ z) (z1 : z ≤ 1 / 3) : ∀ k : Nat, z ^ (2 * k) * ((k : Rat) + 1) ≤ 1
  | 0 => by
    show z ^ 0 * _ ≤ 1
    rw [Rat.pow_zero]
    have : ((0 : Nat) : Rat) = 0 := rfl
    grind
  | k + 1 => by
    have ih := theta_bd z0 z1 k
    have e : z ^ (2 * (k + 1)) = z ^ (2 * k) * (z * z) := by
      show z ^ (2 * k + 1 + 1) = _
      rw [Rat.pow_succ, Rat.pow_succ, Rat.mul_assoc]
    have ec : ((k + 1 : Nat) : Rat) = (k : Rat) + 1 := by push_cast; rfl
    have zz : z * z ≤ 1 / 9 := by
      have a := Rat.mul_le_mul_of_nonneg_right z1 z0
      grind
    have p := pw_nonneg z0 (2 * k)
    have kp := nat_nn k
    rw [e, ec]
    have q1 : 0 ≤ z ^ (2 * k) * ((k : Rat) + 1 + 1) := Rat.mul_nonneg p (by grind)
    have q2 := Rat.mul_le_mul_of_nonneg_right zz q1
    have q3 := Rat.mul_le_mul_of_nonneg_left (show (k : Rat) + 1 + 1 ≤ 2 * ((k : Rat) + 1) by grind) p
    grind
/-- the step of a table -/
def uJ (J : Nat) : Rat := 1 / ((J : Rat) * J * J)
def iJ (J : Nat) : Rat := 1 / (J : Rat)
theorem iJ_mul {J : Nat} (h : 0 < J) : iJ J * (J : Rat) = 1 := Rat.div_mul_cancel (by have := nat_pos h; grind)
theorem iJ_pos {J : Nat} (h : 0 < J) : 0 < iJ J := by
  have := nat_pos h
  unfold iJ
  rw [Rat.div_def]
  exact Rat.mul_pos (by decide) (Rat.inv_pos.mpr this)
theorem uJ_eq {J : Nat} (h : 0 < J) : uJ J = iJ J * iJ J * iJ J := by
  have jp := nat_pos h
  have i := iJ_mul h
  have p3 : 0 < (J : Rat) * J * J := Rat.mul_pos (Rat.mul_pos jp jp) jp
  have e : uJ J * ((J : Rat) * J * J) = 1 := Rat.div_mul_cancel (by grind)
  have e2 : iJ J * iJ J * iJ J * ((J : Rat) * J * J) = 1 := by
    have : iJ J * iJ J * iJ J * ((J : Rat) * J * J) = (iJ J * J) * (iJ J * J) * (iJ J * J) := by grind
    rw [this, i, Rat.mul_one, Rat.mul_one]
  have k : uJ J * ((J : Rat) * J * J) = iJ J * iJ J * iJ J * ((J : Rat) * J * J) := by rw [e, e2]
  refine Rat.le_antisymm ?_ ?_
  · exact Rat.le_of_mul_le_mul_right (by rw [k]; exact Rat.le_refl) p3
  · exact Rat.le_of_mul_le_mul_right (by rw [k]; exact Rat.le_refl) p3
theorem uJ_pos {J : Nat} (h : 0 < J) : 0 < uJ J := by
  rw [uJ_eq h]
  exact Rat.mul_pos (Rat.mul_pos (iJ_pos h) (iJ_pos h)) (iJ_pos h)
theorem iJ_le {J : Nat} {m : Nat} (hm : 0 < m) (h : m ≤ J) : iJ J * (m : Rat) ≤ 1 := by
  have a := Rat.natCast_le_natCast.mpr h
  have b := Rat.mul_le_mul_of_nonneg_left a (Rat.le_of_lt (iJ_pos (show 0 < J by omega)))
  rw [iJ_mul (by omega)] at b
  exact b
/-- a ≤ ln r ≤ b -/
def LnIn (r a b : Rat) : Prop := ∃ (C : Rat) (J0 : Nat), 0 ≤ C ∧ ∀ J : Nat, J0 ≤ J → 10 ≤ J → ∃ n m : Int, (1 + uJ J) ^ n ≤ r ∧ r ≤ (1 + uJ J) ^ m ∧ a - C * iJ J ≤ (n : Rat) * uJ J ∧ (m : Rat) * uJ J ≤ b + C * iJ J
theorem LnIn.pos {r a b : Rat} (h : LnIn r a b) : 0 < r := by
  obtain ⟨C, J0, _, h⟩ := h
  obtain ⟨n, m, h1, _⟩ := h (J0 + 10) (by omega) (by omega)
  have p := wz_pos (show 0 < 1 + uJ (J0 + 10) by have := uJ_pos (show 0 < J0 + 10 by omega); grind) n
  grind
theorem LnIn.weak {r a b a' b' : Rat} (h : LnIn r a b) (ha : a' ≤ a) (hb : b ≤ b') : LnIn r a' b' := by
  obtain ⟨C, J0, c0, h⟩ := h
  refine ⟨C, J0, c0, fun J h1 h2 => ?_⟩
  obtain ⟨n, m, p1, p2, p3, p4⟩ := h J h1 h2
  exact ⟨n, m, p1, p2, by grind, by grind⟩
theorem lnIn_one : LnIn 1 0 0 := ⟨0, 0, Rat.le_refl, fun J _ h2 => ⟨0, 0, by
  rw [show (1 + uJ J) ^ (0 : Int) = 1 from Rat.pow_zero _]
  exact Rat.le_refl, by
  rw [show (1 + uJ J) ^ (0 : Int) = 1 from Rat.pow_zero _]
  exact Rat.le_refl, by
  have : ((0 : Int) : Rat) = 0 := rfl
  grind, by
  have : ((0 : Int) : Rat) = 0 := rfl
  grind⟩⟩
theorem LnIn.mul {r a b s c d : Rat} (h : LnIn r a b) (g : LnIn s c d) : LnIn (r * s) (a + c) (b + d) := by
  have rp := h.pos
  have sp := g.pos
  obtain ⟨C, J0, c0, h⟩ := h
  obtain ⟨C', J1, c1, g⟩ := g
  refine ⟨C + C', J0 + J1, Rat.add_nonneg c0 c1, fun J h1 h2 => ?_⟩
  obtain ⟨n, m, p1, p2, p3, p4⟩ := h J (by omega) h2
  obtain ⟨n', m', q1, q2, q3, q4⟩ := g J (by omega) h2
  have wp : 0 < 1 + uJ J := by have := uJ_pos (show 0 < J by omega); grind
  have w1 := wz_pos wp n
  have w2 := wz_pos wp n'
  have w3 := wz_pos wp m
  refine ⟨n + n', m + m', ?_, ?_, ?_, ?_⟩
  · rw [wz_add wp]
    exact Rat.le_trans (Rat.mul_le_mul_of_nonneg_right p1 (Rat.le_of_lt w2)) (Rat.mul_le_mul_of_nonneg_left q1 (Rat.le_of_lt rp))
  · rw [wz_add wp]
    exact Rat.le_trans (Rat.mul_le_mul_of_nonneg_right p2 (Rat.le_of_lt sp)) (Rat.mul_le_mul_of_nonneg_left q2 (Rat.le_of_lt w3))
  · rw [Rat.intCast_add]
    grind
  · rw [Rat.intCast_add]
    grind
theorem inv_anti {a b : Rat} (ha : 0 < a) (h : a ≤ b) : b⁻¹ ≤ a⁻¹ := by
  have hb : 0 < b := by grind
  have e1 : a * a⁻¹ = 1 := Rat.mul_inv_cancel _ (by grind)
  have e2 : b * b⁻¹ = 1 := Rat.mul_inv_cancel _ (by grind)
  have ib := Rat.inv_pos.mpr hb
  have ia := Rat.inv_pos.mpr ha
  have k := Rat.mul_le_mul_of_nonneg_right (Rat.mul_le_mul_of_nonneg_right h (Rat.le_of_lt ia)) (Rat.le_of_lt ib)
  have e3 : b * a⁻¹ * b⁻¹ = a⁻¹ := by rw [Rat.mul_assoc, Rat.mul_comm a⁻¹, ← Rat.mul_assoc, e2, Rat.one_mul]
  rw [e3, e1, Rat.one_mul] at k
  exact k
theorem LnIn.inv {r a b : Rat} (h : LnIn r a b) : LnIn r⁻¹ (-b) (-a) := by
  have rp := h.pos
  obtain ⟨C, J0, c0, h⟩ := h
  refine ⟨C, J0, c0, fun J h1 h2 => ?_⟩
  obtain ⟨n, m, p1, p2, p3, p4⟩ := h J h1 h2
  have wp : 0 < 1 + uJ J := by have := uJ_pos (show 0 < J by omega); grind
  refine ⟨-m, -n, ?_, ?_, ?_, ?_⟩
  · rw [Rat.zpow_neg]
    exact inv_anti rp p2
  · rw [Rat.zpow_neg]
    exact inv_anti (wz_pos wp n) p1
  · rw [Rat.intCast_neg]
    grind
  · rw [Rat.intCast_neg]
    grind
theorem LnIn.pow {r a b : Rat} (h : LnIn r a b) : ∀ k : Nat, LnIn (r ^ k) ((k : Rat) * a) ((k : Rat) * b)
  | 0 => by
    have : ((0 : Nat) : Rat) = 0 := rfl
    rw [Rat.pow_zero]
    exact lnIn_one.weak (by grind) (by grind)
  | k + 1 => by
    have ih := (LnIn.pow h k).mul h
    have ec : ((k + 1 : Nat) : Rat) = (k : Rat) + 1 := by push_cast; rfl
    rw [Rat.pow_succ, ec]
    exact ih.weak (by grind) (by grind)
theorem arch (C a : Rat) (ha : 0 < a) : ∃ J1 : Nat, ∀ J : Nat, J1 ≤ J → 0 < J → C * iJ J < a := by
  obtain ⟨J1, hJ⟩ : ∃ J1 : Nat, C / a < (J1 : Rat) := by
    obtain ⟨_, f⟩ := floor_bd (C / a)
    refine ⟨((C / a).floor + 1).toNat, ?_⟩
    have : (((C / a).floor + 1 : Int) : Rat) ≤ ((((C / a).floor + 1).toNat : Int) : Rat) := Rat.intCast_le_intCast.mpr (by omega)
    rw [Rat.intCast_add, int_cast_nat] at this
    have e : ((1 : Int) : Rat) = 1 := rfl
    grind
  refine ⟨J1, fun J h hp => ?_⟩
  have i := iJ_mul hp
  have ip := iJ_pos hp
  have hJ2 : (J1 : Rat) ≤ (J : Rat) := Rat.natCast_le_natCast.mpr h
  have e : C / a * a = C := Rat.div_mul_cancel (by grind)
  have k1 := Rat.mul_lt_mul_of_pos_right (show C / a < (J : Rat) by grind) ha
  rw [e] at k1
  have k2 := Rat.mul_lt_mul_of_pos_right k1 ip
  have e2 : (J : Rat) * a * iJ J = a := by rw [Rat.mul_comm (J : Rat) a, Rat.mul_assoc, Rat.mul_comm (J : Rat), i, Rat.mul_one]
  rw [e2] at k2
  exact k2
theorem LnIn.gt_one {r a b : Rat} (h : LnIn r a b) (ha : 0 < a) : 1 < r := by
  obtain ⟨C, J0, c0, h⟩ := h
  obtain ⟨J1, hJ⟩ := arch C a ha
  obtain ⟨n, m, p1, _, p3, _⟩ := h (J0 + J1 + 10) (by omega) (by omega)
  have k := hJ (J0 + J1 + 10) (by omega) (by omega)
  have up := uJ_pos (show 0 < J0 + J1 + 10 by omega)
  have np : (0 : Rat) < (n : Rat) := Rat.lt_of_mul_lt_mul_right (c := uJ (J0 + J1 + 10)) (by grind) (Rat.le_of_lt up)
  have n1 : 0 < n := by
    have : (((0 : Int)) : Rat) < (n : Rat) := np
    exact Rat.intCast_lt_intCast.mp this
  have := wz_mono up (show 1 ≤ n by omega)
  rw [show (1 + uJ (J0 + J1 + 10)) ^ (1 : Int) = 1 + uJ (J0 + J1 + 10) from by
    show (1 + uJ (J0 + J1 + 10)) ^ ((1 : Nat) : Int) = _
    rw [wz_nat, show (1 : Nat) = 0 + 1 from rfl, Rat.pow_succ, Rat.pow_zero]
    grind] at this
  grind
theorem LnIn.near {r a b η : Rat} (h : LnIn r a b) (hb : b < η) (h0 : 0 < η) (h1 : η < 1) : r * (1 - η) ≤ 1 := by
  have rp := h.pos
  obtain ⟨C, J0, c0, h⟩ := h
  obtain ⟨J1, hJ⟩ := arch C (η - b) (by grind)
  obtain ⟨n, m, _, p2, _, p4⟩ := h (J0 + J1 + 10) (by omega) (by omega)
  have k := hJ (J0 + J1 + 10) (by omega) (by omega)
  have up := uJ_pos (show 0 < J0 + J1 + 10 by omega)
  by_cases hm : m ≤ 0
  · have := wz_mono up hm
    rw [show (1 + uJ (J0 + J1 + 10)) ^ (0 : Int) = 1 from Rat.pow_zero _] at this
    have r1 : r ≤ 1 := Rat.le_trans p2 this
    have := Rat.mul_nonneg (Rat.le_of_lt rp) (Rat.le_of_lt h0)
    grind
  · obtain ⟨m', rfl⟩ : ∃ m' : Nat, m = (m' : Int) := ⟨m.toNat, (Int.toNat_of_nonneg (by omega)).symm⟩
    rw [wz_nat] at p2
    rw [int_cast_nat] at p4
    have mu : (m' : Rat) * uJ (J0 + J1 + 10) ≤ η := by grind
    have b2 := bern_hi (Rat.le_of_lt up) m' (by grind)
    have q1 := Rat.mul_le_mul_of_nonneg_right p2 (show 0 ≤ 1 - η by grind)
    have q2 := Rat.mul_le_mul_of_nonneg_left (show 1 - η ≤ 1 - (m' : Rat) * uJ (J0 + J1 + 10) by grind) (pw_nonneg (show 0 ≤ 1 + uJ (J0 + J1 + 10) by grind) m')
    exact Rat.le_trans q1 (Rat.le_trans q2 b2)
theorem sn_bd {y : Rat} (y0 : 0 ≤ y) (y1 : y ≤ 1 / 3) (N : Nat) : 0 ≤ SN y N ∧ SN y N ≤ 3 / 8 := by
  obtain ⟨s1, s2⟩ := sn_step (show (0 : Rat) ≤ 0 from Rat.le_refl) y0 N
  rw [sn_zero] at s1 s2
  have g := gn_eq y N
  have pn := pw_nonneg y0 (2 * N)
  have yy : y * y ≤ 1 / 9 := by
    have a := Rat.mul_le_mul_of_nonneg_right y1 y0
    grind
  have gp : ∀ (z : Rat), 0 ≤ z → ∀ N, 0 ≤ GN z N := fun z hz N => by
    induction N with
    | zero => exact Rat.le_refl
    | succ k ih => exact Rat.add_nonneg ih (pw_nonneg hz _)
  have g1 := gp y y0 N
  have g0 := gp 0 Rat.le_refl N
  have g2 : GN y N * (8 / 9) ≤ 1 := by
    have := Rat.mul_le_mul_of_nonneg_left (show 8 / 9 ≤ 1 - y * y by grind) g1
    grind
  have g3 : GN y N ≤ 9 / 8 := by grind
  have g4 := Rat.mul_le_mul_of_nonneg_right g3 y0
  have g5 := Rat.mul_nonneg g0 y0
  constructor <;> grind
/-- ln ((1 + y) / (1 - y)) is twice the sum -/
theorem ln_base {y A E : Rat} {J1 : Nat} (y0 : 0 ≤ y) (y1 : y ≤ 1 / 3) (h : ∀ J, J1 ≤ J → A - E ≤ 2 * SN y J ∧ 2 * SN y J ≤ A + E) : LnIn ((1 + y) / (1 - y)) (A - E) (A + E) := by
  have d : 0 < 1 - y := by grind
  by_cases e : y = 0
  · subst e
    have h := h J1 (Nat.le_refl _)
    rw [sn_zero] at h
    have : (1 + (0 : Rat)) / (1 - 0) = 1 := by
      rw [Rat.add_zero, show (1 : Rat) - 0 = 1 by grind, Rat.div_def]
      grind
    rw [this]
    exact lnIn_one.weak (by grind) (by grind)
  · have hy : 0 < y := by grind
    refine ⟨2, J1, by decide, fun J hJ hJ10 => ?_⟩
    have Jp : 0 < J := by omega
    have i := iJ_mul Jp
    have ip := iJ_pos Jp
    have up := uJ_pos Jp
    have i10 := iJ_le (m := 10) (by decide) hJ10
    have c10 : ((10 : Nat) : Rat) = 10 := rfl
    rw [c10] at i10
    have eh : (J : Rat) * (y * iJ J) = y := by rw [Rat.mul_comm, Rat.mul_assoc, i, Rat.mul_one]
    have h0 : 0 < y * iJ J := Rat.mul_pos hy ip
    have hh : y * iJ J ≤ iJ J / 3 := by
      have := Rat.mul_le_mul_of_nonneg_right y1 (Rat.le_of_lt ip)
      grind
    have lo := br_lo up h0 J J (by rw [eh]; exact y1)
    have hi := br_hi (θ := iJ J) up h0 J (by grind) (fun z z0 z1 => by
      have t := theta_bd z0 z1 J
      have zp := pw_nonneg z0 (2 * J)
      have jn := nat_nn J
      have t2 : z ^ (2 * J) * (J : Rat) ≤ 1 := by grind
      have t3 := Rat.mul_le_mul_of_nonneg_right t2 (Rat.le_of_lt ip)
      have e2 : z ^ (2 * J) * (J : Rat) * iJ J = z ^ (2 * J) := by rw [Rat.mul_assoc, Rat.mul_comm (J : Rat), i, Rat.mul_one]
      rw [e2] at t3
      grind) J (by rw [eh]; exact y1)
    rw [eh] at lo hi
    obtain ⟨a1, a2⟩ := h J hJ
    obtain ⟨b1, b2⟩ := sn_bd y0 y1 J
    -- the small things
    have ue := uJ_eq Jp
    have ii : iJ J * iJ J ≤ iJ J / 10 := by
      have := Rat.mul_le_mul_of_nonneg_left i10 (Rat.le_of_lt ip)
      grind
    have u1 : uJ J ≤ iJ J / 100 := by
      have := Rat.mul_le_mul_of_nonneg_right ii (Rat.le_of_lt ip)
      rw [ue]
      grind
    have Ju : (J : Rat) * uJ J ≤ iJ J / 10 := by
      have e2 : (J : Rat) * uJ J = iJ J * iJ J := by rw [ue, Rat.mul_comm, Rat.mul_assoc, i, Rat.mul_one]
      rw [e2]
      exact ii
    generalize hS : SN y J = S at lo hi a1 a2 b1 b2
    have Sh : S * (y * iJ J) ≤ iJ J / 8 := by
      have k1 := Rat.mul_le_mul_of_nonneg_right b2 (Rat.le_of_lt h0)
      grind
    refine ⟨(2 * S * (1 - 2 * (y * iJ J)) / uJ J).floor - (J : Int), (2 * S * ((1 + 2 * (y * iJ J)) / (1 - iJ J)) / uJ J).floor + (J : Int), le_div_of d lo, div_le_of d hi, ?_, ?_⟩
    · obtain ⟨_, f⟩ := floor_bd (2 * S * (1 - 2 * (y * iJ J)) / uJ J)
      have e1 : 2 * S * (1 - 2 * (y * iJ J)) / uJ J * uJ J = 2 * S * (1 - 2 * (y * iJ J)) := Rat.div_mul_cancel (by grind)
      have g := Rat.mul_le_mul_of_nonneg_right (Rat.le_of_lt f) (Rat.le_of_lt up)
      rw [e1] at g
      rw [Rat.intCast_sub, int_cast_nat]
      generalize (((2 * S * (1 - 2 * (y * iJ J)) / uJ J).floor : Int) : Rat) = fl at g ⊢
      grind
    · obtain ⟨f, _⟩ := floor_bd (2 * S * ((1 + 2 * (y * iJ J)) / (1 - iJ J)) / uJ J)
      have e1 : 2 * S * ((1 + 2 * (y * iJ J)) / (1 - iJ J)) / uJ J * uJ J = 2 * S * ((1 + 2 * (y * iJ J)) / (1 - iJ J)) := Rat.div_mul_cancel (by grind)
      have g := Rat.mul_le_mul_of_nonneg_right f (Rat.le_of_lt up)
      rw [e1] at g
      have cc : (1 + 2 * (y * iJ J)) / (1 - iJ J) ≤ 1 + 2 * iJ J := div_le_of (by grind) (by grind)
      have k := Rat.mul_le_mul_of_nonneg_left cc (show 0 ≤ 2 * S by grind)
      have k2 := Rat.mul_le_mul_of_nonneg_right b2 (Rat.le_of_lt ip)
      rw [Rat.intCast_add, int_cast_nat]
      generalize (((2 * S * ((1 + 2 * (y * iJ J)) / (1 - iJ J)) / uJ J).floor : Int) : Rat) = fl at g ⊢
      generalize 2 * S * ((1 + 2 * (y * iJ J)) / (1 - iJ J)) = X at g k
      grind
theorem neg_odd (x : Rat) : ∀ k : Nat, (-x) ^ (2 * k + 1) = -(x ^ (2 * k + 1)) ∧ (-x) ^ (2 * k) = x ^ (2 * k)
  | 0 => by
    show (-x) ^ (0 + 1) = -(x ^ (0 + 1)) ∧ (-x) ^ 0 = x ^ 0
    rw [Rat.pow_succ, Rat.pow_succ, Rat.pow_zero, Rat.pow_zero]
    constructor <;> grind
  | k + 1 => by
    obtain ⟨h1, h2⟩ := neg_odd x k
    show (-x) ^ (2 * k + 1 + 1 + 1) = -(x ^ (2 * k + 1 + 1 + 1)) ∧ (-x) ^ (2 * k + 1 + 1) = x ^ (2 * k + 1 + 1)
    rw [Rat.pow_succ, Rat.pow_succ, h1, Rat.pow_succ x (2 * k + 1 + 1), Rat.pow_succ x (2 * k + 1)]
    constructor <;> grind
theorem sn_neg (x : Rat) : ∀ N, SN (-x) N = -SN x N
  | 0 => by
    show (0 : Rat) = -0
    decide
  | k + 1 => by
    show SN (-x) k + (-x) ^ (2 * k + 1) / _ = -(SN x k + x ^ (2 * k + 1) / _)
    rw [sn_neg x k, (neg_odd x k).1, Rat.div_def, Rat.div_def]
    grind
/-- .. for any sign -/
theorem ln_any {x A E : Rat} {J1 : Nat} (x0 : -(1 / 3) ≤ x) (x1 : x ≤ 1 / 3) (h : ∀ J, J1 ≤ J → A - E ≤ 2 * SN x J ∧ 2 * SN x J ≤ A + E) : LnIn ((1 + x) / (1 - x)) (A - E) (A + E) := by
  by_cases hx : 0 ≤ x
  · exact ln_base hx x1 h
  · have b := ln_base (y := -x) (A := -A) (E := E) (J1 := J1) (by grind) (by grind) fun J hJ => by
      have := h J hJ
      rw [sn_neg]
      constructor <;> grind
    have i := b.inv
    have e : ((1 + -x) / (1 - -x))⁻¹ = (1 + x) / (1 - x) := by
      refine Rat.inv_eq_of_mul_eq_one ?_
      rw [Rat.div_def, Rat.div_def]
      have e1 : (1 - -x) * (1 - -x)⁻¹ = 1 := Rat.mul_inv_cancel _ (by grind)
      have e2 : (1 - x) * (1 - x)⁻¹ = 1 := Rat.mul_inv_cancel _ (by grind)
      have : (1 + -x) * (1 - -x)⁻¹ * ((1 + x) * (1 - x)⁻¹) = ((1 - -x) * (1 - -x)⁻¹) * ((1 - x) * (1 - x)⁻¹) := by grind
      rw [this, e1, e2, Rat.mul_one]
    rw [e] at i
    exact i.weak (by grind) (by grind)
end

/-! ### artanh and log_of in whole numbers -/
section
def pwA (p q : Int) (bits : Nat) : Nat → Int
  | 0 => p * 2 ^ bits / q
  | k + 1 => pwA p q bits k * p * p / (q * q)
def totA (p q : Int) (bits : Nat) : Nat → Int
  | 0 => 0
  | k + 1 => totA p q bits k + pwA p q bits k / ((2 * k + 1 : Nat) : Int)
def endA (v : Int) : Bool := decide (v = 0) || decide (v = -1)
def ArtOk (p q : Int) (bits : Nat) (T : Int) : Prop := ∃ k, endA (pwA p q bits k) = true ∧ (∀ i, i < k → endA (pwA p q bits i) = false) ∧ T = totA p q bits k
theorem fl_bd {a b : Int} (hb : 0 < b) : ((a / b : Int) : Rat) * (b : Rat) ≤ (a : Rat) ∧ (a : Rat) < (((a / b : Int) : Rat) + 1) * (b : Rat) := by
  have h1 := Int.mul_ediv_self_le (x := a) (k := b) (by omega)
  have h2 := Int.lt_mul_ediv_self_add (x := a) (k := b) hb
  constructor
  · rw [← Rat.intCast_mul]
    exact Rat.intCast_le_intCast.mpr (by rw [Int.mul_comm]; exact h1)
  · have e : (((a / b : Int) : Rat) + 1) * (b : Rat) = ((b * (a / b) + b : Int) : Rat) := by
      rw [Rat.intCast_add, Rat.intCast_mul]
      grind
    rw [e]
    exact Rat.intCast_lt_intCast.mpr h2
theorem int_pos {q : Int} (h : 0 < q) : (0 : Rat) < (q : Rat) := by
  have : (((0 : Int)) : Rat) < (q : Rat) := Rat.intCast_lt_intCast.mpr h
  exact this
theorem pw2_pos (n : Nat) : (0 : Rat) < (2 : Rat) ^ n := Rat.pow_pos (by decide)
theorem int_pow2 (n : Nat) : ((2 ^ n : Int) : Rat) = (2 : Rat) ^ n := by
  induction n with
  | zero => rfl
  | succ k ih =>
    rw [Int.pow_succ, Rat.intCast_mul, ih, Rat.pow_succ]
    rfl
theorem nine_pq {p q : Int} (hq : 0 < q) (h1 : -q ≤ 3 * p) (h2 : 3 * p ≤ q) : 9 * (p * p) ≤ q * q ∧ 0 ≤ p * p := by
  have a : 0 ≤ (q - 3 * p) * (q + 3 * p) := Int.mul_nonneg (by omega) (by omega)
  have b : (q - 3 * p) * (q + 3 * p) = q * q - 9 * (p * p) := by grind
  refine ⟨by omega, ?_⟩
  rcases Int.le_total 0 p with h | h
  · exact Int.mul_nonneg h h
  · have := Int.mul_nonneg (show 0 ≤ -p by omega) (show 0 ≤ -p by omega)
    rw [Int.neg_mul_neg] at this
    exact this
/-- how fast it falls -/
theorem pw_half {p q : Int} (hq : 0 < q) (h1 : -q ≤ 3 * p) (h2 : 3 * p ≤ q) (bits k : Nat) (he : endA (pwA p q bits k) = false) : 2 * (pwA p q bits (k + 1)).natAbs ≤ (pwA p q bits k).natAbs := by
  obtain ⟨n1, n2⟩ := nine_pq hq h1 h2
  have hqq : 0 < q * q := Int.mul_pos hq hq
  show 2 * (pwA p q bits k * p * p / (q * q)).natAbs ≤ _
  rw [Int.mul_assoc]
  generalize pwA p q bits k = v at he ⊢
  unfold endA at he
  rw [Bool.or_eq_false_iff, decide_eq_false_iff_not, decide_eq_false_iff_not] at he
  generalize p * p = s at n1 n2 ⊢
  generalize q * q = t at n1 hqq ⊢
  have d1 := Int.mul_ediv_self_le (x := v * s) (k := t) (by omega)
  have d2 := Int.lt_mul_ediv_self_add (x := v * s) (k := t) hqq
  generalize v * s / t = w at d1 d2 ⊢
  by_cases hv : 0 < v
  · have k1 : v * (9 * s) ≤ v * t := Int.mul_le_mul_of_nonneg_left n1 (by omega)
    have k2 : 0 ≤ v * s := Int.mul_nonneg (by omega) n2
    have w0 : 0 ≤ w := by
      refine Int.not_lt.mp fun z => ?_
      have : t * (w + 1) ≤ t * 0 := Int.mul_le_mul_of_nonneg_left (by omega) (by omega)
      have e : t * (w + 1) = t * w + t := by grind
      omega
    have w1 : t * (9 * w) ≤ t * v := by
      have e1 : t * (9 * w) = 9 * (t * w) := by grind
      have e2 : v * (9 * s) = 9 * (v * s) := by grind
      have e3 : v * t = t * v := Int.mul_comm _ _
      omega
    have w2 := Int.le_of_mul_le_mul_left w1 hqq
    omega
  · have k1 : (-v) * (9 * s) ≤ (-v) * t := Int.mul_le_mul_of_nonneg_left n1 (by omega)
    have k2 : 0 ≤ (-v) * s := Int.mul_nonneg (by omega) n2
    have e0 : (-v) * s = -(v * s) := by grind
    have w0 : w ≤ 0 := by
      refine Int.not_lt.mp fun z => ?_
      have : t * 1 ≤ t * w := Int.mul_le_mul_of_nonneg_left (by omega) (by omega)
      omega
    have w1 : t * (v - 9) < t * (9 * w) := by
      have e1 : t * (9 * w) = 9 * (t * w) := by grind
      have e2 : (-v) * (9 * s) = -(9 * (v * s)) := by grind
      have e3 : (-v) * t = -(t * v) := by grind
      have e4 : t * (v - 9) = t * v - 9 * t := by grind
      omega
    have w2 := Int.lt_of_mul_lt_mul_left w1 (by omega)
    omega
theorem pw0_bd {p q : Int} (hq : 0 < q) (h1 : -q ≤ 3 * p) (h2 : 3 * p ≤ q) {bits : Nat} (hb : 1 ≤ bits) : (pwA p q bits 0).natAbs ≤ 2 ^ bits := by
  show (p * 2 ^ bits / q).natAbs ≤ 2 ^ bits
  have m : (2 : Int) ≤ 2 ^ bits := by
    have := Nat.pow_le_pow_right (show 0 < 2 by decide) hb
    have e : ((2 ^ bits : Nat) : Int) = (2 : Int) ^ bits := by push_cast; rfl
    omega
  have e : ((2 ^ bits : Nat) : Int) = (2 : Int) ^ bits := by push_cast; rfl
  generalize (2 : Int) ^ bits = M at m e ⊢
  have d1 := Int.mul_ediv_self_le (x := p * M) (k := q) (by omega)
  have d2 := Int.lt_mul_ediv_self_add (x := p * M) (k := q) hq
  generalize p * M / q = w at d1 d2 ⊢
  have a1 : 3 * p * M ≤ q * M := Int.mul_le_mul_of_nonneg_right h2 (by omega)
  have a2 : -q * M ≤ 3 * p * M := Int.mul_le_mul_of_nonneg_right h1 (by omega)
  have e1 : 3 * p * M = 3 * (p * M) := by grind
  have e2 : -q * M = -(q * M) := by grind
  have u1 : q * (3 * w) ≤ q * M := by
    have : q * (3 * w) = 3 * (q * w) := by grind
    omega
  have u2 := Int.le_of_mul_le_mul_left u1 hq
  have l1 : q * (-M - 3) < q * (3 * w) := by
    have : q * (3 * w) = 3 * (q * w) := by grind
    have : q * (-M - 3) = -(q * M) - 3 * q := by grind
    omega
  have l2 := Int.lt_of_mul_lt_mul_left l1 (by omega)
  omega
theorem k_bd {p q : Int} (hq : 0 < q) (h1 : -q ≤ 3 * p) (h2 : 3 * p ≤ q) {bits : Nat} (hb : 1 ≤ bits) {k : Nat} (hk : ∀ i, i < k → endA (pwA p q bits i) = false) : k ≤ bits + 1 := by
  have key : ∀ j, j < k → (pwA p q bits j).natAbs * 2 ^ j ≤ 2 ^ bits := by
    intro j
    induction j with
    | zero =>
      intro _
      rw [Nat.pow_zero, Nat.mul_one]
      exact pw0_bd hq h1 h2 hb
    | succ j ih =>
      intro hj
      have a := ih (by omega)
      have b := pw_half hq h1 h2 bits j (hk j (by omega))
      have c := Nat.mul_le_mul_right (2 ^ j) b
      have e : (pwA p q bits (j + 1)).natAbs * 2 ^ (j + 1) = 2 * (pwA p q bits (j + 1)).natAbs * 2 ^ j := by
        rw [Nat.pow_succ]
        grind
      omega
  refine Nat.le_of_not_lt fun z => ?_
  have a := key (bits + 1) z
  have b := hk (bits + 1) z
  have c : 1 ≤ (pwA p q bits (bits + 1)).natAbs := by
    unfold endA at b
    rw [Bool.or_eq_false_iff, decide_eq_false_iff_not, decide_eq_false_iff_not] at b
    omega
  have d : 2 ^ (bits + 1) ≤ 2 ^ bits := by
    have := Nat.mul_le_mul_right (2 ^ (bits + 1)) c
    rw [Nat.one_mul] at this
    omega
  have : 2 ^ bits < 2 ^ (bits + 1) := Nat.pow_lt_pow_right (by decide) (by omega)
  omega
/-- it ends -/
theorem art_ends {p q : Int} (hq : 0 < q) (h1 : -q ≤ 3 * p) (h2 : 3 * p ≤ q) {bits : Nat} (hb : 1 ≤ bits) : ∃ T, ArtOk p q bits T := by
  have : ∃ k, endA (pwA p q bits k) = true := by
    refine Classical.byContradiction fun h => ?_
    have := k_bd hq h1 h2 hb (k := bits + 2) fun i _ => by
      cases e : endA (pwA p q bits i) with
      | false => rfl
      | true => exact absurd ⟨i, e⟩ h
    omega
  obtain ⟨n, hn⟩ := this
  induction n using Nat.strongRecOn with
  | _ n ih =>
    by_cases z : ∃ j, j < n ∧ endA (pwA p q bits j) = true
    · obtain ⟨j, h1, h2⟩ := z
      exact ih j h1 h2
    · exact ⟨_, n, hn, fun i hi => by
        cases e : endA (pwA p q bits i) with
        | false => rfl
        | true => exact absurd ⟨i, hi, e⟩ z, rfl⟩
/-! .. and how exact it is -/
section
variable {p q : Int} {bits : Nat}
def eA (x : Rat) (bits : Nat) (k : Nat) : Rat := 2 ^ bits * x ^ (2 * k + 1)
theorem eA_succ (x : Rat) (bits k : Nat) : eA x bits (k + 1) = eA x bits k * (x * x) := by
  unfold eA
  show 2 ^ bits * x ^ (2 * k + 1 + 1 + 1) = _
  rw [Rat.pow_succ, Rat.pow_succ]
  grind
theorem pw_bd {x : Rat} (hq : 0 < q) (hx : x * (q : Rat) = (p : Rat)) (x2 : x * x ≤ 1 / 9) (x20 : 0 ≤ x * x) : ∀ k, eA x bits k - 9 / 8 ≤ ((pwA p q bits k : Int) : Rat) ∧ ((pwA p q bits k : Int) : Rat) ≤ eA x bits k
  | 0 => by
    have qp := int_pos hq
    obtain ⟨f1, f2⟩ := fl_bd (a := p * 2 ^ bits) hq
    rw [Rat.intCast_mul, int_pow2, ← hx] at f1 f2
    show eA x bits 0 - 9 / 8 ≤ ((p * 2 ^ bits / q : Int) : Rat) ∧ ((p * 2 ^ bits / q : Int) : Rat) ≤ eA x bits 0
    have e : eA x bits 0 = 2 ^ bits * x := by
      show 2 ^ bits * x ^ (0 + 1) = _
      rw [Rat.pow_succ, Rat.pow_zero]
      grind
    rw [e]
    generalize ((p * 2 ^ bits / q : Int) : Rat) = w at f1 f2 ⊢
    have u1 : w ≤ 2 ^ bits * x := Rat.le_of_mul_le_mul_right (c := (q : Rat)) (by grind) qp
    have u2 : 2 ^ bits * x < w + 1 := Rat.lt_of_mul_lt_mul_right (c := (q : Rat)) (by grind) (Rat.le_of_lt qp)
    constructor <;> grind
  | k + 1 => by
    have qp := int_pos hq
    have ih := pw_bd hq hx x2 x20 k
    obtain ⟨f1, f2⟩ := fl_bd (a := pwA p q bits k * p * p) (Int.mul_pos hq hq)
    rw [Rat.intCast_mul, Rat.intCast_mul, Rat.intCast_mul, ← hx] at f1 f2
    show eA x bits (k + 1) - 9 / 8 ≤ ((pwA p q bits k * p * p / (q * q) : Int) : Rat) ∧ ((pwA p q bits k * p * p / (q * q) : Int) : Rat) ≤ eA x bits (k + 1)
    rw [eA_succ]
    generalize ((pwA p q bits k * p * p / (q * q) : Int) : Rat) = w at f1 f2 ⊢
    generalize ((pwA p q bits k : Int) : Rat) = v at f1 f2 ih ⊢
    generalize eA x bits k = e at ih ⊢
    have qq : (0 : Rat) < (q : Rat) * (q : Rat) := Rat.mul_pos qp qp
    have e1 : v * (x * (q : Rat)) * (x * (q : Rat)) = v * (x * x) * ((q : Rat) * (q : Rat)) := by grind
    rw [e1] at f1 f2
    have u1 : w ≤ v * (x * x) := Rat.le_of_mul_le_mul_right f1 qq
    have u2 : v * (x * x) < w + 1 := Rat.lt_of_mul_lt_mul_right f2 (Rat.le_of_lt qq)
    have k1 := Rat.mul_le_mul_of_nonneg_right ih.2 x20
    have k2 := Rat.mul_le_mul_of_nonneg_right ih.1 x20
    constructor <;> grind
theorem tot_bd {x : Rat} (hq : 0 < q) (hx : x * (q : Rat) = (p : Rat)) (x2 : x * x ≤ 1 / 9) (x20 : 0 ≤ x * x) : ∀ k, 2 ^ bits * SN x k - 3 * (k : Rat) ≤ ((totA p q bits k : Int) : Rat) ∧ ((totA p q bits k : Int) : Rat) ≤ 2 ^ bits * SN x k
  | 0 => by
    have e0 : ((0 : Nat) : Rat) = 0 := rfl
    have e1 : ((0 : Int) : Rat) = 0 := rfl
    show 2 ^ bits * (0 : Rat) - 3 * ((0 : Nat) : Rat) ≤ ((0 : Int) : Rat) ∧ ((0 : Int) : Rat) ≤ 2 ^ bits * (0 : Rat)
    rw [e0, e1]
    constructor <;> grind
  | k + 1 => by
    obtain ⟨i1, i2⟩ := tot_bd hq hx x2 x20 k
    obtain ⟨b1, b2⟩ := pw_bd (bits := bits) hq hx x2 x20 k
    have cp : (0 : Rat) < ((2 * k + 1 : Nat) : Rat) := nat_pos (by omega)
    have c1 : (1 : Rat) ≤ ((2 * k + 1 : Nat) : Rat) := by
      have := Rat.natCast_le_natCast.mpr (show 1 ≤ 2 * k + 1 by omega)
      exact this
    obtain ⟨f1, f2⟩ := fl_bd (a := pwA p q bits k) (b := ((2 * k + 1 : Nat) : Int)) (by omega)
    rw [int_cast_nat] at f1 f2
    have ec : ((k + 1 : Nat) : Rat) = (k : Rat) + 1 := by push_cast; rfl
    show 2 ^ bits * (SN x k + x ^ (2 * k + 1) / ((2 * k + 1 : Nat) : Rat)) - 3 * ((k + 1 : Nat) : Rat) ≤ ((totA p q bits k + pwA p q bits k / ((2 * k + 1 : Nat) : Int) : Int) : Rat) ∧ ((totA p q bits k + pwA p q bits k / ((2 * k + 1 : Nat) : Int) : Int) : Rat) ≤ 2 ^ bits * (SN x k + x ^ (2 * k + 1) / ((2 * k + 1 : Nat) : Rat))
    rw [Rat.intCast_add, ec]
    generalize ((pwA p q bits k / ((2 * k + 1 : Nat) : Int) : Int) : Rat) = w at f1 f2 ⊢
    generalize ((pwA p q bits k : Int) : Rat) = v at f1 f2 b1 b2
    have ed : x ^ (2 * k + 1) / ((2 * k + 1 : Nat) : Rat) * ((2 * k + 1 : Nat) : Rat) = x ^ (2 * k + 1) := Rat.div_mul_cancel (by grind)
    unfold eA at b1 b2
    generalize x ^ (2 * k + 1) / ((2 * k + 1 : Nat) : Rat) = g at ed ⊢
    generalize x ^ (2 * k + 1) = y at ed b1 b2
    generalize ((2 * k + 1 : Nat) : Rat) = c at cp c1 f1 f2 ed
    have eq : 2 ^ bits * y = 2 ^ bits * g * c := by rw [← ed, Rat.mul_assoc]
    have u1 : w ≤ 2 ^ bits * g := Rat.le_of_mul_le_mul_right (c := c) (by grind) cp
    have u2 : 2 ^ bits * g - 3 ≤ w := Rat.le_of_mul_le_mul_right (c := c) (by grind) cp
    constructor <;> grind
/-- what is left out -/
theorem tail_bd {x : Rat} (x2 : x * x ≤ 1 / 9) (x20 : 0 ≤ x * x) {k : Nat} {t0 : Rat} (h0 : 0 ≤ t0) (h1 : -t0 ≤ eA x bits k) (h2 : eA x bits k ≤ t0) : ∀ j : Nat, ∃ t, 0 ≤ t ∧ -t ≤ eA x bits (k + j) ∧ eA x bits (k + j) ≤ t ∧ -(9 / 8 * t0 - 9 / 8 * t) ≤ 2 ^ bits * SN x (k + j) - 2 ^ bits * SN x k ∧ 2 ^ bits * SN x (k + j) - 2 ^ bits * SN x k ≤ 9 / 8 * t0 - 9 / 8 * t
  | 0 => ⟨t0, h0, h1, h2, by show _ ≤ 2 ^ bits * SN x k - 2 ^ bits * SN x k; grind, by show 2 ^ bits * SN x k - 2 ^ bits * SN x k ≤ _; grind⟩
  | j + 1 => by
    obtain ⟨t, t1, t2, t3, t4, t5⟩ := tail_bd x2 x20 h0 h1 h2 j
    have c1 : (1 : Rat) ≤ ((2 * (k + j) + 1 : Nat) : Rat) := by
      have := Rat.natCast_le_natCast.mpr (show 1 ≤ 2 * (k + j) + 1 by omega)
      exact this
    have es : SN x (k + (j + 1)) = SN x (k + j) + x ^ (2 * (k + j) + 1) / ((2 * (k + j) + 1 : Nat) : Rat) := rfl
    have ed : x ^ (2 * (k + j) + 1) / ((2 * (k + j) + 1 : Nat) : Rat) * ((2 * (k + j) + 1 : Nat) : Rat) = x ^ (2 * (k + j) + 1) := Rat.div_mul_cancel (by grind)
    have ee : eA x bits (k + (j + 1)) = eA x bits (k + j) * (x * x) := eA_succ x bits (k + j)
    rw [es, ee]
    have ev : eA x bits (k + j) = 2 ^ bits * x ^ (2 * (k + j) + 1) := rfl
    rw [← ed, ← Rat.mul_assoc] at ev
    generalize x ^ (2 * (k + j) + 1) / ((2 * (k + j) + 1 : Nat) : Rat) = g at ev ⊢
    generalize ((2 * (k + j) + 1 : Nat) : Rat) = c at c1 ev
    generalize eA x bits (k + j) = e at t2 t3 ev ⊢
    have cp : 0 < c := by grind
    have tc : t ≤ t * c := by
      have := Rat.mul_le_mul_of_nonneg_left c1 t1
      grind
    have g1 : 2 ^ bits * g ≤ t := Rat.le_of_mul_le_mul_right (c := c) (by rw [← ev]; grind) cp
    have g2 : -t ≤ 2 ^ bits * g := Rat.le_of_mul_le_mul_right (c := c) (by rw [← ev]; grind) cp
    have q1 := Rat.mul_le_mul_of_nonneg_right t3 x20
    have q2 := Rat.mul_le_mul_of_nonneg_right t2 x20
    have q3 := Rat.mul_le_mul_of_nonneg_left x2 t1
    refine ⟨t / 9, by grind, by grind, by grind, by grind, by grind⟩
theorem art_ln {T : Int} (hq : 0 < q) (h1 : -q ≤ 3 * p) (h2 : 3 * p ≤ q) (hb : 1 ≤ bits) (h : ArtOk p q bits T) : LnIn (((q : Rat) + p) / ((q : Rat) - p)) ((2 * (T : Rat) - (6 * (bits : Rat) + 10)) / 2 ^ bits) ((2 * (T : Rat) + (6 * (bits : Rat) + 10)) / 2 ^ bits) := by
  obtain ⟨k, he, hk, rfl⟩ := h
  have qp := int_pos hq
  have hkb := k_bd hq h1 h2 hb hk
  have kb : (k : Rat) ≤ (bits : Rat) + 1 := by
    have := Rat.natCast_le_natCast.mpr hkb
    have ec : ((bits + 1 : Nat) : Rat) = (bits : Rat) + 1 := by push_cast; rfl
    grind
  have Bp := pw2_pos bits
  have r1 : -(q : Rat) ≤ 3 * (p : Rat) := by
    have := Rat.intCast_le_intCast.mpr h1
    rw [Rat.intCast_neg, Rat.intCast_mul] at this
    exact this
  have r2 : 3 * (p : Rat) ≤ (q : Rat) := by
    have := Rat.intCast_le_intCast.mpr h2
    rw [Rat.intCast_mul] at this
    exact this
  obtain ⟨x, hx⟩ : ∃ x : Rat, x * (q : Rat) = (p : Rat) := ⟨(p : Rat) / (q : Rat), Rat.div_mul_cancel (by grind)⟩
  have x0 : -(1 / 3) ≤ x := Rat.le_of_mul_le_mul_right (c := (q : Rat)) (by grind) qp
  have x1 : x ≤ 1 / 3 := Rat.le_of_mul_le_mul_right (c := (q : Rat)) (by grind) qp
  have x2 : x * x ≤ 1 / 9 := by
    have := Rat.mul_nonneg (show 0 ≤ 1 / 3 - x by grind) (show 0 ≤ 1 / 3 + x by grind)
    grind
  have x20 : 0 ≤ x * x := by
    rcases Rat.le_total (a := 0) (b := x) with z | z
    · exact Rat.mul_nonneg z z
    · have := Rat.mul_nonneg (show 0 ≤ -x by grind) (show 0 ≤ -x by grind)
      grind
  obtain ⟨t1, t2⟩ := tot_bd (bits := bits) hq hx x2 x20 k
  obtain ⟨b1, b2⟩ := pw_bd (bits := bits) hq hx x2 x20 k
  have ek : -(9 / 8) ≤ eA x bits k ∧ eA x bits k ≤ 9 / 8 := by
    unfold endA at he
    rw [Bool.or_eq_true, decide_eq_true_iff, decide_eq_true_iff] at he
    rcases he with e | e
    · rw [e] at b1 b2
      have z : ((0 : Int) : Rat) = 0 := rfl
      constructor <;> grind
    · rw [e] at b1 b2
      have z : ((-1 : Int) : Rat) = -1 := rfl
      constructor <;> grind
  have er : ((q : Rat) + p) / ((q : Rat) - p) = (1 + x) / (1 - x) := by
    have d1 : ((q : Rat) - p) ≠ 0 := by grind
    have d2 : (1 - x) ≠ 0 := by grind
    have a1 : (1 + x) / (1 - x) * (1 - x) = 1 + x := Rat.div_mul_cancel d2
    have a2 : ((q : Rat) + p) / ((q : Rat) - p) * ((q : Rat) - p) = (q : Rat) + p := Rat.div_mul_cancel d1
    have e1 : (q : Rat) - p = (1 - x) * q := by grind
    have e2 : (q : Rat) + p = (1 + x) * q := by grind
    have pz : 0 < (q : Rat) - p := by grind
    have k : ((q : Rat) + p) / ((q : Rat) - p) * ((q : Rat) - p) = (1 + x) / (1 - x) * ((q : Rat) - p) := by
      rw [a2, e1, ← Rat.mul_assoc, a1]
      exact e2
    refine Rat.le_antisymm ?_ ?_
    · exact Rat.le_of_mul_le_mul_right (by rw [k]; exact Rat.le_refl) pz
    · exact Rat.le_of_mul_le_mul_right (by rw [k]; exact Rat.le_refl) pz
  rw [er]
  have hA : ∀ z : Rat, z / 2 ^ bits * 2 ^ bits = z := fun z => Rat.div_mul_cancel (by grind)
  have L := ln_any (x := x) (A := 2 * ((totA p q bits k : Int) : Rat) / 2 ^ bits) (E := (6 * (bits : Rat) + 10) / 2 ^ bits) (J1 := k) x0 x1 fun J hJ => by
    obtain ⟨j, rfl⟩ : ∃ j, J = k + j := ⟨J - k, by omega⟩
    obtain ⟨t, u1, _, _, u4, u5⟩ := tail_bd (bits := bits) x2 x20 (k := k) (t0 := 9 / 8) (by grind) ek.1 ek.2 j
    have a1 := hA (2 * ((totA p q bits k : Int) : Rat))
    have a2 := hA (6 * (bits : Rat) + 10)
    generalize 2 * ((totA p q bits k : Int) : Rat) / 2 ^ bits = A at a1 ⊢
    generalize (6 * (bits : Rat) + 10) / 2 ^ bits = E at a2 ⊢
    generalize ((totA p q bits k : Int) : Rat) = T at t1 t2 a1
    generalize (2 : Rat) ^ bits = M at Bp t1 t2 u4 u5 a1 a2
    constructor
    · exact Rat.le_of_mul_le_mul_right (c := M) (by grind) Bp
    · exact Rat.le_of_mul_le_mul_right (c := M) (by grind) Bp
  refine L.weak ?_ ?_
  · rw [Rat.div_def, Rat.div_def, Rat.div_def]
    grind
  · rw [Rat.div_def, Rat.div_def, Rat.div_def]
    grind
end
end

/-! ### log_of in whole numbers -/
section
def turnsN (p q : Nat) : Int := ((Nat.log2 p + 1 : Nat) : Int) - ((Nat.log2 q + 1 : Nat) : Int)
def aboveN (p q : Nat) : Nat := p * 2 ^ (max 0 (-turnsN p q)).toNat
def belowN (p q : Nat) : Nat := q * 2 ^ (max 0 (turnsN p q)).toNat
def LogOk (p q bits : Nat) (T : Int) : Prop := ∃ T1 T3, ArtOk ((aboveN p q : Int) - (belowN p q : Int)) ((aboveN p q : Int) + (belowN p q : Int)) bits T1 ∧ ArtOk 1 3 bits T3 ∧ T = 2 * T1 + 2 * turnsN p q * T3
theorem log2_bd {n : Nat} (h : 0 < n) : 2 ^ Nat.log2 n ≤ n ∧ n < 2 ^ (Nat.log2 n + 1) := ⟨Nat.log2_self_le (by omega), Nat.lt_log2_self⟩
theorem ab_bd {p q : Nat} (hp : 0 < p) (hq : 0 < q) : 0 < aboveN p q ∧ 0 < belowN p q ∧ aboveN p q ≤ 2 * belowN p q ∧ belowN p q ≤ 2 * aboveN p q := by
  obtain ⟨p1, p2⟩ := log2_bd hp
  obtain ⟨q1, q2⟩ := log2_bd hq
  have e1 : Nat.log2 p + (max 0 (-turnsN p q)).toNat = Nat.log2 q + (max 0 (turnsN p q)).toNat := by
    unfold turnsN
    omega
  unfold aboveN belowN
  generalize (max 0 (-turnsN p q)).toNat = s at e1 ⊢
  generalize (max 0 (turnsN p q)).toNat = t at e1 ⊢
  have sp : 0 < 2 ^ s := Nat.pow_pos (by decide)
  have tp : 0 < 2 ^ t := Nat.pow_pos (by decide)
  have a1 := Nat.mul_le_mul_right (2 ^ s) p1
  have a2 := Nat.mul_lt_mul_of_pos_right p2 sp
  have b1 := Nat.mul_le_mul_right (2 ^ t) q1
  have b2 := Nat.mul_lt_mul_of_pos_right q2 tp
  rw [← Nat.pow_add] at a1 a2 b1 b2
  rw [e1] at a1
  rw [show Nat.log2 p + 1 + s = Nat.log2 q + t + 1 by omega, Nat.pow_succ] at a2
  rw [show Nat.log2 q + 1 + t = Nat.log2 q + t + 1 by omega, Nat.pow_succ] at b2
  have c1 := Nat.mul_pos hp sp
  have c2 := Nat.mul_pos hq tp
  omega
theorem nat_pow_cast (a n : Nat) : ((a ^ n : Nat) : Rat) = (a : Rat) ^ n := by
  induction n with
  | zero => rfl
  | succ k ih =>
    rw [Nat.pow_succ, Rat.natCast_mul, ih, Rat.pow_succ]
theorem art_sgn {p q : Nat} (hp : 0 < p) (hq : 0 < q) : -((aboveN p q : Int) + (belowN p q : Int)) ≤ 3 * ((aboveN p q : Int) - (belowN p q : Int)) ∧ 3 * ((aboveN p q : Int) - (belowN p q : Int)) ≤ (aboveN p q : Int) + (belowN p q : Int) ∧ 0 < (aboveN p q : Int) + (belowN p q : Int) := by
  obtain ⟨h1, h2, h3, h4⟩ := ab_bd hp hq
  omega
theorem log_ends {p q bits : Nat} (hp : 0 < p) (hq : 0 < q) (hb : 1 ≤ bits) : ∃ T, LogOk p q bits T := by
  obtain ⟨s1, s2, s3⟩ := art_sgn hp hq
  obtain ⟨T1, h1⟩ := art_ends s3 s1 s2 hb
  obtain ⟨T3, h3⟩ := art_ends (p := 1) (q := 3) (by decide) (by decide) (by decide) hb
  exact ⟨_, T1, T3, h1, h3, rfl⟩
theorem ln_two {bits : Nat} {T3 : Int} (hb : 1 ≤ bits) (h : ArtOk 1 3 bits T3) : LnIn 2 ((2 * (T3 : Rat) - (6 * (bits : Rat) + 10)) / 2 ^ bits) ((2 * (T3 : Rat) + (6 * (bits : Rat) + 10)) / 2 ^ bits) := by
  have a := art_ln (p := 1) (q := 3) (by decide) (by decide) (by decide) hb h
  have e : (((3 : Int) : Rat) + ((1 : Int) : Rat)) / (((3 : Int) : Rat) - ((1 : Int) : Rat)) = 2 := by
    have c3 : ((3 : Int) : Rat) = 3 := rfl
    have c1 : ((1 : Int) : Rat) = 1 := rfl
    rw [c3, c1, Rat.div_def]
    have : (3 : Rat) - 1 = 2 := by grind
    rw [this]
    have : (2 : Rat) * 2⁻¹ = 1 := Rat.mul_inv_cancel _ (by decide)
    grind
  rw [e] at a
  exact a
theorem ln_ab {p q bits : Nat} {T1 : Int} (hp : 0 < p) (hq : 0 < q) (hb : 1 ≤ bits) (h : ArtOk ((aboveN p q : Int) - (belowN p q : Int)) ((aboveN p q : Int) + (belowN p q : Int)) bits T1) :
    LnIn ((aboveN p q : Rat) / (belowN p q : Rat)) ((2 * (T1 : Rat) - (6 * (bits : Rat) + 10)) / 2 ^ bits) ((2 * (T1 : Rat) + (6 * (bits : Rat) + 10)) / 2 ^ bits) := by
  obtain ⟨s1, s2, s3⟩ := art_sgn hp hq
  obtain ⟨h1, h2, _, _⟩ := ab_bd hp hq
  have a := art_ln s3 s1 s2 hb h
  have bp := nat_pos h2
  have e : ((((aboveN p q : Int) + (belowN p q : Int) : Int) : Rat) + (((aboveN p q : Int) - (belowN p q : Int) : Int) : Rat)) / ((((aboveN p q : Int) + (belowN p q : Int) : Int) : Rat) - (((aboveN p q : Int) - (belowN p q : Int) : Int) : Rat)) = (aboveN p q : Rat) / (belowN p q : Rat) := by
    rw [Rat.intCast_add, Rat.intCast_sub, int_cast_nat, int_cast_nat]
    generalize (aboveN p q : Rat) = x
    generalize (belowN p q : Rat) = y at bp
    rw [show x + y + (x - y) = 2 * x by grind, show x + y - (x - y) = 2 * y by grind]
    have k1 : 2 * x / (2 * y) * (2 * y) = 2 * x := Rat.div_mul_cancel (by grind)
    have k2 : x / y * y = x := Rat.div_mul_cancel (by grind)
    have y2 : 0 < 2 * y := by grind
    have k : 2 * x / (2 * y) * (2 * y) = x / y * (2 * y) := by
      rw [k1, Rat.mul_comm 2 y, ← Rat.mul_assoc, k2]
      grind
    refine Rat.le_antisymm ?_ ?_
    · exact Rat.le_of_mul_le_mul_right (by rw [k]; exact Rat.le_refl) y2
    · exact Rat.le_of_mul_le_mul_right (by rw [k]; exact Rat.le_refl) y2
  rw [e] at a
  exact a
theorem div_eq_of {a b c : Rat} (hb : 0 < b) (h : a = c * b) : a / b = c := by
  have e : a / b * b = a := Rat.div_mul_cancel (by grind)
  refine Rat.le_antisymm ?_ ?_
  · exact Rat.le_of_mul_le_mul_right (by rw [e, h]; exact Rat.le_refl) hb
  · exact Rat.le_of_mul_le_mul_right (by rw [e, h]; exact Rat.le_refl) hb
/-- what log_of tells -/
theorem log_ln {p q bits : Nat} {T : Int} (hp : 0 < p) (hq : 0 < q) (hb : 1 ≤ bits) (h : LogOk p q bits T) {c : Nat} (hc : (turnsN p q).natAbs ≤ c) :
    LnIn ((p : Rat) / (q : Rat)) (((T : Rat) - ((c : Rat) + 1) * (6 * (bits : Rat) + 10)) / 2 ^ bits) (((T : Rat) + ((c : Rat) + 1) * (6 * (bits : Rat) + 10)) / 2 ^ bits) := by
  obtain ⟨T1, T3, h1, h3, rfl⟩ := h
  have L1 := ln_ab hp hq hb h1
  have L2 := (ln_two hb h3).pow (turnsN p q).natAbs
  obtain ⟨a1, b1, _, _⟩ := ab_bd hp hq
  have bp := nat_pos b1
  have qp := nat_pos hq
  have Bp := pw2_pos bits
  have cr : ((turnsN p q).natAbs : Rat) ≤ (c : Rat) := Rat.natCast_le_natCast.mpr hc
  have nn := nat_nn (turnsN p q).natAbs
  have bn := nat_nn bits
  have ce := Rat.mul_le_mul_of_nonneg_right cr (show 0 ≤ 6 * (bits : Rat) + 10 by grind)
  have hA : ∀ z : Rat, z / 2 ^ bits * 2 ^ bits = z := fun z => Rat.div_mul_cancel (by grind)
  have kk : ∀ n z : Rat, n * (z / 2 ^ bits) * 2 ^ bits = n * z := fun n z => by rw [Rat.mul_assoc, hA]
  have kn : ∀ n z : Rat, -(n * (z / 2 ^ bits)) * 2 ^ bits = -(n * z) := fun n z => by rw [Rat.neg_mul, Rat.mul_assoc, hA]
  have two : ∀ n : Nat, (0 : Rat) < 2 ^ n := fun n => Rat.pow_pos (by decide)
  have ct : ((2 * T1 + 2 * turnsN p q * T3 : Int) : Rat) = 2 * (T1 : Rat) + 2 * ((turnsN p q : Int) : Rat) * (T3 : Rat) := by
    rw [Rat.intCast_add, Rat.intCast_mul, Rat.intCast_mul, Rat.intCast_mul]
    rfl
  rw [ct]
  by_cases ht : 0 ≤ turnsN p q
  · have et : ((turnsN p q : Int) : Rat) = ((turnsN p q).natAbs : Rat) := by
      rw [← int_cast_nat]
      congr 1
      omega
    have ea : aboveN p q = p := by
      unfold aboveN
      rw [show (max 0 (-turnsN p q)).toNat = 0 by omega, Nat.pow_zero, Nat.mul_one]
    have eb : (belowN p q : Rat) = (q : Rat) * 2 ^ (turnsN p q).natAbs := by
      unfold belowN
      rw [show (max 0 (turnsN p q)).toNat = (turnsN p q).natAbs by omega, Rat.natCast_mul, nat_pow_cast]
      rfl
    have L := L1.mul L2
    have er : (aboveN p q : Rat) / (belowN p q : Rat) * 2 ^ (turnsN p q).natAbs = (p : Rat) / (q : Rat) := by
      refine Eq.symm (div_eq_of qp ?_)
      have e : (aboveN p q : Rat) / (belowN p q : Rat) * (belowN p q : Rat) = (aboveN p q : Rat) := Rat.div_mul_cancel (by grind)
      rw [← ea, ← e]
      conv => lhs; rw [eb]
      grind
    rw [er] at L
    rw [et]
    clear L1 L2 er eb ea ct et
    have k1 := hA (2 * (T1 : Rat) - (6 * (bits : Rat) + 10))
    have k2 := hA (2 * (T1 : Rat) + (6 * (bits : Rat) + 10))
    have k3 := hA (2 * (T3 : Rat) - (6 * (bits : Rat) + 10))
    have k4 := hA (2 * (T3 : Rat) + (6 * (bits : Rat) + 10))
    refine L.weak (div_le_of Bp ?_) (le_div_of Bp ?_)
    · rw [Rat.add_mul _ _ ((2 : Rat) ^ bits), hA, kk]
      grind
    · rw [Rat.add_mul _ _ ((2 : Rat) ^ bits), hA, kk]
      grind
  · have et : ((turnsN p q : Int) : Rat) = -((turnsN p q).natAbs : Rat) := by
      rw [← int_cast_nat, ← Rat.intCast_neg]
      congr 1
      omega
    have eb : belowN p q = q := by
      unfold belowN
      rw [show (max 0 (turnsN p q)).toNat = 0 by omega, Nat.pow_zero, Nat.mul_one]
    have ea : (aboveN p q : Rat) = (p : Rat) * 2 ^ (turnsN p q).natAbs := by
      unfold aboveN
      rw [show (max 0 (-turnsN p q)).toNat = (turnsN p q).natAbs by omega, Rat.natCast_mul, nat_pow_cast]
      rfl
    have L := L1.mul L2.inv
    have er : (aboveN p q : Rat) / (belowN p q : Rat) * (2 ^ (turnsN p q).natAbs)⁻¹ = (p : Rat) / (q : Rat) := by
      refine Eq.symm (div_eq_of qp ?_)
      have e : (aboveN p q : Rat) / (belowN p q : Rat) * (belowN p q : Rat) = (aboveN p q : Rat) := Rat.div_mul_cancel (by grind)
      have i : (2 : Rat) ^ (turnsN p q).natAbs * (2 ^ (turnsN p q).natAbs)⁻¹ = 1 := Rat.mul_inv_cancel _ (by have := two (turnsN p q).natAbs; grind)
      rw [eb] at e ⊢
      have : (p : Rat) = (aboveN p q : Rat) * (2 ^ (turnsN p q).natAbs)⁻¹ := by rw [ea, Rat.mul_assoc, i, Rat.mul_one]
      rw [this]
      conv => lhs; rw [← e]
      grind
    rw [er] at L
    rw [et]
    clear L1 L2 er eb ea ct et
    have k1 := hA (2 * (T1 : Rat) - (6 * (bits : Rat) + 10))
    have k2 := hA (2 * (T1 : Rat) + (6 * (bits : Rat) + 10))
    have k3 := hA (2 * (T3 : Rat) - (6 * (bits : Rat) + 10))
    have k4 := hA (2 * (T3 : Rat) + (6 * (bits : Rat) + 10))
    refine L.weak (div_le_of Bp ?_) (le_div_of Bp ?_)
    · rw [Rat.add_mul _ _ ((2 : Rat) ^ bits), hA, kn]
      grind
    · rw [Rat.add_mul _ _ ((2 : Rat) ^ bits), hA, kn]
      grind
end

/-! ### fractions near 10 ^ (b / 1000) -/
def tabF0 : List (Nat × Nat) := [
  (38379117236585715889386606054805, 38290847716394824841688314790019), (100341276556955024022866903920911, 99880250268760804093954127563891), (56204279933924878951914721388867, 55817372392323456444928172853148),
  (154577236253894766001617280962966, 153160063633595372837933315925719), (2853054541486565928841704100221, 2820395896211578450146194822897), (22665845937340656011862339472186, 22354858872476603783642782639949),
  (150695824212522730291794151025433, 148286364616949923686826559912296), (66552804244342650406707361150593, 65338078669095084243783157389346), (17210431238012096852428298763405, 16857445042197884021453323839518),
  (77304693124411193736794444207783, 75545023475741360615157835105612), (137045069433458187722280377928197, 133617522597881539314969729501945), (107379509253525620143239886572365, 104453119516899981427056365513156),
  (107707103447514291748054181185775, 104530817438953659241725030789904), (109287906561216196435894741921689, 105821059880374123061555111918854), (84994691265343098135627875257389, 82109196206352513082122110666392),
  (23883859933493205328541575935084, 23019957400070425928696607711205), (52044316663663114977869407266286, 50046453923866012440826243990945), (21774890443603168752995958365764, 20890843642783137409113431571853),
  (31108120180713006756540865141066, 29776508206105994950774771093227), (62679582202271110698103521134437, 59858536298090059451480809595548), (47654263701070435781608730210708, 45404799653751467115092510356121),
  (28184037285475122255614164439817, 26791880948160021788999825982301), (106497861750316932336983688636521, 101004538386066977251131310380071), (151826414512476457086393041800513, 143663795488631964867834507783880),
  (38088701401292699912607667153547, 35958052821497264070248642757171), (78830825015279750065841923428260, 74249933967204554010038830832959), (34222527587209284785130141792431, 32159706920141956333581803091978),
  (63789107234227004591302969668503, 59806243398532056887756750024120), (149181301625359067331619970434847, 139545036017078278580034952954636), (13045734212467882078298971554379, 12174987560840097885102603801666),
  (34270439965185549529159286485281, 31909476547331742420843988227973), (111903474253675216099395084438371, 103954566145558300156507483555262), (52476919320973412517189459291964, 48637173865750147998993347634179),
  (139233271017389014755767227320903, 128748751461225269625294688280072), (64502021915609121492451764581973, 59507722413051317529539179758452), (45001665480641539467314837349481, 41421763719835976846740864021136),
  (98039035379645535180889728718429, 90032441916935532716669307682170), (62727863217019248722279426413989, 57472553581003135673371951926440), (76425948231555580118235869202297, 69861971270384809238014777599764),
  (80476499339475261151315721943841, 73395439711020148869065757847115), (71308097104434470577090680635841, 64884184001474351206468778088337), (117691826657109752957770927673939, 106843056473496510405723016163873),
  (7412186480567504472221564552818, 6713458939386882019760828069279), (81279960069606198077009902019899, 73448593141069318244925623488717), (163456342533301526608177666226989, 147367520686657614008821703932544),
  (130386064463351525900621261051083, 117281949650003962389309790817645), (115220885693724305120557239212837, 103402540549427537482320185065940), (407412688534845868017765787080703, 364782966351931961989195871821949),
  (120011565046154688201455384869812, 107206989167145041018588133900587), (88454975359044158158249188595719, 78835579771345450298344472540180), (14194283563747658105138828110757, 12621572812077121638198214973892),
  (166025004395865026274797511499742, 147290080798420545598363638449721), (25967266869837276815684415372550, 22984033251136071502684025608427), (122657311576014898945222526573761, 108316206492155861450259582964886),
  (41458370004350754369709873552047, 36526850169082488224218047613540), (183672053827148706849203249182453, 161451871026637916298289823987665), (84906084315133329258928740492754, 74462705664462615901972082347543),
  (179666696109430736229943560260497, 157205444044470201938092630256665), (94483763872500552811004729860737, 82481620638236029072844301981280), (23074782482480376623395038956286, 20097295388396791192257356039035),
  (150509023383571023376002522633930, 130786385570849913743234191854043), (70932587005407289294751754056767, 61495848682590806724285612810725), (52997245912104705678829109510123, 45840917497436826052894190561407),
  (49196988493963537635391283884193, 42455945685029001214869381315798), (72769473504646185713755092331822, 62654062037263200909522143047993), (6979031484663460520531379347869, 5995082412337789378685671519728),
  (161344588760334644180192415877582, 138278418690737311435092437959885), (121194975100963713950185277330299, 103629788977722082700298676548327), (88724607248385169154826731003981, 75690972559763227764196428702886),
  (134882460678490544560185254021173, 114803592969799626861102997862020), (134684875203132887041321384959550, 114371766305203029548635093644751), (139982558940651491335668860831527, 118597061436071792983025352432033),
  (22437395328855374879860943359068, 18965855611979754000647197987153), (32014481875079193449440876789259, 26998925317068696356210202943474), (5577990862244068436829295159603, 4693294411633451861634357480956),
  (64106249981980893591250620758963, 53814631745682802733057163197959), (41541870647683662146818939942951, 34792533101762311586923266666901), (65156597759632690709247913738681, 54445049745628447682203258958660),
  (130883864934166975710701282593564, 109115415565912539722657452918361), (103299905713471107486128166193753, 85921119130787079118734726246289), (121484174401746767388172643591928, 100813735368145512713821085959079),
  (163786013588384925390364056917751, 135605346476185181610896220944788), (173297678570365058823183380686767, 143150459072749333009423199335613), (53934248635755607363042842507266, 44449270005314215032648798214875),
  (134478920032448464561911580720798, 110574303569500695826034451875443), (125352334123921437548514826760178, 102832980883906325384932101416069), (39083066246847886227968741551845, 31988113535384311082802587189114),
  (37811934763732613735889528941147, 30876559355025175026799162340931), (144510015289725406461334528874017, 117732928540456316824972196512840), (161199499660221417362406312921340, 131027872514212315786009544486709),
  (11106836082275934082375899108328, 9007211538691699986288833028297), (49205557624704564186860152273679, 39812014890934044180651833467523), (9120787219529888061415909026564, 7362618947050425849026362881739),
  (6768182775713817475332144715738, 5450948493654766166439870044901), (24497746739366325044615921994157, 19684579439768372490384578503489), (127971103430651369631252827420902, 102591626367868968802257559493205),
  (177263801515853876987665212442779, 141781660625146736513285018014064), (126244089501693364085294068581184, 100742112721334245862447942159935), (90370308862996057325698629315005, 71949166401375403859337952867714),
  (115413485971695842248339920646203, 91676190575272785336510091520797), (187239475363224018066888026292210, 148387533343820548921191837252731), (34196724900091971100377569388688, 27038619526092175780677226375329),
  (119242353913226148315575899385205, 94065537333100869253097359940819), (92363906956153365322868834662415, 72694624089630339565080082930202), (111368958154788027149060561218961, 87450874532537505742428807183248),
  (83956736167014680605186327618767, 65774195823141403400950602006580), (120154811629776927702290961237791, 93916341624906837492376538467654), (146112052348299255878044943550822, 113942577931554370976581762944029),
  (14596915134777678723447898386950, 11356933507283141232257643829599), (45197229118979480284592052169461, 35084218783214166776095520250887), (135604739087535640555656669277873, 105020690024274335651497842044274)]
def tabF1 : List (Nat × Nat) := [
  (112185427825011202442190782355263, 86683502011041339310282890582073), (128769910992580884478632814895906, 99269171095298488222832320000523), (116985009529579775800245184222003, 89976731886418914205411950915298),
  (110247958237484650199506771270016, 84600037432215836540626276836297), (53297672218515555834174193964779, 40804517006763840985504284537187), (152943925816276798334983625700094, 116824043419323986360280011964405),
  (1913927083514491474328882064719, 1458563657065547769131789067109), (177211351519402709846388012788158, 134738447132285298397039231903529), (102627781672766112814060358737886, 77851133751951426848716400098265),
  (15004437984579861828976116554517, 11355852238032250874877151153166), (96449191711308386061772092750308, 72828035025822354734468803821753), (95264878673136680021617993354294, 71768326376825074576212384093679),
  (154760033362251257409662322265506, 116321184154089319901451782542945), (96963515361936329060038501964879, 72712378686434677906621882190241), (2841543957429896472743416484304, 2125956523310814444621675239927),
  (72059958062664675071680726278509, 53789066226957508965827456022312), (71291725795249572403831868032949, 53093227674660730807523889524053), (118906290140801482244612889894142, 88349649190913360759908560268057),
  (76203883615606745337830914363950, 56490719351152471031970671827579), (86318574967945456671630746295236, 63841673381802419972335948277819), (16053348943823591436650879964167, 11845834093385963235031403514336),
  (130441407538562739892200388291010, 96031890037093263136494963593321), (90668972081664025508474554650397, 66597617405532505025271492928563), (163780001102219544950759529063512, 120022002845223234423888595069963),
  (6308799401451397119770418707794, 4612609812257907038238233564251), (14812510495020250128899215017616, 10805097026317140916254917636933), (36413624783969563405020633024941, 26501100727754620881701770945508),
  (131403404397249029368405628003219, 95412794760103328532595370879911), (5677469304785042038030569804899, 4112962926608238306438180218116), (73401493254342397061603883752190, 53052382863547080463862382510077),
  (48986014497745869000131131602619, 35324181429686497627133997106180), (72517524574462873929253789217285, 52172658942455476424869011074318), (121483683466836981071550676815271, 87200294475112694787009225594468),
  (24018852769184544071295310156907, 17200943131525424554707268700377), (19524187632213233979509420554329, 13949960332825331257709061995266), (183365178474883913133803011090735, 130712423095511048996993190518079),
  (110393422631271406692913361067773, 78513293993803469440478829722951), (78104372094841526303652701652693, 55421126019239637921173130155231), (154059144994662644952172409363167, 109065522244796080094404556532404),
  (19530487371764461087442282665167, 13794726073988338119908027813747), (122934586151368874567549066434889, 86631150797214250540073223562138), (189799043264623080300889821963167, 133442453659790621985865222021449),
  (67125549737682453928831525313939, 47085572522850668557566337241036), (106163321239629371983422265017222, 74297550638572776175134371792035), (179744929450644755912308901466803, 125503734211005250309986236407139),
  (39958166859269975548259323603247, 27835918489429686491503902167163), (69836390494545093644834888144395, 48537989646335938278727565314907), (20314096518961566149207058621697, 14086318752159305003104167197961),
  (14565114408937495685175719805044, 10076597243080619384721209821365), (3751056852608655634713940883583, 2589128746138193869205897040664), (133584489967241679221097485616913, 91993265771919892713008069009717),
  (56698222391010315427386487092689, 38955559209771465206026606747165), (105415082335077838221586800423391, 72260797831233800950636098325796), (143338667903707282414024683231689, 98030984485150189282676158527262),
  (54817806625154004118108767416631, 37404310588318147953739752062849), (154052846459261848424855190168841, 104874457489017107742852669144514), (24646753879807842929112659663523, 16740164767387173904589759491420),
  (147814504891390201113291758148649, 100165243941327160965139312048224), (18521022848048704340345414014033, 12521748234411644313118326302516), (109607714828473850923555907570201, 73933475703726740896681234282828),
  (82471957560939021745674556358561, 55501702236582900319524301943929), (68167773587255820134791419660103, 45769810026207206888108218255629), (122397706045143215322901938417677, 81992339507529577249079129209618),
  (70987231574231917284499660705281, 47443884447672612744667768848101), (46604813888555824321837230168329, 31076405378830053878408863872253), (72589609415884513538347043416663, 48291918563557133201707359631387),
  (100834429478235524791207632856679, 66928153824108793449594039764224), (43249212159644248109952334753103, 28640342064215342906849504547992), (73772774723114368614560862806900, 48741188900902055975328645007509),
  (13064724871081859157801525312500, 8611925583566393149854054285141), (117214797105206780286534068132442, 77087229970264692352859240861045), (171861198454152929661590354798261, 112765911826836648740310600999344),
  (198937401375931612579294762856559, 130231619315625713239776138907171), (146881867965928221987764333625259, 95933035598479765815448545980379), (53351848484321622760612409988863, 34765579348015903104942362190933),
  (68912200173701935904378553854584, 44801867359789918879699945857119), (127006252042279292308189016983685, 82380628350528623869814739338917), (71234923025426382933567389759438, 46099154419323404701188106063053),
  (29924242446603475525843932712383, 19320713686307880718610928089563), (151780344936278797328242319780187, 97772233317242967729660739100995), (7491429518077835098782680332735, 4814649736414784440437895392182),
  (143501315057086449975521248224427, 92014417467168279045142855611658), (22448135421319059307466045447719, 14360854220649754429517613106809), (61129371193675490483643395880488, 39016645566711420937003466298569),
  (156150757750994607831731029210157, 99436103122210381914060124733020), (117448544585563530778248136484141, 74618693276177142591233228827218), (119279646590026622291735884447126, 75607755142848465204855848362251),
  (26429284769384256024530755821657, 16714192911555616496601371943901), (114958069578950959505309166238257, 72533638308104184695539151493221), (167061099250160179160605014266849, 105165994892895764575398063635876),
  (117357161268398945300565520959452, 73707146101220522164021580127763), (167647229012201733597616434647632, 105050078072943796348068739673559), (77368206057254539375461802648785, 48368489716037945693531935311136),
  (131541178125802745014515338039963, 82046815097461180189226011254848), (170524543014157014970859632057700, 106117471746050511401029864793563), (51009743536897568422845462301139, 31670370206076818654055504333222),
  (109111682020272078817783930286260, 67588257614073259318391190651397), (193453986105789349853364949059589, 119557736085527055738936408397947), (10353498524820254526123770757395, 6383915442184397702512224691892),
  (156573180021782102693542914330117, 96320199236039117682056898466378), (33212169341723567206409784553006, 20384367651048959643590240792311), (91850256568549160930502405408421, 56244540589772026365646048092923),
  (83791251645054094886046223457251, 51191596949401691143748511212765), (54243620109858661613665966391334, 33063487896837692406885657271669), (30145432950854248104896346806711, 18332492906115252714821691928975),
  (107905537520572805125842285694963, 65470209777507095794808390422479), (45113330901775399575734067993671, 27308943191143480817441076366446), (38809164973316307321880400490177, 23438741992876191969399447480637),
  (9123024680821607405301135497324, 5497165975422017458822271494309), (47115284855388948137560829243395, 28324471889103460737540044897672), (110294307940753677947410277775920, 66153541664641225977448082615257)]
def tabF2 : List (Nat × Nat) := [
  (74470259152788333521766286871083, 44563866564175437485517822153249), (34852644454926876002004378267257, 20808258570351840549750639956598), (12728119409986566996419845713981, 7581658890845802408801214441328),
  (66410349669330564912943990124287, 39467150059401442828308049659260), (99493616538607546139314989210337, 58992284879791916790700985071925), (99732817855429552246009890757909, 58998108711482793646355797126382),
  (75228462742732136206909865797117, 44399919970427851612726520880115), (47225236919479532703724165424018, 27808281132700041960094769665047), (163799129087647745875669078547364, 96230244292643487838113894578633),
  (109496822996421956630408323083257, 64180266851240258271480620293125), (175402564305016097619887122028834, 102573680339088055988805639307135), (185442260578779001700049909717088, 108195379060144660027247205690949),
  (123891169770170283409922277662954, 72117448576613433566302474718925), (188926838095120957071041889333377, 109721985080456152313230274993053), (25309994787798488198602083727880, 14665337286465231729703100620099),
  (119340207428236577177217528463739, 68990102210842082339467670202577), (15466968545098301767839766876817, 8920828747155533438137119321532), (53754494035134980317591383350209, 30932482679168649046375268702321),
  (148457298889177861358644820941804, 85231779227110612009225858951547), (72182444339714173037426735312283, 41345817624643812221154135856300), (36013876661342190894785481968233, 20581161135692605787954131580258),
  (80750967114406659746465101497337, 46041316400752246129035910180092), (113066255636406805055201910328040, 64318070898309018769334754768821), (22691625967562131469629991410987, 12878509905838391213009965286087),
  (31676473860146342334573496888601, 17936464037808080063954144714810), (54228736693207126295130847174461, 30635818455353340574655034254236), (88009048300365336874850112155999, 49605213675491117888974834391796),
  (88852824945616710670669581439276, 49965615326824207539577677571895), (97800278338473104709288777939046, 54870648217212600987402341688279), (129698146091956960497728413905608, 72599523174796224588548473108407),
  (238621429861738475943936249025566, 133262956403266094458603634349577), (38766200713140488563323183171214, 21599974577596696174446747675261), (87411120168069932684619000063068, 48592213834204910911512059147059),
  (133645942288274742496747999790390, 74123476025566173259728776746059), (48478403334156806817370672466891, 26825529779560202876046396062546), (125509916835029463741893338100874, 69291193490623883074809242309273),
  (81192024302242009168402050513567, 44721191872409452105977159736517), (152978810435093321273739773797920, 84068109168201077388461995580531), (106245383180502517610885048789807, 58251896227059042531159433378006),
  (49453430157626528951845495117539, 27051815716083849456521224331986), (116660954280937077330866524108310, 63668632881230765317960264191333), (125587226419322018126535904801611, 68382577948442643284840191029968),
  (15109436960665281970011014566469, 8208206637545436966699217197887), (64830609014529460472543982492805, 35138247811154509991183317996031), (796245152881682272164134956533261, 430573008545234612922994724891005),
  (362265966292155736618886940814731, 195446336990325181360179369906761), (111634801744674167410776343895573, 60089640456354725801861209567797), (39296290664365440135781111342207, 21103357566171764449311221876106),
  (103359620581119925976544929897542, 55379739229211247329800339550537), (163463754149752465633136942995213, 87381897021686494980482258370246), (108748827267788806682421301586006, 57999544425267487251532842005247),
  (61098473640070437100990839903689, 32511002452475993235132835851274), (108494060730513351805770679898063, 57597809133281678919661080757639), (154953245881672973851142651920660, 82073069855877752314258649211757),
  (173263419114676776034276599886333, 91560231137483973426760445643639), (22706394304353908960534470926581, 11971489122496483036132440599739), (61382192162296760794572195406007, 32288092926280372926793661969236),
  (80793707978929129756714808060289, 42401140688583584400222796408435), (17048592191008783111229469757909, 8926650314384610972625009466685), (34966332662521738782257164922177, 18266278926176801712091774765968),
  (133942039921952226289260348601078, 69809882801947041410155495658911), (16495544717286015335684704151349, 8577617213628316856905007557982), (71468302678746656764848192208262, 37077758211920541696456171771861),
  (18122686473791499156126584489241, 9380426332132621983372979417441), (86702270264833515970635318075644, 44774471617811164092337335209157), (155268814369810836307220530272169, 79998940773573989939708035439412),
  (12778960948975918538197942936589, 6568943749640805944981356527803), (51392328833791102398493293600081, 26357140892237430559686872087053), (149752973640096872838242293808086, 76625876429784088291908198715609),
  (124178043608229063722303665938646, 63393512149164976018161400990985), (151488127190129889634523649611768, 77157579776572064551516640664853), (110082766488703806408587690419413, 55939597254424079805940898057872),
  (125666156103715491555760579986395, 63711573489182279488039697225672), (126501946508408263442197257115225, 63987804335351623427494013367851), (108841079724166258441937556624497, 54927880521813180052796348405103),
  (103895422349899174107885593682472, 52311408403450725224749496410035), (157248532625634369066661167252777, 78992635077756737255319345508165), (110876037527281294537948962937839, 55569654523851739433788463775992),
  (6813775584277688040775882823101, 3407123105721783707689452282264), (158541767308078221318880244776823, 79094028324495124309303092957637), (9705649698468235956638856264234, 4830861788742268820248513121513),
  (110189772665329909065697469500379, 54719395007960966102011092420929), (27411323401413860545384354094263, 13580945409442308470495677819295), (75531461696986679101034294902395, 37336008720557331303700886872337),
  (42281252083526239348923754193517, 20852005926010193577052939073248), (122972839193038286685220314566237, 60507498697972288262931417272999), (75960211116530753420285405497599, 37289465911319463084000168225484),
  (143980982305146142739537782721351, 70518835524923620627136785903107), (256042986336422371821937489652428, 125116009366477693874212817226075), (113250692180654506983899641763197, 55212938961997871634954437124129),
  (30737174285933843735132056904124, 14950783055272527077987534848505), (32218052867432932819312866472399, 15635050554180451220998930725235), (62874023179550212474023749555466, 30441864662380367970408621620657),
  (117566704170063453517023118475214, 56791631276155196541983020130189), (116139780298208171617156574322439, 55973311331387582157788226463723), (30298325706674844595543147948585, 14568627191915193534306364715979),
  (177413785238098593176217841297685, 85111327027961966799538437256509), (15788306358235058847439545222469, 7556758529860144190530931003086), (126778180305034480192002861546587, 60540292356706884279789139098673),
  (27238373032647840068893119287817, 12977204942918433965748261620776), (104414135942222067635282119590044, 49631716899718914593925138289559), (51089158859541297017303894855582, 24228624122824881259368679028253),
  (37923295027891136622552776325564, 17943454786414344245017527532949), (158663804646221315395740681437877, 74899318159747439023601651327380), (46278881483757954500790092320537, 21796303869861769494904797149122),
  (83157765088855103022204427602297, 39075343900029471216663644495294), (192740387424039792674750541158177, 90359272904252839210417560854289), (179284303424576670856360334684853, 83857568992871280089472094027229),
  (14287087138219583184251983240150, 6667203230417794048334643401393), (12020984593969459392757606840790, 5596803257405913418278127317617), (166507563485467180015598802989293, 77345306679121208841041244763993)]
def tabF3 : List (Nat × Nat) := [
  (92525097097382547185132689713192, 42880471248082904630537801572379), (150335850070166938844731529285242, 69512443908369847142813167121353), (13745895605355212331875055653027, 6341223220822644563254007052795),
  (20754421907558439587934040876104, 9552359113834678246958051178497), (152995777505452339158048349201921, 70255357002935396140415706073738), (121091685333676703715049574804996, 55477173184213245772441044256575),
  (18420800309775745974185030315691, 8419930264852524848146632365608), (83600067368810776878479330298379, 38124716896193057704854370419116), (72174230700188057721279148844304, 32838413219100646162077655522609),
  (4189670593665022102969900810552, 1901865842520116666116815438567), (66372122387565344109019986180399, 30059773602395271104339267155553), (126901468478302877501668401622923, 57341182881827988729415846671838),
  (80346167567823037481238843146841, 36221394485461925646273504348011), (13662931381662632205257649127378, 6145311294261168917301251336197), (142586764803330222851757705971318, 63985153370974224443937354513321),
  (44667746728003089311677272362134, 19998344477707169070552751800661), (130615107556051075173697061255259, 58343625432321299561270579378902), (155499074201168536835823397850641, 69299134037777759273431590713165),
  (61042582877726487685489822228631, 27141440994511640771755941330259), (191087944087811030256021472143776, 84768263748439249436100651165585), (35430850892209597213402393930031, 15681282627805960524695256630556),
  (127583446309245402397504468752809, 56337079461650819827748047067784), (106368029322072851496569091073947, 46860952639446865050420786336787), (132711019514240037216369403809167, 58332015903689717266523939771965),
  (158922484430090803464881969744495, 69692387989262019134976645784403), (104644217906483168729516707431654, 45784158511083372525277078498907), (71370200433097243608707061878580, 31154222439200896865864060516447),
  (87229670943426712507479470629618, 37989557433547364734636345815731), (6889049885736404011483598504282, 2993362610180464165654269546569), (190889064863347542330203548739540, 82752486183483766331856515080603),
  (157576507818615764298553656210106, 68154019077747506206559148486315), (134437663794712855558434049874162, 58012416571575967840698528166669), (16505318929715000737083617067563, 7105979013894868649739778117458),
  (90076520548975546531527263619641, 38691146772020898031540092947796), (36227934249714131098373405908043, 15525427619770714367218657901398), (57345672642606659817470787345904, 24518881303376963119608448872283),
  (70341310862338956415162648058973, 30006162539529794721867863287495), (58244001154994244798449716398937, 24788554466125449578243914700264), (78763424008574738516329205332530, 33444490757439556530137807279587),
  (80968668206286604657466301380191, 34301806755992435741256703025620), (166201192462767722508902517265339, 70248027707528809534243196100820), (159202221406932256207684927156924, 67135020105366318428445715501205),
  (78795347150936353584404009400645, 33151300739195264077515235296994), (40380816819567401135774056604553, 16950210640908600489121499906746), (103548955217003070740566231538762, 43365636119564386823055389561327),
  (118540484470099971768719949216824, 49529814088610046214178572297089), (81450708833743756492059971981607, 33954306774744561212806397434055), (140142407895986852978207229629087, 58286714424122152865969754775682),
  (122289756464230680962200409527755, 50744628817604239642228936066181), (145069038788033509551111956974969, 60058534884656732335680134333447), (103876436654354247691999326423511, 42905902675720256650101431943628),
  (164241605645451053266181364499706, 67683558219052442321067533351041), (138615171154895679892296871368435, 56991588961190973783142602429343), (121153136358367504626662128530717, 49697513623898204030693370951722),
  (162216261078116504986358601024841, 66388734027765644612563208869547), (56256653255374499651277493745452, 22970682134365562004645881908809), (388608724352569613022359518321230, 158311530083851677051907431069799),
  (91746894660383837950813997696224, 37289913306336490280910284949971), (157761914410190029347804764410862, 63973802862009439037813910658493), (135927378158802388079379648516931, 54992940224692969181267825317304),
  (8465243442686091856117585005469, 3416956515989468711321561923616), (65754379692128764394993631163988, 26480408783524289913412093396271), (92432582962855950342804561996053, 37138562457507802895350249705049),
  (136535152781461399147183348564567, 54732398536246735621650560171278), (62342663471283304674937801969168, 24933620941462714078291819292493), (41084811828693699210195844803322, 16393863028511482983903845798241),
  (170373910052827602017459109785908, 67827075267267237954275266173349), (26134304186177263338942045143239, 10380324774013427883315705335311), (111647124173917409620612252155349, 44243302897912945837477184824819),
  (153238433806377851170879688089749, 60585361638561160462048976243464), (20477358822959324755864012828967, 8077443714931933911905194948970), (111614763560522383139496040142297, 43925998621222344659435170401505),
  (86771511153666745669559127901511, 34070394391457137058862357544459), (161296427668770116668119840188458, 63186565345743767635575565296609), (94701670014786909987834210750299, 37013285541615774706744396439240),
  (127776922939901896697939378504895, 49825587182600940133552131593758), (113688732625000076074095280034347, 44230049468309154008223791374942), (56197421820335365416316911792626, 21813049847294014927161863317423),
  (30241588510839822116533263032156, 11711286345396466174376001741601), (192274482707089000602654960046747, 74288510648172875970451365235949), (46051161552852264156775673927010, 17751726123994624505961530232473),
  (155415562928703535423107157672145, 59771548304331881766564373255799), (165607793979734531069184942925240, 63544910460016723643312217401141), (60623639556784886614295249783847, 23208229252257750933379149014443),
  (110964213807863791411884077530481, 42382145732183562211766826374365), (40295172776498233073067588989980, 15355113192870647056096818925007), (139365006684128593158217078512554, 52985097759449825863228349262245),
  (167957612181396058791715326679217, 63708839140801741899047891705064), (196515325984267884432380882293221, 74369767902008506474032699329324), (111837901157535938942848163564227, 42226881368550966272767819047656),
  (32404118551381402900090626346283, 12206754561030332037431513157373), (35112412530975266350984539263091, 13196557983946784290682447496145), (108587187079379700134009647649212, 40717263544546983323508046133549),
  (38220172197624898889123745753409, 14298571104712628468588861631753), (29790230669862856159417175790164, 11119208298297225846841910163171), (160535133126048159997969379852958, 59781952138613378410606407086299),
  (100898374843724685494496820688747, 37487300813095641464000677499080), (114005309100774328397469331818046, 42259570264520709629046635285657), (90762058920889764950295502861103, 33566367043821934997459177017261),
  (97215929409315869838385818083888, 35870500176214622202991418649371), (57410212847481874861913017713245, 21134362732142774767109411613114), (137866402927956523053632107472269, 50635889628775746822300640523656),
  (99495243553147597223122027368413, 36458795736610874919796519520634), (86776456125143625992349461205557, 31725020393997359978776379153747), (34682438257898760063211276756642, 12650556243572273613246669309535),
  (28903628744352230499787244636443, 10518465098708324206941607580977), (87016734884332176265435986393253, 31593866834248945999591025995739), (71035908869818511405663741162447, 25732260624258414359509564104286),
  (3942852254351544623995399079918, 1424985691653481350963609929429), (36089648187636904934732850314053, 13013156370626591476228802320287), (133790194547763167417878695679808, 48130933538915217900883684328241)]
def tabF4 : List (Nat × Nat) := [
  (84985465520537399505896200846562, 30503147701337668781893051030135), (126936337231321540695607148618474, 45455450101394928414712341553239), (111435374048135579362507857310207, 39812832356699201121977011806910),
  (22241373716311914829350293499472, 7927962870136059785490685763403), (29684309051940617894617155184258, 10556669968950908902103803649939), (149801346453427494661945780461707, 53151523446893658218557139343352),
  (390339778432619547095527000864761, 138179243684244344531907703579562), (19938996324429010769133184134989, 7042117924332017104484935864832), (30255705191120046776436574561234, 10661229192199670921791544513971),
  (114332509346146795149037506035839, 40194787352437130541407163811934), (78811492808266425808250638505331, 27643278791498785175820474434003), (67235147229907932374708545344250, 23528614827546324321627108392591),
  (136649094338195950542225306200615, 47709707907100812426143341655227), (30931455091357922199594512963267, 10774580016680595243607621329534), (178688643336627536168510342047648, 62100765198705611207888362775351),
  (113614484801484618732600959076230, 39394328625853801095606758953949), (76255131306575976137196835758113, 26379652680246126329547470738044), (5317919572868066881867026040918, 1835446646867024067346105292671),
  (40640739459709820048267385983095, 13994635819121954784432419282516), (14333911727329403510884820390997, 4924529298419237045684072996611), (115062350567050494008730637276699, 39439667218699604895655262682772),
  (81766739614697228556428591023341, 27962544029597751257353656010148), (142422888182050955491811019559902, 48593679900438320376693938681833), (76231885814030021527282940499728, 25949958247447369754770943254851),
  (24689578132317702192050400909069, 8385204703330586379457617799729), (10435887705476594925404854005188, 3536139563125695534564796345815), (99274701966495069465010205536675, 33561285859700795362597231067837),
  (171487853972259922987605119845145, 57840676733988666096917332679207), (74560185989477847879401105091509, 25090365200247666002387926042562), (29359182302645769798245370805064, 9856981822414267077682398514635),
  (133651087372051537070999787641003, 44768495175500437761691631420695), (21299830192734281938049416713638, 7118297603810270280061127416837), (163267856820047296162214157478286, 54437815819049834757274384038651),
  (67694535288114432819803298574841, 22519233869389372732409882672937), (22606029207886934134437929037883, 7502815801370100633865791680113), (138765736462974549242123209944429, 45949653938342446096262145145265),
  (42581668905731300323968275153341, 14067686412968057181093773255632), (50874317403044764416047362273433, 16768669116442215321984577903343), (75346656248575112725569784422358, 24777870788396004008644525007309),
  (18579703735526761371371812835947, 6095913343062565239105310930324), (131650516763133166517575894627373, 43094571638402145988143531617487), (55605388835952797279144234881981, 18160043397033627570858016705967),
  (60268407494829758318749252644165, 19637659072760068466198605732012), (65861465061876462884126129880153, 21410725678810629605289889350721), (137631391015724276634097291414277, 44639312697298675371074874067935),
  (135183943720330653732382134382619, 43744666706630852512914322977321), (165044289177797749680524047071401, 53284451743276036188980906437339), (143350163669740649583871808451166, 46174073842197402765253359118967),
  (67540345554876311593966751938636, 21705174327583696964527189435617), (47339578122458765053529348999693, 15178343716906958537106019078676), (47107818152770321501260154397217, 15069296911712864799955225313741),
  (193839232400217492441657113508215, 61864524800896816713049047532832), (118461238127274320569143132499991, 37720398086547520018704359073194), (118251975224614492954968724616737, 37567163389419687419570074542505),
  (25580081214135264056233925809289, 8107779311833317088830838685765), (119773787327890561750291598542803, 37875797194074684864904537394041), (150886670957053363431499995161691, 47604814447510936104678980605418),
  (121868482498487235076338136527577, 38361131032669890206030917312625), (131108350482930328239336616631278, 41174691453141285655541108983025), (123729049601793633426098095065664, 38767846480043498488331422701643),
  (123342874592957161466836456936827, 38557961534680086809200790474606), (151783437169069585371060190786760, 47339578122458765053529348999693), (140961718501682800612297041826453, 43863288236822596564724573112883),
  (10207485788910211991051664214872, 3168974787664513130926189029725), (96325765174447807390470836065039, 29836128406313900188135746384876), (111663863502818870863050495551491, 34507432735958217742300176393933),
  (131277404443766261812040789887463, 40475291152103117223537185156755), (83075187952933722788703605460993, 25554732104600507089533683775433), (39275318145520136932397211464024, 12053681498965951663749850528833),
  (181600433970336275708580167059670, 55605388835952797279144234881981), (9575873149143255437552816469343, 2925353706079125598899989613262), (73296721363231539089938774248203, 22340070979915176283315603106251),
  (163073808382586719495957101375959, 49588870199061086214790303718748), (23783126942765228797777672532307, 7215541916422866043752574616551), (198334620838514063110398716047798, 60034172707347923501771637682491),
  (18776114525500693631932225433512, 5670295936375110578155158817681), (138622894682977813457975493190743, 41767161676993038893327051112139), (128202149115755236620937726126481, 38538544240288260993572151048596),
  (69385563291819486581548582456853, 20809858078367041879345055993996), (35591488019051351400305637084185, 10649915096367140969024708356819), (142608935134634191650175513705217, 42574223625333564914812281637527),
  (49284909112071335388411992573175, 14679591151322884899122685402532), (155703512666904896426778887989351, 46269883961453276511023982774993), (115681353467977332193834665358414, 34297570794451984597521023969029),
  (67122571719401590725194462135674, 19854940393299013893002041107335), (17680697815628477672823981729075, 5217943852738297462702427002594), (83852047033305863794576177997290, 24689578132317702192050400909069),
  (129749791237236848773854716274255, 38115942907015010763641470249864), (246785178780802635676675512834089, 72330101351654724870175567898216), (22823665872195840066296665045461, 6673987683128325145682758768990),
  (165975996412744893749934388650419, 48422285561030271836186972515804), (146256456221341983519365531114576, 42571117075121916796729093776457), (27989271638243909568864838565032, 8128147891941964009653477196619),
  (9177233234335120336730526463355, 2658959786434033440933513020459), (169766531930403124100429457393177, 49074069855017246368778660241125), (39394328625853801095606758953949, 11361448480148461873260095907623),
  (84444716424418720650405787327476, 24298109317242554835564442994395), (149284102217287758506600168496974, 42856190185037878958661919029409), (95419415814201624852286683310454, 27329818867639190108445061240123),
  (23528614827546324321627108392591, 6723514722990793237470854534425), (60519991939771975760566036364948, 17254360256947925282158185530593), (132906742550552284546347654095279, 37804806010263896923046838270812),
  (53306145960998354608957722569855, 15127852595560023388218287280617), (105179085505273460286316670059131, 29780322082512976738790590577033), (1385297889309863315147601129123136, 391330026680442871650806020786025),
  (270099353724002595623302266005609, 76124340828128900613368429601328), (52783349844754544510519018249695, 14842154525970308947308577592129), (39639814350680298927453428817015, 11120686858155957414675146749736),
  (183797585968031784119370377514671, 51444600971841180517589254271759), (58738858116812740049033870538778, 16403083647541924175888331042843), (46038900757671055765271294905379, 12826995598139250238720553141820)]
def tabF5 : List (Nat × Nat) := [
  (78348351557664595046891852005481, 21778595233190941078886880023165), (107992406283026425028170640547623, 29949751149444693390034059702246), (7124928458267406754818049647145, 1971426127175772311997699539959),
  (149518003260544660107658826787306, 41275608890734105559339033829223), (60304374674990605618702686331593, 16609203966671833847115150395777), (105184650987083242069416075809770, 28903628744352230499787244636443),
  (63252781217861368066233346547675, 17341219128949380031605638378321), (46892593585087359993569806898317, 12826384472870020382102250693831), (126990636789736803108834853786414, 34655462642383716093381225863997),
  (16543075668079347766816854997669, 4504185376111152443236611651366), (42268725464285549534218823226228, 11482042569496374972382603542649), (108375610907821558409509917321139, 29371867378343592869622285789633),
  (154732756873103975804826053245901, 41839093214864967563715432848080), (20432111824930993235602794690897, 5512051375824048185899236943718), (120006067169681466709455542206166, 32300050646958888391542404905955),
  (8341285891147133623628910190609, 2239922573744162793790284418258), (55596041491486129234209550815855, 14895115334931428079708587895082), (142985711047126284685888616317530, 38220172197624898889123745753409),
  (55834757856901111319307666075924, 14890340777213549550633453834361), (184711092942607958450694574720689, 49146543381522404459492478524986), (145416596290833187715037861731233, 38602370531719736732657179522278),
  (161473628917707717868265769037963, 42766292856987583526421809018910), (81494293309447699157949211872377, 21534123431264791638922794610968), (78893451802542295518251471983313, 20798928312314414245762981586728),
  (115016823713733335164694737632513, 30252506994370652273075663166836), (15355113192870647056096818925007, 4029517277649823307306758898998), (22038981537111423627478936485071, 5770208697891706538881996531071),
  (96273131525253785352727057345603, 25148095363725985812110905542518), (63544910460016723643312217401141, 16560779397973453106918494292524), (119543096608663763533128746511598, 31083112585740707084621431534429),
  (17751726123994624505961530232473, 4605116155285226415677567392701), (39774216763256600545008740513429, 10294414151675932674554803329754), (58556431726982330871880008708005, 15120794255419911058266631516078),
  (109065249236470074635809316587115, 28098710910167682708158455896313), (108456225363498783711108504750183, 27877542428936675605575644740025), (99651174365201880267104263187516, 25555384587980379339587875700979),
  (119602692680859675452625438165802, 30601376152916073324631356465227), (66248615014663744596889145877329, 16911292584743558166215735984852), (37640433442905999979354124553509, 9586379461280671351230695422190),
  (159534114751735035521915172255701, 40537183118812946701151698318504), (137118489744182022232524696568003, 34761300912110955830250647693957), (94852084184568255188963006395469, 23990918648676952675143214669577),
  (128599584735812146833689418702069, 32451857942980835876520824272532), (103803247740134278833157053353110, 26134304186177263338942045143239), (17475847338906159659971545832211, 4389734380973118506046696271591),
  (81969315142557414919519228991205, 20542405914346849605097922401661), (95299183529047341086417960053829, 23828087151031046585902199510439), (135647177454641497659603633082266, 33838473360304392827257238231719),
  (69970375843789077080735413503716, 17414628198178386484118817214455), (132402043917621449567060466981355, 32877189846064382197496815581994), (34169565159894687113215619236160, 8465243442686091856117585005469),
  (120217253413719471749072630661178, 29714388791021322926592907635393), (83870879083831797485358364901699, 20682888706915396803955621011078), (95997846677613934901679528186933, 23618999203353226067583873949169),
  (158311530083851677051907431069799, 38860872435256961302235951832123), (114853410671827810023229409544045, 28128326627687249825638746872726), (161683409002032958403881874433501, 39506218141928289530891233913422),
  (141826017647491877477942332157533, 34574500014721329982872385480978), (113983177922381947566285204858686, 27723034230979135978459374273687), (121899681064003275281599491479553, 29580299665723711406278109682662),
  (52718736327568673831588472968551, 12763359195626951084506262464752), (133546989114265600679695286765461, 32257752176355335214322008112093), (101489257635208479284457872132362, 24457951292846136192440081905551),
  (94557477403040789077528691279377, 22735048113036748635867770816340), (92438232152969854712400614973136, 22174387426450999525653283635581), (125775511217776014576038537284678, 30102051276744590432680353299003),
  (11614259907535452721030227761821, 2773266084989931266173195787280), (152121739160540795920873244946397, 36240258091486063080303550954049), (66302601478390528155030470593988, 15759069430187270716880801880129),
  (335675100526831592142228577506025, 79601110703466128103842463578462), (150456211440043613443760548269118, 35596731425508126091238993790305), (70215555676345213736429889519889, 16574229080469178527363643726874),
  (33444490757439556530137807279587, 7876342400857473851632920533253), (11252212176880722946187363939673, 2643856703794792491962178509215), (179742986879971064522756557078413, 42135868919569887290527210037503),
  (122594406516884815598042244361415, 28672836321303329908735393672952), (82761186283706339580224435563693, 19311975737765449406495775127860), (11376320208807616235433150231559, 2648511162252276954643653860642),
  (185115317239719079995938945266487, 42997415892201461458971002957771), (47617329252721220226494113096646, 11034814405604368733749064396885), (154975447923748289362934260247758, 35831327648618988774739388067969),
  (82752486183483766331856515080603, 19088906486334754233020354873954), (14966813050902320828271347732845, 3444524942868202005741799252141), (189947787167736823673181729078655, 43614835471713356253739735314809),
  (31154222439200896865864060516447, 7137020043309724360870706187858), (100311743825138452954200200244447, 22927240165123913530294583972962), (139384775978524038269953291568806, 31784496886018160692976393948899),
  (8876487863499629389524537712853, 2019487473252747285366757627533), (66478029985672444617659816039473, 15089614368695665474593442004939), (273701003357673264931819420441173, 61983541923646366460049346970794),
  (156812826278059605246952566305560, 35430850892209597213402393930031), (71876094473352582644125583443973, 16202591057820390643947216612173), (125210323867085580386012908152971, 28160485559145864950406230206530),
  (139647495529263308419454728079867, 31335249091964860253690990729815), (30575277639060745641631868002779, 6844952036816116716276130574138), (99991722388535845352763759003305, 22333873364001544655838636181067),
  (86579094319771314401897529280369, 19293589697416729358154840130354), (30726556471305844586506256680985, 6831465690831316102628824563689), (103518997270796635837273834037469, 22962546912738973473312651870413),
  (48276668961467236606556096209353, 10684084067600583804251501998939), (56474458444690952263310677545021, 12469587154055680041689782051346), (9509329212600583330584077192835, 2094835296832511051484950405276),
  (164192066095503230810388277613045, 36087115350094028860639574422152), (183920696807196260858076726075939, 40330221167191347224712324341968), (118346110706371272653001525402531, 25891307934708434455063642563374),
  (34413922182242214941272289751563, 7511629733101746297153909241045), (22376030166293130730347832101697, 4872849955960562672737604592313), (47761795569173391234790255892485, 10377210953779219793967020438052),
  (63412232208226445632540070527950, 13745895605355212331875055653027), (51411770403341558531510126128391, 11118918818890736889881281057554), (126780198545525623084756149183916, 27355926460287292337875819592153)]
def tabF6 : List (Nat × Nat) := [
  (178915303156420558993209881249177, 38516559669781611740780646217402), (1164350638519322151393477117140358, 250082778398514554455029883770793), (6667203230417794048334643401393, 1428708713821958318425198324015),
  (117868408657497408057442247354878, 25199818925968614215390469194617), (179749676219417238893409883294897, 38341413249957207568123406330693), (83626836954672029126494890378747, 17796953701526753509692815385419),
  (6152947778689438624009315321807, 1306421229607890258646278037238), (57413610064153929250187972082013, 12162276019421592871713122746328), (89717273932071721225087637664745, 18961647513945568311276388162782),
  (121143120614124406296843395141265, 25544579429770648508651947427791), (45145294289370893597360334142248, 9497569678289107022161502510549), (129772049429184339657482616207760, 27238373032647840068893119287817),
  (32290294752942724053480985162289, 6761950844523408147622818452068), (75567585298601441905309310030860, 15788306358235058847439545222469), (170222654055923933599076874513018, 35482757047619718635243568259537),
  (29137254383830387068612729431958, 6059665141334968919108629589717), (155980253995409542228905419280392, 32364553747112547010132072626283), (98875936814576660670461475621533, 20468716520030558902699451462954),
  (86770590310610027403100333028227, 17921425533549934849813508031254), (156350505541804512209989307252350, 32218052867432932819312866472399), (74753915276362635389937674242525, 15368587142966921867566028452062),
  (194502039915189535337212797314053, 39895522797845726165532480174936), (123465971189859827482437033924809, 25266627455949177851963333896515), (352512073609545280096518035100221, 71973727664274681192910588696251),
  (90423868528034958410794498025081, 18419722502053703842976418649903), (88780371869945486917249137417073, 18043341120340863014651379293570), (127455743786830392880176926953893, 25843980918028800383965694544791),
  (74672017441114662607401773744674, 15106292339397335820206858980479), (135809454094423084704956778192950, 27411323401413860545384354094263), (128974188031640022179452874357032, 25971845004562491687018829336697),
  (24154308943711344101242565607565, 4852824849234117978319428132117), (91604125246122394459062188818763, 18361790664710709693835570976135), (34071231057217837076894522822640, 6813775584277688040775882823101),
  (138003255834847461041474344110077, 27535269571028028645324487203705), (180407148084890509010577736724787, 35913169985530482638219574121990), (43173423180266553960643744874966, 8574651634324632604486192617417),
  (87226485101974616001815372631397, 17284163759554847247555353150177), (127975608670703246854988026735702, 25300389301681652688439451423045), (127423146978364558976079394451344, 25133231220743098311152115997279),
  (80034248470827369402441935246083, 15749830027273219156689565178524), (92372997665315183484942394294854, 18136147426834871736233997513679), (316967560745824880090807004954925, 62089021804114531861151832969323),
  (80933590131760442445926038439003, 15817170849205355124623948197714), (66249104728897713999804402114419, 12917545909444639089644081925298), (104850625757195426311065321079289, 20397222188120495958579180567774),
  (127026193457468923607475780470427, 24654334496596958643966793784618), (146571471420659589953726714651233, 28382421654693764759657105068165), (114232744868190845145817219256489, 22069404385122233020672727271085),
  (185388791059602708482280858859305, 35734151339373328382424096104131), (85776172136283168569050075579820, 16495544717286015335684704151349), (7821241004426704679876875198196, 1500637062844221509307395548039),
  (182662789261768017120917747659680, 34966332662521738782257164922177), (89266503143846109726250094666850, 17048592191008783111229469757909), (100244561208538342252091250164791, 19101207357233214731358194078116),
  (50742302512387599227741660693983, 9646508917959756022564120915333), (132098732867654491601688814021099, 25055244881456973842655090649068), (80751445643336452099653668531901, 15280948285952433675909826851377),
  (82073069855877752314258649211757, 15495324588167297385114265192066), (46717507608758791882889204861564, 8799939067047132697162310469227), (56265680166640426105341551397851, 10574103894604148006040577057541),
  (21863914237245040545736407276443, 4099471911969149590730148161278), (102588029092155079981468027178977, 19190959383802168064010529036885), (99087262504320105073374101085966, 18493445435846673298176439476461),
  (78588478711013992573702218577217, 14633859529768276146565669732432), (149102746905591244616107301789499, 27700374746761736414080364566469), (387274837698810584472941643254947, 71782615862758398391785509584266),
  (2152950282864552694894635167356391, 398138339632139415998759227266221), (70276495622309019982366635992062, 12966121802905892094508796498561), (109662265510599768616948750722021, 20186322796956677992453702934855),
  (149673318013374212689394431205149, 27488078750773249374041044817828), (63668632881230765317960264191333, 11666095428093707733086652410831), (11045616470108226436987362152979, 2019249385643468735828976215438),
  (143840703301452222236185280974143, 26235044057015285897355751729340), (84068109168201077388461995580531, 15297881043509332127373977379792), (76411614119508215966762228156177, 13872648225174404099429642649608),
  (164181057286400504431164474648738, 29738773151153295719639369534237), (115499027783602254896445924858351, 20872685458994318842483172020069), (74123476025566173259728776746059, 13364594228827474249674799979039),
  (83746821252617975432347621495894, 15064972098582391588810586557581), (107999872887983480872233738376305, 19383100356570244281661591585607), (133770460696934863061858452176973, 23953017002092982014963842537236),
  (108887351747715241797569605615069, 19452590095583800776056060472385), (45451073927803248012229641437008, 8101102912662994875424981315403), (92768051891266376304776989482773, 16496751658766134825193012497493),
  (140642468899553338647348562398241, 24952638888800981737018049945256), (106863677897461953856545767526499, 18916035356504479580838642330289), (62340455263224958773463733584799, 11009560175364913328834601012802),
  (128785099058383912130099652860870, 22691625967562131469629991410987), (64318070898309018769334754768821, 11306625563640680505520191032804), (35341388323632014187084440635367, 6198457188883627646256710457954),
  (97253343331400826023809699410137, 17017844078612860208175864780224), (18159230721347725076269038802053, 3170278727332343963353343455159), (62558710323621345666635794119587, 10896519163219858931272764010085),
  (12951877864893913620009641533321, 2250778408747333474453988542129), (89208287471555334381371193215320, 15466968545098301767839766876817), (18448804352833732955405400722951, 3191304357749056516661167141427),
  (14665337286465231729703100620099, 2530999478779848819860208372788), (143610896980299090070396450934815, 24727909053592985194205351614642), (75410818976439654999817232852837, 12954887840204828863431852838186),
  (540976895300723300136236028454745, 92721130289389500850024954858544), (148065646798496846284596516846997, 25319452366417881415560116241490), (145389519485340858271372428477893, 24804649873956651093033519186430),
  (61543717530686354184768679922597, 10475716243311325607336163036007), (139041405663500209800473848325235, 23612618459739766351862082712009), (118770131228851796844391982849356, 20123672290513330245728847691571),
  (19565220771566963689387511263711, 3307385002889380150796059625665), (81904423479417594677626762929704, 13813615321193238770487179533613), (26403692706206621249517446807754, 4442880883320937514587731908389),
  (75816588908458024088012144413280, 12728119409986566996419845713981), (48443196186550036161095798770793, 8113958634461306131987334316760), (130964078169622321517868788826083, 21885284184110969366326941262461)]
def tabF7 : List (Nat × Nat) := [
  (66153541664641225977448082615257, 11029430794075367794741027777592), (56648943778206921475080089795344, 9423056971077789627512165848679), (27485829877110087294111357471545, 4561512340410803702650567748662),
  (99045866384801893960709076343497, 16399717056577119608448785344981), (109183304071552894571855127224569, 18036664733062785356616578235180), (29749083835009899431645675957947, 4903132115920275285708045279424),
  (29695440020964979293496216192859, 4883034187889982874132669038773), (165317439484188462034428286358345, 27121810054929330806832983195667), (14225627113031403777078602573852, 2328474148628118180628824193689),
  (65982364302785823347146541400509, 10775262855133798162841107211823), (101921838255244798217951203961555, 16606084670861783603204892276503), (479237315826170871441786197416213, 77902362245043377138615508102314),
  (12767830884368795405024449383784, 2070699704964050905224754151479), (99341959204968096834237931389025, 16074324108991068944728346862659), (67588257614073259318391190651397, 10911168202027207881778393028626),
  (179061256592196308884553766624841, 28840423135975728416978206380245), (106117471746050511401029864793563, 17052454301415701497085963205770), (20433674109968308239779282534201, 3276019383166912631808370360247),
  (96736979432075891387063870622272, 15473641211450907875092360529757), (9358569921102300296179516292587, 1493514658504407541976620311922), (165117228522264628171818576199244, 26290109223965212552530984609783),
  (167855633907562612730939438932129, 26664652147767766336515228291152), (114418773380111697194018813960177, 18134153501988989644821864698969), (167141929115556164966013719439010, 26429284769384256024530755821657),
  (176898304846302330336001320489223, 27907675931623745376888123459810), (375878429968177062773925457031141, 59162620789237661097522698696016), (10238806101606893818859243925428, 1607864026274688974894575682711),
  (148412346629973097863537237434789, 23252520289977190780276567151887), (143608542206497544295176131068090, 22448135421319059307466045447719), (81572381241442653342654587808872, 12721641132664633377088566620773),
  (9629299472829568880875790784364, 1498285903615567019756536066547), (117077253485595000131174809165373, 18174920747260728198212108003705), (151697564725411887059018977479193, 23495170929526973541580135967884),
  (99031846481824736656619141817364, 15302940043172632751745785899531), (164761256701057247739629478677834, 25401250408455858461637803396737), (67052348622963287348889928503972, 10313688117762778280611017526435),
  (143694915866798656668232650949067, 22051665823110499751042273778954), (33105071416698541850997025699399, 5068675976419530000215417835546), (8479827835455193787939628312565, 1295349718114377791735493828704),
  (88773335704934799245635057854217, 13529524674487728110886800796781), (11538477281806584207002206080256, 1754480312772552242345191989767), (8611925583566393149854054285141, 1306472487108185915780152531250),
  (48741188900902055975328645007509, 7377277472311436861456086280690), (34498474396623532521945993025153, 5209546153528118909478358158003), (94168041672982794796206909349038, 14187423699348346573761736353895),
  (71073900491349176463445170657797, 10683416252225320133329194352543), (80644895006018674456008198619391, 12094192610120729781556691654588), (61219346876891374669408440217951, 9159856964001826901789165003623),
  (78308890791721463089553071491781, 11689907439421392995910528422693), (60467679847159624506567301225433, 9005820882384424990625265481240), (81817907186449526844816862296803, 12157614446567559877184413782112),
  (133480114622280619914641784279841, 19788668393488586389096891767193), (125217482344116443131183263025160, 18521022848048704340345414014033), (110048427844514277029582673155111, 16239918394689058400015635404471),
  (138942495203690650482051740986613, 20456677280759181855016155752128), (43332693269656387185516542712861, 6365253182487979587578533219565), (170255858902737008152314798987249, 24951810642500053728159563491988),
  (24916335572866035196685167965838, 3643209714574867407955198441149), (78150010915032416568336217582569, 11400635036352341912905126869563), (55987601920238877297131581266109, 8148766361481999147239722581574),
  (164730318101025800149429205591333, 23920680868342391469973083994659), (25891287461381938692058970406640, 3751056852608655634713940883583), (50382986215403096923606049106825, 7282557204468747842587859902522),
  (140863187521593050031041671979610, 20314096518961566149207058621697), (97075979292671876557455130629814, 13967278098909018728966977628879), (123574778023912547109340661506673, 17739028808235003907845330290121),
  (131328154932797239856343149756443, 18808659432867332104401066075807), (51225620692864223856890847211466, 7319597992901502424637792515507), (23683851590501080001613020337461, 3376387867316560161161683303858),
  (104190239947338050467223866568349, 14819277761433289668576837534272), (114199110620272677812414863973953, 16205510689590262988518396978019), (137947260739883381199080278137470, 19530487371764461087442282665167),
  (55396133000681317673559542514532, 7824911769037791894225212335971), (113831561909876352627576067157277, 16042154510645488780010446596016), (134156479517114329356150620234599, 18863038587102410803325072401453),
  (32407445956066229992818595420681, 4546160931702071805180264901026), (139499603328253312577090619952660, 19524187632213233979509420554329), (67256363097077636517711816960883, 9391465750844934304120080923944),
  (51044619201170800787415860408427, 7111315849386354537635917630754), (104345317884910952849738022148636, 14503504914892574785850757843457), (45051438615588034817998753301221, 6247534509923078843679058304021),
  (53052382863547080463862382510077, 7340149325434239706160388375219), (41129629266082383064381802181160, 5677469304785042038030569804899), (27106378426768118572603350888863, 3733116103676765043489452275000),
  (67068386357336456776375168852381, 9215477805133701567856958001119), (54025485131585704581274588184665, 7406255247510125064449607508808), (23063049061289535191191167821255, 3154399700725698559885209353897),
  (199725289567027675925194938227949, 27254176209350582964361317074603), (29529738404412611916452333985347, 4020310532529809714142242576052), (96031890037093263136494963593321, 13044140753856273989220038829101),
  (118458340933859632350314035143360, 16053348943823591436650879964167), (136540336917505017502379990385857, 18461244331546120205080492062775), (56490719351152471031970671827579, 7620388361560674533783091436395),
  (139548647757346104223618149448039, 18781299247873064396848451439522), (23809965852580997219308025973389, 3197118787273478747478754309272), (49884103602298057881257824562731, 6682857066913881663367359684509),
  (10629782616554072223108376199635, 1420771978714948236371708242152), (16972364185304554018414552079012, 2263301139558483707473947270755), (90113764710310538642927657844192, 11989225637947085141338098696307),
  (342257293535181032104712428292091, 45431043455617990354744659681125), (101317480542542366065372699526921, 13417894772376612205411038868639), (178718248865726953382021852900413, 23613964197575486238108268444672),
  (43580033711322577025110537050861, 5744967310646637431931985319849), (223548937057715967700953083419663, 29401711322848773627581585817675), (14585636570655477691317890671090, 1913927083514491474328882064719),
  (96431282498228805277368883612559, 12624609185833025025277484954331), (178629128459976566737303400400711, 23332016736678439214160077587801), (52516731422741018913667628409481, 6843805970301805499050853833610),
  (34584091301179240542957915967673, 4496518339371899877266260411899), (55890143215915784103677396280777, 7249953523201052791135472734952), (86393385993428063877531671314822, 11180996088147807047542588000203)]
def tabF8 : List (Nat × Nat) := [
  (66600742619406639669305654616263, 8599616250715218744474119007390), (334911211445891493888754474031572, 43144921800217411298683168967387), (11356933507283141232257643829599, 1459691513477767872344789838695),
  (118716585475003431298520110626764, 15223390822309453137366120538069), (41157547952663076480349550920122, 5265619737560394549655394318575), (95497755563299744254383383141606, 12189704135537521013312562597631),
  (107393994476371610005779244440241, 13676658284834559184402744020770), (145389248179260679130160165860404, 18472781391230673064573766932483), (184674055075154946423572370192867, 23410241049155470437866841812446),
  (135193097630460878903386131876645, 17098362450045985550188784694344), (148387533343820548921191837252731, 18723947536322401806688802629221), (101045340304921584689571832511149, 12720854665325516736438923779425),
  (143898332802750807718675905735428, 18074061772599211465139725863001), (76788136103792216631968061473469, 9622637509866754077847810898758), (149124868683058657783523946756103, 18644471370102578386899922295766),
  (111976014593828267076695193071449, 13967703459496857666780934198940), (74113023641621402031678443926037, 9223474084455594375188463298629), (27254742468273830832199350224505, 3384091387856908737666072357869),
  (36813094735252129245131814408695, 4560393609764944030707954513282), (62121446602397206053182533039881, 7677884249009303167357008822140), (45036057693458499931444165141485, 5553418041137967041187949554164),
  (131027872514212315786009544486709, 16119949966022141736240631292134), (233530151519157629907367464539788, 28664406963298119827259563428901), (28941082279130020744070327005327, 3544171818328525966599723317797),
  (63976227070768622165605174378228, 7816613249369577245593748310369), (76531825513352294583354063088667, 9329149928750918043250772715917), (137255262097640886460362505129129, 16692792827819888821646670157658),
  (39572135592325591709288321968328, 4801638811681616023397590986863), (23954693574359976373793669624125, 2899950733089392074823911467676), (23022682679869208973336007268325, 2780711466201927307997677793591),
  (80406909158700926718203438766636, 9689321539044486713216209569499), (54120671011505047690975885398367, 6506735793476212440515830852215), (15832176794070920317258802965587, 1899068503182583559215443062887),
  (96499511758481349286800456853963, 11548487697273456083710932981758), (74745238074276972413635225501719, 8924492512603678432257238781977), (70708921197431991104408974616504, 8423143727267829414101472382865),
  (46932944116334518616343574809560, 5577990862244068436829295159603), (44248913075131085852353803986099, 5246897826485566917014525139036), (94829278059898770003235989935765, 11218697664427687439930471679534),
  (34197692657453572459006789049413, 4036424233526808822000220247405), (114371766305203029548635093644751, 13468487520313288704132138495955), (61104524759561101429609017204985, 7179155673575028232768872211037),
  (104772175786181176230646831126121, 12281345889495562738057996611195), (95867067225417004045630479583991, 11211647673898621871361999489053), (136257194776517104801652775352314, 15898620525898890512840582070935),
  (59950824123377893786856715197280, 6979031484663460520531379347869), (23169876709937660936690550038399, 2691062118760873748983361366386), (146062244260466547369924315993617, 16925362123822765896275263548596),
  (105392752109262595844049045635656, 12184585095183563495007462642967), (86839165996494210152864155508309, 10016491892512286251829644869652), (130786385570849913743234191854043, 15050902338357102337600252263393),
  (100486476941983955961286780195175, 11537391241240188311697519478143), (151563375573366096187354345678146, 17361780816846104448840400268887), (113228045476560258864154001253619, 12940588006575173004125866634681),
  (150976441141444748356569885473427, 17215085493827366088626141651972), (178506660013707047858497803023833, 20307404713279950249179355619259), (20908615187782844575873507830617, 2373150437886396142261488769495),
  (118852125080852507556139773087299, 13458818961287523846948626649639), (22984033251136071502684025608427, 2596726686983727681568441537255), (81791527393741718827338856540064, 9219520161493523806292634043669),
  (126215728120771216381982149738920, 14194283563747658105138828110757), (16780596881812021440536335495321, 1882813937559507170102566540406), (135746845485361769292844351794677, 15196016139747583473068940002656),
  (729109310846318383988076467844617, 81431539289886583153373398853675), (67205644363081806201447626766281, 7488688214029191864936946683218), (72206315463371881020706964407897, 8027405181073389588844135267881),
  (140666595986688538308082172796342, 15602384561712606677310032434771), (136448924723514681199725364961908, 15099762539721956494984152364637), (33567294696934410098804140346395, 3706093240283752236110782276409),
  (144230592695969456664871180557706, 15887566749306724420322294593241), (147675742209749395118923245502589, 16229650303104621185551351221155), (45227348486110388793720811795783, 4959080148438952864883664353150),
  (102883001455767712796286761148701, 11254951442371818592629329581455), (142689771598620922875040365670073, 15573737232139504245554446578948), (170232983261898588831308446833638, 18537181835180804374407027878291),
  (74751578123483679206558266065639, 8121202987916554618227168963326), (120617110569050198959038965528354, 13074013243726487414855810258297), (147398011810319826813072765435193, 15940121432549430471603202838249),
  (41961870528709677468297762060173, 4527462266558375884422178632363), (31762066078720239664225490814838, 3419075924675451458095714267595), (69930301291748270400075282900369, 7510440318917091349637045929153),
  (121749875608400978851026038016660, 13045734212467882078298971554379), (44105581938655015995764114909269, 4715128757247388031151101658119), (112085695894106096744155297684866, 11955016848604779827669405090713),
  (94264747032827970739050168089749, 10031117241966519744379865666319), (74249933967204554010038830832959, 7883082501527975006584192342826), (160474180673552757144343237089727, 16998287367323405455861799399077),
  (19212518964909374834495976387246, 2030412643821570125246221537919), (44573225322095132958881243135353, 4699742470951215766644117017221), (79310988907755564060048249336123, 8343213650617538938967267768249),
  (144434708561827566020201044488961, 15159035480567086775346995712359), (67379333437048517728151879919001, 7055482359057404041132682845828), (148882541030529974753873855466135, 15554060090356503378270432570533),
  (104454218213915687045567157859265, 10887445221801584376497979182882), (24823804643980795717316136475868, 2581477504187667936975017925025), (115099787000352129643483038556025, 11941929966746602664270787967542),
  (104187374451714966073096209149884, 10784874453058034106747413755039), (62853534953946635633626224581953, 6491270511611105896605031300953), (84493522815673145691310806193525, 8706095317648662942690626225722),
  (39541576588393088965917487808127, 4064938518648429512432576474731), (22796173811292984517065622201267, 2338093958071454193301416588608), (77167641302816862161487623150501, 7896510657600737898196984784044),
  (33714890084395768042906647679036, 3442086247602419370485659752681), (33065689860280183104865034605109, 3368042693174973120549358303734), (53632953336989768312565425424217, 5450441872351086523475432279051),
  (111774294362383018918213913199745, 11332922968670328005931169736093), (28203958962115784501461948228970, 2853054541486565928841704100221), (91899390523007125578979566812643, 9274972511403324160680177564406),
  (126052780348822362137754392144037, 12692653648004960687542356518146), (41841359955819087335061860604286, 4203449089833798888349672373005), (76581695432789649683376629580038, 7675823447317143177877321210961)]

/-! ### no fraction is near 10 ^ (m / 1000) without being it -/
section
def chkF (b : Nat) (x : Nat × Nat) : Bool := decide (Nat.gcd x.1 x.2 = 1) && (decide (2 ^ 100 ≤ x.2) && (decide (x.1 ≤ 10 * x.2) && (decide (x.2 ≤ 2 ^ 125) && (decide (10 ^ b * x.2 ^ 1000 * (x.2 * 2 ^ 104) ≤ x.1 ^ 1000 * (x.2 * 2 ^ 104) + 100 * (10 ^ b * x.2 ^ 1000)) && decide (x.1 ^ 1000 * (x.2 * 2 ^ 104) ≤ 10 ^ b * x.2 ^ 1000 * (x.2 * 2 ^ 104) + 100 * (10 ^ b * x.2 ^ 1000))))))
def chkL : Nat → List (Nat × Nat) → Bool
  | _, [] => true
  | b, x :: r => chkF b x && chkL (b + 1) r
theorem chkL_at : ∀ {L : List (Nat × Nat)} {b i : Nat} {x : Nat × Nat}, chkL b L = true → L[i]? = some x → chkF (b + i) x = true
  | [], b, i, x, _, h => by cases h
  | y :: r, b, i, x, hL, h => by
    have hL : (chkF b y && chkL (b + 1) r) = true := hL
    rw [Bool.and_eq_true] at hL
    cases i with
    | zero =>
      cases h
      exact hL.1
    | succ i =>
      have := chkL_at (i := i) hL.2 h
      rw [show b + (i + 1) = b + 1 + i by omega]
      exact this
theorem tab0 : chkL 1 tabF0 = true := by decide +kernel
theorem tab1 : chkL 112 tabF1 = true := by decide +kernel
theorem tab2 : chkL 223 tabF2 = true := by decide +kernel
theorem tab3 : chkL 334 tabF3 = true := by decide +kernel
theorem tab4 : chkL 445 tabF4 = true := by decide +kernel
theorem tab5 : chkL 556 tabF5 = true := by decide +kernel
theorem tab6 : chkL 667 tabF6 = true := by decide +kernel
theorem tab7 : chkL 778 tabF7 = true := by decide +kernel
theorem tab8 : chkL 889 tabF8 = true := by decide +kernel
theorem tab_at {b : Nat} (h1 : 1 ≤ b) (h2 : b ≤ 999) : ∃ x, chkF b x = true := by
  have key : ∀ {L : List (Nat × Nat)} {s : Nat}, chkL s L = true → s ≤ b → b < s + L.length → ∃ x, chkF b x = true := fun {L s} h hs hl => by
    have := chkL_at (i := b - s) h (List.getElem?_eq_getElem (show b - s < L.length by omega))
    rw [show s + (b - s) = b by omega] at this
    exact ⟨_, this⟩
  have l0 : tabF0.length = 111 := by decide +kernel
  have l1 : tabF1.length = 111 := by decide +kernel
  have l2 : tabF2.length = 111 := by decide +kernel
  have l3 : tabF3.length = 111 := by decide +kernel
  have l4 : tabF4.length = 111 := by decide +kernel
  have l5 : tabF5.length = 111 := by decide +kernel
  have l6 : tabF6.length = 111 := by decide +kernel
  have l7 : tabF7.length = 111 := by decide +kernel
  have l8 : tabF8.length = 111 := by decide +kernel
  by_cases c1 : b < 112
  · exact key tab0 (by omega) (by omega)
  by_cases c2 : b < 223
  · exact key tab1 (by omega) (by omega)
  by_cases c3 : b < 334
  · exact key tab2 (by omega) (by omega)
  by_cases c4 : b < 445
  · exact key tab3 (by omega) (by omega)
  by_cases c5 : b < 556
  · exact key tab4 (by omega) (by omega)
  by_cases c6 : b < 667
  · exact key tab5 (by omega) (by omega)
  by_cases c7 : b < 778
  · exact key tab6 (by omega) (by omega)
  by_cases c8 : b < 889
  · exact key tab7 (by omega) (by omega)
  · exact key tab8 (by omega) (by omega)
theorem pow_gap {X Y : Nat} (h : Y + 1 ≤ X) : ∀ n : Nat, Y ^ n * (Y + n) ≤ X ^ n * Y ∧ Y ^ n ≤ X ^ n
  | 0 => by
    rw [Nat.pow_zero, Nat.pow_zero]
    omega
  | n + 1 => by
    obtain ⟨h1, h2⟩ := pow_gap h n
    have k1 := Nat.mul_le_mul_left (Y ^ n * Y) (Nat.le_refl 1)
    have k2 := Nat.mul_le_mul_right Y h1
    have k3 := Nat.mul_le_mul_right Y h2
    have k4 := Nat.mul_le_mul_left (X ^ n * Y) h
    rw [Nat.pow_succ, Nat.pow_succ]
    refine ⟨?_, Nat.mul_le_mul h2 (by omega)⟩
    have e1 : Y ^ n * Y * (Y + (n + 1)) = Y ^ n * (Y + n) * Y + Y ^ n * Y := by grind
    have e2 : X ^ n * X * Y = X ^ n * Y * X := by grind
    have e3 : X ^ n * Y * (Y + 1) = X ^ n * Y * Y + X ^ n * Y := by grind
    omega
/-- two numbers whose powers are near -/
theorem near_lt {X Y u v : Nat} (h : Y + 1 ≤ X) (n : Nat) (hY : 0 < Y) (hn : X ^ n * u ≤ Y ^ n * v) : (Y + n) * u ≤ Y * v := by
  obtain ⟨h1, _⟩ := pow_gap h n
  have yp : 0 < Y ^ n := Nat.pow_pos hY
  have k1 := Nat.mul_le_mul_right u h1
  have k2 := Nat.mul_le_mul_right Y hn
  refine Nat.le_of_mul_le_mul_left (c := Y ^ n) ?_ yp
  have e1 : Y ^ n * ((Y + n) * u) = Y ^ n * (Y + n) * u := by grind
  have e2 : X ^ n * Y * u = X ^ n * u * Y := by grind
  have e3 : Y ^ n * (Y * v) = Y ^ n * v * Y := by grind
  omega
def HH : Nat := 2 ^ 333
theorem gap0 {p D : Nat} (hp : 0 < p) (hD : 0 < D) (p98 : p ≤ 2 ^ 98) (h1 : p ^ 1000 * (HH - 1) ≤ D ^ 1000 * HH) (h2 : D ^ 1000 * (HH - 1) ≤ p ^ 1000 * HH) : p = D := by
  have hh : HH = 2 ^ 333 := rfl
  have h3 : 2 ^ 100 < HH := by decide +kernel
  have e98 : 4 * 2 ^ 98 = 2 ^ 100 := by decide
  generalize HH = H at h1 h2 h3 hh
  generalize hN : 1000 = n at h1 h2
  rcases Nat.lt_trichotomy p D with z | z | z
  · have k := near_lt z n hp h2
    have e1 : (p + n) * (H - 1) = p * (H - 1) + n * (H - 1) := by grind
    have e2 : p * H = p * (H - 1) + p := by
      obtain ⟨H', rfl⟩ : ∃ H', H = H' + 1 := ⟨H - 1, by omega⟩
      rw [Nat.add_sub_cancel]
      grind
    have e3 : 1 * (H - 1) ≤ n * (H - 1) := Nat.mul_le_mul_right _ (by omega)
    omega
  · exact z
  · have k := near_lt z n hD h1
    have e1 : (D + n) * (H - 1) = D * (H - 1) + n * (H - 1) := by grind
    have e2 : D * H = D * (H - 1) + D := by
      obtain ⟨H', rfl⟩ : ∃ H', H = H' + 1 := ⟨H - 1, by omega⟩
      rw [Nat.add_sub_cancel]
      grind
    have e3 : 1 * (H - 1) ≤ n * (H - 1) := Nat.mul_le_mul_right _ (by omega)
    omega
theorem gap1 {p D b : Nat} (hp : 0 < p) (hD : 0 < D) (p98 : p ≤ 2 ^ 98) (b1 : 1 ≤ b) (b9 : b ≤ 999) (h1 : p ^ 1000 * (HH - 1) ≤ D ^ 1000 * 10 ^ b * HH) (h2 : D ^ 1000 * 10 ^ b * (HH - 1) ≤ p ^ 1000 * HH) : False := by
  obtain ⟨⟨P, Q⟩, hx⟩ := tab_at b1 b9
  unfold chkF at hx
  rw [Bool.and_eq_true, Bool.and_eq_true, Bool.and_eq_true, Bool.and_eq_true, Bool.and_eq_true] at hx
  obtain ⟨c1, c2, c3, c4, c5, c6⟩ := hx
  have c1 : Nat.gcd P Q = 1 := of_decide_eq_true c1
  have c2 : 2 ^ 100 ≤ Q := of_decide_eq_true c2
  have c3 : P ≤ 10 * Q := of_decide_eq_true c3
  have c4 : Q ≤ 2 ^ 125 := of_decide_eq_true c4
  have c5 : 10 ^ b * Q ^ 1000 * (Q * 2 ^ 104) ≤ P ^ 1000 * (Q * 2 ^ 104) + 100 * (10 ^ b * Q ^ 1000) := of_decide_eq_true c5
  have c6 : P ^ 1000 * (Q * 2 ^ 104) ≤ 10 ^ b * Q ^ 1000 * (Q * 2 ^ 104) + 100 * (10 ^ b * Q ^ 1000) := of_decide_eq_true c6
  have Qp : 0 < Q := Nat.lt_of_lt_of_le (by decide) c2
  -- D is not greater than 2 p
  have hD2 : D ≤ 2 * p := by
    refine Nat.le_of_not_lt fun z => ?_
    have b0 : 1 ≤ 10 ^ b := Nat.pow_pos (by decide)
    have k1 : D ^ 1000 * (HH - 1) ≤ p ^ 1000 * HH := Nat.le_trans (Nat.mul_le_mul_right _ (by
      have := Nat.mul_le_mul_left (D ^ 1000) b0
      rw [Nat.mul_one] at this
      exact this)) h2
    have h3 : 2 ^ 100 < HH := by decide +kernel
    generalize HH = H at k1 h3
    have k := near_lt (show p + 1 ≤ D by omega) 1000 hp k1
    have e1 : (p + 1000) * (H - 1) = p * (H - 1) + 1000 * (H - 1) := by grind
    have e2 : p * H = p * (H - 1) + p := by
      obtain ⟨H', rfl⟩ : ∃ H', H = H' + 1 := ⟨H - 1, by omega⟩
      rw [Nat.add_sub_cancel]
      grind
    have e98 : 4 * 2 ^ 98 = 2 ^ 100 := by decide
    omega
  have hne : p * Q ≠ D * P := fun z => by
    have d : Q ∣ D * P := ⟨p, by rw [← z, Nat.mul_comm]⟩
    have d2 : Q ∣ D := (Nat.Coprime.dvd_of_dvd_mul_right (show Nat.Coprime Q P by unfold Nat.Coprime; rw [Nat.gcd_comm]; exact c1) d)
    have := Nat.le_of_dvd hD d2
    have e98 : 4 * 2 ^ 98 = 2 ^ 100 := by decide
    omega
  have Pp : 0 < P := by
    refine Nat.pos_of_ne_zero fun z => ?_
    rw [z, Nat.gcd_zero_left] at c1
    rw [c1] at c2
    exact absurd c2 (by decide)
  -- the size of D P
  have hs : 2 * (D * P) ≤ Q * 2 ^ 104 := by
    have k1 := Nat.mul_le_mul (Nat.le_trans hD2 (Nat.mul_le_mul_left 2 p98)) c3
    have e : 2 * (2 * 2 ^ 98 * (10 * Q)) ≤ Q * 2 ^ 104 := by
      have : 2 * (2 * 2 ^ 98 * (10 * Q)) = Q * (40 * 2 ^ 98) := by grind
      rw [this]
      exact Nat.mul_le_mul_left _ (by decide)
    omega
  have hS : Q * 2 ^ 104 ≤ 2 ^ 229 := by
    have := Nat.mul_le_mul_right (2 ^ 104) c4
    rw [← Nat.pow_add] at this
    exact this
  have hSl : 2 ^ 204 ≤ Q * 2 ^ 104 := by
    have := Nat.mul_le_mul_right (2 ^ 104) c2
    rw [← Nat.pow_add] at this
    exact this
  have hH : 2 ^ 240 ≤ HH := by decide +kernel
  have e229 : 2048 * 2 ^ 229 = 2 ^ 240 := by decide
  have e20 : 1000000 ≤ 2 ^ 204 := by decide
  have xe : (p * Q) ^ 1000 = p ^ 1000 * Q ^ 1000 := Nat.mul_pow _ _ _
  have ye : (D * P) ^ 1000 = D ^ 1000 * P ^ 1000 := Nat.mul_pow _ _ _
  have Xp : 0 < p * Q := Nat.mul_pos hp Qp
  have Yp : 0 < D * P := Nat.mul_pos hD Pp
  generalize Q * 2 ^ 104 = s at c5 c6 hs hS hSl
  generalize HH = H at h1 h2 hH
  generalize hn : 1000 = n at h1 h2 c5 c6 xe ye
  generalize p * Q = X at xe hne Xp
  generalize D * P = Y at ye hne hs Yp
  generalize p ^ n = pn at h1 h2 xe
  generalize D ^ n = dn at h1 h2 ye
  generalize Q ^ n = qn at c5 c6 xe
  generalize P ^ n = rn at c5 c6 ye
  generalize 10 ^ b = t at h1 h2 c5 c6
  generalize 2 ^ 229 = w at hS e229
  generalize 2 ^ 240 = w2 at hH e229
  generalize 2 ^ 204 = w3 at hSl e20
  clear c2 c3 c4 hD2 p98
  rcases Nat.lt_trichotomy X Y with z | z | z
  · -- Y is greater
    have k0 : Y ^ n * (s * (H - 1)) ≤ X ^ n * (H * (s + 100)) := by
      rw [ye, xe]
      have m1 := Nat.mul_le_mul_left (dn * (H - 1)) c6
      have m2 := Nat.mul_le_mul_left (qn * (s + 100)) h2
      have e1 : dn * rn * (s * (H - 1)) = dn * (H - 1) * (rn * s) := by grind
      have e2 : dn * (H - 1) * (t * qn * s + 100 * (t * qn)) = qn * (s + 100) * (dn * t * (H - 1)) := by grind
      have e3 : pn * qn * (H * (s + 100)) = qn * (s + 100) * (pn * H) := by grind
      omega
    have k := near_lt z n Xp k0
    obtain ⟨H', rfl⟩ : ∃ H', H = H' + 1 := ⟨H - 1, by omega⟩
    rw [Nat.add_sub_cancel] at k
    have e1 : (X + n) * (s * H') = X * (s * H') + n * (s * H') := by grind
    have e2 : X * ((H' + 1) * (s + 100)) = X * (s * H') + X * s + 100 * (X * H') + 100 * X := by grind
    have q1 := Nat.mul_le_mul_right H' (show 2 * X ≤ s by omega)
    have q2 := Nat.mul_le_mul_right s (show 2 * X ≤ s by omega)
    have q3 := Nat.mul_le_mul_left s (show 1000 * s ≤ H' by omega)
    have e3 : s * (1000 * s) = 1000 * (s * s) := by grind
    have e4 : 2 * X * H' = 2 * (X * H') := by grind
    have e5 : 2 * X * s = 2 * (X * s) := by grind
    have e6 : n * (s * H') = 1000 * (s * H') := by rw [hn]
    have q4 := Nat.mul_le_mul_left s (show 1 ≤ H' by omega)
    have q5 := Nat.mul_pos (show 0 < s by omega) (show 0 < H' by omega)
    omega
  · exact hne z
  · have k0 : X ^ n * ((H - 1) * (s - 100)) ≤ Y ^ n * (H * s) := by
      rw [ye, xe]
      obtain ⟨s', rfl⟩ : ∃ s', s = s' + 100 := ⟨s - 100, by omega⟩
      rw [Nat.add_sub_cancel]
      have c5' : t * qn * s' ≤ rn * (s' + 100) := by
        have : t * qn * (s' + 100) = t * qn * s' + 100 * (t * qn) := by grind
        omega
      have m1 := Nat.mul_le_mul_left (qn * s') h1
      have m2 := Nat.mul_le_mul_left (dn * H) c5'
      have e1 : pn * qn * ((H - 1) * s') = qn * s' * (pn * (H - 1)) := by grind
      have e2 : qn * s' * (dn * t * H) = dn * H * (t * qn * s') := by grind
      have e3 : dn * rn * (H * (s' + 100)) = dn * H * (rn * (s' + 100)) := by grind
      omega
    have k := near_lt z n Yp k0
    obtain ⟨H', rfl⟩ : ∃ H', H = H' + 1 := ⟨H - 1, by omega⟩
    obtain ⟨s', rfl⟩ : ∃ s', s = s' + 100 := ⟨s - 100, by omega⟩
    rw [Nat.add_sub_cancel, Nat.add_sub_cancel] at k
    have e1 : (Y + n) * (H' * s') = Y * (H' * s') + n * (H' * s') := by grind
    have e2 : Y * ((H' + 1) * (s' + 100)) = Y * (H' * s') + 100 * (Y * H') + Y * s' + 100 * Y := by grind
    have q1 := Nat.mul_le_mul_right H' (show 2 * Y ≤ s' + 100 by omega)
    have q2 := Nat.mul_le_mul_right s' (show 2 * Y ≤ s' + 100 by omega)
    have q3 := Nat.mul_le_mul_right s' (show 1000 * (s' + 100) ≤ H' by omega)
    have e3 : 1000 * (s' + 100) * s' = 1000 * (s' * s') + 100000 * s' := by grind
    have e4 : 2 * Y * H' = 2 * (Y * H') := by grind
    have e5 : 2 * Y * s' = 2 * (Y * s') := by grind
    have e6 : n * (H' * s') = 1000 * (H' * s') := by rw [hn]
    have e7 : (s' + 100) * H' = H' * s' + 100 * H' := by grind
    have e8 : (s' + 100) * s' = s' * s' + 100 * s' := by grind
    have q4 := Nat.mul_le_mul_left H' (show 1000 ≤ s' by omega)
    omega
end

/-! ### level_of in whole numbers -/
section
def valN (bits : Nat) (T G : Int) : Int := 1000 * T * 2 ^ bits / G
def lowN (bits : Nat) (T G : Int) : Int := (valN bits T G - 2 ^ 48) / 2 ^ bits
def topN (bits : Nat) (T G : Int) : Int := (valN bits T G + 2 ^ 48) / 2 ^ bits
/-- the pair of the level -/
def LvlOk (p q : Nat) (lo hi : Int) : Prop := ∃ m : Nat, lo = m ∧ m ≤ 40000 ∧ ((q ^ 1000 * 10 ^ m < p ^ 1000 ∧ p ^ 1000 < q ^ 1000 * 10 ^ (m + 1) ∧ hi = m + 1) ∨ (p ^ 1000 = q ^ 1000 * 10 ^ m ∧ hi = m))
theorem ten_mono {q m k : Nat} (h : m ≤ k) : q ^ 1000 * 10 ^ m ≤ q ^ 1000 * 10 ^ k := Nat.mul_le_mul_left _ (Nat.pow_le_pow_right (by decide) h)
theorem ten_lt {q m k : Nat} (hq : 0 < q) (h : m < k) : q ^ 1000 * 10 ^ m < q ^ 1000 * 10 ^ k := Nat.mul_lt_mul_of_pos_left (Nat.pow_lt_pow_right (by decide) h) (Nat.pow_pos hq)
theorem lvl_uniq {p q : Nat} (hq : 0 < q) {lo hi lo' hi' : Int} (h : LvlOk p q lo hi) (h' : LvlOk p q lo' hi') : lo = lo' ∧ hi = hi' := by
  obtain ⟨m, rfl, _, h⟩ := h
  obtain ⟨k, rfl, _, h'⟩ := h'
  have e : m = k := by
    rcases Nat.lt_trichotomy m k with z | z | z
    · have a := ten_mono (q := q) (show m + 1 ≤ k from z)
      have b := ten_lt hq z
      rcases h with ⟨h1, h2, _⟩ | ⟨h1, _⟩
      · rcases h' with ⟨g1, g2, _⟩ | ⟨g1, _⟩ <;> omega
      · rcases h' with ⟨g1, g2, _⟩ | ⟨g1, _⟩ <;> omega
    · exact z
    · have a := ten_mono (q := q) (show k + 1 ≤ m from z)
      have b := ten_lt hq z
      rcases h with ⟨h1, h2, _⟩ | ⟨h1, _⟩
      · rcases h' with ⟨g1, g2, _⟩ | ⟨g1, _⟩ <;> omega
      · rcases h' with ⟨g1, g2, _⟩ | ⟨g1, _⟩ <;> omega
  subst e
  refine ⟨rfl, ?_⟩
  rcases h with ⟨h1, h2, rfl⟩ | ⟨h1, rfl⟩
  · rcases h' with ⟨g1, g2, rfl⟩ | ⟨g1, rfl⟩
    · rfl
    · omega
  · rcases h' with ⟨g1, g2, rfl⟩ | ⟨g1, rfl⟩
    · omega
    · rfl
theorem lvl_ex {p q : Nat} (hq : 0 < q) {lo hi : Int} (h : LvlOk p q lo hi) : lo ≤ hi ∧ 0 ≤ lo ∧ hi ≤ lo + 1 ∧ lo ≤ 40000 := by
  obtain ⟨m, rfl, _, ⟨_, _, rfl⟩ | ⟨_, rfl⟩⟩ := h <;> omega
/-! bounds of the logarithm of ten -/
theorem tot_mono {p q : Int} (hp : 0 ≤ p) (hq : 0 < q) (bits : Nat) : ∀ k, 0 ≤ pwA p q bits k ∧ (1 ≤ k → pwA p q bits 0 ≤ totA p q bits k)
  | 0 => ⟨Int.ediv_nonneg (Int.mul_nonneg hp (Int.le_of_lt (Int.pow_pos (by decide)))) (Int.le_of_lt hq), fun h => absurd h (by decide)⟩
  | k + 1 => by
    obtain ⟨h1, h2⟩ := tot_mono hp hq bits k
    refine ⟨Int.ediv_nonneg (Int.mul_nonneg (Int.mul_nonneg h1 hp) hp) (Int.mul_nonneg (Int.le_of_lt hq) (Int.le_of_lt hq)), fun _ => ?_⟩
    show _ ≤ totA p q bits k + pwA p q bits k / ((2 * k + 1 : Nat) : Int)
    have a : 0 ≤ pwA p q bits k / ((2 * k + 1 : Nat) : Int) := Int.ediv_nonneg h1 (by omega)
    cases k with
    | zero =>
      show pwA p q bits 0 ≤ 0 + pwA p q bits 0 / 1
      rw [Int.ediv_one]
      omega
    | succ k =>
      have := h2 (by omega)
      omega
theorem art_lb {p q : Int} (hp : 0 ≤ p) (hq : 0 < q) {bits : Nat} {T : Int} (h : ArtOk p q bits T) (h0 : 0 < pwA p q bits 0) : pwA p q bits 0 ≤ T := by
  obtain ⟨k, he, hk, rfl⟩ := h
  refine (tot_mono hp hq bits k).2 (Nat.pos_of_ne_zero fun z => ?_)
  subst z
  unfold endA at he
  rw [Bool.or_eq_true, decide_eq_true_iff, decide_eq_true_iff] at he
  omega
theorem art_ub {p q : Int} (hp : 0 ≤ p) (hq : 0 < q) (h2 : 3 * p ≤ q) {bits : Nat} {T : Int} (h : ArtOk p q bits T) : 8 * T ≤ 3 * 2 ^ bits := by
  obtain ⟨k, he, hk, rfl⟩ := h
  have qp := int_pos hq
  have Bp := pw2_pos bits
  have p0 : (0 : Rat) ≤ (p : Rat) := by
    have : (((0 : Int)) : Rat) ≤ (p : Rat) := Rat.intCast_le_intCast.mpr hp
    exact this
  have r2 : 3 * (p : Rat) ≤ (q : Rat) := by
    have := Rat.intCast_le_intCast.mpr h2
    rw [Rat.intCast_mul] at this
    exact this
  obtain ⟨x, hx⟩ : ∃ x : Rat, x * (q : Rat) = (p : Rat) := ⟨(p : Rat) / (q : Rat), Rat.div_mul_cancel (by grind)⟩
  have x0 : 0 ≤ x := Rat.le_of_mul_le_mul_right (c := (q : Rat)) (by grind) qp
  have x1 : x ≤ 1 / 3 := Rat.le_of_mul_le_mul_right (c := (q : Rat)) (by grind) qp
  have x2 : x * x ≤ 1 / 9 := by
    have := Rat.mul_nonneg (show 0 ≤ 1 / 3 - x by grind) (show 0 ≤ 1 / 3 + x by grind)
    grind
  obtain ⟨_, t2⟩ := tot_bd (bits := bits) hq hx x2 (Rat.mul_nonneg x0 x0) k
  obtain ⟨_, s2⟩ := sn_bd x0 x1 k
  have k1 := Rat.mul_le_mul_of_nonneg_left s2 (Rat.le_of_lt Bp)
  have : ((8 * totA p q bits k : Int) : Rat) ≤ ((3 * 2 ^ bits : Int) : Rat) := by
    rw [Rat.intCast_mul, Rat.intCast_mul, int_pow2]
    have c8 : ((8 : Int) : Rat) = 8 := rfl
    have c3 : ((3 : Int) : Rat) = 3 := rfl
    rw [c8, c3]
    grind
  exact Rat.intCast_le_intCast.mp this
theorem int_two_pow (n : Nat) : ((2 ^ n : Nat) : Int) = (2 : Int) ^ n := by
  rw [Int.natCast_pow]
  rfl
theorem m96 {bits : Nat} (hb : 96 ≤ bits) : (2 : Int) ^ 96 ≤ 2 ^ bits := by
  have a := Nat.pow_le_pow_right (show 0 < 2 by decide) hb
  have e1 := int_two_pow bits
  have e2 := int_two_pow 96
  rw [← e1, ← e2]
  exact Int.ofNat_le.mpr a
theorem ten_bd {bits : Nat} {G : Int} (hb : 96 ≤ bits) (h : LogOk 10 1 bits G) : 2 * 2 ^ bits ≤ G ∧ G ≤ 3 * 2 ^ bits := by
  obtain ⟨T1, T3, h1, h3, rfl⟩ := h
  have et : turnsN 10 1 = 3 := by decide
  have ea : aboveN 10 1 = 10 := by decide
  have eb : belowN 10 1 = 8 := by decide
  rw [ea, eb] at h1
  rw [et]
  have h1 : ArtOk 2 18 bits T1 := h1
  have m : (2 : Int) ^ 96 ≤ 2 ^ bits := by
    exact m96 hb
  have e0 : pwA 2 18 bits 0 = 2 * 2 ^ bits / 18 := rfl
  have e3 : pwA 1 3 bits 0 = 1 * 2 ^ bits / 3 := rfl
  have u1 := art_ub (by decide) (by decide) (by decide) h1
  have u3 := art_ub (by decide) (by decide) (by decide) h3
  have l1 := art_lb (by decide) (by decide) h1 (by rw [e0]; generalize (2 : Int) ^ bits = M at m; omega)
  have l3 := art_lb (by decide) (by decide) h3 (by rw [e3]; generalize (2 : Int) ^ bits = M at m; omega)
  rw [e0] at l1
  rw [e3] at l3
  generalize (2 : Int) ^ bits = M at m u1 u3 l1 l3 ⊢
  constructor <;> omega
theorem turns_bd {p q n : Nat} (hp : 0 < p) (hq : 0 < q) (h1 : p ≤ 2 ^ n) (h2 : q ≤ 2 ^ n) : (turnsN p q).natAbs ≤ n := by
  have a : ∀ {x : Nat}, 0 < x → x ≤ 2 ^ n → Nat.log2 x ≤ n := fun {x} hx h => by
    refine Nat.le_of_not_lt fun z => ?_
    have k1 := (log2_bd hx).1
    have k2 : 2 ^ (n + 1) ≤ 2 ^ Nat.log2 x := Nat.pow_le_pow_right (by decide) z
    have k3 : 2 ^ n < 2 ^ (n + 1) := Nat.pow_lt_pow_right (by decide) (by omega)
    omega
  have := a hp h1
  have := a hq h2
  unfold turnsN
  omega
/-- what is asked -/
structure LvIn (p q bits : Nat) (T G : Int) : Prop where
  p0 : 0 < p
  q0 : 0 < q
  qp : q ≤ p
  p98 : p ≤ 2 ^ 98
  b0 : 96 ≤ bits
  b1 : bits ≤ 384
  T : LogOk p q bits T
  G : LogOk 10 1 bits G
section
variable {p q bits : Nat} {T G : Int}
theorem rat_pq {p q : Nat} (hq : 0 < q) : ∀ n : Nat, ((p : Rat) / (q : Rat)) ^ n * (q : Rat) ^ n = (p : Rat) ^ n
  | 0 => by
    rw [Rat.pow_zero, Rat.pow_zero, Rat.pow_zero, Rat.mul_one]
  | n + 1 => by
    have ih := rat_pq (p := p) hq n
    have e : (p : Rat) / (q : Rat) * (q : Rat) = (p : Rat) := Rat.div_mul_cancel (by have := nat_pos hq; grind)
    rw [Rat.pow_succ, Rat.pow_succ, Rat.pow_succ, ← ih]
    conv => rhs; rw [← e]
    grind
/-- the fraction by the level m -/
def rN (p q m : Nat) : Rat := ((p : Rat) / (q : Rat)) ^ 1000 * ((10 : Rat) ^ m)⁻¹
theorem rN_mul (hq : 0 < q) (m : Nat) : rN p q m * ((q ^ 1000 * 10 ^ m : Nat) : Rat) = ((p ^ 1000 : Nat) : Rat) := by
  have e := rat_pq (p := p) hq 1000
  have tp : (0 : Rat) < (10 : Rat) ^ m := Rat.pow_pos (by decide)
  have i : (10 : Rat) ^ m * ((10 : Rat) ^ m)⁻¹ = 1 := Rat.mul_inv_cancel _ (by grind)
  rw [Rat.natCast_mul, nat_pow_cast, nat_pow_cast, nat_pow_cast]
  have c : ((10 : Nat) : Rat) = 10 := rfl
  rw [c, ← e]
  unfold rN
  generalize (10 : Rat) ^ m = t at i ⊢
  generalize ((p : Rat) / (q : Rat)) ^ 1000 = a
  generalize (q : Rat) ^ 1000 = b
  have : a * t⁻¹ * (b * t) = a * b * (t * t⁻¹) := by grind
  rw [this, i, Rat.mul_one]
theorem LvIn.ln (h : LvIn p q bits T G) (m : Nat) : LnIn (rN p q m) ((1000 * ((T : Rat) - 1048576) - (m : Rat) * ((G : Rat) + 1048576)) / 2 ^ bits) ((1000 * ((T : Rat) + 1048576) - (m : Rat) * ((G : Rat) - 1048576)) / 2 ^ bits) := by
  have bn : (bits : Rat) ≤ 384 := by
    have := Rat.natCast_le_natCast.mpr h.b1
    exact this
  have b0 := nat_nn bits
  have Bp := pw2_pos bits
  have L1 := log_ln h.p0 h.q0 (by have := h.b0; omega) h.T (c := 98) (turns_bd h.p0 h.q0 h.p98 (Nat.le_trans h.qp h.p98))
  have L2 := log_ln (p := 10) (q := 1) (by decide) (by decide) (by have := h.b0; omega) h.G (c := 3) (by decide)
  have c98 : ((98 : Nat) : Rat) = 98 := rfl
  have c3 : ((3 : Nat) : Rat) = 3 := rfl
  rw [c98] at L1
  rw [c3] at L2
  have e10 : ((10 : Nat) : Rat) / ((1 : Nat) : Rat) = 10 := by
    have : ((1 : Nat) : Rat) = 1 := rfl
    rw [this]
    exact div_eq_of (by decide) (by rw [Rat.mul_one]; rfl)
  rw [e10] at L2
  have hA : ∀ z : Rat, z / 2 ^ bits * 2 ^ bits = z := fun z => Rat.div_mul_cancel (by grind)
  have L1' := L1.weak (a' := ((T : Rat) - 1048576) / 2 ^ bits) (b' := ((T : Rat) + 1048576) / 2 ^ bits) (div_le_of Bp (by rw [hA]; grind)) (le_div_of Bp (by rw [hA]; grind))
  have L2' := L2.weak (a' := ((G : Rat) - 1048576) / 2 ^ bits) (b' := ((G : Rat) + 1048576) / 2 ^ bits) (div_le_of Bp (by rw [hA]; grind)) (le_div_of Bp (by rw [hA]; grind))
  have L := (L1'.pow 1000).mul (L2'.pow m).inv
  have c1000 : ((1000 : Nat) : Rat) = 1000 := rfl
  rw [c1000] at L
  have kk : ∀ n z : Rat, n * (z / 2 ^ bits) * 2 ^ bits = n * z := fun n z => by rw [Rat.mul_assoc, hA]
  have kn : ∀ n z : Rat, -(n * (z / 2 ^ bits)) * 2 ^ bits = -(n * z) := fun n z => by rw [Rat.neg_mul, Rat.mul_assoc, hA]
  refine L.weak (div_le_of Bp ?_) (le_div_of Bp ?_)
  · rw [Rat.add_mul _ _ ((2 : Rat) ^ bits), kk, kn]
    grind
  · rw [Rat.add_mul _ _ ((2 : Rat) ^ bits), kk, kn]
    grind
theorem LvIn.g0 (h : LvIn p q bits T G) : 2 * 2 ^ bits ≤ G ∧ G ≤ 3 * 2 ^ bits ∧ (2 : Int) ^ 96 ≤ 2 ^ bits := by
  obtain ⟨g1, g2⟩ := ten_bd h.b0 h.G
  exact ⟨g1, g2, m96 h.b0⟩
/-- from whole numbers to the logarithms -/
theorem LvIn.lo (h : LvIn p q bits T G) {m : Nat} (hv : (m : Int) * 2 ^ bits + 2 ^ 48 ≤ valN bits T G) : (m : Int) * G + 2 ^ 49 ≤ 1000 * T := by
  obtain ⟨g1, g2, g3⟩ := h.g0
  have gp : 0 < G := by omega
  have d := Int.mul_ediv_self_le (x := 1000 * T * 2 ^ bits) (k := G) (by omega)
  have d : G * valN bits T G ≤ 1000 * T * 2 ^ bits := d
  have Mp : (0 : Int) < 2 ^ bits := Int.pow_pos (by decide)
  have k1 := Int.mul_le_mul_of_nonneg_left hv (Int.le_of_lt gp)
  have k2 := Int.mul_le_mul_of_nonneg_right g1 (show (0 : Int) ≤ 2 ^ 48 by decide)
  have e49 : (2 : Int) ^ 49 = 2 * 2 ^ 48 := by decide
  refine Int.le_of_mul_le_mul_right ?_ Mp
  generalize (2 : Int) ^ bits = M at d k1 k2 ⊢
  generalize valN bits T G = v at d k1
  generalize (2 : Int) ^ 48 = r at k1 k2 e49
  have e1 : G * ((m : Int) * M + r) = (m : Int) * G * M + G * r := by grind
  have e2 : ((m : Int) * G + 2 ^ 49) * M = (m : Int) * G * M + 2 * M * r := by rw [e49]; grind
  omega
theorem LvIn.hi (h : LvIn p q bits T G) {m : Nat} (hv : valN bits T G + 2 ^ 48 < (m : Int) * 2 ^ bits) : 1000 * T < (m : Int) * G - 2 ^ 49 := by
  obtain ⟨g1, g2, g3⟩ := h.g0
  have gp : 0 < G := by omega
  have d := Int.lt_mul_ediv_self_add (x := 1000 * T * 2 ^ bits) (k := G) gp
  have d : 1000 * T * 2 ^ bits < G * valN bits T G + G := d
  have Mp : (0 : Int) < 2 ^ bits := Int.pow_pos (by decide)
  have k1 := Int.mul_le_mul_of_nonneg_left (show valN bits T G + 1 ≤ (m : Int) * 2 ^ bits - 2 ^ 48 by omega) (Int.le_of_lt gp)
  have k2 := Int.mul_le_mul_of_nonneg_right g1 (show (0 : Int) ≤ 2 ^ 48 by decide)
  have e49 : (2 : Int) ^ 49 = 2 * 2 ^ 48 := by decide
  refine Int.lt_of_mul_lt_mul_right (a := 2 ^ bits) ?_ (Int.le_of_lt Mp)
  generalize (2 : Int) ^ bits = M at d k1 k2 ⊢
  generalize valN bits T G = v at d k1
  generalize (2 : Int) ^ 48 = r at k1 k2 e49
  have e1 : G * ((m : Int) * M - r) = (m : Int) * G * M - G * r := by grind
  have e2 : ((m : Int) * G - 2 ^ 49) * M = (m : Int) * G * M - 2 * M * r := by rw [e49]; grind
  have e3 : G * (v + 1) = G * v + G := by grind
  omega
theorem LvIn.mid (h : LvIn p q bits T G) {m : Nat} (h1 : valN bits T G - 2 ^ 48 < (m : Int) * 2 ^ bits) (h2 : (m : Int) * 2 ^ bits ≤ valN bits T G + 2 ^ 48) : 1000 * T ≤ (m : Int) * G + 3 * 2 ^ 48 ∧ (m : Int) * G - 3 * 2 ^ 48 ≤ 1000 * T := by
  obtain ⟨g1, g2, g3⟩ := h.g0
  have gp : 0 < G := by omega
  have d := Int.lt_mul_ediv_self_add (x := 1000 * T * 2 ^ bits) (k := G) gp
  have d : 1000 * T * 2 ^ bits < G * valN bits T G + G := d
  have d' := Int.mul_ediv_self_le (x := 1000 * T * 2 ^ bits) (k := G) (by omega)
  have d' : G * valN bits T G ≤ 1000 * T * 2 ^ bits := d'
  have Mp : (0 : Int) < 2 ^ bits := Int.pow_pos (by decide)
  have k1 := Int.mul_le_mul_of_nonneg_left (show valN bits T G + 1 ≤ (m : Int) * 2 ^ bits + 2 ^ 48 by omega) (Int.le_of_lt gp)
  have k3 := Int.mul_le_mul_of_nonneg_left (show (m : Int) * 2 ^ bits - 2 ^ 48 ≤ valN bits T G by omega) (Int.le_of_lt gp)
  have k2 := Int.mul_le_mul_of_nonneg_right g2 (show (0 : Int) ≤ 2 ^ 48 by decide)
  generalize hr : (2 : Int) ^ 48 = r at k1 k2 k3 ⊢
  constructor
  · refine Int.le_of_mul_le_mul_right ?_ Mp
    generalize (2 : Int) ^ bits = M at d k1 k2 ⊢
    generalize valN bits T G = v at d k1
    have e1 : G * ((m : Int) * M + r) = (m : Int) * G * M + G * r := by grind
    have e2 : ((m : Int) * G + 3 * r) * M = (m : Int) * G * M + 3 * M * r := by grind
    have e3 : G * (v + 1) = G * v + G := by grind
    omega
  · refine Int.le_of_mul_le_mul_right ?_ Mp
    generalize (2 : Int) ^ bits = M at d' k3 k2 ⊢
    generalize valN bits T G = v at d' k3
    have e1 : G * ((m : Int) * M - r) = (m : Int) * G * M - G * r := by grind
    have e2 : ((m : Int) * G - 3 * r) * M = (m : Int) * G * M - 3 * M * r := by grind
    omega
theorem div_pos_of {a b : Rat} (hb : 0 < b) (h : 0 < a) : 0 < a / b := by
  rw [Rat.div_def]
  exact Rat.mul_pos h (Rat.inv_pos.mpr hb)
theorem rat_of_int {a b : Int} (h : a ≤ b) : (a : Rat) ≤ (b : Rat) := Rat.intCast_le_intCast.mpr h
theorem LvIn.big (h : LvIn p q bits T G) {m : Nat} (hm : m ≤ 40000) (hv : (m : Int) * 2 ^ bits + 2 ^ 48 ≤ valN bits T G) : q ^ 1000 * 10 ^ m < p ^ 1000 := by
  have i := rat_of_int (h.lo hv)
  rw [Rat.intCast_add, Rat.intCast_mul, Rat.intCast_mul, int_cast_nat, int_pow2] at i
  have c1 : ((1000 : Int) : Rat) = 1000 := rfl
  rw [c1, show ((2 : Rat) ^ 49) = 562949953421312 by decide +kernel] at i
  have mr : (m : Rat) ≤ 40000 := by
    have := Rat.natCast_le_natCast.mpr hm
    exact this
  have r1 := (h.ln m).gt_one (div_pos_of (pw2_pos bits) (by grind))
  have e := rN_mul (p := p) h.q0 m
  have qp : (0 : Rat) < ((q ^ 1000 * 10 ^ m : Nat) : Rat) := nat_pos (Nat.mul_pos (Nat.pow_pos h.q0) (Nat.pow_pos (by decide)))
  have k := Rat.mul_lt_mul_of_pos_right r1 qp
  rw [e, Rat.one_mul] at k
  exact Rat.natCast_lt_natCast.mp k
theorem LvIn.small (h : LvIn p q bits T G) {m : Nat} (hm : m ≤ 40001) (hv : valN bits T G + 2 ^ 48 < (m : Int) * 2 ^ bits) : p ^ 1000 < q ^ 1000 * 10 ^ m := by
  have i := rat_of_int (Int.le_of_lt (h.hi hv))
  rw [Rat.intCast_sub, Rat.intCast_mul, Rat.intCast_mul, int_cast_nat, int_pow2] at i
  have c1 : ((1000 : Int) : Rat) = 1000 := rfl
  rw [c1, show ((2 : Rat) ^ 49) = 562949953421312 by decide +kernel] at i
  have mr : (m : Rat) ≤ 40001 := by
    have := Rat.natCast_le_natCast.mpr hm
    exact this
  have Bp := pw2_pos bits
  have neg : 0 < -((1000 * ((T : Rat) + 1048576) - (m : Rat) * ((G : Rat) - 1048576)) / 2 ^ bits) := by
    have := div_pos_of Bp (show 0 < -(1000 * ((T : Rat) + 1048576) - (m : Rat) * ((G : Rat) - 1048576)) by grind)
    rw [Rat.div_def, Rat.neg_mul, ← Rat.div_def] at this
    exact this
  have L := h.ln m
  have r1 := L.inv.gt_one neg
  have rp := L.pos
  have ri : rN p q m * (rN p q m)⁻¹ = 1 := Rat.mul_inv_cancel _ (by grind)
  have k0 := Rat.mul_lt_mul_of_pos_left r1 rp
  rw [ri, Rat.mul_one] at k0
  have e := rN_mul (p := p) h.q0 m
  have qp : (0 : Rat) < ((q ^ 1000 * 10 ^ m : Nat) : Rat) := nat_pos (Nat.mul_pos (Nat.pow_pos h.q0) (Nat.pow_pos (by decide)))
  have k := Rat.mul_lt_mul_of_pos_right k0 qp
  rw [e, Rat.one_mul] at k
  exact Rat.natCast_lt_natCast.mp k
theorem LvIn.range (h : LvIn p q bits T G) : 0 ≤ topN bits T G ∧ -1 ≤ lowN bits T G ∧ lowN bits T G < 40000 := by
  obtain ⟨g1, g2, g3⟩ := h.g0
  have Mp : (0 : Int) < 2 ^ bits := Int.pow_pos (by decide)
  have t0 : 0 ≤ valN bits T G + 2 ^ 48 := by
    refine Int.not_lt.mp fun z => ?_
    have := h.small (m := 0) (by decide) (by rw [show ((0 : Nat) : Int) = 0 from rfl, Int.zero_mul]; exact z)
    rw [Nat.pow_zero, Nat.mul_one] at this
    exact absurd this (Nat.not_lt.mpr (Nat.pow_le_pow_left h.qp 1000))
  refine ⟨Int.ediv_nonneg t0 (Int.le_of_lt Mp), ?_, ?_⟩
  · unfold lowN
    refine Int.le_ediv_of_mul_le Mp ?_
    have e96 : (2 : Int) * 2 ^ 48 ≤ 2 ^ 96 := by decide
    omega
  · refine Int.not_le.mp fun z => ?_
    have k : 40000 * 2 ^ bits ≤ valN bits T G - 2 ^ 48 := by
      have a := Int.mul_ediv_self_le (x := valN bits T G - 2 ^ 48) (k := 2 ^ bits) (by omega)
      have b := Int.mul_le_mul_of_nonneg_right z (Int.le_of_lt Mp)
      have a : 2 ^ bits * lowN bits T G ≤ valN bits T G - 2 ^ 48 := a
      have c : lowN bits T G * 2 ^ bits = 2 ^ bits * lowN bits T G := Int.mul_comm _ _
      omega
    have g := h.big (m := 40000) (Nat.le_refl _) (by show (40000 : Int) * 2 ^ bits + 2 ^ 48 ≤ _; omega)
    have p1 : p ^ 1000 ≤ (2 ^ 98) ^ 1000 := Nat.pow_le_pow_left h.p98 1000
    have q1 : 1 ≤ q ^ 1000 := Nat.pow_pos h.q0
    have t1 : (2 ^ 98) ^ 1000 ≤ 10 ^ 40000 := by decide +kernel
    have g2 := Nat.mul_le_mul_right (10 ^ 40000) q1
    rw [Nat.one_mul] at g2
    exact absurd (Nat.lt_of_le_of_lt g2 g) (Nat.not_lt.mpr (Nat.le_trans p1 t1))
theorem LvIn.at_low (h : LvIn p q bits T G) : lowN bits T G * 2 ^ bits + 2 ^ 48 ≤ valN bits T G ∧ valN bits T G - 2 ^ 48 < (lowN bits T G + 1) * 2 ^ bits ∧ topN bits T G * 2 ^ bits ≤ valN bits T G + 2 ^ 48 ∧ valN bits T G + 2 ^ 48 < (topN bits T G + 1) * 2 ^ bits := by
  have Mp : (0 : Int) < 2 ^ bits := Int.pow_pos (by decide)
  have a := Int.mul_ediv_self_le (x := valN bits T G - 2 ^ 48) (k := 2 ^ bits) (by omega)
  have b := Int.lt_mul_ediv_self_add (x := valN bits T G - 2 ^ 48) (k := 2 ^ bits) Mp
  have c := Int.mul_ediv_self_le (x := valN bits T G + 2 ^ 48) (k := 2 ^ bits) (by omega)
  have d := Int.lt_mul_ediv_self_add (x := valN bits T G + 2 ^ 48) (k := 2 ^ bits) Mp
  unfold lowN topN
  rw [Int.mul_comm _ (2 ^ bits), Int.mul_comm _ (2 ^ bits), Int.mul_comm _ (2 ^ bits), Int.mul_comm _ (2 ^ bits), Int.mul_add, Int.mul_add, Int.mul_one]
  refine ⟨by omega, b, c, d⟩
/-- both ends agree -/
theorem lvl_eq (h : LvIn p q bits T G) (e : lowN bits T G = topN bits T G) : LvlOk p q (lowN bits T G) (lowN bits T G + 1) := by
  obtain ⟨r1, r2, r3⟩ := h.range
  obtain ⟨a1, a2, a3, a4⟩ := h.at_low
  obtain ⟨m, hm⟩ : ∃ m : Nat, lowN bits T G = (m : Int) := ⟨(lowN bits T G).toNat, (Int.toNat_of_nonneg (by omega)).symm⟩
  refine ⟨m, hm, by omega, .inl ⟨h.big (by omega) (by rw [← hm]; exact a1), h.small (m := m + 1) (by omega) (by rw [show ((m + 1 : Nat) : Int) = topN bits T G + 1 by omega]; exact a4), by omega⟩⟩
/-- a power of ten -/
theorem lvl_pow {p q : Nat} {m : Int} (h0 : 0 ≤ m) (h1 : m ≤ 40000) (h2 : m % 1000 = 0) (h3 : p = q * 10 ^ (m / 1000).toNat) : LvlOk p q m m := by
  obtain ⟨k, rfl⟩ : ∃ k : Nat, m = (k : Int) := ⟨m.toNat, (Int.toNat_of_nonneg h0).symm⟩
  refine ⟨k, rfl, by omega, .inr ⟨?_, rfl⟩⟩
  have e : ((k : Int) / 1000).toNat = k / 1000 := by omega
  rw [e] at h3
  rw [h3, Nat.mul_pow, ← Nat.pow_mul]
  congr 2
  omega
/-- it ends -/
theorem lvl_end (h : LvIn p q 384 T G) (ne : lowN 384 T G ≠ topN 384 T G) : (lowN 384 T G + 1) % 1000 = 0 ∧ p = q * 10 ^ ((lowN 384 T G + 1) / 1000).toNat := by
  obtain ⟨r1, r2, r3⟩ := h.range
  obtain ⟨a1, a2, a3, a4⟩ := h.at_low
  have Mp : (0 : Int) < 2 ^ 384 := Int.pow_pos (by decide)
  have lt : lowN 384 T G + 1 ≤ topN 384 T G := by
    have : lowN 384 T G ≤ topN 384 T G := Int.ediv_le_ediv Mp (Int.le_trans (Int.sub_le_self _ (show (0 : Int) ≤ 2 ^ 48 by decide)) (Int.le_add_of_nonneg_right (show (0 : Int) ≤ 2 ^ 48 by decide)))
    omega
  have k3 := Int.mul_le_mul_of_nonneg_right lt (Int.le_of_lt Mp)
  have b2 : (lowN 384 T G + 1) * 2 ^ 384 ≤ valN 384 T G + 2 ^ 48 := Int.le_trans k3 a3
  obtain ⟨m, hm⟩ : ∃ m : Nat, lowN 384 T G + 1 = (m : Int) := ⟨(lowN 384 T G + 1).toNat, (Int.toNat_of_nonneg (by omega)).symm⟩
  have m4 : m ≤ 40000 := by omega
  rw [hm] at a2 b2 ⊢
  obtain ⟨i1, i2⟩ := h.mid a2 b2
  have i1 := rat_of_int i1
  have i2 := rat_of_int i2
  rw [Rat.intCast_add, Rat.intCast_mul, Rat.intCast_mul, Rat.intCast_mul, int_cast_nat, int_pow2] at i1
  rw [Rat.intCast_sub, Rat.intCast_mul, Rat.intCast_mul, Rat.intCast_mul, int_cast_nat, int_pow2] at i2
  have c1 : ((1000 : Int) : Rat) = 1000 := rfl
  have c3 : ((3 : Int) : Rat) = 3 := rfl
  rw [c1, c3, show ((2 : Rat) ^ 48) = 281474976710656 by decide +kernel] at i1 i2
  have mr : (m : Rat) ≤ 40000 := by
    have := Rat.natCast_le_natCast.mpr m4
    exact this
  have mn := nat_nn m
  have L := h.ln m
  have Bp := pw2_pos 384
  have Hp : (0 : Rat) < (HH : Rat) := nat_pos (by decide +kernel)
  have eB : (2 : Rat) ^ 384 = (HH : Rat) * 2251799813685248 := by decide +kernel
  have H1 : (1 : Rat) < (HH : Rat) := by decide +kernel
  have η0 := div_pos_of Hp (show (0 : Rat) < 1 by decide)
  have ηe : 1 / (HH : Rat) * (HH : Rat) = 1 := Rat.div_mul_cancel (by grind)
  have lt_div : ∀ {z : Rat}, z < 2251799813685248 → z / 2 ^ 384 < 1 / (HH : Rat) := fun {z} hz => by
    have e : z / 2 ^ 384 * 2 ^ 384 = z := Rat.div_mul_cancel (by grind)
    refine Rat.lt_of_mul_lt_mul_right (c := (2 : Rat) ^ 384) ?_ (Rat.le_of_lt Bp)
    rw [e, eB, ← Rat.mul_assoc, ηe, Rat.one_mul]
    exact hz
  have η1 : 1 / (HH : Rat) < 1 := by
    refine Rat.lt_of_mul_lt_mul_right (c := (HH : Rat)) ?_ (Rat.le_of_lt Hp)
    rw [ηe, Rat.one_mul]
    exact H1
  have n1 := L.near (lt_div (by grind)) η0 η1
  have Li := L.inv.weak (a' := -((1000 * ((T : Rat) + 1048576) - (m : Rat) * ((G : Rat) - 1048576)) / 2 ^ 384)) (b' := (-(1000 * ((T : Rat) - 1048576) - (m : Rat) * ((G : Rat) + 1048576))) / 2 ^ 384) Rat.le_refl (by
    rw [Rat.div_def, Rat.div_def, Rat.neg_mul]
    exact Rat.le_refl)
  have n2 := Li.near (lt_div (by grind)) η0 η1
  have rp := L.pos
  have ri : rN p q m * (rN p q m)⁻¹ = 1 := Rat.mul_inv_cancel _ (by grind)
  have e := rN_mul (p := p) h.q0 m
  have qp : (0 : Rat) < ((q ^ 1000 * 10 ^ m : Nat) : Rat) := nat_pos (Nat.mul_pos (Nat.pow_pos h.q0) (Nat.pow_pos (by decide)))
  -- the same in whole numbers
  have hsub : ((HH - 1 : Nat) : Rat) = (HH : Rat) - 1 := by decide +kernel
  have w1 : p ^ 1000 * (HH - 1) ≤ q ^ 1000 * 10 ^ m * HH := by
    refine Rat.natCast_le_natCast.mp ?_
    rw [Rat.natCast_mul, Rat.natCast_mul, hsub, ← e]
    have k := Rat.mul_le_mul_of_nonneg_right n1 (Rat.le_of_lt qp)
    have k2 := Rat.mul_le_mul_of_nonneg_right k (Rat.le_of_lt Hp)
    generalize ((q ^ 1000 * 10 ^ m : Nat) : Rat) = z at k2 ⊢
    generalize rN p q m = r at k2 ⊢
    have : r * (1 - 1 / (HH : Rat)) * z * (HH : Rat) = r * z * ((HH : Rat) - 1 / (HH : Rat) * (HH : Rat)) := by grind
    rw [this, ηe, Rat.one_mul] at k2
    exact k2
  have w2 : q ^ 1000 * 10 ^ m * (HH - 1) ≤ p ^ 1000 * HH := by
    refine Rat.natCast_le_natCast.mp ?_
    rw [Rat.natCast_mul (q ^ 1000 * 10 ^ m) (HH - 1), Rat.natCast_mul (p ^ 1000) HH, hsub, ← e]
    have k := Rat.mul_le_mul_of_nonneg_left n2 (Rat.le_of_lt rp)
    rw [← Rat.mul_assoc, ri, Rat.one_mul, Rat.mul_one] at k
    have k2 := Rat.mul_le_mul_of_nonneg_right (Rat.mul_le_mul_of_nonneg_right k (Rat.le_of_lt qp)) (Rat.le_of_lt Hp)
    generalize ((q ^ 1000 * 10 ^ m : Nat) : Rat) = z at k2 ⊢
    generalize rN p q m = r at k2 ⊢
    have : (1 - 1 / (HH : Rat)) * z * (HH : Rat) = z * ((HH : Rat) - 1 / (HH : Rat) * (HH : Rat)) := by grind
    rw [this, ηe] at k2
    exact k2
  -- the table
  have em : q ^ 1000 * 10 ^ m = (q * 10 ^ (m / 1000)) ^ 1000 * 10 ^ (m % 1000) := by
    rw [Nat.mul_pow, ← Nat.pow_mul, Nat.mul_assoc, ← Nat.pow_add]
    congr 2
    omega
  rw [em] at w1 w2
  have Dp : 0 < q * 10 ^ (m / 1000) := Nat.mul_pos h.q0 (Nat.pow_pos (by decide))
  by_cases hb : m % 1000 = 0
  · rw [hb, Nat.pow_zero, Nat.mul_one] at w1 w2
    have := gap0 h.p0 Dp h.p98 w1 w2
    refine ⟨by omega, ?_⟩
    rw [show ((m : Int) / 1000).toNat = m / 1000 by omega]
    exact this
  · exact (gap1 h.p0 Dp h.p98 (by omega) (by omega) w1 w2).elim
end
end

/-! ### terrains -/
def cellD : D → Bool
  | .int i => decide (-500 ≤ i) && decide (i ≤ 9000)
  | _ => false
def rowD (w : Int) : D → Bool
  | .tup es => decide ((es.length : Int) = w) && es.all cellD
  | _ => false
def terrD : D → Bool
  | .tup (.tup r :: rows) => decide (rows.length + 1 ≤ 40) && decide (1 ≤ r.length) && decide (r.length ≤ 40) && (.tup r :: rows).all (rowD r.length)
  | _ => false
/-- a filter is empty -/
theorem filter_empty {α : Type} (p : α → Bool) : ∀ xs : List α, (xs.filter fun x => !p x).isEmpty = xs.all p
  | [] => rfl
  | x :: xs => by
    rw [List.filter_cons, List.all_cons]
    cases p x with
    | true => exact filter_empty p xs
    | false => rfl
/-- the tree of a grid of heights -/
def gridD (g : List (List Int)) : D := .tup (g.map fun r => .tup (r.map D.int))
structure Grid (w h : Nat) (g : List (List Int)) : Prop where
  hl : g.length = h
  wl : ∀ r ∈ g, r.length = w
  w1 : 1 ≤ w
  h1 : 1 ≤ h
  w2 : w ≤ 40
  h2 : h ≤ 40
def placesD (w h : Nat) : List D := (rangeD 0 h).flatMap fun y => (rangeD 0 w).map fun x => .tup [x, y]
def inPlace (w h : Nat) (x y : Int) : Bool := (decide (0 ≤ x) && decide (x < w)) && (decide (0 ≤ y) && decide (y < h))
def cellAt (g : List (List Int)) (x y : Int) : Int := (g.getD y.toNat []).getD x.toNat 0
section
variable {P : Program} {w : World} {K : PySem.W.Frag} {mg : Str → Option Value} {base : Heap}
theorem atI_0 {α : Type} {x : α} {xs : List α} : L2.atI (x :: xs) 0 = some x := atI_ofNat (i := 0) rfl
theorem Grid.row0 {w h : Nat} {g : List (List Int)} (G : Grid w h g) : ∃ r rest, g = r :: rest ∧ r.length = w := by
  cases g with
  | nil => have := G.hl; have := G.h1; simp at *; omega
  | cons r rest => exact ⟨r, rest, rfl, G.wl r List.mem_cons_self⟩
theorem Grid.at {w h : Nat} {g : List (List Int)} (G : Grid w h g) {x y : Int} (hi : inPlace w h x y = true) : ∃ r : List Int, L2.atI (g.map fun r => D.tup (r.map D.int)) y = some (.tup (r.map D.int)) ∧ L2.atI (r.map D.int) x = some (.int (cellAt g x y)) := by
  unfold inPlace at hi
  rw [Bool.and_eq_true, Bool.and_eq_true, Bool.and_eq_true, decide_eq_true_eq, decide_eq_true_eq, decide_eq_true_eq, decide_eq_true_eq] at hi
  obtain ⟨⟨h1, h2⟩, h3, h4⟩ := hi
  have hy : y.toNat < g.length := by rw [G.hl]; omega
  have hr : (g[y.toNat]).length = w := G.wl _ (List.getElem_mem hy)
  have hx : x.toNat < (g[y.toNat]).length := by omega
  refine ⟨g[y.toNat], ?_, ?_⟩
  · have z := atI_ofNat (xs := g.map fun r => D.tup (r.map D.int)) (i := y.toNat) (x := .tup ((g[y.toNat]).map D.int)) (by rw [List.getElem?_map, List.getElem?_eq_getElem hy]; rfl)
    rw [Int.toNat_of_nonneg h3] at z
    exact z
  · have e : cellAt g x y = (g[y.toNat])[x.toNat] := by
      unfold cellAt
      simp only [List.getD_eq_getElem?_getD, List.getElem?_eq_getElem hy, Option.getD_some, List.getElem?_eq_getElem hx]
    have z := atI_ofNat (xs := (g[y.toNat]).map D.int) (i := x.toNat) (x := .int ((g[y.toNat])[x.toNat])) (by rw [List.getElem?_map, List.getElem?_eq_getElem hx]; rfl)
    rw [Int.toNat_of_nonneg h1] at z
    rw [e]
    exact z
theorem Grid.atH {w h : Nat} {g : List (List Int)} (G : Grid w h g) : ∃ r : List Int, L2.atI (g.map fun r => D.tup (r.map D.int)) 0 = some (.tup (r.map D.int)) ∧ r.length = w := by
  obtain ⟨r, rest, rfl, hr⟩ := G.row0
  exact ⟨r, atI_0, hr⟩

def RIsPlace : List D → D → Prop := fun ds r => ∃ w h g, ∃ x y : Int, Grid w h g ∧ ds = [gridD g, .tup [.int x, .int y]] ∧ r = .bl (inPlace w h x y)
theorem sc_is_place : FnScope ["terrain", "place"] ["terrain", "place"] (defScope s_is_place) := ⟨rfl, rfl, rfl, by decide +kernel, rfl, by decide +kernel, by decide +kernel⟩
theorem ok_is_place (B : Bi mg) {f : Addr} {fd : FuncData} (F : Fun K "is_place" "is_place" s_is_place f fd) : FnOk P w K mg base CX0 1 f fd ["terrain", "place"] (SpD K 2 RIsPlace) := by
  have S := sc_is_place
  refine fn_ok F S rfl 0 rfl fun cdv A outer s H E hr => ⟨_, ((pss_one (ps_ret (pe_and (pe_chain op_le op_lt pe_int (pe_ix ix_tup (pv 1) pe_int (fun _ _ => rfl)) (pe_callB c_len (by rfl) B.len (by decide +kernel) (pa_cons (pe_ix ix_tup (pv 0) pe_int (fun _ _ => rfl)) pa_nil))) (pe_one (pe_chain op_le op_lt pe_int (pe_ix ix_tup (pv 1) pe_int (fun _ _ => rfl)) (pe_callB c_len (by rfl) B.len (by decide +kernel) (pa_cons (pv 0) pa_nil)))))))), fun φ ds d H D0 σ hl hR hrt hnx A => ?_⟩
  obtain ⟨w, h, g, x, y, G, rfl, rfl⟩ := hR
  replace A : At K φ (Same H) [some (gridD g), some (.tup [.int x, .int y])] σ H := A
  obtain ⟨r0, e0, hr0⟩ := G.atH
  have lenH : ((g.map fun r => D.tup (r.map D.int)).length : Int) = h := by rw [List.length_map, G.hl]
  have lenW : ((r0.map D.int).length : Int) = w := by rw [List.length_map, hr0]
  refine st_ret A (ev_andV (ev_chainI ev_int (ev_ixT (ev_var rfl) ev_int rfl) (ev_lenT (ev_ixT (ev_var rfl) ev_int e0))) fun _ => ev_one (ev_chainI ev_int (ev_ixT (ev_var rfl) ev_int rfl) (ev_lenT (ev_var rfl)))) fun v d' H6 e A6 r => hrt v H6 A6.j ?_
  subst e
  rw [lenW, lenH] at r
  exact r

def RHeight (c : Addr) : List D → D ⊕ Addr → Prop := fun ds o => ∃ w h g, ∃ x y : Int, Grid w h g ∧ ds = [gridD g, .tup [.int x, .int y]] ∧ o = if inPlace w h x y = true then .inl (.int (cellAt g x y)) else .inr c
theorem sc_height_at : FnScope ["terrain", "place"] ["terrain", "place"] (defScope s_height_at) := ⟨rfl, rfl, rfl, by decide +kernel, rfl, by decide +kernel, by decide +kernel⟩
theorem ok_height_at (B : Bi mg) {c : Addr} (X_NoPlace : ExC K mg "NoPlace" c) {f g : Addr} {fd gd : FuncData} (F : Fun K "height_at" "height_at" s_height_at f fd) (L_is_place : Lk K mg "is_place" g gd ["terrain", "place"]) (G_is_place : FnOk P w K mg base CX0 1 g gd ["terrain", "place"] (SpD K 2 RIsPlace)) : FnOk P w K mg base (L2.CX P w) 2 f fd ["terrain", "place"] (SpX K 2 (RHeight c)) := by
  have S := sc_height_at
  refine fn_okX F S rfl 0 rfl fun cdv A outer s H E hr => ⟨_, ((pss_cons (ps_if (pt_not (pt_val (pe_call G_is_place (hr.mono (by first | exact Nat.le_refl _ | decide | omega)) (by rfl) L_is_place.m L_is_place.kp L_is_place.bi .nil pass0 (pa_cons (pv 0) (pa_cons (pv 1) pa_nil)))))
 (pss_one (ps_raise rfl (takes_of rfl rfl rfl rfl) (pmk_own PySem.F.excBase_ValueError X_NoPlace.e X_NoPlace.m X_NoPlace.k (raises_own X_NoPlace.s X_NoPlace.t) (by rfl))))
 pss_nil)
 (pss_one (ps_ret (pe_ix ix_tup (pe_ix ix_tup (pv 0) (pe_ix ix_tup (pv 1) pe_int (fun _ _ => rfl)) (fun _ _ => rfl)) (pe_ix ix_tup (pv 1) pe_int (fun _ _ => rfl)) (fun _ _ => rfl)))))), fun φ ds o H D0 σ hl hR hrt hex A => ?_⟩
  obtain ⟨w, h, g, x, y, G, rfl, rfl⟩ := hR
  replace A : At K φ (Same H) [some (gridD g), some (.tup [.int x, .int y])] σ H := A
  refine q (st_if A (et_not (et_B (ev_callD (ea_cons (ev_var rfl) (ea_cons (ev_var rfl) ea_nil)) ⟨w, h, g, x, y, G, rfl, rfl⟩))) (fun hb H1 A1 => ?_) (fun hb H1 A1 => st_next ?_))
  · have hb' : ¬ inPlace w h x y = true := by simpa using hb
    rw [if_neg hb'] at hex
    exact hex c rfl H1 A1.j
  · have hb' : inPlace w h x y = true := by simpa using hb
    rw [if_pos hb'] at hrt
    obtain ⟨r, e1, e2⟩ := G.at hb'
    exact st_ret A1 (ev_ixT (ev_ixT (ev_var rfl) (ev_ixT (ev_var rfl) ev_int rfl) e1) (ev_ixT (ev_var rfl) ev_int rfl) e2) fun v d' H6 e A6 r => hrt _ rfl v H6 A6.j (e ▸ r)
end

/-! ### heights on the way -/
section
variable {P : Program} {w : World} {K : PySem.W.Frag} {mg : Str → Option Value} {base : Heap}
local macro_rules | `(tactic| walk_at "le") => `(tactic| repeat' (first | exact Le.nil | refine Le.drop ?_ | refine Le.keep ?_))
def absI (i : Int) : Int := i.natAbs
def stepsI (px py qx qy : Int) : Int := max (absI (px - qx)) (absI (py - qy))
def near (a b k n : Int) : Int := (2 * a * n + 2 * (b - a) * k + n) / (2 * n)
def clrV (g : List (List Int)) (px py qx qy a b k : Int) : Int := stepsI px py qx qy * cellAt g (near px qx k (stepsI px py qx qy)) (near py qy k (stepsI px py qx qy)) - (stepsI px py qx qy * a + (b - a) * k)
def clr (g : List (List Int)) (px py qx qy a b : Int) : List D := (rangeD 1 (stepsI px py qx qy - 1).toNat).map fun k => .int (clrV g px py qx qy a b (intV k))
theorem near_lo {a b k n lo : Int} (h1 : lo ≤ a) (h2 : lo ≤ b) (k0 : 0 ≤ k) (k1 : k ≤ n) (n0 : 0 < n) : lo ≤ near a b k n := by
  have e1 : lo * (n - k) ≤ a * (n - k) := Int.mul_le_mul_of_nonneg_right h1 (by omega)
  have e2 : lo * k ≤ b * k := Int.mul_le_mul_of_nonneg_right h2 k0
  refine (Int.le_ediv_iff_mul_le (by omega)).mpr ?_
  grind
theorem near_hi {a b k n hi : Int} (h1 : a ≤ hi) (h2 : b ≤ hi) (k0 : 0 ≤ k) (k1 : k ≤ n) (n0 : 0 < n) : near a b k n ≤ hi := by
  have e1 : a * (n - k) ≤ hi * (n - k) := Int.mul_le_mul_of_nonneg_right h1 (by omega)
  have e2 : b * k ≤ hi * k := Int.mul_le_mul_of_nonneg_right h2 k0
  refine Int.lt_add_one_iff.mp ((Int.ediv_lt_iff_lt_mul (by omega)).mpr ?_)
  grind
theorem near_iff {a b k n m : Int} (n0 : 0 < n) : (n * (2 * m - 1) ≤ 2 * (a * n + (b - a) * k) ∧ 2 * (a * n + (b - a) * k) < n * (2 * m + 1)) ↔ m = near a b k n := by
  unfold near
  have h := Int.ediv_mul_le (2 * a * n + 2 * (b - a) * k + n) (b := 2 * n) (by omega)
  have h2 := Int.lt_ediv_add_one_mul_self (2 * a * n + 2 * (b - a) * k + n) (b := 2 * n) (by omega)
  generalize (2 * a * n + 2 * (b - a) * k + n) / (2 * n) = q at h h2 ⊢
  constructor
  · rintro ⟨h3, h4⟩
    have l1 : (q - m) * (2 * n) < 2 * n := by grind
    have l2 : (m - q) * (2 * n) < 2 * n := by grind
    by_cases c1 : 1 ≤ q - m
    · have := Int.mul_le_mul_of_nonneg_right c1 (show (0 : Int) ≤ 2 * n by omega)
      omega
    · by_cases c2 : 1 ≤ m - q
      · have := Int.mul_le_mul_of_nonneg_right c2 (show (0 : Int) ≤ 2 * n by omega)
        omega
      · omega
  · rintro rfl
    constructor <;> grind
theorem inPlace_iff {w h : Nat} {x y : Int} : inPlace w h x y = true ↔ (0 ≤ x ∧ x < w) ∧ (0 ≤ y ∧ y < h) := by
  unfold inPlace
  rw [Bool.and_eq_true, Bool.and_eq_true, Bool.and_eq_true, decide_eq_true_eq, decide_eq_true_eq, decide_eq_true_eq, decide_eq_true_eq]
theorem near_in {w h : Nat} {px py qx qy k n : Int} (hp : inPlace w h px py = true) (hq : inPlace w h qx qy = true) (k0 : 0 ≤ k) (k1 : k ≤ n) (n0 : 0 < n) : inPlace w h (near px qx k n) (near py qy k n) = true := by
  rw [inPlace_iff] at hp hq ⊢
  exact ⟨⟨near_lo hp.1.1 hq.1.1 k0 k1 n0, Int.lt_of_le_of_lt (near_hi (hi := w - 1) (by omega) (by omega) k0 k1 n0) (by omega)⟩, near_lo hp.2.1 hq.2.1 k0 k1 n0, Int.lt_of_le_of_lt (near_hi (hi := h - 1) (by omega) (by omega) k0 k1 n0) (by omega)⟩
theorem steps_le {w h : Nat} {px py qx qy : Int} (hp : inPlace w h px py = true) (hq : inPlace w h qx qy = true) (hw : w ≤ 40) (hh : h ≤ 40) : 0 ≤ stepsI px py qx qy ∧ stepsI px py qx qy ≤ 40 := by
  rw [inPlace_iff] at hp hq
  unfold stepsI absI
  omega
def RSteps : List D → D → Prop := fun ds r => ∃ px py qx qy : Int, ds = [.tup [.int px, .int py], .tup [.int qx, .int qy]] ∧ r = .int (stepsI px py qx qy)
theorem sc_steps_between : FnScope ["p", "q"] ["p", "q"] (defScope s_steps_between) := ⟨rfl, rfl, rfl, by decide +kernel, rfl, by decide +kernel, by decide +kernel⟩
theorem ok_steps_between (B : Bi mg) {f : Addr} {fd : FuncData} (F : Fun K "steps_between" "steps_between" s_steps_between f fd) : FnOk P w K mg base CX0 1 f fd ["p", "q"] (SpD K 2 RSteps) := by
  have S := sc_steps_between
  refine fn_ok F S rfl 0 rfl fun cdv A outer s H E hr => ⟨_, ((pss_one (ps_ret (pe_callB (c_max2 rfl) (by rfl) B.max (by decide +kernel) (pa_cons (pe_callB c_abs (by rfl) B.abs (by decide +kernel) (pa_cons (pe_op op_sub (pe_ix ix_tup (pv 0) pe_int (fun _ _ => rfl)) (pe_ix ix_tup (pv 1) pe_int (fun _ _ => rfl))) pa_nil)) (pa_cons (pe_callB c_abs (by rfl) B.abs (by decide +kernel) (pa_cons (pe_op op_sub (pe_ix ix_tup (pv 0) pe_int (fun _ _ => rfl)) (pe_ix ix_tup (pv 1) pe_int (fun _ _ => rfl))) pa_nil)) pa_nil)))))), fun φ ds d H D0 σ hl hR hrt hnx A => ?_⟩
  obtain ⟨px, py, qx, qy, rfl, rfl⟩ := hR
  replace A : At K φ (Same H) [some (.tup [.int px, .int py]), some (.tup [.int qx, .int qy])] σ H := A
  exact st_ret A (ev_max2 (ev_abs (ev_sub (ev_ixT (ev_var rfl) ev_int rfl) (ev_ixT (ev_var rfl) ev_int rfl))) (ev_abs (ev_sub (ev_ixT (ev_var rfl) ev_int rfl) (ev_ixT (ev_var rfl) ev_int rfl)))) fun v d H3 e A3 r => hrt v H3 A3.j (by rw [e] at r; exact r)
def RNear : List D → D → Prop := fun ds r => ∃ a b k n : Int, ds = [.int a, .int b, .int k, .int n] ∧ 0 < n ∧ n ≤ 100 ∧ 0 ≤ k ∧ k ≤ n ∧ r = .int (near a b k n)
theorem sc_nearest : FnScope ["first", "last", "k", "n"] ["first", "last", "k", "n"] (defScope s_nearest) := ⟨rfl, rfl, rfl, by decide +kernel, rfl, by decide +kernel, by decide +kernel⟩
theorem ok_nearest (B : Bi mg) {f : Addr} {fd : FuncData} (F : Fun K "nearest" "nearest" s_nearest f fd) : FnOk P w K mg base CX0 1 f fd ["first", "last", "k", "n"] (SpD K 4 RNear) := by
  have S := sc_nearest
  refine fn_ok F S rfl 0 rfl fun cdv A outer s H E hr => ⟨_, ((pss_one (ps_ret (pe_op op_fdiv (pe_op op_add (pe_op op_add (pe_op op_mul (pe_op op_mul pe_int (pv 0)) (pv 3)) (pe_op op_mul (pe_op op_mul pe_int (pe_op op_sub (pv 1) (pv 0))) (pv 2))) (pv 3)) (pe_op op_mul pe_int (pv 3)))))), fun φ ds d H D0 σ hl hR hrt hnx A => ?_⟩
  obtain ⟨a, b, k, n, rfl, n0, n1, k0, k1, rfl⟩ := hR
  replace A : At K φ (Same H) [some (.int a), some (.int b), some (.int k), some (.int n)] σ H := A
  exact st_ret A (ev_fdiv (ev_add (ev_add (ev_mul (ev_mul ev_int (ev_var rfl) (.inl (by decide))) (ev_var rfl) (.inr (by omega))) (ev_mul (ev_mul ev_int (ev_sub (ev_var rfl) (ev_var rfl)) (.inl (by decide))) (ev_var rfl) (.inr (by omega)))) (ev_var rfl)) (ev_mul ev_int (ev_var rfl) (.inl (by decide))) ⟨by omega, by omega⟩) fun v d H3 e A3 r => hrt v H3 A3.j (by rw [e] at r; exact r)
def twoPl (w h : Nat) (px py qx qy : Int) : Bool := inPlace w h px py && inPlace w h qx qy
def RClear (c : Addr) : List D → D ⊕ Addr → Prop := fun ds o => ∃ w h g, ∃ px py qx qy a b : Int, Grid w h g ∧ ds = [gridD g, .tup [.int px, .int py], .tup [.int qx, .int qy], .int a, .int b] ∧ o = if twoPl w h px py qx qy = true then .inl (.lst (clr g px py qx qy a b)) else .inr c
theorem sc_clearances : FnScope ["terrain", "p", "q", "a", "b", "n", "found", "k", "place"] ["terrain", "p", "q", "a", "b"] (defScope s_clearances) := ⟨rfl, rfl, rfl, by decide +kernel, rfl, by decide +kernel, by decide +kernel⟩
theorem rangeD_take' {lo : Int} {n i : Nat} (h : i ≤ n) : (rangeD lo n).take i = rangeD lo i := by
  refine List.ext_getElem? fun j => ?_
  rw [List.getElem?_take, rangeD_get, rangeD_get]
  by_cases hj : j < i
  · rw [if_pos hj, if_pos (by omega), if_pos (by omega)]
  · rw [if_neg hj, if_neg (by omega)]
theorem rangeD_succ' (lo : Int) (n : Nat) : rangeD lo (n + 1) = rangeD lo n ++ [.int (lo + (n : Int))] := by
  have e := rangeD_take' (lo := lo) (n := n + 1) (i := n) (by omega)
  have z := List.take_append_drop n (rangeD lo (n + 1))
  rw [e] at z
  rw [← z]
  congr 1
  refine List.ext_getElem? fun j => ?_
  rw [List.getElem?_drop, rangeD_get]
  cases j with
  | zero => rw [if_pos (by omega)]; rfl
  | succ j => rw [if_neg (by omega)]; rfl
theorem ok_clearances (B : Bi mg) {c : Addr} (X_NoPlace : ExC K mg "NoPlace" c) {f g1 g2 g3 : Addr} {fd gd1 gd2 gd3 : FuncData} (F : Fun K "clearances" "clearances" s_clearances f fd)
    (L_height_at : Lk K mg "height_at" g1 gd1 ["terrain", "place"]) (G_height_at : FnOk P w K mg base (L2.CX P w) 2 g1 gd1 ["terrain", "place"] (SpX K 2 (RHeight c)))
    (L_steps_between : Lk K mg "steps_between" g2 gd2 ["p", "q"]) (G_steps_between : FnOk P w K mg base CX0 1 g2 gd2 ["p", "q"] (SpD K 2 RSteps))
    (L_nearest : Lk K mg "nearest" g3 gd3 ["first", "last", "k", "n"]) (G_nearest : FnOk P w K mg base CX0 1 g3 gd3 ["first", "last", "k", "n"] (SpD K 4 RNear)) : FnOk P w K mg base (L2.CX P w) 3 f fd ["terrain", "p", "q", "a", "b"] (SpX K 5 (RClear c)) := by
  have S := sc_clearances
  refine fn_okX F S rfl 4 rfl fun cdv A outer s H E hr => ⟨_, ((pss_cons (ps_expr (pe_callS G_height_at (hr.mono (by first | exact Nat.le_refl _ | decide | omega)) (by rfl) L_height_at.m L_height_at.kp L_height_at.bi (fun σ => passAt (takes_of rfl rfl rfl rfl) σ) (pa_cons (pv 0) (pa_cons (pv 1) pa_nil))))
 (pss_cons (ps_expr (pe_callS G_height_at (hr.mono (by first | exact Nat.le_refl _ | decide | omega)) (by rfl) L_height_at.m L_height_at.kp L_height_at.bi (fun σ => passAt (takes_of rfl rfl rfl rfl) σ) (pa_cons (pv 0) (pa_cons (pv 2) pa_nil))))
 (pss_cons (ps_set (i := 5) S.nd rfl (by first | exact Or.inl rfl | exact Or.inr rfl) (pe_call G_steps_between (hr.mono (by first | exact Nat.le_refl _ | decide | omega)) (by rfl) L_steps_between.m L_steps_between.kp L_steps_between.bi .nil pass0 (pa_cons (pv 1) (pa_cons (pv 2) pa_nil))))
 (pss_cons (ps_set (i := 6) S.nd rfl (by first | exact Or.inl rfl | exact Or.inr rfl) (pe_lst pa_nil))
 (pss_cons (ps_for (passes_of rfl) rfl (pi_range2 (by rfl) B.range (pa_cons pe_int (pa_cons (pv 5) pa_nil))) (pg_name (i := 7) S.nd rfl (by first | exact Or.inl rfl | exact Or.inr rfl))
 (pss_cons (ps_set (i := 8) S.nd rfl (by first | exact Or.inl rfl | exact Or.inr rfl) (pe_tup (pa_cons (pe_call G_nearest (hr.mono (by first | exact Nat.le_refl _ | decide | omega)) (by rfl) L_nearest.m L_nearest.kp L_nearest.bi .nil pass0 (pa_cons (pe_ix ix_tup (pv 1) pe_int (fun _ _ => rfl)) (pa_cons (pe_ix ix_tup (pv 2) pe_int (fun _ _ => rfl)) (pa_cons (pv 7) (pa_cons (pv 5) pa_nil))))) (pa_cons (pe_call G_nearest (hr.mono (by first | exact Nat.le_refl _ | decide | omega)) (by rfl) L_nearest.m L_nearest.kp L_nearest.bi .nil pass0 (pa_cons (pe_ix ix_tup (pv 1) pe_int (fun _ _ => rfl)) (pa_cons (pe_ix ix_tup (pv 2) pe_int (fun _ _ => rfl)) (pa_cons (pv 7) (pa_cons (pv 5) pa_nil))))) pa_nil))))
 (pss_one (ps_expr (pe_bm PySem.F.plainAttrs_list PySem.F.slot_list_append PySem.F.type_list_append mt_append (pv 6) (pa_cons (pe_op op_sub (pe_op op_mul (pv 5) (pe_callS G_height_at (hr.mono (by first | exact Nat.le_refl _ | decide | omega)) (by rfl) L_height_at.m L_height_at.kp L_height_at.bi (fun σ => passAt (takes_of rfl rfl rfl rfl) σ) (pa_cons (pv 0) (pa_cons (pv 8) pa_nil)))) (pe_op op_add (pe_op op_mul (pv 5) (pv 3)) (pe_op op_mul (pe_op op_sub (pv 4) (pv 3)) (pv 7)))) pa_nil))))))
 (pss_one (ps_ret (pv 6))))))))), fun φ ds o H D0 σ hl hR hrt hex A => ?_⟩
  obtain ⟨w, h, g, px, py, qx, qy, a, b, G, rfl, rfl⟩ := hR
  replace A : At K φ (Same H) [some (gridD g), some (.tup [.int px, .int py]), some (.tup [.int qx, .int qy]), some (.int a), some (.int b), none, none, none, none] σ H := A
  by_cases hp : inPlace w h px py = true
  · refine q (st_drop A (ev_callX (ea_cons (ev_var rfl) (ea_cons (ev_var rfl) ea_nil)) ⟨w, h, g, px, py, G, rfl, by rw [if_pos hp]⟩) fun d H1 e A1 => q ?_)
    by_cases hq : inPlace w h qx qy = true
    · have h2 : twoPl w h px py qx qy = true := by unfold twoPl; rw [hp, hq]; rfl
      rw [if_pos h2] at hrt
      refine st_drop A1 (ev_callX (ea_cons (ev_var rfl) (ea_cons (ev_var rfl) ea_nil)) ⟨w, h, g, qx, qy, G, rfl, by rw [if_pos hq]⟩) fun d H2 e A2 => q ?_
      obtain ⟨n0, n1⟩ := steps_le hp hq G.w2 G.h2
      refine st_set A2 (ev_callD (ea_cons (ev_var rfl) (ea_cons (ev_var rfl) ea_nil)) ⟨px, py, qx, qy, rfl, rfl⟩) fun σ3 H3 A3 => q ?_
      refine st_newL A3 (en_lstD ea_nil) fun l ds0 J1 σ4 H4 e hφl hn x1 L1 A4 => q ?_
      subst e
      generalize hN : stepsI px py qx qy = N at *
      refine st_for A4 (ds := rangeD 1 (N - 1).toNat) (it_range2 (ea_cons ev_int (ea_cons (ev_var rfl) ea_nil)) (by omega)) (fun i ρ' J' => ∃ o7 o8, Liv K (wo φ l) (Same H) J' l ((rangeD 1 i).map fun k => .int (clrV g px py qx qy a b (intV k))) ∧ ρ' = [some (gridD g), some (.tup [.int px, .int py]), some (.tup [.int qx, .int qy]), some (.int a), some (.int b), some (.int N), some (.raw (.ref l)), o7, o8]) ⟨none, none, L1, rfl⟩ ?_ ?_
      · rintro H5 i x ρ' J' b5 j5 hx ⟨o7, o8, L5, rfl⟩ σ' H' A5
        rw [rangeD_get] at hx
        split at hx
        · rename_i hi
          cases hx
          obtain ⟨J2, L6, A6, x6⟩ := L5.push A5
          replace A6 : At K (wo φ l) J2 [some (gridD g), some (.tup [.int px, .int py]), some (.tup [.int qx, .int qy]), some (.int a), some (.int b), some (.int N), some (.raw (.ref l)), some (.int (1 + (i : Int))), o8] σ' H' := A6
          have hin := near_in hp hq (k := 1 + (i : Int)) (n := N) (by omega) (by omega) (by omega)
          refine q (st_set A6 (ev_tup (ea_cons (ev_callD (ea_cons (ev_ixT (ev_var rfl) ev_int rfl) (ea_cons (ev_ixT (ev_var rfl) ev_int rfl) (ea_cons (ev_var rfl) (ea_cons (ev_var rfl) ea_nil)))) ⟨px, qx, 1 + (i : Int), N, rfl, by omega, by omega, by omega, by omega, rfl⟩) (ea_cons (ev_callD (ea_cons (ev_ixT (ev_var rfl) ev_int rfl) (ea_cons (ev_ixT (ev_var rfl) ev_int rfl) (ea_cons (ev_var rfl) (ea_cons (ev_var rfl) ea_nil)))) ⟨py, qy, 1 + (i : Int), N, rfl, by omega, by omega, by omega, by omega, rfl⟩) ea_nil))) fun σ7 H7 A7 => ?_)
          refine st_appL A7 L6 rfl (ev_sub (ev_mul (ev_var rfl) (ev_callX (ea_cons (ev_var rfl) (ea_cons (ev_var rfl) ea_nil)) ⟨w, h, g, _, _, G, rfl, by rw [if_pos hin]⟩) (.inl (by omega))) (ev_add (ev_mul (ev_var rfl) (ev_var rfl) (.inl (by omega))) (ev_mul (ev_sub (ev_var rfl) (ev_var rfl)) (ev_var rfl) (.inr (by omega))))) (by rw [List.length_map, rangeD_length]; omega) fun d J3 H8 hd L8 A8 => ?_
          subst hd
          obtain ⟨J6, L9, A9⟩ := L8.pop (Mo.liv L1 j5) L1.st L1.pl A8
          refine ⟨_, J6, ⟨_, _, ?_, rfl⟩, A9⟩
          rw [rangeD_succ', List.map_append]
          unfold clrV at L9 ⊢
          rw [hN] at L9 ⊢
          exact L9
        · cases hx
      · rintro H5 ρ' J' σ' H' b5 j5 ⟨o7, o8, L5, rfl⟩ A5
        rw [rangeD_length] at L5
        obtain ⟨J2, L6, A6, x6⟩ := L5.push A5
        have A7 := L6.freeze hφl A6 (k := 6) rfl
        replace A7 : At K φ (fun H' => Same H H' ∧ But (wo φ l) H5 H') [some (gridD g), some (.tup [.int px, .int py]), some (.tup [.int qx, .int qy]), some (.int a), some (.int b), some (.int N), some (.lst ((rangeD 1 (N - 1).toNat).map fun k => .int (clrV g px py qx qy a b (intV k)))), o7, o8] σ' H' := A7
        refine st_ret A7 (ev_var rfl) fun v d H8 e A8 r => hrt _ rfl v H8 A8.j.1 ?_
        subst e
        unfold clr
        rw [hN]
        exact r
    · have h2 : ¬ twoPl w h px py qx qy = true := by unfold twoPl; rw [Bool.and_eq_true]; exact fun z => hq z.2
      rw [if_neg h2] at hex
      exact st_rs A1 (rs_call (c := c) (R := RHeight c) (ea_cons (ev_var rfl) (ea_cons (ev_var rfl) ea_nil)) ⟨w, h, g, qx, qy, G, rfl, by rw [if_neg hq]⟩) fun H2 b A2 => hex c rfl H2 A2.j
  · have h2 : ¬ twoPl w h px py qx qy = true := by unfold twoPl; rw [Bool.and_eq_true]; exact fun z => hp z.1
    rw [if_neg h2] at hex
    exact q (st_rs A (rs_call (c := c) (R := RHeight c) (ea_cons (ev_var rfl) (ea_cons (ev_var rfl) ea_nil)) ⟨w, h, g, px, py, G, rfl, by rw [if_neg hp]⟩) fun H2 b A2 => hex c rfl H2 A2.j)
end

/-! ### drawn terrains -/
section
variable {P : Program} {w : World} {K : PySem.W.Frag} {mg : Str → Option Value} {base : Heap}
local macro_rules | `(tactic| walk_at "le") => `(tactic| repeat' (first | exact Le.nil | refine Le.drop ?_ | refine Le.keep ?_))
def PreTerr : List D → Prop := fun ds => ∃ w h : Nat, ds = [.int w, .int h] ∧ 1 ≤ w ∧ w ≤ 40 ∧ 1 ≤ h ∧ h ≤ 40
def cellOk (c : Int) : Prop := -280 ≤ c ∧ c ≤ 5880
def RTerrain : List D → D → Prop := fun ds r => ∃ (w h : Nat) (g : List (List Int)), ds = [.int w, .int h] ∧ r = gridD g ∧ Grid w h g ∧ ∀ row ∈ g, ∀ c ∈ row, cellOk c
theorem sc__law_terrain : FnScope ["pool", "width", "height", "rows", "scale", "y", "x"] ["pool", "width", "height"] (defScope s__law_terrain) := ⟨rfl, rfl, rfl, by decide +kernel, rfl, by decide +kernel, by decide +kernel⟩
theorem cell_b {i j s : Int} (hi : 0 ≤ i ∧ i < 9) (hj : 0 ≤ j ∧ j < 12) (hs : s = 1 ∨ s = 70) : cellOk ((i * j - 4) * s) := by
  have h1 : 0 ≤ i * j := Int.mul_nonneg hi.1 hj.1
  have h2 : i * j ≤ 8 * 11 := Int.mul_le_mul (by omega) (by omega) hj.1 (by decide)
  unfold cellOk
  rcases hs with rfl | rfl <;> omega
theorem ok__law_terrain (B : Bi mg) {f g : Addr} {fd gd : FuncData} (F : Fun K "_law_terrain" "_law_terrain" s__law_terrain f fd) (L__law_draw : Lk K mg "_law_draw" g gd ["pool", "many"]) (G__law_draw : FnOk P w K mg base CX0 2 g gd ["pool", "many"] spDraw) : FnOk P w K mg base CX0 3 f fd ["pool", "width", "height"] (SpP K 2 PreTerr RTerrain) := by
  have S := sc__law_terrain
  refine fn_okP F S rfl 4 rfl fun cdv A outer s H E hr => ⟨_, ((pss_cons (ps_set (i := 3) S.nd rfl (by first | exact Or.inl rfl | exact Or.inr rfl) (pe_lst pa_nil))
 (pss_cons (ps_set (i := 4) S.nd rfl (by first | exact Or.inl rfl | exact Or.inr rfl) (pe_ix ix_list (pe_lst (pa_cons pe_int (pa_cons pe_int (pa_cons pe_int (pa_cons pe_int pa_nil))))) (pe_call G__law_draw (hr.mono (by first | exact Nat.le_refl _ | decide | omega)) (by rfl) L__law_draw.m L__law_draw.kp L__law_draw.bi .nil pass0 (pa_cons (pv 0) (pa_cons pe_int pa_nil))) (fun _ _ => rfl)))
 (pss_cons (ps_for PassesOwn.never rfl (pi_range1 (by rfl) B.range (pa_cons (pv 2) pa_nil)) (pg_name (i := 5) S.nd rfl (by first | exact Or.inl rfl | exact Or.inr rfl))
 (pss_one (ps_expr (pe_bm PySem.F.plainAttrs_list PySem.F.slot_list_append PySem.F.type_list_append mt_append (pv 3) (pa_cons (pe_callTy c_tupOf (by rfl) B.tuple (by decide +kernel) (pa_cons (pe_lc (own := [("x", 6)]) (g := (gName 6)) (tt := tYes) (by rfl) S.nd (pi_range1 (by rfl) B.range (pa_cons (pv 1) pa_nil)) (blkOk_by (N := ["pool", "width", "height", "rows", "scale", "y", "x"]) (sc := defScope s__law_terrain) (own := [("x", 6)]) (by decide +kernel)) (fun _ _ _ _ _ => (pg_name (i := 6) S.nd rfl (by first | exact Or.inl rfl | exact Or.inr rfl))) (fun _ _ _ _ _ => pts_nil) (fun _ _ _ _ _ => (pe_op op_mul (pe_op op_sub (pe_op op_mul (pe_call G__law_draw (hr.mono (by first | exact Nat.le_refl _ | decide | omega)) (by rfl) L__law_draw.m L__law_draw.kp L__law_draw.bi .nil pass0 (pa_cons (pv 0) (pa_cons pe_int pa_nil))) (pe_call G__law_draw (hr.mono (by first | exact Nat.le_refl _ | decide | omega)) (by rfl) L__law_draw.m L__law_draw.kp L__law_draw.bi .nil pass0 (pa_cons (pv 0) (pa_cons pe_int pa_nil)))) pe_int) (pv 4)))) pa_nil)) pa_nil)))))
 (pss_one (ps_ret (pe_callTy c_tupOf (by rfl) B.tuple (by decide +kernel) (pa_cons (pv 3) pa_nil)))))))), fun φ p pl ns ds H D0 σ hl pre np ne hrt A => ?_⟩
  obtain ⟨w, h, rfl, w1, w2, h1, h2⟩ := pre
  replace A : At K φ (JB p pl ns H) [some (.raw (.ref p)), some (.int w), some (.int h), none, none, none, none] σ H := A
  have hP : Pooled φ (JB p pl ns H) p pl ns := pooledB np ne
  refine q (st_newL A (en_lstD ea_nil) fun l ds0 J1 σ1 H1 e hφl hn x1 L1 A1 => q ?_)
  subst e
  have hP1 : Pooled (wo φ l) J1 p pl ns := (x1.trans L1.ext).pool _ _ _ hP
  refine st_asg A1 (ev_ixLP (P := fun d => ∃ s : Int, d = .int s ∧ (s = 1 ∨ s = 70)) (ev_lst (ea_cons ev_int (ea_cons ev_int (ea_cons ev_int (ea_cons ev_int ea_nil))))) (ev_draw hP1 rfl ev_int (by decide) (by decide)) ?_) fun d σ2 H2 hd A2 => q ?_
  · rintro x i rfl ⟨h0, h4⟩
    have : i = 0 ∨ i = 1 ∨ i = 2 ∨ i = 3 := by omega
    rcases this with rfl | rfl | rfl | rfl <;> exact ⟨_, _, rfl, rfl, _, rfl, by first | exact .inl rfl | exact .inr rfl⟩
  obtain ⟨sc, rfl, hsc⟩ := hd
  refine st_for A2 (it_range1 (ea_cons (ev_var rfl) ea_nil) (by omega)) (fun i ρ' J' => ∃ (g : List (List Int)) (o5 o6 : Option D), g.length = i ∧ (∀ r ∈ g, r.length = w ∧ ∀ c ∈ r, cellOk c) ∧ ρ' = [some (.raw (.ref p)), some (.int w), some (.int h), some (.raw (.ref l)), some (.int sc), o5, o6] ∧ Liv K (wo φ l) (JB p pl ns H) J' l (g.map fun r => .tup (r.map D.int))) ⟨[], none, none, rfl, fun _ h => by simp at h, rfl, L1⟩ ?_ ?_
  · rintro H3 i x ρ' J' b3 j3 hx ⟨g, o5, o6, hg, hgo, rfl, L3⟩ σ' H' A3
    have hi : i < h := by
      have := (List.getElem?_eq_some_iff.mp hx).1
      rw [rangeD_length] at this
      omega
    obtain ⟨J2, L4, A4, x4⟩ := L3.push A3
    have hP4 : Pooled (wo φ l) J2 p pl ns := ((x1.trans x4).trans L4.ext).pool _ _ _ hP
    replace A4 : At K (wo φ l) J2 [some (.raw (.ref p)), some (.int w), some (.int h), some (.raw (.ref l)), some (.int sc), some x, o6] σ' H' := A4
    refine st_appL A4 L4 rfl (ev_tupLP ((ev_lcE (k := 6) (pe := fun _ y => ∃ c : Int, y = .int c ∧ cellOk c) (it_range1 (ea_cons (ev_var rfl) ea_nil) (by omega)) (fun ds e => by rw [e, rangeD_length]; omega) fun ds e d hd φ' J' hx => ?_).imp fun z ⟨ds, ys, e, e2, c⟩ => ⟨ys, e2, (⟨ds, e, c⟩ : ∃ ds, ds = rangeD 0 (w : Int).toNat ∧ Comp (fun _ b => b = true) (fun _ y => ∃ c : Int, y = .int c ∧ cellOk c) ds ys)⟩)) (by rw [List.length_map]; omega) fun d J5 H5 hd L5 A5 => ?_
    · have hPx := hx.pool _ _ _ hP4
      exact (ei_mul (ei_sub (ei_mul (ev_draw hPx rfl ev_int (by decide) (by decide)) (ev_draw hPx rfl ev_int (by decide) (by decide)) (fun i j hi hj => .inl (by omega))) (ev_i ev_int)) (ev_i (ev_var rfl)) (fun i j _ hj => .inr (by subst hj; omega))).imp fun y ⟨c, e, i, j, ⟨i1, j1, ⟨i2, j2, hi2, hj2, e2⟩, e3, e4⟩, e5, e6⟩ => ⟨c, e, by subst e6 e5 e4 e3 e2; exact cell_b hi2 hj2 hsc⟩
    · obtain ⟨ys, rfl, ds, rfl, hc⟩ := hd
      obtain ⟨hyl, hya⟩ := hc.all
      obtain ⟨row, rfl⟩ := all_ints (ys := ys) fun y hy => by
        obtain ⟨d, _, c, e, _⟩ := hya y hy
        exact ⟨c, e⟩
      rw [List.length_map, rangeD_length] at hyl
      obtain ⟨J6, L6, A6⟩ := L5.pop (Mo.liv L1 j3) L1.st L1.pl A5
      refine ⟨_, J6, ⟨g ++ [row], some x, o6, by rw [List.length_append, hg]; rfl, fun r hr => ?_, rfl, by rw [List.map_append]; exact L6⟩, A6⟩
      rcases List.mem_append.mp hr with hr | hr
      · exact hgo r hr
      · rw [List.mem_singleton.mp hr]
        refine ⟨by rw [hyl]; rfl, fun c hc => ?_⟩
        obtain ⟨d, _, c', e, h⟩ := hya (.int c) (List.mem_map.mpr ⟨c, hc, rfl⟩)
        cases e
        exact h
  · rintro H3 ρ' J' σ' H' b3 j3 ⟨g, o5, o6, hg, hgo, rfl, L3⟩ A3
    obtain ⟨J2, L4, A4, x4⟩ := L3.push A3
    rw [rangeD_length] at hg
    have A5 := L4.freeze hφl A4 (k := 3) rfl
    replace A5 : At K φ (fun H' => JB p pl ns H H' ∧ But (wo φ l) H3 H') [some (.raw (.ref p)), some (.int w), some (.int h), some (.lst (g.map fun r => .tup (r.map D.int))), some (.int sc), o5, o6] σ' H' := A5
    refine st_ret A5 (ev_tupL (ev_var rfl)) fun v d H6 e A6 r => hrt v d H6 ⟨w, h, g, rfl, e, ⟨by rw [hg]; rfl, fun r hr => (hgo r hr).1, w1, h1, w2, h2⟩, fun r hr => (hgo r hr).2⟩ A6.j.1 r
end

section
variable {P : Program} {w : World} {K : PySem.W.Frag} {mg : Str → Option Value} {base : Heap}
def PreSpot : List D → Prop := fun ds => ∃ w h g, Grid w h g ∧ ds = [gridD g]
def RSpot : List D → D → Prop := fun ds r => ∀ w h g, Grid w h g → ds = [gridD g] → ∃ x y : Int, inPlace w h x y = true ∧ r = .tup [.int x, .int y]
theorem sc__law_spot : FnScope ["pool", "terrain"] ["pool", "terrain"] (defScope s__law_spot) := ⟨rfl, rfl, rfl, by decide +kernel, rfl, by decide +kernel, by decide +kernel⟩
theorem gridD_inj {g g' : List (List Int)} (h : gridD g = gridD g') : g = g' := by
  unfold gridD at h
  injection h with h
  have inj : ∀ a b : List Int, a.map D.int = b.map D.int → a = b := fun a b e => List.map_inj_right (fun x y z => by injection z) |>.mp e
  exact (List.map_inj_right (fun a b z => by injection z with z; exact inj a b z)).mp h
theorem ok__law_spot (B : Bi mg) {f g : Addr} {fd gd : FuncData} (F : Fun K "_law_spot" "_law_spot" s__law_spot f fd) (L__law_draw : Lk K mg "_law_draw" g gd ["pool", "many"]) (G__law_draw : FnOk P w K mg base CX0 2 g gd ["pool", "many"] spDraw) : FnOk P w K mg base CX0 3 f fd ["pool", "terrain"] (SpP K 1 PreSpot RSpot) := by
  have S := sc__law_spot
  refine fn_okP F S rfl 0 rfl fun cdv A outer s H E hr => ⟨_, ((pss_one (ps_ret (pe_tup (pa_cons (pe_call G__law_draw (hr.mono (by first | exact Nat.le_refl _ | decide | omega)) (by rfl) L__law_draw.m L__law_draw.kp L__law_draw.bi .nil pass0 (pa_cons (pv 0) (pa_cons (pe_callB c_len (by rfl) B.len (by decide +kernel) (pa_cons (pe_ix ix_tup (pv 1) pe_int (fun _ _ => rfl)) pa_nil)) pa_nil))) (pa_cons (pe_call G__law_draw (hr.mono (by first | exact Nat.le_refl _ | decide | omega)) (by rfl) L__law_draw.m L__law_draw.kp L__law_draw.bi .nil pass0 (pa_cons (pv 0) (pa_cons (pe_callB c_len (by rfl) B.len (by decide +kernel) (pa_cons (pv 1) pa_nil)) pa_nil))) pa_nil)))))), fun φ p pl ns ds H D0 σ hl pre np ne hrt A => ?_⟩
  obtain ⟨w, h, g, G, rfl⟩ := pre
  replace A : At K φ (JB p pl ns H) [some (.raw (.ref p)), some (gridD g)] σ H := A
  have hP : Pooled φ (JB p pl ns H) p pl ns := pooledB np ne
  obtain ⟨r0, e0, hr0⟩ := G.atH
  have := G.w1
  have := G.w2
  have := G.h1
  have := G.h2
  have lenH : ((g.map fun r => D.tup (r.map D.int)).length : Int) = h := by rw [List.length_map, G.hl]
  have lenW : ((r0.map D.int).length : Int) = w := by rw [List.length_map, hr0]
  refine st_ret A (P := fun d => ∃ x y : Int, inPlace w h x y = true ∧ d = .tup [.int x, .int y]) (fun σ H A Q k => ev_tupP (ea_consP (ev_draw hP rfl (ev_lenT (ev_ixT (ev_var rfl) ev_int e0)) (by omega) (by omega)) (ea_consP (ev_draw hP rfl (ev_lenT (ev_var rfl)) (by omega) (by omega)) ea_nil)) ?_ σ H A Q fun v d H' b A' pd r => k v d H' b A' ?_ r) fun v d H' hd A' r => hrt v d H' (fun w' h' g' G' e => ?_) A'.j r
  · rintro r ⟨d, r', rfl, _, d2, r2, rfl, _, rfl⟩
    exact Nat.le_of_ble_eq_true rfl
  · obtain ⟨r, rfl, d, r', rfl, ⟨x, rfl, x0, x1⟩, d2, r2, rfl, ⟨y, rfl, y0, y1⟩, rfl⟩ := pd
    refine ⟨x, y, ?_, rfl⟩
    unfold inPlace
    rw [decide_eq_true x0, decide_eq_true (show x < w by omega), decide_eq_true y0, decide_eq_true (show y < h by omega)]
    rfl
  · have eg : g = g' := by
      have := (List.cons.inj e).1
      exact gridD_inj this
    subst eg
    have ew : w = w' := by
      obtain ⟨r, rest, rfl, hr⟩ := G.row0
      exact hr.symm.trans (G'.wl r List.mem_cons_self)
    have eh : h = h' := G.hl.symm.trans G'.hl
    subst ew eh
    exact hd
end

structure Cs (mg : Str → Option Value) : Prop where
  ROOM : ∃ u, mg "ROOM" = some u ∧ RelV (.int (16777216)) u
  CONSTANT : ∃ u, mg "CONSTANT" = some u ∧ RelV (.int (2755)) u
  EDGE : ∃ u, mg "EDGE" = some u ∧ RelV (.int (600)) u
  CELL : ∃ u, mg "CELL" = some u ∧ RelV (.int (100)) u

-- import HandS.WideBits
/-! ### logs and levels: the walk -/
section
theorem bits_nat {n : Nat} (h : 0 < n) : Builtin.Int.intBits (n : Int) = Nat.log2 n + 1 := by
  unfold Builtin.Int.intBits
  rw [if_neg (by simp; omega), Int.natAbs_natCast]
theorem pow_natAbs (n : Nat) : ((2 : Int) ^ n).natAbs = 2 ^ n := by
  rw [← int_two_pow, Int.natAbs_natCast]
theorem pw_le {p q : Int} (hq : 0 < q) (h1 : -q ≤ 3 * p) (h2 : 3 * p ≤ q) {bits : Nat} (hb : 1 ≤ bits) : ∀ k, (∀ i, i < k → endA (pwA p q bits i) = false) → (pwA p q bits k).natAbs ≤ 2 ^ bits ∧ (totA p q bits k).natAbs + 2 * (pwA p q bits k).natAbs ≤ 2 * 2 ^ bits
  | 0, _ => by
    have := pw0_bd hq h1 h2 hb
    refine ⟨this, ?_⟩
    show (0 : Int).natAbs + _ ≤ _
    rw [Int.natAbs_zero]
    omega
  | k + 1, hk => by
    obtain ⟨i1, i2⟩ := pw_le hq h1 h2 hb k fun i hi => hk i (by omega)
    have hh := pw_half hq h1 h2 bits k (hk k (by omega))
    refine ⟨by omega, ?_⟩
    show (totA p q bits k + pwA p q bits k / ((2 * k + 1 : Nat) : Int)).natAbs + _ ≤ _
    have d : (pwA p q bits k / ((2 * k + 1 : Nat) : Int)).natAbs ≤ (pwA p q bits k).natAbs := Int.natAbs_ediv_le_natAbs _ _
    have := Int.natAbs_add_le (totA p q bits k) (pwA p q bits k / ((2 * k + 1 : Nat) : Int))
    omega
theorem art_abs {p q : Int} (hq : 0 < q) (h1 : -q ≤ 3 * p) (h2 : 3 * p ≤ q) {bits : Nat} (hb : 1 ≤ bits) {T : Int} (h : ArtOk p q bits T) : T.natAbs ≤ 2 * 2 ^ bits := by
  obtain ⟨k, _, hk, rfl⟩ := h
  have := (pw_le hq h1 h2 hb k hk).2
  omega
theorem log_abs {p q bits : Nat} (hp : 0 < p) (hq : 0 < q) (p9 : p < 2 ^ 99) (q9 : q < 2 ^ 99) (hb : 1 ≤ bits) {T : Int} (h : LogOk p q bits T) : T.natAbs ≤ 1024 * 2 ^ bits := by
  obtain ⟨T1, T3, h1, h3, rfl⟩ := h
  obtain ⟨s1, s2, s3⟩ := art_sgn hp hq
  have a1 := art_abs s3 s1 s2 hb h1
  have a3 := art_abs (p := 1) (q := 3) (by decide) (by decide) (by decide) hb h3
  have t := turns_bd hp hq (Nat.le_of_lt p9) (Nat.le_of_lt q9)
  have e1 := Int.natAbs_add_le (2 * T1) (2 * turnsN p q * T3)
  have e2 : (2 * T1).natAbs = 2 * T1.natAbs := by rw [Int.natAbs_mul]; rfl
  have e3 : (2 * turnsN p q * T3).natAbs = 2 * (turnsN p q).natAbs * T3.natAbs := by rw [Int.natAbs_mul, Int.natAbs_mul]; rfl
  have e4 : 2 * (turnsN p q).natAbs * T3.natAbs ≤ 198 * (2 * 2 ^ bits) := Nat.mul_le_mul (by omega) a3
  omega
theorem ab_lt {p q : Nat} (hp : 0 < p) (hq : 0 < q) (p9 : p < 2 ^ 99) (q9 : q < 2 ^ 99) : aboveN p q < 2 ^ 100 ∧ belowN p q < 2 ^ 100 := by
  obtain ⟨a1, a2, a3, a4⟩ := ab_bd hp hq
  have e : 2 * 2 ^ 99 = 2 ^ 100 := by decide
  by_cases ht : 0 ≤ turnsN p q
  · have ea : aboveN p q = p := by
      unfold aboveN
      rw [show (max 0 (-turnsN p q)).toNat = 0 by omega, Nat.pow_zero, Nat.mul_one]
    omega
  · have eb : belowN p q = q := by
      unfold belowN
      rw [show (max 0 (turnsN p q)).toNat = 0 by omega, Nat.pow_zero, Nat.mul_one]
    omega
theorem ip_mul {X : Cx} : PIp X .Mult (rI CMul fun i j => .int (i * j)) := fun pins s σ H x y v u Q I r1 r2 h => iop_mul pins s σ H x y v u Q I r1 r2 h
theorem st_augM {K : PySem.W.Frag} {φ : Addr → Prop} {J : Hp → Prop} {ρ : List (Option D)} {σ : L2.St} {H : Hp} {te : TE} {D0 : Ends} {i j : Int} {k : Nat} (A : At K φ J ρ σ H) (hx : ρ[k]? = some (some (.int i))) (h : EvD K φ J te ρ (.int j)) (hc : CMul i j) (kk : ∀ σ' H', At K φ J (ρ.set k (some (.int (i * j)))) σ' H' → D0.nx σ' H') : tAug k te (rI CMul fun i j => .int (i * j)) D0 σ H := by
  obtain ⟨v, e, r⟩ := A.sr.2 k _ hx
  cases (show v = _ from r)
  refine ⟨_, e, h σ H A _ fun w d H' b A' pd r' => ?_⟩
  subst pd
  exact ⟨i, j, rfl, r', hc, kk _ H' (A'.set k rfl)⟩
section
variable {K : PySem.W.Frag} {φ : Addr → Prop} {J : Hp → Prop} {ρ : List (Option D)} {ta tb te : TE} {i j : Int} {k : Nat} {p q : Int → Prop}
theorem ev_shlN (ha : EvD K φ J ta ρ (.int i)) (hb : EvD K φ J tb ρ (.int (k : Int))) (hc : CShl i (k : Int)) : EvD K φ J (tOp (fun x y H Q => ∃ (i : Int) (k : Nat), x = .int i ∧ y = .int (k : Int) ∧ CShl i (k : Int) ∧ Q (.int (i * 2 ^ k)) H) ta tb) ρ (.int (i * 2 ^ k)) := ev_opD ha hb fun H v w _ r1 r2 Q q => ⟨i, k, r1, r2, hc, q _ _ H (Same.refl H) rfl rfl⟩
theorem ev_shrN (ha : EvD K φ J ta ρ (.int i)) (hb : EvD K φ J tb ρ (.int (k : Int))) : EvD K φ J (tOp (fun x y H Q => ∃ (i : Int) (k : Nat), x = .int i ∧ y = .int (k : Int) ∧ Q (.int (i / 2 ^ k)) H) ta tb) ρ (.int (i / 2 ^ k)) := ev_opD ha hb fun H v w _ r1 r2 Q q => ⟨i, k, r1, r2, q _ _ H (Same.refl H) rfl rfl⟩
theorem ei_shlN (ha : EvI K φ J ta ρ p) (hb : EvD K φ J tb ρ (.int (k : Int))) (hc : ∀ i, p i → CShl i (k : Int)) : EvI K φ J (tOp (fun x y H Q => ∃ (i : Int) (k : Nat), x = .int i ∧ y = .int (k : Int) ∧ CShl i (k : Int) ∧ Q (.int (i * 2 ^ k)) H) ta tb) ρ (fun m => ∃ i, p i ∧ m = i * 2 ^ k) := ev_op ha hb fun x y ⟨i, e1, pi⟩ e2 => by
  subst e1 e2
  exact fun H v w _ r1 r2 Q q => ⟨i, k, r1, r2, hc i pi, q _ _ H (Same.refl H) ⟨_, rfl, i, pi, rfl⟩ rfl⟩
theorem ei_fdivW (ha : EvI K φ J ta ρ p) (hb : EvI K φ J tb ρ q) (hc : ∀ i j, p i → q j → CDivW i j) : EvI K φ J (tOp (rI CDivW fun i j => .int (i / j)) ta tb) ρ (fun m => ∃ i j, p i ∧ q j ∧ m = i / j) := ev_op ha hb fun x y ⟨i, e1, pi⟩ ⟨j, e2, qj⟩ => by
  subst e1 e2
  exact fun H v w _ r1 r2 Q k => ⟨i, j, r1, r2, hc i j pi qj, k _ _ H (Same.refl H) ⟨_, rfl, i, j, pi, qj, rfl⟩ rfl⟩
theorem ev_bits (ha : EvD K φ J te ρ (.int i)) : EvD K φ J (tBits te) ρ (.int (Builtin.Int.intBits i : Nat)) := fun σ H A Q k => ha σ H A _ fun v d H1 b1 A1 e r => by
  subst e
  exact ⟨i, r, k _ _ H1 b1 A1 rfl rfl⟩
theorem ev_notInT {ns : List Int} (ha : EvD K φ J te ρ (.int i)) (hb : EvD K φ J tb ρ (.tup (ns.map D.int))) : EvD K φ J (tOp (rIn K true) te tb) ρ (.bl (!decide (i ∈ ns))) := ev_opD ha hb fun H v w _ r1 r2 Q q => by
  cases (show v = _ from r1)
  obtain ⟨a, vs, rfl, p, rs⟩ := rep_tup r2
  rw [rs.ints] at p
  exact ⟨a, _, rfl, .inr p.sq, rfl, flat_ints, q _ _ H (Same.refl H) rfl (by rw [if_pos rfl, inV_ints]; rfl)⟩
theorem ev_ifE {tt : TT} {b : Bool} {d : D} (h : EvX K φ J tt ρ b) (ha : b = true → EvD K φ J ta ρ d) (hb : b = false → EvD K φ J tb ρ d) : EvD K φ J (tIf tt ta tb) ρ d := fun σ H A Q k => h σ H A _ fun x H1 b1 A1 e => by
  subst e
  cases x with
  | true => exact ha rfl σ H1 A1 _ fun v d H2 b2 A2 e r => k v d H2 (b1.trans b2) A2 e r
  | false => exact hb rfl σ H1 A1 _ fun v d H2 b2 A2 e r => k v d H2 (b1.trans b2) A2 e r
end
section
variable {P : Program} {w : World} {K : PySem.W.Frag} {mg : Str → Option Value} {base : Heap}
def PArt : List D → Prop := fun ds => ∃ (p q : Int) (bits : Nat), ds = [.int p, .int q, .int (bits : Int)] ∧ 0 < q ∧ -q ≤ 3 * p ∧ 3 * p ≤ q ∧ q.natAbs < 2 ^ 110 ∧ 1 ≤ bits ∧ bits ≤ 400
def RArt : List D → D → Prop := fun ds d => ∃ (p q : Int) (bits : Nat) (T : Int), ds = [.int p, .int q, .int (bits : Int)] ∧ ArtOk p q bits T ∧ d = .int T
theorem sc_artanh : FnScope ["p", "q", "bits", "power", "total", "count"] ["p", "q", "bits"] (defScope s_artanh) := ⟨rfl, rfl, rfl, by decide +kernel, rfl, by decide +kernel, by decide +kernel⟩
theorem ok_artanh (B : Bi mg) {f : Addr} {fd : FuncData} (F : Fun K "artanh" "artanh" s_artanh f fd) : FnOk P w K mg base CX0 1 f fd ["p", "q", "bits"] (SpR K 3 PArt RArt) := by
  have S := sc_artanh
  refine fn_okR F S rfl 3 rfl fun cdv A outer s H E hr => ⟨_, ((pss_cons (ps_set (i := 3) S.nd rfl (by first | exact Or.inl rfl | exact Or.inr rfl) (pe_op op_fdivW (pe_op op_shlN (pv 0) (pv 2)) (pv 1)))
 (pss_cons (ps_set (i := 4) S.nd rfl (by first | exact Or.inl rfl | exact Or.inr rfl) pe_int)
 (pss_cons (ps_set (i := 5) S.nd rfl (by first | exact Or.inl rfl | exact Or.inr rfl) pe_int)
 (pss_cons (ps_while PassesOwn.never (pt_cmpR op_notIn_seq (pv 3) (pe_tup (pa_cons pe_int (pa_cons (pe_un un_neg pe_int) pa_nil))) (by rfl))
 (pss_cons (ps_aug (i := 4) S.nd rfl (by first | exact Or.inl rfl | exact Or.inr rfl) (pe_op op_fdiv (pv 3) (pv 5)) ip_add)
 (pss_cons (ps_set (i := 3) S.nd rfl (by first | exact Or.inl rfl | exact Or.inr rfl) (pe_op op_fdivW (pe_op op_mulW (pe_op op_mulW (pv 3) (pv 0)) (pv 0)) (pe_op op_mulW (pv 1) (pv 1))))
 (pss_one (ps_aug (i := 5) S.nd rfl (by first | exact Or.inl rfl | exact Or.inr rfl) pe_int ip_add)))))
 (pss_one (ps_ret (pv 4)))))))), fun φ ds H D0 σ hl hP hrt A => ?_⟩
  obtain ⟨p, q', bits, rfl, hq, h1, h2, q9, hb, b4⟩ := hP
  replace A : At K φ (Same H) [some (.int p), some (.int q'), some (.int (bits : Int)), none, none, none] σ H := A
  have p9 : p.natAbs < 2 ^ 110 := by omega
  have hM : (2 : Nat) ^ bits ≤ 2 ^ 400 := Nat.pow_le_pow_right (by decide) b4
  have e401 : 2 * 2 ^ 400 = 2 ^ 401 := by decide +kernel
  refine q (st_set (d := .int (pwA p q' bits 0)) A (ev_fdivW (ev_shlN (ev_var (i := 0) rfl) (ev_var (i := 2) rfl) (shl_ok p9 (by omega))) (ev_var (i := 1) rfl) (wide_div hq q9 (by decide) (by decide))) fun σ1 H1 A1 => ?_)
  replace A1 : At K φ (Same H) [some (.int p), some (.int q'), some (.int (bits : Int)), some (.int (pwA p q' bits 0)), none, none] σ1 H1 := A1
  dsimp only
  refine q (st_set (d := .int 0) A1 ev_int fun σ2 H2 A2 => ?_)
  replace A2 : At K φ (Same H) [some (.int p), some (.int q'), some (.int (bits : Int)), some (.int (pwA p q' bits 0)), some (.int 0), none] σ2 H2 := A2
  dsimp only
  refine q (st_set (d := .int 1) A2 ev_int fun σ3 H3 A3 => ?_)
  replace A3 : At K φ (Same H) [some (.int p), some (.int q'), some (.int (bits : Int)), some (.int (pwA p q' bits 0)), some (.int 0), some (.int 1)] σ3 H3 := A3
  dsimp only
  refine q (st_while A3 (fun m ρ' J' => ∃ k : Nat, m = (pwA p q' bits k).natAbs ∧ (∀ i, i < k → endA (pwA p q' bits i) = false) ∧ ρ' = [some (.int p), some (.int q'), some (.int (bits : Int)), some (.int (pwA p q' bits k)), some (.int (totA p q' bits k)), some (.int ((2 * k + 1 : Nat) : Int))] ∧ J' = Same H) (pwA p q' bits 0).natAbs ⟨0, rfl, fun i hi => absurd hi (Nat.not_lt_zero i), rfl, rfl⟩ ?_)
  rintro m ρ' J' ⟨k, rfl, hk, rfl, rfl⟩
  have hkb := k_bd hq h1 h2 hb hk
  obtain ⟨pb, _⟩ := pw_le hq h1 h2 hb k hk
  refine ⟨fun x => x = !decide (pwA p q' bits k ∈ [(0 : Int), -1]), et_test (ev_notInT (ev_var (i := 3) rfl) (ev_tup (ea_cons ev_int (ea_cons (ev_neg ev_int) ea_nil)))), fun hb' σ' H' A' Nx hNx => ?_, fun hb' σ' H' A' => ?_⟩
  · have he : endA (pwA p q' bits k) = false := by
      have hb' : true = !decide (pwA p q' bits k ∈ [(0 : Int), -1]) := hb'
      rw [eq_comm, Bool.not_eq_true', decide_eq_false_iff_not] at hb'
      unfold endA
      rw [Bool.or_eq_false_iff]
      exact ⟨decide_eq_false fun z => hb' (by rw [z]; simp), decide_eq_false fun z => hb' (by rw [z]; simp)⟩
    have hh := pw_half hq h1 h2 bits k he
    have hpos : 1 ≤ (pwA p q' bits k).natAbs := by
      unfold endA at he
      rw [Bool.or_eq_false_iff, decide_eq_false_iff_not] at he
      omega
    refine q (st_aug (f := fun a b => a + b) A' rfl (ev_fdiv (ev_var (i := 3) rfl) (ev_var (i := 5) rfl) ⟨by omega, by omega⟩) fun σ4 H4 A4 => ?_)
    replace A4 : At K φ (fun H_1 => Same H H_1 ∧ But φ H3 H_1) [some (.int p), some (.int q'), some (.int (bits : Int)), some (.int (pwA p q' bits k)), some (.int (totA p q' bits (k + 1))), some (.int ((2 * k + 1 : Nat) : Int))] σ4 H4 := A4
    dsimp only
    refine q (st_set (d := .int (pwA p q' bits (k + 1))) A4 (ev_fdivW (ev_mulW (ev_mulW (ev_var (i := 3) rfl) (ev_var (i := 0) rfl) (wide_mul (a := 401) (b := 110) (by omega) p9 (by decide) (by decide) (by decide))) (ev_var (i := 0) rfl) (wide_mul (a := 511) (b := 110) (wide_lt (a := 401) (b := 110) (by omega) p9) p9 (by decide) (by decide) (by decide))) (ev_mulW (ev_var (i := 1) rfl) (ev_var (i := 1) rfl) (wide_mul q9 q9 (by decide) (by decide) (by decide))) (wide_div (b := 220) (Int.mul_pos hq hq) (wide_lt (a := 110) (b := 110) q9 q9) (by decide) (by decide))) fun σ5 H5 A5 => ?_)
    replace A5 : At K φ (fun H_1 => Same H H_1 ∧ But φ H3 H_1) [some (.int p), some (.int q'), some (.int (bits : Int)), some (.int (pwA p q' bits (k + 1))), some (.int (totA p q' bits (k + 1))), some (.int ((2 * k + 1 : Nat) : Int))] σ5 H5 := A5
    dsimp only
    refine st_aug (f := fun a b => a + b) A5 rfl ev_int fun σ6 H6 A6 => ?_
    refine hNx _ _ _ (by omega) ⟨_, _, ⟨k + 1, rfl, fun i hi => ?_, rfl, rfl⟩, ?_⟩
    · by_cases z : i = k
      · rw [z]; exact he
      · exact hk i (by omega)
    · rw [show ((2 * (k + 1) + 1 : Nat) : Int) = ((2 * k + 1 : Nat) : Int) + 2 by omega]
      exact A6
  · have he : endA (pwA p q' bits k) = true := by
      have hb' : false = !decide (pwA p q' bits k ∈ [(0 : Int), -1]) := hb'
      rw [eq_comm, Bool.not_eq_false', decide_eq_true_iff] at hb'
      unfold endA
      rw [Bool.or_eq_true, decide_eq_true_iff, decide_eq_true_iff]
      rcases List.mem_cons.mp hb' with z | z
      · exact .inl z
      · exact .inr (List.mem_singleton.mp z)
    exact st_ret A' (ev_var (i := 4) rfl) fun v d H4 e A4 r => hrt _ v H4 ⟨p, q', bits, _, rfl, ⟨k, he, hk, rfl⟩, rfl⟩ A4.j.1 (by rw [e] at r; exact r)
def PLog : List D → Prop := fun ds => ∃ p q bits : Nat, ds = [.int (p : Int), .int (q : Int), .int (bits : Int)] ∧ 0 < p ∧ 0 < q ∧ p < 2 ^ 99 ∧ q < 2 ^ 99 ∧ 1 ≤ bits ∧ bits ≤ 400
def RLog : List D → D → Prop := fun ds d => ∃ (p q bits : Nat) (T : Int), ds = [.int (p : Int), .int (q : Int), .int (bits : Int)] ∧ LogOk p q bits T ∧ d = .int T
theorem sc_log_of : FnScope ["p", "q", "bits", "turns", "above", "below"] ["p", "q", "bits"] (defScope s_log_of) := ⟨rfl, rfl, rfl, by decide +kernel, rfl, by decide +kernel, by decide +kernel⟩
theorem ok_log_of (B : Bi mg) {f g : Addr} {fd gd : FuncData} (F : Fun K "log_of" "log_of" s_log_of f fd) (L_artanh : Lk K mg "artanh" g gd ["p", "q", "bits"]) (G_artanh : FnOk P w K mg base CX0 1 g gd ["p", "q", "bits"] (SpR K 3 PArt RArt)) : FnOk P w K mg base CX0 2 f fd ["p", "q", "bits"] (SpR K 3 PLog RLog) := by
  have S := sc_log_of
  refine fn_okR F S rfl 3 rfl fun cdv A outer s H E hr => ⟨_, ((pss_cons (ps_set (i := 3) S.nd rfl (by first | exact Or.inl rfl | exact Or.inr rfl) (pe_op op_sub (pe_bits (pv 0)) (pe_bits (pv 1))))
 (pss_cons (ps_set (i := 4) S.nd rfl (by first | exact Or.inl rfl | exact Or.inr rfl) (pe_op op_shlN (pv 0) (pe_callB (c_max2 rfl) (by rfl) B.max (by decide +kernel) (pa_cons pe_int (pa_cons (pe_un un_neg (pv 3)) pa_nil)))))
 (pss_cons (ps_set (i := 5) S.nd rfl (by first | exact Or.inl rfl | exact Or.inr rfl) (pe_op op_shlN (pv 1) (pe_callB (c_max2 rfl) (by rfl) B.max (by decide +kernel) (pa_cons pe_int (pa_cons (pv 3) pa_nil)))))
 (pss_one (ps_ret (pe_op op_add (pe_op op_mul pe_int (pe_call G_artanh (hr.mono (by first | exact Nat.le_refl _ | decide | omega)) (by rfl) L_artanh.m L_artanh.kp L_artanh.bi .nil pass0 (pa_cons (pe_op op_sub (pv 4) (pv 5)) (pa_cons (pe_op op_add (pv 4) (pv 5)) (pa_cons (pv 2) pa_nil))))) (pe_op op_mul (pe_op op_mul pe_int (pv 3)) (pe_call G_artanh (hr.mono (by first | exact Nat.le_refl _ | decide | omega)) (by rfl) L_artanh.m L_artanh.kp L_artanh.bi .nil pass0 (pa_cons pe_int (pa_cons pe_int (pa_cons (pv 2) pa_nil)))))))))))), fun φ ds H D0 σ hl hP hrt A => ?_⟩
  obtain ⟨p, q', bits, rfl, hp, hq, p9, q9, hb, b4⟩ := hP
  replace A : At K φ (Same H) [some (.int (p : Int)), some (.int (q' : Int)), some (.int (bits : Int)), none, none, none] σ H := A
  obtain ⟨s1, s2, s3⟩ := art_sgn hp hq
  obtain ⟨a9, b9⟩ := ab_lt hp hq p9 q9
  have tb := turns_bd hp hq (Nat.le_of_lt p9) (Nat.le_of_lt q9)
  refine q (st_set (d := .int (turnsN p q')) A ((ev_sub (ev_bits (ev_var (i := 0) rfl)) (ev_bits (ev_var (i := 1) rfl))).is (by rw [bits_nat hp, bits_nat hq]; rfl)) fun σ1 H1 A1 => ?_)
  replace A1 : At K φ (Same H) [some (.int (p : Int)), some (.int (q' : Int)), some (.int (bits : Int)), some (.int (turnsN p q')), none, none] σ1 H1 := A1
  dsimp only
  refine q (st_set (d := .int (aboveN p q' : Nat)) A1 ((ev_shlN (k := (max 0 (-turnsN p q')).toNat) (ev_var (i := 0) rfl) ((ev_max2 ev_int (ev_neg (ev_var (i := 3) rfl))).is (by rw [Int.toNat_of_nonneg (by omega)])) (shl_ok (n := 99) (by omega) (by omega))).is (by unfold aboveN; rw [Int.natCast_mul, int_two_pow])) fun σ2 H2 A2 => ?_)
  replace A2 : At K φ (Same H) [some (.int (p : Int)), some (.int (q' : Int)), some (.int (bits : Int)), some (.int (turnsN p q')), some (.int (aboveN p q' : Nat)), none] σ2 H2 := A2
  dsimp only
  refine q (st_set (d := .int (belowN p q' : Nat)) A2 ((ev_shlN (k := (max 0 (turnsN p q')).toNat) (ev_var (i := 1) rfl) ((ev_max2 ev_int (ev_var (i := 3) rfl)).is (by rw [Int.toNat_of_nonneg (by omega)])) (shl_ok (n := 99) (by omega) (by omega))).is (by unfold belowN; rw [Int.natCast_mul, int_two_pow])) fun σ3 H3 A3 => ?_)
  replace A3 : At K φ (Same H) [some (.int (p : Int)), some (.int (q' : Int)), some (.int (bits : Int)), some (.int (turnsN p q')), some (.int (aboveN p q' : Nat)), some (.int (belowN p q' : Nat))] σ3 H3 := A3
  dsimp only
  have e110 : 2 ^ 100 + 2 ^ 100 < 2 ^ 110 := by decide
  refine st_ret A3 (ei_add (ei_mul (p := fun i => i = 2) (q := fun T => ArtOk ((aboveN p q' : Int) - (belowN p q' : Int)) ((aboveN p q' : Int) + (belowN p q' : Int)) bits T) (ev_i ev_int) ((ev_callR (ea_cons (ev_sub (ev_var (i := 4) rfl) (ev_var (i := 5) rfl)) (ea_cons (ev_add (ev_var (i := 4) rfl) (ev_var (i := 5) rfl)) (ea_cons (ev_var (i := 2) rfl) ea_nil))) ⟨_, _, bits, rfl, s3, s1, s2, by omega, hb, b4⟩).imp ?_) ?_) (ei_mul (p := fun i => i = 2 * turnsN p q') (q := fun T => ArtOk 1 3 bits T) (ev_i (ev_mul ev_int (ev_var (i := 3) rfl) (.inl (by decide)))) ((ev_callR (ea_cons ev_int (ea_cons ev_int (ea_cons (ev_var (i := 2) rfl) ea_nil))) ⟨1, 3, bits, rfl, by decide, by decide, by decide, by decide, hb, b4⟩).imp ?_) ?_)) fun v d H4 e A4 r => ?_
  · rintro d ⟨_, _, b', T, e, h, rfl⟩
    simp only [List.cons.injEq, D.int.injEq, and_true] at e
    obtain ⟨rfl, rfl, e3⟩ := e
    have e3 : bits = b' := by omega
    subst e3
    exact ⟨T, rfl, h⟩
  · rintro i j rfl _
    exact .inl (by decide)
  · rintro d ⟨_, _, b', T, e, h, rfl⟩
    simp only [List.cons.injEq, D.int.injEq, and_true] at e
    obtain ⟨rfl, rfl, e3⟩ := e
    have e3 : bits = b' := by omega
    subst e3
    exact ⟨T, rfl, h⟩
  · rintro i j rfl _
    exact .inl (by omega)
  · obtain ⟨x, rfl, _, _, ⟨_, T1, rfl, h1, rfl⟩, ⟨_, T3, rfl, h3, rfl⟩, rfl⟩ := e
    exact hrt _ v H4 ⟨p, q', bits, _, rfl, ⟨T1, T3, h1, h3, rfl⟩, rfl⟩ A4.j r
def PTen : List D → Prop := fun ds => ∃ bits : Nat, ds = [.int (bits : Int)] ∧ 1 ≤ bits ∧ bits ≤ 400
def RTen : List D → D → Prop := fun ds d => ∃ (bits : Nat) (G : Int), ds = [.int (bits : Int)] ∧ LogOk 10 1 bits G ∧ d = .int G
theorem sc_log_ten : FnScope ["bits"] ["bits"] (defScope s_log_ten) := ⟨rfl, rfl, rfl, by decide +kernel, rfl, by decide +kernel, by decide +kernel⟩
theorem ok_log_ten (B : Bi mg) {f g : Addr} {fd gd : FuncData} (F : Fun K "log_ten" "log_ten" s_log_ten f fd) (L_log_of : Lk K mg "log_of" g gd ["p", "q", "bits"]) (G_log_of : FnOk P w K mg base CX0 2 g gd ["p", "q", "bits"] (SpR K 3 PLog RLog)) : FnOk P w K mg base CX0 3 f fd ["bits"] (SpR K 1 PTen RTen) := by
  have S := sc_log_ten
  refine fn_okR F S rfl 0 rfl fun cdv A outer s H E hr => ⟨_, ((pss_one (ps_ret (pe_call G_log_of (hr.mono (by first | exact Nat.le_refl _ | decide | omega)) (by rfl) L_log_of.m L_log_of.kp L_log_of.bi .nil pass0 (pa_cons pe_int (pa_cons pe_int (pa_cons (pv 0) pa_nil))))))), fun φ ds H D0 σ hl hP hrt A => ?_⟩
  obtain ⟨bits, rfl, hb, b4⟩ := hP
  replace A : At K φ (Same H) [some (.int (bits : Int))] σ H := A
  refine st_ret A (ev_callR (ea_cons (x := .int ((10 : Nat) : Int)) ev_int (ea_cons (x := .int ((1 : Nat) : Int)) ev_int (ea_cons (ev_var (i := 0) rfl) ea_nil))) ⟨10, 1, bits, rfl, by decide, by decide, by decide, by decide, hb, b4⟩) fun v d H4 e A4 r => ?_
  obtain ⟨p', q', b', T, e, h, rfl⟩ := e
  simp only [List.cons.injEq, D.int.injEq, and_true] at e
  obtain ⟨e1, e2, e3⟩ := e
  have e1 : 10 = p' := by omega
  have e2 : 1 = q' := by omega
  have e3 : bits = b' := by omega
  subst e1 e2 e3
  exact hrt _ v H4 ⟨bits, T, rfl, h, rfl⟩ A4.j r
def RPow10 : List D → D → Prop := fun ds d => ∃ n : Nat, ds = [.int (n : Int)] ∧ n ≤ 100 ∧ d = .int ((10 ^ n : Nat) : Int)
theorem sc_power_of_ten : FnScope ["exponent", "value", "_"] ["exponent"] (defScope s_power_of_ten) := ⟨rfl, rfl, rfl, by decide +kernel, rfl, by decide +kernel, by decide +kernel⟩
theorem ok_power_of_ten (B : Bi mg) {f : Addr} {fd : FuncData} (F : Fun K "power_of_ten" "power_of_ten" s_power_of_ten f fd) : FnOk P w K mg base CX0 1 f fd ["exponent"] (SpD K 1 RPow10) := by
  have S := sc_power_of_ten
  refine fn_ok F S rfl 2 rfl fun cdv A outer s H E hr => ⟨_, ((pss_cons (ps_set (i := 1) S.nd rfl (by first | exact Or.inl rfl | exact Or.inr rfl) pe_int)
 (pss_cons (ps_for PassesOwn.never rfl (pi_range1 (by rfl) B.range (pa_cons (pv 0) pa_nil)) (pg_name (i := 2) S.nd rfl (by first | exact Or.inl rfl | exact Or.inr rfl))
 (pss_one (ps_aug (i := 1) S.nd rfl (by first | exact Or.inl rfl | exact Or.inr rfl) pe_int ip_mul)))
 (pss_one (ps_ret (pv 1)))))), fun φ ds d H D0 σ hl hR hrt hnx A => ?_⟩
  obtain ⟨n, rfl, hn, rfl⟩ := hR
  replace A : At K φ (Same H) [some (.int (n : Int)), none, none] σ H := A
  refine q (st_set (d := .int 1) A ev_int fun σ1 H1 A1 => ?_)
  replace A1 : At K φ (Same H) [some (.int (n : Int)), some (.int 1), none] σ1 H1 := A1
  dsimp only
  refine q (st_for A1 (it_range1 (ea_cons (ev_var (i := 0) rfl) ea_nil) (by omega)) (fun k ρ' J' => (∃ o, ρ' = [some (.int (n : Int)), some (.int ((10 ^ k : Nat) : Int)), o]) ∧ J' = Same H) ⟨⟨none, rfl⟩, rfl⟩ ?_ ?_)
  · rintro H3 k x ρ' J' b3 j3 hx ⟨⟨o, rfl⟩, rfl⟩ σ' H' A3
    replace A3 : At K φ (fun H1 => Same H H1 ∧ But φ H3 H1) [some (.int (n : Int)), some (.int ((10 ^ k : Nat) : Int)), some x] σ' H' := A3
    refine st_augM A3 rfl ev_int (.inr (by decide)) fun σ4 H4 A4 => ?_
    exact ⟨_, _, ⟨⟨some x, by rw [Nat.pow_succ, Int.natCast_mul]; rfl⟩, rfl⟩, A4⟩
  · rintro H3 ρ' J' σ' H' b3 j3 ⟨⟨o, rfl⟩, rfl⟩ A3
    rw [rangeD_length, Int.toNat_natCast] at A3
    exact st_ret A3 (ev_var (i := 1) rfl) fun v d' H6 e' A6 rr => hrt v H6 A6.j.1 (by subst e'; exact rr)
def RIsPow : List D → D → Prop := fun ds d => ∃ (p q : Nat) (m : Int), ds = [.int (p : Int), .int (q : Int), .int m] ∧ p < 2 ^ 99 ∧ q < 2 ^ 99 ∧ 0 ≤ m ∧ m ≤ 40000 ∧ d = .bl (decide (p = q * 10 ^ (m / 1000).toNat))
theorem sc_is_power : FnScope ["p", "q", "level", "turns"] ["p", "q", "level"] (defScope s_is_power) := ⟨rfl, rfl, rfl, by decide +kernel, rfl, by decide +kernel, by decide +kernel⟩
theorem ten_40 {n : Nat} (h : n ≤ 40) : (10 ^ n : Nat) < 2 ^ 200 := Nat.lt_of_le_of_lt (Nat.pow_le_pow_right (by decide) h) (by decide +kernel)
theorem ok_is_power (B : Bi mg) {f g : Addr} {fd gd : FuncData} (F : Fun K "is_power" "is_power" s_is_power f fd) (L_power_of_ten : Lk K mg "power_of_ten" g gd ["exponent"]) (G_power_of_ten : FnOk P w K mg base CX0 1 g gd ["exponent"] (SpD K 1 RPow10)) : FnOk P w K mg base CX0 2 f fd ["p", "q", "level"] (SpD K 3 RIsPow) := by
  have S := sc_is_power
  refine fn_ok F S rfl 1 rfl fun cdv A outer s H E hr => ⟨_, ((pss_cons (ps_set (i := 3) S.nd rfl (by first | exact Or.inl rfl | exact Or.inr rfl) (pe_op op_fdiv (pv 2) pe_int))
 (pss_one (ps_ret (pe_ifExp (pt_cmpR op_ge (pv 3) pe_int (nomark _)) (pe_cmpR op_eq (pv 0) (pe_op op_mulW (pv 1) (pe_call G_power_of_ten (hr.mono (by first | exact Nat.le_refl _ | decide | omega)) (by rfl) L_power_of_ten.m L_power_of_ten.kp L_power_of_ten.bi .nil pass0 (pa_cons (pv 3) pa_nil))) (nomark _)) (pe_cmpR op_eq (pv 1) (pe_op op_mulW (pv 0) (pe_call G_power_of_ten (hr.mono (by first | exact Nat.le_refl _ | decide | omega)) (by rfl) L_power_of_ten.m L_power_of_ten.kp L_power_of_ten.bi .nil pass0 (pa_cons (pe_un un_neg (pv 3)) pa_nil))) (nomark _))))))), fun φ ds d H D0 σ hl hR hrt hnx A => ?_⟩
  obtain ⟨p, q', m, rfl, p9, q9, m0, m4, rfl⟩ := hR
  replace A : At K φ (Same H) [some (.int (p : Int)), some (.int (q' : Int)), some (.int m), none] σ H := A
  obtain ⟨t, ht⟩ : ∃ t : Nat, m / 1000 = (t : Int) := ⟨(m / 1000).toNat, (Int.toNat_of_nonneg (by omega)).symm⟩
  have t40 : t ≤ 40 := by omega
  refine q (st_set (d := .int (t : Int)) A ((ev_fdiv (ev_var (i := 2) rfl) ev_int ⟨by decide, by decide⟩).is (by rw [ht])) fun σ1 H1 A1 => ?_)
  replace A1 : At K φ (Same H) [some (.int (p : Int)), some (.int (q' : Int)), some (.int m), some (.int (t : Int))] σ1 H1 := A1
  dsimp only
  have z := ten_40 t40
  refine st_ret A1 (ev_ifE (b := true) ((et_test (ev_ge (ev_var (i := 3) rfl) ev_int)).is (decide_eq_true (by omega))) (fun _ => (ev_eqI (ev_var (i := 0) rfl) (ev_mulW (ev_var (i := 1) rfl) (ev_callD (ea_cons (ev_var (i := 3) rfl) ea_nil) ⟨t, rfl, by omega, rfl⟩) (wide_mul (a := 99) (b := 200) (by rw [Int.natAbs_natCast]; exact q9) (by rw [Int.natAbs_natCast]; exact z) (by decide) (by decide) (by decide)))).is (d' := .bl (decide (p = q' * 10 ^ (m / 1000).toNat))) ?_) fun h => nomatch h) fun v d' H6 e' A6 rr => hrt v H6 A6.j (by subst e'; exact rr)
  rw [ht, Int.toNat_natCast, ← Int.natCast_mul]
  congr 1
  exact decide_eq_decide.mpr Int.natCast_inj
/-! level_of -/
def PLvl : List D → Prop := fun ds => ∃ p q : Nat, ds = [.int (p : Int), .int (q : Int)] ∧ 0 < q ∧ q ≤ p ∧ p ≤ 2 ^ 98
def RLvl : List D → D → Prop := fun ds d => ∃ (p q : Nat) (lo hi : Int), ds = [.int (p : Int), .int (q : Int)] ∧ LvlOk p q lo hi ∧ d = .tup [.int lo, .int hi]
theorem sc_level_of : FnScope ["p", "q", "bits", "value", "room", "low"] ["p", "q"] (defScope s_level_of) := ⟨rfl, rfl, rfl, by decide +kernel, rfl, by decide +kernel, by decide +kernel⟩
theorem lvl_bits {bits : Nat} {m : Nat} (h : (bits = 96 ∧ m = 2) ∨ (bits = 192 ∧ m = 1) ∨ (bits = 384 ∧ m = 0)) : 96 ≤ bits ∧ bits ≤ 384 := by omega
set_option maxHeartbeats 1000000 in
theorem ok_level_of (B : Bi mg) (C : Cs mg) {f g1 g2 g3 : Addr} {fd gd1 gd2 gd3 : FuncData} (F : Fun K "level_of" "level_of" s_level_of f fd)
    (L_log_of : Lk K mg "log_of" g1 gd1 ["p", "q", "bits"]) (G_log_of : FnOk P w K mg base CX0 2 g1 gd1 ["p", "q", "bits"] (SpR K 3 PLog RLog))
    (L_log_ten : Lk K mg "log_ten" g2 gd2 ["bits"]) (G_log_ten : FnOk P w K mg base CX0 3 g2 gd2 ["bits"] (SpR K 1 PTen RTen))
    (L_is_power : Lk K mg "is_power" g3 gd3 ["p", "q", "level"]) (G_is_power : FnOk P w K mg base CX0 2 g3 gd3 ["p", "q", "level"] (SpD K 3 RIsPow)) : FnOk P w K mg base CX0 4 f fd ["p", "q"] (SpR K 2 PLvl RLvl) := by
  have S := sc_level_of
  refine fn_okR F S rfl 4 rfl fun cdv A outer s H E hr => ⟨_, ((pss_cons (ps_set (i := 2) S.nd rfl (by first | exact Or.inl rfl | exact Or.inr rfl) pe_int)
 (pss_one (ps_while PassesOwn.never (pt_val pe_bl)
 (pss_cons (ps_set (i := 3) S.nd rfl (by first | exact Or.inl rfl | exact Or.inr rfl) (pe_op op_fdivW (pe_op op_shlN (pe_op op_mul pe_int (pe_call G_log_of (hr.mono (by first | exact Nat.le_refl _ | decide | omega)) (by rfl) L_log_of.m L_log_of.kp L_log_of.bi .nil pass0 (pa_cons (pv 0) (pa_cons (pv 1) (pa_cons (pv 2) pa_nil))))) (pv 2)) (pe_call G_log_ten (hr.mono (by first | exact Nat.le_refl _ | decide | omega)) (by rfl) L_log_ten.m L_log_ten.kp L_log_ten.bi .nil pass0 (pa_cons (pv 2) pa_nil))))
 (pss_cons (ps_set (i := 4) S.nd rfl (by first | exact Or.inl rfl | exact Or.inr rfl) (pe_op op_shlN (pe_cst C.ROOM) pe_int))
 (pss_cons (ps_set (i := 5) S.nd rfl (by first | exact Or.inl rfl | exact Or.inr rfl) (pe_op op_shrN (pe_op op_sub (pv 3) (pv 4)) (pv 2)))
 (pss_cons (ps_if (pt_cmpR op_eq (pv 5) (pe_op op_shrN (pe_op op_add (pv 3) (pv 4)) (pv 2)) (nomark _))
 (pss_one (ps_ret (pe_tup (pa_cons (pv 5) (pa_cons (pe_op op_add (pv 5) pe_int) pa_nil)))))
 pss_nil)
 (pss_cons (ps_if (PW.pt (pw_and (pt_cmpR op_eq (pe_op op_mod (pe_op op_add (pv 5) pe_int) pe_int) pe_int (nomark _)) (pw_and1 (pt_val (pe_call G_is_power (hr.mono (by first | exact Nat.le_refl _ | decide | omega)) (by rfl) L_is_power.m L_is_power.kp L_is_power.bi .nil pass0 (pa_cons (pv 0) (pa_cons (pv 1) (pa_cons (pe_op op_add (pv 5) pe_int) pa_nil))))))))
 (pss_one (ps_ret (pe_tup (pa_cons (pe_op op_add (pv 5) pe_int) (pa_cons (pe_op op_add (pv 5) pe_int) pa_nil)))))
 pss_nil)
 (pss_one (ps_aug (i := 2) S.nd rfl (by first | exact Or.inl rfl | exact Or.inr rfl) pe_int ip_mul))))))))))), fun φ ds H D0 σ hl hP hrt A => ?_⟩
  obtain ⟨p, q', rfl, hq, qp, p98⟩ := hP
  replace A : At K φ (Same H) [some (.int (p : Int)), some (.int (q' : Int)), none, none, none, none] σ H := A
  have hp : 0 < p := by omega
  have e98 : (2 : Nat) ^ 98 < 2 ^ 99 := by decide
  have p9 : p < 2 ^ 99 := by omega
  have q9 : q' < 2 ^ 99 := by omega
  refine q (st_set (d := .int 96) A ev_int fun σ1 H1 A1 => ?_)
  replace A1 : At K φ (Same H) [some (.int (p : Int)), some (.int (q' : Int)), some (.int ((96 : Nat) : Int)), none, none, none] σ1 H1 := A1
  clear F L_log_of G_log_of L_log_ten G_log_ten L_is_power G_is_power
  dsimp only
  refine st_while A1 (fun m ρ' J' => ∃ (bits : Nat) (o3 o4 o5 : Option D), ((bits = 96 ∧ m = 2) ∨ (bits = 192 ∧ m = 1) ∨ (bits = 384 ∧ m = 0)) ∧ ρ' = [some (.int (p : Int)), some (.int (q' : Int)), some (.int (bits : Int)), o3, o4, o5] ∧ J' = Same H) 2 ⟨96, none, none, none, .inl ⟨rfl, rfl⟩, rfl, rfl⟩ ?_
  rintro m ρ' J' ⟨bits, o3, o4, o5, hbm, rfl, rfl⟩
  obtain ⟨b96, b384⟩ := lvl_bits hbm
  refine ⟨fun x => x = true, (et_B ev_bl).imp fun b e => e, fun _ σ' H' A' Nx hNx => ?_, fun h => nomatch h⟩
  have M4 : (2 : Nat) ^ bits ≤ 2 ^ 384 := Nat.pow_le_pow_right (by decide) b384
  have e394 : 1024 * 2 ^ 384 = 2 ^ 394 := by decide +kernel
  have e404 : 1024 * 2 ^ 394 = 2 ^ 404 := by decide +kernel
  refine q (st_asg (P := fun d => ∃ T G, LogOk p q' bits T ∧ LogOk 10 1 bits G ∧ d = .int (valN bits T G)) A' ((ei_fdivW (q := fun G => LogOk 10 1 bits G) (ei_shlN (k := bits) (ei_mul (p := fun i => i = 1000) (q := fun T => LogOk p q' bits T) (ev_i ev_int) ((ev_callR (ea_cons (ev_var (i := 0) rfl) (ea_cons (ev_var (i := 1) rfl) (ea_cons (ev_var (i := 2) rfl) ea_nil))) ⟨p, q', bits, rfl, hp, hq, p9, q9, by omega, by omega⟩).imp ?_) ?_) (ev_var (i := 2) rfl) ?_) ((ev_callR (ea_cons (ev_var (i := 2) rfl) ea_nil) ⟨bits, rfl, by omega, by omega⟩).imp ?_) ?_).imp ?_) fun x3 σ3 H3 hx3 A3 => ?_)
  · rintro d ⟨p', q'', b', T, e, h, rfl⟩
    simp only [List.cons.injEq, D.int.injEq, and_true] at e
    obtain ⟨e1, e2, e3⟩ := e
    have e1 : p = p' := by omega
    have e2 : q' = q'' := by omega
    have e3 : bits = b' := by omega
    subst e1 e2 e3
    exact ⟨T, rfl, h⟩
  · rintro i j rfl _
    exact .inl (by decide)
  · rintro i ⟨_, T, rfl, hT, rfl⟩
    have a := log_abs hp hq p9 q9 (by omega) hT
    refine shl_ok (n := 404) ?_ (by omega)
    rw [Int.natAbs_mul]
    show 1000 * T.natAbs < _
    omega
  · rintro d ⟨b', G, e, h, rfl⟩
    simp only [List.cons.injEq, D.int.injEq, and_true] at e
    have e3 : bits = b' := by omega
    subst e3
    exact ⟨G, rfl, h⟩
  · rintro i j _ hG
    obtain ⟨g1, g2⟩ := ten_bd b96 hG
    have e1 := int_two_pow bits
    refine wide_div (b := 394) (by have := Nat.pow_pos (n := bits) (show 0 < 2 by decide); omega) (by omega) (by decide) (by decide)
  · rintro d ⟨x, rfl, _, G, ⟨_, ⟨_, T, rfl, hT, rfl⟩, rfl⟩, hG, rfl⟩
    exact ⟨T, G, hT, hG, rfl⟩
  obtain ⟨T, G, hT, hG, rfl⟩ := hx3
  have LV : LvIn p q' bits T G := ⟨hp, hq, qp, p98, b96, b384, hT, hG⟩
  obtain ⟨r1, r2, r3⟩ := LV.range
  replace A3 : At K φ (fun H_1 => Same H H_1 ∧ But φ H1 H_1) [some (.int (p : Int)), some (.int (q' : Int)), some (.int (bits : Int)), some (.int (valN bits T G)), o4, o5] σ3 H3 := A3
  dsimp only
  refine q (st_set (d := .int (2 ^ 48)) A3 ((ev_shlN (i := 16777216) (k := 24) ev_int ev_int (shl_ok (n := 25) (by decide) (by decide))).is (congrArg D.int (by decide))) fun σ4 H4 A4 => ?_)
  replace A4 : At K φ (fun H_1 => Same H H_1 ∧ But φ H1 H_1) [some (.int (p : Int)), some (.int (q' : Int)), some (.int (bits : Int)), some (.int (valN bits T G)), some (.int (2 ^ 48)), o5] σ4 H4 := A4
  dsimp only
  refine q (st_set (d := .int (lowN bits T G)) A4 (ev_shrN (ev_sub (ev_var (i := 3) rfl) (ev_var (i := 4) rfl)) (ev_var (i := 2) rfl)) fun σ5 H5 A5 => ?_)
  replace A5 : At K φ (fun H_1 => Same H H_1 ∧ But φ H1 H_1) [some (.int (p : Int)), some (.int (q' : Int)), some (.int (bits : Int)), some (.int (valN bits T G)), some (.int (2 ^ 48)), some (.int (lowN bits T G))] σ5 H5 := A5
  dsimp only
  refine q (st_if A5 (et_test (ev_eqI (j := topN bits T G) (ev_var (i := 5) rfl) (ev_shrN (ev_add (ev_var (i := 3) rfl) (ev_var (i := 4) rfl)) (ev_var (i := 2) rfl)))) (fun hb H6 A6 => ?_) (fun hb H6 A6 => st_next ?_))
  · have e : lowN bits T G = topN bits T G := of_decide_eq_true hb.symm
    exact st_ret A6 (ev_tup (ea_cons (ev_var (i := 5) rfl) (ea_cons (ev_add (ev_var (i := 5) rfl) ev_int) ea_nil))) fun v d H7 e' A7 r => hrt _ v H7 ⟨p, q', _, _, rfl, lvl_eq LV e, rfl⟩ A7.j.1 (by rw [e'] at r; exact r)
  have ne : lowN bits T G ≠ topN bits T G := of_decide_eq_false hb.symm
  clear hb A5
  dsimp only
  refine q (st_if A6 (et_and (et_test (ev_eqI (ev_mod (ev_add (ev_var (i := 5) rfl) ev_int) ev_int (by decide)) ev_int)) fun _ => et_B (ev_callD (ea_cons (ev_var (i := 0) rfl) (ea_cons (ev_var (i := 1) rfl) (ea_cons (ev_add (ev_var (i := 5) rfl) ev_int) ea_nil))) ⟨p, q', _, rfl, p9, q9, by omega, by omega, rfl⟩)) (fun hb H7 A7 => ?_) (fun hb H7 A7 => st_next ?_))
  · have hb : true = (decide ((lowN bits T G + 1) % 1000 = 0) && decide (p = q' * 10 ^ ((lowN bits T G + 1) / 1000).toNat)) := hb
    rw [eq_comm, Bool.and_eq_true, decide_eq_true_iff, decide_eq_true_iff] at hb
    exact st_ret A7 (ev_tup (ea_cons (ev_add (ev_var (i := 5) rfl) ev_int) (ea_cons (ev_add (ev_var (i := 5) rfl) ev_int) ea_nil))) fun v d H8 e' A8 r => hrt _ v H8 ⟨p, q', _, _, rfl, lvl_pow (by omega) (by omega) hb.1 hb.2, rfl⟩ A8.j.1 (by rw [e'] at r; exact r)
  have hb : false = (decide ((lowN bits T G + 1) % 1000 = 0) && decide (p = q' * 10 ^ ((lowN bits T G + 1) / 1000).toNat)) := hb
  rcases hbm with ⟨rfl, rfl⟩ | ⟨rfl, rfl⟩ | ⟨rfl, rfl⟩
  · refine st_augM A7 rfl ev_int (.inr (by decide)) fun σ8 H8 A8 => ?_
    exact hNx 1 _ _ (by decide) ⟨_, _, ⟨192, _, _, _, .inr (.inl ⟨rfl, rfl⟩), rfl, rfl⟩, A8⟩
  · refine st_augM A7 rfl ev_int (.inr (by decide)) fun σ8 H8 A8 => ?_
    exact hNx 0 _ _ (by decide) ⟨_, _, ⟨384, _, _, _, .inr (.inr ⟨rfl, rfl⟩), rfl, rfl⟩, A8⟩
  · obtain ⟨x1, x2⟩ := lvl_end LV ne
    rw [decide_eq_true x1, decide_eq_true x2] at hb
    cases hb
end
end

/-! ### losses -/
section
theorem fn_imp {PP : Program} {w : World} {K : PySem.W.Frag} {mg : Str → Option Value} {base : Heap} {CX : CXT} {k : Nat} {f : Addr} {fd : FuncData} {ps : List Str} {a b : Sp} (h : FnOk PP w K mg base CX k f fd ps a) (i : ∀ vs H Q E, b vs H Q E → a vs H Q E) : FnOk PP w K mg base CX k f fd ps b :=
  ⟨fun vs H Q E g => h.len vs H Q E (i vs H Q E g), fun A outer s H args us vs Q E hr he hb hv g => h.run A outer s H args us vs Q E hr he hb hv (i vs H Q E g)⟩
/-- level_of, its pair told -/
def RLv : List D → D → Prop := fun ds d => ∃ (p q : Nat) (lo hi : Int), ds = [.int (p : Int), .int (q : Int)] ∧ 0 < q ∧ q ≤ p ∧ p ≤ 2 ^ 98 ∧ LvlOk p q lo hi ∧ d = .tup [.int lo, .int hi]
theorem lvl_told {PP : Program} {w : World} {K : PySem.W.Frag} {mg : Str → Option Value} {base : Heap} {f : Addr} {fd : FuncData} {k : Nat} (h : FnOk PP w K mg base CX0 k f fd ["p", "q"] (SpR K 2 PLvl RLvl)) : FnOk PP w K mg base CX0 k f fd ["p", "q"] (SpD K 2 RLv) :=
  fn_imp h fun vs H Q E ⟨φ, ds, d, hl, r, fr, ⟨p, q', lo, hi, e, q0, qp, p98, lv, e2⟩, kk⟩ => ⟨φ, ds, hl, r, fr, ⟨p, q', e, q0, qp, p98⟩, fun d' v H' ⟨p2, q2, lo2, hi2, e3, lv2, e4⟩ s r' => by
    rw [e] at e3
    simp only [List.cons.injEq, D.int.injEq, and_true] at e3
    obtain ⟨e5, e6⟩ := e3
    have e5 : p = p2 := by omega
    have e6 : q' = q2 := by omega
    subst e5 e6
    obtain ⟨e7, e8⟩ := lvl_uniq q0 lv lv2
    subst e7 e8
    subst e2 e4
    exact kk v H' s r'⟩
theorem lvl_exists {p q : Nat} (q0 : 0 < q) (qp : q ≤ p) (p98 : p ≤ 2 ^ 98) : ∃ lo hi, LvlOk p q lo hi := by
  have top : p ^ 1000 < q ^ 1000 * 10 ^ 40001 := by
    have a : p ^ 1000 ≤ (2 ^ 98) ^ 1000 := Nat.pow_le_pow_left p98 1000
    have b : (2 ^ 98) ^ 1000 < 10 ^ 40001 := by decide +kernel
    have c : 1 ≤ q ^ 1000 := Nat.pow_pos q0
    have d := Nat.mul_le_mul_right (10 ^ 40001) c
    rw [Nat.one_mul] at d
    exact Nat.lt_of_lt_of_le (Nat.lt_of_le_of_lt a b) d
  have key : ∀ n : Nat, p ^ 1000 < q ^ 1000 * 10 ^ n → ∃ m, m < n ∧ q ^ 1000 * 10 ^ m ≤ p ^ 1000 ∧ p ^ 1000 < q ^ 1000 * 10 ^ (m + 1) := by
    intro n
    induction n with
    | zero =>
      intro h
      rw [Nat.pow_zero, Nat.mul_one] at h
      exact absurd h (Nat.not_lt.mpr (Nat.pow_le_pow_left qp 1000))
    | succ n ih =>
      intro h
      by_cases z : p ^ 1000 < q ^ 1000 * 10 ^ n
      · obtain ⟨m, h1, h2⟩ := ih z
        exact ⟨m, by omega, h2⟩
      · exact ⟨n, by omega, Nat.not_lt.mp z, h⟩
  obtain ⟨m, h1, h2, h3⟩ := key 40001 top
  rcases Nat.lt_or_eq_of_le h2 with z | z
  · exact ⟨m, m + 1, m, rfl, by omega, .inl ⟨z, h3, rfl⟩⟩
  · exact ⟨m, m, m, rfl, by omega, .inr ⟨z.symm, rfl⟩⟩
/-! the way's heights, as ints -/
def clrI (g : List (List Int)) (px py qx qy a b : Int) : List Int := (List.range (stepsI px py qx qy - 1).toNat).map fun i : Nat => clrV g px py qx qy a b (1 + (i : Int))
theorem clr_I {g : List (List Int)} {px py qx qy a b : Int} : clr g px py qx qy a b = (clrI g px py qx qy a b).map D.int := by
  unfold clr clrI rangeD
  rw [List.map_map, List.map_map]
  rfl
def distI (px py qx qy : Int) : Int := ((px - qx) * (px - qx) + (py - qy) * (py - qy)) * 100 * 100
def SprOk (ns : List Int) (c s : Int) : Prop := (∃ k : Nat, k < ns.length ∧ ns[k]? = some c ∧ s = ((k : Int) + 1) * ((ns.length : Int) - k)) ∧ ∀ k : Nat, k < ns.length → ns[k]? = some c → s ≤ ((k : Int) + 1) * ((ns.length : Int) - k)
theorem spr_uniq {ns : List Int} {c s s' : Int} (h : SprOk ns c s) (h' : SprOk ns c s') : s = s' := by
  obtain ⟨⟨k, k1, k2, rfl⟩, h2⟩ := h
  obtain ⟨⟨j, j1, j2, rfl⟩, h3⟩ := h'
  exact Int.le_antisymm (h2 j j1 j2) (h3 k k1 k2)
theorem spr_bd {ns : List Int} {c s : Int} (h : SprOk ns c s) (hl : ns.length ≤ 40) : (ns.length : Int) ≤ s ∧ s ≤ 1600 ∧ 1 ≤ s := by
  obtain ⟨⟨k, k1, k2, rfl⟩, _⟩ := h
  obtain ⟨j, hj⟩ : ∃ j : Nat, (ns.length : Int) - k = (j : Int) + 1 := ⟨ns.length - k - 1, by omega⟩
  rw [hj]
  have e : ((k : Int) + 1) * ((j : Int) + 1) = k * j + k + j + 1 := by grind
  have p : 0 ≤ (k : Int) * j := Int.mul_nonneg (by omega) (by omega)
  have u : ((k : Int) + 1) * ((j : Int) + 1) ≤ 40 * 40 := Int.mul_le_mul (by omega) (by omega) (by omega) (by decide)
  omega
theorem spr_ex {ns : List Int} {c : Int} (h : c ∈ ns) : ∃ s, SprOk ns c s := by
  have key : ∀ n : Nat, (∃ k : Nat, k < n ∧ ns[k]? = some c) → ∃ s, (∃ k : Nat, k < n ∧ ns[k]? = some c ∧ s = ((k : Int) + 1) * ((ns.length : Int) - k)) ∧ ∀ k : Nat, k < n → ns[k]? = some c → s ≤ ((k : Int) + 1) * ((ns.length : Int) - k) := by
    intro n
    induction n with
    | zero => rintro ⟨k, hk, _⟩; omega
    | succ n ih =>
      rintro ⟨k, hk, hc⟩
      by_cases z : ∃ k : Nat, k < n ∧ ns[k]? = some c
      · obtain ⟨s, ⟨k, k1, k2, k3⟩, h2⟩ := ih z
        by_cases hn : ns[n]? = some c
        · by_cases le : s ≤ ((n : Int) + 1) * ((ns.length : Int) - n)
          · refine ⟨s, ⟨k, by omega, k2, k3⟩, fun j hj hc => ?_⟩
            by_cases e : j = n
            · rw [e]; exact le
            · exact h2 j (by omega) hc
          · refine ⟨_, ⟨n, by omega, hn, rfl⟩, fun j hj hc => ?_⟩
            by_cases e : j = n
            · rw [e]; exact Int.le_refl _
            · exact Int.le_trans (Int.le_of_lt (Int.not_le.mp le)) (h2 j (by omega) hc)
        · refine ⟨s, ⟨k, by omega, k2, k3⟩, fun j hj hc => ?_⟩
          by_cases e : j = n
          · rw [e] at hc; exact absurd hc hn
          · exact h2 j (by omega) hc
      · have e : k = n := by
          by_cases e : k = n
          · exact e
          · exact absurd ⟨k, by omega, hc⟩ z
        subst e
        refine ⟨_, ⟨k, by omega, hc, rfl⟩, fun j hj hc' => ?_⟩
        by_cases e : j = k
        · rw [e]; exact Int.le_refl _
        · exact absurd ⟨j, by omega, hc'⟩ z
  obtain ⟨k, hk⟩ := List.mem_iff_getElem?.mp h
  have hl := (List.getElem?_eq_some_iff.mp hk).1
  exact key ns.length ⟨k, hl, hk⟩
def edQ (s D2 : Int) : Nat := (150 * s * (150 * s) * D2).toNat
def edP (c s f D2 : Int) : Nat := (150 * s * (150 * s) * D2 + c * c * f * (c * c * f)).toNat
inductive EdgeV (ns : List Int) (D2 f : Int) : D → Prop where
  | zero : (∀ y ∈ ns, y ≤ 0) → EdgeV ns D2 f (.tup [.int 0, .int 0])
  | some {c s lo hi : Int} : 0 < c → c ∈ ns → (∀ y ∈ ns, y ≤ c) → SprOk ns c s → LvlOk (edP c s f D2) (edQ s D2) lo hi → EdgeV ns D2 f (.tup [.int (lo / 2 + 600), .int (-((-hi) / 2) + 600)])
structure EdIn (ns : List Int) (D2 f : Int) : Prop where
  f0 : 1 ≤ f
  f1 : f ≤ 10000
  l : ns.length ≤ 40
  c1 : ∀ y ∈ ns, y ≤ 200000
  d0 : ns ≠ [] → 1 ≤ D2
  d1 : D2 ≤ 100000000
theorem ed_bd {ns : List Int} {D2 f c s : Int} (h : EdIn ns D2 f) (c0 : 0 < c) (cm : c ∈ ns) (hs : SprOk ns c s) : 0 < edQ s D2 ∧ edQ s D2 ≤ edP c s f D2 ∧ edP c s f D2 ≤ 2 ^ 98 ∧ ((edQ s D2 : Nat) : Int) = 150 * s * (150 * s) * D2 ∧ ((edP c s f D2 : Nat) : Int) = 150 * s * (150 * s) * D2 + c * c * f * (c * c * f) ∧ (1 ≤ 150 * s ∧ 150 * s ≤ 240000) ∧ (1 ≤ 150 * s * (150 * s) ∧ 150 * s * (150 * s) ≤ 57600000000) ∧ (1 ≤ c * c ∧ c * c ≤ 40000000000) ∧ (1 ≤ c * c * f ∧ c * c * f ≤ 400000000000000) := by
  obtain ⟨s0, s1, s2⟩ := spr_bd hs h.l
  have c1 := h.c1 c cm
  have d0 := h.d0 (List.ne_nil_of_mem cm)
  have d1 := h.d1
  have f0 := h.f0
  have f1 := h.f1
  have b1 : 1 ≤ 150 * s * (150 * s) := Int.mul_le_mul (a := 1) (b := 1) (by omega) (by omega) (by decide) (by omega)
  have b2 : 150 * s * (150 * s) ≤ 240000 * 240000 := Int.mul_le_mul (by omega) (by omega) (by omega) (by decide)
  have q1 : 1 ≤ 150 * s * (150 * s) * D2 := Int.mul_le_mul (a := 1) (b := 1) b1 d0 (by decide) (by omega)
  have q2 : 150 * s * (150 * s) * D2 ≤ 240000 * 240000 * 100000000 := Int.mul_le_mul b2 d1 (by omega) (by decide)
  have e1 : 1 ≤ c * c := Int.mul_le_mul (a := 1) (b := 1) (by omega) (by omega) (by decide) (by omega)
  have e2 : c * c ≤ 200000 * 200000 := Int.mul_le_mul c1 c1 (by omega) (by decide)
  have g1 : 1 ≤ c * c * f := Int.mul_le_mul (a := 1) (b := 1) e1 f0 (by decide) (by omega)
  have g2 : c * c * f ≤ 200000 * 200000 * 10000 := Int.mul_le_mul e2 f1 (by omega) (by decide)
  have t1 : 1 ≤ c * c * f * (c * c * f) := Int.mul_le_mul (a := 1) (b := 1) g1 g1 (by decide) (by omega)
  have t2 : c * c * f * (c * c * f) ≤ 200000 * 200000 * 10000 * (200000 * 200000 * 10000) := Int.mul_le_mul g2 g2 (by omega) (by decide)
  unfold edQ edP
  generalize 150 * s * (150 * s) * D2 = X at q1 q2 ⊢
  generalize c * c * f * (c * c * f) = Y at t1 t2 ⊢
  have e98 : (2 : Nat) ^ 98 = 316912650057057350374175801344 := by decide
  rw [e98]
  refine ⟨by omega, by omega, by omega, by omega, by omega, ⟨by omega, by omega⟩, ⟨b1, by omega⟩, ⟨e1, by omega⟩, g1, by omega⟩
theorem edge_uniq {ns : List Int} {D2 f : Int} {d d' : D} (h : EdIn ns D2 f) (h1 : EdgeV ns D2 f d) (h2 : EdgeV ns D2 f d') : d = d' := by
  cases h1 with
  | zero z =>
    cases h2 with
    | zero _ => rfl
    | some c0 cm _ _ _ =>
      have := z _ cm
      omega
  | @some c s lo hi c0 cm cx hs lv =>
    cases h2 with
    | zero z =>
      have := z _ cm
      omega
    | @some c' s' lo' hi' c0' cm' cx' hs' lv' =>
      have e : c = c' := Int.le_antisymm (cx' _ cm) (cx _ cm')
      subst e
      have e := spr_uniq hs hs'
      subst e
      obtain ⟨e1, e2⟩ := lvl_uniq (ed_bd h c0 cm hs).1 lv lv'
      subst e1 e2
      rfl
theorem max_ex : ∀ {ns : List Int}, ns ≠ [] → ∃ c, c ∈ ns ∧ ∀ y ∈ ns, y ≤ c
  | [], h => absurd rfl h
  | [a], _ => ⟨a, List.mem_cons_self, fun y hy => by rw [List.mem_singleton.mp hy]; exact Int.le_refl _⟩
  | a :: b :: r, _ => by
    obtain ⟨c, hc, hm⟩ := max_ex (ns := b :: r) (fun z => nomatch z)
    by_cases h : a ≤ c
    · exact ⟨c, List.mem_cons_of_mem _ hc, fun y hy => by
        rcases List.mem_cons.mp hy with rfl | hy
        · exact h
        · exact hm y hy⟩
    · exact ⟨a, List.mem_cons_self, fun y hy => by
        rcases List.mem_cons.mp hy with rfl | hy
        · exact Int.le_refl _
        · have := hm y hy
          omega⟩
theorem edge_ex {ns : List Int} {D2 f : Int} (h : EdIn ns D2 f) : ∃ d, EdgeV ns D2 f d := by
  by_cases z : ∀ y ∈ ns, y ≤ 0
  · exact ⟨_, .zero z⟩
  · have hne : ns ≠ [] := fun e => z (by rw [e]; exact fun y hy => by cases hy)
    obtain ⟨c, hc, hm⟩ := max_ex hne
    have c0 : 0 < c := Int.not_le.mp fun w => z fun y hy => Int.le_trans (hm y hy) w
    obtain ⟨s, hs⟩ := spr_ex hc
    obtain ⟨b1, b2, b3, _⟩ := ed_bd h c0 hc hs
    obtain ⟨lo, hi, lv⟩ := lvl_exists b1 b2 b3
    exact ⟨_, .some c0 hc hm hs lv⟩
section
variable {K : PySem.W.Frag} {φ : Addr → Prop} {J : Hp → Prop} {ρ : List (Option D)} {te : TE} {ns : List Int}
theorem ev_maxI {c : Int} (ha : EvD K φ J te ρ (.lst (ns.map D.int))) (hc : c ∈ ns) (hm : ∀ y ∈ ns, y ≤ c) : EvD K φ J (tCB (rMax K) (tCons te tNil)) ρ (.int c) := ev_cbD (ea_cons ha ea_nil) fun H vs f r Q q => by
  obtain ⟨v, rfl, r1⟩ := r.one
  obtain ⟨a, vs, rfl, p, rs⟩ := rep_lst r1
  exact ⟨a, ns, rfl, by rw [← rs.ints]; exact p.sq, List.length_pos_of_mem hc, fun m h1 h2 => q _ (.int m) H (Same.refl H) (congrArg D.int (Int.le_antisymm (hm _ h1) (h2 _ hc))) rfl⟩
theorem ev_minI {c : Int} (ha : EvD K φ J te ρ (.lst (ns.map D.int))) (hc : c ∈ ns) (hm : ∀ y ∈ ns, c ≤ y) : EvD K φ J (tCB (rMin K) (tCons te tNil)) ρ (.int c) := ev_cbD (ea_cons ha ea_nil) fun H vs f r Q q => by
  obtain ⟨v, rfl, r1⟩ := r.one
  obtain ⟨a, vs, rfl, p, rs⟩ := rep_lst r1
  exact ⟨a, ns, rfl, by rw [← rs.ints]; exact p.sq, List.length_pos_of_mem hc, fun m h1 h2 => q _ (.int m) H (Same.refl H) (congrArg D.int (Int.le_antisymm (h2 _ hc) (hm _ h1))) rfl⟩
end
section
variable {P : Program} {w : World} {K : PySem.W.Frag} {mg : Str → Option Value} {base : Heap}
def RHalf : List D → D → Prop := fun ds d => ∃ a b : Int, ds = [.tup [.int a, .int b]] ∧ d = .tup [.int (a / 2), .int (-((-b) / 2))]
theorem sc_half_of : FnScope ["pair"] ["pair"] (defScope s_half_of) := ⟨rfl, rfl, rfl, by decide +kernel, rfl, by decide +kernel, by decide +kernel⟩
theorem ok_half_of (B : Bi mg) {f : Addr} {fd : FuncData} (F : Fun K "half_of" "half_of" s_half_of f fd) : FnOk P w K mg base CX0 1 f fd ["pair"] (SpD K 1 RHalf) := by
  have S := sc_half_of
  refine fn_ok F S rfl 0 rfl fun cdv A outer s H E hr => ⟨_, ((pss_one (ps_ret (pe_tup (pa_cons (pe_op op_fdiv (pe_ix ix_tup (pv 0) pe_int (fun _ _ => rfl)) pe_int) (pa_cons (pe_un un_neg (pe_op op_fdiv (pe_un un_neg (pe_ix ix_tup (pv 0) pe_int (fun _ _ => rfl))) pe_int)) pa_nil)))))), fun φ ds d H D0 σ hl hR hrt hnx A => ?_⟩
  obtain ⟨a, b, rfl, rfl⟩ := hR
  replace A : At K φ (Same H) [some (.tup [.int a, .int b])] σ H := A
  exact st_ret A (ev_tup (ea_cons (ev_fdiv (ev_ixT (ds := [.int a, .int b]) (ev_var (i := 0) rfl) ev_int rfl) ev_int ⟨by decide, by decide⟩) (ea_cons (ev_neg (ev_fdiv (ev_neg (ev_ixT (ds := [.int a, .int b]) (ev_var (i := 0) rfl) ev_int rfl)) ev_int ⟨by decide, by decide⟩)) ea_nil))) fun v d' H6 e' A6 rr => hrt v H6 A6.j (by subst e'; exact rr)
def RShift : List D → D → Prop := fun ds d => ∃ a b n : Int, ds = [.tup [.int a, .int b], .int n] ∧ d = .tup [.int (a + n), .int (b + n)]
theorem sc_shifted : FnScope ["a", "number"] ["a", "number"] (defScope s_shifted) := ⟨rfl, rfl, rfl, by decide +kernel, rfl, by decide +kernel, by decide +kernel⟩
theorem ok_shifted (B : Bi mg) {f : Addr} {fd : FuncData} (F : Fun K "shifted" "shifted" s_shifted f fd) : FnOk P w K mg base CX0 1 f fd ["a", "number"] (SpD K 2 RShift) := by
  have S := sc_shifted
  refine fn_ok F S rfl 0 rfl fun cdv A outer s H E hr => ⟨_, ((pss_one (ps_ret (pe_tup (pa_cons (pe_op op_add (pe_ix ix_tup (pv 0) pe_int (fun _ _ => rfl)) (pv 1)) (pa_cons (pe_op op_add (pe_ix ix_tup (pv 0) pe_int (fun _ _ => rfl)) (pv 1)) pa_nil)))))), fun φ ds d H D0 σ hl hR hrt hnx A => ?_⟩
  obtain ⟨a, b, n, rfl, rfl⟩ := hR
  replace A : At K φ (Same H) [some (.tup [.int a, .int b]), some (.int n)] σ H := A
  exact st_ret A (ev_tup (ea_cons (ev_add (ev_ixT (ds := [.int a, .int b]) (ev_var (i := 0) rfl) ev_int rfl) (ev_var (i := 1) rfl)) (ea_cons (ev_add (ev_ixT (ds := [.int a, .int b]) (ev_var (i := 0) rfl) ev_int rfl) (ev_var (i := 1) rfl)) ea_nil))) fun v d' H6 e' A6 rr => hrt v H6 A6.j (by subst e'; exact rr)
def RDist : List D → D → Prop := fun ds d => ∃ px py qx qy : Int, ds = [.tup [.int px, .int py], .tup [.int qx, .int qy]] ∧ (0 ≤ px ∧ px ≤ 1000) ∧ (0 ≤ py ∧ py ≤ 1000) ∧ (0 ≤ qx ∧ qx ≤ 1000) ∧ (0 ≤ qy ∧ qy ≤ 1000) ∧ d = .int (distI px py qx qy)
theorem sc_square_distance : FnScope ["p", "q", "dx", "dy"] ["p", "q"] (defScope s_square_distance) := ⟨rfl, rfl, rfl, by decide +kernel, rfl, by decide +kernel, by decide +kernel⟩
theorem ok_square_distance (B : Bi mg) (C : Cs mg) {f : Addr} {fd : FuncData} (F : Fun K "square_distance" "square_distance" s_square_distance f fd) : FnOk P w K mg base CX0 1 f fd ["p", "q"] (SpD K 2 RDist) := by
  have S := sc_square_distance
  refine fn_ok F S rfl 2 rfl fun cdv A outer s H E hr => ⟨_, ((pss_cons (ps_set (i := 2) S.nd rfl (by first | exact Or.inl rfl | exact Or.inr rfl) (pe_op op_sub (pe_ix ix_tup (pv 0) pe_int (fun _ _ => rfl)) (pe_ix ix_tup (pv 1) pe_int (fun _ _ => rfl))))
 (pss_cons (ps_set (i := 3) S.nd rfl (by first | exact Or.inl rfl | exact Or.inr rfl) (pe_op op_sub (pe_ix ix_tup (pv 0) pe_int (fun _ _ => rfl)) (pe_ix ix_tup (pv 1) pe_int (fun _ _ => rfl))))
 (pss_one (ps_ret (pe_op op_mul (pe_op op_mul (pe_op op_add (pe_op op_mul (pv 2) (pv 2)) (pe_op op_mul (pv 3) (pv 3))) (pe_cst C.CELL)) (pe_cst C.CELL))))))), fun φ ds d H D0 σ hl hR hrt hnx A => ?_⟩
  obtain ⟨px, py, qx, qy, rfl, b1, b2, b3, b4, rfl⟩ := hR
  replace A : At K φ (Same H) [some (.tup [.int px, .int py]), some (.tup [.int qx, .int qy]), none, none] σ H := A
  have p0 : ∀ {φ : Addr → Prop} {J : Hp → Prop} {ρ : List (Option D)}, ρ[0]? = some (some (.tup [.int px, .int py])) → EvD K φ J (tOp (rIxT K) (tVar 0) (tC (.int 0))) ρ (.int px) := fun h => ev_ixT (ds := [.int px, .int py]) (ev_var h) ev_int rfl
  have p1 : ∀ {φ : Addr → Prop} {J : Hp → Prop} {ρ : List (Option D)}, ρ[0]? = some (some (.tup [.int px, .int py])) → EvD K φ J (tOp (rIxT K) (tVar 0) (tC (.int 1))) ρ (.int py) := fun h => ev_ixT (ds := [.int px, .int py]) (ev_var h) ev_int rfl
  have q0 : ∀ {φ : Addr → Prop} {J : Hp → Prop} {ρ : List (Option D)}, ρ[1]? = some (some (.tup [.int qx, .int qy])) → EvD K φ J (tOp (rIxT K) (tVar 1) (tC (.int 0))) ρ (.int qx) := fun h => ev_ixT (ds := [.int qx, .int qy]) (ev_var h) ev_int rfl
  have q1 : ∀ {φ : Addr → Prop} {J : Hp → Prop} {ρ : List (Option D)}, ρ[1]? = some (some (.tup [.int qx, .int qy])) → EvD K φ J (tOp (rIxT K) (tVar 1) (tC (.int 1))) ρ (.int qy) := fun h => ev_ixT (ds := [.int qx, .int qy]) (ev_var h) ev_int rfl
  refine q (st_set (d := .int (px - qx)) A (ev_sub (p0 rfl) (q0 rfl)) fun σ1 H1 A1 => ?_)
  replace A1 : At K φ (Same H) [some (.tup [.int px, .int py]), some (.tup [.int qx, .int qy]), some (.int (px - qx)), none] σ1 H1 := A1
  dsimp only
  refine q (st_set (d := .int (py - qy)) A1 (ev_sub (p1 rfl) (q1 rfl)) fun σ2 H2 A2 => ?_)
  replace A2 : At K φ (Same H) [some (.tup [.int px, .int py]), some (.tup [.int qx, .int qy]), some (.int (px - qx)), some (.int (py - qy))] σ2 H2 := A2
  dsimp only
  exact st_ret A2 (ev_mul (ev_mul (ev_add (ev_mul (ev_var (i := 2) rfl) (ev_var (i := 2) rfl) (.inl (by omega))) (ev_mul (ev_var (i := 3) rfl) (ev_var (i := 3) rfl) (.inl (by omega)))) ev_int (.inr (by decide))) ev_int (.inr (by decide))) fun v d' H6 e' A6 rr => hrt v H6 A6.j (by subst e'; exact rr)
def RFree : List D → D → Prop := fun ds d => ∃ (s f : Nat) (lo hi : Int), ds = [.int (s : Int), .int (f : Int)] ∧ s ≤ 1000000000 ∧ 1 ≤ f ∧ f ≤ 10000 ∧ LvlOk (max 1 s * f * f) 1 lo hi ∧ d = .tup [.int (lo + -2755), .int (hi + -2755)]
theorem sc_free_loss : FnScope ["s", "f"] ["s", "f"] (defScope s_free_loss) := ⟨rfl, rfl, rfl, by decide +kernel, rfl, by decide +kernel, by decide +kernel⟩
theorem free_bd {s f : Nat} (hs : s ≤ 1000000000) (f0 : 1 ≤ f) (f1 : f ≤ 10000) : 1 ≤ max 1 s * f * f ∧ max 1 s * f * f ≤ 2 ^ 98 ∧ max 1 s ≤ 1000000000 := by
  have m1 : 1 ≤ max 1 s := by omega
  have m2 : max 1 s ≤ 1000000000 := by omega
  refine ⟨Nat.mul_pos (Nat.mul_pos m1 f0) f0, ?_, m2⟩
  have := Nat.mul_le_mul (Nat.mul_le_mul m2 f1) f1
  exact Nat.le_trans this (by decide)
theorem ok_free_loss (B : Bi mg) (C : Cs mg) {f g1 g2 : Addr} {fd gd1 gd2 : FuncData} (F : Fun K "free_loss" "free_loss" s_free_loss f fd) (L_level_of : Lk K mg "level_of" g1 gd1 ["p", "q"]) (G_level_of : FnOk P w K mg base CX0 4 g1 gd1 ["p", "q"] (SpD K 2 RLv))
    (L_shifted : Lk K mg "shifted" g2 gd2 ["a", "number"]) (G_shifted : FnOk P w K mg base CX0 1 g2 gd2 ["a", "number"] (SpD K 2 RShift)) : FnOk P w K mg base CX0 5 f fd ["s", "f"] (SpD K 2 RFree) := by
  have S := sc_free_loss
  refine fn_ok F S rfl 0 rfl fun cdv A outer s H E hr => ⟨_, ((pss_one (ps_ret (pe_call G_shifted (hr.mono (by first | exact Nat.le_refl _ | decide | omega)) (by rfl) L_shifted.m L_shifted.kp L_shifted.bi .nil pass0 (pa_cons (pe_call G_level_of (hr.mono (by first | exact Nat.le_refl _ | decide | omega)) (by rfl) L_level_of.m L_level_of.kp L_level_of.bi .nil pass0 (pa_cons (pe_op op_mul (pe_op op_mul (pe_callB (c_max2 rfl) (by rfl) B.max (by decide +kernel) (pa_cons pe_int (pa_cons (pv 0) pa_nil))) (pv 1)) (pv 1)) (pa_cons pe_int pa_nil))) (pa_cons (pe_un un_neg (pe_cst C.CONSTANT)) pa_nil)))))), fun φ ds d H D0 σ hl hR hrt hnx A => ?_⟩
  obtain ⟨s', f', lo, hi, rfl, hs, f0, f1, lv, rfl⟩ := hR
  replace A : At K φ (Same H) [some (.int (s' : Int)), some (.int (f' : Int))] σ H := A
  obtain ⟨b1, b2, b3⟩ := free_bd hs f0 f1
  have e1 : max (1 : Int) (s' : Int) = ((max 1 s' : Nat) : Int) := by omega
  refine st_ret A (ev_callD (ea_cons (ev_callD (d := .tup [.int lo, .int hi]) (ea_cons (x := .int ((max 1 s' * f' * f' : Nat) : Int)) ((ev_mul (ev_mul ((ev_max2 ev_int (ev_var (i := 0) rfl)).is (by rw [e1])) (ev_var (i := 1) rfl) (.inr (by omega))) (ev_var (i := 1) rfl) (.inr (by omega))).is (by rw [← Int.natCast_mul, ← Int.natCast_mul])) (ea_cons (x := .int ((1 : Nat) : Int)) ev_int ea_nil)) ⟨_, 1, lo, hi, rfl, by decide, b1, b2, lv, rfl⟩) (ea_cons (ev_neg ev_int) ea_nil)) ⟨lo, hi, _, rfl, rfl⟩) fun v d' H6 e' A6 rr => hrt v H6 A6.j (by subst e'; exact rr)
def REdge (c : Addr) : List D → D ⊕ Addr → Prop := fun ds o => ∃ (w h : Nat) (g : List (List Int)) (px py qx qy a b f : Int), Grid w h g ∧ ds = [gridD g, .tup [.int px, .int py], .tup [.int qx, .int qy], .int a, .int b, .int f] ∧ ((¬ twoPl w h px py qx qy = true ∧ o = .inr c) ∨ (twoPl w h px py qx qy = true ∧ EdIn (clrI g px py qx qy a b) (distI px py qx qy) f ∧ ∃ d, EdgeV (clrI g px py qx qy a b) (distI px py qx qy) f d ∧ o = .inl d))
theorem sc_edge_loss : FnScope ["terrain", "p", "q", "a", "b", "f", "found", "n", "c", "spread", "k", "above", "below", "d"] ["terrain", "p", "q", "a", "b", "f"] (defScope s_edge_loss) := ⟨rfl, rfl, rfl, by decide +kernel, rfl, by decide +kernel, by decide +kernel⟩
theorem two_in {w h : Nat} {px py qx qy : Int} (h1 : w ≤ 40) (h2 : h ≤ 40) (h : twoPl w h px py qx qy = true) : (0 ≤ px ∧ px ≤ 1000) ∧ (0 ≤ py ∧ py ≤ 1000) ∧ (0 ≤ qx ∧ qx ≤ 1000) ∧ (0 ≤ qy ∧ qy ≤ 1000) := by
  unfold twoPl inPlace at h
  simp only [Bool.and_eq_true, decide_eq_true_eq] at h
  omega
/-- the list of the spreads -/
def sprL (ns : List Int) (c : Int) : List Int := ((List.range ns.length).filter fun k => decide (ns[k]? = some c)).map fun k : Nat => ((k : Int) + 1) * ((ns.length : Int) - k)
theorem spr_L {ns : List Int} {c s : Int} (h : SprOk ns c s) : s ∈ sprL ns c ∧ ∀ y ∈ sprL ns c, s ≤ y := by
  obtain ⟨⟨k, k1, k2, rfl⟩, h2⟩ := h
  refine ⟨List.mem_map.mpr ⟨k, List.mem_filter.mpr ⟨List.mem_range.mpr k1, decide_eq_true k2⟩, rfl⟩, fun y hy => ?_⟩
  obtain ⟨j, hj, rfl⟩ := List.mem_map.mp hy
  obtain ⟨j1, j2⟩ := List.mem_filter.mp hj
  exact h2 j (List.mem_range.mp j1) (of_decide_eq_true j2)
set_option maxHeartbeats 1000000 in
theorem ok_edge_loss (B : Bi mg) (C : Cs mg) {c : Addr} {f g1 g2 g3 g4 g5 : Addr} {fd gd1 gd2 gd3 gd4 gd5 : FuncData} (F : Fun K "edge_loss" "edge_loss" s_edge_loss f fd)
    (L_clearances : Lk K mg "clearances" g1 gd1 ["terrain", "p", "q", "a", "b"]) (G_clearances : FnOk P w K mg base (L2.CX P w) 3 g1 gd1 ["terrain", "p", "q", "a", "b"] (SpX K 5 (RClear c)))
    (L_level_of : Lk K mg "level_of" g2 gd2 ["p", "q"]) (G_level_of : FnOk P w K mg base CX0 4 g2 gd2 ["p", "q"] (SpD K 2 RLv))
    (L_shifted : Lk K mg "shifted" g3 gd3 ["a", "number"]) (G_shifted : FnOk P w K mg base CX0 1 g3 gd3 ["a", "number"] (SpD K 2 RShift))
    (L_half_of : Lk K mg "half_of" g4 gd4 ["pair"]) (G_half_of : FnOk P w K mg base CX0 1 g4 gd4 ["pair"] (SpD K 1 RHalf))
    (L_square_distance : Lk K mg "square_distance" g5 gd5 ["p", "q"]) (G_square_distance : FnOk P w K mg base CX0 1 g5 gd5 ["p", "q"] (SpD K 2 RDist)) :
    FnOk P w K mg base (L2.CX P w) 5 f fd ["terrain", "p", "q", "a", "b", "f"] (SpX K 6 (REdge c)) := by
  have S := sc_edge_loss
  refine fn_okX F S rfl 8 rfl fun cdv A outer s H E hr => ⟨_, ((pss_cons (ps_set (i := 6) S.nd rfl (by first | exact Or.inl rfl | exact Or.inr rfl) (pe_callS G_clearances (hr.mono (by first | exact Nat.le_refl _ | decide | omega)) (by rfl) L_clearances.m L_clearances.kp L_clearances.bi (fun σ => passAt (takes_of rfl rfl rfl rfl) σ) (pa_cons (pv 0) (pa_cons (pv 1) (pa_cons (pv 2) (pa_cons (pv 3) (pa_cons (pv 4) pa_nil)))))))
 (pss_cons (ps_if (PW.pt (pw_or (pt_cmpR (op_eqD hr.units) (pv 6) (pe_lst pa_nil) (nomark _)) (pw_or1 (pt_cmpR op_le (pe_callB (cr_max rfl) (by rfl) B.max (by decide +kernel) (pa_cons (pv 6) pa_nil)) pe_int (nomark _)))))
 (pss_one (ps_ret (pe_tup (pa_cons pe_int (pa_cons pe_int pa_nil)))))
 pss_nil)
 (pss_cons (ps_set (i := 7) S.nd rfl (by first | exact Or.inl rfl | exact Or.inr rfl) (pe_op op_add (pe_callB c_len (by rfl) B.len (by decide +kernel) (pa_cons (pv 6) pa_nil)) pe_int))
 (pss_cons (ps_set (i := 8) S.nd rfl (by first | exact Or.inl rfl | exact Or.inr rfl) (pe_callB (cr_max rfl) (by rfl) B.max (by decide +kernel) (pa_cons (pv 6) pa_nil)))
 (pss_cons (ps_set (i := 9) S.nd rfl (by first | exact Or.inl rfl | exact Or.inr rfl) (pe_callB (cr_min rfl) (by rfl) B.min (by decide +kernel) (pa_cons (pe_lc (own := [("k", 10)]) (g := (gName 10)) (by rfl) S.nd (pi_range2 (by rfl) B.range (pa_cons pe_int (pa_cons (pv 7) pa_nil))) (blkOk_by (N := ["terrain", "p", "q", "a", "b", "f", "found", "n", "c", "spread", "k", "above", "below", "d"]) (sc := defScope s_edge_loss) (own := [("k", 10)]) (by decide +kernel)) (fun _ _ _ _ _ => (pg_name (i := 10) S.nd rfl (by first | exact Or.inl rfl | exact Or.inr rfl))) (fun _ _ _ _ _ => pts_one (pt_cmpR op_eq (pe_ix (kix_list (K := K) (by rfl)) (pv 6) (pe_op op_sub (pv 10) pe_int) (fun _ _ => rfl)) (pv 8) (nomark _))) (fun _ _ _ _ _ => (pe_op op_mul (pv 10) (pe_op op_sub (pv 7) (pv 10))))) pa_nil)))
 (pss_cons (ps_set (i := 11) S.nd rfl (by first | exact Or.inl rfl | exact Or.inr rfl) (pe_op op_mul (pe_op op_mul (pv 8) (pv 8)) (pv 5)))
 (pss_cons (ps_set (i := 12) S.nd rfl (by first | exact Or.inl rfl | exact Or.inr rfl) (pe_op op_mul pe_int (pv 9)))
 (pss_cons (ps_set (i := 13) S.nd rfl (by first | exact Or.inl rfl | exact Or.inr rfl) (pe_call G_square_distance (hr.mono (by first | exact Nat.le_refl _ | decide | omega)) (by rfl) L_square_distance.m L_square_distance.kp L_square_distance.bi .nil pass0 (pa_cons (pv 1) (pa_cons (pv 2) pa_nil))))
 (pss_one (ps_ret (pe_call G_shifted (hr.mono (by first | exact Nat.le_refl _ | decide | omega)) (by rfl) L_shifted.m L_shifted.kp L_shifted.bi .nil pass0 (pa_cons (pe_call G_half_of (hr.mono (by first | exact Nat.le_refl _ | decide | omega)) (by rfl) L_half_of.m L_half_of.kp L_half_of.bi .nil pass0 (pa_cons (pe_call G_level_of (hr.mono (by first | exact Nat.le_refl _ | decide | omega)) (by rfl) L_level_of.m L_level_of.kp L_level_of.bi .nil pass0 (pa_cons (pe_op op_add (pe_op op_mul (pe_op op_mul (pv 12) (pv 12)) (pv 13)) (pe_op op_mul (pv 11) (pv 11))) (pa_cons (pe_op op_mul (pe_op op_mul (pv 12) (pv 12)) (pv 13)) pa_nil))) pa_nil)) (pa_cons (pe_cst C.EDGE) pa_nil)))))))))))))), fun φ ds o H D0 σ hl hR hrt hex A => ?_⟩
  obtain ⟨w', h', g, px, py, qx, qy, a, b, f', G, rfl, hR⟩ := hR
  replace A : At K φ (Same H) [some (gridD g), some (.tup [.int px, .int py]), some (.tup [.int qx, .int qy]), some (.int a), some (.int b), some (.int f'), none, none, none, none, none, none, none, none] σ H := A
  have ha5 : ∀ {J : Hp → Prop}, EvAD K φ J (tCons (tVar 0) (tCons (tVar 1) (tCons (tVar 2) (tCons (tVar 3) (tCons (tVar 4) tNil))))) [some (gridD g), some (.tup [.int px, .int py]), some (.tup [.int qx, .int qy]), some (.int a), some (.int b), some (.int f'), none, none, none, none, none, none, none, none] [gridD g, .tup [.int px, .int py], .tup [.int qx, .int qy], .int a, .int b] := fun {J} => ea_cons (ev_var rfl) (ea_cons (ev_var rfl) (ea_cons (ev_var rfl) (ea_cons (ev_var rfl) (ea_cons (ev_var rfl) ea_nil))))
  rcases hR with ⟨h2, rfl⟩ | ⟨h2, hin, d, hd, rfl⟩
  · refine q (st_rs A (rs_call (c := c) (R := RClear c) ha5 ⟨w', h', g, px, py, qx, qy, a, b, G, rfl, by rw [if_neg h2]⟩) fun H2 b A2 => hex c rfl H2 A2.j)
  · have hrt := hrt d rfl
    obtain ⟨i1, i2, i3, i4⟩ := two_in G.w2 G.h2 h2
    clear F L_clearances L_level_of L_shifted L_half_of L_square_distance G_clearances G_level_of G_shifted G_half_of G_square_distance hex
    refine q (st_set (d := .lst ((clrI g px py qx qy a b).map D.int)) A ((ev_callX (R := RClear c) ha5 ⟨w', h', g, px, py, qx, qy, a, b, G, rfl, by rw [if_pos h2]⟩).is (by rw [clr_I])) fun σ1 H1 A1 => ?_)
    generalize hns : clrI g px py qx qy a b = ns at A1 hin hd
    replace A1 : At K φ (Same H) [some (gridD g), some (.tup [.int px, .int py]), some (.tup [.int qx, .int qy]), some (.int a), some (.int b), some (.int f'), some (.lst (ns.map D.int)), none, none, none, none, none, none, none] σ1 H1 := A1
    have hl40 := hin.l
    dsimp only
    have fin : ∀ {J : Hp → Prop} {ρ : List (Option D)} {σ' : L2.St} {H' : Hp}, (∀ H', J H' → Same H H') → EdgeV ns (distI px py qx qy) f' (.tup [.int 0, .int 0]) → At K φ J ρ σ' H' → tRet (tTup (tCons (tC (.int 0)) (tCons (tC (.int 0)) tNil))) D0 σ' H' := fun {J ρ σ' H'} hJ hz A' => st_ret A' (ev_tup (ea_cons ev_int (ea_cons ev_int ea_nil))) fun v d' H6 e' A6 rr => hrt v H6 (hJ _ A6.j) (by rw [edge_uniq hin hd hz]; subst e'; exact rr)
    cases hnil : ns with
    | nil =>
      subst hnil
      refine q (st_yes A1 (et_or (et_test (ev_eqQ (ev_var (i := 6) rfl) (ev_lst ea_nil) rfl rfl)) fun hb => (show EvX K φ (Same H) _ _ true from by rw [eqvD_nil] at hb; exact absurd hb (by decide))) (by rw [eqvD_nil]; rfl) fun H2 A2 => fin (fun _ h => h) (.zero fun y hy => by cases hy) A2)
    | cons y0 r0 =>
      have hne : ns ≠ [] := by rw [hnil]; exact fun z => nomatch z
      clear hnil
      obtain ⟨c', hc, hmx⟩ := max_ex hne
      have lpos : 0 < ns.length := List.length_pos_iff.mpr hne
      refine q (st_if A1 ((et_or (et_test (ev_eqQ (ev_var (i := 6) rfl) (ev_lst ea_nil) okq_ints rfl)) fun _ => et_test (ev_le (ev_maxI (ev_var (i := 6) rfl) hc hmx) ev_int)).is (c := decide (c' ≤ 0)) (by
        rw [eqvD_nil]
        cases ns with
        | nil => exact absurd rfl hne
        | cons x r => rfl)) (fun hb H2 A2 => fin (fun _ h => h) (.zero fun y hy => Int.le_trans (hmx y hy) (of_decide_eq_true hb.symm)) A2) (fun hb H2 A2 => st_next ?_))
      have c0 : 0 < c' := Int.not_le.mp (of_decide_eq_false hb.symm)
      cases hd with
      | zero z =>
        have := z _ hc
        omega
      | @some c2 s' lo hi c20 cm2 cx2 hs lv =>
        have ec : c2 = c' := Int.le_antisymm (hmx _ cm2) (cx2 _ hc)
        subst ec
        obtain ⟨z1, z2, z3, z4, z5, ⟨s0, s1⟩, ⟨t0, t1⟩, ⟨e0, e1⟩, k0, k1⟩ := ed_bd hin c20 cm2 hs
        obtain ⟨sa, sb, sc⟩ := spr_bd hs hl40
        have f0 := hin.f0
        have f1 := hin.f1
        have dd1 := hin.d1
        have dd0 := hin.d0 hne
        dsimp only
        refine q (st_set (d := .int ((ns.length : Int) + 1)) A2 ((ev_add (ev_lenL (ev_var (i := 6) rfl)) ev_int).is (by rw [List.length_map])) fun σ3 H3 A3 => ?_)
        replace A3 : At K φ (Same H) [some (gridD g), some (.tup [.int px, .int py]), some (.tup [.int qx, .int qy]), some (.int a), some (.int b), some (.int f'), some (.lst (ns.map D.int)), some (.int ((ns.length : Int) + 1)), none, none, none, none, none, none] σ3 H3 := A3
        dsimp only
        refine q (st_set (d := .int c2) A3 (ev_maxI (ev_var (i := 6) rfl) hc hmx) fun σ4 H4 A4 => ?_)
        replace A4 : At K φ (Same H) [some (gridD g), some (.tup [.int px, .int py]), some (.tup [.int qx, .int qy]), some (.int a), some (.int b), some (.int f'), some (.lst (ns.map D.int)), some (.int ((ns.length : Int) + 1)), some (.int c2), none, none, none, none, none] σ4 H4 := A4
        dsimp only
        obtain ⟨sm, sle⟩ := spr_L hs
        refine q (st_set (d := .int s') A4 (ev_minI (ns := sprL ns c2) ((ev_lcF (k := 10) (p := fun d => match d with | .int k => decide (ns[(k - 1).toNat]? = some c2) | _ => false) (f := fun d => match d with | .int k => .int (k * ((ns.length : Int) + 1 - k)) | d => d) (it_range2 (ea_cons ev_int (ea_cons (ev_var (i := 7) rfl) ea_nil)) (by omega)) (by rw [rangeD_length]; omega) (fun d hd φ' J' hx => ?_) (fun d hd hp φ' J' hx => ?_)).is ?_) sm sle) fun σ5 H5 A5 => ?_)
        · unfold rangeD at hd
          obtain ⟨k, hk, rfl⟩ := List.mem_map.mp hd
          rw [List.mem_range] at hk
          have hkl : k < ns.length := by omega
          refine (et_test (ev_eqI (i := ns[k]) (ev_ixL (ds := ns.map D.int) (ev_var rfl) (ev_sub (ev_var rfl) ev_int) ?_) (ev_var rfl))).is ?_
          · rw [show (1 : Int) + (k : Int) - 1 = (k : Int) by omega]
            exact atI_ofNat (by rw [List.getElem?_map, List.getElem?_eq_getElem hkl]; rfl)
          · show decide (ns[k] = c2) = decide (ns[((1 : Int) + (k : Int) - 1).toNat]? = some c2)
            rw [show ((1 : Int) + (k : Int) - 1).toNat = k by omega, List.getElem?_eq_getElem hkl]
            exact decide_eq_decide.mpr ⟨fun h => by rw [h], fun h => Option.some.inj h⟩
        · unfold rangeD at hd
          obtain ⟨k, hk, rfl⟩ := List.mem_map.mp hd
          rw [List.mem_range] at hk
          exact ev_mul (ev_var rfl) (ev_sub (ev_var rfl) (ev_var rfl)) (.inl (by omega))
        · unfold sprL rangeD
          rw [List.filter_map, List.map_map, List.map_map, show ((ns.length : Int) + 1 - 1).toNat = ns.length by omega]
          congr 1
          have ef : ((fun d => match d with | .int k => decide (ns[(k - 1).toNat]? = some c2) | _ => false) ∘ fun i : Nat => D.int (1 + (i : Int))) = fun k : Nat => decide (ns[k]? = some c2) := funext fun k => by
            show decide (ns[((1 : Int) + (k : Int) - 1).toNat]? = some c2) = _
            rw [show ((1 : Int) + (k : Int) - 1).toNat = k by omega]
          rw [ef]
          refine List.map_congr_left fun k _ => ?_
          show D.int ((1 + (k : Int)) * ((ns.length : Int) + 1 - (1 + (k : Int)))) = D.int (((k : Int) + 1) * ((ns.length : Int) - k))
          rw [show (1 : Int) + (k : Int) = (k : Int) + 1 by omega, show (ns.length : Int) + 1 - ((k : Int) + 1) = (ns.length : Int) - k by omega]
        replace A5 : At K φ (Same H) [some (gridD g), some (.tup [.int px, .int py]), some (.tup [.int qx, .int qy]), some (.int a), some (.int b), some (.int f'), some (.lst (ns.map D.int)), some (.int ((ns.length : Int) + 1)), some (.int c2), some (.int s'), none, none, none, none] σ5 H5 := A5
        dsimp only
        refine q (st_set (d := .int (c2 * c2 * f')) A5 (ev_mul (ev_mul (ev_var (i := 8) rfl) (ev_var (i := 8) rfl) (.inl (by have := hin.c1 c2 hc; omega))) (ev_var (i := 5) rfl) (.inr (by omega))) fun σ6 H6 A6 => ?_)
        replace A6 : At K φ (Same H) [some (gridD g), some (.tup [.int px, .int py]), some (.tup [.int qx, .int qy]), some (.int a), some (.int b), some (.int f'), some (.lst (ns.map D.int)), some (.int ((ns.length : Int) + 1)), some (.int c2), some (.int s'), none, some (.int (c2 * c2 * f')), none, none] σ6 H6 := A6
        dsimp only
        refine q (st_set (d := .int (150 * s')) A6 (ev_mul ev_int (ev_var (i := 9) rfl) (.inl (by decide))) fun σ7 H7 A7 => ?_)
        replace A7 : At K φ (Same H) [some (gridD g), some (.tup [.int px, .int py]), some (.tup [.int qx, .int qy]), some (.int a), some (.int b), some (.int f'), some (.lst (ns.map D.int)), some (.int ((ns.length : Int) + 1)), some (.int c2), some (.int s'), none, some (.int (c2 * c2 * f')), some (.int (150 * s')), none] σ7 H7 := A7
        dsimp only
        refine q (st_set (d := .int (distI px py qx qy)) A7 (ev_callD (ea_cons (ev_var (i := 1) rfl) (ea_cons (ev_var (i := 2) rfl) ea_nil)) ⟨px, py, qx, qy, rfl, i1, i2, i3, i4, rfl⟩) fun σ8 H8 A8 => ?_)
        replace A8 : At K φ (Same H) [some (gridD g), some (.tup [.int px, .int py]), some (.tup [.int qx, .int qy]), some (.int a), some (.int b), some (.int f'), some (.lst (ns.map D.int)), some (.int ((ns.length : Int) + 1)), some (.int c2), some (.int s'), none, some (.int (c2 * c2 * f')), some (.int (150 * s')), some (.int (distI px py qx qy))] σ8 H8 := A8
        dsimp only
        refine st_ret A8 (ev_callD (ea_cons (ev_callD (d := .tup [.int (lo / 2), .int (-((-hi) / 2))]) (ea_cons (ev_callD (d := .tup [.int lo, .int hi]) (ea_cons (x := .int ((edP c2 s' f' (distI px py qx qy) : Nat) : Int)) ((ev_add (ev_mul (ev_mul (ev_var (i := 12) rfl) (ev_var (i := 12) rfl) (.inl (by omega))) (ev_var (i := 13) rfl) (.inl (by omega))) (ev_mul (ev_var (i := 11) rfl) (ev_var (i := 11) rfl) (.inl (by omega)))).is (by rw [z5])) (ea_cons (x := .int ((edQ s' (distI px py qx qy) : Nat) : Int)) ((ev_mul (ev_mul (ev_var (i := 12) rfl) (ev_var (i := 12) rfl) (.inl (by omega))) (ev_var (i := 13) rfl) (.inl (by omega))).is (by rw [z4])) ea_nil)) ⟨_, _, lo, hi, rfl, z1, z2, z3, lv, rfl⟩) ea_nil) ⟨lo, hi, rfl, rfl⟩) (ea_cons ev_int ea_nil)) ⟨_, _, 600, rfl, rfl⟩) fun v d' H9 e' A9 rr => hrt v H9 A9.j (by subst e'; exact rr)
end
end

/-! ### bounds of drawn terrains -/
section
theorem cell_in {w h : Nat} {g : List (List Int)} (G : Grid w h g) (hc : ∀ row ∈ g, ∀ c ∈ row, cellOk c) {x y : Int} (hi : inPlace w h x y = true) : cellOk (cellAt g x y) := by
  have hi := inPlace_iff.mp hi
  have h1 : y.toNat < g.length := by rw [G.hl]; omega
  have h2 : x.toNat < (g[y.toNat]).length := by rw [G.wl _ (List.getElem_mem h1)]; omega
  unfold cellAt
  rw [List.getD_eq_getElem?_getD, List.getD_eq_getElem?_getD, List.getElem?_eq_getElem h1, Option.getD_some, List.getElem?_eq_getElem h2, Option.getD_some]
  exact hc _ (List.getElem_mem h1) _ (List.getElem_mem h2)
theorem steps_le9 {w h : Nat} {px py qx qy : Int} (hp : inPlace w h px py = true) (hq : inPlace w h qx qy = true) (hw : w ≤ 9) (hh : h ≤ 9) : 0 ≤ stepsI px py qx qy ∧ stepsI px py qx qy ≤ 8 := by
  rw [inPlace_iff] at hp hq
  unfold stepsI absI
  omega
theorem dist_lo (px py qx qy : Int) : 10000 * (stepsI px py qx qy * stepsI px py qx qy) ≤ distI px py qx qy := by
  have key : ∀ a b : Int, max (absI a) (absI b) * max (absI a) (absI b) ≤ a * a + b * b := fun a b => by
    have sq : ∀ a : Int, absI a * absI a = a * a := fun a => by
      unfold absI
      exact Int.natAbs_mul_self
    have sa := sq a
    have sb := sq b
    have na : 0 ≤ a * a := by rw [← sa]; exact Int.mul_nonneg (by unfold absI; omega) (by unfold absI; omega)
    have nb : 0 ≤ b * b := by rw [← sb]; exact Int.mul_nonneg (by unfold absI; omega) (by unfold absI; omega)
    by_cases h : absI a ≤ absI b
    · rw [Int.max_eq_right h]; omega
    · rw [Int.max_eq_left (by omega)]; omega
  have k := key (px - qx) (py - qy)
  unfold distI stepsI
  generalize max (absI (px - qx)) (absI (py - qy)) * max (absI (px - qx)) (absI (py - qy)) = X at k ⊢
  generalize (px - qx) * (px - qx) + (py - qy) * (py - qy) = Y at k ⊢
  omega
theorem dist_hi {w h : Nat} {px py qx qy : Int} (hp : inPlace w h px py = true) (hq : inPlace w h qx qy = true) (hw : w ≤ 9) (hh : h ≤ 9) : distI px py qx qy ≤ 100000000 := by
  rw [inPlace_iff] at hp hq
  have key : ∀ a : Int, -8 ≤ a → a ≤ 8 → a * a ≤ 64 := fun a h1 h2 => by
    have e : (8 - a) * (8 + a) = 64 - a * a := by grind
    have n := Int.mul_nonneg (a := 8 - a) (b := 8 + a) (by omega) (by omega)
    omega
  have k1 := key (px - qx) (by omega) (by omega)
  have k2 := key (py - qy) (by omega) (by omega)
  unfold distI
  omega
theorem clr_bd {w h : Nat} {g : List (List Int)} {px py qx qy a b : Int} (G : Grid w h g) (hc : ∀ row ∈ g, ∀ c ∈ row, cellOk c) (hp : inPlace w h px py = true) (hq : inPlace w h qx qy = true) (ha : -280 ≤ a) (hb : -280 ≤ b) {y : Int} (hy : y ∈ clrI g px py qx qy a b) : y ≤ stepsI px py qx qy * 6160 := by
  obtain ⟨i, hi, rfl⟩ := List.mem_map.mp hy
  have hi := List.mem_range.mp hi
  unfold clrV
  generalize hn : stepsI px py qx qy = n at hi ⊢
  have hk : 0 ≤ 1 + (i : Int) ∧ 1 + (i : Int) ≤ n ∧ 0 < n := by omega
  generalize 1 + (i : Int) = k at hk ⊢
  have c := cell_in G hc (near_in hp hq (k := k) (n := n) hk.1 hk.2.1 hk.2.2)
  unfold cellOk at c
  generalize cellAt g (near px qx k n) (near py qy k n) = v at c ⊢
  have c1 := Int.mul_le_mul_of_nonneg_left c.2 (show 0 ≤ n by omega)
  have c2 := Int.mul_le_mul_of_nonneg_left ha (show 0 ≤ n - k by omega)
  have c3 := Int.mul_le_mul_of_nonneg_left hb hk.1
  have e : n * a + (b - a) * k = (n - k) * a + k * b := by grind
  omega
theorem clrI_len {g : List (List Int)} {px py qx qy a b : Int} : (clrI g px py qx qy a b).length = (stepsI px py qx qy - 1).toNat := by
  unfold clrI
  rw [List.length_map, List.length_range]
theorem ed16 {n c s f D2 : Int} (n0 : 0 ≤ n) (c0 : 0 < c) (c1 : c ≤ n * 6160) (f0 : 1 ≤ f) (f1 : f ≤ 6000) (s1 : n ≤ 2 * s) (d : 10000 * (n * n) ≤ D2) : edP c s f D2 ≤ 10 ^ 16 * edQ s D2 := by
  have nn : 0 ≤ n * n := Int.mul_nonneg n0 n0
  have e2 : c * c ≤ n * 6160 * (n * 6160) := Int.mul_le_mul c1 c1 (by omega) (by omega)
  have cc : 0 ≤ c * c := Int.mul_nonneg (by omega) (by omega)
  have g2 : c * c * f ≤ n * 6160 * (n * 6160) * 6000 := Int.mul_le_mul e2 f1 (by omega) (by omega)
  have gg : 0 ≤ c * c * f := Int.mul_nonneg cc (by omega)
  have e3 : n * 6160 * (n * 6160) * 6000 = 227673600000 * (n * n) := by grind
  rw [e3] at g2
  have t2 : c * c * f * (c * c * f) ≤ 227673600000 * (n * n) * (227673600000 * (n * n)) := Int.mul_le_mul g2 g2 gg (by omega)
  have tt : 0 ≤ c * c * f * (c * c * f) := Int.mul_nonneg gg gg
  have s2 : 75 * n * (75 * n) ≤ 150 * s * (150 * s) := Int.mul_le_mul (by omega) (by omega) (by omega) (by omega)
  have x1 : 75 * n * (75 * n) * (10000 * (n * n)) ≤ 150 * s * (150 * s) * D2 := Int.mul_le_mul s2 d (by omega) (Int.mul_nonneg (by omega) (by omega))
  have q1 : 75 * n * (75 * n) * (10000 * (n * n)) = 56250000 * (n * n * (n * n)) := by grind
  have q2 : 227673600000 * (n * n) * (227673600000 * (n * n)) = 51835268136960000000000 * (n * n * (n * n)) := by grind
  rw [q1] at x1
  rw [q2] at t2
  have z : 0 ≤ n * n * (n * n) := Int.mul_nonneg nn nn
  unfold edP edQ
  have e16 : (10 : Nat) ^ 16 = 10000000000000000 := by decide
  rw [e16]
  generalize 150 * s * (150 * s) * D2 = X at x1 ⊢
  generalize c * c * f * (c * c * f) = Y at t2 tt ⊢
  generalize n * n * (n * n) = Z at x1 t2 z
  omega
theorem ed_in {w h : Nat} {g : List (List Int)} {px py qx qy a b f : Int} (G : Grid w h g) (hc : ∀ row ∈ g, ∀ c ∈ row, cellOk c) (hw : w ≤ 9) (hh : h ≤ 9) (hp : inPlace w h px py = true) (hq : inPlace w h qx qy = true) (ha : -280 ≤ a) (hb : -280 ≤ b) (f0 : 1 ≤ f) (f1 : f ≤ 6000) : EdIn (clrI g px py qx qy a b) (distI px py qx qy) f := by
  obtain ⟨n0, n1⟩ := steps_le9 hp hq hw hh
  have dl := dist_lo px py qx qy
  have nn := Int.mul_le_mul (a := stepsI px py qx qy) (b := stepsI px py qx qy) (c := 8) (d := 8) (by omega) (by omega) n0 (by decide)
  refine ⟨f0, by omega, ?_, fun y hy => ?_, fun hne => ?_, dist_hi hp hq hw hh⟩
  · rw [clrI_len]; omega
  · have := clr_bd G hc hp hq ha hb hy
    omega
  · have l := List.length_pos_iff.mpr hne
    rw [clrI_len] at l
    have n2 := Int.mul_le_mul (a := 1) (b := 1) (c := stepsI px py qx qy) (d := stepsI px py qx qy) (by omega) (by omega) (by decide) n0
    omega
theorem lvl16 {w h : Nat} {g : List (List Int)} {px py qx qy a b f c s : Int} (G : Grid w h g) (hc : ∀ row ∈ g, ∀ c ∈ row, cellOk c) (hw : w ≤ 9) (hh : h ≤ 9) (hp : inPlace w h px py = true) (hq : inPlace w h qx qy = true) (ha : -280 ≤ a) (hb : -280 ≤ b) (f0 : 1 ≤ f) (f1 : f ≤ 6000) (c0 : 0 < c) (cm : c ∈ clrI g px py qx qy a b) (hs : SprOk (clrI g px py qx qy a b) c s) : edP c s f (distI px py qx qy) ≤ 10 ^ 16 * edQ s (distI px py qx qy) := by
  obtain ⟨n0, n1⟩ := steps_le9 hp hq hw hh
  obtain ⟨s0, s1, s2⟩ := spr_bd hs (ed_in G hc hw hh hp hq ha hb f0 f1).l
  rw [clrI_len] at s0
  have l := List.length_pos_of_mem cm
  rw [clrI_len] at l
  exact ed16 n0 c0 (clr_bd G hc hp hq ha hb cm) f0 f1 (by omega) (dist_lo px py qx qy)
theorem out_pl {w h : Nat} {px py : Int} : ¬ twoPl w h px py (w : Int) 0 = true := by
  unfold twoPl
  rw [show inPlace w h (w : Int) 0 = false by rw [← Bool.not_eq_true, inPlace_iff]; omega, Bool.and_false]
  exact fun h => nomatch h
end

/-! ### antennas -/
section
structure Sta where
  nm : Str
  x : Int
  y : Int
  mast : Int
  power : Int
  mhz : Int
  ant : List (Int × Int × Int)
def lobeD (l : Int × Int × Int) : D := .tup [.int l.1, .int l.2.1, .int l.2.2]
def staD (s : Sta) : D := .tup [.str s.nm, .tup [.int s.x, .int s.y], .int s.mast, .int s.power, .int s.mhz, .tup (s.ant.map lobeD)]
def turnI (dx dy : Int) : Int := if (decide (0 < dy) || (decide (dy = 0) && decide (0 < dx))) then 0 else 1
def befB (dx dy x y : Int) : Bool := if turnI dx dy ≠ turnI x y then decide (turnI dx dy < turnI x y) else decide (0 < dx * y - dy * x)
def gainT (ant : List (Int × Int × Int)) (dx dy : Int) : Int :=
  match (ant.filter fun l => !befB dx dy l.1 l.2.1).getLast? with
  | some l => l.2.2
  | none => match ant.getLast? with
    | some l => l.2.2
    | none => 0
def gainB (s : Sta) (px py : Int) : Int := if s.x = px ∧ s.y = py then 0 else gainT s.ant (px - s.x) (py - s.y)
theorem atI_snoc77 {α : Type} {xs : List α} {y : α} : L2.atI (xs ++ [y]) (-1) = some y := by
  have e : L2.ixN (xs ++ [y]).length (-1) = some xs.length := by
    unfold L2.ixN
    rw [List.length_append, if_neg (by decide), List.length_singleton, if_pos (by omega)]
    congr 1
    show (-1 + ((xs.length + 1 : Nat) : Int)).toNat = _
    omega
  unfold L2.atI
  rw [e]
  show (xs ++ [y])[xs.length]? = _
  rw [List.getElem?_append_right (Nat.le_refl _), Nat.sub_self]
  rfl
theorem atI_lastG {α : Type} {xs : List α} {x : α} (h : xs.getLast? = some x) : L2.atI xs (-1) = some x := by
  have hne : xs ≠ [] := by
    rintro rfl
    cases h
  have e : xs = xs.dropLast ++ [x] := by
    have := List.dropLast_concat_getLast hne
    rw [List.getLast?_eq_some_getLast hne] at h
    cases h
    exact this.symm
  rw [e]
  exact atI_snoc77
def lobeOf : D → Int × Int × Int
  | .tup [.int a, .int b, .int c] => (a, b, c)
  | _ => (0, 0, 0)
theorem lobeOf_D (l : Int × Int × Int) : lobeOf (lobeD l) = l := rfl
theorem okq_lobes {ls : List (Int × Int × Int)} : okq 64 (.lst (ls.map lobeD)) = true := by
  show (ls.map lobeD).all (okq 63) = true
  rw [List.all_map, List.all_eq_true]
  intro l _
  rfl
section
variable {P : Program} {w : World} {K : PySem.W.Frag} {mg : Str → Option Value} {base : Heap}
def RTurn : List D → D → Prop := fun ds d => ∃ dx dy : Int, ds = [.int dx, .int dy] ∧ d = .int (turnI dx dy)
theorem sc_half_of_turn : FnScope ["dx", "dy"] ["dx", "dy"] (defScope s_half_of_turn) := ⟨rfl, rfl, rfl, by decide +kernel, rfl, by decide +kernel, by decide +kernel⟩
theorem ok_half_of_turn (B : Bi mg) {f : Addr} {fd : FuncData} (F : Fun K "half_of_turn" "half_of_turn" s_half_of_turn f fd) : FnOk P w K mg base CX0 1 f fd ["dx", "dy"] (SpD K 2 RTurn) := by
  have S := sc_half_of_turn
  refine fn_ok F S rfl 0 rfl fun cdv A outer s H E hr => ⟨_, ((pss_one (ps_ret (pe_ifExp (PW.pt (pw_or (pt_cmpR op_gt (pv 1) pe_int (nomark _)) (pw_or1 (PW.pt (pw_and (pt_cmpR op_eq (pv 1) pe_int (nomark _)) (pw_and1 (pt_cmpR op_gt (pv 0) pe_int (nomark _)))))))) pe_int pe_int)))), fun φ ds d H D0 σ hl hR hrt hnx A => ?_⟩
  obtain ⟨dx, dy, rfl, rfl⟩ := hR
  replace A : At K φ (Same H) [some (.int dx), some (.int dy)] σ H := A
  refine st_ret A (ev_if (P := fun d => d = .int (turnI dx dy)) (et_or (et_test (ev_gt (ev_var (i := 1) rfl) ev_int)) fun _ => et_and (et_test (ev_eqI (ev_var (i := 1) rfl) ev_int)) fun _ => et_test (ev_gt (ev_var (i := 0) rfl) ev_int)) (fun hb => ?_) fun hb => ?_) fun v d' H6 e' A6 rr => hrt v H6 A6.j (by subst e'; exact rr)
  · exact (ev_int).imp fun d e => by
      rw [e]
      unfold turnI
      rw [if_pos hb.symm]
  · exact (ev_int).imp fun d e => by
      rw [e]
      unfold turnI
      rw [if_neg (by rw [← hb]; exact Bool.false_ne_true)]
def RBef : List D → D → Prop := fun ds d => ∃ (dx dy : Int) (l : Int × Int × Int), ds = [.tup [.int dx, .int dy], lobeD l] ∧ (-1000 ≤ dx ∧ dx ≤ 1000) ∧ (-1000 ≤ dy ∧ dy ≤ 1000) ∧ d = .bl (befB dx dy l.1 l.2.1)
theorem sc_is_before : FnScope ["first", "second", "one", "two"] ["first", "second"] (defScope s_is_before) := ⟨rfl, rfl, rfl, by decide +kernel, rfl, by decide +kernel, by decide +kernel⟩
theorem ok_is_before (B : Bi mg) {f g1 : Addr} {fd gd1 : FuncData} (F : Fun K "is_before" "is_before" s_is_before f fd) (L_half_of_turn : Lk K mg "half_of_turn" g1 gd1 ["dx", "dy"]) (G_half_of_turn : FnOk P w K mg base CX0 1 g1 gd1 ["dx", "dy"] (SpD K 2 RTurn)) : FnOk P w K mg base CX0 2 f fd ["first", "second"] (SpD K 2 RBef) := by
  have S := sc_is_before
  refine fn_ok F S rfl 2 rfl fun cdv A outer s H E hr => ⟨_, ((pss_cons (ps_set (i := 2) S.nd rfl (by first | exact Or.inl rfl | exact Or.inr rfl) (pe_call G_half_of_turn (hr.mono (by first | exact Nat.le_refl _ | decide | omega)) (by rfl) L_half_of_turn.m L_half_of_turn.kp L_half_of_turn.bi .nil pass0 (pa_cons (pe_ix ix_tup (pv 0) pe_int (fun _ _ => rfl)) (pa_cons (pe_ix ix_tup (pv 0) pe_int (fun _ _ => rfl)) pa_nil))))
 (pss_cons (ps_set (i := 3) S.nd rfl (by first | exact Or.inl rfl | exact Or.inr rfl) (pe_call G_half_of_turn (hr.mono (by first | exact Nat.le_refl _ | decide | omega)) (by rfl) L_half_of_turn.m L_half_of_turn.kp L_half_of_turn.bi .nil pass0 (pa_cons (pe_ix ix_tup (pv 1) pe_int (fun _ _ => rfl)) (pa_cons (pe_ix ix_tup (pv 1) pe_int (fun _ _ => rfl)) pa_nil))))
 (pss_cons (ps_if (pt_cmpR op_ne (pv 2) (pv 3) (nomark _))
 (pss_one (ps_ret (pe_cmpR op_lt (pv 2) (pv 3) (nomark _))))
 pss_nil)
 (pss_one (ps_ret (pe_cmpR op_gt (pe_op op_sub (pe_op op_mul (pe_ix ix_tup (pv 0) pe_int (fun _ _ => rfl)) (pe_ix ix_tup (pv 1) pe_int (fun _ _ => rfl))) (pe_op op_mul (pe_ix ix_tup (pv 0) pe_int (fun _ _ => rfl)) (pe_ix ix_tup (pv 1) pe_int (fun _ _ => rfl)))) pe_int (nomark _)))))))), fun φ ds d H D0 σ hl hR hrt hnx A => ?_⟩
  obtain ⟨dx, dy, ⟨x, y, gn⟩, rfl, hx, hy, rfl⟩ := hR
  replace A : At K φ (Same H) [some (.tup [.int dx, .int dy]), some (.tup [.int x, .int y, .int gn]), none, none] σ H := A
  clear F L_half_of_turn G_half_of_turn
  have f0 : ∀ {J : Hp → Prop} {o2 o3 : Option D}, EvD K φ J (tOp (rIxT K) (tVar 0) (tC (.int 0))) [some (.tup [.int dx, .int dy]), some (.tup [.int x, .int y, .int gn]), o2, o3] (.int dx) := fun {J o2 o3} => ev_ixT (ds := [.int dx, .int dy]) (ev_var (i := 0) rfl) ev_int rfl
  have f1 : ∀ {J : Hp → Prop} {o2 o3 : Option D}, EvD K φ J (tOp (rIxT K) (tVar 0) (tC (.int 1))) [some (.tup [.int dx, .int dy]), some (.tup [.int x, .int y, .int gn]), o2, o3] (.int dy) := fun {J o2 o3} => ev_ixT (ds := [.int dx, .int dy]) (ev_var (i := 0) rfl) ev_int rfl
  have s0 : ∀ {J : Hp → Prop} {o2 o3 : Option D}, EvD K φ J (tOp (rIxT K) (tVar 1) (tC (.int 0))) [some (.tup [.int dx, .int dy]), some (.tup [.int x, .int y, .int gn]), o2, o3] (.int x) := fun {J o2 o3} => ev_ixT (ds := [.int x, .int y, .int gn]) (ev_var (i := 1) rfl) ev_int rfl
  have s1 : ∀ {J : Hp → Prop} {o2 o3 : Option D}, EvD K φ J (tOp (rIxT K) (tVar 1) (tC (.int 1))) [some (.tup [.int dx, .int dy]), some (.tup [.int x, .int y, .int gn]), o2, o3] (.int y) := fun {J o2 o3} => ev_ixT (ds := [.int x, .int y, .int gn]) (ev_var (i := 1) rfl) ev_int rfl
  refine q (st_set (d := .int (turnI dx dy)) A (ev_callD (ea_cons f0 (ea_cons f1 ea_nil)) ⟨dx, dy, rfl, rfl⟩) fun σ1 H1 A1 => ?_)
  replace A1 : At K φ (Same H) [some (.tup [.int dx, .int dy]), some (.tup [.int x, .int y, .int gn]), some (.int (turnI dx dy)), none] σ1 H1 := A1
  dsimp only
  refine q (st_set (d := .int (turnI x y)) A1 (ev_callD (ea_cons s0 (ea_cons s1 ea_nil)) ⟨x, y, rfl, rfl⟩) fun σ2 H2 A2 => ?_)
  replace A2 : At K φ (Same H) [some (.tup [.int dx, .int dy]), some (.tup [.int x, .int y, .int gn]), some (.int (turnI dx dy)), some (.int (turnI x y))] σ2 H2 := A2
  dsimp only
  refine q (st_if A2 (et_test (ev_neI (ev_var (i := 2) rfl) (ev_var (i := 3) rfl))) (fun hb H3 A3 => ?_) (fun hb H3 A3 => st_next ?_))
  · have hb : turnI dx dy ≠ turnI x y := by
      intro z
      rw [decide_eq_true z] at hb
      cases hb
    exact st_ret A3 (ev_lt (ev_var (i := 2) rfl) (ev_var (i := 3) rfl)) fun v d' H6 e' A6 rr => hrt v H6 A6.j (by unfold befB; rw [if_pos hb]; subst e'; exact rr)
  · have hb : ¬ (turnI dx dy ≠ turnI x y) := by
      intro z
      rw [decide_eq_false z] at hb
      cases hb
    exact st_ret A3 (ev_gt (ev_sub (ev_mul f0 s1 (.inl (by omega))) (ev_mul f1 s0 (.inl (by omega)))) ev_int) fun v d' H6 e' A6 rr => hrt v H6 A6.j (by unfold befB; rw [if_neg hb]; subst e'; exact rr)
def RToward : List D → D → Prop := fun ds d => ∃ (ant : List (Int × Int × Int)) (dx dy : Int), ds = [.tup (ant.map lobeD), .int dx, .int dy] ∧ ant ≠ [] ∧ ant.length ≤ 1000000 ∧ (-1000 ≤ dx ∧ dx ≤ 1000) ∧ (-1000 ≤ dy ∧ dy ≤ 1000) ∧ d = .int (gainT ant dx dy)
theorem sc_gain_toward : FnScope ["antenna", "dx", "dy", "found", "lobe"] ["antenna", "dx", "dy"] (defScope s_gain_toward) := ⟨rfl, rfl, rfl, by decide +kernel, rfl, by decide +kernel, by decide +kernel⟩
theorem ok_gain_toward (B : Bi mg) {f g1 : Addr} {fd gd1 : FuncData} (F : Fun K "gain_toward" "gain_toward" s_gain_toward f fd) (L_is_before : Lk K mg "is_before" g1 gd1 ["first", "second"]) (G_is_before : FnOk P w K mg base CX0 2 g1 gd1 ["first", "second"] (SpD K 2 RBef)) : FnOk P w K mg base CX0 3 f fd ["antenna", "dx", "dy"] (SpD K 3 RToward) := by
  have S := sc_gain_toward
  refine fn_ok F S rfl 2 rfl fun cdv A outer s H E hr => ⟨_, ((pss_cons (ps_setLc (i := 3) (own := [("lobe", 4)]) (g := (gName 4)) (by rfl) S.nd rfl rfl (sw_true rfl rfl rfl (by decide +kernel)) (pi_tup (pv 0)) (blkOk_by (N := ["antenna", "dx", "dy", "found", "lobe"]) (sc := defScope s_gain_toward) (own := [("lobe", 4)]) (by decide +kernel)) (fun _ _ _ _ _ => (pg_name (i := 4) S.nd rfl (by first | exact Or.inl rfl | exact Or.inr rfl))) (fun _ _ _ _ _ => pts_one (pt_not (pt_val (pe_call G_is_before (hr.mono (by first | exact Nat.le_refl _ | decide | omega)) (by rfl) L_is_before.m L_is_before.kp L_is_before.bi .nil pass0 (pa_cons (pe_tup (pa_cons (pv 1) (pa_cons (pv 2) pa_nil))) (pa_cons (pv 4) pa_nil)))))) (fun _ _ _ _ _ => (pv 4)))
 (pss_one (ps_ret (pe_ifExp (pt_cmpR (op_neD hr.units) (pv 3) (pe_lst pa_nil) (nomark _)) (pe_ix ix_tup (pe_ix ix_list (pv 3) (pe_un un_neg pe_int) (fun _ _ => rfl)) pe_int (fun _ _ => rfl)) (pe_ix ix_tup (pe_ix ix_tup (pv 0) (pe_un un_neg pe_int) (fun _ _ => rfl)) pe_int (fun _ _ => rfl))))))), fun φ ds d H D0 σ hl hR hrt hnx A => ?_⟩
  obtain ⟨ant, dx, dy, rfl, hne, hlen, hx, hy, rfl⟩ := hR
  replace A : At K φ (Same H) [some (.tup (ant.map lobeD)), some (.int dx), some (.int dy), none, none] σ H := A
  clear F L_is_before G_is_before
  have hf : ((ant.map lobeD).filter fun d => !befB dx dy (lobeOf d).1 (lobeOf d).2.1).map (fun d => d) = (ant.filter fun l => !befB dx dy l.1 l.2.1).map lobeD := by
    rw [List.map_id', List.filter_map]
    rfl
  refine q (st_set (d := .lst ((ant.filter fun l => !befB dx dy l.1 l.2.1).map lobeD)) A ((ev_lcF (k := 4) (p := fun d => !befB dx dy (lobeOf d).1 (lobeOf d).2.1) (f := fun d => d) (it_tup (ev_var (i := 0) rfl)) (by rw [List.length_map]; exact hlen) (fun d hd φ' J' x => ?_) fun d hd pd φ' J' x => ev_var (i := 4) rfl).is (congrArg D.lst hf)) fun σ1 H1 A1 => ?_)
  · obtain ⟨l, _, rfl⟩ := List.mem_map.mp hd
    exact et_not (et_B (ev_callD (ea_cons (ev_tup (ea_cons (ev_var (i := 1) rfl) (ea_cons (ev_var (i := 2) rfl) ea_nil))) (ea_cons (ev_var (i := 4) rfl) ea_nil)) ⟨dx, dy, l, rfl, hx, hy, rfl⟩))
  generalize hL : (ant.filter fun l => !befB dx dy l.1 l.2.1) = L at A1
  replace A1 : At K φ (Same H) [some (.tup (ant.map lobeD)), some (.int dx), some (.int dy), some (.lst (L.map lobeD)), none] σ1 H1 := A1
  dsimp only
  refine st_ret A1 (ev_if (P := fun d => d = .int (gainT ant dx dy)) (et_test (ev_neQ (ev_var (i := 3) rfl) (ev_lst ea_nil) okq_lobes rfl)) (fun hb => ?_) fun hb => ?_) fun v d' H6 e' A6 rr => hrt v H6 A6.j (by subst e'; exact rr)
  · rw [eqvD_nil] at hb
    have hne : L ≠ [] := by
      rintro rfl
      cases hb
    obtain ⟨l, hl⟩ : ∃ l, L.getLast? = some l := ⟨_, List.getLast?_eq_some_getLast hne⟩
    have eg : gainT ant dx dy = l.2.2 := by
      unfold gainT
      rw [hL, hl]
    rw [eg]
    exact ev_ixT (ds := [.int l.1, .int l.2.1, .int l.2.2]) (ev_ixL (ds := L.map lobeD) (ev_var (i := 3) rfl) (ev_neg ev_int) (atI_lastG (by rw [List.getLast?_map, hl]; rfl))) ev_int rfl
  · rw [eqvD_nil] at hb
    have hnil : L = [] := by
      cases L with
      | nil => rfl
      | cons a b => cases hb
    obtain ⟨l, hl⟩ : ∃ l, ant.getLast? = some l := ⟨_, List.getLast?_eq_some_getLast hne⟩
    have eg : gainT ant dx dy = l.2.2 := by
      unfold gainT
      rw [hL, hnil]
      show (match ant.getLast? with
        | some l => l.2.2
        | none => 0) = _
      rw [hl]
    rw [eg]
    exact ev_ixT (ds := [.int l.1, .int l.2.1, .int l.2.2]) (ev_ixT (ds := ant.map lobeD) (ev_var (i := 0) rfl) (ev_neg ev_int) (atI_lastG (by rw [List.getLast?_map, hl]; rfl))) ev_int rfl
def RGain : List D → D → Prop := fun ds d => ∃ (s : Sta) (px py : Int), ds = [.tup (s.ant.map lobeD), .tup [.int s.x, .int s.y], .tup [.int px, .int py]] ∧ s.ant ≠ [] ∧ s.ant.length ≤ 1000000 ∧ (-1000 ≤ px - s.x ∧ px - s.x ≤ 1000) ∧ (-1000 ≤ py - s.y ∧ py - s.y ≤ 1000) ∧ d = .int (gainB s px py)
theorem sc_gain_between : FnScope ["antenna", "p", "q"] ["antenna", "p", "q"] (defScope s_gain_between) := ⟨rfl, rfl, rfl, by decide +kernel, rfl, by decide +kernel, by decide +kernel⟩
theorem eqv_pl {a b c d : Int} : eqvD (.tup [.int a, .int b]) (.tup [.int c, .int d]) = decide (a = c ∧ b = d) := by
  show ((a == c) && ((b == d) && true)) = _
  rw [Bool.and_true]
  show (decide (a = c) && decide (b = d)) = _
  rw [Bool.decide_and]
theorem ok_gain_between (B : Bi mg) {f g1 : Addr} {fd gd1 : FuncData} (F : Fun K "gain_between" "gain_between" s_gain_between f fd) (L_gain_toward : Lk K mg "gain_toward" g1 gd1 ["antenna", "dx", "dy"]) (G_gain_toward : FnOk P w K mg base CX0 3 g1 gd1 ["antenna", "dx", "dy"] (SpD K 3 RToward)) : FnOk P w K mg base CX0 4 f fd ["antenna", "p", "q"] (SpD K 3 RGain) := by
  have S := sc_gain_between
  refine fn_ok F S rfl 0 rfl fun cdv A outer s H E hr => ⟨_, ((pss_one (ps_ret (pe_ifExp (pt_cmpR (op_eqD hr.units) (pv 1) (pv 2) (nomark _)) pe_int (pe_call G_gain_toward (hr.mono (by first | exact Nat.le_refl _ | decide | omega)) (by rfl) L_gain_toward.m L_gain_toward.kp L_gain_toward.bi .nil pass0 (pa_cons (pv 0) (pa_cons (pe_op op_sub (pe_ix ix_tup (pv 2) pe_int (fun _ _ => rfl)) (pe_ix ix_tup (pv 1) pe_int (fun _ _ => rfl))) (pa_cons (pe_op op_sub (pe_ix ix_tup (pv 2) pe_int (fun _ _ => rfl)) (pe_ix ix_tup (pv 1) pe_int (fun _ _ => rfl))) pa_nil)))))))), fun φ ds d H D0 σ hl hR hrt hnx A => ?_⟩
  obtain ⟨s', px, py, rfl, hne, hlen, hx, hy, rfl⟩ := hR
  replace A : At K φ (Same H) [some (.tup (s'.ant.map lobeD)), some (.tup [.int s'.x, .int s'.y]), some (.tup [.int px, .int py])] σ H := A
  clear F L_gain_toward G_gain_toward
  refine st_ret A (ev_if (P := fun d => d = .int (gainB s' px py)) (et_test (ev_eqQ (ev_var (i := 1) rfl) (ev_var (i := 2) rfl) rfl rfl)) (fun hb => ?_) fun hb => ?_) fun v d' H6 e' A6 rr => hrt v H6 A6.j (by subst e'; exact rr)
  · rw [eqv_pl] at hb
    have hb := of_decide_eq_true hb.symm
    unfold gainB
    rw [if_pos hb]
    exact ev_int
  · rw [eqv_pl] at hb
    have hb := of_decide_eq_false hb.symm
    unfold gainB
    rw [if_neg hb]
    exact ev_callD (ea_cons (ev_var (i := 0) rfl) (ea_cons (ev_sub (ev_ixT (ds := [.int px, .int py]) (ev_var (i := 2) rfl) ev_int rfl) (ev_ixT (ds := [.int s'.x, .int s'.y]) (ev_var (i := 1) rfl) ev_int rfl)) (ea_cons (ev_sub (ev_ixT (ds := [.int px, .int py]) (ev_var (i := 2) rfl) ev_int rfl) (ev_ixT (ds := [.int s'.x, .int s'.y]) (ev_var (i := 1) rfl) ev_int rfl)) ea_nil))) ⟨s'.ant, px - s'.x, py - s'.y, rfl, hne, hlen, hx, hy, rfl⟩
end
end

/-! ### what is received -/
section
structure StaOk (w h : Nat) (s : Sta) : Prop where
  pl : inPlace w h s.x s.y = true
  m0 : 0 ≤ s.mast
  m1 : s.mast ≤ 1000
  f0 : 1 ≤ s.mhz
  f1 : s.mhz ≤ 6000
  ne : s.ant ≠ []
  len : s.ant.length ≤ 1000000
structure NetOk (w h : Nat) (g : List (List Int)) (ss : List Sta) : Prop where
  G : Grid w h g
  c : ∀ row ∈ g, ∀ c ∈ row, cellOk c
  w9 : w ≤ 9
  h9 : h ≤ 9
  l : ss.length ≤ 1000
  s : ∀ s ∈ ss, StaOk w h s
def netD (g : List (List Int)) (ss : List Sta) : D := .tup [gridD g, .tup (ss.map staD)]
def findS (ss : List Sta) (nm : Str) : Option Sta := ss.find? fun s => decide (s.nm = nm)
def squareI (a b : Int) (s : Sta) (px py : Int) : Int := distI s.x s.y px py + (a - b) * (a - b)
/-- the pair lo, hi of what is received -/
def RcvOk (g : List (List Int)) (s : Sta) (px py mast : Int) (r : Int × Int) : Prop := ∃ (l h el eh : Int) (f S : Nat),
  LvlOk (max 1 S * f * f) 1 l h ∧ (f : Int) = s.mhz ∧ (S : Int) = squareI (cellAt g s.x s.y + s.mast) (cellAt g px py + mast) s px py ∧ S ≤ 1000000000 ∧ l ≤ h ∧ el ≤ eh ∧
  EdIn (clrI g s.x s.y px py (cellAt g s.x s.y + s.mast) (cellAt g px py + mast)) (distI s.x s.y px py) s.mhz ∧
  EdgeV (clrI g s.x s.y px py (cellAt g s.x s.y + s.mast) (cellAt g px py + mast)) (distI s.x s.y px py) s.mhz (.tup [.int el, .int eh]) ∧
  r = (s.power + gainB s px py - (h + -2755 + eh), s.power + gainB s px py - (l + -2755 + el))
theorem lvl_le {p q : Nat} {lo hi : Int} (h : LvlOk p q lo hi) : lo ≤ hi := by
  obtain ⟨m, rfl, _, ⟨_, _, rfl⟩ | ⟨_, rfl⟩⟩ := h <;> omega
theorem rcv_ex {w h : Nat} {g : List (List Int)} {ss : List Sta} {s : Sta} {px py mast : Int} (N : NetOk w h g ss) (hs : s ∈ ss) (hp : inPlace w h px py = true) (m0 : 0 ≤ mast) (m1 : mast ≤ 1000) : ∃ r, RcvOk g s px py mast r := by
  have T := N.s s hs
  have c1 := cell_in N.G N.c T.pl
  have c2 := cell_in N.G N.c hp
  have t0 := T.m0
  have t1 := T.m1
  have f0 := T.f0
  have f1 := T.f1
  unfold cellOk at c1 c2
  have hin : EdIn (clrI g s.x s.y px py (cellAt g s.x s.y + s.mast) (cellAt g px py + mast)) (distI s.x s.y px py) s.mhz := ed_in N.G N.c N.w9 N.h9 T.pl hp (by omega) (by omega) f0 f1
  have d1 := hin.d1
  have d0 : 0 ≤ distI s.x s.y px py := Int.le_trans (Int.mul_nonneg (by decide) (Int.mul_nonneg (steps_le9 T.pl hp N.w9 N.h9).1 (steps_le9 T.pl hp N.w9 N.h9).1)) (dist_lo s.x s.y px py)
  have rb : ∀ a : Int, -20000 ≤ a → a ≤ 20000 → 0 ≤ a * a ∧ a * a ≤ 400000000 := fun a h1 h2 => by
    have e : (20000 - a) * (20000 + a) = 400000000 - a * a := by grind
    have n := Int.mul_nonneg (a := 20000 - a) (b := 20000 + a) (by omega) (by omega)
    have m : 0 ≤ a * a := by
      by_cases z : 0 ≤ a
      · exact Int.mul_nonneg z z
      · rw [show a * a = (-a) * (-a) by grind]
        exact Int.mul_nonneg (by omega) (by omega)
    omega
  have rr := rb ((cellAt g s.x s.y + s.mast) - (cellAt g px py + mast)) (by omega) (by omega)
  obtain ⟨f, ef⟩ : ∃ f : Nat, (f : Int) = s.mhz := ⟨s.mhz.toNat, Int.toNat_of_nonneg (by omega)⟩
  obtain ⟨S, eS⟩ : ∃ S : Nat, (S : Int) = squareI (cellAt g s.x s.y + s.mast) (cellAt g px py + mast) s px py := ⟨(squareI (cellAt g s.x s.y + s.mast) (cellAt g px py + mast) s px py).toNat, Int.toNat_of_nonneg (by unfold squareI; omega)⟩
  have S9 : S ≤ 1000000000 := by
    have : (S : Int) ≤ 1000000000 := by
      rw [eS]
      unfold squareI
      omega
    omega
  obtain ⟨b1, b2, b3⟩ := free_bd (s := S) (f := f) S9 (by omega) (by omega)
  obtain ⟨l, h', lv⟩ := lvl_exists (q := 1) (by decide) b1 b2
  obtain ⟨d, hd⟩ := edge_ex hin
  have : ∃ el eh : Int, d = .tup [.int el, .int eh] ∧ el ≤ eh := by
    cases hd with
    | zero z => exact ⟨0, 0, rfl, Int.le_refl _⟩
    | @some c sp lo hi c0 cm cx hs lv =>
      have := lvl_le lv
      exact ⟨_, _, rfl, by omega⟩
  obtain ⟨el, eh, rfl, ele⟩ := this
  exact ⟨_, l, h', el, eh, f, S, lv, ef, eS, S9, lvl_le lv, ele, hin, hd, rfl⟩
open Classical in
noncomputable def rcv (g : List (List Int)) (s : Sta) (px py mast : Int) : Int × Int := if h : ∃ r, RcvOk g s px py mast r then Classical.choose h else (0, 0)
theorem rcv_ok {w h : Nat} {g : List (List Int)} {ss : List Sta} {s : Sta} {px py mast : Int} (N : NetOk w h g ss) (hs : s ∈ ss) (hp : inPlace w h px py = true) (m0 : 0 ≤ mast) (m1 : mast ≤ 1000) : RcvOk g s px py mast (rcv g s px py mast) := by
  have h := rcv_ex N hs hp m0 m1
  unfold rcv
  rw [dif_pos h]
  exact Classical.choose_spec h
theorem rcv_le {w h : Nat} {g : List (List Int)} {ss : List Sta} {s : Sta} {px py mast : Int} (N : NetOk w h g ss) (hs : s ∈ ss) (hp : inPlace w h px py = true) (m0 : 0 ≤ mast) (m1 : mast ≤ 1000) : (rcv g s px py mast).1 ≤ (rcv g s px py mast).2 := by
  obtain ⟨l, h, el, eh, f, S, _, _, _, _, h1, h2, _, _, e⟩ := rcv_ok N hs hp m0 m1
  rw [e]
  show _ - _ ≤ _ - _
  omega
theorem find_mem {ss : List Sta} {nm : Str} {s : Sta} (h : findS ss nm = some s) : s ∈ ss ∧ s.nm = nm := ⟨List.mem_of_find?_eq_some h, of_decide_eq_true (List.find?_some (p := fun s : Sta => decide (s.nm = nm)) h)⟩
section
variable {K : PySem.W.Frag} {φ : Addr → Prop} {J : Hp → Prop} {ρ : List (Option D)} {te ta tb : TE} {t : TA} {W : WX} {c : Addr} {P : D → Prop}
theorem rs_op1 {r : V → V → Hp → VK → Prop} (h : Rs K φ J ta ρ W c) : Rs K φ J (tOp r ta tb) ρ W c := fun σ H A k Q => h σ H A k _
end
section
variable {P : Program} {w : World} {K : PySem.W.Frag} {mg : Str → Option Value} {base : Heap}
def RNamed (c : Addr) : List D → D ⊕ Addr → Prop := fun ds o => ∃ g ss nm, ds = [netD g ss, .str nm] ∧ o = match findS ss nm with
  | some s => .inl (staD s)
  | none => .inr c
theorem sc_station_named : FnScope ["network", "name", "station"] ["network", "name"] (defScope s_station_named) := ⟨rfl, rfl, rfl, by decide +kernel, rfl, by decide +kernel, by decide +kernel⟩
theorem find_none {ss : List Sta} {nm : Str} (h : ∀ (i : Nat) (s : Sta), ss[i]? = some s → s.nm ≠ nm) : findS ss nm = none := List.find?_eq_none.mpr fun s hs => by
  obtain ⟨i, hi⟩ := List.mem_iff_getElem?.mp hs
  exact fun z => h i s hi (of_decide_eq_true z)
theorem find_at {ss : List Sta} {nm : Str} {i : Nat} {s : Sta} (h : ∀ (j : Nat) (t : Sta), j < i → ss[j]? = some t → t.nm ≠ nm) (hi : ss[i]? = some s) (hn : s.nm = nm) : findS ss nm = some s := by
  induction ss generalizing i with
  | nil => cases hi
  | cons a r ih =>
    unfold findS
    cases i with
    | zero =>
      cases hi
      rw [List.find?_cons_of_pos (p := fun s : Sta => decide (s.nm = nm)) (decide_eq_true hn)]
    | succ i =>
      rw [List.find?_cons_of_neg (p := fun s : Sta => decide (s.nm = nm)) (fun z => h 0 a (Nat.zero_lt_succ _) rfl (of_decide_eq_true z))]
      exact ih (i := i) (fun j t hj ht => h (j + 1) t (Nat.succ_lt_succ hj) ht) hi
theorem ok_station_named (B : Bi mg) {c : Addr} (X_NoStation : ExC K mg "NoStation" c) {f : Addr} {fd : FuncData} (F : Fun K "station_named" "station_named" s_station_named f fd) : FnOk P w K mg base (L2.CX P w) 1 f fd ["network", "name"] (SpX K 2 (RNamed c)) := by
  have S := sc_station_named
  refine fn_okX F S rfl 1 rfl fun cdv A outer s H E hr => ⟨_, ((pss_cons (ps_for (passes_of rfl) rfl (pi_tup (pe_ix ix_tup (pv 0) pe_int (fun _ _ => rfl))) (pg_name (i := 2) S.nd rfl (by first | exact Or.inl rfl | exact Or.inr rfl))
 (pss_one (ps_if (pt_cmpR op_eq (pe_ix ix_tup (pv 2) pe_int (fun _ _ => rfl)) (pv 1) (nomark _))
 (pss_one (ps_ret (pv 2)))
 pss_nil)))
 (pss_one (ps_raise rfl (takes_of rfl rfl rfl rfl) (pmk_own PySem.F.excBase_ValueError X_NoStation.e X_NoStation.m X_NoStation.k (raises_own X_NoStation.s X_NoStation.t) (by rfl)))))), fun φ ds o H D0 σ hl hR hrt hex A => ?_⟩
  obtain ⟨g, ss, nm, rfl, ho⟩ := hR
  replace A : At K φ (Same H) [some (netD g ss), some (.str nm), none] σ H := A
  clear F
  refine q (st_for A (it_tup (ev_ixT (ds := [gridD g, .tup (ss.map staD)]) (ev_var (i := 0) rfl) ev_int rfl)) (fun i ρ' J' => (∃ o, ρ' = [some (netD g ss), some (.str nm), o]) ∧ J' = Same H ∧ ∀ j t, j < i → ss[j]? = some t → t.nm ≠ nm) ⟨⟨none, rfl⟩, rfl, fun j t hj => absurd hj (Nat.not_lt_zero j)⟩ ?_ ?_)
  · rintro H5 i x ρ' J' b5 j5 hx ⟨⟨o', rfl⟩, rfl, hno⟩ σ' H' A5
    rw [List.getElem?_map] at hx
    cases hi : ss[i]? with
    | none =>
      rw [hi] at hx
      cases hx
    | some t =>
      rw [hi] at hx
      cases hx
      replace A5 : At K φ (fun H_1 => Same H H_1 ∧ But φ H5 H_1) [some (netD g ss), some (.str nm), some (staD t)] σ' H' := A5
      refine st_if A5 (et_test (ev_eqS (ev_ixT (ds := [.str t.nm, .tup [.int t.x, .int t.y], .int t.mast, .int t.power, .int t.mhz, .tup (t.ant.map lobeD)]) (ev_var (i := 2) rfl) ev_int rfl) (ev_var (i := 1) rfl))) (fun hb H6 A6 => ?_) (fun hb H6 A6 => ?_)
      · rw [find_at hno hi (of_decide_eq_true hb.symm)] at ho
        exact st_ret A6 (ev_var (i := 2) rfl) fun v d' H6 e' A6 rr => hrt _ ho v H6 A6.j.1 (by subst e'; exact rr)
      · refine st_next ⟨_, _, ⟨⟨_, rfl⟩, rfl, fun j t' hj ht => ?_⟩, A6⟩
        by_cases e : j = i
        · subst e
          rw [hi] at ht
          cases ht
          exact of_decide_eq_false hb.symm
        · exact hno j t' (by omega) ht
  · rintro H5 ρ' J' σ' H' b5 j5 ⟨⟨o', rfl⟩, rfl, hno⟩ A5
    rw [find_none fun i s hi => hno i s (by rw [List.length_map]; exact (List.getElem?_eq_some_iff.mp hi).1) hi] at ho
    exact hex c ho H' A5.j.1
def RAdd : List D → D → Prop := fun ds d => ∃ a b x y : Int, ds = [.tup [.int a, .int b], .tup [.int x, .int y]] ∧ d = .tup [.int (a + x), .int (b + y)]
theorem sc_added : FnScope ["a", "b"] ["a", "b"] (defScope s_added) := ⟨rfl, rfl, rfl, by decide +kernel, rfl, by decide +kernel, by decide +kernel⟩
theorem ok_added (B : Bi mg) {f : Addr} {fd : FuncData} (F : Fun K "added" "added" s_added f fd) : FnOk P w K mg base CX0 1 f fd ["a", "b"] (SpD K 2 RAdd) := by
  have S := sc_added
  refine fn_ok F S rfl 0 rfl fun cdv A outer s H E hr => ⟨_, ((pss_one (ps_ret (pe_tup (pa_cons (pe_op op_add (pe_ix ix_tup (pv 0) pe_int (fun _ _ => rfl)) (pe_ix ix_tup (pv 1) pe_int (fun _ _ => rfl))) (pa_cons (pe_op op_add (pe_ix ix_tup (pv 0) pe_int (fun _ _ => rfl)) (pe_ix ix_tup (pv 1) pe_int (fun _ _ => rfl))) pa_nil)))))), fun φ ds d H D0 σ hl hR hrt hnx A => ?_⟩
  obtain ⟨a, b, x, y, rfl, rfl⟩ := hR
  replace A : At K φ (Same H) [some (.tup [.int a, .int b]), some (.tup [.int x, .int y])] σ H := A
  exact st_ret A (ev_tup (ea_cons (ev_add (ev_ixT (ds := [.int a, .int b]) (ev_var (i := 0) rfl) ev_int rfl) (ev_ixT (ds := [.int x, .int y]) (ev_var (i := 1) rfl) ev_int rfl)) (ea_cons (ev_add (ev_ixT (ds := [.int a, .int b]) (ev_var (i := 0) rfl) ev_int rfl) (ev_ixT (ds := [.int x, .int y]) (ev_var (i := 1) rfl) ev_int rfl)) ea_nil))) fun v d' H6 e' A6 rr => hrt v H6 A6.j (by subst e'; exact rr)
def RSubt : List D → D → Prop := fun ds d => ∃ a b x y : Int, ds = [.tup [.int a, .int b], .tup [.int x, .int y]] ∧ d = .tup [.int (a - y), .int (b - x)]
theorem sc_subtracted : FnScope ["a", "b"] ["a", "b"] (defScope s_subtracted) := ⟨rfl, rfl, rfl, by decide +kernel, rfl, by decide +kernel, by decide +kernel⟩
theorem ok_subtracted (B : Bi mg) {f : Addr} {fd : FuncData} (F : Fun K "subtracted" "subtracted" s_subtracted f fd) : FnOk P w K mg base CX0 1 f fd ["a", "b"] (SpD K 2 RSubt) := by
  have S := sc_subtracted
  refine fn_ok F S rfl 0 rfl fun cdv A outer s H E hr => ⟨_, ((pss_one (ps_ret (pe_tup (pa_cons (pe_op op_sub (pe_ix ix_tup (pv 0) pe_int (fun _ _ => rfl)) (pe_ix ix_tup (pv 1) pe_int (fun _ _ => rfl))) (pa_cons (pe_op op_sub (pe_ix ix_tup (pv 0) pe_int (fun _ _ => rfl)) (pe_ix ix_tup (pv 1) pe_int (fun _ _ => rfl))) pa_nil)))))), fun φ ds d H D0 σ hl hR hrt hnx A => ?_⟩
  obtain ⟨a, b, x, y, rfl, rfl⟩ := hR
  replace A : At K φ (Same H) [some (.tup [.int a, .int b]), some (.tup [.int x, .int y])] σ H := A
  exact st_ret A (ev_tup (ea_cons (ev_sub (ev_ixT (ds := [.int a, .int b]) (ev_var (i := 0) rfl) ev_int rfl) (ev_ixT (ds := [.int x, .int y]) (ev_var (i := 1) rfl) ev_int rfl)) (ea_cons (ev_sub (ev_ixT (ds := [.int a, .int b]) (ev_var (i := 0) rfl) ev_int rfl) (ev_ixT (ds := [.int x, .int y]) (ev_var (i := 1) rfl) ev_int rfl)) ea_nil))) fun v d' H6 e' A6 rr => hrt v H6 A6.j (by subst e'; exact rr)
def RWay : List D → D ⊕ Addr → Prop := fun ds o => ∃ (w h : Nat) (g : List (List Int)) (px py qx qy a b l hh el eh : Int) (f S : Nat), Grid w h g ∧ ds = [gridD g, .tup [.int px, .int py], .tup [.int qx, .int qy], .int a, .int b, .int (f : Int)] ∧ twoPl w h px py qx qy = true ∧ EdIn (clrI g px py qx qy a b) (distI px py qx qy) f ∧ LvlOk (max 1 S * f * f) 1 l hh ∧ (S : Int) = distI px py qx qy + (a - b) * (a - b) ∧ S ≤ 1000000000 ∧ (-100000 ≤ a - b ∧ a - b ≤ 100000) ∧ EdgeV (clrI g px py qx qy a b) (distI px py qx qy) f (.tup [.int el, .int eh]) ∧ o = .inl (.tup [.int (l + -2755 + el), .int (hh + -2755 + eh)])
theorem sc_way_loss : FnScope ["terrain", "p", "q", "a", "b", "f", "edge", "rise"] ["terrain", "p", "q", "a", "b", "f"] (defScope s_way_loss) := ⟨rfl, rfl, rfl, by decide +kernel, rfl, by decide +kernel, by decide +kernel⟩
theorem ok_way_loss (B : Bi mg) {c : Addr} {f g1 g2 g3 g4 : Addr} {fd gd1 gd2 gd3 gd4 : FuncData} (F : Fun K "way_loss" "way_loss" s_way_loss f fd)
    (L_edge_loss : Lk K mg "edge_loss" g1 gd1 ["terrain", "p", "q", "a", "b", "f"]) (G_edge_loss : FnOk P w K mg base (L2.CX P w) 5 g1 gd1 ["terrain", "p", "q", "a", "b", "f"] (SpX K 6 (REdge c)))
    (L_free_loss : Lk K mg "free_loss" g2 gd2 ["s", "f"]) (G_free_loss : FnOk P w K mg base CX0 5 g2 gd2 ["s", "f"] (SpD K 2 RFree))
    (L_added : Lk K mg "added" g3 gd3 ["a", "b"]) (G_added : FnOk P w K mg base CX0 1 g3 gd3 ["a", "b"] (SpD K 2 RAdd))
    (L_square_distance : Lk K mg "square_distance" g4 gd4 ["p", "q"]) (G_square_distance : FnOk P w K mg base CX0 1 g4 gd4 ["p", "q"] (SpD K 2 RDist)) : FnOk P w K mg base (L2.CX P w) 6 f fd ["terrain", "p", "q", "a", "b", "f"] (SpX K 6 RWay) := by
  have S := sc_way_loss
  refine fn_okX F S rfl 2 rfl fun cdv A outer s H E hr => ⟨_, ((pss_cons (ps_set (i := 6) S.nd rfl (by first | exact Or.inl rfl | exact Or.inr rfl) (pe_callS G_edge_loss (hr.mono (by first | exact Nat.le_refl _ | decide | omega)) (by rfl) L_edge_loss.m L_edge_loss.kp L_edge_loss.bi (fun σ => passAt (takes_of rfl rfl rfl rfl) σ) (pa_cons (pv 0) (pa_cons (pv 1) (pa_cons (pv 2) (pa_cons (pv 3) (pa_cons (pv 4) (pa_cons (pv 5) pa_nil))))))))
 (pss_cons (ps_set (i := 7) S.nd rfl (by first | exact Or.inl rfl | exact Or.inr rfl) (pe_op op_sub (pv 3) (pv 4)))
 (pss_one (ps_ret (pe_call G_added (hr.mono (by first | exact Nat.le_refl _ | decide | omega)) (by rfl) L_added.m L_added.kp L_added.bi .nil pass0 (pa_cons (pe_call G_free_loss (hr.mono (by first | exact Nat.le_refl _ | decide | omega)) (by rfl) L_free_loss.m L_free_loss.kp L_free_loss.bi .nil pass0 (pa_cons (pe_op op_add (pe_call G_square_distance (hr.mono (by first | exact Nat.le_refl _ | decide | omega)) (by rfl) L_square_distance.m L_square_distance.kp L_square_distance.bi .nil pass0 (pa_cons (pv 1) (pa_cons (pv 2) pa_nil))) (pe_op op_mul (pv 7) (pv 7))) (pa_cons (pv 5) pa_nil))) (pa_cons (pv 6) pa_nil)))))))), fun φ ds o H D0 σ hl hR hrt hex A => ?_⟩
  obtain ⟨w', h', g, px, py, qx, qy, a, b, l, hh, el, eh, f', S', G, rfl, h2, hin, lv, eS, S9, ab, hd, rfl⟩ := hR
  have hrt := hrt _ rfl
  obtain ⟨i1, i2, i3, i4⟩ := two_in G.w2 G.h2 h2
  have f0 := hin.f0
  have f1 := hin.f1
  replace A : At K φ (Same H) [some (gridD g), some (.tup [.int px, .int py]), some (.tup [.int qx, .int qy]), some (.int a), some (.int b), some (.int (f' : Int)), none, none] σ H := A
  clear F L_edge_loss L_free_loss L_added L_square_distance G_edge_loss G_free_loss G_added G_square_distance hex
  refine q (st_set (d := .tup [.int el, .int eh]) A (ev_callX (R := REdge c) (ea_cons (ev_var (i := 0) rfl) (ea_cons (ev_var (i := 1) rfl) (ea_cons (ev_var (i := 2) rfl) (ea_cons (ev_var (i := 3) rfl) (ea_cons (ev_var (i := 4) rfl) (ea_cons (ev_var (i := 5) rfl) ea_nil)))))) ⟨w', h', g, px, py, qx, qy, a, b, f', G, rfl, .inr ⟨h2, hin, _, hd, rfl⟩⟩) fun σ1 H1 A1 => ?_)
  replace A1 : At K φ (Same H) [some (gridD g), some (.tup [.int px, .int py]), some (.tup [.int qx, .int qy]), some (.int a), some (.int b), some (.int (f' : Int)), some (.tup [.int el, .int eh]), none] σ1 H1 := A1
  dsimp only
  refine q (st_set (d := .int (a - b)) A1 (ev_sub (ev_var (i := 3) rfl) (ev_var (i := 4) rfl)) fun σ2 H2 A2 => ?_)
  replace A2 : At K φ (Same H) [some (gridD g), some (.tup [.int px, .int py]), some (.tup [.int qx, .int qy]), some (.int a), some (.int b), some (.int (f' : Int)), some (.tup [.int el, .int eh]), some (.int (a - b))] σ2 H2 := A2
  dsimp only
  exact st_ret A2 (ev_callD (ea_cons (ev_callD (d := .tup [.int (l + -2755), .int (hh + -2755)]) (ea_cons (x := .int (S' : Int)) ((ev_add (ev_callD (ea_cons (ev_var (i := 1) rfl) (ea_cons (ev_var (i := 2) rfl) ea_nil)) ⟨px, py, qx, qy, rfl, i1, i2, i3, i4, rfl⟩) (ev_mul (ev_var (i := 7) rfl) (ev_var (i := 7) rfl) (.inl (by omega)))).is (by rw [eS])) (ea_cons (ev_var (i := 5) rfl) ea_nil)) ⟨S', f', l, hh, rfl, S9, by omega, by omega, lv, rfl⟩) (ea_cons (ev_var (i := 6) rfl) ea_nil)) ⟨_, _, el, eh, rfl, rfl⟩) fun v d' H6 e' A6 rr => hrt v H6 A6.j (by subst e'; exact rr)
noncomputable def rcvD (g : List (List Int)) (s : Sta) (px py mast : Int) : D := .tup [.int (rcv g s px py mast).1, .int (rcv g s px py mast).2]
def RRecv (cS cP : Addr) : List D → D ⊕ Addr → Prop := fun ds o => ∃ (w h : Nat) (g : List (List Int)) (ss : List Sta) (nm : Str) (px py mast : Int), NetOk w h g ss ∧ ds = [netD g ss, .str nm, .tup [.int px, .int py], .int mast] ∧ 0 ≤ mast ∧ mast ≤ 1000 ∧ o = match findS ss nm with
  | some s => if inPlace w h px py = true then .inl (rcvD g s px py mast) else .inr cP
  | none => .inr cS
theorem sc_received : FnScope ["network", "name", "place", "mast", "station", "terrain", "_", "own", "own_mast", "power", "megahertz", "antenna", "b", "a", "level"] ["network", "name", "place", "mast"] (defScope s_received) := ⟨rfl, rfl, rfl, by decide +kernel, rfl, by decide +kernel, by decide +kernel⟩
set_option maxHeartbeats 1000000 in
theorem ok_received (B : Bi mg) {cS cP : Addr} {f g1 g2 g3 g4 g5 : Addr} {fd gd1 gd2 gd3 gd4 gd5 : FuncData} (F : Fun K "received" "received" s_received f fd)
    (L_station_named : Lk K mg "station_named" g1 gd1 ["network", "name"]) (G_station_named : FnOk P w K mg base (L2.CX P w) 1 g1 gd1 ["network", "name"] (SpX K 2 (RNamed cS)))
    (L_height_at : Lk K mg "height_at" g2 gd2 ["terrain", "place"]) (G_height_at : FnOk P w K mg base (L2.CX P w) 2 g2 gd2 ["terrain", "place"] (SpX K 2 (RHeight cP)))
    (L_gain_between : Lk K mg "gain_between" g3 gd3 ["antenna", "p", "q"]) (G_gain_between : FnOk P w K mg base CX0 4 g3 gd3 ["antenna", "p", "q"] (SpD K 3 RGain))
    (L_subtracted : Lk K mg "subtracted" g4 gd4 ["a", "b"]) (G_subtracted : FnOk P w K mg base CX0 1 g4 gd4 ["a", "b"] (SpD K 2 RSubt))
    (L_way_loss : Lk K mg "way_loss" g5 gd5 ["terrain", "p", "q", "a", "b", "f"]) (G_way_loss : FnOk P w K mg base (L2.CX P w) 6 g5 gd5 ["terrain", "p", "q", "a", "b", "f"] (SpX K 6 RWay)) : FnOk P w K mg base (L2.CX P w) 7 f fd ["network", "name", "place", "mast"] (SpX K 4 (RRecv cS cP)) := by
  have S := sc_received
  refine fn_okX F S rfl 11 rfl fun cdv A outer s H E hr => ⟨_, ((pss_cons (ps_set (i := 4) S.nd rfl (by first | exact Or.inl rfl | exact Or.inr rfl) (pe_callS G_station_named (hr.mono (by first | exact Nat.le_refl _ | decide | omega)) (by rfl) L_station_named.m L_station_named.kp L_station_named.bi (fun σ => passAt (takes_of rfl rfl rfl rfl) σ) (pa_cons (pv 0) (pa_cons (pv 1) pa_nil))))
 (pss_cons (ps_set (i := 5) S.nd rfl (by first | exact Or.inl rfl | exact Or.inr rfl) (pe_ix ix_tup (pv 0) pe_int (fun _ _ => rfl)))
 (pss_cons (ps_asg (pv 4) (pg_tup (by rfl) (pgs_cons (pg_name (i := 6) S.nd rfl (by first | exact Or.inl rfl | exact Or.inr rfl)) (pgs_cons (pg_name (i := 7) S.nd rfl (by first | exact Or.inl rfl | exact Or.inr rfl)) (pgs_cons (pg_name (i := 8) S.nd rfl (by first | exact Or.inl rfl | exact Or.inr rfl)) (pgs_cons (pg_name (i := 9) S.nd rfl (by first | exact Or.inl rfl | exact Or.inr rfl)) (pgs_cons (pg_name (i := 10) S.nd rfl (by first | exact Or.inl rfl | exact Or.inr rfl)) (pgs_cons (pg_name (i := 11) S.nd rfl (by first | exact Or.inl rfl | exact Or.inr rfl)) pgs_nil))))))))
 (pss_cons (ps_set (i := 12) S.nd rfl (by first | exact Or.inl rfl | exact Or.inr rfl) (pe_op op_add (pe_callS G_height_at (hr.mono (by first | exact Nat.le_refl _ | decide | omega)) (by rfl) L_height_at.m L_height_at.kp L_height_at.bi (fun σ => passAt (takes_of rfl rfl rfl rfl) σ) (pa_cons (pv 5) (pa_cons (pv 2) pa_nil))) (pv 3)))
 (pss_cons (ps_set (i := 13) S.nd rfl (by first | exact Or.inl rfl | exact Or.inr rfl) (pe_op op_add (pe_callS G_height_at (hr.mono (by first | exact Nat.le_refl _ | decide | omega)) (by rfl) L_height_at.m L_height_at.kp L_height_at.bi (fun σ => passAt (takes_of rfl rfl rfl rfl) σ) (pa_cons (pv 5) (pa_cons (pv 7) pa_nil))) (pv 8)))
 (pss_cons (ps_set (i := 14) S.nd rfl (by first | exact Or.inl rfl | exact Or.inr rfl) (pe_op op_add (pv 9) (pe_call G_gain_between (hr.mono (by first | exact Nat.le_refl _ | decide | omega)) (by rfl) L_gain_between.m L_gain_between.kp L_gain_between.bi .nil pass0 (pa_cons (pv 11) (pa_cons (pv 7) (pa_cons (pv 2) pa_nil))))))
 (pss_one (ps_ret (pe_call G_subtracted (hr.mono (by first | exact Nat.le_refl _ | decide | omega)) (by rfl) L_subtracted.m L_subtracted.kp L_subtracted.bi .nil pass0 (pa_cons (pe_tup (pa_cons (pv 14) (pa_cons (pv 14) pa_nil))) (pa_cons (pe_callS G_way_loss (hr.mono (by first | exact Nat.le_refl _ | decide | omega)) (by rfl) L_way_loss.m L_way_loss.kp L_way_loss.bi (fun σ => passAt (takes_of rfl rfl rfl rfl) σ) (pa_cons (pv 5) (pa_cons (pv 7) (pa_cons (pv 2) (pa_cons (pv 13) (pa_cons (pv 12) (pa_cons (pv 10) pa_nil))))))) pa_nil)))))))))))), fun φ ds o H D0 σ hl hR hrt hex A => ?_⟩
  obtain ⟨w', h', g, ss, nm, px, py, mast, N, rfl, m0, m1, ho⟩ := hR
  replace A : At K φ (Same H) [some (netD g ss), some (.str nm), some (.tup [.int px, .int py]), some (.int mast), none, none, none, none, none, none, none, none, none, none, none] σ H := A
  clear F L_station_named L_height_at L_gain_between L_subtracted L_way_loss G_station_named G_height_at G_gain_between G_subtracted G_way_loss
  cases hfs : findS ss nm with
  | none =>
    rw [hfs] at ho
    exact q (st_rs A (rs_call (c := cS) (R := RNamed cS) (ea_cons (ev_var (i := 0) rfl) (ea_cons (ev_var (i := 1) rfl) ea_nil)) ⟨g, ss, nm, rfl, by rw [hfs]⟩) fun H2 b A2 => hex cS ho H2 A2.j)
  | some t =>
    rw [hfs] at ho
    have tm := (find_mem hfs).1
    have T := N.s t tm
    refine q (st_set (d := staD t) A (ev_callX (R := RNamed cS) (ea_cons (ev_var (i := 0) rfl) (ea_cons (ev_var (i := 1) rfl) ea_nil)) ⟨g, ss, nm, rfl, by rw [hfs]⟩) fun σ1 H1 A1 => ?_)
    replace A1 : At K φ (Same H) [some (netD g ss), some (.str nm), some (.tup [.int px, .int py]), some (.int mast), some (staD t), none, none, none, none, none, none, none, none, none, none] σ1 H1 := A1
    dsimp only
    refine q (st_set (d := gridD g) A1 (ev_ixT (ds := [gridD g, .tup (ss.map staD)]) (ev_var (i := 0) rfl) ev_int rfl) fun σ2 H2 A2 => ?_)
    replace A2 : At K φ (Same H) [some (netD g ss), some (.str nm), some (.tup [.int px, .int py]), some (.int mast), some (staD t), some (gridD g), none, none, none, none, none, none, none, none, none] σ2 H2 := A2
    dsimp only
    refine q (st_asgG (ρ2 := fun _ => [some (netD g ss), some (.str nm), some (.tup [.int px, .int py]), some (.int mast), some (staD t), some (gridD g), some (.str t.nm), some (.tup [.int t.x, .int t.y]), some (.int t.mast), some (.int t.power), some (.int t.mhz), some (.tup (t.ant.map lobeD)), none, none, none]) A2 (ev_var (i := 4) rfl) (fun d e => by
      subst e
      exact eg_tup (egs_cons eg_name (egs_cons eg_name (egs_cons eg_name (egs_cons eg_name (egs_cons eg_name (egs_cons eg_name egs_nil))))))) fun d σ3 H3 e A3 => ?_)
    dsimp only at A3 ⊢
    by_cases hp : inPlace w' h' px py = true
    · dsimp only at ho
      rw [if_pos hp] at ho
      subst ho
      have hrt := hrt _ rfl
      refine q (st_set (d := .int (cellAt g px py + mast)) A3 (ev_add (ev_callX (R := RHeight cP) (ea_cons (ev_var (i := 5) rfl) (ea_cons (ev_var (i := 2) rfl) ea_nil)) ⟨w', h', g, px, py, N.G, rfl, by rw [if_pos hp]⟩) (ev_var (i := 3) rfl)) fun σ4 H4 A4 => ?_)
      replace A4 : At K φ (Same H) [some (netD g ss), some (.str nm), some (.tup [.int px, .int py]), some (.int mast), some (staD t), some (gridD g), some (.str t.nm), some (.tup [.int t.x, .int t.y]), some (.int t.mast), some (.int t.power), some (.int t.mhz), some (.tup (t.ant.map lobeD)), some (.int (cellAt g px py + mast)), none, none] σ4 H4 := A4
      dsimp only
      refine q (st_set (d := .int (cellAt g t.x t.y + t.mast)) A4 (ev_add (ev_callX (R := RHeight cP) (ea_cons (ev_var (i := 5) rfl) (ea_cons (ev_var (i := 7) rfl) ea_nil)) ⟨w', h', g, t.x, t.y, N.G, rfl, by rw [if_pos T.pl]⟩) (ev_var (i := 8) rfl)) fun σ5 H5 A5 => ?_)
      replace A5 : At K φ (Same H) [some (netD g ss), some (.str nm), some (.tup [.int px, .int py]), some (.int mast), some (staD t), some (gridD g), some (.str t.nm), some (.tup [.int t.x, .int t.y]), some (.int t.mast), some (.int t.power), some (.int t.mhz), some (.tup (t.ant.map lobeD)), some (.int (cellAt g px py + mast)), some (.int (cellAt g t.x t.y + t.mast)), none] σ5 H5 := A5
      have w2 : twoPl w' h' t.x t.y px py = true := by unfold twoPl; rw [T.pl, hp]; rfl
      obtain ⟨i1, i2, i3, i4⟩ := two_in N.G.w2 N.G.h2 w2
      have c1 := cell_in N.G N.c T.pl
      have c2 := cell_in N.G N.c hp
      unfold cellOk at c1 c2
      have t0 := T.m0
      have t1 := T.m1
      obtain ⟨l, hh, el, eh, f', S', lv, ef, eS, S9, _, _, hin, hd, er⟩ := rcv_ok N tm hp m0 m1
      dsimp only
      refine q (st_set (d := .int (t.power + gainB t px py)) A5 (ev_add (ev_var (i := 9) rfl) (ev_callD (ea_cons (ev_var (i := 11) rfl) (ea_cons (ev_var (i := 7) rfl) (ea_cons (ev_var (i := 2) rfl) ea_nil))) ⟨t, px, py, rfl, T.ne, T.len, by omega, by omega, rfl⟩)) fun σ6 H6 A6 => ?_)
      replace A6 : At K φ (Same H) [some (netD g ss), some (.str nm), some (.tup [.int px, .int py]), some (.int mast), some (staD t), some (gridD g), some (.str t.nm), some (.tup [.int t.x, .int t.y]), some (.int t.mast), some (.int t.power), some (.int t.mhz), some (.tup (t.ant.map lobeD)), some (.int (cellAt g px py + mast)), some (.int (cellAt g t.x t.y + t.mast)), some (.int (t.power + gainB t px py))] σ6 H6 := A6
      dsimp only
      refine st_ret A6 (ev_callD (d := rcvD g t px py mast) (ea_cons (ev_tup (ea_cons (ev_var (i := 14) rfl) (ea_cons (ev_var (i := 14) rfl) ea_nil))) (ea_cons (ev_callX (R := RWay) (d := .tup [.int (l + -2755 + el), .int (hh + -2755 + eh)]) (ea_cons (ev_var (i := 5) rfl) (ea_cons (ev_var (i := 7) rfl) (ea_cons (ev_var (i := 2) rfl) (ea_cons (ev_var (i := 13) rfl) (ea_cons (ev_var (i := 12) rfl) (ea_cons (x := .int (f' : Int)) ((ev_var (i := 10) rfl).is (by rw [ef])) ea_nil)))))) ⟨w', h', g, t.x, t.y, px, py, _, _, l, hh, el, eh, f', S', N.G, rfl, w2, by rw [ef]; exact hin, lv, eS, S9, by omega, by rw [ef]; exact hd, rfl⟩) ea_nil)) ⟨_, _, _, _, rfl, by unfold rcvD; rw [er]⟩) fun v d' H6 e' A6 rr => hrt v H6 A6.j (by subst e'; exact rr)
    · dsimp only at ho
      rw [if_neg hp] at ho
      exact q (st_rs A3 (rs_op1 (rs_call (c := cP) (R := RHeight cP) (ea_cons (ev_var (i := 5) rfl) (ea_cons (ev_var (i := 2) rfl) ea_nil)) ⟨w', h', g, px, py, N.G, rfl, by rw [if_neg hp]⟩)) fun H2 b A2 => hex cP ho H2 A2.j)
end
end

/-! ### measurements -/
section
structure MRow where
  x : Int
  y : Int
  nm : Str
  lev : Int
def mrowD (r : MRow) : D := .tup [.tup [.int r.x, .int r.y], .str r.nm, .int r.lev]
def rowX (w h : Nat) (ss : List Sta) (cS cP : Addr) (r : MRow) : Option Addr := match findS ss r.nm with
  | none => some cS
  | some _ => if inPlace w h r.x r.y = true then none else some cP
def campX (w h : Nat) (ss : List Sta) (cS cP : Addr) : List MRow → Option Addr
  | [] => none
  | r :: rs => match rowX w h ss cS cP r with
    | some c => some c
    | none => campX w h ss cS cP rs
theorem campX_none {w h : Nat} {ss : List Sta} {cS cP : Addr} : ∀ {rows : List MRow}, (∀ r ∈ rows, rowX w h ss cS cP r = none) → campX w h ss cS cP rows = none
  | [], _ => rfl
  | r :: rs, hr => by
    unfold campX
    rw [hr r List.mem_cons_self]
    exact campX_none fun x hx => hr x (List.mem_cons_of_mem _ hx)
theorem campX_ok {w h : Nat} {ss : List Sta} {cS cP : Addr} : ∀ {rows : List MRow}, campX w h ss cS cP rows = none → ∀ r ∈ rows, rowX w h ss cS cP r = none
  | [], _, r, hr => by cases hr
  | a :: rs, hc, r, hr => by
    unfold campX at hc
    cases ha : rowX w h ss cS cP a with
    | some c =>
      rw [ha] at hc
      cases hc
    | none =>
      rw [ha] at hc
      rcases List.mem_cons.mp hr with rfl | hr
      · exact ha
      · exact campX_ok hc r hr
theorem campX_at {w h : Nat} {ss : List Sta} {cS cP c : Addr} : ∀ {rows : List MRow} {i : Nat} {r : MRow}, (∀ (j : Nat) (t : MRow), j < i → rows[j]? = some t → rowX w h ss cS cP t = none) → rows[i]? = some r → rowX w h ss cS cP r = some c → campX w h ss cS cP rows = some c
  | [], i, r, _, hi, _ => by cases hi
  | a :: rs, 0, r, _, hi, hc => by
    cases hi
    unfold campX
    rw [hc]
  | a :: rs, i + 1, r, hj, hi, hc => by
    unfold campX
    rw [hj 0 a (Nat.zero_lt_succ _) rfl]
    exact campX_at (i := i) (fun j t h1 h2 => hj (j + 1) t (Nat.succ_lt_succ h1) h2) hi hc
noncomputable def rcvR (g : List (List Int)) (ss : List Sta) (mast : Int) (r : MRow) : Int × Int := match findS ss r.nm with
  | some s => rcv g s r.x r.y mast
  | none => (0, 0)
noncomputable def difP (g : List (List Int)) (ss : List Sta) (mast : Int) (r : MRow) : Int × Int := (r.lev - (rcvR g ss mast r).2, r.lev - (rcvR g ss mast r).1)
def pairD (p : Int × Int) : D := .tup [.int p.1, .int p.2]
theorem recv_row {w h : Nat} {g : List (List Int)} {ss : List Sta} {cS cP : Addr} {mast : Int} {r : MRow} (N : NetOk w h g ss) (m0 : 0 ≤ mast) (m1 : mast ≤ 1000) : RRecv cS cP [netD g ss, .str r.nm, .tup [.int r.x, .int r.y], .int mast] (match rowX w h ss cS cP r with
  | some c => .inr c
  | none => .inl (pairD (rcvR g ss mast r))) := by
  refine ⟨w, h, g, ss, r.nm, r.x, r.y, mast, N, rfl, m0, m1, ?_⟩
  unfold rowX rcvR
  cases findS ss r.nm with
  | none => rfl
  | some s =>
    dsimp only
    by_cases z : inPlace w h r.x r.y = true
    · rw [if_pos z, if_pos z]
      rfl
    · rw [if_neg z, if_neg z]
section
variable {K : PySem.W.Frag} {φ : Addr → Prop} {J : Hp → Prop} {ρ : List (Option D)} {σ : L2.St} {H : Hp} {te ta tb td ty : TE} {t : TA} {W : WX} {c l : Addr} {P : D → Prop} {ds : List D} {kds : List (Key × D)} {k : Key} {D0 : Ends}
theorem rs_call2 {sp : Sp} {vs : List V} {E : XK} (ha : EvP K φ J ta ρ P) (h : Rs K φ J te ρ W c) : Rs K φ J (tCall sp vs E (tCons ta (tCons te t))) ρ W c := fun σ H A k Q => ha σ H A _ fun v d H1 b1 A1 pd r => h σ H1 A1 (fun H' b A' => k H' (b1.trans b) A') _
theorem rs_dget1 (h : Rs K φ J td ρ W c) : Rs K φ J (tDGet1 td ty) ρ W c := fun σ H A k Q => h σ H A k _
theorem rs_app {k : Nat} (L : LivS K φ J l HO.lst ds) (hk : ρ[k]? = some (some (.raw (.ref l)))) (h : Rs K φ J te ρ W c) : Rs K φ J (tBM K "list" rAppend (tVar k) (tCons te tNil)) ρ W c := fun σ H A kk Q => by
  obtain ⟨vs, H0, r, m, k0⟩ := L.ex
  obtain ⟨w, e, rw'⟩ := A.sr.2 k _ hk
  cases (show w = _ from rw')
  exact ⟨_, e, .inl ⟨rfl, _, SqL.of (k0 H A.j).1⟩, h σ H A kk _⟩
theorem ev_dget1 (hd : EvDict K φ J td ρ kds) (hy : EvD K φ J ty ρ (DKind.kd k)) : EvD K φ J (tDGet1 td ty) ρ ((valD kds k).getD .non) := fun σ H A Q q =>
  hd σ H A _ fun a H1 b1 A1 per => by
    obtain ⟨vs1, ea1, _⟩ := per H1 (But.refl _ _) A1.j
    refine ⟨a, rfl, DKind.isd ea1, hy σ H1 A1 _ fun y d' H2 b2 A2 e2 r2 => ?_⟩
    subst e2
    obtain ⟨vs, ea, rs⟩ := per H2 b2 A2.j
    refine ⟨_, DKind.get r2 ea, q _ _ H2 (b1.trans b2) A2 rfl ?_⟩
    rcases zip_val rs k with ⟨e1, e2⟩ | ⟨d1, v1, e1, e2, r1⟩
    · rw [e1, e2]; rfl
    · rw [e1, e2]; exact r1
theorem ev_newDk {kds : List (Key × D)} (h : EvNO K φ J te ρ (fun xs C => xs = kds.map (·.2) ∧ C = fun vs => HO.dK ((kds.map (·.1)).zip vs))) : EvD K φ J te ρ (dictD kds) := fun σ H A Q q => h σ H A _ fun p vs ds C H0 H' b0 A0 hp b A' ⟨e1, e2⟩ nt e r => by
  subst e1 e2
  exact q _ _ H' (b0.trans b) A' rfl (DKind.rep.mpr ⟨p, vs, rfl, ⟨A0.fr.new p hp, e, by rw [List.length_map, List.length_map]⟩, Reps.up (fun a o p e => ⟨p.1, e⟩) _ vs r⟩)
end
section
variable {P : Program} {w : World} {K : PySem.W.Frag} {mg : Str → Option Value} {base : Heap}
def campD (rows : List MRow) : D := .lst (rows.map mrowD)
def RDiffs (cS cP : Addr) : List D → D ⊕ Addr → Prop := fun ds o => ∃ (w h : Nat) (g : List (List Int)) (ss : List Sta) (mast : Int) (rows : List MRow), NetOk w h g ss ∧ ds = [netD g ss, .int mast, campD rows] ∧ 0 ≤ mast ∧ mast ≤ 1000 ∧ rows.length ≤ 60 ∧ o = match campX w h ss cS cP rows with
  | some c => .inr c
  | none => .inl (.lst (rows.map fun r => pairD (difP g ss mast r)))
theorem sc_differences : FnScope ["network", "mast", "campaign", "found", "place", "name", "level"] ["network", "mast", "campaign"] (defScope s_differences) := ⟨rfl, rfl, rfl, by decide +kernel, rfl, by decide +kernel, by decide +kernel⟩
theorem ok_differences (B : Bi mg) {cS cP : Addr} {f g1 g2 : Addr} {fd gd1 gd2 : FuncData} (F : Fun K "differences" "differences" s_differences f fd)
    (L_received : Lk K mg "received" g1 gd1 ["network", "name", "place", "mast"]) (G_received : FnOk P w K mg base (L2.CX P w) 7 g1 gd1 ["network", "name", "place", "mast"] (SpX K 4 (RRecv cS cP)))
    (L_subtracted : Lk K mg "subtracted" g2 gd2 ["a", "b"]) (G_subtracted : FnOk P w K mg base CX0 1 g2 gd2 ["a", "b"] (SpD K 2 RSubt)) : FnOk P w K mg base (L2.CX P w) 8 f fd ["network", "mast", "campaign"] (SpX K 3 (RDiffs cS cP)) := by
  have S := sc_differences
  refine fn_okX F S rfl 4 rfl fun cdv A outer s H E hr => ⟨_, ((pss_cons (ps_set (i := 3) S.nd rfl (by first | exact Or.inl rfl | exact Or.inr rfl) (pe_lst pa_nil))
 (pss_cons (ps_for (passes_of rfl) rfl (pi_list (pv 2)) (pg_tup (by rfl) (pgs_cons (pg_name (i := 4) S.nd rfl (by first | exact Or.inl rfl | exact Or.inr rfl)) (pgs_cons (pg_name (i := 5) S.nd rfl (by first | exact Or.inl rfl | exact Or.inr rfl)) (pgs_cons (pg_name (i := 6) S.nd rfl (by first | exact Or.inl rfl | exact Or.inr rfl)) pgs_nil))))
 (pss_one (ps_expr (pe_bm PySem.F.plainAttrs_list PySem.F.slot_list_append PySem.F.type_list_append mt_append (pv 3) (pa_cons (pe_call G_subtracted (hr.mono (by first | exact Nat.le_refl _ | decide | omega)) (by rfl) L_subtracted.m L_subtracted.kp L_subtracted.bi .nil pass0 (pa_cons (pe_tup (pa_cons (pv 6) (pa_cons (pv 6) pa_nil))) (pa_cons (pe_callS G_received (hr.mono (by first | exact Nat.le_refl _ | decide | omega)) (by rfl) L_received.m L_received.kp L_received.bi (fun σ => passAt (takes_of rfl rfl rfl rfl) σ) (pa_cons (pv 0) (pa_cons (pv 5) (pa_cons (pv 4) (pa_cons (pv 1) pa_nil))))) pa_nil))) pa_nil)))))
 (pss_one (ps_ret (pv 3)))))), fun φ ds o H D0 σ hl hR hrt hex A => ?_⟩
  obtain ⟨w', h', g, ss, mast, rows, N, rfl, m0, m1, hlen, ho⟩ := hR
  replace A : At K φ (Same H) [some (netD g ss), some (.int mast), some (campD rows), none, none, none, none] σ H := A
  clear F L_received G_received L_subtracted G_subtracted
  refine q (st_newS A (en_ofN (en_lstD ea_nil)) fun l ds0 C J1 σ1 H1 hC N1 L1 A1 => ?_)
  obtain ⟨e, rfl⟩ := hC
  subst e
  have sb : Stab l (Same H) := N1.same fun _ h => h
  replace A1 : At K (wo φ l) J1 [some (netD g ss), some (.int mast), some (campD rows), some (.raw (.ref l)), none, none, none] σ1 H1 := A1
  dsimp only
  refine q (st_forT A1 (it_list (ds := rows.map mrowD) (ev_var (i := 2) rfl)) (us := [4, 5, 6]) (ρt := fun d ρ' => match d with | .tup [a, b, c] => ((ρ'.set 4 (some a)).set 5 (some b)).set 6 (some c) | _ => ρ') (fun i ρ' J' => ∃ o4 o5 o6, (∀ (j : Nat) (t : MRow), j < i → rows[j]? = some t → rowX w' h' ss cS cP t = none) ∧ LivS K (wo φ l) J' l HO.lst ((rows.take i).map fun r => pairD (difP g ss mast r)) ∧ (∀ H', J' H' → Same H H') ∧ ρ' = [some (netD g ss), some (.int mast), some (campD rows), some (.raw (.ref l)), o4, o5, o6]) ⟨none, none, none, fun j t hj => absurd hj (Nat.not_lt_zero j), L1, fun H' h => N1.ext.imp H' h, rfl⟩ ?_ ?_ ?_)
  · rintro i d ρ' J' hd -
    rw [List.getElem?_map] at hd
    obtain ⟨r, hr, rfl⟩ := Option.map_eq_some_iff.mp hd
    exact eg_tup (ds := [.tup [.int r.x, .int r.y], .str r.nm, .int r.lev]) (egs_cons eg_name (egs_cons eg_name (egs_cons eg_name egs_nil)))
  · rintro H2 i d ρ' J' b2 j2 hd ⟨o4, o5, o6, hno, L2', hb, rfl⟩ σ' H' A2
    rw [List.getElem?_map] at hd
    obtain ⟨r, hr, rfl⟩ := Option.map_eq_some_iff.mp hd
    have hi : i < rows.length := (List.getElem?_eq_some_iff.mp hr).1
    replace A2 : At K (wo φ l) (fun H => J' H ∧ But (wo φ l) H2 H) [some (netD g ss), some (.int mast), some (campD rows), some (.raw (.ref l)), some (.tup [.int r.x, .int r.y]), some (.str r.nm), some (.int r.lev)] σ' H' := A2
    have hrow := recv_row (cS := cS) (cP := cP) (r := r) N m0 m1
    cases hx : rowX w' h' ss cS cP r with
    | some c =>
      rw [hx] at hrow
      rw [campX_at hno hr hx] at ho
      exact st_rs A2 (rs_app (l := l) L2'.but rfl (rs_call2 (ev_tup (ea_cons (ev_var (i := 6) rfl) (ea_cons (ev_var (i := 6) rfl) ea_nil))) (rs_call (c := c) (R := RRecv cS cP) (ea_cons (ev_var (i := 0) rfl) (ea_cons (ev_var (i := 5) rfl) (ea_cons (ev_var (i := 4) rfl) (ea_cons (ev_var (i := 1) rfl) ea_nil)))) hrow))) fun H3 b A3 => hex c ho H3 (hb _ A3.j.1)
    | none =>
      rw [hx] at hrow
      refine st_appS A2 L2'.but rfl (ev_callD (d := pairD (difP g ss mast r)) (ea_cons (ev_tup (ea_cons (ev_var (i := 6) rfl) (ea_cons (ev_var (i := 6) rfl) ea_nil))) (ea_cons (ev_callX (R := RRecv cS cP) (d := pairD (rcvR g ss mast r)) (ea_cons (ev_var (i := 0) rfl) (ea_cons (ev_var (i := 5) rfl) (ea_cons (ev_var (i := 4) rfl) (ea_cons (ev_var (i := 1) rfl) ea_nil)))) hrow) ea_nil)) ⟨_, _, _, _, rfl, rfl⟩) ?_ fun d J4 H4 hd W4 L4 A4 => ?_
      · rw [List.length_map]
        have h2 := List.length_take_le i rows
        omega
      · subst hd
        refine ⟨_, J4, ⟨_, _, _, fun j t hj ht => ?_, ?_, W4.base _ (fun H h => hb H h.1) sb, rfl⟩, A4.live ⟨A4.j, W4.base _ (fun H h => h.2) ?_ _ A4.j⟩ ?_⟩
        · by_cases e : j = i
          · subst e
            rw [hr] at ht
            cases ht
            exact hx
          · exact hno j t (by omega) ht
        · rw [List.take_add_one, hr, List.map_append]
          exact L4
        · exact Stab.but (.inl L1.np)
        · exact A4.mono.and (Mo.but (W4.base _ (fun H h => h.2) (Stab.but (.inl L1.np)) _ A4.j).tr)
  · rintro H2 ρ' J' σ' H' b2 j2 ⟨o4, o5, o6, hno, L2', hb, rfl⟩ A2
    rw [List.length_map] at hno L2'
    rw [List.take_length] at L2'
    rw [campX_none fun r hr => by
      obtain ⟨j, hj⟩ := List.mem_iff_getElem?.mp hr
      exact hno j r (List.getElem?_eq_some_iff.mp hj).1 hj] at ho
    have A3 := L2'.but.freeze N1.fr A2 (k := 3) rfl
    replace A3 : At K φ (fun H_1 => (J' H_1 ∧ But (wo φ l) H2 H_1) ∧ But φ H' H_1) [some (netD g ss), some (.int mast), some (campD rows), some (.lst (rows.map fun r => pairD (difP g ss mast r))), o4, o5, o6] σ' H' := A3
    exact st_ret A3 (ev_var (i := 3) rfl) fun v d' H6 e' A6 rr => hrt _ ho v H6 (hb _ A6.j.1.1) (by subst e'; exact rr)
end
end

/-! ### the middle of integers -/
section
def cntLt (ns : List Int) (v : Int) : Nat := ns.countP fun x => decide (x < v)
def cntLe (ns : List Int) (v : Int) : Nat := ns.countP fun x => decide (x ≤ v)
def isMed (ns : List Int) (v : Int) : Bool := decide (cntLt ns v ≤ (ns.length - 1) / 2) && decide ((ns.length - 1) / 2 < cntLe ns v)
def medI (ns : List Int) : Int := (ns.find? (isMed ns)).getD 0
def medD (ns : List Int) : D := if ns = [] then .non else .int (medI ns)
theorem med_lt {ns : List Int} {u v : Int} (h : u < v) : cntLe ns u ≤ cntLt ns v := List.countP_mono_left fun x _ hx => by
  rw [decide_eq_true_eq] at hx ⊢
  omega
theorem med_uniq {ns : List Int} {u v : Int} (hu : isMed ns u = true) (hv : isMed ns v = true) : u = v := by
  unfold isMed at hu hv
  rw [Bool.and_eq_true, decide_eq_true_eq, decide_eq_true_eq] at hu hv
  rcases Int.lt_trichotomy u v with h | h | h
  · have := med_lt (ns := ns) h
    omega
  · exact h
  · have := med_lt (ns := ns) h
    omega
theorem med_of {o ns : List Int} (hp : o.Perm ns) (hs : o.Pairwise (· ≤ ·)) {v : Int} (hv : o[(ns.length - 1) / 2]? = some v) : v ∈ ns ∧ isMed ns v = true := by
  have hl : o.length = ns.length := hp.length_eq
  have hi : (ns.length - 1) / 2 < o.length := (List.getElem?_eq_some_iff.mp hv).1
  have ev : o[(ns.length - 1) / 2] = v := (List.getElem?_eq_some_iff.mp hv).2
  refine ⟨hp.mem_iff.mp (List.mem_of_getElem? hv), ?_⟩
  have pw := List.pairwise_iff_getElem.mp hs
  unfold isMed cntLt cntLe
  rw [← hp.countP_eq, ← hp.countP_eq, Bool.and_eq_true, decide_eq_true_eq, decide_eq_true_eq]
  generalize (ns.length - 1) / 2 = m at hi ev
  constructor
  · have e : o = o.take m ++ o.drop m := (List.take_append_drop _ _).symm
    conv => lhs; rw [e]
    rw [List.countP_append]
    have a1 := List.countP_le_length (p := fun x : Int => decide (x < v)) (l := o.take m)
    rw [List.length_take] at a1
    have a2 : (o.drop m).countP (fun x : Int => decide (x < v)) = 0 := List.countP_eq_zero.mpr fun x hx => by
      obtain ⟨j, hj, rfl⟩ := List.getElem_of_mem hx
      rw [List.getElem_drop, decide_eq_true_eq]
      rw [List.length_drop] at hj
      by_cases j0 : j = 0
      · subst j0
        show ¬ o[m + 0] < v
        rw [← ev]
        exact Int.lt_irrefl _
      · have := pw m (m + j) hi (by omega) (by omega)
        omega
    omega
  · have e : o = o.take (m + 1) ++ o.drop (m + 1) := (List.take_append_drop _ _).symm
    conv => rhs; rw [e]
    rw [List.countP_append]
    have a2 : (o.take (m + 1)).countP (fun x : Int => decide (x ≤ v)) = (o.take (m + 1)).length := List.countP_eq_length.mpr fun x hx => by
      obtain ⟨j, hj, rfl⟩ := List.getElem_of_mem hx
      rw [List.getElem_take, decide_eq_true_eq]
      rw [List.length_take] at hj
      by_cases j0 : j = m
      · subst j0
        rw [ev]
        exact Int.le_refl _
      · have := pw j m (by omega) hi (by omega)
        omega
    rw [a2, List.length_take]
    omega
theorem med_val {ns : List Int} {v : Int} (hm : v ∈ ns) (h : isMed ns v = true) : medI ns = v := by
  unfold medI
  cases e : ns.find? (isMed ns) with
  | none => exact absurd h (by rw [Bool.not_eq_true]; simpa using List.find?_eq_none.mp e v hm)
  | some u => exact med_uniq (List.find?_some e) h
theorem med_ne {ns : List Int} (h : ns ≠ []) : medD ns = .int (medI ns) := by
  unfold medD
  rw [if_neg h]
theorem med_mem {ns : List Int} {o : List Int} (hp : o.Perm ns) (hs : o.Pairwise (· ≤ ·)) (h : ns ≠ []) : medI ns ∈ ns ∧ isMed ns (medI ns) = true ∧ o[(ns.length - 1) / 2]? = some (medI ns) := by
  have hl : o.length = ns.length := hp.length_eq
  have : 0 < ns.length := List.length_pos_iff.mpr h
  have hi : (ns.length - 1) / 2 < o.length := by omega
  obtain ⟨a, b⟩ := med_of hp hs (List.getElem?_eq_getElem hi)
  rw [med_val a b]
  exact ⟨a, b, List.getElem?_eq_getElem hi⟩
section
variable {P : Program} {w : World} {K : PySem.W.Frag} {mg : Str → Option Value} {base : Heap}
def RMed : List D → D → Prop := fun ds d => ∃ ns : List Int, ds = [.lst (ns.map D.int)] ∧ ns.length < 64 ∧ d = medD ns
theorem sc_median : FnScope ["numbers"] ["numbers"] (defScope s_median) := ⟨rfl, rfl, rfl, by decide +kernel, rfl, by decide +kernel, by decide +kernel⟩
theorem ok_median (B : Bi mg) {f : Addr} {fd : FuncData} (F : Fun K "median" "median" s_median f fd) : FnOk P w K mg base CX0 1 f fd ["numbers"] (SpD K 1 RMed) := by
  have S := sc_median
  refine fn_ok F S rfl 0 rfl fun cdv A outer s H E hr => ⟨_, ((pss_cons (ps_if (pt_cmpR (op_eqD hr.units) (pv 0) (pe_lst pa_nil) (nomark _))
 (pss_one (ps_ret pe_non))
 pss_nil)
 (pss_one (ps_ret (pe_ix ix_list (pe_callB c_sortedI (by rfl) B.sorted (by decide +kernel) (pa_cons (pv 0) pa_nil)) (pe_op op_fdiv (pe_op op_sub (pe_callB c_len (by rfl) B.len (by decide +kernel) (pa_cons (pv 0) pa_nil)) pe_int) pe_int) (fun _ _ => rfl)))))), fun φ ds d H D0 σ hl hR hrt hnx A => ?_⟩
  obtain ⟨ns, rfl, hlen, rfl⟩ := hR
  replace A : At K φ (Same H) [some (.lst (ns.map D.int))] σ H := A
  clear F
  refine q (st_if A (et_test (ev_eqQ (ev_var (i := 0) rfl) (ev_lst ea_nil) okq_ints rfl)) (fun hb H1 A1 => ?_) (fun hb H1 A1 => st_next ?_))
  · rw [eqvD_nil] at hb
    have e : ns = [] := by
      cases ns with
      | nil => rfl
      | cons a b => cases hb
    subst e
    exact st_ret A1 ev_non fun v d' H6 e' A6 rr => hrt v H6 A6.j (by subst e'; exact rr)
  · rw [eqvD_nil] at hb
    have hne : ns ≠ [] := by
      rintro rfl
      cases hb
    rw [med_ne hne] at hrt
    have : 0 < ns.length := List.length_pos_iff.mpr hne
    refine st_ret A1 (ev_ixLP (P := fun d => d = .int (medI ns)) (ev_sortedI (ev_var (i := 0) rfl) hlen) (ev_i (i := (((ns.length - 1) / 2 : Nat) : Int)) ((ev_fdiv (ev_sub (ev_lenL (ev_var (i := 0) rfl)) ev_int) ev_int ⟨by decide, by decide⟩).is (by
      rw [List.length_map]
      congr 1
      omega))) ?_) fun v d' H6 e' A6 rr => hrt v H6 A6.j (by subst e'; exact rr)
    rintro x i ⟨o, rfl, hp, hs⟩ rfl
    exact ⟨_, _, rfl, atI_ofNat (by rw [List.getElem?_map, (med_mem hp hs hne).2.2]; rfl), rfl⟩
end
end

/-! ### offsets -/
section
def valsR (prs : List (Str × Int)) (nm : Str) : List Int := (prs.filter fun p => decide (p.1 = nm)).map (·.2)
def offB : List (Str × Int) → List (Key × D)
  | [] => []
  | p :: ps => putD (offB ps) (Sum.inr p.1) (.lst ((valsR (ps.reverse ++ [p]) p.1).map D.int))
def offF (prs : List (Str × Int)) : List (Key × D) := offB prs.reverse
theorem valsR_snoc (prs : List (Str × Int)) (p : Str × Int) (nm : Str) : valsR (prs ++ [p]) nm = valsR prs nm ++ (if p.1 = nm then [p.2] else []) := by
  unfold valsR
  rw [List.filter_append, List.map_append]
  congr 1
  by_cases e : p.1 = nm
  · rw [if_pos e, List.filter_cons_of_pos (p := fun q : Str × Int => decide (q.1 = nm)) (decide_eq_true e)]
    rfl
  · rw [if_neg e, List.filter_cons_of_neg (p := fun q : Str × Int => decide (q.1 = nm)) (fun z => e (of_decide_eq_true z))]
    rfl
theorem offF_snoc (prs : List (Str × Int)) (p : Str × Int) : offF (prs ++ [p]) = putD (offF prs) (Sum.inr p.1) (.lst ((valsR (prs ++ [p]) p.1).map D.int)) := by
  unfold offF
  rw [List.reverse_append, List.reverse_singleton, List.singleton_append]
  show putD _ _ (.lst ((valsR (prs.reverse.reverse ++ [p]) p.1).map D.int)) = _
  rw [List.reverse_reverse]
theorem offB_val : ∀ (ps : List (Str × Int)) (nm : Str), valD (offB ps) (Sum.inr nm : Key) = if valsR ps.reverse nm = [] then none else some (.lst ((valsR ps.reverse nm).map D.int))
  | [], nm => rfl
  | p :: ps, nm => by
    show valD (putD _ _ _) _ = _
    rw [valD_put, List.reverse_cons]
    by_cases e : p.1 = nm
    · rw [if_pos (by rw [e]), e, if_neg]
      rw [valsR_snoc, if_pos e]
      exact fun z => by simp at z
    · rw [if_neg (fun z => e (Sum.inr.inj z).symm), offB_val ps nm, valsR_snoc, if_neg e, List.append_nil]
theorem off_val (prs : List (Str × Int)) (nm : Str) : valD (offF prs) (Sum.inr nm : Key) = if valsR prs nm = [] then none else some (.lst ((valsR prs nm).map D.int)) := by
  unfold offF
  rw [offB_val, List.reverse_reverse]
theorem off_getD (prs : List (Str × Int)) (nm : Str) : (valD (offF prs) (Sum.inr nm : Key)).getD (.lst []) = .lst ((valsR prs nm).map D.int) := by
  rw [off_val]
  by_cases e : valsR prs nm = []
  · rw [if_pos e, e]
    rfl
  · rw [if_neg e]
    rfl
theorem offB_keys : ∀ ps : List (Str × Int), ∃ ks : List Str, (offB ps).map (·.1) = ks.map Sum.inr
  | [] => ⟨[], rfl⟩
  | p :: ps => by
    obtain ⟨ks, e⟩ := offB_keys ps
    show ∃ ks : List Str, (putD _ _ _).map (·.1) = _
    cases z : valD (offB ps) (Sum.inr p.1 : Key) with
    | some x => exact ⟨ks, by rw [putD_keys_old z, e]⟩
    | none => exact ⟨ks ++ [p.1], by rw [putD_new z, List.map_append, List.map_append, e]; rfl⟩
theorem off_keys (prs : List (Str × Int)) : ∃ ks : List Str, (offF prs).map (·.1) = ks.map Sum.inr ∧ ∀ nm, nm ∈ ks ↔ valsR prs nm ≠ [] := by
  obtain ⟨ks, e⟩ := offB_keys prs.reverse
  refine ⟨ks, e, fun nm => ?_⟩
  have h := valD_some (kds := offF prs) (k := (Sum.inr nm : Key))
  rw [show (offF prs).map (·.1) = ks.map Sum.inr from e] at h
  rw [off_val] at h
  have m : (Sum.inr nm : Key) ∈ ks.map Sum.inr ↔ nm ∈ ks := ⟨fun z => by
    obtain ⟨a, ha, ea⟩ := List.mem_map.mp z
    rw [← Sum.inr.inj ea]
    exact ha, fun z => List.mem_map.mpr ⟨nm, z, rfl⟩⟩
  rw [← m, ← h]
  by_cases z : valsR prs nm = []
  · rw [if_pos z]
    simp [z]
  · rw [if_neg z]
    simp [z]
theorem offB_len : ∀ ps : List (Str × Int), (offB ps).length ≤ ps.length
  | [] => Nat.le_refl _
  | p :: ps => by
    have h := offB_len ps
    have h2 := putD_len (offB ps) (Sum.inr p.1 : Key) (.lst ((valsR (ps.reverse ++ [p]) p.1).map D.int))
    show (putD _ _ _).length ≤ ps.length + 1
    omega
theorem off_len (prs : List (Str × Int)) : (offF prs).length ≤ prs.length := by
  have := offB_len prs.reverse
  rw [List.length_reverse] at this
  exact this
theorem valsR_len (prs : List (Str × Int)) (nm : Str) : (valsR prs nm).length ≤ prs.length := by
  unfold valsR
  rw [List.length_map]
  exact List.length_filter_le _ _
/-- the dict of the medians -/
def kfS : D → Key
  | .str s => .inr s
  | _ => .inl 0
def vfS (prs : List (Str × Int)) : D → D
  | .str s => medD (valsR prs s)
  | _ => .non
def medsF (prs : List (Str × Int)) : List (Key × D) := foldK kfS (vfS prs) ((offF prs).map fun kv => keyD kv.1)
theorem snoc_ind {α : Type} {Q : List α → Prop} (h0 : Q []) (hs : ∀ xs x, Q xs → Q (xs ++ [x])) : ∀ xs, Q xs := by
  have h : ∀ ys : List α, Q ys.reverse := fun ys => by
    induction ys with
    | nil => exact h0
    | cons a r ih =>
      rw [List.reverse_cons]
      exact hs _ _ ih
  intro xs
  have := h xs.reverse
  rw [List.reverse_reverse] at this
  exact this
theorem fold_val {prs : List (Str × Int)} {nm : Str} : ∀ ks : List Str, valD (foldK kfS (vfS prs) (ks.map D.str)) (Sum.inr nm : Key) = if nm ∈ ks then some (medD (valsR prs nm)) else none := by
  refine snoc_ind rfl fun xs x ih => ?_
  rw [List.map_append, List.map_singleton, foldK_snoc, valD_put, ih]
  show (if (Sum.inr nm : Key) = Sum.inr x then some (medD (valsR prs x)) else _) = _
  by_cases e : nm = x
  · subst e
    rw [if_pos rfl, if_pos (List.mem_append_right _ (List.mem_singleton.mpr rfl))]
  · rw [if_neg (fun z => e (Sum.inr.inj z))]
    by_cases m : nm ∈ xs
    · rw [if_pos m, if_pos (List.mem_append_left _ m)]
    · rw [if_neg m, if_neg (fun z => by
        rcases List.mem_append.mp z with z | z
        · exact m z
        · exact e (List.mem_singleton.mp z))]
theorem keys_str {prs : List (Str × Int)} {ks : List Str} (e : (offF prs).map (·.1) = ks.map Sum.inr) : (offF prs).map (fun kv => keyD kv.1) = ks.map D.str := by
  have h2 := congrArg (List.map keyD) e
  rw [List.map_map, List.map_map] at h2
  exact h2
theorem meds_val (prs : List (Str × Int)) (nm : Str) : valD (medsF prs) (Sum.inr nm : Key) = if valsR prs nm = [] then none else some (.int (medI (valsR prs nm))) := by
  obtain ⟨ks, e, hm⟩ := off_keys prs
  unfold medsF
  rw [keys_str e, fold_val]
  by_cases z : valsR prs nm = []
  · rw [if_neg (fun m => (hm nm).mp m z), if_pos z]
  · rw [if_pos ((hm nm).mpr z), if_neg z, med_ne z]
theorem meds_getD (prs : List (Str × Int)) (nm : Str) : (valD (medsF prs) (Sum.inr nm : Key)).getD .non = medD (valsR prs nm) := by
  rw [meds_val]
  by_cases z : valsR prs nm = []
  · rw [if_pos z, z]
    rfl
  · rw [if_neg z, med_ne z]
    rfl
noncomputable def prsR (g : List (List Int)) (ss : List Sta) (mast : Int) (rows : List MRow) : List (Str × Int) := rows.map fun r => (r.nm, (difP g ss mast r).1)
section
variable {P : Program} {w : World} {K : PySem.W.Frag} {mg : Str → Option Value} {base : Heap}
def ROffs (cS cP : Addr) : List D → D ⊕ Addr → Prop := fun ds o => ∃ (w h : Nat) (g : List (List Int)) (ss : List Sta) (mast : Int) (rows : List MRow), NetOk w h g ss ∧ ds = [netD g ss, .int mast, campD rows] ∧ 0 ≤ mast ∧ mast ≤ 1000 ∧ rows.length ≤ 60 ∧ o = match campX w h ss cS cP rows with
  | some c => .inr c
  | none => .inl (dictD (medsF (prsR g ss mast rows)))
theorem sc_offsets_of : FnScope ["network", "mast", "campaign", "found", "measurement", "pair", "name"] ["network", "mast", "campaign"] (defScope s_offsets_of) := ⟨rfl, rfl, rfl, by decide +kernel, rfl, by decide +kernel, by decide +kernel⟩
set_option maxHeartbeats 1000000 in
theorem ok_offsets_of (B : Bi mg) {cS cP : Addr} {f g1 g2 : Addr} {fd gd1 gd2 : FuncData} (F : Fun K "offsets_of" "offsets_of" s_offsets_of f fd)
    (L_differences : Lk K mg "differences" g1 gd1 ["network", "mast", "campaign"]) (G_differences : FnOk P w K mg base (L2.CX P w) 8 g1 gd1 ["network", "mast", "campaign"] (SpX K 3 (RDiffs cS cP)))
    (L_median : Lk K mg "median" g2 gd2 ["numbers"]) (G_median : FnOk P w K mg base CX0 1 g2 gd2 ["numbers"] (SpD K 1 RMed)) : FnOk P w K mg base (L2.CX P w) 9 f fd ["network", "mast", "campaign"] (SpX K 3 (ROffs cS cP)) := by
  have S := sc_offsets_of
  refine fn_okX F S rfl 4 rfl fun cdv A outer s H E hr => ⟨_, ((pss_cons (ps_set (i := 3) S.nd rfl (by first | exact Or.inl rfl | exact Or.inr rfl) pe_dnewK)
 (pss_cons (ps_for (passes_of rfl) rfl (RZ.pi_zipA (by rfl) B.zip (pa_cons (pv 2) (pa_cons (pe_callS G_differences (hr.mono (by first | exact Nat.le_refl _ | decide | omega)) (by rfl) L_differences.m L_differences.kp L_differences.bi (fun σ => passAt (takes_of rfl rfl rfl rfl) σ) (pa_cons (pv 0) (pa_cons (pv 1) (pa_cons (pv 2) pa_nil)))) pa_nil))) (pg_tup (by rfl) (pgs_cons (pg_name (i := 4) S.nd rfl (by first | exact Or.inl rfl | exact Or.inr rfl)) (pgs_cons (pg_name (i := 5) S.nd rfl (by first | exact Or.inl rfl | exact Or.inr rfl)) pgs_nil)))
 (pss_one (ps_dput hr.units1 (pv 3) (pe_ix ix_tup (pv 4) pe_int (fun _ _ => rfl)) (pe_op op_catL (pe_dget2 hr.units1 (pv 3) (pe_ix ix_tup (pv 4) pe_int (fun _ _ => rfl)) (pe_lst pa_nil) ⟨rfl, rfl, rfl, rfl⟩) (pe_lst (pa_cons (pe_ix ix_tup (pv 5) pe_int (fun _ _ => rfl)) pa_nil))) rfl)))
 (pss_one (ps_ret (pe_lock (pe_dc (own := [("name", 6)]) (g := (gName 6)) (tt := tYes) (by rfl) S.nd (pi_keys (pv 3)) (blkOk_by (N := ["network", "mast", "campaign", "found", "measurement", "pair", "name"]) (sc := defScope s_offsets_of) (own := [("name", 6)]) (by decide +kernel)) (fun _ _ _ _ _ => (pg_name (i := 6) S.nd rfl (by first | exact Or.inl rfl | exact Or.inr rfl))) (fun _ _ _ _ _ => pts_nil) (fun _ _ _ _ _ => (pv 6)) (fun _ _ _ _ _ => (pe_call G_median (hr.mono (by first | exact Nat.le_refl _ | decide | omega)) (by rfl) L_median.m L_median.kp L_median.bi .nil pass0 (pa_cons (pe_dget hr.units1 (pv 3) (pv 6) (fun _ _ => rfl)) pa_nil)))))))))), fun φ ds o H D0 σ hl hR hrt hex A => ?_⟩
  obtain ⟨w', h', g, ss, mast, rows, N, rfl, m0, m1, hlen, ho⟩ := hR
  replace A : At K φ (Same H) [some (netD g ss), some (.int mast), some (campD rows), none, none, none, none] σ H := A
  clear F L_differences G_differences L_median G_median
  refine q (st_newS A en_dnewK fun l ds0 C J1 σ1 H1 hC N1 L1 A1 => ?_)
  obtain ⟨rfl, rfl⟩ := hC
  have L1 : LivDS K (wo φ l) J1 l (offF []) := L1
  have sb : Stab l (Same H) := N1.same fun _ h => h
  replace A1 : At K (wo φ l) J1 [some (netD g ss), some (.int mast), some (campD rows), some (.raw (.ref l)), none, none, none] σ1 H1 := A1
  dsimp only
  have hdiff : RDiffs cS cP [netD g ss, .int mast, campD rows] (match campX w' h' ss cS cP rows with
    | some c => .inr c
    | none => .inl (.lst (rows.map fun r => pairD (difP g ss mast r)))) := ⟨w', h', g, ss, mast, rows, N, rfl, m0, m1, hlen, rfl⟩
  cases hc : campX w' h' ss cS cP rows with
  | some c =>
    rw [hc] at ho hdiff
    exact q ((ev_var (i := 2) rfl) _ _ A1 _ fun v d H2 b2 A2 pd r2 => (rs_call (c := c) (R := RDiffs cS cP) (ea_cons (ev_var (i := 0) rfl) (ea_cons (ev_var (i := 1) rfl) (ea_cons (ev_var (i := 2) rfl) ea_nil))) hdiff) _ _ A2 (fun H' b A' => hex c ho H' (N1.ext.imp H' A'.j)) _)
  | none =>
    rw [hc] at ho hdiff
    have hrt := hrt _ ho
    clear hex
    generalize hprs : prsR g ss mast rows = prs at hrt
    have hpl : prs.length = rows.length := by rw [← hprs]; unfold prsR; rw [List.length_map]
    refine q (st_forT A1 (it_zipL (ds := rows.map mrowD) (es := rows.map fun r => pairD (difP g ss mast r)) (ea_cons (ev_var (i := 2) rfl) (ea_cons (ev_callX (R := RDiffs cS cP) (ea_cons (ev_var (i := 0) rfl) (ea_cons (ev_var (i := 1) rfl) (ea_cons (ev_var (i := 2) rfl) ea_nil))) hdiff) ea_nil))) (us := [4, 5]) (ρt := fun d ρ' => match d with | .tup [a, b] => (ρ'.set 4 (some a)).set 5 (some b) | _ => ρ') (fun i ρ' J' => ∃ o4 o5, LivDS K (wo φ l) J' l (offF (prs.take i)) ∧ (∀ H', J' H' → Same H H') ∧ ρ' = [some (netD g ss), some (.int mast), some (campD rows), some (.raw (.ref l)), o4, o5, none]) ⟨none, none, L1, fun H' h => N1.ext.imp H' h, rfl⟩ ?_ ?_ ?_)
    · rintro i d ρ' J' hd -
      obtain ⟨d1, d2, e1, e2, rfl⟩ := zipD_getD hd
      exact eg_tup (ds := [d1, d2]) (egs_cons eg_name (egs_cons eg_name egs_nil))
    · rintro H2 i d ρ' J' b2 j2 hd ⟨o4, o5, L2', hb, rfl⟩ σ' H' A2
      obtain ⟨d1, d2, e1, e2, rfl⟩ := zipD_getD hd
      rw [List.getElem?_map] at e1 e2
      obtain ⟨r, hr, rfl⟩ := Option.map_eq_some_iff.mp e1
      rw [hr] at e2
      cases e2
      have hi : i < rows.length := (List.getElem?_eq_some_iff.mp hr).1
      have hpi : prs[i]? = some (r.nm, (difP g ss mast r).1) := by rw [← hprs]; unfold prsR; rw [List.getElem?_map, hr]; rfl
      replace A2 : At K (wo φ l) (fun H => J' H ∧ But (wo φ l) H2 H) [some (netD g ss), some (.int mast), some (campD rows), some (.raw (.ref l)), some (mrowD r), some (pairD (difP g ss mast r)), none] σ' H' := A2
      have key : ∀ {J : Hp → Prop}, EvD K (wo φ l) J (tOp (rIxT K) (tVar 4) (tC (.int 1))) [some (netD g ss), some (.int mast), some (campD rows), some (.raw (.ref l)), some (mrowD r), some (pairD (difP g ss mast r)), none] (DKind.kd (Sum.inr r.nm : Key)) := fun {J} => ev_ixT (ds := [.tup [.int r.x, .int r.y], .str r.nm, .int r.lev]) (ev_var (i := 4) rfl) ev_int rfl
      have tl : (valsR (prs.take i) r.nm).length ≤ 60 := by
        have a := valsR_len (prs.take i) r.nm
        have b := List.length_take_le i prs
        omega
      refine st_dputS (k := (Sum.inr r.nm : Key)) (kds := offF (prs.take i)) A2 L2'.but (ev_catL (ds := (valsR (prs.take i) r.nm).map D.int) (es := [.int (difP g ss mast r).1]) ((ev_dget2 (k := (Sum.inr r.nm : Key)) (ed_liveS L2'.but (ev_var (i := 3) rfl)) key (ev_lst ea_nil)).is (off_getD _ _)) (ev_lst (ea_cons (ev_ixT (ds := [.int (difP g ss mast r).1, .int (difP g ss mast r).2]) (ev_var (i := 5) rfl) ev_int rfl) ea_nil)) (by
        rw [List.length_map, List.length_singleton]
        omega)) rfl key (by
        have a := off_len (prs.take i)
        have b := List.length_take_le i prs
        omega) fun d J4 H4 hd W4 L4 A4 => ?_
      subst hd
      refine ⟨_, J4, ⟨_, _, ?_, W4.base _ (fun H h => hb H h.1) sb, rfl⟩, A4.live ⟨A4.j, W4.base _ (fun H h => h.2) ?_ _ A4.j⟩ ?_⟩
      · rw [List.take_add_one, hpi, Option.toList_some, offF_snoc, valsR_snoc, if_pos rfl, List.map_append]
        exact L4
      · exact Stab.but (.inl L1.np)
      · exact A4.mono.and (Mo.but (W4.base _ (fun H h => h.2) (Stab.but (.inl L1.np)) _ A4.j).tr)
    · rintro H2 ρ' J' σ' H' b2 j2 ⟨o4, o5, L2', hb, rfl⟩ A2
      have el : (zipD (rows.map mrowD) (rows.map fun r => pairD (difP g ss mast r))).length = prs.length := by
        unfold zipD
        rw [List.length_zipWith, List.length_map, List.length_map, Nat.min_self, hpl]
      rw [el, List.take_length] at L2'
      have L3 : LivDS K (wo φ l) (fun H => J' H ∧ But (wo φ l) H2 H) l (offF prs) := L2'.but
      have ol := off_len prs
      obtain ⟨ks, hks, hmem⟩ := off_keys prs
      have hkl : ks.length = (offF prs).length := by rw [← List.length_map (f := fun s : Str => (Sum.inr s : Key)) (as := ks), ← hks, List.length_map]
      refine st_ret A2 (ev_lockS (P := fun x => x = dictD (medsF prs)) L3 N1.fr (fun _ => trivial) (fun _ _ h => nomatch h) fun od vvs J9 hvvl hJ => ?_) fun v d' H6 e' A6 rr => hrt v H6 (hb _ A6.j.1) (by subst e'; exact Rep.up (fun a o p e => ⟨p.1, e⟩) _ _ rr)
      have hkeys : (((offF prs).map (·.1)).zip vvs).map (fun kv => keyD kv.1) = ks.map D.str := by
        have h1 : (((offF prs).map (·.1)).zip vvs).map (·.1) = (offF prs).map (·.1) := List.map_fst_zip (by rw [List.length_map, hvvl]; exact Nat.le_refl _)
        have h2 := congrArg (List.map keyD) h1
        rw [List.map_map] at h2
        refine h2.trans ?_
        rw [hks, List.map_map]
        rfl
      have em : medsF prs = foldK kfS (vfS prs) (ks.map D.str) := by
        unfold medsF
        rw [keys_str hks]
      rw [em]
      refine ev_newDk (kds := foldK kfS (vfS prs) (ks.map D.str)) (en_dc (us := [6]) (ws := [6]) (ρd := fun d => [some (netD g ss), some (.int mast), some (campD rows), some (.raw (.ref l)), o4, o5, some d]) (kf := kfS) (vf := vfS prs) ((it_keysK (kvs := ((offF prs).map (·.1)).zip vvs) (ev_var (i := 3) rfl) N1.fr fun H j => (hJ H j).1).imp fun ds e => by rw [e, hkeys]) (by rw [List.length_map]; omega) (by simp) (fun d hd => eg_name) (fun d hd φ' J10 hx => ?_) (fun d hd φ' J10 hx => ?_))
      · obtain ⟨s, hs, rfl⟩ := List.mem_map.mp hd
        exact ev_var (i := 6) rfl
      · obtain ⟨s, hs, rfl⟩ := List.mem_map.mp hd
        have tl : (valsR prs s).length < 64 := by
          have a := valsR_len prs s
          omega
        exact ev_callD (ea_cons (ev_dgetF (kds := offF prs) (vs := vvs) (k := (Sum.inr s : Key)) (ev_var (i := 3) rfl) (fun H j => ⟨(hJ H (hx.imp H j)).1, Reps.up (fun a o pa e => ⟨hx.keep a pa.1 pa.2, e⟩) _ _ (hJ H (hx.imp H j)).2⟩) (ev_var (i := 6) rfl) (d := .lst ((valsR prs s).map D.int)) (by rw [off_val, if_neg ((hmem s).mp hs)])) ea_nil) ⟨valsR prs s, rfl, tl, rfl⟩
end
end

/-! ### offset_of, outliers -/
section
theorem valsR_mem {prs : List (Str × Int)} {p : Str × Int} (h : p ∈ prs) : valsR prs p.1 ≠ [] := by
  unfold valsR
  intro z
  have := List.map_eq_nil_iff.mp z
  exact absurd (List.mem_filter.mpr ⟨h, decide_eq_true rfl⟩) (by rw [this]; exact List.not_mem_nil)
noncomputable def outB (g : List (List Int)) (ss : List Sta) (mast : Int) (rows : List MRow) (most : Int) (i : Nat) : Bool := match rows[i]? with
  | some r => decide (medI (valsR (prsR g ss mast rows) r.nm) + most < (difP g ss mast r).1) || decide ((difP g ss mast r).2 < medI (valsR (prsR g ss mast rows) r.nm) - most)
  | none => false
noncomputable def outL (g : List (List Int)) (ss : List Sta) (mast : Int) (rows : List MRow) (most : Int) (n : Nat) : List Int := ((List.range n).filter (outB g ss mast rows most)).map fun k : Nat => (k : Int)
theorem outL_succ {g : List (List Int)} {ss : List Sta} {mast : Int} {rows : List MRow} {most : Int} {n : Nat} : outL g ss mast rows most (n + 1) = outL g ss mast rows most n ++ (if outB g ss mast rows most n = true then [(n : Int)] else []) := by
  unfold outL
  rw [List.range_succ, List.filter_append, List.map_append]
  congr 1
  by_cases e : outB g ss mast rows most n = true
  · rw [if_pos e, List.filter_cons_of_pos e]
    rfl
  · rw [if_neg e, List.filter_cons_of_neg e]
    rfl
theorem outL_len {g : List (List Int)} {ss : List Sta} {mast : Int} {rows : List MRow} {most : Int} {n : Nat} : (outL g ss mast rows most n).length ≤ n := by
  unfold outL
  rw [List.length_map]
  have := List.length_filter_le (outB g ss mast rows most) (List.range n)
  rw [List.length_range] at this
  exact this
theorem prs_mem {g : List (List Int)} {ss : List Sta} {mast : Int} {rows : List MRow} {r : MRow} (h : r ∈ rows) : valsR (prsR g ss mast rows) r.nm ≠ [] := valsR_mem (p := (r.nm, (difP g ss mast r).1)) (List.mem_map.mpr ⟨r, h, rfl⟩)
section
variable {P : Program} {w : World} {K : PySem.W.Frag} {mg : Str → Option Value} {base : Heap}
def ROff (cS cP : Addr) : List D → D ⊕ Addr → Prop := fun ds o => ∃ (w h : Nat) (g : List (List Int)) (ss : List Sta) (mast : Int) (rows : List MRow) (nm : Str), NetOk w h g ss ∧ ds = [netD g ss, .int mast, campD rows, .str nm] ∧ 0 ≤ mast ∧ mast ≤ 1000 ∧ rows.length ≤ 60 ∧ o = match campX w h ss cS cP rows with
  | some c => .inr c
  | none => .inl (medD (valsR (prsR g ss mast rows) nm))
theorem sc_offset_of : FnScope ["network", "mast", "campaign", "name"] ["network", "mast", "campaign", "name"] (defScope s_offset_of) := ⟨rfl, rfl, rfl, by decide +kernel, rfl, by decide +kernel, by decide +kernel⟩
theorem ok_offset_of (B : Bi mg) {cS cP : Addr} {f g1 : Addr} {fd gd1 : FuncData} (F : Fun K "offset_of" "offset_of" s_offset_of f fd)
    (L_offsets_of : Lk K mg "offsets_of" g1 gd1 ["network", "mast", "campaign"]) (G_offsets_of : FnOk P w K mg base (L2.CX P w) 9 g1 gd1 ["network", "mast", "campaign"] (SpX K 3 (ROffs cS cP))) : FnOk P w K mg base (L2.CX P w) 10 f fd ["network", "mast", "campaign", "name"] (SpX K 4 (ROff cS cP)) := by
  have S := sc_offset_of
  refine fn_okX F S rfl 0 rfl fun cdv A outer s H E hr => ⟨_, ((pss_one (ps_ret (pe_dget1 hr.units1 (pe_callS G_offsets_of (hr.mono (by first | exact Nat.le_refl _ | decide | omega)) (by rfl) L_offsets_of.m L_offsets_of.kp L_offsets_of.bi (fun σ => passAt (takes_of rfl rfl rfl rfl) σ) (pa_cons (pv 0) (pa_cons (pv 1) (pa_cons (pv 2) pa_nil)))) (pv 3) ⟨rfl, rfl, rfl, rfl⟩)))), fun φ ds o H D0 σ hl hR hrt hex A => ?_⟩
  obtain ⟨w', h', g, ss, mast, rows, nm, N, rfl, m0, m1, hlen, ho⟩ := hR
  replace A : At K φ (Same H) [some (netD g ss), some (.int mast), some (campD rows), some (.str nm)] σ H := A
  have hoffs : ROffs cS cP [netD g ss, .int mast, campD rows] (match campX w' h' ss cS cP rows with
    | some c => .inr c
    | none => .inl (dictD (medsF (prsR g ss mast rows)))) := ⟨w', h', g, ss, mast, rows, N, rfl, m0, m1, hlen, rfl⟩
  cases hc : campX w' h' ss cS cP rows with
  | some c =>
    rw [hc] at ho hoffs
    exact st_rs A (rs_dget1 (rs_call (c := c) (R := ROffs cS cP) (ea_cons (ev_var (i := 0) rfl) (ea_cons (ev_var (i := 1) rfl) (ea_cons (ev_var (i := 2) rfl) ea_nil))) hoffs)) fun H3 b A3 => hex c ho H3 A3.j
  | none =>
    rw [hc] at ho hoffs
    have hrt := hrt _ ho
    rw [← meds_getD] at hrt
    exact st_ret A (ev_dget1 (k := (Sum.inr nm : Key)) (ed_frozen (ev_callX (R := ROffs cS cP) (ea_cons (ev_var (i := 0) rfl) (ea_cons (ev_var (i := 1) rfl) (ea_cons (ev_var (i := 2) rfl) ea_nil))) hoffs)) (ev_var (i := 3) rfl)) fun v d' H6 e' A6 rr => hrt v H6 A6.j (by subst e'; exact rr)
def ROut (cS cP : Addr) : List D → D ⊕ Addr → Prop := fun ds o => ∃ (w h : Nat) (g : List (List Int)) (ss : List Sta) (mast : Int) (rows : List MRow) (most : Int), NetOk w h g ss ∧ ds = [netD g ss, .int mast, campD rows, .int most] ∧ 0 ≤ mast ∧ mast ≤ 1000 ∧ rows.length ≤ 60 ∧ o = match campX w h ss cS cP rows with
  | some c => .inr c
  | none => .inl (.lst ((outL g ss mast rows most rows.length).map D.int))
theorem sc_outliers : FnScope ["network", "mast", "campaign", "most", "offsets", "found", "index", "pair", "offset"] ["network", "mast", "campaign", "most"] (defScope s_outliers) := ⟨rfl, rfl, rfl, by decide +kernel, rfl, by decide +kernel, by decide +kernel⟩
set_option maxHeartbeats 1000000 in
theorem ok_outliers (B : Bi mg) {cS cP : Addr} {f g1 g2 : Addr} {fd gd1 gd2 : FuncData} (F : Fun K "outliers" "outliers" s_outliers f fd)
    (L_offsets_of : Lk K mg "offsets_of" g1 gd1 ["network", "mast", "campaign"]) (G_offsets_of : FnOk P w K mg base (L2.CX P w) 9 g1 gd1 ["network", "mast", "campaign"] (SpX K 3 (ROffs cS cP)))
    (L_differences : Lk K mg "differences" g2 gd2 ["network", "mast", "campaign"]) (G_differences : FnOk P w K mg base (L2.CX P w) 8 g2 gd2 ["network", "mast", "campaign"] (SpX K 3 (RDiffs cS cP))) : FnOk P w K mg base (L2.CX P w) 10 f fd ["network", "mast", "campaign", "most"] (SpX K 4 (ROut cS cP)) := by
  have S := sc_outliers
  refine fn_okX F S rfl 5 rfl fun cdv A outer s H E hr => ⟨_, ((pss_cons (ps_set (i := 4) S.nd rfl (by first | exact Or.inl rfl | exact Or.inr rfl) (pe_callS G_offsets_of (hr.mono (by first | exact Nat.le_refl _ | decide | omega)) (by rfl) L_offsets_of.m L_offsets_of.kp L_offsets_of.bi (fun σ => passAt (takes_of rfl rfl rfl rfl) σ) (pa_cons (pv 0) (pa_cons (pv 1) (pa_cons (pv 2) pa_nil)))))
 (pss_cons (ps_set (i := 5) S.nd rfl (by first | exact Or.inl rfl | exact Or.inr rfl) (pe_lst pa_nil))
 (pss_cons (ps_for (passes_of rfl) rfl (pi_enum (by rfl) B.enumerate (pa_cons (pe_callS G_differences (hr.mono (by first | exact Nat.le_refl _ | decide | omega)) (by rfl) L_differences.m L_differences.kp L_differences.bi (fun σ => passAt (takes_of rfl rfl rfl rfl) σ) (pa_cons (pv 0) (pa_cons (pv 1) (pa_cons (pv 2) pa_nil)))) pa_nil)) (pg_tup (by rfl) (pgs_cons (pg_name (i := 6) S.nd rfl (by first | exact Or.inl rfl | exact Or.inr rfl)) (pgs_cons (pg_name (i := 7) S.nd rfl (by first | exact Or.inl rfl | exact Or.inr rfl)) pgs_nil)))
 (pss_cons (ps_set (i := 8) S.nd rfl (by first | exact Or.inl rfl | exact Or.inr rfl) (pe_dget hr.units1 (pv 4) (pe_ix ix_tup (pe_ix ix_list (pv 2) (pv 6) (fun _ _ => rfl)) pe_int (fun _ _ => rfl)) (fun _ _ => rfl)))
 (pss_one (ps_if (PW.pt (pw_or (pt_cmpR op_gt (pe_ix ix_tup (pv 7) pe_int (fun _ _ => rfl)) (pe_op op_add (pv 8) (pv 3)) (nomark _)) (pw_or1 (pt_cmpR op_lt (pe_ix ix_tup (pv 7) pe_int (fun _ _ => rfl)) (pe_op op_sub (pv 8) (pv 3)) (nomark _)))))
 (pss_one (ps_expr (pe_bm PySem.F.plainAttrs_list PySem.F.slot_list_append PySem.F.type_list_append mt_append (pv 5) (pa_cons (pv 6) pa_nil))))
 pss_nil))))
 (pss_one (ps_ret (pv 5))))))), fun φ ds o H D0 σ hl hR hrt hex A => ?_⟩
  obtain ⟨w', h', g, ss, mast, rows, most, N, rfl, m0, m1, hlen, ho⟩ := hR
  replace A : At K φ (Same H) [some (netD g ss), some (.int mast), some (campD rows), some (.int most), none, none, none, none, none] σ H := A
  clear F L_offsets_of G_offsets_of L_differences G_differences
  have hoffs : ROffs cS cP [netD g ss, .int mast, campD rows] (match campX w' h' ss cS cP rows with
    | some c => .inr c
    | none => .inl (dictD (medsF (prsR g ss mast rows)))) := ⟨w', h', g, ss, mast, rows, N, rfl, m0, m1, hlen, rfl⟩
  have hdiff : RDiffs cS cP [netD g ss, .int mast, campD rows] (match campX w' h' ss cS cP rows with
    | some c => .inr c
    | none => .inl (.lst (rows.map fun r => pairD (difP g ss mast r)))) := ⟨w', h', g, ss, mast, rows, N, rfl, m0, m1, hlen, rfl⟩
  cases hc : campX w' h' ss cS cP rows with
  | some c =>
    rw [hc] at ho hoffs
    exact q (st_rs A (rs_call (c := c) (R := ROffs cS cP) (ea_cons (ev_var (i := 0) rfl) (ea_cons (ev_var (i := 1) rfl) (ea_cons (ev_var (i := 2) rfl) ea_nil))) hoffs) fun H3 b A3 => hex c ho H3 A3.j)
  | none =>
    rw [hc] at ho hoffs hdiff
    have hrt := hrt _ ho
    clear hex
    refine q (st_set (d := dictD (medsF (prsR g ss mast rows))) A (ev_callX (R := ROffs cS cP) (ea_cons (ev_var (i := 0) rfl) (ea_cons (ev_var (i := 1) rfl) (ea_cons (ev_var (i := 2) rfl) ea_nil))) hoffs) fun σ0 H0 A0 => ?_)
    replace A0 : At K φ (Same H) [some (netD g ss), some (.int mast), some (campD rows), some (.int most), some (dictD (medsF (prsR g ss mast rows))), none, none, none, none] σ0 H0 := A0
    dsimp only
    refine q (st_newS A0 (en_ofN (en_lstD ea_nil)) fun l ds0 C J1 σ1 H1 hC N1 L1 A1 => ?_)
    obtain ⟨e, rfl⟩ := hC
    subst e
    have sb : Stab l (Same H) := N1.same fun _ h => h
    replace A1 : At K (wo φ l) J1 [some (netD g ss), some (.int mast), some (campD rows), some (.int most), some (dictD (medsF (prsR g ss mast rows))), some (.raw (.ref l)), none, none, none] σ1 H1 := A1
    dsimp only
    refine q (st_forT A1 (it_enum (ds := rows.map fun r => pairD (difP g ss mast r)) (ea_cons (ev_callX (R := RDiffs cS cP) (ea_cons (ev_var (i := 0) rfl) (ea_cons (ev_var (i := 1) rfl) (ea_cons (ev_var (i := 2) rfl) ea_nil))) hdiff) ea_nil)) (us := [6, 7]) (ρt := fun d ρ' => match d with | .tup [a, b] => (ρ'.set 6 (some a)).set 7 (some b) | _ => ρ') (fun i ρ' J' => ∃ o6 o7 o8, LivS K (wo φ l) J' l HO.lst ((outL g ss mast rows most i).map D.int) ∧ (∀ H', J' H' → Same H H') ∧ ρ' = [some (netD g ss), some (.int mast), some (campD rows), some (.int most), some (dictD (medsF (prsR g ss mast rows))), some (.raw (.ref l)), o6, o7, o8]) ⟨none, none, none, L1, fun H' h => N1.ext.imp H' h, rfl⟩ ?_ ?_ ?_)
    · rintro i d ρ' J' hd -
      rw [enumD_get, List.getElem?_map] at hd
      cases hx : rows[i]? with
      | none => rw [hx] at hd; cases hd
      | some x =>
        rw [hx] at hd
        cases hd
        exact eg_tup (ds := [.int (0 + (i : Nat)), pairD (difP g ss mast x)]) (egs_cons eg_name (egs_cons eg_name egs_nil))
    · rintro H2 i d ρ' J' b2 j2 hd ⟨o6, o7, o8, L2', hb, rfl⟩ σ' H' A2
      rw [enumD_get, List.getElem?_map] at hd
      cases hr : rows[i]? with
      | none => rw [hr] at hd; cases hd
      | some r =>
        rw [hr] at hd
        cases hd
        have hi : i < rows.length := (List.getElem?_eq_some_iff.mp hr).1
        replace A2 : At K (wo φ l) (fun H => J' H ∧ But (wo φ l) H2 H) [some (netD g ss), some (.int mast), some (campD rows), some (.int most), some (dictD (medsF (prsR g ss mast rows))), some (.raw (.ref l)), some (.int (0 + (i : Nat))), some (pairD (difP g ss mast r)), o8] σ' H' := A2
        rw [Int.zero_add] at A2
        refine q (st_set (d := .int (medI (valsR (prsR g ss mast rows) r.nm))) A2 (ev_dget (k := (Sum.inr r.nm : Key)) (kds := medsF (prsR g ss mast rows)) (ed_frozen (ev_var (i := 4) rfl)) (ev_ixT (ds := [.tup [.int r.x, .int r.y], .str r.nm, .int r.lev]) (ev_ixL (ds := rows.map mrowD) (ev_var (i := 2) rfl) (ev_var (i := 6) rfl) (atI_ofNat (by rw [List.getElem?_map, hr]; rfl))) ev_int rfl) (by rw [meds_val, if_neg (prs_mem (List.mem_of_getElem? hr))])) fun σ3 H3 A3 => ?_)
        replace A3 : At K (wo φ l) (fun H => J' H ∧ But (wo φ l) H2 H) [some (netD g ss), some (.int mast), some (campD rows), some (.int most), some (dictD (medsF (prsR g ss mast rows))), some (.raw (.ref l)), some (.int (i : Int)), some (pairD (difP g ss mast r)), some (.int (medI (valsR (prsR g ss mast rows) r.nm)))] σ3 H3 := A3
        have eo : outB g ss mast rows most i = (decide (medI (valsR (prsR g ss mast rows) r.nm) + most < (difP g ss mast r).1) || decide ((difP g ss mast r).2 < medI (valsR (prsR g ss mast rows) r.nm) - most)) := by
          unfold outB
          rw [hr]
        dsimp only
        refine st_if A3 ((et_or (et_test (ev_gt (ev_ixT (ds := [.int (difP g ss mast r).1, .int (difP g ss mast r).2]) (ev_var (i := 7) rfl) ev_int rfl) (ev_add (ev_var (i := 8) rfl) (ev_var (i := 3) rfl)))) fun _ => et_test (ev_lt (ev_ixT (ds := [.int (difP g ss mast r).1, .int (difP g ss mast r).2]) (ev_var (i := 7) rfl) ev_int rfl) (ev_sub (ev_var (i := 8) rfl) (ev_var (i := 3) rfl)))).is eo.symm) (fun hb3 H4 A4 => ?_) (fun hb3 H4 A4 => ?_)
        · refine st_appS A4 L2'.but rfl (ev_var (i := 6) rfl) ?_ fun d J5 H5 hd W5 L5 A5 => ?_
          · rw [List.length_map]
            have := outL_len (g := g) (ss := ss) (mast := mast) (rows := rows) (most := most) (n := i)
            omega
          · subst hd
            refine ⟨_, J5, ⟨_, _, _, ?_, W5.base _ (fun H h => hb H h.1) sb, rfl⟩, A5.live ⟨A5.j, W5.base _ (fun H h => h.2) ?_ _ A5.j⟩ ?_⟩
            · rw [outL_succ, if_pos hb3.symm, List.map_append]
              exact L5
            · exact Stab.but (.inl L1.np)
            · exact A5.mono.and (Mo.but (W5.base _ (fun H h => h.2) (Stab.but (.inl L1.np)) _ A5.j).tr)
        · refine st_next ⟨_, J', ⟨_, _, _, ?_, hb, rfl⟩, A4⟩
          rw [outL_succ, ← hb3, if_neg Bool.false_ne_true, List.append_nil]
          exact L2'
    · rintro H2 ρ' J' σ' H' b2 j2 ⟨o6, o7, o8, L2', hb, rfl⟩ A2
      rw [enumD_length, List.length_map] at L2'
      have A3 := L2'.but.freeze N1.fr A2 (k := 5) rfl
      replace A3 : At K φ (fun H_1 => (J' H_1 ∧ But (wo φ l) H2 H_1) ∧ But φ H' H_1) [some (netD g ss), some (.int mast), some (campD rows), some (.int most), some (dictD (medsF (prsR g ss mast rows))), some (.lst ((outL g ss mast rows most rows.length).map D.int)), o6, o7, o8] σ' H' := A3
      exact st_ret A3 (ev_var (i := 5) rfl) fun v d' H6 e' A6 rr => hrt v H6 (hb _ A6.j.1.1) (by subst e'; exact rr)
end
end

/-! ### drawn campaigns -/
section
theorem comp_at {pe : D → D → Prop} : ∀ {ds ys : List D}, Comp (fun _ b => b = true) pe ds ys → ys.length = ds.length ∧ ∀ (i : Nat) (d y : D), ds[i]? = some d → ys[i]? = some y → pe d y
  | _, _, .nil => ⟨rfl, fun i d y h => by cases h⟩
  | _, _, .take (ds := ds) (ys := ys) _ b c => by
    obtain ⟨h1, h2⟩ := comp_at c
    refine ⟨by rw [List.length_cons, List.length_cons, h1], fun i d' y' e1 e2 => ?_⟩
    cases i with
    | zero =>
      cases e1
      cases e2
      exact b
    | succ i => exact h2 i d' y' e1 e2
  | _, _, .skip a c => by cases a
theorem each77 {pt : D → Bool → Prop} {pe : D → D → Prop} : ∀ {ds ys : List D}, Comp pt pe ds ys → ∀ y ∈ ys, ∃ d ∈ ds, pe d y
  | _, _, .nil, y, h => by cases h
  | _, _, .take (d := d) a b c, y, h => by
    rcases List.mem_cons.mp h with rfl | h
    · exact ⟨d, List.mem_cons_self, b⟩
    · obtain ⟨d, hd, e⟩ := each77 c y h
      exact ⟨d, List.mem_cons_of_mem _ hd, e⟩
  | _, _, .skip a c, y, h => by
    obtain ⟨d, hd, e⟩ := each77 c y h
    exact ⟨d, List.mem_cons_of_mem _ hd, e⟩
theorem all_map77 {α : Type} {f : α → D} {P : α → Prop} : ∀ {ys : List D}, (∀ y ∈ ys, ∃ a, y = f a ∧ P a) → ∃ xs : List α, ys = xs.map f ∧ ∀ x ∈ xs, P x
  | [], _ => ⟨[], rfl, fun _ h => by cases h⟩
  | y :: ys, h => by
    obtain ⟨a, e, pa⟩ := h y List.mem_cons_self
    obtain ⟨xs, e2, px⟩ := all_map77 (f := f) (P := P) (ys := ys) fun z hz => h z (List.mem_cons_of_mem _ hz)
    refine ⟨a :: xs, by rw [e, e2]; rfl, fun x hx => ?_⟩
    rcases List.mem_cons.mp hx with rfl | hx
    · exact pa
    · exact px x hx
section
variable {K : PySem.W.Frag} {φ : Addr → Prop} {J : Hp → Prop} {ρ : List (Option D)} {ta : TE}
theorem ea_i {p : Int → Prop} (h : EvI K φ J ta ρ p) : EvA K φ J (tCons ta tNil) ρ (fun x => ∃ n, x = [.int n] ∧ p n) := fun σ H A Q k => ea_consP h ea_nil σ H A Q fun vs ds H' b A' h r => k vs ds H' b A' (by
  obtain ⟨d, r', rfl, ⟨n, rfl, hp⟩, rfl⟩ := h
  exact ⟨n, rfl, hp⟩) r
end
def lobes0 : List (Int × Int) := [(1, 0), (3, 1), (1, 2), (0, 1), (-1, 3), (-2, 1), (-1, 0), (-1, -2), (0, -1), (2, -1)]
def prD77 (p : Int × Int) : D := .tup [.int p.1, .int p.2]
def sName (k : Nat) : Str := if k = 0 then "s0" else if k = 1 then "s1" else "s2"
def RAnt : List D → D → Prop := fun _ d => ∃ ls : List (Int × Int × Int), d = .tup (ls.map lobeD) ∧ ls ≠ [] ∧ ls.length ≤ 1000000
def PreSta : List D → Prop := fun ds => ∃ (k w h : Nat), ds = [.int (k : Int), .int (w : Int), .int (h : Int)] ∧ k < 3 ∧ 1 ≤ w ∧ w ≤ 40 ∧ 1 ≤ h ∧ h ≤ 40
def RSta : List D → D → Prop := fun ds d => ∃ (k w h : Nat) (s : Sta), ds = [.int (k : Int), .int (w : Int), .int (h : Int)] ∧ d = staD s ∧ StaOk w h s ∧ s.nm = sName k
structure CampOk (w h : Nat) (g : List (List Int)) (ss : List Sta) (mast : Int) (rows : List MRow) : Prop where
  N : NetOk w h g ss
  nm : ∀ (i : Nat) (s : Sta), ss[i]? = some s → s.nm = sName i
  ne : ss ≠ []
  l3 : ss.length ≤ 3
  m0 : 1 ≤ mast
  m1 : mast ≤ 20
  l : rows.length ≤ 6
  r : ∀ r ∈ rows, (∃ s, findS ss r.nm = some s) ∧ inPlace w h r.x r.y = true
theorem CampOk.rowX {w h : Nat} {g : List (List Int)} {ss : List Sta} {mast : Int} {rows : List MRow} {cS cP : Addr} {r : MRow} (hs : ∃ s, findS ss r.nm = some s) (hp : inPlace w h r.x r.y = true) : rowX w h ss cS cP r = none := by
  obtain ⟨s, e⟩ := hs
  unfold DL.rowX
  rw [e]
  dsimp only
  rw [if_pos hp]
theorem CampOk.x {w h : Nat} {g : List (List Int)} {ss : List Sta} {mast : Int} {rows : List MRow} {cS cP : Addr} (C : CampOk w h g ss mast rows) : campX w h ss cS cP rows = none := campX_none fun r hr => CampOk.rowX (g := g) (mast := mast) (rows := rows) (C.r r hr).1 (C.r r hr).2
theorem find_of {ss : List Sta} {s : Sta} (h : s ∈ ss) : ∃ t, findS ss s.nm = some t := by
  cases e : findS ss s.nm with
  | some t => exact ⟨t, rfl⟩
  | none => exact absurd (decide_eq_true rfl) (List.find?_eq_none.mp e s h)
section
variable {P : Program} {w : World} {K : PySem.W.Frag} {mg : Str → Option Value} {base : Heap}
theorem sc__law_antenna : FnScope ["pool", "lobes", "scale", "found", "row"] ["pool"] (defScope s__law_antenna) := ⟨rfl, rfl, rfl, by decide +kernel, rfl, by decide +kernel, by decide +kernel⟩
theorem ok__law_antenna (B : Bi mg) {f g : Addr} {fd gd : FuncData} (F : Fun K "_law_antenna" "_law_antenna" s__law_antenna f fd) (L__law_draw : Lk K mg "_law_draw" g gd ["pool", "many"]) (G__law_draw : FnOk P w K mg base CX0 2 g gd ["pool", "many"] spDraw) : FnOk P w K mg base CX0 3 f fd ["pool"] (SpP K 0 (fun _ => True) RAnt) := by
  have S := sc__law_antenna
  refine fn_okP F S rfl 4 rfl fun cdv A outer s H E hr => ⟨_, ((pss_cons (ps_set (i := 1) S.nd rfl (by first | exact Or.inl rfl | exact Or.inr rfl) (pe_tup (pa_cons (pe_tup (pa_cons pe_int (pa_cons pe_int pa_nil))) (pa_cons (pe_tup (pa_cons pe_int (pa_cons pe_int pa_nil))) (pa_cons (pe_tup (pa_cons pe_int (pa_cons pe_int pa_nil))) (pa_cons (pe_tup (pa_cons pe_int (pa_cons pe_int pa_nil))) (pa_cons (pe_tup (pa_cons (pe_un un_neg pe_int) (pa_cons pe_int pa_nil))) (pa_cons (pe_tup (pa_cons (pe_un un_neg pe_int) (pa_cons pe_int pa_nil))) (pa_cons (pe_tup (pa_cons (pe_un un_neg pe_int) (pa_cons pe_int pa_nil))) (pa_cons (pe_tup (pa_cons (pe_un un_neg pe_int) (pa_cons (pe_un un_neg pe_int) pa_nil))) (pa_cons (pe_tup (pa_cons pe_int (pa_cons (pe_un un_neg pe_int) pa_nil))) (pa_cons (pe_tup (pa_cons pe_int (pa_cons (pe_un un_neg pe_int) pa_nil))) pa_nil))))))))))))
 (pss_cons (ps_set (i := 2) S.nd rfl (by first | exact Or.inl rfl | exact Or.inr rfl) (pe_ix ix_list (pe_lst (pa_cons pe_int (pa_cons pe_int (pa_cons pe_int pa_nil)))) (pe_call G__law_draw (hr.mono (by first | exact Nat.le_refl _ | decide | omega)) (by rfl) L__law_draw.m L__law_draw.kp L__law_draw.bi .nil pass0 (pa_cons (pv 0) (pa_cons pe_int pa_nil))) (fun _ _ => rfl)))
 (pss_cons (ps_set (i := 3) S.nd rfl (by first | exact Or.inl rfl | exact Or.inr rfl) (pe_callTy c_tupOf (by rfl) B.tuple (by decide +kernel) (pa_cons (pe_lc (own := [("row", 4)]) (g := (gName 4)) (by rfl) S.nd (pi_tup (pv 1)) (blkOk_by (N := ["pool", "lobes", "scale", "found", "row"]) (sc := defScope s__law_antenna) (own := [("row", 4)]) (by decide +kernel)) (fun _ _ _ _ _ => (pg_name (i := 4) S.nd rfl (by first | exact Or.inl rfl | exact Or.inr rfl))) (fun _ _ _ _ _ => pts_one (pt_cmpR op_eq (pe_call G__law_draw (hr.mono (by first | exact Nat.le_refl _ | decide | omega)) (by rfl) L__law_draw.m L__law_draw.kp L__law_draw.bi .nil pass0 (pa_cons (pv 0) (pa_cons pe_int pa_nil))) pe_int (nomark _))) (fun _ _ _ _ _ => (pe_op (kop_catA (K := K) (by rfl)) (pv 4) (pe_tup (pa_cons (pe_op op_mul (pv 2) (pe_op op_sub (pe_call G__law_draw (hr.mono (by first | exact Nat.le_refl _ | decide | omega)) (by rfl) L__law_draw.m L__law_draw.kp L__law_draw.bi .nil pass0 (pa_cons (pv 0) (pa_cons pe_int pa_nil))) pe_int)) pa_nil))))) pa_nil)))
 (pss_one (ps_ret (pe_ifExp (pt_cmpR op_gt (pe_callB c_len (by rfl) B.len (by decide +kernel) (pa_cons (pv 3) pa_nil)) pe_int (nomark _)) (pv 3) (pe_tup (pa_cons (pe_tup (pa_cons pe_int (pa_cons pe_int (pa_cons pe_int pa_nil)))) pa_nil))))))))), fun φ p pl ns ds H D0 σ hl pre np ne hrt A => ?_⟩
  have hds : ds = [] := List.length_eq_zero_iff.mp hl
  subst hds
  replace A : At K φ (JB p pl ns H) [some (.raw (.ref p)), none, none, none, none] σ H := A
  have hP : Pooled φ (JB p pl ns H) p pl ns := pooledB np ne
  refine q (st_set (d := .tup (lobes0.map prD77)) A ((ev_tup (ea_cons (ev_tup (ea_cons ev_int (ea_cons ev_int ea_nil))) (ea_cons (ev_tup (ea_cons ev_int (ea_cons ev_int ea_nil))) (ea_cons (ev_tup (ea_cons ev_int (ea_cons ev_int ea_nil))) (ea_cons (ev_tup (ea_cons ev_int (ea_cons ev_int ea_nil))) (ea_cons (ev_tup (ea_cons (ev_neg ev_int) (ea_cons ev_int ea_nil))) (ea_cons (ev_tup (ea_cons (ev_neg ev_int) (ea_cons ev_int ea_nil))) (ea_cons (ev_tup (ea_cons (ev_neg ev_int) (ea_cons ev_int ea_nil))) (ea_cons (ev_tup (ea_cons (ev_neg ev_int) (ea_cons (ev_neg ev_int) ea_nil))) (ea_cons (ev_tup (ea_cons ev_int (ea_cons (ev_neg ev_int) ea_nil))) (ea_cons (ev_tup (ea_cons ev_int (ea_cons (ev_neg ev_int) ea_nil))) ea_nil))))))))))).is rfl) fun σ1 H1 A1 => q ?_)
  replace A1 : At K φ (JB p pl ns H) [some (.raw (.ref p)), some (.tup (lobes0.map prD77)), none, none, none] σ1 H1 := A1
  refine st_asg A1 (ev_ixLP (P := fun d => ∃ s : Int, d = .int s ∧ 0 ≤ s ∧ s ≤ 1000) (ev_lst (ea_cons ev_int (ea_cons ev_int (ea_cons ev_int ea_nil)))) (ev_draw hP rfl ev_int (by decide) (by decide)) ?_) fun d σ2 H2 hd A2 => q ?_
  · rintro x i rfl ⟨h0, h4⟩
    have : i = 0 ∨ i = 1 ∨ i = 2 := by omega
    rcases this with rfl | rfl | rfl <;> exact ⟨_, _, rfl, rfl, _, rfl, by decide, by decide⟩
  obtain ⟨sc, rfl, sc0, sc1⟩ := hd
  replace A2 : At K φ (JB p pl ns H) [some (.raw (.ref p)), some (.tup (lobes0.map prD77)), some (.int sc), none, none] σ2 H2 := A2
  refine st_asg A2 (ev_tupLP (Pl := fun ys => ∃ ls : List (Int × Int × Int), ys = ls.map lobeD ∧ ls.length ≤ 10) ((ev_lcP (ρd := fun d => (wipeR [some (.raw (.ref p)), some (.tup (lobes0.map prD77)), some (.int sc), none, none] [4]).set 4 (some d)) (us := [4]) (pt := fun _ _ => True) (pe := fun d y => ∃ l : Int × Int × Int, y = lobeD l) (it_tup (ev_var (i := 1) rfl)) (fun ds' e => by rw [e, List.length_map]; decide) (fun _ h => h) (fun _ _ d _ => eg_name)
    (fun ds' e d hd φ' J' x => ?_) (fun ds' e d hd pd φ' J' x => ?_)).imp fun z ⟨ds', ys, e1, e2, c⟩ => ?_)) fun d σ3 H3 hd A3 => ?_
  · exact et_testP ((eb_eq (ev_draw (x.pool _ _ _ hP) rfl ev_int (by decide) (by decide)) (ev_i ev_int)).imp fun d ⟨b, e, _⟩ => ⟨b, e, trivial⟩)
  · subst e
    obtain ⟨pr, hpr, rfl⟩ := List.mem_map.mp hd
    refine (ev_catTP (Pa := fun xs => xs = [.int pr.1, .int pr.2]) (Pb := fun xs => ∃ g : Int, xs = [.int g]) ((ev_var (d := prD77 pr) rfl).imp fun z e => ⟨_, e, rfl⟩) ((ev_tup1P (ei_mul (ev_i (ev_var (i := 2) rfl)) (ei_sub (ev_draw (x.pool _ _ _ hP) rfl ev_int (by decide) (by decide)) (ev_i ev_int)) (fun i j hi hj => .inr (by
      obtain ⟨a, b, ⟨a0, a1⟩, rfl, rfl⟩ := hj
      subst hi
      omega)))).imp fun z ⟨ds, e, d, e2, g, e3, _⟩ => ⟨ds, e, g, by rw [e2, e3]⟩) (fun a b ha hb => by
        obtain ⟨g, rfl⟩ := hb
        subst ha
        exact Nat.le_of_ble_eq_true rfl)).imp fun z ⟨ds, e, a, b, e2, ha, g, hb⟩ => ⟨(pr.1, pr.2, g), by
        subst e e2 ha hb
        rfl⟩
  · subst e1 e2
    obtain ⟨ls, e, _⟩ := all_map77 (f := lobeD) (P := fun _ => True) (ys := ys) fun y hy => by
      obtain ⟨d, _, l, e⟩ := each77 c y hy
      exact ⟨l, e, trivial⟩
    refine ⟨ys, rfl, ls, e, ?_⟩
    have := c.len
    rw [e, List.length_map, List.length_map] at this
    exact this
  obtain ⟨ys, rfl, ls, rfl, hl10⟩ := hd
  replace A3 : At K φ (JB p pl ns H) [some (.raw (.ref p)), some (.tup (lobes0.map prD77)), some (.int sc), some (.tup (ls.map lobeD)), none] σ3 H3 := A3
  refine st_ret A3 (ev_if (P := fun d => ∃ ls : List (Int × Int × Int), d = .tup (ls.map lobeD) ∧ ls ≠ [] ∧ ls.length ≤ 1000000) (et_test (ev_gt (ev_lenT (ev_var (i := 3) rfl)) ev_int)) (fun hb => ?_) fun hb => ?_) fun v d H4 e A4 r => hrt v d H4 e A4.j r
  · have hb : (0 : Int) < ((ls.map lobeD).length : Int) := decide_eq_true_iff.mp (Eq.symm hb)
    rw [List.length_map] at hb
    exact (ev_var (i := 3) rfl).imp fun z e => ⟨ls, e, by rintro rfl; exact absurd hb (by decide), by omega⟩
  · exact (ev_tup (ea_cons (ev_tup (ea_cons ev_int (ea_cons ev_int (ea_cons ev_int ea_nil)))) ea_nil)).imp fun z e => ⟨[(1, 0, 0)], e, by decide, by decide⟩
theorem sc__law_station : FnScope ["pool", "k", "width", "height", "place", "megahertz"] ["pool", "k", "width", "height"] (defScope s__law_station) := ⟨rfl, rfl, rfl, by decide +kernel, rfl, by decide +kernel, by decide +kernel⟩
theorem ok__law_station (B : Bi mg) {f g g2 : Addr} {fd gd gd2 : FuncData} (F : Fun K "_law_station" "_law_station" s__law_station f fd) (L__law_draw : Lk K mg "_law_draw" g gd ["pool", "many"]) (G__law_draw : FnOk P w K mg base CX0 2 g gd ["pool", "many"] spDraw)
    (L__law_antenna : Lk K mg "_law_antenna" g2 gd2 ["pool"]) (G__law_antenna : FnOk P w K mg base CX0 3 g2 gd2 ["pool"] (SpP K 0 (fun _ => True) RAnt)) : FnOk P w K mg base CX0 4 f fd ["pool", "k", "width", "height"] (SpP K 3 PreSta RSta) := by
  have S := sc__law_station
  refine fn_okP F S rfl 2 rfl fun cdv A outer s H E hr => ⟨_, ((pss_cons (ps_set (i := 4) S.nd rfl (by first | exact Or.inl rfl | exact Or.inr rfl) (pe_tup (pa_cons (pe_call G__law_draw (hr.mono (by first | exact Nat.le_refl _ | decide | omega)) (by rfl) L__law_draw.m L__law_draw.kp L__law_draw.bi .nil pass0 (pa_cons (pv 0) (pa_cons (pv 2) pa_nil))) (pa_cons (pe_call G__law_draw (hr.mono (by first | exact Nat.le_refl _ | decide | omega)) (by rfl) L__law_draw.m L__law_draw.kp L__law_draw.bi .nil pass0 (pa_cons (pv 0) (pa_cons (pv 3) pa_nil))) pa_nil))))
 (pss_cons (ps_set (i := 5) S.nd rfl (by first | exact Or.inl rfl | exact Or.inr rfl) (pe_ix ix_tup (pe_tup (pa_cons pe_int (pa_cons pe_int (pa_cons pe_int (pa_cons pe_int pa_nil))))) (pe_call G__law_draw (hr.mono (by first | exact Nat.le_refl _ | decide | omega)) (by rfl) L__law_draw.m L__law_draw.kp L__law_draw.bi .nil pass0 (pa_cons (pv 0) (pa_cons pe_int pa_nil))) (fun _ _ => rfl)))
 (pss_one (ps_ret (pe_tup (pa_cons (pe_op op_addS pe_str (pe_callTy c_strI (by rfl) B.str (by decide +kernel) (pa_cons (pv 1) pa_nil))) (pa_cons (pv 4) (pa_cons (pe_op op_add pe_int (pe_call G__law_draw (hr.mono (by first | exact Nat.le_refl _ | decide | omega)) (by rfl) L__law_draw.m L__law_draw.kp L__law_draw.bi .nil pass0 (pa_cons (pv 0) (pa_cons pe_int pa_nil)))) (pa_cons (pe_op op_add pe_int (pe_call G__law_draw (hr.mono (by first | exact Nat.le_refl _ | decide | omega)) (by rfl) L__law_draw.m L__law_draw.kp L__law_draw.bi .nil pass0 (pa_cons (pv 0) (pa_cons pe_int pa_nil)))) (pa_cons (pv 5) (pa_cons (pe_call G__law_antenna (hr.mono (by first | exact Nat.le_refl _ | decide | omega)) (by rfl) L__law_antenna.m L__law_antenna.kp L__law_antenna.bi .nil pass0 (pa_cons (pv 0) pa_nil)) pa_nil)))))))))))), fun φ p pl ns ds H D0 σ hl pre np ne hrt A => ?_⟩
  obtain ⟨k, w', h', rfl, k3, w1, w2, h1, h2⟩ := pre
  replace A : At K φ (JB p pl ns H) [some (.raw (.ref p)), some (.int (k : Int)), some (.int (w' : Int)), some (.int (h' : Int)), none, none] σ H := A
  have hP : Pooled φ (JB p pl ns H) p pl ns := pooledB np ne
  refine q (st_asg (P := fun d => ∃ x y : Int, d = .tup [.int x, .int y] ∧ inPlace w' h' x y = true) A ((ev_tupP (ea_consP (ev_draw hP rfl (ev_var (i := 2) rfl) (by omega) (by omega)) (ea_consP (ev_draw hP rfl (ev_var (i := 3) rfl) (by omega) (by omega)) ea_nil)) ?_).imp ?_) fun d σ1 H1 hd A1 => q ?_)
  · rintro r ⟨d, r', rfl, _, d2, r2, rfl, _, rfl⟩
    exact Nat.le_of_ble_eq_true rfl
  · rintro z ⟨r, rfl, d, r', rfl, ⟨x, rfl, a1, a2⟩, d2, r2, rfl, ⟨y, rfl, b1, b2⟩, rfl⟩
    exact ⟨x, y, rfl, inPlace_iff.mpr ⟨⟨a1, a2⟩, b1, b2⟩⟩
  obtain ⟨x, y, rfl, hxy⟩ := hd
  replace A1 : At K φ (JB p pl ns H) [some (.raw (.ref p)), some (.int (k : Int)), some (.int (w' : Int)), some (.int (h' : Int)), some (.tup [.int x, .int y]), none] σ1 H1 := A1
  refine st_asg A1 (ev_ixTP (P := fun d => ∃ s : Int, d = .int s ∧ 1 ≤ s ∧ s ≤ 6000) (ev_tup (ea_cons ev_int (ea_cons ev_int (ea_cons ev_int (ea_cons ev_int ea_nil))))) (ev_draw hP rfl ev_int (by decide) (by decide)) ?_) fun d σ2 H2 hd A2 => ?_
  · rintro x i rfl ⟨h0, h4⟩
    have : i = 0 ∨ i = 1 ∨ i = 2 ∨ i = 3 := by omega
    rcases this with rfl | rfl | rfl | rfl <;> exact ⟨_, _, rfl, rfl, _, rfl, by decide, by decide⟩
  obtain ⟨mz, rfl, mz0, mz1⟩ := hd
  replace A2 : At K φ (JB p pl ns H) [some (.raw (.ref p)), some (.int (k : Int)), some (.int (w' : Int)), some (.int (h' : Int)), some (.tup [.int x, .int y]), some (.int mz)] σ2 H2 := A2
  have hnm : EvD K φ (JB p pl ns H) (tOp rAddS (tC (.str "s")) (tCB rStrI (tCons (tVar 1) tNil))) [some (.raw (.ref p)), some (.int (k : Int)), some (.int (w' : Int)), some (.int (h' : Int)), some (.tup [.int x, .int y]), some (.int mz)] (.str (sName k)) := by
    have : k = 0 ∨ k = 1 ∨ k = 2 := by omega
    rcases this with rfl | rfl | rfl
    · exact (ev_addS ev_str (ev_strI (ev_var (i := 1) rfl) (by decide)) (by decide +kernel)).is (congrArg D.str (by decide +kernel))
    · exact (ev_addS ev_str (ev_strI (ev_var (i := 1) rfl) (by decide)) (by decide +kernel)).is (congrArg D.str (by decide +kernel))
    · exact (ev_addS ev_str (ev_strI (ev_var (i := 1) rfl) (by decide)) (by decide +kernel)).is (congrArg D.str (by decide +kernel))
  refine st_ret A2 ((ev_tupP (ea_consP hnm (ea_consP (ev_var (i := 4) rfl) (ea_consP (ei_add (ev_i ev_int) (ev_draw hP rfl ev_int (by decide) (by decide))) (ea_consP (ei_add (ev_i ev_int) (ev_draw hP rfl ev_int (by decide) (by decide))) (ea_consP (ev_var (i := 5) rfl) (ea_consP (ev_callP (Pr := fun ds => ds = []) hP rfl ea_nil (fun ds e => ⟨by rw [e]; rfl, trivial⟩)) ea_nil)))))) ?_).imp ?_) fun v d H4 e A4 r => hrt v d H4 e A4.j r
  · rintro r ⟨d, r', rfl, _, d2, r2, rfl, _, d3, r3, rfl, _, d4, r4, rfl, _, d5, r5, rfl, _, d6, r6, rfl, _, rfl⟩
    exact Nat.le_of_ble_eq_true rfl
  · rintro z ⟨r, rfl, d, r', rfl, rfl, d2, r2, rfl, rfl, d3, r3, rfl, ⟨m1, rfl, _, u1, rfl, ⟨u10, u11⟩, rfl⟩, d4, r4, rfl, ⟨m2, rfl, _⟩, d5, r5, rfl, rfl, d6, r6, rfl, ⟨_, _, ls, rfl, l0, l1⟩, rfl⟩
    exact ⟨k, w', h', ⟨sName k, x, y, _, m2, mz, ls⟩, rfl, rfl, ⟨hxy, by show (0 : Int) ≤ 1 + u1; omega, by show 1 + u1 ≤ 1000; omega, mz0, mz1, l0, l1⟩, rfl⟩
end
end

/-! ### the law's middle, the law's campaign -/
section
theorem cntLt_f {ns : List Int} {v : Int} : (((ns.map D.int).filter fun d => decide (intV d < v)).map fun d => d).length = cntLt ns v := by
  rw [List.length_map, List.filter_map, List.length_map]
  unfold cntLt
  rw [List.countP_eq_length_filter]
  rfl
theorem cntLe_f {ns : List Int} {v : Int} : (((ns.map D.int).filter fun d => decide (intV d ≤ v)).map fun d => d).length = cntLe ns v := by
  rw [List.length_map, List.filter_map, List.length_map]
  unfold cntLe
  rw [List.countP_eq_length_filter]
  rfl
theorem med_find {ns : List Int} (hl : ns.length < 64) (h : ns ≠ []) : medI ns ∈ ns ∧ isMed ns (medI ns) = true := by
  have hp : (ns.mergeSort fun a b => decide (a ≤ b)).Perm ns := List.mergeSort_perm _ _
  have hs : (ns.mergeSort fun a b => decide (a ≤ b)).Pairwise (· ≤ ·) := (List.pairwise_mergeSort (le := fun a b : Int => decide (a ≤ b)) (fun a b c h1 h2 => by
    rw [decide_eq_true_eq] at *
    omega) (fun a b => by
    rw [Bool.or_eq_true, decide_eq_true_eq, decide_eq_true_eq]
    omega) ns).imp fun h => of_decide_eq_true h
  obtain ⟨a, b, _⟩ := med_mem hp hs h
  exact ⟨a, b⟩
section
variable {P : Program} {w : World} {K : PySem.W.Frag} {mg : Str → Option Value} {base : Heap}
theorem sc__law_middle : FnScope ["numbers", "number", "less", "one", "many"] ["numbers"] (defScope s__law_middle) := ⟨rfl, rfl, rfl, by decide +kernel, rfl, by decide +kernel, by decide +kernel⟩
theorem ok__law_middle (B : Bi mg) {f : Addr} {fd : FuncData} (F : Fun K "_law_middle" "_law_middle" s__law_middle f fd) : FnOk P w K mg base CX0 1 f fd ["numbers"] (SpD K 1 RMed) := by
  have S := sc__law_middle
  refine fn_ok F S rfl 4 rfl fun cdv A outer s H E hr => ⟨_, ((pss_cons (ps_if (pt_cmpR op_eq (pe_callB c_len (by rfl) B.len (by decide +kernel) (pa_cons (pv 0) pa_nil)) pe_int (nomark _))
 (pss_one (ps_ret pe_non))
 pss_nil)
 (pss_cons (ps_for PassesOwn.never rfl (pi_list (pv 0)) (pg_name (i := 1) S.nd rfl (by first | exact Or.inl rfl | exact Or.inr rfl))
 (pss_cons (ps_set (i := 2) S.nd rfl (by first | exact Or.inl rfl | exact Or.inr rfl) (pe_callB c_len (by rfl) B.len (by decide +kernel) (pa_cons (pe_lc (own := [("one", 3)]) (g := (gName 3)) (by rfl) S.nd (pi_list (pv 0)) (blkOk_by (N := ["numbers", "number", "less", "one", "many"]) (sc := defScope s__law_middle) (own := [("one", 3)]) (by decide +kernel)) (fun _ _ _ _ _ => (pg_name (i := 3) S.nd rfl (by first | exact Or.inl rfl | exact Or.inr rfl))) (fun _ _ _ _ _ => pts_one (pt_cmpR op_lt (pv 3) (pv 1) (nomark _))) (fun _ _ _ _ _ => (pv 3))) pa_nil)))
 (pss_cons (ps_set (i := 4) S.nd rfl (by first | exact Or.inl rfl | exact Or.inr rfl) (pe_callB c_len (by rfl) B.len (by decide +kernel) (pa_cons (pe_lc (own := [("one", 3)]) (g := (gName 3)) (by rfl) S.nd (pi_list (pv 0)) (blkOk_by (N := ["numbers", "number", "less", "one", "many"]) (sc := defScope s__law_middle) (own := [("one", 3)]) (by decide +kernel)) (fun _ _ _ _ _ => (pg_name (i := 3) S.nd rfl (by first | exact Or.inl rfl | exact Or.inr rfl))) (fun _ _ _ _ _ => pts_one (pt_cmpR op_le (pv 3) (pv 1) (nomark _))) (fun _ _ _ _ _ => (pv 3))) pa_nil)))
 (pss_one (ps_if (pt_chain op_le op_lt (pv 2) (pe_op op_fdiv (pe_op op_sub (pe_callB c_len (by rfl) B.len (by decide +kernel) (pa_cons (pv 0) pa_nil)) pe_int) pe_int) (pv 4))
 (pss_one (ps_ret (pv 1)))
 pss_nil)))))
 (pss_one (ps_ret pe_non))))), fun φ ds d H D0 σ hl hR hrt hnx A => ?_⟩
  obtain ⟨ns, rfl, hlen, rfl⟩ := hR
  replace A : At K φ (Same H) [some (.lst (ns.map D.int)), none, none, none, none] σ H := A
  clear F
  refine q (st_if A (et_test (ev_eqI (ev_lenL (ev_var (i := 0) rfl)) ev_int)) (fun hb H1 A1 => ?_) (fun hb H1 A1 => st_next ?_))
  · have hb := of_decide_eq_true hb.symm
    rw [List.length_map] at hb
    have e : ns = [] := List.eq_nil_of_length_eq_zero (by omega)
    subst e
    exact st_ret A1 ev_non fun v d' H6 e' A6 rr => hrt v H6 A6.j (by subst e'; exact rr)
  · have hb := of_decide_eq_false hb.symm
    rw [List.length_map] at hb
    have hne : ns ≠ [] := by
      rintro rfl
      exact hb rfl
    rw [med_ne hne] at hrt
    obtain ⟨hmem, hmed⟩ := med_find hlen hne
    refine q (st_for A1 (it_list (ds := ns.map D.int) (ev_var (i := 0) rfl)) (fun i ρ' J' => ∃ o1 o2 o3 o4, (∀ (j : Nat) (v : Int), j < i → ns[j]? = some v → isMed ns v = false) ∧ J' = Same H ∧ ρ' = [some (.lst (ns.map D.int)), o1, o2, o3, o4]) ⟨none, none, none, none, fun j t hj => absurd hj (Nat.not_lt_zero j), rfl, rfl⟩ ?_ ?_)
    · rintro H5 i x ρ' J' b5 j5 hx ⟨o1, o2, o3, o4, hno, rfl, rfl⟩ σ' H' A5
      rw [List.getElem?_map] at hx
      obtain ⟨v, hv, rfl⟩ := Option.map_eq_some_iff.mp hx
      replace A5 : At K φ (fun H_1 => Same H H_1 ∧ But φ H5 H_1) [some (.lst (ns.map D.int)), some (.int v), o2, o3, o4] σ' H' := A5
      refine q (st_set (d := .int (cntLt ns v : Nat)) A5 ((ev_lenL (ev_lcF (k := 3) (p := fun d => decide (intV d < v)) (f := fun d => d) (it_list (ds := ns.map D.int) (ev_var (i := 0) rfl)) (by rw [List.length_map]; omega) (fun d hd φ' J' x => ?_) fun d hd pd φ' J' x => ev_var (i := 3) rfl)).is (by rw [cntLt_f])) fun σ6 H6 A6 => ?_)
      · obtain ⟨u, _, rfl⟩ := List.mem_map.mp hd
        exact et_test (ev_lt (ev_var (i := 3) rfl) (ev_var (i := 1) rfl))
      replace A6 : At K φ (fun H_1 => Same H H_1 ∧ But φ H5 H_1) [some (.lst (ns.map D.int)), some (.int v), some (.int (cntLt ns v : Nat)), o3, o4] σ6 H6 := A6
      dsimp only
      refine q (st_set (d := .int (cntLe ns v : Nat)) A6 ((ev_lenL (ev_lcF (k := 3) (p := fun d => decide (intV d ≤ v)) (f := fun d => d) (it_list (ds := ns.map D.int) (ev_var (i := 0) rfl)) (by rw [List.length_map]; omega) (fun d hd φ' J' x => ?_) fun d hd pd φ' J' x => ev_var (i := 3) rfl)).is (by rw [cntLe_f])) fun σ7 H7 A7 => ?_)
      · obtain ⟨u, _, rfl⟩ := List.mem_map.mp hd
        exact et_test (ev_le (ev_var (i := 3) rfl) (ev_var (i := 1) rfl))
      replace A7 : At K φ (fun H_1 => Same H H_1 ∧ But φ H5 H_1) [some (.lst (ns.map D.int)), some (.int v), some (.int (cntLt ns v : Nat)), o3, some (.int (cntLe ns v : Nat))] σ7 H7 := A7
      dsimp only
      refine st_if A7 ((et_test (ev_chainI (ev_var (i := 2) rfl) ((ev_fdiv (ev_sub (ev_lenL (ev_var (i := 0) rfl)) ev_int) ev_int ⟨by decide, by decide⟩).is (d' := .int (((ns.length - 1) / 2 : Nat) : Int)) (by
        rw [List.length_map]
        congr 1
        omega)) (ev_var (i := 4) rfl))).is (c := isMed ns v) (by
          unfold isMed
          congr 1
          · exact decide_eq_decide.mpr Int.ofNat_le
          · exact decide_eq_decide.mpr Int.ofNat_lt)) (fun hb3 H8 A8 => ?_) (fun hb3 H8 A8 => ?_)
      · have e := med_uniq hb3.symm hmed
        exact st_ret A8 (ev_var (i := 1) rfl) fun w d' H9 e' A9 rr => hrt w H9 A9.j.1 (by subst e'; rw [← e]; exact rr)
      · refine st_next ⟨_, _, ⟨_, _, _, _, fun j t hj ht => ?_, rfl, rfl⟩, A8⟩
        by_cases e : j = i
        · subst e
          rw [hv] at ht
          cases ht
          exact hb3.symm
        · exact hno j t (by omega) ht
    · rintro H5 ρ' J' σ' H' b5 j5 ⟨o1, o2, o3, o4, hno, rfl, rfl⟩ A5
      obtain ⟨j, hj⟩ := List.mem_iff_getElem?.mp hmem
      have := hno j _ (by rw [List.length_map]; exact (List.getElem?_eq_some_iff.mp hj).1) hj
      rw [hmed] at this
      cases this
end
end

/-! ### the law's campaign -/
section
def RCamp : List D → D → Prop := fun _ d => ∃ (w h : Nat) (g : List (List Int)) (ss : List Sta) (mast : Int) (rows : List MRow), CampOk w h g ss mast rows ∧ d = .lst [netD g ss, .int mast, campD rows]
theorem stas_of {w h n : Nat} {ys : List D} (c : Comp (fun _ b => b = true) (fun d y => ∃ (k : Nat) (s : Sta), d = .int (k : Int) ∧ y = staD s ∧ StaOk w h s ∧ s.nm = sName k) (rangeD 0 n) ys) : ∃ ss : List Sta, ys = ss.map staD ∧ ss.length = n ∧ (∀ (i : Nat) (s : Sta), ss[i]? = some s → s.nm = sName i) ∧ ∀ s ∈ ss, StaOk w h s := by
  obtain ⟨h1, h2⟩ := comp_at c
  rw [rangeD_length] at h1
  obtain ⟨ss, e, hs⟩ := all_map77 (f := staD) (P := fun s => StaOk w h s) (ys := ys) fun y hy => by
    obtain ⟨d, _, k, s, _, e, o, _⟩ := each77 c y hy
    exact ⟨s, e, o⟩
  refine ⟨ss, e, by rw [← h1, e, List.length_map], fun i s hi => ?_, hs⟩
  have hlt : i < n := by
    rw [← h1, e, List.length_map]
    exact (List.getElem?_eq_some_iff.mp hi).1
  obtain ⟨k, t, e1, e2, _, e3⟩ := h2 i (.int (0 + (i : Int))) (staD s) (by rw [rangeD_get, if_pos hlt]) (by rw [e, List.getElem?_map, hi]; rfl)
  injection e1 with e1
  have ek : k = i := by omega
  subst ek
  rw [← e3]
  unfold staD at e2
  injection e2 with e2
  injection e2 with e2 _
  injection e2
section
variable {P : Program} {w : World} {K : PySem.W.Frag} {mg : Str → Option Value} {base : Heap}
theorem sc__law_campaign : FnScope ["pool", "width", "height", "terrain", "network", "k", "mast", "campaign", "name", "place", "low"] ["pool"] (defScope s__law_campaign) := ⟨rfl, rfl, rfl, by decide +kernel, rfl, by decide +kernel, by decide +kernel⟩
set_option maxHeartbeats 2000000 in
theorem ok__law_campaign (B : Bi mg) {cS cP : Addr} {f g1 g2 g3 g4 g5 : Addr} {fd gd1 gd2 gd3 gd4 gd5 : FuncData} (F : Fun K "_law_campaign" "_law_campaign" s__law_campaign f fd)
    (L__law_draw : Lk K mg "_law_draw" g1 gd1 ["pool", "many"]) (G__law_draw : FnOk P w K mg base CX0 2 g1 gd1 ["pool", "many"] spDraw)
    (L__law_terrain : Lk K mg "_law_terrain" g2 gd2 ["pool", "width", "height"]) (G__law_terrain : FnOk P w K mg base CX0 3 g2 gd2 ["pool", "width", "height"] (SpP K 2 PreTerr RTerrain))
    (L__law_station : Lk K mg "_law_station" g3 gd3 ["pool", "k", "width", "height"]) (G__law_station : FnOk P w K mg base CX0 4 g3 gd3 ["pool", "k", "width", "height"] (SpP K 3 PreSta RSta))
    (L__law_spot : Lk K mg "_law_spot" g4 gd4 ["pool", "terrain"]) (G__law_spot : FnOk P w K mg base CX0 3 g4 gd4 ["pool", "terrain"] (SpP K 1 PreSpot RSpot))
    (L_received : Lk K mg "received" g5 gd5 ["network", "name", "place", "mast"]) (G_received : FnOk P w K mg base (L2.CX P w) 7 g5 gd5 ["network", "name", "place", "mast"] (SpX K 4 (RRecv cS cP))) : FnOk P w K mg base CX0 8 f fd ["pool"] (SpP K 0 (fun _ => True) RCamp) := by
  have S := sc__law_campaign
  refine fn_okP F S rfl 10 rfl fun cdv A outer s H E hr => ⟨_, ((pss_cons (ps_set (i := 1) S.nd rfl (by first | exact Or.inl rfl | exact Or.inr rfl) (pe_op op_add pe_int (pe_call G__law_draw (hr.mono (by first | exact Nat.le_refl _ | decide | omega)) (by rfl) L__law_draw.m L__law_draw.kp L__law_draw.bi .nil pass0 (pa_cons (pv 0) (pa_cons pe_int pa_nil)))))
 (pss_cons (ps_set (i := 2) S.nd rfl (by first | exact Or.inl rfl | exact Or.inr rfl) (pe_op op_add pe_int (pe_call G__law_draw (hr.mono (by first | exact Nat.le_refl _ | decide | omega)) (by rfl) L__law_draw.m L__law_draw.kp L__law_draw.bi .nil pass0 (pa_cons (pv 0) (pa_cons pe_int pa_nil)))))
 (pss_cons (ps_set (i := 3) S.nd rfl (by first | exact Or.inl rfl | exact Or.inr rfl) (pe_call G__law_terrain (hr.mono (by first | exact Nat.le_refl _ | decide | omega)) (by rfl) L__law_terrain.m L__law_terrain.kp L__law_terrain.bi .nil pass0 (pa_cons (pv 0) (pa_cons (pv 1) (pa_cons (pv 2) pa_nil)))))
 (pss_cons (ps_set (i := 4) S.nd rfl (by first | exact Or.inl rfl | exact Or.inr rfl) (pe_tup (pa_cons (pv 3) (pa_cons (pe_callTy c_tupOf (by rfl) B.tuple (by decide +kernel) (pa_cons (pe_lc (own := [("k", 5)]) (g := (gName 5)) (tt := tYes) (by rfl) S.nd (pi_range1 (by rfl) B.range (pa_cons (pe_op op_add pe_int (pe_call G__law_draw (hr.mono (by first | exact Nat.le_refl _ | decide | omega)) (by rfl) L__law_draw.m L__law_draw.kp L__law_draw.bi .nil pass0 (pa_cons (pv 0) (pa_cons pe_int pa_nil)))) pa_nil)) (blkOk_by (N := ["pool", "width", "height", "terrain", "network", "k", "mast", "campaign", "name", "place", "low"]) (sc := defScope s__law_campaign) (own := [("k", 5)]) (by decide +kernel)) (fun _ _ _ _ _ => (pg_name (i := 5) S.nd rfl (by first | exact Or.inl rfl | exact Or.inr rfl))) (fun _ _ _ _ _ => pts_nil) (fun _ _ _ _ _ => (pe_call G__law_station (hr.mono (by first | exact Nat.le_refl _ | decide | omega)) (by rfl) L__law_station.m L__law_station.kp L__law_station.bi .nil pass0 (pa_cons (pv 0) (pa_cons (pv 5) (pa_cons (pv 1) (pa_cons (pv 2) pa_nil))))))) pa_nil)) pa_nil))))
 (pss_cons (ps_set (i := 6) S.nd rfl (by first | exact Or.inl rfl | exact Or.inr rfl) (pe_op op_add pe_int (pe_call G__law_draw (hr.mono (by first | exact Nat.le_refl _ | decide | omega)) (by rfl) L__law_draw.m L__law_draw.kp L__law_draw.bi .nil pass0 (pa_cons (pv 0) (pa_cons pe_int pa_nil)))))
 (pss_cons (ps_set (i := 7) S.nd rfl (by first | exact Or.inl rfl | exact Or.inr rfl) (pe_lst pa_nil))
 (pss_cons (ps_for PassesOwn.never rfl (pi_range1 (by rfl) B.range (pa_cons (pe_call G__law_draw (hr.mono (by first | exact Nat.le_refl _ | decide | omega)) (by rfl) L__law_draw.m L__law_draw.kp L__law_draw.bi .nil pass0 (pa_cons (pv 0) (pa_cons pe_int pa_nil))) pa_nil)) (pg_name (i := 5) S.nd rfl (by first | exact Or.inl rfl | exact Or.inr rfl))
 (pss_cons (ps_set (i := 8) S.nd rfl (by first | exact Or.inl rfl | exact Or.inr rfl) (pe_ix ix_tup (pe_ix ix_tup (pe_ix ix_tup (pv 4) pe_int (fun _ _ => rfl)) (pe_call G__law_draw (hr.mono (by first | exact Nat.le_refl _ | decide | omega)) (by rfl) L__law_draw.m L__law_draw.kp L__law_draw.bi .nil pass0 (pa_cons (pv 0) (pa_cons (pe_callB c_len (by rfl) B.len (by decide +kernel) (pa_cons (pe_ix ix_tup (pv 4) pe_int (fun _ _ => rfl)) pa_nil)) pa_nil))) (fun _ _ => rfl)) pe_int (fun _ _ => rfl)))
 (pss_cons (ps_set (i := 9) S.nd rfl (by first | exact Or.inl rfl | exact Or.inr rfl) (pe_call G__law_spot (hr.mono (by first | exact Nat.le_refl _ | decide | omega)) (by rfl) L__law_spot.m L__law_spot.kp L__law_spot.bi .nil pass0 (pa_cons (pv 0) (pa_cons (pv 3) pa_nil))))
 (pss_cons (ps_set (i := 10) S.nd rfl (by first | exact Or.inl rfl | exact Or.inr rfl) (pe_ix ix_tup (pe_callS G_received (hr.mono (by first | exact Nat.le_refl _ | decide | omega)) (by rfl) L_received.m L_received.kp L_received.bi (fun σ => passAt takes0 σ) (pa_cons (pv 4) (pa_cons (pv 8) (pa_cons (pv 9) (pa_cons (pv 6) pa_nil))))) pe_int (fun _ _ => rfl)))
 (pss_one (ps_expr (pe_bm PySem.F.plainAttrs_list PySem.F.slot_list_append PySem.F.type_list_append mt_append (pv 7) (pa_cons (pe_tup (pa_cons (pv 9) (pa_cons (pv 8) (pa_cons (pe_op op_add (pv 10) (pe_op op_mul (pe_op op_sub (pe_call G__law_draw (hr.mono (by first | exact Nat.le_refl _ | decide | omega)) (by rfl) L__law_draw.m L__law_draw.kp L__law_draw.bi .nil pass0 (pa_cons (pv 0) (pa_cons pe_int pa_nil))) pe_int) (pe_ix ix_tup (pe_tup (pa_cons pe_int (pa_cons pe_int (pa_cons pe_int pa_nil)))) (pe_call G__law_draw (hr.mono (by first | exact Nat.le_refl _ | decide | omega)) (by rfl) L__law_draw.m L__law_draw.kp L__law_draw.bi .nil pass0 (pa_cons (pv 0) (pa_cons pe_int pa_nil))) (fun _ _ => rfl)))) pa_nil)))) pa_nil))))))))
 (pss_one (ps_ret (pe_lst (pa_cons (pv 4) (pa_cons (pv 6) (pa_cons (pv 7) pa_nil)))))))))))))), fun φ p pl ns ds H D0 σ hl pre np ne hrt A => ?_⟩
  have hds : ds = [] := List.length_eq_zero_iff.mp hl
  subst hds
  clear pre
  replace A : At K φ (JB p pl ns H) [some (.raw (.ref p)), none, none, none, none, none, none, none, none, none, none] σ H := A
  have hP : Pooled φ (JB p pl ns H) p pl ns := pooledB np ne
  clear F L__law_draw G__law_draw L__law_terrain G__law_terrain L__law_station G__law_station L__law_spot G__law_spot L_received G_received
  refine q (st_asg A (ei_add (ev_i ev_int) (ev_draw hP rfl ev_int (by decide) (by decide))) fun d σ1 H1 hd A1 => ?_)
  obtain ⟨_, rfl, _, j1, rfl, ⟨j10, j11⟩, rfl⟩ := hd
  obtain ⟨w', ew, w1, w5⟩ : ∃ w' : Nat, (1 + j1 : Int) = w' ∧ 1 ≤ w' ∧ w' ≤ 5 := ⟨(1 + j1).toNat, by omega, by omega, by omega⟩
  rw [ew] at A1
  replace A1 : At K φ (JB p pl ns H) [some (.raw (.ref p)), some (.int (w' : Int)), none, none, none, none, none, none, none, none, none] σ1 H1 := A1
  dsimp only
  refine q (st_asg A1 (ei_add (ev_i ev_int) (ev_draw hP rfl ev_int (by decide) (by decide))) fun d σ2 H2 hd A2 => ?_)
  obtain ⟨_, rfl, _, j2, rfl, ⟨j20, j21⟩, rfl⟩ := hd
  obtain ⟨h', eh, h1, h3⟩ : ∃ h' : Nat, (1 + j2 : Int) = h' ∧ 1 ≤ h' ∧ h' ≤ 3 := ⟨(1 + j2).toNat, by omega, by omega, by omega⟩
  rw [eh] at A2
  replace A2 : At K φ (JB p pl ns H) [some (.raw (.ref p)), some (.int (w' : Int)), some (.int (h' : Int)), none, none, none, none, none, none, none, none] σ2 H2 := A2
  clear ew eh j10 j11 j20 j21
  dsimp only
  refine q (st_asg A2 (ev_callP hP rfl (ea_cons (ev_var (i := 1) rfl) (ea_cons (ev_var (i := 2) rfl) ea_nil)) ?_) fun d σ3 H3 hd A3 => ?_)
  · rintro ds rfl
    exact ⟨rfl, w', h', rfl, w1, by omega, h1, by omega⟩
  obtain ⟨ds, rfl, w2', h2', g, e, rfl, G, gok⟩ := hd
  have ew' : w' = w2' := by
    have z := (List.cons.inj e).1
    injection z with z
    omega
  have eh' : h' = h2' := by
    have z := (List.cons.inj (List.cons.inj e).2).1
    injection z with z
    omega
  subst ew' eh'
  clear e
  replace A3 : At K φ (JB p pl ns H) [some (.raw (.ref p)), some (.int (w' : Int)), some (.int (h' : Int)), some (gridD g), none, none, none, none, none, none, none] σ3 H3 := A3
  dsimp only
  refine q (st_asg (P := fun d => ∃ ss : List Sta, d = netD g ss ∧ (1 ≤ ss.length ∧ ss.length ≤ 3) ∧ (∀ (i : Nat) (s : Sta), ss[i]? = some s → s.nm = sName i) ∧ ∀ s ∈ ss, StaOk w' h' s) A3 ((ev_tupP (ea_consP (ev_var (i := 3) rfl) (ea_consP (ev_tupLP (Pl := fun ys => ∃ ss : List Sta, ys = ss.map staD ∧ (1 ≤ ss.length ∧ ss.length ≤ 3) ∧ (∀ (i : Nat) (s : Sta), ss[i]? = some s → s.nm = sName i) ∧ ∀ s ∈ ss, StaOk w' h' s)
    ((ev_lcE (k := 5) (pe := fun d y => ∃ (k : Nat) (s : Sta), d = .int (k : Int) ∧ y = staD s ∧ StaOk w' h' s ∧ s.nm = sName k) (it_range1P (p := fun n => 1 ≤ n ∧ n ≤ 3) (ea_i ((ei_add (ev_i ev_int) (ev_draw hP rfl ev_int (by decide) (by decide))).imp fun d hd => ?_)) (fun n h => by omega)) ?_ ?_).imp fun z hz => ?_)) ea_nil)) ?_).imp ?_) fun d σ4 H4 hd A4 => ?_)
  · obtain ⟨_, rfl, _, j, rfl, ⟨a0, a1⟩, rfl⟩ := hd
    exact ⟨_, rfl, by omega, by omega⟩
  · rintro ds ⟨n, hn, rfl⟩
    rw [rangeD_length]
    omega
  · rintro ds ⟨n, hn, rfl⟩ d hd φ' J' x
    obtain ⟨i, hi⟩ := List.mem_iff_getElem?.mp hd
    rw [rangeD_get] at hi
    split at hi
    · rename_i hlt
      cases hi
      rw [Int.zero_add]
      refine (ev_callP (x.pool _ _ _ hP) rfl (ea_cons (ev_var (i := 5) rfl) (ea_cons (ev_var (i := 1) rfl) (ea_cons (ev_var (i := 2) rfl) ea_nil))) ?_).imp ?_
      · rintro ds rfl
        exact ⟨rfl, i, w', h', rfl, by omega, w1, by omega, h1, by omega⟩
      · rintro z ⟨ds, rfl, k, a, b, s, e, rfl, o, hnm⟩
        simp only [List.cons.injEq, D.int.injEq, and_true] at e
        obtain ⟨e1, e2, e3⟩ := e
        have e1 : i = k := by omega
        have e2 : w' = a := by omega
        have e3 : h' = b := by omega
        subst e1 e2 e3
        exact ⟨i, s, rfl, rfl, o, hnm⟩
    · cases hi
  · obtain ⟨ds, ys, ⟨n, hn, rfl⟩, rfl, c⟩ := hz
    obtain ⟨ss, e, el, h1, h2⟩ := stas_of c
    exact ⟨ys, rfl, ss, e, by omega, h1, h2⟩
  · rintro r ⟨d, r', rfl, _, d2, r2, rfl, _, rfl⟩
    exact Nat.le_of_ble_eq_true rfl
  · rintro z ⟨r, rfl, d, r', rfl, rfl, d2, r2, rfl, ⟨ys, rfl, ss, rfl, hh⟩, rfl⟩
    exact ⟨ss, rfl, hh⟩
  obtain ⟨ss, rfl, ⟨sl1, sl3⟩, hnm, hso⟩ := hd
  have N : NetOk w' h' g ss := ⟨G, gok, by omega, by omega, by omega, hso⟩
  replace A4 : At K φ (JB p pl ns H) [some (.raw (.ref p)), some (.int (w' : Int)), some (.int (h' : Int)), some (gridD g), some (netD g ss), none, none, none, none, none, none] σ4 H4 := A4
  dsimp only
  refine q (st_asg A4 (ei_add (ev_i ev_int) (ev_draw hP rfl ev_int (by decide) (by decide))) fun d σ5 H5 hd A5 => ?_)
  obtain ⟨_, rfl, _, j3, rfl, ⟨j30, j31⟩, rfl⟩ := hd
  obtain ⟨mast, em, m0, m1⟩ : ∃ mast : Int, 1 + j3 = mast ∧ 1 ≤ mast ∧ mast ≤ 20 := ⟨1 + j3, rfl, by omega, by omega⟩
  rw [em] at A5
  clear em j30 j31
  replace A5 : At K φ (JB p pl ns H) [some (.raw (.ref p)), some (.int (w' : Int)), some (.int (h' : Int)), some (gridD g), some (netD g ss), none, some (.int mast), none, none, none, none] σ5 H5 := A5
  dsimp only
  refine q (st_newS A5 (en_ofN (en_lstD ea_nil)) fun l ds0 C J1 σ6 H6 hC N1 L1 A6 => ?_)
  obtain ⟨e, rfl⟩ := hC
  subst e
  have hP1 : Pooled (wo φ l) J1 p pl ns := N1.ext.pool _ _ _ hP
  obtain ⟨npl, nsl⟩ := N1.pl _ _ _ hP
  have sb := N1.st
  let ρ0 : Option D → Option D → Option D → Option D → List (Option D) := fun o5 o8 o9 o10 => [some (.raw (.ref p)), some (.int (w' : Int)), some (.int (h' : Int)), some (gridD g), some (netD g ss), o5, some (.int mast), some (.raw (.ref l)), o8, o9, o10]
  replace A6 : At K (wo φ l) J1 (ρ0 none none none none) σ6 H6 := A6
  dsimp only
  refine q (st_forP A6 (it_range1P (p := fun n => 0 ≤ n ∧ n < 7) (ea_i (ev_draw hP1 rfl ev_int (by decide) (by decide))) (fun n h => by omega)) fun ds3 H7 h7 A7 => ?_)
  obtain ⟨n, ⟨n0, n7⟩, rfl⟩ := h7
  refine forG_by A7 (fun i ρ' J' => ∃ (rows : List MRow) (o5 o8 o9 o10 : Option D), rows.length = i ∧ (∀ r ∈ rows, (∃ s, findS ss r.nm = some s) ∧ inPlace w' h' r.x r.y = true) ∧ LivS K (wo φ l) J' l HO.lst (rows.map mrowD) ∧ (∀ H', J' H' → JB p pl ns H H') ∧ Pooled (wo φ l) J' p pl ns ∧ ρ' = ρ0 o5 o8 o9 o10) ⟨[], none, none, none, none, rfl, (fun r h => nomatch h), L1, fun H' h => N1.ext.imp H' h, hP1, rfl⟩ ?_ ?_
  · rintro i x ρ' J' hx ⟨rows, o5, o8, o9, o10, hil, hrows, L4, hb4, hP4, rfl⟩
    refine ⟨_, _, eg_name, fun σ' H' A8 => ?_⟩
    have hi : i < 7 := by
      have := (List.getElem?_eq_some_iff.mp hx).1
      rw [rangeD_length] at this
      omega
    replace A8 : At K (wo φ l) (fun H => J' H ∧ But (wo φ l) H7 H) (ρ0 (some x) o8 o9 o10) σ' H' := A8
    have hP5 : Pooled (wo φ l) (fun H => J' H ∧ But (wo φ l) H7 H) p pl ns := Ext.but'.pool _ _ _ hP4
    refine q (st_asg (P := fun d => ∃ s ∈ ss, d = .str s.nm) A8 (ev_ixTP (P := fun d => ∃ s ∈ ss, d = .str s.nm) (ev_ixTP (P := fun d => ∃ s ∈ ss, d = staD s) (ev_ixT (ds := [gridD g, .tup (ss.map staD)]) (ev_var (i := 4) rfl) ev_int rfl) (ev_draw (n := (ss.length : Int)) hP5 rfl ((ev_lenT (ev_ixT (ds := [gridD g, .tup (ss.map staD)]) (ev_var (i := 4) rfl) ev_int rfl)).is (by rw [List.length_map])) (by omega) (by omega)) ?_) (ev_i ev_int) ?_) fun d σ9 H9 hd A9 => ?_)
    · rintro x i rfl ⟨i0, i1⟩
      have hlt : i.toNat < ss.length := by omega
      refine ⟨_, staD ss[i.toNat], rfl, ?_, ss[i.toNat], List.getElem_mem hlt, rfl⟩
      have e := atI_ofNat (xs := ss.map staD) (i := i.toNat) (x := staD ss[i.toNat]) (by rw [List.getElem?_map, List.getElem?_eq_getElem hlt]; rfl)
      rw [Int.toNat_of_nonneg i0] at e
      exact e
    · rintro x i ⟨s, hs, rfl⟩ rfl
      exact ⟨_, _, rfl, rfl, s, hs, rfl⟩
    obtain ⟨s9, hs9, rfl⟩ := hd
    replace A9 : At K (wo φ l) (fun H => J' H ∧ But (wo φ l) H7 H) (ρ0 (some x) (some (.str s9.nm)) o9 o10) σ9 H9 := A9
    dsimp only
    refine q (st_asg A9 (ev_callP hP5 rfl (ea_cons (ev_var (i := 3) rfl) ea_nil) fun ds e => ⟨by rw [e]; rfl, w', h', g, G, e⟩) fun d σ10 H10 hd A10 => ?_)
    obtain ⟨ds, rfl, hd⟩ := hd
    obtain ⟨px, py, hp, rfl⟩ := hd w' h' g G rfl
    replace A10 : At K (wo φ l) (fun H => J' H ∧ But (wo φ l) H7 H) (ρ0 (some x) (some (.str s9.nm)) (some (.tup [.int px, .int py])) o10) σ10 H10 := A10
    have hfs := find_of hs9
    have hrow := recv_row (cS := cS) (cP := cP) (r := ⟨px, py, s9.nm, 0⟩) N (show 0 ≤ mast by omega) (show mast ≤ 1000 by omega)
    rw [CampOk.rowX (g := g) (mast := mast) (rows := rows) hfs hp] at hrow
    dsimp only
    refine q (st_set (d := .int (rcvR g ss mast ⟨px, py, s9.nm, 0⟩).1) A10 (ev_ixT (ds := [.int (rcvR g ss mast ⟨px, py, s9.nm, 0⟩).1, .int (rcvR g ss mast ⟨px, py, s9.nm, 0⟩).2]) (ev_callX (R := RRecv cS cP) (ea_cons (ev_var (i := 4) rfl) (ea_cons (ev_var (i := 8) rfl) (ea_cons (ev_var (i := 9) rfl) (ea_cons (ev_var (i := 6) rfl) ea_nil)))) hrow) ev_int rfl) fun σ11 H11 A11 => ?_)
    generalize (rcvR g ss mast ⟨px, py, s9.nm, 0⟩).1 = low at A11
    replace A11 : At K (wo φ l) (fun H => J' H ∧ But (wo φ l) H7 H) (ρ0 (some x) (some (.str s9.nm)) (some (.tup [.int px, .int py])) (some (.int low))) σ11 H11 := A11
    dsimp only
    refine st_appS (P := fun d => ∃ lev : Int, d = mrowD ⟨px, py, s9.nm, lev⟩) A11 L4.but rfl (fun σ H A Q k => ev_tupP (ea_consP (ev_var (i := 9) rfl) (ea_consP (ev_var (i := 8) rfl) (ea_consP (ei_add (ev_i (ev_var (i := 10) rfl)) (ei_mul (ei_sub (ev_draw hP5 rfl ev_int (by decide) (by decide)) (ev_i ev_int)) (ev_ixTP (P := fun d => ∃ i : Int, d = .int i ∧ True) (ev_tup (ea_cons ev_int (ea_cons ev_int (ea_cons ev_int ea_nil)))) (ev_draw hP5 rfl ev_int (by decide) (by decide)) ?_) (fun i j h1 h2 => .inl ?_))) ea_nil))) ?_ σ H A Q fun v d H' b A' pd r => k v d H' b A' ?_ r) (by rw [List.length_map]; omega) fun d J8 H8 hd W8 L8 A8 => ?_
    · rintro x i rfl ⟨h0, h4⟩
      have : i = 0 ∨ i = 1 ∨ i = 2 := by omega
      rcases this with rfl | rfl | rfl <;> exact ⟨_, _, rfl, rfl, _, rfl, trivial⟩
    · obtain ⟨a, b, ⟨a0, a1⟩, rfl, rfl⟩ := h1
      omega
    · rintro r ⟨d, r', rfl, _, d2, r2, rfl, _, d3, r3, rfl, _, rfl⟩
      exact Nat.le_of_ble_eq_true rfl
    · obtain ⟨r, rfl, d, r', rfl, rfl, d2, r2, rfl, rfl, d3, r3, rfl, ⟨lev, rfl, _⟩, rfl⟩ := pd
      exact ⟨lev, rfl⟩
    · obtain ⟨lev, rfl⟩ := hd
      have hb8 := W8.base _ (fun H h => h.2) (Stab.but (.inl L4.np))
      refine ⟨_, J8, ⟨rows ++ [⟨px, py, s9.nm, lev⟩], _, _, _, _, by rw [List.length_append, hil]; rfl, fun r hr => ?_, by rw [List.map_append]; exact L8, W8.base _ (fun H h => hb4 H h.1) sb, W8.pool _ _ _ hP5 npl nsl, rfl⟩, A8.live ⟨A8.j, hb8 _ A8.j⟩ (A8.mono.and (Mo.but (hb8 _ A8.j).tr))⟩
      rcases List.mem_append.mp hr with hr | hr
      · exact hrows r hr
      · rw [List.mem_singleton.mp hr]
        exact ⟨hfs, hp⟩
  · rintro ρ' J' σ' H' ⟨rows, o5, o8, o9, o10, hil, hrows, L4, hb4, hP4, rfl⟩ A8
    rw [rangeD_length] at hil
    have A9 := L4.but.freeze N1.fr A8 (k := 7) rfl
    replace A9 : At K φ (fun H_1 => (J' H_1 ∧ But (wo φ l) H7 H_1) ∧ But φ H' H_1) [some (.raw (.ref p)), some (.int (w' : Int)), some (.int (h' : Int)), some (gridD g), some (netD g ss), o5, some (.int mast), some (campD rows), o8, o9, o10] σ' H' := A9
    refine st_ret A9 (ev_lst (ea_cons (ev_var (i := 4) rfl) (ea_cons (ev_var (i := 6) rfl) (ea_cons (ev_var (i := 7) rfl) ea_nil)))) fun v d H6 e A6 r => hrt v d H6 ⟨w', h', g, ss, mast, rows, ⟨N, hnm, ?_, sl3, m0, m1, by omega, hrows⟩, e⟩ (hb4 _ A6.j.1.1) r
    rintro rfl
    exact absurd sl1 (by decide)
end
end

-- import HandS.TryMany
/-! ### the law's words; outliers asked by the law -/
section
theorem sName_ok (k : Nat) : PyData.strOk (sName k) = true := by
  unfold sName
  split
  · decide +kernel
  · split <;> decide +kernel
theorem CampOk.names {w h : Nat} {g : List (List Int)} {ss : List Sta} {mast : Int} {rows : List MRow} (C : CampOk w h g ss mast rows) : ∀ r ∈ rows, ∃ k, r.nm = sName k := fun r hr => by
  obtain ⟨⟨s, hs⟩, _⟩ := C.r r hr
  obtain ⟨hm, hn⟩ := find_mem hs
  obtain ⟨i, hi⟩ := List.mem_iff_getElem?.mp hm
  exact ⟨i, by rw [← hn, C.nm i s hi]⟩
theorem okq_camp {n : Nat} {rows : List MRow} (h : ∀ r ∈ rows, PyData.strOk r.nm = true) : okq (n + 4) (campD rows) = true := by
  show (rows.map mrowD).all (okq (n + 3)) = true
  rw [List.all_map, List.all_eq_true]
  intro r hr
  show ([.tup [.int r.x, .int r.y], .str r.nm, .int r.lev] : List D).all (okq (n + 2)) = true
  rw [List.all_cons, List.all_cons, List.all_cons, List.all_nil, Bool.and_true]
  have e1 : okq (n + 2) (.tup [.int r.x, .int r.y]) = true := by
    show ([.int r.x, .int r.y] : List D).all (okq (n + 1)) = true
    rfl
  have e2 : okq (n + 2) (.str r.nm) = true := h r hr
  have e3 : okq (n + 2) (.int r.lev) = true := rfl
  rw [e1, e2, e3]
  rfl
theorem CampOk.okq {n : Nat} {w h : Nat} {g : List (List Int)} {ss : List Sta} {mast : Int} {rows : List MRow} (C : CampOk w h g ss mast rows) : okq (n + 4) (campD rows) = true := okq_camp fun r hr => by
  obtain ⟨k, e⟩ := C.names r hr
  rw [e]
  exact sName_ok k
section
variable {P : Program} {w : World} {K : PySem.W.Frag} {mg : Str → Option Value} {base : Heap}
def RWord (cS cP : Addr) : List D → D → Prop := fun ds d => ∃ (w h : Nat) (g : List (List Int)) (ss : List Sta) (rows : List MRow) (way : Int), NetOk w h g ss ∧ rows.length ≤ 60 ∧ ds = [netD g ss, campD rows, .int way] ∧ (0 ≤ way ∧ way ≤ 2) ∧ ((campX w h ss cS cP rows = some cS ∧ d = .str "station") ∨ (campX w h ss cS cP rows = some cP ∧ d = .str "place"))
theorem sc__law_word : FnScope ["network", "campaign", "way"] ["network", "campaign", "way"] (defScope s__law_word) := ⟨rfl, rfl, rfl, by decide +kernel, rfl, by decide +kernel, by decide +kernel⟩
theorem ok__law_word (B : Bi mg) {cS cP : Addr} (X_NoStation : ExC K mg "NoStation" cS) (X_NoPlace : ExC K mg "NoPlace" cP) (XN : PySem.W.exmOne K (.ref cP) (.ref cS) = some false) {f g1 g2 g3 : Addr} {fd gd1 gd2 gd3 : FuncData} (F : Fun K "_law_word" "_law_word" s__law_word f fd)
    (L_differences : Lk K mg "differences" g1 gd1 ["network", "mast", "campaign"]) (G_differences : FnOk P w K mg base (L2.CX P w) 8 g1 gd1 ["network", "mast", "campaign"] (SpX K 3 (RDiffs cS cP)))
    (L_offset_of : Lk K mg "offset_of" g2 gd2 ["network", "mast", "campaign", "name"]) (G_offset_of : FnOk P w K mg base (L2.CX P w) 10 g2 gd2 ["network", "mast", "campaign", "name"] (SpX K 4 (ROff cS cP)))
    (L_outliers : Lk K mg "outliers" g3 gd3 ["network", "mast", "campaign", "most"]) (G_outliers : FnOk P w K mg base (L2.CX P w) 10 g3 gd3 ["network", "mast", "campaign", "most"] (SpX K 4 (ROut cS cP))) : FnOk P w K mg base CX0 11 f fd ["network", "campaign", "way"] (SpD K 3 (RWord cS cP)) := by
  have S := sc__law_word
  refine fn_ok F S rfl 0 rfl fun cdv A outer s H E hr => ⟨_, ((pss_cons (ps_try_many rfl rfl takes0 (fun W pn xe tk po => (pss_one (ps_if (pt_cmpR op_eq (pv 2) pe_int (nomark _))
 (pss_one (ps_expr (pe_callS G_differences (hr.mono (by first | exact Nat.le_refl _ | decide | omega)) (by rfl) L_differences.m L_differences.kp L_differences.bi (fun σ => passAt tk σ) (pa_cons (pv 0) (pa_cons pe_int (pa_cons (pv 1) pa_nil))))))
 (pss_one (ps_if (pt_cmpR op_eq (pv 2) pe_int (nomark _))
 (pss_one (ps_expr (pe_callS G_offset_of (hr.mono (by first | exact Nat.le_refl _ | decide | omega)) (by rfl) L_offset_of.m L_offset_of.kp L_offset_of.bi (fun σ => passAt tk σ) (pa_cons (pv 0) (pa_cons pe_int (pa_cons (pv 1) (pa_cons pe_str pa_nil)))))))
 (pss_one (ps_expr (pe_callS G_outliers (hr.mono (by first | exact Nat.le_refl _ | decide | omega)) (by rfl) L_outliers.m L_outliers.kp L_outliers.bi (fun σ => passAt tk σ) (pa_cons (pv 0) (pa_cons pe_int (pa_cons (pv 1) (pa_cons pe_int pa_nil))))))))))))
 (HdsOk.cons ⟨(by rfl), by decide, .inl X_NoStation.m⟩ (fun a oe cls d pn _ _ => (pss_one (ps_ret pe_str))) (HdsOk.cons ⟨(by rfl), by decide, .inl X_NoPlace.m⟩ (fun a oe cls d pn _ _ => (pss_one (ps_ret pe_str))) HdsOk.nil)))
 (pss_one (ps_ret pe_str)))), fun φ ds d H D0 σ hl hR hrt hnx A => ?_⟩
  obtain ⟨w', h', g, ss, rows, way, N, hlen, rfl, ⟨w0, w2⟩, hc⟩ := hR
  replace A : At K φ (Same H) [some (netD g ss), some (campD rows), some (.int way)] σ H := A
  clear F L_differences G_differences L_offset_of G_offset_of L_outliers G_outliers
  have exS : ∀ {H2 : Hp}, d = .str "station" → At K φ (Same H) [some (netD g ss), some (campD rows), some (.int way)] σ H2 → tRet (tC (.str "station")) D0 σ H2 := fun {H2} hd A2 => st_ret A2 ev_str fun v d' H6 e A6 rr => hrt v H6 A6.j (by rw [hd]; subst e; exact rr)
  have exP : ∀ {H2 : Hp}, d = .str "place" → At K φ (Same H) [some (netD g ss), some (campD rows), some (.int way)] σ H2 → tRet (tC (.str "place")) D0 σ H2 := fun {H2} hd A2 => st_ret A2 ev_str fun v d' H6 e A6 rr => hrt v H6 A6.j (by rw [hd]; subst e; exact rr)
  have a3 : ∀ {J : Hp → Prop}, EvAD K φ J (tCons (tVar 0) (tCons (tC (.int 5)) (tCons (tVar 1) tNil))) [some (netD g ss), some (campD rows), some (.int way)] [netD g ss, .int 5, campD rows] := fun {J} => ea_cons (ev_var (i := 0) rfl) (ea_cons ev_int (ea_cons (ev_var (i := 1) rfl) ea_nil))
  refine q (st_if A (et_test (ev_eqI (ev_var (i := 2) rfl) ev_int)) (fun hb H1 A1 => ?_) (fun hb H1 A1 => ?_))
  · rcases hc with ⟨hc, hd⟩ | ⟨hc, hd⟩
    · refine st_rs A1 (rs_call (c := cS) (R := RDiffs cS cP) a3 ⟨w', h', g, ss, 5, rows, N, rfl, by decide, by decide, hlen, by rw [hc]⟩) fun H2 b2 A2 => ⟨true, X_NoStation.x, fun _ a ha => exS hd A2, fun z => nomatch z⟩
    · refine st_rs A1 (rs_call (c := cP) (R := RDiffs cS cP) a3 ⟨w', h', g, ss, 5, rows, N, rfl, by decide, by decide, hlen, by rw [hc]⟩) fun H2 b2 A2 => ⟨false, XN, (fun z => nomatch z), fun _ => ⟨true, X_NoPlace.x, fun _ a ha => exP hd A2, fun z => nomatch z⟩⟩
  · refine st_if A1 (et_test (ev_eqI (ev_var (i := 2) rfl) ev_int)) (fun hb2 H2 A2 => ?_) (fun hb2 H2 A2 => ?_)
    · have a4 : ∀ {J : Hp → Prop}, EvAD K φ J (tCons (tVar 0) (tCons (tC (.int 5)) (tCons (tVar 1) (tCons (tC (.str "s0")) tNil)))) [some (netD g ss), some (campD rows), some (.int way)] [netD g ss, .int 5, campD rows, .str "s0"] := fun {J} => ea_cons (ev_var (i := 0) rfl) (ea_cons ev_int (ea_cons (ev_var (i := 1) rfl) (ea_cons ev_str ea_nil)))
      rcases hc with ⟨hc, hd⟩ | ⟨hc, hd⟩
      · refine st_rs A2 (rs_call (c := cS) (R := ROff cS cP) a4 ⟨w', h', g, ss, 5, rows, "s0", N, rfl, by decide, by decide, hlen, by rw [hc]⟩) fun H2 b2 A2 => ⟨true, X_NoStation.x, fun _ a ha => exS hd A2, fun z => nomatch z⟩
      · refine st_rs A2 (rs_call (c := cP) (R := ROff cS cP) a4 ⟨w', h', g, ss, 5, rows, "s0", N, rfl, by decide, by decide, hlen, by rw [hc]⟩) fun H2 b2 A2 => ⟨false, XN, (fun z => nomatch z), fun _ => ⟨true, X_NoPlace.x, fun _ a ha => exP hd A2, fun z => nomatch z⟩⟩
    · have a4 : ∀ {J : Hp → Prop}, EvAD K φ J (tCons (tVar 0) (tCons (tC (.int 5)) (tCons (tVar 1) (tCons (tC (.int 3)) tNil)))) [some (netD g ss), some (campD rows), some (.int way)] [netD g ss, .int 5, campD rows, .int 3] := fun {J} => ea_cons (ev_var (i := 0) rfl) (ea_cons ev_int (ea_cons (ev_var (i := 1) rfl) (ea_cons ev_int ea_nil)))
      rcases hc with ⟨hc, hd⟩ | ⟨hc, hd⟩
      · refine st_rs A2 (rs_call (c := cS) (R := ROut cS cP) a4 ⟨w', h', g, ss, 5, rows, 3, N, rfl, by decide, by decide, hlen, by rw [hc]⟩) fun H2 b2 A2 => ⟨true, X_NoStation.x, fun _ a ha => exS hd A2, fun z => nomatch z⟩
      · refine st_rs A2 (rs_call (c := cP) (R := ROut cS cP) a4 ⟨w', h', g, ss, 5, rows, 3, N, rfl, by decide, by decide, hlen, by rw [hc]⟩) fun H2 b2 A2 => ⟨false, XN, (fun z => nomatch z), fun _ => ⟨true, X_NoPlace.x, fun _ a ha => exP hd A2, fun z => nomatch z⟩⟩
def ROwn : List D → D → Prop := fun ds d => ∃ (w h : Nat) (g : List (List Int)) (ss : List Sta) (mast : Int) (rows : List MRow) (most : Int), CampOk w h g ss mast rows ∧ ds = [netD g ss, .int mast, campD rows, .int most] ∧ d = .lst ((outL g ss mast rows most rows.length).map D.int)
theorem sc__law_own_outliers : FnScope ["network", "mast", "campaign", "most", "kept", "row", "told"] ["network", "mast", "campaign", "most"] (defScope s__law_own_outliers) := ⟨rfl, rfl, rfl, by decide +kernel, rfl, by decide +kernel, by decide +kernel⟩
theorem ok__law_own_outliers (B : Bi mg) {cS cP : Addr} {f g1 : Addr} {fd gd1 : FuncData} (F : Fun K "_law_own_outliers" "_law_own_outliers" s__law_own_outliers f fd)
    (L_outliers : Lk K mg "outliers" g1 gd1 ["network", "mast", "campaign", "most"]) (G_outliers : FnOk P w K mg base (L2.CX P w) 10 g1 gd1 ["network", "mast", "campaign", "most"] (SpX K 4 (ROut cS cP))) : FnOk P w K mg base CX0 11 f fd ["network", "mast", "campaign", "most"] (SpD K 4 ROwn) := by
  have S := sc__law_own_outliers
  refine fn_ok F S rfl 3 rfl fun cdv A outer s H E hr => ⟨_, ((pss_cons (ps_set (i := 4) S.nd rfl (by first | exact Or.inl rfl | exact Or.inr rfl) (pe_lst (pa_cons (pe_lc (own := [("row", 5)]) (g := (gName 5)) (tt := tYes) (by rfl) S.nd (pi_list (pv 2)) (blkOk_by (N := ["network", "mast", "campaign", "most", "kept", "row", "told"]) (sc := defScope s__law_own_outliers) (own := [("row", 5)]) (by decide +kernel)) (fun _ _ _ _ _ => (pg_name (i := 5) S.nd rfl (by first | exact Or.inl rfl | exact Or.inr rfl))) (fun _ _ _ _ _ => pts_nil) (fun _ _ _ _ _ => (pv 5))) pa_nil)))
 (pss_cons (ps_set (i := 6) S.nd rfl (by first | exact Or.inl rfl | exact Or.inr rfl) (pe_callS G_outliers (hr.mono (by first | exact Nat.le_refl _ | decide | omega)) (by rfl) L_outliers.m L_outliers.kp L_outliers.bi (fun σ => passAt takes0 σ) (pa_cons (pv 0) (pa_cons (pv 1) (pa_cons (pv 2) (pa_cons (pv 3) pa_nil))))))
 (pss_one (ps_ret (pe_ifExp (pt_cmpR (op_eqD hr.units) (pv 4) (pe_lst (pa_cons (pe_lc (own := [("row", 5)]) (g := (gName 5)) (tt := tYes) (by rfl) S.nd (pi_list (pv 2)) (blkOk_by (N := ["network", "mast", "campaign", "most", "kept", "row", "told"]) (sc := defScope s__law_own_outliers) (own := [("row", 5)]) (by decide +kernel)) (fun _ _ _ _ _ => (pg_name (i := 5) S.nd rfl (by first | exact Or.inl rfl | exact Or.inr rfl))) (fun _ _ _ _ _ => pts_nil) (fun _ _ _ _ _ => (pv 5))) pa_nil)) (nomark _)) (pv 6) pe_str)))))), fun φ ds d H D0 σ hl hR hrt hnx A => ?_⟩
  obtain ⟨w', h', g, ss, mast, rows, most, C, rfl, rfl⟩ := hR
  replace A : At K φ (Same H) [some (netD g ss), some (.int mast), some (campD rows), some (.int most), none, none, none] σ H := A
  clear F L_outliers G_outliers
  have cl := C.l
  have cm0 := C.m0
  have cm1 := C.m1
  have copy : ∀ {J : Hp → Prop} {o4 o6 : Option D}, EvD K φ J (tLst (tCons (tLc (iList K (tVar 2)) (gName 5) tYes (tVar 5) [5]) tNil)) [some (netD g ss), some (.int mast), some (campD rows), some (.int most), o4, none, o6] (.lst [campD rows]) := fun {J o4 o6} => ev_lst (ea_cons (x := campD rows) ((ev_lc (k := 5) (f := fun d => d) (it_list (ds := rows.map mrowD) (ev_var (i := 2) rfl)) (by rw [List.length_map]; omega) fun d hd φ' J' hx => ev_var (i := 5) rfl).is (by rw [List.map_id']; rfl)) ea_nil)
  refine q (st_set (d := .lst [campD rows]) A copy fun σ1 H1 A1 => ?_)
  replace A1 : At K φ (Same H) [some (netD g ss), some (.int mast), some (campD rows), some (.int most), some (.lst [campD rows]), none, none] σ1 H1 := A1
  dsimp only
  refine q (st_set (d := .lst ((outL g ss mast rows most rows.length).map D.int)) A1 (ev_callX (R := ROut cS cP) (ea_cons (ev_var (i := 0) rfl) (ea_cons (ev_var (i := 1) rfl) (ea_cons (ev_var (i := 2) rfl) (ea_cons (ev_var (i := 3) rfl) ea_nil)))) ⟨w', h', g, ss, mast, rows, most, C.N, rfl, by omega, by omega, by omega, by rw [C.x]⟩) fun σ2 H2 A2 => ?_)
  replace A2 : At K φ (Same H) [some (netD g ss), some (.int mast), some (campD rows), some (.int most), some (.lst [campD rows]), none, some (.lst ((outL g ss mast rows most rows.length).map D.int))] σ2 H2 := A2
  have hk : okq 64 (.lst [campD rows]) = true := by
    show ([campD rows] : List D).all (DL.okq 63) = true
    rw [List.all_cons, List.all_nil, C.okq (n := 59)]
    rfl
  dsimp only
  refine st_ret A2 (ev_if (P := fun d => d = .lst ((outL g ss mast rows most rows.length).map D.int)) (et_test (ev_eqQ (ev_var (i := 4) rfl) copy hk hk)) (fun hb => ev_var (i := 6) rfl) fun hb => ?_) fun v d' H6 e' A6 rr => hrt v H6 A6.j (by subst e'; exact rr)
  rw [eqvD_refl hk] at hb
  cases hb
end
end

-- import HandS.TryMany
section
variable {P : Program} {w : World} {K : PySem.W.Frag} {mg : Str → Option Value} {base : Heap}
theorem scL : FnScope ["script", "pool", "numbers", "k", "kept_again", "made", "network", "mast", "campaign", "pairs", "offsets", "row", "pair", "kept_before", "name", "station", "most", "due", "middle", "wrong", "place", "word", "way"] ["script"] (defScope s_law) := ⟨rfl, rfl, rfl, by decide +kernel, rfl, by decide +kernel, by decide +kernel⟩
theorem plain_med (ns : List Int) : plain 5 (medD ns) = true := by
  unfold medD
  split <;> rfl
theorem plain_ints {ns : List Int} (h : ns.length ≤ 1000000) : plain 5 (.lst (ns.map D.int)) = true := by
  show (decide ((ns.map D.int).length ≤ 1000000) && (ns.map D.int).all (plain 4)) = true
  rw [List.length_map, decide_eq_true h, List.all_map, Bool.true_and, List.all_eq_true]
  exact fun x _ => rfl
theorem plain_pairs {ps : List (Int × Int)} (h : ps.length ≤ 1000000) : plain 5 (.lst (ps.map pairD)) = true := by
  show (decide ((ps.map pairD).length ≤ 1000000) && (ps.map pairD).all (plain 4)) = true
  rw [List.length_map, decide_eq_true h, List.all_map, Bool.true_and, List.all_eq_true]
  exact fun x _ => rfl
theorem snm_ne (k : Nat) : sName k ≠ "s9" := by
  unfold sName
  split
  · decide +kernel
  · split <;> decide +kernel
theorem CampOk.no9 {w h : Nat} {g : List (List Int)} {ss : List Sta} {mast : Int} {rows : List MRow} (C : CampOk w h g ss mast rows) : findS ss "s9" = none := find_none fun i s hi => by
  rw [C.nm i s hi]
  exact snm_ne i
theorem CampOk.s0 {w h : Nat} {g : List (List Int)} {ss : List Sta} {mast : Int} {rows : List MRow} (C : CampOk w h g ss mast rows) : ∃ s, findS ss "s0" = some s := by
  cases hs : ss with
  | nil => exact absurd hs C.ne
  | cons a r =>
    have h := C.nm 0 a (by rw [hs]; rfl)
    have f := find_of (ss := a :: r) (s := a) List.mem_cons_self
    rw [h] at f
    exact f
def wr77 (w : Nat) : Nat → MRow
  | 0 => ⟨0, 0, "s9", 0⟩
  | 1 => ⟨w, 0, "s0", 0⟩
  | _ => ⟨99, 0, "s9", 0⟩
def word77 : Nat → Str
  | 0 => "station"
  | 1 => "place"
  | _ => "station"
theorem camp_wr {w h : Nat} {g : List (List Int)} {ss : List Sta} {mast : Int} {rows tail : List MRow} {cS cP : Addr} (C : CampOk w h g ss mast rows) {k : Nat} (hk : k < 3) : (campX w h ss cS cP (rows ++ wr77 w k :: tail) = some cS ∧ D.str (word77 k) = .str "station") ∨ (campX w h ss cS cP (rows ++ wr77 w k :: tail) = some cP ∧ D.str (word77 k) = .str "place") := by
  have at_ : ∀ c, rowX w h ss cS cP (wr77 w k) = some c → campX w h ss cS cP (rows ++ wr77 w k :: tail) = some c := fun c hc => campX_at (i := rows.length) (r := wr77 w k) (fun j t hj ht => by
    rw [List.getElem?_append_left hj] at ht
    have hm := List.mem_of_getElem? ht
    exact CampOk.rowX (g := g) (mast := mast) (rows := rows) (C.r t hm).1 (C.r t hm).2) (by rw [List.getElem?_append_right (Nat.le_refl _), Nat.sub_self]; rfl) hc
  have : k = 0 ∨ k = 1 ∨ k = 2 := by omega
  rcases this with rfl | rfl | rfl
  · refine .inl ⟨at_ _ ?_, rfl⟩
    show (match findS ss "s9" with
      | none => some cS
      | some _ => _) = some cS
    rw [C.no9]
  · refine .inr ⟨at_ _ ?_, rfl⟩
    obtain ⟨s, hs⟩ := C.s0
    show (match findS ss "s0" with
      | none => some cS
      | some _ => if inPlace w h (w : Int) 0 = true then none else some cP) = some cP
    rw [hs]
    dsimp only
    rw [if_neg (by rw [inPlace_iff]; omega)]
  · refine .inl ⟨at_ _ ?_, rfl⟩
    show (match findS ss "s9" with
      | none => some cS
      | some _ => _) = some cS
    rw [C.no9]
set_option maxHeartbeats 8000000 in
theorem ok_all (B : Bi mg) (C : Cs mg) {c_NoPlace : Addr} (X_NoPlace : ExC K mg "NoPlace" c_NoPlace) {c_NoStation : Addr} (X_NoStation : ExC K mg "NoStation" c_NoStation) (XN_0 : PySem.W.exmOne K (.ref c_NoPlace) (.ref c_NoStation) = some false) {f_artanh : Addr} {fd_artanh : FuncData} (F_artanh : Fun K "artanh" "artanh" s_artanh f_artanh fd_artanh) (L_artanh : Lk K mg "artanh" f_artanh fd_artanh ["p", "q", "bits"]) {f_log_of : Addr} {fd_log_of : FuncData} (F_log_of : Fun K "log_of" "log_of" s_log_of f_log_of fd_log_of) (L_log_of : Lk K mg "log_of" f_log_of fd_log_of ["p", "q", "bits"]) {f_log_ten : Addr} {fd_log_ten : FuncData} (F_log_ten : Fun K "log_ten" "log_ten" s_log_ten f_log_ten fd_log_ten) (L_log_ten : Lk K mg "log_ten" f_log_ten fd_log_ten ["bits"]) {f_power_of_ten : Addr} {fd_power_of_ten : FuncData} (F_power_of_ten : Fun K "power_of_ten" "power_of_ten" s_power_of_ten f_power_of_ten fd_power_of_ten) (L_power_of_ten : Lk K mg "power_of_ten" f_power_of_ten fd_power_of_ten ["exponent"]) {f_is_power : Addr} {fd_is_power : FuncData} (F_is_power : Fun K "is_power" "is_power" s_is_power f_is_power fd_is_power) (L_is_power : Lk K mg "is_power" f_is_power fd_is_power ["p", "q", "level"]) {f_level_of : Addr} {fd_level_of : FuncData} (F_level_of : Fun K "level_of" "level_of" s_level_of f_level_of fd_level_of) (L_level_of : Lk K mg "level_of" f_level_of fd_level_of ["p", "q"]) {f_half_of : Addr} {fd_half_of : FuncData} (F_half_of : Fun K "half_of" "half_of" s_half_of f_half_of fd_half_of) (L_half_of : Lk K mg "half_of" f_half_of fd_half_of ["pair"]) {f_added : Addr} {fd_added : FuncData} (F_added : Fun K "added" "added" s_added f_added fd_added) (L_added : Lk K mg "added" f_added fd_added ["a", "b"]) {f_subtracted : Addr} {fd_subtracted : FuncData} (F_subtracted : Fun K "subtracted" "subtracted" s_subtracted f_subtracted fd_subtracted) (L_subtracted : Lk K mg "subtracted" f_subtracted fd_subtracted ["a", "b"]) {f_shifted : Addr} {fd_shifted : FuncData} (F_shifted : Fun K "shifted" "shifted" s_shifted f_shifted fd_shifted) (L_shifted : Lk K mg "shifted" f_shifted fd_shifted ["a", "number"]) {f_is_place : Addr} {fd_is_place : FuncData} (F_is_place : Fun K "is_place" "is_place" s_is_place f_is_place fd_is_place) (L_is_place : Lk K mg "is_place" f_is_place fd_is_place ["terrain", "place"]) {f_height_at : Addr} {fd_height_at : FuncData} (F_height_at : Fun K "height_at" "height_at" s_height_at f_height_at fd_height_at) (L_height_at : Lk K mg "height_at" f_height_at fd_height_at ["terrain", "place"]) {f_square_distance : Addr} {fd_square_distance : FuncData} (F_square_distance : Fun K "square_distance" "square_distance" s_square_distance f_square_distance fd_square_distance) (L_square_distance : Lk K mg "square_distance" f_square_distance fd_square_distance ["p", "q"]) {f_steps_between : Addr} {fd_steps_between : FuncData} (F_steps_between : Fun K "steps_between" "steps_between" s_steps_between f_steps_between fd_steps_between) (L_steps_between : Lk K mg "steps_between" f_steps_between fd_steps_between ["p", "q"]) {f_nearest : Addr} {fd_nearest : FuncData} (F_nearest : Fun K "nearest" "nearest" s_nearest f_nearest fd_nearest) (L_nearest : Lk K mg "nearest" f_nearest fd_nearest ["first", "last", "k", "n"]) {f_clearances : Addr} {fd_clearances : FuncData} (F_clearances : Fun K "clearances" "clearances" s_clearances f_clearances fd_clearances) (L_clearances : Lk K mg "clearances" f_clearances fd_clearances ["terrain", "p", "q", "a", "b"]) {f_half_of_turn : Addr} {fd_half_of_turn : FuncData} (F_half_of_turn : Fun K "half_of_turn" "half_of_turn" s_half_of_turn f_half_of_turn fd_half_of_turn) (L_half_of_turn : Lk K mg "half_of_turn" f_half_of_turn fd_half_of_turn ["dx", "dy"]) {f_is_before : Addr} {fd_is_before : FuncData} (F_is_before : Fun K "is_before" "is_before" s_is_before f_is_before fd_is_before) (L_is_before : Lk K mg "is_before" f_is_before fd_is_before ["first", "second"]) {f_gain_toward : Addr} {fd_gain_toward : FuncData} (F_gain_toward : Fun K "gain_toward" "gain_toward" s_gain_toward f_gain_toward fd_gain_toward) (L_gain_toward : Lk K mg "gain_toward" f_gain_toward fd_gain_toward ["antenna", "dx", "dy"]) {f_station_named : Addr} {fd_station_named : FuncData} (F_station_named : Fun K "station_named" "station_named" s_station_named f_station_named fd_station_named) (L_station_named : Lk K mg "station_named" f_station_named fd_station_named ["network", "name"]) {f_free_loss : Addr} {fd_free_loss : FuncData} (F_free_loss : Fun K "free_loss" "free_loss" s_free_loss f_free_loss fd_free_loss) (L_free_loss : Lk K mg "free_loss" f_free_loss fd_free_loss ["s", "f"]) {f_edge_loss : Addr} {fd_edge_loss : FuncData} (F_edge_loss : Fun K "edge_loss" "edge_loss" s_edge_loss f_edge_loss fd_edge_loss) (L_edge_loss : Lk K mg "edge_loss" f_edge_loss fd_edge_loss ["terrain", "p", "q", "a", "b", "f"]) {f_way_loss : Addr} {fd_way_loss : FuncData} (F_way_loss : Fun K "way_loss" "way_loss" s_way_loss f_way_loss fd_way_loss) (L_way_loss : Lk K mg "way_loss" f_way_loss fd_way_loss ["terrain", "p", "q", "a", "b", "f"]) {f_gain_between : Addr} {fd_gain_between : FuncData} (F_gain_between : Fun K "gain_between" "gain_between" s_gain_between f_gain_between fd_gain_between) (L_gain_between : Lk K mg "gain_between" f_gain_between fd_gain_between ["antenna", "p", "q"]) {f_received : Addr} {fd_received : FuncData} (F_received : Fun K "received" "received" s_received f_received fd_received) (L_received : Lk K mg "received" f_received fd_received ["network", "name", "place", "mast"]) {f_differences : Addr} {fd_differences : FuncData} (F_differences : Fun K "differences" "differences" s_differences f_differences fd_differences) (L_differences : Lk K mg "differences" f_differences fd_differences ["network", "mast", "campaign"]) {f_median : Addr} {fd_median : FuncData} (F_median : Fun K "median" "median" s_median f_median fd_median) (L_median : Lk K mg "median" f_median fd_median ["numbers"]) {f_offsets_of : Addr} {fd_offsets_of : FuncData} (F_offsets_of : Fun K "offsets_of" "offsets_of" s_offsets_of f_offsets_of fd_offsets_of) (L_offsets_of : Lk K mg "offsets_of" f_offsets_of fd_offsets_of ["network", "mast", "campaign"]) {f_offset_of : Addr} {fd_offset_of : FuncData} (F_offset_of : Fun K "offset_of" "offset_of" s_offset_of f_offset_of fd_offset_of) (L_offset_of : Lk K mg "offset_of" f_offset_of fd_offset_of ["network", "mast", "campaign", "name"]) {f_outliers : Addr} {fd_outliers : FuncData} (F_outliers : Fun K "outliers" "outliers" s_outliers f_outliers fd_outliers) (L_outliers : Lk K mg "outliers" f_outliers fd_outliers ["network", "mast", "campaign", "most"]) {f__law_same : Addr} {fd__law_same : FuncData} (F__law_same : Fun K "_law_same" "_law_same" s__law_same f__law_same fd__law_same) (L__law_same : Lk K mg "_law_same" f__law_same fd__law_same ["actual", "due"]) {f__law_pool : Addr} {fd__law_pool : FuncData} (F__law_pool : Fun K "_law_pool" "_law_pool" s__law_pool f__law_pool fd__law_pool) (L__law_pool : Lk K mg "_law_pool" f__law_pool fd__law_pool ["script"]) {f__law_spread : Addr} {fd__law_spread : FuncData} (F__law_spread : Fun K "_law_spread" "_law_spread" s__law_spread f__law_spread fd__law_spread) (L__law_spread : Lk K mg "_law_spread" f__law_spread fd__law_spread ["cell"]) {f__law_draw : Addr} {fd__law_draw : FuncData} (F__law_draw : Fun K "_law_draw" "_law_draw" s__law_draw f__law_draw fd__law_draw) (L__law_draw : Lk K mg "_law_draw" f__law_draw fd__law_draw ["pool", "many"]) {f__law_terrain : Addr} {fd__law_terrain : FuncData} (F__law_terrain : Fun K "_law_terrain" "_law_terrain" s__law_terrain f__law_terrain fd__law_terrain) (L__law_terrain : Lk K mg "_law_terrain" f__law_terrain fd__law_terrain ["pool", "width", "height"]) {f__law_antenna : Addr} {fd__law_antenna : FuncData} (F__law_antenna : Fun K "_law_antenna" "_law_antenna" s__law_antenna f__law_antenna fd__law_antenna) (L__law_antenna : Lk K mg "_law_antenna" f__law_antenna fd__law_antenna ["pool"]) {f__law_station : Addr} {fd__law_station : FuncData} (F__law_station : Fun K "_law_station" "_law_station" s__law_station f__law_station fd__law_station) (L__law_station : Lk K mg "_law_station" f__law_station fd__law_station ["pool", "k", "width", "height"]) {f__law_spot : Addr} {fd__law_spot : FuncData} (F__law_spot : Fun K "_law_spot" "_law_spot" s__law_spot f__law_spot fd__law_spot) (L__law_spot : Lk K mg "_law_spot" f__law_spot fd__law_spot ["pool", "terrain"]) {f__law_middle : Addr} {fd__law_middle : FuncData} (F__law_middle : Fun K "_law_middle" "_law_middle" s__law_middle f__law_middle fd__law_middle) (L__law_middle : Lk K mg "_law_middle" f__law_middle fd__law_middle ["numbers"]) {f__law_campaign : Addr} {fd__law_campaign : FuncData} (F__law_campaign : Fun K "_law_campaign" "_law_campaign" s__law_campaign f__law_campaign fd__law_campaign) (L__law_campaign : Lk K mg "_law_campaign" f__law_campaign fd__law_campaign ["pool"]) {f__law_word : Addr} {fd__law_word : FuncData} (F__law_word : Fun K "_law_word" "_law_word" s__law_word f__law_word fd__law_word) (L__law_word : Lk K mg "_law_word" f__law_word fd__law_word ["network", "campaign", "way"]) {f__law_members : Addr} {fd__law_members : FuncData} (F__law_members : Fun K "_law_members" "_law_members" s__law_members f__law_members fd__law_members) (L__law_members : Lk K mg "_law_members" f__law_members fd__law_members ["value"]) {f__law_own_outliers : Addr} {fd__law_own_outliers : FuncData} (F__law_own_outliers : Fun K "_law_own_outliers" "_law_own_outliers" s__law_own_outliers f__law_own_outliers fd__law_own_outliers) (L__law_own_outliers : Lk K mg "_law_own_outliers" f__law_own_outliers fd__law_own_outliers ["network", "mast", "campaign", "most"]) {f_law : Addr} {fd_law : FuncData} (F_law : Fun K "law" "law" s_law f_law fd_law) (L_law : Lk K mg "law" f_law fd_law ["script"]) : FnOk P w K mg base CX0 12 f_law fd_law ["script"] (spLaw K) := by
  have G_artanh : FnOk P w K mg base CX0 1 _ _ _ _ := ok_artanh B F_artanh
  have G_log_of : FnOk P w K mg base CX0 2 _ _ _ _ := ok_log_of B F_log_of L_artanh G_artanh
  have G_log_ten : FnOk P w K mg base CX0 3 _ _ _ _ := ok_log_ten B F_log_ten L_log_of G_log_of
  have G_power_of_ten : FnOk P w K mg base CX0 1 _ _ _ _ := ok_power_of_ten B F_power_of_ten
  have G_is_power : FnOk P w K mg base CX0 2 _ _ _ _ := ok_is_power B F_is_power L_power_of_ten G_power_of_ten
  have G_level_of0 : FnOk P w K mg base CX0 4 _ _ _ _ := ok_level_of B C F_level_of L_log_of G_log_of L_log_ten G_log_ten L_is_power G_is_power
  have G_level_of : FnOk P w K mg base CX0 4 _ _ _ _ := lvl_told G_level_of0
  have G_half_of : FnOk P w K mg base CX0 1 _ _ _ _ := ok_half_of B F_half_of
  have G_shifted : FnOk P w K mg base CX0 1 _ _ _ _ := ok_shifted B F_shifted
  have G_square_distance : FnOk P w K mg base CX0 1 _ _ _ _ := ok_square_distance B C F_square_distance
  have G_free_loss : FnOk P w K mg base CX0 5 _ _ _ _ := ok_free_loss B C F_free_loss L_level_of G_level_of L_shifted G_shifted
  have G_is_place : FnOk P w K mg base CX0 1 _ _ _ _ := ok_is_place B F_is_place
  have G_height_at : FnOk P w K mg base (L2.CX P w) 2 _ _ _ _ := ok_height_at B X_NoPlace F_height_at L_is_place G_is_place
  have G_steps_between : FnOk P w K mg base CX0 1 _ _ _ _ := ok_steps_between B F_steps_between
  have G_nearest : FnOk P w K mg base CX0 1 _ _ _ _ := ok_nearest B F_nearest
  have G_clearances : FnOk P w K mg base (L2.CX P w) 3 _ _ _ _ := ok_clearances B X_NoPlace F_clearances L_height_at G_height_at L_steps_between G_steps_between L_nearest G_nearest
  have G_edge_loss : FnOk P w K mg base (L2.CX P w) 5 _ _ _ _ := ok_edge_loss B C F_edge_loss L_clearances G_clearances L_level_of G_level_of L_shifted G_shifted L_half_of G_half_of L_square_distance G_square_distance
  have G_half_of_turn : FnOk P w K mg base CX0 1 _ _ _ _ := ok_half_of_turn B F_half_of_turn
  have G_is_before : FnOk P w K mg base CX0 2 _ _ _ _ := ok_is_before B F_is_before L_half_of_turn G_half_of_turn
  have G_gain_toward : FnOk P w K mg base CX0 3 _ _ _ _ := ok_gain_toward B F_gain_toward L_is_before G_is_before
  have G_gain_between : FnOk P w K mg base CX0 4 _ _ _ _ := ok_gain_between B F_gain_between L_gain_toward G_gain_toward
  have G_station_named : FnOk P w K mg base (L2.CX P w) 1 _ _ _ _ := ok_station_named B X_NoStation F_station_named
  have G_added : FnOk P w K mg base CX0 1 _ _ _ _ := ok_added B F_added
  have G_subtracted : FnOk P w K mg base CX0 1 _ _ _ _ := ok_subtracted B F_subtracted
  have G_way_loss : FnOk P w K mg base (L2.CX P w) 6 _ _ _ _ := ok_way_loss B F_way_loss L_edge_loss G_edge_loss L_free_loss G_free_loss L_added G_added L_square_distance G_square_distance
  have G_received : FnOk P w K mg base (L2.CX P w) 7 _ _ _ _ := ok_received B F_received L_station_named G_station_named L_height_at G_height_at L_gain_between G_gain_between L_subtracted G_subtracted L_way_loss G_way_loss
  have G_differences : FnOk P w K mg base (L2.CX P w) 8 _ _ _ _ := ok_differences B F_differences L_received G_received L_subtracted G_subtracted
  have G_median : FnOk P w K mg base CX0 1 _ _ _ _ := ok_median B F_median
  have G_offsets_of : FnOk P w K mg base (L2.CX P w) 9 _ _ _ _ := ok_offsets_of B F_offsets_of L_differences G_differences L_median G_median
  have G_offset_of : FnOk P w K mg base (L2.CX P w) 10 _ _ _ _ := ok_offset_of B F_offset_of L_offsets_of G_offsets_of
  have G_outliers : FnOk P w K mg base (L2.CX P w) 10 _ _ _ _ := ok_outliers B F_outliers L_offsets_of G_offsets_of L_differences G_differences
  have G__law_same : FnOk P w K mg base CX0 5 _ _ _ _ := ok__law_same B F__law_same L__law_same 5
  have G__law_pool : FnOk P w K mg base CX0 1 _ _ _ _ := ok__law_pool B F__law_pool
  have G__law_spread : FnOk P w K mg base CX0 1 _ _ _ _ := ok__law_spread B F__law_spread
  have G__law_draw : FnOk P w K mg base CX0 2 _ _ _ _ := ok__law_draw B F__law_draw L__law_spread G__law_spread
  have G__law_members : FnOk P w K mg base CX0 1 _ _ _ _ := ok__law_members B F__law_members
  have G__law_terrain : FnOk P w K mg base CX0 3 _ _ _ _ := ok__law_terrain B F__law_terrain L__law_draw G__law_draw
  have G__law_spot : FnOk P w K mg base CX0 3 _ _ _ _ := ok__law_spot B F__law_spot L__law_draw G__law_draw
  have G__law_antenna : FnOk P w K mg base CX0 3 _ _ _ _ := ok__law_antenna B F__law_antenna L__law_draw G__law_draw
  have G__law_station : FnOk P w K mg base CX0 4 _ _ _ _ := ok__law_station B F__law_station L__law_draw G__law_draw L__law_antenna G__law_antenna
  have G__law_middle : FnOk P w K mg base CX0 1 _ _ _ _ := ok__law_middle B F__law_middle
  have G__law_campaign : FnOk P w K mg base CX0 8 _ _ _ _ := ok__law_campaign B F__law_campaign L__law_draw G__law_draw L__law_terrain G__law_terrain L__law_station G__law_station L__law_spot G__law_spot L_received G_received
  have G__law_word : FnOk P w K mg base CX0 11 _ _ _ _ := ok__law_word B X_NoStation X_NoPlace XN_0 F__law_word L_differences G_differences L_offset_of G_offset_of L_outliers G_outliers
  have G__law_own_outliers : FnOk P w K mg base CX0 11 _ _ _ _ := ok__law_own_outliers B F__law_own_outliers L_outliers G_outliers
  have S := scL
  refine F_law.ok S (fun vs H Q E h => ?_) (fun cdv A outer s H vs Q E hr h => ?_)
  · obtain ⟨a, ns, rfl, _⟩ := h
    rfl
  obtain ⟨a, ns, rfl, hS, hlen, kq⟩ := h
  refine ⟨_, ((pss_cons (ps_set (i := 1) S.nd rfl (by first | exact Or.inl rfl | exact Or.inr rfl) (pe_call G__law_pool (hr.mono (by first | exact Nat.le_refl _ | decide | omega)) (by rfl) L__law_pool.m L__law_pool.kp L__law_pool.bi .nil pass0 (pa_cons (pv 0) pa_nil)))
 (pss_cons (ps_setLc (i := 2) (own := [("k", 3)]) (g := (gName 3)) (tt := tYes) (by rfl) S.nd rfl rfl (sw_true rfl rfl rfl (by decide +kernel)) (pi_range1 (by rfl) B.range (pa_cons (pe_call G__law_draw (hr.mono (by first | exact Nat.le_refl _ | decide | omega)) (by rfl) L__law_draw.m L__law_draw.kp L__law_draw.bi .nil pass0 (pa_cons (pv 1) (pa_cons pe_int pa_nil))) pa_nil)) (blkOk_by (N := ["script", "pool", "numbers", "k", "kept_again", "made", "network", "mast", "campaign", "pairs", "offsets", "row", "pair", "kept_before", "name", "station", "most", "due", "middle", "wrong", "place", "word", "way"]) (sc := defScope s_law) (own := [("k", 3)]) (by decide +kernel)) (fun _ _ _ _ _ => (pg_name (i := 3) S.nd rfl (by first | exact Or.inl rfl | exact Or.inr rfl))) (fun _ _ _ _ _ => pts_nil) (fun _ _ _ _ _ => (pe_op op_sub (pe_call G__law_draw (hr.mono (by first | exact Nat.le_refl _ | decide | omega)) (by rfl) L__law_draw.m L__law_draw.kp L__law_draw.bi .nil pass0 (pa_cons (pv 1) (pa_cons pe_int pa_nil))) pe_int)))
 (pss_cons (ps_set (i := 4) S.nd rfl (by first | exact Or.inl rfl | exact Or.inr rfl) (pe_call G__law_members (hr.mono (by first | exact Nat.le_refl _ | decide | omega)) (by rfl) L__law_members.m L__law_members.kp L__law_members.bi .nil pass0 (pa_cons (pv 2) pa_nil)))
 (pss_cons (ps_if (pt_not (pt_val (pe_call G__law_same (hr.mono (by first | exact Nat.le_refl _ | decide | omega)) (by rfl) L__law_same.m L__law_same.kp L__law_same.bi .nil pass0 (pa_cons (pe_call G_median (hr.mono (by first | exact Nat.le_refl _ | decide | omega)) (by rfl) L_median.m L_median.kp L_median.bi .nil pass0 (pa_cons (pv 2) pa_nil)) (pa_cons (pe_call G__law_middle (hr.mono (by first | exact Nat.le_refl _ | decide | omega)) (by rfl) L__law_middle.m L__law_middle.kp L__law_middle.bi .nil pass0 (pa_cons (pv 2) pa_nil)) pa_nil)))))
 (pss_one (ps_ret pe_bl))
 pss_nil)
 (pss_cons (ps_if (pt_cmpR (op_neD hr.units) (pe_call G__law_members (hr.mono (by first | exact Nat.le_refl _ | decide | omega)) (by rfl) L__law_members.m L__law_members.kp L__law_members.bi .nil pass0 (pa_cons (pv 2) pa_nil)) (pv 4) (nomark _))
 (pss_one (ps_ret pe_bl))
 pss_nil)
 (pss_cons (ps_set (i := 5) S.nd rfl (by first | exact Or.inl rfl | exact Or.inr rfl) (pe_call G__law_campaign (hr.mono (by first | exact Nat.le_refl _ | decide | omega)) (by rfl) L__law_campaign.m L__law_campaign.kp L__law_campaign.bi .nil pass0 (pa_cons (pv 1) pa_nil)))
 (pss_cons (ps_set (i := 6) S.nd rfl (by first | exact Or.inl rfl | exact Or.inr rfl) (pe_ix ix_list (pv 5) pe_int (fun _ _ => rfl)))
 (pss_cons (ps_set (i := 7) S.nd rfl (by first | exact Or.inl rfl | exact Or.inr rfl) (pe_ix ix_list (pv 5) pe_int (fun _ _ => rfl)))
 (pss_cons (ps_set (i := 8) S.nd rfl (by first | exact Or.inl rfl | exact Or.inr rfl) (pe_ix ix_list (pv 5) pe_int (fun _ _ => rfl)))
 (pss_cons (ps_set (i := 9) S.nd rfl (by first | exact Or.inl rfl | exact Or.inr rfl) (pe_lst pa_nil))
 (pss_cons (ps_set (i := 10) S.nd rfl (by first | exact Or.inl rfl | exact Or.inr rfl) pe_dnewK)
 (pss_cons (ps_for PassesOwn.never rfl (pi_list (pv 8)) (pg_name (i := 11) S.nd rfl (by first | exact Or.inl rfl | exact Or.inr rfl))
 (pss_cons (ps_set (i := 12) S.nd rfl (by first | exact Or.inl rfl | exact Or.inr rfl) (pe_callS G_received (hr.mono (by first | exact Nat.le_refl _ | decide | omega)) (by rfl) L_received.m L_received.kp L_received.bi (fun σ => passAt takes0 σ) (pa_cons (pv 6) (pa_cons (pe_ix ix_tup (pv 11) pe_int (fun _ _ => rfl)) (pa_cons (pe_ix ix_tup (pv 11) pe_int (fun _ _ => rfl)) (pa_cons (pv 7) pa_nil))))))
 (pss_cons (ps_expr (pe_bm PySem.F.plainAttrs_list PySem.F.slot_list_append PySem.F.type_list_append mt_append (pv 9) (pa_cons (pe_tup (pa_cons (pe_op op_sub (pe_ix ix_tup (pv 11) pe_int (fun _ _ => rfl)) (pe_ix ix_tup (pv 12) pe_int (fun _ _ => rfl))) (pa_cons (pe_op op_sub (pe_ix ix_tup (pv 11) pe_int (fun _ _ => rfl)) (pe_ix ix_tup (pv 12) pe_int (fun _ _ => rfl))) pa_nil))) pa_nil)))
 (pss_one (ps_dput hr.units1 (pv 10) (pe_ix ix_tup (pv 11) pe_int (fun _ _ => rfl)) (pe_op op_catL (pe_dget2 hr.units1 (pv 10) (pe_ix ix_tup (pv 11) pe_int (fun _ _ => rfl)) (pe_lst pa_nil) ⟨rfl, rfl, rfl, rfl⟩) (pe_lst (pa_cons (pe_ix ix_tup (pe_ix ix_list (pv 9) (pe_un un_neg pe_int) (fun _ _ => rfl)) pe_int (fun _ _ => rfl)) pa_nil))) rfl)))))
 (pss_cons (ps_set (i := 13) S.nd rfl (by first | exact Or.inl rfl | exact Or.inr rfl) (pe_call G__law_members (hr.mono (by first | exact Nat.le_refl _ | decide | omega)) (by rfl) L__law_members.m L__law_members.kp L__law_members.bi .nil pass0 (pa_cons (pv 8) pa_nil)))
 (pss_cons (ps_if (pt_not (pt_val (pe_call G__law_same (hr.mono (by first | exact Nat.le_refl _ | decide | omega)) (by rfl) L__law_same.m L__law_same.kp L__law_same.bi .nil pass0 (pa_cons (pe_callS G_differences (hr.mono (by first | exact Nat.le_refl _ | decide | omega)) (by rfl) L_differences.m L_differences.kp L_differences.bi (fun σ => passAt takes0 σ) (pa_cons (pv 6) (pa_cons (pv 7) (pa_cons (pv 8) pa_nil)))) (pa_cons (pv 9) pa_nil)))))
 (pss_one (ps_ret pe_bl))
 pss_nil)
 (pss_cons (ps_if (pt_cmpR (op_neD hr.units) (pe_call G__law_members (hr.mono (by first | exact Nat.le_refl _ | decide | omega)) (by rfl) L__law_members.m L__law_members.kp L__law_members.bi .nil pass0 (pa_cons (pv 8) pa_nil)) (pv 13) (nomark _))
 (pss_one (ps_ret pe_bl))
 pss_nil)
 (pss_cons (ps_for PassesOwn.never rfl (pi_list (pe_lc (own := [("station", 15)]) (g := (gName 15)) (tt := tYes) (by rfl) S.nd (pi_tup (pe_ix ix_tup (pv 6) pe_int (fun _ _ => rfl))) (blkOk_by (N := ["script", "pool", "numbers", "k", "kept_again", "made", "network", "mast", "campaign", "pairs", "offsets", "row", "pair", "kept_before", "name", "station", "most", "due", "middle", "wrong", "place", "word", "way"]) (sc := defScope s_law) (own := [("station", 15)]) (by decide +kernel)) (fun _ _ _ _ _ => (pg_name (i := 15) S.nd rfl (by first | exact Or.inl rfl | exact Or.inr rfl))) (fun _ _ _ _ _ => pts_nil) (fun _ _ _ _ _ => (pe_ix (kix_tup (K := K) (by rfl)) (pv 15) pe_int (fun _ _ => rfl))))) (pg_name (i := 14) S.nd rfl (by first | exact Or.inl rfl | exact Or.inr rfl))
 (pss_one (ps_if (pt_not (pt_val (pe_call G__law_same (hr.mono (by first | exact Nat.le_refl _ | decide | omega)) (by rfl) L__law_same.m L__law_same.kp L__law_same.bi .nil pass0 (pa_cons (pe_callS G_offset_of (hr.mono (by first | exact Nat.le_refl _ | decide | omega)) (by rfl) L_offset_of.m L_offset_of.kp L_offset_of.bi (fun σ => passAt takes0 σ) (pa_cons (pv 6) (pa_cons (pv 7) (pa_cons (pe_callTy c_listOf (by rfl) B.list (by decide +kernel) (pa_cons (pv 8) pa_nil)) (pa_cons (pv 14) pa_nil))))) (pa_cons (pe_call G__law_middle (hr.mono (by first | exact Nat.le_refl _ | decide | omega)) (by rfl) L__law_middle.m L__law_middle.kp L__law_middle.bi .nil pass0 (pa_cons (pe_dget2 hr.units1 (pv 10) (pv 14) (pe_lst pa_nil) ⟨rfl, rfl, rfl, rfl⟩) pa_nil)) pa_nil)))))
 (pss_one (ps_ret pe_bl))
 pss_nil)))
 (pss_cons (ps_set (i := 16) S.nd rfl (by first | exact Or.inl rfl | exact Or.inr rfl) (pe_op op_mul (pe_call G__law_draw (hr.mono (by first | exact Nat.le_refl _ | decide | omega)) (by rfl) L__law_draw.m L__law_draw.kp L__law_draw.bi .nil pass0 (pa_cons (pv 1) (pa_cons pe_int pa_nil))) (pe_call G__law_draw (hr.mono (by first | exact Nat.le_refl _ | decide | omega)) (by rfl) L__law_draw.m L__law_draw.kp L__law_draw.bi .nil pass0 (pa_cons (pv 1) (pa_cons pe_int pa_nil)))))
 (pss_cons (ps_set (i := 17) S.nd rfl (by first | exact Or.inl rfl | exact Or.inr rfl) (pe_lst pa_nil))
 (pss_cons (ps_for PassesOwn.never rfl (pi_range1 (by rfl) B.range (pa_cons (pe_callB c_len (by rfl) B.len (by decide +kernel) (pa_cons (pv 8) pa_nil)) pa_nil)) (pg_name (i := 3) S.nd rfl (by first | exact Or.inl rfl | exact Or.inr rfl))
 (pss_cons (ps_set (i := 18) S.nd rfl (by first | exact Or.inl rfl | exact Or.inr rfl) (pe_call G__law_middle (hr.mono (by first | exact Nat.le_refl _ | decide | omega)) (by rfl) L__law_middle.m L__law_middle.kp L__law_middle.bi .nil pass0 (pa_cons (pe_dget hr.units1 (pv 10) (pe_ix ix_tup (pe_ix ix_list (pv 8) (pv 3) (fun _ _ => rfl)) pe_int (fun _ _ => rfl)) (fun _ _ => rfl)) pa_nil)))
 (pss_one (ps_if (PW.pt (pw_or (pt_cmpR op_gt (pe_ix ix_tup (pe_ix ix_list (pv 9) (pv 3) (fun _ _ => rfl)) pe_int (fun _ _ => rfl)) (pe_op op_add (pv 18) (pv 16)) (nomark _)) (pw_or1 (pt_cmpR op_lt (pe_ix ix_tup (pe_ix ix_list (pv 9) (pv 3) (fun _ _ => rfl)) pe_int (fun _ _ => rfl)) (pe_op op_sub (pv 18) (pv 16)) (nomark _)))))
 (pss_one (ps_expr (pe_bm PySem.F.plainAttrs_list PySem.F.slot_list_append PySem.F.type_list_append mt_append (pv 17) (pa_cons (pv 3) pa_nil))))
 pss_nil))))
 (pss_cons (ps_if (pt_not (pt_val (pe_call G__law_same (hr.mono (by first | exact Nat.le_refl _ | decide | omega)) (by rfl) L__law_same.m L__law_same.kp L__law_same.bi .nil pass0 (pa_cons (pe_call G__law_own_outliers (hr.mono (by first | exact Nat.le_refl _ | decide | omega)) (by rfl) L__law_own_outliers.m L__law_own_outliers.kp L__law_own_outliers.bi .nil pass0 (pa_cons (pv 6) (pa_cons (pv 7) (pa_cons (pe_callTy c_listOf (by rfl) B.list (by decide +kernel) (pa_cons (pv 8) pa_nil)) (pa_cons (pv 16) pa_nil))))) (pa_cons (pv 17) pa_nil)))))
 (pss_one (ps_ret pe_bl))
 pss_nil)
 (pss_cons (ps_set (i := 19) S.nd rfl (by first | exact Or.inl rfl | exact Or.inr rfl) (pe_lst (pa_cons (pe_tup (pa_cons (pe_tup (pa_cons pe_int (pa_cons pe_int pa_nil))) (pa_cons pe_str (pa_cons pe_int pa_nil)))) (pa_cons (pe_tup (pa_cons (pe_tup (pa_cons (pe_callB c_len (by rfl) B.len (by decide +kernel) (pa_cons (pe_ix ix_tup (pe_ix ix_tup (pv 6) pe_int (fun _ _ => rfl)) pe_int (fun _ _ => rfl)) pa_nil)) (pa_cons pe_int pa_nil))) (pa_cons pe_str (pa_cons pe_int pa_nil)))) (pa_cons (pe_tup (pa_cons (pe_tup (pa_cons pe_int (pa_cons pe_int pa_nil))) (pa_cons pe_str (pa_cons pe_int pa_nil)))) pa_nil)))))
 (pss_cons (ps_set (i := 20) S.nd rfl (by first | exact Or.inl rfl | exact Or.inr rfl) (pe_call G__law_draw (hr.mono (by first | exact Nat.le_refl _ | decide | omega)) (by rfl) L__law_draw.m L__law_draw.kp L__law_draw.bi .nil pass0 (pa_cons (pv 1) (pa_cons pe_int pa_nil))))
 (pss_cons (ps_set (i := 21) S.nd rfl (by first | exact Or.inl rfl | exact Or.inr rfl) (pe_ix ix_tup (pe_tup (pa_cons pe_str (pa_cons pe_str (pa_cons pe_str pa_nil)))) (pv 20) (fun _ _ => rfl)))
 (pss_cons (ps_for PassesOwn.never rfl (pi_range1 (by rfl) B.range (pa_cons pe_int pa_nil)) (pg_name (i := 22) S.nd rfl (by first | exact Or.inl rfl | exact Or.inr rfl))
 (pss_one (ps_if (pt_cmpR op_ne (pe_call G__law_word (hr.mono (by first | exact Nat.le_refl _ | decide | omega)) (by rfl) L__law_word.m L__law_word.kp L__law_word.bi .nil pass0 (pa_cons (pv 6) (pa_cons (pe_op op_catL (pe_callTy c_listOf (by rfl) B.list (by decide +kernel) (pa_cons (pv 8) pa_nil)) (pe_lst (pa_cons (pe_ix ix_list (pv 19) (pv 20) (fun _ _ => rfl)) (pa_cons (pe_ix ix_list (pv 19) pe_int (fun _ _ => rfl)) (pa_cons (pe_ix ix_list (pv 19) pe_int (fun _ _ => rfl)) pa_nil))))) (pa_cons (pv 22) pa_nil)))) (pv 21) (nomark _))
 (pss_one (ps_ret pe_bl))
 pss_nil)))
 (pss_one (ps_ret pe_bl))))))))))))))))))))))))))), ?_⟩
  clear G_artanh G_log_of G_log_ten G_power_of_ten G_is_power G_level_of0 G_level_of G_half_of G_shifted G_square_distance G_free_loss G_is_place G_height_at G_steps_between G_nearest G_clearances G_edge_loss G_half_of_turn G_is_before G_gain_toward G_gain_between G_station_named G_added G_subtracted G_way_loss G_received G_differences G_median G_offsets_of G_offset_of G_outliers G__law_same G__law_pool G__law_spread G__law_draw G__law_members G__law_terrain G__law_spot G__law_antenna G__law_station G__law_middle G__law_campaign G__law_word G__law_own_outliers
  refine q (st_pool (n := 23) hS hlen rfl rfl (by decide) fun p s σ1 H1 hne A1 => ?_)
  replace A1 : At K (fun b => b ≠ p) (PoolOk p s ns) [none, some (.raw (.ref p)), none, none, none, none, none, none, none, none, none, none, none, none, none, none, none, none, none, none, none, none, none] σ1 H1 := A1
  have hP : Pooled (fun b => b ≠ p) (PoolOk p s ns) p s ns := pooled (fun z => z rfl) hne
  dsimp only
  refine q (st_asg (P := fun d => ∃ xs : List Int, d = .lst (xs.map D.int) ∧ xs.length ≤ 7) A1 ((ev_lcE (k := 3) (pe := fun d y => ∃ i : Int, y = .int i) (it_range1P (p := fun n => 0 ≤ n ∧ n < 8) (ea_i (ev_draw hP rfl ev_int (by decide) (by decide))) (fun n h => by omega)) ?_ ?_).imp ?_) fun d σ2 H2 hd A2 => ?_)
  · rintro ds ⟨n, hn, rfl⟩
    rw [rangeD_length]
    omega
  · rintro ds ⟨n, hn, rfl⟩ d hd φ' J' x
    exact (ei_sub (ev_draw (x.pool _ _ _ hP) rfl ev_int (by decide) (by decide)) (ev_i ev_int)).imp fun d ⟨i, e, _⟩ => ⟨i, e⟩
  · rintro z ⟨ds, ys, ⟨n, hn, rfl⟩, rfl, c⟩
    obtain ⟨xs, e, _⟩ := all_map77 (f := D.int) (P := fun _ => True) (ys := ys) fun y hy => by
      obtain ⟨d, _, i, e⟩ := each77 c y hy
      exact ⟨i, e, trivial⟩
    refine ⟨xs, by rw [e], ?_⟩
    have h1 := (comp_at c).1
    rw [rangeD_length, e, List.length_map] at h1
    omega
  obtain ⟨xs, rfl, xl⟩ := hd
  replace A2 : At K (fun b => b ≠ p) (PoolOk p s ns) [none, some (.raw (.ref p)), some (.lst (xs.map D.int)), none, none, none, none, none, none, none, none, none, none, none, none, none, none, none, none, none, none, none, none] σ2 H2 := A2
  have mem : ∀ {J : Hp → Prop} {ρ : List (Option D)} {E : XK} {i : Nat} {ds : List D}, ρ[i]? = some (some (.lst ds)) → ds.length ≤ 1000000 → EvD K (fun b => b ≠ p) J (tCall (SpD K 1 RMem) [] E (tCons (tVar i) tNil)) ρ (.lst ds) := fun h hl => ev_callD (ea_cons (ev_var h) ea_nil) ⟨_, rfl, rfl, hl, rfl⟩
  dsimp only
  refine q (st_set (d := .lst (xs.map D.int)) A2 (mem rfl (by rw [List.length_map]; omega)) fun σ3 H3 A3 => ?_)
  replace A3 : At K (fun b => b ≠ p) (PoolOk p s ns) [none, some (.raw (.ref p)), some (.lst (xs.map D.int)), none, some (.lst (xs.map D.int)), none, none, none, none, none, none, none, none, none, none, none, none, none, none, none, none, none, none] σ3 H3 := A3
  dsimp only
  refine q (st_no A3 (et_not (et_B (ev_callD (ea_cons (ev_callD (d := medD xs) (ea_cons (ev_var (i := 2) rfl) ea_nil) ⟨xs, rfl, by omega, rfl⟩) (ea_cons (ev_callD (d := medD xs) (ea_cons (ev_var (i := 2) rfl) ea_nil) ⟨xs, rfl, by omega, rfl⟩) ea_nil)) ⟨_, rfl, plain_med xs, rfl⟩))) rfl fun H4 A4 => st_next ?_)
  refine q (st_no A4 (et_test (ev_neQ (mem (i := 2) rfl (by rw [List.length_map]; omega)) (ev_var (i := 4) rfl) okq_ints okq_ints)) (by rw [eqvD_refl (n := 64) okq_ints]; rfl) fun H5 A5 => st_next ?_)
  refine q (st_asg A5 (ev_callP (Pr := fun ds => ds = []) hP rfl ea_nil (fun ds e => ⟨by rw [e]; rfl, trivial⟩)) fun d σ6 H6 hd A6 => ?_)
  obtain ⟨_, _, w', h', g, ss, mast, rows, CO, rfl⟩ := hd
  replace A6 : At K (fun b => b ≠ p) (PoolOk p s ns) [none, some (.raw (.ref p)), some (.lst (xs.map D.int)), none, some (.lst (xs.map D.int)), some (.lst [netD g ss, .int mast, campD rows]), none, none, none, none, none, none, none, none, none, none, none, none, none, none, none, none, none] σ6 H6 := A6
  dsimp only
  refine q (st_set (d := netD g ss) A6 (ev_ixL (ds := [netD g ss, .int mast, campD rows]) (ev_var (i := 5) rfl) ev_int rfl) fun σ7 H7 A7 => ?_)
  dsimp only
  refine q (st_set (d := .int mast) A7 (ev_ixL (ds := [netD g ss, .int mast, campD rows]) (ev_var (i := 5) rfl) ev_int rfl) fun σ8 H8 A8 => ?_)
  dsimp only
  refine q (st_set (d := campD rows) A8 (ev_ixL (ds := [netD g ss, .int mast, campD rows]) (ev_var (i := 5) rfl) ev_int rfl) fun σ9 H9 A9 => ?_)
  replace A9 : At K (fun b => b ≠ p) (PoolOk p s ns) [none, some (.raw (.ref p)), some (.lst (xs.map D.int)), none, some (.lst (xs.map D.int)), some (.lst [netD g ss, .int mast, campD rows]), some (netD g ss), some (.int mast), some (campD rows), none, none, none, none, none, none, none, none, none, none, none, none, none, none] σ9 H9 := A9
  have A9 : At K (fun b => b ≠ p) (PoolOk p s ns) [none, some (.raw (.ref p)), none, none, none, none, some (netD g ss), some (.int mast), some (campD rows), none, none, none, none, none, none, none, none, none, none, none, none, none, none] σ9 H9 := A9.le (by repeat' (first | exact Le.nil | refine Le.drop ?_ | refine Le.keep ?_))
  clear A1 A2 A3 A4 A5 A6 A7 A8
  have cl := CO.l
  have cm0 := CO.m0
  have cm1 := CO.m1
  generalize hprs : prsR g ss mast rows = prs
  have hpl : prs.length = rows.length := by rw [← hprs]; unfold prsR; rw [List.length_map]
  dsimp only
  refine q (st_newS A9 (en_ofN (en_lstD ea_nil)) fun l1 ds1 C1 J1 σ10 H10 hC N1 L1 A10 => ?_)
  obtain ⟨e, rfl⟩ := hC
  subst e
  have hP1 : Pooled (wo (fun b => b ≠ p) l1) J1 p s ns := N1.ext.pool _ _ _ hP
  obtain ⟨pl1, sl1⟩ := N1.pl _ _ _ hP
  replace A10 : At K (wo (fun b => b ≠ p) l1) J1 [none, some (.raw (.ref p)), none, none, none, none, some (netD g ss), some (.int mast), some (campD rows), some (.raw (.ref l1)), none, none, none, none, none, none, none, none, none, none, none, none, none] σ10 H10 := A10
  dsimp only
  refine q (st_newS A10 en_dnewK fun l2 ds2 C2 J2 σ11 H11 hC N2 L2' A11 => ?_)
  obtain ⟨rfl, rfl⟩ := hC
  have L2' : LivDS K (wo (wo (fun b => b ≠ p) l1) l2) J2 l2 (offF []) := L2'
  have hP2 : Pooled (wo (wo (fun b => b ≠ p) l1) l2) J2 p s ns := N2.ext.pool _ _ _ hP1
  obtain ⟨pl2, sl2⟩ := N2.pl _ _ _ hP1
  obtain ⟨l12, L1'⟩ := N2.liv _ _ _ L1
  generalize hφ : wo (wo (fun b => b ≠ p) l1) l2 = φ2 at *
  let ρ0 : Option D → Option D → List (Option D) := fun o11 o12 => [none, some (.raw (.ref p)), none, none, none, none, some (netD g ss), some (.int mast), some (campD rows), some (.raw (.ref l1)), some (.raw (.ref l2)), o11, o12, none, none, none, none, none, none, none, none, none, none]
  replace A11 : At K φ2 J2 (ρ0 none none) σ11 H11 := A11
  dsimp only
  refine q (st_for A11 (it_list (ds := rows.map mrowD) (ev_var (i := 8) rfl)) (fun i ρ' J' => ∃ o11 o12, LivS K φ2 J' l1 HO.lst ((rows.take i).map fun r => pairD (difP g ss mast r)) ∧ LivDS K φ2 J' l2 (offF (prs.take i)) ∧ Pooled φ2 J' p s ns ∧ ρ' = ρ0 o11 o12) ⟨none, none, L1', L2', hP2, rfl⟩ ?_ ?_)
  · rintro H12 i x ρ' J' b12 j12 hx ⟨o11, o12, M1, M2, hP3, rfl⟩ σ' H' A12
    rw [List.getElem?_map] at hx
    obtain ⟨r, hr, rfl⟩ := Option.map_eq_some_iff.mp hx
    have hi : i < rows.length := (List.getElem?_eq_some_iff.mp hr).1
    have hrm := List.mem_of_getElem? hr
    have hpi : prs[i]? = some (r.nm, (difP g ss mast r).1) := by rw [← hprs]; unfold prsR; rw [List.getElem?_map, hr]; rfl
    have hrow := recv_row (cS := c_NoStation) (cP := c_NoPlace) (r := r) CO.N (show 0 ≤ mast by omega) (show mast ≤ 1000 by omega)
    rw [CampOk.rowX (g := g) (mast := mast) (rows := rows) (CO.r r hrm).1 (CO.r r hrm).2] at hrow
    replace A12 : At K φ2 (fun H => J' H ∧ But φ2 H12 H) (ρ0 (some (mrowD r)) o12) σ' H' := A12
    have hP4 : Pooled φ2 (fun H => J' H ∧ But φ2 H12 H) p s ns := Ext.but'.pool _ _ _ hP3
    have r0 : ∀ {J : Hp → Prop} {o : Option D}, EvD K φ2 J (tOp (rIxT K) (tVar 11) (tC (.int 0))) (ρ0 (some (mrowD r)) o) (.tup [.int r.x, .int r.y]) := fun {J o} => ev_ixT (ds := [.tup [.int r.x, .int r.y], .str r.nm, .int r.lev]) (ev_var (i := 11) rfl) ev_int rfl
    have r1 : ∀ {J : Hp → Prop} {o : Option D}, EvD K φ2 J (tOp (rIxT K) (tVar 11) (tC (.int 1))) (ρ0 (some (mrowD r)) o) (.str r.nm) := fun {J o} => ev_ixT (ds := [.tup [.int r.x, .int r.y], .str r.nm, .int r.lev]) (ev_var (i := 11) rfl) ev_int rfl
    have r2 : ∀ {J : Hp → Prop} {o : Option D}, EvD K φ2 J (tOp (rIxT K) (tVar 11) (tC (.int 2))) (ρ0 (some (mrowD r)) o) (.int r.lev) := fun {J o} => ev_ixT (ds := [.tup [.int r.x, .int r.y], .str r.nm, .int r.lev]) (ev_var (i := 11) rfl) ev_int rfl
    refine q (st_set (d := pairD (rcvR g ss mast r)) A12 (ev_callX (R := RRecv c_NoStation c_NoPlace) (ea_cons (ev_var (i := 6) rfl) (ea_cons r1 (ea_cons r0 (ea_cons (ev_var (i := 7) rfl) ea_nil)))) hrow) fun σ13 H13 A13 => ?_)
    replace A13 : At K φ2 (fun H => J' H ∧ But φ2 H12 H) (ρ0 (some (mrowD r)) (some (pairD (rcvR g ss mast r)))) σ13 H13 := A13
    dsimp only
    refine q (st_appS A13 M1.but rfl (ev_tup (ea_cons (ev_sub r2 (ev_ixT (ds := [.int (rcvR g ss mast r).1, .int (rcvR g ss mast r).2]) (ev_var (i := 12) rfl) ev_int rfl)) (ea_cons (ev_sub r2 (ev_ixT (ds := [.int (rcvR g ss mast r).1, .int (rcvR g ss mast r).2]) (ev_var (i := 12) rfl) ev_int rfl)) ea_nil))) (by
      rw [List.length_map]
      have := List.length_take_le i rows
      omega) fun d J4 H14 hd W4 L4 A14 => ?_)
    subst hd
    have L4 : LivS K φ2 J4 l1 HO.lst (((rows.take i).map fun r => pairD (difP g ss mast r)) ++ [pairD (difP g ss mast r)]) := L4
    have M4 := W4.liv _ _ _ M2.but l12.symm
    have hP5 := W4.pool _ _ _ hP4 pl1 sl1
    have tl : (valsR (prs.take i) r.nm).length ≤ 60 := by
      have a := valsR_len (prs.take i) r.nm
      have b := List.length_take_le i prs
      omega
    dsimp only
    refine st_dputS (k := (Sum.inr r.nm : Key)) (kds := offF (prs.take i)) A14 M4 (ev_catL (ds := (valsR (prs.take i) r.nm).map D.int) (es := [.int (difP g ss mast r).1]) ((ev_dget2 (k := (Sum.inr r.nm : Key)) (ed_liveS M4 (ev_var (i := 10) rfl)) r1 (ev_lst ea_nil)).is (off_getD _ _)) (ev_lst (ea_cons (ev_ixT (ds := [.int (difP g ss mast r).1, .int (difP g ss mast r).2]) (ev_ixS L4 (ev_var (i := 9) rfl) (ev_neg ev_int) atI_snoc77) ev_int rfl) ea_nil)) (by
      rw [List.length_map, List.length_singleton]
      omega)) rfl r1 (by
      have a := off_len (prs.take i)
      have b := List.length_take_le i prs
      omega) fun d J5 H15 hd W5 L5 A15 => ?_
    subst hd
    have hb5 := W5.base _ (W4.base _ (fun H h => h.2) (Stab.but (.inl M1.np))) (Stab.but (.inl M2.np))
    refine ⟨_, J5, ⟨_, _, ?_, ?_, W5.pool _ _ _ hP5 pl2 sl2, rfl⟩, A15.live ⟨A15.j, hb5 _ A15.j⟩ (A15.mono.and (Mo.but (hb5 _ A15.j).tr))⟩
    · rw [List.take_add_one, hr, List.map_append]
      exact W5.liv _ _ _ L4 l12
    · rw [List.take_add_one, hpi, Option.toList_some, offF_snoc, valsR_snoc, if_pos rfl, List.map_append]
      exact L5
  rintro H12 ρ' J' σ12 H13 b12 j12 ⟨o11, o12, M1, M2, hP3, rfl⟩ A12
  rw [List.length_map] at M1 M2
  rw [List.take_length] at M1
  rw [← hpl, List.take_length] at M2
  subst hφ
  have A13 := M2.but.freezeD N2.fr A12 (i := 10) rfl
  have M3 := M1.but.thaw (H := H13) l12 A12.j
  have hP4 := pool_thaw (H := H13) (Ext.but'.pool _ _ _ hP3 : Pooled _ (fun H => J' H ∧ But _ H12 H) p s ns) pl2
  have A14 := M3.freeze N1.fr A13 (k := 9) rfl
  have hP5 := pool_thaw (H := H13) hP4 pl1
  have pok := hP5.ok _ A14.j
  have A15 := A14.live (J' := PoolOk p s ns) pok (mo_poolOf pok)
  replace A15 : At K (fun b => b ≠ p) (PoolOk p s ns) [none, some (.raw (.ref p)), none, none, none, none, some (netD g ss), some (.int mast), some (campD rows), some (.lst (rows.map fun r => pairD (difP g ss mast r))), some (dictD (offF prs)), o11, o12, none, none, none, none, none, none, none, none, none, none] σ12 H13 := A15
  have A16 : At K (fun b => b ≠ p) (PoolOk p s ns) [none, some (.raw (.ref p)), none, none, none, none, some (netD g ss), some (.int mast), some (campD rows), some (.lst (rows.map fun r => pairD (difP g ss mast r))), some (dictD (offF prs)), none, none, none, none, none, none, none, none, none, none, none, none] σ12 H13 := A15.le (by repeat' (first | exact Le.nil | refine Le.drop ?_ | refine Le.keep ?_))
  clear A9 A10 A11 A12 A13 A14 A15 M1 M2 M3 hP1 hP2 hP3 hP4 hP5 L1 L2' L1' N1 N2 pok
  have memC : ∀ {J : Hp → Prop} {ρ : List (Option D)} {E : XK} {i : Nat}, ρ[i]? = some (some (campD rows)) → EvD K (fun b => b ≠ p) J (tCall (SpD K 1 RMem) [] E (tCons (tVar i) tNil)) ρ (campD rows) := fun h => mem (ds := rows.map mrowD) h (by rw [List.length_map]; omega)
  have hdiffs : (rows.map fun r => pairD (difP g ss mast r)) = (rows.map (difP g ss mast)).map pairD := by rw [List.map_map]; rfl
  have hcx : campX w' h' ss c_NoStation c_NoPlace rows = none := CO.x
  dsimp only
  refine q (st_set (d := campD rows) A16 (memC rfl) fun σ17 H17 A17 => ?_)
  replace A17 : At K (fun b => b ≠ p) (PoolOk p s ns) [none, some (.raw (.ref p)), none, none, none, none, some (netD g ss), some (.int mast), some (campD rows), some (.lst (rows.map fun r => pairD (difP g ss mast r))), some (dictD (offF prs)), none, none, some (campD rows), none, none, none, none, none, none, none, none, none] σ17 H17 := A17
  dsimp only
  refine q (st_no A17 (et_not (et_B (ev_callD (ea_cons (ev_callX (R := RDiffs c_NoStation c_NoPlace) (d := .lst (rows.map fun r => pairD (difP g ss mast r))) (ea_cons (ev_var (i := 6) rfl) (ea_cons (ev_var (i := 7) rfl) (ea_cons (ev_var (i := 8) rfl) ea_nil))) ⟨w', h', g, ss, mast, rows, CO.N, rfl, by omega, by omega, by omega, by rw [hcx]⟩) (ea_cons (ev_var (i := 9) rfl) ea_nil)) ⟨_, rfl, by rw [hdiffs]; exact plain_pairs (by rw [List.length_map]; omega), rfl⟩))) rfl fun H18 A18 => st_next ?_)
  have hk : okq 64 (campD rows) = true := CO.okq (n := 60)
  refine q (st_no A18 (et_test (ev_neQ (memC (i := 8) rfl) (ev_var (i := 13) rfl) hk hk)) (by rw [eqvD_refl hk]; rfl) fun H19 A19 => st_next ?_)
  refine q (st_for A19 (it_list (ds := ss.map fun s => D.str s.nm) ((ev_lc (k := 15) (f := fun d => match d with
    | .tup (a :: _) => a
    | d => d) (it_tup (ds := ss.map staD) (ev_ixT (ds := [gridD g, .tup (ss.map staD)]) (ev_var (i := 6) rfl) ev_int rfl)) (by rw [List.length_map]; have := CO.l3; omega) fun d hd φ' J' hx => ?_).is (by rw [List.map_map]; rfl))) (fun i ρ' J' => (∃ o14, ρ' = [none, some (.raw (.ref p)), none, none, none, none, some (netD g ss), some (.int mast), some (campD rows), some (.lst (rows.map fun r => pairD (difP g ss mast r))), some (dictD (offF prs)), none, none, some (campD rows), o14, none, none, none, none, none, none, none, none]) ∧ J' = PoolOk p s ns) ⟨⟨none, rfl⟩, rfl⟩ ?_ ?_)
  · obtain ⟨t, _, rfl⟩ := List.mem_map.mp hd
    exact ev_ixT (ds := [.str t.nm, .tup [.int t.x, .int t.y], .int t.mast, .int t.power, .int t.mhz, .tup (t.ant.map lobeD)]) (ev_var (i := 15) rfl) ev_int rfl
  · rintro H20 i x ρ' J' b20 j20 hx ⟨⟨o14, rfl⟩, rfl⟩ σ' H' A20
    rw [List.getElem?_map] at hx
    obtain ⟨t, _, rfl⟩ := Option.map_eq_some_iff.mp hx
    replace A20 : At K (fun b => b ≠ p) (fun H => PoolOk p s ns H ∧ But (fun b => b ≠ p) H20 H) [none, some (.raw (.ref p)), none, none, none, none, some (netD g ss), some (.int mast), some (campD rows), some (.lst (rows.map fun r => pairD (difP g ss mast r))), some (dictD (offF prs)), none, none, some (campD rows), some (.str t.nm), none, none, none, none, none, none, none, none] σ' H' := A20
    have vl := valsR_len prs t.nm
    refine st_no A20 (et_not (et_B (ev_callD (ea_cons (ev_callX (R := ROff c_NoStation c_NoPlace) (d := medD (valsR prs t.nm)) (ea_cons (ev_var (i := 6) rfl) (ea_cons (ev_var (i := 7) rfl) (ea_cons (ev_listL (ds := rows.map mrowD) (ev_var (i := 8) rfl)) (ea_cons (ev_var (i := 14) rfl) ea_nil)))) ⟨w', h', g, ss, mast, rows, t.nm, CO.N, rfl, by omega, by omega, by omega, by rw [hcx, hprs]⟩) (ea_cons (ev_callD (d := medD (valsR prs t.nm)) (ea_cons ((ev_dget2 (k := (Sum.inr t.nm : Key)) (ed_frozen (ev_var (i := 10) rfl)) (ev_var (i := 14) rfl) (ev_lst ea_nil)).is (off_getD _ _)) ea_nil) ⟨_, rfl, by omega, rfl⟩) ea_nil)) ⟨_, rfl, plain_med _, rfl⟩))) rfl fun H21 A21 => st_next ⟨_, _, ⟨⟨_, rfl⟩, rfl⟩, A21⟩
  rintro H20 ρ' J' σ20 H21 b20 j20 ⟨⟨o14, rfl⟩, rfl⟩ A20
  have A21 := A20.live (J' := PoolOk p s ns) A20.j.1 (mo_poolOf A20.j.1)
  have A21 : At K (fun b => b ≠ p) (PoolOk p s ns) [none, some (.raw (.ref p)), none, none, none, none, some (netD g ss), some (.int mast), some (campD rows), some (.lst (rows.map fun r => pairD (difP g ss mast r))), some (dictD (offF prs)), none, none, none, none, none, none, none, none, none, none, none, none] σ20 H21 := A21.le (by repeat' (first | exact Le.nil | refine Le.drop ?_ | refine Le.keep ?_))
  clear A16 A17 A18 A19 A20
  refine q (st_asg A21 (ei_mul (ev_draw hP rfl ev_int (by decide) (by decide)) (ev_draw hP rfl ev_int (by decide) (by decide)) (fun i j h1 h2 => .inl (by omega))) fun d σ22 H22 hd A22 => ?_)
  obtain ⟨most, rfl, _⟩ := hd
  replace A22 : At K (fun b => b ≠ p) (PoolOk p s ns) [none, some (.raw (.ref p)), none, none, none, none, some (netD g ss), some (.int mast), some (campD rows), some (.lst (rows.map fun r => pairD (difP g ss mast r))), some (dictD (offF prs)), none, none, none, none, none, some (.int most), none, none, none, none, none, none] σ22 H22 := A22
  dsimp only
  refine q (st_newS A22 (en_ofN (en_lstD ea_nil)) fun l1 ds1 C1 J1 σ23 H23 hC N1 L1 A23 => ?_)
  obtain ⟨e, rfl⟩ := hC
  subst e
  have hP1 : Pooled (wo (fun b => b ≠ p) l1) J1 p s ns := N1.ext.pool _ _ _ hP
  obtain ⟨pl1, sl1⟩ := N1.pl _ _ _ hP
  let ρ1 : Option D → Option D → List (Option D) := fun o3 o18 => [none, some (.raw (.ref p)), none, o3, none, none, some (netD g ss), some (.int mast), some (campD rows), some (.lst (rows.map fun r => pairD (difP g ss mast r))), some (dictD (offF prs)), none, none, none, none, none, some (.int most), some (.raw (.ref l1)), o18, none, none, none, none]
  replace A23 : At K (wo (fun b => b ≠ p) l1) J1 (ρ1 none none) σ23 H23 := A23
  dsimp only
  refine q (st_for A23 (it_range1 (ea_cons (ev_lenL (ds := rows.map mrowD) (ev_var (i := 8) rfl)) ea_nil) (by rw [List.length_map]; omega)) (fun i ρ' J' => ∃ o3 o18, LivS K (wo (fun b => b ≠ p) l1) J' l1 HO.lst ((outL g ss mast rows most i).map D.int) ∧ Pooled (wo (fun b => b ≠ p) l1) J' p s ns ∧ ρ' = ρ1 o3 o18) ⟨none, none, L1, hP1, rfl⟩ ?_ ?_)
  · rintro H24 i x ρ' J' b24 j24 hx ⟨o3, o18, M1, hP3, rfl⟩ σ' H' A24
    rw [rangeD_get] at hx
    split at hx
    · rename_i hi
      cases hx
      rw [List.length_map, Int.toNat_natCast] at hi
      rw [Int.zero_add] at A24
      replace A24 : At K (wo (fun b => b ≠ p) l1) (fun H => J' H ∧ But (wo (fun b => b ≠ p) l1) H24 H) (ρ1 (some (.int (i : Int))) o18) σ' H' := A24
      have hP4 : Pooled (wo (fun b => b ≠ p) l1) (fun H => J' H ∧ But (wo (fun b => b ≠ p) l1) H24 H) p s ns := Ext.but'.pool _ _ _ hP3
      obtain ⟨r, hr⟩ : ∃ r, rows[i]? = some r := ⟨_, List.getElem?_eq_getElem hi⟩
      have hne : valsR prs r.nm ≠ [] := by rw [← hprs]; exact prs_mem (List.mem_of_getElem? hr)
      have vl := valsR_len prs r.nm
      have pk : ∀ {J : Hp → Prop} {o : Option D}, EvD K (wo (fun b => b ≠ p) l1) J (tOp (rIxL K) (tVar 9) (tVar 3)) (ρ1 (some (.int (i : Int))) o) (pairD (difP g ss mast r)) := fun {J o} => ev_ixL (ds := rows.map fun r => pairD (difP g ss mast r)) (ev_var (i := 9) rfl) (ev_var (i := 3) rfl) (atI_ofNat (by rw [List.getElem?_map, hr]; rfl))
      refine q (st_set (d := .int (medI (valsR prs r.nm))) A24 (ev_callD (ea_cons (x := .lst ((valsR prs r.nm).map D.int)) (ev_dget (k := (Sum.inr r.nm : Key)) (kds := offF prs) (ed_frozen (ev_var (i := 10) rfl)) (ev_ixT (ds := [.tup [.int r.x, .int r.y], .str r.nm, .int r.lev]) (ev_ixL (ds := rows.map mrowD) (ev_var (i := 8) rfl) (ev_var (i := 3) rfl) (atI_ofNat (by rw [List.getElem?_map, hr]; rfl))) ev_int rfl) (by rw [off_val, if_neg hne])) ea_nil) ⟨_, rfl, by omega, by rw [med_ne hne]⟩) fun σ25 H25 A25 => ?_)
      replace A25 : At K (wo (fun b => b ≠ p) l1) (fun H => J' H ∧ But (wo (fun b => b ≠ p) l1) H24 H) (ρ1 (some (.int (i : Int))) (some (.int (medI (valsR prs r.nm))))) σ25 H25 := A25
      have eo : outB g ss mast rows most i = (decide (medI (valsR prs r.nm) + most < (difP g ss mast r).1) || decide ((difP g ss mast r).2 < medI (valsR prs r.nm) - most)) := by
        unfold outB
        rw [hr, hprs]
      dsimp only
      refine st_if A25 ((et_or (et_test (ev_gt (ev_ixT (ds := [.int (difP g ss mast r).1, .int (difP g ss mast r).2]) pk ev_int rfl) (ev_add (ev_var (i := 18) rfl) (ev_var (i := 16) rfl)))) fun _ => et_test (ev_lt (ev_ixT (ds := [.int (difP g ss mast r).1, .int (difP g ss mast r).2]) pk ev_int rfl) (ev_sub (ev_var (i := 18) rfl) (ev_var (i := 16) rfl)))).is eo.symm) (fun hb3 H26 A26 => ?_) (fun hb3 H26 A26 => ?_)
      · refine st_appS A26 M1.but rfl (ev_var (i := 3) rfl) ?_ fun d J5 H5 hd W5 L5 A5 => ?_
        · rw [List.length_map]
          have := outL_len (g := g) (ss := ss) (mast := mast) (rows := rows) (most := most) (n := i)
          omega
        · subst hd
          have hb5 := W5.base _ (fun H h => h.2) (Stab.but (.inl M1.np))
          refine ⟨_, J5, ⟨_, _, ?_, W5.pool _ _ _ hP4 pl1 sl1, rfl⟩, A5.live ⟨A5.j, hb5 _ A5.j⟩ (A5.mono.and (Mo.but (hb5 _ A5.j).tr))⟩
          rw [outL_succ, if_pos hb3.symm, List.map_append]
          exact L5
      · refine st_next ⟨_, J', ⟨_, _, ?_, hP3, rfl⟩, A26⟩
        rw [outL_succ, ← hb3, if_neg Bool.false_ne_true, List.append_nil]
        exact M1
    · cases hx
  rintro H24 ρ' J' σ24 H25 b24 j24 ⟨o3, o18, M1, hP3, rfl⟩ A24
  rw [rangeD_length, List.length_map, Int.toNat_natCast] at M1
  have A25 := M1.but.freeze N1.fr A24 (k := 17) rfl
  have hP4 := pool_thaw (H := H25) (Ext.but'.pool _ _ _ hP3 : Pooled _ (fun H => J' H ∧ But _ H24 H) p s ns) pl1
  have pok := hP4.ok _ A25.j
  have A26 := A25.live (J' := PoolOk p s ns) pok (mo_poolOf pok)
  replace A26 : At K (fun b => b ≠ p) (PoolOk p s ns) [none, some (.raw (.ref p)), none, o3, none, none, some (netD g ss), some (.int mast), some (campD rows), some (.lst (rows.map fun r => pairD (difP g ss mast r))), some (dictD (offF prs)), none, none, none, none, none, some (.int most), some (.lst ((outL g ss mast rows most rows.length).map D.int)), o18, none, none, none, none] σ24 H25 := A26
  clear A21 A22 A23 A24 A25 M1 hP1 hP3 hP4 L1 N1 pok
  have ol := outL_len (g := g) (ss := ss) (mast := mast) (rows := rows) (most := most) (n := rows.length)
  refine q (st_no A26 (et_not (et_B (ev_callD (ea_cons (ev_callD (d := .lst ((outL g ss mast rows most rows.length).map D.int)) (ea_cons (ev_var (i := 6) rfl) (ea_cons (ev_var (i := 7) rfl) (ea_cons (ev_listL (ds := rows.map mrowD) (ev_var (i := 8) rfl)) (ea_cons (ev_var (i := 16) rfl) ea_nil)))) ⟨w', h', g, ss, mast, rows, most, CO, rfl, rfl⟩) (ea_cons (ev_var (i := 17) rfl) ea_nil)) ⟨_, rfl, plain_ints (by omega), rfl⟩))) rfl fun H27 A27 => st_next ?_)
  have A28 : At K (fun b => b ≠ p) (PoolOk p s ns) [none, some (.raw (.ref p)), none, none, none, none, some (netD g ss), none, some (campD rows), none, none, none, none, none, none, none, none, none, none, none, none, none, none] σ24 H27 := A27.le (by repeat' (first | exact Le.nil | refine Le.drop ?_ | refine Le.keep ?_))
  clear A26 A27
  obtain ⟨r0, er0, el0⟩ := CO.N.G.atH
  have wrE : EvD K (fun b => b ≠ p) (PoolOk p s ns) (tLst (tCons (tTup (tCons (tTup (tCons (tC (.int 0)) (tCons (tC (.int 0)) tNil))) (tCons (tC (.str "s9")) (tCons (tC (.int 0)) tNil)))) (tCons (tTup (tCons (tTup (tCons (tCB (rLen K) (tCons (tOp (rIxT K) (tOp (rIxT K) (tVar 6) (tC (.int 0))) (tC (.int 0))) tNil)) (tCons (tC (.int 0)) tNil))) (tCons (tC (.str "s0")) (tCons (tC (.int 0)) tNil)))) (tCons (tTup (tCons (tTup (tCons (tC (.int 99)) (tCons (tC (.int 0)) tNil))) (tCons (tC (.str "s9")) (tCons (tC (.int 0)) tNil)))) tNil)))) [none, some (.raw (.ref p)), none, none, none, none, some (netD g ss), none, some (campD rows), none, none, none, none, none, none, none, none, none, none, none, none, none, none] (.lst [mrowD (wr77 w' 0), mrowD (wr77 w' 1), mrowD (wr77 w' 2)]) := ev_lst (ea_cons (ev_tup (ea_cons (ev_tup (ea_cons ev_int (ea_cons ev_int ea_nil))) (ea_cons ev_str (ea_cons ev_int ea_nil)))) (ea_cons (ev_tup (ea_cons (ev_tup (ea_cons ((ev_lenT (ev_ixT (ev_ixT (ds := [gridD g, .tup (ss.map staD)]) (ev_var (i := 6) rfl) ev_int rfl) ev_int er0)).is (by rw [List.length_map, el0]; rfl)) (ea_cons ev_int ea_nil))) (ea_cons ev_str (ea_cons ev_int ea_nil)))) (ea_cons (ev_tup (ea_cons (ev_tup (ea_cons ev_int (ea_cons ev_int ea_nil))) (ea_cons ev_str (ea_cons ev_int ea_nil)))) ea_nil)))
  refine q (st_set (d := .lst [mrowD (wr77 w' 0), mrowD (wr77 w' 1), mrowD (wr77 w' 2)]) A28 wrE fun σ29 H29 A29 => ?_)
  replace A29 : At K (fun b => b ≠ p) (PoolOk p s ns) [none, some (.raw (.ref p)), none, none, none, none, some (netD g ss), none, some (campD rows), none, none, none, none, none, none, none, none, none, none, some (.lst [mrowD (wr77 w' 0), mrowD (wr77 w' 1), mrowD (wr77 w' 2)]), none, none, none] σ29 H29 := A29
  dsimp only
  refine q (st_asg A29 (ev_draw hP rfl ev_int (by decide) (by decide)) fun d σ30 H30 hd A30 => ?_)
  obtain ⟨pi, rfl, p0, p3⟩ := hd
  obtain ⟨k, rfl⟩ : ∃ k : Nat, pi = (k : Int) := ⟨pi.toNat, (Int.toNat_of_nonneg p0).symm⟩
  have k3 : k < 3 := by omega
  replace A30 : At K (fun b => b ≠ p) (PoolOk p s ns) [none, some (.raw (.ref p)), none, none, none, none, some (netD g ss), none, some (campD rows), none, none, none, none, none, none, none, none, none, none, some (.lst [mrowD (wr77 w' 0), mrowD (wr77 w' 1), mrowD (wr77 w' 2)]), some (.int (k : Int)), none, none] σ30 H30 := A30
  have wrk : L2.atI [mrowD (wr77 w' 0), mrowD (wr77 w' 1), mrowD (wr77 w' 2)] (k : Int) = some (mrowD (wr77 w' k)) := by
    have : k = 0 ∨ k = 1 ∨ k = 2 := by omega
    rcases this with rfl | rfl | rfl <;> rfl
  have wdk : L2.atI [D.str "station", .str "place", .str "station"] (k : Int) = some (.str (word77 k)) := by
    have : k = 0 ∨ k = 1 ∨ k = 2 := by omega
    rcases this with rfl | rfl | rfl <;> rfl
  dsimp only
  refine q (st_set (d := .str (word77 k)) A30 (ev_ixT (ds := [D.str "station", .str "place", .str "station"]) (ev_tup (ea_cons ev_str (ea_cons ev_str (ea_cons ev_str ea_nil)))) (ev_var (i := 20) rfl) wdk) fun σ31 H31 A31 => ?_)
  replace A31 : At K (fun b => b ≠ p) (PoolOk p s ns) [none, some (.raw (.ref p)), none, none, none, none, some (netD g ss), none, some (campD rows), none, none, none, none, none, none, none, none, none, none, some (.lst [mrowD (wr77 w' 0), mrowD (wr77 w' 1), mrowD (wr77 w' 2)]), some (.int (k : Int)), some (.str (word77 k)), none] σ31 H31 := A31
  dsimp only
  refine q (st_for A31 (it_range1 (ea_cons ev_int ea_nil) (by decide)) (fun i ρ' J' => (∃ o22, ρ' = [none, some (.raw (.ref p)), none, none, none, none, some (netD g ss), none, some (campD rows), none, none, none, none, none, none, none, none, none, none, some (.lst [mrowD (wr77 w' 0), mrowD (wr77 w' 1), mrowD (wr77 w' 2)]), some (.int (k : Int)), some (.str (word77 k)), o22]) ∧ J' = PoolOk p s ns) ⟨⟨none, rfl⟩, rfl⟩ ?_ ?_)
  · rintro H32 i x ρ' J' b32 j32 hx ⟨⟨o22, rfl⟩, rfl⟩ σ' H' A32
    rw [rangeD_get] at hx
    split at hx
    · rename_i hi
      cases hx
      have hi : i < 3 := hi
      rw [Int.zero_add] at A32
      replace A32 : At K (fun b => b ≠ p) (fun H => PoolOk p s ns H ∧ But (fun b => b ≠ p) H32 H) [none, some (.raw (.ref p)), none, none, none, none, some (netD g ss), none, some (campD rows), none, none, none, none, none, none, none, none, none, none, some (.lst [mrowD (wr77 w' 0), mrowD (wr77 w' 1), mrowD (wr77 w' 2)]), some (.int (k : Int)), some (.str (word77 k)), some (.int (i : Int))] σ' H' := A32
      refine st_no A32 (et_test (ev_neS (s := word77 k) (t := word77 k) (ev_callD (ea_cons (ev_var (i := 6) rfl) (ea_cons (x := campD (rows ++ [wr77 w' k, wr77 w' 0, wr77 w' 1])) ((ev_catL (ds := rows.map mrowD) (es := [mrowD (wr77 w' k), mrowD (wr77 w' 0), mrowD (wr77 w' 1)]) (ev_listL (ds := rows.map mrowD) (ev_var (i := 8) rfl)) (ev_lst (ea_cons (ev_ixL (ds := [mrowD (wr77 w' 0), mrowD (wr77 w' 1), mrowD (wr77 w' 2)]) (ev_var (i := 19) rfl) (ev_var (i := 20) rfl) wrk) (ea_cons (ev_ixL (ds := [mrowD (wr77 w' 0), mrowD (wr77 w' 1), mrowD (wr77 w' 2)]) (ev_var (i := 19) rfl) ev_int rfl) (ea_cons (ev_ixL (ds := [mrowD (wr77 w' 0), mrowD (wr77 w' 1), mrowD (wr77 w' 2)]) (ev_var (i := 19) rfl) ev_int rfl) ea_nil)))) (by rw [List.length_map]; show rows.length + 3 ≤ _; omega)).is (by unfold campD; rw [List.map_append]; rfl)) (ea_cons (ev_var (i := 22) rfl) ea_nil))) ⟨w', h', g, ss, _, (i : Int), CO.N, by rw [List.length_append]; show rows.length + 3 ≤ _; omega, rfl, by omega, camp_wr CO k3⟩) (ev_var (i := 21) rfl))) (by rw [decide_eq_true rfl]; rfl) fun H33 A33 => st_next ⟨_, _, ⟨⟨_, rfl⟩, rfl⟩, A33⟩
    · cases hx
  rintro H32 ρ' J' σ32 H33 b32 j32 ⟨⟨o22, rfl⟩, rfl⟩ A32
  dsimp only
  refine st_ret A32 ev_bl fun v d H34 e A34 r => ?_
  subst e
  cases (show v = _ from r)
  exact kq H34
end
/-! ### what the top has written; the law's own head -/
set_option maxHeartbeats 0 in
theorem all_mk {l : PySem.W.OpenLaw} {w : World} {K : PySem.W.Frag} {h : Heap} {mg : Str → Option Value} {fa : Addr} (X : K.In h) (G : h.Ns mainGlobals mg) (hfa : mg "law" = some (.ref fa))
    {f0 : Addr} {od0 an0 : Option Addr} {sl0 : Array (Option Value)} {oc0 kV0 dc0 pm0 cd0 ct0 : Value} {f1 : Addr} {od1 an1 : Option Addr} {sl1 : Array (Option Value)} {oc1 kV1 dc1 pm1 cd1 ct1 : Value} {f2 : Addr} {od2 an2 : Option Addr} {sl2 : Array (Option Value)} {oc2 kV2 dc2 pm2 cd2 ct2 : Value} {f3 : Addr} {od3 an3 : Option Addr} {sl3 : Array (Option Value)} {oc3 kV3 dc3 pm3 cd3 ct3 : Value} {f4 : Addr} {od4 an4 : Option Addr} {sl4 : Array (Option Value)} {oc4 kV4 dc4 pm4 cd4 ct4 : Value} {f5 : Addr} {od5 an5 : Option Addr} {sl5 : Array (Option Value)} {oc5 kV5 dc5 pm5 cd5 ct5 : Value} {f6 : Addr} {od6 an6 : Option Addr} {sl6 : Array (Option Value)} {oc6 kV6 dc6 pm6 cd6 ct6 : Value} {f7 : Addr} {od7 an7 : Option Addr} {sl7 : Array (Option Value)} {oc7 kV7 dc7 pm7 cd7 ct7 : Value} {f8 : Addr} {od8 an8 : Option Addr} {sl8 : Array (Option Value)} {oc8 kV8 dc8 pm8 cd8 ct8 : Value} {f9 : Addr} {od9 an9 : Option Addr} {sl9 : Array (Option Value)} {oc9 kV9 dc9 pm9 cd9 ct9 : Value} {f10 : Addr} {od10 an10 : Option Addr} {sl10 : Array (Option Value)} {oc10 kV10 dc10 pm10 cd10 ct10 : Value} {f11 : Addr} {od11 an11 : Option Addr} {sl11 : Array (Option Value)} {oc11 kV11 dc11 pm11 cd11 ct11 : Value} {f12 : Addr} {od12 an12 : Option Addr} {sl12 : Array (Option Value)} {oc12 kV12 dc12 pm12 cd12 ct12 : Value} {f13 : Addr} {od13 an13 : Option Addr} {sl13 : Array (Option Value)} {oc13 kV13 dc13 pm13 cd13 ct13 : Value} {f14 : Addr} {od14 an14 : Option Addr} {sl14 : Array (Option Value)} {oc14 kV14 dc14 pm14 cd14 ct14 : Value} {f15 : Addr} {od15 an15 : Option Addr} {sl15 : Array (Option Value)} {oc15 kV15 dc15 pm15 cd15 ct15 : Value} {f16 : Addr} {od16 an16 : Option Addr} {sl16 : Array (Option Value)} {oc16 kV16 dc16 pm16 cd16 ct16 : Value} {f17 : Addr} {od17 an17 : Option Addr} {sl17 : Array (Option Value)} {oc17 kV17 dc17 pm17 cd17 ct17 : Value} {f18 : Addr} {od18 an18 : Option Addr} {sl18 : Array (Option Value)} {oc18 kV18 dc18 pm18 cd18 ct18 : Value} {f19 : Addr} {od19 an19 : Option Addr} {sl19 : Array (Option Value)} {oc19 kV19 dc19 pm19 cd19 ct19 : Value} {f20 : Addr} {od20 an20 : Option Addr} {sl20 : Array (Option Value)} {oc20 kV20 dc20 pm20 cd20 ct20 : Value} {f21 : Addr} {od21 an21 : Option Addr} {sl21 : Array (Option Value)} {oc21 kV21 dc21 pm21 cd21 ct21 : Value} {f22 : Addr} {od22 an22 : Option Addr} {sl22 : Array (Option Value)} {oc22 kV22 dc22 pm22 cd22 ct22 : Value} {f23 : Addr} {od23 an23 : Option Addr} {sl23 : Array (Option Value)} {oc23 kV23 dc23 pm23 cd23 ct23 : Value} {f24 : Addr} {od24 an24 : Option Addr} {sl24 : Array (Option Value)} {oc24 kV24 dc24 pm24 cd24 ct24 : Value} {f25 : Addr} {od25 an25 : Option Addr} {sl25 : Array (Option Value)} {oc25 kV25 dc25 pm25 cd25 ct25 : Value} {f26 : Addr} {od26 an26 : Option Addr} {sl26 : Array (Option Value)} {oc26 kV26 dc26 pm26 cd26 ct26 : Value} {f27 : Addr} {od27 an27 : Option Addr} {sl27 : Array (Option Value)} {oc27 kV27 dc27 pm27 cd27 ct27 : Value} {f28 : Addr} {od28 an28 : Option Addr} {sl28 : Array (Option Value)} {oc28 kV28 dc28 pm28 cd28 ct28 : Value} {f29 : Addr} {od29 an29 : Option Addr} {sl29 : Array (Option Value)} {oc29 kV29 dc29 pm29 cd29 ct29 : Value} {f30 : Addr} {od30 an30 : Option Addr} {sl30 : Array (Option Value)} {oc30 kV30 dc30 pm30 cd30 ct30 : Value} {f31 : Addr} {od31 an31 : Option Addr} {sl31 : Array (Option Value)} {oc31 kV31 dc31 pm31 cd31 ct31 : Value} {f32 : Addr} {od32 an32 : Option Addr} {sl32 : Array (Option Value)} {oc32 kV32 dc32 pm32 cd32 ct32 : Value} {f33 : Addr} {od33 an33 : Option Addr} {sl33 : Array (Option Value)} {oc33 kV33 dc33 pm33 cd33 ct33 : Value} {f34 : Addr} {od34 an34 : Option Addr} {sl34 : Array (Option Value)} {oc34 kV34 dc34 pm34 cd34 ct34 : Value} {f35 : Addr} {od35 an35 : Option Addr} {sl35 : Array (Option Value)} {oc35 kV35 dc35 pm35 cd35 ct35 : Value} {f36 : Addr} {od36 an36 : Option Addr} {sl36 : Array (Option Value)} {oc36 kV36 dc36 pm36 cd36 ct36 : Value} {f37 : Addr} {od37 an37 : Option Addr} {sl37 : Array (Option Value)} {oc37 kV37 dc37 pm37 cd37 ct37 : Value} {f38 : Addr} {od38 an38 : Option Addr} {sl38 : Array (Option Value)} {oc38 kV38 dc38 pm38 cd38 ct38 : Value} {f39 : Addr} {od39 an39 : Option Addr} {sl39 : Array (Option Value)} {oc39 kV39 dc39 pm39 cd39 ct39 : Value} {f40 : Addr} {od40 an40 : Option Addr} {sl40 : Array (Option Value)} {oc40 kV40 dc40 pm40 cd40 ct40 : Value} {f41 : Addr} {od41 an41 : Option Addr} {sl41 : Array (Option Value)} {oc41 kV41 dc41 pm41 cd41 ct41 : Value} {f42 : Addr} {od42 an42 : Option Addr} {sl42 : Array (Option Value)} {oc42 kV42 dc42 pm42 cd42 ct42 : Value} {f43 : Addr} {od43 an43 : Option Addr} {sl43 : Array (Option Value)} {oc43 kV43 dc43 pm43 cd43 ct43 : Value} {t_ROOM : Tok} {t_CONSTANT : Tok} {t_EDGE : Tok} {t_CELL : Tok} {c_NoPlace : Addr} {c_NoStation : Addr}
    (a0 : PySem.W.nsIn K mainGlobals "artanh" = some (some (.ref f0))) (l0 : K.lookup f0 = some ⟨oc0, od0, .func (PySem.W.fnOf "artanh" "artanh" (defArgs s_artanh) (defBody s_artanh) (defScope s_artanh) .none kV0 dc0 pm0 an0 cd0 ct0), sl0⟩) (c0 : PySem.W.codeIn K cd0 "artanh" = true) (k0 : PySem.W.keepIn K (.ref f0) = true) (a1 : PySem.W.nsIn K mainGlobals "log_of" = some (some (.ref f1))) (l1 : K.lookup f1 = some ⟨oc1, od1, .func (PySem.W.fnOf "log_of" "log_of" (defArgs s_log_of) (defBody s_log_of) (defScope s_log_of) .none kV1 dc1 pm1 an1 cd1 ct1), sl1⟩) (c1 : PySem.W.codeIn K cd1 "log_of" = true) (k1 : PySem.W.keepIn K (.ref f1) = true) (a2 : PySem.W.nsIn K mainGlobals "log_ten" = some (some (.ref f2))) (l2 : K.lookup f2 = some ⟨oc2, od2, .func (PySem.W.fnOf "log_ten" "log_ten" (defArgs s_log_ten) (defBody s_log_ten) (defScope s_log_ten) .none kV2 dc2 pm2 an2 cd2 ct2), sl2⟩) (c2 : PySem.W.codeIn K cd2 "log_ten" = true) (k2 : PySem.W.keepIn K (.ref f2) = true) (a3 : PySem.W.nsIn K mainGlobals "power_of_ten" = some (some (.ref f3))) (l3 : K.lookup f3 = some ⟨oc3, od3, .func (PySem.W.fnOf "power_of_ten" "power_of_ten" (defArgs s_power_of_ten) (defBody s_power_of_ten) (defScope s_power_of_ten) .none kV3 dc3 pm3 an3 cd3 ct3), sl3⟩) (c3 : PySem.W.codeIn K cd3 "power_of_ten" = true) (k3 : PySem.W.keepIn K (.ref f3) = true) (a4 : PySem.W.nsIn K mainGlobals "is_power" = some (some (.ref f4))) (l4 : K.lookup f4 = some ⟨oc4, od4, .func (PySem.W.fnOf "is_power" "is_power" (defArgs s_is_power) (defBody s_is_power) (defScope s_is_power) .none kV4 dc4 pm4 an4 cd4 ct4), sl4⟩) (c4 : PySem.W.codeIn K cd4 "is_power" = true) (k4 : PySem.W.keepIn K (.ref f4) = true) (a5 : PySem.W.nsIn K mainGlobals "level_of" = some (some (.ref f5))) (l5 : K.lookup f5 = some ⟨oc5, od5, .func (PySem.W.fnOf "level_of" "level_of" (defArgs s_level_of) (defBody s_level_of) (defScope s_level_of) .none kV5 dc5 pm5 an5 cd5 ct5), sl5⟩) (c5 : PySem.W.codeIn K cd5 "level_of" = true) (k5 : PySem.W.keepIn K (.ref f5) = true) (a6 : PySem.W.nsIn K mainGlobals "half_of" = some (some (.ref f6))) (l6 : K.lookup f6 = some ⟨oc6, od6, .func (PySem.W.fnOf "half_of" "half_of" (defArgs s_half_of) (defBody s_half_of) (defScope s_half_of) .none kV6 dc6 pm6 an6 cd6 ct6), sl6⟩) (c6 : PySem.W.codeIn K cd6 "half_of" = true) (k6 : PySem.W.keepIn K (.ref f6) = true) (a7 : PySem.W.nsIn K mainGlobals "added" = some (some (.ref f7))) (l7 : K.lookup f7 = some ⟨oc7, od7, .func (PySem.W.fnOf "added" "added" (defArgs s_added) (defBody s_added) (defScope s_added) .none kV7 dc7 pm7 an7 cd7 ct7), sl7⟩) (c7 : PySem.W.codeIn K cd7 "added" = true) (k7 : PySem.W.keepIn K (.ref f7) = true) (a8 : PySem.W.nsIn K mainGlobals "subtracted" = some (some (.ref f8))) (l8 : K.lookup f8 = some ⟨oc8, od8, .func (PySem.W.fnOf "subtracted" "subtracted" (defArgs s_subtracted) (defBody s_subtracted) (defScope s_subtracted) .none kV8 dc8 pm8 an8 cd8 ct8), sl8⟩) (c8 : PySem.W.codeIn K cd8 "subtracted" = true) (k8 : PySem.W.keepIn K (.ref f8) = true) (a9 : PySem.W.nsIn K mainGlobals "shifted" = some (some (.ref f9))) (l9 : K.lookup f9 = some ⟨oc9, od9, .func (PySem.W.fnOf "shifted" "shifted" (defArgs s_shifted) (defBody s_shifted) (defScope s_shifted) .none kV9 dc9 pm9 an9 cd9 ct9), sl9⟩) (c9 : PySem.W.codeIn K cd9 "shifted" = true) (k9 : PySem.W.keepIn K (.ref f9) = true) (a10 : PySem.W.nsIn K mainGlobals "is_place" = some (some (.ref f10))) (l10 : K.lookup f10 = some ⟨oc10, od10, .func (PySem.W.fnOf "is_place" "is_place" (defArgs s_is_place) (defBody s_is_place) (defScope s_is_place) .none kV10 dc10 pm10 an10 cd10 ct10), sl10⟩) (c10 : PySem.W.codeIn K cd10 "is_place" = true) (k10 : PySem.W.keepIn K (.ref f10) = true) (a11 : PySem.W.nsIn K mainGlobals "height_at" = some (some (.ref f11))) (l11 : K.lookup f11 = some ⟨oc11, od11, .func (PySem.W.fnOf "height_at" "height_at" (defArgs s_height_at) (defBody s_height_at) (defScope s_height_at) .none kV11 dc11 pm11 an11 cd11 ct11), sl11⟩) (c11 : PySem.W.codeIn K cd11 "height_at" = true) (k11 : PySem.W.keepIn K (.ref f11) = true) (a12 : PySem.W.nsIn K mainGlobals "square_distance" = some (some (.ref f12))) (l12 : K.lookup f12 = some ⟨oc12, od12, .func (PySem.W.fnOf "square_distance" "square_distance" (defArgs s_square_distance) (defBody s_square_distance) (defScope s_square_distance) .none kV12 dc12 pm12 an12 cd12 ct12), sl12⟩) (c12 : PySem.W.codeIn K cd12 "square_distance" = true) (k12 : PySem.W.keepIn K (.ref f12) = true) (a13 : PySem.W.nsIn K mainGlobals "steps_between" = some (some (.ref f13))) (l13 : K.lookup f13 = some ⟨oc13, od13, .func (PySem.W.fnOf "steps_between" "steps_between" (defArgs s_steps_between) (defBody s_steps_between) (defScope s_steps_between) .none kV13 dc13 pm13 an13 cd13 ct13), sl13⟩) (c13 : PySem.W.codeIn K cd13 "steps_between" = true) (k13 : PySem.W.keepIn K (.ref f13) = true) (a14 : PySem.W.nsIn K mainGlobals "nearest" = some (some (.ref f14))) (l14 : K.lookup f14 = some ⟨oc14, od14, .func (PySem.W.fnOf "nearest" "nearest" (defArgs s_nearest) (defBody s_nearest) (defScope s_nearest) .none kV14 dc14 pm14 an14 cd14 ct14), sl14⟩) (c14 : PySem.W.codeIn K cd14 "nearest" = true) (k14 : PySem.W.keepIn K (.ref f14) = true) (a15 : PySem.W.nsIn K mainGlobals "clearances" = some (some (.ref f15))) (l15 : K.lookup f15 = some ⟨oc15, od15, .func (PySem.W.fnOf "clearances" "clearances" (defArgs s_clearances) (defBody s_clearances) (defScope s_clearances) .none kV15 dc15 pm15 an15 cd15 ct15), sl15⟩) (c15 : PySem.W.codeIn K cd15 "clearances" = true) (k15 : PySem.W.keepIn K (.ref f15) = true) (a16 : PySem.W.nsIn K mainGlobals "half_of_turn" = some (some (.ref f16))) (l16 : K.lookup f16 = some ⟨oc16, od16, .func (PySem.W.fnOf "half_of_turn" "half_of_turn" (defArgs s_half_of_turn) (defBody s_half_of_turn) (defScope s_half_of_turn) .none kV16 dc16 pm16 an16 cd16 ct16), sl16⟩) (c16 : PySem.W.codeIn K cd16 "half_of_turn" = true) (k16 : PySem.W.keepIn K (.ref f16) = true) (a17 : PySem.W.nsIn K mainGlobals "is_before" = some (some (.ref f17))) (l17 : K.lookup f17 = some ⟨oc17, od17, .func (PySem.W.fnOf "is_before" "is_before" (defArgs s_is_before) (defBody s_is_before) (defScope s_is_before) .none kV17 dc17 pm17 an17 cd17 ct17), sl17⟩) (c17 : PySem.W.codeIn K cd17 "is_before" = true) (k17 : PySem.W.keepIn K (.ref f17) = true) (a18 : PySem.W.nsIn K mainGlobals "gain_toward" = some (some (.ref f18))) (l18 : K.lookup f18 = some ⟨oc18, od18, .func (PySem.W.fnOf "gain_toward" "gain_toward" (defArgs s_gain_toward) (defBody s_gain_toward) (defScope s_gain_toward) .none kV18 dc18 pm18 an18 cd18 ct18), sl18⟩) (c18 : PySem.W.codeIn K cd18 "gain_toward" = true) (k18 : PySem.W.keepIn K (.ref f18) = true) (a19 : PySem.W.nsIn K mainGlobals "station_named" = some (some (.ref f19))) (l19 : K.lookup f19 = some ⟨oc19, od19, .func (PySem.W.fnOf "station_named" "station_named" (defArgs s_station_named) (defBody s_station_named) (defScope s_station_named) .none kV19 dc19 pm19 an19 cd19 ct19), sl19⟩) (c19 : PySem.W.codeIn K cd19 "station_named" = true) (k19 : PySem.W.keepIn K (.ref f19) = true) (a20 : PySem.W.nsIn K mainGlobals "free_loss" = some (some (.ref f20))) (l20 : K.lookup f20 = some ⟨oc20, od20, .func (PySem.W.fnOf "free_loss" "free_loss" (defArgs s_free_loss) (defBody s_free_loss) (defScope s_free_loss) .none kV20 dc20 pm20 an20 cd20 ct20), sl20⟩) (c20 : PySem.W.codeIn K cd20 "free_loss" = true) (k20 : PySem.W.keepIn K (.ref f20) = true) (a21 : PySem.W.nsIn K mainGlobals "edge_loss" = some (some (.ref f21))) (l21 : K.lookup f21 = some ⟨oc21, od21, .func (PySem.W.fnOf "edge_loss" "edge_loss" (defArgs s_edge_loss) (defBody s_edge_loss) (defScope s_edge_loss) .none kV21 dc21 pm21 an21 cd21 ct21), sl21⟩) (c21 : PySem.W.codeIn K cd21 "edge_loss" = true) (k21 : PySem.W.keepIn K (.ref f21) = true) (a22 : PySem.W.nsIn K mainGlobals "way_loss" = some (some (.ref f22))) (l22 : K.lookup f22 = some ⟨oc22, od22, .func (PySem.W.fnOf "way_loss" "way_loss" (defArgs s_way_loss) (defBody s_way_loss) (defScope s_way_loss) .none kV22 dc22 pm22 an22 cd22 ct22), sl22⟩) (c22 : PySem.W.codeIn K cd22 "way_loss" = true) (k22 : PySem.W.keepIn K (.ref f22) = true) (a23 : PySem.W.nsIn K mainGlobals "gain_between" = some (some (.ref f23))) (l23 : K.lookup f23 = some ⟨oc23, od23, .func (PySem.W.fnOf "gain_between" "gain_between" (defArgs s_gain_between) (defBody s_gain_between) (defScope s_gain_between) .none kV23 dc23 pm23 an23 cd23 ct23), sl23⟩) (c23 : PySem.W.codeIn K cd23 "gain_between" = true) (k23 : PySem.W.keepIn K (.ref f23) = true) (a24 : PySem.W.nsIn K mainGlobals "received" = some (some (.ref f24))) (l24 : K.lookup f24 = some ⟨oc24, od24, .func (PySem.W.fnOf "received" "received" (defArgs s_received) (defBody s_received) (defScope s_received) .none kV24 dc24 pm24 an24 cd24 ct24), sl24⟩) (c24 : PySem.W.codeIn K cd24 "received" = true) (k24 : PySem.W.keepIn K (.ref f24) = true) (a25 : PySem.W.nsIn K mainGlobals "differences" = some (some (.ref f25))) (l25 : K.lookup f25 = some ⟨oc25, od25, .func (PySem.W.fnOf "differences" "differences" (defArgs s_differences) (defBody s_differences) (defScope s_differences) .none kV25 dc25 pm25 an25 cd25 ct25), sl25⟩) (c25 : PySem.W.codeIn K cd25 "differences" = true) (k25 : PySem.W.keepIn K (.ref f25) = true) (a26 : PySem.W.nsIn K mainGlobals "median" = some (some (.ref f26))) (l26 : K.lookup f26 = some ⟨oc26, od26, .func (PySem.W.fnOf "median" "median" (defArgs s_median) (defBody s_median) (defScope s_median) .none kV26 dc26 pm26 an26 cd26 ct26), sl26⟩) (c26 : PySem.W.codeIn K cd26 "median" = true) (k26 : PySem.W.keepIn K (.ref f26) = true) (a27 : PySem.W.nsIn K mainGlobals "offsets_of" = some (some (.ref f27))) (l27 : K.lookup f27 = some ⟨oc27, od27, .func (PySem.W.fnOf "offsets_of" "offsets_of" (defArgs s_offsets_of) (defBody s_offsets_of) (defScope s_offsets_of) .none kV27 dc27 pm27 an27 cd27 ct27), sl27⟩) (c27 : PySem.W.codeIn K cd27 "offsets_of" = true) (k27 : PySem.W.keepIn K (.ref f27) = true) (a28 : PySem.W.nsIn K mainGlobals "offset_of" = some (some (.ref f28))) (l28 : K.lookup f28 = some ⟨oc28, od28, .func (PySem.W.fnOf "offset_of" "offset_of" (defArgs s_offset_of) (defBody s_offset_of) (defScope s_offset_of) .none kV28 dc28 pm28 an28 cd28 ct28), sl28⟩) (c28 : PySem.W.codeIn K cd28 "offset_of" = true) (k28 : PySem.W.keepIn K (.ref f28) = true) (a29 : PySem.W.nsIn K mainGlobals "outliers" = some (some (.ref f29))) (l29 : K.lookup f29 = some ⟨oc29, od29, .func (PySem.W.fnOf "outliers" "outliers" (defArgs s_outliers) (defBody s_outliers) (defScope s_outliers) .none kV29 dc29 pm29 an29 cd29 ct29), sl29⟩) (c29 : PySem.W.codeIn K cd29 "outliers" = true) (k29 : PySem.W.keepIn K (.ref f29) = true) (a30 : PySem.W.nsIn K mainGlobals "_law_same" = some (some (.ref f30))) (l30 : K.lookup f30 = some ⟨oc30, od30, .func (PySem.W.fnOf "_law_same" "_law_same" (defArgs s__law_same) (defBody s__law_same) (defScope s__law_same) .none kV30 dc30 pm30 an30 cd30 ct30), sl30⟩) (c30 : PySem.W.codeIn K cd30 "_law_same" = true) (k30 : PySem.W.keepIn K (.ref f30) = true) (a31 : PySem.W.nsIn K mainGlobals "_law_pool" = some (some (.ref f31))) (l31 : K.lookup f31 = some ⟨oc31, od31, .func (PySem.W.fnOf "_law_pool" "_law_pool" (defArgs s__law_pool) (defBody s__law_pool) (defScope s__law_pool) .none kV31 dc31 pm31 an31 cd31 ct31), sl31⟩) (c31 : PySem.W.codeIn K cd31 "_law_pool" = true) (k31 : PySem.W.keepIn K (.ref f31) = true) (a32 : PySem.W.nsIn K mainGlobals "_law_spread" = some (some (.ref f32))) (l32 : K.lookup f32 = some ⟨oc32, od32, .func (PySem.W.fnOf "_law_spread" "_law_spread" (defArgs s__law_spread) (defBody s__law_spread) (defScope s__law_spread) .none kV32 dc32 pm32 an32 cd32 ct32), sl32⟩) (c32 : PySem.W.codeIn K cd32 "_law_spread" = true) (k32 : PySem.W.keepIn K (.ref f32) = true) (a33 : PySem.W.nsIn K mainGlobals "_law_draw" = some (some (.ref f33))) (l33 : K.lookup f33 = some ⟨oc33, od33, .func (PySem.W.fnOf "_law_draw" "_law_draw" (defArgs s__law_draw) (defBody s__law_draw) (defScope s__law_draw) .none kV33 dc33 pm33 an33 cd33 ct33), sl33⟩) (c33 : PySem.W.codeIn K cd33 "_law_draw" = true) (k33 : PySem.W.keepIn K (.ref f33) = true) (a34 : PySem.W.nsIn K mainGlobals "_law_terrain" = some (some (.ref f34))) (l34 : K.lookup f34 = some ⟨oc34, od34, .func (PySem.W.fnOf "_law_terrain" "_law_terrain" (defArgs s__law_terrain) (defBody s__law_terrain) (defScope s__law_terrain) .none kV34 dc34 pm34 an34 cd34 ct34), sl34⟩) (c34 : PySem.W.codeIn K cd34 "_law_terrain" = true) (k34 : PySem.W.keepIn K (.ref f34) = true) (a35 : PySem.W.nsIn K mainGlobals "_law_antenna" = some (some (.ref f35))) (l35 : K.lookup f35 = some ⟨oc35, od35, .func (PySem.W.fnOf "_law_antenna" "_law_antenna" (defArgs s__law_antenna) (defBody s__law_antenna) (defScope s__law_antenna) .none kV35 dc35 pm35 an35 cd35 ct35), sl35⟩) (c35 : PySem.W.codeIn K cd35 "_law_antenna" = true) (k35 : PySem.W.keepIn K (.ref f35) = true) (a36 : PySem.W.nsIn K mainGlobals "_law_station" = some (some (.ref f36))) (l36 : K.lookup f36 = some ⟨oc36, od36, .func (PySem.W.fnOf "_law_station" "_law_station" (defArgs s__law_station) (defBody s__law_station) (defScope s__law_station) .none kV36 dc36 pm36 an36 cd36 ct36), sl36⟩) (c36 : PySem.W.codeIn K cd36 "_law_station" = true) (k36 : PySem.W.keepIn K (.ref f36) = true) (a37 : PySem.W.nsIn K mainGlobals "_law_spot" = some (some (.ref f37))) (l37 : K.lookup f37 = some ⟨oc37, od37, .func (PySem.W.fnOf "_law_spot" "_law_spot" (defArgs s__law_spot) (defBody s__law_spot) (defScope s__law_spot) .none kV37 dc37 pm37 an37 cd37 ct37), sl37⟩) (c37 : PySem.W.codeIn K cd37 "_law_spot" = true) (k37 : PySem.W.keepIn K (.ref f37) = true) (a38 : PySem.W.nsIn K mainGlobals "_law_middle" = some (some (.ref f38))) (l38 : K.lookup f38 = some ⟨oc38, od38, .func (PySem.W.fnOf "_law_middle" "_law_middle" (defArgs s__law_middle) (defBody s__law_middle) (defScope s__law_middle) .none kV38 dc38 pm38 an38 cd38 ct38), sl38⟩) (c38 : PySem.W.codeIn K cd38 "_law_middle" = true) (k38 : PySem.W.keepIn K (.ref f38) = true) (a39 : PySem.W.nsIn K mainGlobals "_law_campaign" = some (some (.ref f39))) (l39 : K.lookup f39 = some ⟨oc39, od39, .func (PySem.W.fnOf "_law_campaign" "_law_campaign" (defArgs s__law_campaign) (defBody s__law_campaign) (defScope s__law_campaign) .none kV39 dc39 pm39 an39 cd39 ct39), sl39⟩) (c39 : PySem.W.codeIn K cd39 "_law_campaign" = true) (k39 : PySem.W.keepIn K (.ref f39) = true) (a40 : PySem.W.nsIn K mainGlobals "_law_word" = some (some (.ref f40))) (l40 : K.lookup f40 = some ⟨oc40, od40, .func (PySem.W.fnOf "_law_word" "_law_word" (defArgs s__law_word) (defBody s__law_word) (defScope s__law_word) .none kV40 dc40 pm40 an40 cd40 ct40), sl40⟩) (c40 : PySem.W.codeIn K cd40 "_law_word" = true) (k40 : PySem.W.keepIn K (.ref f40) = true) (a41 : PySem.W.nsIn K mainGlobals "_law_members" = some (some (.ref f41))) (l41 : K.lookup f41 = some ⟨oc41, od41, .func (PySem.W.fnOf "_law_members" "_law_members" (defArgs s__law_members) (defBody s__law_members) (defScope s__law_members) .none kV41 dc41 pm41 an41 cd41 ct41), sl41⟩) (c41 : PySem.W.codeIn K cd41 "_law_members" = true) (k41 : PySem.W.keepIn K (.ref f41) = true) (a42 : PySem.W.nsIn K mainGlobals "_law_own_outliers" = some (some (.ref f42))) (l42 : K.lookup f42 = some ⟨oc42, od42, .func (PySem.W.fnOf "_law_own_outliers" "_law_own_outliers" (defArgs s__law_own_outliers) (defBody s__law_own_outliers) (defScope s__law_own_outliers) .none kV42 dc42 pm42 an42 cd42 ct42), sl42⟩) (c42 : PySem.W.codeIn K cd42 "_law_own_outliers" = true) (k42 : PySem.W.keepIn K (.ref f42) = true) (a43 : PySem.W.nsIn K mainGlobals "law" = some (some (.ref f43))) (l43 : K.lookup f43 = some ⟨oc43, od43, .func (PySem.W.fnOf "law" "law" (defArgs s_law) (defBody s_law) (defScope s_law) .none kV43 dc43 pm43 an43 cd43 ct43), sl43⟩) (c43 : PySem.W.codeIn K cd43 "law" = true) (k43 : PySem.W.keepIn K (.ref f43) = true) (z_len : PySem.W.nsIn K mainGlobals "len" = some none) (z_range : PySem.W.nsIn K mainGlobals "range" = some none) (z_isinstance : PySem.W.nsIn K mainGlobals "isinstance" = some none) (z_int : PySem.W.nsIn K mainGlobals "int" = some none) (z_str : PySem.W.nsIn K mainGlobals "str" = some none) (z_bool : PySem.W.nsIn K mainGlobals "bool" = some none) (z_list : PySem.W.nsIn K mainGlobals "list" = some none) (z_tuple : PySem.W.nsIn K mainGlobals "tuple" = some none) (z_dict : PySem.W.nsIn K mainGlobals "dict" = some none) (z_sum : PySem.W.nsIn K mainGlobals "sum" = some none) (z_max : PySem.W.nsIn K mainGlobals "max" = some none) (z_min : PySem.W.nsIn K mainGlobals "min" = some none) (z_abs : PySem.W.nsIn K mainGlobals "abs" = some none) (z_sorted : PySem.W.nsIn K mainGlobals "sorted" = some none) (z_enumerate : PySem.W.nsIn K mainGlobals "enumerate" = some none) (z_zip : PySem.W.nsIn K mainGlobals "zip" = some none) (z_set : PySem.W.nsIn K mainGlobals "set" = some none) (y_ROOM : PySem.W.nsIn K mainGlobals "ROOM" = some (some (.int (16777216) t_ROOM))) (y_CONSTANT : PySem.W.nsIn K mainGlobals "CONSTANT" = some (some (.int (2755) t_CONSTANT))) (y_EDGE : PySem.W.nsIn K mainGlobals "EDGE" = some (some (.int (600) t_EDGE))) (y_CELL : PySem.W.nsIn K mainGlobals "CELL" = some (some (.int (100) t_CELL))) (xa_NoPlace : PySem.W.nsIn K mainGlobals "NoPlace" = some (some (.ref c_NoPlace))) (xe_NoPlace : PySem.W.excIn K c_NoPlace [.type "ValueError", .type "Exception", .type "BaseException", .type "object"] "ValueError.__new__" = true) (xk_NoPlace : PySem.W.keepIn K (.ref c_NoPlace) = true) (xs_NoPlace : PySem.W.subIn K (.ref c_NoPlace) (.type "BaseException") = some true) (xt_NoPlace : PySem.W.typeIn K (.ref c_NoPlace) = some (.type "type")) (xi_NoPlace : PySem.W.isClsIn K c_NoPlace = true) (xy_NoPlace : PySem.W.subIn K (.ref c_NoPlace) (.ref c_NoPlace) = some true) (xa_NoStation : PySem.W.nsIn K mainGlobals "NoStation" = some (some (.ref c_NoStation))) (xe_NoStation : PySem.W.excIn K c_NoStation [.type "ValueError", .type "Exception", .type "BaseException", .type "object"] "ValueError.__new__" = true) (xk_NoStation : PySem.W.keepIn K (.ref c_NoStation) = true) (xs_NoStation : PySem.W.subIn K (.ref c_NoStation) (.type "BaseException") = some true) (xt_NoStation : PySem.W.typeIn K (.ref c_NoStation) = some (.type "type")) (xi_NoStation : PySem.W.isClsIn K c_NoStation = true) (xy_NoStation : PySem.W.subIn K (.ref c_NoStation) (.ref c_NoStation) = some true) (xn_0 : PySem.W.subIn K (.ref c_NoPlace) (.ref c_NoStation) = some false) :
    ∃ fd : FuncData, (∀ (s : Shared) (v : Value), BindsTo s fd ⟨[v], []⟩ [("script", v)]) ∧ ∀ base : Heap, K.In base → base.Ns mainGlobals mg → FnOk l.prog w K mg base CX0 12 fa fd ["script"] (spLaw K) := by
  have e := hfa.symm.trans (PySem.W.mg_of X G a43)
  cases e
  have F0 := fun_mk (st := s_artanh) l0 c0 k0
  have b0 := F0.binds (ps := ["p", "q", "bits"]) fun _ _ _ _ _ _ us hl => match us, hl with | [_, _, _], _ => rfl
  have L0 : Lk K mg "artanh" f0 _ ["p", "q", "bits"] := ⟨PySem.W.mg_of X G a0, k0, b0⟩
  have F1 := fun_mk (st := s_log_of) l1 c1 k1
  have b1 := F1.binds (ps := ["p", "q", "bits"]) fun _ _ _ _ _ _ us hl => match us, hl with | [_, _, _], _ => rfl
  have L1 : Lk K mg "log_of" f1 _ ["p", "q", "bits"] := ⟨PySem.W.mg_of X G a1, k1, b1⟩
  have F2 := fun_mk (st := s_log_ten) l2 c2 k2
  have b2 := F2.binds (ps := ["bits"]) fun _ _ _ _ _ _ us hl => match us, hl with | [_], _ => rfl
  have L2 : Lk K mg "log_ten" f2 _ ["bits"] := ⟨PySem.W.mg_of X G a2, k2, b2⟩
  have F3 := fun_mk (st := s_power_of_ten) l3 c3 k3
  have b3 := F3.binds (ps := ["exponent"]) fun _ _ _ _ _ _ us hl => match us, hl with | [_], _ => rfl
  have L3 : Lk K mg "power_of_ten" f3 _ ["exponent"] := ⟨PySem.W.mg_of X G a3, k3, b3⟩
  have F4 := fun_mk (st := s_is_power) l4 c4 k4
  have b4 := F4.binds (ps := ["p", "q", "level"]) fun _ _ _ _ _ _ us hl => match us, hl with | [_, _, _], _ => rfl
  have L4 : Lk K mg "is_power" f4 _ ["p", "q", "level"] := ⟨PySem.W.mg_of X G a4, k4, b4⟩
  have F5 := fun_mk (st := s_level_of) l5 c5 k5
  have b5 := F5.binds (ps := ["p", "q"]) fun _ _ _ _ _ _ us hl => match us, hl with | [_, _], _ => rfl
  have L5 : Lk K mg "level_of" f5 _ ["p", "q"] := ⟨PySem.W.mg_of X G a5, k5, b5⟩
  have F6 := fun_mk (st := s_half_of) l6 c6 k6
  have b6 := F6.binds (ps := ["pair"]) fun _ _ _ _ _ _ us hl => match us, hl with | [_], _ => rfl
  have L6 : Lk K mg "half_of" f6 _ ["pair"] := ⟨PySem.W.mg_of X G a6, k6, b6⟩
  have F7 := fun_mk (st := s_added) l7 c7 k7
  have b7 := F7.binds (ps := ["a", "b"]) fun _ _ _ _ _ _ us hl => match us, hl with | [_, _], _ => rfl
  have L7 : Lk K mg "added" f7 _ ["a", "b"] := ⟨PySem.W.mg_of X G a7, k7, b7⟩
  have F8 := fun_mk (st := s_subtracted) l8 c8 k8
  have b8 := F8.binds (ps := ["a", "b"]) fun _ _ _ _ _ _ us hl => match us, hl with | [_, _], _ => rfl
  have L8 : Lk K mg "subtracted" f8 _ ["a", "b"] := ⟨PySem.W.mg_of X G a8, k8, b8⟩
  have F9 := fun_mk (st := s_shifted) l9 c9 k9
  have b9 := F9.binds (ps := ["a", "number"]) fun _ _ _ _ _ _ us hl => match us, hl with | [_, _], _ => rfl
  have L9 : Lk K mg "shifted" f9 _ ["a", "number"] := ⟨PySem.W.mg_of X G a9, k9, b9⟩
  have F10 := fun_mk (st := s_is_place) l10 c10 k10
  have b10 := F10.binds (ps := ["terrain", "place"]) fun _ _ _ _ _ _ us hl => match us, hl with | [_, _], _ => rfl
  have L10 : Lk K mg "is_place" f10 _ ["terrain", "place"] := ⟨PySem.W.mg_of X G a10, k10, b10⟩
  have F11 := fun_mk (st := s_height_at) l11 c11 k11
  have b11 := F11.binds (ps := ["terrain", "place"]) fun _ _ _ _ _ _ us hl => match us, hl with | [_, _], _ => rfl
  have L11 : Lk K mg "height_at" f11 _ ["terrain", "place"] := ⟨PySem.W.mg_of X G a11, k11, b11⟩
  have F12 := fun_mk (st := s_square_distance) l12 c12 k12
  have b12 := F12.binds (ps := ["p", "q"]) fun _ _ _ _ _ _ us hl => match us, hl with | [_, _], _ => rfl
  have L12 : Lk K mg "square_distance" f12 _ ["p", "q"] := ⟨PySem.W.mg_of X G a12, k12, b12⟩
  have F13 := fun_mk (st := s_steps_between) l13 c13 k13
  have b13 := F13.binds (ps := ["p", "q"]) fun _ _ _ _ _ _ us hl => match us, hl with | [_, _], _ => rfl
  have L13 : Lk K mg "steps_between" f13 _ ["p", "q"] := ⟨PySem.W.mg_of X G a13, k13, b13⟩
  have F14 := fun_mk (st := s_nearest) l14 c14 k14
  have b14 := F14.binds (ps := ["first", "last", "k", "n"]) fun _ _ _ _ _ _ us hl => match us, hl with | [_, _, _, _], _ => rfl
  have L14 : Lk K mg "nearest" f14 _ ["first", "last", "k", "n"] := ⟨PySem.W.mg_of X G a14, k14, b14⟩
  have F15 := fun_mk (st := s_clearances) l15 c15 k15
  have b15 := F15.binds (ps := ["terrain", "p", "q", "a", "b"]) fun _ _ _ _ _ _ us hl => match us, hl with | [_, _, _, _, _], _ => rfl
  have L15 : Lk K mg "clearances" f15 _ ["terrain", "p", "q", "a", "b"] := ⟨PySem.W.mg_of X G a15, k15, b15⟩
  have F16 := fun_mk (st := s_half_of_turn) l16 c16 k16
  have b16 := F16.binds (ps := ["dx", "dy"]) fun _ _ _ _ _ _ us hl => match us, hl with | [_, _], _ => rfl
  have L16 : Lk K mg "half_of_turn" f16 _ ["dx", "dy"] := ⟨PySem.W.mg_of X G a16, k16, b16⟩
  have F17 := fun_mk (st := s_is_before) l17 c17 k17
  have b17 := F17.binds (ps := ["first", "second"]) fun _ _ _ _ _ _ us hl => match us, hl with | [_, _], _ => rfl
  have L17 : Lk K mg "is_before" f17 _ ["first", "second"] := ⟨PySem.W.mg_of X G a17, k17, b17⟩
  have F18 := fun_mk (st := s_gain_toward) l18 c18 k18
  have b18 := F18.binds (ps := ["antenna", "dx", "dy"]) fun _ _ _ _ _ _ us hl => match us, hl with | [_, _, _], _ => rfl
  have L18 : Lk K mg "gain_toward" f18 _ ["antenna", "dx", "dy"] := ⟨PySem.W.mg_of X G a18, k18, b18⟩
  have F19 := fun_mk (st := s_station_named) l19 c19 k19
  have b19 := F19.binds (ps := ["network", "name"]) fun _ _ _ _ _ _ us hl => match us, hl with | [_, _], _ => rfl
  have L19 : Lk K mg "station_named" f19 _ ["network", "name"] := ⟨PySem.W.mg_of X G a19, k19, b19⟩
  have F20 := fun_mk (st := s_free_loss) l20 c20 k20
  have b20 := F20.binds (ps := ["s", "f"]) fun _ _ _ _ _ _ us hl => match us, hl with | [_, _], _ => rfl
  have L20 : Lk K mg "free_loss" f20 _ ["s", "f"] := ⟨PySem.W.mg_of X G a20, k20, b20⟩
  have F21 := fun_mk (st := s_edge_loss) l21 c21 k21
  have b21 := F21.binds (ps := ["terrain", "p", "q", "a", "b", "f"]) fun _ _ _ _ _ _ us hl => match us, hl with | [_, _, _, _, _, _], _ => rfl
  have L21 : Lk K mg "edge_loss" f21 _ ["terrain", "p", "q", "a", "b", "f"] := ⟨PySem.W.mg_of X G a21, k21, b21⟩
  have F22 := fun_mk (st := s_way_loss) l22 c22 k22
  have b22 := F22.binds (ps := ["terrain", "p", "q", "a", "b", "f"]) fun _ _ _ _ _ _ us hl => match us, hl with | [_, _, _, _, _, _], _ => rfl
  have L22 : Lk K mg "way_loss" f22 _ ["terrain", "p", "q", "a", "b", "f"] := ⟨PySem.W.mg_of X G a22, k22, b22⟩
  have F23 := fun_mk (st := s_gain_between) l23 c23 k23
  have b23 := F23.binds (ps := ["antenna", "p", "q"]) fun _ _ _ _ _ _ us hl => match us, hl with | [_, _, _], _ => rfl
  have L23 : Lk K mg "gain_between" f23 _ ["antenna", "p", "q"] := ⟨PySem.W.mg_of X G a23, k23, b23⟩
  have F24 := fun_mk (st := s_received) l24 c24 k24
  have b24 := F24.binds (ps := ["network", "name", "place", "mast"]) fun _ _ _ _ _ _ us hl => match us, hl with | [_, _, _, _], _ => rfl
  have L24 : Lk K mg "received" f24 _ ["network", "name", "place", "mast"] := ⟨PySem.W.mg_of X G a24, k24, b24⟩
  have F25 := fun_mk (st := s_differences) l25 c25 k25
  have b25 := F25.binds (ps := ["network", "mast", "campaign"]) fun _ _ _ _ _ _ us hl => match us, hl with | [_, _, _], _ => rfl
  have L25 : Lk K mg "differences" f25 _ ["network", "mast", "campaign"] := ⟨PySem.W.mg_of X G a25, k25, b25⟩
  have F26 := fun_mk (st := s_median) l26 c26 k26
  have b26 := F26.binds (ps := ["numbers"]) fun _ _ _ _ _ _ us hl => match us, hl with | [_], _ => rfl
  have L26 : Lk K mg "median" f26 _ ["numbers"] := ⟨PySem.W.mg_of X G a26, k26, b26⟩
  have F27 := fun_mk (st := s_offsets_of) l27 c27 k27
  have b27 := F27.binds (ps := ["network", "mast", "campaign"]) fun _ _ _ _ _ _ us hl => match us, hl with | [_, _, _], _ => rfl
  have L27 : Lk K mg "offsets_of" f27 _ ["network", "mast", "campaign"] := ⟨PySem.W.mg_of X G a27, k27, b27⟩
  have F28 := fun_mk (st := s_offset_of) l28 c28 k28
  have b28 := F28.binds (ps := ["network", "mast", "campaign", "name"]) fun _ _ _ _ _ _ us hl => match us, hl with | [_, _, _, _], _ => rfl
  have L28 : Lk K mg "offset_of" f28 _ ["network", "mast", "campaign", "name"] := ⟨PySem.W.mg_of X G a28, k28, b28⟩
  have F29 := fun_mk (st := s_outliers) l29 c29 k29
  have b29 := F29.binds (ps := ["network", "mast", "campaign", "most"]) fun _ _ _ _ _ _ us hl => match us, hl with | [_, _, _, _], _ => rfl
  have L29 : Lk K mg "outliers" f29 _ ["network", "mast", "campaign", "most"] := ⟨PySem.W.mg_of X G a29, k29, b29⟩
  have F30 := fun_mk (st := s__law_same) l30 c30 k30
  have b30 := F30.binds (ps := ["actual", "due"]) fun _ _ _ _ _ _ us hl => match us, hl with | [_, _], _ => rfl
  have L30 : Lk K mg "_law_same" f30 _ ["actual", "due"] := ⟨PySem.W.mg_of X G a30, k30, b30⟩
  have F31 := fun_mk (st := s__law_pool) l31 c31 k31
  have b31 := F31.binds (ps := ["script"]) fun _ _ _ _ _ _ us hl => match us, hl with | [_], _ => rfl
  have L31 : Lk K mg "_law_pool" f31 _ ["script"] := ⟨PySem.W.mg_of X G a31, k31, b31⟩
  have F32 := fun_mk (st := s__law_spread) l32 c32 k32
  have b32 := F32.binds (ps := ["cell"]) fun _ _ _ _ _ _ us hl => match us, hl with | [_], _ => rfl
  have L32 : Lk K mg "_law_spread" f32 _ ["cell"] := ⟨PySem.W.mg_of X G a32, k32, b32⟩
  have F33 := fun_mk (st := s__law_draw) l33 c33 k33
  have b33 := F33.binds (ps := ["pool", "many"]) fun _ _ _ _ _ _ us hl => match us, hl with | [_, _], _ => rfl
  have L33 : Lk K mg "_law_draw" f33 _ ["pool", "many"] := ⟨PySem.W.mg_of X G a33, k33, b33⟩
  have F34 := fun_mk (st := s__law_terrain) l34 c34 k34
  have b34 := F34.binds (ps := ["pool", "width", "height"]) fun _ _ _ _ _ _ us hl => match us, hl with | [_, _, _], _ => rfl
  have L34 : Lk K mg "_law_terrain" f34 _ ["pool", "width", "height"] := ⟨PySem.W.mg_of X G a34, k34, b34⟩
  have F35 := fun_mk (st := s__law_antenna) l35 c35 k35
  have b35 := F35.binds (ps := ["pool"]) fun _ _ _ _ _ _ us hl => match us, hl with | [_], _ => rfl
  have L35 : Lk K mg "_law_antenna" f35 _ ["pool"] := ⟨PySem.W.mg_of X G a35, k35, b35⟩
  have F36 := fun_mk (st := s__law_station) l36 c36 k36
  have b36 := F36.binds (ps := ["pool", "k", "width", "height"]) fun _ _ _ _ _ _ us hl => match us, hl with | [_, _, _, _], _ => rfl
  have L36 : Lk K mg "_law_station" f36 _ ["pool", "k", "width", "height"] := ⟨PySem.W.mg_of X G a36, k36, b36⟩
  have F37 := fun_mk (st := s__law_spot) l37 c37 k37
  have b37 := F37.binds (ps := ["pool", "terrain"]) fun _ _ _ _ _ _ us hl => match us, hl with | [_, _], _ => rfl
  have L37 : Lk K mg "_law_spot" f37 _ ["pool", "terrain"] := ⟨PySem.W.mg_of X G a37, k37, b37⟩
  have F38 := fun_mk (st := s__law_middle) l38 c38 k38
  have b38 := F38.binds (ps := ["numbers"]) fun _ _ _ _ _ _ us hl => match us, hl with | [_], _ => rfl
  have L38 : Lk K mg "_law_middle" f38 _ ["numbers"] := ⟨PySem.W.mg_of X G a38, k38, b38⟩
  have F39 := fun_mk (st := s__law_campaign) l39 c39 k39
  have b39 := F39.binds (ps := ["pool"]) fun _ _ _ _ _ _ us hl => match us, hl with | [_], _ => rfl
  have L39 : Lk K mg "_law_campaign" f39 _ ["pool"] := ⟨PySem.W.mg_of X G a39, k39, b39⟩
  have F40 := fun_mk (st := s__law_word) l40 c40 k40
  have b40 := F40.binds (ps := ["network", "campaign", "way"]) fun _ _ _ _ _ _ us hl => match us, hl with | [_, _, _], _ => rfl
  have L40 : Lk K mg "_law_word" f40 _ ["network", "campaign", "way"] := ⟨PySem.W.mg_of X G a40, k40, b40⟩
  have F41 := fun_mk (st := s__law_members) l41 c41 k41
  have b41 := F41.binds (ps := ["value"]) fun _ _ _ _ _ _ us hl => match us, hl with | [_], _ => rfl
  have L41 : Lk K mg "_law_members" f41 _ ["value"] := ⟨PySem.W.mg_of X G a41, k41, b41⟩
  have F42 := fun_mk (st := s__law_own_outliers) l42 c42 k42
  have b42 := F42.binds (ps := ["network", "mast", "campaign", "most"]) fun _ _ _ _ _ _ us hl => match us, hl with | [_, _, _, _], _ => rfl
  have L42 : Lk K mg "_law_own_outliers" f42 _ ["network", "mast", "campaign", "most"] := ⟨PySem.W.mg_of X G a42, k42, b42⟩
  have F43 := fun_mk (st := s_law) l43 c43 k43
  have b43 := F43.binds (ps := ["script"]) fun _ _ _ _ _ _ us hl => match us, hl with | [_], _ => rfl
  have L43 : Lk K mg "law" fa _ ["script"] := ⟨PySem.W.mg_of X G a43, k43, b43⟩
  have B : Bi mg := ⟨PySem.W.mg_none_of X G z_len, PySem.W.mg_none_of X G z_range, PySem.W.mg_none_of X G z_isinstance, PySem.W.mg_none_of X G z_int, PySem.W.mg_none_of X G z_str, PySem.W.mg_none_of X G z_bool, PySem.W.mg_none_of X G z_list, PySem.W.mg_none_of X G z_tuple, PySem.W.mg_none_of X G z_dict, PySem.W.mg_none_of X G z_sum, PySem.W.mg_none_of X G z_max, PySem.W.mg_none_of X G z_min, PySem.W.mg_none_of X G z_abs, PySem.W.mg_none_of X G z_sorted, PySem.W.mg_none_of X G z_enumerate, PySem.W.mg_none_of X G z_zip, PySem.W.mg_none_of X G z_set⟩
  have C : Cs mg := ⟨⟨_, PySem.W.mg_of X G y_ROOM, _, rfl⟩, ⟨_, PySem.W.mg_of X G y_CONSTANT, _, rfl⟩, ⟨_, PySem.W.mg_of X G y_EDGE, _, rfl⟩, ⟨_, PySem.W.mg_of X G y_CELL, _, rfl⟩⟩
  have X_NoPlace : ExC K mg "NoPlace" c_NoPlace := ⟨PySem.W.mg_of X G xa_NoPlace, xe_NoPlace, xk_NoPlace, xs_NoPlace, xt_NoPlace, exm_sub xs_NoPlace xi_NoPlace xt_NoPlace xy_NoPlace⟩
  have X_NoStation : ExC K mg "NoStation" c_NoStation := ⟨PySem.W.mg_of X G xa_NoStation, xe_NoStation, xk_NoStation, xs_NoStation, xt_NoStation, exm_sub xs_NoStation xi_NoStation xt_NoStation xy_NoStation⟩
  have XN_0 : PySem.W.exmOne K (.ref c_NoPlace) (.ref c_NoStation) = some false := exm_sub xs_NoStation xi_NoStation xt_NoStation xn_0
  exact ⟨_, fun s v => .of_eq rfl, fun base _ _ => ok_all B C X_NoPlace X_NoStation XN_0 F0 L0 F1 L1 F2 L2 F3 L3 F4 L4 F5 L5 F6 L6 F7 L7 F8 L8 F9 L9 F10 L10 F11 L11 F12 L12 F13 L13 F14 L14 F15 L15 F16 L16 F17 L17 F18 L18 F19 L19 F20 L20 F21 L21 F22 L22 F23 L23 F24 L24 F25 L25 F26 L26 F27 L27 F28 L28 F29 L29 F30 L30 F31 L31 F32 L32 F33 L33 F34 L34 F35 L35 F36 L36 F37 L37 F38 L38 F39 L39 F40 L40 F41 L41 F42 L42 F43 L43⟩
end DL
open PySem PySem.W PyProof.Rows
set_option maxRecDepth 100000 in
set_option maxHeartbeats 0 in
theorem PySem.Challenge.cw_airwave_k77_measurements_holds : PySem.Challenge.rw_airwave_k77_measurements.Holds := by
  w_on; o_law; k_head; (case hw => w_witness2)
  k_fill
  refine L2.walk_of (l := PySem.Challenge.rw_airwave_k77_measurements) (n := 63) (k := 12) (x := "script") (CX := fun _ => L2.CX0) (sp := fun w => DL.spLaw _) rfl (by decide) rfl ⟨rfl, by decide, by decide⟩ (fun w h Y => PySem.W.kIn_of Y) ?F (fun _ _ a ns hl _ hS => ⟨a, ns, rfl, hS, hl, fun _ => rfl⟩) (fun _ _ _ _ _ h => h)
  case F =>
    intro w mg fa h KX G hmg
    refine' DL.all_mk KX G hmg ?a0 ?l0 ?c0 ?k0 ?a1 ?l1 ?c1 ?k1 ?a2 ?l2 ?c2 ?k2 ?a3 ?l3 ?c3 ?k3 ?a4 ?l4 ?c4 ?k4 ?a5 ?l5 ?c5 ?k5 ?a6 ?l6 ?c6 ?k6 ?a7 ?l7 ?c7 ?k7 ?a8 ?l8 ?c8 ?k8 ?a9 ?l9 ?c9 ?k9 ?a10 ?l10 ?c10 ?k10 ?a11 ?l11 ?c11 ?k11 ?a12 ?l12 ?c12 ?k12 ?a13 ?l13 ?c13 ?k13 ?a14 ?l14 ?c14 ?k14 ?a15 ?l15 ?c15 ?k15 ?a16 ?l16 ?c16 ?k16 ?a17 ?l17 ?c17 ?k17 ?a18 ?l18 ?c18 ?k18 ?a19 ?l19 ?c19 ?k19 ?a20 ?l20 ?c20 ?k20 ?a21 ?l21 ?c21 ?k21 ?a22 ?l22 ?c22 ?k22 ?a23 ?l23 ?c23 ?k23 ?a24 ?l24 ?c24 ?k24 ?a25 ?l25 ?c25 ?k25 ?a26 ?l26 ?c26 ?k26 ?a27 ?l27 ?c27 ?k27 ?a28 ?l28 ?c28 ?k28 ?a29 ?l29 ?c29 ?k29 ?a30 ?l30 ?c30 ?k30 ?a31 ?l31 ?c31 ?k31 ?a32 ?l32 ?c32 ?k32 ?a33 ?l33 ?c33 ?k33 ?a34 ?l34 ?c34 ?k34 ?a35 ?l35 ?c35 ?k35 ?a36 ?l36 ?c36 ?k36 ?a37 ?l37 ?c37 ?k37 ?a38 ?l38 ?c38 ?k38 ?a39 ?l39 ?c39 ?k39 ?a40 ?l40 ?c40 ?k40 ?a41 ?l41 ?c41 ?k41 ?a42 ?l42 ?c42 ?k42 ?a43 ?l43 ?c43 ?k43 ?z_len ?z_range ?z_isinstance ?z_int ?z_str ?z_bool ?z_list ?z_tuple ?z_dict ?z_sum ?z_max ?z_min ?z_abs ?z_sorted ?z_enumerate ?z_zip ?z_set ?y_ROOM ?y_CONSTANT ?y_EDGE ?y_CELL ?xa_NoPlace ?xe_NoPlace ?xk_NoPlace ?xs_NoPlace ?xt_NoPlace ?xi_NoPlace ?xy_NoPlace ?xa_NoStation ?xe_NoStation ?xk_NoStation ?xs_NoStation ?xt_NoStation ?xi_NoStation ?xy_NoStation ?xn_0
    (case a0 => k_is); (case l0 => k_is); (case c0 => k_is); (case k0 => k_is); (case a1 => k_is); (case l1 => k_is); (case c1 => k_is); (case k1 => k_is); (case a2 => k_is); (case l2 => k_is); (case c2 => k_is); (case k2 => k_is); (case a3 => k_is); (case l3 => k_is); (case c3 => k_is); (case k3 => k_is); (case a4 => k_is); (case l4 => k_is); (case c4 => k_is); (case k4 => k_is); (case a5 => k_is); (case l5 => k_is); (case c5 => k_is); (case k5 => k_is); (case a6 => k_is); (case l6 => k_is); (case c6 => k_is); (case k6 => k_is); (case a7 => k_is); (case l7 => k_is); (case c7 => k_is); (case k7 => k_is); (case a8 => k_is); (case l8 => k_is); (case c8 => k_is); (case k8 => k_is); (case a9 => k_is); (case l9 => k_is); (case c9 => k_is); (case k9 => k_is); (case a10 => k_is); (case l10 => k_is); (case c10 => k_is); (case k10 => k_is); (case a11 => k_is); (case l11 => k_is); (case c11 => k_is); (case k11 => k_is); (case a12 => k_is); (case l12 => k_is); (case c12 => k_is); (case k12 => k_is); (case a13 => k_is); (case l13 => k_is); (case c13 => k_is); (case k13 => k_is); (case a14 => k_is); (case l14 => k_is); (case c14 => k_is); (case k14 => k_is); (case a15 => k_is); (case l15 => k_is); (case c15 => k_is); (case k15 => k_is); (case a16 => k_is); (case l16 => k_is); (case c16 => k_is); (case k16 => k_is); (case a17 => k_is); (case l17 => k_is); (case c17 => k_is); (case k17 => k_is); (case a18 => k_is); (case l18 => k_is); (case c18 => k_is); (case k18 => k_is); (case a19 => k_is); (case l19 => k_is); (case c19 => k_is); (case k19 => k_is); (case a20 => k_is); (case l20 => k_is); (case c20 => k_is); (case k20 => k_is); (case a21 => k_is); (case l21 => k_is); (case c21 => k_is); (case k21 => k_is); (case a22 => k_is); (case l22 => k_is); (case c22 => k_is); (case k22 => k_is); (case a23 => k_is); (case l23 => k_is); (case c23 => k_is); (case k23 => k_is); (case a24 => k_is); (case l24 => k_is); (case c24 => k_is); (case k24 => k_is); (case a25 => k_is); (case l25 => k_is); (case c25 => k_is); (case k25 => k_is); (case a26 => k_is); (case l26 => k_is); (case c26 => k_is); (case k26 => k_is); (case a27 => k_is); (case l27 => k_is); (case c27 => k_is); (case k27 => k_is); (case a28 => k_is); (case l28 => k_is); (case c28 => k_is); (case k28 => k_is); (case a29 => k_is); (case l29 => k_is); (case c29 => k_is); (case k29 => k_is); (case a30 => k_is); (case l30 => k_is); (case c30 => k_is); (case k30 => k_is); (case a31 => k_is); (case l31 => k_is); (case c31 => k_is); (case k31 => k_is); (case a32 => k_is); (case l32 => k_is); (case c32 => k_is); (case k32 => k_is); (case a33 => k_is); (case l33 => k_is); (case c33 => k_is); (case k33 => k_is); (case a34 => k_is); (case l34 => k_is); (case c34 => k_is); (case k34 => k_is); (case a35 => k_is); (case l35 => k_is); (case c35 => k_is); (case k35 => k_is); (case a36 => k_is); (case l36 => k_is); (case c36 => k_is); (case k36 => k_is); (case a37 => k_is); (case l37 => k_is); (case c37 => k_is); (case k37 => k_is); (case a38 => k_is); (case l38 => k_is); (case c38 => k_is); (case k38 => k_is); (case a39 => k_is); (case l39 => k_is); (case c39 => k_is); (case k39 => k_is); (case a40 => k_is); (case l40 => k_is); (case c40 => k_is); (case k40 => k_is); (case a41 => k_is); (case l41 => k_is); (case c41 => k_is); (case k41 => k_is); (case a42 => k_is); (case l42 => k_is); (case c42 => k_is); (case k42 => k_is); (case a43 => k_is); (case l43 => k_is); (case c43 => k_is); (case k43 => k_is); (case z_len => k_is); (case z_range => k_is); (case z_isinstance => k_is); (case z_int => k_is); (case z_str => k_is); (case z_bool => k_is); (case z_list => k_is); (case z_tuple => k_is); (case z_dict => k_is); (case z_sum => k_is); (case z_max => k_is); (case z_min => k_is); (case z_abs => k_is); (case z_sorted => k_is); (case z_enumerate => k_is); (case z_zip => k_is); (case z_set => k_is); (case y_ROOM => k_is); (case y_CONSTANT => k_is); (case y_EDGE => k_is); (case y_CELL => k_is); (case xa_NoPlace => k_is); (case xe_NoPlace => k_exc); (case xk_NoPlace => k_is); (case xs_NoPlace => k_is); (case xt_NoPlace => k_is); (case xi_NoPlace => k_is); (case xy_NoPlace => k_is); (case xa_NoStation => k_is); (case xe_NoStation => k_exc); (case xk_NoStation => k_is); (case xs_NoStation => k_is); (case xt_NoStation => k_is); (case xi_NoStation => k_is); (case xy_NoStation => k_is); (case xn_0 => k_is)
#print axioms PySem.Challenge.cw_airwave_k77_measurements_holds
