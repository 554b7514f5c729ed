import PyProof.Rows.All
import Wide.All
import OpenK.AllK
import Wide.FinOn
import HandS.ForMost
import HandS.IsInst
import HandS.Wide
import HandS.Gcd
import HandS.Deep
import HandS.TupAny
import HandS.Zip
import HandS.Codes
import KE.GoesEnumKw
import HandS.SortKw
import HandS.Exc
import HandS.ExcOwn
import HandS.TryOnly
import HandS.WordsExc
import HandS.TupMul
import HandS.Dict
import HandS.SortOrd
import HandS.SortRule
import HandS.SortInts
import HandS.DictTup
import HandS.More
import KE.KDictCopyH
import KE.KDictWalk
import KE.KDictExact
import HandS.DictComp
import HandS.TupLe
import HandS.Conv
import KE.SortData
import KE.DataMinMax
import KE.DatumOrd
import HandS.Iter
import KE.KDictDisplayH
import HandS.Comp
import HandS.Text
import HandS.Steps
import HandS.StrMore
import HandS.FStr
import HandS.Style
import PyProof.StrOps2
import KE.KRevSl
import HandS.Lambda
import HandS.ExcCtx
import HandS.SuiteRaise
import HandS.ExcInitHot
import HandS.ExcInit
import HandS.ExcField
import HandS.ExcSuper
import KE.KExcSuper
import KE.KSuper
import PyProof.TupleOfSeq
import HandS.FromBytesMap
import KE.KMinKey
import HandS.EndTab
import KE.KNestM
import KE.KLam
import PySem.Challenge.RW_airwave_k58_faulty_consoles
set_option Elab.async false
set_option linter.all false
set_option maxRecDepth 100000
/-! DL: a layer of data. D: trees of values; Rep: a value stands for a tree; Ev..: what a reading evaluates to, by trees. -/
namespace DL
open PySem PySem.Spec PyProof.Rows L2

inductive D where
  | non | bl (b : Bool) | int (i : Int) | str (x : Str) | tup (xs : List D) | lst (xs : List D) | raw (v : V) | dk (ks : List Key) (xs : List D) | dt (ks : List (List Key)) (xs : List D)

theorem same_tr {H H' : Hp} (s : Same H H') : ∀ a, H a ≠ none → H' a ≠ none := fun a h => by
  cases e : H a with
  | none => exact absurd e h
  | some o => rw [s a o e]; exact fun z => by cases z
theorem upd_tr {H : Hp} {l : Addr} {o : HO} : ∀ a, H a ≠ none → L2.upd H l o a ≠ none := fun a h => by
  by_cases e : a = l
  · rw [e, upd_same]; exact fun z => by cases z
  · rw [upd_ne e]; exact h
/-- what φ says is kept, nothing is lost from sight -/
structure But (φ : Addr → Prop) (H H' : Hp) : Prop where
  keep : ∀ a o, φ a → H a = some o → H' a = some o
  tr : ∀ a, H a ≠ none → H' a ≠ none
theorem But.refl (φ : Addr → Prop) (H : Hp) : But φ H H := ⟨fun _ _ _ e => e, fun _ h => h⟩
theorem But.trans {φ : Addr → Prop} {H H1 H2 : Hp} (a : But φ H H1) (b : But φ H1 H2) : But φ H H2 := ⟨fun x o h e => b.keep x o h (a.keep x o h e), fun x h => b.tr x (a.tr x h)⟩
theorem But.of {φ : Addr → Prop} {H H' : Hp} (s : Same H H') : But φ H H' := ⟨fun a o _ e => s a o e, same_tr s⟩
theorem But.upd {φ : Addr → Prop} {H H' : Hp} {l : Addr} {o : HO} (b : But φ H H') (h : ¬ φ l) : But φ H (L2.upd H' l o) := ⟨fun a u p e => by
  rw [L2.upd_ne (show a ≠ l from fun z => h (z ▸ p))]
  exact b.keep a u p e, fun a h => upd_tr a (b.tr a h)⟩
theorem But.imp {φ φ' : Addr → Prop} {H H' : Hp} (b : But φ' H H') (h : ∀ a, φ a → H a ≠ none → φ' a) : But φ H H' := ⟨fun a o p e => b.keep a o (h a p (by rw [e]; exact fun z => by cases z)) e, b.tr⟩
theorem same_new {H : Hp} {p : Addr} {o : HO} (h : H p = none) : Same H (upd H p o) := fun b x e => by
  rw [upd_ne (ne_of_none e h)]
  exact e

section
variable (K : PySem.W.Frag) (φ : Addr → Prop) (H : Hp)
def WrT (a : Addr) (xs : List V) : Prop := ∃ (o : Obj) (its : Array Value) (n : Nat), K.lookup a = some o ∧ o.cls = .type "tuple" ∧ o.data = .seq its n ∧ its.size ≤ sizeLine ∧ Vals xs its.toList
def WrL (a : Addr) (xs : List V) : Prop := ∃ (o : Obj) (its : Array Value) (n : Nat), K.lookup a = some o ∧ o.cls = .type "list" ∧ o.dict = none ∧ o.data = .seq its n ∧ its.size ≤ sizeLine ∧ Vals xs its.toList
def PT (a : Addr) (xs : List V) : Prop := (φ a ∧ (H a = some (.tup xs) ∨ False)) ∨ (False ∧ K.lookup a = none)
def PL (a : Addr) (xs : List V) : Prop := (φ a ∧ Rd H a (.lst xs)) ∨ WrL K a xs
mutual
def Rep : D → V → Prop
  | .non, v => v = .non
  | .bl b, v => v = .bl b
  | .int i, v => v = .int i
  | .str x, v => v = .str x
  | .tup ds, v => ∃ a vs, v = .ref a ∧ PT K φ H a vs ∧ Reps ds vs
  | .lst ds, v => ∃ a vs, v = .ref a ∧ PL K φ H a vs ∧ Reps ds vs
  | .raw w, v => v = w
  | .dk ks ds, v => ∃ a vs, v = .ref a ∧ (φ a ∧ H a = some (.dK (ks.zip vs)) ∧ ks.length = ds.length) ∧ Reps ds vs
  | .dt ks ds, v => ∃ a vs, v = .ref a ∧ (φ a ∧ H a = some (.dT (ks.zip vs)) ∧ ks.length = ds.length) ∧ Reps ds vs
def Reps : List D → List V → Prop
  | [], vs => vs = []
  | d :: ds, vs => ∃ v r, vs = v :: r ∧ Rep d v ∧ Reps ds r
end
end

section
variable {K : PySem.W.Frag} {φ φ' : Addr → Prop} {H H' : Hp} {a : Addr} {xs : List V} {ds es : List D} {d : D} {v : V} {vs ws : List V}
theorem PT.at (h : PT K φ H a xs) : φ a ∧ H a = some (.tup xs) := h.elim (fun z => ⟨z.1, z.2.elim id False.elim⟩) fun z => z.1.elim
theorem PT.sq (h : PT K φ H a xs) : SqT K H a xs := .inl (.inl h.at.2)
theorem PL.sq (h : PL K φ H a xs) : SqL K H a xs := h.elim (fun z => .inl z.2) .inr
/-- a change that keeps what Rep leans on -/
def Up (φ φ' : Addr → Prop) (H H' : Hp) : Prop := ∀ a o, φ a → H a = some o → φ' a ∧ H' a = some o
theorem Up.of (b : But φ H H') : Up φ φ H H' := fun a o p e => ⟨p, b.keep a o p e⟩
theorem Up.new {p : Addr} (h : H p = none) : Up φ (fun a => φ a ∧ a ≠ p) H H := fun a o q e => ⟨⟨q, ne_of_none e h⟩, e⟩
theorem Rd.up {u : HO} (k : Up φ φ' H H') (p : φ a) (h : Rd H a u) : φ' a ∧ Rd H' a u := by
  rcases h with h | ⟨o, h⟩
  · exact ⟨(k a _ p h).1, .inl (k a _ p h).2⟩
  · exact ⟨(k a _ p h).1, .inr ⟨o, (k a _ p h).2⟩⟩
theorem PT.up (k : Up φ φ' H H') (h : PT K φ H a xs) : PT K φ' H' a xs := .inl ⟨(k a _ h.at.1 h.at.2).1, .inl (k a _ h.at.1 h.at.2).2⟩
theorem PL.up (k : Up φ φ' H H') (h : PL K φ H a xs) : PL K φ' H' a xs := h.elim (fun z => .inl (Rd.up k z.1 z.2)) .inr
mutual
theorem Rep.up (k : Up φ φ' H H') : ∀ (d : D) (v : V), Rep K φ H d v → Rep K φ' H' d v
  | .non, _, h => h
  | .bl _, _, h => h
  | .int _, _, h => h
  | .str _, _, h => h
  | .raw _, _, h => h
  | .dk ks ds, v, h => by
    obtain ⟨a, vs, e, ⟨p, e2, hl⟩, r⟩ := (show ∃ a vs, v = .ref a ∧ (φ a ∧ H a = some (.dK (ks.zip vs)) ∧ ks.length = ds.length) ∧ Reps K φ H ds vs from h)
    exact ⟨a, vs, e, ⟨(k a _ p e2).1, (k a _ p e2).2, hl⟩, Reps.up k ds vs r⟩
  | .dt ks ds, v, h => by
    obtain ⟨a, vs, e, ⟨p, e2, hl⟩, r⟩ := (show ∃ a vs, v = .ref a ∧ (φ a ∧ H a = some (.dT (ks.zip vs)) ∧ ks.length = ds.length) ∧ Reps K φ H ds vs from h)
    exact ⟨a, vs, e, ⟨(k a _ p e2).1, (k a _ p e2).2, hl⟩, Reps.up k ds vs r⟩
  | .tup ds, v, h => by
    obtain ⟨a, vs, e, p, r⟩ := (show ∃ a vs, v = .ref a ∧ PT K φ H a vs ∧ Reps K φ H ds vs from h)
    exact ⟨a, vs, e, p.up k, Reps.up k ds vs r⟩
  | .lst ds, v, h => by
    obtain ⟨a, vs, e, p, r⟩ := (show ∃ a vs, v = .ref a ∧ PL K φ H a vs ∧ Reps K φ H ds vs from h)
    exact ⟨a, vs, e, p.up k, Reps.up k ds vs r⟩
theorem Reps.up (k : Up φ φ' H H') : ∀ (ds : List D) (vs : List V), Reps K φ H ds vs → Reps K φ' H' ds vs
  | [], _, h => h
  | d :: ds, vs, h => by
    obtain ⟨v, r, e, h1, h2⟩ := (show ∃ v r, vs = v :: r ∧ Rep K φ H d v ∧ Reps K φ H ds r from h)
    exact ⟨v, r, e, Rep.up k d v h1, Reps.up k ds r h2⟩
end
theorem Rep.mono (h : Rep K φ H d v) (b : But φ H H') : Rep K φ H' d v := Rep.up (Up.of b) d v h
theorem Reps.mono (h : Reps K φ H ds vs) (b : But φ H H') : Reps K φ H' ds vs := Reps.up (Up.of b) ds vs h
theorem Reps.length : ∀ {ds : List D} {vs : List V}, Reps K φ H ds vs → vs.length = ds.length
  | [], vs, h => by
    have e : vs = [] := h
    rw [e]
    rfl
  | d :: ds, vs, h => by
    obtain ⟨v, r, rfl, h1, h2⟩ := (show ∃ v r, vs = v :: r ∧ Rep K φ H d v ∧ Reps K φ H ds r from h)
    rw [List.length_cons, List.length_cons, Reps.length h2]
theorem Reps.nil : Reps K φ H [] [] := rfl
theorem Reps.cons (h1 : Rep K φ H d v) (h2 : Reps K φ H ds vs) : Reps K φ H (d :: ds) (v :: vs) := ⟨v, vs, rfl, h1, h2⟩
theorem Reps.get : ∀ {ds : List D} {vs : List V} {i : Nat} {d : D}, Reps K φ H ds vs → ds[i]? = some d → ∃ v, vs[i]? = some v ∧ Rep K φ H d v
  | [], vs, i, d, _, e => by simp at e
  | x :: ds, vs, i, d, h, e => by
    obtain ⟨v, r, rfl, h1, h2⟩ := (show ∃ v r, vs = v :: r ∧ Rep K φ H x v ∧ Reps K φ H ds r from h)
    cases i with
    | zero =>
      have e' : x = d := by simpa using e
      exact ⟨v, rfl, e' ▸ h1⟩
    | succ i =>
      obtain ⟨w, e1, r1⟩ := Reps.get (i := i) h2 (by simpa using e)
      exact ⟨w, by simpa using e1, r1⟩
theorem Reps.getV {i : Nat} (h : Reps K φ H ds vs) (e : vs[i]? = some v) : ∃ d, ds[i]? = some d ∧ Rep K φ H d v := by
  have hl := h.length
  obtain ⟨hi, _⟩ := List.getElem?_eq_some_iff.mp e
  obtain ⟨w, e1, r1⟩ := h.get (List.getElem?_eq_getElem (show i < ds.length by omega))
  rw [e] at e1
  cases e1
  exact ⟨_, List.getElem?_eq_getElem (show i < ds.length by omega), r1⟩
theorem Reps.append : ∀ {ds : List D} {vs : List V}, Reps K φ H ds vs → Reps K φ H es ws → Reps K φ H (ds ++ es) (vs ++ ws)
  | [], vs, h, k => by
    have e : vs = [] := h
    rw [e]
    exact k
  | d :: ds, vs, h, k => by
    obtain ⟨v, r, rfl, h1, h2⟩ := (show ∃ v r, vs = v :: r ∧ Rep K φ H d v ∧ Reps K φ H ds r from h)
    exact ⟨v, r ++ ws, rfl, h1, Reps.append h2 k⟩
theorem Reps.drop : ∀ (n : Nat) {ds : List D} {vs : List V}, Reps K φ H ds vs → Reps K φ H (ds.drop n) (vs.drop n)
  | 0, _, _, h => h
  | n + 1, [], vs, h => by
    have e : vs = [] := h
    rw [e]
    exact rfl
  | n + 1, d :: ds, vs, h => by
    obtain ⟨v, r, rfl, h1, h2⟩ := (show ∃ v r, vs = v :: r ∧ Rep K φ H d v ∧ Reps K φ H ds r from h)
    exact Reps.drop n h2
theorem Reps.take : ∀ (n : Nat) {ds : List D} {vs : List V}, Reps K φ H ds vs → Reps K φ H (ds.take n) (vs.take n)
  | 0, _, _, h => rfl
  | n + 1, [], vs, h => by
    have e : vs = [] := h
    rw [e]
    exact rfl
  | n + 1, d :: ds, vs, h => by
    obtain ⟨v, r, rfl, h1, h2⟩ := (show ∃ v r, vs = v :: r ∧ Rep K φ H d v ∧ Reps K φ H ds r from h)
    exact ⟨v, _, rfl, h1, Reps.take n h2⟩
theorem Reps.set : ∀ {ds : List D} {vs : List V} (i : Nat), Reps K φ H ds vs → Rep K φ H d v → Reps K φ H (ds.set i d) (vs.set i v)
  | [], vs, i, h, _ => by
    have e : vs = [] := h
    rw [e]
    exact rfl
  | x :: ds, vs, i, h, k => by
    obtain ⟨w, r, rfl, h1, h2⟩ := (show ∃ v r, vs = v :: r ∧ Rep K φ H x v ∧ Reps K φ H ds r from h)
    cases i with
    | zero => exact ⟨v, r, rfl, k, h2⟩
    | succ i => exact ⟨w, r.set i v, rfl, h1, Reps.set i h2 k⟩
theorem Reps.ints : ∀ {ns : List Int} {vs : List V}, Reps K φ H (ns.map D.int) vs → vs = ns.map V.int
  | [], vs, h => h
  | n :: ns, vs, h => by
    obtain ⟨v, r, rfl, h1, h2⟩ := (show ∃ v r, vs = v :: r ∧ Rep K φ H (.int n) v ∧ Reps K φ H (ns.map D.int) r from h)
    have e : v = .int n := h1
    rw [e, Reps.ints h2]
    rfl
theorem Reps.of_ints : ∀ {ns : List Int}, Reps K φ H (ns.map D.int) (ns.map V.int)
  | [] => rfl
  | n :: ns => ⟨.int n, ns.map V.int, rfl, rfl, Reps.of_ints⟩
theorem Reps.strs : ∀ {ns : List Str} {vs : List V}, Reps K φ H (ns.map D.str) vs → vs = ns.map V.str
  | [], vs, h => h
  | n :: ns, vs, h => by
    obtain ⟨v, r, rfl, h1, h2⟩ := (show ∃ v r, vs = v :: r ∧ Rep K φ H (.str n) v ∧ Reps K φ H (ns.map D.str) r from h)
    have e : v = .str n := h1
    rw [e, Reps.strs h2]
    rfl
end

/-! ### the slots -/
def SR (K : PySem.W.Frag) (φ : Addr → Prop) (H : Hp) (ρ : List (Option D)) (σ : L2.St) : Prop :=
  σ.length = ρ.length ∧ ∀ (i : Nat) (d : D), ρ[i]? = some (some d) → ∃ v, σ[i]? = some (some v) ∧ Rep K φ H d v
section
variable {K : PySem.W.Frag} {φ φ' : Addr → Prop} {H H' : Hp} {ρ ρ' : List (Option D)} {σ : L2.St} {d : D} {v : V}
theorem SR.up (k : Up φ φ' H H') (h : SR K φ H ρ σ) : SR K φ' H' ρ σ := ⟨h.1, fun i d e => by
  obtain ⟨v, e1, r⟩ := h.2 i d e
  exact ⟨v, e1, Rep.up k d v r⟩⟩
theorem SR.set (i : Nat) (h : SR K φ H ρ σ) (r : Rep K φ H d v) : SR K φ H (ρ.set i (some d)) (σ.set i (some v)) := by
  refine ⟨by rw [List.length_set, List.length_set]; exact h.1, fun j e hj => ?_⟩
  by_cases hij : i = j
  · subst hij
    have hl : i < ρ.length := by
      obtain ⟨z, _⟩ := List.getElem?_eq_some_iff.mp hj
      simpa using z
    rw [List.getElem?_set_self hl] at hj
    cases hj
    exact ⟨v, List.getElem?_set_self (by rw [h.1]; exact hl), r⟩
  · rw [List.getElem?_set_ne hij] at hj
    obtain ⟨w, e1, r1⟩ := h.2 j e hj
    exact ⟨w, by rw [List.getElem?_set_ne hij]; exact e1, r1⟩
/-- ρ' knows no more than ρ -/
inductive Le : List (Option D) → List (Option D) → Prop where
  | nil : Le [] []
  | keep {x : Option D} {a b : List (Option D)} : Le a b → Le (x :: a) (x :: b)
  | drop {x : Option D} {a b : List (Option D)} : Le a b → Le (none :: a) (x :: b)
theorem Le.length : ∀ {a b : List (Option D)}, Le a b → a.length = b.length
  | _, _, .nil => rfl
  | _, _, .keep h => by rw [List.length_cons, List.length_cons, h.length]
  | _, _, .drop h => by rw [List.length_cons, List.length_cons, h.length]
theorem Le.get : ∀ {a b : List (Option D)} {i : Nat} {d : D}, Le a b → a[i]? = some (some d) → b[i]? = some (some d)
  | _, _, _, _, .nil, e => e
  | _, _, 0, _, .keep h, e => e
  | _, _, i + 1, _, .keep h, e => by
    have z := Le.get (i := i) h (by simpa using e)
    simpa using z
  | _, _, 0, _, .drop h, e => by simp at e
  | _, _, i + 1, _, .drop h, e => by
    have z := Le.get (i := i) h (by simpa using e)
    simpa using z
theorem Le.refl : ∀ (a : List (Option D)), Le a a
  | [] => .nil
  | _ :: a => .keep (Le.refl a)
theorem SR.le (h : SR K φ H ρ σ) (l : Le ρ' ρ) : SR K φ H ρ' σ := ⟨by rw [h.1, l.length], fun i d e => h.2 i d (l.get e)⟩
theorem SR.start : ∀ {ds : List D} {vs : List V} {n : Nat}, Reps K φ H ds vs → SR K φ H (ds.map some ++ List.replicate n none) (vs.map some ++ List.replicate n none)
  | [], vs, n, h => by
    have e : vs = [] := h
    rw [e]
    refine ⟨by simp, fun i d hd => ?_⟩
    simp [List.getElem?_replicate] at hd
  | d :: ds, vs, n, h => by
    obtain ⟨v, r, rfl, h1, h2⟩ := (show ∃ v r, vs = v :: r ∧ Rep K φ H d v ∧ Reps K φ H ds r from h)
    obtain ⟨l, g⟩ := SR.start (n := n) h2
    refine ⟨by simp only [List.map_cons, List.cons_append, List.length_cons, l], fun i d' hd => ?_⟩
    cases i with
    | zero =>
      simp at hd
      exact ⟨v, rfl, hd ▸ h1⟩
    | succ i =>
      obtain ⟨w, e, q⟩ := g i d' (by simpa using hd)
      exact ⟨w, by simpa using e, q⟩
end

/-! ### a state: the slots by trees, the live facts J -/
/-- J leans on what H tracks alone -/
def Mo (H : Hp) (J : Hp → Prop) : Prop := ∀ H1 H2 : Hp, (∀ a o, H a ≠ none → H1 a = some o → H2 a = some o) → J H1 → J H2
theorem Mo.up {H H' : Hp} {J : Hp → Prop} (m : Mo H J) (s : ∀ a, H a ≠ none → H' a ≠ none) : Mo H' J := fun H1 H2 k j => m H1 H2 (fun a o h e => k a o (s a h) e) j
theorem Mo.same {H H' : Hp} {J : Hp → Prop} (m : Mo H J) (s : Same H H') : Mo H' J := m.up (same_tr s)
theorem Mo.upd {H : Hp} {J : Hp → Prop} {l : Addr} {o : HO} (m : Mo H J) : Mo (L2.upd H l o) J := m.up upd_tr
theorem Mo.and {H : Hp} {J J' : Hp → Prop} (m : Mo H J) (m' : Mo H J') : Mo H (fun H => J H ∧ J' H) := fun H1 H2 k j => ⟨m H1 H2 k j.1, m' H1 H2 k j.2⟩
theorem Mo.at {H : Hp} {l : Addr} {o : HO} (h : H l ≠ none) : Mo H (fun H => H l = some o) := fun H1 H2 k j => k l o h j
theorem Mo.sames {H H0 : Hp} (h : ∀ a, H0 a ≠ none → H a ≠ none) : Mo H (Same H0) := fun H1 H2 k j b o e => k b o (h b (by rw [e]; exact fun z => by cases z)) (j b o e)
theorem Mo.but {φ : Addr → Prop} {H H0 : Hp} (h : ∀ a, H0 a ≠ none → H a ≠ none) : Mo H (But φ H0) := fun H1 H2 k j => ⟨fun b o p e => k b o (h b (by rw [e]; exact fun z => by cases z)) (j.keep b o p e), fun b hb => by
  cases e : H1 b with
  | none => exact absurd e (j.tr b hb)
  | some o => rw [k b o (h b hb) e]; exact fun z => by cases z⟩
theorem Mo.tt {H : Hp} {p : Prop} : Mo H (fun _ => p) := fun H1 H2 k j => j
/-- what is free, and every tuple, is in φ -/
structure Frm (φ : Addr → Prop) (H : Hp) : Prop where
  new : ∀ a, H a = none → φ a
  tup : ∀ a xs, H a = some (.tup xs) → φ a
instance {φ : Addr → Prop} {H : Hp} : CoeFun (Frm φ H) (fun _ => ∀ a, H a = none → φ a) := ⟨Frm.new⟩
theorem Frm.same {φ : Addr → Prop} {H H' : Hp} (F : Frm φ H) (s : Same H H') : Frm φ H' := ⟨fun a h => F.new a (s.free h), fun a xs h => by
  cases e : H a with
  | none => exact F.new a e
  | some o =>
    have z := s a o e
    rw [h] at z
    cases z
    exact F.tup a xs e⟩
theorem Frm.fst {φ : Addr → Prop} {l : Addr} {H : Hp} (F : Frm (fun a => φ a ∧ a ≠ l) H) : Frm φ H := ⟨fun a h => (F.new a h).1, fun a xs h => (F.tup a xs h).1⟩
theorem Frm.upd {φ : Addr → Prop} {H : Hp} {l : Addr} {o : HO} (F : Frm φ H) (ho : ∀ xs, o ≠ .tup xs) : Frm φ (L2.upd H l o) := ⟨fun a h => by
  by_cases e : a = l
  · rw [e, upd_same] at h; cases h
  · rw [upd_ne e] at h; exact F.new a h, fun a xs h => by
  by_cases e : a = l
  · rw [e, upd_same] at h; exact absurd (Option.some.inj h) (ho xs)
  · rw [upd_ne e] at h; exact F.tup a xs h⟩
theorem Frm.updW {φ : Addr → Prop} {H : Hp} {l : Addr} {o : HO} (F : Frm φ H) (ho : ∀ xs, o ≠ .tup xs) : Frm (fun a => φ a ∧ a ≠ l) (L2.upd H l o) := ⟨fun a h => ⟨(F.upd ho).new a h, fun e => by rw [e, upd_same] at h; cases h⟩, fun a xs h => ⟨(F.upd ho).tup a xs h, fun e => by
  rw [e, upd_same] at h
  exact ho xs (Option.some.inj h)⟩⟩
theorem Frm.at {φ : Addr → Prop} {H : Hp} {l : Addr} {o : HO} (F : Frm φ H) (h : H l = some o) (ho : ∀ xs, o ≠ .tup xs) : Frm (fun a => φ a ∧ a ≠ l) H := ⟨fun a ha => ⟨F.new a ha, fun e => by rw [e, h] at ha; cases ha⟩, fun a xs ha => ⟨F.tup a xs ha, fun e => by
  rw [e, h] at ha
  exact ho xs (Option.some.inj ha)⟩⟩
structure At (K : PySem.W.Frag) (φ : Addr → Prop) (J : Hp → Prop) (ρ : List (Option D)) (σ : L2.St) (H : Hp) : Prop where
  sr : SR K φ H ρ σ
  fr : Frm φ H
  j : J H
  mono : Mo H J
section
variable {K : PySem.W.Frag} {φ φ' : Addr → Prop} {J J' : Hp → Prop} {H H' : Hp} {ρ ρ' : List (Option D)} {σ : L2.St} {d : D} {v : V}
theorem At.same (A : At K φ J ρ σ H) (s : Same H H') : At K φ J ρ σ H' :=
  ⟨A.sr.up (Up.of (But.of s)), A.fr.same s, A.mono _ _ (fun a o _ e => s a o e) A.j, A.mono.same s⟩
theorem At.le (A : At K φ J ρ σ H) (l : Le ρ' ρ) : At K φ J ρ' σ H := ⟨A.sr.le l, A.fr, A.j, A.mono⟩
theorem At.set (A : At K φ J ρ σ H) (i : Nat) (r : Rep K φ H d v) : At K φ J (ρ.set i (some d)) (σ.set i (some v)) H := ⟨A.sr.set i r, A.fr, A.j, A.mono⟩
theorem At.live (A : At K φ J ρ σ H) (j : J' H) (m : Mo H J') : At K φ J' ρ σ H := ⟨A.sr, A.fr, j, m⟩
/-- a new live object at p -/
theorem At.newLive {p : Addr} {o : HO} (A : At K φ J ρ σ H) (hp : H p = none) (j : J' (L2.upd H p o)) (m : Mo (L2.upd H p o) J') (ho : ∀ xs, o ≠ .tup xs := by intro xs h; cases h) : At K (fun a => φ a ∧ a ≠ p) J' ρ σ (L2.upd H p o) :=
  ⟨A.sr.up fun a u q e => ⟨⟨q, ne_of_none e hp⟩, by rw [upd_ne (ne_of_none e hp)]; exact e⟩, A.fr.updW ho, j, m⟩
/-- a live object is written -/
theorem At.upd {l : Addr} {o : HO} (A : At K φ J ρ σ H) (hl : ¬ φ l) (j : J' (L2.upd H l o)) (m : Mo (L2.upd H l o) J') (ho : ∀ xs, o ≠ .tup xs := by intro xs h; cases h) : At K φ J' ρ σ (L2.upd H l o) :=
  ⟨A.sr.up (Up.of ((But.refl φ H).upd hl)), A.fr.upd ho, j, m⟩
/-- slots and heap may be another's, if they say the same -/
theorem Same.upd_live {H H' : Hp} {l : Addr} {o : HO} (s : Same H H') (hl : H l = none) : Same H (L2.upd H' l o) := fun b u e => by
  rw [upd_ne (ne_of_none e hl)]
  exact s b u e
end

/-! ### what a reading evaluates to -/
section
variable (K : PySem.W.Frag) (φ : Addr → Prop) (J : Hp → Prop)
def EvP (te : TE) (ρ : List (Option D)) (P : D → Prop) : Prop := ∀ σ H, At K φ J ρ σ H → ∀ Q : VK, (∀ v d H', But φ H H' → At K φ J ρ σ H' → P d → Rep K φ H' d v → Q v H') → te σ H Q
abbrev EvD (te : TE) (ρ : List (Option D)) (d : D) : Prop := EvP K φ J te ρ (fun x => x = d)
abbrev EvI (te : TE) (ρ : List (Option D)) (p : Int → Prop) : Prop := EvP K φ J te ρ (fun x => ∃ i, x = .int i ∧ p i)
abbrev EvB (te : TE) (ρ : List (Option D)) (p : Bool → Prop) : Prop := EvP K φ J te ρ (fun x => ∃ b, x = .bl b ∧ p b)
def EvA (ta : TA) (ρ : List (Option D)) (P : List D → Prop) : Prop := ∀ σ H, At K φ J ρ σ H → ∀ Q : List V → Hp → Prop, (∀ vs ds H', But φ H H' → At K φ J ρ σ H' → P ds → Reps K φ H' ds vs → Q vs H') → ta σ H Q
def EvT (tt : TT) (ρ : List (Option D)) (p : Bool → Prop) : Prop := ∀ σ H, At K φ J ρ σ H → ∀ Q : Bool → Hp → Prop, (∀ b H', But φ H H' → At K φ J ρ σ H' → p b → Q b H') → tt σ H Q
def EvO (to : TO) (ρ : List (Option D)) (o : Option Int) : Prop := ∀ σ H, At K φ J ρ σ H → ∀ Q : Option Int → Hp → Prop, (∀ H', But φ H H' → At K φ J ρ σ H' → Q o H') → to σ H Q
/-- a two-place operation by trees -/
def Op2 (r : R2) (x y : D) (P : D → Prop) : Prop := ∀ (H : Hp) v w, Frm φ H → Rep K φ H x v → Rep K φ H y w → ∀ Q : VK, (∀ u z H', Same H H' → P z → Rep K φ H' z u → Q u H') → r v w H Q
/-- a call by trees -/
def Cl (r : List V → Hp → VK → Prop) (ds : List D) (P : D → Prop) : Prop := ∀ (H : Hp) vs, Frm φ H → Reps K φ H ds vs → ∀ Q : VK, (∀ u z H', Same H H' → P z → Rep K φ H' z u → Q u H') → r vs H Q
end
section
variable {K : PySem.W.Frag} {φ : Addr → Prop} {J : Hp → Prop} {ρ : List (Option D)} {ta tb te tc : TE} {x y z d : D} {P Pa Pb : D → Prop} {i j : Int} {p q : Int → Prop}
theorem EvP.imp {P' : D → Prop} (h : EvP K φ J te ρ P) (k : ∀ d, P d → P' d) : EvP K φ J te ρ P' := fun σ H A Q q => h σ H A Q fun v d H' b A' pd r => q v d H' b A' (k d pd) r
theorem EvP.is {d' : D} (h : EvD K φ J te ρ d) (e : d = d') : EvD K φ J te ρ d' := e ▸ h
theorem ev_var {i : Nat} (h : ρ[i]? = some (some d)) : EvD K φ J (tVar i) ρ d := fun σ H A Q q => by
  obtain ⟨v, e, r⟩ := A.sr.2 i d h
  exact ⟨v, e, q v d H (But.refl _ _) A rfl r⟩
theorem ev_int : EvD K φ J (tC (.int i)) ρ (.int i) := fun σ H A Q q => q _ _ H (But.refl _ _) A rfl rfl
theorem ev_bl {b : Bool} : EvD K φ J (tC (.bl b)) ρ (.bl b) := fun σ H A Q q => q _ _ H (But.refl _ _) A rfl rfl
theorem ev_str {s : Str} : EvD K φ J (tC (.str s)) ρ (.str s) := fun σ H A Q q => q _ _ H (But.refl _ _) A rfl rfl
theorem ev_non : EvD K φ J (tC .non) ρ .non := fun σ H A Q q => q _ _ H (But.refl _ _) A rfl rfl
theorem ev_ty {n : String} : EvD K φ J (tC (.ty n)) ρ (.raw (.ty n)) := fun σ H A Q q => q _ _ H (But.refl _ _) A rfl rfl
theorem ev_ref {a : Addr} : EvD K φ J (tC (.ref a)) ρ (.raw (.ref a)) := fun σ H A Q q => q _ _ H (But.refl _ _) A rfl rfl
theorem ev_op {r : R2} (ha : EvP K φ J ta ρ Pa) (hb : EvP K φ J tb ρ Pb) (hr : ∀ x y, Pa x → Pb y → Op2 K φ r x y P) : EvP K φ J (tOp r ta tb) ρ P := fun σ H A Q q =>
  ha σ H A _ fun v x H1 b1 A1 px r1 => hb σ H1 A1 _ fun w y H2 b2 A2 py r2 => hr x y px py H2 v w A2.fr (r1.mono b2) r2 Q fun u z H3 s pz r3 => q u z H3 ((b1.trans b2).trans (But.of s)) (A2.same s) pz r3
theorem ev_opD {r : R2} (ha : EvD K φ J ta ρ x) (hb : EvD K φ J tb ρ y) (hr : Op2 K φ r x y P) : EvP K φ J (tOp r ta tb) ρ P := ev_op ha hb fun _ _ e1 e2 => by
  subst e1 e2
  exact hr
/-! the operators on ints -/
theorem o2_I0 {g : Int → Int → V} {z : D} (hz : ∀ H, Rep K φ H z (g i j)) : Op2 K φ (rI0 g) (.int i) (.int j) (fun x => x = z) := fun H v w _ r1 r2 Q q => ⟨i, j, r1, r2, q _ _ H (Same.refl H) rfl (hz H)⟩
theorem o2_I {C : Int → Int → Prop} {g : Int → Int → V} {z : D} (hc : C i j) (hz : ∀ H, Rep K φ H z (g i j)) : Op2 K φ (rI C g) (.int i) (.int j) (fun x => x = z) := fun H v w _ r1 r2 Q q => ⟨i, j, r1, r2, hc, q _ _ H (Same.refl H) rfl (hz H)⟩
theorem ev_add (ha : EvD K φ J ta ρ (.int i)) (hb : EvD K φ J tb ρ (.int j)) : EvD K φ J (tOp (rI0 fun i j => .int (i + j)) ta tb) ρ (.int (i + j)) := ev_opD ha hb (o2_I0 fun _ => rfl)
theorem ev_sub (ha : EvD K φ J ta ρ (.int i)) (hb : EvD K φ J tb ρ (.int j)) : EvD K φ J (tOp (rI0 fun i j => .int (i - j)) ta tb) ρ (.int (i - j)) := ev_opD ha hb (o2_I0 fun _ => rfl)
theorem ev_lt (ha : EvD K φ J ta ρ (.int i)) (hb : EvD K φ J tb ρ (.int j)) : EvD K φ J (tOp (rI0 fun i j => .bl (decide (i < j))) ta tb) ρ (.bl (decide (i < j))) := ev_opD ha hb (o2_I0 fun _ => rfl)
theorem ev_le (ha : EvD K φ J ta ρ (.int i)) (hb : EvD K φ J tb ρ (.int j)) : EvD K φ J (tOp (rI0 fun i j => .bl (decide (i ≤ j))) ta tb) ρ (.bl (decide (i ≤ j))) := ev_opD ha hb (o2_I0 fun _ => rfl)
theorem ev_gt (ha : EvD K φ J ta ρ (.int i)) (hb : EvD K φ J tb ρ (.int j)) : EvD K φ J (tOp (rI0 fun i j => .bl (decide (j < i))) ta tb) ρ (.bl (decide (j < i))) := ev_opD ha hb (o2_I0 fun _ => rfl)
theorem ev_ge (ha : EvD K φ J ta ρ (.int i)) (hb : EvD K φ J tb ρ (.int j)) : EvD K φ J (tOp (rI0 fun i j => .bl (decide (j ≤ i))) ta tb) ρ (.bl (decide (j ≤ i))) := ev_opD ha hb (o2_I0 fun _ => rfl)
theorem ev_mul (ha : EvD K φ J ta ρ (.int i)) (hb : EvD K φ J tb ρ (.int j)) (hc : CMul i j) : EvD K φ J (tOp (rI CMul fun i j => .int (i * j)) ta tb) ρ (.int (i * j)) := ev_opD ha hb (o2_I hc fun _ => rfl)
theorem ev_mulW (ha : EvD K φ J ta ρ (.int i)) (hb : EvD K φ J tb ρ (.int j)) (hc : CMulW i j) : EvD K φ J (tOp (rI CMulW fun i j => .int (i * j)) ta tb) ρ (.int (i * j)) := ev_opD ha hb (o2_I hc fun _ => rfl)
theorem ev_fdiv (ha : EvD K φ J ta ρ (.int i)) (hb : EvD K φ J tb ρ (.int j)) (hc : CDiv i j) : EvD K φ J (tOp (rI CDiv fun i j => .int (i / j)) ta tb) ρ (.int (i / j)) := ev_opD ha hb (o2_I hc fun _ => rfl)
theorem ev_fdivW (ha : EvD K φ J ta ρ (.int i)) (hb : EvD K φ J tb ρ (.int j)) (hc : CDivW i j) : EvD K φ J (tOp (rI CDivW fun i j => .int (i / j)) ta tb) ρ (.int (i / j)) := ev_opD ha hb (o2_I hc fun _ => rfl)
theorem ev_mod (ha : EvD K φ J ta ρ (.int i)) (hb : EvD K φ J tb ρ (.int j)) (hc : 0 < j) : EvD K φ J (tOp (rI (fun _ j => 0 < j) fun i j => .int (i % j)) ta tb) ρ (.int (i % j)) := ev_opD ha hb (o2_I hc fun _ => rfl)
theorem ev_neg (ha : EvD K φ J ta ρ (.int i)) : EvD K φ J (tUn (rU fun i => .int (-i)) ta) ρ (.int (-i)) := fun σ H A Q q =>
  ha σ H A _ fun v x H1 b1 A1 px r1 => by
    subst px
    exact ⟨i, r1, q _ _ H1 b1 A1 rfl rfl⟩
/-- scalars compared -/
def scD : D → D → Bool
  | .non, .non => true
  | .bl _, .bl _ => true
  | .int _, .int _ => true
  | .str _, .str _ => true
  | _, _ => false
def eqS : D → D → Bool
  | .non, .non => true
  | .bl a, .bl b => a == b
  | .int a, .int b => decide (a = b)
  | .str a, .str b => decide (a = b)
  | _, _ => false
end
end DL
namespace DL
open PySem PySem.Spec PyProof.Rows L2

section
variable {K : PySem.W.Frag} {φ φ' : Addr → Prop} {J J' : Hp → Prop} {H H' : Hp} {ρ ρ' : List (Option D)} {σ : L2.St} {ta tb te tc : TE} {x y z d : D} {P Pa Pb Pc : D → Prop} {i j : Int} {p q : Int → Prop} {b c : Bool} {s t : Str} {ds es : List D} {v : V} {vs : List V}

/-! ### one-place forms -/
theorem ev_un {r : V → Hp → VK → Prop} (ha : EvP K φ J ta ρ Pa) (hr : ∀ x, Pa x → ∀ (H : Hp) v, Frm φ H → Rep K φ H x v → ∀ Q : VK, (∀ u z H', Same H H' → P z → Rep K φ H' z u → Q u H') → r v H Q) : EvP K φ J (tUn r ta) ρ P := fun σ H A Q q =>
  ha σ H A _ fun v x H1 b1 A1 px r1 => hr x px H1 v A1.fr r1 Q fun u z H2 s pz r2 => q u z H2 (b1.trans (But.of s)) (A1.same s) pz r2

/-! ### == of scalars -/
theorem o2_eqI : Op2 K φ rEq (.int i) (.int j) (fun x => x = .bl (decide (i = j))) := fun H v w _ r1 r2 Q q => by
  cases (show v = .int i from r1)
  cases (show w = .int j from r2)
  exact ⟨rfl, q _ _ H (Same.refl H) rfl (by rw [dec_int, Bool.beq_eq_decide_eq]; rfl)⟩
theorem o2_neI : Op2 K φ rNe (.int i) (.int j) (fun x => x = .bl (!decide (i = j))) := fun H v w _ r1 r2 Q q => by
  cases (show v = .int i from r1)
  cases (show w = .int j from r2)
  exact ⟨rfl, q _ _ H (Same.refl H) rfl (by rw [dec_int, Bool.beq_eq_decide_eq]; rfl)⟩
theorem o2_eqB : Op2 K φ rEq (.bl b) (.bl c) (fun x => x = .bl (b == c)) := fun H v w _ r1 r2 Q q => by
  cases (show v = .bl b from r1)
  cases (show w = .bl c from r2)
  exact ⟨rfl, q _ _ H (Same.refl H) rfl (by rw [dec_bl]; rfl)⟩
theorem o2_neB : Op2 K φ rNe (.bl b) (.bl c) (fun x => x = .bl (!(b == c))) := fun H v w _ r1 r2 Q q => by
  cases (show v = .bl b from r1)
  cases (show w = .bl c from r2)
  exact ⟨rfl, q _ _ H (Same.refl H) rfl (by rw [dec_bl]; rfl)⟩
theorem dec_strD : decide (V.str s = V.str t) = decide (s = t) := by
  by_cases h : s = t
  · subst h
    simp
  · rw [decide_eq_false h, decide_eq_false fun z => h (V.str.inj z)]
theorem o2_eqS : Op2 K φ rEq (.str s) (.str t) (fun x => x = .bl (decide (s = t))) := fun H v w _ r1 r2 Q q => by
  cases (show v = .str s from r1)
  cases (show w = .str t from r2)
  exact ⟨rfl, q _ _ H (Same.refl H) rfl (by rw [dec_strD]; rfl)⟩
theorem o2_neS : Op2 K φ rNe (.str s) (.str t) (fun x => x = .bl (!decide (s = t))) := fun H v w _ r1 r2 Q q => by
  cases (show v = .str s from r1)
  cases (show w = .str t from r2)
  exact ⟨rfl, q _ _ H (Same.refl H) rfl (by rw [dec_strD]; rfl)⟩
theorem ev_eqI (ha : EvD K φ J ta ρ (.int i)) (hb : EvD K φ J tb ρ (.int j)) : EvD K φ J (tOp rEq ta tb) ρ (.bl (decide (i = j))) := ev_opD ha hb o2_eqI
theorem ev_neI (ha : EvD K φ J ta ρ (.int i)) (hb : EvD K φ J tb ρ (.int j)) : EvD K φ J (tOp rNe ta tb) ρ (.bl (!decide (i = j))) := ev_opD ha hb o2_neI
theorem ev_eqB (ha : EvD K φ J ta ρ (.bl b)) (hb : EvD K φ J tb ρ (.bl c)) : EvD K φ J (tOp rEq ta tb) ρ (.bl (b == c)) := ev_opD ha hb o2_eqB
theorem ev_neB (ha : EvD K φ J ta ρ (.bl b)) (hb : EvD K φ J tb ρ (.bl c)) : EvD K φ J (tOp rNe ta tb) ρ (.bl (!(b == c))) := ev_opD ha hb o2_neB
theorem ev_eqS (ha : EvD K φ J ta ρ (.str s)) (hb : EvD K φ J tb ρ (.str t)) : EvD K φ J (tOp rEq ta tb) ρ (.bl (decide (s = t))) := ev_opD ha hb o2_eqS
theorem ev_neS (ha : EvD K φ J ta ρ (.str s)) (hb : EvD K φ J tb ρ (.str t)) : EvD K φ J (tOp rNe ta tb) ρ (.bl (!decide (s = t))) := ev_opD ha hb o2_neS

/-! ### is None -/
def isNon : D → Bool
  | .non => true
  | .raw w => decide (w = .non)
  | _ => false
def rIsN : R2 := fun x y H Q => y = .non ∧ Q (.bl (decide (x = .non))) H
def rNotN : R2 := fun x y H Q => y = .non ∧ Q (.bl (!decide (x = .non))) H
theorem op_isN1 {X : Cx} : OpR X (compareOp .Is) rIsN := op_isN
theorem op_notN1 {X : Cx} : OpR X (compareOp .IsNot) rNotN := op_notN
theorem isNon_rep : ∀ {d : D}, Rep K φ H d v → decide (v = .non) = isNon d
  | .non, h => by cases (show v = .non from h); rfl
  | .bl _, h => by cases (show v = _ from h); rfl
  | .int _, h => by cases (show v = _ from h); rfl
  | .str _, h => by cases (show v = _ from h); rfl
  | .raw w, h => by cases (show v = _ from h); rfl
  | .tup ds, h => by
    obtain ⟨a, vs, e, _⟩ := (show ∃ a vs, v = .ref a ∧ PT K φ H a vs ∧ Reps K φ H ds vs from h)
    subst e
    rfl
  | .lst ds, h => by
    obtain ⟨a, vs, e, _⟩ := (show ∃ a vs, v = .ref a ∧ PL K φ H a vs ∧ Reps K φ H ds vs from h)
    subst e
    rfl
  | .dk ks ds, h => by
    obtain ⟨a, vs, e, _⟩ := (show ∃ a vs, v = .ref a ∧ (φ a ∧ H a = some (.dK (ks.zip vs)) ∧ ks.length = ds.length) ∧ Reps K φ H ds vs from h)
    subst e
    rfl
  | .dt ks ds, h => by
    obtain ⟨a, vs, e, _⟩ := (show ∃ a vs, v = .ref a ∧ (φ a ∧ H a = some (.dT (ks.zip vs)) ∧ ks.length = ds.length) ∧ Reps K φ H ds vs from h)
    subst e
    rfl
theorem ev_isN (ha : EvD K φ J ta ρ x) : EvD K φ J (tOp rIsN ta (tC .non)) ρ (.bl (isNon x)) := ev_opD ha ev_non fun H v w _ r1 r2 Q q => ⟨r2, q _ _ H (Same.refl H) rfl (by rw [isNon_rep r1]; rfl)⟩
theorem ev_notN (ha : EvD K φ J ta ρ x) : EvD K φ J (tOp rNotN ta (tC .non)) ρ (.bl (!isNon x)) := ev_opD ha ev_non fun H v w _ r1 r2 Q q => ⟨r2, q _ _ H (Same.refl H) rfl (by rw [isNon_rep r1]; rfl)⟩

/-! ### chains, and, or, not, if-else -/
theorem ev_chain {r r' : R2} {k : Bool} (ha : EvD K φ J ta ρ x) (hb : EvD K φ J tb ρ y) (hr : Op2 K φ r x y (fun u => u = .bl k)) (hc : k = true → EvD K φ J tc ρ z) (hr' : k = true → Op2 K φ r' y z (fun u => u = .bl b)) :
    EvD K φ J (tChain r r' ta tb tc) ρ (.bl (k && b)) := fun σ H A Q q =>
  ha σ H A _ fun v x1 H1 b1 A1 e1 r1 => hb σ H1 A1 _ fun w y1 H2 b2 A2 e2 r2 => by
    subst e1 e2
    refine hr H2 v w A2.fr (r1.mono b2) r2 _ fun u z1 H3 s3 e3 r3 => ?_
    subst e3
    refine ⟨k, r3, ?_⟩
    cases k with
    | false =>
      rw [if_neg (by simp)]
      exact q _ _ H3 ((b1.trans b2).trans (But.of s3)) (A2.same s3) rfl rfl
    | true =>
      rw [if_pos rfl]
      refine hc rfl σ H3 (A2.same s3) _ fun w' z1 H4 b4 A4 e4 r4 => ?_
      subst e4
      exact hr' rfl H4 w w' A4.fr ((r2.mono (But.of s3)).mono b4) r4 Q fun u z1 H5 s5 e5 r5 => q u z1 H5 ((((b1.trans b2).trans (But.of s3)).trans b4).trans (But.of s5)) (A4.same s5) e5 r5
theorem ev_chainI {f g : Int → Int → Bool} {i j k : Int} (ha : EvD K φ J ta ρ (.int i)) (hb : EvD K φ J tb ρ (.int j)) (hc : EvD K φ J tc ρ (.int k)) :
    EvD K φ J (tChain (rI0 fun i j => .bl (f i j)) (rI0 fun i j => .bl (g i j)) ta tb tc) ρ (.bl (f i j && g j k)) := ev_chain ha hb (o2_I0 fun _ => rfl) (fun _ => hc) fun _ => o2_I0 fun _ => rfl
theorem ev_andV (ha : EvD K φ J ta ρ (.bl b)) (hb : b = true → EvD K φ J tb ρ (.bl c)) : EvD K φ J (tAndV ta tb) ρ (.bl (b && c)) := fun σ H A Q q =>
  ha σ H A _ fun v x1 H1 b1 A1 e1 r1 => by
    subst e1
    refine ⟨b, r1, ?_⟩
    cases b with
    | false =>
      rw [if_neg (by simp)]
      exact q _ _ H1 b1 A1 rfl rfl
    | true =>
      rw [if_pos rfl]
      exact hb rfl σ H1 A1 Q fun w y H2 b2 A2 e2 r2 => q w y H2 (b1.trans b2) A2 e2 r2
theorem ev_orV (ha : EvD K φ J ta ρ (.bl b)) (hb : b = false → EvD K φ J tb ρ (.bl c)) : EvD K φ J (tOrV ta tb) ρ (.bl (b || c)) := fun σ H A Q q =>
  ha σ H A _ fun v x1 H1 b1 A1 e1 r1 => by
    subst e1
    refine ⟨b, r1, ?_⟩
    cases b with
    | true =>
      rw [if_pos rfl]
      exact q _ _ H1 b1 A1 rfl rfl
    | false =>
      rw [if_neg (by simp)]
      exact hb rfl σ H1 A1 Q fun w y H2 b2 A2 e2 r2 => q w y H2 (b1.trans b2) A2 e2 r2
theorem ev_notV (ha : EvD K φ J ta ρ (.bl b)) : EvD K φ J (tNotV ta) ρ (.bl (!b)) := fun σ H A Q q =>
  ha σ H A _ fun v x1 H1 b1 A1 e1 r1 => by
    subst e1
    exact ⟨b, r1, q _ _ H1 b1 A1 rfl rfl⟩
theorem ev_one (ha : EvP K φ J ta ρ P) : EvP K φ J ta ρ P := ha
theorem ev_if {tt : TT} {p : Bool → Prop} (hc : EvT K φ J tt ρ p) (h1 : p true → EvP K φ J ta ρ P) (h2 : p false → EvP K φ J tb ρ P) : EvP K φ J (tIf tt ta tb) ρ P := fun σ H A Q q =>
  hc σ H A _ fun k H1 b1 A1 pk => by
    cases k with
    | true =>
      rw [if_pos rfl]
      exact h1 pk σ H1 A1 Q fun w y H2 b2 A2 e2 r2 => q w y H2 (b1.trans b2) A2 e2 r2
    | false =>
      rw [if_neg (by simp)]
      exact h2 pk σ H1 A1 Q fun w y H2 b2 A2 e2 r2 => q w y H2 (b1.trans b2) A2 e2 r2

/-! ### tests -/
abbrev EvX (K : PySem.W.Frag) (φ : Addr → Prop) (J : Hp → Prop) (tt : TT) (ρ : List (Option D)) (b : Bool) : Prop := EvT K φ J tt ρ fun x => x = b
theorem EvT.imp {tt : TT} {p p' : Bool → Prop} (h : EvT K φ J tt ρ p) (k : ∀ b, p b → p' b) : EvT K φ J tt ρ p' := fun σ H A Q q => h σ H A Q fun b H' bt A' pb => q b H' bt A' (k b pb)
theorem EvT.is {tt : TT} {b c : Bool} (h : EvX K φ J tt ρ b) (e : b = c) : EvX K φ J tt ρ c := e ▸ h
theorem et_testP {p : Bool → Prop} (h : EvB K φ J te ρ p) : EvT K φ J (tTest te) ρ p := fun σ H A Q q => h σ H A _ fun v d H' bt A' ⟨b, e, pb⟩ r => by
  subst e
  exact ⟨b, r, q b H' bt A' pb⟩
theorem et_BP {p : Bool → Prop} (h : EvB K φ J te ρ p) : EvT K φ J (tB te) ρ p := et_testP h
theorem ev_b (h : EvD K φ J te ρ (.bl b)) : EvB K φ J te ρ (fun x => x = b) := h.imp fun d e => ⟨b, e, rfl⟩
theorem ev_i (h : EvD K φ J te ρ (.int i)) : EvI K φ J te ρ (fun x => x = i) := h.imp fun d e => ⟨i, e, rfl⟩
theorem et_test (h : EvD K φ J te ρ (.bl b)) : EvX K φ J (tTest te) ρ b := et_testP (ev_b h)
theorem et_B (h : EvD K φ J te ρ (.bl b)) : EvX K φ J (tB te) ρ b := et_BP (ev_b h)
theorem et_and {t1 t2 : TT} (ha : EvX K φ J t1 ρ b) (hb : b = true → EvX K φ J t2 ρ c) : EvX K φ J (tAnd t1 t2) ρ (b && c) := fun σ H A Q q => ha σ H A _ fun k H1 b1 A1 e1 => by
  subst e1
  cases k with
  | false =>
    rw [if_neg (by simp)]
    exact q _ H1 b1 A1 rfl
  | true =>
    rw [if_pos rfl]
    exact hb rfl σ H1 A1 Q fun k2 H2 b2 A2 e2 => q k2 H2 (b1.trans b2) A2 e2
theorem et_or {t1 t2 : TT} (ha : EvX K φ J t1 ρ b) (hb : b = false → EvX K φ J t2 ρ c) : EvX K φ J (tOr t1 t2) ρ (b || c) := fun σ H A Q q => ha σ H A _ fun k H1 b1 A1 e1 => by
  subst e1
  cases k with
  | true =>
    rw [if_pos rfl]
    exact q _ H1 b1 A1 rfl
  | false =>
    rw [if_neg (by simp)]
    exact hb rfl σ H1 A1 Q fun k2 H2 b2 A2 e2 => q k2 H2 (b1.trans b2) A2 e2
theorem et_not {t1 : TT} (ha : EvX K φ J t1 ρ b) : EvX K φ J (tNot t1) ρ (!b) := fun σ H A Q q => ha σ H A _ fun k H1 b1 A1 e1 => by
  subst e1
  exact q _ H1 b1 A1 rfl
theorem et_notP {t1 : TT} {p : Bool → Prop} (ha : EvT K φ J t1 ρ p) : EvT K φ J (tNot t1) ρ (fun x => p (!x)) := fun σ H A Q q => ha σ H A _ fun k H1 b1 A1 e1 => q _ H1 b1 A1 (by show p (!(!k)); rw [Bool.not_not]; exact e1)

/-! ### arguments, displays -/
abbrev EvAD (K : PySem.W.Frag) (φ : Addr → Prop) (J : Hp → Prop) (ta : TA) (ρ : List (Option D)) (ds : List D) : Prop := EvA K φ J ta ρ fun x => x = ds
theorem ea_nil : EvAD K φ J tNil ρ [] := fun σ H A Q q => q [] [] H (But.refl _ _) A rfl rfl
theorem ea_consP {tr : TA} {Pr : List D → Prop} (ha : EvP K φ J ta ρ P) (hr : EvA K φ J tr ρ Pr) : EvA K φ J (tCons ta tr) ρ (fun x => ∃ d r, x = d :: r ∧ P d ∧ Pr r) := fun σ H A Q q =>
  ha σ H A _ fun v x H1 b1 A1 px r1 => hr σ H1 A1 _ fun ws ys H2 b2 A2 py r2 => q (v :: ws) (x :: ys) H2 (b1.trans b2) A2 ⟨x, ys, rfl, px, py⟩ (Reps.cons (r1.mono b2) r2)
theorem ea_cons {tr : TA} (ha : EvD K φ J ta ρ x) (hr : EvAD K φ J tr ρ ds) : EvAD K φ J (tCons ta tr) ρ (x :: ds) := fun σ H A Q q =>
  ha σ H A _ fun v y H1 b1 A1 e1 r1 => hr σ H1 A1 _ fun ws ys H2 b2 A2 e2 r2 => q (v :: ws) (y :: ys) H2 (b1.trans b2) A2 (by rw [e1, e2]) (Reps.cons (r1.mono b2) r2)
theorem sz {n : Nat} (h : n ≤ 1000000) : n ≤ sizeLine := Nat.le_trans h (by decide)
theorem szlt {n : Nat} (h : n ≤ 1000000) : n < sizeLine := Nat.lt_of_le_of_lt h (by decide)
theorem ev_tupP {ta : TA} {Pr : List D → Prop} (ha : EvA K φ J ta ρ Pr) (hl : ∀ r, Pr r → r.length ≤ 1000000) : EvP K φ J (tTup ta) ρ (fun x => ∃ r, x = .tup r ∧ Pr r) := fun σ H A Q q =>
  ha σ H A _ fun vs ds H1 b1 A1 pd r1 => ⟨by rw [r1.length]; exact sz (hl _ pd), fun p hp =>
    q _ _ _ (b1.trans (But.of (same_new hp))) (A1.same (same_new hp)) ⟨ds, rfl, pd⟩ ⟨p, vs, rfl, .inl ⟨A1.fr p hp, .inl upd_same⟩, r1.mono (But.of (same_new hp))⟩⟩
theorem ev_lstP {ta : TA} {Pr : List D → Prop} (ha : EvA K φ J ta ρ Pr) (hl : ∀ r, Pr r → r.length ≤ 1000000) : EvP K φ J (tLst ta) ρ (fun x => ∃ r, x = .lst r ∧ Pr r) := fun σ H A Q q =>
  ha σ H A _ fun vs ds H1 b1 A1 pd r1 => ⟨by rw [r1.length]; exact sz (hl _ pd), fun p hp =>
    q _ _ _ (b1.trans (But.of (same_new hp))) (A1.same (same_new hp)) ⟨ds, rfl, pd⟩ ⟨p, vs, rfl, .inl ⟨A1.fr p hp, .inl upd_same⟩, r1.mono (But.of (same_new hp))⟩⟩
theorem ev_tup {ta : TA} (ha : EvAD K φ J ta ρ ds) (hl : ds.length ≤ 1000000 := by first | exact Nat.le_of_ble_eq_true rfl | decide) : EvD K φ J (tTup ta) ρ (.tup ds) := (ev_tupP ha fun r e => by rw [e]; exact hl).imp fun x ⟨r, e, e2⟩ => by rw [e, e2]
theorem ev_lst {ta : TA} (ha : EvAD K φ J ta ρ ds) (hl : ds.length ≤ 1000000 := by first | exact Nat.le_of_ble_eq_true rfl | decide) : EvD K φ J (tLst ta) ρ (.lst ds) := (ev_lstP ha fun r e => by rw [e]; exact hl).imp fun x ⟨r, e, e2⟩ => by rw [e, e2]

/-! ### subscripts -/
theorem Reps.atI {i : Int} (h : Reps K φ H ds vs) (e : L2.atI ds i = some d) : ∃ v, L2.atI vs i = some v ∧ Rep K φ H d v := by
  unfold L2.atI at e ⊢
  rw [h.length]
  cases hj : ixN ds.length i with
  | none => rw [hj] at e; cases e
  | some j =>
    rw [hj] at e
    exact h.get e
theorem rep_tup (h : Rep K φ H (.tup ds) v) : ∃ a vs, v = .ref a ∧ PT K φ H a vs ∧ Reps K φ H ds vs := h
theorem rep_lst (h : Rep K φ H (.lst ds) v) : ∃ a vs, v = .ref a ∧ PL K φ H a vs ∧ Reps K φ H ds vs := h
theorem o2_ixT (e : L2.atI ds i = some d) : Op2 K φ (rIxT K) (.tup ds) (.int i) (fun x => x = d) := fun H v w _ r1 r2 Q q => by
  obtain ⟨a, vs, rfl, p, r⟩ := rep_tup r1
  obtain ⟨u, e1, r3⟩ := r.atI e
  exact ⟨a, vs, i, u, rfl, r2, p.sq, e1, q u d H (Same.refl H) rfl r3⟩
theorem o2_ixL (e : L2.atI ds i = some d) : Op2 K φ (rIxL K) (.lst ds) (.int i) (fun x => x = d) := fun H v w _ r1 r2 Q q => by
  obtain ⟨a, vs, rfl, p, r⟩ := rep_lst r1
  obtain ⟨u, e1, r3⟩ := r.atI e
  exact ⟨a, vs, i, u, rfl, r2, p.sq, e1, q u d H (Same.refl H) rfl r3⟩
theorem ev_ixT (ha : EvD K φ J ta ρ (.tup ds)) (hb : EvD K φ J tb ρ (.int i)) (e : L2.atI ds i = some d) : EvD K φ J (tOp (rIxT K) ta tb) ρ d := ev_opD ha hb (o2_ixT e)
theorem ev_ixL (ha : EvD K φ J ta ρ (.lst ds)) (hb : EvD K φ J tb ρ (.int i)) (e : L2.atI ds i = some d) : EvD K φ J (tOp (rIxL K) ta tb) ρ d := ev_opD ha hb (o2_ixL e)
theorem ev_ixTP (ha : EvP K φ J ta ρ Pa) (hb : EvI K φ J tb ρ p) (e : ∀ x i, Pa x → p i → ∃ ds d, x = .tup ds ∧ L2.atI ds i = some d ∧ P d) : EvP K φ J (tOp (rIxT K) ta tb) ρ P := ev_op ha hb fun x y px ⟨i, e1, pi⟩ => by
  obtain ⟨ds, d, e2, e3, pd⟩ := e x i px pi
  subst e1 e2
  exact fun H v w f r1 r2 Q q => o2_ixT e3 H v w f r1 r2 Q fun u z H' s ez r => q u z H' s (ez ▸ pd) r
theorem ev_ixLP (ha : EvP K φ J ta ρ Pa) (hb : EvI K φ J tb ρ p) (e : ∀ x i, Pa x → p i → ∃ ds d, x = .lst ds ∧ L2.atI ds i = some d ∧ P d) : EvP K φ J (tOp (rIxL K) ta tb) ρ P := ev_op ha hb fun x y px ⟨i, e1, pi⟩ => by
  obtain ⟨ds, d, e2, e3, pd⟩ := e x i px pi
  subst e1 e2
  exact fun H v w f r1 r2 Q q => o2_ixL e3 H v w f r1 r2 Q fun u z H' s ez r => q u z H' s (ez ▸ pd) r

/-! ### slices -/
def cutD {α : Type} (xs : List α) (lo hi : Option Int) : List α := (xs.drop (HT.sIx xs.length 0 lo)).take (HT.sIx xs.length xs.length hi - HT.sIx xs.length 0 lo)
theorem Reps.cut (h : Reps K φ H ds vs) (lo hi : Option Int) : Reps K φ H (cutD ds lo hi) (cutV vs lo hi) := by
  unfold cutD cutV
  rw [h.length]
  exact (h.drop _).take _
theorem cutD_length {α : Type} (xs : List α) (lo hi : Option Int) : (cutD xs lo hi).length ≤ xs.length := by
  unfold cutD
  rw [List.length_take, List.length_drop]
  omega
theorem eo_none : EvO K φ J tNoPart ρ none := fun σ H A Q q => q H (But.refl _ _) A
theorem eo_some (h : EvD K φ J te ρ (.int i)) : EvO K φ J (tPart te) ρ (some i) := fun σ H A Q q => h σ H A _ fun v d H' bt A' e r => by
  subst e
  exact ⟨i, r, q H' bt A'⟩
theorem ev_slL {tl th : TO} {lo hi : Option Int} (ha : EvD K φ J te ρ (.lst ds)) (hl : EvO K φ J tl ρ lo) (hh : EvO K φ J th ρ hi) : EvD K φ J (tSl (rSlL K) te tl th) ρ (.lst (cutD ds lo hi)) := fun σ H A Q q =>
  ha σ H A _ fun v x H1 b1 A1 e1 r1 => hl σ H1 A1 _ fun H2 b2 A2 => hh σ H2 A2 _ fun H3 b3 A3 => by
    subst e1
    obtain ⟨a, vs, rfl, pl, rs⟩ := rep_lst ((r1.mono b2).mono b3)
    exact ⟨a, vs, rfl, pl.sq, fun p hp => q _ _ _ (((b1.trans b2).trans b3).trans (But.of (same_new hp))) (A3.same (same_new hp)) rfl ⟨p, _, rfl, .inl ⟨A3.fr p hp, .inl upd_same⟩, (rs.mono (But.of (same_new hp))).cut lo hi⟩⟩
theorem take_all {α : Type} {xs : List α} {lo hi : Option Int} (h : HT.sIx xs.length 0 lo = 0 ∧ HT.sIx xs.length xs.length hi = xs.length) : cutD xs lo hi = xs := by
  unfold cutD
  rw [h.1, h.2, List.drop_zero, Nat.sub_zero, List.take_length]
theorem ev_slT {tl th : TO} {lo hi : Option Int} (ha : EvD K φ J te ρ (.tup ds)) (hl : EvO K φ J tl ρ lo) (hh : EvO K φ J th ρ hi) : EvD K φ J (tSl (rSlA K) te tl th) ρ (.tup (cutD ds lo hi)) := fun σ H A Q q =>
  ha σ H A _ fun v x H1 b1 A1 e1 r1 => hl σ H1 A1 _ fun H2 b2 A2 => hh σ H2 A2 _ fun H3 b3 A3 => by
    subst e1
    obtain ⟨a, vs, rfl, pl, rs⟩ := rep_tup ((r1.mono b2).mono b3)
    refine ⟨a, vs, rfl, pl.sq, fun hw => ?_, fun _ p hp => q _ _ _ (((b1.trans b2).trans b3).trans (But.of (same_new hp))) (A3.same (same_new hp)) rfl ⟨p, _, rfl, .inl ⟨A3.fr p hp, .inl upd_same⟩, (rs.mono (But.of (same_new hp))).cut lo hi⟩⟩
    rw [rs.length] at hw
    exact q _ _ _ ((b1.trans b2).trans b3) A3 rfl ⟨a, vs, rfl, pl, by rw [take_all hw]; exact rs⟩

/-! ### tuple + tuple, list + list -/
theorem o2_catT {es : List D} (hz : ds.length + es.length ≤ 1000000) : Op2 K φ (rCatA K) (.tup ds) (.tup es) (fun x => x = .tup (ds ++ es)) := fun H v w f r1 r2 Q q => by
  obtain ⟨a, vs, rfl, pa, ra⟩ := rep_tup r1
  obtain ⟨b, ws, rfl, pb, rb⟩ := rep_tup r2
  refine ⟨a, b, vs, ws, rfl, rfl, pa.sq, pb.sq, by rw [ra.length, rb.length]; exact sz hz, fun e => ?_, fun _ e => ?_, fun _ _ p hp => ?_⟩
  · subst e
    have e0 : ds = [] := List.eq_nil_of_length_eq_zero ra.length.symm
    subst e0
    exact q _ _ H (Same.refl H) rfl ⟨b, ws, rfl, pb, rb⟩
  · subst e
    have e0 : es = [] := List.eq_nil_of_length_eq_zero rb.length.symm
    subst e0
    exact q _ _ H (Same.refl H) rfl ⟨a, vs, rfl, pa, by rw [List.append_nil]; exact ra⟩
  · exact q _ _ _ (same_new hp) rfl ⟨p, _, rfl, .inl ⟨f p hp, .inl upd_same⟩, (ra.append rb).mono (But.of (same_new hp))⟩
theorem ev_catT (ha : EvD K φ J ta ρ (.tup ds)) (hb : EvD K φ J tb ρ (.tup es)) (hz : ds.length + es.length ≤ 1000000) : EvD K φ J (tOp (rCatA K) ta tb) ρ (.tup (ds ++ es)) := ev_opD ha hb (o2_catT hz)

/-! ### calls of built-ins -/
theorem ev_cb {ta : TA} {r : List V → Hp → VK → Prop} {Pr : List D → Prop} (ha : EvA K φ J ta ρ Pr) (hr : ∀ ds, Pr ds → Cl K φ r ds P) : EvP K φ J (tCB r ta) ρ P := fun σ H A Q q =>
  ha σ H A _ fun vs ds H1 b1 A1 pd r1 => hr ds pd H1 vs A1.fr r1 Q fun u z H2 s pz r2 => q u z H2 (b1.trans (But.of s)) (A1.same s) pz r2
theorem ev_cbD {ta : TA} {r : List V → Hp → VK → Prop} (ha : EvAD K φ J ta ρ ds) (hr : Cl K φ r ds P) : EvP K φ J (tCB r ta) ρ P := ev_cb ha fun ds' e => e ▸ hr
theorem Reps.one (h : Reps K φ H [d] vs) : ∃ v, vs = [v] ∧ Rep K φ H d v := by
  obtain ⟨v, r, rfl, h1, h2⟩ := (show ∃ v r, vs = v :: r ∧ Rep K φ H d v ∧ Reps K φ H [] r from h)
  have e : r = [] := h2
  subst e
  exact ⟨v, rfl, h1⟩
theorem Reps.two (h : Reps K φ H [d, x] vs) : ∃ v w, vs = [v, w] ∧ Rep K φ H d v ∧ Rep K φ H x w := by
  obtain ⟨v, r, rfl, h1, h2⟩ := (show ∃ v r, vs = v :: r ∧ Rep K φ H d v ∧ Reps K φ H [x] r from h)
  obtain ⟨w, rfl, h3⟩ := h2.one
  exact ⟨v, w, rfl, h1, h3⟩
def rLen (K : PySem.W.Frag) : List V → Hp → VK → Prop := fun xs H Q => ∃ p ys, xs = [.ref p] ∧ (SqL K H p ys ∨ SqT K H p ys) ∧ Q (.int ys.length) H
theorem c_len {X : Cx} : CallR X (.builtin "len") (rLen X.K) := call_len_seq
theorem cl_lenL : Cl K φ (rLen K) [.lst ds] (fun x => x = .int ds.length) := fun H vs f r Q q => by
  obtain ⟨v, rfl, r1⟩ := r.one
  obtain ⟨a, vs, rfl, p, rs⟩ := rep_lst r1
  exact ⟨a, vs, rfl, .inl p.sq, q _ _ H (Same.refl H) rfl (by rw [rs.length]; rfl)⟩
theorem cl_lenT : Cl K φ (rLen K) [.tup ds] (fun x => x = .int ds.length) := fun H vs f r Q q => by
  obtain ⟨v, rfl, r1⟩ := r.one
  obtain ⟨a, vs, rfl, p, rs⟩ := rep_tup r1
  exact ⟨a, vs, rfl, .inr p.sq, q _ _ H (Same.refl H) rfl (by rw [rs.length]; rfl)⟩
theorem ev_lenL (ha : EvD K φ J te ρ (.lst ds)) : EvD K φ J (tCB (rLen K) (tCons te tNil)) ρ (.int ds.length) := ev_cbD (ea_cons ha ea_nil) cl_lenL
theorem ev_lenT (ha : EvD K φ J te ρ (.tup ds)) : EvD K φ J (tCB (rLen K) (tCons te tNil)) ρ (.int ds.length) := ev_cbD (ea_cons ha ea_nil) cl_lenT
def rLenS : List V → Hp → VK → Prop := fun xs H Q => ∃ z, xs = [.str z] ∧ z.length ≤ sizeLine ∧ Q (.int z.length) H
theorem c_lenS {X : Cx} : CallR X (.builtin "len") rLenS := call_len_str
theorem ev_lenS (ha : EvD K φ J te ρ (.str s)) (hz : s.length ≤ 1000000) : EvD K φ J (tCB rLenS (tCons te tNil)) ρ (.int s.length) := ev_cbD (ea_cons ha ea_nil) fun H vs f r Q q => by
  obtain ⟨v, rfl, r1⟩ := r.one
  cases (show v = _ from r1)
  exact ⟨s, rfl, sz hz, q _ _ H (Same.refl H) rfl rfl⟩
def rInt1 : List V → Hp → VK → Prop := fun xs H Q => (∃ i, xs = [.int i] ∧ Q (.int i) H) ∨ ∃ k, xs = [.bl k] ∧ Q (.int (if k then 1 else 0)) H
theorem c_int1 {X : Cx} : CallR X (.type "int") rInt1 := call_int1
theorem cl_intI : Cl K φ rInt1 [.int i] (fun x => x = .int i) := fun H vs f r Q q => by
  obtain ⟨v, rfl, r1⟩ := r.one
  cases (show v = _ from r1)
  exact .inl ⟨i, rfl, q _ _ H (Same.refl H) rfl rfl⟩
theorem cl_intB : Cl K φ rInt1 [.bl b] (fun x => x = .int (if b then 1 else 0)) := fun H vs f r Q q => by
  obtain ⟨v, rfl, r1⟩ := r.one
  cases (show v = _ from r1)
  exact .inr ⟨b, rfl, q _ _ H (Same.refl H) rfl rfl⟩
theorem ev_intI (ha : EvD K φ J te ρ (.int i)) : EvD K φ J (tCB rInt1 (tCons te tNil)) ρ (.int i) := ev_cbD (ea_cons ha ea_nil) cl_intI
theorem ev_intB (ha : EvD K φ J te ρ (.bl b)) : EvD K φ J (tCB rInt1 (tCons te tNil)) ρ (.int (if b then 1 else 0)) := ev_cbD (ea_cons ha ea_nil) cl_intB
def rStrI : List V → Hp → VK → Prop := fun xs H Q => ∃ i, xs = [.int i] ∧ i.natAbs.log2 < 1920 ∧ Q (.str (toString i)) H
theorem c_strI {X : Cx} : CallR X (.type "str") rStrI := call_str_int
theorem ev_strI (ha : EvD K φ J te ρ (.int i)) (hz : i.natAbs.log2 < 1920) : EvD K φ J (tCB rStrI (tCons te tNil)) ρ (.str (toString i)) := ev_cbD (ea_cons ha ea_nil) fun H vs f r Q q => by
  obtain ⟨v, rfl, r1⟩ := r.one
  cases (show v = _ from r1)
  exact ⟨i, rfl, hz, q _ _ H (Same.refl H) rfl rfl⟩
def rListOf (K : PySem.W.Frag) : List V → Hp → VK → Prop := fun xs H Q => ∃ p ys, xs = [.ref p] ∧ (SqL K H p ys ∨ SqT K H p ys) ∧ ∀ l, H l = none → Q (.ref l) (upd H l (.lst ys))
theorem c_listOf {X : Cx} : CallR X (.type "list") (rListOf X.K) := call_list_of
theorem ev_listL (ha : EvD K φ J te ρ (.lst ds)) : EvD K φ J (tCB (rListOf K) (tCons te tNil)) ρ (.lst ds) := ev_cbD (ea_cons ha ea_nil) fun H vs f r Q q => by
  obtain ⟨v, rfl, r1⟩ := r.one
  obtain ⟨a, vs, rfl, p, rs⟩ := rep_lst r1
  exact ⟨a, vs, rfl, .inl p.sq, fun l hl => q _ _ _ (same_new hl) rfl ⟨l, vs, rfl, .inl ⟨f l hl, .inl upd_same⟩, rs.mono (But.of (same_new hl))⟩⟩
theorem ev_listT (ha : EvD K φ J te ρ (.tup ds)) : EvD K φ J (tCB (rListOf K) (tCons te tNil)) ρ (.lst ds) := ev_cbD (ea_cons ha ea_nil) fun H vs f r Q q => by
  obtain ⟨v, rfl, r1⟩ := r.one
  obtain ⟨a, vs, rfl, p, rs⟩ := rep_tup r1
  exact ⟨a, vs, rfl, .inr p.sq, fun l hl => q _ _ _ (same_new hl) rfl ⟨l, vs, rfl, .inl ⟨f l hl, .inl upd_same⟩, rs.mono (But.of (same_new hl))⟩⟩
def rTupOf (K : PySem.W.Frag) : List V → Hp → VK → Prop := fun xs H Q => ∃ p ys, xs = [.ref p] ∧ ((SqL K H p ys ∧ ∀ l, H l = none → Q (.ref l) (upd H l (.tup ys))) ∨ (SqT K H p ys ∧ Q (.ref p) H))
theorem c_tupOf {X : Cx} : CallR X (.type "tuple") (rTupOf X.K) := call_tuple_of
theorem cl_tupL : Cl K φ (rTupOf K) [.lst ds] (fun x => x = .tup ds) := fun H vs f r Q q => by
  obtain ⟨v, rfl, r1⟩ := r.one
  obtain ⟨a, vs, rfl, p, rs⟩ := rep_lst r1
  exact ⟨a, vs, rfl, .inl ⟨p.sq, fun l hl => q _ _ _ (same_new hl) rfl ⟨l, vs, rfl, .inl ⟨f l hl, .inl upd_same⟩, rs.mono (But.of (same_new hl))⟩⟩⟩
theorem ev_tupL (ha : EvD K φ J te ρ (.lst ds)) : EvD K φ J (tCB (rTupOf K) (tCons te tNil)) ρ (.tup ds) := ev_cbD (ea_cons ha ea_nil) cl_tupL
theorem ev_tupT (ha : EvD K φ J te ρ (.tup ds)) : EvD K φ J (tCB (rTupOf K) (tCons te tNil)) ρ (.tup ds) := ev_cbD (ea_cons ha ea_nil) fun H vs f r Q q => by
  obtain ⟨v, rfl, r1⟩ := r.one
  obtain ⟨a, vs, rfl, p, rs⟩ := rep_tup r1
  exact ⟨a, vs, rfl, .inr ⟨p.sq, q _ _ H (Same.refl H) rfl ⟨a, vs, rfl, p, rs⟩⟩⟩
def rAbs : List V → Hp → VK → Prop := fun xs H Q => ∃ i, xs = [.int i] ∧ Q (.int (if i < 0 then -i else i)) H
theorem c_abs {X : Cx} : CallR X (.builtin "abs") rAbs := call_abs
theorem abs_if (i : Int) : (if i < 0 then -i else i) = (i.natAbs : Int) := by split <;> omega
theorem ev_abs (ha : EvD K φ J te ρ (.int i)) : EvD K φ J (tCB rAbs (tCons te tNil)) ρ (.int (i.natAbs : Int)) := ev_cbD (ea_cons ha ea_nil) fun H vs f r Q q => by
  obtain ⟨v, rfl, r1⟩ := r.one
  cases (show v = _ from r1)
  exact ⟨i, rfl, q _ _ H (Same.refl H) rfl (by rw [abs_if]; rfl)⟩
def rMax2 : List V → Hp → VK → Prop := fun xs H Q => ∃ i j, xs = [.int i, .int j] ∧ Q (.int (if j > i then j else i)) H
def rMin2 : List V → Hp → VK → Prop := fun xs H Q => ∃ i j, xs = [.int i, .int j] ∧ Q (.int (if j < i then j else i)) H
theorem c_max2 {X : Cx} (hc : X.calm = true := by rfl) : CallR X (.builtin "max") rMax2 := call_max2 hc
theorem c_min2 {X : Cx} (hc : X.calm = true := by rfl) : CallR X (.builtin "min") rMin2 := call_min2 hc
theorem max_if (i j : Int) : (if j > i then j else i) = max i j := by split <;> omega
theorem min_if (i j : Int) : (if j < i then j else i) = min i j := by split <;> omega
theorem ev_max2 (ha : EvD K φ J ta ρ (.int i)) (hb : EvD K φ J tb ρ (.int j)) : EvD K φ J (tCB rMax2 (tCons ta (tCons tb tNil))) ρ (.int (max i j)) := ev_cbD (ea_cons ha (ea_cons hb ea_nil)) fun H vs f r Q q => by
  obtain ⟨v, w, rfl, r1, r2⟩ := r.two
  cases (show v = _ from r1)
  cases (show w = _ from r2)
  exact ⟨i, j, rfl, q _ _ H (Same.refl H) rfl (by rw [max_if]; rfl)⟩
theorem ev_min2 (ha : EvD K φ J ta ρ (.int i)) (hb : EvD K φ J tb ρ (.int j)) : EvD K φ J (tCB rMin2 (tCons ta (tCons tb tNil))) ρ (.int (min i j)) := ev_cbD (ea_cons ha (ea_cons hb ea_nil)) fun H vs f r Q q => by
  obtain ⟨v, w, rfl, r1, r2⟩ := r.two
  cases (show v = _ from r1)
  cases (show w = _ from r2)
  exact ⟨i, j, rfl, q _ _ H (Same.refl H) rfl (by rw [min_if]; rfl)⟩
theorem rep_ints {ns : List Int} (h : Rep K φ H (.lst (ns.map D.int)) v) : ∃ a, v = .ref a ∧ SqL K H a (ns.map V.int) := by
  obtain ⟨a, vs, rfl, p, r⟩ := rep_lst h
  exact ⟨a, rfl, r.ints ▸ p.sq⟩
theorem c_sum {X : Cx} (hc : X.calm = true := by rfl) : CallR X (.builtin "sum") (rSum X.K) := cr_sum hc
theorem ev_sum {ns : List Int} (ha : EvD K φ J te ρ (.lst (ns.map D.int))) : EvD K φ J (tCB (rSum K) (tCons te tNil)) ρ (.int ns.sum) := ev_cbD (ea_cons ha ea_nil) fun H vs f r Q q => by
  obtain ⟨v, rfl, r1⟩ := r.one
  obtain ⟨a, rfl, h⟩ := rep_ints r1
  exact ⟨a, ns, rfl, h, q _ _ H (Same.refl H) rfl rfl⟩
def rGcd1 : List V → Hp → VK → Prop := rGcd
theorem ev_gcd (ha : EvD K φ J ta ρ (.int i)) (hb : EvD K φ J tb ρ (.int j)) : EvD K φ J (tCB rGcd (tCons ta (tCons tb tNil))) ρ (.int ((Nat.gcd i.natAbs j.natAbs : Nat) : Int)) := ev_cbD (ea_cons ha (ea_cons hb ea_nil)) fun H vs f r Q q => by
  obtain ⟨v, w, rfl, r1, r2⟩ := r.two
  cases (show v = _ from r1)
  cases (show w = _ from r2)
  exact ⟨i, j, rfl, q _ _ H (Same.refl H) rfl rfl⟩

/-! ### isinstance -/
def tyD : D → String
  | .non => "NoneType"
  | .bl _ => "bool"
  | .int _ => "int"
  | .str _ => "str"
  | .tup _ => "tuple"
  | .lst _ => "list"
  | .raw _ => "?"
  | .dk _ _ => "dict"
  | .dt _ _ => "dict"
def isRaw : D → Bool
  | .raw _ => true
  | _ => false
theorem tyx_rep : ∀ {d : D}, Rep K φ H d v → isRaw d = false → TyX K H v (.type (tyD d))
  | .non, h, _ => by cases (show v = _ from h); exact .base .non
  | .bl b, h, _ => by cases (show v = _ from h); exact .base (.bl b)
  | .int b, h, _ => by cases (show v = _ from h); exact .base (.int b)
  | .str b, h, _ => by cases (show v = _ from h); exact .base (.str b)
  | .raw w, _, e => by cases e
  | .tup ds, h, _ => by
    obtain ⟨a, vs, rfl, p, _⟩ := rep_tup h
    exact .base (.tup p.at.2)
  | .dk ks ds, h, _ => by
    obtain ⟨a, vs, rfl, ⟨_, e, _⟩, _⟩ := (show ∃ a vs, v = .ref a ∧ (φ a ∧ H a = some (.dK (ks.zip vs)) ∧ ks.length = ds.length) ∧ Reps K φ H ds vs from h)
    exact .base (.dK e)
  | .dt ks ds, h, _ => by
    obtain ⟨a, vs, rfl, ⟨_, e, _⟩, _⟩ := (show ∃ a vs, v = .ref a ∧ (φ a ∧ H a = some (.dT (ks.zip vs)) ∧ ks.length = ds.length) ∧ Reps K φ H ds vs from h)
    exact .base (.dT e)
  | .lst ds, h, _ => by
    obtain ⟨a, vs, rfl, p, _⟩ := rep_lst h
    rcases p with ⟨_, p⟩ | ⟨o, its, n, hk, hc, _⟩
    · rcases p with p | ⟨o, p⟩
      · exact .base (.lst p)
      · exact .base (.frz p)
    · exact .kList hk hc
def isT (n : String) (d : D) : Bool := tyD d == n || (n == "int" && tyD d == "bool")
theorem kit_tab : ∀ t ∈ (["NoneType", "bool", "int", "str", "tuple", "list", "dict"] : List String), ∀ n ∈ (["tuple", "list", "bool", "int", "str", "dict"] : List String), kitB t n = some (t == n || (n == "int" && t == "bool")) := by decide +kernel
theorem ty_mem {d : D} (h : isRaw d = false) : tyD d ∈ (["NoneType", "bool", "int", "str", "tuple", "list", "dict"] : List String) := by
  cases d <;> first | (cases h; done) | simp [tyD]
theorem kit_all {d : D} {n : String} (hn : n ∈ (["tuple", "list", "bool", "int", "str", "dict"] : List String)) (h : isRaw d = false) : kitB (tyD d) n = some (isT n d) := kit_tab _ (ty_mem h) n hn
theorem ev_isi {n : String} (ha : EvD K φ J ta ρ x) (hb : EvD K φ J tb ρ (.raw (.ty n))) (hx : isRaw x = false) (hn : n ∈ (["tuple", "list", "bool", "int", "str", "dict"] : List String) := by simp) : EvD K φ J (tCB (rIsi K) (tCons ta (tCons tb tNil))) ρ (.bl (isT n x)) := ev_cbD (ea_cons ha (ea_cons hb ea_nil)) fun H vs f r Q q => by
  obtain ⟨v, w, rfl, r1, r2⟩ := r.two
  cases (show w = _ from r2)
  exact ⟨v, _, _, _, _, rfl, .ty n, tyx_rep r1 hx, kit_ty (kit_all hn hx), q _ _ H (Same.refl H) rfl rfl⟩
end
end DL
namespace DL
open PySem PySem.Spec PyProof.Rows L2

/-! ### the pool of draws -/
def PoolOk (p s : Addr) (ns : List Int) (H : Hp) : Prop := ∃ at_ cur cnt salt : Int, H p = some (.lst [.ref s, .int at_, .int cur, .int cnt, .int salt]) ∧ H s = some (.lst (ns.map V.int)) ∧ 0 ≤ at_
def ButP (p : Addr) (H H' : Hp) : Prop := ∀ a o, a ≠ p → H a = some o → H' a = some o
structure Pooled (φ : Addr → Prop) (J : Hp → Prop) (p s : Addr) (ns : List Int) : Prop where
  np : ¬ φ p
  ne : s ≠ p
  ok : ∀ H, J H → PoolOk p s ns H
  st : ∀ H H', J H → ButP p H H' → PoolOk p s ns H' → J H'
structure Ext (φ : Addr → Prop) (J : Hp → Prop) (φ' : Addr → Prop) (J' : Hp → Prop) : Prop where
  imp : ∀ H, J' H → J H
  pool : ∀ p s ns, Pooled φ J p s ns → Pooled φ' J' p s ns
  keep : ∀ a, φ a → (∀ H, J H → H a ≠ none) → φ' a
theorem Ext.refl {φ : Addr → Prop} {J : Hp → Prop} : Ext φ J φ J := ⟨fun _ h => h, fun _ _ _ h => h, fun _ p _ => p⟩
theorem Ext.trans {φ φ1 φ2 : Addr → Prop} {J J1 J2 : Hp → Prop} (a : Ext φ J φ1 J1) (b : Ext φ1 J1 φ2 J2) : Ext φ J φ2 J2 := ⟨fun H h => a.imp H (b.imp H h), fun p s ns h => b.pool p s ns (a.pool p s ns h), fun x p h => b.keep x (a.keep x p h) fun H j => h H (a.imp H j)⟩

/-! ### walks -/
def Walks (K : PySem.W.Frag) (φ : Addr → Prop) (J0 : It) (H : Hp) (ds : List D) : Prop := ∀ (φ' : Addr → Prop) (i : Nat) (H1 : Hp), Up φ φ' H H1 → Frm φ' H1 →
  (∀ d, ds[i]? = some d → J0.go i H1 ∧ ∀ x H2, J0.yld i H1 x H2 → Same H1 H2 ∧ Rep K φ' H2 d x) ∧ (i = ds.length → J0.stop i H1)
def IterP (K : PySem.W.Frag) (φ : Addr → Prop) (J : Hp → Prop) (wi : TI) (ρ : List (Option D)) (P : List D → Prop) : Prop := ∀ σ H, At K φ J ρ σ H → ∀ R : It → Hp → Prop, (∀ J0 ds H', But φ H H' → At K φ J ρ σ H' → P ds → Walks K φ J0 H' ds → R J0 H') → wi σ H R
abbrev IterD (K : PySem.W.Frag) (φ : Addr → Prop) (J : Hp → Prop) (wi : TI) (ρ : List (Option D)) (ds : List D) : Prop := IterP K φ J wi ρ fun x => x = ds
section
variable {K : PySem.W.Frag} {φ φ' : Addr → Prop} {J J' : Hp → Prop} {H H' H1 : Hp} {ρ ρ' : List (Option D)} {σ : L2.St} {ta tb te tc : TE} {x y z d : D} {P Pa Pb Pc : D → Prop} {i j : Int} {b c : Bool} {s t : Str} {ds es : List D} {v : V} {vs : List V} {a : Addr}
theorem IterP.imp {wi : TI} {P P' : List D → Prop} (h : IterP K φ J wi ρ P) (k : ∀ ds, P ds → P' ds) : IterP K φ J wi ρ P' := fun σ H A R q => h σ H A R fun J0 ds H' bt A' pd w => q J0 ds H' bt A' (k ds pd) w
theorem walks_list (p : PL K φ H a vs) (r : Reps K φ H ds vs) : Walks K φ (Itl K a) H ds := fun φ' i H1 u f => by
  have p1 := p.up u
  have r1 := Reps.up u ds vs r
  refine ⟨fun d hd => ?_, fun hi => ⟨vs, p1.sq, by rw [r1.length]; exact Nat.le_of_eq hi.symm⟩⟩
  obtain ⟨w, e, rw'⟩ := r1.get hd
  refine ⟨⟨vs, w, p1.sq, e⟩, fun x H2 hy => ?_⟩
  obtain ⟨rfl, hx⟩ := hy
  have e2 := hx vs p1.sq
  rw [e] at e2
  cases e2
  exact ⟨Same.refl _, rw'⟩
theorem walks_tup (p : PT K φ H a vs) (r : Reps K φ H ds vs) : Walks K φ (Itt K a) H ds := fun φ' i H1 u f => by
  have p1 := p.up u
  have r1 := Reps.up u ds vs r
  refine ⟨fun d hd => ?_, fun hi => ⟨vs, p1.sq, by rw [r1.length]; exact Nat.le_of_eq hi.symm⟩⟩
  obtain ⟨w, e, rw'⟩ := r1.get hd
  refine ⟨⟨vs, w, p1.sq, e⟩, fun x H2 hy => ?_⟩
  obtain ⟨rfl, hx⟩ := hy
  have e2 := hx vs p1.sq
  rw [e] at e2
  cases e2
  exact ⟨Same.refl _, rw'⟩
theorem it_list (h : EvD K φ J te ρ (.lst ds)) : IterD K φ J (iList K te) ρ ds := fun σ H A R q => h σ H A _ fun v d H1 b1 A1 e r => by
  subst e
  obtain ⟨a, vs, rfl, p, rs⟩ := rep_lst r
  exact ⟨a, rfl, ⟨vs, p.sq⟩, q _ ds H1 b1 A1 rfl (walks_list p rs)⟩
theorem it_listP {P : List D → Prop} (h : EvP K φ J te ρ (fun z => ∃ ds, z = .lst ds ∧ P ds)) : IterP K φ J (iList K te) ρ P := fun σ H A R q => h σ H A _ fun v d H1 b1 A1 ⟨ds, e, pd⟩ r => by
  subst e
  obtain ⟨a, vs, rfl, p, rs⟩ := rep_lst r
  exact ⟨a, rfl, ⟨vs, p.sq⟩, q _ ds H1 b1 A1 pd (walks_list p rs)⟩
theorem it_tup (h : EvD K φ J te ρ (.tup ds)) : IterD K φ J (iTup K te) ρ ds := fun σ H A R q => h σ H A _ fun v d H1 b1 A1 e r => by
  subst e
  obtain ⟨a, vs, rfl, p, rs⟩ := rep_tup r
  exact ⟨a, rfl, ⟨vs, p.sq⟩, q _ ds H1 b1 A1 rfl (walks_tup p rs)⟩
def rangeD (lo : Int) (n : Nat) : List D := (List.range n).map fun i => .int (lo + (i : Nat))
theorem rangeD_length {lo : Int} {n : Nat} : (rangeD lo n).length = n := by unfold rangeD; rw [List.length_map, List.length_range]
theorem rangeD_get {lo : Int} {n i : Nat} : (rangeD lo n)[i]? = if i < n then some (.int (lo + i)) else none := by
  unfold rangeD
  rw [List.getElem?_map]
  by_cases h : i < n
  · rw [List.getElem?_range h, if_pos h]
    rfl
  · rw [if_neg h, List.getElem?_eq_none (by rw [List.length_range]; omega)]
    rfl
theorem walks_range {lo : Int} {n : Nat} : Walks K φ (Itr lo n) H (rangeD lo n) := fun φ' i H1 u f => by
  refine ⟨fun d hd => ?_, fun hi => by rw [rangeD_length] at hi; exact Nat.le_of_eq hi.symm⟩
  rw [rangeD_get] at hd
  by_cases h : i < n
  · rw [if_pos h] at hd
    cases hd
    refine ⟨h, fun x H2 hy => ?_⟩
    obtain ⟨rfl, rfl⟩ := hy
    exact ⟨Same.refl _, rfl⟩
  · rw [if_neg h] at hd
    cases hd
theorem it_range1P {ta : TA} {p : Int → Prop} (h : EvA K φ J ta ρ (fun x => ∃ n, x = [.int n] ∧ p n)) (hn : ∀ n, p n → -(2 ^ 62) ≤ n ∧ n < 2 ^ 62) : IterP K φ J (iRng1 ta) ρ (fun x => ∃ n, p n ∧ x = rangeD 0 n.toNat) := fun σ H A R q => h σ H A _ fun vs ds H1 b1 A1 ⟨n, e, pn⟩ r => by
  subst e
  obtain ⟨v, rfl, r1⟩ := r.one
  cases (show v = _ from r1)
  exact ⟨n, rfl, (hn n pn).1, (hn n pn).2, q _ _ H1 b1 A1 ⟨n, pn, rfl⟩ walks_range⟩
theorem it_range1 {ta : TA} {n : Int} (h : EvAD K φ J ta ρ [.int n]) (hn : -(2 ^ 62) ≤ n ∧ n < 2 ^ 62) : IterD K φ J (iRng1 ta) ρ (rangeD 0 n.toNat) := fun σ H A R q => h σ H A _ fun vs ds H1 b1 A1 e r => by
  subst e
  obtain ⟨v, rfl, r1⟩ := r.one
  cases (show v = _ from r1)
  exact ⟨n, rfl, hn.1, hn.2, q _ _ H1 b1 A1 rfl walks_range⟩
theorem it_range2 {ta : TA} {m n : Int} (h : EvAD K φ J ta ρ [.int m, .int n]) (hn : (-(2 ^ 62) ≤ m ∧ m < 2 ^ 62) ∧ -(2 ^ 62) ≤ n ∧ n < 2 ^ 62) : IterD K φ J (iRng2 ta) ρ (rangeD m (n - m).toNat) := fun σ H A R q => h σ H A _ fun vs ds H1 b1 A1 e r => by
  subst e
  obtain ⟨v, w, rfl, r1, r2⟩ := r.two
  cases (show v = _ from r1)
  cases (show w = _ from r2)
  exact ⟨m, n, rfl, ⟨hn.1.1, hn.1.2, hn.2.1, hn.2.2⟩, q _ _ H1 b1 A1 rfl walks_range⟩
def enumD (k : Int) (ds : List D) : List D := ds.mapIdx fun i d => .tup [.int (k + (i : Nat)), d]
theorem enumD_length {k : Int} : (enumD k ds).length = ds.length := List.length_mapIdx
theorem enumD_get {k : Int} {i : Nat} : (enumD k ds)[i]? = (ds[i]?).map fun d => .tup [.int (k + (i : Nat)), d] := List.getElem?_mapIdx
theorem rep_pair {H : Hp} {T : Addr} {x1 x2 : V} {d1 d2 : D} (f : φ T) (h : H T = some (.tup [x1, x2])) (r1 : Rep K φ H d1 x1) (r2 : Rep K φ H d2 x2) : Rep K φ H (.tup [d1, d2]) (.ref T) := ⟨T, _, rfl, .inl ⟨f, .inl h⟩, Reps.cons r1 (Reps.cons r2 Reps.nil)⟩
theorem it_enum {ta : TA} (h : EvAD K φ J ta ρ [.lst ds]) : IterD K φ J (iEnum K ta) ρ (enumD 0 ds) := fun σ H A R q => h σ H A _ fun vs es H1 b1 A1 e r => by
  subst e
  obtain ⟨v, rfl, r1⟩ := r.one
  obtain ⟨a, vs, rfl, p, rs⟩ := rep_lst r1
  refine ⟨a, vs, rfl, p.sq, q _ _ H1 b1 A1 rfl fun φ' i H2 u f => ?_⟩
  have p1 := p.up u
  have r1 := Reps.up u ds vs rs
  refine ⟨fun d hd => ?_, fun hi => ⟨vs, p1.sq, by rw [r1.length]; rw [enumD_length] at hi; exact Nat.le_of_eq hi.symm⟩⟩
  rw [enumD_get] at hd
  cases hx : ds[i]? with
  | none => rw [hx] at hd; cases hd
  | some d0 =>
    rw [hx] at hd
    cases hd
    obtain ⟨w, e, rw'⟩ := r1.get hx
    refine ⟨⟨vs, w, p1.sq, e⟩, fun x H3 hy => ?_⟩
    obtain ⟨T, x1, rfl, hT, rfl, hx1⟩ := hy
    have e2 := hx1 vs p1.sq
    rw [e] at e2
    cases e2
    exact ⟨same_new hT, rep_pair (f T hT) upd_same (by show V.int _ = V.int _; congr 1; omega) (rw'.mono (But.of (same_new hT)))⟩
def zipD (ds es : List D) : List D := List.zipWith (fun a b => .tup [a, b]) ds es
theorem zipD_get {i : Nat} {d1 d2 : D} (h1 : ds[i]? = some d1) (h2 : es[i]? = some d2) : (zipD ds es)[i]? = some (.tup [d1, d2]) := by
  unfold zipD
  rw [List.getElem?_zipWith, h1, h2]
theorem zipD_getD {i : Nat} {d : D} (h : (zipD ds es)[i]? = some d) : ∃ d1 d2, ds[i]? = some d1 ∧ es[i]? = some d2 ∧ d = .tup [d1, d2] := by
  unfold zipD at h
  rw [List.getElem?_zipWith] at h
  cases h1 : ds[i]? with
  | none => rw [h1] at h; cases h
  | some d1 =>
    cases h2 : es[i]? with
    | none => rw [h1, h2] at h; cases h
    | some d2 =>
      rw [h1, h2] at h
      cases h
      exact ⟨d1, d2, rfl, rfl, rfl⟩
theorem it_zipL {ta : TA} (h : EvAD K φ J ta ρ [.lst ds, .lst es]) : IterD K φ J (RZ.iZipA K ta) ρ (zipD ds es) := fun σ H A R q => h σ H A _ fun vs fs H1 b1 A1 e r => by
  subst e
  obtain ⟨v, w, rfl, r1, r2⟩ := r.two
  obtain ⟨a, vs, rfl, p, rs⟩ := rep_lst r1
  obtain ⟨b, ws, rfl, p', rs'⟩ := rep_lst r2
  refine ⟨a, b, vs, ws, rfl, .inl ⟨p.sq, p'.sq, q _ _ H1 b1 A1 rfl fun φ' i H2 u f => ?_⟩⟩
  have p1 := p.up u
  have r1 := Reps.up u ds vs rs
  have p2 := p'.up u
  have r2 := Reps.up u es ws rs'
  refine ⟨fun d hd => ?_, fun hi => ⟨vs, ws, p1.sq, p2.sq, by rw [r1.length, r2.length]; unfold zipD at hi; rw [List.length_zipWith] at hi; omega⟩⟩
  obtain ⟨d1, d2, g1, g2, rfl⟩ := zipD_getD hd
  obtain ⟨v1, e1, q1⟩ := r1.get g1
  obtain ⟨v2, e2, q2⟩ := r2.get g2
  refine ⟨⟨vs, ws, v1, v2, p1.sq, p2.sq, e1, e2⟩, fun x H3 hy => ?_⟩
  obtain ⟨T, x1, x2, rfl, hT, rfl, hx1, hx2⟩ := hy
  have z1 := hx1 vs p1.sq
  have z2 := hx2 ws p2.sq
  rw [e1] at z1
  rw [e2] at z2
  cases z1
  cases z2
  exact ⟨same_new hT, rep_pair (f T hT) upd_same (q1.mono (But.of (same_new hT))) (q2.mono (But.of (same_new hT)))⟩
theorem it_zipT {ta : TA} (h : EvAD K φ J ta ρ [.tup ds, .tup es]) : IterD K φ J (RZ.iZipA K ta) ρ (zipD ds es) := fun σ H A R q => h σ H A _ fun vs fs H1 b1 A1 e r => by
  subst e
  obtain ⟨v, w, rfl, r1, r2⟩ := r.two
  obtain ⟨a, vs, rfl, p, rs⟩ := rep_tup r1
  obtain ⟨b, ws, rfl, p', rs'⟩ := rep_tup r2
  refine ⟨a, b, vs, ws, rfl, .inr ⟨p.sq, p'.sq, q _ _ H1 b1 A1 rfl fun φ' i H2 u f => ?_⟩⟩
  have p1 := p.up u
  have r1 := Reps.up u ds vs rs
  have p2 := p'.up u
  have r2 := Reps.up u es ws rs'
  refine ⟨fun d hd => ?_, fun hi => ⟨vs, ws, p1.sq, p2.sq, by rw [r1.length, r2.length]; unfold zipD at hi; rw [List.length_zipWith] at hi; omega⟩⟩
  obtain ⟨d1, d2, g1, g2, rfl⟩ := zipD_getD hd
  obtain ⟨v1, e1, q1⟩ := r1.get g1
  obtain ⟨v2, e2, q2⟩ := r2.get g2
  refine ⟨⟨vs, ws, v1, v2, p1.sq, p2.sq, e1, e2⟩, fun x H3 hy => ?_⟩
  obtain ⟨T, x1, x2, rfl, hT, rfl, hx1, hx2⟩ := hy
  have z1 := hx1 vs p1.sq
  have z2 := hx2 ws p2.sq
  rw [e1] at z1
  rw [e2] at z2
  cases z1
  cases z2
  exact ⟨same_new hT, rep_pair (f T hT) upd_same (q1.mono (But.of (same_new hT))) (q2.mono (But.of (same_new hT)))⟩
def strD (s : Str) : List D := s.cps.toList.map fun c => .str ⟨#[c]⟩
theorem it_str (h : EvD K φ J te ρ (.str s)) : IterD K φ J (iStr te) ρ (strD s) := fun σ H A R q => h σ H A _ fun v d H1 b1 A1 e r => by
  subst e
  cases (show v = _ from r)
  refine ⟨s, rfl, q _ _ H1 b1 A1 rfl fun φ' i H2 u f => ⟨fun d hd => ?_, fun hi => by unfold strD at hi; rw [List.length_map, Array.length_toList] at hi; exact Nat.le_of_eq hi.symm⟩⟩
  unfold strD at hd
  rw [List.getElem?_map] at hd
  cases hc : s.cps.toList[i]? with
  | none => rw [hc] at hd; cases hd
  | some c =>
    rw [hc] at hd
    cases hd
    have hc' : s.cps[i]? = some c := by rw [← hc]; simp
    obtain ⟨hi, _⟩ := Array.getElem?_eq_some_iff.mp hc'
    refine ⟨hi, fun x H3 hy => ?_⟩
    obtain ⟨rfl, c2, e2, rfl⟩ := hy
    rw [hc'] at e2
    cases e2
    exact ⟨Same.refl _, rfl⟩

/-! ### targets -/
def wipeR (ρ : List (Option D)) : List Nat → List (Option D)
  | [] => ρ
  | v :: vs => (wipeR ρ vs).set v none
theorem SR.none (i : Nat) (h : SR K φ H ρ σ) : SR K φ H (ρ.set i Option.none) (σ.set i Option.none) := by
  refine ⟨by rw [List.length_set, List.length_set]; exact h.1, fun j e hj => ?_⟩
  by_cases hij : i = j
  · subst hij
    by_cases hl : i < ρ.length
    · rw [List.getElem?_set_self hl] at hj
      cases hj
    · rw [List.getElem?_eq_none (by rw [List.length_set]; omega)] at hj
      cases hj
  · rw [List.getElem?_set_ne hij] at hj
    obtain ⟨w, e1, r1⟩ := h.2 j e hj
    exact ⟨w, by rw [List.getElem?_set_ne hij]; exact e1, r1⟩
theorem SR.wipe (h : SR K φ H ρ σ) : ∀ vs : List Nat, SR K φ H (wipeR ρ vs) (L2.wipe σ vs)
  | [] => h
  | v :: vs => SR.none v (SR.wipe h vs)
theorem wipe_set {i : Nat} {o : Option V} : ∀ {vs : List Nat}, i ∈ vs → L2.wipe (σ.set i o) vs = L2.wipe σ vs
  | v :: vs, h => by
    show (L2.wipe (σ.set i o) vs).set v none = (L2.wipe σ vs).set v none
    by_cases hi : i ∈ vs
    · rw [wipe_set hi]
    · have e : i = v := (List.mem_cons.mp h).resolve_right hi
      subst e
      have g : ∀ (us : List Nat), i ∉ us → L2.wipe (σ.set i o) us = (L2.wipe σ us).set i o := by
        intro us
        induction us with
        | nil => intro _; rfl
        | cons u us ih =>
          intro hu
          have h1 : i ≠ u := fun e => hu (by rw [e]; exact List.mem_cons_self)
          show (L2.wipe (σ.set i o) us).set u none = ((L2.wipe σ us).set u none).set i o
          rw [ih fun m => hu (List.mem_cons_of_mem _ m), List.set_comm _ _ h1]
      rw [g vs hi, List.set_set]
theorem wipe_get {j : Nat} : ∀ {vs : List Nat}, (L2.wipe σ vs)[j]? = if j ∈ vs then (σ[j]?).map (fun _ => none) else σ[j]?
  | [] => by simp [L2.wipe]
  | v :: vs => by
    show ((L2.wipe σ vs).set v none)[j]? = _
    rw [List.getElem?_set]
    by_cases e : v = j
    · subst e
      rw [if_pos rfl, if_pos List.mem_cons_self]
      rw [L2.wipe_length]
      by_cases h : v < σ.length
      · rw [if_pos h, List.getElem?_eq_getElem h]
        rfl
      · rw [if_neg h, List.getElem?_eq_none (by omega)]
        rfl
    · rw [if_neg e, wipe_get]
      have : (j ∈ v :: vs) ↔ j ∈ vs := by
        rw [List.mem_cons]
        exact ⟨fun z => z.resolve_left fun q => e q.symm, .inr⟩
      by_cases h : j ∈ vs
      · rw [if_pos h, if_pos (this.mpr h)]
      · rw [if_neg h, if_neg fun z => h (this.mp z)]
theorem wipe_wipe (vs : List Nat) : L2.wipe (L2.wipe σ vs) vs = L2.wipe σ vs := by
  apply List.ext_getElem?
  intro j
  rw [wipe_get]
  by_cases h : j ∈ vs
  · rw [if_pos h, wipe_get, if_pos h]
    cases σ[j]? <;> rfl
  · rw [if_neg h]
/-- a target: d is stored, ρ becomes ρ', the slots us are written -/
def EvG (K : PySem.W.Frag) (g : TG) (d : D) (ρ ρ' : List (Option D)) (us : List Nat) : Prop := ∀ (φ : Addr → Prop) (J : Hp → Prop) σ H v, At K φ J ρ σ H → Rep K φ H d v → ∀ Q : L2.St → Hp → Prop,
  (∀ σ', At K φ J ρ' σ' H → (∀ vs : List Nat, (∀ i ∈ us, i ∈ vs) → L2.wipe σ' vs = L2.wipe σ vs) → Q σ' H) → g v σ H Q
theorem eg_name {k : Nat} : EvG K (gName k) d ρ (ρ.set k (some d)) [k] := fun φ J σ H v A r Q q => q _ (A.set k r) fun vs h => wipe_set (h k (by simp))
def EvGs (K : PySem.W.Frag) (g : TGs) (ds : List D) (ρ ρ' : List (Option D)) (us : List Nat) : Prop := ∀ (φ : Addr → Prop) (J : Hp → Prop) σ H ws, At K φ J ρ σ H → Reps K φ H ds ws → ∀ Q : L2.St → Hp → Prop,
  (∀ σ', At K φ J ρ' σ' H → (∀ vs : List Nat, (∀ i ∈ us, i ∈ vs) → L2.wipe σ' vs = L2.wipe σ vs) → Q σ' H) → g ws σ H Q
theorem egs_nil : EvGs K gNil [] ρ ρ [] := fun φ J σ H ws A r Q q => ⟨r, q σ A fun _ _ => rfl⟩
theorem egs_cons {g : TG} {gs : TGs} {ρ1 ρ2 : List (Option D)} {us ws : List Nat} (h : EvG K g d ρ ρ1 us) (hs : EvGs K gs ds ρ1 ρ2 ws) : EvGs K (gCons g gs) (d :: ds) ρ ρ2 (us ++ ws) := fun φ J σ H xs A r Q q => by
  obtain ⟨v, r', rfl, h1, h2⟩ := (show ∃ v r, xs = v :: r ∧ Rep K φ H d v ∧ Reps K φ H ds r from r)
  refine ⟨v, r', rfl, h φ J σ H v A h1 _ fun σ1 A1 w1 => hs φ J σ1 H r' A1 h2 Q fun σ2 A2 w2 => q σ2 A2 fun vs hv => ?_⟩
  rw [w2 vs fun i hi => hv i (List.mem_append_right _ hi), w1 vs fun i hi => hv i (List.mem_append_left _ hi)]
theorem eg_tup {gs : TGs} {us : List Nat} (h : EvGs K gs ds ρ ρ' us) : EvG K (gTup K ds.length gs) (.tup ds) ρ ρ' us := fun φ J σ H v A r Q q => by
  obtain ⟨a, vs, rfl, p, rs⟩ := rep_tup r
  exact ⟨a, vs, rfl, p.sq, rs.length, h φ J σ H vs A rs Q q⟩

/-! ### list comprehensions -/
inductive Comp (pt : D → Bool → Prop) (pe : D → D → Prop) : List D → List D → Prop where
  | nil : Comp pt pe [] []
  | take {d y : D} {ds ys : List D} : pt d true → pe d y → Comp pt pe ds ys → Comp pt pe (d :: ds) (y :: ys)
  | skip {d : D} {ds ys : List D} : pt d false → Comp pt pe ds ys → Comp pt pe (d :: ds) ys
theorem Comp.snoc1 {pt : D → Bool → Prop} {pe : D → D → Prop} : ∀ {ds ys : List D}, Comp pt pe ds ys → pt d true → pe d y → Comp pt pe (ds ++ [d]) (ys ++ [y])
  | _, _, .nil, h, k => .take h k .nil
  | _, _, .take a b c, h, k => .take a b (Comp.snoc1 c h k)
  | _, _, .skip a c, h, k => .skip a (Comp.snoc1 c h k)
theorem Comp.snoc0 {pt : D → Bool → Prop} {pe : D → D → Prop} : ∀ {ds ys : List D}, Comp pt pe ds ys → pt d false → Comp pt pe (ds ++ [d]) ys
  | _, _, .nil, h => .skip h .nil
  | _, _, .take a b c, h => .take a b (Comp.snoc0 c h)
  | _, _, .skip a c, h => .skip a (Comp.snoc0 c h)
theorem Comp.map {f : D → D} : ∀ {ds ys : List D}, Comp (fun _ b => b = true) (fun d y => y = f d) ds ys → ys = ds.map f
  | _, _, .nil => rfl
  | _, _, .take _ e c => by rw [e, c.map]; rfl
  | _, _, .skip e _ => by cases e
theorem Comp.filter {p : D → Bool} {f : D → D} : ∀ {ds ys : List D}, Comp (fun d b => b = p d) (fun d y => y = f d) ds ys → ys = (ds.filter p).map f
  | _, _, .nil => rfl
  | _, _, .take e1 e c => by rw [List.filter_cons, if_pos e1.symm, e, c.filter]; rfl
  | _, _, .skip e c => by rw [List.filter_cons, if_neg (by rw [← e]; simp), c.filter]
theorem Comp.len {pt : D → Bool → Prop} {pe : D → D → Prop} : ∀ {ds ys : List D}, Comp pt pe ds ys → ys.length ≤ ds.length
  | _, _, .nil => Nat.le_refl _
  | _, _, .take _ _ c => Nat.succ_le_succ c.len
  | _, _, .skip _ c => Nat.le_succ_of_le c.len
theorem Comp.all {pe : D → D → Prop} : ∀ {ds ys : List D}, Comp (fun _ b => b = true) pe ds ys → ys.length = ds.length ∧ ∀ y ∈ ys, ∃ d ∈ ds, pe d y
  | _, _, .nil => ⟨rfl, fun _ h => by simp at h⟩
  | _, _, .take _ e c => ⟨by rw [List.length_cons, List.length_cons, c.all.1], fun z h => by
    rcases List.mem_cons.mp h with rfl | h
    · exact ⟨_, List.mem_cons_self, e⟩
    · obtain ⟨d, hd, p⟩ := c.all.2 z h
      exact ⟨d, List.mem_cons_of_mem _ hd, p⟩⟩
  | _, _, .skip e _ => by cases e
theorem ev_lcP {wi : TI} {g : TG} {tt : TT} {te : TE} {ws us : List Nat} {Pi : List D → Prop} {ρd : D → List (Option D)} {pt : D → Bool → Prop} {pe : D → D → Prop} (hi : IterP K φ J wi ρ Pi) (hl : ∀ ds, Pi ds → ds.length ≤ 1000000) (hu : ∀ i ∈ us, i ∈ ws)
    (hg : ∀ ds, Pi ds → ∀ d ∈ ds, EvG K g d (wipeR ρ ws) (ρd d) us)
    (ht : ∀ ds, Pi ds → ∀ d ∈ ds, ∀ φ' J', Ext φ J φ' J' → EvT K φ' J' tt (ρd d) (pt d))
    (he : ∀ ds, Pi ds → ∀ d ∈ ds, pt d true → ∀ φ' J', Ext φ J φ' J' → EvP K φ' J' te (ρd d) (pe d)) :
    EvP K φ J (tLc wi g tt te ws) ρ (fun z => ∃ ds ys, Pi ds ∧ z = .lst ys ∧ Comp pt pe ds ys) := fun σ H A Q q => by
  refine hi σ H A _ fun J0 ds H1 b1 A1 pd w => ?_
  intro D0 hD
  -- inside: the list at D0 is live
  have neP : ∀ p s ns, Pooled φ J p s ns → p ≠ D0 := fun p s ns hp => by
    obtain ⟨a1, a2, a3, a4, h1, _⟩ := hp.ok _ A1.j
    exact ne_of_none h1 hD
  let φ' : Addr → Prop := fun a => φ a ∧ a ≠ D0
  have ext : ∀ acc : List V, Ext φ J φ' (fun H => J H ∧ H D0 = some (.lst acc)) := fun acc => ⟨fun _ h => h.1, fun p s ns hp => ⟨fun z => hp.np z.1, hp.ne, fun H h => hp.ok H h.1, fun H H' h k o => ⟨hp.st H H' h.1 k o, k _ _ (neP p s ns hp).symm h.2⟩⟩, fun a p h => ⟨p, fun e => h H1 A1.j (by rw [e]; exact hD)⟩⟩
  have mono : ∀ (acc : List V) (H2 : Hp), (∀ a, H1 a ≠ none → H2 a ≠ none) → H2 D0 ≠ none → Mo H2 (fun H => J H ∧ H D0 = some (.lst acc)) := fun acc H2 s h => (A1.mono.up s).and (Mo.at h)
  refine ⟨fun i m H2 => m = ds.length - i ∧ i ≤ ds.length ∧ But φ H1 H2 ∧ ∃ acc ys, Reps K φ' H2 ys acc ∧ Comp pt pe (ds.take i) ys ∧ At K φ' (fun H => J H ∧ H D0 = some (.lst acc)) (wipeR ρ ws) (L2.wipe σ ws) H2,
    ⟨ds.length, rfl, Nat.zero_le _, But.of (same_new hD), [], [], Reps.nil, .nil, ?_⟩, ?_⟩
  · have A2 := A1.newLive (o := .lst []) (J' := fun H => J H ∧ H D0 = some (.lst [])) hD ⟨A1.mono _ _ (fun a o _ e => same_new hD a o e) A1.j, upd_same⟩ (mono [] _ upd_tr (by rw [upd_same]; exact fun z => by cases z))
    exact ⟨A2.sr.wipe ws, A2.fr, A2.j, A2.mono⟩
  · rintro i m H2 ⟨rfl, hi, b2, acc, ys, rs, cp, A2⟩
    have upw : Up φ φ' H1 H2 := fun a o p e => ⟨⟨p, ne_of_none e hD⟩, b2.keep a o p e⟩
    have fr2 : Frm φ' H2 := A2.fr
    obtain ⟨wg, wstop⟩ := w φ' i H2 upw fr2
    by_cases hlt : i < ds.length
    · have hd : ds[i]? = some ds[i] := List.getElem?_eq_getElem hlt
      obtain ⟨go, yl⟩ := wg _ hd
      refine .inr ⟨go, fun H3 => But φ H1 H3 ∧ ∃ acc ys, Reps K φ' H3 ys acc ∧ Comp pt pe (ds.take (i + 1)) ys ∧ At K φ' (fun H => J H ∧ H D0 = some (.lst acc)) (wipeR ρ ws) (L2.wipe σ ws) H3, ?_, ?_⟩
      · rintro H3 ⟨b3, acc3, ys3, r3, c3, A3⟩
        exact ⟨ds.length - (i + 1), by omega, rfl, hlt, b3, acc3, ys3, r3, c3, A3⟩
      · intro x H3 hy
        obtain ⟨s3, r3⟩ := yl x H3 hy
        have A3 := A2.same s3
        have rs3 := rs.mono (But.of (φ := φ') s3)
        have b3 : But φ H1 H3 := b2.trans (But.of s3)
        have hmem : ds[i] ∈ ds := List.getElem_mem hlt
        have tk : ds.take (i + 1) = ds.take i ++ [ds[i]] := by rw [List.take_add_one, hd]; rfl
        refine hg ds pd _ hmem φ' _ _ H3 x A3 r3 _ fun σ4 A4 hw4 => ⟨?_, ?_⟩
        · rw [hw4 ws hu]
          exact wipe_wipe ws
        · refine ht ds pd _ hmem φ' _ (ext acc) σ4 H3 A4 _ fun bb H5 b5 A5 hp => ?_
          have b35 : But φ H1 H5 := ⟨fun a o p e => b5.keep a o ⟨p, ne_of_none e hD⟩ (b3.keep a o p e), fun a h => b5.tr a (b3.tr a h)⟩
          have A5' : At K φ' (fun H => J H ∧ H D0 = some (.lst acc)) (wipeR ρ ws) (L2.wipe σ ws) H5 := ⟨A3.sr.up (Up.of b5), A5.fr, A5.j, A5.mono⟩
          cases bb with
          | false =>
            rw [if_neg (by simp)]
            exact ⟨b35, acc, ys, rs3.mono b5, by rw [tk]; exact cp.snoc0 hp, A5'⟩
          | true =>
            rw [if_pos rfl]
            refine he ds pd _ hmem hp φ' _ (ext acc) σ4 H5 A5 _ fun v d H6 b6 A6 pv r6 => ?_
            have rl := (rs3.mono b5).mono b6
            have nD : ¬ φ' D0 := fun z => z.2 rfl
            have cl := cp.len
            refine ⟨acc, A6.j.2, ?_, ?_, acc ++ [v], ys ++ [d], ?_, by rw [tk]; exact cp.snoc1 hp pv, ?_⟩
            · rw [rl.length]
              have h1 := hl ds pd
              rw [List.length_take] at cl
              exact szlt (by omega)
            · refine ⟨fun a o p e => ?_, fun a h => upd_tr a (b6.tr a (b35.tr a h))⟩
              have ne := ne_of_none e hD
              rw [upd_ne ne]
              exact b6.keep a o ⟨p, ne⟩ (b35.keep a o p e)
            · exact (rl.append (Reps.cons r6 Reps.nil)).mono ((But.refl φ' H6).upd nD)
            · have A6' : At K φ' (fun H => J H ∧ H D0 = some (.lst acc)) (wipeR ρ ws) (L2.wipe σ ws) H6 := ⟨A5'.sr.up (Up.of b6), A6.fr, A6.j, A6.mono⟩
              have jj : J (upd H6 D0 (.lst (acc ++ [v]))) := A1.mono H6 _ (fun a o h e => by
                rw [upd_ne (show a ≠ D0 from fun z => h (by rw [z]; exact hD))]
                exact e) A6.j.1
              exact A6'.upd nD ⟨jj, upd_same⟩ (mono _ _ (fun a h => upd_tr a (b6.tr a (b35.tr a h))) (by rw [upd_same]; exact fun z => by cases z))
    · have e : i = ds.length := by omega
      subst e
      refine .inl ⟨wstop rfl, ?_⟩
      rw [List.take_length] at cp
      have A3 : At K φ J ρ σ H2 := ⟨A1.sr.up (Up.of b2), A2.fr.fst, A2.j.1, A1.mono.up b2.tr⟩
      refine q _ (.lst ys) H2 (b1.trans b2) A3 ⟨ds, ys, pd, rfl, cp⟩ ⟨D0, acc, rfl, .inl ⟨A1.fr D0 hD, .inl A2.j.2⟩, ?_⟩
      exact Reps.up (fun a o p e => ⟨p.1, e⟩) ys acc rs
end
end DL
namespace DL
open PySem PySem.Spec PyProof.Rows L2

section
variable {K : PySem.W.Frag} {φ φ' : Addr → Prop} {J J' : Hp → Prop} {H H' H1 : Hp} {ρ ρ' : List (Option D)} {σ : L2.St} {ta tb te tc : TE} {x y z d : D} {P Pa Pb Pc : D → Prop} {i j : Int} {b c : Bool} {ds es : List D} {v : V} {vs : List V} {a : Addr} {D0 : Ends} {t u : TS}

/-! ### comprehensions, by one name -/
/-- [e for x in ds]: all by f -/
theorem ev_lc {wi : TI} {te : TE} {k : Nat} {f : D → D} (hi : IterD K φ J wi ρ ds) (hl : ds.length ≤ 1000000) (he : ∀ d ∈ ds, ∀ φ' J', Ext φ J φ' J' → EvD K φ' J' te ((wipeR ρ [k]).set k (some d)) (f d)) :
    EvD K φ J (tLc wi (gName k) tYes te [k]) ρ (.lst (ds.map f)) :=
  (ev_lcP (ρd := fun d => (wipeR ρ [k]).set k (some d)) (us := [k]) (pt := fun _ b => b = true) (pe := fun d y => y = f d) hi (fun ds' e => by rw [e]; exact hl) (fun _ h => h) (fun _ _ d _ => eg_name)
    (fun _ _ d _ φ' J' _ σ H A Q q => q true H (But.refl _ _) A rfl) (fun ds' e d hd _ φ' J' x => he d (e ▸ hd) φ' J' x)).imp fun z ⟨ds', ys, e1, e2, c⟩ => by
      subst e1
      rw [e2, c.map]
/-- [e for x in ds if t] -/
theorem ev_lcF {wi : TI} {tt : TT} {te : TE} {k : Nat} {p : D → Bool} {f : D → D} (hi : IterD K φ J wi ρ ds) (hl : ds.length ≤ 1000000) (ht : ∀ d ∈ ds, ∀ φ' J', Ext φ J φ' J' → EvX K φ' J' tt ((wipeR ρ [k]).set k (some d)) (p d))
    (he : ∀ d ∈ ds, p d = true → ∀ φ' J', Ext φ J φ' J' → EvD K φ' J' te ((wipeR ρ [k]).set k (some d)) (f d)) :
    EvD K φ J (tLc wi (gName k) tt te [k]) ρ (.lst ((ds.filter p).map f)) :=
  (ev_lcP (ρd := fun d => (wipeR ρ [k]).set k (some d)) (us := [k]) (pt := fun d b => b = p d) (pe := fun d y => y = f d) hi (fun ds' e => by rw [e]; exact hl) (fun _ h => h) (fun _ _ d _ => eg_name)
    (fun ds' e d hd φ' J' x => ht d (e ▸ hd) φ' J' x) (fun ds' e d hd pd φ' J' x => he d (e ▸ hd) pd.symm φ' J' x)).imp fun z ⟨ds', ys, e1, e2, c⟩ => by
      subst e1
      rw [e2, c.filter]
theorem et_yes : EvT K φ J tYes ρ (fun b => b = true) := fun σ H A Q q => q true H (But.refl _ _) A rfl
/-- any element: a property of each -/
theorem ev_lcE {wi : TI} {te : TE} {k : Nat} {Pi : List D → Prop} {pe : D → D → Prop} (hi : IterP K φ J wi ρ Pi) (hl : ∀ ds, Pi ds → ds.length ≤ 1000000) (he : ∀ ds, Pi ds → ∀ d ∈ ds, ∀ φ' J', Ext φ J φ' J' → EvP K φ' J' te ((wipeR ρ [k]).set k (some d)) (pe d)) :
    EvP K φ J (tLc wi (gName k) tYes te [k]) ρ (fun z => ∃ ds ys, Pi ds ∧ z = .lst ys ∧ Comp (fun _ b => b = true) pe ds ys) :=
  ev_lcP (ρd := fun d => (wipeR ρ [k]).set k (some d)) (us := [k]) hi hl (fun _ h => h) (fun _ _ d _ => eg_name) (fun _ _ d _ φ' J' _ => et_yes) (fun ds' e d hd _ φ' J' x => he ds' e d hd φ' J' x)

/-! ### statements -/
theorem q (h : t { D0 with nx := u D0 } σ H) : tSeq t u D0 σ H := h
theorem st_next (h : D0.nx σ H) : tNext D0 σ H := h
theorem st_asg {k : Nat} (A : At K φ J ρ σ H) (h : EvP K φ J te ρ P) (kk : ∀ d σ' H', P d → At K φ J (ρ.set k (some d)) σ' H' → D0.nx σ' H') : tAsg te (gName k) D0 σ H :=
  h σ H A _ fun v d H' b A' pd r => kk d _ H' pd (A'.set k r)
/-- .. where the value is known -/
theorem st_set {k : Nat} (A : At K φ J ρ σ H) (h : EvD K φ J te ρ d) (kk : ∀ σ' H', At K φ J (ρ.set k (some d)) σ' H' → D0.nx σ' H') : tAsg te (gName k) D0 σ H :=
  st_asg A h fun d' σ' H' e A' => kk σ' H' (e ▸ A')
theorem st_asgG {g : TG} {us : List Nat} {ρ2 : D → List (Option D)} (A : At K φ J ρ σ H) (h : EvP K φ J te ρ P) (hg : ∀ d, P d → EvG K g d ρ (ρ2 d) us) (kk : ∀ d σ' H', P d → At K φ J (ρ2 d) σ' H' → D0.nx σ' H') : tAsg te g D0 σ H :=
  h σ H A _ fun v d H' b A' pd r => hg d pd φ J σ H' v A' r _ fun σ' A2 _ => kk d σ' H' pd A2
theorem st_ret (A : At K φ J ρ σ H) (h : EvP K φ J te ρ P) (kk : ∀ v d H', P d → At K φ J ρ σ H' → Rep K φ H' d v → D0.rt v H') : tRet te D0 σ H :=
  h σ H A _ fun v d H' b A' pd r => kk v d H' pd A' r
theorem st_retN (h : D0.rt .non H) : tRetN D0 σ H := h
theorem st_drop (A : At K φ J ρ σ H) (h : EvP K φ J te ρ P) (kk : ∀ d H', P d → At K φ J ρ σ H' → D0.nx σ H') : tDrop te D0 σ H :=
  h σ H A _ fun v d H' b A' pd r => kk d H' pd A'
theorem st_if {tt : TT} {p : Bool → Prop} (A : At K φ J ρ σ H) (h : EvT K φ J tt ρ p) (k1 : p true → ∀ H', At K φ J ρ σ H' → t D0 σ H') (k2 : p false → ∀ H', At K φ J ρ σ H' → u D0 σ H') : tIfS tt t u D0 σ H :=
  h σ H A _ fun b H' bt A' pb => by
    cases b with
    | true =>
      rw [if_pos rfl]
      exact k1 pb H' A'
    | false =>
      rw [if_neg (by simp)]
      exact k2 pb H' A'
/-- the test is known -/
theorem st_yes {tt : TT} (A : At K φ J ρ σ H) (h : EvX K φ J tt ρ b) (e : b = true) (k1 : ∀ H', At K φ J ρ σ H' → t D0 σ H') : tIfS tt t u D0 σ H :=
  st_if A h (fun _ H' A' => k1 H' A') fun z => by rw [e] at z; cases z
theorem st_no {tt : TT} (A : At K φ J ρ σ H) (h : EvX K φ J tt ρ b) (e : b = false) (k2 : ∀ H', At K φ J ρ σ H' → u D0 σ H') : tIfS tt t u D0 σ H :=
  st_if A h (fun z => by rw [e] at z; cases z) fun _ H' A' => k2 H' A'
theorem st_aug {k : Nat} {f : Int → Int → Int} (A : At K φ J ρ σ H) (hx : ρ[k]? = some (some (.int i))) (h : EvD K φ J te ρ (.int j)) (kk : ∀ σ' H', At K φ J (ρ.set k (some (.int (f i j)))) σ' H' → D0.nx σ' H') : tAug k te (ipI f) D0 σ H := by
  obtain ⟨v, e, r⟩ := A.sr.2 k _ hx
  cases (show v = _ from r)
  refine ⟨_, e, h σ H A _ fun w d H' b A' pd r' => ?_⟩
  subst pd
  exact ⟨i, j, rfl, r', kk _ H' (A'.set k rfl)⟩

/-! ### for -/
def NX (K : PySem.W.Frag) (φ : Addr → Prop) (H1 : Hp) (Inv : Nat → List (Option D) → (Hp → Prop) → Prop) (i : Nat) : L2.St → Hp → Prop := fun σ H => ∃ ρ'' J'', Inv i ρ'' J'' ∧ At K φ (fun H => J'' H ∧ But φ H1 H) ρ'' σ H
theorem NX.go {Inv : Nat → List (Option D) → (Hp → Prop) → Prop} {n : Nat} (A : At K φ (fun H => J H ∧ But φ H1 H) ρ σ H) (h : Inv n ρ J) : NX K φ H1 Inv n σ H := ⟨ρ, J, h, A⟩
theorem Ext.but {H1 : Hp} (h : ∀ p s ns, Pooled φ J p s ns → H1 p ≠ none) : Ext φ J φ (fun H => J H ∧ But φ H1 H) := ⟨fun _ h => h.1, fun p s ns hp => ⟨hp.np, hp.ne, fun H h => hp.ok H h.1, fun H H' hh k o => ⟨hp.st H H' hh.1 k o, ⟨fun a u pa e => k a u (fun z => hp.np (z ▸ pa)) (hh.2.keep a u pa e), fun a ha => by
  by_cases z : a = p
  · subst z
    obtain ⟨_, _, _, _, e, _⟩ := o
    rw [e]
    exact fun z => by cases z
  · cases e : H a with
    | none => exact absurd e (hh.2.tr a ha)
    | some u => rw [k a u z e]; exact fun z => by cases z⟩⟩⟩, fun _ p _ => p⟩
theorem Ext.but' {H1 : Hp} : Ext φ J φ (fun H => J H ∧ But φ H1 H) := ⟨fun _ h => h.1, fun p s ns hp => ⟨hp.np, hp.ne, fun H h => hp.ok H h.1, fun H H' hh k o => ⟨hp.st H H' hh.1 k o, ⟨fun a u pa e => k a u (fun z => hp.np (z ▸ pa)) (hh.2.keep a u pa e), fun a ha => by
  by_cases z : a = p
  · subst z
    obtain ⟨_, _, _, _, e, _⟩ := o
    rw [e]
    exact fun z => by cases z
  · cases e : H a with
    | none => exact absurd e (hh.2.tr a ha)
    | some u => rw [k a u z e]; exact fun z => by cases z⟩⟩⟩, fun _ p _ => p⟩
def ForG (K : PySem.W.Frag) (φ : Addr → Prop) (g : TG) (tb : TS) (ds : List D) (D0 : Ends) (σ : L2.St) (H1 : Hp) : Prop := ∀ J0, Walks K φ J0 H1 ds → ∃ W : Nat → Nat → L2.St → Hp → Prop, (∃ m, W 0 m σ H1) ∧ ∀ i m σ H, W i m σ H →
  (J0.stop i H ∧ D0.nx σ H) ∨ (J0.go i H ∧ ∃ N : L2.St → Hp → Prop, (∀ σ' H', N σ' H' → ∃ m', m' < m ∧ W (i + 1) m' σ' H') ∧ ∀ x H', J0.yld i H x H' → g x σ H' fun σ2 H2 => tb { D0 with nx := N, ct := N, bk := D0.nx } σ2 H2)
theorem st_forP {wi : TI} {g : TG} {tb : TS} {Pi : List D → Prop} (A : At K φ J ρ σ H) (hi : IterP K φ J wi ρ Pi) (k : ∀ ds H1, Pi ds → At K φ J ρ σ H1 → ForG K φ g tb ds D0 σ H1) : tFor wi g tb D0 σ H :=
  hi σ H A _ fun J0 ds H1 b A1 pd w => k ds H1 pd A1 J0 w
theorem forG_by {g : TG} {tb : TS} (A : At K φ J ρ σ H1) (Inv : Nat → List (Option D) → (Hp → Prop) → Prop) (h0 : Inv 0 ρ J)
    (hs : ∀ i d ρ' J', ds[i]? = some d → Inv i ρ' J' → ∃ ρ2 us, EvG K g d ρ' ρ2 us ∧ ∀ σ' H', At K φ (fun H => J' H ∧ But φ H1 H) ρ2 σ' H' → tb { D0 with nx := NX K φ H1 Inv (i + 1), ct := NX K φ H1 Inv (i + 1), bk := D0.nx } σ' H')
    (hd : ∀ ρ' J' σ' H', Inv ds.length ρ' J' → At K φ (fun H => J' H ∧ But φ H1 H) ρ' σ' H' → D0.nx σ' H') : ForG K φ g tb ds D0 σ H1 := fun J0 w => by
  refine ⟨fun i m σ H => m = ds.length - i ∧ i ≤ ds.length ∧ NX K φ H1 Inv i σ H, ⟨ds.length, rfl, Nat.zero_le _, ρ, J, h0, A.live ⟨A.j, But.refl _ _⟩ (A.mono.and (Mo.but fun _ h => h))⟩, ?_⟩
  rintro i m σ2 H2 ⟨rfl, hi, ρ2, J2, inv, A2⟩
  obtain ⟨wg, ws⟩ := w φ i H2 (Up.of A2.j.2) A2.fr
  by_cases hlt : i < ds.length
  · have hx : ds[i]? = some ds[i] := List.getElem?_eq_getElem hlt
    obtain ⟨go, yl⟩ := wg _ hx
    obtain ⟨ρ3, us, eg, body⟩ := hs i _ ρ2 J2 hx inv
    refine .inr ⟨go, NX K φ H1 Inv (i + 1), fun σ' H' n => ⟨ds.length - (i + 1), by omega, rfl, hlt, n⟩, fun x H3 hy => ?_⟩
    obtain ⟨s3, r3⟩ := yl x H3 hy
    exact eg φ _ σ2 H3 x (A2.same s3) r3 _ fun σ4 A4 _ => body σ4 H3 A4
  · have e : i = ds.length := by omega
    subst e
    exact .inl ⟨ws rfl, hd ρ2 J2 σ2 H2 inv A2⟩
/-- by one name -/
theorem st_for {wi : TI} {tb : TS} {k : Nat} (A : At K φ J ρ σ H) (hi : IterD K φ J wi ρ ds) (Inv : Nat → List (Option D) → (Hp → Prop) → Prop) (h0 : Inv 0 ρ J)
    (hs : ∀ H1 i d ρ' J', But φ H H1 → J H1 → ds[i]? = some d → Inv i ρ' J' → ∀ σ' H', At K φ (fun H => J' H ∧ But φ H1 H) (ρ'.set k (some d)) σ' H' → tb { D0 with nx := NX K φ H1 Inv (i + 1), ct := NX K φ H1 Inv (i + 1), bk := D0.nx } σ' H')
    (hd : ∀ H1 ρ' J' σ' H', But φ H H1 → J H1 → Inv ds.length ρ' J' → At K φ (fun H => J' H ∧ But φ H1 H) ρ' σ' H' → D0.nx σ' H') : tFor wi (gName k) tb D0 σ H :=
  hi σ H A _ fun J0 ds' H1 b A1 pd w => by
    subst pd
    exact forG_by (D0 := D0) A1 Inv h0 (fun i d ρ' J' hx inv => ⟨_, _, eg_name, fun σ' H' A' => hs H1 i d ρ' J' b A1.j hx inv σ' H' A'⟩) (fun ρ' J' σ' H' inv A' => hd H1 ρ' J' σ' H' b A1.j inv A') J0 w
/-- by a target of any form -/
theorem st_forT {wi : TI} {tb : TS} {g : TG} {us : List Nat} {ρt : D → List (Option D) → List (Option D)} (A : At K φ J ρ σ H) (hi : IterD K φ J wi ρ ds) (Inv : Nat → List (Option D) → (Hp → Prop) → Prop) (h0 : Inv 0 ρ J)
    (hg : ∀ i d ρ' J', ds[i]? = some d → Inv i ρ' J' → EvG K g d ρ' (ρt d ρ') us)
    (hs : ∀ H1 i d ρ' J', But φ H H1 → J H1 → ds[i]? = some d → Inv i ρ' J' → ∀ σ' H', At K φ (fun H => J' H ∧ But φ H1 H) (ρt d ρ') σ' H' → tb { D0 with nx := NX K φ H1 Inv (i + 1), ct := NX K φ H1 Inv (i + 1), bk := D0.nx } σ' H')
    (hd : ∀ H1 ρ' J' σ' H', But φ H H1 → J H1 → Inv ds.length ρ' J' → At K φ (fun H => J' H ∧ But φ H1 H) ρ' σ' H' → D0.nx σ' H') : tFor wi g tb D0 σ H :=
  hi σ H A _ fun J0 ds' H1 b A1 pd w => by
    subst pd
    exact forG_by (D0 := D0) A1 Inv h0 (fun i d ρ' J' hx inv => ⟨_, _, hg i d ρ' J' hx inv, fun σ' H' A' => hs H1 i d ρ' J' b A1.j hx inv σ' H' A'⟩) (fun ρ' J' σ' H' inv A' => hd H1 ρ' J' σ' H' b A1.j inv A') J0 w
theorem st_while {tt : TT} {tb : TS} (A : At K φ J ρ σ H) (Inv : Nat → List (Option D) → (Hp → Prop) → Prop) (m0 : Nat) (h0 : Inv m0 ρ J)
    (hs : ∀ m ρ' J', Inv m ρ' J' → ∃ p, EvT K φ (fun H1 => J' H1 ∧ But φ H H1) tt ρ' p ∧
      (p true → ∀ σ' H', At K φ (fun H1 => J' H1 ∧ But φ H H1) ρ' σ' H' → ∀ N : L2.St → Hp → Prop, (∀ m' σ' H', m' < m → NX K φ H Inv m' σ' H' → N σ' H') → tb { D0 with nx := N, ct := N, bk := D0.nx } σ' H') ∧
      (p false → ∀ σ' H', At K φ (fun H1 => J' H1 ∧ But φ H H1) ρ' σ' H' → D0.nx σ' H')) : tWhile tt tb D0 σ H := by
  refine ⟨NX K φ H Inv, ⟨m0, ρ, J, h0, A.live ⟨A.j, But.refl _ _⟩ (A.mono.and (Mo.but fun _ h => h))⟩, ?_⟩
  rintro m σ2 H2 ⟨ρ2, J2, inv, A2⟩
  obtain ⟨p, ht, h1, h2⟩ := hs m ρ2 J2 inv
  refine ht σ2 H2 A2 _ fun b H3 b3 A3 pb => ?_
  cases b with
  | true =>
    rw [if_pos rfl]
    exact ⟨fun σ' H' => ∃ m', m' < m ∧ NX K φ H Inv m' σ' H', fun σ' H' n => n, h1 pb σ2 H3 A3 _ fun m' σ' H' l n => ⟨m', l, n⟩⟩
  | false =>
    rw [if_neg (by simp)]
    exact h2 pb σ2 H3 A3

/-! ### defs of pure values -/
/-- the promise: a relation of trees -/
def SpD (K : PySem.W.Frag) (n : Nat) (R : List D → D → Prop) : Sp := fun vs H Q _ => ∃ φ ds d, ds.length = n ∧ Reps K φ H ds vs ∧ Frm φ H ∧ R ds d ∧ ∀ v H', Same H H' → Rep K φ H' d v → Q v H'
theorem ev_call {n : Nat} {R : List D → D → Prop} {E : XK} {ta : TA} {Pr : List D → Prop} (ha : EvA K φ J ta ρ Pr) (hr : ∀ ds, Pr ds → ∃ d, ds.length = n ∧ R ds d ∧ P d) : EvP K φ J (tCall (SpD K n R) [] E ta) ρ P := fun σ H A Q q =>
  ha σ H A _ fun vs ds H1 b1 A1 pd r1 => by
    obtain ⟨d, hl, hd, pd'⟩ := hr ds pd
    refine ⟨φ, ds, d, hl, by rw [List.append_nil]; exact r1, A1.fr, hd, fun v H' s r => ?_⟩
    exact q v d H' (b1.trans (But.of s)) (A1.same s) pd' r
theorem ev_callD {n : Nat} {R : List D → D → Prop} {E : XK} {ta : TA} (ha : EvAD K φ J ta ρ ds) (hr : R ds d) (hl : ds.length = n := by rfl) : EvD K φ J (tCall (SpD K n R) [] E ta) ρ d := ev_call ha fun ds' e => ⟨d, by rw [e]; exact hl, by rw [e]; exact hr, rfl⟩
section
variable {PP : Program} {w : World} {mg : Str → Option Value} {base : Heap}
/-- a def keeps the promise, by its body's reading -/
theorem fn_ok {x qual : Str} {st : Stmt} {f : Addr} {fd : FuncData} {N ps : List Str} {k n : Nat} {R : List D → D → Prop} (F : Fun K x qual st f fd) (S : FnScope N ps (defScope st)) (hn : ps.length = n) (m : Nat) (hm : N.length = n + m)
    (hbody : ∀ (cdv : Value) (A : Around) (outer : List Env) (s : Shared) (H : Hp) (E : XK), Room k (A.deeper (envOfC qual (defScope st) s.heap.objs.size f cdv)) →
      ∃ t, PSs (cxOf CX0 PP w K mg base N qual (defScope st) f cdv A outer s H E).nox (defBody st) t ∧
        ∀ (φ : Addr → Prop) (ds : List D) (d : D) (H : Hp) (D0 : Ends) (σ : L2.St), ds.length = n → R ds d → (∀ v H', Same H H' → Rep K φ H' d v → D0.rt v H') → (d = .non → ∀ H', Same H H' → ∀ σ', D0.nx σ' H') → At K φ (Same H) (ds.map some ++ List.replicate m none) σ H → t D0 σ H) :
    FnOk PP w K mg base CX0 (k + 1) f fd ps (SpD K n R) := by
  refine F.ok S (fun vs H Q E h => ?_) (fun cdv A outer s H vs Q E hr h => ?_)
  · obtain ⟨φ, ds, d, hl, r, _⟩ := h
    rw [r.length, hl, hn]
  · obtain ⟨φ, ds, d, hl, r, fr, hd, q⟩ := h
    obtain ⟨t, ht, run⟩ := hbody cdv A outer s H E hr
    refine ⟨t, ht, run φ ds d H _ _ hl hd (fun v H' s r => q v H' s r) (fun e H' s σ' => q .non H' s (by rw [e]; rfl)) ⟨?_, fr, Same.refl H, Mo.sames fun _ h => h⟩⟩
    have e : N.length - vs.length = m := by rw [hm, r.length, hl]; omega
    unfold L2.start
    rw [e]
    exact SR.start r
end

theorem Frm.butP {φ : Addr → Prop} {H H' : Hp} {p s : Addr} {ns : List Int} (F : Frm φ H) (bp : ButP p H H') (po : PoolOk p s ns H') (tr : ∀ a, H a ≠ none → H' a ≠ none) : Frm φ H' := ⟨fun a h => F.new a (by
  cases e : H a with
  | none => rfl
  | some u => exact absurd h (tr a (by rw [e]; exact fun z => by cases z))), fun a xs h => by
  cases e : H a with
  | none => exact F.new a e
  | some u =>
    by_cases ea : a = p
    · subst ea
      obtain ⟨_, _, _, _, e1, _⟩ := po
      rw [e1] at h
      cases h
    · have z := bp a u ea e
      rw [h] at z
      cases z
      exact F.tup a xs e⟩
/-! ### draws -/
def spDraw : Sp := fun vs H Q _ => ∃ p s ns n, vs = [.ref p, .int n] ∧ PoolOk p s ns H ∧ s ≠ p ∧ 0 < n ∧ n < 4294967296 ∧ ∀ r H', 0 ≤ r → r < n → ButP p H H' → PoolOk p s ns H' → Q (.int r) H'
theorem butP_but {p : Addr} (h : ButP p H H') (np : ¬ φ p) {s : Addr} {ns : List Int} (o : PoolOk p s ns H') : But φ H H' := ⟨fun a u pa e => h a u (fun z => np (z ▸ pa)) e, fun a ha => by
  by_cases z : a = p
  · subst z
    obtain ⟨_, _, _, _, e, _⟩ := o
    rw [e]
    exact fun z => by cases z
  · cases e : H a with
    | none => exact absurd e ha
    | some u => rw [h a u z e]; exact fun z => by cases z⟩
theorem ev_draw {E : XK} {p s : Addr} {ns : List Int} {n : Int} {k : Nat} (hp : Pooled φ J p s ns) (hk : ρ[k]? = some (some (.raw (.ref p)))) (he : EvD K φ J te ρ (.int n)) (h0 : 0 < n) (h1 : n < 4294967296) :
    EvI K φ J (tCall spDraw [] E (tCons (tVar k) (tCons te tNil))) ρ (fun r => 0 ≤ r ∧ r < n) := fun σ H A Q q =>
  ev_var hk σ H A _ fun v d H1 b1 A1 e1 r1 => he σ H1 A1 _ fun v2 d2 H2 b2 A2 e2 r2 => by
    subst e1 e2
    cases (show v = _ from r1)
    cases (show v2 = _ from r2)
    refine ⟨p, s, ns, n, rfl, hp.ok _ A2.j, hp.ne, h0, h1, fun r H' g0 g1 bp po => ?_⟩
    have bt : But φ H2 H' := butP_but bp hp.np po
    have bt' : ∀ a, H2 a ≠ none → H' a ≠ none := bt.tr
    refine q _ (.int r) H' ((b1.trans b2).trans bt) ⟨A2.sr.up (Up.of bt), A2.fr.butP bp po bt', hp.st _ _ A2.j bp po, A2.mono.up bt'⟩ ⟨r, rfl, g0, g1⟩ rfl
/-- where the bound is drawn too -/
theorem ev_drawP {E : XK} {p s : Addr} {ns : List Int} {pn : Int → Prop} {k : Nat} (hp : Pooled φ J p s ns) (hk : ρ[k]? = some (some (.raw (.ref p)))) (he : EvI K φ J te ρ pn) (h0 : ∀ n, pn n → 0 < n ∧ n < 4294967296) :
    EvI K φ J (tCall spDraw [] E (tCons (tVar k) (tCons te tNil))) ρ (fun r => 0 ≤ r ∧ ∃ n, pn n ∧ r < n) := fun σ H A Q q =>
  ev_var hk σ H A _ fun v d H1 b1 A1 e1 r1 => he σ H1 A1 _ fun v2 d2 H2 b2 A2 ⟨n, e2, hn⟩ r2 => by
    subst e1 e2
    cases (show v = _ from r1)
    cases (show v2 = _ from r2)
    refine ⟨p, s, ns, n, rfl, hp.ok _ A2.j, hp.ne, (h0 n hn).1, (h0 n hn).2, fun r H' g0 g1 bp po => ?_⟩
    have bt : But φ H2 H' := butP_but bp hp.np po
    have bt' : ∀ a, H2 a ≠ none → H' a ≠ none := bt.tr
    refine q _ (.int r) H' ((b1.trans b2).trans bt) ⟨A2.sr.up (Up.of bt), A2.fr.butP bp po bt', hp.st _ _ A2.j bp po, A2.mono.up bt'⟩ ⟨r, rfl, g0, n, hn, g1⟩ rfl
/-! P-mode operators on ints -/
theorem ei_add {p q : Int → Prop} (ha : EvI K φ J ta ρ p) (hb : EvI K φ J tb ρ q) : EvI K φ J (tOp (rI0 fun i j => .int (i + j)) ta tb) ρ (fun k => ∃ i j, p i ∧ q j ∧ k = i + j) := ev_op ha hb fun x y ⟨i, e1, pi⟩ ⟨j, e2, qj⟩ => by
  subst e1 e2
  exact fun H v w _ r1 r2 Q k => ⟨i, j, r1, r2, k _ _ H (Same.refl H) ⟨_, rfl, i, j, pi, qj, rfl⟩ rfl⟩
theorem ei_sub {p q : Int → Prop} (ha : EvI K φ J ta ρ p) (hb : EvI K φ J tb ρ q) : EvI K φ J (tOp (rI0 fun i j => .int (i - j)) ta tb) ρ (fun k => ∃ i j, p i ∧ q j ∧ k = i - j) := ev_op ha hb fun x y ⟨i, e1, pi⟩ ⟨j, e2, qj⟩ => by
  subst e1 e2
  exact fun H v w _ r1 r2 Q k => ⟨i, j, r1, r2, k _ _ H (Same.refl H) ⟨_, rfl, i, j, pi, qj, rfl⟩ rfl⟩
theorem ei_mul {p q : Int → Prop} (ha : EvI K φ J ta ρ p) (hb : EvI K φ J tb ρ q) (hc : ∀ i j, p i → q j → CMul i j) : EvI K φ J (tOp (rI CMul fun i j => .int (i * j)) ta tb) ρ (fun k => ∃ i j, p i ∧ q j ∧ k = i * j) := ev_op ha hb fun x y ⟨i, e1, pi⟩ ⟨j, e2, qj⟩ => by
  subst e1 e2
  exact fun H v w _ r1 r2 Q k => ⟨i, j, r1, r2, hc i j pi qj, k _ _ H (Same.refl H) ⟨_, rfl, i, j, pi, qj, rfl⟩ rfl⟩
theorem eb_cmp {f : Int → Int → Bool} {p q : Int → Prop} (ha : EvI K φ J ta ρ p) (hb : EvI K φ J tb ρ q) : EvB K φ J (tOp (rI0 fun i j => .bl (f i j)) ta tb) ρ (fun k => ∃ i j, p i ∧ q j ∧ k = f i j) := ev_op ha hb fun x y ⟨i, e1, pi⟩ ⟨j, e2, qj⟩ => by
  subst e1 e2
  exact fun H v w _ r1 r2 Q k => ⟨i, j, r1, r2, k _ _ H (Same.refl H) ⟨_, rfl, i, j, pi, qj, rfl⟩ rfl⟩
theorem eb_eq {p q : Int → Prop} (ha : EvI K φ J ta ρ p) (hb : EvI K φ J tb ρ q) : EvB K φ J (tOp rEq ta tb) ρ (fun k => ∃ i j, p i ∧ q j ∧ k = decide (i = j)) := ev_op ha hb fun x y ⟨i, e1, pi⟩ ⟨j, e2, qj⟩ => by
  subst e1 e2
  exact fun H v w f r1 r2 Q k => o2_eqI (φ := φ) (K := K) H v w f r1 r2 Q fun u z H' s e r => k u z H' s ⟨_, e, i, j, pi, qj, rfl⟩ r
theorem ei_intB {p : Bool → Prop} (ha : EvB K φ J te ρ p) : EvI K φ J (tCB rInt1 (tCons te tNil)) ρ (fun k => ∃ b, p b ∧ k = if b then 1 else 0) := ev_cb (ea_consP ha ea_nil) fun ds ⟨d, r, e, ⟨b, e1, pb⟩, e2⟩ => by
  subst e e1 e2
  exact fun H vs f r Q k => cl_intB (K := K) (φ := φ) H vs f r Q fun u z H' s e r => k u z H' s ⟨_, e, b, pb, rfl⟩ r
end
end DL
namespace DL
open PySem PySem.Spec PyProof.Rows L2

/-- a def of the top as others call it -/
structure Lk (K : PySem.W.Frag) (mg : Str → Option Value) (x : Str) (f : Addr) (fd : FuncData) (ps : List Str) : Prop where
  m : mg x = some (.ref f)
  kp : PySem.W.keepIn K (.ref f) = true
  bi : Binds K fd ps []
section
variable {X : Cx} {x : Str} {pos : Pos}
/-- a built-in class as a value -/
theorem pe_ty {n : String} (hm : X.mg x = none) (hv : bootBuiltins x = some (.type n)) (hg : Gl X x := by rfl) (hn : x ≠ "__name__" := by decide) (hd : (x == ("__debug__" : Str)) = false := by decide) : PE X (.Name x pos) (tC (.ty n)) := pe_bltn hg hm hv rfl hn hd
/-- a constant of the module -/
theorem pe_cst {v : V} (h : ∃ u, X.mg x = some u ∧ RelV v u) (hg : Gl X x := by rfl) (hd : (x == ("__debug__" : Str)) = false := by decide) : PE X (.Name x pos) (tC v) := by
  obtain ⟨u, hm, r⟩ := h
  exact pe_glob hg hm r hd
end

def Stab (p : Addr) (J : Hp → Prop) : Prop := ∀ H o, J H → J (L2.upd H p o)
theorem Stab.and {p : Addr} {J J' : Hp → Prop} (a : Stab p J) (b : Stab p J') : Stab p (fun H => J H ∧ J' H) := fun H o h => ⟨a H o h.1, b H o h.2⟩
theorem Stab.but {p : Addr} {φ : Addr → Prop} {H0 : Hp} (h : ¬ φ p ∨ H0 p = none) : Stab p (But φ H0) := fun H o b => ⟨fun a u pa e => by
  have ne : a ≠ p := fun z => h.elim (fun n => n (z ▸ pa)) fun n => by rw [z, n] at e; cases e
  rw [upd_ne ne]
  exact b.keep a u pa e, fun a h => upd_tr a (b.tr a h)⟩
theorem Stab.at {p l : Addr} {u : HO} (h : l ≠ p) : Stab p (fun H => H l = some u) := fun H o e => by
  show L2.upd H p o l = some u
  rw [upd_ne h]
  exact e
theorem Stab.of {p : Addr} {J : Hp → Prop} {H0 : Hp} (m : Mo H0 J) (h : H0 p = none) : Stab p J := fun H o j => m H _ (fun a u ha e => by
  rw [upd_ne (show a ≠ p from fun z => ha (by rw [z]; exact h))]
  exact e) j

section
variable {K : PySem.W.Frag} {φ φ' : Addr → Prop} {J J' : Hp → Prop} {H H' H1 : Hp} {ρ ρ' : List (Option D)} {σ : L2.St} {ta tb te tc : TE} {x y z d : D} {P Pa Pb Pc : D → Prop} {i j : Int} {b c : Bool} {ds es : List D} {v : V} {vs : List V} {a : Addr} {D0 : Ends} {t u : TS}
/-- a new list comes out -/
def EvN (K : PySem.W.Frag) (φ : Addr → Prop) (J : Hp → Prop) (te : TE) (ρ : List (Option D)) (P : List D → Prop) : Prop := ∀ σ H, At K φ J ρ σ H → ∀ Q : VK, (∀ p vs ds H0 H', But φ H H0 → At K φ J ρ σ H0 → H0 p = none → But φ H0 H' → At K φ J ρ σ H' → P ds → H' p = some (.lst vs) → Reps K (fun a => φ a ∧ a ≠ p) H' ds vs → Q (.ref p) H') → te σ H Q
theorem ev_new {P : List D → Prop} (h : EvN K φ J te ρ P) : EvP K φ J te ρ (fun z => ∃ ds, z = .lst ds ∧ P ds) := fun σ H A Q q => h σ H A Q fun p vs ds H0 H' b0 A0 hp b A' pd e r =>
  q _ (.lst ds) H' (b0.trans b) A' ⟨ds, rfl, pd⟩ ⟨p, vs, rfl, .inl ⟨A0.fr p hp, .inl e⟩, Reps.up (fun a o p e => ⟨p.1, e⟩) ds vs r⟩
theorem ev_newD (h : EvN K φ J te ρ (fun x => x = ds)) : EvD K φ J te ρ (.lst ds) := (ev_new h).imp fun z ⟨ds', e, e2⟩ => by rw [e, e2]
theorem reps_new {p : Addr} {o : HO} (hp : H p = none) (r : Reps K φ H ds vs) : Reps K (fun a => φ a ∧ a ≠ p) (L2.upd H p o) ds vs :=
  Reps.up (fun a u q e => ⟨⟨q, ne_of_none e hp⟩, by rw [upd_ne (ne_of_none e hp)]; exact e⟩) ds vs r
theorem en_lst {ta : TA} {Pr : List D → Prop} (ha : EvA K φ J ta ρ Pr) (hl : ∀ r, Pr r → r.length ≤ 1000000) : EvN K φ J (tLst ta) ρ Pr := fun σ H A Q q =>
  ha σ H A _ fun vs ds H1 b1 A1 pd r1 => ⟨by rw [r1.length]; exact sz (hl _ pd), fun p hp => q p vs ds H1 _ b1 A1 hp (But.of (same_new hp)) (A1.same (same_new hp)) pd upd_same (reps_new hp r1)⟩
theorem en_lstD {ta : TA} (ha : EvAD K φ J ta ρ ds) (hl : ds.length ≤ 1000000 := by first | exact Nat.le_of_ble_eq_true rfl | decide) : EvN K φ J (tLst ta) ρ (fun x => x = ds) := en_lst ha fun r e => by rw [e]; exact hl
theorem en_list (ha : EvD K φ J te ρ (.lst ds)) : EvN K φ J (tCB (rListOf K) (tCons te tNil)) ρ (fun x => x = ds) := fun σ H A Q q => ha σ H A _ fun v d H1 b1 A1 e r => by
  subst e
  obtain ⟨a, vs, rfl, p, rs⟩ := rep_lst r
  exact ⟨a, vs, rfl, .inl p.sq, fun l hl => q l vs ds H1 _ b1 A1 hl (But.of (same_new hl)) (A1.same (same_new hl)) rfl upd_same (reps_new hl rs)⟩
theorem en_listT (ha : EvD K φ J te ρ (.tup ds)) : EvN K φ J (tCB (rListOf K) (tCons te tNil)) ρ (fun x => x = ds) := fun σ H A Q q => ha σ H A _ fun v d H1 b1 A1 e r => by
  subst e
  obtain ⟨a, vs, rfl, p, rs⟩ := rep_tup r
  exact ⟨a, vs, rfl, .inr p.sq, fun l hl => q l vs ds H1 _ b1 A1 hl (But.of (same_new hl)) (A1.same (same_new hl)) rfl upd_same (reps_new hl rs)⟩
theorem en_lcP {wi : TI} {g : TG} {tt : TT} {te : TE} {ws us : List Nat} {Pi : List D → Prop} {ρd : D → List (Option D)} {pt : D → Bool → Prop} {pe : D → D → Prop} (hi : IterP K φ J wi ρ Pi) (hl : ∀ ds, Pi ds → ds.length ≤ 1000000) (hu : ∀ i ∈ us, i ∈ ws)
    (hg : ∀ ds, Pi ds → ∀ d ∈ ds, EvG K g d (wipeR ρ ws) (ρd d) us)
    (ht : ∀ ds, Pi ds → ∀ d ∈ ds, ∀ φ' J', Ext φ J φ' J' → EvT K φ' J' tt (ρd d) (pt d))
    (he : ∀ ds, Pi ds → ∀ d ∈ ds, pt d true → ∀ φ' J', Ext φ J φ' J' → EvP K φ' J' te (ρd d) (pe d)) :
    EvN K φ J (tLc wi g tt te ws) ρ (fun ys => ∃ ds, Pi ds ∧ Comp pt pe ds ys) := fun σ H A Q q => by
  refine hi σ H A _ fun J0 ds H1 b1 A1 pd w => ?_
  intro D0 hD
  have neP : ∀ p s ns, Pooled φ J p s ns → p ≠ D0 := fun p s ns hp => by
    obtain ⟨a1, a2, a3, a4, h1, _⟩ := hp.ok _ A1.j
    exact ne_of_none h1 hD
  let φ' : Addr → Prop := fun a => φ a ∧ a ≠ D0
  have ext : ∀ acc : List V, Ext φ J φ' (fun H => J H ∧ H D0 = some (.lst acc)) := fun acc => ⟨fun _ h => h.1, fun p s ns hp => ⟨fun z => hp.np z.1, hp.ne, fun H h => hp.ok H h.1, fun H H' h k o => ⟨hp.st H H' h.1 k o, k _ _ (neP p s ns hp).symm h.2⟩⟩, fun a p h => ⟨p, fun e => h H1 A1.j (by rw [e]; exact hD)⟩⟩
  have mono : ∀ (acc : List V) (H2 : Hp), (∀ a, H1 a ≠ none → H2 a ≠ none) → H2 D0 ≠ none → Mo H2 (fun H => J H ∧ H D0 = some (.lst acc)) := fun acc H2 s h => (A1.mono.up s).and (Mo.at h)
  refine ⟨fun i m H2 => m = ds.length - i ∧ i ≤ ds.length ∧ But φ H1 H2 ∧ ∃ acc ys, Reps K φ' H2 ys acc ∧ Comp pt pe (ds.take i) ys ∧ At K φ' (fun H => J H ∧ H D0 = some (.lst acc)) (wipeR ρ ws) (L2.wipe σ ws) H2,
    ⟨ds.length, rfl, Nat.zero_le _, But.of (same_new hD), [], [], Reps.nil, .nil, ?_⟩, ?_⟩
  · have A2 := A1.newLive (o := .lst []) (J' := fun H => J H ∧ H D0 = some (.lst [])) hD ⟨A1.mono _ _ (fun a o _ e => same_new hD a o e) A1.j, upd_same⟩ (mono [] _ upd_tr (by rw [upd_same]; exact fun z => by cases z))
    exact ⟨A2.sr.wipe ws, A2.fr, A2.j, A2.mono⟩
  · rintro i m H2 ⟨rfl, hi, b2, acc, ys, rs, cp, A2⟩
    have upw : Up φ φ' H1 H2 := fun a o p e => ⟨⟨p, ne_of_none e hD⟩, b2.keep a o p e⟩
    have fr2 : Frm φ' H2 := A2.fr
    obtain ⟨wg, wstop⟩ := w φ' i H2 upw fr2
    by_cases hlt : i < ds.length
    · have hd : ds[i]? = some ds[i] := List.getElem?_eq_getElem hlt
      obtain ⟨go, yl⟩ := wg _ hd
      refine .inr ⟨go, fun H3 => But φ H1 H3 ∧ ∃ acc ys, Reps K φ' H3 ys acc ∧ Comp pt pe (ds.take (i + 1)) ys ∧ At K φ' (fun H => J H ∧ H D0 = some (.lst acc)) (wipeR ρ ws) (L2.wipe σ ws) H3, ?_, ?_⟩
      · rintro H3 ⟨b3, acc3, ys3, r3, c3, A3⟩
        exact ⟨ds.length - (i + 1), by omega, rfl, hlt, b3, acc3, ys3, r3, c3, A3⟩
      · intro x H3 hy
        obtain ⟨s3, r3⟩ := yl x H3 hy
        have A3 := A2.same s3
        have rs3 := rs.mono (But.of (φ := φ') s3)
        have b3 : But φ H1 H3 := b2.trans (But.of s3)
        have hmem : ds[i] ∈ ds := List.getElem_mem hlt
        have tk : ds.take (i + 1) = ds.take i ++ [ds[i]] := by rw [List.take_add_one, hd]; rfl
        refine hg ds pd _ hmem φ' _ _ H3 x A3 r3 _ fun σ4 A4 hw4 => ⟨?_, ?_⟩
        · rw [hw4 ws hu]
          exact wipe_wipe ws
        · refine ht ds pd _ hmem φ' _ (ext acc) σ4 H3 A4 _ fun bb H5 b5 A5 hp => ?_
          have b35 : But φ H1 H5 := ⟨fun a o p e => b5.keep a o ⟨p, ne_of_none e hD⟩ (b3.keep a o p e), fun a h => b5.tr a (b3.tr a h)⟩
          have A5' : At K φ' (fun H => J H ∧ H D0 = some (.lst acc)) (wipeR ρ ws) (L2.wipe σ ws) H5 := ⟨A3.sr.up (Up.of b5), A5.fr, A5.j, A5.mono⟩
          cases bb with
          | false =>
            rw [if_neg (by simp)]
            exact ⟨b35, acc, ys, rs3.mono b5, by rw [tk]; exact cp.snoc0 hp, A5'⟩
          | true =>
            rw [if_pos rfl]
            refine he ds pd _ hmem hp φ' _ (ext acc) σ4 H5 A5 _ fun v d H6 b6 A6 pv r6 => ?_
            have rl := (rs3.mono b5).mono b6
            have nD : ¬ φ' D0 := fun z => z.2 rfl
            have cl := cp.len
            refine ⟨acc, A6.j.2, ?_, ?_, acc ++ [v], ys ++ [d], ?_, by rw [tk]; exact cp.snoc1 hp pv, ?_⟩
            · rw [rl.length]
              have h1 := hl ds pd
              rw [List.length_take] at cl
              exact szlt (by omega)
            · refine ⟨fun a o p e => ?_, fun a h => upd_tr a (b6.tr a (b35.tr a h))⟩
              have ne := ne_of_none e hD
              rw [upd_ne ne]
              exact b6.keep a o ⟨p, ne⟩ (b35.keep a o p e)
            · exact (rl.append (Reps.cons r6 Reps.nil)).mono ((But.refl φ' H6).upd nD)
            · have A6' : At K φ' (fun H => J H ∧ H D0 = some (.lst acc)) (wipeR ρ ws) (L2.wipe σ ws) H6 := ⟨A5'.sr.up (Up.of b6), A6.fr, A6.j, A6.mono⟩
              have jj : J (upd H6 D0 (.lst (acc ++ [v]))) := A1.mono H6 _ (fun a o h e => by
                rw [upd_ne (show a ≠ D0 from fun z => h (by rw [z]; exact hD))]
                exact e) A6.j.1
              exact A6'.upd nD ⟨jj, upd_same⟩ (mono _ _ (fun a h => upd_tr a (b6.tr a (b35.tr a h))) (by rw [upd_same]; exact fun z => by cases z))
    · have e : i = ds.length := by omega
      subst e
      refine .inl ⟨wstop rfl, ?_⟩
      rw [List.take_length] at cp
      have A3 : At K φ J ρ σ H2 := ⟨A1.sr.up (Up.of b2), A2.fr.fst, A2.j.1, A1.mono.up b2.tr⟩
      exact q D0 acc ys H1 H2 b1 A1 hD b2 A3 ⟨ds, pd, cp⟩ A2.j.2 rs
theorem en_lc {wi : TI} {te : TE} {k : Nat} {f : D → D} (hi : IterD K φ J wi ρ ds) (hl : ds.length ≤ 1000000) (he : ∀ d ∈ ds, ∀ φ' J', Ext φ J φ' J' → EvD K φ' J' te ((wipeR ρ [k]).set k (some d)) (f d)) :
    EvN K φ J (tLc wi (gName k) tYes te [k]) ρ (fun x => x = ds.map f) := fun σ H A Q q =>
  (en_lcP (ρd := fun d => (wipeR ρ [k]).set k (some d)) (us := [k]) (pt := fun _ b => b = true) (pe := fun d y => y = f d) hi (fun ds' e => by rw [e]; exact hl) (fun _ h => h) (fun _ _ d _ => eg_name)
    (fun _ _ d _ φ' J' _ => et_yes) (fun ds' e d hd _ φ' J' x => he d (e ▸ hd) φ' J' x)) σ H A Q fun p vs ys H0 H' b0 A0 hp b A' pd e r => by
      obtain ⟨ds', e1, c⟩ := pd
      subst e1
      exact q p vs ys H0 H' b0 A0 hp b A' c.map e r
theorem en_lcE {wi : TI} {te : TE} {k : Nat} {Pi : List D → Prop} {pe : D → D → Prop} (hi : IterP K φ J wi ρ Pi) (hl : ∀ ds, Pi ds → ds.length ≤ 1000000) (he : ∀ ds, Pi ds → ∀ d ∈ ds, ∀ φ' J', Ext φ J φ' J' → EvP K φ' J' te ((wipeR ρ [k]).set k (some d)) (pe d)) :
    EvN K φ J (tLc wi (gName k) tYes te [k]) ρ (fun ys => ∃ ds, Pi ds ∧ Comp (fun _ b => b = true) pe ds ys) :=
  en_lcP (ρd := fun d => (wipeR ρ [k]).set k (some d)) (us := [k]) hi hl (fun _ h => h) (fun _ _ d _ => eg_name) (fun _ _ d _ φ' J' _ => et_yes) (fun ds' e d hd _ φ' J' x => he ds' e d hd φ' J' x)
/-- xs + ys, both new -/
theorem en_cat (ha : EvN K φ J ta ρ (fun x => x = ds)) (hb : EvN K φ J tb ρ (fun x => x = es)) (hz : ds.length + es.length ≤ 1000000) : EvN K φ J (tOp rCat ta tb) ρ (fun x => x = ds ++ es) := fun σ H A Q q =>
  ha σ H A _ fun p vs ds' H0 H1 b0 A0 hp b1 A1 pd e1 r1 => hb σ H1 A1 _ fun p2 ws es' H2 H3 b2 A2 hp2 b3 A3 pe e3 r3 => by
    subst pd pe
    have e1' : H3 p = some (.lst vs) := b3.keep _ _ (A0.fr p hp) (b2.keep _ _ (A0.fr p hp) e1)
    have r1' : Reps K φ H3 ds' vs := (Reps.up (fun a o q e => ⟨q.1, e⟩) ds' vs r1).mono (b2.trans b3)
    have r3' : Reps K φ H3 es' ws := Reps.up (fun a o q e => ⟨q.1, e⟩) es' ws r3
    refine ⟨p, p2, vs, ws, rfl, rfl, e1', e3, by rw [r1.length, r3.length]; exact sz hz, fun p4 hp4 => ?_⟩
    exact q p4 _ _ H3 _ (((b0.trans b1).trans b2).trans b3) A3 hp4 (But.of (same_new hp4)) (A3.same (same_new hp4)) rfl upd_same (reps_new hp4 (r1'.append r3'))
/-- x = a new list; it is live from then on -/
theorem st_new {k : Nat} {P : List D → Prop} (A : At K φ J ρ σ H) (h : EvN K φ J te ρ P) (kk : ∀ p vs ds σ' H', P ds → H p = none → φ p → Reps K (fun a => φ a ∧ a ≠ p) H' ds vs → Stab p J → (∀ s ps ns, Pooled φ J ps s ns → ps ≠ p ∧ s ≠ p) → But φ H H' → H' p = some (.lst vs) →
    At K (fun a => φ a ∧ a ≠ p) (fun H => (J H ∧ H p = some (.lst vs)) ∧ But (fun a => φ a ∧ a ≠ p) H' H) (ρ.set k (some (.raw (.ref p)))) σ' H' → D0.nx σ' H') : tAsg te (gName k) D0 σ H :=
  h σ H A _ fun p vs ds H0 H' b0 A0 hp b A' pd e r => by
    have hpH : H p = none := by
      cases z : H p with
      | none => rfl
      | some u => exact absurd hp (b0.tr p (by rw [z]; exact fun w => by cases w))
    have st : Stab p J := Stab.of A0.mono hp
    have neP : ∀ s ps ns, Pooled φ J ps s ns → ps ≠ p ∧ s ≠ p := fun s ps ns hq => by
      obtain ⟨a1, a2, a3, a4, h1, h2⟩ := hq.ok _ A0.j
      exact ⟨ne_of_none h1 hp, ne_of_none h2.1 hp⟩
    have u : Up φ (fun a => φ a ∧ a ≠ p) H H' := fun a o q e2 => ⟨⟨q, ne_of_none e2 hpH⟩, (b0.trans b).keep a o q e2⟩
    have sr : SR K (fun a => φ a ∧ a ≠ p) H' ρ σ := A.sr.up u
    have A2 : At K (fun a => φ a ∧ a ≠ p) (fun H => (J H ∧ H p = some (.lst vs)) ∧ But (fun a => φ a ∧ a ≠ p) H' H) ρ σ H' :=
      ⟨sr, A'.fr.at e (fun xs h => nomatch h), ⟨⟨A'.j, e⟩, But.refl _ _⟩, (A'.mono.and (Mo.at (by rw [e]; exact fun w => by cases w))).and (Mo.but fun _ h => h)⟩
    exact kk p vs ds _ H' pd hpH (A0.fr p hp) r st neP (b0.trans b) e (A2.set k rfl)
/-- .append on a live list -/
theorem st_app {k : Nat} {l : Addr} (A : At K φ J ρ σ H) (hk : ρ[k]? = some (some (.raw (.ref l)))) (hv : ∀ H, J H → H l = some (.lst vs)) (he : EvP K φ J te ρ P) (hz : vs.length ≤ 1000000)
    (kk : ∀ v d H', P d → Rep K φ H' d v → But φ H H' → At K φ J ρ σ H' → D0.nx σ (L2.upd H' l (.lst (vs ++ [v])))) : tDrop (tBM K "list" rAppend (tVar k) (tCons te tNil)) D0 σ H := by
  obtain ⟨w, e, r⟩ := A.sr.2 k _ hk
  cases (show w = _ from r)
  refine ⟨_, e, .inl ⟨rfl, _, SqL.of (hv H A.j)⟩, he σ H A _ fun v d H' b A' pd r' => ⟨l, vs, v, rfl, rfl, hv H' A'.j, szlt hz, kk v d H' pd r' b A'⟩⟩
/-- len of a live list -/
theorem ev_lenLive {l : Addr} (hk : EvD K φ J ta ρ (.raw (.ref l))) (hv : ∀ H, J H → H l = some (.lst vs)) : EvD K φ J (tCB (rLen K) (tCons ta tNil)) ρ (.int vs.length) := fun σ H A Q q =>
  hk σ H A _ fun v d H1 b1 A1 e1 r1 => by
    subst e1
    cases (show v = _ from r1)
    exact ⟨l, vs, rfl, .inl (SqL.of (hv H1 A1.j)), q _ _ H1 b1 A1 rfl rfl⟩
/-- a live list's item -/
theorem ev_ixLive {l : Addr} (hk : EvD K φ J ta ρ (.raw (.ref l))) (hb : EvD K φ J tb ρ (.int i)) (hv : ∀ H, J H → ∃ vs, H l = some (.lst vs) ∧ ∃ v, atI vs i = some v ∧ Rep K φ H d v) : EvD K φ J (tOp (rIxL K) ta tb) ρ d := fun σ H A Q q =>
  hk σ H A _ fun v x H1 b1 A1 e1 r1 => hb σ H1 A1 _ fun w y H2 b2 A2 e2 r2 => by
    subst e1 e2
    cases (show v = _ from r1)
    cases (show w = _ from r2)
    obtain ⟨vs, e, u, hu, ru⟩ := hv H2 A2.j
    exact ⟨l, vs, i, u, rfl, rfl, SqL.of e, hu, q u d H2 (b1.trans b2) A2 rfl ru⟩
/-- xs[i] = e on a live list -/
theorem st_setL {k n : Nat} {l : Addr} (A : At K φ J ρ σ H) (he : EvP K φ J te ρ P) (hk : ρ[k]? = some (some (.raw (.ref l)))) (hi : EvD K φ J tb ρ (.int i)) (hv : ∀ H, J H → H l = some (.lst vs)) (hj : ixN vs.length i = some n)
    (kk : ∀ v d H', P d → Rep K φ H' d v → But φ H H' → At K φ J ρ σ H' → D0.nx σ (L2.upd H' l (.lst (vs.set n v)))) : tAsg te (gSub (tVar k) tb rSetL) D0 σ H :=
  he σ H A _ fun v d H1 b1 A1 pd r1 => ev_var hk σ H1 A1 _ fun w x H2 b2 A2 e2 r2 => hi σ H2 A2 _ fun u y H3 b3 A3 e3 r3 => by
    subst e2 e3
    cases (show w = _ from r2)
    cases (show u = _ from r3)
    exact ⟨l, vs, i, n, rfl, rfl, hv H3 A3.j, hj, kk v d H3 pd ((r1.mono b2).mono b3) ((b1.trans b2).trans b3) A3⟩
/-- a subscript of a tuple or a list -/
def seqOf : D → Option (List D)
  | .tup ds => some ds
  | .lst ds => some ds
  | _ => none
theorem ev_ixQ (ha : EvD K φ J ta ρ x) (hx : seqOf x = some ds) (hb : EvD K φ J tb ρ (.int i)) (e : L2.atI ds i = some d) : EvD K φ J (tOp (rIx K) ta tb) ρ d := ev_opD ha hb fun H v w f r1 r2 Q q => by
  cases x with
  | tup es =>
    cases hx
    exact .inr (.inl (o2_ixT (φ := φ) e H v w f r1 r2 Q q))
  | lst es =>
    cases hx
    exact .inl (o2_ixL (φ := φ) e H v w f r1 r2 Q q)
  | _ => cases hx
theorem q_cut {M : L2.St → Hp → Prop} (h : t { D0 with nx := M } σ H) (k : ∀ σ' H', M σ' H' → u D0 σ' H') : C8.tCut t u D0 σ H := ⟨M, h, k⟩
theorem ev_lenQ (ha : EvD K φ J te ρ x) (hx : seqOf x = some ds) : EvD K φ J (tCB (rLen K) (tCons te tNil)) ρ (.int ds.length) := by
  cases x with
  | tup es => cases hx; exact ev_lenT ha
  | lst es => cases hx; exact ev_lenL ha
  | _ => cases hx
end
end DL
namespace DL
open PySem PySem.Spec PyProof.Rows L2
def top (i : Nat) : Stmt := PySem.Challenge.pw_airwave_k58_faulty_consoles.main.body.getD i (.Pass ⟨0, 0, 0, 0⟩)
abbrev s_InvalidLine___init__ : Stmt := inClass (top 5) 0
abbrev s_least_between : Stmt := top 9
abbrev s_neighbors : Stmt := top 10
abbrev s_breaks : Stmt := top 12
abbrev s_would_break : Stmt := top 13
abbrev s_free_channels : Stmt := top 14
abbrev s_search : Stmt := top 15
abbrev s_clash_with : Stmt := top 16
abbrev s_solved : Stmt := top 17
abbrev s_read_number : Stmt := top 21
abbrev s_span : Stmt := top 23
abbrev s_greedy : Stmt := top 24
abbrev s_lowest : Stmt := top 26
abbrev s_blocking : Stmt := top 27
abbrev s_number_to : Stmt := top 31
abbrev s_Console___init__ : Stmt := inClass (top 32) 0
abbrev s_Console_separations : Stmt := inClass (top 32) 1
abbrev s_Console_set_need : Stmt := inClass (top 32) 2
abbrev s_Console_check : Stmt := inClass (top 32) 3
abbrev s_Console_execute : Stmt := inClass (top 32) 4
abbrev s_run_console : Stmt := top 33
abbrev s__law_same : Stmt := top 35
abbrev s__law_is_integer : Stmt := top 36
abbrev s__law_pool : Stmt := top 37
abbrev s__law_spread : Stmt := top 38
abbrev s__law_draw : Stmt := top 39
abbrev s__law_told : Stmt := top 40
abbrev s_law : Stmt := top 41
-- import KE.GoesEnumKw
-- import HandS.SortKw
/-! ### enumerate over a list or a tuple, from any count -/
section
variable {P : Program} {w : World} {K : PySem.W.Frag}
def Itn (Sq : Hp → List V → Prop) (k : Int) : It :=
  ⟨fun i H => ∃ (xs : List V) (x : V), Sq H xs ∧ xs[i]? = some x, fun i H v H' => ∃ T x, v = .ref T ∧ H T = none ∧ H' = upd H T (.tup [.int (k + (i : Nat)), x]) ∧ ∀ xs, Sq H xs → xs[i]? = some x, fun i H => ∃ xs : List V, Sq H xs ∧ xs.length = i⟩
structure EnSrc (P : Program) (w : World) (K : PySem.W.Frag) (a it : Addr) (Sq : Hp → List V → Prop) (Ho : Heap → Array Value → Prop) (Is : Nat → Heap → Prop) : Prop where
  src : ∀ (X : Cx) pins σ H s xs, X.K = K → Inv X pins σ H s → Sq H xs → ∃ its : List Value, Vals xs its ∧ Ho s.heap its.toArray ∧ xs.length ≤ sizeLine
  inj : ∀ (X : Cx) pins σ H s xs ys, X.K = K → Inv X pins σ H s → Sq H xs → Sq H ys → xs = ys
  draws : ∀ (A : Around) (items : Array Value), A.handled = none → a ≠ it → Draws P w A it [it, a] items.size (fun i v => items[i]? = some v) (fun i h => Is i h ∧ Ho h items)
  at' : ∀ i h h', Is i h → (∀ o, h.get? it = some o → h'.get? it = some o) → Is i h'
  live : ∀ i h, Is i h → ∃ o, h.get? it = some o ∧ (∀ v, o.data ≠ .cell v)
  ne : ∀ i h items, Is i h → Ho h items → a ≠ it
  nea : ∀ h items e c old, Ho h items → IsEnum h e it c old → e ≠ a
  nei : ∀ i h e c old, Is i h → IsEnum h e it c old → e ≠ it
theorem turn_enumN {elts : List Expr} {kk : Nat} {tpos : Pos} {a e it : Addr} {Sq : Hp → List V → Prop} {Ho : Heap → Array Value → Prop} {Is : Nat → Heap → Prop} (k : Int) (Z : EnSrc P w K a it Sq Ho Is) :
    Turn P w K (.Tuple elts kk tpos) (Itn Sq k) [e, it] e (fun i h => (∃ old, IsEnum h e it (k + ((i : Nat) : Int)) old) ∧ Is i h) where
  mem := by simp
  obj := fun i h st b hb => by
    obtain ⟨⟨old, he⟩, hi⟩ := st
    obtain ⟨o, ho, hd⟩ := Z.live i h hi
    have e' : b = e ∨ b = it := by simpa using hb
    rcases e' with z | z
    · rw [z]; exact ⟨_, he, fun v q => nomatch q⟩
    · rw [z]; exact ⟨o, ho, hd⟩
  keep := fun i h h' st kp => ⟨let ⟨old, he⟩ := st.1; ⟨old, kp e (by simp) _ he⟩, Z.at' i h h' st.2 fun o q => kp it (by simp) o q⟩
  item := by
    intro X hP hw hK hc i pins s σ H E I hf st hg
    obtain ⟨⟨old, he⟩, hit⟩ := st
    obtain ⟨xs, x, hq, hx⟩ := hg
    obtain ⟨its, rv, p, hz⟩ := Z.src X pins σ H s xs hK I hq
    obtain ⟨u, hu, ru⟩ := rv.get hx
    have hne : e ≠ it := Z.nei i _ e _ _ hit he
    have hea : e ≠ a := Z.nea _ _ e _ _ p he
    have hel : e < s.heap.objs.size := Heap.lt_size he
    have hil : it < s.heap.objs.size := by obtain ⟨_, q, _⟩ := Z.live i _ hit; exact Heap.lt_size q
    have hilt : i < its.toArray.size := by
      have := (List.getElem?_eq_some_iff.mp hu).1
      simpa using this
    subst hP hw
    refine wpAny_pyNext_enum_itemC (Z.draws X.A.in1 its.toArray (I.ok.hd hc) (Z.ne i _ _ hit p)) he ⟨hit, p⟩ hilt hne (by simp [hne, hea]) fun u' h' tk hP' ho hit' hT hsz hk => ?_
    have hu' : u' = u := by
      have : its.toArray[i]? = some u := by simpa using hu
      rw [this] at hP'
      exact (Option.some.inj hP').symm
    subst hu'
    refine ⟨_, rfl, wpAny_letOwnedTupleGo_enum (s := { s with heap := h', toks := tk + 1 }) ho fun h'' he' sb => ?_⟩
    have hT2 : h''.get? s.heap.objs.size = some { cls := .type "tuple", data := .seq #[.int (k + (i : Int)) tk, u'] } := (sb.2 _ (Nat.ne_of_gt hel)).trans hT
    have new : ObjOk X.prog X.w (upd H s.heap.objs.size (.tup [.int (k + (i : Nat)), x])) h'' s.heap.objs.size (.tup [.int (k + (i : Nat)), x]) :=
      ⟨by show 2 ≤ sizeLine; decide, [.int (k + (i : Int)) tk, u'], .cons ⟨_, rfl⟩ (.cons ru .nil), ⟨_, hT2, rfl, _, rfl⟩⟩
    have I1 : Inv X pins σ (upd H s.heap.objs.size (.tup [.int (k + (i : Nat)), x])) { s with heap := h'', toks := tk + 1 } :=
      I.turnedNew (ch := [e, it]) (fun b ob hb q => (sb.2 b (fun z => hb (by simp [z]))).trans (hk b ob (fun z => hb (by simp [z])) (fun z => hb (by simp [z])) q)) hf (Nat.le_refl _) new
    refine ⟨.ref s.heap.objs.size, _, I1, rfl, ⟨_, x, rfl, I.hok.fresh (Nat.le_refl _), rfl, fun ys hy => by rw [Z.inj X pins σ H s ys xs hK I hy hq]; exact hx⟩, ⟨⟨u', ?_⟩, Z.at' _ _ _ hit'.1 fun o q => (sb.2 it (Ne.symm hne)).trans q⟩, fun b hb => ?_⟩
    · have e1 : k + ((i + 1 : Nat) : Int) = k + (i : Int) + 1 := by omega
      rw [e1]; exact he'
    · have hb' : b < s.heap.objs.size := by
        have e' : b = e ∨ b = it := by simpa using hb
        rcases e' with z | z
        · rw [z]; exact hel
        · rw [z]; exact hil
      rw [upd_ne (Nat.ne_of_lt hb')]
      exact (hf b hb).1
  done := by
    intro X hP hw hK hc i pins s σ H E I hf st hg
    obtain ⟨⟨old, he⟩, hit⟩ := st
    obtain ⟨xs, hq, hx⟩ := hg
    obtain ⟨its, rv, p, hz⟩ := Z.src X pins σ H s xs hK I hq
    obtain ⟨f0, f1, f2, f3, f4, f5⟩ := hf it (by simp)
    have hl := rv.length
    have en : i = its.toArray.size := by rw [List.size_toArray]; omega
    subst hP hw
    exact wpAny_pyNext_enum_endD (Z.draws X.A.in1 its.toArray (I.ok.hd hc) (Z.ne i _ _ hit p)) he ⟨en ▸ hit, p⟩ fun h' eb => ⟨rfl, I.turned (t' := s.toks) (fun b o hb q => eb b o hb q) f0 f1 f3 f4 f5⟩
  self := fun A i s Q E st h => let ⟨⟨_, he⟩, _⟩ := st; wpAny_pyIter_enum he h
theorem apart_of {h : Heap} {a b : Addr} {o u : Obj} (h1 : h.get? a = some o) (h2 : h.get? b = some u) (hc : o.cls ≠ u.cls) : a ≠ b := fun e => by
  subst e
  rw [h1] at h2
  cases h2
  exact hc rfl
theorem enSrc_list (a it : Addr) : EnSrc P w K a it (fun H xs => SqL K H a xs) (fun h its => h.IsList a its) (fun i h => h.IsListIter it a i) where
  src := fun X pins σ H s xs hK I h => by
    subst hK
    obtain ⟨its, rv, p, hz⟩ := I.list h
    exact ⟨its, rv, p.isList, hz⟩
  inj := fun X pins σ H s xs ys hK I h h' => by
    subst hK
    exact I.list_inj h h'
  draws := fun A items hh hne => Draws.list hh it a hne items
  at' := fun i h h' st k => st.at fun o e => k o e
  live := fun i h st => by
    obtain ⟨o, e, c, d⟩ := st
    exact ⟨o, e, fun v z => by rw [d] at z; cases z⟩
  ne := fun i h items st hl => by
    obtain ⟨o, e, c, d⟩ := st
    obtain ⟨u, e2, c2, _⟩ := hl
    exact apart_of e2 e (by rw [c, c2]; decide)
  nea := fun h items e c old hl he => by
    obtain ⟨u, e2, c2, _⟩ := hl
    exact apart_of he e2 (by rw [c2]; show Value.type "enumerate" ≠ _; decide)
  nei := fun i h e c old st he => by
    obtain ⟨o, e1, c1, d⟩ := st
    exact apart_of he e1 (by rw [c1]; show Value.type "enumerate" ≠ _; decide)
theorem enSrc_tup (a it : Addr) : EnSrc P w K a it (fun H xs => SqT K H a xs) (fun h its => h.IsTuple a its) (fun i h => h.IsTupleIter it a i) where
  src := fun X pins σ H s xs hK I h => by
    subst hK
    obtain ⟨its, rv, p, hz⟩ := I.tuple h
    exact ⟨its, rv, p, hz⟩
  inj := fun X pins σ H s xs ys hK I h h' => by
    subst hK
    exact I.tuple_inj h h'
  draws := fun A items hh hne => Draws.tuple hh it a hne items
  at' := fun i h h' st k => by
    obtain ⟨o, e, r⟩ := st
    exact ⟨o, k o e, r⟩
  live := fun i h st => by
    obtain ⟨o, e, c, d⟩ := st
    exact ⟨o, e, fun v z => by rw [d] at z; cases z⟩
  ne := fun i h items st hl => by
    obtain ⟨o, e, c, d⟩ := st
    obtain ⟨u, e2, c2, _⟩ := hl
    exact apart_of e2 e (by rw [c, c2]; decide)
  nea := fun h items e c old hl he => by
    obtain ⟨u, e2, c2, _⟩ := hl
    exact apart_of he e2 (by rw [c2]; show Value.type "enumerate" ≠ _; decide)
  nei := fun i h e c old st he => by
    obtain ⟨o, e1, c1, d⟩ := st
    exact apart_of he e1 (by rw [c1]; show Value.type "enumerate" ≠ _; decide)
section
variable {M : Model} {A : Around} {E : Value → Shared → Prop} {s : Shared} {env : Env}
theorem callWith_type_kwB {pos : Pos} {T : String} {e : Expr} {rest : List Expr} {kws : List Keyword} {Q : Value → Shared → Prop}
    (h : wpAny M A (spliced (backTo pos (starEach (e :: rest) env))) (fun vs s₁ => wpAny M A (evalAll ((backToKw pos (keywordEach kws env)).map (·.2)))
      (fun kvs s₂ => wpAny M A (call (.type T) vs (((backToKw pos (keywordEach kws env)).filterMap (·.1)).zip kvs)) Q E s₂) E s₁) E s)
    (he : backTo pos (starEach (e :: rest) env) = (false, eval e env) :: backTo pos (starEach rest env))
    (hplain : (backTo pos (starEach (e :: rest) env)).any (·.1) = false)
    (hall : (backToKw pos (keywordEach kws env)).all (·.1.isSome) = true)
    (hkw : (backToKw pos (keywordEach kws env)).any (·.1.isNone) = false) :
    wpAny M A (callWith pos (.type T) [] (backTo pos (starEach (e :: rest) env)) (backToKw pos (keywordEach kws env))) Q E s := by
  unfold callWith
  refine wpAny_bind (wpAny_holding (wpAny_mono (Q := fun a s₁ => wpAny M A (call (.type T) ([] ++ a.pos) a.kw) Q E s₁) ?_ (fun a s₁ h₁ => wpAny_bind (wpAny_standAt ?_)) fun _ _ x => x))
  · rw [he] at h ⊢
    exact evalArgs_kwB hall h
  · simp only [hplain, hkw, Bool.or_false]
    refine wpAny_bind (wpAny_pure ?_)
    exact wpAny_bind (wpAny_mono h₁ (fun r s₂ hr => wpAny_bind (wpAny_holding (wpAny_point (wpAny_pure hr)))) fun _ _ x => x)
end
section
variable {X : Cx} {e : Expr} {ta tb : TE} {ta1 : TA} {p pos tpos kpos : Pos} {elts : List Expr} {kk : Nat}
/-- what a made enumerate object gives -/
theorem enum_pie {pins : List (Addr × Obj)} {σ : L2.St} {H1 : Hp} {s1 : Shared} {R : It → Hp → Prop} {h' : Heap} {Sq : Hp → List V → Prop} {Ho : Heap → Array Value → Prop} {Is : Addr → Nat → Heap → Prop} {a : Addr} {k : Int}
    (I1 : Inv X pins σ H1 s1) (Z : EnSrc X.prog X.w X.K a s1.heap.objs.size Sq Ho (Is s1.heap.objs.size)) (he : IsEnum h' (s1.heap.objs.size + 1) s1.heap.objs.size k .none) (hit : Is s1.heap.objs.size 0 h') (hk : ∀ b o, s1.heap.get? b = some o → h'.get? b = some o) (q : R (Itn Sq k) H1) :
    wpAny (model X.prog X.w) X.A (pyIter (.ref (s1.heap.objs.size + 1))) (PIE X pins σ (.Tuple elts kk tpos) R) X.xe { s1 with heap := h' } := by
  refine wpAny_pyIter_enum he ?_
  have I2 : Inv X pins σ H1 { s1 with heap := h' } := I1.kept (t' := s1.toks) hk
  refine ⟨s1.heap.objs.size + 1, [s1.heap.objs.size + 1, s1.heap.objs.size], _, _, H1, rfl, I2, turn_enumN k Z, ⟨⟨.none, by rw [show k + ((0 : Nat) : Int) = k by omega]; exact he⟩, hit⟩, fun b hb => ?_, q⟩
  have e' : b = s1.heap.objs.size + 1 ∨ b = s1.heap.objs.size := by simpa using hb
  have hle : s1.heap.objs.size ≤ b := by
    rcases e' with z | z
    · rw [z]; exact Nat.le_add_right _ _
    · rw [z]; exact Nat.le_refl _
  exact I1.fpOk hle (I1.hok.fresh hle)
def iEnumS (K : PySem.W.Frag) (ta tb : TE) : TI := fun σ H R => ta σ H fun v H1 => tb σ H1 fun u H2 => ∃ a k xs, v = .ref a ∧ u = .int k ∧ -(2 ^ 63) ≤ k ∧ k < 2 ^ 63 ∧ ((SqL K H2 a xs ∧ R (Itn (fun H xs => SqL K H a xs) k) H2) ∨ (SqT K H2 a xs ∧ R (Itn (fun H xs => SqT K H a xs) k) H2))
/-- enumerate(xs, start=k) -/
theorem pi_enumS {b : Expr} (hg : Gl X "enumerate") (hm : X.mg "enumerate" = none) (ha : PE X e ta) (hb : PE X b tb) (hs : starEach [e] X.env = [(false, eval e X.env)] := by rfl)
    (hall : (backToKw pos (keywordEach [⟨some "start", b, kpos⟩] X.env)).all (·.1.isSome) = true := by rfl) (hnone : (backToKw pos (keywordEach [⟨some "start", b, kpos⟩] X.env)).any (·.1.isNone) = false := by rfl)
    (hks : (backToKw pos (keywordEach [⟨some "start", b, kpos⟩] X.env)).filterMap (·.1) = [Str.ofString "start"] := by rfl) (he : backTo pos (starEach [e] X.env) = (false, eval e X.env) :: backTo pos (starEach [] X.env) := by rfl) (hpl : (backTo pos (starEach [e] X.env)).any (·.1) = false := by rfl) :
    PI X (.Tuple elts kk tpos) (.Call (.Name "enumerate" p) [e] [⟨some "start", b, kpos⟩] pos) (iEnumS X.K ta tb) := by
  refine ⟨fun pins s σ H R I h => ?_⟩
  refine wpAny_Call_Name_kw (ld_blt I hg hm boot_enumerate ?_)
  refine callWith_type_kwB (thn ((pa_cons (X := X) ha pa_nil hs).run pos pins s σ H (fun vs H1 => match vs with
    | [v] => tb σ H1 fun u H2 => ∃ a k xs, v = .ref a ∧ u = .int k ∧ -(2 ^ 63) ≤ k ∧ k < 2 ^ 63 ∧ ((SqL X.K H2 a xs ∧ R (Itn (fun H xs => SqL X.K H a xs) k) H2) ∨ (SqT X.K H2 a xs ∧ R (Itn (fun H xs => SqT X.K H a xs) k) H2))
    | _ => False) I ?_) fun us s1 ⟨vs, H1, I1, r1, q1⟩ => ?_) he hpl hall hnone
  · exact h
  · obtain ⟨v, rfl⟩ : ∃ v, vs = [v] := by
      cases vs with
      | nil => exact q1.elim
      | cons v r =>
        cases r with
        | nil => exact ⟨v, rfl⟩
        | cons _ _ => exact q1.elim
    rw [hks]
    refine PyProof.Rows.kws_cons (thn (hb.run pins s1 σ H1 _ I1 q1) fun u s2 ⟨x, H2, I2, rx, a, k, xs, e1, e2, k0, k1, q2⟩ => PyProof.Rows.kws_nil ?_)
    subst e1 e2
    obtain ⟨t, rfl⟩ := rx
    cases r1 with
    | cons r rr =>
      cases rr
      cases r
      rcases q2 with ⟨hq, q⟩ | ⟨hq, q⟩
      · obtain ⟨its, rv, p', hz⟩ := I2.list hq
        exact enum_begins_start (begins_list a its.toArray) p'.isList k0 k1 fun h' he' hit hsz hk => enum_pie (Is := fun it i h => h.IsListIter it a i) I2 (enSrc_list a _) he' ⟨_, hit, rfl, rfl⟩ hk q
      · obtain ⟨its, rv, p', hz⟩ := I2.tuple hq
        exact enum_begins_start (begins_tuple a its.toArray) p' k0 k1 fun h' he' hit hsz hk => enum_pie (Is := fun it i h => h.IsTupleIter it a i) I2 (enSrc_tup a _) he' ⟨_, hit, rfl, rfl⟩ hk q
end
section
variable {φ : Addr → Prop} {J : Hp → Prop} {ρ : List (Option D)} {ta tb : TE} {ds : List D} {k : Int} {x : D}
theorem it_enumS (h : EvD K φ J ta ρ x) (hx : seqOf x = some ds) (hb : EvD K φ J tb ρ (.int k)) (hk : -(2 ^ 63) ≤ k ∧ k < 2 ^ 63) : IterD K φ J (iEnumS K ta tb) ρ (enumD k ds) := fun σ H A R q => h σ H A _ fun v d H1 b1 A1 e r => hb σ H1 A1 _ fun u d2 H2 b2 A2 e2 r2 => by
  subst e e2
  cases (show u = _ from r2)
  have r := r.mono b2
  have fin : ∀ {Sq : Hp → List V → Prop} {vs : List V}, Reps K φ H2 ds vs → (∀ φ' H3, Up φ φ' H2 H3 → Sq H3 vs) → Walks K φ (Itn Sq k) H2 (enumD k ds) := fun {Sq vs} rs hS φ' i H3 up f => by
    have r1 := Reps.up up ds vs rs
    have s1 := hS φ' H3 up
    refine ⟨fun d hd => ?_, fun hi => ⟨vs, s1, by rw [r1.length, hi, enumD_length]⟩⟩
    rw [enumD_get] at hd
    cases hx : ds[i]? with
    | none => rw [hx] at hd; cases hd
    | some d0 =>
      rw [hx] at hd
      cases hd
      obtain ⟨w, e, rw'⟩ := r1.get hx
      refine ⟨⟨vs, w, s1, e⟩, fun x H4 hy => ?_⟩
      obtain ⟨T, x1, rfl, hT, rfl, hx1⟩ := hy
      have e2 := hx1 vs s1
      rw [e] at e2
      cases e2
      exact ⟨same_new hT, rep_pair (f T hT) upd_same rfl (rw'.mono (But.of (same_new hT)))⟩
  cases d with
  | tup es =>
    cases hx
    obtain ⟨a, vs, rfl, p, rs⟩ := rep_tup r
    exact ⟨a, k, vs, rfl, rfl, hk.1, hk.2, .inr ⟨p.sq, q _ _ H2 (b1.trans b2) A2 rfl (fin rs fun φ' H3 up => (p.up up).sq)⟩⟩
  | lst es =>
    cases hx
    obtain ⟨a, vs, rfl, p, rs⟩ := rep_lst r
    exact ⟨a, k, vs, rfl, rfl, hk.1, hk.2, .inl ⟨p.sq, q _ _ H2 (b1.trans b2) A2 rfl (fin rs fun φ' H3 up => (p.up up).sq)⟩⟩
  | _ => cases hx
end
end

/-! ### == and != of data -/
mutual
def toPy : D → PyData
  | .non => .none
  | .bl b => .bool b
  | .int i => .int i
  | .str x => .str x
  | .tup ds => .tuple (toPys ds)
  | .lst ds => .list (toPys ds)
  | .raw _ => .none
  | .dk _ _ => .none
  | .dt _ _ => .none
def toPys : List D → List PyData
  | [] => []
  | d :: ds => toPy d :: toPys ds
end
/-- bounded depth, no raw values, texts within the bounds -/
def okq : Nat → D → Bool
  | _, .non => true
  | _, .bl _ => true
  | _, .int _ => true
  | _, .str x => PyData.strOk x
  | n + 1, .tup ds => ds.all (okq n)
  | n + 1, .lst ds => ds.all (okq n)
  | 0, .tup _ => false
  | 0, .lst _ => false
  | _, .raw _ => false
  | _, .dk _ _ => false
  | _, .dt _ _ => false
theorem okq_lay : ∀ (n : Nat) (d : D), okq n d = true → (toPy d).canLay0 = true ∧ (toPy d).depth ≤ n := by
  intro n
  induction n with
  | zero =>
    intro d h
    cases d with
    | non => exact ⟨rfl, Nat.le_refl _⟩
    | bl b => exact ⟨rfl, Nat.le_refl _⟩
    | int i => exact ⟨rfl, Nat.le_refl _⟩
    | str x => exact ⟨h, Nat.le_refl _⟩
    | tup ds => cases h
    | lst ds => cases h
    | raw v => cases h
    | dk ks ds => cases h
    | dt ks ds => cases h
  | succ n ih =>
    have all : ∀ ds : List D, ds.all (okq n) = true → PyData.canLayAll0 (toPys ds) = true ∧ PyData.depthAll (toPys ds) ≤ n := by
      intro ds
      induction ds with
      | nil => intro _; exact ⟨rfl, Nat.zero_le _⟩
      | cons d ds ihd =>
        intro h
        rw [List.all_cons, Bool.and_eq_true] at h
        obtain ⟨h1, h2⟩ := ih d h.1
        obtain ⟨h3, h4⟩ := ihd h.2
        refine ⟨?_, ?_⟩
        · show ((toPy d).canLay0 && PyData.canLayAll0 (toPys ds)) = true
          rw [h1, h3]
          rfl
        · show max (toPy d).depth (PyData.depthAll (toPys ds)) ≤ n
          omega
    intro d h
    cases d with
    | non => exact ⟨rfl, Nat.zero_le _⟩
    | bl b => exact ⟨rfl, Nat.zero_le _⟩
    | int i => exact ⟨rfl, Nat.zero_le _⟩
    | str x => exact ⟨h, Nat.zero_le _⟩
    | tup ds => exact ⟨(all ds h).1, Nat.succ_le_succ (all ds h).2⟩
    | lst ds => exact ⟨(all ds h).1, Nat.succ_le_succ (all ds h).2⟩
    | raw v => cases h
    | dk ks ds => cases h
    | dt ks ds => cases h
theorem okq_shaped {n : Nat} {d : D} (h : okq n d = true) (hn : n ≤ 64) : SeqAt.shaped (toPy d) = true := by
  obtain ⟨h1, h2⟩ := okq_lay n d h
  unfold SeqAt.shaped
  rw [h1, decide_eq_true (Nat.le_trans h2 hn)]
  rfl
def eqvD (x y : D) : Bool := PyData.eqv (toPy x) (toPy y)
section
variable {K : PySem.W.Frag} {φ : Addr → Prop} {J : Hp → Prop} {H : Hp} {ρ : List (Option D)} {ta tb : TE} {x y : D} {v : V} {ds : List D} {vs : List V}
mutual
theorem dp_of : ∀ (d : D) (v : V) (n : Nat), okq n d = true → Rep K φ H d v → Dp K H v (toPy d)
  | .non, v, n, _, r => by cases (show v = _ from r); exact .non
  | .bl b, v, n, _, r => by cases (show v = _ from r); exact .bl b
  | .int i, v, n, _, r => by cases (show v = _ from r); exact .int i
  | .str x, v, n, _, r => by cases (show v = _ from r); exact .str x
  | .raw w, v, n, h, _ => by cases n <;> cases h
  | .dk ks ds, v, n, h, _ => by cases n <;> cases h
  | .dt ks ds, v, n, h, _ => by cases n <;> cases h
  | .tup ds, v, 0, h, _ => by cases h
  | .lst ds, v, 0, h, _ => by cases h
  | .tup ds, v, n + 1, h, r => by
    obtain ⟨a, vs, rfl, p, rs⟩ := rep_tup r
    exact .tup p.sq (dps_of ds vs n h rs)
  | .lst ds, v, n + 1, h, r => by
    obtain ⟨a, vs, rfl, p, rs⟩ := rep_lst r
    exact .lst p.sq (dps_of ds vs n h rs)
theorem dps_of : ∀ (ds : List D) (vs : List V) (n : Nat), ds.all (okq n) = true → Reps K φ H ds vs → DpAll K H vs (toPys ds)
  | [], vs, n, _, r => by
    have e : vs = [] := r
    subst e
    exact .nil
  | d :: ds, vs, n, h, r => by
    obtain ⟨v, r', rfl, h1, h2⟩ := (show ∃ v r, vs = v :: r ∧ Rep K φ H d v ∧ Reps K φ H ds r from r)
    rw [List.all_cons, Bool.and_eq_true] at h
    exact .cons (dp_of d v n h.1 h1) (dps_of ds r' n h.2 h2)
end
theorem ev_eqQ (ha : EvD K φ J ta ρ x) (hb : EvD K φ J tb ρ y) (hx : okq 64 x = true) (hy : okq 64 y = true) : EvD K φ J (tOp (rEqD K) ta tb) ρ (.bl (eqvD x y)) := ev_opD ha hb fun H v w _ r1 r2 Q q =>
  ⟨_, _, dp_of x v 64 hx r1, dp_of y w 64 hy r2, okq_shaped hx (Nat.le_refl _), okq_shaped hy (Nat.le_refl _), q _ _ H (Same.refl H) rfl rfl⟩
theorem ev_neQ (ha : EvD K φ J ta ρ x) (hb : EvD K φ J tb ρ y) (hx : okq 64 x = true) (hy : okq 64 y = true) : EvD K φ J (tOp (rNeD K) ta tb) ρ (.bl (!eqvD x y)) := ev_opD ha hb fun H v w _ r1 r2 Q q =>
  ⟨_, _, dp_of x v 64 hx r1, dp_of y w 64 hy r2, okq_shaped hx (Nat.le_refl _), okq_shaped hy (Nat.le_refl _), q _ _ H (Same.refl H) rfl rfl⟩
theorem eqvD_refl {n : Nat} (h : okq n x = true) : eqvD x x = true := SeqAt.eqv_refl _ (okq_lay n x h).1
theorem toPys_ints : ∀ ns : List Int, toPys (ns.map D.int) = ns.map PyData.int
  | [] => rfl
  | n :: ns => by
    show PyData.int n :: toPys (ns.map D.int) = _
    rw [toPys_ints ns]
    rfl
theorem okq_ints {n : Nat} {ns : List Int} : okq (n + 1) (.lst (ns.map D.int)) = true := by
  show (ns.map D.int).all (okq n) = true
  rw [List.all_map, List.all_eq_true]
  intro i _
  cases n <;> rfl
theorem eqvD_nil {ds : List D} : eqvD (.lst ds) (.lst []) = ds.isEmpty := by
  unfold eqvD
  show PyData.eqvAll (toPys ds) [] = _
  cases ds <;> rfl
end

-- import HandS.Exc
-- import HandS.ExcOwn
-- import HandS.TryOnly
-- import HandS.WordsExc
-- import HandS.TupMul
/-! ### exceptions -/
/-- a class of exceptions of the program, without own __init__ -/
structure ExC (K : PySem.W.Frag) (mg : Str → Option Value) (x : Str) (c : Addr) : Prop where
  m : mg x = some (.ref c)
  e : PySem.W.excIn K c [.type "ValueError", .type "Exception", .type "BaseException", .type "object"] "ValueError.__new__" = true
  k : PySem.W.keepIn K (.ref c) = true
  s : PySem.W.subIn K (.ref c) (.type "BaseException") = some true
  t : PySem.W.typeIn K (.ref c) = some (.type "type")
  x : PySem.W.exmOne K (.ref c) (.ref c) = some true
theorem exm_sub {K : PySem.W.Frag} {S T : Addr} {b : Bool} (h1 : PySem.W.subIn K (.ref T) (.type "BaseException") = some true) (h2 : PySem.W.isClsIn K T = true) (h3 : PySem.W.typeIn K (.ref T) = some (.type "type")) (h4 : PySem.W.subIn K (.ref S) (.ref T) = some b) : PySem.W.exmOne K (.ref S) (.ref T) = some b := by
  have e2 : ((PySem.W.clsIn K T).isSome && PySem.W.typeIn K (.ref T) == some (.type "type")) = true := by
    rw [show (PySem.W.clsIn K T).isSome = true from h2, h3]
    rfl
  unfold PySem.W.exmOne
  rw [if_pos (by rw [h1]; rfl)]
  unfold PySem.W.kitCls
  dsimp only
  rw [if_pos e2]
  exact h4
/-- the promise of a def that may raise: a tree or a class -/
def SpX (K : PySem.W.Frag) (n : Nat) (R : List D → D ⊕ Addr → Prop) : Sp := fun vs H Q E => ∃ φ ds o, ds.length = n ∧ Reps K φ H ds vs ∧ Frm φ H ∧ R ds o ∧ (∀ d, o = .inl d → ∀ v H', Same H H' → Rep K φ H' d v → Q v H') ∧ (∀ c, o = .inr c → ∀ H', Same H H' → E (.ref c) none H')
section
variable {K : PySem.W.Frag} {φ φ' : Addr → Prop} {J J' : Hp → Prop} {H H' H1 : Hp} {ρ ρ' : List (Option D)} {σ : L2.St} {ta : TA} {te tb : TE} {x y z d : D} {P Pa Pb : D → Prop} {ds es : List D} {v : V} {D0 : Ends} {t u : TS} {W : WX} {c : Addr}
/-- a reading that raises -/
def Rs (K : PySem.W.Frag) (φ : Addr → Prop) (J : Hp → Prop) (te : TE) (ρ : List (Option D)) (W : WX) (c : Addr) : Prop := ∀ σ H, At K φ J ρ σ H → (∀ H', But φ H H' → At K φ J ρ σ H' → W (.ref c) none σ H') → ∀ Q, te σ H Q
theorem ev_callX {n : Nat} {R : List D → D ⊕ Addr → Prop} (ha : EvAD K φ J ta ρ ds) (hr : R ds (.inl d)) (hl : ds.length = n := by rfl) : EvD K φ J (tCallS (SpX K n R) (WE W) ta) ρ d := fun σ H A Q q =>
  ha σ H A _ fun vs ds' H1 b1 A1 e r1 => by
    subst e
    refine ⟨φ, _, _, hl, r1, A1.fr, hr, fun d' e v H' s r => ?_, fun c' e => nomatch e⟩
    cases e
    exact q v d H' (b1.trans (But.of s)) (A1.same s) rfl r
theorem rs_call {n : Nat} {R : List D → D ⊕ Addr → Prop} (ha : EvAD K φ J ta ρ ds) (hr : R ds (.inr c)) (hl : ds.length = n := by rfl) : Rs K φ J (tCallS (SpX K n R) (WE W) ta) ρ W c := fun σ H A k Q =>
  ha σ H A _ fun vs ds' H1 b1 A1 e r1 => by
    subst e
    refine ⟨φ, _, _, hl, r1, A1.fr, hr, (fun d' e => nomatch e), fun c' e H' s => ?_⟩
    cases e
    exact k H' (b1.trans (But.of s)) (A1.same s)
/-- an assignment, a return .. whose expression raises -/
theorem st_rs (A : At K φ J ρ σ H) (h : Rs K φ J te ρ W c) (k : ∀ H', But φ H H' → At K φ J ρ σ H' → W (.ref c) none σ H') {Q : VK} : te σ H Q := h σ H A k Q
theorem wonly_yes {C : Value} {ts : Addr → Value → Option Addr → TS} (hx : PySem.W.exmOne K (.ref c) C = some true) (h : ∀ a, H a = none → ts a (.ref c) none D0 σ H) : wOnly K C ts W D0 (.ref c) none σ H := ⟨true, hx, fun _ => h, fun e => nomatch e⟩
section
variable {PP : Program} {w : World} {mg : Str → Option Value} {base : Heap}
/-- a def that may raise keeps its promise -/
theorem fn_okX {x qual : Str} {st : Stmt} {f : Addr} {fd : FuncData} {N ps : List Str} {k n : Nat} {R : List D → D ⊕ Addr → Prop} (F : Fun K x qual st f fd) (S : FnScope N ps (defScope st)) (hn : ps.length = n) (m : Nat) (hm : N.length = n + m)
    (hbody : ∀ (cdv : Value) (A : Around) (outer : List Env) (s : Shared) (H : Hp) (E : XK), Room k (A.deeper (envOfC qual (defScope st) s.heap.objs.size f cdv)) →
      ∃ t, PSs (cxOf (L2.CX PP w) PP w K mg base N qual (defScope st) f cdv A outer s H E) (defBody st) t ∧
        ∀ (φ : Addr → Prop) (ds : List D) (o : D ⊕ Addr) (H : Hp) (D0 : Ends) (σ : L2.St), ds.length = n → R ds o → (∀ d, o = .inl d → ∀ v H', Same H H' → Rep K φ H' d v → D0.rt v H') → (∀ c, o = .inr c → ∀ H', Same H H' → E (.ref c) none H') → At K φ (Same H) (ds.map some ++ List.replicate m none) σ H → t D0 σ H) :
    FnOk PP w K mg base (L2.CX PP w) (k + 1) f fd ps (SpX K n R) := by
  refine F.okX S (fun vs H Q E h => ?_) (fun cdv A outer s H vs Q E hr h => ?_)
  · obtain ⟨φ, ds, d, hl, r, _⟩ := h
    rw [r.length, hl, hn]
  · obtain ⟨φ, ds, o, hl, r, fr, hd, q, qe⟩ := h
    obtain ⟨t, ht, run⟩ := hbody cdv A outer s H E hr
    refine ⟨t, ht, run φ ds o H _ _ hl hd (fun d e v H' s r => q d e v H' s r) qe ⟨?_, fr, Same.refl H, Mo.sames fun _ h => h⟩⟩
    have e : N.length - vs.length = m := by rw [hm, r.length, hl]; omega
    unfold L2.start
    rw [e]
    exact SR.start r
end
/-! ### two fors in a comprehension -/
theorem ev_lc2 {wi wi1 : TI} {g g1 : TG} {te : TE} {ws us us1 vs1 : List Nat} {es : D → List D} {f : D → D → D} {ρ1 : D → List (Option D)} {ρ2 : D → D → List (Option D)}
    (hi : IterD K φ J wi ρ ds) (hl : (ds.flatMap es).length ≤ 1000000) (hu : ∀ i ∈ us, i ∈ ws) (hu1 : ∀ i ∈ us1, i ∈ vs1) (hv : ∀ i ∈ vs1, i ∈ ws)
    (hg : ∀ d ∈ ds, EvG K g d (wipeR ρ ws) (ρ1 d) us)
    (hi1 : ∀ d ∈ ds, ∀ φ' J', Ext φ J φ' J' → IterD K φ' J' wi1 (ρ1 d) (es d))
    (hg1 : ∀ d ∈ ds, ∀ e ∈ es d, EvG K g1 e (wipeR (ρ1 d) vs1) (ρ2 d e) us1)
    (he : ∀ d ∈ ds, ∀ e ∈ es d, ∀ φ' J', Ext φ J φ' J' → EvD K φ' J' te (ρ2 d e) (f d e)) :
    EvD K φ J (tLc2 wi g tYes wi1 g1 tYes te ws vs1) ρ (.lst (ds.flatMap fun d => (es d).map (f d))) := fun σ H A Q q => by
  refine hi σ H A _ fun J0 ds' H1 b1 A1 pd w => ?_
  subst pd
  intro D0 hD
  have neP : ∀ p s ns, Pooled φ J p s ns → p ≠ D0 := fun p s ns hp => by
    obtain ⟨a1, a2, a3, a4, h1, _⟩ := hp.ok _ A1.j
    exact ne_of_none h1 hD
  let φ' : Addr → Prop := fun a => φ a ∧ a ≠ D0
  let F : Nat → List D := fun i => (ds'.take i).flatMap fun d => (es d).map (f d)
  have ext : ∀ acc : List V, Ext φ J φ' (fun H => J H ∧ H D0 = some (.lst acc)) := fun acc => ⟨fun _ h => h.1, fun p s ns hp => ⟨fun z => hp.np z.1, hp.ne, fun H h => hp.ok H h.1, fun H H' h k o => ⟨hp.st H H' h.1 k o, k _ _ (neP p s ns hp).symm h.2⟩⟩, fun a p h => ⟨p, fun e => h H1 A1.j (by rw [e]; exact hD)⟩⟩
  have mono : ∀ (acc : List V) (H2 : Hp), (∀ a, H1 a ≠ none → H2 a ≠ none) → H2 D0 ≠ none → Mo H2 (fun H => J H ∧ H D0 = some (.lst acc)) := fun acc H2 s h => (A1.mono.up s).and (Mo.at h)
  have lenT : ∀ i, i < ds'.length → ∀ d, ds'[i]? = some d → ∀ j, j < (es d).length → (F i ++ ((es d).take j).map (f d)).length < 1000000 := fun i hi d hd j hj => by
    have e1 : ds' = ds'.take i ++ d :: ds'.drop (i + 1) := by
      have z := (List.getElem?_eq_some_iff.mp hd)
      obtain ⟨z1, z2⟩ := z
      rw [← z2, List.getElem_cons_drop, List.take_append_drop]
    have e2 : (ds'.flatMap es).length = ((ds'.take i).flatMap es).length + ((es d).length + ((ds'.drop (i + 1)).flatMap es).length) := by
      conv => lhs; rw [e1]
      rw [List.flatMap_append, List.length_append, List.flatMap_cons, List.length_append]
    have e3 : (F i).length = ((ds'.take i).flatMap es).length := by
      show ((ds'.take i).flatMap fun d => (es d).map (f d)).length = _
      simp only [List.length_flatMap, List.length_map]
    rw [List.length_append, List.length_map, List.length_take, e3]
    omega
  refine ⟨fun i m H2 => m = ds'.length - i ∧ i ≤ ds'.length ∧ But φ H1 H2 ∧ ∃ acc, Reps K φ' H2 (F i) acc ∧ At K φ' (fun H => J H ∧ H D0 = some (.lst acc)) (wipeR ρ ws) (L2.wipe σ ws) H2,
    ⟨ds'.length, rfl, Nat.zero_le _, But.of (same_new hD), [], Reps.nil, ?_⟩, ?_⟩
  · have A2 := A1.newLive (o := .lst []) (J' := fun H => J H ∧ H D0 = some (.lst [])) hD ⟨A1.mono _ _ (fun a o _ e => same_new hD a o e) A1.j, upd_same⟩ (mono [] _ upd_tr (by rw [upd_same]; exact fun z => by cases z))
    exact ⟨A2.sr.wipe ws, A2.fr, A2.j, A2.mono⟩
  · rintro i m H2 ⟨rfl, hi, b2, acc, rs, A2⟩
    have upw : Up φ φ' H1 H2 := fun a o p e => ⟨⟨p, ne_of_none e hD⟩, b2.keep a o p e⟩
    have fr2 : Frm φ' H2 := A2.fr
    obtain ⟨wg, wstop⟩ := w φ' i H2 upw fr2
    by_cases hlt : i < ds'.length
    · have hd : ds'[i]? = some ds'[i] := List.getElem?_eq_getElem hlt
      obtain ⟨go, yl⟩ := wg _ hd
      have hmem : ds'[i] ∈ ds' := List.getElem_mem hlt
      have tk : F (i + 1) = F i ++ (es ds'[i]).map (f ds'[i]) := by
        show (ds'.take (i + 1)).flatMap _ = _
        rw [List.take_add_one, hd, List.flatMap_append]
        show _ ++ List.flatMap _ [ds'[i]] = _
        rw [List.flatMap_cons, List.flatMap_nil, List.append_nil]
      refine .inr ⟨go, fun H3 => But φ H1 H3 ∧ ∃ acc, Reps K φ' H3 (F (i + 1)) acc ∧ At K φ' (fun H => J H ∧ H D0 = some (.lst acc)) (wipeR ρ ws) (L2.wipe σ ws) H3, ?_, ?_⟩
      · rintro H3 ⟨b3, acc3, r3, A3⟩
        exact ⟨ds'.length - (i + 1), by omega, rfl, hlt, b3, acc3, r3, A3⟩
      · intro x H3 hy
        obtain ⟨s3, r3⟩ := yl x H3 hy
        have A3 := A2.same s3
        have rs3 := rs.mono (But.of (φ := φ') s3)
        have b3 : But φ H1 H3 := b2.trans (But.of s3)
        refine hg _ hmem φ' _ _ H3 x A3 r3 _ fun σ4 A4 hw4 => ⟨?_, ?_⟩
        · rw [hw4 ws hu]
          exact wipe_wipe ws
        · refine et_yes (K := K) (φ := φ') σ4 H3 A4 _ fun bb H4 b4 A4' hbb => ?_
          subst hbb
          rw [if_pos rfl]
          replace rs3 := rs3.mono b4
          replace b3 : But φ H1 H4 := ⟨fun a o p e => b4.keep a o ⟨p, ne_of_none e hD⟩ (b3.keep a o p e), fun a h => b4.tr a (b3.tr a h)⟩
          refine hi1 _ hmem φ' _ (ext acc) σ4 H4 A4' _ fun J1 es' H5 b5 A5 pe1 w1 => ?_
          subst pe1
          have b15 : But φ H1 H5 := ⟨fun a o p e => b5.keep a o ⟨p, ne_of_none e hD⟩ (b3.keep a o p e), fun a h => b5.tr a (b3.tr a h)⟩
          let G : Nat → List D := fun j => F i ++ ((es ds'[i]).take j).map (f ds'[i])
          refine ⟨fun j k H6 => k = (es ds'[i]).length - j ∧ j ≤ (es ds'[i]).length ∧ But φ H1 H6 ∧ (∀ a o, φ' a → H5 a = some o → H6 a = some o) ∧ ∃ acc, Reps K φ' H6 (G j) acc ∧ At K φ' (fun H => J H ∧ H D0 = some (.lst acc)) (wipeR (ρ1 ds'[i]) vs1) (L2.wipe σ4 vs1) H6,
            ⟨(es ds'[i]).length, rfl, Nat.zero_le _, b15, fun _ _ _ e => e, acc, ?_, ?_⟩, ?_⟩
          · show Reps K φ' H5 (F i ++ List.map _ (List.take 0 _)) acc
            rw [List.take_zero, List.map_nil, List.append_nil]
            exact rs3.mono b5
          · exact ⟨A5.sr.wipe vs1, A5.fr, A5.j, A5.mono⟩
          · rintro j k H6 ⟨rfl, hj, b6, kp6, acc6, rs6, A6⟩
            have up6 : Up φ' φ' H5 H6 := fun a o p e => ⟨p, kp6 a o p e⟩
            obtain ⟨wg1, ws1⟩ := w1 φ' j H6 up6 A6.fr
            by_cases hlt1 : j < (es ds'[i]).length
            · have hd1 : (es ds'[i])[j]? = some (es ds'[i])[j] := List.getElem?_eq_getElem hlt1
              obtain ⟨go1, yl1⟩ := wg1 _ hd1
              have hmem1 : (es ds'[i])[j] ∈ es ds'[i] := List.getElem_mem hlt1
              have tk1 : G (j + 1) = G j ++ [f ds'[i] (es ds'[i])[j]] := by
                show F i ++ _ = (F i ++ _) ++ _
                rw [List.take_add_one, hd1, List.map_append, List.append_assoc]
                rfl
              refine .inr ⟨go1, fun H7 => But φ H1 H7 ∧ (∀ a o, φ' a → H5 a = some o → H7 a = some o) ∧ ∃ acc, Reps K φ' H7 (G (j + 1)) acc ∧ At K φ' (fun H => J H ∧ H D0 = some (.lst acc)) (wipeR (ρ1 ds'[i]) vs1) (L2.wipe σ4 vs1) H7, ?_, ?_⟩
              · rintro H7 ⟨b7, kp7, acc7, r7, A7⟩
                exact ⟨(es ds'[i]).length - (j + 1), by omega, rfl, hlt1, b7, kp7, acc7, r7, A7⟩
              · intro x1 H7 hy1
                obtain ⟨s7, r7⟩ := yl1 x1 H7 hy1
                have A7 := A6.same s7
                have rs7 := rs6.mono (But.of (φ := φ') s7)
                have b7 : But φ H1 H7 := b6.trans (But.of s7)
                have kp7 : ∀ a o, φ' a → H5 a = some o → H7 a = some o := fun a o p e => s7 a o (kp6 a o p e)
                refine hg1 _ hmem _ hmem1 φ' _ _ H7 x1 A7 r7 _ fun σ8 A8 hw8 => ⟨?_, ?_⟩
                · rw [hw8 vs1 hu1]
                  exact wipe_wipe vs1
                · refine et_yes (K := K) (φ := φ') σ8 H7 A8 _ fun bb H8 b8 A8' hbb => ?_
                  subst hbb
                  rw [if_pos rfl]
                  replace rs7 := rs7.mono b8
                  replace b7 : But φ H1 H8 := ⟨fun a o p e => b8.keep a o ⟨p, ne_of_none e hD⟩ (b7.keep a o p e), fun a h => b8.tr a (b7.tr a h)⟩
                  replace kp7 : ∀ a o, φ' a → H5 a = some o → H8 a = some o := fun a o p e => b8.keep a o p (kp7 a o p e)
                  replace A7 : At K φ' (fun H => J H ∧ H D0 = some (.lst acc6)) (wipeR (ρ1 ds'[i]) vs1) (L2.wipe σ4 vs1) H8 := ⟨A7.sr.up (Up.of b8), A8'.fr, A8'.j, A8'.mono⟩
                  refine he _ hmem _ hmem1 φ' _ (ext acc6) σ8 H8 A8' _ fun v d H9 b9 A9 pv r9 => ?_
                  subst pv
                  have rl := rs7.mono b9
                  have nD : ¬ φ' D0 := fun z => z.2 rfl
                  refine ⟨acc6, A9.j.2, ?_, ?_, ?_, acc6 ++ [v], ?_, ?_⟩
                  · rw [rl.length]
                    exact szlt (Nat.le_of_lt (lenT i hlt _ hd j hlt1))
                  · refine ⟨fun a o p e => ?_, fun a h => upd_tr a (b9.tr a (b7.tr a h))⟩
                    have ne := ne_of_none e hD
                    rw [upd_ne ne]
                    exact b9.keep a o ⟨p, ne⟩ (b7.keep a o p e)
                  · intro a o p e
                    rw [upd_ne p.2]
                    exact b9.keep a o p (kp7 a o p e)
                  · rw [tk1]
                    exact (rl.append (Reps.cons r9 Reps.nil)).mono ((But.refl φ' H9).upd nD)
                  · have A9' : At K φ' (fun H => J H ∧ H D0 = some (.lst acc6)) (wipeR (ρ1 ds'[i]) vs1) (L2.wipe σ4 vs1) H9 := ⟨A7.sr.up (Up.of b9), A9.fr, A9.j, A9.mono⟩
                    have jj : J (upd H9 D0 (.lst (acc6 ++ [v]))) := A1.mono H9 _ (fun a o h e => by
                      rw [upd_ne (show a ≠ D0 from fun z => h (by rw [z]; exact hD))]
                      exact e) A9.j.1
                    exact A9'.upd nD ⟨jj, upd_same⟩ (mono _ _ (fun a h => upd_tr a (b9.tr a (b7.tr a h))) (by rw [upd_same]; exact fun z => by cases z))
            · have e : j = (es ds'[i]).length := by omega
              subst e
              refine .inl ⟨ws1 rfl, b6, acc6, ?_, ?_⟩
              · rw [tk]
                have e2 : G (es ds'[i]).length = F i ++ (es ds'[i]).map (f ds'[i]) := by
                  show F i ++ _ = _
                  rw [List.take_length]
                rw [← e2]
                exact rs6
              · have b26 : Up φ' φ' H2 H6 := fun a o p e => ⟨p, kp6 a o p (b5.keep a o p (b4.keep a o p (s3 a o e)))⟩
                exact ⟨A2.sr.up b26, A6.fr, A6.j, A6.mono⟩
    · have e : i = ds'.length := by omega
      subst e
      refine .inl ⟨wstop rfl, ?_⟩
      have eF : F ds'.length = ds'.flatMap fun d => (es d).map (f d) := by
        show (ds'.take _).flatMap _ = _
        rw [List.take_length]
      rw [eF] at rs
      have A3 : At K φ J ρ σ H2 := ⟨A1.sr.up (Up.of b2), A2.fr.fst, A2.j.1, A1.mono.up b2.tr⟩
      exact q _ (.lst (ds'.flatMap fun d => (es d).map (f d))) H2 (b1.trans b2) A3 rfl ⟨D0, acc, rfl, .inl ⟨A1.fr D0 hD, .inl A2.j.2⟩, Reps.up (fun a o p e => ⟨p.1, e⟩) _ _ rs⟩
/-! ### a tuple times an int -/
theorem replicate_reps {vs : List V} (r : Reps K φ H ds vs) : ∀ n : Nat, Reps K φ H (List.replicate n ds).flatten (List.replicate n vs).flatten
  | 0 => Reps.nil
  | n + 1 => by
    rw [List.replicate_succ, List.replicate_succ, List.flatten_cons, List.flatten_cons]
    exact r.append (replicate_reps r n)
theorem ev_repT {i : Int} (ha : EvD K φ J te ρ (.tup ds)) (hb : EvD K φ J tb ρ (.int i)) (hne : ds ≠ []) (h2 : 2 ≤ i) (h3 : i ≤ 1000) (hz : ds.length ≤ 1000) : EvD K φ J (tOp (rRepT K) te tb) ρ (.tup (List.replicate i.toNat ds).flatten) :=
  ev_opD ha hb fun H v w fr r1 r2 Q q => by
    obtain ⟨a, vs, rfl, p, rs⟩ := rep_tup r1
    cases (show w = _ from r2)
    refine ⟨a, i, vs, rfl, rfl, p.sq, fun z => hne (List.eq_nil_of_length_eq_zero (by rw [← rs.length, z]; rfl)), h2, h3, by rw [rs.length]; exact hz, fun l hl => q _ _ _ (same_new hl) rfl ⟨l, _, rfl, .inl ⟨fr l hl, .inl upd_same⟩, ?_⟩⟩
    exact (replicate_reps rs _).mono (But.of (same_new hl))
end

theorem _root_.L2.Room.units1 {k : Nat} {A : Around} (r : Room k A) : A.units + 1 < cLine := by have := r.un; omega
theorem _root_.L2.Room.units65 {k : Nat} {A : Around} (r : Room k A) : A.units + 65 < cLine := by have := r.un; omega
/-! ### rules with the frame K told (in comprehensions), chains of three operators -/
section
variable {X : Cx} {K : PySem.W.Frag}
theorem kix_list (h : X.K = K) : IxR X (rIxL K) := h ▸ ix_list
theorem kix_tup (h : X.K = K) : IxR X (rIxT K) := h ▸ ix_tup
theorem kix_seq (h : X.K = K) : IxR X (rIx K) := h ▸ ix_seq
theorem ksl_list (h : X.K = K) : SlR X (rSlL K) := h ▸ sl_list
theorem ksl_tupA (h : X.K = K) : SlR X (rSlA K) := h ▸ sl_tupA
theorem kop_catA (h : X.K = K) : OpR X (binaryOp .Add) (rCatA K) := h ▸ op_catA
theorem kop_repT (h : X.K = K) : OpR X (binaryOp .Mult) (rRepT K) := h ▸ op_repT
theorem kop_inD (h : X.K = K) (hu : X.A.units + 65 < cLine) : OpR X (compareOp .In) (rInD K) := h ▸ op_inD hu
theorem kop_notInD (h : X.K = K) (hu : X.A.units + 65 < cLine) : OpR X (compareOp .NotIn) (rNotInD K) := h ▸ op_notInD hu
theorem kop_eqD (h : X.K = K) (hu : X.A.units + 64 < cLine) : OpR X (compareOp .Eq) (rEqD K) := h ▸ op_eqD hu
theorem kop_neD (h : X.K = K) (hu : X.A.units + 64 < cLine) : OpR X (compareOp .NotEq) (rNeD K) := h ▸ op_neD hu
theorem kop_in_seq (h : X.K = K) : OpR X (compareOp .In) (rIn K false) := h ▸ op_in_seq
theorem kop_notIn_seq (h : X.K = K) : OpR X (compareOp .NotIn) (rIn K true) := h ▸ op_notIn_seq
theorem kc_len (h : X.K = K) : CallR X (.builtin "len") (rLen K) := h ▸ c_len
theorem kc_listOf (h : X.K = K) : CallR X (.type "list") (rListOf K) := h ▸ c_listOf
theorem kc_tupOf (h : X.K = K) : CallR X (.type "tuple") (rTupOf K) := h ▸ c_tupOf
theorem kcall_isi (h : X.K = K) : CallR X (.builtin "isinstance") (rIsi K) := h ▸ call_isi
theorem kc_sum (h : X.K = K) (hc : X.calm = true := by rfl) : CallR X (.builtin "sum") (rSum K) := h ▸ c_sum hc
theorem kcr_max (h : X.K = K) (hc : X.calm = true) : CallR X (.builtin "max") (rMax K) := h ▸ cr_max hc
theorem kcr_min (h : X.K = K) (hc : X.calm = true) : CallR X (.builtin "min") (rMin K) := h ▸ cr_min hc
theorem kpi_list {tg l : Expr} {tl : TE} (h : X.K = K) (hl : PE X l tl) : PI X tg l (iList K tl) := h ▸ pi_list hl
theorem kpi_tup {tg l : Expr} {tl : TE} (h : X.K = K) (hl : PE X l tl) : PI X tg l (iTup K tl) := h ▸ pi_tup hl
end
/-- a < b <= c < d -/
def tChain3 (r r' r2 : R2) (ta tb tc td : TE) : TE := fun σ H Q => ta σ H fun x H1 => tb σ H1 fun y H2 => r x y H2 fun z H3 => ∃ k, z = .bl k ∧
  (if k = true then tc σ H3 fun w' H4 => r' y w' H4 fun z2 H5 => ∃ k2, z2 = .bl k2 ∧ (if k2 = true then td σ H5 fun w2 H6 => r2 w' w2 H6 Q else Q (.bl false) H5) else Q (.bl false) H3)
section
variable {X : Cx} {a b c e : Expr} {ta tb tc td : TE} {pos : Pos}
theorem pe_chain3 {op op' op2 : CmpOp} {r r' r2 : R2} (ho : OpR X (compareOp op) r) (ho' : OpR X (compareOp op') r') (ho2 : OpR X (compareOp op2) r2) (ha : PE X a ta) (hb : PE X b tb) (hc : PE X c tc) (hd : PE X e td)
    (hm : lastMarks [op, op', op2] [b, c, e] = false := by with_unfolding_all rfl) : PE X (.Compare a [op, op', op2] [b, c, e] pos) (tChain3 r r' r2 ta tb tc td) := by
  refine ⟨fun pins s σ H Q I h => ?_⟩
  refine Compare_chain (thn (ha.run pins s σ H _ I h) fun v s1 ⟨x, H1, I1, r1, q1⟩ => chain_link (thn (hb.run pins s1 σ H1 _ I1 q1) fun u s2 ⟨y, H2, I2, rr2, q2⟩ =>
    thn (ho pins s2 σ H2 x y v u _ I2 r1 rr2 q2) fun d s3 ⟨z, H3, I3, r3, k, e, q3⟩ => ?_)) hm
  subst e
  cases r3
  refine wpAny_truthy_bool ?_
  cases k with
  | false => exact ite_ff ⟨.bl false, H3, I3, rfl, q3⟩
  | true =>
    refine ite_tt (chain_link (thn (hc.run pins s3 σ H3 _ I3 q3) fun w' s4 ⟨z', H4, I4, r4, q4⟩ => thn (ho' pins s4 σ H4 y z' u w' _ I4 rr2 r4 q4) fun d' s5 ⟨z5, H5, I5, r5, k2, e2, q5⟩ => ?_))
    subst e2
    cases r5
    refine wpAny_truthy_bool ?_
    cases k2 with
    | false => exact ite_ff ⟨.bl false, H5, I5, rfl, q5⟩
    | true => exact ite_tt (chain_last (thn (hd.run pins s5 σ H5 _ I5 q5) fun w2 s6 ⟨z6, H6, I6, r6, q6⟩ => ho2 pins s6 σ H6 z' z6 w' w2 Q I6 r4 r6 q6))
theorem pt_chain3 {op op' op2 : CmpOp} {r r' r2 : R2} (ho : OpR X (compareOp op) r) (ho' : OpR X (compareOp op') r') (ho2 : OpR X (compareOp op2) r2) (ha : PE X a ta) (hb : PE X b tb) (hc : PE X c tc) (hd : PE X e td)
    (hm : lastMarks [op, op', op2] [b, c, e] = false := by with_unfolding_all rfl) : L2.PT X (.Compare a [op, op', op2] [b, c, e] pos) (tTest (tChain3 r r' r2 ta tb tc td)) := by
  refine ⟨fun pins s σ H Q I h => ?_⟩
  refine isTrue_chain (thn (ha.run pins s σ H _ I h) fun v s1 ⟨x, H1, I1, r1, q1⟩ => test_link (thn (hb.run pins s1 σ H1 _ I1 q1) fun u s2 ⟨y, H2, I2, rr2, q2⟩ =>
    thn (ho pins s2 σ H2 x y v u _ I2 r1 rr2 q2) fun d s3 ⟨z, H3, I3, r3, k, e, q3⟩ => ?_)) hm
  subst e
  cases r3
  refine wpAny_truthy_bool ?_
  cases k with
  | false =>
    obtain ⟨k', e', q'⟩ := q3
    cases e'
    exact ite_ff ⟨H3, I3, q'⟩
  | true =>
    refine ite_tt (test_link (thn (hc.run pins s3 σ H3 _ I3 q3) fun w' s4 ⟨z', H4, I4, r4, q4⟩ => thn (ho' pins s4 σ H4 y z' u w' _ I4 rr2 r4 q4) fun d' s5 ⟨z5, H5, I5, r5, k2, e2, q5⟩ => ?_))
    subst e2
    cases r5
    refine wpAny_truthy_bool ?_
    cases k2 with
    | false =>
      obtain ⟨k', e', q'⟩ := q5
      cases e'
      exact ite_ff ⟨H5, I5, q'⟩
    | true =>
      refine ite_tt (test_last (thn (hd.run pins s5 σ H5 _ I5 q5) fun w2 s6 ⟨z6, H6, I6, r6, q6⟩ => thn (ho2 pins s6 σ H6 z' z6 w' w2 _ I6 r4 r6 q6) fun d2 s7 ⟨z7, H7, I7, r7, k7, e7, q7⟩ => ?_))
      subst e7
      cases r7
      exact wpAny_truthy_bool ⟨H7, I7, q7⟩
end
section
variable {K : PySem.W.Frag} {φ : Addr → Prop} {J : Hp → Prop} {ρ : List (Option D)} {ta tb tc td : TE}
theorem ev_chainI3 {f g h : Int → Int → Bool} {i j k l : Int} (ha : EvD K φ J ta ρ (.int i)) (hb : EvD K φ J tb ρ (.int j)) (hc : EvD K φ J tc ρ (.int k)) (hd : EvD K φ J td ρ (.int l)) :
    EvD K φ J (tChain3 (rI0 fun i j => .bl (f i j)) (rI0 fun i j => .bl (g i j)) (rI0 fun i j => .bl (h i j)) ta tb tc td) ρ (.bl (f i j && (g j k && h k l))) := fun σ H A Q q =>
  ha σ H A _ fun v x1 H1 b1 A1 e1 r1 => hb σ H1 A1 _ fun w y1 H2 b2 A2 e2 r2 => by
    subst e1 e2
    cases (show v = _ from r1)
    cases (show w = _ from r2)
    refine ⟨i, j, rfl, rfl, f i j, rfl, ?_⟩
    cases hf : f i j with
    | false =>
      rw [if_neg (by simp)]
      exact q _ _ H2 (b1.trans b2) A2 rfl (by rw [hf]; rfl)
    | true =>
      rw [if_pos rfl]
      refine hc σ H2 A2 _ fun v3 x3 H3 b3 A3 e3 r3 => ?_
      subst e3
      cases (show v3 = _ from r3)
      refine ⟨j, k, rfl, rfl, g j k, rfl, ?_⟩
      cases hg : g j k with
      | false =>
        rw [if_neg (by simp)]
        exact q _ _ H3 ((b1.trans b2).trans b3) A3 rfl (by rw [hf, hg]; rfl)
      | true =>
        rw [if_pos rfl]
        refine hd σ H3 A3 _ fun v4 x4 H4 b4 A4 e4 r4 => ?_
        subst e4
        cases (show v4 = _ from r4)
        exact ⟨k, l, rfl, rfl, q _ _ H4 (((b1.trans b2).trans b3).trans b4) A4 rfl (by rw [hf, hg]; rfl)⟩
end

/-! ### live lists of trees -/
/-- the frame without l -/
abbrev wo (φ : Addr → Prop) (l : Addr) : Addr → Prop := fun a => φ a ∧ a ≠ l
structure LivO (K : PySem.W.Frag) (φ : Addr → Prop) (Jb J : Hp → Prop) (l : Addr) (C : List V → HO) (ds : List D) : Prop where
  np : ¬ φ l
  st : Stab l Jb
  pl : ∀ p s ns, Pooled φ Jb p s ns → p ≠ l ∧ s ≠ l
  ex : ∃ vs H0, Reps K φ H0 ds vs ∧ Mo H0 Jb ∧ H0 l ≠ none ∧ J = fun H => (Jb H ∧ H l = some (C vs)) ∧ But φ H0 H
abbrev Liv (K : PySem.W.Frag) (φ : Addr → Prop) (Jb J : Hp → Prop) (l : Addr) (ds : List D) : Prop := LivO K φ Jb J l HO.lst ds
/-- a new object comes out, C of values -/
def EvNO (K : PySem.W.Frag) (φ : Addr → Prop) (J : Hp → Prop) (te : TE) (ρ : List (Option D)) (P : List D → (List V → HO) → Prop) : Prop := ∀ σ H, At K φ J ρ σ H → ∀ Q : VK, (∀ p vs ds C H0 H', But φ H H0 → At K φ J ρ σ H0 → H0 p = none → But φ H0 H' → At K φ J ρ σ H' → P ds C → (∀ xs, C vs ≠ .tup xs) → H' p = some (C vs) → Reps K (wo φ p) H' ds vs → Q (.ref p) H') → te σ H Q
section
variable {K : PySem.W.Frag} {φ φ' : Addr → Prop} {Jb J J' : Hp → Prop} {H H' H1 : Hp} {ρ ρ' : List (Option D)} {σ : L2.St} {ta : TA} {te tb : TE} {x y z d : D} {P Pa Pb : D → Prop} {ds es : List D} {v : V} {vs : List V} {D0 : Ends} {t u : TS} {l : Addr} {C : List V → HO}
theorem Ext.but2 {p s : Addr} {ns : List Int} {H0 : Hp} (np : ¬ φ p) : ∀ H H', But φ H0 H → ButP p H H' → PoolOk p s ns H' → But φ H0 H' := fun H H' b k o => ⟨fun a u pa e => k a u (fun z => np (z ▸ pa)) (b.keep a u pa e), fun a ha => by
  by_cases z : a = p
  · subst z
    obtain ⟨_, _, _, _, e, _⟩ := o
    rw [e]
    exact fun z => by cases z
  · cases e : H a with
    | none => exact absurd e (b.tr a ha)
    | some u => rw [k a u z e]; exact fun z => by cases z⟩
theorem LivO.ext (L : LivO K φ Jb J l C ds) : Ext φ Jb φ J := by
  obtain ⟨vs, H0, r, m, hl, rfl⟩ := L.ex
  exact ⟨fun H h => h.1.1, fun p s ns hp => ⟨hp.np, hp.ne, fun H h => hp.ok H h.1.1, fun H H' h k o => ⟨⟨hp.st H H' h.1.1 k o, k _ _ (L.pl p s ns hp).1.symm h.1.2⟩, Ext.but2 hp.np H H' h.2 k o⟩⟩, fun _ p _ => p⟩
theorem LivO.len (L : Liv K φ Jb J l ds) : ∃ vs, vs.length = ds.length ∧ ∀ H, J H → H l = some (.lst vs) := by
  obtain ⟨vs, H0, r, m, hl, rfl⟩ := L.ex
  exact ⟨vs, r.length, fun H h => h.1.2⟩
/-- x = a new object -/
theorem st_newO {k : Nat} {P : List D → (List V → HO) → Prop} (A : At K φ J ρ σ H) (h : EvNO K φ J te ρ P) (kk : ∀ l ds C J' σ' H', P ds C → φ l → H l = none → Ext φ J (wo φ l) J → LivO K (wo φ l) J J' l C ds → At K (wo φ l) J' (ρ.set k (some (.raw (.ref l)))) σ' H' → D0.nx σ' H') : tAsg te (gName k) D0 σ H :=
  h σ H A _ fun p vs ds C H0 H' b0 A0 hp b A' pd nt e r => by
    have hpH : H p = none := by
      cases z : H p with
      | none => rfl
      | some u => exact absurd hp (b0.tr p (by rw [z]; exact fun w => by cases w))
    have st : Stab p J := Stab.of A0.mono hp
    have u : Up φ (wo φ p) H H' := fun a o q e2 => ⟨⟨q, ne_of_none e2 hpH⟩, (b0.trans b).keep a o q e2⟩
    have sr : SR K (wo φ p) H' ρ σ := A.sr.up u
    have A2 : At K (wo φ p) (fun H => (J H ∧ H p = some (C vs)) ∧ But (wo φ p) H' H) ρ σ H' :=
      ⟨sr, A'.fr.at e nt, ⟨⟨A'.j, e⟩, But.refl _ _⟩, (A'.mono.and (Mo.at (by rw [e]; exact fun w => by cases w))).and (Mo.but fun _ h => h)⟩
    exact kk p ds C _ _ H' pd (A0.fr p hp) hpH ⟨fun _ h => h, fun p s ns q => ⟨fun z => q.np z.1, q.ne, q.ok, q.st⟩, fun a p' h => ⟨p', fun e => h H0 A0.j (by rw [e]; exact hp)⟩⟩
      ⟨fun z => z.2 rfl, st, fun s ps ns q => by
        obtain ⟨_, _, _, _, h1, h2, _⟩ := q.ok _ A0.j
        exact ⟨ne_of_none h1 hp, ne_of_none h2 hp⟩, vs, H', r, A'.mono, (by rw [e]; exact fun z => nomatch z), rfl⟩ (A2.set k rfl)
/-- x = a new list -/
theorem st_newL {k : Nat} {P : List D → Prop} (A : At K φ J ρ σ H) (h : EvN K φ J te ρ P) (kk : ∀ l ds J' σ' H', P ds → φ l → H l = none → Ext φ J (wo φ l) J → Liv K (wo φ l) J J' l ds → At K (wo φ l) J' (ρ.set k (some (.raw (.ref l)))) σ' H' → D0.nx σ' H') : tAsg te (gName k) D0 σ H :=
  st_new A h fun l vs ds σ' H' pd hn hp r st ne b e A' => kk l ds _ σ' H' pd hp hn ⟨fun _ h => h, fun p s ns q => ⟨fun z => q.np z.1, q.ne, q.ok, q.st⟩, fun a p' h => ⟨p', fun e' => h H A.j (by rw [e']; exact hn)⟩⟩
    ⟨fun z => z.2 rfl, st, fun p s ns q => by
      obtain ⟨_, _, _, _, h1, h2, _⟩ := q.ok _ A.j
      exact ⟨ne_of_none h1 hn, ne_of_none h2 hn⟩, vs, H', r, A.mono.up b.tr, (by rw [e]; exact fun z => nomatch z), rfl⟩ A'
/-- .append -/
theorem st_appL {k : Nat} (A : At K φ J ρ σ H) (L : Liv K φ Jb J l ds) (hk : ρ[k]? = some (some (.raw (.ref l)))) (he : EvP K φ J te ρ P) (hz : ds.length ≤ 1000000)
    (kk : ∀ d J' H', P d → Liv K φ Jb J' l (ds ++ [d]) → At K φ J' ρ σ H' → D0.nx σ H') : tDrop (tBM K "list" rAppend (tVar k) (tCons te tNil)) D0 σ H := by
  obtain ⟨vs, H0, r, m, hl, rfl⟩ := L.ex
  refine st_app (vs := vs) A hk (fun H h => h.1.2) he (by rw [r.length]; exact hz) fun v d H' pd rv b A' => ?_
  have b0 : But φ H0 H' := A'.j.2
  have trl : H' l ≠ none := b0.tr l hl
  refine kk d _ _ pd ⟨L.np, L.st, L.pl, vs ++ [v], L2.upd H' l (.lst (vs ++ [v])), ?_, m.up fun a h => upd_tr a (b0.tr a h), (by rw [upd_same]; exact fun z => nomatch z), rfl⟩ (A'.upd L.np ⟨⟨L.st _ _ A'.j.1.1, upd_same⟩, But.refl _ _⟩ ?_)
  · exact ((r.mono b0).append (Reps.cons rv Reps.nil)).mono ((But.refl φ H').upd L.np)
  · exact (((m.up fun a h => upd_tr a (b0.tr a h))).and (Mo.at (by rw [upd_same]; exact fun z => by cases z))).and (Mo.but fun _ h => h)
/-- xs[i] = e -/
theorem st_setLL {k n : Nat} {i : Int} (A : At K φ J ρ σ H) (L : Liv K φ Jb J l ds) (he : EvP K φ J te ρ P) (hk : ρ[k]? = some (some (.raw (.ref l)))) (hi : EvD K φ J tb ρ (.int i)) (hj : ixN ds.length i = some n)
    (kk : ∀ d J' H', P d → Liv K φ Jb J' l (ds.set n d) → At K φ J' ρ σ H' → D0.nx σ H') : tAsg te (gSub (tVar k) tb rSetL) D0 σ H := by
  obtain ⟨vs, H0, r, m, hl, rfl⟩ := L.ex
  refine st_setL (vs := vs) A he hk hi (fun H h => h.1.2) (by rw [r.length]; exact hj) fun v d H' pd rv b A' => ?_
  have b0 : But φ H0 H' := A'.j.2
  refine kk d _ _ pd ⟨L.np, L.st, L.pl, vs.set n v, L2.upd H' l (.lst (vs.set n v)), ?_, m.up fun a h => upd_tr a (b0.tr a h), (by rw [upd_same]; exact fun z => nomatch z), rfl⟩ (A'.upd L.np ⟨⟨L.st _ _ A'.j.1.1, upd_same⟩, But.refl _ _⟩ ?_)
  · exact ((r.mono b0).set n rv).mono ((But.refl φ H').upd L.np)
  · exact (((m.up fun a h => upd_tr a (b0.tr a h))).and (Mo.at (by rw [upd_same]; exact fun z => by cases z))).and (Mo.but fun _ h => h)
/-- into a loop's turn and out of it -/
theorem LivO.push {H1 : Hp} (L : LivO K φ Jb J l C ds) (A : At K φ (fun H => J H ∧ But φ H1 H) ρ σ H) : ∃ J2, LivO K φ (fun H => Jb H ∧ But φ H1 H) J2 l C ds ∧ At K φ J2 ρ σ H ∧ Ext φ Jb φ (fun H => Jb H ∧ But φ H1 H) := by
  obtain ⟨vs, H0, r, m, hl, rfl⟩ := L.ex
  have sb : Stab l (But φ H1) := fun H o b => ⟨fun a u pa e => by
    rw [upd_ne (show a ≠ l from fun z => L.np (z ▸ pa))]
    exact b.keep a u pa e, fun a ha => upd_tr a (b.tr a ha)⟩
  have b0 : But φ H0 H := A.j.1.2
  have e : Ext φ Jb φ (fun H => Jb H ∧ But φ H1 H) := Ext.but'
  refine ⟨_, ⟨L.np, L.st.and sb, fun p s ns q => ?_, vs, H, r.mono b0, (m.up b0.tr).and (Mo.but A.j.2.tr), b0.tr l hl, rfl⟩, A.live ⟨⟨⟨A.j.1.1.1, A.j.2⟩, A.j.1.1.2⟩, But.refl _ _⟩ (((m.up b0.tr).and (Mo.but A.j.2.tr)).and (Mo.at (b0.tr l hl)) |>.and (Mo.but fun _ h => h)), e⟩
  obtain ⟨_, _, _, _, h1, h2, _⟩ := q.ok H ⟨A.j.1.1.1, A.j.2⟩
  refine ⟨fun z => ?_, fun z => ?_⟩
  · -- the pool is no live list of ours: its content would be rewritten
    subst z
    have po := q.ok _ ((L.st.and sb) H (.lst []) ⟨A.j.1.1.1, A.j.2⟩)
    obtain ⟨_, _, _, _, e1, _⟩ := po
    rw [upd_same] at e1
    cases e1
  · subst z
    have po := q.ok _ ((L.st.and sb) H (.tup []) ⟨A.j.1.1.1, A.j.2⟩)
    obtain ⟨_, _, _, _, e1, e2, _⟩ := po
    rw [upd_same] at e2
    cases e2
theorem LivO.pop {H1 : Hp} {J2 : Hp → Prop} (L : LivO K φ (fun H => Jb H ∧ But φ H1 H) J2 l C ds) (hm : Mo H1 Jb) (hs : Stab l Jb) (hp : ∀ p s ns, Pooled φ Jb p s ns → p ≠ l ∧ s ≠ l) (A : At K φ J2 ρ σ H) : ∃ J, LivO K φ Jb J l C ds ∧ At K φ (fun H => J H ∧ But φ H1 H) ρ σ H := by
  obtain ⟨vs, H0, r, m, hl, rfl⟩ := L.ex
  have b0 : But φ H0 H := A.j.2
  have b1 : But φ H1 H := A.j.1.1.2
  have m1 : Mo H Jb := hm.up b1.tr
  exact ⟨_, ⟨L.np, hs, hp, vs, H, r.mono b0, m1, b0.tr l hl, rfl⟩, A.live ⟨⟨⟨A.j.1.1.1, A.j.1.2⟩, But.refl _ _⟩, b1⟩ (((m1.and (Mo.at (b0.tr l hl))).and (Mo.but fun _ h => h)).and (Mo.but b1.tr))⟩
/-- the list is left as it is from here on -/
theorem LivO.freeze (L : Liv K (wo φ l) Jb J l ds) (hl : φ l) {k : Nat} (A : At K (wo φ l) J ρ σ H) (hk : ρ[k]? = some (some (.raw (.ref l)))) : At K φ Jb (ρ.set k (some (.lst ds))) σ H := by
  obtain ⟨vs, H0, r, m, hn, rfl⟩ := L.ex
  have b0 : But (wo φ l) H0 H := A.j.2
  have up : Up (wo φ l) φ H H := fun a o p e => ⟨p.1, e⟩
  have rr : Rep K φ H (.lst ds) (.ref l) := ⟨l, vs, rfl, .inl ⟨hl, .inl A.j.1.2⟩, Reps.up up ds vs (r.mono b0)⟩
  obtain ⟨w, ew, rw'⟩ := A.sr.2 k _ hk
  cases (show w = _ from rw')
  refine ⟨?_, A.fr.fst, A.j.1.1, m.up b0.tr⟩
  have s1 := (A.sr.up up)
  refine ⟨by rw [List.length_set]; exact s1.1, fun i d hd => ?_⟩
  by_cases e : k = i
  · subst e
    have hlt : k < ρ.length := (List.getElem?_eq_some_iff.mp hk).1
    rw [List.getElem?_set_self hlt] at hd
    cases hd
    exact ⟨_, ew, rr⟩
  · rw [List.getElem?_set_ne e] at hd
    exact s1.2 i d hd
theorem ev_lenLL (L : Liv K φ Jb J l ds) (hk : EvD K φ J te ρ (.raw (.ref l))) : EvD K φ J (tCB (rLen K) (tCons te tNil)) ρ (.int ds.length) := by
  obtain ⟨vs, e, hv⟩ := L.len
  rw [← e]
  exact ev_lenLive hk hv
theorem ev_ixLL {i : Int} (L : Liv K φ Jb J l ds) (hk : EvD K φ J te ρ (.raw (.ref l))) (hb : EvD K φ J tb ρ (.int i)) (e : L2.atI ds i = some d) : EvD K φ J (tOp (rIxL K) te tb) ρ d := by
  obtain ⟨vs, H0, r, m, hn, rfl⟩ := L.ex
  refine ev_ixLive hk hb fun H h => ⟨vs, h.1.2, ?_⟩
  unfold L2.atI at e ⊢
  rw [r.length]
  cases hx : L2.ixN ds.length i with
  | none => rw [hx] at e; cases e
  | some n =>
    rw [hx] at e
    obtain ⟨v, hv, rv⟩ := r.get (i := n) e
    exact ⟨v, hv, rv.mono h.2⟩
end
theorem Mo.liv {K : PySem.W.Frag} {φ : Addr → Prop} {Jb J : Hp → Prop} {l : Addr} {C : List V → HO} {ds : List D} {H1 : Hp} (L : LivO K φ Jb J l C ds) (j : J H1) : Mo H1 Jb := by
  obtain ⟨vs, H0, r, m, hl, rfl⟩ := L.ex
  exact m.up j.2.tr
/-! ### slices, tuples of unknown trees -/
theorem cutD_hi {α : Type} {xs : List α} {i : Int} (h0 : 0 ≤ i) : cutD xs none (some i) = xs.take i.toNat := by
  have e : HT.sIx xs.length xs.length (some i) = min i.toNat xs.length := by
    have z := HT.sIx_nat xs.length xs.length i.toNat
    rw [Int.toNat_of_nonneg h0] at z
    exact z
  unfold cutD
  rw [e, HT.sIx_none, List.drop_zero, Nat.sub_zero, List.take_eq_take_iff]
  omega
theorem cutD_lo {α : Type} {xs : List α} {i : Int} (h0 : 0 ≤ i) : cutD xs (some i) none = xs.drop i.toNat := by
  have e : HT.sIx xs.length 0 (some i) = min i.toNat xs.length := by
    have z := HT.sIx_nat xs.length 0 i.toNat
    rw [Int.toNat_of_nonneg h0] at z
    exact z
  unfold cutD
  rw [e, HT.sIx_none]
  by_cases hl : i.toNat ≤ xs.length
  · rw [Nat.min_eq_left hl, List.take_of_length_le (by rw [List.length_drop]; omega)]
  · rw [Nat.min_eq_right (by omega), List.drop_eq_nil_of_le (Nat.le_refl _), List.drop_eq_nil_of_le (by omega), List.take_nil]
section
variable {K : PySem.W.Frag} {φ : Addr → Prop} {J : Hp → Prop} {ρ : List (Option D)} {te ta tb : TE} {P : D → Prop}
theorem Op2.imp {r : R2} {x y : D} {P P' : D → Prop} (h : Op2 K φ r x y P) (k : ∀ d, P d → P' d) : Op2 K φ r x y P' := fun H v w f r1 r2 Q q => h H v w f r1 r2 Q fun u z H' s p r => q u z H' s (k z p) r
theorem ev_catTP {Pa Pb : List D → Prop} (ha : EvP K φ J ta ρ (fun z => ∃ ds, z = .tup ds ∧ Pa ds)) (hb : EvP K φ J tb ρ (fun z => ∃ ds, z = .tup ds ∧ Pb ds)) (hz : ∀ a b, Pa a → Pb b → a.length + b.length ≤ 1000000) : EvP K φ J (tOp (rCatA K) ta tb) ρ (fun z => ∃ ds, z = .tup ds ∧ ∃ a b, ds = a ++ b ∧ Pa a ∧ Pb b) :=
  ev_op ha hb fun x y ⟨a, e1, pa⟩ ⟨b, e2, pb⟩ => by
    subst e1 e2
    exact (o2_catT (hz a b pa pb)).imp fun z e => ⟨_, e, a, b, rfl, pa, pb⟩
theorem ev_tupLP {Pl : List D → Prop} (h : EvP K φ J te ρ (fun z => ∃ ds, z = .lst ds ∧ Pl ds)) : EvP K φ J (tCB (rTupOf K) (tCons te tNil)) ρ (fun z => ∃ ds, z = .tup ds ∧ Pl ds) := ev_cb (ea_consP h ea_nil) fun ds ⟨d, r, e, ⟨es, e1, pe⟩, e2⟩ => by
  subst e e1 e2
  exact fun H vs f r Q q => cl_tupL H vs f r Q fun u z H' s e r => q u z H' s ⟨es, e, pe⟩ r
/-- a tuple of one unknown value -/
theorem ev_tup1P (h : EvP K φ J te ρ P) : EvP K φ J (tTup (tCons te tNil)) ρ (fun z => ∃ ds, z = .tup ds ∧ ∃ d, ds = [d] ∧ P d) := (ev_tupP (ea_consP h ea_nil) fun r ⟨d, r', e, p, e2⟩ => by rw [e, e2]; exact Nat.le_of_ble_eq_true rfl).imp fun z ⟨r, e, d, r', e1, p, e2⟩ => ⟨r, e, d, by rw [e1, e2], p⟩
end
section
variable {K : PySem.W.Frag} {φ : Addr → Prop} {J : Hp → Prop} {ρ : List (Option D)} {te ta tb : TE}
theorem ev_repTP {ds : List D} {p : Int → Prop} (ha : EvD K φ J te ρ (.tup ds)) (hb : EvI K φ J tb ρ p) (hne : ds ≠ []) (hp : ∀ i, p i → 2 ≤ i ∧ i ≤ 1000) (hz : ds.length ≤ 1000) : EvP K φ J (tOp (rRepT K) te tb) ρ (fun z => ∃ i : Int, p i ∧ z = .tup (List.replicate i.toNat ds).flatten) :=
  ev_op ha hb fun x y e ⟨i, e2, pi⟩ => by
    subst e e2
    intro H v w fr r1 r2 Q q
    obtain ⟨a, vs, rfl, p', rs⟩ := rep_tup r1
    cases (show w = _ from r2)
    refine ⟨a, i, vs, rfl, rfl, p'.sq, fun z => hne (List.eq_nil_of_length_eq_zero (by rw [← rs.length, z]; rfl)), (hp i pi).1, (hp i pi).2, by rw [rs.length]; exact hz, fun l hl => q _ _ _ (same_new hl) ⟨i, pi, rfl⟩ ⟨l, _, rfl, .inl ⟨fr l hl, .inl upd_same⟩, ?_⟩⟩
    exact (replicate_reps rs _).mono (But.of (same_new hl))
end

-- import HandS.Dict
/-! ### dicts: keys ints and texts, or tuples of these -/
def keyD : Key → D
  | .inl i => .int i
  | .inr s => .str s
class DKind (κ : Type) [DecidableEq κ] where
  kd : κ → D
  ho : List (κ × V) → HO
  nt : ∀ kvs xs, ho kvs ≠ .tup xs
  d : List κ → List D → D
  get : ∀ {K : PySem.W.Frag} {φ : Addr → Prop} {H : Hp} {a : Addr} {kvs : List (κ × V)} {k : κ} {v : V}, Rep K φ H (kd k) v → H a = some (ho kvs) → DGet H a v (valV kvs k)
  put : ∀ {K : PySem.W.Frag} {φ : Addr → Prop} {H : Hp} {a : Addr} {kvs : List (κ × V)} {k : κ} {y v : V}, Rep K φ H (kd k) y → H a = some (ho kvs) → kvs.length < sizeLine → DPut H a y v (upd H a (ho (putK kvs k v)))
  isd : ∀ {H : Hp} {a : Addr} {kvs : List (κ × V)}, H a = some (ho kvs) → IsD H a
  rep : ∀ {K : PySem.W.Frag} {φ : Addr → Prop} {H : Hp} {ks : List κ} {ds : List D} {v : V}, Rep K φ H (d ks ds) v ↔ ∃ a vs, v = .ref a ∧ (φ a ∧ H a = some (ho (ks.zip vs)) ∧ ks.length = ds.length) ∧ Reps K φ H ds vs
theorem keyD_v {K : PySem.W.Frag} {φ : Addr → Prop} {H : Hp} {k : Key} {v : V} (h : Rep K φ H (keyD k) v) : v = kV k := by
  cases k <;> exact h
theorem keysD_v {K : PySem.W.Frag} {φ : Addr → Prop} {H : Hp} : ∀ {ks : List Key} {vs : List V}, Reps K φ H (ks.map keyD) vs → vs = ks.map kV
  | [], _, h => h
  | k :: ks, vs, h => by
    obtain ⟨v, r, rfl, h1, h2⟩ := (show ∃ v r, vs = v :: r ∧ Rep K φ H (keyD k) v ∧ Reps K φ H (ks.map keyD) r from h)
    rw [keyD_v h1, keysD_v h2]
    rfl
instance : DKind Key where
  kd := keyD
  ho := HO.dK
  nt := fun _ _ h => nomatch h
  d := D.dk
  get := fun r e => by
    rw [keyD_v r]
    exact DGet.k e
  put := fun r e hl => by
    rw [keyD_v r]
    exact DPut.k e hl
  isd := fun e => .inl ⟨_, .inl e⟩
  rep := Iff.rfl
instance : DKind (List Key) where
  kd := fun ks => .tup (ks.map keyD)
  ho := HO.dT
  nt := fun _ _ h => nomatch h
  d := D.dt
  get := fun r e => by
    obtain ⟨b, vs, rfl, p, rs⟩ := rep_tup r
    rw [keysD_v rs] at p
    exact DGet.t e p.at.2
  put := fun r e hl => by
    obtain ⟨b, vs, rfl, p, rs⟩ := rep_tup r
    rw [keysD_v rs] at p
    exact DPut.t e p.at.2 hl
  isd := fun e => .inr ⟨_, .inl e⟩
  rep := Iff.rfl
section
variable {κ : Type} [DecidableEq κ] [DKind κ]
def valD (kds : List (κ × D)) (k : κ) : Option D := (kds.find? fun kv => decide (kv.1 = k)).map (·.2)
def putD (kds : List (κ × D)) (k : κ) (d : D) : List (κ × D) :=
  if (kds.any fun kv => decide (kv.1 = k)) = true then kds.map (fun kv => if kv.1 = k then (kv.1, d) else kv) else kds ++ [(k, d)]
theorem valD_nil {k : κ} : valD ([] : List (κ × D)) k = none := rfl
theorem valD_pos {p : κ × D} {r : List (κ × D)} {k : κ} (e : p.1 = k) : valD (p :: r) k = some p.2 := by simp [valD, List.find?_cons, e]
theorem valD_neg {p : κ × D} {r : List (κ × D)} {k : κ} (e : ¬ p.1 = k) : valD (p :: r) k = valD r k := by simp [valD, List.find?_cons, e]
theorem valD_any (k : κ) : ∀ kds : List (κ × D), (kds.any fun kv => decide (kv.1 = k)) = (valD kds k).isSome
  | [] => rfl
  | p :: r => by
    rw [List.any_cons]
    by_cases e : p.1 = k
    · simp only [valD_pos e, decide_eq_true e, Bool.true_or, Option.isSome_some]
    · rw [valD_neg e, decide_eq_false e, Bool.false_or]; exact valD_any k r
theorem valD_map (k j : κ) (y : D) : ∀ kds : List (κ × D), valD (kds.map fun kv => if kv.1 = k then (kv.1, y) else kv) j = (valD kds j).map fun x => if j = k then y else x
  | [] => rfl
  | p :: r => by
    have ih := valD_map k j y r
    rw [List.map_cons]
    by_cases h : p.1 = k
    · rw [if_pos h]
      by_cases e : p.1 = j
      · rw [valD_pos (p := (p.1, y)) e, valD_pos e, Option.map_some, if_pos (e.symm.trans h)]
      · rw [valD_neg (p := (p.1, y)) e, valD_neg e, ih]
    · rw [if_neg h]
      by_cases e : p.1 = j
      · rw [valD_pos (p := p) e, valD_pos e, Option.map_some, if_neg (fun z => h (e.trans z))]
      · rw [valD_neg (p := p) e, valD_neg e, ih]
theorem valD_snoc (k j : κ) (y : D) : ∀ kds : List (κ × D), valD kds k = none → valD (kds ++ [(k, y)]) j = if j = k then some y else valD kds j
  | [], _ => by
    by_cases e : k = j
    · rw [if_pos e.symm]; exact valD_pos (p := (k, y)) e
    · rw [if_neg (fun z => e z.symm)]; exact valD_neg (p := (k, y)) e
  | p :: r, hn => by
    rw [List.cons_append]
    have hk : ¬ p.1 = k := fun z => by rw [valD_pos z] at hn; cases hn
    rw [valD_neg hk] at hn
    have ih := valD_snoc k j y r hn
    by_cases e : p.1 = j
    · rw [valD_pos e, valD_pos e, if_neg (fun z => hk (e.trans z))]
    · rw [valD_neg e, valD_neg e, ih]
/-- what a dict holds behind a store -/
theorem valD_put (kds : List (κ × D)) (k j : κ) (y : D) : valD (putD kds k y) j = if j = k then some y else valD kds j := by
  unfold putD
  rw [valD_any]
  cases h : valD kds k with
  | none =>
    rw [if_neg (by simp)]
    exact valD_snoc k j y kds h
  | some x =>
    rw [if_pos (show (some x).isSome = true from rfl), valD_map]
    by_cases e : j = k
    · subst e
      rw [h, if_pos rfl]
      simp
    · rw [if_neg e]
      simp [e]
theorem putD_len (kds : List (κ × D)) (k : κ) (y : D) : (putD kds k y).length ≤ kds.length + 1 := by
  unfold putD
  split
  · rw [List.length_map]; omega
  · rw [List.length_append]; exact Nat.le_refl _
theorem putD_keys_old {kds : List (κ × D)} {k : κ} {y x : D} (h : valD kds k = some x) : (putD kds k y).map (·.1) = kds.map (·.1) := by
  unfold putD
  rw [valD_any, h, if_pos (show (some x).isSome = true from rfl), List.map_map]
  refine List.map_congr_left fun p _ => ?_
  show (if p.1 = k then (p.1, y) else p).1 = p.1
  split <;> rfl
theorem putD_new {kds : List (κ × D)} {k : κ} {y : D} (h : valD kds k = none) : putD kds k y = kds ++ [(k, y)] := by
  unfold putD
  rw [valD_any, h, if_neg (by simp)]
theorem valD_some {kds : List (κ × D)} {k : κ} : (valD kds k).isSome = true ↔ k ∈ kds.map (·.1) := by
  rw [← valD_any, List.any_eq_true]
  constructor
  · rintro ⟨p, hp, e⟩
    exact List.mem_map.mpr ⟨p, hp, of_decide_eq_true e⟩
  · intro h
    obtain ⟨p, hp, e⟩ := List.mem_map.mp h
    exact ⟨p, hp, decide_eq_true e⟩
variable {K : PySem.W.Frag} {φ φ' : Addr → Prop} {Jb J J' : Hp → Prop} {H H' H1 : Hp} {ρ ρ' : List (Option D)} {σ : L2.St} {ta : TA} {te tb td ty tv tx : TE} {x y z d : D} {P : D → Prop} {ds es : List D} {v : V} {vs : List V} {D0 : Ends} {l : Addr} {kds : List (κ × D)} {k : κ}
theorem zip_val : ∀ {kds : List (κ × D)} {vs : List V}, Reps K φ H (kds.map (·.2)) vs → ∀ k, (valD kds k = none ∧ valV ((kds.map (·.1)).zip vs) k = none) ∨ ∃ d v, valD kds k = some d ∧ valV ((kds.map (·.1)).zip vs) k = some v ∧ Rep K φ H d v
  | [], vs, h, k => .inl ⟨rfl, rfl⟩
  | p :: kds, vs, h, k => by
    obtain ⟨v, r, rfl, h1, h2⟩ := (show ∃ v r, vs = v :: r ∧ Rep K φ H p.2 v ∧ Reps K φ H (kds.map (·.2)) r from h)
    rw [List.map_cons, List.zip_cons_cons]
    by_cases e : p.1 = k
    · exact .inr ⟨p.2, v, valD_pos e, valV_pos e, h1⟩
    · rw [valD_neg e, valV_neg (p := (p.1, v)) e]
      exact zip_val h2 k
theorem zip_put (hd : Rep K φ H d v) {kds : List (κ × D)} {vs : List V} (h : Reps K φ H (kds.map (·.2)) vs) : ∃ vs', putK ((kds.map (·.1)).zip vs) k v = ((putD kds k d).map (·.1)).zip vs' ∧ Reps K φ H ((putD kds k d).map (·.2)) vs' := by
  have hl := h.length
  rw [List.length_map] at hl
  have hsome : (valV ((kds.map (·.1)).zip vs) k).isSome = (valD kds k).isSome := by
    rcases zip_val h k with ⟨e1, e2⟩ | ⟨d, v, e1, e2, _⟩ <;> rw [e1, e2] <;> rfl
  unfold putK putD
  rw [valV_any, valD_any, hsome]
  by_cases hs : (valD kds k).isSome = true
  · rw [if_pos hs, if_pos hs]
    clear hsome hs
    induction kds generalizing vs with
    | nil => exact ⟨vs, rfl, h⟩
    | cons p kds ih =>
      obtain ⟨u, r, rfl, h1, h2⟩ := (show ∃ v r, vs = v :: r ∧ Rep K φ H p.2 v ∧ Reps K φ H (kds.map (·.2)) r from h)
      obtain ⟨vs', e, r'⟩ := ih h2 (by simpa using hl)
      rw [List.map_cons, List.zip_cons_cons, List.map_cons, List.map_cons]
      by_cases hk : p.1 = k
      · refine ⟨v :: vs', ?_, ?_⟩
        · rw [List.map_cons, List.zip_cons_cons, ← e, if_pos hk, if_pos hk]
        · rw [List.map_cons, if_pos hk]
          exact Reps.cons hd r'
      · refine ⟨u :: vs', ?_, ?_⟩
        · rw [List.map_cons, List.zip_cons_cons, ← e, if_neg hk, if_neg hk]
        · rw [List.map_cons, if_neg hk]
          exact Reps.cons h1 r'
  · rw [if_neg hs, if_neg hs]
    refine ⟨vs ++ [v], ?_, ?_⟩
    · rw [List.map_append, List.zip_append (by rw [List.length_map, hl])]
      rfl
    · rw [List.map_append]
      exact h.append (Reps.cons hd Reps.nil)
/-- a live dict -/
abbrev LivD (K : PySem.W.Frag) (φ : Addr → Prop) (Jb J : Hp → Prop) (l : Addr) (kds : List (κ × D)) : Prop := LivO K φ Jb J l (fun vs => DKind.ho ((kds.map (·.1)).zip vs)) (kds.map (·.2))
def dictD (kds : List (κ × D)) : D := DKind.d (kds.map (·.1)) (kds.map (·.2))
/-- a dict, live or left as it is -/
def EvDict (K : PySem.W.Frag) (φ : Addr → Prop) (J : Hp → Prop) (td : TE) (ρ : List (Option D)) (kds : List (κ × D)) : Prop := ∀ σ H, At K φ J ρ σ H → ∀ Q : VK, (∀ a H', But φ H H' → At K φ J ρ σ H' → (∀ H'', But φ H' H'' → J H'' → ∃ vs, H'' a = some (DKind.ho ((kds.map (·.1)).zip vs)) ∧ Reps K φ H'' (kds.map (·.2)) vs) → Q (.ref a) H') → td σ H Q
theorem ed_frozen (h : EvD K φ J td ρ (dictD kds)) : EvDict K φ J td ρ kds := fun σ H A Q q => h σ H A _ fun v d H' b A' e r => by
  subst e
  obtain ⟨a, vs, rfl, ⟨p, e, hl⟩, rs⟩ := DKind.rep.mp r
  exact q a H' b A' fun H'' b' j => ⟨vs, b'.keep a _ p e, rs.mono b'⟩
theorem ed_live (L : LivD K φ Jb J l kds) (h : EvD K φ J td ρ (.raw (.ref l))) : EvDict K φ J td ρ kds := fun σ H A Q q => h σ H A _ fun v d H' b A' e r => by
  subst e
  cases (show v = _ from r)
  obtain ⟨vs, H0, rs, m, hl, rfl⟩ := L.ex
  exact q l H' b A' fun H'' b' j => ⟨vs, j.1.2, rs.mono j.2⟩
theorem ev_dget (hd : EvDict K φ J td ρ kds) (hy : EvD K φ J ty ρ (DKind.kd k)) (e : valD kds k = some d) : EvD K φ J (tDGet td ty) ρ d := fun σ H A Q q =>
  hd σ H A _ fun a H1 b1 A1 per => hy σ H1 A1 _ fun y d' H2 b2 A2 e2 r2 => by
    subst e2
    obtain ⟨vs, ea, rs⟩ := per H2 b2 A2.j
    rcases zip_val rs k with ⟨e1, _⟩ | ⟨d1, v1, e1, ev, r1⟩
    · rw [e] at e1; cases e1
    · rw [e] at e1
      cases e1
      refine ⟨a, v1, rfl, ?_, q v1 _ H2 (b1.trans b2) A2 rfl r1⟩
      rw [← ev]
      exact DKind.get r2 ea
theorem ev_din (hy : EvD K φ J ty ρ (DKind.kd k)) (hd : EvDict K φ J td ρ kds) : EvD K φ J (tDIn ty td) ρ (.bl (valD kds k).isSome) := fun σ H A Q q =>
  hy σ H A _ fun y d' H1 b1 A1 e1 r1 => hd σ H1 A1 _ fun a H2 b2 A2 per => by
    subst e1
    obtain ⟨vs, ea, rs⟩ := per H2 (But.refl _ _) A2.j
    refine ⟨a, _, rfl, DKind.get (r1.mono b2) ea, q _ _ H2 (b1.trans b2) A2 rfl ?_⟩
    rcases zip_val rs k with ⟨e1, e2⟩ | ⟨d1, v1, e1, e2, _⟩ <;> rw [e1, e2] <;> rfl
theorem ev_dnotin (hy : EvD K φ J ty ρ (DKind.kd k)) (hd : EvDict K φ J td ρ kds) : EvD K φ J (tDNotIn ty td) ρ (.bl (!(valD kds k).isSome)) := fun σ H A Q q =>
  hy σ H A _ fun y d' H1 b1 A1 e1 r1 => hd σ H1 A1 _ fun a H2 b2 A2 per => by
    subst e1
    obtain ⟨vs, ea, rs⟩ := per H2 (But.refl _ _) A2.j
    refine ⟨a, _, rfl, DKind.get (r1.mono b2) ea, q _ _ H2 (b1.trans b2) A2 rfl ?_⟩
    rcases zip_val rs k with ⟨e1, e2⟩ | ⟨d1, v1, e1, e2, _⟩ <;> rw [e1, e2] <;> rfl
theorem ev_dget2 (hd : EvDict K φ J td ρ kds) (hy : EvD K φ J ty ρ (DKind.kd k)) (hx : EvD K φ J tx ρ x) : EvD K φ J (tDGet2 td ty tx) ρ ((valD kds k).getD x) := fun σ H A Q q =>
  hd σ H A _ fun a H1 b1 A1 per => by
    obtain ⟨vs1, ea1, _⟩ := per H1 (But.refl _ _) A1.j
    refine ⟨a, rfl, DKind.isd ea1, hy σ H1 A1 _ fun y d' H2 b2 A2 e2 r2 => hx σ H2 A2 _ fun u d3 H3 b3 A3 e3 r3 => ?_⟩
    subst e2 e3
    obtain ⟨vs, ea, rs⟩ := per H3 (b2.trans b3) A3.j
    refine ⟨_, DKind.get (r2.mono b3) ea, q _ _ H3 ((b1.trans b2).trans b3) A3 rfl ?_⟩
    rcases zip_val rs k with ⟨e1, e2⟩ | ⟨d1, v1, e1, e2, r1⟩
    · rw [e1, e2]; exact r3
    · rw [e1, e2]; exact r1
/-- d[y] = v -/
theorem st_dputL {i : Nat} (A : At K φ J ρ σ H) (L : LivD K φ Jb J l kds) (hv : EvP K φ J tv ρ P) (hk : ρ[i]? = some (some (.raw (.ref l)))) (hy : EvD K φ J ty ρ (DKind.kd k)) (hz : kds.length ≤ 1000000)
    (kk : ∀ d J' H', P d → LivD K φ Jb J' l (putD kds k d) → At K φ J' ρ σ H' → D0.nx σ H') : sDPut (tVar i) ty tv D0 σ H := by
  obtain ⟨vs, H0, r, m, hl, rfl⟩ := L.ex
  refine hv σ H A _ fun v d H1 b1 A1 pd r1 => ev_var hk σ H1 A1 _ fun w d2 H2 b2 A2 e2 r2 => hy σ H2 A2 _ fun y d3 H3 b3 A3 e3 r3 => ?_
  subst e2 e3
  cases (show w = _ from r2)
  have b0 : But φ H0 H3 := A3.j.2
  have trl : H3 l ≠ none := b0.tr l hl
  obtain ⟨vs', ep, rp⟩ := zip_put (k := k) ((r1.mono b2).mono b3) (r.mono b0)
  have hlen : ((kds.map (·.1)).zip vs).length < sizeLine := szlt (by
    rw [List.length_zip, List.length_map]
    omega)
  refine ⟨l, _, rfl, DKind.put r3 A3.j.1.2 hlen, ?_⟩
  rw [ep]
  refine kk d _ _ pd ⟨L.np, L.st, L.pl, vs', L2.upd H3 l (DKind.ho (((putD kds k d).map (·.1)).zip vs')), rp.mono ((But.refl φ H3).upd L.np), m.up fun a h => upd_tr a (b0.tr a h), (by rw [upd_same]; exact fun z => nomatch z), rfl⟩ (A3.upd (ho := fun xs => DKind.nt _ xs) L.np ⟨⟨L.st _ _ A3.j.1.1, upd_same⟩, But.refl _ _⟩ ?_)
  exact ((m.up fun a h => upd_tr a (b0.tr a h)).and (Mo.at (by rw [upd_same]; exact fun z => nomatch z))).and (Mo.but fun _ h => h)
theorem LivO.freezeD (L : LivD K (wo φ l) Jb J l kds) (hl : φ l) {i : Nat} (A : At K (wo φ l) J ρ σ H) (hk : ρ[i]? = some (some (.raw (.ref l)))) : At K φ Jb (ρ.set i (some (dictD kds))) σ H := by
  obtain ⟨vs, H0, r, m, hn, rfl⟩ := L.ex
  have b0 : But (wo φ l) H0 H := A.j.2
  have up : Up (wo φ l) φ H H := fun a o p e => ⟨p.1, e⟩
  have rr : Rep K φ H (dictD kds) (.ref l) := DKind.rep.mpr ⟨l, vs, rfl, ⟨hl, A.j.1.2, by rw [List.length_map, List.length_map]⟩, Reps.up up _ vs (r.mono b0)⟩
  obtain ⟨w, ew, rw'⟩ := A.sr.2 i _ hk
  cases (show w = _ from rw')
  refine ⟨?_, A.fr.fst, A.j.1.1, m.up b0.tr⟩
  have s1 := (A.sr.up up)
  refine ⟨by rw [List.length_set]; exact s1.1, fun j d hd => ?_⟩
  by_cases e : i = j
  · subst e
    have hlt : i < ρ.length := (List.getElem?_eq_some_iff.mp hk).1
    rw [List.getElem?_set_self hlt] at hd
    cases hd
    exact ⟨_, ew, rr⟩
  · rw [List.getElem?_set_ne e] at hd
    exact s1.2 j d hd
end
section
variable {K : PySem.W.Frag} {φ : Addr → Prop} {J : Hp → Prop} {ρ : List (Option D)} {te tk tv : TE}
/-- {} -/
theorem en_dnewK : EvNO K φ J tDNewK ρ (fun ds C => ds = (([] : List (Key × D)).map (·.2)) ∧ C = fun vs => HO.dK ((([] : List (Key × D)).map (·.1)).zip vs)) := fun σ H A Q q p hp =>
  q p [] [] _ H _ (But.refl _ _) A hp (But.of (same_new hp)) (A.same (same_new hp)) ⟨rfl, rfl⟩ (fun _ h => nomatch h) upd_same Reps.nil
theorem en_dnewT : EvNO K φ J tDNewT ρ (fun ds C => ds = (([] : List (List Key × D)).map (·.2)) ∧ C = fun vs => HO.dT ((([] : List (List Key × D)).map (·.1)).zip vs)) := fun σ H A Q q p hp =>
  q p [] [] _ H _ (But.refl _ _) A hp (But.of (same_new hp)) (A.same (same_new hp)) ⟨rfl, rfl⟩ (fun _ h => nomatch h) upd_same Reps.nil
/-- {k: v} -/
theorem en_disp1 {k : Key} {d : D} (hk : ∀ J' φ', Ext φ J φ' J' → EvD K φ' J' tk ρ (keyD k)) (hv : ∀ J' φ', Ext φ J φ' J' → EvD K φ' J' tv ρ d) : EvNO K φ J (tDisp [(tk, tv)]) ρ (fun ds C => ds = ([(k, d)].map (·.2)) ∧ C = fun vs => HO.dK (([(k, d)].map (·.1)).zip vs)) := fun σ H A Q q p hp => by
  have ext : Ext φ J (wo φ p) (fun H => J H ∧ H p = some (.dK [])) := ⟨fun _ h => h.1, fun p' s ns hq => ⟨fun z => hq.np z.1, hq.ne, fun H h => hq.ok H h.1, fun H' H'' h k o => ⟨hq.st H' H'' h.1 k o, k _ _ (by
    obtain ⟨_, _, _, _, h1, _⟩ := hq.ok _ A.j
    exact (ne_of_none h1 hp).symm) h.2⟩⟩, fun a p' h => ⟨p', fun e => h H A.j (by rw [e]; exact hp)⟩⟩
  have A1 : At K (wo φ p) (fun H => J H ∧ H p = some (.dK [])) ρ σ (upd H p (.dK [])) := A.newLive hp ⟨A.mono _ _ (fun a o _ e => same_new hp a o e) A.j, upd_same⟩ ((A.mono.up upd_tr).and (Mo.at (by rw [upd_same]; exact fun z => nomatch z)))
  refine hk _ _ ext σ _ A1 _ fun v1 d1 H2 b2 A2 e1 r1 => hv _ _ ext σ H2 A2 _ fun v2 d2 H3 b3 A3 e2 r2 => ?_
  subst e1 e2
  have hv1 : v1 = kV k := keyD_v r1
  subst hv1
  refine ⟨A3.j.2, [(k, v2)], rfl, Nat.le_of_ble_eq_true rfl, ?_⟩
  have np : ¬ wo φ p p := fun z => z.2 rfl
  have bb : But φ H (upd H3 p (.dK [(k, v2)])) := ⟨fun a o pa e => by
    have ne := ne_of_none e hp
    rw [upd_ne ne]
    exact b3.keep a o ⟨pa, ne⟩ (b2.keep a o ⟨pa, ne⟩ (by rw [upd_ne ne]; exact e)), fun a h => upd_tr a (b3.tr a (b2.tr a (upd_tr a h)))⟩
  have jj : J (upd H3 p (.dK [(k, v2)])) := A.mono H3 _ (fun a o h e => by
    rw [upd_ne (show a ≠ p from fun z => h (by rw [z]; exact hp))]
    exact e) A3.j.1
  refine q p [v2] [d2] _ H _ (But.refl _ _) A hp bb ⟨A.sr.up (Up.of bb), A3.fr.fst.upd (fun _ h => nomatch h), jj, A.mono.up bb.tr⟩ ⟨rfl, rfl⟩ (fun _ h => nomatch h) upd_same (Reps.cons (r2.mono ((But.refl _ H3).upd np)) Reps.nil)
end

-- import HandS.SortKw
-- import HandS.SortOrd
-- import HandS.SortRule
-- import HandS.SortInts
-- import HandS.DictTup
-- import HandS.More
-- import KE.KDictCopyH
-- import KE.KDictWalk
-- import KE.KDictExact
/-! ### sorted(d): the keys of a dict, in order -/
section
variable {prog : Program} {w : World} {A : Around} {E : Value → Shared → Prop} {s : Shared}
open SrtO in
theorem sorted_raw {d : Addr} {es : Array DictEntry} {ep : Nat} {b : Bool} {kw : List (Str × Value)} {ltv : Value → Value → Bool} {Q : Value → Shared → Prop} (lo : (d == sysModules) = false) (hh : A.handled = none) (hm : s.heap.DictRaw d es ep) (hz : es.size ≤ sizeLine)
    (hk : ∀ a, Builtin.«list.sort» ⟨[.ref a], kw⟩ = Builtin.«list.sort» ⟨[.ref a], [(Str.ofString "reverse", .bool b)]⟩) (ha1 : argsOk "sorted" ⟨[.ref d], kw⟩) (ha2 : ∀ a, argsOk "list.sort" ⟨[a], kw⟩) (O : Swo ltv)
    (hS : 2 ≤ (es.toList.map (·.key)).length → ∀ (h₁ : Heap) (tk : Nat) (a : Addr), h₁.get? a = some (seqObj "list" (es.toList.map (·.key)).toArray 0) → (∀ b o, s.heap.get? b = some o → b ≠ a ∧ h₁.get? b = some o) → SortableO prog w A.in1.in1 { s with heap := h₁, toks := tk } a (es.toList.map (·.key)) ltv)
    (h : ∀ (out : List Value) (h1 h' : Heap) (tk : Nat) (a : Addr) (n : Nat), Srtd ltv out → Stb ltv out (if b = true then (es.toList.map (·.key)).reverse else es.toList.map (·.key)) → (∀ b o, s.heap.get? b = some o → h1.get? b = some o) → (∀ b o, h1.get? b = some o → h'.get? b = some o) → h1.objs.size ≤ a → h'.get? a = some (seqObj "list" (if b = true then out.toArray.reverse else out.toArray) n) → Q (.ref a) { s with heap := h', toks := tk }) :
    wpAny (model prog w) A (call (.builtin "sorted") [.ref d] kw) Q E s := by
  refine PyProof.Rows.call_function_entry_kw PyProof.Rows.kind_sorted PyProof.Rows.plain_sorted PyProof.Rows.entry_sorted ha1 ?_
  unfold Builtin.«sorted»
  refine wpAny_bind (m := checkCount "sorted" 1 1 _) (wpAny_pure ?_)
  refine wpAny_bind (PySem.W.kdu_collect (A := A.in1) (KdlSrc.rawDict (es := es) (ep := ep) lo) hh hm hz fun h' tk acc hkp hacc => ?_)
  have eacc : acc.toList = es.toList.map (·.key) := by
    refine List.ext_getElem? fun j => ?_
    rw [List.getElem?_map]
    cases e : acc.toList[j]? with
    | none =>
      have h1 : acc.toList.length ≤ j := List.getElem?_eq_none_iff.mp e
      rw [Array.length_toList, hacc.1] at h1
      rw [List.getElem?_eq_none (by rw [Array.length_toList]; exact h1)]
      rfl
    | some v =>
      obtain ⟨hi, ev⟩ := hacc.2 j v (by rw [← Array.getElem?_toList]; exact e)
      rw [Array.getElem?_toList, Array.getElem?_eq_getElem hi, ev]
      rfl
  have hlen : acc.toList.length = es.size := by rw [Array.length_toList, hacc.1]
  refine wpAny_bind (wpAny_newList ?_ (by rw [hlen]; exact hz))
  rw [eacc]
  have hoL : (h'.push (seqObj "list" (es.toList.map (·.key)).toArray 0)).get? h'.objs.size = some (seqObj "list" (es.toList.map (·.key)).toArray 0) := Heap.get?_push_size _ rfl
  show wpAny _ _ _ _ _ { s with heap := h'.push (seqObj "list" (es.toList.map (·.key)).toArray 0), toks := tk }
  have keep : ∀ b o, s.heap.get? b = some o → b ≠ h'.objs.size ∧ (h'.push (seqObj "list" (es.toList.map (·.key)).toArray 0)).get? b = some o := fun b o q =>
    ⟨Nat.ne_of_lt (Heap.lt_size (hkp b o q)), Heap.get?_push_of_some _ (hkp b o q)⟩
  refine wpAny_bind (wpAny_holding (PyProof.Rows.wpAny_call_entry_kw PyProof.Rows.slot_list_sort ⟨_, hoL, rfl⟩ PyProof.Rows.entry_list_sort ?_ (ha2 _)))
  rw [hk]
  refine SrtR.list_sort_ordR O hoL (by rw [← eacc, hlen]; exact hz) (fun h2 => hS h2 _ _ _ hoL keep) fun out hs hb => ⟨_, rfl, ?_⟩
  obtain ⟨n, hn⟩ := PyProof.Rows.sortedHeap_at (vs := es.toList.map (·.key)) (out := if b = true then out.toArray.reverse else out.toArray) hoL
  refine wpAny_pure ⟨_, rfl, h out h' _ _ _ n hs hb hkp (fun b o q => ?_) (Nat.le_refl _) hn⟩
  have hlt : b < h'.objs.size := Heap.lt_size q
  rw [PyProof.Rows.sortedHeap_old (Nat.ne_of_lt hlt) (by rw [PyProof.Rows.size_push']; exact Nat.lt_succ_of_lt hlt)]
  exact Heap.get?_push_of_some _ q
end
/-- the raw entries of a dict with keys ints and texts -/
theorem mixRaw {P : Program} {w : World} {h : Heap} {a : Addr} {vs : List (Key × Value)} (x : h.DictOf (mixKind P w) a vs) : ∃ es ep, h.DictRaw a es ep ∧ es.size = vs.length ∧ ∀ (j : Nat) (k : Key), (vs.map (·.1))[j]? = some k → ∃ v, (es.toList.map (·.key))[j]? = some v ∧ keyIs k v = true := by
  obtain ⟨ep, hat⟩ := x.dictAt
  obtain ⟨es, hr, hsz, hall⟩ := PySem.Heap.DictAt.raw hat
  refine ⟨es, ep, hr, hsz, fun j k hk => ?_⟩
  rw [List.getElem?_map] at hk
  obtain ⟨p, hp, e⟩ := Option.map_eq_some_iff.mp hk
  have hj : j < vs.length := (List.getElem?_eq_some_iff.mp hp).1
  have hi : j < es.size := by omega
  refine ⟨es[j].key, by rw [List.getElem?_map, Array.getElem?_toList, Array.getElem?_eq_getElem hi]; rfl, ?_⟩
  have z := hall j hi p.1 p.2 hp
  rw [← e]
  first | exact z | exact z.1
def OrdB' (b : Bool) (ns : List Int) : Prop := if b = true then ns.Pairwise (· ≥ ·) else ns.Pairwise (· ≤ ·)
def rSortD (b : Bool) (zs0 : List V) : List V → List V → Hp → VK → Prop := fun xs zs H Q => ∃ (a : Addr) (kvs : List (Key × V)) (ks : List Int), xs = [.ref a] ∧ zs = zs0 ∧ H a = some (.dK kvs) ∧ kvs.map (·.1) = ks.map Sum.inl ∧
  ∀ (ys : List Int) (p : Addr), ys.Perm ks → OrdB b ys → H p = none → Q (.ref p) (upd H p (.lst (ys.map V.int)))
section
variable {X : Cx}
theorem sortD_run (hcalm : X.calm = true) {b : Bool} {kw : List (Str × Value)} {pins : List (Addr × Obj)} {s : Shared} {σ : L2.St} {H : Hp} {a : Addr} {kvs : List (Key × V)} {ks : List Int} {Q : VK} (I : Inv X pins σ H s) (hd : H a = some (.dK kvs)) (hks : kvs.map (·.1) = ks.map Sum.inl)
    (hk : ∀ a, Builtin.«list.sort» ⟨[.ref a], kw⟩ = Builtin.«list.sort» ⟨[.ref a], [(Str.ofString "reverse", .bool b)]⟩) (ha1 : argsOk "sorted" ⟨[.ref a], kw⟩) (ha2 : ∀ a, argsOk "list.sort" ⟨[a], kw⟩)
    (q : ∀ (ys : List Int) (p : Addr), ys.Perm ks → OrdB b ys → H p = none → Q (.ref p) (upd H p (.lst (ys.map V.int)))) : wpAny (model X.prog X.w) X.A (call (.builtin "sorted") [.ref a] kw) (EP X pins σ Q) X.xe s := by
  obtain ⟨z, lo, vs, rel, dd⟩ := dk_of I.hok hd
  have hkeys : vs.map (·.1) = ks.map Sum.inl := rel.keys.symm.trans hks
  obtain ⟨es, ep, hr, hsz, hall⟩ := mixRaw dd
  have hl : vs.length = ks.length := by
    have e := congrArg List.length hkeys
    rw [List.length_map, List.length_map] at e
    exact e
  have hz : es.size ≤ sizeLine := by rw [hsz, ← rel.length]; exact z
  have hi : IntsAre (es.toList.map (·.key)) ks := ints_each (by rw [List.length_map, Array.length_toList, hsz, hl]) fun j v e => by
    have hj : j < ks.length := by
      have := (List.getElem?_eq_some_iff.mp e).1
      rw [List.length_map, Array.length_toList, hsz, hl] at this
      exact this
    have e3 : (vs.map (·.1))[j]? = some (Sum.inl ks[j]) := by rw [hkeys, List.getElem?_map, List.getElem?_eq_getElem hj]; rfl
    obtain ⟨v', e4, k4⟩ := hall j _ e3
    rw [e] at e4
    cases e4
    rcases keyIs_shape k4 with ⟨i, t, ek, ev⟩ | ⟨y, t, ek, ev⟩
    · cases ek
      exact ⟨_, t, List.getElem?_eq_getElem hj, ev⟩
    · cases ek
  refine sorted_raw lo (I.ok.hd hcalm) hr hz hk ha1 ha2 SrtO.swo_int (fun h2 h₁ tk a' _ _ => SrtO.ints_sortable hi h2) fun out h1 h' tk a' n h2 h3 k1 k2 ha' hn => ?_
  obtain ⟨ns', g1, g2, g3⟩ := SrtR.ints_outR hi h2 h3
  have I1 : Inv X pins σ H { s with heap := h1, toks := tk } := I.kept k1
  have e0 : ((if b = true then out.toArray.reverse else out.toArray).toList).toArray = (if b = true then out.toArray.reverse else out.toArray) := by rw [Array.toArray_toList]
  have hlen : (ns'.map V.int).length ≤ sizeLine := by
    rw [List.length_map, g2.length_eq, ← hl, ← hsz]
    exact hz
  exact ⟨.ref a', upd H a' (.lst (ns'.map V.int)), I1.laid (t' := tk) k2 ha' ⟨hlen, _, n, vals_of_ints g1, by rw [e0]; exact hn⟩, rfl, q _ _ g2 g3 (I1.hok.fresh ha')⟩
theorem cr_sortDRev (hcalm : X.calm = true) {b : Bool} : CallRK X (.builtin "sorted") [Str.ofString "reverse"] (rSortD b [.bl b]) := by
  intro pins s σ H vs zs us ws Q I r rz h
  obtain ⟨a, kvs, ks, rfl, rfl, hs, hks, q⟩ := h
  obtain rfl := Vals.ref1 r
  obtain ⟨w1, rfl, e1⟩ := vals1 rz
  obtain rfl : w1 = Value.bool b := e1
  exact sortD_run hcalm I hs hks (fun _ => rfl) (PyProof.Rows.args_sorted_rev _ _) (fun _ => PyProof.Rows.args_list_sort_rev _ _) q
end

-- import HandS.DictComp
/-! ### dict comprehensions, pop(i), in a tuple of ints -/
section
variable {K : PySem.W.Frag} {φ φ' : Addr → Prop} {Jb J J' : Hp → Prop} {H H' H1 : Hp} {ρ ρ' : List (Option D)} {σ : L2.St} {te tb tk tv : TE} {x y z d : D} {P : D → Prop} {ds es : List D} {v : V} {vs : List V} {D0 : Ends} {l : Addr}
def foldK (kf : D → Key) (vf : D → D) (ds : List D) : List (Key × D) := ds.foldl (fun acc d => putD acc (kf d) (vf d)) []
theorem foldK_snoc {kf : D → Key} {vf : D → D} {ds : List D} {d : D} : foldK kf vf (ds ++ [d]) = putD (foldK kf vf ds) (kf d) (vf d) := by
  unfold foldK
  rw [List.foldl_append]
  rfl
theorem foldK_len {kf : D → Key} {vf : D → D} {ds : List D} : (foldK kf vf ds).length ≤ ds.length := by
  suffices h : ∀ acc : List (Key × D), (ds.foldl (fun acc d => putD acc (kf d) (vf d)) acc).length ≤ acc.length + ds.length by
    have := h []
    rw [List.length_nil, Nat.zero_add] at this
    exact this
  induction ds with
  | nil => intro acc; exact Nat.le_refl _
  | cons d ds ih =>
    intro acc
    have h1 := ih (putD acc (kf d) (vf d))
    have h2 := putD_len acc (kf d) (vf d)
    rw [List.foldl_cons, List.length_cons]
    omega
/-- {k: v for x in ds} -/
theorem en_dc {wi : TI} {g : TG} {ws us : List Nat} {ρd : D → List (Option D)} {kf : D → Key} {vf : D → D} (hi : IterD K φ J wi ρ ds) (hl : ds.length ≤ 1000000) (hu : ∀ i ∈ us, i ∈ ws)
    (hg : ∀ d ∈ ds, EvG K g d (wipeR ρ ws) (ρd d) us)
    (hk : ∀ d ∈ ds, ∀ φ' J', Ext φ J φ' J' → EvD K φ' J' tk (ρd d) (keyD (kf d)))
    (he : ∀ d ∈ ds, ∀ φ' J', Ext φ J φ' J' → EvD K φ' J' tv (ρd d) (vf d)) :
    EvNO K φ J (tDc wi g tYes tk tv ws) ρ (fun xs C => xs = ((foldK kf vf ds).map (·.2)) ∧ C = fun vs => HO.dK (((foldK kf vf ds).map (·.1)).zip vs)) := fun σ H A Q q => by
  refine hi σ H A _ fun J0 ds' H1 b1 A1 pd w => ?_
  subst pd
  intro D0 hD
  have neP : ∀ p s ns, Pooled φ J p s ns → p ≠ D0 := fun p s ns hp => by
    obtain ⟨a1, a2, a3, a4, h1, _⟩ := hp.ok _ A1.j
    exact ne_of_none h1 hD
  let φ' : Addr → Prop := fun a => φ a ∧ a ≠ D0
  let KV (i : Nat) : List (Key × D) := foldK kf vf (ds'.take i)
  have ext : ∀ acc : HO, Ext φ J φ' (fun H => J H ∧ H D0 = some acc) := fun acc => ⟨fun _ h => h.1, fun p s ns hp => ⟨fun z => hp.np z.1, hp.ne, fun H h => hp.ok H h.1, fun H H' h k o => ⟨hp.st H H' h.1 k o, k _ _ (neP p s ns hp).symm h.2⟩⟩, fun a p h => ⟨p, fun e => h H1 A1.j (by rw [e]; exact hD)⟩⟩
  have mono : ∀ (acc : HO) (H2 : Hp), (∀ a, H1 a ≠ none → H2 a ≠ none) → H2 D0 ≠ none → Mo H2 (fun H => J H ∧ H D0 = some acc) := fun acc H2 s h => (A1.mono.up s).and (Mo.at h)
  refine ⟨fun i m H2 => m = ds'.length - i ∧ i ≤ ds'.length ∧ But φ H1 H2 ∧ ∃ acc, Reps K φ' H2 ((KV i).map (·.2)) acc ∧ At K φ' (fun H => J H ∧ H D0 = some (.dK (((KV i).map (·.1)).zip acc))) (wipeR ρ ws) (L2.wipe σ ws) H2,
    ⟨ds'.length, rfl, Nat.zero_le _, But.of (same_new hD), [], Reps.nil, ?_⟩, ?_⟩
  · have A2 := A1.newLive (o := .dK []) (J' := fun H => J H ∧ H D0 = some (.dK [])) hD ⟨A1.mono _ _ (fun a o _ e => same_new hD a o e) A1.j, upd_same⟩ (mono _ _ upd_tr (by rw [upd_same]; exact fun z => by cases z))
    exact ⟨A2.sr.wipe ws, A2.fr, A2.j, A2.mono⟩
  · rintro i m H2 ⟨rfl, hi, b2, acc, rs, A2⟩
    have upw : Up φ φ' H1 H2 := fun a o p e => ⟨⟨p, ne_of_none e hD⟩, b2.keep a o p e⟩
    have fr2 : Frm φ' H2 := A2.fr
    obtain ⟨wg, wstop⟩ := w φ' i H2 upw fr2
    by_cases hlt : i < ds'.length
    · have hd : ds'[i]? = some ds'[i] := List.getElem?_eq_getElem hlt
      obtain ⟨go, yl⟩ := wg _ hd
      have hmem : ds'[i] ∈ ds' := List.getElem_mem hlt
      have tkk : KV (i + 1) = putD (KV i) (kf ds'[i]) (vf ds'[i]) := by
        show foldK kf vf (ds'.take (i + 1)) = _
        rw [List.take_add_one, hd]
        exact foldK_snoc
      refine .inr ⟨go, fun H3 => But φ H1 H3 ∧ ∃ acc, Reps K φ' H3 ((KV (i + 1)).map (·.2)) acc ∧ At K φ' (fun H => J H ∧ H D0 = some (.dK (((KV (i + 1)).map (·.1)).zip acc))) (wipeR ρ ws) (L2.wipe σ ws) H3, ?_, ?_⟩
      · rintro H3 ⟨b3, acc3, r3, A3⟩
        exact ⟨ds'.length - (i + 1), by omega, rfl, hlt, b3, acc3, r3, A3⟩
      · intro x H3 hy
        obtain ⟨s3, r3⟩ := yl x H3 hy
        have A3 := A2.same s3
        have rs3 := rs.mono (But.of (φ := φ') s3)
        have b3 : But φ H1 H3 := b2.trans (But.of s3)
        refine hg _ hmem φ' _ _ H3 x A3 r3 _ fun σ4 A4 hw4 => ⟨?_, ?_⟩
        · rw [hw4 ws hu]
          exact wipe_wipe ws
        · refine et_yes (K := K) (φ := φ') σ4 H3 A4 _ fun bb H4 b4 A4' hbb => ?_
          subst hbb
          rw [if_pos rfl]
          refine hk _ hmem φ' _ (ext _) σ4 H4 A4' _ fun u d5 H5 b5 A5 e5 r5 => he _ hmem φ' _ (ext _) σ4 H5 A5 _ fun v d6 H6 b6 A6 e6 r6 => ?_
          subst e5 e6
          have ek : u = kV (kf ds'[i]) := keyD_v r5
          have nD : ¬ φ' D0 := fun z => z.2 rfl
          have b46 : But φ' H3 H6 := (b4.trans b5).trans b6
          obtain ⟨acc', ep, rp⟩ := zip_put (k := kf ds'[i]) r6 (rs3.mono b46)
          have bb6 : But φ H1 H6 := ⟨fun a o p e => b46.keep a o ⟨p, ne_of_none e hD⟩ (b3.keep a o p e), fun a h => b46.tr a (b3.tr a h)⟩
          have hlen : (((KV i).map (·.1)).zip acc).length < sizeLine := szlt (by
            have h1 : (KV i).length ≤ (ds'.take i).length := foldK_len
            rw [List.length_zip, List.length_map]
            rw [List.length_take] at h1
            omega)
          refine ⟨_, kf ds'[i], ek, A6.j.2, hlen, ?_⟩
          rw [ep, tkk]
          refine ⟨⟨fun a o p e => ?_, fun a h => upd_tr a (bb6.tr a h)⟩, acc', rp.mono ((But.refl φ' H6).upd nD), ?_⟩
          · rw [upd_ne (ne_of_none e hD)]
            exact bb6.keep a o p e
          · have A6' : At K φ' (fun H => J H ∧ H D0 = some (.dK (((KV i).map (·.1)).zip acc))) (wipeR ρ ws) (L2.wipe σ ws) H6 := ⟨A3.sr.up (Up.of b46), A6.fr, A6.j, A6.mono⟩
            have jj : ∀ o, J (upd H6 D0 o) := fun o => A1.mono H6 _ (fun a o h e => by
              rw [upd_ne (show a ≠ D0 from fun z => h (by rw [z]; exact hD))]
              exact e) A6.j.1
            exact A6'.upd nD ⟨jj _, upd_same⟩ (mono _ _ (fun a h => upd_tr a (bb6.tr a h)) (by rw [upd_same]; exact fun z => by cases z))
    · have e : i = ds'.length := by omega
      subst e
      refine .inl ⟨wstop rfl, ?_⟩
      have eF : KV ds'.length = foldK kf vf ds' := by
        show foldK kf vf (ds'.take _) = _
        rw [List.take_length]
      rw [eF] at rs A2
      have A3 : At K φ J ρ σ H2 := ⟨A1.sr.up (Up.of b2), A2.fr.fst, A2.j.1, A1.mono.up b2.tr⟩
      exact q D0 acc _ _ H1 H2 b1 A1 hD b2 A3 ⟨rfl, rfl⟩ (fun _ h => nomatch h) A2.j.2 rs
/-- x = xs.pop(i) -/
theorem st_popL {j k n : Nat} {i : Int} (A : At K φ J ρ σ H) (L : Liv K φ Jb J l ds) (hk : ρ[k]? = some (some (.raw (.ref l)))) (hn : seqIndex? i ds.length = some n) (hd : ds[n]? = some d) (h1 : -(2 ^ 63) ≤ i) (h2 : i < 2 ^ 63)
    (kk : ∀ J' σ' H', Liv K φ Jb J' l (ds.eraseIdx n) → At K φ J' (ρ.set j (some d)) σ' H' → D0.nx σ' H') : tAsg (tBM K "list" rPopAt (tVar k) (tCons (tC (.int i)) tNil)) (gName j) D0 σ H := by
  obtain ⟨vs, H0, r, m, hl, rfl⟩ := L.ex
  obtain ⟨w, e, rw'⟩ := A.sr.2 k _ hk
  cases (show w = _ from rw')
  obtain ⟨v, hv, rv⟩ := r.get hd
  have b0 : But φ H0 H := A.j.2
  refine ⟨_, e, .inl ⟨rfl, _, SqL.of A.j.1.2⟩, l, vs, i, n, v, rfl, rfl, A.j.1.2, h1, h2, by rw [r.length]; exact hn, hv, ?_⟩
  have re : ∀ (ds : List D) (vs : List V) (n : Nat), Reps K φ H0 ds vs → Reps K φ H0 (ds.eraseIdx n) (vs.eraseIdx n) := by
    intro ds
    induction ds with
    | nil =>
      intro vs n h
      cases (show vs = [] from h)
      exact Reps.nil
    | cons x ds ih =>
      intro vs n h
      obtain ⟨u, r', rfl, g1, g2⟩ := (show ∃ v r, vs = v :: r ∧ Rep K φ H0 x v ∧ Reps K φ H0 ds r from h)
      cases n with
      | zero => exact g2
      | succ n => exact Reps.cons g1 (ih r' n g2)
  have bu : But φ H0 (L2.upd H l (.lst (vs.eraseIdx n))) := b0.upd L.np
  refine kk _ _ _ ⟨L.np, L.st, L.pl, vs.eraseIdx n, L2.upd H l (.lst (vs.eraseIdx n)), (re ds vs n r).mono bu, m.up bu.tr, (by rw [upd_same]; exact fun z => nomatch z), rfl⟩ ?_
  have A2 := A.upd (J' := fun H'' => (Jb H'' ∧ H'' l = some (.lst (vs.eraseIdx n))) ∧ But φ (L2.upd H l (.lst (vs.eraseIdx n))) H'') L.np ⟨⟨L.st _ _ A.j.1.1, upd_same⟩, But.refl _ _⟩ (((m.up bu.tr).and (Mo.at (by rw [upd_same]; exact fun z => nomatch z))).and (Mo.but fun _ h => h))
  exact A2.set j (rv.mono bu)
/-- an int in a tuple or list of ints -/
theorem inV_ints {i : Int} : ∀ ns : List Int, inV (.int i) (ns.map V.int) = decide (i ∈ ns)
  | [] => rfl
  | n :: ns => by
    have ih := inV_ints (i := i) ns
    unfold inV at ih ⊢
    rw [List.map_cons, List.any_cons, ih]
    by_cases h : i = n
    · subst h
      simp [eqV]
    · have h' : ¬ n = i := fun z => h z.symm
      simp [eqV, h, h']
theorem flat_ints {ns : List Int} : (ns.map V.int).all flatV = true := by
  rw [List.all_map, List.all_eq_true]
  intro _ _
  rfl
theorem ev_inT {i : Int} {ns : List Int} (ha : EvD K φ J te ρ (.int i)) (hb : EvD K φ J tb ρ (.tup (ns.map D.int))) : EvD K φ J (tOp (rIn K false) te tb) ρ (.bl (decide (i ∈ ns))) := ev_opD ha hb fun H v w _ r1 r2 Q q => by
  cases (show v = _ from r1)
  obtain ⟨a, vs, rfl, p, rs⟩ := rep_tup r2
  rw [rs.ints] at p
  exact ⟨a, _, rfl, .inr p.sq, rfl, flat_ints, q _ _ H (Same.refl H) rfl (by rw [if_neg (by simp), inV_ints]; rfl)⟩
theorem ev_inL {i : Int} {ns : List Int} (ha : EvD K φ J te ρ (.int i)) (hb : EvD K φ J tb ρ (.lst (ns.map D.int))) : EvD K φ J (tOp (rIn K false) te tb) ρ (.bl (decide (i ∈ ns))) := ev_opD ha hb fun H v w _ r1 r2 Q q => by
  cases (show v = _ from r1)
  obtain ⟨a, vs, rfl, p, rs⟩ := rep_lst r2
  rw [rs.ints] at p
  exact ⟨a, _, rfl, .inl p.sq, rfl, flat_ints, q _ _ H (Same.refl H) rfl (by rw [if_neg (by simp), inV_ints]; rfl)⟩
/-- .. in a live list -/
theorem ev_inLL {i : Int} {ns : List Int} (L : Liv K φ Jb J l (ns.map D.int)) (ha : EvD K φ J te ρ (.int i)) (hb : EvD K φ J tb ρ (.raw (.ref l))) : EvD K φ J (tOp (rIn K false) te tb) ρ (.bl (decide (i ∈ ns))) := fun σ H A Q q =>
  ha σ H A _ fun v x H1 b1 A1 e1 r1 => hb σ H1 A1 _ fun w y H2 b2 A2 e2 r2 => by
    subst e1 e2
    cases (show v = _ from r1)
    cases (show w = _ from r2)
    obtain ⟨vs, H0, r, m, hl, rfl⟩ := L.ex
    have ev := r.ints
    subst ev
    exact ⟨l, _, rfl, .inl (SqL.of A2.j.1.2), rfl, flat_ints, q _ _ H2 (b1.trans b2) A2 rfl (by rw [if_neg (by simp), inV_ints]; rfl)⟩
theorem ev_notInLL {i : Int} {ns : List Int} (L : Liv K φ Jb J l (ns.map D.int)) (ha : EvD K φ J te ρ (.int i)) (hb : EvD K φ J tb ρ (.raw (.ref l))) : EvD K φ J (tOp (rIn K true) te tb) ρ (.bl (!decide (i ∈ ns))) := fun σ H A Q q =>
  ha σ H A _ fun v x H1 b1 A1 e1 r1 => hb σ H1 A1 _ fun w y H2 b2 A2 e2 r2 => by
    subst e1 e2
    cases (show v = _ from r1)
    cases (show w = _ from r2)
    obtain ⟨vs, H0, r, m, hl, rfl⟩ := L.ex
    have ev := r.ints
    subst ev
    exact ⟨l, _, rfl, .inl (SqL.of A2.j.1.2), rfl, flat_ints, q _ _ H2 (b1.trans b2) A2 rfl (by rw [if_pos rfl, inV_ints]; rfl)⟩
/-- sorted(d, reverse=b), the keys ints -/
theorem ev_sortDRev {td : TE} {b : Bool} {tb' : TA} {kds : List (Key × D)} {ks : List Int} (hd : EvDict K φ J td ρ kds) (hks : kds.map (·.1) = ks.map Sum.inl) (hb : EvAD K φ J tb' ρ [.bl b]) :
    EvP K φ J (tCKw (rSortD b [.bl b]) (tCons td tNil) tb') ρ (fun z => ∃ ns : List Int, z = .lst (ns.map D.int) ∧ ns.Perm ks ∧ OrdB b ns) := fun σ H A Q q =>
  hd σ H A _ fun a H1 b1 A1 per => hb σ H1 A1 _ fun ws ds H2 b2 A2 e2 r2 => by
    subst e2
    obtain ⟨w, rfl, r⟩ := r2.one
    cases (show w = _ from r)
    obtain ⟨vs, ea, rs⟩ := per H2 b2 A2.j
    have hl : vs.length = kds.length := by rw [rs.length, List.length_map]
    refine ⟨a, _, ks, rfl, rfl, ea, ?_, fun ys p hp ho hn => ?_⟩
    · rw [List.map_fst_zip (by rw [List.length_map]; omega), hks]
    · exact q _ (.lst (ys.map D.int)) _ ((b1.trans b2).trans (But.of (same_new hn))) (A2.same (same_new hn)) ⟨ys, rfl, hp, ho⟩ ⟨p, _, rfl, .inl ⟨A2.fr p hn, .inl upd_same⟩, Reps.of_ints⟩
end
section
variable {K : PySem.W.Frag} {φ : Addr → Prop} {J : Hp → Prop} {ρ : List (Option D)} {te : TE} {Jb : Hp → Prop} {l : Addr}
/-- sorted of ints, any number of them -/
theorem c_sortedA {X : Cx} : CallR X (.builtin "sorted") (rSortedI X.K) := cr_sortedI
theorem ev_sortedA {ns : List Int} (ha : EvD K φ J te ρ (.lst (ns.map D.int))) : EvP K φ J (tCB (rSortedI K) (tCons te tNil)) ρ (fun z => ∃ ns' : List Int, z = .lst (ns'.map D.int) ∧ ns'.Perm ns ∧ ns'.Pairwise (· ≤ ·)) := ev_cbD (ea_cons ha ea_nil) fun H vs f r Q q => by
  obtain ⟨v, rfl, r1⟩ := r.one
  obtain ⟨a, rfl, h⟩ := rep_ints r1
  exact ⟨a, ns, rfl, h, fun ns' p hp hs hn => q _ _ _ (same_new hn) ⟨ns', rfl, hp, hs⟩ ⟨p, _, rfl, .inl ⟨f p hn, .inl upd_same⟩, Reps.of_ints⟩⟩
end
section
variable {X : Cx}
theorem sw_trueD {kx vx : Expr} {gs : List Comprehension} {scope : Scope} {pos py : Pos} {y : Str} {l : Nat} {env : Env} (hk : env.scope.kind = .function) (hy : env.scope.names.lookup y = some .local) (hl : (py.line == pos.line) = true)
    (ha : (scope.names.any fun (n, k) => n == y && (k == .local || k == .cell)) = false) : swapsWith (.DictComp kx vx gs scope pos) (some (.Name y py)) l env = pure true := by
  have ky : env.kindOf y = some .local := hy
  have hb : env.blockKind = .function := by unfold Env.blockKind; rw [hk]; rfl
  unfold swapsWith
  simp only [hb, ky, ha, Expr.pos, hl]
  rfl
/-- x = {k: v for ..} -/
theorem ps_setDc {i : Nat} {y : Str} {py : Pos} {kx vx tg iter : Expr} {ifs : List Expr} {scope : Scope} {own : List (Str × Nat)} {pos spos : Pos} {wi : TI} {g : TG} {tt : TT} {tk tv : TE} (hc : X.calm = true) (hN : X.N.Nodup) (hy : X.N[i]? = some y) (hyl : X.env.scope.names.lookup y = some .local)
    (hsw : swapsWith (.DictComp kx vx [⟨tg, iter, ifs, 0⟩] scope pos) (some (.Name y py)) spos.line X.env = pure true) (hi : PI X tg iter wi) (ok : BlkOk X.N X.env.scope scope own)
    (hg : ∀ (s : Shared) (H : Hp) (C : Addr) (cl : List (Str × Addr)) (fp : List Addr), PG (X.blk s H scope (compEnvC scope cl C X.env) fp) tg g) (ht : ∀ (s : Shared) (H : Hp) (C : Addr) (cl : List (Str × Addr)) (fp : List Addr), PTs (X.blk s H scope (compEnvC scope cl C X.env) fp) ifs tt)
    (hk : ∀ (s : Shared) (H : Hp) (C : Addr) (cl : List (Str × Addr)) (fp : List Addr), PE (X.blk s H scope (compEnvC scope cl C X.env) fp) kx tk)
    (he : ∀ (s : Shared) (H : Hp) (C : Addr) (cl : List (Str × Addr)) (fp : List Addr), PE (X.blk s H scope (compEnvC scope cl C X.env) fp) vx tv) (hs : ∀ x, foldedSetIterable iter X.env x = pure x := by intro _; rfl) :
    PS X (.Assign [.Name y py] (.DictComp kx vx [⟨tg, iter, ifs, 0⟩] scope pos) spos) (tAsg (tDc wi g tt tk tv (own.map (·.2))) (gName i)) := by
  refine ⟨fun pins s σ H D I h => ?_⟩
  rw [exec_Assign_Name_used _ _ _ _ hsw]
  refine wpAny_bind (wpAny_standAt (wpAny_bind ?_))
  show wpAny _ X.A (do let _ ← comprehension (.DictComp kx vx [⟨tg, iter, ifs, 0⟩] scope pos) scope X.env (firstIterPos [⟨tg, iter, ifs, 0⟩] pos) newDict false (eval iter X.env) (some (assign (.Name y py) X.env))) _ _ s
  have h : tDc wi g tt tk tv (own.map (·.2)) σ H (fun x H1 => gName i x σ H1 D.nx) := h
  refine wpAny_bind (thn (dc_core (Qf := fun _ s' => SP X pins D .next s') hc hN I hi ok hg ht hk he hs h fun L C s' m H' I' q hn f => ?_) fun _ s' hq => wpAny_pure (wpAny_pure hq))
  show wpAny _ _ (assign (.Name y py) X.env (.ref L)) _ _ _
  refine wpAny_assign_Name (store_ok2 (v := V.ref L) I' hN hy (.inl hyl) rfl (fun s2 I2 ⟨a, sb, ha⟩ => ?_) (.inr hyl))
  obtain ⟨f0, f1, f2, f3, f4, f5⟩ := f
  have haC : C ≠ a := by
    rcases ha with z | z
    · rw [z]; exact f1
    · exact fun e => f4 y a z e.symm
  refine ⟨m, hn.sameBut sb haC, fun h3 sb3 => ?_⟩
  exact ⟨_, H', I2.turned (t' := s2.toks) (fun b o hb e => (sb3.2 b hb).trans e) f0 f1 f3 f4 f5, q⟩
end

/-! ### live objects, any number of them: what J says of each -/
structure LivS (K : PySem.W.Frag) (φ : Addr → Prop) (J : Hp → Prop) (l : Addr) (C : List V → HO) (ds : List D) : Prop where
  np : ¬ φ l
  ex : ∃ vs H0, Reps K φ H0 ds vs ∧ H0 l ≠ none ∧ ∀ H, J H → H l = some (C vs) ∧ But φ H0 H
/-- J' : l is written, the rest is as J has it -/
structure Wr (K : PySem.W.Frag) (φ : Addr → Prop) (J J' : Hp → Prop) (l : Addr) : Prop where
  base : ∀ Jb : Hp → Prop, (∀ H, J H → Jb H) → Stab l Jb → ∀ H, J' H → Jb H
  pool : ∀ p s ns, Pooled φ J p s ns → p ≠ l → s ≠ l → Pooled φ J' p s ns
  liv : ∀ l2 C2 ds2, LivS K φ J l2 C2 ds2 → l2 ≠ l → LivS K φ J' l2 C2 ds2
/-- a new object at l: J' has what J has -/
structure Nw (K : PySem.W.Frag) (φ : Addr → Prop) (J J' : Hp → Prop) (l : Addr) : Prop where
  fr : φ l
  ext : Ext φ J (wo φ l) J'
  pl : ∀ p s ns, Pooled φ J p s ns → p ≠ l ∧ s ≠ l
  liv : ∀ l2 C2 ds2, LivS K φ J l2 C2 ds2 → l2 ≠ l ∧ LivS K (wo φ l) J' l2 C2 ds2
  st : Stab l J
  hc : ∃ Hc, J Hc ∧ Hc l = none
section
variable {K : PySem.W.Frag} {φ φ' : Addr → Prop} {Jb J J' : Hp → Prop} {H H' H1 : Hp} {ρ ρ' : List (Option D)} {σ : L2.St} {ta : TA} {te tb td ty tv : TE} {x y z d : D} {P Pa Pb : D → Prop} {ds es : List D} {v : V} {vs : List V} {D0 : Ends} {t u : TS} {l : Addr} {C : List V → HO}
theorem LivS.imp (L : LivS K φ J l C ds) (h : ∀ H, J' H → J H) : LivS K φ J' l C ds := ⟨L.np, let ⟨vs, H0, r, n, k⟩ := L.ex; ⟨vs, H0, r, n, fun H j => k H (h H j)⟩⟩
theorem LivS.but (L : LivS K φ J l C ds) : LivS K φ (fun H => J H ∧ But φ H1 H) l C ds := L.imp fun _ h => h.1
theorem upd_upd {H : Hp} {l : Addr} {o u : HO} (h : H l = some o) : L2.upd (L2.upd H l u) l o = H := funext fun a => by
  by_cases e : a = l
  · rw [e, upd_same, h]
  · rw [upd_ne e, upd_ne e]
theorem But.unupd {l : Addr} {u : HO} {H0 H : Hp} (np : ¬ φ l) (hl : H l ≠ none) (b : But φ H0 (L2.upd H l u)) : But φ H0 H := ⟨fun a o p e => by
  have z := b.keep a o p e
  rw [upd_ne (show a ≠ l from fun z => np (z ▸ p))] at z
  exact z, fun a h => by
  by_cases e : a = l
  · rw [e]; exact hl
  · have z := b.tr a h
    rw [upd_ne e] at z
    exact z⟩
/-- l is written -/
def wrJ (φ : Addr → Prop) (J : Hp → Prop) (l : Addr) (o : HO) (H3 : Hp) : Hp → Prop := fun H => (H l = some o ∧ ∃ u, J (L2.upd H l u)) ∧ But φ H3 H
theorem LivS.write {C' : List V → HO} {ds' : List D} {vs' : List V} (L : LivS K φ J l C ds) (A : At K φ J ρ σ H) (r : Reps K φ H ds' vs') (hC : ∀ xs, C' vs' ≠ .tup xs := by intro xs h; cases h) :
    At K φ (wrJ φ J l (C' vs') (L2.upd H l (C' vs'))) ρ σ (L2.upd H l (C' vs')) ∧ LivS K φ (wrJ φ J l (C' vs') (L2.upd H l (C' vs'))) l C' ds' ∧ Wr K φ J (wrJ φ J l (C' vs') (L2.upd H l (C' vs'))) l := by
  obtain ⟨vs, H0, r0, n0, k0⟩ := L.ex
  have hl := (k0 H A.j).1
  have hln : H l ≠ none := by rw [hl]; exact fun z => nomatch z
  refine ⟨A.upd (ho := hC) L.np ⟨⟨upd_same, C vs, by rw [show L2.upd (L2.upd H l (C' vs')) l (C vs) = H from upd_upd hl]; exact A.j⟩, But.refl _ _⟩ ?_, ⟨L.np, vs', _, r.mono ((But.refl φ H).upd L.np), (by rw [upd_same]; exact fun z => nomatch z), fun H' h => ⟨h.1.1, h.2⟩⟩, ⟨fun Jb hb st H' h => ?_, fun p s ns hp hpl hsl => ?_, fun l2 C2 ds2 L2' hne => ?_⟩⟩
  · refine Mo.and (fun Ha Hb k j => ⟨k l _ (by rw [upd_same]; exact fun z => nomatch z) j.1, ?_⟩) (Mo.but fun _ h => h)
    obtain ⟨u, ju⟩ := j.2
    refine ⟨u, A.mono _ _ (fun a o h e => ?_) ju⟩
    by_cases ea : a = l
    · rw [ea, upd_same] at e ⊢
      exact e
    · rw [upd_ne ea] at e ⊢
      exact k a o (upd_tr a h) e
  · obtain ⟨⟨e, u, ju⟩, _⟩ := h
    have z := st _ (C' vs') (hb _ ju)
    rw [upd_upd e] at z
    exact z
  · refine ⟨hp.np, hp.ne, fun H' h => ?_, fun Ha Hb h k o => ?_⟩
    · obtain ⟨⟨e, u, ju⟩, _⟩ := h
      obtain ⟨a, c, n, z, e1, e2, h0⟩ := hp.ok _ ju
      rw [upd_ne hpl] at e1
      rw [upd_ne hsl] at e2
      exact ⟨a, c, n, z, e1, e2, h0⟩
    · obtain ⟨⟨e, u, ju⟩, b⟩ := h
      refine ⟨⟨k l _ hpl.symm e, u, hp.st _ _ ju (fun a w na ea => ?_) ?_⟩, Ext.but2 hp.np _ _ b k o⟩
      · by_cases eal : a = l
        · rw [eal, upd_same] at ea ⊢
          exact ea
        · rw [upd_ne eal] at ea ⊢
          exact k a w na ea
      · obtain ⟨a, c, n, z, e1, e2, h0⟩ := o
        exact ⟨a, c, n, z, by rw [upd_ne hpl]; exact e1, by rw [upd_ne hsl]; exact e2, h0⟩
  · obtain ⟨vs2, H2, r2, n2, k2⟩ := L2'.ex
    refine ⟨L2'.np, vs2, H2, r2, n2, fun H' h => ?_⟩
    obtain ⟨⟨e, u, ju⟩, _⟩ := h
    obtain ⟨e2, b2⟩ := k2 _ ju
    rw [upd_ne hne] at e2
    exact ⟨e2, b2.unupd L.np (by rw [e]; exact fun z => nomatch z)⟩
theorem Nw.same {H0 : Hp} (N : Nw K φ J J' l) (hb : ∀ H', J H' → Same H0 H') : Stab l (Same H0) := fun H' o s => by
  obtain ⟨Hc, jc, e⟩ := N.hc
  exact Same.upd_live s ((hb Hc jc).free e)
theorem stab_pool {p s : Addr} {ns : List Int} (h1 : p ≠ l) (h2 : s ≠ l) : Stab l (PoolOk p s ns) := fun H' o j => by
  obtain ⟨a, c, n, z, e1, e2, h0⟩ := j
  exact ⟨a, c, n, z, by rw [upd_ne h1]; exact e1, by rw [upd_ne h2]; exact e2, h0⟩
/-- x = a new object -/
theorem st_newS {k : Nat} {P : List D → (List V → HO) → Prop} (A : At K φ J ρ σ H) (h : EvNO K φ J te ρ P) (kk : ∀ l ds C J' σ' H', P ds C → Nw K φ J J' l → LivS K (wo φ l) J' l C ds → At K (wo φ l) J' (ρ.set k (some (.raw (.ref l)))) σ' H' → D0.nx σ' H') : tAsg te (gName k) D0 σ H :=
  h σ H A _ fun p vs ds C H0 H' b0 A0 hp b A' pd nt e r => by
    have hpH : H p = none := by
      cases z : H p with
      | none => rfl
      | some u => exact absurd hp (b0.tr p (by rw [z]; exact fun w => by cases w))
    have u : Up φ (wo φ p) H H' := fun a o q e2 => ⟨⟨q, ne_of_none e2 hpH⟩, (b0.trans b).keep a o q e2⟩
    have pne : ∀ s ps ns, Pooled φ J s ps ns → s ≠ p ∧ ps ≠ p := fun s ps ns q => by
      obtain ⟨_, _, _, _, h1, h2, _⟩ := q.ok _ A0.j
      exact ⟨ne_of_none h1 hp, ne_of_none h2 hp⟩
    have hpn : H' p ≠ none := by rw [e]; exact fun z => nomatch z
    have A2 : At K (wo φ p) (fun H => (J H ∧ H p = some (C vs)) ∧ But (wo φ p) H' H) ρ σ H' :=
      ⟨A.sr.up u, A'.fr.at e nt, ⟨⟨A'.j, e⟩, But.refl _ _⟩, (A'.mono.and (Mo.at hpn)).and (Mo.but fun _ h => h)⟩
    refine kk p ds C _ _ H' pd ⟨A0.fr p hp, ⟨fun _ h => h.1.1, fun s ps ns q => ⟨fun z => q.np z.1, q.ne, fun H h => q.ok H h.1.1, fun Ha Hb h k o => ⟨⟨q.st _ _ h.1.1 k o, k _ _ (pne s ps ns q).1.symm h.1.2⟩, Ext.but2 (fun z => q.np z.1) _ _ h.2 k o⟩⟩, fun a p' h => ⟨p', fun e' => h H0 A0.j (by rw [e']; exact hp)⟩⟩, pne, fun l2 C2 ds2 L2' => ?_, Stab.of A0.mono hp, H0, A0.j, hp⟩ ⟨fun z => z.2 rfl, vs, H', r, hpn, fun H h => ⟨h.1.2, h.2⟩⟩ (A2.set k rfl)
    obtain ⟨vs2, H2, r2, n2, k2⟩ := L2'.ex
    obtain ⟨e0, b2⟩ := k2 _ A0.j
    have ne : l2 ≠ p := ne_of_none e0 hp
    refine ⟨ne, fun z => L2'.np z.1, vs2, H', ?_, (by rw [(k2 _ A'.j).1]; exact fun z => nomatch z), fun H h => ⟨(k2 _ h.1.1).1, h.2⟩⟩
    have r3 : Reps K φ H0 ds2 vs2 := r2.mono b2
    exact Reps.up (fun a o q e2 => ⟨⟨q, ne_of_none e2 hp⟩, b.keep a o q e2⟩) ds2 vs2 r3
theorem en_ofN {P : List D → Prop} (h : EvN K φ J te ρ P) : EvNO K φ J te ρ (fun ds C => P ds ∧ C = HO.lst) := fun σ H A Q q => h σ H A Q fun p vs ds H0 H' b0 A0 hp b A' pd e r => q p vs ds HO.lst H0 H' b0 A0 hp b A' ⟨pd, rfl⟩ (fun xs h => nomatch h) e r
/-- .append -/
theorem st_appS {k : Nat} (A : At K φ J ρ σ H) (L : LivS K φ J l HO.lst ds) (hk : ρ[k]? = some (some (.raw (.ref l)))) (he : EvP K φ J te ρ P) (hz : ds.length ≤ 1000000)
    (kk : ∀ d J' H', P d → Wr K φ J J' l → LivS K φ J' l HO.lst (ds ++ [d]) → At K φ J' ρ σ H' → D0.nx σ H') : tDrop (tBM K "list" rAppend (tVar k) (tCons te tNil)) D0 σ H := by
  obtain ⟨vs, H0, r, n, k0⟩ := L.ex
  refine st_app (vs := vs) A hk (fun H h => (k0 H h).1) he (by rw [r.length]; exact hz) fun v d H' pd rv b A' => ?_
  obtain ⟨A2, L2', W⟩ := L.write (C' := HO.lst) A' ((r.mono (k0 _ A'.j).2).append (Reps.cons rv Reps.nil))
  exact kk d _ _ pd W L2' A2
/-- xs[i] = e -/
theorem st_setLS {k n : Nat} {i : Int} (A : At K φ J ρ σ H) (L : LivS K φ J l HO.lst ds) (he : EvP K φ J te ρ P) (hk : ρ[k]? = some (some (.raw (.ref l)))) (hi : EvD K φ J tb ρ (.int i)) (hj : ixN ds.length i = some n)
    (kk : ∀ d J' H', P d → Wr K φ J J' l → LivS K φ J' l HO.lst (ds.set n d) → At K φ J' ρ σ H' → D0.nx σ H') : tAsg te (gSub (tVar k) tb rSetL) D0 σ H := by
  obtain ⟨vs, H0, r, n, k0⟩ := L.ex
  refine st_setL (vs := vs) A he hk hi (fun H h => (k0 H h).1) (by rw [r.length]; exact hj) fun v d H' pd rv b A' => ?_
  obtain ⟨A2, L2', W⟩ := L.write (C' := HO.lst) A' ((r.mono (k0 _ A'.j).2).set _ rv)
  exact kk d _ _ pd W L2' A2
theorem reps_erase : ∀ {ds : List D} {vs : List V} (n : Nat), Reps K φ H ds vs → Reps K φ H (ds.eraseIdx n) (vs.eraseIdx n)
  | [], vs, n, h => by
    cases (show vs = [] from h)
    exact Reps.nil
  | x :: ds, vs, n, h => by
    obtain ⟨u, r', rfl, g1, g2⟩ := (show ∃ v r, vs = v :: r ∧ Rep K φ H x v ∧ Reps K φ H ds r from h)
    cases n with
    | zero => exact g2
    | succ n => exact Reps.cons g1 (reps_erase n g2)
/-- x = xs.pop(i) -/
theorem st_popS {j k n : Nat} {i : Int} (A : At K φ J ρ σ H) (L : LivS K φ J l HO.lst ds) (hk : ρ[k]? = some (some (.raw (.ref l)))) (hn : seqIndex? i ds.length = some n) (hd : ds[n]? = some d) (h1 : -(2 ^ 63) ≤ i) (h2 : i < 2 ^ 63)
    (kk : ∀ J' σ' H', Wr K φ J J' l → LivS K φ J' l HO.lst (ds.eraseIdx n) → At K φ J' (ρ.set j (some d)) σ' H' → D0.nx σ' H') : tAsg (tBM K "list" rPopAt (tVar k) (tCons (tC (.int i)) tNil)) (gName j) D0 σ H := by
  obtain ⟨vs, H0, r, m, k0⟩ := L.ex
  obtain ⟨w, e, rw'⟩ := A.sr.2 k _ hk
  cases (show w = _ from rw')
  have r1 := r.mono (k0 _ A.j).2
  obtain ⟨v, hv, rv⟩ := r1.get hd
  refine ⟨_, e, .inl ⟨rfl, _, SqL.of (k0 _ A.j).1⟩, l, vs, i, n, v, rfl, rfl, (k0 _ A.j).1, h1, h2, by rw [r.length]; exact hn, hv, ?_⟩
  obtain ⟨A2, L2', W⟩ := L.write (C' := HO.lst) (vs' := vs.eraseIdx n) A (reps_erase n r1)
  exact kk _ _ _ W L2' (A2.set j (rv.mono ((But.refl φ H).upd L.np)))
theorem ev_lenS' (L : LivS K φ J l HO.lst ds) (hk : EvD K φ J te ρ (.raw (.ref l))) : EvD K φ J (tCB (rLen K) (tCons te tNil)) ρ (.int ds.length) := by
  obtain ⟨vs, H0, r, m, k0⟩ := L.ex
  rw [← r.length]
  exact ev_lenLive hk fun H h => (k0 H h).1
theorem ev_ixS {i : Int} (L : LivS K φ J l HO.lst ds) (hk : EvD K φ J te ρ (.raw (.ref l))) (hb : EvD K φ J tb ρ (.int i)) (e : L2.atI ds i = some d) : EvD K φ J (tOp (rIxL K) te tb) ρ d := by
  obtain ⟨vs, H0, r, m, k0⟩ := L.ex
  refine ev_ixLive hk hb fun H h => ⟨vs, (k0 H h).1, ?_⟩
  unfold L2.atI at e ⊢
  rw [r.length]
  cases hx : L2.ixN ds.length i with
  | none => rw [hx] at e; cases e
  | some n =>
    rw [hx] at e
    obtain ⟨v, hv, rv⟩ := r.get (i := n) e
    exact ⟨v, hv, rv.mono (k0 H h).2⟩
theorem ev_inS_ {i : Int} {ns : List Int} (L : LivS K φ J l HO.lst (ns.map D.int)) (ha : EvD K φ J te ρ (.int i)) (hb : EvD K φ J tb ρ (.raw (.ref l))) : EvD K φ J (tOp (rIn K false) te tb) ρ (.bl (decide (i ∈ ns))) := fun σ H A Q q =>
  ha σ H A _ fun v x H1 b1 A1 e1 r1 => hb σ H1 A1 _ fun w y H2 b2 A2 e2 r2 => by
    subst e1 e2
    cases (show v = _ from r1)
    cases (show w = _ from r2)
    obtain ⟨vs, H0, r, m, k0⟩ := L.ex
    have ev := r.ints
    subst ev
    exact ⟨l, _, rfl, .inl (SqL.of (k0 _ A2.j).1), rfl, flat_ints, q _ _ H2 (b1.trans b2) A2 rfl (by rw [if_neg (by simp), inV_ints]; rfl)⟩
theorem ev_notInS_ {i : Int} {ns : List Int} (L : LivS K φ J l HO.lst (ns.map D.int)) (ha : EvD K φ J te ρ (.int i)) (hb : EvD K φ J tb ρ (.raw (.ref l))) : EvD K φ J (tOp (rIn K true) te tb) ρ (.bl (!decide (i ∈ ns))) := fun σ H A Q q =>
  ha σ H A _ fun v x H1 b1 A1 e1 r1 => hb σ H1 A1 _ fun w y H2 b2 A2 e2 r2 => by
    subst e1 e2
    cases (show v = _ from r1)
    cases (show w = _ from r2)
    obtain ⟨vs, H0, r, m, k0⟩ := L.ex
    have ev := r.ints
    subst ev
    exact ⟨l, _, rfl, .inl (SqL.of (k0 _ A2.j).1), rfl, flat_ints, q _ _ H2 (b1.trans b2) A2 rfl (by rw [if_pos rfl, inV_ints]; rfl)⟩
/-- xs != [] -/
theorem ev_neNilS {n : Nat} (L : LivS K φ J l HO.lst ds) (hq : okq 64 (.lst ds) = true) (ha : EvD K φ J te ρ (.raw (.ref l))) : EvD K φ J (tOp (rNeD K) te (tLst tNil)) ρ (.bl (!ds.isEmpty)) := fun σ H A Q q =>
  ha σ H A _ fun v x H1 b1 A1 e1 r1 => (show EvD K φ J (tLst tNil) ρ (.lst []) from ev_lst ea_nil) σ H1 A1 _ fun w y H2 b2 A2 e2 r2 => by
    subst e1 e2
    cases (show v = _ from r1)
    obtain ⟨vs, H0, r, m, k0⟩ := L.ex
    obtain ⟨el, b0⟩ := k0 _ A2.j
    have dp : Dp K H2 (.ref l) (toPy (.lst ds)) := .lst (SqL.of el) (dps_of ds vs 63 hq (r.mono b0))
    exact ⟨_, _, dp, dp_of (.lst []) w 64 rfl r2, okq_shaped hq (Nat.le_refl _), okq_shaped (d := .lst []) rfl (Nat.le_refl 64), q _ (.bl (!eqvD (.lst ds) (.lst []))) H2 (b1.trans b2) A2 (by rw [eqvD_nil]) rfl⟩
/-- the list is left as it is from here on -/
theorem LivS.freeze (L : LivS K (wo φ l) J l HO.lst ds) (hl : φ l) {k : Nat} (A : At K (wo φ l) J ρ σ H) (hk : ρ[k]? = some (some (.raw (.ref l)))) : At K φ (fun H' => J H' ∧ But φ H H') (ρ.set k (some (.lst ds))) σ H := by
  obtain ⟨vs, H0, r, hn, k0⟩ := L.ex
  obtain ⟨el, b0⟩ := k0 _ A.j
  have up : Up (wo φ l) φ H H := fun a o p e => ⟨p.1, e⟩
  have rr : Rep K φ H (.lst ds) (.ref l) := ⟨l, vs, rfl, .inl ⟨hl, .inl el⟩, Reps.up up ds vs (r.mono b0)⟩
  obtain ⟨w, ew, rw'⟩ := A.sr.2 k _ hk
  cases (show w = _ from rw')
  refine ⟨?_, A.fr.fst, ⟨A.j, But.refl _ _⟩, A.mono.and (Mo.but fun _ h => h)⟩
  have s1 := (A.sr.up up)
  refine ⟨by rw [List.length_set]; exact s1.1, fun i d hd => ?_⟩
  by_cases e : k = i
  · subst e
    have hlt : k < ρ.length := (List.getElem?_eq_some_iff.mp hk).1
    rw [List.getElem?_set_self hlt] at hd
    cases hd
    exact ⟨_, ew, rr⟩
  · rw [List.getElem?_set_ne e] at hd
    exact s1.2 i d hd
/-- others stay live -/
theorem LivS.thaw {l2 : Addr} {C2 : List V → HO} {ds2 : List D} (L : LivS K (wo φ l) J l2 C2 ds2) (ne : l2 ≠ l) (j : J H) : LivS K φ (fun H' => J H' ∧ But φ H H') l2 C2 ds2 := by
  obtain ⟨vs, H0, r, hn, k0⟩ := L.ex
  obtain ⟨el, b0⟩ := k0 _ j
  exact ⟨fun z => L.np ⟨z, ne⟩, vs, H, Reps.up (fun a o p e => ⟨p.1, e⟩) ds2 vs (r.mono b0), (by rw [el]; exact fun z => nomatch z), fun H' h => ⟨(k0 _ h.1).1, h.2⟩⟩
theorem pool_thaw {p s : Addr} {ns : List Int} (hp : Pooled (wo φ l) J p s ns) (ne : p ≠ l) : Pooled φ (fun H' => J H' ∧ But φ H H') p s ns := by
  have np : ¬ φ p := fun z => hp.np ⟨z, ne⟩
  exact ⟨np, hp.ne, fun H' h => hp.ok _ h.1, fun Ha Hb h k o => ⟨hp.st _ _ h.1 k o, Ext.but2 np _ _ h.2 k o⟩⟩
/-! dicts -/
variable {κ : Type} [DecidableEq κ] [DKind κ] {kds : List (κ × D)} {k : κ}
abbrev LivDS (K : PySem.W.Frag) (φ : Addr → Prop) (J : Hp → Prop) (l : Addr) (kds : List (κ × D)) : Prop := LivS K φ J l (fun vs => DKind.ho ((kds.map (·.1)).zip vs)) (kds.map (·.2))
theorem ed_liveS (L : LivDS K φ J l kds) (h : EvD K φ J td ρ (.raw (.ref l))) : EvDict K φ J td ρ kds := fun σ H A Q q => h σ H A _ fun v d H' b A' e r => by
  subst e
  cases (show v = _ from r)
  obtain ⟨vs, H0, rs, m, k0⟩ := L.ex
  exact q l H' b A' fun H'' b' j => ⟨vs, (k0 _ j).1, rs.mono (k0 _ j).2⟩
/-- d[y] = v -/
theorem st_dputS {i : Nat} (A : At K φ J ρ σ H) (L : LivDS K φ J l kds) (hv : EvP K φ J tv ρ P) (hk : ρ[i]? = some (some (.raw (.ref l)))) (hy : EvD K φ J ty ρ (DKind.kd k)) (hz : kds.length ≤ 1000000)
    (kk : ∀ d J' H', P d → Wr K φ J J' l → LivDS K φ J' l (putD kds k d) → At K φ J' ρ σ H' → D0.nx σ H') : sDPut (tVar i) ty tv D0 σ H := by
  obtain ⟨vs, H0, r, m, k0⟩ := L.ex
  refine hv σ H A _ fun v d H1 b1 A1 pd r1 => ev_var hk σ H1 A1 _ fun w d2 H2 b2 A2 e2 r2 => hy σ H2 A2 _ fun y d3 H3 b3 A3 e3 r3 => ?_
  subst e2 e3
  cases (show w = _ from r2)
  obtain ⟨el, b0⟩ := k0 _ A3.j
  obtain ⟨vs', ep, rp⟩ := zip_put (k := k) ((r1.mono b2).mono b3) (r.mono b0)
  have hlen : ((kds.map (·.1)).zip vs).length < sizeLine := szlt (by
    rw [List.length_zip, List.length_map]
    omega)
  refine ⟨l, _, rfl, DKind.put r3 el hlen, ?_⟩
  rw [ep]
  obtain ⟨A4, L4, W⟩ := L.write (C' := fun vs => DKind.ho (((putD kds k d).map (·.1)).zip vs)) A3 rp (fun xs => DKind.nt _ xs)
  exact kk d _ _ pd W L4 A4
theorem LivS.freezeD (L : LivDS K (wo φ l) J l kds) (hl : φ l) {i : Nat} (A : At K (wo φ l) J ρ σ H) (hk : ρ[i]? = some (some (.raw (.ref l)))) : At K φ (fun H' => J H' ∧ But φ H H') (ρ.set i (some (dictD kds))) σ H := by
  obtain ⟨vs, H0, r, hn, k0⟩ := L.ex
  obtain ⟨el, b0⟩ := k0 _ A.j
  have up : Up (wo φ l) φ H H := fun a o p e => ⟨p.1, e⟩
  have rr : Rep K φ H (dictD kds) (.ref l) := DKind.rep.mpr ⟨l, vs, rfl, ⟨hl, el, by rw [List.length_map, List.length_map]⟩, Reps.up up _ vs (r.mono b0)⟩
  obtain ⟨w, ew, rw'⟩ := A.sr.2 i _ hk
  cases (show w = _ from rw')
  refine ⟨?_, A.fr.fst, ⟨A.j, But.refl _ _⟩, A.mono.and (Mo.but fun _ h => h)⟩
  have s1 := (A.sr.up up)
  refine ⟨by rw [List.length_set]; exact s1.1, fun j d hd => ?_⟩
  by_cases e : i = j
  · subst e
    have hlt : i < ρ.length := (List.getElem?_eq_some_iff.mp hk).1
    rw [List.getElem?_set_self hlt] at hd
    cases hd
    exact ⟨_, ew, rr⟩
  · rw [List.getElem?_set_ne e] at hd
    exact s1.2 j d hd
end

/-! ### defs whose result is told by a property -/
def SpR (K : PySem.W.Frag) (n : Nat) (Pre : List D → Prop) (R : List D → D → Prop) : Sp := fun vs H Q _ => ∃ φ ds, ds.length = n ∧ Reps K φ H ds vs ∧ Frm φ H ∧ Pre ds ∧ ∀ d v H', R ds d → Same H H' → Rep K φ H' d v → Q v H'
section
variable {K : PySem.W.Frag} {φ : Addr → Prop} {J : Hp → Prop} {ρ : List (Option D)} {ds : List D}
theorem ev_callR {n : Nat} {Pre : List D → Prop} {R : List D → D → Prop} {E : XK} {ta : TA} (ha : EvAD K φ J ta ρ ds) (hp : Pre ds) (hl : ds.length = n := by rfl) : EvP K φ J (tCall (SpR K n Pre R) [] E ta) ρ (R ds) := fun σ H A Q q =>
  ha σ H A _ fun vs ds' H1 b1 A1 e r1 => by
    subst e
    exact ⟨φ, _, hl, by rw [List.append_nil]; exact r1, A1.fr, hp, fun d v H' rd s r => q v d H' (b1.trans (But.of s)) (A1.same s) rd r⟩
variable {PP : Program} {w : World} {mg : Str → Option Value} {base : Heap}
theorem fn_okR {x qual : Str} {st : Stmt} {f : Addr} {fd : FuncData} {N ps : List Str} {k n : Nat} {Pre : List D → Prop} {R : List D → D → Prop} (F : Fun K x qual st f fd) (S : FnScope N ps (defScope st)) (hn : ps.length = n) (m : Nat) (hm : N.length = n + m)
    (hbody : ∀ (cdv : Value) (A : Around) (outer : List Env) (s : Shared) (H : Hp) (E : XK), Room k (A.deeper (envOfC qual (defScope st) s.heap.objs.size f cdv)) →
      ∃ t, PSs (cxOf CX0 PP w K mg base N qual (defScope st) f cdv A outer s H E).nox (defBody st) t ∧
        ∀ (φ : Addr → Prop) (ds : List D) (H : Hp) (D0 : Ends) (σ : L2.St), ds.length = n → Pre ds → (∀ d v H', R ds d → Same H H' → Rep K φ H' d v → D0.rt v H') → At K φ (Same H) (ds.map some ++ List.replicate m none) σ H → t D0 σ H) :
    FnOk PP w K mg base CX0 (k + 1) f fd ps (SpR K n Pre R) := by
  refine F.ok S (fun vs H Q E h => ?_) (fun cdv A outer s H vs Q E hr h => ?_)
  · obtain ⟨φ, ds, hl, r, _⟩ := h
    rw [r.length, hl, hn]
  · obtain ⟨φ, ds, hl, r, fr, hp, q⟩ := h
    obtain ⟨t, ht, run⟩ := hbody cdv A outer s H E hr
    refine ⟨t, ht, run φ ds H _ _ hl hp (fun d v H' rd s r => q d v H' rd s r) ⟨?_, fr, Same.refl H, Mo.sames fun _ h => h⟩⟩
    have e : N.length - vs.length = m := by rw [hm, r.length, hl]; omega
    unfold L2.start
    rw [e]
    exact SR.start r
end

-- import HandS.SortRule
-- import HandS.DictTup
/-! ### sorted(d) of dicts with pairs of ints as keys -/
def prK (p : Int × Int) : List Key := [Sum.inl p.1, Sum.inl p.2]
theorem prK_inj {p q : Int × Int} (h : prK p = prK q) : p = q := by
  have h1 := (List.cons.inj h).1
  have h2 := (List.cons.inj (List.cons.inj h).2).1
  injection h1 with h1
  injection h2 with h2
  exact Prod.ext h1 h2
def prDD (p : Int × Int) : D := .tup [.int p.1, .int p.2]
theorem prDD_kd (p : Int × Int) : DKind.kd (prK p) = prDD p := rfl
/-- sorted, by pairs -/
def LexS (ps : List (Int × Int)) : Prop := ps.Pairwise fun a b => SrtO.lexB b a = false
def rSortT : List V → Hp → VK → Prop := fun vs H Q => ∃ (a : Addr) (kvs : List (List Key × V)) (ks : List (Int × Int)), vs = [.ref a] ∧ H a = some (.dT kvs) ∧ kvs.map (·.1) = ks.map prK ∧
  ∀ (out : List (Addr × Int × Int)) (p : Addr), (out.map (·.2)).Perm ks → LexS (out.map (·.2)) → (∀ z ∈ out, H z.1 = some (.tup [.int z.2.1, .int z.2.2])) → H p = none → Q (.ref p) (upd H p (.lst (out.map fun z => V.ref z.1)))
section
variable {X : Cx}
/-- the pair that a reference is, by H -/
def prOf (H : Hp) (v : Value) : Int × Int := match v with
  | .ref b => match H b with
    | some (.tup [.int i, .int j]) => (i, j)
    | _ => (0, 0)
  | _ => (0, 0)
theorem prOf_at {H : Hp} {b : Addr} {p : Int × Int} (h : H b = some (.tup [.int p.1, .int p.2])) : prOf H (.ref b) = p := by
  unfold prOf
  simp only [h]
def adOf : Value → Addr
  | .ref b => b
  | _ => 0
theorem cr_sortT (hcalm : X.calm = true) : CallR X (.builtin "sorted") rSortT := by
  intro pins s σ H vs us Q I r h
  obtain ⟨a, kvs, ks, rfl, hd, hks, q⟩ := h
  obtain rfl := Vals.ref1 r
  obtain ⟨z, lo, xs', rel, o, es, ep, ho, hx, hdat, hes, his, hn⟩ := dt_of I.hok hd
  have l1 : kvs.length = xs'.length := Paired.length rel
  have l2 : es.size = xs'.length := size_of_entries hes
  have lk : kvs.length = ks.length := by
    have e := congrArg List.length hks
    rw [List.length_map, List.length_map] at e
    exact e
  have hz : es.size ≤ sizeLine := by rw [l2, ← l1]; exact z
  have hr : s.heap.DictRaw a es ep := ⟨o, ho, hx, hdat⟩
  have at_ : ∀ (j : Nat) (v : Value), (es.toList.map (·.key))[j]? = some v → ∃ b p, v = .ref b ∧ ks[j]? = some p ∧ H b = some (.tup [.int p.1, .int p.2]) := by
    intro j v hv
    rw [List.getElem?_map, Array.getElem?_toList, entry_at hes j, Option.map_map] at hv
    obtain ⟨x, hxj, e⟩ := Option.map_eq_some_iff.mp hv
    obtain ⟨e0, he0, r1, r2, r3⟩ := L2.DX.pget rel hxj
    have e1 : (kvs.map (·.1))[j]? = some e0.1 := by rw [List.getElem?_map, he0]; rfl
    rw [hks, List.getElem?_map] at e1
    obtain ⟨p, hp, ep1⟩ := Option.map_eq_some_iff.mp e1
    refine ⟨x.2.1, p, e.symm, hp, ?_⟩
    rw [r2, ← ep1]
    rfl
  have hkeys : (es.toList.map (·.key)).map (prOf H) = ks := by
    refine List.ext_getElem? fun j => ?_
    rw [List.getElem?_map]
    cases e : (es.toList.map (·.key))[j]? with
    | none =>
      have h1 := List.getElem?_eq_none_iff.mp e
      rw [List.length_map, Array.length_toList, l2, ← l1, lk] at h1
      rw [List.getElem?_eq_none h1]
      rfl
    | some v =>
      obtain ⟨b, p, rfl, hp, hb⟩ := at_ j v e
      rw [hp]
      show some (prOf H (.ref b)) = some p
      rw [prOf_at hb]
  have mem_ : ∀ v ∈ es.toList.map (·.key), v = .ref (adOf v) ∧ H (adOf v) = some (.tup [.int (prOf H v).1, .int (prOf H v).2]) := by
    intro v hv
    obtain ⟨j, hj⟩ := List.mem_iff_getElem?.mp hv
    obtain ⟨b, p, rfl, _, hb⟩ := at_ j v hj
    exact ⟨rfl, by rw [prOf_at hb]; exact hb⟩
  have pairs : ∀ v ∈ es.toList.map (·.key), Srt.IsPair s.heap v (prOf H v).1 (prOf H v).2 := by
    intro v hv
    obtain ⟨e, hb⟩ := mem_ v hv
    obtain ⟨_, its2, r2, o2, ho2, hc, n, hd2⟩ := I.hok _ _ hb
    obtain ⟨u1, u2, rfl, ri, rj⟩ := vals2 r2
    obtain ⟨t1, rfl⟩ := ri
    obtain ⟨t2, rfl⟩ := rj
    exact ⟨_, o2, t1, t2, n, e, ho2, hc, hd2⟩
  refine sorted_raw (b := false) (kw := []) lo (I.ok.hd hcalm) hr hz (fun _ => rfl) (by unfold argsOk; kernel_rfl) (fun _ => PyProof.Rows.args_list_sort _) (SrtO.swo_lex (prOf H)) (fun h2 h₁ tk a' ha' kk => ?_) fun out h1 h' tk a' n hs hb k1 k2 ha' hn' => ?_
  · refine SrtO.pairs_sortableO (by omega) (fun v hv => (pairs v hv).keeps fun b o e _ => (kk b o e).2) fun o e => ?_
    have e' := e.symm.trans ha'
    cases e'
    intro c
    exact absurd (Value.type.inj c) (by decide)
  · have h3 : ∀ v ∈ out, v = .ref (adOf v) ∧ H (adOf v) = some (.tup [.int (prOf H v).1, .int (prOf H v).2]) := fun v hv => mem_ v (hb.perm.mem_iff.mp hv)
    have I1 : Inv X pins σ H { s with heap := h1, toks := tk } := I.kept k1
    have hv : Vals (out.map fun v => V.ref (adOf v)) out := by
      clear hs hb hn'
      induction out with
      | nil => exact .nil
      | cons v out ih =>
        refine .cons (show v = .ref (adOf v) from (h3 v List.mem_cons_self).1) (ih fun u hu => h3 u (List.mem_cons_of_mem _ hu))
    have el : (out.map fun v => V.ref (adOf v)) = (out.map fun v => (adOf v, prOf H v)).map fun z => V.ref z.1 := by rw [List.map_map]; rfl
    have e2 : (out.map fun v => (adOf v, prOf H v)).map (·.2) = out.map (prOf H) := by rw [List.map_map]; rfl
    refine ⟨.ref a', upd H a' (.lst ((out.map fun v => (adOf v, prOf H v)).map fun z => V.ref z.1)), I1.laid (t' := tk) k2 ha' ⟨?_, out, n, el ▸ hv, hn'⟩, rfl, q _ a' ?_ ?_ ?_ (I1.hok.fresh ha')⟩
    · rw [List.length_map, List.length_map, hb.len]
      show (es.toList.map (·.key)).length ≤ _
      rw [List.length_map, Array.length_toList]
      exact hz
    · rw [e2, ← hkeys]
      exact hb.perm.map _
    · rw [e2]
      exact List.pairwise_map.mpr hs
    · intro z hz
      obtain ⟨v, hv, rfl⟩ := List.mem_map.mp hz
      exact (h3 v hv).2
end
section
variable {K : PySem.W.Frag} {φ : Addr → Prop} {J : Hp → Prop} {ρ : List (Option D)} {td : TE}
theorem reps_prs {H : Hp} (F : Frm φ H) : ∀ {out : List (Addr × Int × Int)}, (∀ z ∈ out, H z.1 = some (.tup [.int z.2.1, .int z.2.2])) → Reps K φ H ((out.map (·.2)).map prDD) (out.map fun z => V.ref z.1)
  | [], _ => Reps.nil
  | z :: out, h => Reps.cons ⟨z.1, _, rfl, .inl ⟨F.tup _ _ (h z List.mem_cons_self), .inl (h z List.mem_cons_self)⟩, Reps.cons rfl (Reps.cons rfl Reps.nil)⟩ (reps_prs F fun u hu => h u (List.mem_cons_of_mem _ hu))
/-- sorted(d): the pairs in order -/
theorem ev_sortT {kds : List (List Key × D)} {ks : List (Int × Int)} (hd : EvDict K φ J td ρ kds) (hks : kds.map (·.1) = ks.map prK) : EvP K φ J (tCB rSortT (tCons td tNil)) ρ (fun z => ∃ ps : List (Int × Int), z = .lst (ps.map prDD) ∧ ps.Perm ks ∧ LexS ps) := fun σ H A Q q =>
  hd σ H A _ fun a H1 b1 A1 per => by
    obtain ⟨vs, ea, rs⟩ := per H1 (But.refl _ _) A1.j
    have hl := rs.length
    rw [List.length_map] at hl
    refine ⟨a, _, ks, rfl, ea, ?_, fun out p hp hs ht hn => ?_⟩
    · rw [← hks]
      have e : (kds.map (·.1)).length = vs.length := by rw [List.length_map, hl]
      exact List.map_fst_zip (by omega)
    · refine q _ (.lst ((out.map (·.2)).map prDD)) _ (b1.trans (But.of (same_new hn))) (A1.same (same_new hn)) ⟨_, rfl, hp, hs⟩ ⟨p, _, rfl, .inl ⟨A1.fr.new p hn, .inl upd_same⟩, (reps_prs A1.fr ht).mono (But.of (same_new hn))⟩
end

-- import HandS.TupLe
-- import HandS.Conv
-- import KE.SortData
-- import KE.DataMinMax
-- import KE.DatumOrd
/-! ### t >= u, list + list, list * int, list(range(..)), min and max of tuples, sorted of data -/
theorem _root_.L2.Room.units66 {k : Nat} {A : Around} (r : Room k A) : A.units + 66 < cLine := by have := r.un; omega
def rGeT (K : PySem.W.Frag) : R2 := fun x y H Q => ∃ (a b : Addr) (ns ms : List Int), x = .ref a ∧ y = .ref b ∧ SqT K H a (ns.map V.int) ∧ SqT K H b (ms.map V.int) ∧
  Q (.bl (Ob.lexAt (fun j => decide (ns.getD j 0 = ms.getD j 0)) (fun j => decide (ms.getD j 0 ≤ ns.getD j 0)) (decide (ns.length ≥ ms.length)) 0 (min ns.length ms.length))) H
theorem op_geT {X : Cx} (hu : X.A.units < cLine) : OpR X (compareOp .GtE) (rGeT X.K) := by
  intro pins s σ H x y v u Q I rx ry h
  obtain ⟨a, b, ns, ms, rfl, rfl, ha, hb, q⟩ := h
  cases rx
  cases ry
  obtain ⟨its, r1, p1, _⟩ := I.tuple ha
  obtain ⟨its2, r2, p2, _⟩ := I.tuple hb
  have i1 : PyProof.Rows.IntsAre its ns := Vals.ints r1
  have i2 : PyProof.Rows.IntsAre its2 ms := Vals.ints r2
  have e1 : its.toArray.size = ns.length := by rw [List.size_toArray]; exact i1.length
  have e2 : its2.toArray.size = ms.length := by rw [List.size_toArray]; exact i2.length
  have at1 : ∀ j (h1 : j < its.toArray.size), ∃ t, its.toArray[j] = .int (ns.getD j 0) t := fun j h1 => PyProof.Rows.IntsAre.int_at i1 _ _ (by simp at h1; simp [h1])
  have at2 : ∀ j (h1 : j < its2.toArray.size), ∃ t, its2.toArray[j] = .int (ms.getD j 0) t := fun j h1 => PyProof.Rows.IntsAre.int_at i2 _ _ (by simp at h1; simp [h1])
  have R := Ob.RcOp.tuples_ge (A := X.A) (s := s) (e := fun j => decide (ns.getD j 0 = ms.getD j 0)) (r := fun j => decide (ms.getD j 0 ≤ ns.getD j 0)) p1 p2 hu (fun j h1 h2 => by
    obtain ⟨t, et⟩ := at1 j h1
    obtain ⟨t', et'⟩ := at2 j h2
    rw [et, et']
    have z : (ns.getD j 0 == ms.getD j 0) = decide (ns.getD j 0 = ms.getD j 0) := by
      by_cases q : ns.getD j 0 = ms.getD j 0
      · rw [decide_eq_true q]; exact beq_iff_eq.mpr q
      · rw [decide_eq_false q]; exact beq_eq_false_iff_ne.mpr q
    rw [← z]
    exact SeqAt.EqAt.int_int _ _ _ _) (fun j h1 h2 _ => by
    obtain ⟨t, et⟩ := at1 j h1
    obtain ⟨t', et'⟩ := at2 j h2
    rw [et, et']
    exact Ob.RcOp.ge_int _ _ _ _)
  rw [e1, e2] at R
  exact R _ _ _ _ ⟨.bl _, H, I, rfl, q⟩
theorem kop_geT {X : Cx} {K : PySem.W.Frag} (h : X.K = K) (hu : X.A.units < cLine) : OpR X (compareOp .GtE) (rGeT K) := h ▸ op_geT hu
def rCatL (K : PySem.W.Frag) : R2 := fun x y H Q => ∃ l b xs zs, x = .ref l ∧ y = .ref b ∧ SqL K H l xs ∧ SqL K H b zs ∧ xs.length + zs.length ≤ sizeLine ∧ ∀ p, H p = none → Q (.ref p) (upd H p (.lst (xs ++ zs)))
theorem op_catL {X : Cx} : OpR X (binaryOp .Add) (rCatL X.K) := by
  intro pins s σ H x y v u Q I rx ry h
  obtain ⟨l, b, xs, zs, rfl, rfl, hH, hB, hz, q⟩ := h
  cases rx
  cases ry
  obtain ⟨its, r, p, hl⟩ := I.list hH
  obtain ⟨its2, r2, p2, hl2⟩ := I.list hB
  have e0 := r.length
  have e02 := r2.length
  obtain ⟨⟨cls, dd, data, sl⟩, ho, hc, n, hd⟩ := p.isList
  obtain ⟨⟨cls2, dd2, data2, sl2⟩, ho2, hc2, n2, hd2⟩ := p2.isList
  simp only at hc hd hc2 hd2
  subst hc hd hc2 hd2
  have ea : its.toArray ++ its2.toArray = (its ++ its2).toArray := by simp
  refine concat_meets ⟨_, ho, rfl⟩ ⟨_, ho2, rfl⟩ noFill_list_add seq_list_add PySem.F.slot_list_add PySem.F.entry_list_add (PySem.F.args_list_add_2 _ _) (list_addW l b its.toArray its2.toArray n n2 dd dd2 sl sl2 (by rw [List.size_toArray, List.size_toArray]; omega)) ⟨ho, ho2, ?_⟩
  rw [ea]
  exact ⟨.ref _, _, I.lnew (t' := s.toks) (r.append r2) (by rw [List.length_append]; omega), rfl, q _ I.fresh⟩
theorem kop_catL {X : Cx} {K : PySem.W.Frag} (h : X.K = K) : OpR X (binaryOp .Add) (rCatL K) := h ▸ op_catL
/-- min, max of a tuple of ints -/
def rMinT (K : PySem.W.Frag) : List V → Hp → VK → Prop := fun vs H Q => ∃ (a : Addr) (ns : List Int), vs = [V.ref a] ∧ SqT K H a (ns.map V.int) ∧ 0 < ns.length ∧ ∀ m, m ∈ ns → (∀ y, y ∈ ns → m ≤ y) → Q (.int m) H
def rMaxT (K : PySem.W.Frag) : List V → Hp → VK → Prop := fun vs H Q => ∃ (a : Addr) (ns : List Int), vs = [V.ref a] ∧ SqT K H a (ns.map V.int) ∧ 0 < ns.length ∧ ∀ m, m ∈ ns → (∀ y, y ∈ ns → y ≤ m) → Q (.int m) H
theorem minOf_int (x : Int) : ∀ xs : List Int, PySem.W.minOf x xs ∈ x :: xs ∧ ∀ y ∈ x :: xs, PySem.W.minOf x xs ≤ y := by
  intro xs
  unfold PySem.W.minOf
  induction xs generalizing x with
  | nil => exact ⟨List.mem_cons_self, fun y hy => by rw [List.mem_singleton.mp hy]; exact Int.le_refl _⟩
  | cons z xs ih =>
    rw [List.foldl_cons]
    show (List.foldl _ (if decide (z < x) = true then z else x) xs) ∈ _ ∧ ∀ y ∈ _, List.foldl _ (if decide (z < x) = true then z else x) xs ≤ y
    by_cases h : z < x
    · rw [if_pos (decide_eq_true h)]
      obtain ⟨h1, h2⟩ := ih z
      refine ⟨List.mem_cons_of_mem _ h1, fun y hy => ?_⟩
      rcases List.mem_cons.mp hy with rfl | hy
      · have := h2 z List.mem_cons_self
        omega
      · exact h2 y hy
    · rw [if_neg (by simp [h])]
      obtain ⟨h1, h2⟩ := ih x
      refine ⟨?_, fun y hy => ?_⟩
      · rcases List.mem_cons.mp h1 with e | e
        · rw [e]; exact List.mem_cons_self
        · exact List.mem_cons_of_mem _ (List.mem_cons_of_mem _ e)
      · rcases List.mem_cons.mp hy with rfl | hy
        · exact h2 y List.mem_cons_self
        · rcases List.mem_cons.mp hy with rfl | hy
          · have := h2 x List.mem_cons_self
            omega
          · exact h2 y (List.mem_cons_of_mem _ hy)
theorem maxOf_int (x : Int) : ∀ xs : List Int, PySem.W.maxOf x xs ∈ x :: xs ∧ ∀ y ∈ x :: xs, y ≤ PySem.W.maxOf x xs := by
  intro xs
  unfold PySem.W.maxOf
  induction xs generalizing x with
  | nil => exact ⟨List.mem_cons_self, fun y hy => by rw [List.mem_singleton.mp hy]; exact Int.le_refl _⟩
  | cons z xs ih =>
    rw [List.foldl_cons]
    show (List.foldl _ (if decide (x < z) = true then z else x) xs) ∈ _ ∧ ∀ y ∈ _, y ≤ List.foldl _ (if decide (x < z) = true then z else x) xs
    by_cases h : x < z
    · rw [if_pos (decide_eq_true h)]
      obtain ⟨h1, h2⟩ := ih z
      refine ⟨List.mem_cons_of_mem _ h1, fun y hy => ?_⟩
      rcases List.mem_cons.mp hy with rfl | hy
      · have := h2 z List.mem_cons_self
        omega
      · exact h2 y hy
    · rw [if_neg (by simp [h])]
      obtain ⟨h1, h2⟩ := ih x
      refine ⟨?_, fun y hy => ?_⟩
      · rcases List.mem_cons.mp h1 with e | e
        · rw [e]; exact List.mem_cons_self
        · exact List.mem_cons_of_mem _ (List.mem_cons_of_mem _ e)
      · rcases List.mem_cons.mp hy with rfl | hy
        · exact h2 y List.mem_cons_self
        · rcases List.mem_cons.mp hy with rfl | hy
          · have := h2 x List.mem_cons_self
            omega
          · exact h2 y (List.mem_cons_of_mem _ hy)
theorem dpAll_ints {K : PySem.W.Frag} {H : Hp} : ∀ ns : List Int, DpAll K H (ns.map V.int) (ns.map PyData.int)
  | [] => .nil
  | n :: ns => .cons (.int n) (dpAll_ints ns)
theorem cr_minT {X : Cx} (hc : X.calm = true) (hu : X.A.units + 1 < cLine) : CallR X (.builtin "min") (rMinT X.K) := by
  intro pins s σ H vs us Q I r h
  obtain ⟨a, ns, rfl, hs, hn, q⟩ := h
  obtain rfl := Vals.ref1 r
  obtain ⟨its, rv, p, hz⟩ := I.tuple hs
  obtain ⟨as, rd⟩ := Dp.readsAll I (ns.map PyData.int) _ its (dpAll_ints ns) rv
  obtain ⟨x, xs, rfl⟩ : ∃ x xs, ns = x :: xs := by cases ns with | nil => cases hn | cons x xs => exact ⟨x, xs, rfl⟩
  refine PySem.W.min_tuple_datum (α := Int) (x := x) (xs := xs) (I.ok.hd hc) p ⟨as, by rw [List.toList_toArray]; exact rd⟩ (by show X.A.units + 1 + 0 < cLine; omega) fun i v h' tk hi ⟨bs, rb⟩ kp => ?_
  have e : ∃ t, v = Value.int (PySem.W.minOf x xs) t := by cases rb; exact ⟨_, rfl⟩
  obtain ⟨t, rfl⟩ := e
  exact ⟨.int _, H, I.kept (t' := tk) kp, ⟨t, rfl⟩, q _ (minOf_int x xs).1 (minOf_int x xs).2⟩
theorem cr_maxT {X : Cx} (hc : X.calm = true) (hu : X.A.units + 1 < cLine) : CallR X (.builtin "max") (rMaxT X.K) := by
  intro pins s σ H vs us Q I r h
  obtain ⟨a, ns, rfl, hs, hn, q⟩ := h
  obtain rfl := Vals.ref1 r
  obtain ⟨its, rv, p, hz⟩ := I.tuple hs
  obtain ⟨as, rd⟩ := Dp.readsAll I (ns.map PyData.int) _ its (dpAll_ints ns) rv
  obtain ⟨x, xs, rfl⟩ : ∃ x xs, ns = x :: xs := by cases ns with | nil => cases hn | cons x xs => exact ⟨x, xs, rfl⟩
  refine PySem.W.max_tuple_datum (α := Int) (x := x) (xs := xs) (I.ok.hd hc) p ⟨as, by rw [List.toList_toArray]; exact rd⟩ (by show X.A.units + 1 + 0 < cLine; omega) fun i v h' tk hi ⟨bs, rb⟩ kp => ?_
  have e : ∃ t, v = Value.int (PySem.W.maxOf x xs) t := by cases rb; exact ⟨_, rfl⟩
  obtain ⟨t, rfl⟩ := e
  exact ⟨.int _, H, I.kept (t' := tk) kp, ⟨t, rfl⟩, q _ (maxOf_int x xs).1 (maxOf_int x xs).2⟩
theorem kcr_minT {X : Cx} {K : PySem.W.Frag} (h : X.K = K) (hc : X.calm = true) (hu : X.A.units + 1 < cLine) : CallR X (.builtin "min") (rMinT K) := h ▸ cr_minT hc hu
theorem kcr_maxT {X : Cx} {K : PySem.W.Frag} (h : X.K = K) (hc : X.calm = true) (hu : X.A.units + 1 < cLine) : CallR X (.builtin "max") (rMaxT K) := h ▸ cr_maxT hc hu
/-- sorted(xs) of data of one kind -/
def rSortQ (K : PySem.W.Frag) : List V → Hp → VK → Prop := fun vs H Q => ∃ (a : Addr) (xs : List V) (ds : List PyData), vs = [V.ref a] ∧ SqL K H a xs ∧ DpAll K H xs ds ∧ PySem.W.AllAlike ds ∧ PySem.W.Sortable ds ∧ (∀ d ∈ ds, d.depth ≤ 64) ∧
  ∀ (zs : List (V × PyData)) (p : Addr), zs.Perm (xs.zip ds) → (zs.map (·.2)).Pairwise (fun a b => PySem.W.dataLt b a = false) → H p = none → Q (.ref p) (upd H p (.lst (zs.map (·.1))))
theorem dpAll_len {K : PySem.W.Frag} {H : Hp} : ∀ (xs : List V) (ds : List PyData), DpAll K H xs ds → xs.length = ds.length
  | [], _, h => by cases h; rfl
  | x :: xs, _, h => by
    cases h with
    | cons _ h2 => rw [List.length_cons, List.length_cons, dpAll_len xs _ h2]
theorem dpAll_vals {K : PySem.W.Frag} {H : Hp} : ∀ (xs : List V) (ds : List PyData) (its : List Value), DpAll K H xs ds → Vals xs its → PySem.W.EachIs (fun (v : Value) (b : V × PyData) => RelV b.1 v) its (xs.zip ds)
  | [], _, _, h, r => by cases h; cases r; exact .nil
  | x :: xs, _, _, h, r => by
    cases h with
    | cons _ h2 =>
      cases r with
      | cons r0 r1 => exact .cons r0 (dpAll_vals xs _ _ h2 r1)
theorem dpAll_reads {X : Cx} {pins : List (Addr × Obj)} {σ : L2.St} {H : Hp} {s : Shared} (I : Inv X pins σ H s) : ∀ (xs : List V) (ds : List PyData) (its : List Value), DpAll X.K H xs ds → Vals xs its → PySem.W.EachIs (fun (v : Value) (b : V × PyData) => ∃ as, Reads s.heap v b.2 as) its (xs.zip ds)
  | [], _, _, h, r => by cases h; cases r; exact .nil
  | x :: xs, _, _, h, r => by
    cases h with
    | cons h1 h2 =>
      cases r with
      | cons r0 r1 => exact .cons (Dp.reads I _ _ _ h1 r0) (dpAll_reads I xs _ _ h2 r1)
theorem cr_sortQ {X : Cx} (hu : X.A.units + 66 < cLine) : CallR X (.builtin "sorted") (rSortQ X.K) := by
  intro pins s σ H vs us Q I r h
  obtain ⟨a, xs, ds, rfl, hs, hd, hal, hso, hdep, q⟩ := h
  obtain rfl := Vals.ref1 r
  obtain ⟨its, rv, p, hz⟩ := I.list hs
  have lxd := dpAll_len xs ds hd
  have em : (xs.zip ds).map (·.2) = ds := List.map_snd_zip (by omega)
  have e1 := dpAll_vals (K := X.K) (H := H) xs ds its hd rv
  have e2 := dpAll_reads I xs ds its hd rv
  have e3 : (xs.zip ds).map Prod.snd = ds := em
  refine PySem.W.sorted_data (enc := Prod.snd) p.isList e1 e2 (by rw [e3]; exact hal) (by rw [e3]; exact hso) (by rw [List.length_zip]; omega) (fun b hb => ?_) fun out hl he => ?_
  · have := hdep b.2 (by rw [← e3]; exact List.mem_map.mpr ⟨b, hb, rfl⟩)
    omega
  · have hv : Vals (((xs.zip ds).mergeSort (PySem.W.dataLe false Prod.snd)).map (·.1)) out := by
      generalize (xs.zip ds).mergeSort (PySem.W.dataLe false Prod.snd) = zs at he
      clear hl
      induction he with
      | nil => exact .nil
      | cons r0 _ ih => exact .cons r0 ih
    obtain ⟨ep, he'⟩ := PyProof.Rows.sortedAll_at s.heap its out.toArray
    refine ⟨.ref _, upd H (s.heap.objs.size + 1) (.lst (((xs.zip ds).mergeSort (PySem.W.dataLe false Prod.snd)).map (·.1))), I.laid (t' := s.toks) (fun _ _ => PyProof.Rows.sortedAll_old) (Nat.le_succ _) ⟨?_, out, ep, hv, he'⟩, rfl, q _ _ (List.mergeSort_perm _ _) ?_ (I.hok.fresh (Nat.le_succ _))⟩
    · rw [hv.length, hl, List.length_zip]; omega
    · refine List.pairwise_map.mpr ((PySem.W.sort_pairwise (PySem.W.sortLe_total (PyProof.Rows.listOrd PyProof.Rows.itemOrd) false fun b : V × PyData => PySem.W.keyToks b.2) (xs.zip ds)).imp fun {a b} h => ?_)
      have h' : PySem.W.dataLe false (Prod.snd : V × PyData → PyData) a b = true := h
      rw [PySem.W.dataLe_eq] at h'
      have h2 : (!PySem.W.dataLt b.2 a.2) = true := h'
      cases e : PySem.W.dataLt b.2 a.2 with
      | false => rfl
      | true => rw [e] at h2; cases h2
theorem kcr_sortQ {X : Cx} {K : PySem.W.Frag} (h : X.K = K) (hu : X.A.units + 66 < cLine) : CallR X (.builtin "sorted") (rSortQ K) := h ▸ cr_sortQ hu
section
variable {K : PySem.W.Frag} {φ : Addr → Prop} {J : Hp → Prop} {ρ : List (Option D)} {ta tb te : TE} {x y d : D} {ds es : List D} {i j : Int} {ns ms : List Int}
theorem rep_tupI {H : Hp} {v : V} (h : Rep K φ H (.tup (ns.map D.int)) v) : ∃ a, v = .ref a ∧ SqT K H a (ns.map V.int) := by
  obtain ⟨a, vs, rfl, p, r⟩ := rep_tup h
  exact ⟨a, rfl, r.ints ▸ p.sq⟩
theorem ev_geT (ha : EvD K φ J ta ρ (.tup (ns.map D.int))) (hb : EvD K φ J tb ρ (.tup (ms.map D.int))) : EvD K φ J (tOp (rGeT K) ta tb) ρ (.bl (Ob.lexAt (fun j => decide (ns.getD j 0 = ms.getD j 0)) (fun j => decide (ms.getD j 0 ≤ ns.getD j 0)) (decide (ns.length ≥ ms.length)) 0 (min ns.length ms.length))) := ev_opD ha hb fun H v w _ r1 r2 Q q => by
  obtain ⟨a, rfl, h1⟩ := rep_tupI r1
  obtain ⟨b, rfl, h2⟩ := rep_tupI r2
  exact ⟨a, b, ns, ms, rfl, rfl, h1, h2, q _ _ H (Same.refl H) rfl rfl⟩
theorem lexAt2 (a b c d : Int) : Ob.lexAt (fun j => decide (([a, b] : List Int).getD j 0 = ([c, d] : List Int).getD j 0)) (fun j => decide (([c, d] : List Int).getD j 0 ≤ ([a, b] : List Int).getD j 0)) (decide (([a, b] : List Int).length ≥ ([c, d] : List Int).length)) 0 (min ([a, b] : List Int).length ([c, d] : List Int).length) = !SrtO.lexB (a, b) (c, d) := by
  have e : min ([a, b] : List Int).length ([c, d] : List Int).length = 2 := rfl
  rw [e, Ob.lexAt_succ]
  show (if decide (a = c) = true then _ else decide (c ≤ a)) = _
  by_cases h1 : a = c
  · rw [if_pos (decide_eq_true h1), Ob.lexAt_succ]
    show (if decide (b = d) = true then _ else decide (d ≤ b)) = _
    by_cases h2 : b = d
    · rw [if_pos (decide_eq_true h2), Ob.lexAt_zero]
      unfold SrtO.lexB
      rw [if_pos (show (a, b).1 = (c, d).1 from h1), decide_eq_false (show ¬ b < d by omega)]
      rfl
    · rw [if_neg (by simp [h2])]
      unfold SrtO.lexB
      rw [if_pos (show (a, b).1 = (c, d).1 from h1)]
      show decide (d ≤ b) = !decide (b < d)
      by_cases h3 : b < d
      · rw [decide_eq_true h3, decide_eq_false (by omega)]; rfl
      · rw [decide_eq_false h3, decide_eq_true (by omega)]; rfl
  · rw [if_neg (by simp [h1])]
    unfold SrtO.lexB
    rw [if_neg (show ¬ (a, b).1 = (c, d).1 from h1)]
    show decide (c ≤ a) = !decide (a < c)
    by_cases h3 : a < c
    · rw [decide_eq_true h3, decide_eq_false (by omega)]; rfl
    · rw [decide_eq_false h3, decide_eq_true (by omega)]; rfl
theorem ev_geP2 {p q : Int × Int} (ha : EvD K φ J ta ρ (prDD p)) (hb : EvD K φ J tb ρ (prDD q)) : EvD K φ J (tOp (rGeT K) ta tb) ρ (.bl (!SrtO.lexB p q)) := by
  rw [show (!SrtO.lexB p q) = _ from (lexAt2 p.1 p.2 q.1 q.2).symm]
  exact ev_geT (ns := [p.1, p.2]) (ms := [q.1, q.2]) ha hb
theorem en_catL (ha : EvD K φ J ta ρ (.lst ds)) (hb : EvD K φ J tb ρ (.lst es)) (hz : ds.length + es.length ≤ 1000000) : EvN K φ J (tOp (rCatL K) ta tb) ρ (fun x => x = ds ++ es) := fun σ H A Q q =>
  ha σ H A _ fun v x H1 b1 A1 e1 r1 => hb σ H1 A1 _ fun w y H2 b2 A2 e2 r2 => by
    subst e1 e2
    obtain ⟨a, vs, rfl, pa, ra⟩ := rep_lst (r1.mono b2)
    obtain ⟨b, ws, rfl, pb, rb⟩ := rep_lst r2
    refine ⟨a, b, vs, ws, rfl, rfl, pa.sq, pb.sq, by rw [ra.length, rb.length]; exact sz hz, fun p hp => ?_⟩
    exact q p _ _ H2 _ (b1.trans b2) A2 hp (But.of (same_new hp)) (A2.same (same_new hp)) rfl upd_same (reps_new hp (ra.append rb))
theorem ev_catL (ha : EvD K φ J ta ρ (.lst ds)) (hb : EvD K φ J tb ρ (.lst es)) (hz : ds.length + es.length ≤ 1000000) : EvD K φ J (tOp (rCatL K) ta tb) ρ (.lst (ds ++ es)) := ev_newD (en_catL ha hb hz)
/-- [..] * n -/
theorem ev_repL (ha : EvN K φ J ta ρ (fun x => x = ds)) (hb : EvD K φ J tb ρ (.int i)) (hi : -(2 ^ 63) ≤ i ∧ i < 2 ^ 63) (hz : ds.length * i.toNat ≤ 1000000) : EvN K φ J (tOp rRep ta tb) ρ (fun x => x = (List.replicate i.toNat ds).flatten) := fun σ H A Q q =>
  ha σ H A _ fun p vs ds' H0 H1 b0 A0 hp b1 A1 pd e1 r1 => hb σ H1 A1 _ fun w y H2 b2 A2 e2 r2 => by
    subst pd e2
    cases (show w = _ from r2)
    have e1' : H2 p = some (.lst vs) := b2.keep _ _ (A0.fr.new p hp) e1
    have r1' : Reps K φ H2 ds' vs := (Reps.up (fun a o q e => ⟨q.1, e⟩) ds' vs r1).mono b2
    refine ⟨p, i, vs, rfl, rfl, e1', hi.1, hi.2, by rw [r1'.length]; exact sz hz, fun p4 hp4 => ?_⟩
    exact q p4 _ _ H2 _ ((b0.trans b1).trans b2) A2 hp4 (But.of (same_new hp4)) (A2.same (same_new hp4)) rfl upd_same (reps_new hp4 (replicate_reps r1' _))
/-- list(range(a, b)) -/
theorem reps_rg {H : Hp} {a b : Int} : Reps K φ H (rangeD a (b - a).toNat) (rgV a b) := by
  unfold rangeD rgV
  generalize List.range (b - a).toNat = ks
  induction ks with
  | nil => exact Reps.nil
  | cons k ks ih => exact Reps.cons rfl ih
theorem en_listRg2 (ha : EvD K φ J ta ρ (.int i)) (hb : EvD K φ J tb ρ (.int j)) (hr : RgOk i j) : EvN K φ J (tLstRg (tRg2 ta tb)) ρ (fun x => x = rangeD i (j - i).toNat) := fun σ H A Q q =>
  ha σ H A _ fun v x H1 b1 A1 e1 r1 => hb σ H1 A1 _ fun w y H2 b2 A2 e2 r2 => by
    subst e1 e2
    exact ⟨i, j, r1, r2, hr, fun p hp => q p _ _ H2 _ (b1.trans b2) A2 hp (But.of (same_new hp)) (A2.same (same_new hp)) rfl upd_same (reps_new hp reps_rg)⟩
theorem ev_listRg2 (ha : EvD K φ J ta ρ (.int i)) (hb : EvD K φ J tb ρ (.int j)) (hr : RgOk i j) : EvD K φ J (tLstRg (tRg2 ta tb)) ρ (.lst (rangeD i (j - i).toNat)) := ev_newD (en_listRg2 ha hb hr)
theorem en_listRg1 (hb : EvD K φ J tb ρ (.int j)) (hr : RgOk 0 j) : EvN K φ J (tLstRg (tRg1 tb)) ρ (fun x => x = rangeD 0 (j - 0).toNat) := fun σ H A Q q =>
  hb σ H A _ fun w y H2 b2 A2 e2 r2 => by
    subst e2
    exact ⟨j, r2, hr, fun p hp => q p _ _ H2 _ b2 A2 hp (But.of (same_new hp)) (A2.same (same_new hp)) rfl upd_same (reps_new hp reps_rg)⟩
theorem ev_minT (ha : EvD K φ J te ρ (.tup (ns.map D.int))) (hn : 0 < ns.length) : EvI K φ J (tCB (rMinT K) (tCons te tNil)) ρ (fun m => m ∈ ns ∧ ∀ y ∈ ns, m ≤ y) := ev_cbD (ea_cons ha ea_nil) fun H vs f r Q q => by
  obtain ⟨v, rfl, r1⟩ := r.one
  obtain ⟨a, rfl, h⟩ := rep_tupI r1
  exact ⟨a, ns, rfl, h, hn, fun m h1 h2 => q _ _ H (Same.refl H) ⟨m, rfl, h1, h2⟩ rfl⟩
theorem ev_maxT (ha : EvD K φ J te ρ (.tup (ns.map D.int))) (hn : 0 < ns.length) : EvI K φ J (tCB (rMaxT K) (tCons te tNil)) ρ (fun m => m ∈ ns ∧ ∀ y ∈ ns, y ≤ m) := ev_cbD (ea_cons ha ea_nil) fun H vs f r Q q => by
  obtain ⟨v, rfl, r1⟩ := r.one
  obtain ⟨a, rfl, h⟩ := rep_tupI r1
  exact ⟨a, ns, rfl, h, hn, fun m h1 h2 => q _ _ H (Same.refl H) ⟨m, rfl, h1, h2⟩ rfl⟩
theorem toPys_map : ∀ ds : List D, toPys ds = ds.map toPy
  | [] => rfl
  | d :: ds => by show toPy d :: toPys ds = _; rw [toPys_map ds]; rfl
theorem zip_map2 {α β γ : Type} (f : β → γ) : ∀ (as : List α) (bs : List β), as.zip (bs.map f) = (as.zip bs).map fun z => (z.1, f z.2)
  | [], _ => rfl
  | _ :: _, [] => rfl
  | a :: as, b :: bs => by rw [List.map_cons, List.zip_cons_cons, List.zip_cons_cons, zip_map2 f as bs]; rfl
theorem reps_zip {H : Hp} {vs : List V} (r : Reps K φ H ds vs) : ∀ z ∈ vs.zip ds, Rep K φ H z.2 z.1 := by
  induction ds generalizing vs with
  | nil => intro z hz; simp at hz
  | cons d ds ih =>
    obtain ⟨v, r', rfl, h1, h2⟩ := (show ∃ v r, vs = v :: r ∧ Rep K φ H d v ∧ Reps K φ H ds r from r)
    intro z hz
    rw [List.zip_cons_cons] at hz
    rcases List.mem_cons.mp hz with rfl | hz
    · exact h1
    · exact ih h2 z hz
/-- each listed value stands for some tree of that data -/
theorem sort_back {H : Hp} {vs : List V} (r : Reps K φ H ds vs) : ∀ {zs : List (V × PyData)}, (∀ z ∈ zs, z ∈ vs.zip (ds.map toPy)) → ∃ es : List D, Reps K φ H es (zs.map (·.1)) ∧ es.map toPy = zs.map (·.2) ∧ ∀ e ∈ es, e ∈ ds
  | [], _ => ⟨[], Reps.nil, rfl, fun _ h => nomatch h⟩
  | z :: zs, h => by
    obtain ⟨es, h1, h2, h3⟩ := sort_back r (zs := zs) fun u hu => h u (List.mem_cons_of_mem _ hu)
    have hz := h z List.mem_cons_self
    rw [zip_map2] at hz
    obtain ⟨u, hu, e⟩ := List.mem_map.mp hz
    have hr := reps_zip r u hu
    subst e
    exact ⟨u.2 :: es, Reps.cons hr h1, by rw [List.map_cons, h2]; rfl, fun e he => by
      rcases List.mem_cons.mp he with rfl | he
      · exact (List.of_mem_zip hu).2
      · exact h3 e he⟩
theorem ev_sortQ (ha : EvD K φ J te ρ (.lst ds)) (hq : okq 64 (.lst ds) = true) (hal : PySem.W.AllAlike (ds.map toPy)) (hso : PySem.W.Sortable (ds.map toPy)) : EvP K φ J (tCB (rSortQ K) (tCons te tNil)) ρ (fun z => ∃ es : List D, z = .lst es ∧ (es.map toPy).Perm (ds.map toPy) ∧ (∀ e ∈ es, e ∈ ds) ∧ (es.map toPy).Pairwise (fun a b => PySem.W.dataLt b a = false)) := ev_cbD (ea_cons ha ea_nil) fun H vs f r Q q => by
  obtain ⟨v, rfl, r1⟩ := r.one
  obtain ⟨a, vs, rfl, p, rs⟩ := rep_lst r1
  have hl := rs.length
  have hd := dps_of ds vs 63 hq rs
  rw [toPys_map] at hd
  refine ⟨a, vs, ds.map toPy, rfl, p.sq, hd, hal, hso, fun d hd => ?_, fun zs p hp hs hn => ?_⟩
  · obtain ⟨e, he, rfl⟩ := List.mem_map.mp hd
    exact Nat.le_succ_of_le (okq_lay 63 e (List.all_eq_true.mp (show ds.all (okq 63) = true from hq) e he)).2
  · obtain ⟨es, h1, h2, h3⟩ := sort_back rs (zs := zs) fun z hz => hp.mem_iff.mp hz
    refine q _ (.lst es) _ (same_new hn) ⟨es, rfl, ?_, h3, by rw [h2]; exact hs⟩ ⟨p, _, rfl, .inl ⟨f.new p hn, .inl upd_same⟩, h1.mono (But.of (same_new hn))⟩
    rw [h2]
    have := hp.map Prod.snd
    rw [List.map_snd_zip (by rw [List.length_map]; omega)] at this
    exact this
end

-- import HandS.Iter
-- import KE.KDictDisplayH
/-! ### a tuple times 1; walks over dicts (locked meanwhile) -/
theorem tuple_mul1W (l : Addr) (items : Array Value) (n : Nat) (dd : Option Addr) (sl : Array (Option Value)) (u : Tok) :
    Meets (Builtin.«tuple.__mul__» ⟨[.ref l, .int 1 u], []⟩) (fun _ R s => s.heap.get? l = some { cls := .type "tuple", dict := dd, data := .seq items n, slots := sl } ∧ R (.ok (.ret (Value.ref l))) s) :=
  .of_wp fun prog w A R s h => by
    obtain ⟨hp, g, d, tk, os⟩ := s
    obtain ⟨hl, h⟩ := h
    have f1 := AutoSeq1.idx_int
    have c1 : (items.isEmpty || (1 : Int) == 1) = true := by simp
    wp_walk using wpAny_loadPart' hl
    repeat (first
      | (refine wpAny_ite_true (decide_eq_true (by rw [c1])) ?_; wp_walk using wpAny_loadPart' hl)
      | (refine wpAny_ite_false (by decide) ?_; wp_walk using wpAny_loadPart' hl))
    exact ⟨_, rfl, h⟩
def rRepT1 (K : PySem.W.Frag) : R2 := fun x y H Q => ∃ l k xs, x = .ref l ∧ y = .int k ∧ SqT K H l xs ∧ xs ≠ [] ∧ xs.length ≤ 1000 ∧ 1 ≤ k ∧ k ≤ 1000 ∧ (k = 1 → Q (.ref l) H) ∧ (2 ≤ k → ∀ p, H p = none → Q (.ref p) (upd H p (.tup (List.replicate k.toNat xs).flatten)))
theorem op_repT1 {X : Cx} : OpR X (binaryOp .Mult) (rRepT1 X.K) := by
  intro pins s σ H x y v u Q I rx ry h
  obtain ⟨l, k, xs, rfl, rfl, hT, hne, hz, h1, h2, q1, q2⟩ := h
  by_cases e : k = 1
  · subst e
    cases rx
    obtain ⟨t, rfl⟩ := ry
    obtain ⟨its, r, ⟨⟨cls, dd, data, sl⟩, ho, hc, n, hd⟩, hs⟩ := I.tuple hT
    simp only at hc hd
    subst hc hd
    exact wpAny_binaryOp_repeat_ref (T := "tuple") (U := "int") (by decide) ⟨_, ho, rfl⟩ (fun s' => typeIs_int s' 1 t) noFill_tuple_mul PySem.F.fills_int_mul PySem.F.slot_int_rmul repeat_tuple PySem.F.slot_int_index.lookup
      (call_meets PySem.F.slot_int_rmul (typeIs_int s 1 t) PySem.F.entry_int_rmul (PySem.F.args_int_rmul_2 _ _) (int_rmul_tuple 1 t l its.toArray n dd sl)
        ⟨ho, rfl, ⟨_, ho, rfl⟩, call_meets PySem.F.slot_tuple_mul ⟨_, ho, rfl⟩ PySem.F.entry_tuple_mul (PySem.F.args_tuple_mul_2 _ _) (tuple_mul1W l its.toArray n dd sl t) ⟨ho, .ref l, H, I, rfl, q1 rfl⟩⟩)
  · exact op_repT pins s σ H _ _ v u Q I rx ry ⟨l, k, xs, rfl, rfl, hT, hne, by omega, h2, hz, q2 (by omega)⟩
theorem kop_repT1 {X : Cx} {K : PySem.W.Frag} (h : X.K = K) : OpR X (binaryOp .Mult) (rRepT1 K) := h ▸ op_repT1
/-- what a tree may stand at -/
def TreeO (o : HO) : Prop := (∃ xs, o = .tup xs) ∨ (∃ xs, o = .lst xs) ∨ (∃ od xs, o = .frz od (.lst xs)) ∨ (∃ kvs, o = .dK kvs) ∨ ∃ kvs, o = .dT kvs
section
variable {K : PySem.W.Frag} {φ φ' : Addr → Prop} {H H' : Hp}
def UpW (φ φ' : Addr → Prop) (H H' : Hp) : Prop := ∀ a o, φ a → H a = some o → TreeO o → φ' a ∧ H' a = some o
mutual
theorem Rep.upW (k : UpW φ φ' H H') : ∀ (d : D) (v : V), Rep K φ H d v → Rep K φ' H' d v
  | .non, _, h => h
  | .bl _, _, h => h
  | .int _, _, h => h
  | .str _, _, h => h
  | .raw _, _, h => h
  | .dk ks ds, v, h => by
    obtain ⟨a, vs, e, ⟨p, e2, hl⟩, r⟩ := (show ∃ a vs, v = .ref a ∧ (φ a ∧ H a = some (.dK (ks.zip vs)) ∧ ks.length = ds.length) ∧ Reps K φ H ds vs from h)
    have z := k a _ p e2 (.inr (.inr (.inr (.inl ⟨_, rfl⟩))))
    exact ⟨a, vs, e, ⟨z.1, z.2, hl⟩, Reps.upW k ds vs r⟩
  | .dt ks ds, v, h => by
    obtain ⟨a, vs, e, ⟨p, e2, hl⟩, r⟩ := (show ∃ a vs, v = .ref a ∧ (φ a ∧ H a = some (.dT (ks.zip vs)) ∧ ks.length = ds.length) ∧ Reps K φ H ds vs from h)
    have z := k a _ p e2 (.inr (.inr (.inr (.inr ⟨_, rfl⟩))))
    exact ⟨a, vs, e, ⟨z.1, z.2, hl⟩, Reps.upW k ds vs r⟩
  | .tup ds, v, h => by
    obtain ⟨a, vs, e, p, r⟩ := (show ∃ a vs, v = .ref a ∧ PT K φ H a vs ∧ Reps K φ H ds vs from h)
    have z := k a _ p.at.1 p.at.2 (.inl ⟨_, rfl⟩)
    exact ⟨a, vs, e, .inl ⟨z.1, .inl z.2⟩, Reps.upW k ds vs r⟩
  | .lst ds, v, h => by
    obtain ⟨a, vs, e, p, r⟩ := (show ∃ a vs, v = .ref a ∧ PL K φ H a vs ∧ Reps K φ H ds vs from h)
    refine ⟨a, vs, e, p.elim (fun ⟨pa, rd⟩ => ?_) .inr, Reps.upW k ds vs r⟩
    rcases rd with rd | ⟨od, rd⟩
    · have z := k a _ pa rd (.inr (.inl ⟨_, rfl⟩))
      exact .inl ⟨z.1, .inl z.2⟩
    · have z := k a _ pa rd (.inr (.inr (.inl ⟨_, _, rfl⟩)))
      exact .inl ⟨z.1, .inr ⟨od, z.2⟩⟩
theorem Reps.upW (k : UpW φ φ' H H') : ∀ (ds : List D) (vs : List V), Reps K φ H ds vs → Reps K φ' H' ds vs
  | [], _, h => h
  | d :: ds, vs, h => by
    obtain ⟨v, r, e, h1, h2⟩ := (show ∃ v r, vs = v :: r ∧ Rep K φ H d v ∧ Reps K φ H ds r from h)
    exact ⟨v, r, e, Rep.upW k d v h1, Reps.upW k ds r h2⟩
end
end
section
variable {K : PySem.W.Frag} {φ : Addr → Prop} {J : Hp → Prop} {ρ : List (Option D)} {td ty : TE} {κ : Type} [DecidableEq κ] [DKind κ] {kds : List (κ × D)} {l : Addr} {d : D}
theorem ho_mut (kvs : List (κ × V)) (h : DKind.ho kvs = .dK [] ∨ True) : True := trivial
theorem frz_tree {od : Obj} {u : HO} (hu : ∀ xs, u ≠ .lst xs) : ¬ TreeO (.frz od u) := fun h => by
  rcases h with ⟨_, e⟩ | ⟨_, e⟩ | ⟨_, _, e⟩ | ⟨_, e⟩ | ⟨_, e⟩
  · cases e
  · cases e
  · injection e with _ e
    exact hu _ e
  · cases e
  · cases e
/-- a live dict is locked while it is walked -/
theorem ev_lockS {t : TE} {P : D → Prop} (L : LivDS K (wo φ l) J l kds) (hl : φ l) (hm : ∀ vs, Mut (some (DKind.ho ((kds.map (·.1)).zip vs)))) (hn : ∀ vs xs, DKind.ho ((kds.map (·.1)).zip vs) ≠ .lst xs)
    (h : ∀ (od : Obj) (vs : List V) (J1 : Hp → Prop), vs.length = kds.length → (∀ H, J1 H → H l = some (.frz od (DKind.ho ((kds.map (·.1)).zip vs))) ∧ Reps K (fun a => φ a ∧ ∀ H, J1 H → H a ≠ none) H (kds.map (·.2)) vs) → EvP K φ J1 t ρ P) : EvP K (wo φ l) J (tLockE t) ρ P := fun σ H A Q q => by
  obtain ⟨vs, H0, r0, n0, k0⟩ := L.ex
  have hd := (k0 H A.j).1
  generalize hu : DKind.ho ((kds.map (·.1)).zip vs) = u at hd
  refine ⟨l, u, hd, hu ▸ hm vs, fun od => ?_⟩
  have nlst : ∀ xs, u ≠ .lst xs := hu ▸ hn vs
  have A1 : At K φ (fun H2 => H2 l = some (.frz od u) ∧ J (L2.upd H2 l u)) ρ σ (L2.upd H l (.frz od u)) := by
    refine ⟨A.sr.up fun a o p e => ⟨p.1, by rw [upd_ne p.2]; exact e⟩, ⟨fun a ha => ?_, fun a xs ha => ?_⟩, ⟨upd_same, by rw [upd_upd hd]; exact A.j⟩, fun Ha Hb k j => ⟨k l _ (by rw [upd_same]; exact fun z => nomatch z) j.1, A.mono _ _ (fun a o ha e => ?_) j.2⟩⟩
    · by_cases e : a = l
      · rw [e]; exact hl
      · rw [upd_ne e] at ha; exact (A.fr.new a ha).1
    · by_cases e : a = l
      · rw [e]; exact hl
      · rw [upd_ne e] at ha; exact (A.fr.tup a xs ha).1
    · by_cases ea : a = l
      · rw [ea, upd_same] at e ⊢; exact e
      · rw [upd_ne ea] at e ⊢
        exact k a o (upd_tr a ha) e
  refine h od vs _ (by rw [r0.length, List.length_map]) (fun H2 j => ⟨hu ▸ j.1, ?_⟩) σ _ A1 _ fun v x H2 b2 A2 px r2 => ⟨A2.j.1, ?_⟩
  · have b := (k0 _ j.2).2
    exact Reps.up (fun a o p e => ⟨⟨p.1, fun H3 j3 => by
      have z := (k0 _ j3.2).2.keep a o p e
      rw [upd_ne p.2] at z
      rw [z]
      exact fun z => nomatch z⟩, by
      have z := b.keep a o p e
      rw [upd_ne p.2] at z
      exact z⟩) _ vs r0
  · have el := A2.j.1
    have ub : But (wo φ l) H (L2.upd H2 l u) := ⟨fun a o p e => by
      rw [upd_ne p.2]
      exact b2.keep a o p.1 (by rw [upd_ne p.2]; exact e), fun a ha => upd_tr a (b2.tr a (upd_tr a ha))⟩
    refine q v x (L2.upd H2 l u) ub ⟨A.sr.up (Up.of ub), ?_, A2.j.2, A.mono.up ub.tr⟩ px (Rep.upW (fun a o p e ht => ?_) x v r2)
    · refine A2.fr.updW fun xs e => ?_
      rw [← hu] at e
      exact DKind.nt _ xs e
    · have na : a ≠ l := fun z => by
        subst z
        rw [el] at e
        cases e
        exact frz_tree nlst ht
      exact ⟨⟨p, na⟩, by rw [upd_ne na]; exact e⟩
/-- .. a dict left as it is: what else the slots hold is forgotten meanwhile -/
theorem ev_lockD {k n : Nat} {t : TE} {P : D → Prop} (hn0 : ρ.length = n) (hk : ρ[k]? = some (some (dictD kds))) (hm : ∀ vs, Mut (some (DKind.ho ((kds.map (·.1)).zip vs)))) (hn : ∀ vs xs, DKind.ho ((kds.map (·.1)).zip vs) ≠ .lst xs)
    (h : ∀ (l : Addr) (od : Obj) (vs : List V) (J1 : Hp → Prop), vs.length = kds.length → φ l → (∀ H, J1 H → H l = some (.frz od (DKind.ho ((kds.map (·.1)).zip vs)))) → EvP K φ J1 t ((List.replicate n none).set k (some (.raw (.ref l)))) P) : EvP K φ J (tLockE t) ρ P := fun σ H A Q q => by
  obtain ⟨v0, ev0, rv0⟩ := A.sr.2 k _ hk
  obtain ⟨l, vs, rfl, ⟨hl, hd, _⟩, rs⟩ := DKind.rep.mp rv0
  have hlen : vs.length = kds.length := by rw [rs.length, List.length_map]
  generalize hu : DKind.ho ((kds.map (·.1)).zip vs) = u at hd
  refine ⟨l, u, hd, hu ▸ hm vs, fun od => ?_⟩
  have nlst : ∀ xs, u ≠ .lst xs := hu ▸ hn vs
  have A1 : At K φ (fun H2 => H2 l = some (.frz od u) ∧ J (L2.upd H2 l u)) ((List.replicate n none).set k (some (.raw (.ref l)))) σ (L2.upd H l (.frz od u)) := by
    refine ⟨⟨by rw [List.length_set, List.length_replicate, A.sr.1, hn0], fun i x hi => ?_⟩, A.fr.upd (fun _ h => nomatch h), ⟨upd_same, by rw [upd_upd hd]; exact A.j⟩, fun Ha Hb k j => ⟨k l _ (by rw [upd_same]; exact fun z => nomatch z) j.1, A.mono _ _ (fun a o ha e => ?_) j.2⟩⟩
    · by_cases e : k = i
      · subst e
        have hlt : k < n := by rw [← hn0]; exact (List.getElem?_eq_some_iff.mp hk).1
        rw [List.getElem?_set_self (by rw [List.length_replicate]; exact hlt)] at hi
        cases hi
        exact ⟨_, ev0, rfl⟩
      · rw [List.getElem?_set_ne e, List.getElem?_replicate] at hi
        split at hi <;> cases hi
    · by_cases ea : a = l
      · rw [ea, upd_same] at e ⊢; exact e
      · rw [upd_ne ea] at e ⊢
        exact k a o (upd_tr a ha) e
  refine h l od vs _ hlen hl (fun H2 j => hu ▸ j.1) σ _ A1 _ fun v x H2 b2 A2 px r2 => ⟨A2.j.1, ?_⟩
  have el := A2.j.1
  have ub : But φ H (L2.upd H2 l u) := ⟨fun a o p e => by
    by_cases ea : a = l
    · rw [ea] at e ⊢
      rw [hd] at e
      rw [upd_same]; exact e
    · rw [upd_ne ea]
      exact b2.keep a o p (by rw [upd_ne ea]; exact e), fun a ha => upd_tr a (b2.tr a (upd_tr a ha))⟩
  refine q v x (L2.upd H2 l u) ub ⟨A.sr.up (Up.of ub), A2.fr.upd (fun xs e => ?_), A2.j.2, A.mono.up ub.tr⟩ px (Rep.upW (fun a o p e ht => ?_) x v r2)
  · rw [← hu] at e
    exact DKind.nt _ xs e
  · have na : a ≠ l := fun z => by
      subst z
      rw [el] at e
      cases e
      exact frz_tree nlst ht
    exact ⟨p, by rw [upd_ne na]; exact e⟩
theorem reps_keys {H : Hp} : ∀ ks : List Key, Reps K φ H (ks.map keyD) (ks.map kV)
  | [] => Reps.nil
  | k :: ks => Reps.cons (by cases k <;> rfl) (reps_keys ks)
/-- the keys of a locked dict -/
theorem it_keysT {od : Obj} {kvs : List (List Key × V)} (h : EvD K φ J td ρ (.raw (.ref l))) (hl : φ l) (hJ : ∀ H, J H → H l = some (.frz od (.dT kvs))) : IterD K φ J (iKeys td) ρ (kvs.map fun kv => .tup (kv.1.map keyD)) := fun σ H A R q => h σ H A _ fun v x H1 b1 A1 e r => by
  subst e
  cases (show v = _ from r)
  refine ⟨l, od, rfl, .inr ⟨kvs, hJ _ A1.j, q _ _ H1 b1 A1 rfl fun φ' i H2 u f => ?_⟩⟩
  have e2 := (u l _ hl (hJ _ A1.j)).2
  refine ⟨fun x hx => ?_, fun hi => ⟨e2, by rw [hi, List.length_map]; exact Nat.le_refl _⟩⟩
  rw [List.getElem?_map] at hx
  obtain ⟨kv, hkv, rfl⟩ := Option.map_eq_some_iff.mp hx
  refine ⟨⟨e2, (List.getElem?_eq_some_iff.mp hkv).1⟩, fun y H3 hy => ?_⟩
  obtain ⟨rfl, k, w, a, hk, rfl, ha⟩ := hy
  rw [hkv] at hk
  cases hk
  exact ⟨Same.refl _, a, _, rfl, .inl ⟨f.tup a _ ha, .inl ha⟩, reps_keys _⟩
theorem it_keysK {od : Obj} {kvs : List (Key × V)} (h : EvD K φ J td ρ (.raw (.ref l))) (hl : φ l) (hJ : ∀ H, J H → H l = some (.frz od (.dK kvs))) : IterD K φ J (iKeys td) ρ (kvs.map fun kv => keyD kv.1) := fun σ H A R q => h σ H A _ fun v x H1 b1 A1 e r => by
  subst e
  cases (show v = _ from r)
  refine ⟨l, od, rfl, .inl ⟨kvs, hJ _ A1.j, q _ _ H1 b1 A1 rfl fun φ' i H2 u f => ?_⟩⟩
  have e2 := (u l _ hl (hJ _ A1.j)).2
  refine ⟨fun x hx => ?_, fun hi => ⟨e2, by rw [hi, List.length_map]; exact Nat.le_refl _⟩⟩
  rw [List.getElem?_map] at hx
  obtain ⟨kv, hkv, rfl⟩ := Option.map_eq_some_iff.mp hx
  refine ⟨⟨e2, (List.getElem?_eq_some_iff.mp hkv).1⟩, fun y H3 hy => ?_⟩
  obtain ⟨rfl, k, w, hk, rfl⟩ := hy
  rw [hkv] at hk
  cases hk
  exact ⟨Same.refl _, by cases k <;> rfl⟩
/-- d[k] while d is locked -/
theorem ev_dgetF {od : Obj} {kds : List (Key × D)} {vs : List V} {k : Key} (hd : EvD K φ J td ρ (.raw (.ref l))) (hJ : ∀ H, J H → H l = some (.frz od (.dK ((kds.map (·.1)).zip vs))) ∧ Reps K φ H (kds.map (·.2)) vs) (hy : EvD K φ J ty ρ (keyD k)) (e : valD kds k = some d) : EvD K φ J (tDGet td ty) ρ d := fun σ H A Q q =>
  hd σ H A _ fun a x H1 b1 A1 ex rx => hy σ H1 A1 _ fun y d' H2 b2 A2 e2 r2 => by
    subst ex e2
    cases (show a = _ from rx)
    obtain ⟨ea, rs⟩ := hJ H2 A2.j
    rcases zip_val rs k with ⟨e1, _⟩ | ⟨d1, v1, e1, ev, r1⟩
    · rw [e] at e1; cases e1
    · rw [e] at e1
      cases e1
      refine ⟨l, v1, rfl, ?_, q v1 _ H2 (b1.trans b2) A2 rfl r1⟩
      rw [← ev, keyD_v r2]
      exact .inl ⟨_, k, .inr ⟨od, ea⟩, rfl, rfl⟩
/-- t * n, n at least 1 -/
theorem ev_repT1 {ta tb : TE} {ds : List D} {i : Int} (ha : EvD K φ J ta ρ (.tup ds)) (hb : EvD K φ J tb ρ (.int i)) (hne : ds ≠ []) (h1 : 1 ≤ i) (h3 : i ≤ 1000) (hz : ds.length ≤ 1000) : EvD K φ J (tOp (rRepT1 K) ta tb) ρ (.tup (List.replicate i.toNat ds).flatten) :=
  ev_opD ha hb fun H v w fr r1 r2 Q q => by
    obtain ⟨a, vs, rfl, p, rs⟩ := rep_tup r1
    cases (show w = _ from r2)
    refine ⟨a, i, vs, rfl, rfl, p.sq, fun z => hne (List.eq_nil_of_length_eq_zero (by rw [← rs.length, z]; rfl)), by rw [rs.length]; exact hz, h1, h3, fun e => ?_, fun h2 l hl => q _ _ _ (same_new hl) rfl ⟨l, _, rfl, .inl ⟨fr l hl, .inl upd_same⟩, ?_⟩⟩
    · subst e
      refine q _ _ H (Same.refl H) rfl ⟨a, vs, rfl, p, ?_⟩
      show Reps K φ H (List.replicate 1 ds).flatten vs
      rw [List.replicate_succ, List.replicate_zero, List.flatten_cons, List.flatten_nil, List.append_nil]
      exact rs
    · exact (replicate_reps rs _).mono (But.of (same_new hl))
end
/-! ### {t: v}, t a tuple of ints and texts -/
def tDispT1 (tk tv : TE) : TE := fun σ H Q => ∀ p, H p = none → tk σ (upd H p (.dT [])) fun x H1 => tv σ H1 fun y H2 => H2 p = some (.dT []) ∧ ∃ (k : List Key) (b : Addr), x = .ref b ∧ H2 b = some (.tup (k.map kV)) ∧ Q (.ref p) (upd H2 p (.dT [(k, y)]))
theorem pe_dispT1 {X : Cx} {pos : Pos} {ke ve : Expr} {tk tv : TE} (hu : X.A.units + 1 < cLine) (h : PPs X pos [some ke] [ve] [(tk, tv)]) : PE X (.Dict [some ke] [ve] pos) (tDispT1 tk tv) := by
  refine ⟨fun pins s σ H Q I q => ?_⟩
  have hn := I.hok.fresh (Nat.le_refl s.heap.objs.size)
  have I1 := I.laid (a := s.heap.objs.size) (o := .dT []) (h' := s.heap.push { cls := .type "dict", data := .dict #[] }) (t' := s.toks) (fun _ _ q => Heap.get?_push_of_some _ q) (Nat.le_refl _) (dt_empty s.heap I.big)
  have q' := q _ hn
  rw [arm_eval_Dict, zip_pairTrees [some ke] [ve] X.env pos rfl rfl, dictDisplay_pairs (pairTrees [some ke] [ve] X.env pos) (by intro z; cases z) (Nat.le_of_ble_eq_true rfl)]
  refine wpAny_bind (wpAny_standAt (wpAny_bind (wpAny_subDictH (knd := tupleKind (mixKind X.prog X.w)) (Q := fun d s' => wpAny (model X.prog X.w) X.A (pure (Value.ref d)) (EP X pins σ Q) X.xe s') (show X.A.units < cLine by omega) (Nat.le_of_ble_eq_true rfl) ?_)))
  refine thn (h.run pins _ σ _ (fun ps H2 => match ps with
    | [(x, y)] => H2 s.heap.objs.size = some (.dT []) ∧ ∃ (k : List Key) (b : Addr), x = .ref b ∧ H2 b = some (.tup (k.map kV)) ∧ Q (.ref s.heap.objs.size) (upd H2 s.heap.objs.size (.dT [(k, y)]))
    | _ => False) I1 q') fun ws s2 ⟨ps, H2, I2, rel, q2⟩ => ?_
  obtain ⟨x, y, rfl⟩ : ∃ x y, ps = [(x, y)] := by
    cases ps with
    | nil => exact q2.elim
    | cons p r =>
      cases r with
      | nil => exact ⟨p.1, p.2, rfl⟩
      | cons _ _ => exact q2.elim
  obtain ⟨e, k, b, rfl, eb, q3⟩ := q2
  cases rel with
  | @cons a b1 as bs hp t =>
    cases t
    obtain ⟨b2, b3⟩ := hp
    have exw : b1.1 = .ref b := b2
    obtain ⟨z, hd, xs0, r0, dd⟩ := dt_of I2.hok e
    cases r0
    refine ⟨[(k, b, b1.2)], ⟨exw, rfl, key_of I2.hok eb, trivial⟩, dd, fun h' tk dd' hs => wpAny_pure ⟨.ref s.heap.objs.size, _, ?_, rfl, q3⟩⟩
    obtain ⟨o, es, ep, hq, h2, h3, h4, _, h5⟩ := dd'
    refine d_write I2 (by rw [e]; exact True.intro) hs ⟨o, hq⟩ ⟨by show 1 ≤ sizeLine; decide, hd, _, (.cons ⟨rfl, ?_, b3⟩ .nil : KT (upd H2 s.heap.objs.size (.dT [(k, y)])) [(k, y)] [(k, b, b1.2)]), o, es, ep, hq, h2, h3, h4, h5⟩
    show upd H2 s.heap.objs.size _ b = _
    rw [upd_ne (fun z => by rw [z, e] at eb; cases eb)]
    exact eb
section
variable {K : PySem.W.Frag} {φ : Addr → Prop} {J : Hp → Prop} {ρ : List (Option D)} {tk tv : TE}
theorem en_dispT1 {k : List Key} {d : D} (hk : ∀ J' φ', Ext φ J φ' J' → EvD K φ' J' tk ρ (.tup (k.map keyD))) (hv : ∀ J' φ', Ext φ J φ' J' → EvD K φ' J' tv ρ d) : EvNO K φ J (tDispT1 tk tv) ρ (fun ds C => ds = ([(k, d)].map (·.2)) ∧ C = fun vs => HO.dT (([(k, d)].map (·.1)).zip vs)) := fun σ H A Q q p hp => by
  have ext : Ext φ J (wo φ p) (fun H => J H ∧ H p = some (.dT [])) := ⟨fun _ h => h.1, fun p' s ns hq => ⟨fun z => hq.np z.1, hq.ne, fun H h => hq.ok H h.1, fun H' H'' h k o => ⟨hq.st H' H'' h.1 k o, k _ _ (by
    obtain ⟨_, _, _, _, h1, _⟩ := hq.ok _ A.j
    exact (ne_of_none h1 hp).symm) h.2⟩⟩, fun a p' h => ⟨p', fun e => h H A.j (by rw [e]; exact hp)⟩⟩
  have A1 : At K (wo φ p) (fun H => J H ∧ H p = some (.dT [])) ρ σ (upd H p (.dT [])) := A.newLive hp ⟨A.mono _ _ (fun a o _ e => same_new hp a o e) A.j, upd_same⟩ ((A.mono.up upd_tr).and (Mo.at (by rw [upd_same]; exact fun z => nomatch z)))
  refine hk _ _ ext σ _ A1 _ fun v1 d1 H2 b2 A2 e1 r1 => hv _ _ ext σ H2 A2 _ fun v2 d2 H3 b3 A3 e2 r2 => ?_
  subst e1 e2
  obtain ⟨b, vs, rfl, pb, rs⟩ := rep_tup (r1.mono b3)
  rw [keysD_v rs] at pb
  refine ⟨A3.j.2, k, b, rfl, pb.at.2, ?_⟩
  have np : ¬ wo φ p p := fun z => z.2 rfl
  have bb : But φ H (upd H3 p (.dT [(k, v2)])) := ⟨fun a o pa e => by
    have ne := ne_of_none e hp
    rw [upd_ne ne]
    exact b3.keep a o ⟨pa, ne⟩ (b2.keep a o ⟨pa, ne⟩ (by rw [upd_ne ne]; exact e)), fun a h => upd_tr a (b3.tr a (b2.tr a (upd_tr a h)))⟩
  have jj : J (upd H3 p (.dT [(k, v2)])) := A.mono H3 _ (fun a o h e => by
    rw [upd_ne (show a ≠ p from fun z => h (by rw [z]; exact hp))]
    exact e) A3.j.1
  exact q p [v2] [d2] _ H _ (But.refl _ _) A hp bb ⟨A.sr.up (Up.of bb), A3.fr.fst.upd (fun _ h => nomatch h), jj, A.mono.up bb.tr⟩ ⟨rfl, rfl⟩ (fun _ h => nomatch h) upd_same (Reps.cons (r2.mono ((But.refl _ H3).upd np)) Reps.nil)
end
/-! ### sorted, the trees told themselves -/
theorem perm_lift {α β : Type} (f : α → β) : ∀ {l k : List β}, l.Perm k → ∀ {m : List α}, k = m.map f → ∃ m' : List α, m'.Perm m ∧ l = m'.map f := by
  intro l k p
  induction p with
  | nil => intro m e; exact ⟨m, List.Perm.refl _, e⟩
  | cons x _ ih =>
    intro m e
    cases m with
    | nil => cases e
    | cons a m =>
      obtain ⟨e1, e2⟩ := List.cons.inj e
      obtain ⟨m', p', e'⟩ := ih e2
      exact ⟨a :: m', p'.cons a, by rw [List.map_cons, ← e', e1]⟩
  | swap x y t =>
    intro m e
    cases m with
    | nil => cases e
    | cons a m =>
      cases m with
      | nil => have := (List.cons.inj e).2; cases this
      | cons b m =>
        obtain ⟨e1, e2⟩ := List.cons.inj e
        obtain ⟨e3, e4⟩ := List.cons.inj e2
        exact ⟨b :: a :: m, List.Perm.swap a b m, by rw [List.map_cons, List.map_cons, e1, e3, e4]⟩
  | trans _ _ ih1 ih2 =>
    intro m e
    obtain ⟨m2, p2, e2⟩ := ih2 e
    obtain ⟨m1, p1, e1⟩ := ih1 e2
    exact ⟨m1, p1.trans p2, e1⟩
theorem perm_uniq {α : Type} {R : α → α → Prop} (anti : ∀ a b, R a b → R b a → a = b) : ∀ {a b : List α}, a.Pairwise R → b.Pairwise R → a.Perm b → a = b
  | [], b, _, _, h => (List.Perm.eq_nil h.symm).symm
  | x :: a, [], _, _, h => absurd h.length_eq (by simp)
  | x :: a, y :: b, ha, hb, h => by
    have e : x = y := by
      rcases List.mem_cons.mp (h.mem_iff.mp (List.mem_cons_self (a := x) (l := a))) with e | hx
      · exact e
      · rcases List.mem_cons.mp (h.mem_iff.mpr (List.mem_cons_self (a := y) (l := b))) with e | hy
        · exact e.symm
        · exact anti x y ((List.pairwise_cons.mp ha).1 y hy) ((List.pairwise_cons.mp hb).1 x hx)
    subst e
    rw [perm_uniq anti (List.pairwise_cons.mp ha).2 (List.pairwise_cons.mp hb).2 h.cons_inv]
theorem dataLt_anti {x y : PyData} (ha : PySem.W.alike x y = true) (h1 : PySem.W.dataLt x y = false) (h2 : PySem.W.dataLt y x = false) : PyData.eqv x y = true := by
  have e : PySem.W.keyToks x = PySem.W.keyToks y := PyProof.Rows.lex_total _ _ h1 h2
  cases h : PyData.eqv x y with
  | true => rfl
  | false =>
    have z := (PySem.W.toks_eqv x y ha).2 h [] [.inl 0]
    have z2 := (PySem.W.toks_eqv x y ha).2 h [] []
    rw [e] at z z2
    have z3 : PyProof.Rows.lexLt PyProof.Rows.itemOrd (PySem.W.keyToks y ++ []) (PySem.W.keyToks y ++ [.inl 0]) = true := by
      rw [PySem.W.lex_pre]; rfl
    have z4 : PyProof.Rows.lexLt PyProof.Rows.itemOrd (PySem.W.keyToks y ++ []) (PySem.W.keyToks y ++ []) = false := by
      rw [PySem.W.lex_pre]; rfl
    rw [z3] at z
    rw [z4] at z2
    rw [← z2] at z
    cases z
section
variable {K : PySem.W.Frag} {φ : Addr → Prop} {J : Hp → Prop} {ρ : List (Option D)} {te : TE} {ds : List D}
theorem ev_sortQP (ha : EvD K φ J te ρ (.lst ds)) (hq : okq 64 (.lst ds) = true) (hal : PySem.W.AllAlike (ds.map toPy)) (hso : PySem.W.Sortable (ds.map toPy)) : EvP K φ J (tCB (rSortQ K) (tCons te tNil)) ρ (fun z => ∃ es : List D, z = .lst es ∧ es.Perm ds ∧ es.Pairwise (fun a b => PySem.W.dataLt (toPy b) (toPy a) = false)) := ev_cbD (ea_cons ha ea_nil) fun H vs f r Q q => by
  obtain ⟨v, rfl, r1⟩ := r.one
  obtain ⟨a, vs, rfl, p, rs⟩ := rep_lst r1
  have hl := rs.length
  have hd := dps_of ds vs 63 hq rs
  rw [toPys_map] at hd
  refine ⟨a, vs, ds.map toPy, rfl, p.sq, hd, hal, hso, fun d hd => ?_, fun zs p hp hs hn => ?_⟩
  · obtain ⟨e, he, rfl⟩ := List.mem_map.mp hd
    exact Nat.le_succ_of_le (okq_lay 63 e (List.all_eq_true.mp (show ds.all (okq 63) = true from hq) e he)).2
  · rw [zip_map2] at hp
    obtain ⟨us, hu, rfl⟩ := perm_lift (fun z : V × D => (z.1, toPy z.2)) hp rfl
    have hr : Reps K φ H (us.map (·.2)) (us.map (·.1)) := by
      have hall : ∀ z ∈ us, Rep K φ H z.2 z.1 := fun z hz => reps_zip rs z (hu.mem_iff.mp hz)
      clear hu hp hs
      induction us with
      | nil => exact Reps.nil
      | cons z us ih => exact Reps.cons (hall z List.mem_cons_self) (ih fun u hu => hall u (List.mem_cons_of_mem _ hu))
    rw [List.map_map] at hs ⊢
    refine q _ (.lst (us.map (·.2))) _ (same_new hn) ⟨us.map (·.2), rfl, ?_, ?_⟩ ⟨p, _, rfl, .inl ⟨f.new p hn, .inl upd_same⟩, hr.mono (But.of (same_new hn))⟩
    · have := hu.map Prod.snd
      rw [List.map_snd_zip (by omega)] at this
      exact this
    · rw [List.pairwise_map] at hs ⊢
      exact hs
end

-- import HandS.Comp
-- import HandS.Exc
-- import HandS.ExcOwn
/-! ### an exception that leaves a list comprehension -/
/-- an exception in the air of X, the frame L told -/
def XEL (X : Cx) (L : Addr) (W : WX) (u : Value) (s' : Shared) : Prop :=
  ∃ (a : Addr) (B : Heap) (sI : Shared) (pins : List (Addr × Obj)) (σ : L2.St) (H : Hp) (cls : Value) (d : Option Addr),
    u = .ref a ∧ Inv X pins σ H sI ∧ (∀ b o, sI.heap.get? b = some o → b ∉ frs X.stack → B.get? b = some o) ∧ sI.heap.UpToSlots s'.heap ∧
      Sky B X.stack a (Zc cls d) L s'.heap ∧ H a = none ∧ s'.os = sI.os ∧ AllBare s'.gens ∧ W cls d σ H
/-- what X wants of exceptions takes those that leave its frame L -/
structure TakesL (X : Cx) (L : Addr) (W : WX) : Prop where
  tk : ∀ u s', XEL X L W u s' → X.xe u s'
  st : ∃ e0 outer, X.stack = e0 :: outer ∧ e0.frame = some L
  fr : X.env.frame = some L
theorem takesL {X : Cx} {W : WX} (tk : Takes X W) (hs : X.stack = X.env :: X.outer) (hf : X.env.frame = some X.env.locals) : TakesL X X.env.locals W := ⟨tk, ⟨_, _, hs, hf⟩, hf⟩
section
variable {X : Cx} {pins : List (Addr × Obj)} {σ : L2.St} {H : Hp} {sI s s' : Shared} {B : Heap} {W : WX} {E : XK} {L : Addr}
theorem XEL.of_call (I : Inv X pins σ H s) (hW : ∀ cls d H', E cls d H' → W cls d σ H') {u : Value} (c : L2.CX X.prog X.w X.stack H s E u s') : XEL X L W u s' := by
  obtain ⟨a, B, H', cls, d, rfl, fl, hok, ub, na, os, ag, hE⟩ := c
  obtain ⟨G, g1, g2⟩ := restrict s'.heap fun b => (B.get? b).isSome || decide (b ∈ frs X.stack)
  have st : B.StaysIn s'.heap := fl.1
  have gB : ∀ b o, B.get? b = some o → G.get? b = some o := fun b o e => by
    rw [g1 b (by simp [e])]
    exact st b o e
  have gF : ∀ b, b ∈ frs X.stack → G.get? b = s'.heap.get? b := fun b hb => g1 b (by simp [hb])
  have og : ∀ b o, G.get? b = some o → s'.heap.get? b = some o ∧ ((B.get? b).isSome = true ∨ b ∈ frs X.stack) := fun b o e => by
    cases q : ((B.get? b).isSome || decide (b ∈ frs X.stack)) with
    | false => rw [g2 b q] at e; cases e
    | true =>
      rw [g1 b q] at e
      exact ⟨e, by simpa [Bool.or_eq_true] using q⟩
  refine ⟨a, B, { s with heap := G, gens := s'.gens, drawn := s'.drawn, toks := s'.toks }, pins, σ, H', cls, d, rfl, ?_, fun b o e hb => ?_, Heap.UpToSlots.of_keeps fun b o e => (og b o e).1, .inr (.inl fl), na, os, ag, hW _ _ _ hE⟩
  · refine I.call (ch := []) ⟨fun b o e n hb _ => gB b o (ub.keep b o e n hb), fun b o e n hb _ => ?_, fun b o e n _ => ub.free b o e n, fun b o e _ => ?_, ub.tups, ub.frzs, ub.tbls⟩ (hok.kept gB) ag (fun _ z => nomatch z)
    · obtain ⟨sl, q⟩ := ub.slot b o e hb
      exact ⟨sl, by rw [gF b hb]; exact q⟩
    · by_cases hb : b ∈ frs X.stack
      · obtain ⟨sl, q⟩ := ub.slot b o e hb
        exact ⟨_, by rw [gF b hb]; exact q⟩
      · obtain ⟨o', q⟩ := ub.there b o e hb
        exact ⟨o', gB b o' q⟩
  · obtain ⟨e', h⟩ := og b o e
    rcases h with h | h
    · obtain ⟨o', q⟩ := Option.isSome_iff_exists.mp h
      have z := st b o' q
      rw [e'] at z; cases z
      exact q
    · exact absurd h hb
theorem passAtL {X : Cx} {W : WX} {L : Addr} (tk : TakesL X L W) (σ : L2.St) : PassesAt (L2.CX X.prog X.w) X σ (WE W σ) := fun _ _ _ e s' I c => tk.tk e s' (XEL.of_call I (fun _ _ _ h => h) c)
/-- noting asks for the frame alone -/
theorem note_congr {e : Value} {env env' : Env} (h : env.frame = env'.frame) : noteFrame e env = noteFrame e env' := by
  unfold noteFrame PySem.frameOf
  rw [h]
theorem funFrames_but {B B2 h h2 : Heap} {C : Addr} (k : ∀ b, b ≠ C → h2.get? b = h.get? b) (hB : ∀ b, B.get? b = none → B2.get? b = none) : ∀ {l : List Env}, h.FunFrames B l → C ∉ frs l → h2.FunFrames B2 l
  | [], _, _ => trivial
  | env :: l, ⟨hk, ⟨L, o, hf, hn, ho, hd⟩, hr⟩, hC => by
    have hL : L ∈ frs (env :: l) := List.mem_filterMap.mpr ⟨env, List.mem_cons_self, hf⟩
    refine ⟨hk, ⟨L, o, hf, hB _ hn, ?_, hd⟩, funFrames_but k hB hr fun z => hC ?_⟩
    · rw [k L fun z => hC (z ▸ hL)]
      exact ho
    · obtain ⟨e, he, q⟩ := List.mem_filterMap.mp z
      exact List.mem_filterMap.mpr ⟨e, List.mem_cons_of_mem _ he, q⟩
/-- Sky, noted by the frame -/
theorem Sky.note {M : Model} {A : Around} {E₁ : Value → Shared → Prop} {env : Env} {outer : List Env} {L a : Addr} {Z : Obj → Prop} {Q : Unit → Shared → Prop} (hZ : HandSPX.Steady Z) (hfr : A.frames = some (env :: outer)) (hf : env.frame = some L)
    (x : Sky B (env :: outer) a Z L s.heap) (hQ : ∀ h', HandSPX.HeldZ B (env :: outer) a Z L h' → s.heap.UpToSlots h' → Q () { s with heap := h' }) : wpAny M A (noteFrame (.ref a) env) Q E₁ s := by
  rcases x with ⟨hB, hn, hl, oe, vs, he, hz, hd, h1⟩ | fl | hh
  · exact HandSPX.look_newZ hZ hfr hl hf he hB hn hd h1 hz hQ
  · exact HandSPX.looks_onZ hZ hfr hf fl hQ
  · exact HandSPX.againZ hf hh.2.2.2 (hQ s.heap hh (Heap.UpToSlots.refl _))
end
/-- as compPost, the frame of the block told -/
def compPostF (M : Model) (A : Around) (E : Value → Shared → Prop) (use : Option (Value → Sem Unit)) (Q : Value → Shared → Prop) (acc : Value) (C : Addr) (F : Option Addr) (r : Result) (s' : Shared) : Prop :=
  match r with
  | .ok f => compPost M A E use Q acc C (.ok f) s'
  | .error x => ∃ m, s'.heap.Ns C m ∧ ∀ h', Heap.SameBut C s'.heap h' → ∀ cenv : Env, cenv.locals = C → cenv.frame = F → wpAny M A (passOn "comprehension.variables-let-go" x cenv : Sem Value) (fun _ _ => False) E { s' with heap := h' }
/-- the library's wpAny_comprehension_free, an exception allowed -/
theorem comp_freeF {M : Model} {A : Around} {E : Value → Shared → Prop} {s : Shared} {env : Env} {e : Expr} {scope : Scope} {pos : Pos} {newAcc first : Sem Value} {g : Comprehension} {gs : List Comprehension} {cl : List (Str × Addr)} {use : Option (Value → Sem Unit)}
    {Q : Value → Shared → Prop}
    (hcl : clausesOf e = g :: gs) (hs : ∀ x, foldedSetIterable g.iter env x = pure x) (hclos : closureFor scope env = pure cl)
    (hkind : scope.kind = .function) (hnames : ∀ x ∈ scope.names, x.2 = .local → scope.names.lookup x.1 = some .local)
    (h : wpAny M A first (fun x s₁ => wpAny M A (pyIter x) (fun it s₂ => wpAny M A newAcc (fun acc s₃ =>
      wpAny M A (newFunctionEnv scope env.globals cl [] env.qual none .none (some env)) (fun cenv s₄ =>
        codeAny M A (.compStart e 0 it acc { cenv with scope := relabel scope env }) (compPostF M A E use Q acc cenv.locals cenv.frame) s₄) E s₃) E s₂) E s₁) E s) :
    wpAny M A (comprehension e scope env pos newAcc false first use) Q E s := by
  unfold comprehension
  rw [hclos, hcl]
  refine wpAny_bind (wpAny_mono h (fun x s₁ h₁ => wpAny_bind (wpAny_standAt (wpAny_bind (wpAny_of_eq (hs x) (wpAny_bind (wpAny_holding (wpAny_mono h₁ (fun it s₂ h₂ =>
    wpAny_standIf (wpAny_bind (wpAny_mono h₂ (fun acc s₃ h₃ => wpAny_bind (wpAny_pure (wpAny_bind (wpAny_mono h₃ (fun cenv s₄ h₄ => ?_) fun _ _ h' => h')))) fun _ _ h' => h')))
      fun _ _ h' => h'))))))) fun _ _ h' => h')
  dsimp only
  have hv : ∀ x ∈ (scope.names.filter fun x => (x.2 == .local || x.2 == .cell) && x.1 != (".0" : Str)).reverse, x.2 = .local →
      Env.kindOf { cenv with scope := relabel scope env } x.1 = some .local := fun x hx hl => lookup_relabel_local (hnames x (List.mem_filter.mp (List.mem_reverse.mp hx)).1 hl)
  have hv' : ∀ x ∈ (scope.names.filter fun x => (x.2 == .local || x.2 == .cell) && x.1 != (".0" : Str)).reverse.drop 1 ++ (scope.names.filter fun x => (x.2 == .local || x.2 == .cell) && x.1 != (".0" : Str)).reverse.take 1,
      x.2 = .local → Env.kindOf { cenv with scope := relabel scope env } x.1 = some .local := fun x hx hl => by
    rcases List.mem_append.mp hx with h1 | h1
    · exact hv x (List.mem_of_mem_drop h1) hl
    · exact hv x (List.mem_of_mem_take h1) hl
  refine wpAny_holding (wpAny_bind (wpAny_attempt (wpAny_holding (wpAny_run (codeAny_mono h₄ fun r s' hr => ?_)))))
  cases r with
  | ok f =>
    cases use with
    | none =>
      obtain ⟨m, hn, hr⟩ := hr
      exact wpAny_bind (wpAny_holding (wpAny_comp_letGo (cenv := { cenv with scope := relabel scope env }) hkind _ s' m hv hn fun h' m' _ hs' => wpAny_pure (hr h' hs')))
    | some u =>
      refine wpAny_bind (wpAny_rule (wpAny_bind (wpAny_holding (wpAny_mono hr (fun _ s'' hr' => ?_) fun _ _ h' => h'))))
      obtain ⟨m, hn, hr'⟩ := hr'
      exact wpAny_bind (wpAny_comp_letGo (cenv := { cenv with scope := relabel scope env }) hkind _ s'' m hv' hn fun h' m' _ hs' => wpAny_pure (hr' h' hs'))
  | error x =>
    obtain ⟨m, hn, hr⟩ := hr
    exact wpAny_bind (wpAny_holding (wpAny_comp_letGo (cenv := { cenv with scope := relabel scope env }) hkind _ s' m hv hn fun h' m' _ hs' => wpAny_mono (hr h' hs' _ rfl rfl) (fun _ _ f => f.elim) fun _ _ y => y))
section
variable {X : Cx}
/-- a block's exception, out of the block -/
theorem block_out {pins : List (Addr × Obj)} {σ : L2.St} {H3 : Hp} {s3 : Shared} {scope : Scope} {ce : Env} {fp : List Addr} {E : XK} {L C : Addr} {use : Option (Value → Sem Unit)} {Q : Value → Shared → Prop} {acc u : Value} {s' : Shared}
    (I3 : Inv X pins σ H3 s3) (tk : TakesL X L fun cls d _ H => E cls d H) (hce : ce.frame = X.env.frame) (cL : ce.locals = C) (hC : s3.heap.objs.size = C) (f3 : ∀ b ∈ fp, FpOk X pins H3 b ∧ b < s3.heap.objs.size)
    (x : XEL (X.blk s3 H3 scope ce fp) L (fun cls d _ H => E cls d H) u s') : notedBy (model X.prog X.w) X.A ce (fun e s' => compPostF (model X.prog X.w) X.A X.xe use Q acc C X.env.frame (.error e) s') u s' := by
  obtain ⟨a, B, sI, p, σ', H, cls, d, rfl, IB, nb, up, sky, na, os, ag, hE⟩ := x
  obtain ⟨e0, outer, hst, he0⟩ := tk.st
  have I7 : Inv X pins σ H sI := I3.call' (ch := fp) IB.os IB.base IB.hok IB.bare fun b hb => ⟨(f3 b hb).1.2.2.2.1, (f3 b hb).1.2.1, (f3 b hb).1.2.2.2.2.1, (f3 b hb).1.2.2.2.2.2⟩
  have nC : H C = none := by
    have z : H ce.locals = none := IB.free
    rw [cL] at z
    exact z
  have fC : FpOk X pins H C := I3.fpOk (Nat.le_of_eq hC) nC
  obtain ⟨m, hn, _⟩ := IB.loc
  have hn : sI.heap.Ns ce.locals m := hn
  rw [cL] at hn
  obtain ⟨oC, es, ep, hoC, hdC, hsk, hfd⟩ := hn
  have hCs : C ∉ frs X.stack := fun z => by
    rcases List.mem_cons.mp (I3.stkSub C z) with e | e
    · exact fC.2.1 e
    · exact fC.2.2.1 e
  have hBC : B.get? C = some oC := nb C oC hoC hCs
  have hfr : X.A.frames = some (e0 :: outer) := by rw [I3.ok.frames, hst]
  unfold notedBy
  rw [note_congr (env' := e0) (by rw [hce, tk.fr, he0])]
  have sky : Sky B (e0 :: outer) a (Zc cls d) L s'.heap := by
    have z : Sky B X.stack a (Zc cls d) L s'.heap := sky
    rw [hst] at z
    exact z
  refine Sky.note Zc.steady hfr he0 sky fun h1 hh up1 => ?_
  refine ⟨m, ⟨oC, es, ep, hh.1 _ _ hBC, hdC, hsk, hfd⟩, fun h2 sb cenv _ hcf => ?_⟩
  obtain ⟨k1, k2, k3, oe, vs, T, oT, ts, he, hz, hd, h1', hnT, hTe, hT, hdT, hfl⟩ := hh
  have aC : a ≠ C := fun z => by
    rw [z, hBC] at k2
    cases k2
  have TC : T ≠ C := fun z => by
    rw [z, hBC] at hnT
    cases hnT
  have at2 : ∀ b, b ≠ C → h2.get? b = h1.get? b := sb.2
  obtain ⟨B2, hB2⟩ : ∃ B2, B2 = PySem.W.hideAll B [C] := ⟨_, rfl⟩
  have b2n : ∀ b, B.get? b = none → B2.get? b = none := fun b e => by
    rw [hB2]
    cases q : (PySem.W.hideAll B [C]).get? b with
    | none => rfl
    | some o =>
      rw [PySem.W.of_hideAll _ q] at e
      cases e
  have b2C : B2.get? C = none := by
    rw [hB2]
    exact PySem.W.hideAll_none _ List.mem_cons_self
  have b2g : ∀ b o, b ≠ C → B.get? b = some o → B2.get? b = some o := fun b o h e => by
    rw [hB2]
    exact PySem.W.hideAll_get _ e fun z => h (List.mem_singleton.mp z)
  have b2o : ∀ b o, B2.get? b = some o → B.get? b = some o ∧ b ≠ C := fun b o e => ⟨by rw [hB2] at e; exact PySem.W.of_hideAll _ e, fun z => by rw [z, b2C] at e; cases e⟩
  have s2 : B2.StaysIn h2 := fun b o e => by
    rw [at2 b (b2o b o e).2]
    exact k1 b o (b2o b o e).1
  have ff2 : h2.FunFrames B2 (e0 :: outer) := funFrames_but at2 b2n k3 (by rw [← hst]; exact hCs)
  have he2 : h2.get? a = some oe := by
    rw [at2 a aC]
    exact he
  have tr2 : HandSPX.TracedZ h2 B2 a (Zc cls d) (rawInt L) := ⟨oe, vs, T, oT, ts, he2, hz, hd, h1', b2n _ hnT, hTe, by rw [at2 T TC]; exact hT, hdT, hfl⟩
  unfold PySem.passOn
  refine wpAny_bind (wpAny_field he2 hd h1' ?_)
  rw [if_neg (show ¬ ((Value.ref T == Value.none) = true) from by simp)]
  have fin : wpAny (model X.prog X.w) X.A (setFlight (.ref a) cenv.frame) (fun _ s4 => wpAny (model X.prog X.w) X.A (throw (.ref a) : Sem Value) (fun _ _ => False) X.xe s4) X.xe { s' with heap := h2 } := by
    rw [hcf, tk.fr]
    refine HandSPX.setFlight_anyZ s2 ff2 tr2 fun h3 s3' ff3 tr3 up3 => wpAny_throw (tk.tk _ _ ?_)
    obtain ⟨G, g1, g2⟩ := restrict h3 fun b => (B2.get? b).isSome || decide (b ∈ frs X.stack)
    have gB : ∀ b o, B2.get? b = some o → G.get? b = some o := fun b o e => by
      rw [g1 b (by simp [e])]
      exact s3' b o e
    have gF : ∀ b, b ∈ frs X.stack → G.get? b = h3.get? b := fun b hb => g1 b (by simp [hb])
    have og : ∀ b o, G.get? b = some o → h3.get? b = some o ∧ ((B2.get? b).isSome = true ∨ b ∈ frs X.stack) := fun b o e => by
      cases q : ((B2.get? b).isSome || decide (b ∈ frs X.stack)) with
      | false => rw [g2 b q] at e; cases e
      | true =>
        rw [g1 b q] at e
        exact ⟨e, by simpa [Bool.or_eq_true] using q⟩
    have slot : ∀ b o, sI.heap.get? b = some o → b ∈ frs X.stack → ∃ sl, G.get? b = some { o with slots := sl } := fun b o e hb => by
      obtain ⟨_, o', e', hnf⟩ := I7.stack.mem hb
      rw [e] at e'; cases e'
      obtain ⟨sl1, q1⟩ := up b o e hnf
      obtain ⟨sl2, q2⟩ := up1 b _ q1 hnf
      have q2' : h2.get? b = _ := (at2 b fun z => hCs (z ▸ hb)).trans q2
      obtain ⟨sl3, q3⟩ := up3 b _ q2' hnf
      exact ⟨sl3, by rw [gF b hb]; exact q3⟩
    refine ⟨a, B2, { sI with heap := G, gens := s'.gens, drawn := s'.drawn, toks := s'.toks }, pins, σ, H, cls, d, rfl, ?_, fun b o e hb => ?_, Heap.UpToSlots.of_keeps fun b o e => (og b o e).1, .inr (.inr ⟨s3', b2n _ k2, by rw [hst]; exact ff3, tr3⟩), na, os, ag, hE⟩
    · refine I7.call (ch := [C]) ⟨fun b o e n hb hc => gB b o (b2g b o (fun z => hc (by rw [z]; exact List.mem_cons_self)) (nb b o e hb)), fun b o e n hb _ => slot b o e hb, fun b o e n _ => n, fun b o e hc => ?_, fun _ _ e => e, fun _ _ _ e => e, fun b ps e => ⟨#[], by rw [e]; simp⟩⟩ ?_ ag fun b z => ?_
      · by_cases hb : b ∈ frs X.stack
        · obtain ⟨sl, q⟩ := slot b o e hb
          exact ⟨_, q⟩
        · exact ⟨o, gB b o (b2g b o (fun z => hc (by rw [z]; exact List.mem_cons_self)) (nb b o e hb))⟩
      · exact fun b o q => (I7.hok b o q).stay (fun c u hc r => gB c u (b2g c u (fun z => by
          rw [z] at hc
          rcases hc with hc | hc
          · rw [← hc, nC] at q; cases q
          · rw [nC] at hc; cases hc) (nb c u r fun hm => by
          have z := I7.stkFree c hm
          rcases hc with hc | hc
          · rw [hc, q] at z; cases z
          · rw [hc] at z; cases z))) (fun _ r => r) fun _ _ r => r
      · rw [List.mem_singleton.mp z]
        exact ⟨fC.2.2.2.1, fC.2.1, fC.2.2.2.2.1, fC.2.2.2.2.2⟩
    · obtain ⟨e', h⟩ := og b o e
      rcases h with h | h
      · obtain ⟨o', q⟩ := Option.isSome_iff_exists.mp h
        have z := s3' b o' q
        rw [e'] at z; cases z
        exact q
      · exact absurd h hb
  first
    | exact wpAny_bind (wpAny_pure (wpAny_bind fin))
    | exact wpAny_bind fin
end
/-- HandS's lc_core, an exception of the element allowed -/
theorem lc_coreX {X : Cx} {pins : List (Addr × Obj)} {s : Shared} {σ : L2.St} {H : Hp} {Q : VK} {elt tg iter : Expr} {ifs : List Expr} {scope : Scope} {own : List (Str × Nat)} {pos pos' : Pos} {wi : TI} {g : TG} {tt : TT} {te : TE} {use : Option (Value → Sem Unit)} {Qf : Value → Shared → Prop} {E : XK} {L : Addr}
    (tk : TakesL X L fun cls d _ H => E cls d H) (hc : X.calm = true) (hN : X.N.Nodup) (I : Inv X pins σ H s) (hi : PI X tg iter wi) (ok : BlkOk X.N X.env.scope scope own)
    (hg : ∀ (s : Shared) (H : Hp) (C : Addr) (cl : List (Str × Addr)) (fp : List Addr), PG (X.blk s H scope (compEnvC scope cl C X.env) fp) tg g) (ht : ∀ (s : Shared) (H : Hp) (C : Addr) (cl : List (Str × Addr)) (fp : List Addr), PTs (X.blk s H scope (compEnvC scope cl C X.env) fp) ifs tt)
    (he : ∀ (s : Shared) (H : Hp) (C : Addr) (cl : List (Str × Addr)) (fp : List Addr) (xe : Value → Shared → Prop), TakesL ((X.blk s H scope (compEnvC scope cl C X.env) fp).wish xe) L (fun cls d _ H => E cls d H) → PE ((X.blk s H scope (compEnvC scope cl C X.env) fp).wish xe) elt te) (hs : ∀ x, foldedSetIterable iter X.env x = pure x)
    (h : tLc wi g tt te (own.map (·.2)) σ H Q)
    (hRR : ∀ D C s' m H', Inv X pins σ H' s' → Q (.ref D) H' → s'.heap.Ns C m → FpOk X pins H' C → compPost (model X.prog X.w) X.A X.xe use Qf (.ref D) C (.ok .next) s') :
    wpAny (model X.prog X.w) X.A (comprehension (.ListComp elt [⟨tg, iter, ifs, 0⟩] scope pos) scope X.env pos' (newList []) false (eval iter X.env) use) Qf X.xe s := by
  have hfree : ∀ y ∈ scope.names, y.2 = .free → ∃ c, X.env.cells.lookup y.1 = some c := fun y hy e => by
    rcases ok.free y hy e with k | k
    · exact I.ok.has _ (.inl k)
    · exact I.ok.has _ (.inr k)
  refine comp_freeF (use := use) rfl hs (closure_ok hfree) ok.kind (fun y hy e => by rw [ok.uniq y hy, e])
    (thn (hi.run pins s σ H _ I h) fun xv s1 hx => thn hx fun itv s2 h2 => ?_)
  obtain ⟨it, fp, tn, J, H2, e, I2, T, st2, f2, q⟩ := h2
  subst e
  refine wpAny_newObj_type (newEnv_comp ?_) (by show 0 ≤ sizeLine; decide)
  generalize hD : s2.heap.objs.size = D
  have hDn : H2 D = none := I2.hok.fresh (Nat.le_of_eq hD)
  obtain ⟨W, ⟨m0, w0⟩, turn⟩ := q D hDn
  generalize hs3 : ({ s2 with heap := s2.heap.push { cls := .type "list", data := .seq ([] : List Value).toArray } } : Shared) = s3
  have I3 : Inv X pins σ (upd H2 D (.lst [])) s3 := by
    rw [← hs3]
    refine I2.laid (t' := s2.toks) (fun b o e => Heap.get?_push_of_some _ e) (Nat.le_of_eq hD) ⟨Nat.zero_le _, [], 0, .nil, ?_⟩
    rw [← hD]
    exact Heap.get?_push_size _ rfl
  have h3 : s3.heap = s2.heap.push { cls := .type "list", data := .seq ([] : List Value).toArray } := by rw [← hs3]
  have sz : ∀ b ∈ fp, b < s2.heap.objs.size := fun b hb => by
    obtain ⟨o, e, _⟩ := T.obj _ _ st2 b hb
    exact Heap.lt_size e
  have f3 : ∀ b ∈ fp, FpOk X pins (upd H2 D (.lst [])) b ∧ b < s3.heap.objs.size := fun b hb => by
    have hlt := sz b hb
    refine ⟨⟨?_, (f2 b hb).2⟩, by rw [h3, Heap.size_push]; exact Nat.lt_succ_of_lt hlt⟩
    rw [upd_ne (by rw [← hD]; exact Nat.ne_of_lt hlt)]
    exact (f2 b hb).1
  have st3 : tn 0 s3.heap := T.keep _ _ _ st2 fun b _ o e => by rw [h3]; exact Heap.get?_push_of_some _ e
  have I4 := block_start I3 ok hN f3
  have pg := hg s3 (upd H2 D (.lst [])) s3.heap.objs.size (cellsFrom (s3.heap.objs.size + 1) scope.names (cloFrom X.env.cells scope.names [])) fp
  have pt := ht s3 (upd H2 D (.lst [])) s3.heap.objs.size (cellsFrom (s3.heap.objs.size + 1) scope.names (cloFrom X.env.cells scope.names [])) fp
  have pe := he s3 (upd H2 D (.lst [])) s3.heap.objs.size (cellsFrom (s3.heap.objs.size + 1) scope.names (cloFrom X.env.cells scope.names [])) fp
  show codeAny _ _ (.compStart (.ListComp elt [⟨tg, iter, ifs, 0⟩] scope pos) 0 (.ref it) (.ref D) (compEnvC scope (cellsFrom (s3.heap.objs.size + 1) scope.names (cloFrom X.env.cells scope.names [])) s3.heap.objs.size X.env)) (compPostF (model X.prog X.w) X.A X.xe use Qf (.ref D) s3.heap.objs.size X.env.frame) { s3 with heap := pushCells (s3.heap.push { cls := .type "dict", data := .dict #[] }) scope.names }
  have nfp : ∀ b ∈ fp, (upd H2 D (.lst [])) b = none := fun b hb => (f3 b hb).1.1
  generalize hce : compEnvC scope (cellsFrom (s3.heap.objs.size + 1) scope.names (cloFrom X.env.cells scope.names [])) s3.heap.objs.size X.env = ce at I4 pg pt pe ⊢
  have cL : ce.locals = s3.heap.objs.size := by subst hce; rfl
  have cF : ce.frame = X.env.frame := by subst hce; rfl
  generalize hH3 : upd H2 D (.lst []) = H3 at I3 I4 pg pt pe w0 nfp f3
  generalize hs4 : ({ s3 with heap := pushCells (s3.heap.push { cls := .type "dict", data := .dict #[] }) scope.names } : Shared) = s4 at I4 ⊢
  have st4 : tn 0 s4.heap := T.keep _ _ _ st3 fun b _ o e => by rw [← hs4]; exact pushCells_keeps _ _ _ _ (Heap.get?_push_of_some _ e)
  have stat : ∀ {σ' : L2.St} {H' : Hp} {s' : Shared}, Inv (X.blk s3 H3 scope ce fp) [] σ' H' s' → (∀ b ∈ fp, H' b = none) → ∀ b ∈ fp, FpOk (X.blk s3 H3 scope ce fp) [] H' b := fun {σ' H' s'} I' hn b hb =>
    ⟨hn b hb, (I'.ok.exf b hb).1, I'.ok.exfs b hb, .inl hb, fun x c e => (I'.ok.exf b hb).2 x c e, fun p hp => absurd (show p ∈ ([] : List (Addr × Obj)) ++ [] from hp) (by simp)⟩
  have pe' := pe (XEL (X.blk s3 H3 scope ce fp) L fun cls d _ H => E cls d H) ⟨fun u s' ⟨a, B, sI, p, σ', H, cls, d, e, IB, z⟩ => ⟨a, B, sI, p, σ', H, cls, d, e, IB.unwish, z⟩, tk.st, cF.trans tk.fr⟩
  have loop : codeAny (model X.prog X.w) X.A (.compLoop (.ListComp elt [⟨tg, iter, ifs, 0⟩] scope pos) 0 (.ref it) (.ref D) ce) (compPostF (model X.prog X.w) X.A X.xe use Qf (.ref D) s3.heap.objs.size X.env.frame) s4 := by
    refine compLoop_any (fun n s' => ∃ i H', Inv (X.blk s3 H3 scope ce fp) [] (wipe σ (own.map (·.2))) H' s' ∧ tn i s'.heap ∧ (∀ b ∈ fp, H' b = none) ∧ W i n H') ?_ m0 ⟨0, H3, I4, st4, nfp, w0⟩
    rintro n s5 ⟨i, H5, I5, st5, n5, w5⟩
    rcases turn i n H5 w5 with ⟨stop, qq⟩ | ⟨go, Nx, hNx, step⟩
    · have td := T.done (X.blk s3 H3 scope ce fp) rfl rfl rfl hc i [] s5 _ H5 (fun _ _ => False) I5 (stat I5 n5) st5 stop
      refine thnF td fun r s6 ⟨hr, I6⟩ => ?_
      subst hr
      have I7 : Inv X pins σ H5 s6 := I3.call' (ch := fp) I6.os I6.base I6.hok I6.bare fun b hb => ⟨(f3 b hb).1.2.2.2.1, (f3 b hb).1.2.1, (f3 b hb).1.2.2.2.2.1, (f3 b hb).1.2.2.2.2.2⟩
      have nC : H5 s3.heap.objs.size = none := by
        have z : H5 ce.locals = none := I6.free
        rw [cL] at z
        exact z
      obtain ⟨m, hn, _⟩ := I6.loc
      have hn : s6.heap.Ns ce.locals m := hn
      rw [cL] at hn
      exact hRR D s3.heap.objs.size s6 m H5 I7 qq hn (I3.fpOk (Nat.le_refl _) nC)
    · have ti := T.item (X.blk s3 H3 scope ce fp) rfl rfl rfl hc i [] s5 _ H5 (fun _ _ => False) I5 (stat I5 n5) st5 go
      refine thnF ti fun r s6 ⟨u, hr, h6⟩ => ?_
      subst hr
      refine thnF h6 fun _ s7 ⟨x, H7, I7, r7, y7, st7, n7⟩ => ?_
      have I7' := I7.pinned (stat I7 n7) (T.obj _ _ st7)
      refine thnF (pg.run _ s7 _ H7 x u _ I7' r7 (step x H7 y7)) fun _ s8 ⟨σ8, H8, I8, hw8, q8⟩ => ?_
      refine thnF (pt.run _ s8 σ8 H8 _ I8 q8) fun b s9 ⟨H9, I9, q9⟩ => ?_
      have fin : ∀ {s' : Shared} {H' : Hp}, Inv (X.blk s3 H3 scope ce fp) ([] ++ pinsAt fp s7.heap) σ8 H' s' → Nx H' → ∃ m, m < n ∧ ∃ i H', Inv (X.blk s3 H3 scope ce fp) [] (wipe σ (own.map (·.2))) H' s' ∧ tn i s'.heap ∧ (∀ b ∈ fp, H' b = none) ∧ W i m H' := fun {s' H'} I' nx => by
        obtain ⟨m', hm, w'⟩ := hNx H' nx
        have pin' : ∀ b ∈ fp, ∀ o, s7.heap.get? b = some o → s'.heap.get? b = some o ∧ H' b = none := fun b hb o e =>
          let z := I'.pin (b, o) (List.mem_append_right _ (List.mem_append_right _ (mem_pinsAt hb e)))
          ⟨z.1, z.2.1⟩
        have hl : (wipe σ (own.map (·.2))).length = σ8.length := by rw [← hw8, wipe_length]
        refine ⟨m', hm, i + 1, H', (I'.unpinned (pins := [])).weak hl (fun j v e => ?_), T.keep _ _ _ st7 fun b hb o e => (pin' b hb o e).1, fun b hb => ?_, w'⟩
        · rw [← hw8] at e
          exact (wipe_some e).1
        · obtain ⟨o, e, _⟩ := T.obj _ _ st7 b hb
          exact (pin' b hb o e).2
      cases b with
      | false =>
        simp only [Bool.false_eq_true, if_false] at q9 ⊢
        exact fin I9 q9
      | true =>
        simp only [if_true] at q9 ⊢
        refine wpAny_mono (pe'.run _ s9 σ8 H9 _ (I9.wish _) q9) (fun z s10 ⟨yv, H10, I10, r10, acc, hD10, hz10, nx⟩ => ?_) fun u s10 hx => block_out I3 tk cF cL rfl f3 hx
        exact app_ok (X := X.blk s3 H3 scope ce fp) I10.unwish hD10 hz10 r10 fun s11 I11 => fin I11 nx
  exact codeAny_compStart_list loop (T.self X.A 0 _ _ _ st4 loop)
section
variable {X : Cx}
/-- as a value -/
theorem pe_lcX {elt tg iter : Expr} {ifs : List Expr} {scope : Scope} {own : List (Str × Nat)} {pos : Pos} {wi : TI} {g : TG} {tt : TT} {te : TE} {E : XK} {L : Addr} (tk : TakesL X L fun cls d _ H => E cls d H) (hc : X.calm = true) (hN : X.N.Nodup) (hi : PI X tg iter wi) (ok : BlkOk X.N X.env.scope scope own)
    (hg : ∀ (s : Shared) (H : Hp) (C : Addr) (cl : List (Str × Addr)) (fp : List Addr), PG (X.blk s H scope (compEnvC scope cl C X.env) fp) tg g) (ht : ∀ (s : Shared) (H : Hp) (C : Addr) (cl : List (Str × Addr)) (fp : List Addr), PTs (X.blk s H scope (compEnvC scope cl C X.env) fp) ifs tt)
    (he : ∀ (s : Shared) (H : Hp) (C : Addr) (cl : List (Str × Addr)) (fp : List Addr) (xe : Value → Shared → Prop), TakesL ((X.blk s H scope (compEnvC scope cl C X.env) fp).wish xe) L (fun cls d _ H => E cls d H) → PE ((X.blk s H scope (compEnvC scope cl C X.env) fp).wish xe) elt te) (hs : ∀ x, foldedSetIterable iter X.env x = pure x := by intro _; rfl) :
    PE X (.ListComp elt [⟨tg, iter, ifs, 0⟩] scope pos) (tLc wi g tt te (own.map (·.2))) := by
  refine ⟨fun pins s σ H Q I h => ?_⟩
  rw [eval_ListComp]
  refine lc_coreX tk hc hN I hi ok hg ht he hs h fun D C s' m H' I' q hn f => ⟨m, hn, fun h'' sb => ?_⟩
  obtain ⟨f0, f1, f2, f3, f4, f5⟩ := f
  exact ⟨.ref D, H', I'.turned (t' := s'.toks) (fun b o hb e => (sb.2 b hb).trans e) f0 f1 f3 f4 f5, rfl, q⟩
/-- name = [..] on one line, the name a local -/
theorem ps_setLcX {i : Nat} {y : Str} {py : Pos} {elt tg iter : Expr} {ifs : List Expr} {scope : Scope} {own : List (Str × Nat)} {pos spos : Pos} {wi : TI} {g : TG} {tt : TT} {te : TE} {E : XK} {L : Addr} (tk : TakesL X L fun cls d _ H => E cls d H) (hc : X.calm = true) (hN : X.N.Nodup) (hy : X.N[i]? = some y) (hyl : X.env.scope.names.lookup y = some .local)
    (hsw : swapsWith (.ListComp elt [⟨tg, iter, ifs, 0⟩] scope pos) (some (.Name y py)) spos.line X.env = pure true) (hi : PI X tg iter wi) (ok : BlkOk X.N X.env.scope scope own)
    (hg : ∀ (s : Shared) (H : Hp) (C : Addr) (cl : List (Str × Addr)) (fp : List Addr), PG (X.blk s H scope (compEnvC scope cl C X.env) fp) tg g) (ht : ∀ (s : Shared) (H : Hp) (C : Addr) (cl : List (Str × Addr)) (fp : List Addr), PTs (X.blk s H scope (compEnvC scope cl C X.env) fp) ifs tt)
    (he : ∀ (s : Shared) (H : Hp) (C : Addr) (cl : List (Str × Addr)) (fp : List Addr) (xe : Value → Shared → Prop), TakesL ((X.blk s H scope (compEnvC scope cl C X.env) fp).wish xe) L (fun cls d _ H => E cls d H) → PE ((X.blk s H scope (compEnvC scope cl C X.env) fp).wish xe) elt te) (hs : ∀ x, foldedSetIterable iter X.env x = pure x := by intro _; rfl) :
    PS X (.Assign [.Name y py] (.ListComp elt [⟨tg, iter, ifs, 0⟩] scope pos) spos) (tAsg (tLc wi g tt te (own.map (·.2))) (gName i)) := by
  refine ⟨fun pins s σ H D I h => ?_⟩
  rw [exec_Assign_Name_used _ _ _ _ hsw]
  refine wpAny_bind (wpAny_standAt (wpAny_bind ?_))
  show wpAny _ X.A (do let _ ← comprehension (.ListComp elt [⟨tg, iter, ifs, 0⟩] scope pos) scope X.env (firstIterPos [⟨tg, iter, ifs, 0⟩] pos) (newList []) false (eval iter X.env) (some (assign (.Name y py) X.env))) _ _ s
  have h : tLc wi g tt te (own.map (·.2)) σ H (fun x H1 => gName i x σ H1 D.nx) := h
  refine wpAny_bind (thn (lc_coreX (Qf := fun _ s' => SP X pins D .next s') tk hc hN I hi ok hg ht he hs h fun L C s' m H' I' q hn f => ?_) fun _ s' hq => wpAny_pure (wpAny_pure hq))
  show wpAny _ _ (assign (.Name y py) X.env (.ref L)) _ _ _
  refine wpAny_assign_Name (store_ok2 (v := V.ref L) I' hN hy (.inl hyl) rfl (fun s2 I2 ⟨a, sb, ha⟩ => ?_) (.inr hyl))
  obtain ⟨f0, f1, f2, f3, f4, f5⟩ := f
  have haC : C ≠ a := by
    rcases ha with z | z
    · rw [z]; exact f1
    · exact fun e => f4 y a z e.symm
  refine ⟨m, hn.sameBut sb haC, fun h3 sb3 => ?_⟩
  exact ⟨_, H', I2.turned (t' := s2.toks) (fun b o hb e => (sb3.2 b hb).trans e) f0 f1 f3 f4 f5, q⟩
end
/-! ### .. as a reading: the first element that raises -/
abbrev XW (E : XK) : WX := fun cls d _ H => E cls d H
section
variable {K : PySem.W.Frag} {φ φ' : Addr → Prop} {J J' : Hp → Prop} {H H' H1 : Hp} {ρ ρ' : List (Option D)} {σ : L2.St} {E : XK} {c : Addr}
theorem rs_lc {wi : TI} {te : TE} {k : Nat} {pre post : List D} {d : D} {f : D → D} (hi : IterD K φ J wi ρ (pre ++ d :: post)) (hl : pre.length ≤ 1000000)
    (he : ∀ e ∈ pre, ∀ φ' J', Ext φ J φ' J' → EvD K φ' J' te ((wipeR ρ [k]).set k (some e)) (f e))
    (hr : ∀ φ' J', Ext φ J φ' J' → Rs K φ' J' te ((wipeR ρ [k]).set k (some d)) (XW E) c) : Rs K φ J (tLc wi (gName k) tYes te [k]) ρ (XW E) c := fun σ H A kx Q => by
  refine hi σ H A _ fun J0 ds H1 b1 A1 pd w => ?_
  subst pd
  intro D0 hD
  have neP : ∀ p s ns, Pooled φ J p s ns → p ≠ D0 := fun p s ns hp => by
    obtain ⟨a1, a2, a3, a4, h1, _⟩ := hp.ok _ A1.j
    exact ne_of_none h1 hD
  let φ' : Addr → Prop := fun a => φ a ∧ a ≠ D0
  have ext : ∀ acc : List V, Ext φ J φ' (fun H => J H ∧ H D0 = some (.lst acc)) := fun acc => ⟨fun _ h => h.1, fun p s ns hp => ⟨fun z => hp.np z.1, hp.ne, fun H h => hp.ok H h.1, fun H H' h k o => ⟨hp.st H H' h.1 k o, k _ _ (neP p s ns hp).symm h.2⟩⟩, fun a p h => ⟨p, fun e => h H1 A1.j (by rw [e]; exact hD)⟩⟩
  have mono : ∀ (acc : List V) (H2 : Hp), (∀ a, H1 a ≠ none → H2 a ≠ none) → H2 D0 ≠ none → Mo H2 (fun H => J H ∧ H D0 = some (.lst acc)) := fun acc H2 s h => (A1.mono.up s).and (Mo.at h)
  refine ⟨fun i m H2 => m = pre.length + 1 - i ∧ i ≤ pre.length ∧ But φ H1 H2 ∧ ∃ acc, Reps K φ' H2 ((pre.take i).map f) acc ∧ At K φ' (fun H => J H ∧ H D0 = some (.lst acc)) (wipeR ρ [k]) (L2.wipe σ [k]) H2,
    ⟨pre.length + 1, rfl, Nat.zero_le _, But.of (same_new hD), [], Reps.nil, ?_⟩, ?_⟩
  · have A2 := A1.newLive (o := .lst []) (J' := fun H => J H ∧ H D0 = some (.lst [])) hD ⟨A1.mono _ _ (fun a o _ e => same_new hD a o e) A1.j, upd_same⟩ (mono [] _ upd_tr (by rw [upd_same]; exact fun z => by cases z))
    exact ⟨A2.sr.wipe [k], A2.fr, A2.j, A2.mono⟩
  · rintro i m H2 ⟨rfl, hi, b2, acc, rs, A2⟩
    have upw : Up φ φ' H1 H2 := fun a o p e => ⟨⟨p, ne_of_none e hD⟩, b2.keep a o p e⟩
    obtain ⟨wg, _⟩ := w φ' i H2 upw A2.fr
    by_cases hlt : i < pre.length
    · have hd : (pre ++ d :: post)[i]? = some pre[i] := by rw [List.getElem?_append_left hlt]; exact List.getElem?_eq_getElem hlt
      obtain ⟨go, yl⟩ := wg _ hd
      refine .inr ⟨go, fun H3 => But φ H1 H3 ∧ ∃ acc, Reps K φ' H3 ((pre.take (i + 1)).map f) acc ∧ At K φ' (fun H => J H ∧ H D0 = some (.lst acc)) (wipeR ρ [k]) (L2.wipe σ [k]) H3, ?_, ?_⟩
      · rintro H3 ⟨b3, acc3, r3, A3⟩
        exact ⟨pre.length + 1 - (i + 1), by omega, rfl, hlt, b3, acc3, r3, A3⟩
      · intro x H3 hy
        obtain ⟨s3, r3⟩ := yl x H3 hy
        have A3 := A2.same s3
        have rs3 := rs.mono (But.of (φ := φ') s3)
        have b3 : But φ H1 H3 := b2.trans (But.of s3)
        have hmem : pre[i] ∈ pre := List.getElem_mem hlt
        have tk : (pre.take (i + 1)).map f = (pre.take i).map f ++ [f pre[i]] := by rw [List.take_add_one, List.getElem?_eq_getElem hlt, List.map_append]; rfl
        refine ⟨(wipe_set (o := some x) (show k ∈ [k] by simp)).trans (wipe_wipe [k]), ?_⟩
        show tYes _ _ _
        refine he _ hmem φ' _ (ext acc) _ H3 (A3.set k r3) _ fun v y H6 b6 A6 pv r6 => ?_
        subst pv
        have rl := rs3.mono b6
        have nD : ¬ φ' D0 := fun z => z.2 rfl
        refine ⟨acc, A6.j.2, ?_, ?_, acc ++ [v], ?_, ?_⟩
        · rw [rl.length, List.length_map, List.length_take]
          exact szlt (by omega)
        · refine ⟨fun a o p e => ?_, fun a h => upd_tr a (b6.tr a (b3.tr a h))⟩
          have ne := ne_of_none e hD
          rw [upd_ne ne]
          exact b6.keep a o ⟨p, ne⟩ (b3.keep a o p e)
        · rw [tk]
          exact (rl.append (Reps.cons r6 Reps.nil)).mono ((But.refl φ' H6).upd nD)
        · have A6' : At K φ' (fun H => J H ∧ H D0 = some (.lst acc)) (wipeR ρ [k]) (L2.wipe σ [k]) H6 := ⟨A3.sr.up (Up.of b6), A6.fr, A6.j, A6.mono⟩
          have jj : J (upd H6 D0 (.lst (acc ++ [v]))) := A1.mono H6 _ (fun a o h e => by
            rw [upd_ne (show a ≠ D0 from fun z => h (by rw [z]; exact hD))]
            exact e) A6.j.1
          exact A6'.upd nD ⟨jj, upd_same⟩ (mono _ _ (fun a h => upd_tr a (b6.tr a (b3.tr a h))) (by rw [upd_same]; exact fun z => by cases z))
    · have e : i = pre.length := by omega
      subst e
      have hd : (pre ++ d :: post)[pre.length]? = some d := by rw [List.getElem?_append_right (Nat.le_refl _), Nat.sub_self]; rfl
      obtain ⟨go, yl⟩ := wg _ hd
      refine .inr ⟨go, fun _ => False, fun _ z => z.elim, ?_⟩
      intro x H3 hy
      obtain ⟨s3, r3⟩ := yl x H3 hy
      have A3 := A2.same s3
      have b3 : But φ H1 H3 := b2.trans (But.of s3)
      refine ⟨(wipe_set (o := some x) (show k ∈ [k] by simp)).trans (wipe_wipe [k]), ?_⟩
      show tYes _ _ _
      refine hr φ' _ (ext acc) _ H3 (A3.set k r3) (fun H' b' A' => ?_) _
      have bb : But φ H1 H' := ⟨fun a o p e => b'.keep a o ⟨p, ne_of_none e hD⟩ (b3.keep a o p e), fun a h => b'.tr a (b3.tr a h)⟩
      exact kx H' (b1.trans bb) ⟨A1.sr.up (Up.of bb), A'.fr.fst, A'.j.1, A1.mono.up bb.tr⟩
end

-- import HandS.Text
-- import HandS.Steps
-- import HandS.StrMore
-- import HandS.FStr
-- import HandS.Style
-- import HandS.TupLe
/-! ### texts -/
open TL
def rSplit : V → List V → Hp → VK → Prop := fun x xs H Q => ∃ a b, x = .str a ∧ xs = [.str b] ∧ (b.length == 0) = false ∧ a.length + 2 ≤ sizeLine ∧ rNewStrs (Txt.split a b) H Q
theorem mu_split {X : Cx} : MtR X "str.split" rSplit := mt_split
def rJoin (K : PySem.W.Frag) : V → List V → Hp → VK → Prop := fun x xs H Q => ∃ a p, ∃ ys : List Str, x = .str a ∧ xs = [.ref p] ∧ (SqL K H p (ys.map V.str) ∨ SqT K H p (ys.map V.str)) ∧ (ys.map (·.length)).sum + ys.length * a.length ≤ 16777216 ∧ Q (.str (Txt.join a ys)) H
theorem mu_join {X : Cx} : MtR X "str.join" (rJoin X.K) := mt_join
theorem kmu_join {X : Cx} {K : PySem.W.Frag} (h : X.K = K) : MtR X "str.join" (rJoin K) := h ▸ mt_join
def rStarts : V → List V → Hp → VK → Prop := fun x xs H Q => ∃ a b, x = .str a ∧ xs = [.str b] ∧ Q (.bl (Txt.startswith a b)) H
theorem mu_startswith {X : Cx} : MtR X "str.startswith" rStarts := mt_startswith
def rRemP : V → List V → Hp → VK → Prop := fun x xs H Q => ∃ a b, x = .str a ∧ xs = [.str b] ∧ a.length ≤ sizeLine ∧ Q (.str (Txt.removeprefix a b)) H
theorem mu_removeprefix {X : Cx} : MtR X "str.removeprefix" rRemP := mt_removeprefix
def rIntS : List V → Hp → VK → Prop := fun xs H Q => ∃ a n, xs = [.str a] ∧ PySem.intText? a = some n ∧ a.length ≤ 640 ∧ Q (.int n) H
theorem c_intS {X : Cx} : CallR X (.type "int") rIntS := call_int_str
theorem op_addS {X : Cx} : OpR X (binaryOp .Add) rAddS := op_add_str
section
variable {K : PySem.W.Frag} {φ φ' : Addr → Prop} {J J' : Hp → Prop} {H H' H1 : Hp} {ρ ρ' : List (Option D)} {σ : L2.St} {te ta tb to : TE} {s t : Str} {i : Int}
theorem reps_strs : ∀ ys : List Str, Reps K φ H (ys.map D.str) (ys.map V.str)
  | [] => Reps.nil
  | _ :: ys => Reps.cons rfl (reps_strs ys)
theorem ev_split (ha : EvD K φ J to ρ (.str s)) (hb : EvD K φ J te ρ (.str t)) (ht : (t.length == 0) = false) (hz : s.length ≤ 1000000) : EvN K φ J (tM1 rSplit to te) ρ (fun x => x = (Txt.split s t).map D.str) := fun σ H A Q q =>
  ha σ H A _ fun v x H1 b1 A1 e1 r1 => by
    subst e1
    cases (show v = _ from r1)
    refine ⟨⟨s, rfl⟩, hb σ H1 A1 _ fun w y H2 b2 A2 e2 r2 => ?_⟩
    subst e2
    cases (show w = _ from r2)
    refine ⟨s, t, rfl, rfl, ht, Nat.le_trans (Nat.add_le_add_right hz 2) (by decide), fun p hp => ?_⟩
    refine q p _ _ H2 _ (b1.trans b2) A2 hp (But.of (same_new hp)) (A2.same (same_new hp)) rfl upd_same ?_
    exact reps_strs _
theorem ev_splitD (ha : EvD K φ J to ρ (.str s)) (hb : EvD K φ J te ρ (.str t)) (ht : (t.length == 0) = false) (hz : s.length ≤ 1000000) : EvD K φ J (tM1 rSplit to te) ρ (.lst ((Txt.split s t).map D.str)) := ev_newD (ev_split ha hb ht hz)
theorem ev_join {ys : List Str} (ha : EvD K φ J to ρ (.str s)) (hb : EvD K φ J te ρ (.lst (ys.map D.str))) (hz : (ys.map (·.length)).sum + ys.length * s.length ≤ 16777216) : EvD K φ J (tM1 (rJoin K) to te) ρ (.str (Txt.join s ys)) := fun σ H A Q q =>
  ha σ H A _ fun v x H1 b1 A1 e1 r1 => by
    subst e1
    cases (show v = _ from r1)
    refine ⟨⟨s, rfl⟩, hb σ H1 A1 _ fun w y H2 b2 A2 e2 r2 => ?_⟩
    subst e2
    obtain ⟨a, vs, rfl, pa, ra⟩ := rep_lst r2
    cases Reps.strs ra
    exact ⟨s, a, ys, rfl, rfl, .inl pa.sq, hz, q _ _ H2 (b1.trans b2) A2 rfl rfl⟩
theorem ev_startswith (ha : EvD K φ J to ρ (.str s)) (hb : EvD K φ J te ρ (.str t)) : EvD K φ J (tM1 rStarts to te) ρ (.bl (Txt.startswith s t)) := fun σ H A Q q =>
  ha σ H A _ fun v x H1 b1 A1 e1 r1 => by
    subst e1
    cases (show v = _ from r1)
    refine ⟨⟨s, rfl⟩, hb σ H1 A1 _ fun w y H2 b2 A2 e2 r2 => ?_⟩
    subst e2
    cases (show w = _ from r2)
    exact ⟨s, t, rfl, rfl, q _ _ H2 (b1.trans b2) A2 rfl rfl⟩
theorem ev_removeprefix (ha : EvD K φ J to ρ (.str s)) (hb : EvD K φ J te ρ (.str t)) (hz : s.length ≤ 1000000) : EvD K φ J (tM1 rRemP to te) ρ (.str (Txt.removeprefix s t)) := fun σ H A Q q =>
  ha σ H A _ fun v x H1 b1 A1 e1 r1 => by
    subst e1
    cases (show v = _ from r1)
    refine ⟨⟨s, rfl⟩, hb σ H1 A1 _ fun w y H2 b2 A2 e2 r2 => ?_⟩
    subst e2
    cases (show w = _ from r2)
    exact ⟨s, t, rfl, rfl, sz hz, q _ _ H2 (b1.trans b2) A2 rfl rfl⟩
theorem ev_intS {n : Int} (ha : EvD K φ J te ρ (.str s)) (hn : PySem.intText? s = some n) (hz : s.length ≤ 640) : EvD K φ J (tCB rIntS (tCons te tNil)) ρ (.int n) := ev_cbD (ea_cons ha ea_nil) fun H vs f r Q q => by
  obtain ⟨v, rfl, r1⟩ := r.one
  cases (show v = _ from r1)
  exact ⟨s, n, rfl, hn, hz, q _ _ H (Same.refl H) rfl rfl⟩
theorem ev_addS (ha : EvD K φ J ta ρ (.str s)) (hb : EvD K φ J tb ρ (.str t)) (hz : s.length + t.length ≤ 1000000) : EvD K φ J (tOp rAddS ta tb) ρ (.str (s ++ t)) := ev_opD ha hb fun H v w f r1 r2 Q q => by
  cases (show v = _ from r1)
  cases (show w = _ from r2)
  exact ⟨s, t, rfl, rfl, sz hz, q _ _ H (Same.refl H) rfl rfl⟩
theorem ev_inS {c : Nat} (ha : EvD K φ J ta ρ (.str ⟨#[c]⟩)) (hb : EvD K φ J tb ρ (.str t)) : EvD K φ J (tOp rInS ta tb) ρ (.bl (decide (c ∈ tl t))) := ev_opD ha hb fun H v w f r1 r2 Q q => by
  cases (show v = _ from r1)
  cases (show w = _ from r2)
  exact ⟨c, t, rfl, rfl, q _ _ H (Same.refl H) rfl rfl⟩
theorem ev_notInS {c : Nat} (ha : EvD K φ J ta ρ (.str ⟨#[c]⟩)) (hb : EvD K φ J tb ρ (.str t)) : EvD K φ J (tOp rNotInS ta tb) ρ (.bl (!decide (c ∈ tl t))) := ev_opD ha hb fun H v w f r1 r2 Q q => by
  cases (show v = _ from r1)
  cases (show w = _ from r2)
  exact ⟨c, t, rfl, rfl, q _ _ H (Same.refl H) rfl rfl⟩
theorem ev_ixStr {c : Nat} (ha : EvD K φ J ta ρ (.str s)) (hb : EvD K φ J tb ρ (.int i)) (hz : s.length ≤ 1000000) (h : L2.atI (tl s) i = some c) : EvD K φ J (tOp rIxS ta tb) ρ (.str ⟨#[c]⟩) := ev_opD ha hb fun H v w f r1 r2 Q q => by
  cases (show v = _ from r1)
  cases (show w = _ from r2)
  exact ⟨s, i, c, rfl, rfl, sz hz, h, q _ _ H (Same.refl H) rfl rfl⟩
theorem ev_slS {tl th : TO} {lo hi : Option Int} (ha : EvD K φ J te ρ (.str s)) (hl : EvO K φ J tl ρ lo) (hh : EvO K φ J th ρ hi) (hz : s.length ≤ 1000000) : EvD K φ J (tSl rSlS te tl th) ρ (.str (cutS s lo hi)) := fun σ H A Q q =>
  ha σ H A _ fun v x H1 b1 A1 e1 r1 => hl σ H1 A1 _ fun H2 b2 A2 => hh σ H2 A2 _ fun H3 b3 A3 => by
    subst e1
    cases (show v = _ from r1)
    exact ⟨s, rfl, sz hz, q _ _ H3 ((b1.trans b2).trans b3) A3 rfl rfl⟩
/-- the texts of an f-string -/
inductive EvJ (K : PySem.W.Frag) (φ : Addr → Prop) (J : Hp → Prop) (ρ : List (Option D)) : List TE → List Str → Prop where
  | nil : EvJ K φ J ρ [] []
  | cons {te : TE} {ts : List TE} {s : Str} {ss : List Str} (h : EvD K φ J te ρ (.str s)) (r : EvJ K φ J ρ ts ss) : EvJ K φ J ρ (te :: ts) (s :: ss)
theorem evj_run {ts : List TE} {ss : List Str} (h : EvJ K φ J ρ ts ss) : ∀ (acc : Str) (σ : L2.St) (H : Hp), At K φ J ρ σ H → acc.length + (ss.map (·.length)).sum ≤ 1000000 → ∀ Q : Str → Hp → Prop, (∀ H', But φ H H' → At K φ J ρ σ H' → Q (ss.foldl (· ++ ·) acc) H') → tJs ts acc σ H Q := by
  induction h with
  | nil => exact fun acc σ H A _ Q q => q H (But.refl _ _) A
  | @cons te ts s ss h r ih =>
    intro acc σ H A hz Q q
    rw [List.map_cons, List.sum_cons] at hz
    refine h σ H A _ fun v d H1 b1 A1 e r1 => ?_
    subst e
    cases (show v = _ from r1)
    have hl : (acc ++ s).length = acc.length + s.length := by simp only [len_tl, tl_append, List.length_append]
    exact ⟨s, rfl, sz (by rw [hl]; omega), ih (acc ++ s) σ H1 A1 (by rw [hl]; omega) Q fun H' b A' => q H' (b1.trans b) A'⟩
theorem ev_fstr {ts : List TE} {ss : List Str} (h : EvJ K φ J ρ ts ss) (hz : (ss.map (·.length)).sum ≤ 1000000) : EvD K φ J (fun σ H Q => tJs ts Str.empty σ H fun out H1 => Q (.str out) H1) ρ (.str (ss.foldl (· ++ ·) Str.empty)) := fun σ H A Q q =>
  evj_run h Str.empty σ H A (by show 0 + _ ≤ _; omega) _ fun H' b A' => q _ _ H' b A' rfl rfl
theorem ev_fmtI (h : EvD K φ J te ρ (.int i)) (hz : i.natAbs.log2 < 1920) : EvD K φ J (tFmt te) ρ (.str (toString i)) := fun σ H A Q q =>
  h σ H A _ fun v d H1 b1 A1 e r1 => by
    subst e
    exact .inr ⟨i, r1, hz, q _ _ H1 b1 A1 rfl rfl⟩
theorem ev_fmtS (h : EvD K φ J te ρ (.str s)) (hz : s.length ≤ 1000000) : EvD K φ J (tFmt te) ρ (.str s) := fun σ H A Q q =>
  h σ H A _ fun v d H1 b1 A1 e r1 => by
    subst e
    exact .inl ⟨s, r1, sz hz, q _ _ H1 b1 A1 rfl rfl⟩
end
/-! ### xs.pop() as a part of a reading -/
section
variable {K : PySem.W.Frag} {φ φ' : Addr → Prop} {J J' : Hp → Prop} {H H' H1 : Hp} {ρ ρ' : List (Option D)} {σ : L2.St} {te ta tb to : TE} {s : Str} {D0 : Ends} {t u : TS} {l : Addr} {ds : List D} {d : D}
theorem pop_run {k : Nat} (A : At K φ J ρ σ H) (L : LivS K φ J l HO.lst (ds ++ [d])) (hk : ρ[k]? = some (some (.raw (.ref l)))) {Q : VK}
    (kk : ∀ v J' H', Wr K φ J J' l → LivS K φ J' l HO.lst ds → At K φ J' ρ σ H' → Rep K φ H' d v → Q v H') : tBM0 K "list" rPop (tVar k) σ H Q := by
  obtain ⟨vs, H0, r, m, k0⟩ := L.ex
  obtain ⟨w, e, rw'⟩ := A.sr.2 k _ hk
  cases (show w = _ from rw')
  have r1 := r.mono (k0 _ A.j).2
  have hl : vs.length = ds.length + 1 := by rw [r1.length, List.length_append]; rfl
  obtain ⟨v, hv, rv⟩ := r1.get (i := ds.length) (d := d) (by rw [List.getElem?_append_right (Nat.le_refl _), Nat.sub_self]; rfl)
  have e2 : (ds ++ [d]).eraseIdx ds.length = ds := by rw [List.eraseIdx_append_of_length_le (Nat.le_refl _), Nat.sub_self]; exact List.append_nil ds
  have e3 : vs.eraseIdx ds.length = vs.dropLast := by rw [← show vs.length - 1 = ds.length by omega]; exact List.eraseIdx_length_sub_one
  refine ⟨_, e, .inl ⟨rfl, _, SqL.of (k0 _ A.j).1⟩, l, vs, v, rfl, rfl, (k0 _ A.j).1, by rw [hl]; exact hv, ?_⟩
  have r2 := reps_erase ds.length r1
  rw [e2, e3] at r2
  obtain ⟨A2, L2', W⟩ := L.write (C' := HO.lst) (vs' := vs.dropLast) A r2
  exact kk v _ _ W L2' A2 (rv.mono ((But.refl φ H).upd L.np))
/-- if xs.pop() != "..": -/
theorem st_popNe {k : Nat} (A : At K φ J ρ σ H) (L : LivS K φ J l HO.lst (ds ++ [.str s])) (hk : ρ[k]? = some (some (.raw (.ref l))))
    (kk : ∀ J' H', Wr K φ J J' l → LivS K φ J' l HO.lst ds → At K φ J' ρ σ H' → tIfS (tTest (tOp rNe (tC (.str s)) tb)) t u D0 σ H') : tIfS (tTest (tOp rNe (tBM0 K "list" rPop (tVar k)) tb)) t u D0 σ H :=
  pop_run A L hk fun v J' H' W L' A' r => by
    cases (show v = _ from r)
    exact kk J' H' W L' A'
/-- if xs.pop() != ".." or ..: -/
theorem st_popOr {k : Nat} {rest : TT} (A : At K φ J ρ σ H) (L : LivS K φ J l HO.lst (ds ++ [.str s])) (hk : ρ[k]? = some (some (.raw (.ref l))))
    (kk : ∀ J' H', Wr K φ J J' l → LivS K φ J' l HO.lst ds → At K φ J' ρ σ H' → tIfS (tOr (tTest (tOp rNe (tC (.str s)) tb)) rest) t u D0 σ H') : tIfS (tOr (tTest (tOp rNe (tBM0 K "list" rPop (tVar k)) tb)) rest) t u D0 σ H :=
  pop_run A L hk fun v J' H' W L' A' r => by
    cases (show v = _ from r)
    exact kk J' H' W L' A'
end
/-! ### xs[::-1], t <= u -/
section
variable {K : PySem.W.Frag} {φ : Addr → Prop} {J : Hp → Prop} {ρ : List (Option D)} {ta tb te : TE} {ds : List D} {ns ms : List Int}
theorem reps_rev {H : Hp} : ∀ {ds : List D} {vs : List V}, Reps K φ H ds vs → Reps K φ H ds.reverse vs.reverse
  | [], vs, h => by
    cases (show vs = [] from h)
    exact Reps.nil
  | x :: ds, vs, h => by
    obtain ⟨u, r', rfl, g1, g2⟩ := (show ∃ v r, vs = v :: r ∧ Rep K φ H x v ∧ Reps K φ H ds r from h)
    rw [List.reverse_cons, List.reverse_cons]
    exact (reps_rev g2).append (Reps.cons g1 Reps.nil)
theorem en_revL (ha : EvD K φ J te ρ (.lst ds)) : EvN K φ J (tRevL K te) ρ (fun x => x = ds.reverse) := fun σ H A Q q =>
  ha σ H A _ fun v x H1 b1 A1 e1 r1 => by
    subst e1
    obtain ⟨a, vs, rfl, pa, ra⟩ := rep_lst r1
    exact ⟨a, vs, rfl, pa.sq, fun p hp => q p _ _ H1 _ b1 A1 hp (But.of (same_new hp)) (A1.same (same_new hp)) rfl upd_same (reps_new hp (reps_rev ra))⟩
theorem ev_revL (ha : EvD K φ J te ρ (.lst ds)) : EvD K φ J (tRevL K te) ρ (.lst ds.reverse) := ev_newD (en_revL ha)
theorem ev_leT (ha : EvD K φ J ta ρ (.tup (ns.map D.int))) (hb : EvD K φ J tb ρ (.tup (ms.map D.int))) : EvD K φ J (tOp (rLeT K) ta tb) ρ (.bl (Ob.lexAt (fun j => decide (ns.getD j 0 = ms.getD j 0)) (fun j => decide (ns.getD j 0 ≤ ms.getD j 0)) (decide (ns.length ≤ ms.length)) 0 (min ns.length ms.length))) := ev_opD ha hb fun H v w _ r1 r2 Q q => by
  obtain ⟨a, rfl, h1⟩ := rep_tupI r1
  obtain ⟨b, rfl, h2⟩ := rep_tupI r2
  exact ⟨a, b, ns, ms, rfl, rfl, h1, h2, q _ _ H (Same.refl H) rfl rfl⟩
theorem lexAtLe2 (a b c d : Int) : Ob.lexAt (fun j => decide (([a, b] : List Int).getD j 0 = ([c, d] : List Int).getD j 0)) (fun j => decide (([a, b] : List Int).getD j 0 ≤ ([c, d] : List Int).getD j 0)) (decide (([a, b] : List Int).length ≤ ([c, d] : List Int).length)) 0 (min ([a, b] : List Int).length ([c, d] : List Int).length) = !SrtO.lexB (c, d) (a, b) := by
  have e : min ([a, b] : List Int).length ([c, d] : List Int).length = 2 := rfl
  rw [e, Ob.lexAt_succ]
  show (if decide (a = c) = true then _ else decide (a ≤ c)) = _
  by_cases h1 : a = c
  · rw [if_pos (decide_eq_true h1), Ob.lexAt_succ]
    show (if decide (b = d) = true then _ else decide (b ≤ d)) = _
    by_cases h2 : b = d
    · rw [if_pos (decide_eq_true h2), Ob.lexAt_zero]
      unfold SrtO.lexB
      rw [if_pos (show (c, d).1 = (a, b).1 from h1.symm), decide_eq_false (show ¬ d < b by omega)]
      rfl
    · rw [if_neg (by simp [h2])]
      unfold SrtO.lexB
      rw [if_pos (show (c, d).1 = (a, b).1 from h1.symm)]
      show decide (b ≤ d) = !decide (d < b)
      by_cases h3 : d < b
      · rw [decide_eq_true h3, decide_eq_false (by omega)]; rfl
      · rw [decide_eq_false h3, decide_eq_true (by omega)]; rfl
  · rw [if_neg (by simp [h1])]
    unfold SrtO.lexB
    rw [if_neg (show ¬ (c, d).1 = (a, b).1 from fun z => h1 z.symm)]
    show decide (a ≤ c) = !decide (c < a)
    by_cases h3 : c < a
    · rw [decide_eq_true h3, decide_eq_false (by omega)]; rfl
    · rw [decide_eq_false h3, decide_eq_true (by omega)]; rfl
theorem ev_leP2 {p q : Int × Int} (ha : EvD K φ J ta ρ (prDD p)) (hb : EvD K φ J tb ρ (prDD q)) : EvD K φ J (tOp (rLeT K) ta tb) ρ (.bl (!SrtO.lexB q p)) := by
  rw [show (!SrtO.lexB q p) = _ from (lexAtLe2 p.1 p.2 q.1 q.2).symm]
  exact ev_leT (ns := [p.1, p.2]) (ms := [q.1, q.2]) ha hb
/-- a comprehension by three names -/
theorem en_lcT3 {wi : TI} {k1 k2 k3 : Nat} {f : D → D} (hi : IterD K φ J wi ρ ds) (hl : ds.length ≤ 1000000) (hd : ∀ d ∈ ds, ∃ a b c, d = .tup [a, b, c])
    (he : ∀ a b c, .tup [a, b, c] ∈ ds → ∀ φ' J', Ext φ J φ' J' → EvD K φ' J' te ((((wipeR ρ [k1, k2, k3]).set k1 (some a)).set k2 (some b)).set k3 (some c)) (f (.tup [a, b, c]))) :
    EvN K φ J (tLc wi (gTup K 3 (gCons (gName k1) (gCons (gName k2) (gCons (gName k3) gNil)))) tYes te [k1, k2, k3]) ρ (fun x => x = ds.map f) := fun σ H A Q q =>
  (en_lcP (ρd := fun d => match d with | .tup [a, b, c] => (((wipeR ρ [k1, k2, k3]).set k1 (some a)).set k2 (some b)).set k3 (some c) | _ => ρ) (us := [k1, k2, k3]) (pt := fun _ b => b = true) (pe := fun d y => y = f d) hi (fun ds' e => by rw [e]; exact hl) (fun _ h => h) (fun ds' e d hm => by
      subst e
      obtain ⟨a, b, c, rfl⟩ := hd d hm
      exact eg_tup (ds := [a, b, c]) (egs_cons eg_name (egs_cons eg_name (egs_cons eg_name egs_nil))))
    (fun ds' e d hm φ' J' x => by
      subst e
      obtain ⟨a, b, c, rfl⟩ := hd d hm
      exact et_yes) (fun ds' e d hm pd φ' J' x => by
      subst e
      obtain ⟨a, b, c, rfl⟩ := hd d hm
      exact he a b c hm φ' J' x)) σ H A Q fun p vs ys H0 H' b0 A0 hp b A' pd e r => by
      obtain ⟨ds', e1, c⟩ := pd
      subst e1
      exact q p vs ys H0 H' b0 A0 hp b A' c.map e r
end

-- import PyProof.StrOps2
-- import HandS.Style
-- import KE.KRevSl
/-! ### text * int, t[::-1] of a tuple -/
def mulS (a : Str) (n : Nat) : Str := ⟨(List.replicate n a.cps).foldl (· ++ ·) #[]⟩
def rMulS : R2 := fun x y H Q => ∃ (a : Str) (n : Int), x = .str a ∧ y = .int n ∧ 2 ≤ n ∧ n ≤ 1000 ∧ 1 ≤ a.length ∧ a.length ≤ 1000 ∧ Q (.str (mulS a n.toNat)) H
theorem foldl_app_size {α : Type} (xs : Array α) : ∀ (n : Nat) (acc : Array α), ((List.replicate n xs).foldl (· ++ ·) acc).size = acc.size + n * xs.size
  | 0, acc => by simp
  | n + 1, acc => by
    rw [List.replicate_succ, List.foldl_cons, foldl_app_size xs n, Array.size_append, Nat.succ_mul]
    omega
theorem mulS_length (a : Str) (n : Nat) : (mulS a n).length = n * a.length := by
  show ((List.replicate n a.cps).foldl (· ++ ·) #[]).size = n * a.cps.size
  rw [foldl_app_size]
  simp
theorem foldl_app_list {α : Type} (xs : Array α) : ∀ (n : Nat) (acc : Array α), ((List.replicate n xs).foldl (· ++ ·) acc).toList = acc.toList ++ (List.replicate n xs.toList).flatten
  | 0, acc => by simp
  | n + 1, acc => by
    rw [List.replicate_succ, List.foldl_cons, foldl_app_list xs n, Array.toList_append, List.replicate_succ, List.flatten_cons, List.append_assoc]
theorem tl_mulS (a : Str) (n : Nat) : TL.tl (mulS a n) = (List.replicate n (TL.tl a)).flatten := by
  show ((List.replicate n a.cps).foldl (· ++ ·) #[]).toList = _
  rw [foldl_app_list]
  rfl
theorem op_mulS {X : Cx} : OpR X (binaryOp .Mult) rMulS := by
  intro pins s σ H x y v u Q I rx ry h
  obtain ⟨a, n, rfl, rfl, h1, h2, h3, h4, q⟩ := h
  obtain ⟨t, rfl⟩ := rx
  obtain ⟨t', rfl⟩ := ry
  have hl : a.length * n.toNat ≤ 1000000 := by
    have : n.toNat ≤ 1000 := by omega
    exact Nat.mul_le_mul h4 this
  have e1 : ¬ n < 1 := by omega
  have e2 : ¬ (n == 1 || a.length == 0) = true := by
    rw [Bool.or_eq_true, beq_iff_eq, beq_iff_eq]
    omega
  refine PySem.P.mul_str (by rw [decide_eq_false (show ¬ n < -(2 ^ 63 : Int) by omega), decide_eq_false (show ¬ n ≥ 2 ^ 63 by omega)]; rfl) (fun _ _ => ?_) (fun _ _ => ?_) ?_
  · have : (2 ^ 63 - 1) / n ≥ 1000 := by
      refine (Int.le_ediv_iff_mul_le (by omega)).mpr ?_
      omega
    omega
  · have hs : a.length * n.toNat ≤ sizeLine := sz hl
    show decide (a.length * n.toNat > sizeLine) = false
    exact decide_eq_false (Nat.not_lt.mpr hs)
  · rw [if_neg e1, if_neg e2]
    refine ⟨?_, .str (mulS a n.toNat), H, I.tok _, ⟨_, rfl⟩, q⟩
    show ((List.replicate n.toNat a.cps).foldl (· ++ ·) #[]).size ≤ _
    have := mulS_length a n.toNat
    unfold mulS at this
    exact Nat.le_trans (Nat.le_of_eq this) (by rw [Nat.mul_comm]; exact sz hl)
section
variable {K : PySem.W.Frag} {φ : Addr → Prop} {J : Hp → Prop} {ρ : List (Option D)} {ta tb : TE} {s : Str} {i : Int}
theorem ev_mulS (ha : EvD K φ J ta ρ (.str s)) (hb : EvD K φ J tb ρ (.int i)) (h1 : 2 ≤ i) (h2 : i ≤ 1000) (h3 : 1 ≤ s.length) (h4 : s.length ≤ 1000) : EvD K φ J (tOp rMulS ta tb) ρ (.str (mulS s i.toNat)) := ev_opD ha hb fun H v w f r1 r2 Q q => by
  cases (show v = _ from r1)
  cases (show w = _ from r2)
  exact ⟨s, i, rfl, rfl, h1, h2, h3, h4, q _ _ H (Same.refl H) rfl rfl⟩
end
/-! ### t[::-1] -/
section
open HT PyProof.Rows PySem.SeqAt PySem.MeetsSeq PySem.MeetsSeq2 PySem.MeetsSeq3
open PySem.AutoSeq1 (wpAny_loadPart')
variable {prog : Program} {w : World} {A : Around} {E : Value → Shared → Prop} {s : Shared}
theorem sliceApplied_rev {sl : Addr} {vl vu vs : Value} {n : Nat} {Q : Int × Int × Nat → Shared → Prop} (hs : s.heap.IsSliceOf sl vl vu vs) (pl : IsPart vl none) (pu : IsPart vu none) (ps : IsPart vs (some (-1)))
    (h : Q ((n : Int) - 1, -1, n) s) : wpAny (model prog w) A (Builtin.Slice.sliceApplied (.ref sl) (pure (n : Int))) Q E s := by
  obtain ⟨os, hos, hcs, hds⟩ := id hs
  unfold Builtin.Slice.sliceApplied Builtin.Slice.sliceFields
  refine wpAny_bind (wpAny_bind (wpAny_field hos hds (x := vl) rfl (wpAny_bind (wpAny_field hos hds (x := vu) rfl (wpAny_bind (wpAny_field hos hds (x := vs) rfl (wpAny_pure ?_)))))))
  refine wpAny_bind (HT.slicePart_ ps ?_)
  show wpAny _ _ (if ((-1 : Int) == 0) = true then _ else _) _ _ s
  rw [if_neg (by decide)]
  refine wpAny_bind (HT.slicePart_ pl (wpAny_bind (HT.slicePart_ pu (wpAny_bind (wpAny_pure ?_)))))
  have e : Builtin.Slice.slicePlaces ((n : Int) - 1) (-1) (-1) = n := by
    unfold Builtin.Slice.slicePlaces
    rw [if_neg (by decide)]
    by_cases h0 : n = 0
    · subst h0
      rfl
    · rw [if_pos (by omega), show (- -1 : Int) = 1 by decide, Int.ediv_one]
      omega
  show wpAny _ _ (pure ((n : Int) - 1, (-1 : Int), Builtin.Slice.slicePlaces ((n : Int) - 1) (-1) (-1))) _ _ s
  rw [e]
  exact wpAny_pure h
theorem filterMap_same {α β : Type} {f g : α → Option β} : ∀ {l : List α}, (∀ m ∈ l, f m = g m) → l.filterMap f = l.filterMap g
  | [], _ => rfl
  | a :: l, h => by
    rw [List.filterMap_cons, List.filterMap_cons, h a List.mem_cons_self, filterMap_same fun m hm => h m (List.mem_cons_of_mem _ hm)]
theorem pick_rev (xs : Array Value) : ((List.range xs.size).filterMap fun (m : Nat) => xs[((xs.size : Int) - 1 + (m : Int) * -1).toNat]?).toArray = xs.toList.reverse.toArray := by
  have h1 : (List.range xs.size).filterMap (fun (m : Nat) => xs[((xs.size : Int) - 1 + (m : Int) * -1).toNat]?) = ((List.range xs.size).map (fun k => xs.size - 1 - k)).filterMap (xs[·]?) := by
    rw [List.filterMap_map]
    refine filterMap_same fun m hm => ?_
    have := List.mem_range.mp hm
    show _ = xs[xs.size - 1 - m]?
    rw [show ((xs.size : Int) - 1 + (m : Int) * -1).toNat = xs.size - 1 - m by omega]
  rw [h1, PySem.W.krv_range, List.filterMap_reverse, PySem.W.krv_all]
theorem getItem_tuple_rev {t sl : Addr} {items : Array Value} {vl vu vs : Value} {Q : Value → Shared → Prop} (ht : IsTup s.heap t items) (hs : s.heap.IsSliceOf sl vl vu vs) (pl : IsPart vl none) (pu : IsPart vu none) (ps : IsPart vs (some (-1)))
    (h : Q (.ref s.heap.objs.size) { s with heap := s.heap.push { cls := .type "tuple", data := .seq items.toList.reverse.toArray } })
    (hsz : items.size ≤ sizeLine) : wpAny (model prog w) A (getItem (.ref t) (.ref sl)) Q E s := by
  have htake : sizeOk (.seq items.toList.reverse.toArray) := by
    show items.toList.reverse.toArray.size ≤ sizeLine
    rw [List.size_toArray, List.length_reverse, Array.length_toList]
    exact hsz
  obtain ⟨os, hos, hcs, hds⟩ := id hs
  have hTs : s.TypeIs (.ref sl) "slice" := ⟨os, hos, hcs⟩
  unfold getItem
  try with_reducible refine wpAny_holding ?_
  first | refine wpAny_bind (wpAny_pure ?_) | skip
  refine wpAny_bind (wpAny_sequenceKey ht.typeIs (by decide) ?_)
  refine wpAny_bind (wpAny_callSpecial?_slot (name := Str.ofString "__getitem__") ht.typeIs PyProof.Rows.slot_tuple_getitem
    (wpAny_call_entry PyProof.Rows.slot_tuple_getitem ht.typeIs entry_tuple_getitem ?_ (args_tuple_getitem _ _)))
  show wpAny _ _ (Builtin.Tuple.tupleItemsOf (.ref t) >>= _) _ _ s
  refine wpAny_bind (tupleItemsOf_ ht ?_)
  refine wpAny_bind (wpAny_typeOf hTs ?_)
  rw [if_pos (by decide)]
  refine wpAny_bind (sliceApplied_rev hs pl pu ps ?_)
  have hno : ¬ ((((items.size : Int) - 1) == 0 && (-1 : Int) == 1 && items.size == items.size) = true) := by
    intro q
    rw [Bool.and_eq_true, Bool.and_eq_true] at q
    exact absurd q.1.2 (by decide)
  show wpAny _ _ (if (((items.size : Int) - 1) == 0 && (-1 : Int) == 1 && items.size == items.size) = true then _ else _) _ _ s
  rw [if_neg hno, pick_rev]
  first
    | exact wpAny_bind (m := Builtin.Tuple.tupleExact _) (wpAny_newObj_type (wpAny_pure ⟨_, rfl, wpAny_pure h⟩) htake)
    | exact wpAny_bind (m := Builtin.Tuple.tupleExact _) (wpAny_newObj_type (wpAny_bind (wpAny_pure (wpAny_pure ⟨_, rfl, wpAny_pure h⟩))) htake)
    | exact wpAny_bind (wpAny_bind (m := Builtin.Tuple.tupleExact _) (wpAny_newObj_type (wpAny_pure (wpAny_pure ⟨_, rfl, wpAny_pure h⟩)) htake))
    | exact wpAny_bind (wpAny_bind (m := Builtin.Tuple.tupleExact _) (wpAny_newObj_type (wpAny_pure ⟨_, rfl, wpAny_pure h⟩) htake))
end
def tRevT (K : PySem.W.Frag) (te : TE) : TE := fun σ H Q => te σ H fun x H1 => ∃ a xs, x = .ref a ∧ SqT K H1 a xs ∧ ∀ p, H1 p = none → Q (.ref p) (upd H1 p (.tup xs.reverse))
theorem pe_revT {X : Cx} {te : TE} {e : Expr} {k : Nat} {p1 p2 p3 pos : Pos} (he : PE X e te) : PE X (.Subscript e (.Slice none none (some (.UnaryOp .USub (.Constant (.int 1) k p1) p2)) p3) pos) (tRevT X.K te) := by
  refine ⟨fun pins s σ H Q I h => ?_⟩
  refine Subscript_ (thn (he.run pins s σ H _ I h) fun v s1 ⟨x, H1, I1, r1, q1⟩ => ?_)
  obtain ⟨a, xs, ex, hx, q⟩ := q1
  subst ex
  cases r1
  have hst : PO X (some (.UnaryOp .USub (.Constant (.int 1) k p1) p2)) (tPart (tUn (rU fun i => .int (-i)) (tC (.int 1)))) := po_some (pe_un un_neg pe_int)
  refine wpAny_Slice (thn (po_none.run pins s1 σ H1 (fun o H2 => o = none ∧ H2 = H1) I1 ⟨rfl, rfl⟩) fun vl s2 ⟨l, H2, I2, pl, el, e2⟩ => ?_)
  subst el e2
  refine thn (po_none.run pins s2 σ H2 (fun o H3 => o = none ∧ H3 = H2) I2 ⟨rfl, rfl⟩) fun vu s3 ⟨u, H3, I3, pu, eu, e3⟩ => ?_
  subst eu e3
  refine thn (hst.run pins s3 σ H3 (fun o H4 => o = some (-1) ∧ H4 = H3) I3 ⟨1, rfl, -1, rfl, rfl, rfl⟩) fun vs s4 ⟨o, H4, I4, ps, eo, e4⟩ => ?_
  subst eo e4
  have I5 : Inv X pins σ H4 { s4 with heap := s4.heap.push { cls := .type "slice", data := .fields #[vl, vu, vs] } } := I4.kept (t' := s4.toks) fun b ob q => Heap.get?_push_of_some _ q
  obtain ⟨its, r, ht, hz⟩ := I5.tuple hx
  have hlen := r.length
  show wpAny (model X.prog X.w) X.A (subscriptTail e (.Slice none none (some (.UnaryOp .USub (.Constant (.int 1) k p1) p2)) p3) (.ref a) (.ref s4.heap.objs.size)) (EP X pins σ Q) X.xe { s4 with heap := s4.heap.push { cls := .type "slice", data := .fields #[vl, vu, vs] } }
  refine PyProof.Rows.tail_any (ops := [.ref a, .ref s4.heap.objs.size]) ht.typeIs (PyProof.Rows.slot_tuple_getitem.lookup) ?_ (by with_unfolding_all rfl)
  refine getItem_tuple_rev ht (Heap.IsSliceOf.new _ vl vu vs) pl pu ps ?_ (by rw [List.size_toArray]; omega)
  refine ⟨.ref _, _, I5.laid (t' := s4.toks) (o := .tup xs.reverse) (fun b ob q => Heap.get?_push_of_some _ q) (Nat.le_refl _) ?_, rfl, q _ (I5.hok.fresh (Nat.le_refl _))⟩
  exact ⟨by rw [List.length_reverse]; exact hz, _, r.reverse, IsTup.new _ _⟩
section
variable {K : PySem.W.Frag} {φ : Addr → Prop} {J : Hp → Prop} {ρ : List (Option D)} {te : TE} {ds : List D}
theorem ev_revT (ha : EvD K φ J te ρ (.tup ds)) : EvD K φ J (tRevT K te) ρ (.tup ds.reverse) := fun σ H A Q q =>
  ha σ H A _ fun v x H1 b1 A1 e1 r1 => by
    subst e1
    obtain ⟨a, vs, rfl, pa, ra⟩ := rep_tup r1
    exact ⟨a, vs, rfl, pa.sq, fun p hp => q _ _ _ (b1.trans (But.of (same_new hp))) (A1.same (same_new hp)) rfl ⟨p, _, rfl, .inl ⟨A1.fr p hp, .inl upd_same⟩, (reps_rev ra).mono (But.of (same_new hp))⟩⟩
end
/-! ### a comprehension within a comprehension -/
theorem blk_in {N : List Str} {sc scope scope2 : Scope} {own : List (Str × Nat)} {cl : List (Str × Addr)} {C : Addr} {env : Env} (hs : env.scope = sc) (h : blkC N (relS scope sc) scope2 own = true) : BlkOk N (compEnvC scope cl C env).scope scope2 own := by
  have e : (compEnvC scope cl C env).scope = relS scope env.scope := rfl
  rw [e, hs]
  exact blkOk_by h

-- import HandS.Lambda
-- import HandS.Conv
/-! ### a lambda of one name, handed to a def -/
/-- one parameter, no other name of its own: captured ones and globals -/
structure LamS1 (sc scope : Scope) (x : Str) : Prop where
  kind : scope.kind = .function
  co : scope.isCoroutine = false
  gen : scope.isGenerator = false
  par : scope.names.lookup x = some .local
  own : ∀ y ∈ scope.names, y.2 ≠ .cell ∧ (y.2 = .local → y.1 = x)
  free : ∀ y ∈ scope.names, y.2 = .free → sc.names.lookup y.1 = some .cell ∨ sc.names.lookup y.1 = some .free
def lamS1B (sc scope : Scope) (x : Str) : Bool :=
  decide (scope.kind = .function) && !scope.isCoroutine && !scope.isGenerator && decide (scope.names.lookup x = some .local) && scope.names.all fun y => !decide (y.2 = .cell) && (!decide (y.2 = .local) || decide (y.1 = x)) && (!decide (y.2 = .free) || decide (sc.names.lookup y.1 = some .cell) || decide (sc.names.lookup y.1 = some .free))
theorem lamS1_by {sc scope : Scope} {x : Str} (h : lamS1B sc scope x = true) : LamS1 sc scope x := by
  unfold lamS1B at h
  simp only [Bool.and_eq_true, Bool.or_eq_true, Bool.not_eq_true', decide_eq_true_eq, decide_eq_false_iff_not, List.all_eq_true] at h
  obtain ⟨⟨⟨⟨h1, h2⟩, h3⟩, h0⟩, h4⟩ := h
  refine ⟨h1, h2, h3, h0, fun y hy => ⟨(h4 y hy).1.1, fun e => ?_⟩, fun y hy e => ?_⟩
  · rcases (h4 y hy).1.2 with z | z
    · exact absurd e z
    · exact z
  · rcases (h4 y hy).2 with (z | z) | z
    · exact absurd e z
    · exact .inl z
    · exact .inr z
section
open LamX
theorem LamS1.has {X : Cx} {scope : Scope} {x : Str} (L : LamS1 X.env.scope scope x) (ok : X.Ok) : ∀ y ∈ scope.names, y.2 = .free → ∃ c, X.env.cells.lookup y.1 = some c := fun y hy e => by
  rcases L.free y hy e with k | k
  · exact ok.has _ (.inl k)
  · exact ok.has _ (.inr k)
section
variable {X : Cx} {pins : List (Addr × Obj)} {σ : L2.St} {H HZ : Hp} {s s1 : Shared}
theorem lam_start1 {A : Around} {outer : List Env} {E : XK} {scope : Scope} {f c' : Addr} {h₁ : Heap} {tk : Nat} {x : Str} {i : Nat} {v : V} {u : Value} (I : Inv X pins σ H s) (L : LamS1 X.env.scope scope x) (hN : X.N.Nodup) (hi : X.N[i]? = some x) (hv : RelV v u) (e0 : Env0 X.prog X.w X.K X.mg X.base A outer s1 HZ) (hd : A.handled = none)
    (un : Un (frs X.stack) [] H HZ s.heap s1.heap) (hns : h₁.Ns s1.heap.objs.size fun y => ([(x, u)] : List (Str × Value)).reverse.lookup y) (kp : ∀ b o, s1.heap.get? b = some o → h₁.get? b = some o) :
    Inv (lamCx X A outer s1 HZ E scope f c') [] (σ.set i (some v)) HZ { s1 with heap := h₁, toks := tk } := by
  have hfree := L.has I.ok
  have cm : ∀ {y c}, (cloFrom X.env.cells scope.names []).lookup y = some c → X.env.cells.lookup y = some c := fun {y c} e => by
    rcases cloFrom_mem (PySem.mem_of_lookup e) with hm | ⟨h1, h2⟩
    · cases hm
    · obtain ⟨c1, hc⟩ := hfree _ h1 rfl
      have hc : X.env.cells.lookup y = some c1 := hc
      have e2 : c = c1 := by
        rw [h2, hc] <;> rfl
      rw [e2]
      exact hc
  have look : ∀ {y}, scope.names.lookup y = some .free → ∃ c, (cloFrom X.env.cells scope.names []).lookup y = some c := fun {y} hl => by
    have hy : (y, NameKind.free) ∈ scope.names := PySem.mem_of_lookup hl
    exact mem_lookup (cloFrom_has (cells := X.env.cells) (acc := []) hy)
  have cellK : ∀ {c : Addr} {v : Option Value}, H c = none → s.heap.IsCell c v → h₁.IsCell c v := fun {c v} n ⟨o, ho, hd⟩ => by
    obtain ⟨sl, q⟩ := un.any ho n (by simp)
    exact ⟨_, kp _ _ q, hd⟩
  have noA : ∀ b : Addr, b ∉ (lamCx X A outer s1 HZ E scope f c').ex := fun b z => absurd (show b ∈ ([] : List Addr) from z) (by simp)
  refine ⟨⟨e0.mod, L.kind, rfl, rfl, Nat.le_refl _, fun y z c e1 e2 => I.ok.inj y z c (cm e1) (cm e2), fun y hy => ?_, fun y c z _ => ?_, fun _ => hd, Around.frames_deeper e0.frames, .inr ⟨rfl, rfl⟩, fun b z => absurd z (noA b), e0.bs, e0.bsz, fun b _ _ => noA b,
      fun b z => absurd z (noA b), e0.funs, e0.frf⟩,
    rfl, e0.bare, Un.kept kp, ⟨_, hns, fun j y v' e1 e2 e3 => ?_⟩, fun y c e => ?_, e0.hok.fresh (Nat.le_refl _), fun y c e => ?_, fun q hq => absurd (show q ∈ ([] : List (Addr × Obj)) ++ [] from hq) (by simp), e0.hok.kept kp, by rw [List.length_set]; exact I.len⟩
  · have hy : scope.names.lookup y = some .cell ∨ scope.names.lookup y = some .free := hy
    rcases hy with hy | hy
    · exact absurd rfl (L.own _ (PySem.mem_of_lookup hy)).1
    · exact look hy
  · have z : false = true := z
    cases z
  · have e1 : X.N[j]? = some y := e1
    have e3 : Vis scope y := e3
    rcases e3 with k | k | k
    · have hy : y = x := (L.own _ (PySem.mem_of_lookup k)).2 rfl
      subst hy
      have hj : j = i := nodup_ix hN e1 hi
      subst hj
      have hlt : j < σ.length := by
        rw [I.len]
        exact (List.getElem?_eq_some_iff.mp e1).1
      rw [List.getElem?_set_self hlt] at e2
      cases e2
      refine ⟨u, hv, .inl ⟨k, ?_⟩⟩
      show List.lookup y [(y, u)] = some u
      simp [List.lookup]
    · exact absurd rfl (L.own _ (PySem.mem_of_lookup k)).1
    · have hyx : y ≠ x := fun z => by
        rw [z, L.par] at k
        cases k
      have hji : i ≠ j := fun z => by
        subst z
        rw [hi] at e1
        exact hyx (Option.some.inj e1).symm
      rw [List.getElem?_set_ne hji] at e2
      obtain ⟨m, hn, hl⟩ := I.loc
      have hvis : Vis X.env.scope y := (L.free _ (PySem.mem_of_lookup k) rfl).elim (fun k => .inr (.inl k)) (fun k => .inr (.inr k))
      obtain ⟨w', r, q⟩ := hl j y v' e1 e2 hvis
      obtain ⟨c2, h2⟩ := look k
      refine ⟨w', r, .inr ⟨.inr k, c2, h2, ?_⟩⟩
      have c1 := cm h2
      rcases q with ⟨k', _⟩ | ⟨_, c3, e', z⟩
      · have k' : X.env.scope.names.lookup y = some .local := k'
        rcases L.free _ (PySem.mem_of_lookup k) rfl with k2 | k2 <;> rw [show X.env.scope.names.lookup y = _ from k2] at k' <;> cases k'
      · rw [c1] at e'
        cases e'
        exact cellK (I.freeC y _ c1) z
  · obtain ⟨w', z⟩ := I.cell y c (cm e)
    exact ⟨w', cellK (I.freeC y c (cm e)) z⟩
  · obtain ⟨v, o, ho, hd⟩ := I.cell y c (cm e)
    exact un.free c o ho (I.freeC y c (cm e)) (by simp)
/-- x(e), in the def that got the lambda: Z is that def's context, entered at s -/
theorem pe_act1 {Ng : List Str} {qg : Str} {sg : Scope} {g f c' : Addr} {cdg pm ctv : Value} {params : Arguments} {body e : Expr} {scope : Scope} {k i ix : Nat} {a x : Str} {tb : TE} {ta : TA} {p1 p2 : Pos}
    (I : Inv X pins σ H s) (L : LamS1 X.env.scope scope x) (hXN : X.N.Nodup) (hx : X.N[ix]? = some x) (hf : s.heap.get? f = some (PySem.W.kla_obj "<lambda>" (X.env.qual ++ "<lambda>") params body scope (cloFrom X.env.cells scope.names []) pm c' ctv)) (hfn : H f = none) (hfr : f ∉ frs X.stack)
    (hbind : ∀ u, bindArgs (PySem.W.kla_fn "<lambda>" (X.env.qual ++ "<lambda>") params body scope (cloFrom X.env.cells scope.names []) pm (.ref c') ctv) ⟨[u], []⟩ = pure [(x, u)])
    (hr : Room (k + 1) (X.A.deeper (envOfC qg sg s.heap.objs.size g cdg)))
    (hbody : ∀ (A : Around) (outer : List Env) (s : Shared) (H : Hp), Room k (A.deeper (lamEnv X scope s.heap.objs.size f c')) → PE (lamCx X A outer s H C8.E0 scope f c').nox body tb)
    (hN : Ng[i]? = some a) (hv : Vis sg a) (ha : PA (cxOf C8.CX0 X.prog X.w X.K X.mg X.base Ng qg sg g cdg X.A X.stack s H C8.E0).nox [e] ta)
    (he : starEach [e] (cxOf C8.CX0 X.prog X.w X.K X.mg X.base Ng qg sg g cdg X.A X.stack s H C8.E0).nox.env = (false, eval e (cxOf C8.CX0 X.prog X.w X.K X.mg X.base Ng qg sg g cdg X.A X.stack s H C8.E0).nox.env) :: starEach [] (cxOf C8.CX0 X.prog X.w X.K X.mg X.base Ng qg sg g cdg X.A X.stack s H C8.E0).nox.env)
    (hd : (a == ("__debug__" : Str)) = false := by decide) (hcd : (a == ("__classdict__" : Str)) = false := by decide) :
    PE (cxOf C8.CX0 X.prog X.w X.K X.mg X.base Ng qg sg g cdg X.A X.stack s H C8.E0).nox (.Call (.Name a p1) [e] [] p2)
      (fun σZ HZ Q => σZ[i]? = some (some (.ref f)) ∧ ta σZ HZ fun vs H2 => ∃ v, vs = [v] ∧ H2 c' = some (CodeO c' (X.env.qual ++ "<lambda>")) ∧ tb (σ.set ix (some v)) H2 Q) := by
  refine ⟨fun pinsZ sZ σZ HZ Q IZ h => ?_⟩
  obtain ⟨hs, ht⟩ := h
  refine wpAny_Call_Name_kw (thn ((pe_var (pos := p1) (i := i) hN hv hd hcd).run pinsZ sZ σZ HZ (fun v H1 => v = .ref f ∧ H1 = HZ) IZ ⟨.ref f, hs, rfl, rfl⟩) fun u s1 ⟨v, H1, I1, r1, q1⟩ => ?_)
  obtain ⟨ev, eH⟩ := q1
  subst ev
  rw [eH] at I1
  obtain rfl : u = Value.ref f := r1
  have atF : ∀ {pins2 : List (Addr × Obj)} {σ2 : L2.St} {H2 : Hp} {s2 : Shared}, Inv (cxOf C8.CX0 X.prog X.w X.K X.mg X.base Ng qg sg g cdg X.A X.stack s H C8.E0).nox pins2 σ2 H2 s2 → s2.heap.get? f = some (PySem.W.kla_obj "<lambda>" (X.env.qual ++ "<lambda>") params body scope (cloFrom X.env.cells scope.names []) pm c' ctv) := fun I2 =>
    I2.base.keep f _ hf hfn hfr (fun z => nomatch (show f ∈ ([] : List Addr) from z))
  refine PySem.W.callWith_F ⟨_, _, _, _, atF I1⟩ (thn (ha.run p2 pinsZ s1 σZ HZ _ I1 ht) fun us s2 ⟨vs, H2, I2, r2, v, evs, hc, q2⟩ => ⟨⟨_, _, _, _, atF I2⟩, ?_⟩) he
  subst evs
  obtain ⟨u2, rfl, rv⟩ : ∃ u2, us = [u2] ∧ RelV v u2 := by
    cases r2 with
    | cons a b =>
      cases b
      exact ⟨_, rfl, a⟩
  have of1 := atF I2
  have un : Un (frs X.stack) [] H H2 s.heap s2.heap := I2.base
  obtain ⟨⟨oc, vs, t, hoc, hdc, hvc⟩, _, _⟩ := I2.hok c' _ hc
  have rc : codeAny (model X.prog X.w) (X.A.deeper (envOfC qg sg s.heap.objs.size g cdg)) (.call (.ref f) ⟨[u2], []⟩) (CR C8.CX0 (envOfC qg sg s.heap.objs.size g cdg :: X.stack) X.prog X.w H2 s2 Q C8.E0) s2 := by
    refine PySem.W.kla_callFunE hr.depth of1 rfl L.co L.gen rfl ⟨c', oc, vs, t, rfl, hoc, hdc, hvc⟩ ?_
    rw [hbind]
    refine wpAny_pure (wpAny_newFunctionEnv (fun y hy => (L.own y hy).1) (fun y hy => by rw [List.mem_singleton.mp hy]; exact L.par) (fun h₁ hns hsb => ⟨I2.nolimit.fresh _ hsb, ?_⟩) L.kind)
    show codeAny _ _ (.expr body (lamEnv X scope s2.heap.objs.size f c')) _ _
    have kp : ∀ b o, s2.heap.get? b = some o → h₁.get? b = some o := fun b o e => hsb.extBut b o (Nat.ne_of_lt (Heap.lt_size e)) (Heap.get?_push_of_some _ e)
    have J : Inv (lamCx X (X.A.deeper (envOfC qg sg s.heap.objs.size g cdg)) (envOfC qg sg s.heap.objs.size g cdg :: X.stack) s2 H2 C8.E0 scope f c') [] (σ.set ix (some v)) H2 { s2 with heap := h₁, toks := s2.toks + ([(x, u2)] : List (Str × Value)).length } :=
      lam_start1 I L hXN hx rv I2.env0 hr.hd un hns kp
    refine PySem.W.kla_codeExpr (wpAny_mono ((hbody _ _ s2 H2 (hr.deeper _)).run [] _ _ H2 Q (J.wish _) q2) (fun v s' hq => ?_) fun e s' hq => hq.elim)
    obtain ⟨w', H', J', rv, q⟩ := hq
    exact ⟨w', H', J'.os, J'.bare, J'.base, J'.hok, rv, q⟩
  refine wpAny_call (codeAny_mono rc fun r s' hq => ?_)
  cases r with
  | error e => exact (show False from hq).elim
  | ok fl =>
    cases fl with
    | ret u => exact I2.after hq
    | next => exact False.elim hq
    | brk => exact False.elim hq
    | cont => exact False.elim hq
end
/-- the table at P tells the code object of the place -/
def FullAt (P : Addr) (pos : Pos) (H : Hp) : Prop := ∃ ps : Array Value, H P = some (.tbl ps) ∧ (codeAmong pos ps.toList).isSome = true
theorem among_self {pos : Pos} {c : Value} (l : List Value) (h : TriplesOk l) : (codeAmong pos (l ++ [rawInt pos.line, rawInt pos.col, c])).isSome = true := by
  fun_induction TriplesOk l with
  | case1 =>
    simp [rawInt, codeAmong]
  | case2 a t b u x rest ih =>
    simp only [List.cons_append, codeAmong]
    split
    · rfl
    · exact ih h
  | case3 l h1 h2 => exact h.elim
/-- HandS's lam_make2, all but the table told to stay -/
theorem lam_make4 {X : Cx} {pins : List (Addr × Obj)} {σ : L2.St} {H : Hp} {s : Shared} {T : List (Addr × Str)} {c P : Addr} {params : Arguments} {body : Expr} {scope : Scope} {pos : Pos} {E : Value → Shared → Prop} {Q : Value → Shared → Prop} (I : Inv X pins σ H s) (TB : TabB X.base X.mg c P) (hcode : X.env.code = .ref c)
    (hm : (P, X.env.qual ++ "<lambda>") ∈ T) (hu : ∀ p ∈ T, p.1 = P → p.2 = X.env.qual ++ "<lambda>") (hT : Tabs T H) (hdef : defaultsOf params X.env = ([], [])) (hfree : ∀ y ∈ scope.names, y.2 = .free → ∃ c, X.env.cells.lookup y.1 = some c)
    (h : ∀ (f c' : Addr) (pm ctv : Value) (H1 : Hp) (s' : Shared), s.heap.objs.size ≤ f → FullAt P pos H1 → (FullAt P pos H → H1 = H) → Inv X pins σ H1 s' → ButP P H H1 → Tabs T H1 →
      s'.heap.get? f = some (PySem.W.kla_obj "<lambda>" (X.env.qual ++ "<lambda>") params body scope (cloFrom X.env.cells scope.names []) pm c' ctv) → H1 f = none → f ∉ frs X.stack → H1 c' = some (CodeO c' (X.env.qual ++ "<lambda>")) → Q (.ref f) s') :
    wpAny (model X.prog X.w) X.A (eval (.Lambda params body scope pos) X.env) Q E s := by
  obtain ⟨ps, hP, ht, ha⟩ := hT _ hm
  refine PySem.W.kla_eval hdef ?_
  have bP : s.heap.BuiltinsAt X.mg P := TB.bm.keeps I.bk
  have hP' : s.heap.get? P = some { cls := .none, data := .fields ps } := I.hok P _ hP
  have nofr : ∀ f, s.heap.objs.size ≤ f → f ∉ frs X.stack := fun f hf z => by
    rcases List.mem_cons.mp (I.stkSub _ z) with e | e
    · have h1 := I.lt
      rw [← e] at h1
      exact Nat.lt_irrefl _ (Nat.lt_of_lt_of_le h1 hf)
    · exact I.nofs hf e
  cases hc : codeAmong pos ps.toList with
  | none =>
    refine PySem.W.kla_makeFunction (mg := X.mg) (c := c) (P := P) (ps := ps) (closure_ok hfree) I.ok.glob (I.mod.glob.keeps I.bk) hcode (TB.code.keeps I.bk) hP' ht hc TB.gP bP fun c' ctv h' tk hx hge hlt hrec htb => ?_
    obtain ⟨c2, oc, vs, t, e2, hoc, hd, hv⟩ := hrec
    cases e2
    have hsz : s.heap.objs.size ≤ h'.objs.size := Nat.le_trans hge (Nat.le_of_lt hlt)
    have nC : H c' = none := I.hok.fresh hge
    have I1 := inv_table (t' := tk) (more := #[rawInt pos.line, rawInt pos.col, .ref c']) (h' := h'.push (PySem.W.kla_obj "<lambda>" (X.env.qual ++ "<lambda>") params body scope (cloFrom X.env.cells scope.names []) ((X.mg "__name__").getD .none) c' ctv)) I hP
      (fun b o hb e => Heap.get?_push_of_some _ (hx b o hb e)) (Heap.get?_push_of_some _ htb) hge ⟨oc, vs, t, Heap.get?_push_of_some _ hoc, hd, hv⟩
    have hB : ButP P H (upd (upd H P (.tbl (ps ++ #[rawInt pos.line, rawInt pos.col, .ref c']))) c' (CodeO c' (X.env.qual ++ "<lambda>"))) := fun b o n e => by
      rw [upd_ne (ne_of_none e nC), upd_ne n]
      exact e
    have hE : ExtN H (upd (upd H P (.tbl (ps ++ #[rawInt pos.line, rawInt pos.col, .ref c']))) c' (CodeO c' (X.env.qual ++ "<lambda>"))) := fun b o e n => by
      rw [upd_ne (ne_of_none e nC), upd_ne (fun z => n ps (Option.some.inj (e.symm.trans (by rw [z]; exact hP))))]
      exact e
    have eL : (ps ++ #[rawInt pos.line, rawInt pos.col, .ref c']).toList = ps.toList ++ [rawInt pos.line, rawInt pos.col, .ref c'] := by simp
    refine h h'.objs.size c' ((X.mg "__name__").getD .none) ctv _ _ hsz ⟨_, by rw [upd_ne (ne_of_none hP nC), upd_same], by rw [eL]; exact among_self _ ht⟩ (fun ⟨ps2, e1, e2⟩ => by
      rw [hP] at e1
      cases e1
      rw [hc] at e2
      cases e2) I1 hB (fun p hp => ?_) (Heap.get?_push_size _ rfl) ?_ (nofr _ hsz) upd_same
    · by_cases hb : p.1 = P
      · rw [hu p hp hb, hb]
        refine ⟨_, by rw [upd_ne (ne_of_none hP nC), upd_same], by rw [eL]; exact PySem.TriplesOk_snoc _ _ _ _ ht, fun p' cv hcv => ?_⟩
        rw [eL] at hcv
        rcases among_app _ ht hcv with z | z
        · obtain ⟨c0, e1, e2⟩ := ha p' cv z
          exact ⟨c0, e1, hE _ _ e2 codeO_ne⟩
        · exact ⟨c', z, upd_same⟩
      · obtain ⟨ps', a1, a2, a3⟩ := hT p hp
        refine ⟨ps', by rw [upd_ne (ne_of_none a1 nC), upd_ne hb]; exact a1, a2, fun p' cv hcv => ?_⟩
        obtain ⟨c0, e1, e2⟩ := a3 p' cv hcv
        exact ⟨c0, e1, hE _ _ e2 codeO_ne⟩
    · have n1 : h'.objs.size ≠ c' := Nat.ne_of_gt hlt
      have n2 : h'.objs.size ≠ P := Nat.ne_of_gt (Nat.lt_of_lt_of_le (Heap.lt_size hP') hsz)
      rw [upd_ne n1, upd_ne n2]
      exact I.hok.fresh hsz
  | some cv =>
    obtain ⟨c', e, hco⟩ := ha pos cv hc
    subst e
    refine PySem.W.kla_makeFunctionHit (mg := X.mg) (c := c) (P := P) (ps := ps) (closure_ok hfree) I.ok.glob (I.mod.glob.keeps I.bk) hcode (TB.code.keeps I.bk) hP' ht hc bP fun ctv h' tk hx hsz => ?_
    have I1 : Inv X pins σ H { s with heap := h'.push (PySem.W.kla_obj "<lambda>" (X.env.qual ++ "<lambda>") params body scope (cloFrom X.env.cells scope.names []) ((X.mg "__name__").getD .none) c' ctv), toks := tk } := I.kept fun b o e => Heap.get?_push_of_some _ (hx b o e)
    exact h h'.objs.size c' ((X.mg "__name__").getD .none) ctv H _ hsz ⟨ps, hP, by rw [hc]; rfl⟩ (fun _ => rfl) I1 (fun _ _ _ e => e) hT (Heap.get?_push_size _ rfl) (I.hok.fresh hsz) (nofr _ hsz) hco
theorem lam_make3 {X : Cx} {pins : List (Addr × Obj)} {σ : L2.St} {H : Hp} {s : Shared} {T : List (Addr × Str)} {c P : Addr} {params : Arguments} {body : Expr} {scope : Scope} {pos : Pos} {E : Value → Shared → Prop} {Q : Value → Shared → Prop} (I : Inv X pins σ H s) (TB : TabB X.base X.mg c P) (hcode : X.env.code = .ref c)
    (hm : (P, X.env.qual ++ "<lambda>") ∈ T) (hu : ∀ p ∈ T, p.1 = P → p.2 = X.env.qual ++ "<lambda>") (hT : Tabs T H) (hdef : defaultsOf params X.env = ([], [])) (hfree : ∀ y ∈ scope.names, y.2 = .free → ∃ c, X.env.cells.lookup y.1 = some c)
    (h : ∀ (f c' : Addr) (pm ctv : Value) (H1 : Hp) (s' : Shared), Inv X pins σ H1 s' → ButP P H H1 → Tabs T H1 →
      s'.heap.get? f = some (PySem.W.kla_obj "<lambda>" (X.env.qual ++ "<lambda>") params body scope (cloFrom X.env.cells scope.names []) pm c' ctv) → H1 f = none → f ∉ frs X.stack → H1 c' = some (CodeO c' (X.env.qual ++ "<lambda>")) → Q (.ref f) s') :
    wpAny (model X.prog X.w) X.A (eval (.Lambda params body scope pos) X.env) Q E s :=
  lam_make4 I TB hcode hm hu hT hdef hfree fun f c' pm ctv H1 s' _ _ _ I1 b t a1 a2 a3 a4 => h f c' pm ctv H1 s' I1 b t a1 a2 a3 a4
/-- the def that calls what it got as its second: TT: what it makes of the first and of the lambda's reading -/
def GivesTo1 (X : Cx) (Ng : List Str) (x : Str) (sg : Scope) (g : Addr) (cdg : Value) (bg : List Stmt) (a : Str) (q : Str) (k : Nat) (TT : V → (V → Hp → VK → Prop) → Hp → VK → Prop) : Prop :=
  ∀ (f c' : Addr) (s : Shared) (H : Hp) (Q : VK) (v1 : V) (tl : V → Hp → VK → Prop),
    Room k (X.A.deeper (envOfC x sg s.heap.objs.size g cdg)) →
    (∀ (e : Expr) (ta : TA) (p1 p2 : Pos), PA (cxOf C8.CX0 X.prog X.w X.K X.mg X.base Ng x sg g cdg X.A X.stack s H C8.E0).nox [e] ta →
      starEach [e] (cxOf C8.CX0 X.prog X.w X.K X.mg X.base Ng x sg g cdg X.A X.stack s H C8.E0).nox.env = (false, eval e (cxOf C8.CX0 X.prog X.w X.K X.mg X.base Ng x sg g cdg X.A X.stack s H C8.E0).nox.env) :: starEach [] (cxOf C8.CX0 X.prog X.w X.K X.mg X.base Ng x sg g cdg X.A X.stack s H C8.E0).nox.env →
      PE (cxOf C8.CX0 X.prog X.w X.K X.mg X.base Ng x sg g cdg X.A X.stack s H C8.E0).nox (.Call (.Name a p1) [e] [] p2) (fun σZ HZ Q => σZ[1]? = some (some (.ref f)) ∧ ta σZ HZ fun vs H2 => ∃ v, vs = [v] ∧ H2 c' = some (CodeO c' q) ∧ tl v H2 Q)) →
    H c' = some (CodeO c' q) → TT v1 tl H Q →
    ∃ t, PSs (cxOf C8.CX0 X.prog X.w X.K X.mg X.base Ng x sg g cdg X.A X.stack s H C8.E0).nox bg t ∧ t { nx := fun _ H' => Q .non H', rt := Q } (L2.start Ng [v1, .ref f]) H
def tLam1 (P : Addr) (T : List (Addr × Str)) (TT : V → (V → Hp → VK → Prop) → Hp → VK → Prop) (ix : Nat) (ta t : TE) : TE := fun σ H Q => ta σ H fun v1 H0 => Tabs T H0 ∧ ∀ H1, ButP P H0 H1 → Tabs T H1 → TT v1 (fun v H' Q' => t (σ.set ix (some v)) H' Q') H1 Q
/-- x(e, lambda y: body) -/
theorem pe_lamcall1 {X : Cx} {T : List (Addr × Str)} {TT : V → (V → Hp → VK → Prop) → Hp → VK → Prop} {x a b y : Str} {g c P : Addr} {k ix : Nat} {pg : Arguments} {bg : List Stmt} {sg : Scope} {dV kV doc pm cdv ct oc : Value} {an od : Option Addr} {osl : Array (Option Value)} {Ng : List Str}
    {params : Arguments} {e body : Expr} {scope : Scope} {ta t : TE} {p lpos pos : Pos} (hg : Gl X x) (hm : X.mg x = some (.ref g)) (hk : PySem.W.keepIn X.K (.ref g) = true)
    (lk : X.K.lookup g = some ⟨oc, od, .func (PySem.W.fnOf x x pg bg sg dV kV doc pm an cdv ct), osl⟩) (hcg : PySem.W.codeIn X.K cdv x = true) (hb : L2.Binds X.K (PySem.W.fnOf x x pg bg sg dV kV doc pm an cdv ct) [b, a] []) (Sg : FnScope Ng [b, a] sg) (hNg : Ng[1]? = some a) (hva : Vis sg a)
    (hG : GivesTo1 X Ng x sg g cdv bg a (X.env.qual ++ "<lambda>") (k + 1) TT)
    (TB : TabB X.base X.mg c P) (hcode : X.env.code = .ref c) (hmT : (P, X.env.qual ++ "<lambda>") ∈ T) (hu : ∀ p ∈ T, p.1 = P → p.2 = X.env.qual ++ "<lambda>") (hr : Room (k + 2) X.A) (L : LamS1 X.env.scope scope y) (hXN : X.N.Nodup) (hx : X.N[ix]? = some y) (hdef : defaultsOf params X.env = ([], []))
    (hbind : ∀ (q : Str) (cl : List (Str × Addr)) (pm cv ctv u : Value), bindArgs (PySem.W.kla_fn "<lambda>" q params body scope cl pm cv ctv) ⟨[u], []⟩ = pure [(y, u)])
    (he : PE X e ta) (hbody : ∀ (A : Around) (outer : List Env) (s : Shared) (H : Hp) (f c' : Addr), Room k (A.deeper (lamEnv X scope s.heap.objs.size f c')) → PE (lamCx X A outer s H C8.E0 scope f c').nox body t)
    (hs : starEach [e, .Lambda params body scope lpos] X.env = (false, eval e X.env) :: starEach [.Lambda params body scope lpos] X.env := by rfl)
    (hdb : (x == ("__debug__" : Str)) = false := by decide) (hd : (a == ("__debug__" : Str)) = false := by decide) (hcd : (a == ("__classdict__" : Str)) = false := by decide) :
    PE X (.Call (.Name x p) [e, .Lambda params body scope lpos] [] pos) (tLam1 P T TT ix ta t) := by
  refine ⟨fun pins s σ H Q I h => ?_⟩
  refine wpAny_Call_Name_kw (ld_glob I hg hm ?_ hdb)
  refine PySem.W.callWith_K (h₀ := X.base) I.ok.mod.kin hk ?_ hs (by rfl)
  rw [hs]
  show wpAny _ _ (spliced ((false, eval e X.env) :: backTo pos (starEach [.Lambda params body scope lpos] X.env))) _ _ s
  refine Calls.spliced_cons (thn (he.run pins s σ H _ I h) fun u1 s0 ⟨v1, H0, I0, r1, hT, h1⟩ => ?_)
  show wpAny _ _ (spliced ((false, eval (.Lambda params body scope lpos) X.env) :: backTo pos (starEach [] X.env))) _ _ s0
  refine Calls.spliced_cons (lam_make3 I0 TB hcode hmT hu hT hdef (L.has I0.ok) fun f c' pm' ctv H1 s' I1 eN T1 hf hfn hfr hco => ?_)
  refine Calls.spliced_nil ⟨I1.kIn, ?_⟩
  have rc : codeAny (model X.prog X.w) X.A (.call (.ref g) ⟨[u1, .ref f], []⟩) (CR C8.CX0 X.stack X.prog X.w H1 s' Q C8.E0) s' := by
    refine run_ofS (N := Ng) (ps := [b, a]) (us := [u1, .ref f]) (vs := [v1, .ref f]) lk hcg Sg hr I1.env0 (hb s' [u1, .ref f] I1.kIn rfl) (.cons r1 (.cons rfl .nil)) rfl fun hr' => ?_
    obtain ⟨t', ht', hq'⟩ := hG f c' s' H1 Q v1 (fun v H' Q' => t (σ.set ix (some v)) H' Q') hr' (fun e2 ta2 p1 p2 ha2 he2 => pe_act1 (i := 1) I1 L hXN hx hf hfn hfr (hbind _ _ _ _ _) hr' (fun A outer s H hr2 => hbody A outer s H f c' hr2) hNg hva ha2 he2 hd hcd) hco (h1 H1 eN T1)
    exact ⟨t', ht'.nox, hq'⟩
  refine wpAny_call (codeAny_mono rc fun r s2 hq => ?_)
  cases r with
  | error e => exact (show False from hq).elim
  | ok fl =>
    cases fl with
    | ret u => exact I1.after hq
    | next => exact False.elim hq
    | brk => exact False.elim hq
    | cont => exact False.elim hq
end

-- import HandS.ExcCtx
-- import HandS.SuiteRaise
-- import HandS.ExcInitHot
/-! ### exceptions whose context is None: a comprehension whose element raises -/
/-- an exception in the air of X, the frame L told -/
def XELN (X : Cx) (L : Addr) (W : WX) (u : Value) (s' : Shared) : Prop :=
  ∃ (a : Addr) (B : Heap) (sI : Shared) (pins : List (Addr × Obj)) (σ : L2.St) (H : Hp) (cls : Value) (d : Option Addr),
    u = .ref a ∧ Inv X pins σ H sI ∧ (∀ b o, sI.heap.get? b = some o → b ∉ frs X.stack → B.get? b = some o) ∧ sI.heap.UpToSlots s'.heap ∧
      Sky B X.stack a (L2N.Zn cls d) L s'.heap ∧ H a = none ∧ s'.os = sI.os ∧ AllBare s'.gens ∧ W cls d σ H
/-- what X wants of exceptions takes those that leave its frame L -/
structure TakesLN (X : Cx) (L : Addr) (W : WX) : Prop where
  tk : ∀ u s', XELN X L W u s' → X.xe u s'
  st : ∃ e0 outer, X.stack = e0 :: outer ∧ e0.frame = some L
  fr : X.env.frame = some L
theorem takesLN {X : Cx} {W : WX} (tk : L2N.Takes X W) (hs : X.stack = X.env :: X.outer) (hf : X.env.frame = some X.env.locals) : TakesLN X X.env.locals W := ⟨tk, ⟨_, _, hs, hf⟩, hf⟩
section
variable {X : Cx} {pins : List (Addr × Obj)} {σ : L2.St} {H : Hp} {sI s s' : Shared} {B : Heap} {W : WX} {E : XK} {L : Addr}
theorem XELN.of_call (I : Inv X pins σ H s) (hW : ∀ cls d H', E cls d H' → W cls d σ H') {u : Value} (c : L2N.CX X.prog X.w X.stack H s E u s') : XELN X L W u s' := by
  obtain ⟨a, B, H', cls, d, rfl, fl, hok, ub, na, os, ag, hE⟩ := c
  obtain ⟨G, g1, g2⟩ := restrict s'.heap fun b => (B.get? b).isSome || decide (b ∈ frs X.stack)
  have st : B.StaysIn s'.heap := fl.1
  have gB : ∀ b o, B.get? b = some o → G.get? b = some o := fun b o e => by
    rw [g1 b (by simp [e])]
    exact st b o e
  have gF : ∀ b, b ∈ frs X.stack → G.get? b = s'.heap.get? b := fun b hb => g1 b (by simp [hb])
  have og : ∀ b o, G.get? b = some o → s'.heap.get? b = some o ∧ ((B.get? b).isSome = true ∨ b ∈ frs X.stack) := fun b o e => by
    cases q : ((B.get? b).isSome || decide (b ∈ frs X.stack)) with
    | false => rw [g2 b q] at e; cases e
    | true =>
      rw [g1 b q] at e
      exact ⟨e, by simpa [Bool.or_eq_true] using q⟩
  refine ⟨a, B, { s with heap := G, gens := s'.gens, drawn := s'.drawn, toks := s'.toks }, pins, σ, H', cls, d, rfl, ?_, fun b o e hb => ?_, Heap.UpToSlots.of_keeps fun b o e => (og b o e).1, .inr (.inl fl), na, os, ag, hW _ _ _ hE⟩
  · refine I.call (ch := []) ⟨fun b o e n hb _ => gB b o (ub.keep b o e n hb), fun b o e n hb _ => ?_, fun b o e n _ => ub.free b o e n, fun b o e _ => ?_, ub.tups, ub.frzs, ub.tbls⟩ (hok.kept gB) ag (fun _ z => nomatch z)
    · obtain ⟨sl, q⟩ := ub.slot b o e hb
      exact ⟨sl, by rw [gF b hb]; exact q⟩
    · by_cases hb : b ∈ frs X.stack
      · obtain ⟨sl, q⟩ := ub.slot b o e hb
        exact ⟨_, by rw [gF b hb]; exact q⟩
      · obtain ⟨o', q⟩ := ub.there b o e hb
        exact ⟨o', gB b o' q⟩
  · obtain ⟨e', h⟩ := og b o e
    rcases h with h | h
    · obtain ⟨o', q⟩ := Option.isSome_iff_exists.mp h
      have z := st b o' q
      rw [e'] at z; cases z
      exact q
    · exact absurd h hb
theorem passAtLN {X : Cx} {W : WX} {L : Addr} (tk : TakesLN X L W) (σ : L2.St) : PassesAt (L2N.CX X.prog X.w) X σ (WE W σ) := fun _ _ _ e s' I c => tk.tk e s' (XELN.of_call I (fun _ _ _ h => h) c)
end
section
variable {X : Cx} {pins : List (Addr × Obj)} {σ : L2.St} {H : Hp} {sI s s' : Shared} {B : Heap} {W : WX} {E : XK} {L : Addr}
/-- Sky, noted by the frame -/
theorem Sky.noteN {M : Model} {A : Around} {E₁ : Value → Shared → Prop} {env : Env} {outer : List Env} {L a : Addr} {Z : Obj → Prop} {Q : Unit → Shared → Prop} (hZ : PXN.Steady1 Z) (hfr : A.frames = some (env :: outer)) (hf : env.frame = some L)
    (x : Sky B (env :: outer) a Z L s.heap) (hQ : ∀ h', HandSPX.HeldZ B (env :: outer) a Z L h' → s.heap.UpToSlots h' → Q () { s with heap := h' }) : wpAny M A (noteFrame (.ref a) env) Q E₁ s := by
  rcases x with ⟨hB, hn, hl, oe, vs, he, hz, hd, h1⟩ | fl | hh
  · exact PXN.look_newZ hZ hfr hl hf he hB hn hd h1 hz hQ
  · exact PXN.looks_onZ hZ hfr hf fl hQ
  · exact HandSPX.againZ hf hh.2.2.2 (hQ s.heap hh (Heap.UpToSlots.refl _))
end
section
variable {X : Cx}
/-- a block's exception, out of the block -/
theorem block_outN {pins : List (Addr × Obj)} {σ : L2.St} {H3 : Hp} {s3 : Shared} {scope : Scope} {ce : Env} {fp : List Addr} {E : XK} {L C : Addr} {use : Option (Value → Sem Unit)} {Q : Value → Shared → Prop} {acc u : Value} {s' : Shared}
    (I3 : Inv X pins σ H3 s3) (tk : TakesLN X L fun cls d _ H => E cls d H) (hce : ce.frame = X.env.frame) (cL : ce.locals = C) (hC : s3.heap.objs.size = C) (f3 : ∀ b ∈ fp, FpOk X pins H3 b ∧ b < s3.heap.objs.size)
    (x : XELN (X.blk s3 H3 scope ce fp) L (fun cls d _ H => E cls d H) u s') : notedBy (model X.prog X.w) X.A ce (fun e s' => compPostF (model X.prog X.w) X.A X.xe use Q acc C X.env.frame (.error e) s') u s' := by
  obtain ⟨a, B, sI, p, σ', H, cls, d, rfl, IB, nb, up, sky, na, os, ag, hE⟩ := x
  obtain ⟨e0, outer, hst, he0⟩ := tk.st
  have I7 : Inv X pins σ H sI := I3.call' (ch := fp) IB.os IB.base IB.hok IB.bare fun b hb => ⟨(f3 b hb).1.2.2.2.1, (f3 b hb).1.2.1, (f3 b hb).1.2.2.2.2.1, (f3 b hb).1.2.2.2.2.2⟩
  have nC : H C = none := by
    have z : H ce.locals = none := IB.free
    rw [cL] at z
    exact z
  have fC : FpOk X pins H C := I3.fpOk (Nat.le_of_eq hC) nC
  obtain ⟨m, hn, _⟩ := IB.loc
  have hn : sI.heap.Ns ce.locals m := hn
  rw [cL] at hn
  obtain ⟨oC, es, ep, hoC, hdC, hsk, hfd⟩ := hn
  have hCs : C ∉ frs X.stack := fun z => by
    rcases List.mem_cons.mp (I3.stkSub C z) with e | e
    · exact fC.2.1 e
    · exact fC.2.2.1 e
  have hBC : B.get? C = some oC := nb C oC hoC hCs
  have hfr : X.A.frames = some (e0 :: outer) := by rw [I3.ok.frames, hst]
  unfold notedBy
  rw [note_congr (env' := e0) (by rw [hce, tk.fr, he0])]
  have sky : Sky B (e0 :: outer) a (L2N.Zn cls d) L s'.heap := by
    have z : Sky B X.stack a (L2N.Zn cls d) L s'.heap := sky
    rw [hst] at z
    exact z
  refine Sky.noteN L2N.Zn.steady hfr he0 sky fun h1 hh up1 => ?_
  refine ⟨m, ⟨oC, es, ep, hh.1 _ _ hBC, hdC, hsk, hfd⟩, fun h2 sb cenv _ hcf => ?_⟩
  obtain ⟨k1, k2, k3, oe, vs, T, oT, ts, he, hz, hd, h1', hnT, hTe, hT, hdT, hfl⟩ := hh
  have aC : a ≠ C := fun z => by
    rw [z, hBC] at k2
    cases k2
  have TC : T ≠ C := fun z => by
    rw [z, hBC] at hnT
    cases hnT
  have at2 : ∀ b, b ≠ C → h2.get? b = h1.get? b := sb.2
  obtain ⟨B2, hB2⟩ : ∃ B2, B2 = PySem.W.hideAll B [C] := ⟨_, rfl⟩
  have b2n : ∀ b, B.get? b = none → B2.get? b = none := fun b e => by
    rw [hB2]
    cases q : (PySem.W.hideAll B [C]).get? b with
    | none => rfl
    | some o =>
      rw [PySem.W.of_hideAll _ q] at e
      cases e
  have b2C : B2.get? C = none := by
    rw [hB2]
    exact PySem.W.hideAll_none _ List.mem_cons_self
  have b2g : ∀ b o, b ≠ C → B.get? b = some o → B2.get? b = some o := fun b o h e => by
    rw [hB2]
    exact PySem.W.hideAll_get _ e fun z => h (List.mem_singleton.mp z)
  have b2o : ∀ b o, B2.get? b = some o → B.get? b = some o ∧ b ≠ C := fun b o e => ⟨by rw [hB2] at e; exact PySem.W.of_hideAll _ e, fun z => by rw [z, b2C] at e; cases e⟩
  have s2 : B2.StaysIn h2 := fun b o e => by
    rw [at2 b (b2o b o e).2]
    exact k1 b o (b2o b o e).1
  have ff2 : h2.FunFrames B2 (e0 :: outer) := funFrames_but at2 b2n k3 (by rw [← hst]; exact hCs)
  have he2 : h2.get? a = some oe := by
    rw [at2 a aC]
    exact he
  have tr2 : HandSPX.TracedZ h2 B2 a (L2N.Zn cls d) (rawInt L) := ⟨oe, vs, T, oT, ts, he2, hz, hd, h1', b2n _ hnT, hTe, by rw [at2 T TC]; exact hT, hdT, hfl⟩
  unfold PySem.passOn
  refine wpAny_bind (wpAny_field he2 hd h1' ?_)
  rw [if_neg (show ¬ ((Value.ref T == Value.none) = true) from by simp)]
  have fin : wpAny (model X.prog X.w) X.A (setFlight (.ref a) cenv.frame) (fun _ s4 => wpAny (model X.prog X.w) X.A (throw (.ref a) : Sem Value) (fun _ _ => False) X.xe s4) X.xe { s' with heap := h2 } := by
    rw [hcf, tk.fr]
    refine HandSPX.setFlight_anyZ s2 ff2 tr2 fun h3 s3' ff3 tr3 up3 => wpAny_throw (tk.tk _ _ ?_)
    obtain ⟨G, g1, g2⟩ := restrict h3 fun b => (B2.get? b).isSome || decide (b ∈ frs X.stack)
    have gB : ∀ b o, B2.get? b = some o → G.get? b = some o := fun b o e => by
      rw [g1 b (by simp [e])]
      exact s3' b o e
    have gF : ∀ b, b ∈ frs X.stack → G.get? b = h3.get? b := fun b hb => g1 b (by simp [hb])
    have og : ∀ b o, G.get? b = some o → h3.get? b = some o ∧ ((B2.get? b).isSome = true ∨ b ∈ frs X.stack) := fun b o e => by
      cases q : ((B2.get? b).isSome || decide (b ∈ frs X.stack)) with
      | false => rw [g2 b q] at e; cases e
      | true =>
        rw [g1 b q] at e
        exact ⟨e, by simpa [Bool.or_eq_true] using q⟩
    have slot : ∀ b o, sI.heap.get? b = some o → b ∈ frs X.stack → ∃ sl, G.get? b = some { o with slots := sl } := fun b o e hb => by
      obtain ⟨_, o', e', hnf⟩ := I7.stack.mem hb
      rw [e] at e'; cases e'
      obtain ⟨sl1, q1⟩ := up b o e hnf
      obtain ⟨sl2, q2⟩ := up1 b _ q1 hnf
      have q2' : h2.get? b = _ := (at2 b fun z => hCs (z ▸ hb)).trans q2
      obtain ⟨sl3, q3⟩ := up3 b _ q2' hnf
      exact ⟨sl3, by rw [gF b hb]; exact q3⟩
    refine ⟨a, B2, { sI with heap := G, gens := s'.gens, drawn := s'.drawn, toks := s'.toks }, pins, σ, H, cls, d, rfl, ?_, fun b o e hb => ?_, Heap.UpToSlots.of_keeps fun b o e => (og b o e).1, .inr (.inr ⟨s3', b2n _ k2, by rw [hst]; exact ff3, tr3⟩), na, os, ag, hE⟩
    · refine I7.call (ch := [C]) ⟨fun b o e n hb hc => gB b o (b2g b o (fun z => hc (by rw [z]; exact List.mem_cons_self)) (nb b o e hb)), fun b o e n hb _ => slot b o e hb, fun b o e n _ => n, fun b o e hc => ?_, fun _ _ e => e, fun _ _ _ e => e, fun b ps e => ⟨#[], by rw [e]; simp⟩⟩ ?_ ag fun b z => ?_
      · by_cases hb : b ∈ frs X.stack
        · obtain ⟨sl, q⟩ := slot b o e hb
          exact ⟨_, q⟩
        · exact ⟨o, gB b o (b2g b o (fun z => hc (by rw [z]; exact List.mem_cons_self)) (nb b o e hb))⟩
      · exact fun b o q => (I7.hok b o q).stay (fun c u hc r => gB c u (b2g c u (fun z => by
          rw [z] at hc
          rcases hc with hc | hc
          · rw [← hc, nC] at q; cases q
          · rw [nC] at hc; cases hc) (nb c u r fun hm => by
          have z := I7.stkFree c hm
          rcases hc with hc | hc
          · rw [hc, q] at z; cases z
          · rw [hc] at z; cases z))) (fun _ r => r) fun _ _ r => r
      · rw [List.mem_singleton.mp z]
        exact ⟨fC.2.2.2.1, fC.2.1, fC.2.2.2.2.1, fC.2.2.2.2.2⟩
    · obtain ⟨e', h⟩ := og b o e
      rcases h with h | h
      · obtain ⟨o', q⟩ := Option.isSome_iff_exists.mp h
        have z := s3' b o' q
        rw [e'] at z; cases z
        exact q
      · exact absurd h hb
  first
    | exact wpAny_bind (wpAny_pure (wpAny_bind fin))
    | exact wpAny_bind fin
end
/-- HandS's lc_core, an exception of the element allowed -/
theorem lc_coreXN {X : Cx} {pins : List (Addr × Obj)} {s : Shared} {σ : L2.St} {H : Hp} {Q : VK} {elt tg iter : Expr} {ifs : List Expr} {scope : Scope} {own : List (Str × Nat)} {pos pos' : Pos} {wi : TI} {g : TG} {tt : TT} {te : TE} {use : Option (Value → Sem Unit)} {Qf : Value → Shared → Prop} {E : XK} {L : Addr}
    (tk : TakesLN X L fun cls d _ H => E cls d H) (hc : X.calm = true) (hN : X.N.Nodup) (I : Inv X pins σ H s) (hi : PI X tg iter wi) (ok : BlkOk X.N X.env.scope scope own)
    (hg : ∀ (s : Shared) (H : Hp) (C : Addr) (cl : List (Str × Addr)) (fp : List Addr), PG (X.blk s H scope (compEnvC scope cl C X.env) fp) tg g) (ht : ∀ (s : Shared) (H : Hp) (C : Addr) (cl : List (Str × Addr)) (fp : List Addr), PTs (X.blk s H scope (compEnvC scope cl C X.env) fp) ifs tt)
    (he : ∀ (s : Shared) (H : Hp) (C : Addr) (cl : List (Str × Addr)) (fp : List Addr) (xe : Value → Shared → Prop), TakesLN ((X.blk s H scope (compEnvC scope cl C X.env) fp).wish xe) L (fun cls d _ H => E cls d H) → PE ((X.blk s H scope (compEnvC scope cl C X.env) fp).wish xe) elt te) (hs : ∀ x, foldedSetIterable iter X.env x = pure x)
    (h : tLc wi g tt te (own.map (·.2)) σ H Q)
    (hRR : ∀ D C s' m H', Inv X pins σ H' s' → Q (.ref D) H' → s'.heap.Ns C m → FpOk X pins H' C → compPost (model X.prog X.w) X.A X.xe use Qf (.ref D) C (.ok .next) s') :
    wpAny (model X.prog X.w) X.A (comprehension (.ListComp elt [⟨tg, iter, ifs, 0⟩] scope pos) scope X.env pos' (newList []) false (eval iter X.env) use) Qf X.xe s := by
  have hfree : ∀ y ∈ scope.names, y.2 = .free → ∃ c, X.env.cells.lookup y.1 = some c := fun y hy e => by
    rcases ok.free y hy e with k | k
    · exact I.ok.has _ (.inl k)
    · exact I.ok.has _ (.inr k)
  refine comp_freeF (use := use) rfl hs (closure_ok hfree) ok.kind (fun y hy e => by rw [ok.uniq y hy, e])
    (thn (hi.run pins s σ H _ I h) fun xv s1 hx => thn hx fun itv s2 h2 => ?_)
  obtain ⟨it, fp, tn, J, H2, e, I2, T, st2, f2, q⟩ := h2
  subst e
  refine wpAny_newObj_type (newEnv_comp ?_) (by show 0 ≤ sizeLine; decide)
  generalize hD : s2.heap.objs.size = D
  have hDn : H2 D = none := I2.hok.fresh (Nat.le_of_eq hD)
  obtain ⟨W, ⟨m0, w0⟩, turn⟩ := q D hDn
  generalize hs3 : ({ s2 with heap := s2.heap.push { cls := .type "list", data := .seq ([] : List Value).toArray } } : Shared) = s3
  have I3 : Inv X pins σ (upd H2 D (.lst [])) s3 := by
    rw [← hs3]
    refine I2.laid (t' := s2.toks) (fun b o e => Heap.get?_push_of_some _ e) (Nat.le_of_eq hD) ⟨Nat.zero_le _, [], 0, .nil, ?_⟩
    rw [← hD]
    exact Heap.get?_push_size _ rfl
  have h3 : s3.heap = s2.heap.push { cls := .type "list", data := .seq ([] : List Value).toArray } := by rw [← hs3]
  have sz : ∀ b ∈ fp, b < s2.heap.objs.size := fun b hb => by
    obtain ⟨o, e, _⟩ := T.obj _ _ st2 b hb
    exact Heap.lt_size e
  have f3 : ∀ b ∈ fp, FpOk X pins (upd H2 D (.lst [])) b ∧ b < s3.heap.objs.size := fun b hb => by
    have hlt := sz b hb
    refine ⟨⟨?_, (f2 b hb).2⟩, by rw [h3, Heap.size_push]; exact Nat.lt_succ_of_lt hlt⟩
    rw [upd_ne (by rw [← hD]; exact Nat.ne_of_lt hlt)]
    exact (f2 b hb).1
  have st3 : tn 0 s3.heap := T.keep _ _ _ st2 fun b _ o e => by rw [h3]; exact Heap.get?_push_of_some _ e
  have I4 := block_start I3 ok hN f3
  have pg := hg s3 (upd H2 D (.lst [])) s3.heap.objs.size (cellsFrom (s3.heap.objs.size + 1) scope.names (cloFrom X.env.cells scope.names [])) fp
  have pt := ht s3 (upd H2 D (.lst [])) s3.heap.objs.size (cellsFrom (s3.heap.objs.size + 1) scope.names (cloFrom X.env.cells scope.names [])) fp
  have pe := he s3 (upd H2 D (.lst [])) s3.heap.objs.size (cellsFrom (s3.heap.objs.size + 1) scope.names (cloFrom X.env.cells scope.names [])) fp
  show codeAny _ _ (.compStart (.ListComp elt [⟨tg, iter, ifs, 0⟩] scope pos) 0 (.ref it) (.ref D) (compEnvC scope (cellsFrom (s3.heap.objs.size + 1) scope.names (cloFrom X.env.cells scope.names [])) s3.heap.objs.size X.env)) (compPostF (model X.prog X.w) X.A X.xe use Qf (.ref D) s3.heap.objs.size X.env.frame) { s3 with heap := pushCells (s3.heap.push { cls := .type "dict", data := .dict #[] }) scope.names }
  have nfp : ∀ b ∈ fp, (upd H2 D (.lst [])) b = none := fun b hb => (f3 b hb).1.1
  generalize hce : compEnvC scope (cellsFrom (s3.heap.objs.size + 1) scope.names (cloFrom X.env.cells scope.names [])) s3.heap.objs.size X.env = ce at I4 pg pt pe ⊢
  have cL : ce.locals = s3.heap.objs.size := by subst hce; rfl
  have cF : ce.frame = X.env.frame := by subst hce; rfl
  generalize hH3 : upd H2 D (.lst []) = H3 at I3 I4 pg pt pe w0 nfp f3
  generalize hs4 : ({ s3 with heap := pushCells (s3.heap.push { cls := .type "dict", data := .dict #[] }) scope.names } : Shared) = s4 at I4 ⊢
  have st4 : tn 0 s4.heap := T.keep _ _ _ st3 fun b _ o e => by rw [← hs4]; exact pushCells_keeps _ _ _ _ (Heap.get?_push_of_some _ e)
  have stat : ∀ {σ' : L2.St} {H' : Hp} {s' : Shared}, Inv (X.blk s3 H3 scope ce fp) [] σ' H' s' → (∀ b ∈ fp, H' b = none) → ∀ b ∈ fp, FpOk (X.blk s3 H3 scope ce fp) [] H' b := fun {σ' H' s'} I' hn b hb =>
    ⟨hn b hb, (I'.ok.exf b hb).1, I'.ok.exfs b hb, .inl hb, fun x c e => (I'.ok.exf b hb).2 x c e, fun p hp => absurd (show p ∈ ([] : List (Addr × Obj)) ++ [] from hp) (by simp)⟩
  have pe' := pe (XELN (X.blk s3 H3 scope ce fp) L fun cls d _ H => E cls d H) ⟨fun u s' ⟨a, B, sI, p, σ', H, cls, d, e, IB, z⟩ => ⟨a, B, sI, p, σ', H, cls, d, e, IB.unwish, z⟩, tk.st, cF.trans tk.fr⟩
  have loop : codeAny (model X.prog X.w) X.A (.compLoop (.ListComp elt [⟨tg, iter, ifs, 0⟩] scope pos) 0 (.ref it) (.ref D) ce) (compPostF (model X.prog X.w) X.A X.xe use Qf (.ref D) s3.heap.objs.size X.env.frame) s4 := by
    refine compLoop_any (fun n s' => ∃ i H', Inv (X.blk s3 H3 scope ce fp) [] (wipe σ (own.map (·.2))) H' s' ∧ tn i s'.heap ∧ (∀ b ∈ fp, H' b = none) ∧ W i n H') ?_ m0 ⟨0, H3, I4, st4, nfp, w0⟩
    rintro n s5 ⟨i, H5, I5, st5, n5, w5⟩
    rcases turn i n H5 w5 with ⟨stop, qq⟩ | ⟨go, Nx, hNx, step⟩
    · have td := T.done (X.blk s3 H3 scope ce fp) rfl rfl rfl hc i [] s5 _ H5 (fun _ _ => False) I5 (stat I5 n5) st5 stop
      refine thnF td fun r s6 ⟨hr, I6⟩ => ?_
      subst hr
      have I7 : Inv X pins σ H5 s6 := I3.call' (ch := fp) I6.os I6.base I6.hok I6.bare fun b hb => ⟨(f3 b hb).1.2.2.2.1, (f3 b hb).1.2.1, (f3 b hb).1.2.2.2.2.1, (f3 b hb).1.2.2.2.2.2⟩
      have nC : H5 s3.heap.objs.size = none := by
        have z : H5 ce.locals = none := I6.free
        rw [cL] at z
        exact z
      obtain ⟨m, hn, _⟩ := I6.loc
      have hn : s6.heap.Ns ce.locals m := hn
      rw [cL] at hn
      exact hRR D s3.heap.objs.size s6 m H5 I7 qq hn (I3.fpOk (Nat.le_refl _) nC)
    · have ti := T.item (X.blk s3 H3 scope ce fp) rfl rfl rfl hc i [] s5 _ H5 (fun _ _ => False) I5 (stat I5 n5) st5 go
      refine thnF ti fun r s6 ⟨u, hr, h6⟩ => ?_
      subst hr
      refine thnF h6 fun _ s7 ⟨x, H7, I7, r7, y7, st7, n7⟩ => ?_
      have I7' := I7.pinned (stat I7 n7) (T.obj _ _ st7)
      refine thnF (pg.run _ s7 _ H7 x u _ I7' r7 (step x H7 y7)) fun _ s8 ⟨σ8, H8, I8, hw8, q8⟩ => ?_
      refine thnF (pt.run _ s8 σ8 H8 _ I8 q8) fun b s9 ⟨H9, I9, q9⟩ => ?_
      have fin : ∀ {s' : Shared} {H' : Hp}, Inv (X.blk s3 H3 scope ce fp) ([] ++ pinsAt fp s7.heap) σ8 H' s' → Nx H' → ∃ m, m < n ∧ ∃ i H', Inv (X.blk s3 H3 scope ce fp) [] (wipe σ (own.map (·.2))) H' s' ∧ tn i s'.heap ∧ (∀ b ∈ fp, H' b = none) ∧ W i m H' := fun {s' H'} I' nx => by
        obtain ⟨m', hm, w'⟩ := hNx H' nx
        have pin' : ∀ b ∈ fp, ∀ o, s7.heap.get? b = some o → s'.heap.get? b = some o ∧ H' b = none := fun b hb o e =>
          let z := I'.pin (b, o) (List.mem_append_right _ (List.mem_append_right _ (mem_pinsAt hb e)))
          ⟨z.1, z.2.1⟩
        have hl : (wipe σ (own.map (·.2))).length = σ8.length := by rw [← hw8, wipe_length]
        refine ⟨m', hm, i + 1, H', (I'.unpinned (pins := [])).weak hl (fun j v e => ?_), T.keep _ _ _ st7 fun b hb o e => (pin' b hb o e).1, fun b hb => ?_, w'⟩
        · rw [← hw8] at e
          exact (wipe_some e).1
        · obtain ⟨o, e, _⟩ := T.obj _ _ st7 b hb
          exact (pin' b hb o e).2
      cases b with
      | false =>
        simp only [Bool.false_eq_true, if_false] at q9 ⊢
        exact fin I9 q9
      | true =>
        simp only [if_true] at q9 ⊢
        refine wpAny_mono (pe'.run _ s9 σ8 H9 _ (I9.wish _) q9) (fun z s10 ⟨yv, H10, I10, r10, acc, hD10, hz10, nx⟩ => ?_) fun u s10 hx => block_outN I3 tk cF cL rfl f3 hx
        exact app_ok (X := X.blk s3 H3 scope ce fp) I10.unwish hD10 hz10 r10 fun s11 I11 => fin I11 nx
  exact codeAny_compStart_list loop (T.self X.A 0 _ _ _ st4 loop)
section
variable {X : Cx}
/-- as a value -/
theorem pe_lcXN {elt tg iter : Expr} {ifs : List Expr} {scope : Scope} {own : List (Str × Nat)} {pos : Pos} {wi : TI} {g : TG} {tt : TT} {te : TE} {E : XK} {L : Addr} (tk : TakesLN X L fun cls d _ H => E cls d H) (hc : X.calm = true) (hN : X.N.Nodup) (hi : PI X tg iter wi) (ok : BlkOk X.N X.env.scope scope own)
    (hg : ∀ (s : Shared) (H : Hp) (C : Addr) (cl : List (Str × Addr)) (fp : List Addr), PG (X.blk s H scope (compEnvC scope cl C X.env) fp) tg g) (ht : ∀ (s : Shared) (H : Hp) (C : Addr) (cl : List (Str × Addr)) (fp : List Addr), PTs (X.blk s H scope (compEnvC scope cl C X.env) fp) ifs tt)
    (he : ∀ (s : Shared) (H : Hp) (C : Addr) (cl : List (Str × Addr)) (fp : List Addr) (xe : Value → Shared → Prop), TakesLN ((X.blk s H scope (compEnvC scope cl C X.env) fp).wish xe) L (fun cls d _ H => E cls d H) → PE ((X.blk s H scope (compEnvC scope cl C X.env) fp).wish xe) elt te) (hs : ∀ x, foldedSetIterable iter X.env x = pure x := by intro _; rfl) :
    PE X (.ListComp elt [⟨tg, iter, ifs, 0⟩] scope pos) (tLc wi g tt te (own.map (·.2))) := by
  refine ⟨fun pins s σ H Q I h => ?_⟩
  rw [eval_ListComp]
  refine lc_coreXN tk hc hN I hi ok hg ht he hs h fun D C s' m H' I' q hn f => ⟨m, hn, fun h'' sb => ?_⟩
  obtain ⟨f0, f1, f2, f3, f4, f5⟩ := f
  exact ⟨.ref D, H', I'.turned (t' := s'.toks) (fun b o hb e => (sb.2 b hb).trans e) f0 f1 f3 f4 f5, rfl, q⟩
/-- name = [..] on one line, the name a local -/
theorem ps_setLcXN {i : Nat} {y : Str} {py : Pos} {elt tg iter : Expr} {ifs : List Expr} {scope : Scope} {own : List (Str × Nat)} {pos spos : Pos} {wi : TI} {g : TG} {tt : TT} {te : TE} {E : XK} {L : Addr} (tk : TakesLN X L fun cls d _ H => E cls d H) (hc : X.calm = true) (hN : X.N.Nodup) (hy : X.N[i]? = some y) (hyl : X.env.scope.names.lookup y = some .local)
    (hsw : swapsWith (.ListComp elt [⟨tg, iter, ifs, 0⟩] scope pos) (some (.Name y py)) spos.line X.env = pure true) (hi : PI X tg iter wi) (ok : BlkOk X.N X.env.scope scope own)
    (hg : ∀ (s : Shared) (H : Hp) (C : Addr) (cl : List (Str × Addr)) (fp : List Addr), PG (X.blk s H scope (compEnvC scope cl C X.env) fp) tg g) (ht : ∀ (s : Shared) (H : Hp) (C : Addr) (cl : List (Str × Addr)) (fp : List Addr), PTs (X.blk s H scope (compEnvC scope cl C X.env) fp) ifs tt)
    (he : ∀ (s : Shared) (H : Hp) (C : Addr) (cl : List (Str × Addr)) (fp : List Addr) (xe : Value → Shared → Prop), TakesLN ((X.blk s H scope (compEnvC scope cl C X.env) fp).wish xe) L (fun cls d _ H => E cls d H) → PE ((X.blk s H scope (compEnvC scope cl C X.env) fp).wish xe) elt te) (hs : ∀ x, foldedSetIterable iter X.env x = pure x := by intro _; rfl) :
    PS X (.Assign [.Name y py] (.ListComp elt [⟨tg, iter, ifs, 0⟩] scope pos) spos) (tAsg (tLc wi g tt te (own.map (·.2))) (gName i)) := by
  refine ⟨fun pins s σ H D I h => ?_⟩
  rw [exec_Assign_Name_used _ _ _ _ hsw]
  refine wpAny_bind (wpAny_standAt (wpAny_bind ?_))
  show wpAny _ X.A (do let _ ← comprehension (.ListComp elt [⟨tg, iter, ifs, 0⟩] scope pos) scope X.env (firstIterPos [⟨tg, iter, ifs, 0⟩] pos) (newList []) false (eval iter X.env) (some (assign (.Name y py) X.env))) _ _ s
  have h : tLc wi g tt te (own.map (·.2)) σ H (fun x H1 => gName i x σ H1 D.nx) := h
  refine wpAny_bind (thn (lc_coreXN (Qf := fun _ s' => SP X pins D .next s') tk hc hN I hi ok hg ht he hs h fun L C s' m H' I' q hn f => ?_) fun _ s' hq => wpAny_pure (wpAny_pure hq))
  show wpAny _ _ (assign (.Name y py) X.env (.ref L)) _ _ _
  refine wpAny_assign_Name (store_ok2 (v := V.ref L) I' hN hy (.inl hyl) rfl (fun s2 I2 ⟨a, sb, ha⟩ => ?_) (.inr hyl))
  obtain ⟨f0, f1, f2, f3, f4, f5⟩ := f
  have haC : C ≠ a := by
    rcases ha with z | z
    · rw [z]; exact f1
    · exact fun e => f4 y a z e.symm
  refine ⟨m, hn.sameBut sb haC, fun h3 sb3 => ?_⟩
  exact ⟨_, H', I2.turned (t' := s2.toks) (fun b o hb e => (sb3.2 b hb).trans e) f0 f1 f3 f4 f5, q⟩
end
/-! ### defs that may raise, told so -/
section
variable {PP : Program} {w : World} {K : PySem.W.Frag} {mg : Str → Option Value} {base : Heap}
theorem Fun.okXN {x qual : Str} {st : Stmt} {f : Addr} {fd : FuncData} {N ps : List Str} {k : Nat} {sp : Sp} (F : Fun K x qual st f fd) (S : FnScope N ps (defScope st)) (len : ∀ vs H Q E, sp vs H Q E → vs.length = ps.length)
    (hbody : ∀ (cdv : Value) (A : Around) (outer : List Env) (s : Shared) (H : Hp) (vs : List V) (Q : VK) (E : XK), Room k (A.deeper (envOfC qual (defScope st) s.heap.objs.size f cdv)) → sp vs H Q E →
      ∃ t, PSs (cxOf (L2N.CX PP w) PP w K mg base N qual (defScope st) f cdv A outer s H E) (defBody st) t ∧ t { nx := fun _ H' => Q .non H', rt := Q } (L2.start N vs) H) : FnOk PP w K mg base (L2N.CX PP w) (k + 1) f fd ps sp := by
  obtain ⟨oc, od, kV, doc, pm, an, cdv, ct, osl, rfl, lk, hcd⟩ := F.ex
  exact fn_of lk hcd S len fun A outer s H vs Q E hr hsp => hbody cdv A outer s H vs Q E hr hsp
theorem fn_okXN {x qual : Str} {st : Stmt} {f : Addr} {fd : FuncData} {N ps : List Str} {k n : Nat} {R : List D → D ⊕ Addr → Prop} (F : Fun K x qual st f fd) (S : FnScope N ps (defScope st)) (hn : ps.length = n) (m : Nat) (hm : N.length = n + m)
    (hbody : ∀ (cdv : Value) (A : Around) (outer : List Env) (s : Shared) (H : Hp) (E : XK), Room k (A.deeper (envOfC qual (defScope st) s.heap.objs.size f cdv)) →
      ∃ t, PSs (cxOf (L2N.CX PP w) PP w K mg base N qual (defScope st) f cdv A outer s H E) (defBody st) t ∧
        ∀ (φ : Addr → Prop) (ds : List D) (o : D ⊕ Addr) (H : Hp) (D0 : Ends) (σ : L2.St), ds.length = n → R ds o → (∀ d, o = .inl d → ∀ v H', Same H H' → Rep K φ H' d v → D0.rt v H') → (∀ c, o = .inr c → ∀ H', Same H H' → E (.ref c) none H') → At K φ (Same H) (ds.map some ++ List.replicate m none) σ H → t D0 σ H) :
    FnOk PP w K mg base (L2N.CX PP w) (k + 1) f fd ps (SpX K n R) := by
  refine Fun.okXN F S (fun vs H Q E h => ?_) (fun cdv A outer s H vs Q E hr h => ?_)
  · obtain ⟨φ, ds, d, hl, r, _⟩ := h
    rw [r.length, hl, hn]
  · obtain ⟨φ, ds, o, hl, r, fr, hd, q, qe⟩ := h
    obtain ⟨t, ht, run⟩ := hbody cdv A outer s H E hr
    refine ⟨t, ht, run φ ds o H _ _ hl hd (fun d e v H' s r => q d e v H' s r) qe ⟨?_, fr, Same.refl H, Mo.sames fun _ h => h⟩⟩
    have e : N.length - vs.length = m := by rw [hm, r.length, hl]; omega
    unfold L2.start
    rw [e]
    exact SR.start r
end

-- import HandS.ExcInit
-- import HandS.ExcField
-- import HandS.ExcSuper
-- import KE.KExcSuper
-- import KE.KSuper
-- import HandS.Lambda
/-! ### an own exception over own classes: def __init__(self, f): super().__init__(text); self.f = f -/
section
open PySem.W PySem.Calls
/-- the context of a method whose frame has the cell of its class -/
def supCx (P : Program) (w : World) (K : PySem.W.Frag) (mg : Str → Option Value) (base : Heap) (A : Around) (outer : List Env) (s : Shared) (H : Hp) (E : XK) (N : List Str) (qual : Str) (scope : Scope) (f : Addr) (cdv : Value) (cc : Addr) : Cx where
  prog := P
  w := w
  K := K
  mg := mg
  base := base
  A := A.deeper (ksEnv qual scope s.heap.objs.size f cdv cc)
  N := N
  s_0 := s
  H_0 := H
  env := ksEnv qual scope s.heap.objs.size f cdv cc
  outer := outer
  stack := ksEnv qual scope s.heap.objs.size f cdv cc :: outer
  ex := []
  fn := fun _ => false
  calm := true
  pn := []
  xe := fun e s' => wpAny (model P w) (A.deeper (ksEnv qual scope s.heap.objs.size f cdv cc)) (leaving (ksEnv qual scope s.heap.objs.size f cdv cc) e) (fun _ s'' => L2.CX P w outer H s E e s'') (fun e' s'' => L2.CX P w outer H s E e' s'') s'
/-- what the written part says of the class and its __init__ -/
structure SupC (P : Program) (K : PySem.W.Frag) (C fI : Addr) (qual : Str) (st : Stmt) (fd : FuncData) (cc cda : Addr) : Prop where
  fn : ∃ (oc : Value) (od : Option Addr) (kV doc pm : Value) (an : Option Addr) (ct : Value) (osl : Array (Option Value)),
    fd = ksFn "__init__" qual (defArgs st) (defBody st) (defScope st) .none kV doc pm an (.ref cda) ct cc ∧ K.lookup fI = some ⟨oc, od, .func fd, osl⟩
  cd : PySem.W.codeIn K (.ref cda) qual = true
  code : ∃ (ccl : Value) (cdd : Option Addr) (vs : Array Value) (ccs : Array (Option Value)) (file : Str) (tf : Tok), K.lookup cda = some ⟨ccl, cdd, .fields vs, ccs⟩ ∧ vs[2]? = some (.str file tf) ∧ ((P.main.file : Str) == file) = true
  cell : ∃ (cl : Value) (cld : Option Addr) (csl : Array (Option Value)), K.lookup cc = some ⟨cl, cld, .cell (some (.ref C)), csl⟩
  cls : ∃ cd, PySem.W.clsIn K C = some cd
  sub : PySem.W.mroIn K C (.ref C) = some true
  top : (P.main.scope.names.lookup ("super" : Str)).isSome = false
  sup : ks_superIn K C C "__init__" = some (some (.builtin "ValueError.__init__"))
  any : PySem.W.nsIn K cStatics "thirdparty.any" = some none
  ve : PySem.W.subIn K (.ref C) (.type "ValueError") = some true
  ex : OexC K C
section
variable {P : Program} {w : World} {K : PySem.W.Frag} {mg : Str → Option Value} {base : Heap}
/-- what is asked and told of it -/
def SpIL (C : Addr) (fl : Str) : Sp := fun vs H Q _ => ∃ (a : Addr) (v : V), vs = [.ref a, v] ∧ H a = some (exo a C none) ∧ ∀ dx, H dx = none → dx ≠ a → Q .non (upd (upd H dx (exd dx [(fl, v)])) a (exo a C (some dx)))
end
end

/-! ### the law's own helpers -/
structure Bi (mg : Str → Option Value) : Prop where
  len : mg "len" = none
  range : mg "range" = none
  isinstance : mg "isinstance" = none
  int : mg "int" = none
  str : mg "str" = none
  bool : mg "bool" = none
  list : mg "list" = none
  tuple : mg "tuple" = none
  dict : mg "dict" = none
  sum : mg "sum" = none
  max : mg "max" = none
  min : mg "min" = none
  abs : mg "abs" = none
  sorted : mg "sorted" = none
  enumerate : mg "enumerate" = none
  zip : mg "zip" = none
  set : mg "set" = none
local macro_rules | `(tactic| walk_at "ev") => `(tactic| repeat' (first
  | exact ev_int | exact ev_bl | exact ev_str | exact ev_non | exact ev_ty | exact ev_var rfl
  | refine ev_add ?_ ?_ | refine ev_sub ?_ ?_ | refine ev_mul ?_ ?_ ?_ | refine ev_mulW ?_ ?_ ?_ | refine ev_fdiv ?_ ?_ ?_ | refine ev_fdivW ?_ ?_ ?_ | refine ev_mod ?_ ?_ ?_ | refine ev_neg ?_
  | refine ev_lt ?_ ?_ | refine ev_le ?_ ?_ | refine ev_gt ?_ ?_ | refine ev_ge ?_ ?_
  | refine ev_eqI ?_ ?_ | refine ev_neI ?_ ?_ | refine ev_isN ?_ | refine ev_notN ?_
  | refine ea_cons ?_ ?_ | exact ea_nil
  | refine ev_intI ?_ | refine ev_abs ?_ | refine ev_max2 ?_ ?_ | refine ev_min2 ?_ ?_
  | refine et_test ?_ | refine et_B ?_))
/-- no raw values, a bounded depth -/
def plain : Nat → D → Bool
  | 0, _ => false
  | _ + 1, .non => true
  | _ + 1, .bl _ => true
  | _ + 1, .int _ => true
  | _ + 1, .str _ => true
  | n + 1, .tup ds => decide (ds.length ≤ 1000000) && ds.all (plain n)
  | n + 1, .lst ds => decide (ds.length ≤ 1000000) && ds.all (plain n)
  | _ + 1, .raw _ => false
  | _ + 1, .dk _ _ => false
  | _ + 1, .dt _ _ => false
theorem plain_raw {n : Nat} {d : D} (h : plain n d = true) : isRaw d = false := by
  cases n with
  | zero => cases h
  | succ n => cases d <;> first | rfl | cases h
theorem plain_seq {n : Nat} {d : D} {es : List D} (h : plain (n + 1) d = true) (e : seqOf d = some es) : es.length ≤ 1000000 ∧ ∀ x ∈ es, plain n x = true := by
  cases d <;> first | (cases e; done) | skip
  all_goals
    cases e
    simp only [plain, Bool.and_eq_true, decide_eq_true_eq, List.all_eq_true] at h
    exact h
def RSame (n : Nat) : List D → D → Prop := fun ds r => ∃ d, ds = [d, d] ∧ plain n d = true ∧ r = .bl true
section
variable {P : Program} {w : World} {K : PySem.W.Frag} {mg : Str → Option Value} {base : Heap}
theorem atI_ofNat {α : Type} {xs : List α} {i : Nat} {x : α} (h : xs[i]? = some x) : L2.atI xs (i : Int) = some x := by
  have hi : i < xs.length := (List.getElem?_eq_some_iff.mp h).1
  unfold L2.atI L2.ixN
  rw [if_pos (by omega), if_pos (by omega)]
  exact h
theorem sc__law_same : FnScope ["actual", "due", "k"] ["actual", "due"] (defScope s__law_same) := ⟨rfl, rfl, rfl, by decide +kernel, rfl, by decide +kernel, by decide +kernel⟩
theorem ok__law_same (B : Bi mg) {f : Addr} {fd : FuncData} (F : Fun K "_law_same" "_law_same" s__law_same f fd) (L__law_same : Lk K mg "_law_same" f fd ["actual", "due"]) : ∀ n : Nat, FnOk P w K mg base CX0 n f fd ["actual", "due"] (SpD K 2 (RSame n))
  | 0 => by
    have no : ∀ vs H Q E, ¬ SpD K 2 (RSame 0) vs H Q E := fun vs H Q E h => by
      obtain ⟨_, _, _, _, _, _, ⟨_, _, h, _⟩, _⟩ := h
      cases h
    exact ⟨fun vs H Q E h => absurd h (no vs H Q E), fun A outer s H args us vs Q E _ _ _ _ h => absurd h (no vs H Q E)⟩
  | n + 1 => by
    have G__law_same : FnOk P w K mg base CX0 n f fd ["actual", "due"] (SpD K 2 (RSame n)) := ok__law_same B F L__law_same n
    have S := sc__law_same
    refine fn_ok F S rfl 1 rfl fun cdv A outer s H E hr => ⟨_, ((pss_cons (ps_if (PW.pt (pw_or (pt_val (pe_callB call_isi (by rfl) B.isinstance (by decide +kernel) (pa_cons (pv 1) (pa_cons (pe_ty (n := "tuple") B.tuple (by decide +kernel)) pa_nil)))) (pw_or1 (pt_val (pe_callB call_isi (by rfl) B.isinstance (by decide +kernel) (pa_cons (pv 1) (pa_cons (pe_ty (n := "list") B.list (by decide +kernel)) pa_nil)))))))
 (pss_cons (ps_if (PW.pt (pw_or (pt_cmpR op_ne (pe_callB call_isi (by rfl) B.isinstance (by decide +kernel) (pa_cons (pv 1) (pa_cons (pe_ty (n := "tuple") B.tuple (by decide +kernel)) pa_nil))) (pe_callB call_isi (by rfl) B.isinstance (by decide +kernel) (pa_cons (pv 0) (pa_cons (pe_ty (n := "tuple") B.tuple (by decide +kernel)) pa_nil))) (nomark _)) (pw_or1 (pt_cmpR op_ne (pe_callB call_isi (by rfl) B.isinstance (by decide +kernel) (pa_cons (pv 1) (pa_cons (pe_ty (n := "list") B.list (by decide +kernel)) pa_nil))) (pe_callB call_isi (by rfl) B.isinstance (by decide +kernel) (pa_cons (pv 0) (pa_cons (pe_ty (n := "list") B.list (by decide +kernel)) pa_nil))) (nomark _)))))
 (pss_one (ps_ret pe_bl))
 pss_nil)
 (pss_cons (ps_if (pt_cmpR op_ne (pe_callB c_len (by rfl) B.len (by decide +kernel) (pa_cons (pv 0) pa_nil)) (pe_callB c_len (by rfl) B.len (by decide +kernel) (pa_cons (pv 1) pa_nil)) (nomark _))
 (pss_one (ps_ret pe_bl))
 pss_nil)
 (pss_cons (ps_for PassesOwn.never rfl (pi_range1 (by rfl) B.range (pa_cons (pe_callB c_len (by rfl) B.len (by decide +kernel) (pa_cons (pv 1) pa_nil)) pa_nil)) (pg_name (i := 2) S.nd rfl (by first | exact Or.inl rfl | exact Or.inr rfl))
 (pss_one (ps_if (pt_not (pt_val (pe_call G__law_same (hr.mono (by first | exact Nat.le_refl _ | decide | omega)) (by rfl) L__law_same.m L__law_same.kp L__law_same.bi .nil pass0 (pa_cons (pe_ix ix_seq (pv 0) (pv 2) (fun _ _ => rfl)) (pa_cons (pe_ix ix_seq (pv 1) (pv 2) (fun _ _ => rfl)) pa_nil)))))
 (pss_one (ps_ret pe_bl))
 pss_nil)))
 (pss_one (ps_ret pe_bl)))))
 pss_nil)
 (pss_cons (ps_if (pt_cmpR op_isN1 (pv 1) pe_non (nomark _))
 (pss_one (ps_ret (pe_cmpR op_isN1 (pv 0) pe_non (nomark _))))
 pss_nil)
 (pss_cons (ps_if (pt_val (pe_callB call_isi (by rfl) B.isinstance (by decide +kernel) (pa_cons (pv 1) (pa_cons (pe_ty (n := "bool") B.bool (by decide +kernel)) pa_nil))))
 (pss_one (ps_ret (pe_and (pe_callB call_isi (by rfl) B.isinstance (by decide +kernel) (pa_cons (pv 0) (pa_cons (pe_ty (n := "bool") B.bool (by decide +kernel)) pa_nil))) (pe_one (pe_cmpR op_eq (pv 0) (pv 1) (nomark _))))))
 pss_nil)
 (pss_cons (ps_if (pt_val (pe_callB call_isi (by rfl) B.isinstance (by decide +kernel) (pa_cons (pv 1) (pa_cons (pe_ty (n := "int") B.int (by decide +kernel)) pa_nil))))
 (pss_one (ps_ret (pe_and (pe_callB call_isi (by rfl) B.isinstance (by decide +kernel) (pa_cons (pv 0) (pa_cons (pe_ty (n := "int") B.int (by decide +kernel)) pa_nil))) (pe_and (pe_not (pe_callB call_isi (by rfl) B.isinstance (by decide +kernel) (pa_cons (pv 0) (pa_cons (pe_ty (n := "bool") B.bool (by decide +kernel)) pa_nil)))) (pe_one (pe_cmpR op_eq (pv 0) (pv 1) (nomark _)))))))
 pss_nil)
 (pss_one (ps_ret (pe_and (pe_callB call_isi (by rfl) B.isinstance (by decide +kernel) (pa_cons (pv 0) (pa_cons (pe_ty (n := "str") B.str (by decide +kernel)) pa_nil))) (pe_one (pe_cmpR op_eq (pv 0) (pv 1) (nomark _))))))))))), fun φ ds d H D0 σ hl hR hrt hnx A => ?_⟩
    obtain ⟨d, rfl, hp, rfl⟩ := hR
    replace A : At K φ (Same H) [some d, some d, none] σ H := A
    have hraw := plain_raw hp
    have isi : ∀ {ρ : List (Option D)} {J : Hp → Prop} {i : Nat} {n : String}, ρ[i]? = some (some d) → n ∈ (["tuple", "list", "bool", "int", "str", "dict"] : List String) → EvD K φ J (tCB (rIsi K) (tCons (tVar i) (tCons (tC (.ty n)) tNil))) ρ (.bl (isT n d)) := fun h hn => ev_isi (ev_var h) ev_ty hraw hn
    refine q ?_
    refine st_if A (et_or (et_B (isi rfl (by simp))) fun _ => et_B (isi rfl (by simp))) (fun hb H1 A1 => ?_) (fun hb H1 A1 => ?_)
    · -- a tuple or a list
      obtain ⟨es, hes⟩ : ∃ es, seqOf d = some es := by
        cases d <;> first | exact ⟨_, rfl⟩ | (simp [isT, tyD] at hb)
      obtain ⟨hlen, hpl⟩ := plain_seq hp hes
      refine q ?_
      refine st_no A1 (et_or (et_test (ev_neB (isi rfl (by simp)) (isi rfl (by simp)))) fun _ => et_test (ev_neB (isi rfl (by simp)) (isi rfl (by simp)))) (by simp) fun H2 A2 => ?_
      refine q ?_
      refine st_no A2 (et_test (ev_neI (ev_lenQ (ev_var rfl) hes) (ev_lenQ (ev_var rfl) hes))) (by simp) fun H3 A3 => ?_
      refine q ?_
      refine st_for A3 (it_range1 (ea_cons (ev_lenQ (ev_var rfl) hes) ea_nil) (by omega)) (fun i ρ' J' => (∃ o, ρ' = [some d, some d, o]) ∧ J' = Same H) ⟨⟨none, rfl⟩, rfl⟩ ?_ ?_
      · rintro H4 i x ρ' J' b4 j4 hx ⟨⟨o, rfl⟩, rfl⟩ σ' H' A5
        rw [rangeD_get] at hx
        have hi : i < es.length := by
          by_cases h : i < (es.length : Int).toNat
          · omega
          · rw [if_neg h] at hx; cases hx
        rw [if_pos (by omega)] at hx
        cases hx
        have hxi : L2.atI es (0 + (i : Int)) = some es[i] := by
          rw [Int.zero_add]
          exact atI_ofNat (List.getElem?_eq_getElem hi)
        have A5' : At K φ (fun H_1 => Same H H_1 ∧ But φ H4 H_1) [some d, some d, some (.int (0 + (i : Int)))] σ' H' := A5
        refine st_no A5' (et_not (et_B (ev_callD (ea_cons (ev_ixQ (ev_var rfl) hes (ev_var rfl) hxi) (ea_cons (ev_ixQ (ev_var rfl) hes (ev_var rfl) hxi) ea_nil)) ⟨es[i], rfl, hpl _ (List.getElem_mem hi), rfl⟩))) rfl fun H6 A6 => ?_
        exact ⟨_, _, ⟨⟨_, rfl⟩, rfl⟩, A6⟩
      · rintro H4 ρ' J' σ' H' b4 j4 ⟨⟨o, rfl⟩, rfl⟩ A5
        exact st_ret A5 ev_bl fun v d' H6 e A6 r => hrt v H6 A6.j.1 (e ▸ r)
    · refine st_next ?_
      have hnt : isT "tuple" d = false ∧ isT "list" d = false := by
        exact Bool.or_eq_false_iff.mp hb.symm
      refine q ?_
      refine st_if A1 (et_test (ev_isN (ev_var rfl))) (fun hn H2 A2 => ?_) (fun hn H2 A2 => ?_)
      · exact st_ret A2 (ev_isN (ev_var rfl)) fun v d' H6 e A6 r => hrt v H6 A6.j (by rw [e, ← hn] at r; exact r)
      · refine st_next (q ?_)
        refine st_if A2 (et_B (isi rfl (by simp))) (fun hB H3 A3 => ?_) (fun hB H3 A3 => ?_)
        · obtain ⟨b, rfl⟩ : ∃ b, d = .bl b := by
            cases d <;> first | exact ⟨_, rfl⟩ | (simp [isT, tyD] at hB)
          exact st_ret A3 (ev_andV (isi rfl (by simp)) fun _ => ev_one (ev_eqB (ev_var rfl) (ev_var rfl))) fun v d' H6 e A6 r => hrt v H6 A6.j (by rw [e, ← hB] at r; simpa using r)
        · refine st_next (q ?_)
          refine st_if A3 (et_B (isi rfl (by simp))) (fun hI H4 A4 => ?_) (fun hI H4 A4 => ?_)
          · obtain ⟨b, rfl⟩ : ∃ b, d = .int b := by
              cases d <;> first | exact ⟨_, rfl⟩ | (simp [isT, tyD] at hI hB)
            exact st_ret A4 (ev_andV (isi rfl (by simp)) fun _ => ev_andV (ev_notV (isi rfl (by simp))) fun _ => ev_one (ev_eqI (ev_var rfl) (ev_var rfl))) fun v d' H6 e A6 r => hrt v H6 A6.j (by rw [e, ← hI, ← hB] at r; simpa using r)
          · refine st_next ?_
            obtain ⟨b, rfl⟩ : ∃ b, d = .str b := by
              cases d <;> first | exact ⟨_, rfl⟩ | (cases hraw; done) | (cases hp; done) | (simp [isT, tyD, isNon] at hI hB hnt hn)
            exact st_ret A4 (ev_andV (isi rfl (by simp)) fun _ => ev_one (ev_eqS (ev_var rfl) (ev_var rfl))) fun v d' H6 e A6 r => hrt v H6 A6.j (by rw [e] at r; simpa [isT, tyD] using r)
end
/-! ### spread, pool, draw -/
section
variable {P : Program} {w : World} {K : PySem.W.Frag} {mg : Str → Option Value} {base : Heap}
def spreadN (c : Int) : Nat → Int × Int
  | 0 => (c % 2147483647, 1)
  | n + 1 => (((spreadN c n).1 * 48271 + 12345 + (0 + (n : Int))) % 2147483647, (spreadN c n).2 * 2147483647 + ((spreadN c n).1 * 48271 + 12345 + (0 + (n : Int))) % 2147483647)
theorem spreadN_lt (c : Int) : ∀ n, 0 ≤ (spreadN c n).1 ∧ (spreadN c n).1 < 2147483647
  | 0 => ⟨Int.emod_nonneg _ (by decide), Int.emod_lt_of_pos _ (by decide)⟩
  | n + 1 => ⟨Int.emod_nonneg _ (by decide), Int.emod_lt_of_pos _ (by decide)⟩
def RSpread : List D → D → Prop := fun ds r => ∃ c : Int, ds = [.int c] ∧ r = .int (spreadN c 4).2
theorem sc__law_spread : FnScope ["cell", "mixed", "total", "k"] ["cell"] (defScope s__law_spread) := ⟨rfl, rfl, rfl, by decide +kernel, rfl, by decide +kernel, by decide +kernel⟩
theorem ok__law_spread (B : Bi mg) {f : Addr} {fd : FuncData} (F : Fun K "_law_spread" "_law_spread" s__law_spread f fd) : FnOk P w K mg base CX0 1 f fd ["cell"] (SpD K 1 RSpread) := by
  have S := sc__law_spread
  refine fn_ok F S rfl 3 rfl fun cdv A outer s H E hr => ⟨_, ((pss_cons (ps_set (i := 1) S.nd rfl (by first | exact Or.inl rfl | exact Or.inr rfl) (pe_op op_mod (pe_callTy c_int1 (by rfl) B.int (by decide +kernel) (pa_cons (pv 0) pa_nil)) pe_int))
 (pss_cons (ps_set (i := 2) S.nd rfl (by first | exact Or.inl rfl | exact Or.inr rfl) pe_int)
 (pss_cons (ps_for PassesOwn.never rfl (pi_range1 (by rfl) B.range (pa_cons pe_int pa_nil)) (pg_name (i := 3) S.nd rfl (by first | exact Or.inl rfl | exact Or.inr rfl))
 (pss_cons (ps_set (i := 1) S.nd rfl (by first | exact Or.inl rfl | exact Or.inr rfl) (pe_op op_mod (pe_callTy c_int1 (by rfl) B.int (by decide +kernel) (pa_cons (pe_op op_add (pe_op op_add (pe_op op_mul (pv 1) pe_int) pe_int) (pv 3)) pa_nil)) pe_int))
 (pss_one (ps_set (i := 2) S.nd rfl (by first | exact Or.inl rfl | exact Or.inr rfl) (pe_op op_add (pe_op op_mul (pv 2) pe_int) (pv 1))))))
 (pss_one (ps_ret (pv 2))))))), fun φ ds d H D0 σ hl hR hrt hnx A => ?_⟩
  obtain ⟨c, rfl, rfl⟩ := hR
  replace A : At K φ (Same H) [some (.int c), none, none, none] σ H := A
  refine q (st_set A (ev_mod (ev_intI (ev_var rfl)) ev_int (by decide)) fun σ1 H1 A1 => q (st_set A1 ev_int fun σ2 H2 A2 => q ?_))
  refine st_for A2 (it_range1 (ea_cons ev_int ea_nil) (by decide)) (fun i ρ' J' => (∃ o, ρ' = [some (.int c), some (.int (spreadN c i).1), some (.int (spreadN c i).2), o]) ∧ J' = Same H) ⟨⟨none, rfl⟩, rfl⟩ ?_ ?_
  · rintro H4 i x ρ' J' b4 j4 hx ⟨⟨o, rfl⟩, rfl⟩ σ' H' A5
    rw [rangeD_get] at hx
    split at hx
    · cases hx
      have h := spreadN_lt c i
      refine q (st_set A5 (ev_mod (ev_intI (ev_add (ev_add (ev_mul (ev_var rfl) ev_int (.inl (by omega))) ev_int) (ev_var rfl))) ev_int (by decide)) fun σ6 H6 A6 => ?_)
      refine st_set A6 (ev_add (ev_mul (ev_var rfl) ev_int (.inr (by decide))) (ev_var rfl)) fun σ7 H7 A7 => ?_
      exact ⟨_, _, ⟨⟨_, rfl⟩, rfl⟩, A7⟩
    · cases hx
  · rintro H4 ρ' J' σ' H' b4 j4 ⟨⟨o, rfl⟩, rfl⟩ A5
    exact st_ret A5 (ev_var rfl) fun v d' H6 e A6 r => hrt v H6 A6.j.1 (e ▸ r)
/-- a new pool for the script -/
def spPool (K : PySem.W.Frag) : Sp := fun vs H Q _ => ∃ (a : Addr) (ns : List Int), vs = [.ref a] ∧ SqL K H a (ns.map V.int) ∧ ns.length ≤ 63 ∧ ∀ p s H', Same H H' → H p = none → H s = none → s ≠ p → PoolOk p s ns H' → Q (.ref p) H'
theorem sc__law_pool : FnScope ["script", "salt", "cell"] ["script"] (defScope s__law_pool) := ⟨rfl, rfl, rfl, by decide +kernel, rfl, by decide +kernel, by decide +kernel⟩
theorem ok__law_pool (B : Bi mg) {f : Addr} {fd : FuncData} (F : Fun K "_law_pool" "_law_pool" s__law_pool f fd) : FnOk P w K mg base CX0 1 f fd ["script"] (spPool K) := by
  have S := sc__law_pool
  refine F.ok S (fun vs H Q E h => ?_) (fun cdv A outer s H vs Q E hr h => ?_)
  · obtain ⟨a, ns, rfl, _⟩ := h
    rfl
  obtain ⟨a, ns, rfl, hS, hlen, kq⟩ := h
  refine ⟨_, ((pss_cons (ps_set (i := 1) S.nd rfl (by first | exact Or.inl rfl | exact Or.inr rfl) pe_int)
 (pss_cons (ps_for PassesOwn.never rfl (pi_list (pe_slice sl_list (pv 0) po_none (po_some pe_int))) (pg_name (i := 2) S.nd rfl (by first | exact Or.inl rfl | exact Or.inr rfl))
 (pss_one (ps_set (i := 1) S.nd rfl (by first | exact Or.inl rfl | exact Or.inr rfl) (pe_op op_mod (pe_callTy c_int1 (by rfl) B.int (by decide +kernel) (pa_cons (pe_op op_add (pe_op op_mul (pv 1) pe_int) (pv 2)) pa_nil)) pe_int))))
 (pss_one (ps_ret (pe_lst (pa_cons (pe_callTy c_listOf (by rfl) B.list (by decide +kernel) (pa_cons (pv 0) pa_nil)) (pa_cons pe_int (pa_cons pe_int (pa_cons pe_int (pa_cons (pv 1) pa_nil))))))))))), ?_⟩
  have A0 : At K (fun _ => True) (Same H) [some (.lst (ns.map D.int)), none, none] [some (.ref a), none, none] H := by
    have hpl : PL K (fun _ => True) H a (ns.map V.int) := hS.elim (fun z => .inl ⟨trivial, z⟩) .inr
    exact ⟨SR.start (ds := [.lst (ns.map D.int)]) (n := 2) (Reps.cons ⟨a, _, rfl, hpl, Reps.of_ints⟩ Reps.nil), ⟨fun _ _ => trivial, fun _ _ _ => trivial⟩, Same.refl H, Mo.sames fun _ h => h⟩
  refine q (st_set A0 ev_int fun σ1 H1 A1 => q ?_)
  refine st_for A1 (it_list (ev_slL (ev_var rfl) eo_none (eo_some ev_int))) (fun i ρ' J' => (∃ o, ∃ z : Int, 0 ≤ z ∧ z < 1000003 ∧ ρ' = [some (.lst (ns.map D.int)), some (.int z), o]) ∧ J' = Same H) ⟨⟨none, 7, by decide, by decide, rfl⟩, rfl⟩ ?_ ?_
  · rintro H4 i x ρ' J' b4 j4 hx ⟨⟨o, z, hz, hz2, rfl⟩, rfl⟩ σ' H' A5
    obtain ⟨n, rfl⟩ : ∃ n, x = .int n := by
      have hm : x ∈ cutD (ns.map D.int) none (some 63) := List.mem_of_getElem? hx
      have hm2 : x ∈ ns.map D.int := List.mem_of_mem_drop (List.mem_of_mem_take hm)
      obtain ⟨n, _, e⟩ := List.mem_map.mp hm2
      exact ⟨n, e.symm⟩
    refine st_set A5 (ev_mod (ev_intI (ev_add (ev_mul (ev_var rfl) ev_int (.inl (by omega))) (ev_var rfl))) ev_int (by decide)) fun σ7 H7 A7 => ?_
    exact ⟨_, _, ⟨⟨_, _, Int.emod_nonneg _ (by decide), Int.emod_lt_of_pos _ (by decide), rfl⟩, rfl⟩, A7⟩
  · rintro H4 ρ' J' σ' H' b4 j4 ⟨⟨o, z, hz, hz2, rfl⟩, rfl⟩ A5
    refine en_list (ev_var rfl) σ' H' A5 _ fun s vs ds H5 H6 b5 A6 hs b6 A7 e hst r => ?_
    subst e
    have ev : vs = ns.map V.int := r.ints
    subst ev
    obtain ⟨v, ev, rv⟩ := A7.sr.2 1 _ rfl
    cases (show v = _ from rv)
    refine ⟨_, ev, by show 5 ≤ sizeLine; decide, fun p hp => ?_⟩
    have nsp : s ≠ p := ne_of_none hst hp
    refine kq p s _ (A7.j.1.trans (same_new hp)) (Same.free A7.j.1 hp) (Same.free A6.j.1 hs) nsp ⟨0, 0, 0, z, upd_same, ?_, Int.le_refl _⟩
    rw [upd_ne nsp]
    exact hst
/-- the pool's list -/
def plV (s : Addr) (a c n z : Int) : List V := [.ref s, .int a, .int c, .int n, .int z]
theorem sc__law_draw : FnScope ["pool", "many", "cell", "mixed", "value"] ["pool", "many"] (defScope s__law_draw) := ⟨rfl, rfl, rfl, by decide +kernel, rfl, by decide +kernel, by decide +kernel⟩
theorem ok__law_draw (B : Bi mg) {f g : Addr} {fd gd : FuncData} (F : Fun K "_law_draw" "_law_draw" s__law_draw f fd) (L__law_spread : Lk K mg "_law_spread" g gd ["cell"]) (G__law_spread : FnOk P w K mg base CX0 1 g gd ["cell"] (SpD K 1 RSpread)) : FnOk P w K mg base CX0 2 f fd ["pool", "many"] spDraw := by
  have S := sc__law_draw
  refine F.ok S (fun vs H Q E h => ?_) (fun cdv A outer s H vs Q E hr h => ?_)
  · obtain ⟨p, s, ns, n, rfl, _⟩ := h
    rfl
  obtain ⟨p, s, ns, many, rfl, ⟨a0, c0, n0, z0, hp, hs, ha0⟩, nsp, hm0, hm1, kq⟩ := h
  refine ⟨_, ((C8.pss_cut (ps_if (PW.pt (pw_and (pt_cmpR op_le (pe_ix ix_list (pv 0) pe_int (fun _ _ => rfl)) pe_int (nomark _)) (pw_and1 (pt_cmpR op_lt (pe_ix ix_list (pv 0) pe_int (fun _ _ => rfl)) (pe_callB c_len (by rfl) B.len (by decide +kernel) (pa_cons (pe_ix ix_list (pv 0) pe_int (fun _ _ => rfl)) pa_nil)) (nomark _)))))
 (pss_cons (ps_set (i := 2) S.nd rfl (by first | exact Or.inl rfl | exact Or.inr rfl) (pe_ix ix_list (pe_ix ix_list (pv 0) pe_int (fun _ _ => rfl)) (pe_ix ix_list (pv 0) pe_int (fun _ _ => rfl)) (fun _ _ => rfl)))
 (pss_cons (ps_asg (pe_op op_add (pe_ix ix_list (pv 0) pe_int (fun _ _ => rfl)) pe_int) (pg_sub (pv 0) pe_int set_list))
 (pss_cons (ps_asg (pv 2) (pg_sub (pv 0) pe_int set_list))
 (pss_one (ps_if (pt_cmpR op_lt (pv 2) pe_int (nomark _))
 (pss_one (ps_asg (pe_call G__law_spread (hr.mono (by first | exact Nat.le_refl _ | decide | omega)) (by rfl) L__law_spread.m L__law_spread.kp L__law_spread.bi .nil pass0 (pa_cons (pv 2) pa_nil)) (pg_sub (pv 0) pe_int set_list)))
 pss_nil)))))
 pss_nil)
 (pss_cons (ps_asg (pe_op op_add (pe_ix ix_list (pv 0) pe_int (fun _ _ => rfl)) pe_int) (pg_sub (pv 0) pe_int set_list))
 (pss_cons (ps_if (pt_cmpR op_le (pe_ix ix_list (pv 0) pe_int (fun _ _ => rfl)) pe_int (nomark _))
 (pss_cons (ps_set (i := 3) S.nd rfl (by first | exact Or.inl rfl | exact Or.inr rfl) (pe_op op_mod (pe_callTy c_int1 (by rfl) B.int (by decide +kernel) (pa_cons (pe_op op_add (pe_op op_add (pe_op op_mul (pe_ix ix_list (pv 0) pe_int (fun _ _ => rfl)) pe_int) (pe_op op_mul (pe_ix ix_list (pv 0) pe_int (fun _ _ => rfl)) pe_int)) pe_int) pa_nil)) pe_int))
 (pss_cons (ps_set (i := 3) S.nd rfl (by first | exact Or.inl rfl | exact Or.inr rfl) (pe_op op_mod (pe_callTy c_int1 (by rfl) B.int (by decide +kernel) (pa_cons (pe_op op_add (pe_op op_mul (pv 3) pe_int) (pe_ix ix_list (pv 0) pe_int (fun _ _ => rfl))) pa_nil)) pe_int))
 (pss_one (ps_ret (pe_op op_mod (pe_op op_fdiv (pv 3) pe_int) (pv 1))))))
 pss_nil)
 (pss_cons (ps_set (i := 4) S.nd rfl (by first | exact Or.inl rfl | exact Or.inr rfl) (pe_op op_mod (pe_callTy c_int1 (by rfl) B.int (by decide +kernel) (pa_cons (pe_ix ix_list (pv 0) pe_int (fun _ _ => rfl)) pa_nil)) (pv 1)))
 (pss_cons (ps_asg (pe_op op_fdivW (pe_ix ix_list (pv 0) pe_int (fun _ _ => rfl)) (pv 1)) (pg_sub (pv 0) pe_int set_list))
 (pss_one (ps_ret (pv 4))))))))), ?_⟩
  let φ : Addr → Prop := fun a => a ≠ p
  let JJ : Int → Int → Int → Hp → Prop := fun a c n H' => H' p = some (.lst (plV s a c n z0)) ∧ But φ H H'
  have trp : ∀ {H' : Hp}, But φ H H' → H' p ≠ none := fun b => b.tr p (by rw [hp]; exact fun z => by cases z)
  have moJ : ∀ {a c n : Int} {H' : Hp}, But φ H H' → Mo H' (JJ a c n) := fun b => (Mo.at (trp b)).and (Mo.but b.tr)
  have nφ : ¬ φ p := fun z => z rfl
  have updA : ∀ {a c n a' c' n' : Int} {ρ : List (Option D)} {σ : L2.St} {H' : Hp}, At K φ (JJ a c n) ρ σ H' → At K φ (JJ a' c' n') ρ σ (L2.upd H' p (.lst (plV s a' c' n' z0))) := fun {a c n a' c' n' ρ σ H'} A =>
    A.upd nφ ⟨upd_same, A.j.2.upd nφ⟩ (moJ (A.j.2.upd nφ))
  have A0 : At K φ (JJ a0 c0 n0) [some (.raw (.ref p)), some (.int many), none, none, none] [some (.ref p), some (.int many), none, none, none] H :=
    ⟨SR.start (ds := [.raw (.ref p), .int many]) (n := 3) (Reps.cons rfl (Reps.cons rfl Reps.nil)), ⟨fun a h z => (by rw [z, hp] at h; cases h), fun a xs h z => (by rw [z, hp] at h; cases h)⟩, ⟨hp, But.refl _ _⟩, moJ (But.refl _ _)⟩
  -- the pool's cells
  have ix : ∀ {a c n : Int} {ρ : List (Option D)} {i : Int} {d : D} {v : V}, ρ[0]? = some (some (.raw (.ref p))) → atI (plV s a c n z0) i = some v → (∀ H', Rep K φ H' d v) → EvD K φ (JJ a c n) (tOp (rIxL K) (tVar 0) (tC (.int i))) ρ d := fun h e r => ev_ixLive (ev_var h) ev_int fun H' j => ⟨_, j.1, _, e, r H'⟩
  have fin : ∀ {a c n : Int} {ρ : List (Option D)} {σ : L2.St} {H' : Hp} {r : Int}, At K φ (JJ a c n) ρ σ H' → 0 ≤ a → 0 ≤ r → r < many → Q (.int r) H' := fun {a c n ρ σ H' r} A ha h0 h1 =>
    kq r H' h0 h1 (fun b o nb e => A.j.2.keep b o nb e) ⟨a, c, n, z0, A.j.1, A.j.2.keep _ _ nsp hs, ha⟩
  refine q_cut (M := fun σ' H' => ∃ a c o, 0 ≤ a ∧ At K φ (JJ a c n0) [some (.raw (.ref p)), some (.int many), o, none, none] σ' H') ?_ ?_
  · refine st_if A0 (et_and (et_test (ev_le (ix rfl rfl fun _ => rfl) ev_int)) fun _ => et_test (ev_lt (ix rfl rfl fun _ => rfl) (ev_lenLive (ix rfl rfl fun _ => rfl) fun H' j => j.2.keep _ _ nsp hs))) (fun hb H1 A1 => ?_) (fun hb H1 A1 => ⟨a0, c0, none, ha0, A1⟩)
    have hlt : a0 < ((ns.map V.int).length : Nat) := by
      have h1 := hb.symm
      rw [Bool.and_eq_true] at h1
      exact of_decide_eq_true h1.2
    have hltn : a0.toNat < ns.length := by rw [List.length_map] at hlt; omega
    have hat : atI (ns.map V.int) a0 = some (.int ns[a0.toNat]) := by
      have z := atI_ofNat (xs := ns.map V.int) (i := a0.toNat) (x := .int ns[a0.toNat]) (by rw [List.getElem?_map, List.getElem?_eq_getElem hltn]; rfl)
      rw [Int.toNat_of_nonneg ha0] at z
      exact z
    refine q (st_set A1 (ev_ixLive (d := .int ns[a0.toNat]) (ix rfl rfl fun _ => rfl) (ix rfl rfl fun _ => rfl) fun H' j => ⟨_, j.2.keep _ _ nsp hs, _, hat, rfl⟩) fun σ2 H2 A2 => q ?_)
    refine st_setL (n := 1) A2 (ev_add (ix rfl rfl fun _ => rfl) ev_int) rfl ev_int (fun H' j => j.1) rfl fun v d H3 e r b A3 => ?_
    subst e
    cases (show v = _ from r)
    have A4 : At K φ (JJ (a0 + 1) c0 n0) [some (.raw (.ref p)), some (.int many), some (.int ns[a0.toNat]), none, none] σ2 _ := updA (a' := a0 + 1) (c' := c0) (n' := n0) A3
    refine q (st_setL (n := 2) A4 (ev_var rfl) rfl ev_int (fun H' j => j.1) rfl fun v d H5 e r b A5 => ?_)
    subst e
    cases (show v = _ from r)
    have A6 : At K φ (JJ (a0 + 1) ns[a0.toNat] n0) [some (.raw (.ref p)), some (.int many), some (.int ns[a0.toNat]), none, none] σ2 _ := updA (a' := a0 + 1) (c' := ns[a0.toNat]) (n' := n0) A5
    refine st_if A6 (et_test (ev_lt (ev_var rfl) ev_int)) (fun _ H7 A7 => ?_) (fun _ H7 A7 => ⟨_, _, _, by omega, A7⟩)
    refine st_setL (n := 2) A7 (ev_callD (ea_cons (ev_var rfl) ea_nil) ⟨_, rfl, rfl⟩) rfl ev_int (fun H' j => j.1) rfl fun v d H8 e r b A8 => ?_
    subst e
    cases (show v = _ from r)
    exact ⟨a0 + 1, (spreadN ns[a0.toNat] 4).2, _, by omega, updA (a' := a0 + 1) (n' := n0) A8⟩
  · rintro σ1 H1 ⟨a, c, o, ha, A1⟩
    refine q (st_setL (n := 3) A1 (ev_add (ix rfl rfl fun _ => rfl) ev_int) rfl ev_int (fun H' j => j.1) rfl fun v d H3 e r b A3 => ?_)
    subst e
    cases (show v = _ from r)
    have A4 : At K φ (JJ a c (n0 + 1)) [some (.raw (.ref p)), some (.int many), o, none, none] σ1 _ := updA (a' := a) (c' := c) (n' := n0 + 1) A3
    refine q (st_if A4 (et_test (ev_le (ix rfl rfl fun _ => rfl) ev_int)) (fun _ H5 A5 => ?_) (fun hc H5 A5 => st_next ?_))
    · refine q (st_set A5 (ev_mod (ev_intI (ev_add (ev_add (ev_mul (ix rfl rfl fun _ => rfl) ev_int (.inr (by decide))) (ev_mul (ix rfl rfl fun _ => rfl) ev_int (.inr (by decide)))) ev_int)) ev_int (by decide)) fun σ6 H6 A6 => q ?_)
      refine st_set A6 (ev_mod (ev_intI (ev_add (ev_mul (ev_var rfl) ev_int (.inr (by decide))) (ix rfl rfl fun _ => rfl))) ev_int (by decide)) fun σ7 H7 A7 => ?_
      refine st_ret A7 (ev_mod (ev_fdiv (ev_var rfl) ev_int ⟨by decide, by decide⟩) (ev_var rfl) hm0) fun v d H8 e A8 r => ?_
      subst e
      cases (show v = _ from r)
      exact fin A8 ha (Int.emod_nonneg _ (by omega)) (Int.emod_lt_of_pos _ hm0)
    · refine q (st_set A5 (ev_mod (ev_intI (ix rfl rfl fun _ => rfl)) (ev_var rfl) hm0) fun σ6 H6 A6 => q ?_)
      refine st_setL (n := 2) A6 (ev_fdivW (ix rfl rfl fun _ => rfl) (ev_var rfl) ⟨hm0, (Nat.log2_lt (by omega)).mpr (Nat.lt_of_lt_of_le (show _ < 2 ^ 32 by omega) (Nat.pow_le_pow_right (by decide) (by decide)))⟩) rfl ev_int (fun H' j => j.1) rfl fun v d H8 e r b A8 => ?_
      subst e
      cases (show v = _ from r)
      have A9 : At K φ (JJ a (c / many) (n0 + 1)) [some (.raw (.ref p)), some (.int many), o, none, some (.int (c % many))] σ6 _ := updA (a' := a) (c' := c / many) (n' := n0 + 1) A8
      refine st_ret A9 (ev_var rfl) fun v d H10 e A10 r => ?_
      subst e
      cases (show v = _ from r)
      exact fin A10 ha (Int.emod_nonneg _ (by omega)) (Int.emod_lt_of_pos _ hm0)
end
def spLaw (K : PySem.W.Frag) : Sp := fun vs H Q _ => ∃ (a : Addr) (ns : List Int), vs = [.ref a] ∧ SqL K H a (ns.map V.int) ∧ ns.length ≤ 63 ∧ ∀ H', Q (.bl true) H'
/-- behind the making of the pool -/
def JP (p s : Addr) (ns : List Int) : Hp → Prop := PoolOk p s ns
theorem mo_pool {p s : Addr} {ns : List Int} {H : Hp} (hp : H p ≠ none) (hs : H s ≠ none) : Mo H (PoolOk p s ns) := fun H1 H2 k j => by
  obtain ⟨a, c, n, z, e1, e2, h⟩ := j
  exact ⟨a, c, n, z, k p _ hp e1, k s _ hs e2, h⟩
theorem mo_poolOf {p s : Addr} {ns : List Int} {H : Hp} (j : PoolOk p s ns H) : Mo H (PoolOk p s ns) := by
  obtain ⟨_, _, _, _, e1, e2, _⟩ := id j
  exact mo_pool (by rw [e1]; exact fun z => by cases z) (by rw [e2]; exact fun z => by cases z)
theorem mo_of {p s : Addr} {ns : List Int} {φ : Addr → Prop} {H H2 : Hp} (j : PoolOk p s ns H ∧ But φ H2 H) : Mo H (fun H => PoolOk p s ns H ∧ But φ H2 H) := (mo_poolOf j.1).and (Mo.but j.2.tr)
theorem pooled {p s : Addr} {ns : List Int} {φ : Addr → Prop} (np : ¬ φ p) (ne : s ≠ p) : Pooled φ (PoolOk p s ns) p s ns := ⟨np, ne, fun _ h => h, fun _ _ _ _ o => o⟩
section
variable {K : PySem.W.Frag} {D0 : Ends} {σ : L2.St} {H : Hp} {ρ : List (Option D)}
/-- pool = _law_pool(script), the first row of a law: from then on only the pool is live -/
theorem st_pool {E : XK} {k n : Nat} {a : Addr} {ns : List Int} (hS : SqL K H a (ns.map V.int)) (hl : ns.length ≤ 63) (h0 : σ[0]? = some (some (.ref a))) (hk : σ.length = n) (hkn : k < n)
    (kk : ∀ p s σ' H', s ≠ p → At K (fun b => b ≠ p) (PoolOk p s ns) ((List.replicate n none).set k (some (.raw (.ref p)))) σ' H' → D0.nx σ' H') : tAsg (tCall (spPool K) [] E (tCons (tVar 0) tNil)) (gName k) D0 σ H := by
  refine ⟨_, h0, a, ns, rfl, hS, hl, fun p s H' sm hp hs ne po => ?_⟩
  have hp' : H' p ≠ none := by obtain ⟨_, _, _, _, e, _⟩ := po; rw [e]; exact fun z => by cases z
  have hs' : H' s ≠ none := by obtain ⟨_, _, _, _, _, e, _⟩ := po; rw [e]; exact fun z => by cases z
  refine kk p s _ H' ne ⟨⟨by rw [List.length_set, List.length_set, List.length_replicate]; exact hk, fun i d hd => ?_⟩, ⟨fun b hb z => hp' (z ▸ hb), fun b xs hb z => by obtain ⟨_, _, _, _, e, _⟩ := po; rw [z, e] at hb; cases hb⟩, po, mo_pool hp' hs'⟩
  by_cases e : k = i
  · subst e
    rw [List.getElem?_set_self (by rw [List.length_replicate]; exact hkn)] at hd
    cases hd
    exact ⟨_, List.getElem?_set_self (by rw [hk]; exact hkn), rfl⟩
  · rw [List.getElem?_set_ne e, List.getElem?_replicate] at hd
    split at hd <;> cases hd
end

/-! ### defs that take the pool ahead of other values -/
theorem ButP.trans {p : Addr} {H H' H2 : Hp} (a : ButP p H H') (b : ButP p H' H2) : ButP p H H2 := fun x o n e => b x o n (a x o n e)
theorem ButP.of {p : Addr} {H H' : Hp} (s : Same H H') : ButP p H H' := fun x o _ e => s x o e
def SpP (K : PySem.W.Frag) (n : Nat) (Pre : List D → Prop) (R : List D → D → Prop) : Sp := fun vs H Q _ => ∃ φ p s ns ds ws, vs = .ref p :: ws ∧ ds.length = n ∧ Reps K φ H ds ws ∧ Frm φ H ∧ ¬ φ p ∧ s ≠ p ∧ PoolOk p s ns H ∧ Pre ds ∧
  ∀ v d H', R ds d → ButP p H H' → PoolOk p s ns H' → Rep K φ H' d v → Q v H'
section
variable {K : PySem.W.Frag} {φ φ' : Addr → Prop} {J J' : Hp → Prop} {H H' H1 : Hp} {ρ ρ' : List (Option D)} {σ : L2.St} {ta : TA} {te tb : TE} {x y z d : D} {P Pa Pb : D → Prop} {ds es : List D} {v : V} {D0 : Ends} {t u : TS}
theorem mo_butP {p : Addr} {H0 : Hp} (h : ∀ a, H0 a ≠ none → H a ≠ none) : Mo H (ButP p H0) := fun H1 H2 k j a o n e => k a o (h a (by rw [e]; exact fun z => by cases z)) (j a o n e)
theorem butP_tr {p s : Addr} {ns : List Int} (b : ButP p H H') (o : PoolOk p s ns H') : ∀ a, H a ≠ none → H' a ≠ none := fun a h => by
  by_cases e : a = p
  · obtain ⟨_, _, _, _, e1, _⟩ := o
    rw [e, e1]
    exact fun z => by cases z
  · cases q : H a with
    | none => exact absurd q h
    | some u => rw [b a u e q]; exact fun z => by cases z
abbrev JB (p s : Addr) (ns : List Int) (H0 : Hp) : Hp → Prop := fun H' => PoolOk p s ns H' ∧ ButP p H0 H'
theorem pooledB {p s : Addr} {ns : List Int} {H0 : Hp} (np : ¬ φ p) (ne : s ≠ p) : Pooled φ (JB p s ns H0) p s ns := ⟨np, ne, fun _ h => h.1, fun _ _ h k o => ⟨o, h.2.trans k⟩⟩
theorem ev_callP {n k : Nat} {Pre Pr : List D → Prop} {R : List D → D → Prop} {E : XK} {p s : Addr} {ns : List Int} (hp : Pooled φ J p s ns) (hk : ρ[k]? = some (some (.raw (.ref p)))) (ha : EvA K φ J ta ρ Pr) (hr : ∀ ds, Pr ds → ds.length = n ∧ Pre ds) :
    EvP K φ J (tCall (SpP K n Pre R) [] E (tCons (tVar k) ta)) ρ (fun d => ∃ ds, Pr ds ∧ R ds d) := fun σ H A Q q =>
  ev_var hk σ H A _ fun v d H1 b1 A1 e1 r1 => ha σ H1 A1 _ fun vs ds H2 b2 A2 pd r2 => by
    subst e1
    cases (show v = _ from r1)
    obtain ⟨hl, pre⟩ := hr ds pd
    refine ⟨φ, p, s, ns, ds, vs, by rw [List.append_nil], hl, r2, A2.fr, hp.np, hp.ne, hp.ok _ A2.j, pre, fun v d H' rd bp po r => ?_⟩
    have bt : But φ H2 H' := butP_but bp hp.np po
    have bt' : ∀ a, H2 a ≠ none → H' a ≠ none := bt.tr
    refine q v d H' ((b1.trans b2).trans bt) ⟨A2.sr.up (Up.of bt), A2.fr.butP bp po bt', hp.st _ _ A2.j bp po, A2.mono.up bt'⟩ ⟨ds, pd, rd⟩ r
section
variable {PP : Program} {w : World} {mg : Str → Option Value} {base : Heap}
/-- .. keeps its promise -/
theorem fn_okP {x qual : Str} {st : Stmt} {f : Addr} {fd : FuncData} {N ps : List Str} {k n : Nat} {Pre : List D → Prop} {R : List D → D → Prop} (F : Fun K x qual st f fd) (S : FnScope N ps (defScope st)) (hn : ps.length = n + 1) (m : Nat) (hm : N.length = n + 1 + m)
    (hbody : ∀ (cdv : Value) (A : Around) (outer : List Env) (s : Shared) (H : Hp) (E : XK), Room k (A.deeper (envOfC qual (defScope st) s.heap.objs.size f cdv)) →
      ∃ t, PSs (cxOf CX0 PP w K mg base N qual (defScope st) f cdv A outer s H E).nox (defBody st) t ∧
        ∀ (φ : Addr → Prop) (p q : Addr) (ns : List Int) (ds : List D) (H : Hp) (D0 : Ends) (σ : L2.St), ds.length = n → Pre ds → ¬ φ p → q ≠ p → (∀ v d H', R ds d → JB p q ns H H' → Rep K φ H' d v → D0.rt v H') → At K φ (JB p q ns H) (some (.raw (.ref p)) :: (ds.map some ++ List.replicate m none)) σ H → t D0 σ H) :
    FnOk PP w K mg base CX0 (k + 1) f fd ps (SpP K n Pre R) := by
  refine F.ok S (fun vs H Q E h => ?_) (fun cdv A outer s H vs Q E hr h => ?_)
  · obtain ⟨φ, p, s, ns, ds, ws, rfl, hl, r, _⟩ := h
    rw [List.length_cons, r.length, hl, hn]
  · obtain ⟨φ, p, s', ns, ds, ws, rfl, hl, r, fr, np, ne, po, pre, q⟩ := h
    obtain ⟨t, ht, run⟩ := hbody cdv A outer s H E hr
    refine ⟨t, ht, run φ p s' ns ds H _ _ hl pre np ne (fun v d H' rd j r => q v d H' rd j.2 j.1 r) ⟨?_, fr, ⟨po, ButP.of (Same.refl H)⟩, (mo_poolOf po).and (mo_butP fun _ h => h)⟩⟩
    have e : N.length - (V.ref p :: ws).length = m := by rw [hm, List.length_cons, r.length, hl]; omega
    unfold L2.start
    rw [e]
    have z := SR.start (K := K) (φ := φ) (H := H) (ds := .raw (.ref p) :: ds) (vs := .ref p :: ws) (n := m) (Reps.cons rfl r)
    exact z
end
end

-- import HandS.Lambda
/-! ### one table of code objects, and defs that write there -/
def TabJ (P : Addr) (q : Str) (ps : Array Value) (H : Hp) : Prop := H P = some (.tbl ps) ∧ TriplesOk ps.toList ∧ ∀ (pos : Pos) (cv : Value), codeAmong pos ps.toList = some cv → ∃ c, cv = .ref c ∧ H c = some (LamX.CodeO c q)
section
variable {K : PySem.W.Frag} {φ φ' : Addr → Prop} {J : Array Value → Hp → Prop} {H H' H0 H1 : Hp} {ρ ρ' : List (Option D)} {σ : L2.St} {ta : TA} {te tb : TE} {x y z d : D} {P : D → Prop} {Pr : List D → Prop} {ds es : List D} {v : V} {D0 : Ends} {t u : TS} {C p s : Addr} {q : Str} {ps ps' : Array Value} {ns : List Int}
theorem TabJ.nil (h : H C = some (.tbl #[])) : TabJ C q #[] H := ⟨h, True.intro, fun pos cv hc => by
  have z : codeAmong pos [] = some cv := hc
  simp [codeAmong] at z⟩
theorem TabJ.tabs (h : TabJ C q ps H) : LamX.Tabs [(C, q)] H := fun p hp => by
  rw [List.mem_singleton.mp hp]
  exact ⟨ps, h.1, h.2.1, h.2.2⟩
theorem tabs_J (h : LamX.Tabs [(C, q)] H) : ∃ ps, TabJ C q ps H := h (C, q) (List.mem_singleton.mpr rfl)
theorem TabJ.mo (h : TabJ C q ps H) : Mo H (TabJ C q ps) := fun H1 H2 k j => ⟨k C _ (by rw [h.1]; exact fun z => by cases z) j.1, j.2.1, fun pos cv hc => by
  obtain ⟨c, e, hc1⟩ := j.2.2 pos cv hc
  obtain ⟨c0, e0, h0⟩ := h.2.2 pos cv hc
  rw [e] at e0
  cases e0
  exact ⟨c, e, k c _ (by rw [h0]; exact fun z => by cases z) hc1⟩⟩
theorem TabJ.butP (h : TabJ C q ps H) (hp : C ≠ p) (b : ButP p H H') (hl : ∃ xs, H p = some (.lst xs)) : TabJ C q ps H' := ⟨b C _ hp h.1, h.2.1, fun pos cv hc => by
  obtain ⟨c, e, hc1⟩ := h.2.2 pos cv hc
  refine ⟨c, e, b c _ (fun z => ?_) hc1⟩
  obtain ⟨xs, h2⟩ := hl
  rw [z, h2] at hc1
  cases hc1⟩
theorem TabJ.same (h : TabJ C q ps H) (b : Same H H') : TabJ C q ps H' := ⟨b C _ h.1, h.2.1, fun pos cv hc => by
  obtain ⟨c, e, hc1⟩ := h.2.2 pos cv hc
  exact ⟨c, e, b c _ hc1⟩⟩
theorem butP_trT (b : ButP C H H') (t : TabJ C q ps H') : ∀ a, H a ≠ none → H' a ≠ none := fun a h => by
  by_cases e : a = C
  · rw [e, t.1]
    exact fun z => by cases z
  · cases z : H a with
    | none => exact absurd z h
    | some u => rw [b a u e z]; exact fun z => by cases z
theorem butP_butT (b : ButP C H H') (np : ¬ φ C) (t : TabJ C q ps H') : But φ H H' := ⟨fun a u pa e => b a u (fun z => np (z ▸ pa)) e, butP_trT b t⟩
theorem Frm.butT (F : Frm φ H) (b : ButP C H H') (t : TabJ C q ps H') : Frm φ H' := ⟨fun a h => F.new a (by
  cases e : H a with
  | none => rfl
  | some u => exact absurd h (butP_trT b t a (by rw [e]; exact fun z => by cases z))), fun a xs h => by
  cases e : H a with
  | none => exact F.new a e
  | some u =>
    by_cases ea : a = C
    · subst ea
      rw [t.1] at h
      cases h
    · have z := b a u ea e
      rw [h] at z
      cases z
      exact F.tup a xs e⟩
/-- what is told beside the table stays where all but the table stays -/
structure TblF (φ : Addr → Prop) (C : Addr) (q : Str) (J : Array Value → Hp → Prop) : Prop where
  np : ¬ φ C
  ok : ∀ ps H, J ps H → TabJ C q ps H
  st : ∀ ps ps' H H', J ps H → ButP C H H' → TabJ C q ps' H' → J ps' H'
  mo : ∀ ps H, J ps H → Mo H (J ps)
theorem TblF.but (T : TblF φ C q J) : TblF φ C q (fun ps H => J ps H ∧ But φ H1 H) := ⟨T.np, fun ps H h => T.ok _ _ h.1, fun ps ps' H H' h b t => ⟨T.st _ _ _ _ h.1 b t, h.2.trans (butP_butT b T.np t)⟩, fun ps H h => (T.mo _ _ h.1).and (Mo.but h.2.tr)⟩
def JT (C : Addr) (q : Str) (H0 : Hp) (ps : Array Value) : Hp → Prop := fun H' => ButP C H0 H' ∧ TabJ C q ps H'
theorem tblT (np : ¬ φ C) : TblF φ C q (JT C q H0) := ⟨np, fun ps H h => h.2, fun ps ps' H H' h b t => ⟨h.1.trans b, t⟩, fun ps H h => (mo_butP (butP_trT h.1 h.2)).and h.2.mo⟩
def JPT (p s : Addr) (ns : List Int) (C : Addr) (q : Str) (ps : Array Value) : Hp → Prop := fun H => PoolOk p s ns H ∧ TabJ C q ps H
theorem tblP (np : ¬ φ C) (h1 : p ≠ C) (h2 : s ≠ C) : TblF φ C q (JPT p s ns C q) := ⟨np, fun ps H h => h.2, fun ps ps' H H' h b t => ⟨by
  obtain ⟨a, c, n, z, e1, e2, h⟩ := h.1
  exact ⟨a, c, n, z, b _ _ h1 e1, b _ _ h2 e2, h⟩, t⟩, fun ps H h => (mo_poolOf h.1).and h.2.mo⟩
theorem pooledT (np : ¬ φ p) (ne : s ≠ p) (h1 : C ≠ p) : Pooled φ (JPT p s ns C q ps) p s ns := ⟨np, ne, fun _ h => h.1, fun H H' h b o => ⟨o, h.2.butP h1 b (by
  obtain ⟨_, _, _, _, e1, _⟩ := h.1
  exact ⟨_, e1⟩)⟩⟩
theorem At.tbl (T : TblF φ C q J) (A : At K φ (J ps) ρ σ H) (b : ButP C H H') (t : TabJ C q ps' H') : At K φ (J ps') ρ σ H' := ⟨A.sr.up (Up.of (butP_butT b T.np t)), A.fr.butT b t, T.st _ _ _ _ A.j b t, T.mo _ _ (T.st _ _ _ _ A.j b t)⟩
/-! ### .. and what is read then -/
def EvU (K : PySem.W.Frag) (φ : Addr → Prop) (J : Array Value → Hp → Prop) (te : TE) (ρ : List (Option D)) (P : D → Prop) : Prop := ∀ ps σ H, At K φ (J ps) ρ σ H → ∀ Q : VK, (∀ v d ps' H', But φ H H' → At K φ (J ps') ρ σ H' → P d → Rep K φ H' d v → Q v H') → te σ H Q
def EvAU (K : PySem.W.Frag) (φ : Addr → Prop) (J : Array Value → Hp → Prop) (ta : TA) (ρ : List (Option D)) (P : List D → Prop) : Prop := ∀ ps σ H, At K φ (J ps) ρ σ H → ∀ Q : List V → Hp → Prop, (∀ vs ds ps' H', But φ H H' → At K φ (J ps') ρ σ H' → P ds → Reps K φ H' ds vs → Q vs H') → ta σ H Q
def EvTU (K : PySem.W.Frag) (φ : Addr → Prop) (J : Array Value → Hp → Prop) (tt : TT) (ρ : List (Option D)) (p : Bool → Prop) : Prop := ∀ ps σ H, At K φ (J ps) ρ σ H → ∀ Q : Bool → Hp → Prop, (∀ b ps' H', But φ H H' → At K φ (J ps') ρ σ H' → p b → Q b H') → tt σ H Q
theorem eu_of (h : ∀ ps, EvP K φ (J ps) te ρ P) : EvU K φ J te ρ P := fun ps σ H A Q q => h ps σ H A Q fun v d H' b A' pd r => q v d ps H' b A' pd r
theorem eau_of (h : ∀ ps, EvA K φ (J ps) ta ρ Pr) : EvAU K φ J ta ρ Pr := fun ps σ H A Q q => h ps σ H A Q fun v d H' b A' pd r => q v d ps H' b A' pd r
theorem eau_cons (h : EvU K φ J te ρ P) (hs : EvAU K φ J ta ρ Pr) : EvAU K φ J (tCons te ta) ρ (fun l => ∃ d r, l = d :: r ∧ P d ∧ Pr r) := fun ps σ H A Q q =>
  h ps σ H A _ fun v d ps1 H1 b1 A1 pd r1 => hs ps1 σ H1 A1 _ fun vs ds ps2 H2 b2 A2 pr r2 => q (v :: vs) (d :: ds) ps2 H2 (b1.trans b2) A2 ⟨d, ds, rfl, pd, pr⟩ (Reps.cons (r1.mono b2) r2)
theorem eu_call {n : Nat} {R : List D → D → Prop} {E : XK} (ha : EvAU K φ J ta ρ Pr) (hr : ∀ ds, Pr ds → ∃ d, ds.length = n ∧ R ds d ∧ P d) : EvU K φ J (tCall (SpD K n R) [] E ta) ρ P := fun ps σ H A Q q =>
  ha ps σ H A _ fun vs ds ps1 H1 b1 A1 pd r1 => by
    obtain ⟨d, hl, hd, pd'⟩ := hr ds pd
    refine ⟨φ, ds, d, hl, by rw [List.append_nil]; exact r1, A1.fr, hd, fun v H' s r => ?_⟩
    exact q v d ps1 H' (b1.trans (But.of s)) (A1.same s) pd' r
/-- the promise of a def that may make a lambda -/
def SpT (K : PySem.W.Frag) (C : Addr) (q : Str) (n : Nat) (R : List D → D → Prop) : Sp := fun vs H Q _ => ∃ φ ds d ps, ds.length = n ∧ Reps K φ H ds vs ∧ Frm φ H ∧ ¬ φ C ∧ TabJ C q ps H ∧ R ds d ∧ ∀ v ps' H', ButP C H H' → TabJ C q ps' H' → Rep K φ H' d v → Q v H'
theorem eu_callT {n : Nat} {R : List D → D → Prop} {E : XK} (T : TblF φ C q J) (ha : EvAU K φ J ta ρ Pr) (hr : ∀ ds, Pr ds → ∃ d, ds.length = n ∧ R ds d ∧ P d) : EvU K φ J (tCall (SpT K C q n R) [] E ta) ρ P := fun ps σ H A Q k =>
  ha ps σ H A _ fun vs ds ps1 H1 b1 A1 pd r1 => by
    obtain ⟨d, hl, hd, pd'⟩ := hr ds pd
    refine ⟨φ, ds, d, ps1, hl, by rw [List.append_nil]; exact r1, A1.fr, T.np, T.ok _ _ A1.j, hd, fun v ps' H' b t r => ?_⟩
    exact k v d ps' H' (b1.trans (butP_butT b T.np t)) (At.tbl T A1 b t) pd' r
theorem etu_B {p : Bool → Prop} (h : EvU K φ J te ρ (fun d => ∃ b, d = .bl b ∧ p b)) : EvTU K φ J (tB te) ρ p := fun ps σ H A Q q => h ps σ H A _ fun v d ps' H' bt A' ⟨b, e, pb⟩ r => by
  subst e
  cases (show v = _ from r)
  exact et_B (b := b) (ev_bl (K := K) (φ := φ) (J := J ps') (ρ := ρ) (b := b)) σ H' A' Q fun b' H2 b2 A2 e => q b' ps' H2 (bt.trans b2) A2 (e ▸ pb)
theorem etu_not {t1 : TT} {p : Bool → Prop} (ha : EvTU K φ J t1 ρ p) : EvTU K φ J (tNot t1) ρ (fun x => p (!x)) := fun ps σ H A Q q => ha ps σ H A _ fun k ps' H1 b1 A1 e1 => q _ ps' H1 b1 A1 (by show p (!(!k)); rw [Bool.not_not]; exact e1)
theorem st_noJ {tt : TT} (A : At K φ (J ps) ρ σ H) (h : EvTU K φ J tt ρ (fun b => b = false)) (k2 : ∀ ps' H', At K φ (J ps') ρ σ H' → u D0 σ H') : tIfS tt t u D0 σ H :=
  h ps σ H A _ fun b ps' H' bt A' pb => by
    subst pb
    rw [if_neg (by simp)]
    exact k2 ps' H' A'
theorem st_retJ (A : At K φ (J ps) ρ σ H) (h : EvU K φ J te ρ P) (kk : ∀ v d ps' H', P d → At K φ (J ps') ρ σ H' → Rep K φ H' d v → D0.rt v H') : tRet te D0 σ H :=
  h ps σ H A _ fun v d ps' H' b A' pd r => kk v d ps' H' pd A' r
section
variable {PP : Program} {w : World} {mg : Str → Option Value} {base : Heap}
/-- Fun, its code object told -/
structure FunC (K : PySem.W.Frag) (x qual : Str) (st : Stmt) (f : Addr) (fd : FuncData) (c : Addr) : Prop where
  ex : ∃ (oc : Value) (od : Option Addr) (kV doc pm : Value) (an : Option Addr) (ct : Value) (osl : Array (Option Value)),
    fd = PySem.W.fnOf x qual (defArgs st) (defBody st) (defScope st) .none kV doc pm an (.ref c) ct ∧ K.lookup f = some ⟨oc, od, .func fd, osl⟩ ∧ PySem.W.codeIn K (.ref c) qual = true
  kp : PySem.W.keepIn K (.ref f) = true
theorem FunC.fn {x qual : Str} {st : Stmt} {f c : Addr} {fd : FuncData} (F : FunC K x qual st f fd c) : Fun K x qual st f fd := by
  obtain ⟨⟨oc, od, kV, doc, pm, an, ct, osl, h⟩, k⟩ := F
  exact ⟨⟨oc, od, kV, doc, pm, an, _, ct, osl, h⟩, k⟩
theorem funC_mk {x qual : Str} {st : Stmt} {f c : Addr} {oc : Value} {od an : Option Addr} {osl : Array (Option Value)} {kV doc pm ct : Value} (l : K.lookup f = some ⟨oc, od, .func (PySem.W.fnOf x qual (defArgs st) (defBody st) (defScope st) .none kV doc pm an (.ref c) ct), osl⟩)
    (hc : PySem.W.codeIn K (.ref c) qual = true) (k : PySem.W.keepIn K (.ref f) = true) : FunC K x qual st f (PySem.W.fnOf x qual (defArgs st) (defBody st) (defScope st) .none kV doc pm an (.ref c) ct) c := ⟨⟨oc, od, kV, doc, pm, an, ct, osl, rfl, l, hc⟩, k⟩
theorem fn_okT {x qual : Str} {st : Stmt} {f c : Addr} {fd : FuncData} {N ps : List Str} {k n : Nat} {R : List D → D → Prop} (F : FunC K x qual st f fd c) (S : FnScope N ps (defScope st)) (hn : ps.length = n) (m : Nat) (hm : N.length = n + m)
    (hbody : ∀ (A : Around) (outer : List Env) (s : Shared) (H : Hp) (E : XK), Room k (A.deeper (envOfC qual (defScope st) s.heap.objs.size f (.ref c))) →
      ∃ t, PSs (cxOf CX0 PP w K mg base N qual (defScope st) f (.ref c) A outer s H E).nox (defBody st) t ∧
        ∀ (φ : Addr → Prop) (ds : List D) (d : D) (H : Hp) (tb : Array Value) (D0 : Ends) (σ : L2.St), ds.length = n → R ds d → ¬ φ C → (∀ v ps' H', JT C q H ps' H' → Rep K φ H' d v → D0.rt v H') → At K φ (JT C q H tb) (ds.map some ++ List.replicate m none) σ H → t D0 σ H) :
    FnOk PP w K mg base CX0 (k + 1) f fd ps (SpT K C q n R) := by
  obtain ⟨oc, od, kV, doc, pm, an, ct, osl, rfl, lk, hcd⟩ := F.ex
  refine fn_of lk hcd S (fun vs H Q E h => ?_) (fun A outer s H vs Q E hr h => ?_)
  · obtain ⟨φ, ds, d, tb, hl, r, _⟩ := h
    rw [r.length, hl, hn]
  · obtain ⟨φ, ds, d, tb, hl, r, fr, np, tj, hd, k⟩ := h
    obtain ⟨t, ht, run⟩ := hbody A outer s H E hr
    refine ⟨t, ht.nox, run φ ds d H tb _ _ hl hd np (fun v ps' H' j r => k v ps' H' j.1 j.2 r) ⟨?_, fr, ⟨ButP.of (Same.refl H), tj⟩, (mo_butP fun _ h => h).and tj.mo⟩⟩
    have e : N.length - vs.length = m := by rw [hm, r.length, hl]; omega
    unfold L2.start
    rw [e]
    exact SR.start r
end
/-! ### a test of a pair, as a lambda -/
/-- what a def asks that gets a value and a test of pairs -/
def TTest (K : PySem.W.Frag) (R : D → (Int × Int → Bool) → D → Prop) : V → (V → Hp → VK → Prop) → Hp → VK → Prop := fun v1 tl H Q => ∃ (φ : Addr → Prop) (d1 : D) (test : Int × Int → Bool) (d : D), Rep K φ H d1 v1 ∧ Frm φ H ∧ R d1 test d ∧
  (∀ pr v H' (Q' : VK), Same H H' → Frm φ H' → Rep K φ H' (prDD pr) v → (∀ H2, Same H' H2 → Q' (.bl (test pr)) H2) → tl v H' Q') ∧ ∀ v H', Same H H' → Rep K φ H' d v → Q v H'
def tActL (f c' : Addr) (q : Str) (tl : V → Hp → VK → Prop) (ta : TA) : TE := fun σZ HZ Q => σZ[1]? = some (some (.ref f)) ∧ ta σZ HZ fun vs H2 => ∃ v, vs = [v] ∧ H2 c' = some (LamX.CodeO c' q) ∧ tl v H2 Q
theorem ev_act {Jn : Hp → Prop} {f c' : Addr} {tl : V → Hp → VK → Prop} {test : Int × Int → Bool} {pr : Int × Int} (hf : ρ[1]? = some (some (.raw (.ref f)))) (hJ : ∀ H, Jn H → H c' = some (LamX.CodeO c' q) ∧ Same H0 H)
    (cl : ∀ pr v H' (Q' : VK), Same H0 H' → Frm φ H' → Rep K φ H' (prDD pr) v → (∀ H2, Same H' H2 → Q' (.bl (test pr)) H2) → tl v H' Q') (ha : EvAD K φ Jn ta ρ [prDD pr]) : EvD K φ Jn (tActL f c' q tl ta) ρ (.bl (test pr)) := fun σ H A Q k => by
  obtain ⟨v0, e0, r0⟩ := A.sr.2 1 _ hf
  cases (show v0 = _ from r0)
  refine ⟨e0, ha σ H A _ fun vs ds H1 b1 A1 e r => ?_⟩
  subst e
  obtain ⟨v, vs', rfl, rv, rs⟩ := r
  cases (show vs' = [] from rs)
  obtain ⟨h1, h2⟩ := hJ _ A1.j
  exact ⟨v, rfl, h1, cl pr v H1 Q h2 A1.fr rv fun H2 s2 => k _ _ H2 (b1.trans (But.of s2)) (A1.same s2) rfl rfl⟩
/-- x(e, lambda y: body), read -/
theorem eu_lam {R : D → (Int × Int → Bool) → D → Prop} {ix : Nat} {tl : TE} {test : Int × Int → Bool} {d1 d : D} (T : TblF φ C q J) (hd1 : ∀ ps, EvD K φ (J ps) te ρ d1) (hR : R d1 test d)
    (ht : ∀ pr (J' : Hp → Prop), EvD K φ J' tl (ρ.set ix (some (prDD pr))) (.bl (test pr))) : EvU K φ J (tLam1 C [(C, q)] (TTest K R) ix te tl) ρ (fun z => z = d) := fun ps σ H A Q k =>
  hd1 ps σ H A _ fun v1 d' H1 b1 A1 e r1 => by
    subst e
    refine ⟨(T.ok _ _ A1.j).tabs, fun H2 bp t2 => ?_⟩
    obtain ⟨ps', tj⟩ := tabs_J t2
    have A2 : At K φ (J ps') ρ σ H2 := At.tbl T A1 bp tj
    have b2 := butP_butT (φ := φ) bp T.np tj
    refine ⟨φ, _, test, d, r1.mono b2, A2.fr, hR, fun pr v H' Q' sm fr rv kq => ?_, fun v H' sm r => k v d ps' H' ((b1.trans b2).trans (But.of sm)) (A2.same sm) rfl r⟩
    have A3 : At K φ (Same H') ρ σ H' := (A2.same sm).live (Same.refl H') (Mo.sames fun _ h => h)
    refine ht pr (Same H') _ H' (A3.set ix rv) Q' fun v d' H3 _ A4 e r => ?_
    subst e
    cases (show v = _ from r)
    exact kq H3 A4.j
end

-- import HandS.Exc
-- import HandS.ExcOwn
/-! ### o.m(..) of a method that may raise, at the caller's slots -/
def tMethX (C : Addr) (m : Str) (sp : Sp) (E : L2.St → XK) (ta : TE) (t : TA) : TE := fun σ H Q => ta σ H fun x H1 => ∃ a dx fs, x = .ref a ∧ H1 a = some (.ins C dx fs) ∧ fs.lookup m = none ∧ t σ H1 fun vs H2 => sp (x :: vs) H2 Q (E σ)
section
variable {X : Cx} {CX : CXT} {k : Nat} {f C : Addr} {fd : FuncData} {ps : List Str} {sp : Sp} {E : L2.St → XK} {m : Str} {pos apos : Pos} {e o : Expr} {es : List Expr} {ta : TE} {t : TA}
theorem pe_methX {pl : Sem Bool} (he : PE X o ta) (c : Cls X.K C) (hm : Meth X.K C m f) (F : FnOk X.prog X.w X.K X.mg X.base CX k f fd ps sp) (hr : Room k X.A) (hb : Binds X.K fd ps []) (hx : ∀ σ, PassesAt CX X σ (E σ)) (ha : PA X (e :: es) t)
    (hst : starEach (e :: es) X.env = (false, eval e X.env) :: starEach es X.env := by rfl) (hpl : (backTo pos (starEach es X.env)).any (·.1) = false := by rfl)
    (ht : eval (.Call (.Attribute o m apos) (e :: es) [] pos) X.env = (do
      let ov ← eval o X.env
      standAt apos.atName
      let (f, first) ← holding [ov] (getMethod ov m pl)
      callWith pos f first (backTo pos (starEach (e :: es) X.env)) (backToKw pos (keywordEach [] X.env))) := by rfl) :
    PE X (.Call (.Attribute o m apos) (e :: es) [] pos) (tMethX C m sp E ta t) := by
  refine ⟨fun pins s σ H Q I h => ?_⟩
  refine PySem.W.methodCall_KW (pl := pl) (thn (he.run pins s σ H _ I h) fun u s1 ⟨x, H1, I1, rx, a, dx, fs, ex, ea, l, q⟩ => ?_) ht
  subst ex
  obtain rfl : u = Value.ref a := rx
  refine getmeth_ok I1 ea c hm l ?_
  refine PySem.W.callWith_K (first := [.ref a]) (h₀ := X.base) I.ok.mod.kin hm.kp (thn (ha.run pos pins s1 σ H1 _ I1 q) fun us s2 ⟨vs, H2, I2, r, q2⟩ => ⟨I2.kIn, ?_⟩) hst hpl
  exact run_fnS (us := .ref a :: us) (vs := .ref a :: vs) F hr hb (hx σ) I2 (.cons rfl r) q2
theorem pe_methX0 {pl : Sem Bool} (he : PE X o ta) (c : Cls X.K C) (hm : Meth X.K C m f) (F : FnOk X.prog X.w X.K X.mg X.base CX k f fd ps sp) (hr : Room k X.A) (hb : Binds X.K fd ps []) (hx : ∀ σ, PassesAt CX X σ (E σ))
    (ht : eval (.Call (.Attribute o m apos) [] [] pos) X.env = (do
      let ov ← eval o X.env
      standAt apos.atName
      let (f, first) ← holding [ov] (getMethod ov m pl)
      callWith pos f first (backTo pos (starEach [] X.env)) (backToKw pos (keywordEach [] X.env))) := by rfl) :
    PE X (.Call (.Attribute o m apos) [] [] pos) (tMethX C m sp E ta tNil) := by
  refine ⟨fun pins s σ H Q I h => ?_⟩
  refine PySem.W.methodCall_KW (pl := pl) (thn (he.run pins s σ H _ I h) fun u s1 ⟨x, H1, I1, rx, a, dx, fs, ex, ea, l, q⟩ => ?_) ht
  subst ex
  obtain rfl : u = Value.ref a := rx
  refine getmeth_ok I1 ea c hm l ?_
  exact PySem.W.callWith_K0 (first := [.ref a]) I1.kIn hm.kp (run_fnS (us := [.ref a]) (vs := [.ref a]) F hr hb (hx σ) I1 (.cons rfl .nil) q)
end
/-! ### an instance that its methods change: a family of what is told, by its state -/
section
variable {K : PySem.W.Frag} {φ φ' : Addr → Prop} {H H' H0 H1 : Hp} {p C dx : Addr} {o : HO}
theorem butP_trI (b : ButP p H H') (e : H' p = some o) : ∀ a, H a ≠ none → H' a ≠ none := fun a h => by
  by_cases z : a = p
  · rw [z, e]; exact fun z => by cases z
  · cases q : H a with
    | none => exact absurd q h
    | some u => rw [b a u z q]; exact fun z => by cases z
theorem butP_butI (np : ¬ φ p) (b : ButP p H H') (e : H' p = some o) : But φ H H' := ⟨fun a u pa h => b a u (fun z => np (z ▸ pa)) h, butP_trI b e⟩
theorem Frm.butI (F : Frm φ H) (b : ButP p H H') (e : H' p = some o) (no : ∀ xs, o ≠ .tup xs) : Frm φ H' := ⟨fun a h => F.new a (by
  cases q : H a with
  | none => rfl
  | some u => exact absurd h (butP_trI b e a (by rw [q]; exact fun z => by cases z))), fun a xs h => by
  cases q : H a with
  | none => exact F.new a q
  | some u =>
    by_cases z : a = p
    · rw [z, e] at h
      exact absurd (Option.some.inj h) (no xs)
    · have w := b a u z q
      rw [h] at w
      cases w
      exact F.tup a xs q⟩
end
structure ObjF {ι : Type} (K : PySem.W.Frag) (φ : Addr → Prop) (p C dx : Addr) (F : ι → List (Str × V)) (sd : List D) (sv : List V) (J : ι → Hp → Prop) : Prop where
  np : ¬ φ p
  at_ : ∀ i H, J i H → H p = some (.ins C dx (F i))
  sr : ∀ i H, J i H → Reps K φ H sd sv
  st : ∀ i i' H H', J i H → ButP p H H' → H' p = some (.ins C dx (F i')) → J i' H'
  mo : ∀ i H, J i H → Mo H (J i)
section
variable {ι : Type} {K : PySem.W.Frag} {φ φ' : Addr → Prop} {J : ι → Hp → Prop} {Jb : Hp → Prop} {H H' H0 H1 : Hp} {p C dx : Addr} {F : ι → List (Str × V)} {G : List V → ι → List (Str × V)} {sd ds : List D} {sv : List V} {ρ : List (Option D)} {σ : L2.St} {i i' i1 i2 : ι} {d : D} {te tv : TE} {ta : TA} {E : XK} {D0 : Ends} {c : Addr} {m f : Str}
theorem At.obj (T : ObjF K φ p C dx F sd sv J) (A : At K φ (J i) ρ σ H) (b : ButP p H H') (e : H' p = some (.ins C dx (F i'))) : At K φ (J i') ρ σ H' :=
  ⟨A.sr.up (Up.of (butP_butI T.np b e)), A.fr.butI b e (fun xs h => nomatch h), T.st _ _ _ _ A.j b e, T.mo _ _ (T.st _ _ _ _ A.j b e)⟩
theorem ObjF.but (T : ObjF K φ p C dx F sd sv J) : ObjF K φ p C dx F sd sv (fun i H => J i H ∧ But φ H1 H) := ⟨T.np, fun i H h => T.at_ i H h.1, fun i H h => T.sr i H h.1, fun i i' H H' h b e => ⟨T.st i i' H H' h.1 b e, h.2.trans (butP_butI T.np b e)⟩, fun i H h => (T.mo i H h.1).and (Mo.but h.2.tr)⟩
/-- what an expression comes to where the instance may change, and where it may raise -/
def EvM (K : PySem.W.Frag) (φ : Addr → Prop) (J : ι → Hp → Prop) (E : XK) (te : TE) (ρ : List (Option D)) (i : ι) (o : (D × ι) ⊕ Addr) : Prop := ∀ σ H, At K φ (J i) ρ σ H → ∀ Q : VK,
  (∀ d i', o = .inl (d, i') → ∀ v H', But φ H H' → At K φ (J i') ρ σ H' → Rep K φ H' d v → Q v H') → (∀ c, o = .inr c → ∀ i' H', But φ H H' → At K φ (J i') ρ σ H' → E (.ref c) none H') → te σ H Q
def EvMA (K : PySem.W.Frag) (φ : Addr → Prop) (J : ι → Hp → Prop) (E : XK) (ta : TA) (ρ : List (Option D)) (i : ι) (o : (List D × ι) ⊕ Addr) : Prop := ∀ σ H, At K φ (J i) ρ σ H → ∀ Q : List V → Hp → Prop,
  (∀ ds i', o = .inl (ds, i') → ∀ vs H', But φ H H' → At K φ (J i') ρ σ H' → Reps K φ H' ds vs → Q vs H') → (∀ c, o = .inr c → ∀ i' H', But φ H H' → At K φ (J i') ρ σ H' → E (.ref c) none H') → ta σ H Q
theorem em_of (h : EvD K φ (J i) te ρ d) : EvM K φ J E te ρ i (.inl (d, i)) := fun σ H A Q k _ => h σ H A Q fun v d' H' b A' e r => by
  subst e
  exact k _ _ rfl v H' b A' r
theorem ema_of (h : EvAD K φ (J i) ta ρ ds) : EvMA K φ J E ta ρ i (.inl (ds, i)) := fun σ H A Q k _ => h σ H A Q fun v d' H' b A' e r => by
  subst e
  exact k _ _ rfl v H' b A' r
theorem ema_nil : EvMA K φ J E tNil ρ i (.inl ([], i)) := fun σ H A Q k _ => k _ _ rfl [] H (But.refl _ _) A rfl
theorem ema_cons (h : EvM K φ J E te ρ i (.inl (d, i1))) (hs : EvMA K φ J E ta ρ i1 (.inl (ds, i2))) : EvMA K φ J E (tCons te ta) ρ i (.inl (d :: ds, i2)) := fun σ H A Q k _ =>
  h σ H A _ (fun d' i' e v H1 b1 A1 r1 => by
    cases e
    exact hs σ H1 A1 _ (fun ds' i'' e vs H2 b2 A2 r2 => by
      cases e
      exact k _ _ rfl (v :: vs) H2 (b1.trans b2) A2 (Reps.cons (r1.mono b2) r2)) fun c e => nomatch e) fun c e => nomatch e
theorem ema_bad1 (h : EvM K φ J E te ρ i (.inr c)) : EvMA K φ J E (tCons te ta) ρ i (.inr c) := fun σ H A Q _ bad => h σ H A _ (fun d' i' e => nomatch e) fun c' e i' H' b A' => by
  cases e
  exact bad _ rfl i' H' b A'
theorem ema_bad2 (h : EvM K φ J E te ρ i (.inl (d, i1))) (hs : EvMA K φ J E ta ρ i1 (.inr c)) : EvMA K φ J E (tCons te ta) ρ i (.inr c) := fun σ H A Q _ bad =>
  h σ H A _ (fun d' i' e v H1 b1 A1 r1 => by
    cases e
    exact hs σ H1 A1 _ (fun ds' i'' e => nomatch e) fun c' e i' H' b A' => by
      cases e
      exact bad _ rfl i' H' (b1.trans b) A') fun c e => nomatch e
theorem em_tup (h : EvMA K φ J E ta ρ i (.inl (ds, i'))) (hl : ds.length ≤ 1000000) : EvM K φ J E (tTup ta) ρ i (.inl (.tup ds, i')) := fun σ H A Q k _ => h σ H A _ (fun ds' i1 e vs H1 b1 A1 r1 => by
  cases e
  exact ⟨by rw [r1.length]; exact sz hl, fun p hp => k _ _ rfl _ _ (b1.trans (But.of (same_new hp))) (A1.same (same_new hp)) ⟨p, vs, rfl, .inl ⟨A1.fr p hp, .inl upd_same⟩, r1.mono (But.of (same_new hp))⟩⟩) fun c e => nomatch e
theorem em_tup_bad (h : EvMA K φ J E ta ρ i (.inr c)) : EvM K φ J E (tTup ta) ρ i (.inr c) := fun σ H A Q _ bad => h σ H A _ (fun d' i' e => nomatch e) fun c' e i' H' b A' => by
  cases e
  exact bad _ rfl i' H' b A'
theorem em_cb {r : List V → Hp → VK → Prop} (h : EvMA K φ J E ta ρ i (.inl (ds, i'))) (hc : Cl K φ r ds (fun x => x = d)) : EvM K φ J E (tCB r ta) ρ i (.inl (d, i')) := fun σ H A Q k _ => h σ H A _ (fun ds' i1 e vs H1 b1 A1 r1 => by
  cases e
  exact hc H1 vs A1.fr r1 Q fun u z H2 s2 e r => by
    subst e
    exact k _ _ rfl u H2 (b1.trans (But.of s2)) (A1.same s2) r) fun c e => nomatch e
theorem em_cb_bad {r : List V → Hp → VK → Prop} (h : EvMA K φ J E ta ρ i (.inr c)) : EvM K φ J E (tCB r ta) ρ i (.inr c) := fun σ H A Q _ bad => h σ H A _ (fun d' i' e => nomatch e) fun c' e i' H' b A' => by
  cases e
  exact bad _ rfl i' H' b A'
theorem em_tupL (h : EvM K φ J E te ρ i (.inl (.lst ds, i'))) : EvM K φ J E (tCB (rTupOf K) (tCons te tNil)) ρ i (.inl (.tup ds, i')) := em_cb (ema_cons h ema_nil) cl_tupL
/-- the promise of a method: what it is told, the state behind it, or a class of exceptions -/
def SpO (K : PySem.W.Frag) (C : Addr) (G : List V → ι → List (Str × V)) (n : Nat) (R : List D → ι → List D → (D × ι) ⊕ Addr → Prop) : Sp := fun vs H Q E => ∃ φ p dx sd sv i ds ws o, vs = .ref p :: ws ∧ ds.length = n ∧ Reps K φ H ds ws ∧ Reps K φ H sd sv ∧ Frm φ H ∧ ¬ φ p ∧ H p = some (.ins C dx (G sv i)) ∧ R sd i ds o ∧
  (∀ d i', o = .inl (d, i') → ∀ v H', ButP p H H' → H' p = some (.ins C dx (G sv i')) → Rep K φ H' d v → Q v H') ∧ (∀ c, o = .inr c → ∀ i' H', ButP p H H' → H' p = some (.ins C dx (G sv i')) → E (.ref c) none H')
theorem em_meth {n k : Nat} {R : List D → ι → List D → (D × ι) ⊕ Addr → Prop} {o : (D × ι) ⊕ Addr} (T : ObjF K φ p C dx (G sv) sd sv J) (hk : ρ[k]? = some (some (.raw (.ref p)))) (hm : ∀ i, (G sv i).lookup m = none) (ha : EvMA K φ J E ta ρ i (.inl (ds, i1))) (hR : R sd i1 ds o) (hl : ds.length = n := by rfl) :
    EvM K φ J E (tMethX C m (SpO K C G n R) (fun _ => E) (tVar k) ta) ρ i o := fun σ H A Q ok bad => by
  obtain ⟨v, e, r⟩ := A.sr.2 k _ hk
  cases (show v = _ from r)
  refine ⟨_, e, p, dx, _, rfl, T.at_ _ _ A.j, hm i, ha σ H A _ (fun ds' i' e vs H1 b1 A1 r1 => ?_) fun c e => nomatch e⟩
  cases e
  exact ⟨φ, p, dx, sd, sv, i1, ds, vs, o, rfl, hl, r1, T.sr _ _ A1.j, A1.fr, T.np, T.at_ _ _ A1.j, hR, fun d i' e v H' b e2 r => ok d i' e v H' (b1.trans (butP_butI T.np b e2)) (At.obj T A1 b e2) r, fun c e i' H' b e2 => bad c e i' H' (b1.trans (butP_butI T.np b e2)) (At.obj T A1 b e2)⟩
def liftO (i : ι) : D ⊕ Addr → (D × ι) ⊕ Addr
  | .inl d => .inl (d, i)
  | .inr c => .inr c
theorem em_callX {n : Nat} {R : List D → D ⊕ Addr → Prop} {o : D ⊕ Addr} (ha : EvMA K φ J E ta ρ i (.inl (ds, i1))) (hR : R ds o) (hl : ds.length = n := by rfl) : EvM K φ J E (tCallS (SpX K n R) (fun _ => E) ta) ρ i (liftO i1 o) := fun σ H A Q ok bad =>
  ha σ H A _ (fun ds' i' e vs H1 b1 A1 r1 => by
    cases e
    refine ⟨φ, _, o, hl, r1, A1.fr, hR, fun d e v H' s r => ?_, fun c e H' s => ?_⟩
    · subst e
      exact ok _ _ rfl v H' (b1.trans (But.of s)) (A1.same s) r
    · subst e
      exact bad _ rfl i1 H' (b1.trans (But.of s)) (A1.same s)) fun c e => nomatch e
/-- a field -/
theorem ev_fldO {k : Nat} {v : V} (T : ObjF K φ p C dx F sd sv J) (hk : ρ[k]? = some (some (.raw (.ref p)))) (cl : Cls K C) (na : NoAttr K C f) (hf : (F i).lookup f = some v) (hv : ∀ H, J i H → Rep K φ H d v) : EvD K φ (J i) (tFld K (tVar k) f) ρ d := fun σ H A Q q => by
  obtain ⟨u, e, r⟩ := A.sr.2 k _ hk
  cases (show u = _ from r)
  exact ⟨_, e, p, C, dx, _, v, rfl, T.at_ _ _ A.j, cl, na, hf, q v d H (But.refl _ _) A rfl (hv H A.j)⟩
/-- o.f += n -/
theorem st_fldAug {k : Nat} {a b : Int} (T : ObjF K φ p C dx F sd sv J) (A : At K φ (J i) ρ σ H) (hk : ρ[k]? = some (some (.raw (.ref p)))) (cl : Cls K C) (na : NoAttr K C f) (hf : (F i).lookup f = some (.int a)) (hp : putF f (.int (a + b)) (F i) = F i') (hl : (F i).length < 1000)
    (kk : ∀ H', But φ H H' → At K φ (J i') ρ σ H' → D0.nx σ H') : sFldAug K (tVar k) (tC (.int b)) rAdd f D0 σ H := by
  obtain ⟨u, e, r⟩ := A.sr.2 k _ hk
  cases (show u = _ from r)
  refine ⟨_, e, p, C, dx, _, _, rfl, T.at_ _ _ A.j, cl, na, hf, a, b, rfl, rfl, dx, _, T.at_ _ _ A.j, hl, ?_⟩
  rw [hp]
  have b1 : ButP p H (L2.upd H p (.ins C dx (F i'))) := fun x o n e => by
    rw [upd_ne n]
    exact e
  exact kk _ (butP_butI T.np b1 upd_same) (At.obj T A b1 upd_same)
theorem st_setM {k : Nat} {o : (D × ι) ⊕ Addr} (A : At K φ (J i) ρ σ H) (h : EvM K φ J E te ρ i o) (ok : ∀ d i' σ' H', o = .inl (d, i') → But φ H H' → At K φ (J i') (ρ.set k (some d)) σ' H' → D0.nx σ' H') (bad : ∀ c i' H', o = .inr c → But φ H H' → At K φ (J i') ρ σ H' → E (.ref c) none H') : tAsg te (gName k) D0 σ H :=
  h σ H A _ (fun d i' e v H' b A' r => ok d i' _ H' e b (A'.set k r)) fun c e i' H' b A' => bad c i' H' e b A'
theorem st_retM {o : (D × ι) ⊕ Addr} (A : At K φ (J i) ρ σ H) (h : EvM K φ J E te ρ i o) (ok : ∀ v d i' H', o = .inl (d, i') → But φ H H' → At K φ (J i') ρ σ H' → Rep K φ H' d v → D0.rt v H') (bad : ∀ c i' H', o = .inr c → But φ H H' → At K φ (J i') ρ σ H' → E (.ref c) none H') : tRet te D0 σ H :=
  h σ H A _ (fun d i' e v H' b A' r => ok v d i' H' e b A' r) fun c e i' H' b A' => bad c i' H' e b A'
/-! ### an instance is made -/
def SpI (C : Addr) (n : Nat) (G : List V → List (Str × V)) : Sp := fun vs H Q _ => ∃ p dx ws, vs = .ref p :: ws ∧ ws.length = n ∧ H p = some (.ins C dx []) ∧ ∀ H', ButP p H H' → H' p = some (.ins C dx (G ws)) → Q .non H'
theorem st_make {n k : Nat} {i0 : ι} {E0 : XK} (A : At K φ Jb ρ σ H) (ha : EvAD K φ Jb ta ρ ds) (hl : ds.length = n)
    (kk : ∀ p dx sv (J : ι → Hp → Prop) σ' H', φ p → H p = none → ObjF K (wo φ p) p C dx (G sv) ds sv J → (∀ i H', J i H' → Jb H' ∧ But φ H H') → At K (wo φ p) (J i0) (ρ.set k (some (.raw (.ref p)))) σ' H' → D0.nx σ' H') : tAsg (tMake C (SpI C n fun sv => G sv i0) [] E0 ta) (gName k) D0 σ H :=
  ha σ H A _ fun vs ds' H1 b1 A1 e r1 => by
    subst e
    intro x dx hx hdx ne
    refine ⟨x, dx, vs, by rw [List.append_nil], by rw [r1.length]; exact hl, upd_same, fun H3 b3 e3 => ⟨rfl, ?_⟩⟩
    have s13 : Same H1 H3 := fun b o e => by
      have n1 := ne_of_none e hx
      refine b3 b o n1 ?_
      rw [upd_ne n1, upd_ne (ne_of_none e hdx)]
      exact e
    have hxH : H x = none := by
      cases q : H x with
      | none => rfl
      | some u => exact absurd hx (b1.tr x (by rw [q]; exact fun z => by cases z))
    have nx : ∀ a, H1 a ≠ none → a ≠ x := fun a h z => h (by rw [z]; exact hx)
    have up3 : ∀ H4, ButP x H3 H4 → H4 x ≠ none → ∀ a o, H1 a = some o → H4 a = some o := fun H4 b4 _ a o e => b4 a o (ne_of_none e hx) (s13 a o e)
    let J : ι → Hp → Prop := fun i H4 => (H4 x = some (.ins C dx (G vs i)) ∧ ButP x H3 H4) ∧ Jb H4
    have rp : ∀ i H4, J i H4 → Reps K (wo φ x) H4 ds' vs := fun i H4 j => Reps.up (fun a o q e => ⟨⟨q, ne_of_none e hx⟩, up3 H4 j.1.2 (by rw [j.1.1]; exact fun z => by cases z) a o e⟩) ds' vs r1
    have tr4 : ∀ i H4, J i H4 → ∀ a, H1 a ≠ none → H4 a ≠ none := fun i H4 j a h => by
      cases q : H1 a with
      | none => exact absurd q h
      | some u => rw [up3 H4 j.1.2 (by rw [j.1.1]; exact fun z => by cases z) a u q]; exact fun z => by cases z
    have T : ObjF K (wo φ x) x C dx (G vs) ds' vs J := ⟨fun z => z.2 rfl, fun i H4 j => j.1.1, rp, fun i i' H4 H5 j b e => ⟨⟨e, j.1.2.trans b⟩, A1.mono H4 H5 (fun a o h e => b a o (nx a h) e) j.2⟩,
      fun i H4 j => ((Mo.at (by rw [j.1.1]; exact fun z => by cases z)).and (mo_butP (butP_trI j.1.2 j.1.1))).and (A1.mono.up (tr4 i H4 j))⟩
    have j3 : J i0 H3 := ⟨⟨e3, fun _ _ _ h => h⟩, A1.mono H1 H3 (fun a o _ e => s13 a o e) A1.j⟩
    refine kk x dx vs J _ H3 (A1.fr.new x hx) hxH T (fun i H4 j => ⟨j.2, ⟨fun a o q e => up3 H4 j.1.2 (by rw [j.1.1]; exact fun z => by cases z) a o (b1.keep a o q e), fun a h => tr4 i H4 j a (b1.tr a h)⟩⟩) (At.set ⟨A1.sr.up fun a o q e => ⟨⟨q, ne_of_none e hx⟩, s13 a o e⟩, ⟨fun a h => ?_, fun a xs h => ?_⟩, j3, T.mo _ _ j3⟩ k rfl)
    · refine ⟨A1.fr.new a (s13.free h), fun z => ?_⟩
      rw [z, e3] at h
      cases h
    · have na : a ≠ x := fun z => by
        rw [z, e3] at h
        cases h
      refine ⟨?_, na⟩
      cases q : H1 a with
      | none => exact A1.fr.new a q
      | some u =>
        have w := s13 a u q
        rw [h] at w
        cases w
        exact A1.fr.tup a xs q
section
variable {PP : Program} {w : World} {mg : Str → Option Value} {base : Heap}
theorem fn_never {CX : CXT} {k : Nat} {f : Addr} {fd : FuncData} {ps : List Str} {sp : Sp} (no : ∀ vs H Q E, ¬ sp vs H Q E) : FnOk PP w K mg base CX k f fd ps sp := ⟨fun vs H Q E h => absurd h (no vs H Q E), fun A outer s H args us vs Q E _ _ _ _ h => absurd h (no vs H Q E)⟩
/-- a method that may raise keeps its promise -/
theorem fn_okO {x qual : Str} {st : Stmt} {f : Addr} {fd : FuncData} {N ps : List Str} {k n : Nat} {R : List D → ι → List D → (D × ι) ⊕ Addr → Prop} (F : Fun K x qual st f fd) (S : FnScope N ps (defScope st)) (hn : ps.length = n + 1) (m : Nat) (hm : N.length = n + 1 + m)
    (hbody : ∀ (cdv : Value) (A : Around) (outer : List Env) (s : Shared) (H : Hp) (E : XK), Room k (A.deeper (envOfC qual (defScope st) s.heap.objs.size f cdv)) →
      ∃ t, PSs (cxOf (L2.CX PP w) PP w K mg base N qual (defScope st) f cdv A outer s H E) (defBody st) t ∧
        ∀ (φ : Addr → Prop) (p dx : Addr) (sd : List D) (sv : List V) (J : ι → Hp → Prop) (i : ι) (ds : List D) (o : (D × ι) ⊕ Addr) (H : Hp) (D0 : Ends) (σ : L2.St), ds.length = n → R sd i ds o → ObjF K φ p C dx (G sv) sd sv J → (∀ d i', o = .inl (d, i') → ∀ v H', J i' H' → Rep K φ H' d v → D0.rt v H') → (∀ c, o = .inr c → ∀ i' H', J i' H' → E (.ref c) none H') →
          At K φ (J i) (some (.raw (.ref p)) :: ds.map some ++ List.replicate m none) σ H → t D0 σ H) :
    FnOk PP w K mg base (L2.CX PP w) (k + 1) f fd ps (SpO K C G n R) := by
  refine F.okX S (fun vs H Q E h => ?_) (fun cdv A outer s H vs Q E hr h => ?_)
  · obtain ⟨φ, p, dx, sd, sv, i, ds, ws, o, rfl, hl, r, _⟩ := h
    rw [List.length_cons, r.length, hl, hn]
  · obtain ⟨φ, p, dx, sd, sv, i, ds, ws, o, rfl, hl, r, rs, fr, np, hp, hR, q, qe⟩ := h
    obtain ⟨t, ht, run⟩ := hbody cdv A outer s H E hr
    let J : ι → Hp → Prop := fun i H' => H' p = some (.ins C dx (G sv i)) ∧ ButP p H H'
    have mo : ∀ i H', J i H' → Mo H' (J i) := fun i H' j => (Mo.at (by rw [j.1]; exact fun z => by cases z)).and (mo_butP (butP_trI j.2 j.1))
    have T : ObjF K φ p C dx (G sv) sd sv J := ⟨np, fun i H' j => j.1, fun i H' j => rs.mono (butP_butI np j.2 j.1), fun i i' H1 H2 j b e => ⟨e, j.2.trans b⟩, mo⟩
    have j0 : J i H := ⟨hp, fun _ _ _ h => h⟩
    refine ⟨t, ht, run φ p dx sd sv J i ds o H _ _ hl hR T (fun d i' e v H' j r => q d i' e v H' j.2 j.1 r) (fun c e i' H' j => qe c e i' H' j.2 j.1) ⟨?_, fr, j0, mo i H j0⟩⟩
    have e : N.length - (V.ref p :: ws).length = m := by rw [hm, List.length_cons, r.length, hl]; omega
    unfold L2.start
    rw [e]
    exact SR.start (ds := .raw (.ref p) :: ds) (Reps.cons rfl r)
end
/-! ### a comprehension whose elements change the instance and may raise -/
def iterM (f : D → ι → (D × ι) ⊕ Addr) : List D → ι → (List D × ι) ⊕ Addr
  | [], i => .inl ([], i)
  | d :: ds, i => match f d i with
    | .inr c => .inr c
    | .inl (y, i1) => match iterM f ds i1 with
      | .inr c => .inr c
      | .inl (ys, i2) => .inl (y :: ys, i2)
theorem iterM_app {g : D → ι → (D × ι) ⊕ Addr} : ∀ {as bs : List D} {i i1 : ι} {ys : List D}, iterM g as i = .inl (ys, i1) → iterM g (as ++ bs) i = match iterM g bs i1 with | .inr c => .inr c | .inl (zs, i2) => .inl (ys ++ zs, i2)
  | [], bs, i, i1, ys, h => by
    cases h
    show iterM g bs i = _
    cases iterM g bs i with
    | inr c => rfl
    | inl z => rfl
  | a :: as, bs, i, i1, ys, h => by
    show (match g a i with | .inr c => _ | .inl (y, i1) => _) = _
    have h : (match g a i with | .inr c => (.inr c : (List D × ι) ⊕ Addr) | .inl (y, i1) => match iterM g as i1 with | .inr c => .inr c | .inl (ys, i2) => .inl (y :: ys, i2)) = .inl (ys, i1) := h
    cases ha : g a i with
    | inr c => rw [ha] at h; cases h
    | inl z =>
      obtain ⟨y, j⟩ := z
      rw [ha] at h
      dsimp only at h ⊢
      cases hb : iterM g as j with
      | inr c => rw [hb] at h; cases h
      | inl z =>
        obtain ⟨ys', j'⟩ := z
        rw [hb] at h
        cases h
        rw [List.append_eq, iterM_app hb]
        cases iterM g bs i1 with
        | inr c => rfl
        | inl z => rfl
def lstO : (List D × ι) ⊕ Addr → (D × ι) ⊕ Addr
  | .inl (ys, i) => .inl (.lst ys, i)
  | .inr c => .inr c
theorem em_lc {wi : TI} {k : Nat} {g : D → ι → (D × ι) ⊕ Addr} (Inv : ι → Prop) (T : ObjF K φ p C dx F sd sv J) (hi : IterD K φ (J i) wi ρ ds) (hl : ds.length ≤ 1000000) (h0 : Inv i) (hI : ∀ d ∈ ds, ∀ i1 y i2, Inv i1 → g d i1 = .inl (y, i2) → Inv i2)
    (he : ∀ d ∈ ds, ∀ φ' J' i1, Inv i1 → ObjF K φ' p C dx F sd sv J' → EvM K φ' J' E te ((wipeR ρ [k]).set k (some d)) i1 (g d i1)) : EvM K φ J E (tLc wi (gName k) tYes te [k]) ρ i (lstO (iterM g ds i)) := fun σ H A Q ok bad => by
  refine hi σ H A _ fun J0 ds' H1 b1 A1 pd w => ?_
  subst pd
  intro D0 hD
  have pD : p ≠ D0 := ne_of_none (T.at_ _ _ A1.j) hD
  let φ' : Addr → Prop := fun a => φ a ∧ a ≠ D0
  let J' : List V → ι → Hp → Prop := fun acc i H => (J i H ∧ But φ H1 H) ∧ H D0 = some (.lst acc)
  have moJ : ∀ acc i H, J' acc i H → Mo H (J' acc i) := fun acc i H j => ((T.mo i H j.1.1).and (Mo.but j.1.2.tr)).and (Mo.at (by rw [j.2]; exact fun z => by cases z))
  have T' : ∀ acc, ObjF K φ' p C dx F sd sv (J' acc) := fun acc => ⟨fun z => T.np z.1, fun i H j => T.at_ i H j.1.1, fun i H j => Reps.up (fun a o q e => ⟨⟨q, ne_of_none e hD⟩, j.1.2.keep a o q e⟩) sd sv (T.sr _ _ A1.j), fun i i' H H' j b e => ⟨⟨T.st i i' H H' j.1.1 b e, j.1.2.trans (butP_butI T.np b e)⟩, b D0 _ pD.symm j.2⟩, moJ acc⟩
  refine ⟨fun n m H2 => m = ds'.length - n ∧ n ≤ ds'.length ∧ But φ H1 H2 ∧ ∃ acc ys i1, Inv i1 ∧ Reps K φ' H2 ys acc ∧ ys.length = n ∧ iterM g (ds'.take n) i = .inl (ys, i1) ∧ At K φ' (J' acc i1) (wipeR ρ [k]) (L2.wipe σ [k]) H2,
    ⟨ds'.length, rfl, Nat.zero_le _, But.of (same_new hD), [], [], i, h0, Reps.nil, rfl, rfl, ?_⟩, ?_⟩
  · have j : J' [] i (upd H1 D0 (.lst [])) := ⟨⟨A1.mono _ _ (fun a o _ e => same_new hD a o e) A1.j, But.of (same_new hD)⟩, upd_same⟩
    have A2 := A1.newLive (o := .lst []) (J' := J' [] i) hD j (moJ _ _ _ j)
    exact ⟨A2.sr.wipe [k], A2.fr, A2.j, A2.mono⟩
  · rintro n m H2 ⟨rfl, hi, b2, acc, ys, i1, hI1, rs, hys, hit, A2⟩
    have upw : Up φ φ' H1 H2 := fun a o p e => ⟨⟨p, ne_of_none e hD⟩, b2.keep a o p e⟩
    have fr2 : Frm φ' H2 := A2.fr
    obtain ⟨wg, wstop⟩ := w φ' n H2 upw fr2
    by_cases hlt : n < ds'.length
    · have hd : ds'[n]? = some ds'[n] := List.getElem?_eq_getElem hlt
      obtain ⟨go, yl⟩ := wg _ hd
      refine .inr ⟨go, fun H3 => But φ H1 H3 ∧ ∃ acc ys i1, Inv i1 ∧ Reps K φ' H3 ys acc ∧ ys.length = n + 1 ∧ iterM g (ds'.take (n + 1)) i = .inl (ys, i1) ∧ At K φ' (J' acc i1) (wipeR ρ [k]) (L2.wipe σ [k]) H3, ?_, ?_⟩
      · rintro H3 ⟨b3, acc3, ys3, i3, hI3, r3, l3, c3, A3⟩
        exact ⟨ds'.length - (n + 1), by omega, rfl, hlt, b3, acc3, ys3, i3, hI3, r3, l3, c3, A3⟩
      · intro x H3 hy
        obtain ⟨s3, r3⟩ := yl x H3 hy
        have A3 := A2.same s3
        have rs3 := rs.mono (But.of (φ := φ') s3)
        have b3 : But φ H1 H3 := b2.trans (But.of s3)
        have hmem : ds'[n] ∈ ds' := List.getElem_mem hlt
        have tk : ds'.take (n + 1) = ds'.take n ++ [ds'[n]] := by rw [List.take_add_one, hd]; rfl
        refine eg_name φ' _ _ H3 x A3 r3 _ fun σ4 A4 hw4 => ⟨?_, ?_⟩
        · rw [hw4 [k] fun _ h => h]
          exact wipe_wipe [k]
        · unfold tYes
          dsimp only
          rw [if_pos rfl]
          refine he _ hmem φ' (J' acc) i1 hI1 (T' acc) σ4 H3 A4 _ (fun d i2 eo v H6 b6 A6 r6 => ?_) fun c eo i2 H6 b6 A6 => ?_
          · have rl := rs3.mono b6
            have nD : ¬ φ' D0 := fun z => z.2 rfl
            have b36 : But φ H1 H6 := A6.j.1.2
            refine ⟨acc, A6.j.2, ?_, ⟨fun a o p e => ?_, fun a h => upd_tr a (b36.tr a h)⟩, acc ++ [v], ys ++ [d], i2, hI _ hmem i1 d i2 hI1 eo, ?_, by rw [List.length_append, hys]; rfl, ?_, ?_⟩
            · rw [rl.length, hys]
              exact szlt (by omega)
            · rw [upd_ne (ne_of_none e hD)]
              exact b36.keep a o p e
            · exact (rl.append (Reps.cons r6 Reps.nil)).mono ((But.refl φ' H6).upd nD)
            · rw [tk, iterM_app hit]
              show (match (match g ds'[n] i1 with | .inr c => (.inr c : (List D × ι) ⊕ Addr) | .inl (y, i1) => match iterM g [] i1 with | .inr c => .inr c | .inl (ys, i2) => .inl (y :: ys, i2)) with | .inr c => _ | .inl (zs, i2) => _) = _
              rw [eo]
              rfl
            · have j6 : J' (acc ++ [v]) i2 (upd H6 D0 (.lst (acc ++ [v]))) := by
                refine ⟨⟨?_, ⟨fun a o p e => ?_, fun a h => upd_tr a (b36.tr a h)⟩⟩, upd_same⟩
                · have hb : ButP p H1 (upd H1 p (.ins C dx (F i2))) := fun x o n e => by
                    rw [upd_ne n]
                    exact e
                  have jq := T.st i i2 H1 _ A1.j hb upd_same
                  refine T.mo i2 _ jq H6 _ (fun a o h e => ?_) A6.j.1.1
                  rw [upd_ne (show a ≠ D0 from fun z => h (by rw [z, upd_ne pD.symm]; exact hD))]
                  exact e
                · rw [upd_ne (ne_of_none e hD)]
                  exact b36.keep a o p e
              have A6' : At K φ' (J' acc i2) (wipeR ρ [k]) (L2.wipe σ [k]) H6 := ⟨A3.sr.up (Up.of b6), A6.fr, A6.j, A6.mono⟩
              exact A6'.upd nD j6 (moJ _ _ _ j6)
          · refine bad c ?_ i2 H6 (b1.trans A6.j.1.2) ⟨A1.sr.up (Up.of A6.j.1.2), A6.fr.fst, A6.j.1.1, T.mo _ _ A6.j.1.1⟩
            have e2 : iterM g ds' i = .inr c := by
              have e3 : ds' = ds'.take n ++ (ds'[n] :: ds'.drop (n + 1)) := by rw [← List.drop_eq_getElem_cons hlt, List.take_append_drop]
              rw [e3, iterM_app hit]
              show (match (match g ds'[n] i1 with | .inr c => (.inr c : (List D × ι) ⊕ Addr) | .inl (y, i1) => match iterM g (ds'.drop (n + 1)) i1 with | .inr c => .inr c | .inl (ys, i2) => .inl (y :: ys, i2)) with | .inr c => _ | .inl (zs, i2) => _) = _
              rw [eo]
            rw [e2]
            rfl
    · have e : n = ds'.length := by omega
      subst e
      refine .inl ⟨wstop rfl, ?_⟩
      rw [List.take_length] at hit
      rw [hit] at ok
      exact ok (.lst ys) i1 rfl _ H2 (b1.trans b2) ⟨A1.sr.up (Up.of b2), A2.fr.fst, A2.j.1.1, T.mo _ _ A2.j.1.1⟩ ⟨D0, acc, rfl, .inl ⟨A1.fr D0 hD, .inl A2.j.2⟩, Reps.up (fun a o p e => ⟨p.1, e⟩) ys acc rs⟩
end
/-- a method as a caller wants it -/
structure LkM (K : PySem.W.Frag) (C : Addr) (m : Str) (f : Addr) (fd : FuncData) (ps : List Str) : Prop where
  me : Meth K C m f
  bi : Binds K fd ps []

/-! ### methods that raise nothing; a list beside an instance -/
section
variable {ι : Type} {K : PySem.W.Frag} {φ φ' : Addr → Prop} {J 𝒥 : ι → Hp → Prop} {Jb : Hp → Prop} {H H' H0 H1 : Hp} {p C dx l : Addr} {F : ι → List (Str × V)} {G : List V → ι → List (Str × V)} {sd ds ys : List D} {sv vs : List V} {ρ : List (Option D)} {σ : L2.St} {i i' i1 i2 : ι} {d : D} {te tv : TE} {ta : TA} {E E' : XK} {D0 : Ends} {c : Addr} {m f : Str}
theorem em_meth0 {n k : Nat} {R : List D → ι → List D → (D × ι) ⊕ Addr → Prop} (T : ObjF K φ p C dx (G sv) sd sv J) (hk : ρ[k]? = some (some (.raw (.ref p)))) (hm : ∀ i, (G sv i).lookup m = none) (ha : EvMA K φ J E ta ρ i (.inl (ds, i1))) (hR : R sd i1 ds (.inl (d, i2))) (hl : ds.length = n := by rfl) :
    EvM K φ J E (tMeth C m (SpO K C G n R) [] E' (tVar k) ta) ρ i (.inl (d, i2)) := fun σ H A Q ok _ => by
  obtain ⟨v, e, r⟩ := A.sr.2 k _ hk
  cases (show v = _ from r)
  refine ⟨_, e, p, dx, _, rfl, T.at_ _ _ A.j, hm i, ha σ H A _ (fun ds' i' e vs H1 b1 A1 r1 => ?_) fun c e => nomatch e⟩
  cases e
  refine ⟨φ, p, dx, sd, sv, i1, ds, vs, .inl (d, i2), by rw [List.append_nil], hl, r1, T.sr _ _ A1.j, A1.fr, T.np, T.at_ _ _ A1.j, hR, fun d i' e v H' b e2 r => ?_, fun c e => nomatch e⟩
  cases e
  exact ok _ _ rfl v H' (b1.trans (butP_butI T.np b e2)) (At.obj T A1 b e2) r
/-- the instance stays as it is -/
theorem evd_em (h : EvM K φ J E te ρ i (.inl (d, i))) : EvD K φ (J i) te ρ d := fun σ H A Q q => h σ H A Q (fun d' i' e v H' b A' r => by
  cases e
  exact q v _ H' b A' rfl r) fun c e => nomatch e
section
variable {PP : Program} {w : World} {mg : Str → Option Value} {base : Heap}
theorem fn_okO0 {x qual : Str} {st : Stmt} {f : Addr} {fd : FuncData} {N ps : List Str} {k n : Nat} {R : List D → ι → List D → (D × ι) ⊕ Addr → Prop} (F : Fun K x qual st f fd) (S : FnScope N ps (defScope st)) (hn : ps.length = n + 1) (m : Nat) (hm : N.length = n + 1 + m) (hR0 : ∀ sd i ds o, R sd i ds o → ∃ d i', o = .inl (d, i'))
    (hbody : ∀ (cdv : Value) (A : Around) (outer : List Env) (s : Shared) (H : Hp) (E : XK), Room k (A.deeper (envOfC qual (defScope st) s.heap.objs.size f cdv)) →
      ∃ t, PSs (cxOf CX0 PP w K mg base N qual (defScope st) f cdv A outer s H E).nox (defBody st) t ∧
        ∀ (φ : Addr → Prop) (p dx : Addr) (sd : List D) (sv : List V) (J : ι → Hp → Prop) (i : ι) (ds : List D) (d : D) (i' : ι) (H : Hp) (D0 : Ends) (σ : L2.St), ds.length = n → R sd i ds (.inl (d, i')) → ObjF K φ p C dx (G sv) sd sv J → (∀ v H', J i' H' → Rep K φ H' d v → D0.rt v H') →
          At K φ (J i) (some (.raw (.ref p)) :: ds.map some ++ List.replicate m none) σ H → t D0 σ H) :
    FnOk PP w K mg base CX0 (k + 1) f fd ps (SpO K C G n R) := by
  refine F.ok S (fun vs H Q E h => ?_) (fun cdv A outer s H vs Q E hr h => ?_)
  · obtain ⟨φ, p, dx, sd, sv, i, ds, ws, o, rfl, hl, r, _⟩ := h
    rw [List.length_cons, r.length, hl, hn]
  · obtain ⟨φ, p, dx, sd, sv, i, ds, ws, o, rfl, hl, r, rs, fr, np, hp, hR, q, qe⟩ := h
    obtain ⟨d, i', rfl⟩ := hR0 _ _ _ _ hR
    obtain ⟨t, ht, run⟩ := hbody cdv A outer s H E hr
    let J : ι → Hp → Prop := fun i H' => H' p = some (.ins C dx (G sv i)) ∧ ButP p H H'
    have mo : ∀ i H', J i H' → Mo H' (J i) := fun i H' j => (Mo.at (by rw [j.1]; exact fun z => by cases z)).and (mo_butP (butP_trI j.2 j.1))
    have T : ObjF K φ p C dx (G sv) sd sv J := ⟨np, fun i H' j => j.1, fun i H' j => rs.mono (butP_butI np j.2 j.1), fun i i' H1 H2 j b e => ⟨e, j.2.trans b⟩, mo⟩
    have j0 : J i H := ⟨hp, fun _ _ _ h => h⟩
    refine ⟨t, ht, run φ p dx sd sv J i ds d i' H _ _ hl hR T (fun v H' j r => q d i' rfl v H' j.2 j.1 r) ⟨?_, fr, j0, mo i H j0⟩⟩
    have e : N.length - (V.ref p :: ws).length = m := by rw [hm, List.length_cons, r.length, hl]; omega
    unfold L2.start
    rw [e]
    exact SR.start (ds := .raw (.ref p) :: ds) (Reps.cons rfl r)
end
/-! ### a list that grows beside an instance -/
def famL (J : ι → Hp → Prop) (l : Addr) (vs : List V) (φ : Addr → Prop) (H0 : Hp) : ι → Hp → Prop := fun i H => (J i H ∧ But φ H0 H) ∧ H l = some (.lst vs)
structure LstF (K : PySem.W.Frag) (φ : Addr → Prop) (p C dx : Addr) (F : ι → List (Str × V)) (sd : List D) (sv : List V) (J : ι → Hp → Prop) (l : Addr) : Prop where
  T : ObjF K φ p C dx F sd sv J
  fr : φ l
  ex : ∃ i H, J i H ∧ H l = none
def InL (K : PySem.W.Frag) (φ : Addr → Prop) (sd : List D) (sv : List V) (J : ι → Hp → Prop) (l : Addr) (ys : List D) (𝒥 : ι → Hp → Prop) : Prop := ∃ vs H0, 𝒥 = famL J l vs (wo φ l) H0 ∧ Reps K (wo φ l) H0 ys vs ∧ Reps K (wo φ l) H0 sd sv ∧ H0 l ≠ none
theorem LstF.ne (L : LstF K φ p C dx F sd sv J l) : p ≠ l := by
  obtain ⟨i, H, j, h⟩ := L.ex
  exact ne_of_none (L.T.at_ _ _ j) h
theorem LstF.stab (L : LstF K φ p C dx F sd sv J l) (j : J i H) (o : HO) : J i (upd H l o) := by
  obtain ⟨i0, H2, j2, h⟩ := L.ex
  have hb : ButP p H2 (upd H2 p (.ins C dx (F i))) := fun x o n e => by
    rw [upd_ne n]
    exact e
  refine L.T.mo i _ (L.T.st i0 i H2 _ j2 hb upd_same) H _ (fun a o h' e => ?_) j
  rw [upd_ne (show a ≠ l from fun z => h' (by rw [z, upd_ne L.ne.symm]; exact h))]
  exact e
theorem famL_mo (L : LstF K φ p C dx F sd sv J l) {vs : List V} {i : ι} {H : Hp} (j : famL J l vs (wo φ l) H0 i H) : Mo H (famL J l vs (wo φ l) H0 i) := ((L.T.mo i H j.1.1).and (Mo.but j.1.2.tr)).and (Mo.at (by rw [j.2]; exact fun z => by cases z))
theorem InL.obj (I : InL K φ sd sv J l ys 𝒥) (L : LstF K φ p C dx F sd sv J l) : ObjF K (wo φ l) p C dx F sd sv 𝒥 := by
  obtain ⟨vs, H0, rfl, r, rs, h0⟩ := I
  have np : ¬ wo φ l p := fun z => L.T.np z.1
  exact ⟨np, fun i H j => L.T.at_ i H j.1.1, fun i H j => rs.mono j.1.2, fun i i' H H' j b e => ⟨⟨L.T.st i i' H H' j.1.1 b e, j.1.2.trans (butP_butI np b e)⟩, b l _ L.ne.symm j.2⟩, fun i H j => famL_mo L j⟩
theorem InL.base (I : InL K φ sd sv J l ys 𝒥) (j : 𝒥 i H) : J i H := by
  obtain ⟨vs, H0, rfl, _⟩ := I
  exact j.1.1
/-- x = [..], the items by the instance -/
theorem st_newM {k : Nat} (T : ObjF K φ p C dx F sd sv J) (A : At K φ (J i) ρ σ H) (h : EvMA K φ J E ta ρ i (.inl (ds, i'))) (hl : ds.length ≤ 1000000)
    (kk : ∀ l 𝒥 σ' H', LstF K φ p C dx F sd sv J l → InL K φ sd sv J l ds 𝒥 → At K (wo φ l) (𝒥 i') (ρ.set k (some (.raw (.ref l)))) σ' H' → D0.nx σ' H') : tAsg (tLst ta) (gName k) D0 σ H :=
  h σ H A _ (fun ds' i2 e vs H1 b1 A1 r1 => by
    cases e
    refine ⟨by rw [r1.length]; exact sz hl, fun l hn => ?_⟩
    have L : LstF K φ p C dx F sd sv J l := ⟨T, A1.fr.new l hn, _, H1, A1.j, hn⟩
    have j : famL J l vs (wo φ l) (upd H1 l (.lst vs)) i' (upd H1 l (.lst vs)) := ⟨⟨L.stab A1.j _, But.refl _ _⟩, upd_same⟩
    exact kk l (famL J l vs (wo φ l) (upd H1 l (.lst vs))) _ _ L ⟨vs, _, rfl, reps_new hn r1, reps_new hn (T.sr _ _ A1.j), by rw [upd_same]; exact fun z => by cases z⟩ ((A1.newLive (o := .lst vs) (J' := famL J l vs (wo φ l) (upd H1 l (.lst vs)) i') hn j (famL_mo L j)).set k rfl)) fun c e => nomatch e
theorem st_appM {k : Nat} (L : LstF K φ p C dx F sd sv J l) (I : InL K φ sd sv J l ys 𝒥) (A : At K (wo φ l) (𝒥 i) ρ σ H) (hk : ρ[k]? = some (some (.raw (.ref l)))) (h : EvM K (wo φ l) 𝒥 E te ρ i (.inl (d, i'))) (hz : ys.length ≤ 1000000)
    (kk : ∀ 𝒥2 H', InL K φ sd sv J l (ys ++ [d]) 𝒥2 → But (wo φ l) H H' → At K (wo φ l) (𝒥2 i') ρ σ H' → D0.nx σ H') : tDrop (tBM K "list" rAppend (tVar k) (tCons te tNil)) D0 σ H := by
  obtain ⟨w, e, r⟩ := A.sr.2 k _ hk
  cases (show w = _ from r)
  obtain ⟨vs, H0, rfl, rs, rsd, h0⟩ := I
  refine ⟨_, e, .inl ⟨rfl, _, SqL.of A.j.2⟩, h σ H A _ (fun d' i2 e v H' b A' r' => ?_) fun c e => nomatch e⟩
  cases e
  have nD : ¬ wo φ l l := fun z => z.2 rfl
  have rl := rs.mono A'.j.1.2
  have up := (But.refl (wo φ l) H').upd (o := .lst (vs ++ [v])) nD
  have j : famL J l (vs ++ [v]) (wo φ l) (upd H' l (.lst (vs ++ [v]))) i' (upd H' l (.lst (vs ++ [v]))) := ⟨⟨L.stab A'.j.1.1 _, But.refl _ _⟩, upd_same⟩
  exact ⟨l, vs, v, rfl, rfl, A'.j.2, by rw [rl.length]; exact szlt hz, kk (famL J l (vs ++ [v]) (wo φ l) (upd H' l (.lst (vs ++ [v])))) _ ⟨_, _, rfl, (rl.append (Reps.cons r' Reps.nil)).mono up, (rsd.mono A'.j.1.2).mono up, by rw [upd_same]; exact fun z => by cases z⟩ (b.trans up) (A'.upd nD j (famL_mo L j))⟩
theorem InL.freeze {k : Nat} (I : InL K φ sd sv J l ys 𝒥) (L : LstF K φ p C dx F sd sv J l) (A : At K (wo φ l) (𝒥 i) ρ σ H) (hk : ρ[k]? = some (some (.raw (.ref l)))) : At K φ (J i) (ρ.set k (some (.lst ys))) σ H := by
  obtain ⟨vs, H0, rfl, rs, rsd, h0⟩ := I
  have up : Up (wo φ l) φ H H := fun a o q e => ⟨q.1, e⟩
  obtain ⟨v, e, r⟩ := A.sr.2 k _ hk
  cases (show v = _ from r)
  refine ⟨⟨by rw [List.length_set]; exact A.sr.1, fun j d hj => ?_⟩, A.fr.fst, A.j.1.1, L.T.mo _ _ A.j.1.1⟩
  by_cases ejk : k = j
  · subst ejk
    have hkl : k < ρ.length := (List.getElem?_eq_some_iff.mp hk).1
    rw [List.getElem?_set_self hkl] at hj
    cases hj
    exact ⟨_, e, l, vs, rfl, .inl ⟨L.fr, .inl A.j.2⟩, Reps.up up ys vs (rs.mono A.j.1.2)⟩
  · rw [List.getElem?_set_ne ejk] at hj
    obtain ⟨u, e1, r1⟩ := A.sr.2 j d hj
    exact ⟨u, e1, Rep.up up d u r1⟩
/-- the turn's frame is let go -/
theorem At.objBut (T : ObjF K φ p C dx F sd sv J) (A : At K φ (fun H => J i H ∧ But φ H1 H) ρ σ H) : At K φ (J i) ρ σ H := A.live A.j.1 (T.mo i _ A.j.1)
end
/-! ### None in [..] of Nones and tuples; x in a tuple of texts -/
def rInNone (K : PySem.W.Frag) : R2 := fun x y H Q => ∃ p xs, x = .non ∧ y = .ref p ∧ SqL K H p xs ∧ (∀ u ∈ xs, u = .non ∨ ∃ t ys, u = .ref t ∧ SqT K H t ys) ∧ Q (.bl (xs.any fun u => decide (u = .non))) H
def isNoneV : Value → Bool
  | .none => true
  | _ => false
theorem any_none : ∀ {xs : List V} {us : List Value}, Vals xs us → (∀ u ∈ xs, u = .non ∨ ∃ t, u = .ref t) → us.any isNoneV = xs.any fun u => decide (u = .non)
  | _, _, .nil, _ => rfl
  | x :: xs, u :: us, .cons r t, h => by
    rw [List.any_cons, List.any_cons, any_none t fun y hy => h y (List.mem_cons_of_mem _ hy)]
    rcases h x List.mem_cons_self with rfl | ⟨a, rfl⟩
    · cases (show u = Value.none from r)
      rfl
    · cases (show u = Value.ref a from r)
      rfl
theorem op_inNone {X : Cx} (hu : X.A.units + 1 < cLine) : OpR X (compareOp .In) (rInNone X.K) := by
  intro pins s σ H x y v u Q I rx ry h
  obtain ⟨p, xs, rfl, rfl, hq, hx, q⟩ := h
  cases ry
  cases (show v = Value.none from rx)
  obtain ⟨its, r, pl, hz⟩ := I.list hq
  have one : ∀ {xs : List V} {us : List Value}, Vals xs us → (∀ u ∈ xs, u = .non ∨ ∃ t ys, u = .ref t ∧ SqT X.K H t ys) → ∀ u ∈ us, SeqAt.EqAt X.A.in1 s u .none (isNoneV u) := by
    intro xs us r
    induction r with
    | nil => intro _ u hu; cases hu
    | @cons a b as bs ra rb ih =>
      intro hx u hu'
      rcases List.mem_cons.mp hu' with rfl | hu'
      · rcases hx a List.mem_cons_self with rfl | ⟨t, ys, rfl, ht⟩
        · cases (show u = Value.none from ra)
          exact SeqAt.EqAt.same _
        · cases (show u = Value.ref t from ra)
          obtain ⟨its, _, pt, _⟩ := I.tuple ht
          exact SeqAt.EqAt.tuple_none pt (by show X.A.units + 1 < cLine; exact hu)
      · exact ih (fun u hu => hx u (List.mem_cons_of_mem _ hu)) u hu'
  refine SeqAt.in_listAt isNoneV pl.isList (fun w hw => one r hx w (by simpa using hw)) ⟨.bl _, H, I, rfl, ?_⟩
  rw [show its.toArray.any isNoneV = its.any isNoneV by simp, any_none r fun u hu => (hx u hu).imp id fun ⟨t, _, e, _⟩ => ⟨t, e⟩]
  exact q
section
variable {K : PySem.W.Frag} {φ : Addr → Prop} {J : Hp → Prop} {ρ : List (Option D)} {ta tb : TE}
def TN (d : D) : Prop := d = .non ∨ ∃ es, d = .tup es
theorem reps_none {H : Hp} : ∀ {ds : List D} {vs : List V}, Reps K φ H ds vs → (∀ d ∈ ds, TN d) → (∀ u ∈ vs, u = .non ∨ ∃ t ys, u = .ref t ∧ SqT K H t ys) ∧ (vs.any fun u => decide (u = .non)) = ds.any isNon
  | [], vs, r, _ => by
    cases (show vs = [] from r)
    exact ⟨(fun u hu => by cases hu), rfl⟩
  | d :: ds, vs, r, h => by
    obtain ⟨v, vs', rfl, r1, r2⟩ := r
    obtain ⟨h1, h2⟩ := reps_none r2 fun x hx => h x (List.mem_cons_of_mem _ hx)
    rcases h d List.mem_cons_self with rfl | ⟨es, rfl⟩
    · cases (show v = .non from r1)
      refine ⟨fun u hu => ?_, ?_⟩
      · rcases List.mem_cons.mp hu with rfl | hu
        · exact .inl rfl
        · exact h1 u hu
      · rw [List.any_cons, List.any_cons, h2]
        rfl
    · obtain ⟨a, ys, rfl, p, _⟩ := rep_tup r1
      refine ⟨fun u hu => ?_, ?_⟩
      · rcases List.mem_cons.mp hu with rfl | hu
        · exact .inr ⟨a, ys, rfl, p.sq⟩
        · exact h1 u hu
      · rw [List.any_cons, List.any_cons, h2]
        rfl
theorem ev_inNone {ds : List D} (hb : EvD K φ J tb ρ (.lst ds)) (h : ∀ d ∈ ds, TN d) : EvD K φ J (tOp (rInNone K) (tC .non) tb) ρ (.bl (ds.any isNon)) := ev_opD ev_non hb fun H v w _ r1 r2 Q q => by
  obtain ⟨a, vs, rfl, p, rs⟩ := rep_lst r2
  obtain ⟨h1, h2⟩ := reps_none rs h
  exact ⟨a, vs, r1, rfl, p.sq, h1, q _ _ H (Same.refl H) rfl (by rw [h2]; rfl)⟩
theorem flat_strs' (ys : List Str) : (ys.map V.str).all flatV = true := by
  rw [List.all_map]
  exact List.all_eq_true.mpr fun _ _ => rfl
theorem inV_strs (s : Str) (ys : List Str) : inV (.str s) (ys.map V.str) = decide (s ∈ ys) := by
  unfold inV
  rw [List.any_map, Bool.eq_iff_iff, List.any_eq_true, decide_eq_true_eq]
  constructor
  · rintro ⟨y, hy, h⟩
    have h : eqV (.str y) (.str s) = true := h
    have e : y = s := by simpa [eqV] using h
    exact e ▸ hy
  · intro h
    exact ⟨s, h, by show eqV (.str s) (.str s) = true; simp [eqV]⟩
/-- s in (written or made) tuple of texts -/
theorem ev_inTS {s : Str} {ys : List Str} (ha : EvD K φ J ta ρ (.str s)) (hb : EvD K φ J tb ρ (.tup (ys.map D.str))) : EvD K φ J (tOp (rIn K false) ta tb) ρ (.bl (decide (s ∈ ys))) := ev_opD ha hb fun H v w _ r1 r2 Q q => by
  cases (show v = _ from r1)
  obtain ⟨a, vs, rfl, p, rs⟩ := rep_tup r2
  have ev := rs.strs
  subst ev
  exact ⟨a, _, rfl, .inr p.sq, rfl, flat_strs' ys, q _ _ H (Same.refl H) rfl (by rw [inV_strs]; rfl)⟩
/-- .. of a constant of the module -/
theorem ev_inGS {s : Str} {a : Addr} {ys : List Str} (ha : EvD K φ J ta ρ (.str s)) (hw : WrT K a (ys.map V.str)) : EvD K φ J (tOp (rIn K false) ta (tC (.ref a))) ρ (.bl (decide (s ∈ ys))) := ev_opD ha (ev_ref (a := a)) fun H v w _ r1 r2 Q q => by
  cases (show v = _ from r1)
  cases (show w = _ from r2)
  exact ⟨a, _, rfl, .inr (.inr hw), rfl, flat_strs' ys, q _ _ H (Same.refl H) rfl (by rw [inV_strs]; rfl)⟩
theorem ev_notInGS {s : Str} {a : Addr} {ys : List Str} (ha : EvD K φ J ta ρ (.str s)) (hw : WrT K a (ys.map V.str)) : EvD K φ J (tOp (rIn K true) ta (tC (.ref a))) ρ (.bl (!decide (s ∈ ys))) := ev_opD ha (ev_ref (a := a)) fun H v w _ r1 r2 Q q => by
  cases (show v = _ from r1)
  cases (show w = _ from r2)
  exact ⟨a, _, rfl, .inr (.inr hw), rfl, flat_strs' ys, q _ _ H (Same.refl H) rfl (by rw [inV_strs]; rfl)⟩
end

/-! ### sorted lists of ints -/
section
variable {P : Program} {w : World} {K : PySem.W.Frag} {mg : Str → Option Value} {base : Heap}
theorem c_sortedI {X : Cx} : CallR X (.builtin "sorted") (rSorted X.K) := cr_sorted
theorem ev_sortedI {φ : Addr → Prop} {J : Hp → Prop} {ρ : List (Option D)} {te : TE} {ns : List Int} (ha : EvD K φ J te ρ (.lst (ns.map D.int))) (hl : ns.length < 64) : EvP K φ J (tCB (rSorted K) (tCons te tNil)) ρ (fun z => ∃ ns' : List Int, z = .lst (ns'.map D.int) ∧ ns'.Perm ns ∧ ns'.Pairwise (· ≤ ·)) := ev_cbD (ea_cons ha ea_nil) fun H vs f r Q q => by
  obtain ⟨v, rfl, r1⟩ := r.one
  obtain ⟨a, rfl, h⟩ := rep_ints r1
  exact ⟨a, ns, rfl, h, hl, fun ns' p hp hs hn => q _ _ _ (same_new hn) ⟨ns', rfl, hp, hs⟩ ⟨p, _, rfl, .inl ⟨f p hn, .inl upd_same⟩, Reps.of_ints⟩⟩
theorem all_ints : ∀ {ys : List D}, (∀ y ∈ ys, ∃ i, y = .int i) → ∃ ns : List Int, ys = ns.map D.int
  | [], _ => ⟨[], rfl⟩
  | y :: ys, h => by
    obtain ⟨i, rfl⟩ := h y List.mem_cons_self
    obtain ⟨ns, rfl⟩ := all_ints fun z hz => h z (List.mem_cons_of_mem _ hz)
    exact ⟨i :: ns, rfl⟩
end

/-! ### plain trees: no raw values, a bounded depth, bounded lengths, texts within the bounds -/
def okD (s : Nat) : Nat → D → Bool
  | 0, _ => false
  | _ + 1, .non => true
  | _ + 1, .bl _ => true
  | _ + 1, .int _ => true
  | _ + 1, .str x => PyData.strOk x
  | n + 1, .tup ds => decide (ds.length ≤ s) && ds.all (okD s n)
  | n + 1, .lst ds => decide (ds.length ≤ s) && ds.all (okD s n)
  | _ + 1, .raw _ => false
  | _ + 1, .dk _ _ => false
  | _ + 1, .dt _ _ => false
theorem okD_raw {s n : Nat} {d : D} (h : okD s n d = true) : isRaw d = false := by
  cases n with
  | zero => cases h
  | succ n => cases d <;> first | rfl | cases h
theorem okD_tup {s n : Nat} {es : List D} : okD s (n + 1) (.tup es) = true ↔ es.length ≤ s ∧ ∀ x ∈ es, okD s n x = true := by
  show (decide (es.length ≤ s) && es.all (okD s n)) = true ↔ _
  rw [Bool.and_eq_true, decide_eq_true_eq, List.all_eq_true]
theorem okD_lst {s n : Nat} {es : List D} : okD s (n + 1) (.lst es) = true ↔ es.length ≤ s ∧ ∀ x ∈ es, okD s n x = true := by
  show (decide (es.length ≤ s) && es.all (okD s n)) = true ↔ _
  rw [Bool.and_eq_true, decide_eq_true_eq, List.all_eq_true]
theorem okD_mono {s s' : Nat} (hs : s ≤ s') : ∀ {n n' : Nat} {d : D}, n ≤ n' → okD s n d = true → okD s' n' d = true := by
  intro n
  induction n with
  | zero => intro n' d _ h; cases h
  | succ n ih =>
    intro n' d hn h
    obtain ⟨k, rfl⟩ : ∃ k, n' = k + 1 := ⟨n' - 1, by omega⟩
    cases d with
    | tup ds =>
      rw [okD_tup] at h ⊢
      exact ⟨by omega, fun x hx => ih (by omega) (h.2 x hx)⟩
    | lst ds =>
      rw [okD_lst] at h ⊢
      exact ⟨by omega, fun x hx => ih (by omega) (h.2 x hx)⟩
    | str x => exact h
    | raw v => cases h
    | dk ks ds => cases h
    | dt ks ds => cases h
    | _ => rfl
theorem okD_okq {s : Nat} : ∀ {n : Nat} {d : D}, okD s n d = true → okq n d = true := by
  intro n
  induction n with
  | zero => intro d h; cases h
  | succ n ih =>
    intro d h
    cases d with
    | tup ds => exact List.all_eq_true.mpr fun x hx => ih ((okD_tup.mp h).2 x hx)
    | lst ds => exact List.all_eq_true.mpr fun x hx => ih ((okD_lst.mp h).2 x hx)
    | str x => exact h
    | raw v => cases h
    | dk ks ds => cases h
    | dt ks ds => cases h
    | _ => rfl
theorem okq_mono : ∀ {n n' : Nat} {d : D}, n ≤ n' → okq n d = true → okq n' d = true := by
  intro n
  induction n with
  | zero =>
    intro n' d _ h
    cases d with
    | tup ds => cases h
    | lst ds => cases h
    | raw v => cases h
    | dk ks ds => cases h
    | dt ks ds => cases h
    | str x => cases n' <;> exact h
    | _ => cases n' <;> rfl
  | succ n ih =>
    intro n' d hn h
    obtain ⟨k, rfl⟩ : ∃ k, n' = k + 1 := ⟨n' - 1, by omega⟩
    cases d with
    | tup ds => exact List.all_eq_true.mpr fun x hx => ih (by omega) (List.all_eq_true.mp h x hx)
    | lst ds => exact List.all_eq_true.mpr fun x hx => ih (by omega) (List.all_eq_true.mp h x hx)
    | str x => exact h
    | raw v => cases h
    | dk ks ds => cases h
    | dt ks ds => cases h
    | _ => rfl
theorem okD_okq' {s n n' : Nat} {d : D} (h : okD s n d = true) (hn : n ≤ n') : okq n' d = true := okq_mono hn (okD_okq h)
theorem okD_plain {s : Nat} (hs : s ≤ 1000000) : ∀ {n : Nat} {d : D}, okD s n d = true → plain n d = true := by
  intro n
  induction n with
  | zero => intro d h; cases h
  | succ n ih =>
    intro d h
    cases d with
    | tup ds =>
      have z := okD_tup.mp h
      simp only [plain, Bool.and_eq_true, decide_eq_true_eq, List.all_eq_true]
      exact ⟨by omega, fun x hx => ih (z.2 x hx)⟩
    | lst ds =>
      have z := okD_lst.mp h
      simp only [plain, Bool.and_eq_true, decide_eq_true_eq, List.all_eq_true]
      exact ⟨by omega, fun x hx => ih (z.2 x hx)⟩
    | raw v => cases h
    | dk ks ds => cases h
    | dt ks ds => cases h
    | _ => rfl
def isIntD : D → Bool
  | .int _ => true
  | _ => false
def intV : D → Int
  | .int i => i
  | _ => 0
theorem isIntD_ex {d : D} (h : isIntD d = true) : ∃ i, d = .int i := by
  cases d with
  | int i => exact ⟨i, rfl⟩
  | _ => cases h
theorem isIntD_of {d : D} (h : isRaw d = false) : (isT "int" d && !isT "bool" d) = isIntD d := by
  cases d <;> first | (cases h; done) | rfl
section
variable {K : PySem.W.Frag} {φ : Addr → Prop} {J : Hp → Prop} {ρ : List (Option D)} {te : TE} {x : D} {b : Bool} {t1 t2 : TT} {p : Bool → Prop}
theorem et_andP (ha : EvX K φ J t1 ρ b) (hb : b = true → EvT K φ J t2 ρ p) : EvT K φ J (tAnd t1 t2) ρ (fun x => (b = true ∧ p x) ∨ (b = false ∧ x = false)) := fun σ H A Q q => ha σ H A _ fun k H1 b1 A1 e1 => by
  subst e1
  cases k with
  | false => exact q false H1 b1 A1 (.inr ⟨rfl, rfl⟩)
  | true => exact hb rfl σ H1 A1 _ fun k H2 b2 A2 pk => q k H2 (b1.trans b2) A2 (.inl ⟨rfl, pk⟩)
theorem et_orP (ha : EvX K φ J t1 ρ b) (hb : b = false → EvT K φ J t2 ρ p) : EvT K φ J (tOr t1 t2) ρ (fun x => (b = false ∧ p x) ∨ (b = true ∧ x = true)) := fun σ H A Q q => ha σ H A _ fun k H1 b1 A1 e1 => by
  subst e1
  cases k with
  | true => exact q true H1 b1 A1 (.inr ⟨rfl, rfl⟩)
  | false => exact hb rfl σ H1 A1 _ fun k H2 b2 A2 pk => q k H2 (b1.trans b2) A2 (.inl ⟨rfl, pk⟩)
theorem et_cmpP {f : Int → Int → Bool} {ta tb : TE} {p q : Int → Prop} (ha : EvI K φ J ta ρ p) (hb : EvI K φ J tb ρ q) : EvT K φ J (tTest (tOp (rI0 fun i j => .bl (f i j)) ta tb)) ρ (fun k => ∃ i j, p i ∧ q j ∧ k = f i j) := et_testP (eb_cmp ha hb)
theorem et_eqP {ta tb : TE} {p q : Int → Prop} (ha : EvI K φ J ta ρ p) (hb : EvI K φ J tb ρ q) : EvT K φ J (tTest (tOp rEq ta tb)) ρ (fun k => ∃ i j, p i ∧ q j ∧ k = decide (i = j)) := et_testP (eb_eq ha hb)
theorem any_toPys {x : D} : ∀ ds : List D, ((toPys ds).any fun z => PyData.eqv z (toPy x)) = ds.any fun z => eqvD z x
  | [] => rfl
  | d :: ds => by
    show (PyData.eqv (toPy d) (toPy x) || (toPys ds).any _) = (eqvD d x || ds.any _)
    rw [any_toPys ds]
    rfl
/-- `in` a list of data -/
theorem ev_inQ {ta tb : TE} {ds : List D} (ha : EvD K φ J ta ρ x) (hb : EvD K φ J tb ρ (.lst ds)) (hx : okq 64 x = true) (hy : okq 64 (.lst ds) = true) : EvD K φ J (tOp (rInD K) ta tb) ρ (.bl (ds.any fun z => eqvD z x)) := ev_opD ha hb fun H v w _ r1 r2 Q q => by
  refine ⟨toPy x, toPys ds, dp_of x v 64 hx r1, dp_of _ w 64 hy r2, okq_shaped hx (Nat.le_refl _), okq_shaped hy (Nat.le_refl _), ?_⟩
  rw [any_toPys ds]
  exact q _ _ H (Same.refl H) rfl rfl
end
section
variable {P : Program} {w : World} {K : PySem.W.Frag} {mg : Str → Option Value} {base : Heap}
def RIsInt : List D → D → Prop := fun ds r => ∃ d, ds = [d] ∧ isRaw d = false ∧ r = .bl (isIntD d)
end

/-! ### InvalidLine.__init__ -/
section
open PySem.W PySem.Calls
variable {P : Program} {w : World} {K : PySem.W.Frag} {mg : Str → Option Value} {base : Heap}
set_option maxHeartbeats 4000000 in
theorem ok_supinit {C fI cc cda : Addr} {fd : FuncData} (T : SupC P K C fI "InvalidLine.__init__" s_InvalidLine___init__ fd cc cda) (hmg : mg "super" = none) (hno : PySem.W.findIn K (.ref C) "line" = some none) :
    FnOk P w K mg base CX0 2 fI fd ["self", "line"] (SpIL C "line") := by
  obtain ⟨oc, od, kV, doc, pm, an, ct, osl, rfl, lk⟩ := T.fn
  obtain ⟨ccl, cdd, vsc, ccs, file, tf, hcode, hvs, hfile⟩ := T.code
  obtain ⟨cl, cld, csl, hcl⟩ := T.cell
  obtain ⟨cdD, hD⟩ := T.cls
  refine ⟨fun vs H Q E ⟨a, v, e, _⟩ => by rw [e]; rfl, fun A outer s H args us vs Q E hr e0 hb r hsp => ?_⟩
  obtain ⟨a, v, rfl, ea, hq⟩ := hsp
  obtain ⟨u, rfl, ru⟩ : ∃ u, us = [.ref a, u] ∧ RelV v u := by
    cases r with
    | cons r1 r2 =>
      cases r2 with
      | cons r3 r4 =>
        cases r4
        cases r1
        exact ⟨_, rfl, r3⟩
  have KX : K.In s.heap := e0.mod.kin.keeps fun b o e => (e0.bs b o e).1
  have lim : s.heap.NoLimit := e0.mod.nolimit.keeps fun b o e => (e0.bs b o e).1
  have kbase : ∀ {b : Addr} {o : Obj}, K.lookup b = some o → base.get? b = some o := fun {b o} e => e0.mod.kin b o e
  refine ks_codeAny_call_defAt (fd := ksFn "__init__" "InvalidLine.__init__" (defArgs s_InvalidLine___init__) (defBody s_InvalidLine___init__) (defScope s_InvalidLine___init__) .none kV doc pm an (.ref cda) ct cc) (body := defBody s_InvalidLine___init__) (binds := [(("self" : Str), Value.ref a), (("line" : Str), u)]) hr.depth (KX _ _ lk) rfl lim (PySem.W.codeRec_of KX T.cd) rfl hb (show ∀ x ∈ (defScope s_InvalidLine___init__).names, x.2 ≠ .cell by decide +kernel) (fun y hy => ?_) (fun h₀ hns kp => ?_) rfl rfl rfl
  · rcases List.mem_cons.mp hy with rfl | hy
    · rfl
    · rw [List.mem_singleton.mp hy]; rfl
  generalize hX : supCx P w K mg base A outer s H E ["self", "line"] "InvalidLine.__init__" (defScope s_InvalidLine___init__) fI (.ref cda) cc = X
  have I : Inv X [] [some (.ref a), some v] H { s with heap := h₀, toks := s.toks + ([(("self" : Str), Value.ref a), (("line" : Str), u)] : List (Str × Value)).length } := by
    subst hX
    have cl1 : ∀ {x : Str} {c : Addr}, List.lookup x [(("__class__" : Str), cc)] = some c → x = "__class__" ∧ c = cc := fun {x c} e => by
      rw [List.lookup_cons] at e
      cases z : (x == ("__class__" : Str)) with
      | true => rw [z] at e; cases e; exact ⟨eq_of_beq z, rfl⟩
      | false => rw [z] at e; cases e
    refine ⟨⟨e0.mod, rfl, rfl, rfl, Nat.le_refl _, fun x y c e1 e2 => (cl1 e1).1.trans (cl1 e2).1.symm, fun x hx => ?_, fun x c z _ => (nomatch (show false = true from z)), fun _ => hr.hd, Around.frames_deeper e0.frames, .inr ⟨rfl, rfl⟩, fun b z => (nomatch (show b ∈ ([] : List Addr) from z)), e0.bs, e0.bsz, fun b _ _ z => (nomatch (show b ∈ ([] : List Addr) from z)), fun b z => (nomatch (show b ∈ ([] : List Addr) from z)), e0.funs, e0.frf⟩,
      rfl, e0.bare, Un.kept kp, ⟨_, hns, fun i x w' e1 e2 e3 => ?_⟩, fun x c e => ?_, e0.hok.fresh (Nat.le_refl _), fun x c e => ?_, fun q hq => absurd (show q ∈ ([] : List (Addr × Obj)) ++ [] from hq) (by simp), e0.hok.kept kp, rfl⟩
    · have nm : ∀ y ∈ (defScope s_InvalidLine___init__).names, y.2 ≠ .cell ∧ (y.2 = .free → y.1 = ("__class__" : Str)) := by decide +kernel
      have hx : (defScope s_InvalidLine___init__).names.lookup x = some .cell ∨ (defScope s_InvalidLine___init__).names.lookup x = some .free := hx
      rcases hx with hx | hx
      · exact absurd rfl (nm _ (PySem.mem_of_lookup hx)).1
      · have e : x = ("__class__" : Str) := (nm _ (PySem.mem_of_lookup hx)).2 rfl
        subst e
        exact ⟨cc, rfl⟩
    · have e1 : ([("self" : Str), "line"] : List Str)[i]? = some x := e1
      have e2 : ([some (.ref a), some v] : List (Option V))[i]? = some (some w') := e2
      rcases i with _ | _ | i
      · cases e1
        cases e2
        exact ⟨.ref a, rfl, .inl ⟨rfl, rfl⟩⟩
      · cases e1
        cases e2
        exact ⟨u, ru, .inl ⟨rfl, rfl⟩⟩
      · cases e1
    · obtain ⟨_, rfl⟩ := cl1 e
      exact ⟨some (.ref C), ⟨_, kp _ _ (KX _ _ hcl), rfl⟩⟩
    · obtain ⟨_, rfl⟩ := cl1 e
      exact (e0.bs _ _ (kbase hcl)).2
  have hXA : X.A = A.deeper (ksEnv "InvalidLine.__init__" (defScope s_InvalidLine___init__) s.heap.objs.size fI (.ref cda) cc) := by subst hX; rfl
  have fin : ∀ {σ' : L2.St} {H' : Hp} {s' : Shared}, Inv X [] σ' H' s' → Q .non H' → CE outer P w H s Q .none s' := fun {σ' H' s'} J q => by
    subst hX
    exact ⟨.non, H', J.os, J.bare, J.base, J.hok, rfl, q⟩
  have room : X.A.units + 64 < cLine ∧ X.A.depth < recursionLimit := by
    rw [hXA]
    exact ⟨(hr.deeper (k := 1) _).units, (hr.deeper (k := 1) _).depth⟩
  obtain ⟨oD, hD1, hD2⟩ : ∃ oD, K.lookup C = some oD ∧ oD.data = .cls cdD := by
    unfold PySem.W.clsIn at hD
    split at hD
    · rename_i c d cd' sl ho
      cases hD
      exact ⟨_, ho, rfl⟩
    · cases hD
  obtain ⟨nm, qn, N, bs, bm, sn, sub, ab, col, dd, k0, k1, k2', k3, k5, hC, hbm⟩ := T.ex.cls
  have kin : ∀ {h : Heap}, (∀ b o, h₀.get? b = some o → h.get? b = some o) → K.In h := fun {h} k b o e => k _ _ (kp _ _ (KX b o e))
  obtain ⟨t1, hea⟩ := exo_at I.hok ea
  have hea : h₀.get? a = some ({ cls := .ref C, dict := none, data := .fields #[.ref t1, .none, .none, .none, .bool false, .none] } : Obj) := hea
  have KX0 := kin (h := h₀) fun _ _ e => e
  have inst : ∀ {h : Heap}, (∀ b o, h₀.get? b = some o → h.get? b = some o) → PySem.W.InstAt h a { cls := .ref C, dict := none, data := .fields #[.ref t1, .none, .none, .none, .bool false, .none] } C none := fun {h} k => ⟨k _ _ hea, rfl, rfl, trivial⟩
  refine ks_wpAt_execs_cons (ks_wpAt_Expr_any (ks_wpAt_MethodCall (ks_wpAt_super_base (fd := ksFn "__init__" "InvalidLine.__init__" (defArgs s_InvalidLine___init__) (defBody s_InvalidLine___init__) (defScope s_InvalidLine___init__) .none kV doc pm an (.ref cda) ct cc) (vs := vsc) (f := fI) (cc := cda) rfl rfl (by decide) rfl (kp _ _ (KX _ _ lk)) rfl rfl rfl (kp _ _ (KX _ _ hcode)) rfl hvs hfile T.top ?_)))
  obtain ⟨mb, b1, b2⟩ := e0.mod.blt
  have kb : ∀ b o, base.get? b = some o → h₀.get? b = some o := fun b o e => kp b o (e0.bs b o e).1
  refine ks_loadName_global rfl rfl (Calls.loadGlobal_builtin (e0.mod.glob.keeps kb) hmg (b1.keeps kb) ((b2 "super" (by decide)).trans (by decide +kernel)) ⟨rfl, ?_⟩)
  refine wpAny_loadName_free rfl rfl rfl ⟨_, kp _ _ (KX _ _ hcl), rfl⟩ ?_
  refine wpAny_loadName_local rfl rfl hns rfl ?_
  refine ks_wpAny_isType_cls (kp _ _ (KX _ _ hD1)) hD2 ⟨rfl, ?_⟩
  refine ks_wpAny_call_super (kp _ _ (KX _ _ hD1)) hD2 hea rfl (fun c z => nomatch z) (looks_mroIn KX0 T.sub) fun h' e' k' => ?_
  have hsup : PySem.W.alongIn K "__init__" ((cdD.mro.dropWhile (· != .ref C)).drop 1) = some (some (.builtin "ValueError.__init__")) := by
    have z := T.sup
    unfold ks_superIn at z
    rw [hD] at z
    exact z
  have X1 := kin k'
  refine kxs_getMethod kxs_ValueError e' (looks_opaque X1 T.any) (l₀ := cdD.mro) (fun A Q E s k q => wpAny_bind ((looks_clsIn X1 hD) A _ E s k (wpAny_pure q))) rfl X1 hsup ((inst k').type.andThen (looks_subIn X1 T.ve)) (ks_ne X1 (inst k') hD) (by decide) ?_
  have k2 : ∀ b o, h₀.get? b = some o → (h'.push (kxs_mw "ValueError.__init__" a)).get? b = some o := fun b o e => Heap.get?_push_of_some _ (k' b o e)
  have hmw : (h'.push (kxs_mw "ValueError.__init__" a)).get? h'.objs.size = some (kxs_mw "ValueError.__init__" a) := Heap.get?_push_at rfl rfl
  generalize (h'.push (kxs_mw "ValueError.__init__" a)) = h2 at k2 hmw ⊢
  generalize h'.objs.size = um at hmw ⊢
  refine kxs_callWith (i := "ValueError.__init__") (x := a) rfl (evalArgs_plain ?_)
  refine Calls.spliced_cons ?_
  rw [if_neg (by decide)]
  refine Calls.Constant_str ?_
  refine Calls.spliced_nil ⟨hmw, ?_⟩
  have hC2 : h2.get? C = some (excClassObj nm qn C N bs bm true sn sub ab col dd k0 k1 k2' k3 k5 "ValueError.__new__") := kin k2 _ _ hC
  have he2 : h2.get? a = some ({ cls := .ref C, dict := none, data := .fields #[.ref t1, .none, .none, .none, .bool false, .none] } : Obj) := k2 _ _ hea
  refine wpAny_call (codeAny_of_tree ?_)
  show wpAny _ _ (callAny (.ref um) ⟨[_], []⟩) _ _ _
  simp only [callAny]
  refine wpAny_bind (wpAny_load hmw ?_)
  simp only [kxs_mw, show (Value.type "method-wrapper" == Value.type "method" || Value.type "method-wrapper" == Value.type "builtin_function_or_method" || Value.type "method-wrapper" == Value.type "method-wrapper") = true by decide, if_true]
  refine KFB.if_so (by decide) ?_
  refine wpAny_bind (check_bound_init PySem.F.excBase_ValueError.toExcCallFacts hC2 he2 rfl ?_)
  refine wpAny_bind (wpAny_pure (wpAny_pure ?_))
  refine ⟨plainId_quiet PySem.F.excBase_ValueError.init.plain _, codeAny_builtin PySem.F.excBase_ValueError.initEntry ?_⟩
  refine exc_init_tree (cls := .ref C) (t0 := t1) (dv := none) (c2 := .none) (c3 := .none) (b4 := .bool false) he2 (by rw [sizeLine_eq]; exact Nat.le_of_ble_eq_true rfl) fun h3 k3 hx3 ht3 => ?_
  have I3 : ∀ tk, Inv X [] [some (.ref a), some v] H { s with heap := h3, toks := tk } := fun tk => by
    have J := (I.kept (t' := tk) k2).write (t' := tk) (x := a) (e := a) (o := exo a C none) (by rw [ea]; exact True.intro) (.inl rfl) k3 ⟨_, hx3⟩ (exo_ok hx3)
    have eu : upd H a (exo a C none) = H := by
      funext b
      by_cases hb : b = a
      · rw [hb, upd_same, ea]
      · rw [upd_ne hb]
    rw [eu] at J
    exact J
  have J3 := I3 (s.toks + ([(("self" : Str), Value.ref a), (("line" : Str), u)] : List (Str × Value)).length + 1 + 1)
  refine wpAt_of_wpAny ?_
  subst hX
  refine wpAny_mono ((pss_one (ps_ost (X := (supCx P w K mg base A outer s H E ["self", "line"] "InvalidLine.__init__" (defScope s_InvalidLine___init__) fI (.ref cda) cc).nox) (f := "line") (pv 0) (pv 1))).run [] _ [some (.ref a), some v] H { nx := fun _ H' => Q .non H', rt := fun _ _ => False } (J3.wish _) ?_) (fun f s' hs => ?_) fun e s' hs => hs.elim
  · exact ⟨v, rfl, .ref a, rfl, a, C, rfl, T.ex, hno, .inl ⟨ea, fun dx n ne => hq dx n ne⟩⟩
  · cases f with
    | next =>
      obtain ⟨σ', H', J, q⟩ := hs
      exact fin J.unwish q
    | ret u =>
      obtain ⟨_, _, _, _, _, q⟩ := hs
      exact q.elim
    | brk =>
      obtain ⟨_, _, _, q⟩ := hs
      exact q.elim
    | cont =>
      obtain ⟨_, _, _, q⟩ := hs
      exact q.elim
end

/-! ### InvalidLine.__init__, called while an exception is handled -/
section
open PySem.W PySem.Calls
variable {P : Program} {w : World} {K : PySem.W.Frag} {mg : Str → Option Value} {base : Heap}
set_option maxHeartbeats 4000000 in
theorem okH_supinit {C fI cc cda : Addr} {fd : FuncData} (T : SupC P K C fI "InvalidLine.__init__" s_InvalidLine___init__ fd cc cda) (hmg : mg "super" = none) (hno : PySem.W.findIn K (.ref C) "line" = some none) :
    L2H.FnH P w K mg base CX0 2 fI fd ["self", "line"] (SpIL C "line") := by
  obtain ⟨oc, od, kV, doc, pm, an, ct, osl, rfl, lk⟩ := T.fn
  obtain ⟨ccl, cdd, vsc, ccs, file, tf, hcode, hvs, hfile⟩ := T.code
  obtain ⟨cl, cld, csl, hcl⟩ := T.cell
  obtain ⟨cdD, hD⟩ := T.cls
  refine ⟨fun vs H Q E ⟨a, v, e, _⟩ => by rw [e]; rfl, fun A outer s H args us vs Q E p hr hot hpin e0 hb r hsp => ?_⟩
  obtain ⟨a, v, rfl, ea, hq⟩ := hsp
  obtain ⟨u, rfl, ru⟩ : ∃ u, us = [.ref a, u] ∧ RelV v u := by
    cases r with
    | cons r1 r2 =>
      cases r2 with
      | cons r3 r4 =>
        cases r4
        cases r1
        exact ⟨_, rfl, r3⟩
  have KX : K.In s.heap := e0.mod.kin.keeps fun b o e => (e0.bs b o e).1
  have lim : s.heap.NoLimit := e0.mod.nolimit.keeps fun b o e => (e0.bs b o e).1
  have kbase : ∀ {b : Addr} {o : Obj}, K.lookup b = some o → base.get? b = some o := fun {b o} e => e0.mod.kin b o e
  refine ks_codeAny_call_defAt (fd := ksFn "__init__" "InvalidLine.__init__" (defArgs s_InvalidLine___init__) (defBody s_InvalidLine___init__) (defScope s_InvalidLine___init__) .none kV doc pm an (.ref cda) ct cc) (body := defBody s_InvalidLine___init__) (binds := [(("self" : Str), Value.ref a), (("line" : Str), u)]) hr.depth (KX _ _ lk) rfl lim (PySem.W.codeRec_of KX T.cd) rfl hb (show ∀ x ∈ (defScope s_InvalidLine___init__).names, x.2 ≠ .cell by decide +kernel) (fun y hy => ?_) (fun h₀ hns kp => ?_) rfl rfl rfl
  · rcases List.mem_cons.mp hy with rfl | hy
    · rfl
    · rw [List.mem_singleton.mp hy]; rfl
  generalize hX : ({ supCx P w K mg base A outer s H E ["self", "line"] "InvalidLine.__init__" (defScope s_InvalidLine___init__) fI (.ref cda) cc with calm := false, pn := [p] } : Cx) = X
  have I : Inv X [] [some (.ref a), some v] H { s with heap := h₀, toks := s.toks + ([(("self" : Str), Value.ref a), (("line" : Str), u)] : List (Str × Value)).length } := by
    subst hX
    have cl1 : ∀ {x : Str} {c : Addr}, List.lookup x [(("__class__" : Str), cc)] = some c → x = "__class__" ∧ c = cc := fun {x c} e => by
      rw [List.lookup_cons] at e
      cases z : (x == ("__class__" : Str)) with
      | true => rw [z] at e; cases e; exact ⟨eq_of_beq z, rfl⟩
      | false => rw [z] at e; cases e
    refine ⟨⟨e0.mod, rfl, rfl, rfl, Nat.le_refl _, fun x y c e1 e2 => (cl1 e1).1.trans (cl1 e2).1.symm, fun x hx => ?_, fun x c z _ => (nomatch (show false = true from z)), (fun z => Bool.noConfusion (show false = true from z)), Around.frames_deeper e0.frames, .inr ⟨rfl, rfl⟩, fun b z => (nomatch (show b ∈ ([] : List Addr) from z)), e0.bs, e0.bsz, fun b _ _ z => (nomatch (show b ∈ ([] : List Addr) from z)), fun b z => (nomatch (show b ∈ ([] : List Addr) from z)), e0.funs, e0.frf⟩,
      rfl, e0.bare, Un.kept kp, ⟨_, hns, fun i x w' e1 e2 e3 => ?_⟩, fun x c e => ?_, e0.hok.fresh (Nat.le_refl _), fun x c e => ?_, fun q hq => (by
      have eq : q = p := by simpa using (show q ∈ [p] ++ ([] : List (Addr × Obj)) from hq)
      rw [eq]
      exact ⟨kp p.1 p.2 hpin.get, hpin.free, Nat.ne_of_lt (Heap.lt_size hpin.get), hpin.nofs, hpin.nocell⟩), e0.hok.kept kp, rfl⟩
    · have nm : ∀ y ∈ (defScope s_InvalidLine___init__).names, y.2 ≠ .cell ∧ (y.2 = .free → y.1 = ("__class__" : Str)) := by decide +kernel
      have hx : (defScope s_InvalidLine___init__).names.lookup x = some .cell ∨ (defScope s_InvalidLine___init__).names.lookup x = some .free := hx
      rcases hx with hx | hx
      · exact absurd rfl (nm _ (PySem.mem_of_lookup hx)).1
      · have e : x = ("__class__" : Str) := (nm _ (PySem.mem_of_lookup hx)).2 rfl
        subst e
        exact ⟨cc, rfl⟩
    · have e1 : ([("self" : Str), "line"] : List Str)[i]? = some x := e1
      have e2 : ([some (.ref a), some v] : List (Option V))[i]? = some (some w') := e2
      rcases i with _ | _ | i
      · cases e1
        cases e2
        exact ⟨.ref a, rfl, .inl ⟨rfl, rfl⟩⟩
      · cases e1
        cases e2
        exact ⟨u, ru, .inl ⟨rfl, rfl⟩⟩
      · cases e1
    · obtain ⟨_, rfl⟩ := cl1 e
      exact ⟨some (.ref C), ⟨_, kp _ _ (KX _ _ hcl), rfl⟩⟩
    · obtain ⟨_, rfl⟩ := cl1 e
      exact (e0.bs _ _ (kbase hcl)).2
  have hXA : X.A = A.deeper (ksEnv "InvalidLine.__init__" (defScope s_InvalidLine___init__) s.heap.objs.size fI (.ref cda) cc) := by subst hX; rfl
  have fin : ∀ {σ' : L2.St} {H' : Hp} {s' : Shared}, Inv X [] σ' H' s' → Q .non H' → CE outer P w H s Q .none s' := fun {σ' H' s'} J q => by
    subst hX
    exact ⟨.non, H', J.os, J.bare, J.base, J.hok, rfl, q⟩
  have room : X.A.units + 64 < cLine ∧ X.A.depth < recursionLimit := by
    rw [hXA]
    exact ⟨by have := (hr.deeper (k := 1) (ksEnv "InvalidLine.__init__" (defScope s_InvalidLine___init__) s.heap.objs.size fI (.ref cda) cc)).un; omega, (hr.deeper (k := 1) _).depth⟩
  obtain ⟨oD, hD1, hD2⟩ : ∃ oD, K.lookup C = some oD ∧ oD.data = .cls cdD := by
    unfold PySem.W.clsIn at hD
    split at hD
    · rename_i c d cd' sl ho
      cases hD
      exact ⟨_, ho, rfl⟩
    · cases hD
  obtain ⟨nm, qn, N, bs, bm, sn, sub, ab, col, dd, k0, k1, k2', k3, k5, hC, hbm⟩ := T.ex.cls
  have kin : ∀ {h : Heap}, (∀ b o, h₀.get? b = some o → h.get? b = some o) → K.In h := fun {h} k b o e => k _ _ (kp _ _ (KX b o e))
  obtain ⟨t1, hea⟩ := exo_at I.hok ea
  have hea : h₀.get? a = some ({ cls := .ref C, dict := none, data := .fields #[.ref t1, .none, .none, .none, .bool false, .none] } : Obj) := hea
  have KX0 := kin (h := h₀) fun _ _ e => e
  have inst : ∀ {h : Heap}, (∀ b o, h₀.get? b = some o → h.get? b = some o) → PySem.W.InstAt h a { cls := .ref C, dict := none, data := .fields #[.ref t1, .none, .none, .none, .bool false, .none] } C none := fun {h} k => ⟨k _ _ hea, rfl, rfl, trivial⟩
  refine ks_wpAt_execs_cons (ks_wpAt_Expr_any (ks_wpAt_MethodCall (ks_wpAt_super_base (fd := ksFn "__init__" "InvalidLine.__init__" (defArgs s_InvalidLine___init__) (defBody s_InvalidLine___init__) (defScope s_InvalidLine___init__) .none kV doc pm an (.ref cda) ct cc) (vs := vsc) (f := fI) (cc := cda) rfl rfl (by decide) rfl (kp _ _ (KX _ _ lk)) rfl rfl rfl (kp _ _ (KX _ _ hcode)) rfl hvs hfile T.top ?_)))
  obtain ⟨mb, b1, b2⟩ := e0.mod.blt
  have kb : ∀ b o, base.get? b = some o → h₀.get? b = some o := fun b o e => kp b o (e0.bs b o e).1
  refine ks_loadName_global rfl rfl (Calls.loadGlobal_builtin (e0.mod.glob.keeps kb) hmg (b1.keeps kb) ((b2 "super" (by decide)).trans (by decide +kernel)) ⟨rfl, ?_⟩)
  refine wpAny_loadName_free rfl rfl rfl ⟨_, kp _ _ (KX _ _ hcl), rfl⟩ ?_
  refine wpAny_loadName_local rfl rfl hns rfl ?_
  refine ks_wpAny_isType_cls (kp _ _ (KX _ _ hD1)) hD2 ⟨rfl, ?_⟩
  refine ks_wpAny_call_super (kp _ _ (KX _ _ hD1)) hD2 hea rfl (fun c z => nomatch z) (looks_mroIn KX0 T.sub) fun h' e' k' => ?_
  have hsup : PySem.W.alongIn K "__init__" ((cdD.mro.dropWhile (· != .ref C)).drop 1) = some (some (.builtin "ValueError.__init__")) := by
    have z := T.sup
    unfold ks_superIn at z
    rw [hD] at z
    exact z
  have X1 := kin k'
  refine kxs_getMethod kxs_ValueError e' (looks_opaque X1 T.any) (l₀ := cdD.mro) (fun A Q E s k q => wpAny_bind ((looks_clsIn X1 hD) A _ E s k (wpAny_pure q))) rfl X1 hsup ((inst k').type.andThen (looks_subIn X1 T.ve)) (ks_ne X1 (inst k') hD) (by decide) ?_
  have k2 : ∀ b o, h₀.get? b = some o → (h'.push (kxs_mw "ValueError.__init__" a)).get? b = some o := fun b o e => Heap.get?_push_of_some _ (k' b o e)
  have hmw : (h'.push (kxs_mw "ValueError.__init__" a)).get? h'.objs.size = some (kxs_mw "ValueError.__init__" a) := Heap.get?_push_at rfl rfl
  generalize (h'.push (kxs_mw "ValueError.__init__" a)) = h2 at k2 hmw ⊢
  generalize h'.objs.size = um at hmw ⊢
  refine kxs_callWith (i := "ValueError.__init__") (x := a) rfl (evalArgs_plain ?_)
  refine Calls.spliced_cons ?_
  rw [if_neg (by decide)]
  refine Calls.Constant_str ?_
  refine Calls.spliced_nil ⟨hmw, ?_⟩
  have hC2 : h2.get? C = some (excClassObj nm qn C N bs bm true sn sub ab col dd k0 k1 k2' k3 k5 "ValueError.__new__") := kin k2 _ _ hC
  have he2 : h2.get? a = some ({ cls := .ref C, dict := none, data := .fields #[.ref t1, .none, .none, .none, .bool false, .none] } : Obj) := k2 _ _ hea
  refine wpAny_call (codeAny_of_tree ?_)
  show wpAny _ _ (callAny (.ref um) ⟨[_], []⟩) _ _ _
  simp only [callAny]
  refine wpAny_bind (wpAny_load hmw ?_)
  simp only [kxs_mw, show (Value.type "method-wrapper" == Value.type "method" || Value.type "method-wrapper" == Value.type "builtin_function_or_method" || Value.type "method-wrapper" == Value.type "method-wrapper") = true by decide, if_true]
  refine KFB.if_so (by decide) ?_
  refine wpAny_bind (check_bound_init PySem.F.excBase_ValueError.toExcCallFacts hC2 he2 rfl ?_)
  refine wpAny_bind (wpAny_pure (wpAny_pure ?_))
  refine ⟨plainId_quiet PySem.F.excBase_ValueError.init.plain _, codeAny_builtin PySem.F.excBase_ValueError.initEntry ?_⟩
  refine exc_init_tree (cls := .ref C) (t0 := t1) (dv := none) (c2 := .none) (c3 := .none) (b4 := .bool false) he2 (by rw [sizeLine_eq]; exact Nat.le_of_ble_eq_true rfl) fun h3 k3 hx3 ht3 => ?_
  have I3 : ∀ tk, Inv X [] [some (.ref a), some v] H { s with heap := h3, toks := tk } := fun tk => by
    have J := (I.kept (t' := tk) k2).write (t' := tk) (x := a) (e := a) (o := exo a C none) (by rw [ea]; exact True.intro) (.inl rfl) k3 ⟨_, hx3⟩ (exo_ok hx3)
    have eu : upd H a (exo a C none) = H := by
      funext b
      by_cases hb : b = a
      · rw [hb, upd_same, ea]
      · rw [upd_ne hb]
    rw [eu] at J
    exact J
  have J3 := I3 (s.toks + ([(("self" : Str), Value.ref a), (("line" : Str), u)] : List (Str × Value)).length + 1 + 1)
  refine wpAt_of_wpAny ?_
  subst hX
  refine wpAny_mono ((pss_one (ps_ost (X := ({ supCx P w K mg base A outer s H E ["self", "line"] "InvalidLine.__init__" (defScope s_InvalidLine___init__) fI (.ref cda) cc with calm := false, pn := [p] } : Cx).nox) (f := "line") (pv 0) (pv 1))).run [] _ [some (.ref a), some v] H { nx := fun _ H' => Q .non H', rt := fun _ _ => False } (J3.wish _) ?_) (fun f s' hs => ?_) fun e s' hs => hs.elim
  · exact ⟨v, rfl, .ref a, rfl, a, C, rfl, T.ex, hno, .inl ⟨ea, fun dx n ne => hq dx n ne⟩⟩
  · cases f with
    | next =>
      obtain ⟨σ', H', J, q⟩ := hs
      exact fin J.unwish q
    | ret u =>
      obtain ⟨_, _, _, _, _, q⟩ := hs
      exact q.elim
    | brk =>
      obtain ⟨_, _, _, q⟩ := hs
      exact q.elim
    | cont =>
      obtain ⟨_, _, _, q⟩ := hs
      exact q.elim
end

-- import HandS.SortInts
-- import PyProof.TupleOfSeq
-- import HandS.Conv
/-! ### sorted(t) of a tuple of ints; tuple(range(n)) -/
section
variable {prog : Program} {w : World} {A : Around} {E : Value → Shared → Prop} {s : Shared}
open SrtO in
theorem sorted_tupI {l : Addr} {vs : List Value} {ns : List Int} {Q : Value → Shared → Prop} (hl : IsTup s.heap l vs.toArray) (hI : IntsAre vs ns) (hz : vs.length ≤ sizeLine)
    (h : ∀ (out : List Value) (h1 h' : Heap) (a : Addr) (n : Nat), Srtd ltIv out → Stb ltIv out vs → (∀ b o, s.heap.get? b = some o → h1.get? b = some o) → (∀ b o, h1.get? b = some o → h'.get? b = some o) → h1.objs.size ≤ a → h'.get? a = some (seqObj "list" out.toArray n) → Q (.ref a) { s with heap := h' }) :
    wpAny (model prog w) A (call (.builtin "sorted") [.ref l]) Q E s := by
  obtain ⟨o, ho, hc, n0, hd⟩ := hl
  refine Calls.call_function_entry PyProof.Rows.kind_sorted PyProof.Rows.plain_sorted PyProof.Rows.entry_sorted (PyProof.Rows.args_sorted1 _) ?_
  unfold Builtin.«sorted»
  refine wpAny_bind (m := checkCount "sorted" 1 1 _) (wpAny_pure ?_)
  refine wpAny_bind (wpAny_collect_seq l (.inr rfl) ho hc hd (hsz := by simpa using hz) fun h' hkp => ?_)
  rw [show vs.toArray.toList = vs by simp]
  refine wpAny_bind (wpAny_newList ?_ hz)
  have hoL : (h'.push (seqObj "list" vs.toArray 0)).get? h'.objs.size = some (seqObj "list" vs.toArray 0) := Heap.get?_push_size _ rfl
  show wpAny _ _ _ _ _ { s with heap := h'.push (seqObj "list" vs.toArray 0) }
  refine wpAny_bind (wpAny_holding (wpAny_call_entry PyProof.Rows.slot_list_sort ⟨_, hoL, rfl⟩ PyProof.Rows.entry_list_sort (list_sort_ord swo_int hoL hz (fun h2 => ints_sortable hI h2) fun out hs hb => ⟨_, rfl, ?_⟩) (PyProof.Rows.args_list_sort _)))
  obtain ⟨n, hn⟩ := PyProof.Rows.sortedHeap_at (vs := vs) (out := out.toArray) hoL
  refine wpAny_pure ⟨_, rfl, h out h' _ _ n hs hb hkp (fun b o q => ?_) (Nat.le_refl _) hn⟩
  have hlt : b < h'.objs.size := Heap.lt_size q
  rw [PyProof.Rows.sortedHeap_old (Nat.ne_of_lt hlt) (by rw [PyProof.Rows.size_push']; exact Nat.lt_succ_of_lt hlt)]
  exact Heap.get?_push_of_some _ q
end
def rSortedTI (K : PySem.W.Frag) : List V → Hp → VK → Prop := fun vs H Q => ∃ (a : Addr) (ns : List Int), vs = [V.ref a] ∧ SqT K H a (ns.map V.int) ∧
  ∀ (ns' : List Int) (p : Addr), ns'.Perm ns → ns'.Pairwise (· ≤ ·) → H p = none → Q (.ref p) (upd H p (.lst (ns'.map V.int)))
theorem cr_sortedTI {X : Cx} : CallR X (.builtin "sorted") (rSortedTI X.K) := by
  intro pins s σ H vs us Q I r h
  obtain ⟨a, ns, rfl, hs, q⟩ := h
  obtain ⟨its, rv, hl, hz⟩ := I.tuple hs
  rw [Vals.ref1 r]
  have hi := rv.ints
  refine sorted_tupI hl hi (by rw [← rv.length]; exact hz) fun out h1 h' p n k1 k2 kp kp' hge hn => ?_
  obtain ⟨j1, j2, j3⟩ := SrtO.ints_out hi k1 k2
  have hlen : ((out.map SrtO.iv).map V.int).length ≤ sizeLine := by
    rw [List.length_map, j2.length_eq]
    rw [List.length_map] at hz
    exact hz
  have I1 : Inv X pins σ H { s with heap := h1 } := I.kept (t' := s.toks) kp
  have hne : H p = none := I1.hok.fresh hge
  exact ⟨.ref _, upd H p (.lst ((out.map SrtO.iv).map V.int)), I1.laid (t' := s.toks) (h' := h') kp' hge ⟨hlen, out, n, vals_of_ints j1, hn⟩, rfl, q _ _ j2 j3 hne⟩
section
variable {K : PySem.W.Frag} {φ : Addr → Prop} {J : Hp → Prop} {ρ : List (Option D)} {te : TE}
theorem ev_sortedTI {ns : List Int} (ha : EvD K φ J te ρ (.tup (ns.map D.int))) : EvP K φ J (tCB (rSortedTI K) (tCons te tNil)) ρ (fun z => ∃ ns' : List Int, z = .lst (ns'.map D.int) ∧ ns'.Perm ns ∧ ns'.Pairwise (· ≤ ·)) := ev_cbD (ea_cons ha ea_nil) fun H vs f r Q q => by
  obtain ⟨v, rfl, r1⟩ := r.one
  obtain ⟨a, rfl, h⟩ := rep_tupI r1
  exact ⟨a, ns, rfl, h, fun ns' p hp hs hn => q _ _ _ (same_new hn) ⟨ns', rfl, hp, hs⟩ ⟨p, _, rfl, .inl ⟨f p hn, .inl upd_same⟩, Reps.of_ints⟩⟩
/-- tuple(range(n)) -/
theorem ev_tupRg1 {j : Int} {tb : TE} (hb : EvD K φ J tb ρ (.int j)) (hr : RgOk 0 j) : EvD K φ J (tTupRg (tRg1 tb)) ρ (.tup (rangeD 0 (j - 0).toNat)) := fun σ H A Q q =>
  hb σ H A _ fun w y H2 b2 A2 e2 r2 => by
    subst e2
    exact ⟨j, r2, hr, fun p hp => q _ _ _ (b2.trans (But.of (same_new hp))) (A2.same (same_new hp)) rfl ⟨p, _, rfl, .inl ⟨A2.fr p hp, .inl upd_same⟩, reps_rg⟩⟩
end

-- import HandS.FromBytesMap
-- import HandS.SortKw
-- import HandS.TupLe
-- import KE.KMinKey
/-! ### min(xs, key=lambda y: body), the key a pair of ints: one of the items -/
section
open LamX FbM
section
variable {X : Cx} {pins : List (Addr × Obj)} {σ : L2.St} {H HZ : Hp} {s s1 : Shared}
/-- the lambda called from within a built-in of the maker -/
theorem lam_turn {params : Arguments} {body : Expr} {scope : Scope} {k ix : Nat} {x : Str} {tb : TE} {v : V} {u pm ctv : Value} {f c' : Addr} {Q : VK} (I : Inv X pins σ H s) (L : LamS1 X.env.scope scope x) (hXN : X.N.Nodup) (hx : X.N[ix]? = some x)
    (hf : s.heap.get? f = some (PySem.W.kla_obj "<lambda>" (X.env.qual ++ "<lambda>") params body scope (cloFrom X.env.cells scope.names []) pm c' ctv))
    (hbind : ∀ u, bindArgs (PySem.W.kla_fn "<lambda>" (X.env.qual ++ "<lambda>") params body scope (cloFrom X.env.cells scope.names []) pm (.ref c') ctv) ⟨[u], []⟩ = pure [(x, u)])
    (hr : Room (k + 1) X.A.in1)
    (hbody : ∀ (A : Around) (outer : List Env) (s : Shared) (H : Hp), Room k (A.deeper (lamEnv X scope s.heap.objs.size f c')) → PE (lamCx X A outer s H C8.E0 scope f c').nox body tb)
    (hc : H c' = some (CodeO c' (X.env.qual ++ "<lambda>"))) (rv : RelV v u) (ht : tb (σ.set ix (some v)) H Q) : wpAny (model X.prog X.w) X.A.in1 (call (.ref f) [u]) (EP X pins σ Q) (fun _ _ => False) s := by
  obtain ⟨⟨oc, vs, t, hoc, hdc, hvc⟩, _, _⟩ := I.hok c' _ hc
  have rc : codeAny (model X.prog X.w) X.A.in1 (.call (.ref f) ⟨[u], []⟩) (CR C8.CX0 X.stack X.prog X.w H s Q C8.E0) s := by
    refine PySem.W.kla_callFunE hr.depth hf rfl L.co L.gen rfl ⟨c', oc, vs, t, rfl, hoc, hdc, hvc⟩ ?_
    rw [hbind]
    refine wpAny_pure (wpAny_newFunctionEnv (fun y hy => (L.own y hy).1) (fun y hy => by rw [List.mem_singleton.mp hy]; exact L.par) (fun h₁ hns hsb => ⟨I.nolimit.fresh _ hsb, ?_⟩) L.kind)
    show codeAny _ _ (.expr body (lamEnv X scope s.heap.objs.size f c')) _ _
    have kp : ∀ b o, s.heap.get? b = some o → h₁.get? b = some o := fun b o e => hsb.extBut b o (Nat.ne_of_lt (Heap.lt_size e)) (Heap.get?_push_of_some _ e)
    have J : Inv (lamCx X X.A.in1 X.stack s H C8.E0 scope f c') [] (σ.set ix (some v)) H { s with heap := h₁, toks := s.toks + ([(x, u)] : List (Str × Value)).length } :=
      lam_start1 I L hXN hx rv I.env0.in1 hr.hd Un.refl hns kp
    refine PySem.W.kla_codeExpr (wpAny_mono ((hbody _ _ s H (hr.deeper _)).run [] _ _ H Q (J.wish _) ht) (fun v s' hq => ?_) fun e s' hq => hq.elim)
    obtain ⟨w', H', J', rv, q⟩ := hq
    exact ⟨w', H', J'.os, J'.bare, J'.base, J'.hok, rv, q⟩
  refine wpAny_call (codeAny_mono rc fun r s' hq => ?_)
  cases r with
  | error e => exact (show False from hq).elim
  | ok fl =>
    cases fl with
    | ret u => exact I.after hq
    | next => exact False.elim hq
    | brk => exact False.elim hq
    | cont => exact False.elim hq
/-- a pair of ints -/
def KeyP (H : Hp) (w : V) : Prop := ∃ (t : Addr) (a b : Int), w = .ref t ∧ H t = some (.tup [.int a, .int b])
theorem lt_keys {A : Around} {t1 t2 : Addr} {a b c d : Int} (I : Inv X pins σ H s) (hu : A.units < cLine) (h1 : H t1 = some (.tup [.int a, .int b])) (h2 : H t2 = some (.tup [.int c, .int d])) : ∃ k, Ob.RcOp .Lt A s (.ref t1) (.ref t2) k := by
  obtain ⟨its, r1, p1, _⟩ := I.tuple (X := X) (a := t1) (xs := [.int a, .int b]) (.inl (.inl h1))
  obtain ⟨its2, r2, p2, _⟩ := I.tuple (X := X) (a := t2) (xs := [.int c, .int d]) (.inl (.inl h2))
  have i1 : PyProof.Rows.IntsAre its [a, b] := Vals.ints r1
  have i2 : PyProof.Rows.IntsAre its2 [c, d] := Vals.ints r2
  have e1 : its.toArray.size = 2 := by rw [List.size_toArray]; exact i1.length
  have e2 : its2.toArray.size = 2 := by rw [List.size_toArray]; exact i2.length
  have at1 : ∀ j (h1 : j < its.toArray.size), ∃ t, its.toArray[j] = .int ([a, b].getD j 0) t := fun j h1 => PyProof.Rows.IntsAre.int_at i1 _ _ (by simp at h1; simp [h1])
  have at2 : ∀ j (h1 : j < its2.toArray.size), ∃ t, its2.toArray[j] = .int ([c, d].getD j 0) t := fun j h1 => PyProof.Rows.IntsAre.int_at i2 _ _ (by simp at h1; simp [h1])
  exact ⟨_, Ob.RcOp.tuples_lt (A := A) (s := s) (e := fun j => [a, b].getD j 0 == [c, d].getD j 0) (r := fun j => decide ([a, b].getD j 0 < [c, d].getD j 0)) p1 p2 hu (fun j h1 h2 => by
    obtain ⟨t, et⟩ := at1 j h1
    obtain ⟨t', et'⟩ := at2 j h2
    rw [et, et']
    exact SeqAt.EqAt.int_int _ _ _ _) (fun j h1 h2 _ => by
    obtain ⟨t, et⟩ := at1 j h1
    obtain ⟨t', et'⟩ := at2 j h2
    rw [et, et']
    exact Ob.RcOp.lt_int _ _ _ _)⟩
theorem seq_upd {h : Heap} {S : Addr} {vs : Array Value} {c : Nat} (e : h.get? S = some (seqObj "list" vs c)) (ws : Array Value) : ∃ c2, (h.update S (Obj.mapSeq fun _ => ws)).get? S = some (seqObj "list" ws c2) := ⟨_, get?_update_seq e fun _ => ws⟩
theorem sql_same {K : PySem.W.Frag} {H H' : Hp} {l : Addr} {vs : List V} (h : SqL K H l vs) (s : Same H H') : SqL K H' l vs := h.elim (fun z => .inl (z.elim (fun h => .inl (s _ _ h)) fun ⟨o, h⟩ => .inr ⟨o, s _ _ h⟩)) .inr
theorem vals_getU : ∀ {xs : List V} {us : List Value} {i : Nat} {u : Value}, Vals xs us → us[i]? = some u → ∃ x, xs[i]? = some x ∧ RelV x u := fun {xs us i u} r e => by
  obtain ⟨h, _⟩ := List.getElem?_eq_some_iff.mp e
  have hl := r.length
  obtain ⟨w, e1, r1⟩ := r.get (List.getElem?_eq_getElem (show i < xs.length by omega))
  rw [e] at e1
  cases e1
  exact ⟨_, List.getElem?_eq_getElem (show i < xs.length by omega), r1⟩
theorem minkey_loop {f l it S : Addr} {fo : Obj} {vs : List V} {Q : VK} {H1 : Hp} {R : Result → Shared → Prop} (hh : X.A.in1.handled = none) (hu : X.A.in1.units < cLine)
    (turn : ∀ (s : Shared) (H : Hp) (v : V) (u : Value) (pins' : List (Addr × Obj)), Inv X pins' σ H s → s.heap.get? f = some fo → Same H1 H → v ∈ vs → RelV v u → wpAny (model X.prog X.w) X.A.in1 (call (.ref f) [u]) (EP X pins' σ fun w H' => Same H H' ∧ KeyP H' w) (fun _ _ => False) s)
    (hl : SqL X.K H1 l vs) (hq : ∀ v H', v ∈ vs → Same H1 H' → Q v H') (hR : ∀ u s', EP X pins σ Q u s' → R (.ok (.ret u)) s')
    (rf : Rec X pins f) (rS : Rec X pins S) (ri : Rec X pins it) (nfS : f ≠ S) (nfi : f ≠ it) (nSi : S ≠ it) (nli : l ≠ it) (fnc : ∀ v, fo.data ≠ .cell v) (nff : f ∉ X.fs) (nSf : S ∉ X.fs) (nif : it ∉ X.fs) :
    ∀ (r j : Nat) (s : Shared) (H : Hp) (ub : Value) (vb : V) (tb : Addr) (a b : Int) (c : Nat), vs.length - (j + 1) = r → j + 1 ≤ vs.length → Inv X pins σ H s → Same H1 H → H f = none → H S = none → H it = none →
      s.heap.get? f = some fo → s.heap.get? S = some (seqObj "list" #[ub, .ref tb] c) → s.heap.IsListIter it l (j + 1) → vb ∈ vs → RelV vb ub → H tb = some (.tup [.int a, .int b]) →
      codeAny (model X.prog X.w) X.A (.builtin "min.loop" ⟨[.ref it, .ref f, .ref S], []⟩) R s := by
  have hname : (toString "min" ++ toString ".loop" : String) = "min.loop" := by decide
  intro r
  induction r with
  | zero =>
    intro j s H ub vb tb a b c hr hj I sm nf nS ni hf hS hit hvb rb htb
    have hin : j + 1 = vs.length := by omega
    obtain ⟨its, rv, pl, _⟩ := I.list (sql_same hl sm)
    have hsz : its.toArray.size = vs.length := by rw [List.size_toArray]; exact rv.length.symm
    have W := Walks.list (prog := X.prog) (w := X.w) (A := X.A.in1) hh it l nli its.toArray
    refine codeAny_builtin PySem.F.entry_min_loop ?_
    rw [Around.under_plainId PySem.F.plain_min_loop _]
    show wpAny _ X.A.in1 (seqItems? (.ref S) >>= _) _ _ _
    refine wpAny_bind (wpAny_seqItems hS rfl ?_)
    show wpAny _ X.A.in1 (tryCatch (pyNext (.ref it)) _ >>= _) _ _ _
    refine wpAny_bind (wpAny_tryCatch (W.done _ _ _ ⟨by rw [hsz, ← hin]; exact hit, pl.isList⟩ fun h' tk' hk' => ?_))
    have hk2 : ∀ b o, b ≠ it → s.heap.get? b = some o → h'.get? b = some o := fun b o n e => hk' b o (by simpa using n) e
    have I1 := ri.turn (t' := tk') I ni hk2
    have hS' := hk2 S _ nSi hS
    show wpAny _ X.A.in1 (updateSeq S (fun _ => #[]) >>= _) _ _ _
    refine wpAny_bind ?_
    refine wpAny_updateSeq hS' rfl (wpAny_bind (wpAny_letGo (wpAny_pure ?_)))
    refine hR ub _ ⟨vb, H, rS.turn (t' := tk') I1 nS fun b o n e => ?_, rb, hq vb H hvb sm⟩
    exact (Heap.get?_update_ne _ _ _ _ n).trans e
  | succ r ih =>
    intro j s H ub vb tb a b c hr hj I sm nf nS ni hf hS hit hvb rb htb
    have hlt : j + 1 < vs.length := by omega
    obtain ⟨its, rv, pl, _⟩ := I.list (sql_same hl sm)
    have hsz : its.toArray.size = vs.length := by rw [List.size_toArray]; exact rv.length.symm
    have W := Walks.list (prog := X.prog) (w := X.w) (A := X.A.in1) hh it l nli its.toArray
    refine codeAny_builtin PySem.F.entry_min_loop ?_
    rw [Around.under_plainId PySem.F.plain_min_loop _]
    show wpAny _ X.A.in1 (seqItems? (.ref S) >>= _) _ _ _
    refine wpAny_bind (wpAny_seqItems hS rfl ?_)
    show wpAny _ X.A.in1 (tryCatch (pyNext (.ref it)) _ >>= _) _ _ _
    refine wpAny_bind (wpAny_tryCatch (W.item (j + 1) _ _ _ (by rw [hsz]; exact hlt) ⟨hit, pl.isList⟩ fun u h' tk' hP hst' hk' => ?_))
    have hk2 : ∀ b o, b ≠ it → s.heap.get? b = some o → h'.get? b = some o := fun b o n e => hk' b o (by simpa using n) e
    have hu1 : its[j + 1]? = some u := by simpa using hP
    obtain ⟨v, hv, ru⟩ := vals_getU rv hu1
    have hvm : v ∈ vs := List.mem_of_getElem? hv
    obtain ⟨oI, hoI, hoc, hod⟩ := id hst'.1
    have I1 := ri.turn (t' := tk') I ni hk2
    have hS' := hk2 S _ nSi hS
    have hf' := hk2 f _ nfi hf
    have I2 : Inv X ((f, fo) :: (S, seqObj "list" #[ub, .ref tb] c) :: (it, oI) :: pins) σ H _ := I1.pins_of fun q hq => by
      rcases List.mem_cons.mp hq with rfl | hq
      · exact ⟨hf', nf, rf.nl, nff, fnc⟩
      rcases List.mem_cons.mp hq with rfl | hq
      · exact ⟨hS', nS, rS.nl, nSf, fun v z => by cases z⟩
      rcases List.mem_cons.mp hq with rfl | hq
      · exact ⟨hoI, ni, ri.nl, nif, fun v z => by rw [hod] at z; cases z⟩
      · exact I1.pin q (List.mem_append_right _ hq)
    show wpAny _ X.A.in1 (tryCatch (holding [u] (call (.ref f) [u])) _ >>= _) _ _ _
    refine wpAny_bind (wpAny_tryCatch (wpAny_holding (wpAny_mono (turn _ H v u _ I2 hf' sm hvm ru) (fun x s2 he => ?_) fun _ _ hF => hF.elim)))
    obtain ⟨w, H2, I3, rw_, sm2, t2, a2, b2, rfl, ht2⟩ := he
    obtain rfl : x = Value.ref t2 := rw_
    have pf := I3.pin (f, fo) (List.mem_append_right _ (List.mem_cons_self))
    have pS := I3.pin (S, seqObj "list" #[ub, .ref tb] c) (List.mem_append_right _ (List.mem_cons_of_mem _ List.mem_cons_self))
    have pi := I3.pin (it, oI) (List.mem_append_right _ (List.mem_cons_of_mem _ (List.mem_cons_of_mem _ List.mem_cons_self)))
    have I4 : Inv X pins σ H2 s2 := I3.pins_of fun q hq => I3.pin q (List.mem_append_right _ (List.mem_cons_of_mem _ (List.mem_cons_of_mem _ (List.mem_cons_of_mem _ hq))))
    have hit2 : s2.heap.IsListIter it l (j + 1 + 1) := ⟨oI, pi.1, hoc, hod⟩
    obtain ⟨kk, rc⟩ := lt_keys (A := X.A.in1) I4 hu ht2 (sm2 _ _ htb)
    show wpAny _ X.A.in1 (tryCatch (holding [u, .ref t2] (richCompare .Lt (.ref t2) (.ref tb) >>= _)) _ >>= _) _ _ _
    refine wpAny_bind (wpAny_tryCatch (wpAny_holding (wpAny_bind (rc _ _ _ _ ?_))))
    refine wpAny_bind (wpAny_holding (wpAny_truthy_bool ?_))
    refine wpAny_bind (wpAny_letGo (wpAny_pure ?_))
    cases kk with
    | true =>
      obtain ⟨c2, hc2⟩ := seq_upd pS.1 #[u, .ref t2]
      simp only [if_true]
      refine wpAny_bind ?_
      refine wpAny_updateSeq pS.1 rfl (wpAny_bind (wpAny_letGo ?_))
      rw [hname]
      have kS : ∀ b o, b ≠ S → s2.heap.get? b = some o → (s2.heap.update S (Obj.mapSeq fun _ => #[u, .ref t2])).get? b = some o := fun b o n e => (Heap.get?_update_ne _ _ _ _ n).trans e
      exact wpAny_pure ⟨plainId_quiet PySem.F.plain_min_loop _, ih (j + 1) _ H2 u v t2 a2 b2 c2 (by omega) hlt (rS.turn (t' := s2.toks) I4 pS.2.1 kS) (sm.trans sm2) pf.2.1 pS.2.1 pi.2.1 (kS _ _ nfS pf.1) hc2 ⟨oI, kS _ _ nSi.symm pi.1, hoc, hod⟩ hvm ru ht2⟩
    | false =>
      simp only [Bool.false_eq_true, if_false]
      refine wpAny_bind (wpAny_letGo ?_)
      rw [hname]
      exact wpAny_pure ⟨plainId_quiet PySem.F.plain_min_loop _, ih (j + 1) _ H2 ub vb tb a b c (by omega) hlt I4 (sm.trans sm2) pf.2.1 pS.2.1 pi.2.1 pf.1 pS.1 hit2 hvb rb (sm2 _ _ htb)⟩
theorem minkey_run {f l : Addr} {fo : Obj} {vs : List V} {Q : VK} {E : Value → Shared → Prop} (I : Inv X pins σ H s) (hh : X.A.in1.handled = none) (hu : X.A.in1.units < cLine)
    (turn : ∀ (s : Shared) (H' : Hp) (v : V) (u : Value) (pins' : List (Addr × Obj)), Inv X pins' σ H' s → s.heap.get? f = some fo → Same H H' → v ∈ vs → RelV v u → wpAny (model X.prog X.w) X.A.in1 (call (.ref f) [u]) (EP X pins' σ fun w H'' => Same H' H'' ∧ KeyP H'' w) (fun _ _ => False) s)
    (hl : SqL X.K H l vs) (hne : 0 < vs.length) (hq : ∀ v H', v ∈ vs → Same H H' → Q v H') (rf : Rec X pins f) (hf : s.heap.get? f = some fo) (nf : H f = none) (fnc : ∀ v, fo.data ≠ .cell v) (nff : f ∉ X.fs) :
    wpAny (model X.prog X.w) X.A (call (.builtin "min") [.ref l] [(Str.ofString "key", .ref f)]) (EP X pins σ Q) E s := by
  have hname : (toString "min" ++ toString ".loop" : String) = "min.loop" := by decide
  obtain ⟨its, rv, pl, _⟩ := I.list hl
  have hls := pl.isList
  obtain ⟨ol, hol, _⟩ := id hls
  have hll : l < s.heap.objs.size := Heap.lt_size hol
  have hfl : f < s.heap.objs.size := Heap.lt_size hf
  refine PyProof.Rows.kmk_tree PySem.F.kind_min PySem.F.plain_min PySem.F.entry_min (PyProof.Rows.kmk_min_key _ _) ?_
  show wpAny _ X.A.in1 (Builtin.Builtins.bindParams "min" ["key", "default"] 0 ⟨[], [(Str.ofString "key", .ref f)]⟩ >>= _) _ _ s
  refine wpAny_bind (wpAny_of_eq (show Builtin.Builtins.bindParams "min" ["key", "default"] 0 ⟨[], [(Str.ofString "key", .ref f)]⟩ = pure [some (.ref f), none] from rfl) ?_)
  refine wpAny_bind (wpAny_pure ?_)
  refine wpAny_bind (wpAny_pyIter_list hls ?_)
  refine wpAny_bind (wpAny_newList ?_ (Nat.zero_le _))
  rw [hname]
  have hS : (s.heap.push { cls := .type "list_iterator", data := .fields #[.ref l, .int 0 0] }).objs.size = s.heap.objs.size + 1 := size_push' ..
  have k1 : ∀ b o, s.heap.get? b = some o → ((s.heap.push { cls := .type "list_iterator", data := .fields #[.ref l, .int 0 0] }).push (seqObj "list" #[] 0)).get? b = some o := fun b o e => Heap.get?_push_of_some _ (Heap.get?_push_of_some _ e)
  have gI : ((s.heap.push { cls := .type "list_iterator", data := .fields #[.ref l, .int 0 0] }).push (seqObj "list" #[] 0)).get? s.heap.objs.size = some { cls := .type "list_iterator", data := .fields #[.ref l, .int 0 0] } :=
    Heap.get?_push_of_some _ (Heap.get?_push_size _ rfl)
  have gS : ((s.heap.push { cls := .type "list_iterator", data := .fields #[.ref l, .int 0 0] }).push (seqObj "list" #[] 0)).get? (s.heap.push { cls := .type "list_iterator", data := .fields #[.ref l, .int 0 0] }).objs.size = some (seqObj "list" #[] 0) := Heap.get?_push_size _ rfl
  refine wpAny_pure ⟨plainId_quiet PySem.F.plain_min_loop _, ?_⟩
  rw [hS] at gS ⊢
  generalize ((s.heap.push { cls := .type "list_iterator", data := .fields #[.ref l, .int 0 0] }).push (seqObj "list" #[] 0)) = hp at gI gS k1 ⊢
  have ri : Rec X pins s.heap.objs.size := rec_new I (Nat.le_refl _)
  have rS : Rec X pins (s.heap.objs.size + 1) := rec_new I (Nat.le_succ _)
  have ni : H s.heap.objs.size = none := I.hok.fresh (Nat.le_refl _)
  have nS : H (s.heap.objs.size + 1) = none := I.hok.fresh (Nat.le_succ _)
  have nif : s.heap.objs.size ∉ X.fs := I.nofs (Nat.le_refl _)
  have nSf : s.heap.objs.size + 1 ∉ X.fs := I.nofs (Nat.le_succ _)
  have nSi : s.heap.objs.size + 1 ≠ s.heap.objs.size := Nat.ne_of_gt (Nat.lt_succ_self _)
  have nfi : f ≠ s.heap.objs.size := Nat.ne_of_lt hfl
  have nfS : f ≠ s.heap.objs.size + 1 := Nat.ne_of_lt (Nat.lt_succ_of_lt hfl)
  have nli : l ≠ s.heap.objs.size := Nat.ne_of_lt hll
  have I0 : Inv X pins σ H { s with heap := hp } := I.kept (t' := s.toks) k1
  have hf0 := k1 _ _ hf
  generalize s.heap.objs.size + 1 = S at *
  generalize s.heap.objs.size = it at *
  obtain ⟨its, rv, pl, _⟩ := I0.list hl
  have hsz : its.toArray.size = vs.length := by rw [List.size_toArray]; exact rv.length.symm
  have W := Walks.list (prog := X.prog) (w := X.w) (A := X.A.in1) hh it l nli its.toArray
  refine codeAny_builtin PySem.F.entry_min_loop ?_
  rw [Around.under_plainId PySem.F.plain_min_loop _]
  show wpAny _ X.A.in1 (seqItems? (.ref _) >>= _) _ _ _
  refine wpAny_bind (wpAny_seqItems gS rfl ?_)
  show wpAny _ X.A.in1 (tryCatch (pyNext (.ref it)) _ >>= _) _ _ _
  refine wpAny_bind (wpAny_tryCatch (W.item 0 _ _ _ (by rw [hsz]; exact hne) ⟨⟨_, gI, rfl, rfl⟩, pl.isList⟩ fun u h' tk' hP hst' hk' => ?_))
  have hk2 : ∀ b o, b ≠ it → hp.get? b = some o → h'.get? b = some o := fun b o n e => hk' b o (by simpa using n) e
  have hu1 : its[0]? = some u := by simpa using hP
  obtain ⟨v, hv, ru⟩ := vals_getU rv hu1
  have hvm : v ∈ vs := List.mem_of_getElem? hv
  obtain ⟨oI, hoI, hoc, hod⟩ := id hst'.1
  have I1 := ri.turn (t' := tk') I0 ni hk2
  have hS' := hk2 S _ nSi gS
  have hf' := hk2 f _ nfi hf0
  have I2 : Inv X ((f, fo) :: (S, seqObj "list" #[] 0) :: (it, oI) :: pins) σ H _ := I1.pins_of fun q hq => by
    rcases List.mem_cons.mp hq with rfl | hq
    · exact ⟨hf', nf, rf.nl, nff, fnc⟩
    rcases List.mem_cons.mp hq with rfl | hq
    · exact ⟨hS', nS, rS.nl, nSf, fun v z => by cases z⟩
    rcases List.mem_cons.mp hq with rfl | hq
    · exact ⟨hoI, ni, ri.nl, nif, fun v z => by rw [hod] at z; cases z⟩
    · exact I1.pin q (List.mem_append_right _ hq)
  show wpAny _ X.A.in1 (tryCatch (holding [u] (call (.ref f) [u])) _ >>= _) _ _ _
  refine wpAny_bind (wpAny_tryCatch (wpAny_holding (wpAny_mono (turn _ H v u _ I2 hf' (Same.refl H) hvm ru) (fun x s2 he => ?_) fun _ _ hF => hF.elim)))
  obtain ⟨w, H2, I3, rw_, sm2, t2, a2, b2, rfl, ht2⟩ := he
  obtain rfl : x = Value.ref t2 := rw_
  have pf := I3.pin (f, fo) (List.mem_append_right _ (List.mem_cons_self))
  have pS := I3.pin (S, seqObj "list" #[] 0) (List.mem_append_right _ (List.mem_cons_of_mem _ List.mem_cons_self))
  have pi := I3.pin (it, oI) (List.mem_append_right _ (List.mem_cons_of_mem _ (List.mem_cons_of_mem _ List.mem_cons_self)))
  have I4 : Inv X pins σ H2 s2 := I3.pins_of fun q hq => I3.pin q (List.mem_append_right _ (List.mem_cons_of_mem _ (List.mem_cons_of_mem _ (List.mem_cons_of_mem _ hq))))
  obtain ⟨c2, hc2⟩ := seq_upd pS.1 #[u, .ref t2]
  show wpAny _ X.A.in1 (updateSeq S (fun _ => #[u, .ref t2]) >>= _) _ _ _
  refine wpAny_bind ?_
  refine wpAny_updateSeq pS.1 rfl ?_
  rw [hname]
  have kS : ∀ b o, b ≠ S → s2.heap.get? b = some o → (s2.heap.update S (Obj.mapSeq fun _ => #[u, .ref t2])).get? b = some o := fun b o n e => (Heap.get?_update_ne _ _ _ _ n).trans e
  exact wpAny_pure ⟨plainId_quiet PySem.F.plain_min_loop _, minkey_loop (l := l) (H1 := H) hh hu turn hl hq (fun u s' z => z) rf rS ri nfS nfi nSi nli fnc nff nSf nif _ 0 _ H2 u v t2 a2 b2 c2 rfl hne (rS.turn (t' := s2.toks) I4 pS.2.1 kS) sm2 pf.2.1 pS.2.1 pi.2.1 (kS _ _ nfS pf.1) hc2 ⟨oI, kS _ _ nSi.symm pi.1, hoc, hod⟩ hvm ru ht2⟩
end
def tMinL (K : PySem.W.Frag) (P : Addr) (T : List (Addr × Str)) (lpos : Pos) (ix : Nat) (ta : TA) (t : TE) : TE := fun σ H Q => ta σ H fun vs1 H0 => Tabs T H0 ∧ ∃ l vs, vs1 = [.ref l] ∧ SqL K H0 l vs ∧ 0 < vs.length ∧ ∀ H1, ButP P H0 H1 → Tabs T H1 → FullAt P lpos H1 → (FullAt P lpos H0 → H1 = H0) → SqL K H1 l vs ∧
  (∀ v ∈ vs, ∀ H', Same H1 H' → t (σ.set ix (some v)) H' fun w H'' => Same H' H'' ∧ KeyP H'' w) ∧ ∀ v ∈ vs, ∀ H', Same H1 H' → Q v H'
/-- min(e, key=lambda y: body) -/
theorem pe_minkey {X : Cx} {T : List (Addr × Str)} {x y : Str} {c P : Addr} {k ix : Nat} {params : Arguments} {e body : Expr} {scope : Scope} {ta : TA} {t : TE} {p lpos kp pos : Pos} (hg : Gl X x) (hm : X.mg x = none) (hv : bootBuiltins x = some (.builtin "min"))
    (TB : TabB X.base X.mg c P) (hcode : X.env.code = .ref c) (hmT : (P, X.env.qual ++ "<lambda>") ∈ T) (hu : ∀ p ∈ T, p.1 = P → p.2 = X.env.qual ++ "<lambda>") (hr : Room (k + 2) X.A) (L : LamS1 X.env.scope scope y) (hXN : X.N.Nodup) (hx : X.N[ix]? = some y) (hdef : defaultsOf params X.env = ([], []))
    (hbind : ∀ (q : Str) (cl : List (Str × Addr)) (pm cv ctv u : Value), bindArgs (PySem.W.kla_fn "<lambda>" q params body scope cl pm cv ctv) ⟨[u], []⟩ = pure [(y, u)])
    (ha : PA X [e] ta) (hbody : ∀ (A : Around) (outer : List Env) (s : Shared) (H : Hp) (f c' : Addr), Room k (A.deeper (lamEnv X scope s.heap.objs.size f c')) → PE (lamCx X A outer s H C8.E0 scope f c').nox body t)
    (hn : x ≠ "__name__" := by decide) (hdb : (x == ("__debug__" : Str)) = false := by decide)
    (he : backTo pos (starEach [e] X.env) = (false, eval e X.env) :: backTo pos (starEach [] X.env) := by rfl) (hpl : (backTo pos (starEach [e] X.env)).any (·.1) = false := by rfl) :
    PE X (.Call (.Name x p) [e] [⟨some "key", .Lambda params body scope lpos, kp⟩] pos) (tMinL X.K P T lpos ix ta t) := by
  refine ⟨fun pins s σ H Q I h => ?_⟩
  refine wpAny_Call_Name_kw (ld_blt I hg hm hv ?_ hn hdb)
  refine PyProof.Rows.callWith_kw (thn (ha.run pos pins s σ H _ I h) fun us s1 ⟨vs1, H1, I1, r1, hT, l, vs, e1, hsq, hne, q1⟩ => ?_) he hpl (by rfl) (by rfl)
  subst e1
  obtain rfl := Vals.ref1 r1
  refine PyProof.Rows.kws_cons (lam_make4 I1 TB hcode hmT hu hT hdef (L.has I1.ok) fun f c' pm' ctv H2 s' hge fl1 fl2 I2 eN T2 hf hfn hfr hco => PyProof.Rows.kws_nil ?_)
  obtain ⟨hsq2, q2, q3⟩ := q1 H2 eN T2 fl1 fl2
  exact minkey_run I2 hr.in1.hd hr.in1.units0 (fun s H' v u pins' I' hf' sm hv ru => lam_turn I' L hXN hx hf' (hbind _ _ _ _ _) hr.in1 (fun A outer s H hr2 => hbody A outer s H f c' hr2) (sm _ _ hco) ru (q2 v hv H' sm)) hsq2 hne (fun v H' hv sm => q3 v hv H' sm) (rec_new I1 hge) hf hfn (fun v z => by cases z) (I1.nofs hge)
end
/-! ### .. read -/
section
variable {K : PySem.W.Frag} {φ φ' : Addr → Prop} {J : Hp → Prop} {H H' H0 H1 : Hp} {ρ ρ' : List (Option D)} {σ : L2.St} {ta : TA} {te tb : TE} {x y z d : D} {P : D → Prop} {Pr : List D → Prop} {ds es : List D} {v : V} {D0 : Ends} {t u : TS} {C p s : Addr} {q : Str} {ps ps' : Array Value} {pos : Pos}
theorem TabJ.full (h : TabJ C q ps H) (e : FullAt C pos H) : (codeAmong pos ps.toList).isSome = true := by
  obtain ⟨ps2, e1, e2⟩ := e
  rw [h.1] at e1
  cases e1
  exact e2
/-- what is told behind: the table is full, and where it was so, all is as it was -/
def JF (C : Addr) (q : Str) (pos : Pos) (H0 : Hp) (ps : Array Value) : Hp → Prop := fun H => ButP C H0 H ∧ TabJ C q ps H ∧ (FullAt C pos H0 → Same H0 H)
theorem JF.mo (h : JF C q pos H0 ps H) : Mo H (JF C q pos H0 ps) := fun H1 H2 k j => by
  have m1 : Mo H (fun H => ButP C H0 H ∧ TabJ C q ps H) := (mo_butP (butP_trT h.1 h.2.1)).and h.2.1.mo
  obtain ⟨z1, z2⟩ := m1 H1 H2 k ⟨j.1, j.2.1⟩
  exact ⟨z1, z2, fun f a o e => k a o (by rw [h.2.2 f a o e]; exact fun z => by cases z) (j.2.2 f a o e)⟩
/-- best = min(e, key=lambda y: body): one of the items -/
theorem st_minkey {i ix : Nat} {tl : TE} (A : At K φ (Same H0) ρ σ H) (np : ¬ φ C) (ht : TabJ C q ps H0) (ha : EvAD K φ (Same H0) ta ρ [.lst es]) (hne : 0 < es.length)
    (hk : ∀ e ∈ es, ∀ (J' : Hp → Prop), EvP K φ J' tl (ρ.set ix (some e)) (fun d => ∃ a b : Int, d = .tup [.int a, .int b]))
    (kk : ∀ d ps' σ' H', d ∈ es → FullAt C pos H' → At K φ (JF C q pos H0 ps') (ρ.set i (some d)) σ' H' → D0.nx σ' H') : tAsg (tMinL K C [(C, q)] pos ix ta tl) (gName i) D0 σ H := by
  refine ha σ H A _ fun vs ds H1 b1 A1 e r1 => ?_
  subst e
  obtain ⟨v, vs', rfl, rv, rs⟩ := r1
  cases (show vs' = [] from rs)
  obtain ⟨l, xs, rfl, pl, rx⟩ := rep_lst rv
  have sm1 : Same H0 H1 := A1.j
  have t1 := ht.same sm1
  refine ⟨t1.tabs, l, xs, rfl, pl.sq, by rw [rx.length]; exact hne, fun H2 bp tb2 fl1 fl2 => ?_⟩
  obtain ⟨ps', tj⟩ := tabs_J tb2
  have b2 := butP_butT (φ := φ) bp np tj
  have A2 : At K φ (JT C q H1 ps') ρ σ H2 := ⟨A1.sr.up (Up.of b2), A1.fr.butT bp tj, ⟨bp, tj⟩, (mo_butP (butP_trT bp tj)).and tj.mo⟩
  have rx2 := rx.mono b2
  refine ⟨(pl.up (Up.of b2)).sq, fun v hv H' sm => ?_, fun v hv H' sm => ?_⟩
  · obtain ⟨k, hk1⟩ := List.mem_iff_getElem?.mp hv
    obtain ⟨e, he, re⟩ := rx2.getV hk1
    have A3 : At K φ (Same H') ρ σ H' := (A2.same sm).live (Same.refl H') (Mo.sames fun _ h => h)
    refine hk e (List.mem_of_getElem? he) (Same H') _ H' (A3.set ix (re.mono (But.of sm))) _ fun w d' H3 _ A4 ⟨a, b, ed⟩ r => ⟨A4.j, ?_⟩
    subst ed
    obtain ⟨t, ws, rfl, pt, rw_⟩ := rep_tup r
    obtain ⟨w1, r1, rfl, e1, e2⟩ := rw_
    obtain ⟨w2, r2, rfl, e3, e4⟩ := e2
    cases (show r2 = [] from e4)
    cases (show w1 = _ from e1)
    cases (show w2 = _ from e3)
    exact ⟨t, a, b, rfl, pt.at.2⟩
  · obtain ⟨k, hk1⟩ := List.mem_iff_getElem?.mp hv
    obtain ⟨e, he, re⟩ := rx2.getV hk1
    have tj' : TabJ C q ps' H' := tj.same sm
    have fl' : FullAt C pos H' := by
      obtain ⟨p1, p2, p3⟩ := fl1
      exact ⟨p1, sm _ _ p2, p3⟩
    have jf : JF C q pos H0 ps' H' := ⟨(ButP.of sm1).trans (bp.trans (ButP.of sm)), tj', fun ⟨p1, p2, p3⟩ => by
      have e := fl2 ⟨p1, sm1 _ _ p2, p3⟩
      rw [e] at sm
      exact sm1.trans sm⟩
    have A3 := A2.same sm
    have A4 : At K φ (JF C q pos H0 ps') ρ σ H' := A3.live jf jf.mo
    exact kk e ps' (σ.set i v) H' (List.mem_of_getElem? he) fl' (A4.set i (re.mono (But.of sm)))
theorem jf_same (t : TabJ C q ps H) (s : Same H H') : JF C q pos H ps H' := ⟨ButP.of s, t.same s, fun _ => s⟩
theorem JF.same (h : JF C q pos H0 ps H) (s : Same H H') : JF C q pos H0 ps H' := ⟨h.1.trans (ButP.of s), h.2.1.same s, fun f => (h.2.2 f).trans s⟩
theorem FullAt.same (h : FullAt C pos H) (s : Same H H') : FullAt C pos H' := by
  obtain ⟨p1, p2, p3⟩ := h
  exact ⟨p1, s _ _ p2, p3⟩
/-- the promise of a def that makes the lambda -/
def SpS (K : PySem.W.Frag) (C : Addr) (q : Str) (pos : Pos) (n : Nat) (Pre : List D → Prop) (R : List D → D → Prop) : Sp := fun vs H Q _ => ∃ φ ds ps, ds.length = n ∧ Reps K φ H ds vs ∧ Frm φ H ∧ ¬ φ C ∧ TabJ C q ps H ∧ Pre ds ∧ ∀ v d ps' H', R ds d → JF C q pos H ps' H' → Rep K φ H' d v → Q v H'
/-- .. called where the table is full -/
theorem ev_callF {J : Hp → Prop} {n : Nat} {Pre : List D → Prop} {R : List D → D → Prop} {E : XK} (np : ¬ φ C) (hJ : ∀ H', J H' → (∃ ps, TabJ C q ps H') ∧ FullAt C pos H') (ha : EvAD K φ J ta ρ ds) (hp : Pre ds) (hl : ds.length = n := by rfl) : EvP K φ J (tCall (SpS K C q pos n Pre R) [] E ta) ρ (R ds) := fun σ H A Q qq =>
  ha σ H A _ fun vs ds' H1 b1 A1 e r1 => by
    subst e
    obtain ⟨⟨ps, t⟩, fl⟩ := hJ _ A1.j
    refine ⟨φ, _, ps, hl, by rw [List.append_nil]; exact r1, A1.fr, np, t, hp, fun v d ps' H' rd j r => ?_⟩
    have s := j.2.2 fl
    exact qq v d H' (b1.trans (But.of s)) (A1.same s) rd r
/-- .. and where it may not be: the first call -/
theorem st_callS {n : Nat} {Pre : List D → Prop} {R : List D → D → Prop} {E : XK} {g : TG} {us : List Nat} {ρ2 : D → List (Option D)} (A : At K φ (Same H0) ρ σ H) (np : ¬ φ C) (ht : TabJ C q ps H0) (ha : EvAD K φ (Same H0) ta ρ ds) (hp : Pre ds) (hg : ∀ d, R ds d → EvG K g d ρ (ρ2 d) us)
    (kk : ∀ d ps' σ' H', R ds d → At K φ (JF C q pos H0 ps') (ρ2 d) σ' H' → D0.nx σ' H') (hl : ds.length = n := by rfl) : tAsg (tCall (SpS K C q pos n Pre R) [] E ta) g D0 σ H :=
  ha σ H A _ fun vs ds' H1 b1 A1 e r1 => by
    subst e
    have s1 : Same H0 H1 := A1.j
    refine ⟨φ, _, ps, hl, by rw [List.append_nil]; exact r1, A1.fr, np, ht.same s1, hp, fun v d ps' H' rd j r => ?_⟩
    have b2 := butP_butT (φ := φ) j.1 np j.2.1
    have j2 : JF C q pos H0 ps' H' := ⟨(ButP.of s1).trans j.1, j.2.1, fun f => s1.trans (j.2.2 (f.same s1))⟩
    have A2 : At K φ (JF C q pos H0 ps') ρ σ H' := ⟨A1.sr.up (Up.of b2), A1.fr.butT j.1 j.2.1, j2, j2.mo⟩
    exact hg d rd φ _ σ H' v A2 r _ fun σ' A3 _ => kk d ps' σ' H' rd A3
theorem st_callGX {ι : Type} {n : Nat} {Pre : ι → List D → Prop} {R : ι → List D → D → Prop} {E : L2.St → XK} {g : TG} {us : List Nat} {ρ2 : D → List (Option D)} (X : ι) (A : At K φ (Same H0) ρ σ H) (np : ¬ φ C) (ht : TabJ C q ps H0) (ha : EvAD K φ (Same H0) ta ρ ds) (hp : Pre X ds) (hg : ∀ d, R X ds d → EvG K g d ρ (ρ2 d) us)
    (kk : ∀ d ps' σ' H', R X ds d → At K φ (JF C q pos H0 ps') (ρ2 d) σ' H' → D0.nx σ' H') (hl : ds.length = n := by rfl) : tAsg (tCallS (fun vs H Q E => ∃ X, SpS K C q pos n (Pre X) (R X) vs H Q E) E ta) g D0 σ H :=
  ha σ H A _ fun vs ds' H1 b1 A1 e r1 => by
    subst e
    have s1 : Same H0 H1 := A1.j
    refine ⟨X, φ, _, ps, hl, r1, A1.fr, np, ht.same s1, hp, fun v d ps' H' rd j r => ?_⟩
    have b2 := butP_butT (φ := φ) j.1 np j.2.1
    have j2 : JF C q pos H0 ps' H' := ⟨(ButP.of s1).trans j.1, j.2.1, fun f => s1.trans (j.2.2 (f.same s1))⟩
    have A2 : At K φ (JF C q pos H0 ps') ρ σ H' := ⟨A1.sr.up (Up.of b2), A1.fr.butT j.1 j.2.1, j2, j2.mo⟩
    exact hg d rd φ _ σ H' v A2 r _ fun σ' A3 _ => kk d ps' σ' H' rd A3
theorem st_callGU {ι : Type} {J : Array Value → Hp → Prop} {n : Nat} {Pre : ι → List D → Prop} {R : ι → List D → D → Prop} {E : XK} {g : TG} {us : List Nat} {ρ2 : D → List (Option D)} (X : ι) (T : TblF φ C q J) (A : At K φ (J ps) ρ σ H) (ha : EvAD K φ (J ps) ta ρ ds) (hp : Pre X ds) (hg : ∀ d, R X ds d → EvG K g d ρ (ρ2 d) us)
    (kk : ∀ d ps' σ' H', R X ds d → At K φ (J ps') (ρ2 d) σ' H' → D0.nx σ' H') (hl : ds.length = n := by rfl) : tAsg (tCall (fun vs H Q E => ∃ X, SpS K C q pos n (Pre X) (R X) vs H Q E) [] E ta) g D0 σ H :=
  ha σ H A _ fun vs ds' H1 b1 A1 e r1 => by
    subst e
    refine ⟨X, φ, _, ps, hl, by rw [List.append_nil]; exact r1, A1.fr, T.np, T.ok _ _ A1.j, hp, fun v d ps' H' rd j r => ?_⟩
    exact hg d rd φ _ σ H' v (At.tbl T A1 j.1 j.2.1) r _ fun σ' A3 _ => kk d ps' σ' H' rd A3
/-- .. where a family tells what stays -/
theorem st_callU {J : Array Value → Hp → Prop} {n : Nat} {Pre : List D → Prop} {R : List D → D → Prop} {E : XK} {g : TG} {us : List Nat} {ρ2 : D → List (Option D)} (T : TblF φ C q J) (A : At K φ (J ps) ρ σ H) (ha : EvAD K φ (J ps) ta ρ ds) (hp : Pre ds) (hg : ∀ d, R ds d → EvG K g d ρ (ρ2 d) us)
    (kk : ∀ d ps' σ' H', R ds d → At K φ (J ps') (ρ2 d) σ' H' → D0.nx σ' H') (hl : ds.length = n := by rfl) : tAsg (tCall (SpS K C q pos n Pre R) [] E ta) g D0 σ H :=
  ha σ H A _ fun vs ds' H1 b1 A1 e r1 => by
    subst e
    refine ⟨φ, _, ps, hl, by rw [List.append_nil]; exact r1, A1.fr, T.np, T.ok _ _ A1.j, hp, fun v d ps' H' rd j r => ?_⟩
    exact hg d rd φ _ σ H' v (At.tbl T A1 j.1 j.2.1) r _ fun σ' A3 _ => kk d ps' σ' H' rd A3
/-- dict(d): a new one -/
def rDictOf : List V → Hp → VK → Prop := fun vs H Q => ∃ a kvs, vs = [V.ref a] ∧ H a = some (.dK kvs) ∧ ∀ p, H p = none → Q (.ref p) (upd H p (.dK kvs))
theorem c_dictOf {X : Cx} : CallR X (.type "dict") rDictOf := by
  intro pins s σ H vs us Q I r h
  obtain ⟨a, kvs, rfl, e, k⟩ := h
  obtain rfl := Vals.ref1 r
  exact d_copyOf I (.inl e) fun p s' hp I' => ⟨.ref p, _, I', rfl, k p hp⟩
theorem en_dictK {kds : List (Key × D)} (ha : EvD K φ J te ρ (.dk (kds.map (·.1)) (kds.map (·.2)))) : EvNO K φ J (tCB rDictOf (tCons te tNil)) ρ (fun ds C => ds = kds.map (·.2) ∧ C = fun vs => HO.dK ((kds.map (·.1)).zip vs)) := fun σ H A Q q => ha σ H A _ fun v d H1 b1 A1 e r => by
  subst e
  obtain ⟨a, vs, rfl, ⟨pa, e, hl⟩, rs⟩ := (show ∃ a vs, v = .ref a ∧ (φ a ∧ H1 a = some (.dK ((kds.map (·.1)).zip vs)) ∧ (kds.map (·.1)).length = (kds.map (·.2)).length) ∧ Reps K φ H1 (kds.map (·.2)) vs from r)
  exact ⟨a, _, rfl, e, fun p hp => q p vs _ _ H1 _ b1 A1 hp (But.of (same_new hp)) (A1.same (same_new hp)) ⟨rfl, rfl⟩ (fun _ h => nomatch h) upd_same (reps_new hp rs)⟩
section
variable {PP : Program} {w : World} {mg : Str → Option Value} {base : Heap}
theorem fn_none {CX : CXT} {k : Nat} {f : Addr} {fd : FuncData} {ps : List Str} {sp : Sp} (no : ∀ vs H Q E, ¬ sp vs H Q E) : FnOk PP w K mg base CX k f fd ps sp := ⟨fun vs H Q E h => absurd h (no vs H Q E), fun A outer s H args us vs Q E _ _ _ _ h => absurd h (no vs H Q E)⟩
/-- a promise for each of a kind -/
theorem fn_ghost {ι : Type} {CX : CXT} {k : Nat} {f : Addr} {fd : FuncData} {ps : List Str} {sp : ι → Sp} (h : ∀ X, FnOk PP w K mg base CX k f fd ps (sp X)) : FnOk PP w K mg base CX k f fd ps (fun vs H Q E => ∃ X, sp X vs H Q E) := ⟨fun vs H Q E ⟨X, z⟩ => (h X).len vs H Q E z, fun A outer s H args us vs Q E hr he hb hv ⟨X, z⟩ => (h X).run A outer s H args us vs Q E hr he hb hv z⟩
theorem fn_okSX {x qual : Str} {st : Stmt} {f : Addr} {fd : FuncData} {N ps : List Str} {k n : Nat} {Pre : List D → Prop} {R : List D → D → Prop} (F : Fun K x qual st f fd) (S : FnScope N ps (defScope st)) (hn : ps.length = n) (m : Nat) (hm : N.length = n + m)
    (hbody : ∀ (cdv : Value) (A : Around) (outer : List Env) (s : Shared) (H : Hp) (E : XK), Room k (A.deeper (envOfC qual (defScope st) s.heap.objs.size f cdv)) →
      ∃ t, PSs (cxOf (L2.CX PP w) PP w K mg base N qual (defScope st) f cdv A outer s H E) (defBody st) t ∧
        ∀ (φ : Addr → Prop) (ds : List D) (H : Hp) (tb : Array Value) (D0 : Ends) (σ : L2.St), ds.length = n → Pre ds → ¬ φ C → TabJ C q tb H → (∀ v d ps' H', R ds d → JF C q pos H ps' H' → Rep K φ H' d v → D0.rt v H') → At K φ (Same H) (ds.map some ++ List.replicate m none) σ H → t D0 σ H) :
    FnOk PP w K mg base (L2.CX PP w) (k + 1) f fd ps (SpS K C q pos n Pre R) := by
  refine F.okX S (fun vs H Q E h => ?_) (fun cdv A outer s H vs Q E hr h => ?_)
  · obtain ⟨φ, ds, tb, hl, r, _⟩ := h
    rw [r.length, hl, hn]
  · obtain ⟨φ, ds, tb, hl, r, fr, np, tj, hp, k⟩ := h
    obtain ⟨t, ht, run⟩ := hbody cdv A outer s H E hr
    refine ⟨t, ht, run φ ds H tb _ _ hl hp np tj (fun v d ps' H' rd j r => k v d ps' H' rd j r) ⟨?_, fr, Same.refl H, Mo.sames fun _ h => h⟩⟩
    have e : N.length - vs.length = m := by rw [hm, r.length, hl]; omega
    unfold L2.start
    rw [e]
    exact SR.start r
theorem fn_okS0 {x qual : Str} {st : Stmt} {f : Addr} {fd : FuncData} {N ps : List Str} {k n : Nat} {Pre : List D → Prop} {R : List D → D → Prop} (F : Fun K x qual st f fd) (S : FnScope N ps (defScope st)) (hn : ps.length = n) (m : Nat) (hm : N.length = n + m)
    (hbody : ∀ (cdv : Value) (A : Around) (outer : List Env) (s : Shared) (H : Hp) (E : XK), Room k (A.deeper (envOfC qual (defScope st) s.heap.objs.size f cdv)) →
      ∃ t, PSs (cxOf CX0 PP w K mg base N qual (defScope st) f cdv A outer s H E).nox (defBody st) t ∧
        ∀ (φ : Addr → Prop) (ds : List D) (H : Hp) (tb : Array Value) (D0 : Ends) (σ : L2.St), ds.length = n → Pre ds → ¬ φ C → TabJ C q tb H → (∀ v d ps' H', R ds d → JF C q pos H ps' H' → Rep K φ H' d v → D0.rt v H') → At K φ (Same H) (ds.map some ++ List.replicate m none) σ H → t D0 σ H) :
    FnOk PP w K mg base CX0 (k + 1) f fd ps (SpS K C q pos n Pre R) := by
  refine F.ok S (fun vs H Q E h => ?_) (fun cdv A outer s H vs Q E hr h => ?_)
  · obtain ⟨φ, ds, tb, hl, r, _⟩ := h
    rw [r.length, hl, hn]
  · obtain ⟨φ, ds, tb, hl, r, fr, np, tj, hp, k⟩ := h
    obtain ⟨t, ht, run⟩ := hbody cdv A outer s H E hr
    refine ⟨t, ht, run φ ds H tb _ _ hl hp np tj (fun v d ps' H' rd j r => k v d ps' H' rd j r) ⟨?_, fr, Same.refl H, Mo.sames fun _ h => h⟩⟩
    have e : N.length - vs.length = m := by rw [hm, r.length, hl]; omega
    unfold L2.start
    rw [e]
    exact SR.start r
theorem fn_okS {x qual : Str} {st : Stmt} {f c : Addr} {fd : FuncData} {N ps : List Str} {k n : Nat} {Pre : List D → Prop} {R : List D → D → Prop} (F : FunC K x qual st f fd c) (S : FnScope N ps (defScope st)) (hn : ps.length = n) (m : Nat) (hm : N.length = n + m)
    (hbody : ∀ (A : Around) (outer : List Env) (s : Shared) (H : Hp) (E : XK), Room k (A.deeper (envOfC qual (defScope st) s.heap.objs.size f (.ref c))) →
      ∃ t, PSs (cxOf CX0 PP w K mg base N qual (defScope st) f (.ref c) A outer s H E).nox (defBody st) t ∧
        ∀ (φ : Addr → Prop) (ds : List D) (H : Hp) (tb : Array Value) (D0 : Ends) (σ : L2.St), ds.length = n → Pre ds → ¬ φ C → TabJ C q tb H → (∀ v d ps' H', R ds d → JF C q pos H ps' H' → Rep K φ H' d v → D0.rt v H') → At K φ (Same H) (ds.map some ++ List.replicate m none) σ H → t D0 σ H) :
    FnOk PP w K mg base CX0 (k + 1) f fd ps (SpS K C q pos n Pre R) := by
  obtain ⟨oc, od, kV, doc, pm, an, ct, osl, rfl, lk, hcd⟩ := F.ex
  refine fn_of lk hcd S (fun vs H Q E h => ?_) (fun A outer s H vs Q E hr h => ?_)
  · obtain ⟨φ, ds, tb, hl, r, _⟩ := h
    rw [r.length, hl, hn]
  · obtain ⟨φ, ds, tb, hl, r, fr, np, tj, hp, k⟩ := h
    obtain ⟨t, ht, run⟩ := hbody A outer s H E hr
    refine ⟨t, ht.nox, run φ ds H tb _ _ hl hp np tj (fun v d ps' H' rd j r => k v d ps' H' rd j r) ⟨?_, fr, Same.refl H, Mo.sames fun _ h => h⟩⟩
    have e : N.length - vs.length = m := by rw [hm, r.length, hl]; omega
    unfold L2.start
    rw [e]
    exact SR.start r
end
end

/-! ### rows of separations -/
abbrev Row := Int × Int × Int
def rowD (r : Row) : D := .tup [.int r.1, .int r.2.1, .int r.2.2]
def rowsD (ls : List Row) : D := .tup (ls.map rowD)
def sepD (n : Int) (ls : List Row) : D := .tup [.int n, rowsD ls]
def pairOf (r : Row) : Int × Int := (r.1, r.2.1)
def rowOk (n : Int) (r : Row) : Bool := (decide (0 ≤ r.1) && (decide (r.1 < r.2.1) && decide (r.2.1 < n))) && (decide (1 ≤ r.2.2) && decide (r.2.2 ≤ 9))
def ascB : List Row → Bool
  | a :: b :: r => SrtO.lexB (pairOf a) (pairOf b) && ascB (b :: r)
  | _ => true
def sepsOk (n : Int) (ls : List Row) : Bool := (decide (0 ≤ n) && decide (n ≤ 24)) && (ls.all (rowOk n) && ascB ls)
theorem rowD_inj {r r' : Row} (h : rowD r = rowD r') : r = r' := by
  injection h with h
  have h1 := (List.cons.inj h).1
  have h2 := (List.cons.inj (List.cons.inj h).2).1
  have h3 := (List.cons.inj (List.cons.inj (List.cons.inj h).2).2).1
  injection h1 with h1
  injection h2 with h2
  injection h3 with h3
  exact Prod.ext h1 (Prod.ext h2 h3)
theorem map_rowD_inj : ∀ {ls ls' : List Row}, ls.map rowD = ls'.map rowD → ls = ls'
  | [], [], _ => rfl
  | [], _ :: _, h => by cases h
  | _ :: _, [], h => by cases h
  | a :: ls, b :: ls', h => by
    obtain ⟨h1, h2⟩ := List.cons.inj h
    rw [rowD_inj h1, map_rowD_inj h2]
theorem sepD_inj {n n' : Int} {ls ls' : List Row} (h : sepD n ls = sepD n' ls') : n = n' ∧ ls = ls' := by
  injection h with h
  have h1 := (List.cons.inj h).1
  have h2 := (List.cons.inj (List.cons.inj h).2).1
  injection h1 with h1
  injection h2 with h2
  exact ⟨h1, map_rowD_inj h2⟩
theorem cut2R (r : Row) : cutD [D.int r.1, .int r.2.1, .int r.2.2] none (some 2) = [.int r.1, .int r.2.1] := by
  rw [cutD_hi (by decide)]
  rfl
section
variable {K : PySem.W.Frag} {φ : Addr → Prop} {J : Hp → Prop} {ρ : List (Option D)} {te : TE} {ds : List D} {r : Row} {n : Int} {ls : List Row}
/-- a comprehension by two names -/
theorem ev_lcT2 {wi : TI} {tt : TT} {k1 k2 : Nat} {p : D → Bool} {f : D → D} (hi : IterD K φ J wi ρ ds) (hl : ds.length ≤ 1000000) (hd : ∀ d ∈ ds, ∃ a b, d = .tup [a, b])
    (ht : ∀ a b, .tup [a, b] ∈ ds → ∀ φ' J', Ext φ J φ' J' → EvX K φ' J' tt (((wipeR ρ [k1, k2]).set k1 (some a)).set k2 (some b)) (p (.tup [a, b])))
    (he : ∀ a b, .tup [a, b] ∈ ds → p (.tup [a, b]) = true → ∀ φ' J', Ext φ J φ' J' → EvD K φ' J' te (((wipeR ρ [k1, k2]).set k1 (some a)).set k2 (some b)) (f (.tup [a, b]))) :
    EvD K φ J (tLc wi (gTup K 2 (gCons (gName k1) (gCons (gName k2) gNil))) tt te [k1, k2]) ρ (.lst ((ds.filter p).map f)) :=
  (ev_lcP (ρd := fun d => match d with | .tup [a, b] => ((wipeR ρ [k1, k2]).set k1 (some a)).set k2 (some b) | _ => ρ) (us := [k1, k2]) (pt := fun d b => b = p d) (pe := fun d y => y = f d) hi (fun ds' e => by rw [e]; exact hl) (fun _ h => h) (fun ds' e d hm => by
      subst e
      obtain ⟨a, b, rfl⟩ := hd d hm
      exact eg_tup (ds := [a, b]) (egs_cons eg_name (egs_cons eg_name egs_nil)))
    (fun ds' e d hm φ' J' x => by
      subst e
      obtain ⟨a, b, rfl⟩ := hd d hm
      exact ht a b hm φ' J' x) (fun ds' e d hm pd φ' J' x => by
      subst e
      obtain ⟨a, b, rfl⟩ := hd d hm
      exact he a b hm pd.symm φ' J' x)).imp fun z ⟨ds', ys, e1, e2, c⟩ => by
      subst e1
      rw [e2, c.filter]
/-- a row's parts -/
theorem ev_row0 (h : EvD K φ J te ρ (rowD r)) : EvD K φ J (tOp (rIxT K) te (tC (.int 0))) ρ (.int r.1) := ev_ixT (ds := [.int r.1, .int r.2.1, .int r.2.2]) h ev_int rfl
theorem ev_row1 (h : EvD K φ J te ρ (rowD r)) : EvD K φ J (tOp (rIxT K) te (tC (.int 1))) ρ (.int r.2.1) := ev_ixT (ds := [.int r.1, .int r.2.1, .int r.2.2]) h ev_int rfl
theorem ev_row2 (h : EvD K φ J te ρ (rowD r)) : EvD K φ J (tOp (rIxT K) te (tC (.int 2))) ρ (.int r.2.2) := ev_ixT (ds := [.int r.1, .int r.2.1, .int r.2.2]) h ev_int rfl
theorem ev_rowP (h : EvD K φ J te ρ (rowD r)) : EvD K φ J (tSl (rSlA K) te tNoPart (tPart (tC (.int 2)))) ρ (prDD (pairOf r)) := (ev_slT (ds := [.int r.1, .int r.2.1, .int r.2.2]) h eo_none (eo_some ev_int)).is (congrArg D.tup (cut2R r))
theorem ev_sep0 (h : EvD K φ J te ρ (sepD n ls)) : EvD K φ J (tOp (rIxT K) te (tC (.int 0))) ρ (.int n) := ev_ixT (ds := [.int n, rowsD ls]) h ev_int rfl
theorem ev_sep1 (h : EvD K φ J te ρ (sepD n ls)) : EvD K φ J (tOp (rIxT K) te (tC (.int 1))) ρ (rowsD ls) := ev_ixT (ds := [.int n, rowsD ls]) h ev_int rfl
end
theorem okq_row {n : Nat} {r : Row} : okq (n + 2) (rowD r) = true := rfl
theorem okq_rows {n : Nat} {ls : List Row} : okq (n + 3) (.lst (ls.map rowD)) = true := by
  show (ls.map rowD).all (okq (n + 2)) = true
  rw [List.all_map, List.all_eq_true]
  intro r _
  exact okq_row
theorem eqv_pr (p q : Int × Int) : eqvD (prDD p) (prDD q) = decide (p = q) := by
  unfold eqvD
  show PyData.eqvAll [.int p.1, .int p.2] [.int q.1, .int q.2] = _
  rw [Bool.eq_iff_iff, decide_eq_true_eq]
  simp only [PyData.eqvAll, PyData.eqv, Bool.and_eq_true, beq_iff_eq, Bool.and_true]
  constructor
  · rintro ⟨h1, h2⟩; exact Prod.ext h1 h2
  · rintro rfl; exact ⟨rfl, rfl⟩
theorem ls_filter_map {p : Row → Bool} {q : D → Bool} (h : ∀ r, q (rowD r) = p r) (ls : List Row) : (ls.map rowD).filter q = (ls.filter p).map rowD := by
  rw [List.filter_map, show (q ∘ rowD) = p from funext h]
theorem isEmpty_filter {α : Type} (p : α → Bool) (xs : List α) : (xs.filter fun x => !p x).isEmpty = xs.all p := by
  induction xs with
  | nil => rfl
  | cons x xs ih =>
    rw [List.filter_cons, List.all_cons]
    cases p x
    · rfl
    · exact ih
/-- the least number of two users -/
def leastB (ls : List Row) (i j : Int) : Int := ((ls.find? fun r => decide (pairOf r = (min i j, max i j))).map (·.2.2)).getD 0
theorem leastB_range {ls : List Row} (h : ∀ r ∈ ls, 0 ≤ r.2.2 ∧ r.2.2 ≤ 9) (i j : Int) : 0 ≤ leastB ls i j ∧ leastB ls i j ≤ 9 := by
  unfold leastB
  cases e : ls.find? fun r => decide (pairOf r = (min i j, max i j)) with
  | none => exact ⟨Int.le_refl _, by decide⟩
  | some r => exact h r (List.mem_of_find?_eq_some e)
theorem find_take {α : Type} {p : α → Bool} {ls : List α} {i : Nat} {r : α} (hr : ls[i]? = some r) (hp : p r = true) (hno : ∀ x ∈ ls.take i, p x = false) : ls.find? p = some r := by
  obtain ⟨hi, e⟩ := List.getElem?_eq_some_iff.mp hr
  have e1 : ls = ls.take i ++ r :: ls.drop (i + 1) := by rw [← e, List.getElem_cons_drop, List.take_append_drop]
  rw [e1, List.find?_append, List.find?_eq_none.mpr fun x hx => by rw [hno x hx]; exact Bool.false_ne_true, List.find?_cons, hp]
  rfl

section
variable {P : Program} {w : World} {K : PySem.W.Frag} {mg : Str → Option Value} {base : Heap}
def SPre : List D → Prop := fun _ => True
def RLeast : List D → D → Prop := fun ds d => ∃ (n i j : Int) (ls : List Row), ds = [sepD n ls, .int i, .int j] ∧ d = .int (leastB ls i j)
theorem sc_least_between : FnScope ["separations", "i", "j", "pair", "row"] ["separations", "i", "j"] (defScope s_least_between) := ⟨rfl, rfl, rfl, by decide +kernel, rfl, by decide +kernel, by decide +kernel⟩
theorem ok_least_between (B : Bi mg) {f : Addr} {fd : FuncData} (F : Fun K "least_between" "least_between" s_least_between f fd) : FnOk P w K mg base CX0 1 f fd ["separations", "i", "j"] (SpD K 3 RLeast) := by
  have S := sc_least_between
  refine fn_ok F S rfl 2 rfl fun cdv A outer s H E hr => ⟨_, ((pss_cons (ps_set (i := 3) S.nd rfl (by first | exact Or.inl rfl | exact Or.inr rfl) (pe_tup (pa_cons (pe_callB (c_min2 rfl) (by rfl) B.min (by decide +kernel) (pa_cons (pv 1) (pa_cons (pv 2) pa_nil))) (pa_cons (pe_callB (c_max2 rfl) (by rfl) B.max (by decide +kernel) (pa_cons (pv 1) (pa_cons (pv 2) pa_nil))) pa_nil))))
 (pss_cons (ps_for PassesOwn.never rfl (pi_tup (pe_ix ix_tup (pv 0) pe_int (fun _ _ => rfl))) (pg_name (i := 4) S.nd rfl (by first | exact Or.inl rfl | exact Or.inr rfl))
 (pss_one (ps_if (pt_cmpR (op_eqD hr.units) (pe_slice sl_tupA (pv 4) po_none (po_some pe_int)) (pv 3) (nomark _))
 (pss_one (ps_ret (pe_ix ix_tup (pv 4) pe_int (fun _ _ => rfl))))
 pss_nil)))
 (pss_one (ps_ret pe_int))))), fun φ ds d H D0 σ hl hR hrt hnx A => ?_⟩
  obtain ⟨n, i, j, ls, rfl, rfl⟩ := hR
  replace A : At K φ (Same H) [some (sepD n ls), some (.int i), some (.int j), none, none] σ H := A
  refine q (st_set A (ev_tup (ea_cons (ev_min2 (ev_var rfl) (ev_var rfl)) (ea_cons (ev_max2 (ev_var rfl) (ev_var rfl)) ea_nil))) fun σ1 H1 A1 => q ?_)
  replace A1 : At K φ (Same H) [some (sepD n ls), some (.int i), some (.int j), some (prDD (min i j, max i j)), none] σ1 H1 := A1
  refine st_for A1 (it_tup (ev_sep1 (ev_var rfl))) (fun k ρ' J' => (∃ o, ρ' = [some (sepD n ls), some (.int i), some (.int j), some (prDD (min i j, max i j)), o]) ∧ J' = Same H ∧ ∀ x ∈ ls.take k, decide (pairOf x = (min i j, max i j)) = false) ⟨⟨none, rfl⟩, rfl, fun x h => by simp at h⟩ ?_ ?_
  · rintro H2 k d ρ' J' b2 j2 hd ⟨⟨o, rfl⟩, rfl, hno⟩ σ' H' A2
    rw [List.getElem?_map] at hd
    obtain ⟨r, hr, rfl⟩ := Option.map_eq_some_iff.mp hd
    replace A2 : At K φ (fun H_1 => Same H H_1 ∧ But φ H2 H_1) [some (sepD n ls), some (.int i), some (.int j), some (prDD (min i j, max i j)), some (rowD r)] σ' H' := A2
    refine st_if A2 (et_test (ev_eqQ (ev_rowP (ev_var rfl)) (ev_var rfl) rfl rfl)) (fun hb H3 A3 => ?_) (fun hb H3 A3 => ?_)
    · rw [eqv_pr] at hb
      refine st_ret A3 (ev_row2 (ev_var rfl)) fun v d' H6 e A6 rr => hrt v H6 A6.j.1 ?_
      subst e
      unfold leastB
      rw [find_take hr hb.symm hno]
      exact rr
    · rw [eqv_pr] at hb
      refine ⟨_, _, ⟨⟨some (rowD r), rfl⟩, rfl, fun x hx => ?_⟩, A3⟩
      rw [List.take_add_one, hr] at hx
      rcases List.mem_append.mp hx with h | h
      · exact hno x h
      · rw [List.mem_singleton.mp h]; exact hb.symm
  · rintro H2 ρ' J' σ' H' b2 j2 ⟨⟨o, rfl⟩, rfl, hno⟩ A2
    rw [List.length_map, List.take_length] at hno
    refine st_ret A2 ev_int fun v d' H6 e A6 rr => hrt v H6 A6.j.1 ?_
    subst e
    unfold leastB
    rw [List.find?_eq_none.mpr fun x hx => by rw [hno x hx]; exact Bool.false_ne_true]
    exact rr
end

structure Cs (mg : Str → Option Value) : Prop where
  MOST_LEAST : ∃ u, mg "MOST_LEAST" = some u ∧ RelV (.int (9)) u
  MOST_USERS : ∃ u, mg "MOST_USERS" = some u ∧ RelV (.int (24)) u
  MOST_ASSIGN : ∃ u, mg "MOST_ASSIGN" = some u ∧ RelV (.int (40)) u
  MOST_BLOCKING : ∃ u, mg "MOST_BLOCKING" = some u ∧ RelV (.int (100)) u
  DIGITS : ∃ u, mg "DIGITS" = some u ∧ RelV (.str "0123456789") u
  gcd : mg "gcd" = some (.builtin "math.gcd")
  MOST_DIGITS : ∃ u, mg "MOST_DIGITS" = some u ∧ RelV (.int (9)) u

/-! ### channels for some users, and what shows that there is no assignment -/
def val (g : List (Int × Int)) (i : Int) : Option Int := (g.find? fun p => decide (p.1 = i)).map (·.2)
def setv (v : Int → Option Int) (i c : Int) : Int → Option Int := fun j => if j = i then some c else v j
def kdsG (g : List (Int × Int)) : List (Key × D) := g.map fun p => (.inl p.1, .int p.2)
def gD (g : List (Int × Int)) : D := dictD (kdsG g)
theorem val_nil {i : Int} : val [] i = none := rfl
theorem val_cons {p : Int × Int} {g : List (Int × Int)} {i : Int} : val (p :: g) i = if p.1 = i then some p.2 else val g i := by
  unfold val
  rw [List.find?_cons]
  by_cases h : p.1 = i
  · rw [decide_eq_true h, if_pos h]; rfl
  · rw [decide_eq_false h, if_neg h]
theorem valD_kds (i : Int) : ∀ g : List (Int × Int), valD (kdsG g) (.inl i : Key) = (val g i).map D.int
  | [] => rfl
  | p :: g => by
    rw [val_cons]
    show valD ((Sum.inl p.1, D.int p.2) :: kdsG g) _ = _
    by_cases h : p.1 = i
    · rw [if_pos h, valD_pos (by rw [h])]; rfl
    · rw [if_neg h, valD_neg (fun z => h (Sum.inl.inj z)), valD_kds i g]
theorem val_snoc {i c : Int} : ∀ {g : List (Int × Int)}, val g i = none → val (g ++ [(i, c)]) = setv (val g) i c
  | [], _ => by
    funext j
    show val [(i, c)] j = _
    rw [val_cons]
    unfold setv
    by_cases h : i = j
    · rw [if_pos h, if_pos h.symm]
    · rw [if_neg h, if_neg fun z => h z.symm]
  | p :: g, e => by
    rw [val_cons] at e
    by_cases h : p.1 = i
    · rw [if_pos h] at e; cases e
    · rw [if_neg h] at e
      funext j
      rw [List.cons_append, val_cons, val_snoc e]
      unfold setv
      rw [val_cons]
      by_cases hj : p.1 = j
      · rw [if_pos hj, if_pos hj, if_neg fun z => h (hj.trans z)]
      · rw [if_neg hj, if_neg hj]
theorem put_kds {i c : Int} {g : List (Int × Int)} (h : val g i = none) : putD (kdsG g) (.inl i : Key) (.int c) = kdsG (g ++ [(i, c)]) := by
  rw [putD_new (by rw [valD_kds, h]; rfl)]
  unfold kdsG
  rw [List.map_append]
  rfl
/-- a channel breaks a number with a user that has one -/
def Conf (n : Int) (ls : List Row) (v : Int → Option Int) (i ch : Int) : Prop := ∃ j b, 0 ≤ j ∧ j < n ∧ v j = some b ∧ ((ch - b).natAbs : Int) < leastB ls i j
inductive Rt (n : Int) (ls : List Row) (c : Int) : (Int → Option Int) → D → Prop
  | clash (v : Int → Option Int) (i j a b : Int) : 0 ≤ i → i < n → 0 ≤ j → j < n → i ≠ j → v i = some a → v j = some b → ((a - b).natAbs : Int) < leastB ls i j → Rt n ls c v (.tup [.str "clash", .int i, .int j])
  | full (v : Int → Option Int) (i : Int) : 0 ≤ i → i < n → v i = none → (∀ ch, 0 ≤ ch → ch < c → Conf n ls v i ch) → Rt n ls c v (.tup [.str "full", .int i])
  | split (v : Int → Option Int) (i : Int) (ts : List D) : 0 ≤ i → i < n → v i = none → ts.length = c.toNat → (∀ (k : Nat) (t : D), ts[k]? = some t → Rt n ls c (setv v i k) t) → Rt n ls c v (.tup [.str "split", .int i, .tup ts])
/-- all users have channels that keep all numbers -/
structure Keeps (n : Int) (ls : List Row) (c : Int) (w : Int → Int) : Prop where
  rg : ∀ i, 0 ≤ i → i < n → 0 ≤ w i ∧ w i < c
  kp : ∀ i j, 0 ≤ i → i < n → 0 ≤ j → j < n → i ≠ j → leastB ls i j ≤ ((w i - w j).natAbs : Int)
def Agrees (n : Int) (v : Int → Option Int) (w : Int → Int) : Prop := ∀ i a, 0 ≤ i → i < n → v i = some a → w i = a
/-- a right tree: there is none -/
theorem Rt.no {n : Int} {ls : List Row} {c : Int} {v : Int → Option Int} {t : D} (r : Rt n ls c v t) (hd : ∀ i, leastB ls i i ≤ 0) : ∀ w, Keeps n ls c w → Agrees n v w → False := by
  induction r with
  | clash v i j a b h1 h2 h3 h4 h5 h6 h7 h8 =>
    intro w kw ag
    have := kw.kp i j h1 h2 h3 h4 h5
    rw [ag i a h1 h2 h6, ag j b h3 h4 h7] at this
    omega
  | full v i h1 h2 h3 h4 =>
    intro w kw ag
    obtain ⟨k1, k2⟩ := kw.rg i h1 h2
    obtain ⟨j, b, j1, j2, j3, j4⟩ := h4 (w i) k1 k2
    by_cases e : i = j
    · subst e
      rw [h3] at j3
      cases j3
    · have := kw.kp i j h1 h2 j1 j2 e
      rw [ag j b j1 j2 j3] at this
      omega
  | split v i ts h1 h2 h3 h4 h5 ih =>
    intro w kw ag
    obtain ⟨k1, k2⟩ := kw.rg i h1 h2
    have hk : (w i).toNat < ts.length := by omega
    refine ih _ _ (List.getElem?_eq_getElem hk) w kw fun j a j1 j2 e => ?_
    unfold setv at e
    by_cases ej : j = i
    · subst ej
      rw [if_pos rfl] at e
      cases e
      omega
    · rw [if_neg ej] at e
      exact ag j a j1 j2 e
/-- separations that are right -/
structure SepG (n : Int) (ls : List Row) : Prop where
  n0 : 0 ≤ n
  n1 : n ≤ 24
  rows : ∀ r ∈ ls, 0 ≤ r.1 ∧ r.1 < r.2.1 ∧ r.2.1 < n ∧ 1 ≤ r.2.2 ∧ r.2.2 ≤ 9
  asc : (ls.map pairOf).Pairwise fun a b => SrtO.lexB a b = true
  len : ls.length ≤ 1000
theorem leastB_comm (ls : List Row) (i j : Int) : leastB ls i j = leastB ls j i := by
  unfold leastB
  rw [show min i j = min j i by omega, show max i j = max j i by omega]
theorem leastB_self {n : Int} {ls : List Row} (S : SepG n ls) (i : Int) : leastB ls i i = 0 := by
  unfold leastB
  rw [List.find?_eq_none.mpr fun r hr => ?_]
  · rfl
  · intro z
    have e := of_decide_eq_true z
    have := S.rows r hr
    have e1 := congrArg Prod.fst e
    have e2 := congrArg Prod.snd e
    have e1 : r.1 = min i i := e1
    have e2 : r.2.1 = max i i := e2
    omega
theorem leastB_row {n : Int} {ls : List Row} (S : SepG n ls) {r : Row} (hr : r ∈ ls) : leastB ls r.1 r.2.1 = r.2.2 := by
  have h := S.rows r hr
  unfold leastB
  rw [show min r.1 r.2.1 = r.1 by omega, show max r.1 r.2.1 = r.2.1 by omega]
  obtain ⟨i, hi⟩ := List.mem_iff_getElem?.mp hr
  rw [find_take (i := i) hi (decide_eq_true rfl) fun x hx => ?_]
  · rfl
  · refine decide_eq_false fun e => ?_
    obtain ⟨k, hk⟩ := List.mem_iff_getElem?.mp hx
    rw [List.getElem?_take] at hk
    split at hk
    · rename_i hki
      have hp := List.pairwise_iff_getElem.mp S.asc k i (by rw [List.length_map]; exact (List.getElem?_eq_some_iff.mp hk).1) (by rw [List.length_map]; exact (List.getElem?_eq_some_iff.mp hi).1) hki
      rw [List.getElem_map, List.getElem_map, (List.getElem?_eq_some_iff.mp hk).2, (List.getElem?_eq_some_iff.mp hi).2] at hp
      have hl := SrtO.lexB_iff.mp hp
      have e1 : r.1 = x.1 := (congrArg Prod.fst e).symm
      have e2 : r.2.1 = x.2.1 := (congrArg Prod.snd e).symm
      have hl : x.1 < r.1 ∨ (x.1 = r.1 ∧ x.2.1 < r.2.1) := hl
      omega
    · cases hk
theorem leastB_pos {n : Int} {ls : List Row} (S : SepG n ls) {i j : Int} (h : 0 < leastB ls i j) : ∃ r ∈ ls, pairOf r = (min i j, max i j) := by
  unfold leastB at h
  cases e : ls.find? fun r => decide (pairOf r = (min i j, max i j)) with
  | none => rw [e] at h; exact absurd h (by decide)
  | some r => exact ⟨r, List.mem_of_find?_eq_some e, of_decide_eq_true (List.find?_some (p := fun r => decide (pairOf r = (min i j, max i j))) e)⟩
def nbB (i : Int) (r : Row) : Bool := decide (i = r.1) || decide (i = r.2.1)
def nbI (ls : List Row) (i : Int) : List Int := (ls.filter (nbB i)).map fun r => r.1 + r.2.1 - i
theorem nb_iff {n : Int} {ls : List Row} (S : SepG n ls) {i j : Int} : j ∈ nbI ls i ↔ 0 < leastB ls i j := by
  unfold nbI
  rw [List.mem_map]
  constructor
  · rintro ⟨r, hr, rfl⟩
    obtain ⟨h1, h2⟩ := List.mem_filter.mp hr
    have h := S.rows r h1
    unfold nbB at h2
    rw [Bool.or_eq_true, decide_eq_true_eq, decide_eq_true_eq] at h2
    rcases h2 with e | e
    · rw [e, show r.1 + r.2.1 - r.1 = r.2.1 by omega, leastB_row S h1]; omega
    · rw [e, show r.1 + r.2.1 - r.2.1 = r.1 by omega, leastB_comm, leastB_row S h1]; omega
  · intro h
    obtain ⟨r, hr, e⟩ := leastB_pos S h
    have e1 : r.1 = min i j := congrArg Prod.fst e
    have e2 : r.2.1 = max i j := congrArg Prod.snd e
    refine ⟨r, List.mem_filter.mpr ⟨hr, ?_⟩, ?_⟩
    · unfold nbB
      rw [Bool.or_eq_true, decide_eq_true_eq, decide_eq_true_eq]
      omega
    · omega
theorem nb_range {n : Int} {ls : List Row} (S : SepG n ls) {i j : Int} (h : 0 < leastB ls i j) : 0 ≤ i ∧ i < n ∧ 0 ≤ j ∧ j < n ∧ i ≠ j := by
  obtain ⟨r, hr, e⟩ := leastB_pos S h
  have e1 : r.1 = min i j := congrArg Prod.fst e
  have e2 : r.2.1 = max i j := congrArg Prod.snd e
  have := S.rows r hr
  omega
/-- channels that are told so far -/
structure GOk (n : Int) (ls : List Row) (c : Int) (g : List (Int × Int)) : Prop where
  len : g.length ≤ 100
  rg : ∀ i a, val g i = some a → 0 ≤ i ∧ i < n ∧ 0 ≤ a ∧ a < c
  kp : ∀ i j a b, val g i = some a → val g j = some b → i ≠ j → leastB ls i j ≤ ((a - b).natAbs : Int)
def restI (n : Int) (g : List (Int × Int)) : List Int := ((List.range n.toNat).map Int.ofNat).filter fun i => (val g i).isNone
theorem rest_iff {n : Int} {g : List (Int × Int)} {i : Int} : i ∈ restI n g ↔ 0 ≤ i ∧ i < n ∧ val g i = none := by
  unfold restI
  rw [List.mem_filter, List.mem_map, Option.isNone_iff_eq_none]
  constructor
  · rintro ⟨⟨k, hk, rfl⟩, h⟩
    rw [List.mem_range] at hk
    exact ⟨by show (0 : Int) ≤ (k : Int); omega, by show (k : Int) < n; omega, h⟩
  · rintro ⟨h1, h2, h3⟩
    exact ⟨⟨i.toNat, by rw [List.mem_range]; omega, by show ((i.toNat : Nat) : Int) = i; omega⟩, h3⟩
theorem filter_lt {α : Type} {p r : α → Bool} {x : α} : ∀ {xs : List α}, x ∈ xs → p x = true → r x = false → (∀ y, r y = true → p y = true) → (xs.filter r).length < (xs.filter p).length
  | y :: xs, hx, hp, hr, h => by
    have le : ∀ zs : List α, (zs.filter r).length ≤ (zs.filter p).length := by
      intro zs
      induction zs with
      | nil => exact Nat.le_refl _
      | cons z zs ih =>
        rw [List.filter_cons, List.filter_cons]
        by_cases e : r z = true
        · rw [if_pos e, if_pos (h z e), List.length_cons, List.length_cons]; omega
        · rw [if_neg e]
          split
          · rw [List.length_cons]; omega
          · exact ih
    rw [List.filter_cons, List.filter_cons]
    rcases List.mem_cons.mp hx with e | e
    · subst e
      rw [if_neg (by rw [hr]; exact Bool.false_ne_true), if_pos hp, List.length_cons]
      have := le xs
      omega
    · have ih := filter_lt e hp hr h
      by_cases e : r y = true
      · rw [if_pos e, if_pos (h y e), List.length_cons, List.length_cons]; omega
      · rw [if_neg e]
        split
        · rw [List.length_cons]; omega
        · exact ih
theorem rest_lt {n : Int} {g : List (Int × Int)} {i c : Int} (h : i ∈ restI n g) : (restI n (g ++ [(i, c)])).length < (restI n g).length := by
  obtain ⟨h1, h2, h3⟩ := rest_iff.mp h
  have hm := (List.mem_filter.mp h).1
  refine filter_lt hm (by rw [h3]; rfl) (by rw [val_snoc h3]; unfold setv; rw [if_pos rfl]; rfl) fun y hy => ?_
  rw [val_snoc h3] at hy
  unfold setv at hy
  by_cases e : y = i
  · rw [if_pos e] at hy; cases hy
  · rw [if_neg e] at hy; exact hy
theorem GOk.snoc {n : Int} {ls : List Row} {c : Int} {g : List (Int × Int)} (S : SepG n ls) (G : GOk n ls c g) {i ch : Int} (h : val g i = none) (hg : g.length < 100) (h1 : 0 ≤ i) (h2 : i < n) (h3 : 0 ≤ ch) (h4 : ch < c) (hc : ¬ Conf n ls (val g) i ch) : GOk n ls c (g ++ [(i, ch)]) := by
  refine ⟨by rw [List.length_append]; exact hg, fun j a e => ?_, fun j k a b e1 e2 ne => ?_⟩
  · rw [val_snoc h] at e
    unfold setv at e
    by_cases ej : j = i
    · rw [if_pos ej] at e; cases e; omega
    · rw [if_neg ej] at e; exact G.rg j a e
  · rw [val_snoc h] at e1 e2
    unfold setv at e1 e2
    by_cases ej : j = i
    · rw [if_pos ej] at e1
      cases e1
      rw [if_neg (show ¬ k = i from fun z => ne (ej.trans z.symm))] at e2
      subst ej
      have hk := G.rg k b e2
      refine Int.not_lt.mp fun z => hc ⟨k, b, hk.1, hk.2.1, e2, z⟩
    · rw [if_neg ej] at e1
      by_cases ek : k = i
      · rw [if_pos ek] at e2
        cases e2
        subst ek
        have hj := G.rg j a e1
        refine Int.not_lt.mp fun z => hc ⟨j, a, hj.1, hj.2.1, e1, ?_⟩
        rw [leastB_comm]
        omega
      · rw [if_neg ek] at e2
        exact G.kp j k a b e1 e2 ne
/-- all have one -/
theorem GOk.keeps {n : Int} {ls : List Row} {c : Int} {g : List (Int × Int)} (G : GOk n ls c g) (h : restI n g = []) : Keeps n ls c (fun i => (val g i).getD 0) := by
  have some : ∀ i, 0 ≤ i → i < n → ∃ a, val g i = some a := fun i h1 h2 => by
    cases e : val g i with
    | some a => exact ⟨a, rfl⟩
    | none =>
      have z := rest_iff.mpr ⟨h1, h2, e⟩
      rw [h] at z
      cases z
  refine ⟨fun i h1 h2 => ?_, fun i j h1 h2 h3 h4 ne => ?_⟩
  · obtain ⟨a, e⟩ := some i h1 h2
    rw [e]
    exact (G.rg i a e).2.2
  · obtain ⟨a, e⟩ := some i h1 h2
    obtain ⟨b, e'⟩ := some j h3 h4
    rw [e, e']
    exact G.kp i j a b e e' ne
open Classical in
noncomputable def confB (n : Int) (ls : List Row) (v : Int → Option Int) (i ch : Int) : Bool := decide (Conf n ls v i ch)
open Classical in
theorem confB_t {n : Int} {ls : List Row} {v : Int → Option Int} {i ch : Int} : confB n ls v i ch = true ↔ Conf n ls v i ch := by
  unfold confB
  rw [decide_eq_true_eq]
open Classical in
theorem confB_f {n : Int} {ls : List Row} {v : Int → Option Int} {i ch : Int} : confB n ls v i ch = false ↔ ¬ Conf n ls v i ch := by
  unfold confB
  rw [decide_eq_false_iff_not]
noncomputable def freeI (n : Int) (ls : List Row) (c : Int) (v : Int → Option Int) (i : Int) : List Int := ((List.range c.toNat).map Int.ofNat).filter fun ch => !confB n ls v i ch
theorem free_iff {n : Int} {ls : List Row} {c : Int} {v : Int → Option Int} {i ch : Int} : ch ∈ freeI n ls c v i ↔ 0 ≤ ch ∧ ch < c ∧ ¬ Conf n ls v i ch := by
  unfold freeI
  rw [List.mem_filter, List.mem_map, Bool.not_eq_true', confB_f]
  constructor
  · rintro ⟨⟨k, hk, rfl⟩, h⟩
    rw [List.mem_range] at hk
    exact ⟨by show (0 : Int) ≤ (k : Int); omega, by show (k : Int) < c; omega, h⟩
  · rintro ⟨h1, h2, h3⟩
    exact ⟨⟨ch.toNat, by rw [List.mem_range]; omega, by show ((ch.toNat : Nat) : Int) = ch; omega⟩, h3⟩
theorem foldK_val {f : Int → D} {b : Int} : ∀ {l : List Int}, b ∈ l → valD (foldK (fun d => match d with | .int i => (.inl i : Key) | _ => .inl 0) (fun d => match d with | .int i => f i | _ => .non) (l.map D.int)) (.inl b : Key) = some (f b) := by
  intro l
  suffices h : ∀ r : List Int, b ∈ r.reverse → valD (foldK (fun d => match d with | .int i => (.inl i : Key) | _ => .inl 0) (fun d => match d with | .int i => f i | _ => .non) (r.reverse.map D.int)) (.inl b : Key) = some (f b) by
    intro hb
    have := h l.reverse (by rw [List.reverse_reverse]; exact hb)
    rw [List.reverse_reverse] at this
    exact this
  intro r
  induction r with
  | nil => intro h; cases h
  | cons x r ih =>
    intro h
    rw [List.reverse_cons, List.map_append, List.map_cons, List.map_nil, foldK_snoc, valD_put]
    show (if (Sum.inl b : Key) = Sum.inl x then some (f x) else _) = _
    by_cases e : b = x
    · rw [if_pos (by rw [e]), e]
    · rw [if_neg fun z => e (Sum.inl.inj z)]
      refine ih ?_
      rw [List.reverse_cons] at h
      rcases List.mem_append.mp h with h | h
      · exact h
      · exact absurd (List.mem_singleton.mp h) e

/-! ### neighbors, breaks, would_break, free_channels, clash_with -/
theorem ps_never {X : Cx} {st : Stmt} : PS X st (fun _ _ _ => False) := ⟨fun _ _ _ _ _ _ h => h.elim⟩
section
variable {P : Program} {w : World} {K : PySem.W.Frag} {mg : Str → Option Value} {base : Heap}
theorem rows_inj : ∀ {a b : List Row}, a.map rowD = b.map rowD → a = b
  | [], [], _ => rfl
  | [], _ :: _, h => nomatch h
  | _ :: _, [], h => nomatch h
  | (a1, a2, a3) :: a, (b1, b2, b3) :: b, h => by
    obtain ⟨h1, h2⟩ := List.cons.inj h
    have h1 : D.tup [.int a1, .int a2, .int a3] = D.tup [.int b1, .int b2, .int b3] := h1
    injection h1 with h1
    injection h1 with x1 h1
    injection h1 with x2 h1
    injection h1 with x3 _
    injection x1 with x1
    injection x2 with x2
    injection x3 with x3
    rw [x1, x2, x3, rows_inj h2]
theorem sep_inj {n m : Int} {a b : List Row} (h : sepD n a = sepD m b) : n = m ∧ a = b := by
  unfold sepD rowsD at h
  injection h with h
  injection h with x1 h
  injection h with x2 _
  injection x1 with x1
  injection x2 with x2
  exact ⟨x1, rows_inj x2⟩
def RNb : List D → D → Prop := fun ds d => ∀ (n i : Int) (ls : List Row), ds = [sepD n ls, .int i] → ∃ js : List Int, d = .lst (js.map D.int) ∧ js.Perm (nbI ls i)
def PNb : List D → Prop := fun ds => ∃ (n i : Int) (ls : List Row), ds = [sepD n ls, .int i] ∧ ls.length ≤ 1000
theorem sc_neighbors : FnScope ["separations", "i", "row"] ["separations", "i"] (defScope s_neighbors) := ⟨rfl, rfl, rfl, by decide +kernel, rfl, by decide +kernel, by decide +kernel⟩
theorem row_cut (r : Row) : ([r.1, r.2.1] : List Int).map D.int = [.int r.1, .int r.2.1] := rfl
theorem ok_neighbors (B : Bi mg) {f : Addr} {fd : FuncData} (F : Fun K "neighbors" "neighbors" s_neighbors f fd) : FnOk P w K mg base CX0 1 f fd ["separations", "i"] (SpR K 2 PNb RNb) := by
  have S := sc_neighbors
  refine fn_okR F S rfl 1 rfl fun cdv A outer s H E hr => ⟨_, ((pss_one (ps_ret (pe_callB c_sortedA (by rfl) B.sorted (by decide +kernel) (pa_cons (pe_lc (own := [("row", 2)]) (g := (gName 2)) (by rfl) S.nd (pi_tup (pe_ix ix_tup (pv 0) pe_int (fun _ _ => rfl))) (blkOk_by (N := ["separations", "i", "row"]) (sc := defScope s_neighbors) (own := [("row", 2)]) (by decide +kernel)) (fun _ _ _ _ _ => (pg_name (i := 2) S.nd rfl (by first | exact Or.inl rfl | exact Or.inr rfl))) (fun _ _ _ _ _ => pts_one (pt_cmpR (kop_in_seq (K := K) (by rfl)) (pv 1) (pe_slice (ksl_tupA (K := K) (by rfl)) (pv 2) po_none (po_some pe_int)) (by rfl))) (fun _ _ _ _ _ => (pe_op op_sub (pe_op op_add (pe_ix (kix_tup (K := K) (by rfl)) (pv 2) pe_int (fun _ _ => rfl)) (pe_ix (kix_tup (K := K) (by rfl)) (pv 2) pe_int (fun _ _ => rfl))) (pv 1)))) pa_nil))))), fun φ ds H D0 σ hl hP hrt A => ?_⟩
  obtain ⟨n, i, ls, rfl, hz⟩ := hP
  replace A : At K φ (Same H) [some (sepD n ls), some (.int i), none] σ H := A
  refine st_ret A (ev_sortedA (ns := nbI ls i) ((ev_lcF (p := fun d => match d with | .tup [.int a, .int b, _] => decide (i = a) || decide (i = b) | _ => false) (f := fun d => match d with | .tup [.int a, .int b, _] => .int (a + b - i) | _ => .non) (it_tup (ev_sep1 (ev_var rfl))) (by rw [List.length_map]; omega) (fun d hd φ' J' hx => ?_) (fun d hd hp φ' J' hx => ?_)).is ?_)) fun v d' H6 ⟨js, e, hp, _⟩ A6 r => hrt _ v H6 (fun n' i' ls' e' => ?_) A6.j r
  · obtain ⟨r, hr, rfl⟩ := List.mem_map.mp hd
    refine (et_B (ev_inT (i := i) (ns := [r.1, r.2.1]) (ev_var rfl) (ev_rowP (r := r) (ev_var rfl)))).imp fun b e => e.trans ?_
    show decide (i ∈ [r.1, r.2.1]) = (decide (i = r.1) || decide (i = r.2.1))
    rw [Bool.eq_iff_iff, decide_eq_true_eq, Bool.or_eq_true, decide_eq_true_eq, decide_eq_true_eq]
    simp
  · obtain ⟨r, hr, rfl⟩ := List.mem_map.mp hd
    exact ev_sub (ev_add (ev_row0 (ev_var rfl)) (ev_row1 (ev_var rfl))) (ev_var rfl)
  · rw [ls_filter_map (p := nbB i) fun r => rfl]
    unfold nbI
    rw [List.map_map, List.map_map]
    rfl
  · have h1 := (sep_inj (List.cons.inj e').1).2
    have h2 := D.int.inj (List.cons.inj (List.cons.inj e').2).1
    subst h1 h2
    exact ⟨js, e, hp⟩
def RBreaks : List D → D → Prop := fun ds d => ∃ (n i j a b : Int) (ls : List Row), ds = [sepD n ls, .int i, .int j, .int a, .int b] ∧ d = .bl (decide (((a - b).natAbs : Int) < leastB ls i j))
theorem sc_breaks : FnScope ["separations", "i", "j", "first", "second"] ["separations", "i", "j", "first", "second"] (defScope s_breaks) := ⟨rfl, rfl, rfl, by decide +kernel, rfl, by decide +kernel, by decide +kernel⟩
theorem ok_breaks (B : Bi mg) {f g : Addr} {fd gd : FuncData} (F : Fun K "breaks" "breaks" s_breaks f fd) (L_least_between : Lk K mg "least_between" g gd ["separations", "i", "j"]) (G_least_between : FnOk P w K mg base CX0 1 g gd ["separations", "i", "j"] (SpD K 3 RLeast)) :
    FnOk P w K mg base CX0 2 f fd ["separations", "i", "j", "first", "second"] (SpD K 5 RBreaks) := by
  have S := sc_breaks
  refine fn_ok F S rfl 0 rfl fun cdv A outer s H E hr => ⟨_, ((pss_one (ps_ret (pe_cmpR op_lt (pe_callB c_abs (by rfl) B.abs (by decide +kernel) (pa_cons (pe_op op_sub (pv 3) (pv 4)) pa_nil)) (pe_call G_least_between (hr.mono (by first | exact Nat.le_refl _ | decide | omega)) (by rfl) L_least_between.m L_least_between.kp L_least_between.bi .nil pass0 (pa_cons (pv 0) (pa_cons (pv 1) (pa_cons (pv 2) pa_nil)))) (nomark _))))), fun φ ds d H D0 σ hl hR hrt hnx A => ?_⟩
  obtain ⟨n, i, j, a, b, ls, rfl, rfl⟩ := hR
  replace A : At K φ (Same H) [some (sepD n ls), some (.int i), some (.int j), some (.int a), some (.int b)] σ H := A
  exact st_ret A (ev_lt (ev_abs (ev_sub (ev_var rfl) (ev_var rfl))) (ev_callD (ea_cons (ev_var rfl) (ea_cons (ev_var rfl) (ea_cons (ev_var rfl) ea_nil))) ⟨n, i, j, ls, rfl, rfl⟩)) fun v d' H6 e A6 r => hrt v H6 A6.j (by subst e; exact r)
def RWould : List D → D → Prop := fun ds d => ∃ (n i ch : Int) (ls : List Row) (g : List (Int × Int)), ds = [sepD n ls, gD g, .int i, .int ch] ∧ SepG n ls ∧ d = .bl (confB n ls (val g) i ch)
theorem sc_would_break : FnScope ["separations", "given", "i", "channel", "j"] ["separations", "given", "i", "channel"] (defScope s_would_break) := ⟨rfl, rfl, rfl, by decide +kernel, rfl, by decide +kernel, by decide +kernel⟩
/-- one neighbor's test -/
def hitB (ls : List Row) (g : List (Int × Int)) (i ch j : Int) : Bool := (val g j).isSome && decide (((ch - (val g j).getD 0).natAbs : Int) < leastB ls i j)
theorem hit_conf {n : Int} {ls : List Row} (S : SepG n ls) {g : List (Int × Int)} {i ch j : Int} (h : hitB ls g i ch j = true) : ∃ b, 0 ≤ i ∧ i < n ∧ 0 ≤ j ∧ j < n ∧ i ≠ j ∧ val g j = some b ∧ ((ch - b).natAbs : Int) < leastB ls i j := by
  unfold hitB at h
  rw [Bool.and_eq_true, decide_eq_true_eq] at h
  cases e : val g j with
  | none => rw [e] at h; cases h.1
  | some b =>
    rw [e] at h
    have h2 : ((ch - b).natAbs : Int) < leastB ls i j := h.2
    have := nb_range S (i := i) (j := j) (by omega)
    exact ⟨b, this.1, this.2.1, this.2.2.1, this.2.2.2.1, this.2.2.2.2, rfl, h2⟩
theorem conf_hit {n : Int} {ls : List Row} (S : SepG n ls) {g : List (Int × Int)} {i ch : Int} (h : Conf n ls (val g) i ch) : ∃ j ∈ nbI ls i, hitB ls g i ch j = true := by
  obtain ⟨j, b, j1, j2, e, h⟩ := h
  refine ⟨j, (nb_iff S).mpr (by omega), ?_⟩
  unfold hitB
  rw [e, Bool.and_eq_true, decide_eq_true_eq]
  exact ⟨rfl, h⟩
theorem et_hit {φ : Addr → Prop} {J : Hp → Prop} {ρ : List (Option D)} {n i ch j : Int} {ls : List Row} {g : List (Int × Int)} {k1 k2 k3 k4 k5 : Nat} {E : XK} (h1 : ρ[k1]? = some (some (sepD n ls))) (h2 : ρ[k2]? = some (some (gD g))) (h3 : ρ[k3]? = some (some (.int i))) (h4 : ρ[k4]? = some (some (.int ch))) (h5 : ρ[k5]? = some (some (.int j))) :
    EvX K φ J (tAnd (tTest (tDIn (tVar k5) (tVar k2))) (tB (tCall (SpD K 5 RBreaks) [] E (tCons (tVar k1) (tCons (tVar k3) (tCons (tVar k5) (tCons (tVar k4) (tCons (tDGet (tVar k2) (tVar k5)) tNil)))))))) ρ (hitB ls g i ch j) := by
  refine et_and (b := (val g j).isSome) (c := decide (((ch - (val g j).getD 0).natAbs : Int) < leastB ls i j)) ?_ fun hb => ?_
  · have e : (valD (kdsG g) (.inl j : Key)).isSome = (val g j).isSome := by rw [valD_kds, Option.isSome_map]
    rw [← e]
    exact et_test (ev_din (k := (.inl j : Key)) (ev_var h5) (ed_frozen (ev_var h2)))
  · obtain ⟨b, hb⟩ := Option.isSome_iff_exists.mp hb
    have hg : EvD K φ J (tDGet (tVar k2) (tVar k5)) ρ (.int b) := ev_dget (k := (.inl j : Key)) (ed_frozen (ev_var h2)) (ev_var h5) (by rw [valD_kds, hb]; rfl)
    rw [hb]
    exact et_B (ev_callD (ea_cons (ev_var h1) (ea_cons (ev_var h3) (ea_cons (ev_var h5) (ea_cons (ev_var h4) (ea_cons hg ea_nil))))) ⟨n, i, j, ch, b, ls, rfl, rfl⟩)
theorem ok_would_break (B : Bi mg) {f g g1 : Addr} {fd gd gd1 : FuncData} (F : Fun K "would_break" "would_break" s_would_break f fd) (L_neighbors : Lk K mg "neighbors" g gd ["separations", "i"]) (G_neighbors : FnOk P w K mg base CX0 1 g gd ["separations", "i"] (SpR K 2 PNb RNb))
    (L_breaks : Lk K mg "breaks" g1 gd1 ["separations", "i", "j", "first", "second"]) (G_breaks : FnOk P w K mg base CX0 2 g1 gd1 ["separations", "i", "j", "first", "second"] (SpD K 5 RBreaks)) :
    FnOk P w K mg base CX0 3 f fd ["separations", "given", "i", "channel"] (SpD K 4 RWould) := by
  have S := sc_would_break
  refine fn_ok F S rfl 1 rfl fun cdv A outer s H E hr => ⟨_, ((pss_cons (ps_for PassesOwn.never rfl (pi_list (pe_call G_neighbors (hr.mono (by first | exact Nat.le_refl _ | decide | omega)) (by rfl) L_neighbors.m L_neighbors.kp L_neighbors.bi .nil pass0 (pa_cons (pv 0) (pa_cons (pv 2) pa_nil)))) (pg_name (i := 4) S.nd rfl (by first | exact Or.inl rfl | exact Or.inr rfl))
 (pss_one (ps_if (PW.pt (pw_and (pt_cmp (pc_din hr.units1 (pv 4) (pv 1))) (pw_and1 (pt_val (pe_call G_breaks (hr.mono (by first | exact Nat.le_refl _ | decide | omega)) (by rfl) L_breaks.m L_breaks.kp L_breaks.bi .nil pass0 (pa_cons (pv 0) (pa_cons (pv 2) (pa_cons (pv 4) (pa_cons (pv 3) (pa_cons (pe_dget hr.units1 (pv 1) (pv 4) (fun _ _ => rfl)) pa_nil))))))))))
 (pss_one (ps_ret pe_bl))
 pss_nil)))
 (pss_one (ps_ret pe_bl)))), fun φ ds d H D0 σ hl hR hrt hnx A => ?_⟩
  obtain ⟨n, i, ch, ls, g, rfl, SG, rfl⟩ := hR
  replace A : At K φ (Same H) [some (sepD n ls), some (gD g), some (.int i), some (.int ch), none] σ H := A
  refine q (st_forP A (it_listP (P := fun ds => ∃ js : List Int, ds = js.map D.int ∧ js.Perm (nbI ls i)) ((ev_callR (ea_cons (ev_var rfl) (ea_cons (ev_var rfl) ea_nil)) ⟨n, i, ls, rfl, SG.len⟩).imp fun z hz => ?_)) fun ds H1 ⟨js, hjs, hperm⟩ A1 => ?_)
  · obtain ⟨js, e2, hp⟩ := hz n i ls rfl
    exact ⟨_, e2, js, rfl, hp⟩
  subst hjs
  refine forG_by A1 (fun k ρ' J' => (∃ o, ρ' = [some (sepD n ls), some (gD g), some (.int i), some (.int ch), o]) ∧ J' = Same H ∧ ∀ x ∈ js.take k, hitB ls g i ch x = false) ⟨⟨none, rfl⟩, rfl, fun x h => by simp at h⟩ ?_ ?_
  · rintro k d ρ' J' hd ⟨⟨o, rfl⟩, rfl, hno⟩
    rw [List.getElem?_map] at hd
    obtain ⟨j, hj, rfl⟩ := Option.map_eq_some_iff.mp hd
    refine ⟨_, _, eg_name, fun σ' H' A2 => ?_⟩
    refine st_if A2 (et_hit (n := n) (i := i) (ch := ch) (j := j) (ls := ls) (g := g) rfl rfl rfl rfl rfl) (fun hb H3 A3 => ?_) (fun hb H3 A3 => ?_)
    · refine st_ret A3 ev_bl fun v d' H6 e A6 r => hrt v H6 A6.j.1 ?_
      subst e
      obtain ⟨b, z1, z2, z3, z4, z5, z6, z7⟩ := hit_conf SG hb.symm
      have hc : confB n ls (val g) i ch = true := confB_t.mpr ⟨j, b, z3, z4, z6, z7⟩
      rw [hc]
      exact r
    · refine ⟨_, _, ⟨⟨some (.int j), rfl⟩, rfl, fun x hx => ?_⟩, A3⟩
      rw [List.take_add_one, hj] at hx
      rcases List.mem_append.mp hx with h | h
      · exact hno x h
      · rw [List.mem_singleton.mp h]; exact hb.symm
  · rintro ρ' J' σ' H' ⟨⟨o, rfl⟩, rfl, hno⟩ A2
    rw [List.length_map, List.take_length] at hno
    refine st_ret A2 ev_bl fun v d' H6 e A6 r => hrt v H6 A6.j.1 ?_
    subst e
    have hc : confB n ls (val g) i ch = false := confB_f.mpr fun hc => by
      obtain ⟨j, hj, hh⟩ := conf_hit SG hc
      rw [hno j (hperm.mem_iff.mpr hj)] at hh
      cases hh
    rw [hc]
    exact r
def RFree : List D → D → Prop := fun ds d => ∃ (n c i : Int) (ls : List Row) (g : List (Int × Int)), ds = [sepD n ls, .int c, gD g, .int i] ∧ SepG n ls ∧ 0 ≤ c ∧ c ≤ 1000 ∧ d = .lst ((freeI n ls c (val g) i).map D.int)
theorem sc_free_channels : FnScope ["separations", "channels", "given", "i", "one"] ["separations", "channels", "given", "i"] (defScope s_free_channels) := ⟨rfl, rfl, rfl, by decide +kernel, rfl, by decide +kernel, by decide +kernel⟩
theorem rangeD_ints (n : Nat) : rangeD 0 n = ((List.range n).map Int.ofNat).map D.int := by
  unfold rangeD
  rw [List.map_map]
  refine List.map_congr_left fun i _ => ?_
  show D.int (0 + (i : Int)) = D.int (i : Int)
  rw [Int.zero_add]
theorem ok_free_channels (B : Bi mg) {f g : Addr} {fd gd : FuncData} (F : Fun K "free_channels" "free_channels" s_free_channels f fd) (L_would_break : Lk K mg "would_break" g gd ["separations", "given", "i", "channel"]) (G_would_break : FnOk P w K mg base CX0 3 g gd ["separations", "given", "i", "channel"] (SpD K 4 RWould)) :
    FnOk P w K mg base CX0 4 f fd ["separations", "channels", "given", "i"] (SpD K 4 RFree) := by
  have S := sc_free_channels
  refine fn_ok F S rfl 1 rfl fun cdv A outer s H E hr => ⟨_, ((pss_one (ps_ret (pe_lc (own := [("one", 4)]) (g := (gName 4)) (by rfl) S.nd (pi_range1 (by rfl) B.range (pa_cons (pv 1) pa_nil)) (blkOk_by (N := ["separations", "channels", "given", "i", "one"]) (sc := defScope s_free_channels) (own := [("one", 4)]) (by decide +kernel)) (fun _ _ _ _ _ => (pg_name (i := 4) S.nd rfl (by first | exact Or.inl rfl | exact Or.inr rfl))) (fun _ _ _ _ _ => pts_one (pt_not (pt_val (pe_call G_would_break (hr.mono (by first | exact Nat.le_refl _ | decide | omega)) (by rfl) L_would_break.m L_would_break.kp L_would_break.bi .nil pass0 (pa_cons (pv 0) (pa_cons (pv 2) (pa_cons (pv 3) (pa_cons (pv 4) pa_nil)))))))) (fun _ _ _ _ _ => (pv 4)))))), fun φ ds d H D0 σ hl hR hrt hnx A => ?_⟩
  obtain ⟨n, c, i, ls, g, rfl, SG, c0, c1, rfl⟩ := hR
  replace A : At K φ (Same H) [some (sepD n ls), some (.int c), some (gD g), some (.int i), none] σ H := A
  refine st_ret A ((ev_lcF (p := fun d => match d with | .int ch => !confB n ls (val g) i ch | _ => false) (f := fun d => d) (it_range1 (ea_cons (ev_var rfl) ea_nil) (by omega)) (by rw [rangeD_length]; omega) (fun d hd φ' J' hx => ?_) (fun d hd hp φ' J' hx => ev_var rfl)).is ?_) fun v d' H6 e A6 r => hrt v H6 A6.j (by subst e; exact r)
  · rw [rangeD_ints] at hd
    obtain ⟨ch, _, rfl⟩ := List.mem_map.mp hd
    exact et_not (et_B (ev_callD (ea_cons (ev_var rfl) (ea_cons (ev_var rfl) (ea_cons (ev_var rfl) (ea_cons (ev_var rfl) ea_nil)))) ⟨n, i, ch, ls, g, rfl, SG, rfl⟩))
  · rw [rangeD_ints, List.map_id']
    unfold freeI
    rw [List.filter_map]
    rfl
def PClash : List D → Prop := fun ds => ∃ (n i ch : Int) (ls : List Row) (g : List (Int × Int)), ds = [sepD n ls, gD g, .int i, .int ch] ∧ SepG n ls ∧ Conf n ls (val g) i ch
def RClash : List D → D → Prop := fun ds d => ∃ (n i ch j b : Int) (ls : List Row) (g : List (Int × Int)), ds = [sepD n ls, gD g, .int i, .int ch] ∧ d = .tup [.str "clash", .int i, .int j] ∧ 0 ≤ j ∧ j < n ∧ val g j = some b ∧ ((ch - b).natAbs : Int) < leastB ls i j
theorem sc_clash_with : FnScope ["separations", "given", "i", "channel", "j"] ["separations", "given", "i", "channel"] (defScope s_clash_with) := ⟨rfl, rfl, rfl, by decide +kernel, rfl, by decide +kernel, by decide +kernel⟩
theorem ok_clash_with (B : Bi mg) {f g g1 : Addr} {fd gd gd1 : FuncData} (F : Fun K "clash_with" "clash_with" s_clash_with f fd) (L_neighbors : Lk K mg "neighbors" g gd ["separations", "i"]) (G_neighbors : FnOk P w K mg base CX0 1 g gd ["separations", "i"] (SpR K 2 PNb RNb))
    (L_breaks : Lk K mg "breaks" g1 gd1 ["separations", "i", "j", "first", "second"]) (G_breaks : FnOk P w K mg base CX0 2 g1 gd1 ["separations", "i", "j", "first", "second"] (SpD K 5 RBreaks)) :
    FnOk P w K mg base CX0 3 f fd ["separations", "given", "i", "channel"] (SpR K 4 PClash RClash) := by
  have S := sc_clash_with
  refine fn_okR F S rfl 1 rfl fun cdv A outer s H E hr => ⟨_, ((pss_cons (ps_for PassesOwn.never rfl (pi_list (pe_call G_neighbors (hr.mono (by first | exact Nat.le_refl _ | decide | omega)) (by rfl) L_neighbors.m L_neighbors.kp L_neighbors.bi .nil pass0 (pa_cons (pv 0) (pa_cons (pv 2) pa_nil)))) (pg_name (i := 4) S.nd rfl (by first | exact Or.inl rfl | exact Or.inr rfl))
 (pss_one (ps_if (PW.pt (pw_and (pt_cmp (pc_din hr.units1 (pv 4) (pv 1))) (pw_and1 (pt_val (pe_call G_breaks (hr.mono (by first | exact Nat.le_refl _ | decide | omega)) (by rfl) L_breaks.m L_breaks.kp L_breaks.bi .nil pass0 (pa_cons (pv 0) (pa_cons (pv 2) (pa_cons (pv 4) (pa_cons (pv 3) (pa_cons (pe_dget hr.units1 (pv 1) (pv 4) (fun _ _ => rfl)) pa_nil))))))))))
 (pss_one (ps_ret (pe_tup (pa_cons pe_str (pa_cons (pv 2) (pa_cons (pv 4) pa_nil))))))
 pss_nil)))
 (pss_one ps_never))), fun φ ds H D0 σ hl hP hrt A => ?_⟩
  obtain ⟨n, i, ch, ls, g, rfl, SG, hconf⟩ := hP
  replace A : At K φ (Same H) [some (sepD n ls), some (gD g), some (.int i), some (.int ch), none] σ H := A
  refine q (st_forP A (it_listP (P := fun ds => ∃ js : List Int, ds = js.map D.int ∧ js.Perm (nbI ls i)) ((ev_callR (ea_cons (ev_var rfl) (ea_cons (ev_var rfl) ea_nil)) ⟨n, i, ls, rfl, SG.len⟩).imp fun z hz => ?_)) fun ds H1 ⟨js, hjs, hperm⟩ A1 => ?_)
  · obtain ⟨js, e2, hp⟩ := hz n i ls rfl
    exact ⟨_, e2, js, rfl, hp⟩
  subst hjs
  refine forG_by A1 (fun k ρ' J' => (∃ o, ρ' = [some (sepD n ls), some (gD g), some (.int i), some (.int ch), o]) ∧ J' = Same H ∧ ∀ x ∈ js.take k, hitB ls g i ch x = false) ⟨⟨none, rfl⟩, rfl, fun x h => by simp at h⟩ ?_ ?_
  · rintro k d ρ' J' hd ⟨⟨o, rfl⟩, rfl, hno⟩
    rw [List.getElem?_map] at hd
    obtain ⟨j, hj, rfl⟩ := Option.map_eq_some_iff.mp hd
    refine ⟨_, _, eg_name, fun σ' H' A2 => ?_⟩
    replace A2 : At K φ (fun H_1 => Same H H_1 ∧ But φ H1 H_1) [some (sepD n ls), some (gD g), some (.int i), some (.int ch), some (.int j)] σ' H' := A2
    refine st_if A2 (et_hit (n := n) (i := i) (ch := ch) (j := j) (ls := ls) (g := g) rfl rfl rfl rfl rfl) (fun hb H3 A3 => ?_) (fun hb H3 A3 => ?_)
    · obtain ⟨b, z1, z2, z3, z4, z5, z6, z7⟩ := hit_conf SG hb.symm
      exact st_ret A3 (ev_tup (ea_cons ev_str (ea_cons (ev_var rfl) (ea_cons (ev_var rfl) ea_nil)))) fun v d' H6 e A6 r => hrt _ v H6 ⟨n, i, ch, j, b, ls, g, rfl, e, z3, z4, z6, z7⟩ A6.j.1 r
    · refine ⟨_, _, ⟨⟨some (.int j), rfl⟩, rfl, fun x hx => ?_⟩, A3⟩
      rw [List.take_add_one, hj] at hx
      rcases List.mem_append.mp hx with h | h
      · exact hno x h
      · rw [List.mem_singleton.mp h]; exact hb.symm
  · rintro ρ' J' σ' H' ⟨⟨o, rfl⟩, rfl, hno⟩ A2
    rw [List.length_map, List.take_length] at hno
    obtain ⟨j, hj, hh⟩ := conf_hit SG hconf
    rw [hno j (hperm.mem_iff.mpr hj)] at hh
    cases hh
end

/-! ### search -/
def q0 : Str := (envOfC "search" (defScope s_search) 0 0 .none).qual ++ "<lambda>"
def lamAt : Option Stmt → Pos
  | some (Stmt.Assign _ (Expr.Call _ _ [⟨_, Expr.Lambda _ _ _ p, _⟩] _) _) => p
  | _ => ⟨0, 0, 0, 0⟩
def posS : Pos := lamAt (defBody s_search)[3]?
theorem kds_inj : ∀ {a b : List (Int × Int)}, (kdsG a).map (·.1) = (kdsG b).map (·.1) → (kdsG a).map (·.2) = (kdsG b).map (·.2) → a = b
  | [], [], _, _ => rfl
  | [], _ :: _, h, _ => nomatch h
  | _ :: _, [], h, _ => nomatch h
  | (a1, a2) :: a, (b1, b2) :: b, h, h' => by
    obtain ⟨h1, h2⟩ := List.cons.inj h
    obtain ⟨h3, h4⟩ := List.cons.inj h'
    have h1 : (Sum.inl a1 : Key) = Sum.inl b1 := h1
    have h3 : D.int a2 = D.int b2 := h3
    injection h1 with h1
    injection h3 with h3
    rw [h1, h3, kds_inj h2 h4]
theorem gD_inj {a b : List (Int × Int)} (h : gD a = gD b) : a = b := by
  have h : D.dk ((kdsG a).map (·.1)) ((kdsG a).map (·.2)) = D.dk ((kdsG b).map (·.1)) ((kdsG b).map (·.2)) := h
  injection h with h1 h2
  exact kds_inj h1 h2
def PSearch : Nat → List D → Prop
  | 0, _ => False
  | r + 1, ds => ∃ (n c : Int) (ls : List Row) (g : List (Int × Int)), ds = [sepD n ls, .int c, gD g] ∧ SepG n ls ∧ 0 ≤ c ∧ c ≤ 100 ∧ GOk n ls c g ∧ g.length + r ≤ 60 ∧ (restI n g).length ≤ r
def RSearch : List D → D → Prop := fun ds d => ∀ (n c : Int) (ls : List Row) (g : List (Int × Int)), ds = [sepD n ls, .int c, gD g] → (∃ g', d = .tup [.bl true, gD g'] ∧ GOk n ls c g' ∧ restI n g' = []) ∨ ∃ t, d = .tup [.bl false, t] ∧ Rt n ls c (val g) t
theorem rs_of {n c : Int} {ls : List Row} {g : List (Int × Int)} {d : D} (h : (∃ g', d = .tup [.bl true, gD g'] ∧ GOk n ls c g' ∧ restI n g' = []) ∨ ∃ t, d = .tup [.bl false, t] ∧ Rt n ls c (val g) t) : RSearch [sepD n ls, .int c, gD g] d := fun n' c' ls' g' e => by
  obtain ⟨e1, e⟩ := List.cons.inj e
  obtain ⟨e2, e⟩ := List.cons.inj e
  obtain ⟨e3, _⟩ := List.cons.inj e
  obtain ⟨rfl, rfl⟩ := sep_inj e1
  injection e2 with e2
  subst e2
  obtain rfl := gD_inj e3
  exact h
section
variable {K : PySem.W.Frag} {φ : Addr → Prop} {J : Hp → Prop} {ρ : List (Option D)} {te : TE} {ta : TA}
theorem ev_lenP (h : EvP K φ J te ρ (fun z => ∃ ds, z = .lst ds)) : EvP K φ J (tCB (rLen K) (tCons te tNil)) ρ (fun z => ∃ i : Int, z = .int i) := ev_cb (ea_consP h ea_nil) fun ds ⟨d, r, e, ⟨es, e1⟩, e2⟩ => by
  subst e e1 e2
  exact fun H vs f r Q q => cl_lenL H vs f r Q fun u z H' s pz => q u z H' s ⟨_, pz⟩
theorem ev_negP (h : EvP K φ J te ρ (fun z => ∃ i : Int, z = .int i)) : EvP K φ J (tUn (rU fun i => .int (-i)) te) ρ (fun z => ∃ i : Int, z = .int i) := fun σ H A Q q => h σ H A _ fun v x H1 b1 A1 ⟨i, e⟩ r1 => by
  subst e
  exact ⟨i, r1, q _ _ H1 b1 A1 ⟨-i, rfl⟩ rfl⟩
theorem ev_newDk {kds : List (Key × D)} (h : EvNO K φ J te ρ (fun xs C => xs = kds.map (·.2) ∧ C = fun vs => HO.dK ((kds.map (·.1)).zip vs))) : EvD K φ J te ρ (dictD kds) := fun σ H A Q q => h σ H A _ fun p vs ds C H0 H' b0 A0 hp b A' ⟨e1, e2⟩ nt e r => by
  subst e1 e2
  exact q _ _ H' (b0.trans b) A' rfl (DKind.rep.mpr ⟨p, vs, rfl, ⟨A0.fr.new p hp, e, by rw [List.length_map, List.length_map]⟩, Reps.up (fun a o p e => ⟨p.1, e⟩) _ vs r⟩)
end
theorem snoc_at {Q : Nat → D → Prop} {ts : List D} {t : D} (h : ∀ (i : Nat) (u : D), ts[i]? = some u → Q i u) (ht : Q ts.length t) : ∀ (i : Nat) (u : D), (ts ++ [t])[i]? = some u → Q i u := fun i u e => by
  rcases Nat.lt_or_ge i ts.length with z | z
  · rw [List.getElem?_append_left z] at e
    exact h i u e
  · rw [List.getElem?_append_right z] at e
    obtain ⟨z1, z2⟩ := List.getElem?_eq_some_iff.mp e
    have z1 : i - ts.length < 1 := z1
    have ei : i = ts.length := by omega
    subst ei
    rw [Nat.sub_self] at e
    cases e
    exact ht
section
variable {P : Program} {w : World} {K : PySem.W.Frag} {mg : Str → Option Value} {base : Heap}
theorem sc_search : FnScope ["separations", "channels", "given", "rest", "i", "options", "best", "trees", "channel", "further", "done", "found"] ["separations", "channels", "given"] (defScope s_search) := ⟨rfl, rfl, rfl, by decide +kernel, rfl, by decide +kernel, by decide +kernel⟩
set_option maxHeartbeats 2000000 in
theorem ok_search {c C0 : Addr} (TB : LamX.TabB base mg c C0) (B : Bi mg) {f g1 g2 g3 : Addr} {fd gd1 gd2 gd3 : FuncData} (F : FunC K "search" "search" s_search f fd c) (L_search : Lk K mg "search" f fd ["separations", "channels", "given"])
    (L_free_channels : Lk K mg "free_channels" g1 gd1 ["separations", "channels", "given", "i"]) (G_free_channels : FnOk P w K mg base CX0 4 g1 gd1 ["separations", "channels", "given", "i"] (SpD K 4 RFree))
    (L_neighbors : Lk K mg "neighbors" g2 gd2 ["separations", "i"]) (G_neighbors : FnOk P w K mg base CX0 1 g2 gd2 ["separations", "i"] (SpR K 2 PNb RNb))
    (L_clash_with : Lk K mg "clash_with" g3 gd3 ["separations", "given", "i", "channel"]) (G_clash_with : FnOk P w K mg base CX0 3 g3 gd3 ["separations", "given", "i", "channel"] (SpR K 4 PClash RClash)) :
    ∀ r, FnOk P w K mg base CX0 (6 * r + 9) f fd ["separations", "channels", "given"] (SpS K C0 q0 posS 3 (PSearch r) RSearch)
  | 0 => fn_none fun vs H Q E ⟨_, _, _, _, _, _, _, _, h, _⟩ => h
  | r + 1 => by
    have G_search := ok_search TB B F L_search L_free_channels G_free_channels L_neighbors G_neighbors L_clash_with G_clash_with r
    have S := sc_search
    refine fn_okS (k := 6 * (r + 1) + 8) F S rfl 9 rfl fun A outer s H E hr => ⟨_, ((pss_cons (ps_setLc (i := 3) (own := [("i", 4)]) (g := (gName 4)) (by rfl) S.nd rfl rfl (sw_true rfl rfl rfl (by decide +kernel)) (pi_range1 (by rfl) B.range (pa_cons (pe_ix ix_tup (pv 0) pe_int (fun _ _ => rfl)) pa_nil)) (blkOk_by (N := ["separations", "channels", "given", "rest", "i", "options", "best", "trees", "channel", "further", "done", "found"]) (sc := defScope s_search) (own := [("i", 4)]) (by decide +kernel)) (fun _ _ _ _ _ => (pg_name (i := 4) S.nd rfl (by first | exact Or.inl rfl | exact Or.inr rfl))) (fun _ _ _ _ _ => pts_one (pt_cmp (pc_dnotin hr.units1 (pv 4) (pv 2)))) (fun _ _ _ _ _ => (pv 4)))
 (pss_cons (ps_if (pt_cmpR (op_eqD hr.units) (pv 3) (pe_lst pa_nil) (nomark _))
 (pss_one (ps_ret (pe_tup (pa_cons pe_bl (pa_cons (pv 2) pa_nil)))))
 pss_nil)
 (pss_cons (ps_set (i := 5) S.nd rfl (by first | exact Or.inl rfl | exact Or.inr rfl) (pe_dc (own := [("i", 4)]) (g := (gName 4)) (tt := tYes) (by rfl) S.nd (pi_list (pv 3)) (blkOk_by (N := ["separations", "channels", "given", "rest", "i", "options", "best", "trees", "channel", "further", "done", "found"]) (sc := defScope s_search) (own := [("i", 4)]) (by decide +kernel)) (fun _ _ _ _ _ => (pg_name (i := 4) S.nd rfl (by first | exact Or.inl rfl | exact Or.inr rfl))) (fun _ _ _ _ _ => pts_nil) (fun _ _ _ _ _ => (pv 4)) (fun _ _ _ _ _ => (pe_call G_free_channels (hr.mono (by first | exact Nat.le_refl _ | decide | omega)) (by rfl) L_free_channels.m L_free_channels.kp L_free_channels.bi .nil pass0 (pa_cons (pv 0) (pa_cons (pv 1) (pa_cons (pv 2) (pa_cons (pv 4) pa_nil))))))))
 (pss_cons (ps_set (i := 6) S.nd rfl (by first | exact Or.inl rfl | exact Or.inr rfl) (pe_minkey (k := 4) (T := [(C0, q0)]) (P := C0) (ix := 4) (y := "i") (by rfl) B.min (by decide +kernel) TB rfl (List.mem_singleton.mpr rfl) (fun p hp _ => by rw [List.mem_singleton.mp hp]; rfl) (hr.mono (by omega)) (lamS1_by (sc := defScope s_search) (by decide +kernel)) S.nd rfl (by rfl) (fun _ _ _ _ _ _ => rfl) (pa_cons (pv 3) pa_nil) (fun A outer s H f c' hr => (pe_tup (pa_cons (pe_callB (kc_len (K := K) (by rfl)) (by rfl) B.len (by decide +kernel) (pa_cons (pe_dget hr.units1 (pv 5) (pv 4) (fun _ _ => rfl)) pa_nil)) (pa_cons (pe_un un_neg (pe_callB (kc_len (K := K) (by rfl)) (by rfl) B.len (by decide +kernel) (pa_cons (pe_call G_neighbors (hr.mono (by first | exact Nat.le_refl _ | decide | omega)) (by rfl) L_neighbors.m L_neighbors.kp L_neighbors.bi .nil pass0 (pa_cons (pv 0) (pa_cons (pv 4) pa_nil))) pa_nil))) pa_nil))))))
 (pss_cons (ps_if (pt_cmpR (op_eqD hr.units) (pe_dget hr.units1 (pv 5) (pv 6) (fun _ _ => rfl)) (pe_lst pa_nil) (nomark _))
 (pss_one (ps_ret (pe_tup (pa_cons pe_bl (pa_cons (pe_tup (pa_cons pe_str (pa_cons (pv 6) pa_nil))) pa_nil)))))
 pss_nil)
 (pss_cons (ps_set (i := 7) S.nd rfl (by first | exact Or.inl rfl | exact Or.inr rfl) (pe_lst pa_nil))
 (pss_cons (ps_for PassesOwn.never rfl (pi_range1 (by rfl) B.range (pa_cons (pv 1) pa_nil)) (pg_name (i := 8) S.nd rfl (by first | exact Or.inl rfl | exact Or.inr rfl))
 (pss_one (ps_if (pt_cmpR op_in_seq (pv 8) (pe_dget hr.units1 (pv 5) (pv 6) (fun _ _ => rfl)) (by rfl))
 (pss_cons (ps_set (i := 9) S.nd rfl (by first | exact Or.inl rfl | exact Or.inr rfl) (pe_callTy c_dictOf (by rfl) B.dict (by decide +kernel) (pa_cons (pv 2) pa_nil)))
 (pss_cons (ps_dput hr.units1 (pv 9) (pv 6) (pv 8) rfl)
 (pss_cons (ps_asg (pe_call G_search (hr.mono (by first | exact Nat.le_refl _ | decide | omega)) (by rfl) L_search.m L_search.kp L_search.bi .nil pass0 (pa_cons (pv 0) (pa_cons (pv 1) (pa_cons (pv 9) pa_nil)))) (pg_tup (by rfl) (pgs_cons (pg_name (i := 10) S.nd rfl (by first | exact Or.inl rfl | exact Or.inr rfl)) (pgs_cons (pg_name (i := 11) S.nd rfl (by first | exact Or.inl rfl | exact Or.inr rfl)) pgs_nil))))
 (pss_cons (ps_if (pt_val (pv 10))
 (pss_one (ps_ret (pe_tup (pa_cons pe_bl (pa_cons (pv 11) pa_nil)))))
 pss_nil)
 (pss_one (ps_expr (pe_bm PySem.F.plainAttrs_list PySem.F.slot_list_append PySem.F.type_list_append mt_append (pv 7) (pa_cons (pv 11) pa_nil))))))))
 (pss_one (ps_expr (pe_bm PySem.F.plainAttrs_list PySem.F.slot_list_append PySem.F.type_list_append mt_append (pv 7) (pa_cons (pe_call G_clash_with (hr.mono (by first | exact Nat.le_refl _ | decide | omega)) (by rfl) L_clash_with.m L_clash_with.kp L_clash_with.bi .nil pass0 (pa_cons (pv 0) (pa_cons (pv 2) (pa_cons (pv 6) (pa_cons (pv 8) pa_nil))))) pa_nil)))))))
 (pss_one (ps_ret (pe_tup (pa_cons pe_bl (pa_cons (pe_tup (pa_cons pe_str (pa_cons (pv 6) (pa_cons (pe_callTy c_tupOf (by rfl) B.tuple (by decide +kernel) (pa_cons (pv 7) pa_nil)) pa_nil)))) pa_nil))))))))))))), fun φ ds H tb D0 σ hl hP np tj hrt A => ?_⟩
    obtain ⟨n, c', ls, g, rfl, SG, c0, c1, G, hgl, hrl⟩ := hP
    replace A : At K φ (Same H) [some (sepD n ls), some (.int c'), some (gD g), none, none, none, none, none, none, none, none, none] σ H := A
    have n0 := SG.n0
    have n1 := SG.n1
    refine q (st_set (d := .lst ((restI n g).map D.int)) A ((ev_lcF (p := fun d => match d with | .int i => (val g i).isNone | _ => false) (f := fun d => d) (it_range1 (ea_cons (ev_sep0 (ev_var rfl)) ea_nil) (by omega)) (by rw [rangeD_length]; omega) (fun d hd φ' J' hx => ?_) (fun d hd hp φ' J' hx => ev_var rfl)).is ?_) fun σ1 H1 A1 => q ?_)
    · rw [rangeD_ints] at hd
      obtain ⟨i, _, rfl⟩ := List.mem_map.mp hd
      refine (et_test (ev_dnotin (k := (.inl i : Key)) (ev_var rfl) (ed_frozen (kds := kdsG g) (ev_var rfl)))).imp fun b e => e.trans ?_
      rw [valD_kds, Option.isSome_map]
      show (!(val g i).isSome) = (val g i).isNone
      cases val g i <;> rfl
    · rw [rangeD_ints, List.map_id']
      unfold restI
      rw [List.filter_map]
      rfl
    replace A1 : At K φ (Same H) [some (sepD n ls), some (.int c'), some (gD g), some (.lst ((restI n g).map D.int)), none, none, none, none, none, none, none, none] σ1 H1 := A1
    refine st_if A1 (et_test (ev_eqQ (ev_var rfl) (ev_lst ea_nil) okq_ints rfl)) (fun hb H2 A2 => ?_) (fun hb H2 A2 => st_next ?_)
    · rw [eqvD_nil] at hb
      have hnil : restI n g = [] := by
        cases e : restI n g with
        | nil => rfl
        | cons a b => rw [e] at hb; cases hb
      exact st_ret A2 (ev_tup (ea_cons ev_bl (ea_cons (ev_var rfl) ea_nil))) fun v d H3 e A3 rr => hrt v d tb H3 (rs_of (.inl ⟨g, e, G, hnil⟩)) (jf_same tj A3.j) rr
    rw [eqvD_nil] at hb
    have hpos : 0 < (restI n g).length := by
      cases e : restI n g with
      | nil => rw [e] at hb; cases hb
      | cons a b => exact Nat.succ_pos _
    let ov : Int → D := fun i => .lst ((freeI n ls c' (val g) i).map D.int)
    have hrest : ∀ i, i ∈ restI n g → 0 ≤ i ∧ i < n ∧ val g i = none := fun i hi => rest_iff.mp hi
    have hrl24 : (restI n g).length ≤ 100 := by omega
    generalize hrest0 : restI n g = rs at A2 hpos hrl hrl24
    generalize hkds : foldK (fun d => match d with | .int i => (.inl i : Key) | _ => .inl 0) (fun d => match d with | .int i => ov i | _ => .non) (rs.map D.int) = kds
    have hval : ∀ i, i ∈ rs → valD kds (.inl i : Key) = some (ov i) := fun i hi => by rw [← hkds]; exact foldK_val hi
    dsimp only
    refine q (st_set (d := dictD kds) A2 ?_ fun σ3 H3 A3 => ?_)
    · subst hkds
      refine ev_newDk (en_dc (us := [4]) (ws := [4]) (ρd := fun d => [some (sepD n ls), some (.int c'), some (gD g), some (.lst (rs.map D.int)), some d, none, none, none, none, none, none, none]) (kf := fun d => match d with | .int i => (.inl i : Key) | _ => .inl 0) (vf := fun d => match d with | .int i => ov i | _ => .non) (it_list (ev_var (i := 3) rfl)) (by rw [List.length_map]; omega) (by simp) (fun d hd => ?_) (fun d hd φ' J' hx => ?_) (fun d hd φ' J' hx => ?_))
      · exact eg_name
      · obtain ⟨i, _, rfl⟩ := List.mem_map.mp hd
        exact ev_var (i := 4) rfl
      · obtain ⟨i, _, rfl⟩ := List.mem_map.mp hd
        exact ev_callD (ea_cons (ev_var (i := 0) rfl) (ea_cons (ev_var (i := 1) rfl) (ea_cons (ev_var (i := 2) rfl) (ea_cons (ev_var (i := 4) rfl) ea_nil)))) ⟨n, c', i, ls, g, rfl, SG, c0, (by omega), rfl⟩
    replace A3 : At K φ (Same H) [some (sepD n ls), some (.int c'), some (gD g), some (.lst (rs.map D.int)), none, some (dictD kds), none, none, none, none, none, none] σ3 H3 := A3
    have hopt : ∀ {φ : Addr → Prop} {J : Hp → Prop} {ρ : List (Option D)} {k1 k2 : Nat} {i : Int}, i ∈ rs → ρ[k1]? = some (some (dictD kds)) → ρ[k2]? = some (some (.int i)) → EvD K φ J (tDGet (tVar k1) (tVar k2)) ρ (ov i) := fun {φ J ρ k1 k2 i} hi h1 h2 =>
      ev_dget (k := (.inl i : Key)) (ed_frozen (ev_var h1)) (ev_var h2) (hval i hi)
    refine q (st_minkey A3 np tj (ea_cons (ev_var rfl) ea_nil) (by rw [List.length_map]; exact hpos) (fun e he J' => ?_) fun d ps' σ4 H4 hd fl A4 => ?_)
    · obtain ⟨i, hi, rfl⟩ := List.mem_map.mp he
      refine (ev_tupP (ea_consP ((ev_lenL (hopt (i := i) hi rfl rfl)).imp (P' := fun z => ∃ i : Int, z = .int i) fun z e => ⟨_, e⟩) (ea_consP (ev_negP (ev_lenP ((ev_callR (ea_cons (ev_var rfl) (ea_cons (ev_var rfl) ea_nil)) ⟨n, i, ls, rfl, SG.len⟩).imp fun z hz => ?_))) ea_nil)) fun r ⟨d, r', e, _, d2, r2, e2, _, e3⟩ => ?_).imp fun z ⟨r, e, d, r', e1, ⟨a, ea⟩, d2, r2, e2, ⟨b, eb⟩, e3⟩ => ⟨a, b, ?_⟩
      · obtain ⟨js, e, _⟩ := hz n i ls rfl
        exact ⟨_, e⟩
      · subst e e2 e3; exact Nat.le_of_ble_eq_true rfl
      · subst e e1 e2 e3 ea eb; rfl
    obtain ⟨best, hbest, rfl⟩ := List.mem_map.mp hd
    obtain ⟨b0, b1, bn⟩ := hrest best (hrest0 ▸ hbest)
    have hfull : (codeAmong posS ps'.toList).isSome = true := A4.j.2.1.full fl
    have hJF : ∀ H', JF C0 q0 posS H ps' H' → (∃ ps, TabJ C0 q0 ps H') ∧ FullAt C0 posS H' := fun H' j => ⟨⟨ps', j.2.1⟩, ps', j.2.1.1, hfull⟩
    replace A4 : At K φ (JF C0 q0 posS H ps') [some (sepD n ls), some (.int c'), some (gD g), some (.lst (rs.map D.int)), none, some (dictD kds), some (.int best), none, none, none, none, none] σ4 H4 := A4
    refine q (st_if A4 (et_test (ev_eqQ (x := ov best) (hopt hbest rfl rfl) (ev_lst ea_nil) okq_ints rfl)) (fun hb5 H5 A5 => ?_) (fun hb5 H5 A5 => st_next ?_))
    · rw [eqvD_nil] at hb5
      have hnil : freeI n ls c' (val g) best = [] := by
        cases e : freeI n ls c' (val g) best with
        | nil => rfl
        | cons a b => rw [e] at hb5; cases hb5
      exact st_ret A5 (ev_tup (ea_cons ev_bl (ea_cons (ev_tup (ea_cons ev_str (ea_cons (ev_var rfl) ea_nil))) ea_nil))) fun v d H6 e A6 rr => hrt v d ps' H6 (rs_of (.inr ⟨_, e, .full _ _ b0 b1 bn fun ch h1 h2 => Classical.byContradiction fun hn => by
        have z := free_iff.mpr ⟨h1, h2, hn⟩
        rw [hnil] at z
        cases z⟩)) A6.j rr
    dsimp only
    refine q (st_newS A5 (en_ofN (en_lstD ea_nil)) fun l ds0 C J1 σ6 H6 hC N1 L1 A6 => ?_)
    obtain ⟨e, rfl⟩ := hC
    subst e
    have sb := N1.st
    have npl : ¬ wo φ l C0 := fun z => np z.1
    let ρ0 : Option D → Option D → Option D → Option D → List (Option D) := fun o8 o9 o10 o11 => [some (sepD n ls), some (.int c'), some (gD g), some (.lst (rs.map D.int)), none, some (dictD kds), some (.int best), some (.raw (.ref l)), o8, o9, o10, o11]
    replace A6 : At K (wo φ l) J1 (ρ0 none none none none) σ6 H6 := A6
    refine q (st_for A6 (it_range1 (ea_cons (ev_var rfl) ea_nil) (by omega)) (fun k ρ' J' => ∃ (ts : List D) (o8 o9 o10 o11 : Option D), ts.length = k ∧ (∀ (i : Nat) (t : D), ts[i]? = some t → Rt n ls c' (setv (val g) best i) t) ∧ LivS K (wo φ l) J' l HO.lst ts ∧ (∀ H', J' H' → JF C0 q0 posS H ps' H') ∧ ρ' = ρ0 o8 o9 o10 o11) ⟨[], none, none, none, none, rfl, (fun i t h => by simp at h), L1, fun H' h => N1.ext.imp H' h, rfl⟩ ?_ ?_)
    · rintro H7 k x ρ' J' b7 j7 hx ⟨ts, o8, o9, o10, o11, hts, hrts, L7, hb7, rfl⟩ σ7 H8 A7
      rw [rangeD_get] at hx
      split at hx
      · rename_i hk
        cases hx
        rw [show (0 : Int) + (k : Int) = (k : Int) by omega] at A7
        replace A7 : At K (wo φ l) (fun H => J' H ∧ But (wo φ l) H7 H) (ρ0 (some (.int (k : Int))) o9 o10 o11) σ7 H8 := A7
        have kc : 0 ≤ (k : Int) ∧ (k : Int) < c' := by omega
        dsimp only
        refine st_if A7 (et_B (ev_inL (ns := freeI n ls c' (val g) best) (ev_var rfl) (hopt hbest rfl rfl))) (fun hb8 H9 A9 => ?_) (fun hb8 H9 A9 => ?_)
        · have hfree := free_iff.mp (of_decide_eq_true hb8.symm)
          refine q (st_newS A9 (en_dictK (kds := kdsG g) (ev_var rfl)) fun l2 ds2 C2 J2 σ10 H10 hC2 N2 L2 A10 => ?_)
          obtain ⟨e, rfl⟩ := hC2
          subst e
          obtain ⟨nl2, L1'⟩ := N2.liv _ _ _ L7.but
          replace A10 : At K (wo (wo φ l) l2) J2 (ρ0 (some (.int (k : Int))) (some (.raw (.ref l2))) o10 o11) σ10 H10 := A10
          have hgl100 := G.len
          dsimp only
          refine q (st_dputS (kds := kdsG g) (k := (.inl best : Key)) A10 L2 (ev_var (d := .int (k : Int)) rfl) rfl (ev_var rfl) (by unfold kdsG; rw [List.length_map]; omega) fun d J3 H11 hd W3 L3 A11 => ?_)
          subst hd
          rw [put_kds bn] at L3
          have A12 := L3.freezeD N2.fr A11 (i := 9) rfl
          have L1b := (W3.liv _ _ _ L1' nl2).thaw nl2 A11.j
          have hb12 : ∀ H', J3 H' → J' H' ∧ But (wo φ l) H7 H' := W3.base _ (fun H' h => N2.ext.imp H' h) N2.st
          replace A12 : At K (wo φ l) (fun H' => J3 H' ∧ But (wo φ l) H11 H') (ρ0 (some (.int (k : Int))) (some (gD (g ++ [(best, (k : Int))]))) o10 o11) σ10 H11 := A12
          have G' : GOk n ls c' (g ++ [(best, (k : Int))]) := G.snoc SG bn (by omega) b0 b1 kc.1 kc.2 hfree.2.2
          have hlt := rest_lt (c := (k : Int)) (show best ∈ restI n g from hrest0 ▸ hbest)
          rw [hrest0] at hlt
          have hPs : PSearch r [sepD n ls, .int c', gD (g ++ [(best, (k : Int))])] := by
            cases r with
            | zero => omega
            | succ r' => exact ⟨n, c', ls, _, rfl, SG, c0, c1, G', by rw [List.length_append, List.length_singleton]; omega, by omega⟩
          dsimp only
          refine q (st_asgG (us := [10, 11]) (ρ2 := fun d => match d with | .tup [a, b] => ρ0 (some (.int (k : Int))) (some (gD (g ++ [(best, (k : Int))]))) (some a) (some b) | _ => []) A12 (ev_callF npl (fun H' h => hJF H' (hb7 H' (hb12 H' h.1).1)) (ea_cons (ev_var rfl) (ea_cons (ev_var rfl) (ea_cons (ev_var rfl) ea_nil))) hPs) (fun d hd => ?_) fun d σ13 H13 hd A13 => ?_)
          · rcases hd n c' ls _ rfl with ⟨g', rfl, _⟩ | ⟨t, rfl, _⟩
            · exact eg_tup (ds := [.bl true, gD g']) (egs_cons eg_name (egs_cons eg_name egs_nil))
            · exact eg_tup (ds := [.bl false, t]) (egs_cons eg_name (egs_cons eg_name egs_nil))
          dsimp only
          rcases hd n c' ls _ rfl with ⟨g', rfl, Gk, hn⟩ | ⟨t, rfl, ht⟩
          · replace A13 : At K (wo φ l) (fun H' => J3 H' ∧ But (wo φ l) H11 H') (ρ0 (some (.int (k : Int))) (some (gD (g ++ [(best, (k : Int))]))) (some (.bl true)) (some (gD g'))) σ13 H13 := A13
            refine q (st_yes A13 (et_B (ev_var rfl)) rfl fun H14 A14 => ?_)
            exact st_ret A14 (ev_tup (ea_cons ev_bl (ea_cons (ev_var rfl) ea_nil))) fun v d H15 e A15 rr => hrt v d ps' H15 (rs_of (.inl ⟨g', e, Gk, hn⟩)) (hb7 _ (hb12 _ A15.j.1).1) (Rep.up (fun a o p e => ⟨p.1, e⟩) d v rr)
          · replace A13 : At K (wo φ l) (fun H' => J3 H' ∧ But (wo φ l) H11 H') (ρ0 (some (.int (k : Int))) (some (gD (g ++ [(best, (k : Int))]))) (some (.bl false)) (some t)) σ13 H13 := A13
            refine q (st_no A13 (et_B (ev_var rfl)) rfl fun H14 A14 => st_next ?_)
            dsimp only
            refine st_appS (P := fun d => d = t) A14 L1b rfl (ev_var rfl) (by omega) fun d J8 H16 hd W8 L8 A16 => ?_
            subst hd
            have hbb := W8.base _ (fun H' h => (hb12 H' h.1).2) (Stab.but (.inl L7.np))
            rw [val_snoc bn, ← hts] at ht
            exact ⟨_, J8, ⟨ts ++ [_], _, _, _, _, by rw [List.length_append, hts]; rfl, snoc_at hrts ht, L8, W8.base _ (fun H' h => hb7 H' (hb12 H' h.1).1) sb, rfl⟩, A16.live ⟨A16.j, hbb _ A16.j⟩ (A16.mono.and (Mo.but (hbb _ A16.j).tr))⟩
        · have hconf : Conf n ls (val g) best (k : Int) := Classical.byContradiction fun hn => by
            have z := free_iff.mpr ⟨kc.1, kc.2, hn⟩
            rw [decide_eq_true z] at hb8
            cases hb8
          refine st_appS (P := fun d => Rt n ls c' (setv (val g) best (k : Int)) d) A9 L7.but rfl ((ev_callR (ea_cons (ev_var rfl) (ea_cons (ev_var rfl) (ea_cons (ev_var rfl) (ea_cons (ev_var rfl) ea_nil)))) ⟨n, best, k, ls, g, rfl, SG, hconf⟩).imp fun z hz => ?_) (by omega) fun d J8 H16 hd W8 L8 A16 => ?_
          · obtain ⟨n', i', ch', j, b, ls', g', e, e2, j0, j1, ej, hlt⟩ := hz
            obtain ⟨e3, e⟩ := List.cons.inj e
            obtain ⟨e4, e⟩ := List.cons.inj e
            obtain ⟨e5, e⟩ := List.cons.inj e
            obtain ⟨e6, _⟩ := List.cons.inj e
            obtain ⟨rfl, rfl⟩ := sep_inj e3
            obtain rfl := gD_inj e4
            injection e5 with e5
            injection e6 with e6
            subst e5 e6 e2
            have ne : best ≠ j := fun z => by rw [← z, bn] at ej; cases ej
            refine .clash _ best j (k : Int) b b0 b1 j0 j1 ne (if_pos rfl) ?_ hlt
            unfold setv
            rw [if_neg fun z => ne z.symm]
            exact ej
          · have hbb := W8.base _ (fun H' h => h.2) (Stab.but (.inl L7.np))
            rw [← hts] at hd
            exact ⟨_, J8, ⟨ts ++ [d], _, _, _, _, by rw [List.length_append, hts]; rfl, snoc_at hrts hd, L8, W8.base _ (fun H' h => hb7 H' h.1) sb, rfl⟩, A16.live ⟨A16.j, hbb _ A16.j⟩ (A16.mono.and (Mo.but (hbb _ A16.j).tr))⟩
      · cases hx
    · rintro H7 ρ' J' σ7 H8 b7 j7 ⟨ts, o8, o9, o10, o11, hts, hrts, L7, hb7, rfl⟩ A7
      rw [rangeD_length] at hts
      have A8 := L7.but.freeze N1.fr A7 (k := 7) rfl
      dsimp only
      exact st_ret A8 (ev_tup (ea_cons ev_bl (ea_cons (ev_tup (ea_cons ev_str (ea_cons (ev_var rfl) (ea_cons (ev_tupL (ev_var rfl)) ea_nil)))) ea_nil))) fun v d H9 e A9 rr => hrt v d ps' H9 (rs_of (.inr ⟨_, e, .split _ _ ts b0 b1 bn hts hrts⟩)) (hb7 _ A9.j.1.1) rr
end

/-! ### solved -/
def PSolved : List D → Prop := fun ds => ∃ (n c : Int) (ls : List Row), ds = [sepD n ls, .int c] ∧ SepG n ls ∧ 0 ≤ c ∧ c ≤ 100
/-- a plan as a list -/
def PlanL (n : Int) (ls : List Row) (c : Int) (ws : List Int) : Prop := (ws.length : Int) = n ∧ Keeps n ls c (fun i => ws.getD i.toNat 0)
def RSolved : List D → D → Prop := fun ds d => ∀ (n c : Int) (ls : List Row), ds = [sepD n ls, .int c] → (∃ ws : List Int, d = .tup [.str "assignment", .tup (ws.map D.int)] ∧ PlanL n ls c ws) ∨ ∃ t, d = .tup [.str "refusal", t] ∧ Rt n ls c (fun _ => none) t
theorem rsv_of {n c : Int} {ls : List Row} {d : D} (h : (∃ ws : List Int, d = .tup [.str "assignment", .tup (ws.map D.int)] ∧ PlanL n ls c ws) ∨ ∃ t, d = .tup [.str "refusal", t] ∧ Rt n ls c (fun _ => none) t) : RSolved [sepD n ls, .int c] d := fun n' c' ls' e => by
  obtain ⟨e1, e⟩ := List.cons.inj e
  obtain ⟨e2, _⟩ := List.cons.inj e
  obtain ⟨rfl, rfl⟩ := sep_inj e1
  injection e2 with e2
  subst e2
  exact h
theorem Keeps.eq {n : Int} {ls : List Row} {c : Int} {w w' : Int → Int} (k : Keeps n ls c w) (h : ∀ i, 0 ≤ i → i < n → w' i = w i) : Keeps n ls c w' := ⟨fun i h1 h2 => by rw [h i h1 h2]; exact k.rg i h1 h2, fun i j h1 h2 h3 h4 ne => by rw [h i h1 h2, h j h3 h4]; exact k.kp i j h1 h2 h3 h4 ne⟩
section
variable {P : Program} {w : World} {K : PySem.W.Frag} {mg : Str → Option Value} {base : Heap}
theorem sc_solved : FnScope ["separations", "channels", "done", "found", "i"] ["separations", "channels"] (defScope s_solved) := ⟨rfl, rfl, rfl, by decide +kernel, rfl, by decide +kernel, by decide +kernel⟩
theorem ok_solved (B : Bi mg) {C0 f g : Addr} {fd gd : FuncData} (F : Fun K "solved" "solved" s_solved f fd) (L_search : Lk K mg "search" g gd ["separations", "channels", "given"])
    (G_search : FnOk P w K mg base CX0 (6 * 25 + 9) g gd ["separations", "channels", "given"] (SpS K C0 q0 posS 3 (PSearch 25) RSearch)) : FnOk P w K mg base CX0 160 f fd ["separations", "channels"] (SpS K C0 q0 posS 2 PSolved RSolved) := by
  have S := sc_solved
  refine fn_okS0 (k := 159) F S rfl 3 rfl fun cdv A outer s H E hr => ⟨_, ((pss_cons (ps_asg (pe_call G_search (hr.mono (by first | exact Nat.le_refl _ | decide | omega)) (by rfl) L_search.m L_search.kp L_search.bi .nil pass0 (pa_cons (pv 0) (pa_cons (pv 1) (pa_cons pe_dnewK pa_nil)))) (pg_tup (by rfl) (pgs_cons (pg_name (i := 2) S.nd rfl (by first | exact Or.inl rfl | exact Or.inr rfl)) (pgs_cons (pg_name (i := 3) S.nd rfl (by first | exact Or.inl rfl | exact Or.inr rfl)) pgs_nil))))
 (pss_cons (ps_if (pt_val (pv 2))
 (pss_one (ps_ret (pe_tup (pa_cons pe_str (pa_cons (pe_callTy c_tupOf (by rfl) B.tuple (by decide +kernel) (pa_cons (pe_lc (own := [("i", 4)]) (g := (gName 4)) (tt := tYes) (by rfl) S.nd (pi_range1 (by rfl) B.range (pa_cons (pe_ix ix_tup (pv 0) pe_int (fun _ _ => rfl)) pa_nil)) (blkOk_by (N := ["separations", "channels", "done", "found", "i"]) (sc := defScope s_solved) (own := [("i", 4)]) (by decide +kernel)) (fun _ _ _ _ _ => (pg_name (i := 4) S.nd rfl (by first | exact Or.inl rfl | exact Or.inr rfl))) (fun _ _ _ _ _ => pts_nil) (fun _ _ _ _ _ => (pe_dget hr.units1 (pv 3) (pv 4) (fun _ _ => rfl)))) pa_nil)) pa_nil)))))
 pss_nil)
 (pss_one (ps_ret (pe_tup (pa_cons pe_str (pa_cons (pv 3) pa_nil)))))))), fun φ ds H tb D0 σ hl hP np tj hrt A => ?_⟩
  obtain ⟨n, c, ls, rfl, SG, c0, c1⟩ := hP
  replace A : At K φ (Same H) [some (sepD n ls), some (.int c), none, none, none] σ H := A
  have n0 := SG.n0
  have n1 := SG.n1
  have hPs : PSearch 25 [sepD n ls, .int c, gD []] := ⟨n, c, ls, [], rfl, SG, c0, c1, ⟨Nat.zero_le _, (fun i a e => nomatch e), (fun i j a b e => nomatch e)⟩, by decide, by
    refine Nat.le_trans (List.length_filter_le _ _) ?_
    rw [List.length_map, List.length_range]
    have h24 : n.toNat ≤ 24 := by omega
    exact h24⟩
  have hd0 : EvD K φ (Same H) tDNewK [some (sepD n ls), some (.int c), none, none, none] (gD []) := ev_newDk (kds := []) en_dnewK
  refine q (st_callS (us := [2, 3]) (ρ2 := fun d => match d with | .tup [a, b] => [some (sepD n ls), some (.int c), some a, some b, none] | _ => []) A np tj (ea_cons (ev_var rfl) (ea_cons (ev_var rfl) (ea_cons hd0 ea_nil))) hPs (fun d hd => ?_) fun d ps' σ1 H1 hd A1 => ?_)
  · rcases hd n c ls _ rfl with ⟨g', rfl, _⟩ | ⟨t, rfl, _⟩
    · exact eg_tup (ds := [.bl true, gD g']) (egs_cons eg_name (egs_cons eg_name egs_nil))
    · exact eg_tup (ds := [.bl false, t]) (egs_cons eg_name (egs_cons eg_name egs_nil))
  dsimp only
  rcases hd n c ls _ rfl with ⟨g', rfl, Gk, hn⟩ | ⟨t, rfl, ht⟩
  · replace A1 : At K φ (JF C0 q0 posS H ps') [some (sepD n ls), some (.int c), some (.bl true), some (gD g'), none] σ1 H1 := A1
    refine q (st_yes A1 (et_B (ev_var rfl)) rfl fun H2 A2 => ?_)
    let ws : List Int := (List.range n.toNat).map fun k : Nat => (val g' (k : Int)).getD 0
    have hws : (ws.length : Int) = n := by rw [show ws.length = n.toNat by rw [List.length_map, List.length_range]]; omega
    have kp := Gk.keeps hn
    have hget : ∀ i, 0 ≤ i → i < n → ws.getD i.toNat 0 = (val g' i).getD 0 := fun i h1 h2 => by
      rw [List.getD_eq_getElem?_getD, List.getElem?_map, List.getElem?_range (by omega)]
      show (val g' (i.toNat : Int)).getD 0 = _
      rw [Int.toNat_of_nonneg h1]
    refine st_ret A2 (ev_tup (ea_cons ev_str (ea_cons (x := .tup (ws.map D.int)) ((ev_tupL (ev_lc (f := fun d => match d with | .int i => .int ((val g' i).getD 0) | _ => .non) (it_range1 (ea_cons (ev_sep0 (ev_var rfl)) ea_nil) (by omega)) (by rw [rangeD_length]; omega) (fun d hd φ' J' hx => ?_))).is ?_) ea_nil))) fun v d H6 e A6 rr => hrt v d ps' H6 (rsv_of (.inl ⟨ws, e, hws, kp.eq hget⟩)) A6.j rr
    · rw [rangeD_ints] at hd
      obtain ⟨i, hi, rfl⟩ := List.mem_map.mp hd
      obtain ⟨k, hk, rfl⟩ := List.mem_map.mp hi
      rw [List.mem_range] at hk
      refine ev_dget (k := (.inl (Int.ofNat k) : Key)) (ed_frozen (kds := kdsG g') (ev_var rfl)) (ev_var rfl) ?_
      rw [valD_kds]
      cases e : val g' (Int.ofNat k) with
      | none =>
        have z := rest_iff.mpr ⟨(by show (0 : Int) ≤ (k : Int); omega), (by show (k : Int) < n; omega), e⟩
        rw [hn] at z
        cases z
      | some a =>
        show some (D.int a) = some (D.int ((val g' (Int.ofNat k)).getD 0))
        rw [e]
        rfl
    · rw [rangeD_ints, List.map_map, List.map_map, List.map_map]
      rfl
  · replace A1 : At K φ (JF C0 q0 posS H ps') [some (sepD n ls), some (.int c), some (.bl false), some t, none] σ1 H1 := A1
    refine q (st_no A1 (et_B (ev_var rfl)) rfl fun H2 A2 => st_next ?_)
    exact st_ret A2 (ev_tup (ea_cons ev_str (ea_cons (ev_var rfl) ea_nil))) fun v d H6 e A6 rr => hrt v d ps' H6 (rsv_of (.inr ⟨t, e, ht⟩)) A6.j rr
end

/-! ### the mathematics: lowest terms, Euclid, Erlang's sums -/
def low (p q : Nat) : Nat × Nat := (p / Nat.gcd p q, q / Nat.gcd p q)
theorem low_mul {g p q : Nat} (hg : 0 < g) : low (g * p) (g * q) = low p q := by
  unfold low
  rw [Nat.gcd_mul_left, Nat.mul_div_mul_left _ _ hg, Nat.mul_div_mul_left _ _ hg]
/-- the sums, all over the power b ^ c c! -/
def erl (a b : Nat) : Nat → Nat
  | 0 => 1
  | k + 1 => b * (k + 1) * erl a b k + a ^ (k + 1)
theorem erl_pos {a b : Nat} (hb : 0 < b) : ∀ k, 0 < erl a b k
  | 0 => by simp [erl]
  | k + 1 => by
    have h := erl_pos (a := a) hb k
    have h2 : 0 < b * (k + 1) * erl a b k := Nat.mul_pos (Nat.mul_pos hb (Nat.succ_pos k)) h
    unfold erl
    omega
theorem pow_le_erl {a b : Nat} : ∀ k, a ^ k ≤ erl a b k
  | 0 => by simp [erl]
  | k + 1 => by unfold erl; omega
theorem erl_lt {a b : Nat} (ha : a ≤ 120) (hb : b ≤ 9) : ∀ k, k ≤ 30 → a ^ k ≤ 2 ^ (7 * k) ∧ erl a b k ≤ 2 ^ (10 * k)
  | 0, _ => ⟨by simp, by simp [erl]⟩
  | k + 1, h => by
    obtain ⟨h1, h2⟩ := erl_lt ha hb k (by omega)
    have e1 : a ^ (k + 1) ≤ 2 ^ (7 * (k + 1)) := by
      rw [Nat.pow_succ, show 7 * (k + 1) = 7 * k + 7 by omega, Nat.pow_add]
      exact Nat.mul_le_mul h1 (by omega)
    refine ⟨e1, ?_⟩
    have e2 : b * (k + 1) ≤ 2 ^ 9 := Nat.le_trans (Nat.mul_le_mul hb (show k + 1 ≤ 30 by omega)) (by decide)
    have e3 : b * (k + 1) * erl a b k ≤ 2 ^ 9 * 2 ^ (10 * k) := Nat.mul_le_mul e2 h2
    have e4 : 2 ^ (7 * (k + 1)) ≤ 2 ^ 9 * 2 ^ (10 * k) := by
      rw [← Nat.pow_add]
      exact Nat.pow_le_pow_right (by decide) (by omega)
    have e5 : 2 ^ (10 * (k + 1)) = 2 * (2 ^ 9 * 2 ^ (10 * k)) := by
      rw [← Nat.pow_add, ← Nat.pow_succ']
      congr 1
      omega
    unfold erl
    omega
def blk (a b : Nat) : Nat → Nat × Nat
  | 0 => (1, 1)
  | k + 1 => low (a * (blk a b k).1) (b * (k + 1) * (blk a b k).2 + a * (blk a b k).1)
theorem blk_eq {a b : Nat} (hb : 0 < b) : ∀ k, blk a b k = low (a ^ k) (erl a b k)
  | 0 => by simp [blk, low, erl]
  | k + 1 => by
    have ih := blk_eq (a := a) hb k
    have hg : 0 < Nat.gcd (a ^ k) (erl a b k) := Nat.gcd_pos_of_pos_right _ (erl_pos hb k)
    have d1 : Nat.gcd (a ^ k) (erl a b k) * (a ^ k / Nat.gcd (a ^ k) (erl a b k)) = a ^ k := Nat.mul_div_cancel' (Nat.gcd_dvd_left _ _)
    have d2 : Nat.gcd (a ^ k) (erl a b k) * (erl a b k / Nat.gcd (a ^ k) (erl a b k)) = erl a b k := Nat.mul_div_cancel' (Nat.gcd_dvd_right _ _)
    unfold blk
    rw [ih]
    unfold low at *
    generalize hG : Nat.gcd (a ^ k) (erl a b k) = g at *
    generalize hx : a ^ k / g = x at *
    generalize hy : erl a b k / g = y at *
    have z := low_mul (g := g) (p := a * x) (q := b * (k + 1) * y + a * x) hg
    unfold low at z
    rw [← z]
    have e1 : g * (a * x) = a ^ (k + 1) := by rw [Nat.pow_succ, ← d1]; simp only [Nat.mul_comm, Nat.mul_left_comm, Nat.mul_assoc]
    have e2 : g * (b * (k + 1) * y + a * x) = erl a b (k + 1) := by
      unfold erl
      rw [Nat.mul_add, e1, ← d2]
      simp only [Nat.mul_comm, Nat.mul_left_comm, Nat.mul_assoc]
    rw [e1, e2]
theorem low_snd_pos {p q : Nat} (hq : 0 < q) : 0 < (low p q).2 := Nat.div_pos (Nat.gcd_le_right _ hq) (Nat.gcd_pos_of_pos_right _ hq)
theorem low_le {p q n : Nat} (hp : p ≤ n) (hq : q ≤ n) : (low p q).1 ≤ n ∧ (low p q).2 ≤ n := ⟨Nat.le_trans (Nat.div_le_self _ _) hp, Nat.le_trans (Nat.div_le_self _ _) hq⟩
theorem low_mono {p q : Nat} (h : p ≤ q) : (low p q).1 ≤ (low p q).2 := Nat.div_le_div_right h
/-! the law's own list of terms -/
theorem terms_step {ts : List Int} {b k : Int} (x : Int) : ((ts.map fun t => t * b * k) ++ [x]).sum = ts.sum * b * k + x := by
  rw [List.sum_append, List.sum_cons, List.sum_nil, Int.add_zero]
  congr 1
  induction ts with
  | nil => simp
  | cons t r ih => rw [List.map_cons, List.sum_cons, List.sum_cons, ih, Int.add_mul, Int.add_mul]
theorem log2_lt_of' {x n : Nat} (h : x ≤ 2 ^ n) : x.log2 < n + 1 := by
  by_cases hx : x = 0
  · subst hx
    simp
  · exact (Nat.log2_lt hx).mpr (Nat.lt_of_le_of_lt h (Nat.pow_lt_pow_right (by decide) (by omega)))

-- import HandS.Text
/-! ### texts cut at one sign, numbers in texts -/
section
open TL
def splC (c : Nat) : List Nat → List (List Nat)
  | [] => [[]]
  | x :: r => if x = c then [] :: splC c r else match splC c r with
    | p :: q => (x :: p) :: q
    | [] => [[x]]
theorem splC_ne (c : Nat) : ∀ l, splC c l ≠ []
  | [] => by simp [splC]
  | x :: r => by
    unfold splC
    split
    · simp
    · split <;> simp
theorem splC_join (c : Nat) : ∀ l, joinL [c] (splC c l) = l
  | [] => rfl
  | x :: r => by
    have ih := splC_join c r
    have ne := splC_ne c r
    unfold splC
    split
    · rename_i h
      subst h
      cases e : splC x r with
      | nil => exact absurd e ne
      | cons p q =>
        rw [e] at ih
        show [] ++ ([x] ++ joinL [x] (p :: q)) = _
        rw [ih]
        rfl
    · cases e : splC c r with
      | nil => exact absurd e ne
      | cons p q =>
        rw [e] at ih
        show joinL [c] ((x :: p) :: q) = x :: r
        rw [← ih]
        cases q <;> rfl
theorem splC_free (c : Nat) : ∀ l, ∀ p ∈ splC c l, c ∉ p
  | [], p, h => by
    rw [List.mem_singleton.mp h]
    simp
  | x :: r, p, h => by
    have ih := splC_free c r
    unfold splC at h
    split at h
    · rcases List.mem_cons.mp h with rfl | h
      · simp
      · exact ih p h
    · rename_i hx
      cases e : splC c r with
      | nil => exact absurd e (splC_ne c r)
      | cons a q =>
        rw [e] at h ih
        rcases List.mem_cons.mp h with rfl | h
        · rw [List.mem_cons, not_or]
          exact ⟨fun z => hx z.symm, ih a List.mem_cons_self⟩
        · exact ih p (List.mem_cons_of_mem _ h)
theorem splC_spl (c : Nat) (l : List Nat) : spl [c] 0 [] l = splC c l := by
  have h := spl_join (s := c) (S := []) (splC_ne c l) (splC_free c l)
  rw [splC_join] at h
  exact h
theorem splC_uniq {c : Nat} {ps : List (List Nat)} (hne : ps ≠ []) (hf : ∀ p ∈ ps, c ∉ p) : splC c (joinL [c] ps) = ps := by
  rw [← splC_spl]
  exact spl_join (s := c) (S := []) hne hf
theorem tl_split {c : Nat} (hc : c < 256) (x : Str) : (Txt.split x ⟨#[c]⟩).map tl = splC c (tl x) := by
  rw [← splC_spl]
  exact split_spl x ⟨#[c]⟩ (by simp [tl]) (kind_ok (by simp [hc]))
theorem joinL_snoc {S p : List Nat} : ∀ {ps : List (List Nat)}, ps ≠ [] → joinL S (ps ++ [p]) = joinL S ps ++ (S ++ p)
  | [], h => absurd rfl h
  | [a], _ => rfl
  | a :: b :: r, _ => by
    have ih := joinL_snoc (S := S) (p := p) (ps := b :: r) (by simp)
    show a ++ (S ++ joinL S (b :: r ++ [p])) = a ++ (S ++ joinL S (b :: r)) ++ (S ++ p)
    rw [ih, List.append_assoc, List.append_assoc]
theorem splC_snoc (c : Nat) (l : List Nat) : splC c (l ++ [c]) = splC c l ++ [[]] := by
  have h : l ++ [c] = joinL [c] (splC c l ++ [[]]) := by
    rw [joinL_snoc (splC_ne c l), splC_join]
    rfl
  rw [h]
  refine splC_uniq (by simp) fun p hp => ?_
  rcases List.mem_append.mp hp with hp | hp
  · exact splC_free c l p hp
  · rw [List.mem_singleton.mp hp]
    simp
theorem splC_last {c : Nat} {l : List Nat} {xs : List (List Nat)} (h : splC c l = xs ++ [[]]) (hx : xs ≠ []) : ∃ l', l = l' ++ [c] ∧ xs = splC c l' := by
  refine ⟨joinL [c] xs, ?_, ?_⟩
  · rw [← splC_join c l, h, joinL_snoc hx]
    rfl
  · exact (splC_uniq hx fun p hp => splC_free c l p (by rw [h]; exact List.mem_append_left _ hp)).symm
theorem splC_app {c : Nat} {a l : List Nat} (h : c ∉ a) : splC c (a ++ c :: l) = a :: splC c l := by
  have e : a ++ c :: l = joinL [c] (a :: splC c l) := by
    cases e : splC c l with
    | nil => exact absurd e (splC_ne c l)
    | cons p q =>
      show _ = a ++ ([c] ++ joinL [c] (p :: q))
      rw [← e, splC_join]
      rfl
  rw [e]
  refine splC_uniq (by simp) fun p hp => ?_
  rcases List.mem_cons.mp hp with rfl | hp
  · exact h
  · exact splC_free c l p hp
theorem splC_one {c : Nat} {a : List Nat} (h : c ∉ a) : splC c a = [a] := splC_uniq (ps := [a]) (by simp) fun p hp => by rw [List.mem_singleton.mp hp]; exact h
theorem splC_two {c : Nat} {l a b : List Nat} (h : splC c l = [a, b]) : l = a ++ c :: b ∧ c ∉ a ∧ c ∉ b := by
  refine ⟨?_, splC_free c l a (by rw [h]; simp), splC_free c l b (by rw [h]; simp)⟩
  rw [← splC_join c l, h]
  rfl
theorem splC_len (c : Nat) : ∀ l, (splC c l).length ≤ l.length + 1
  | [] => Nat.le_refl _
  | x :: r => by
    have ih := splC_len c r
    unfold splC
    split
    · rw [List.length_cons, List.length_cons]
      omega
    · cases e : splC c r with
      | nil => exact absurd e (splC_ne c r)
      | cons p q =>
        rw [e] at ih
        rw [List.length_cons] at ih ⊢
        rw [List.length_cons]
        omega
theorem splC_mem_len {c : Nat} : ∀ {l p : List Nat}, p ∈ splC c l → p.length ≤ l.length
  | [], p, h => by rw [List.mem_singleton.mp h]; exact Nat.le_refl _
  | x :: r, p, h => by
    unfold splC at h
    split at h
    · rcases List.mem_cons.mp h with rfl | h
      · exact Nat.zero_le _
      · exact Nat.le_succ_of_le (splC_mem_len h)
    · cases e : splC c r with
      | nil => exact absurd e (splC_ne c r)
      | cons a q =>
        rw [e] at h
        rcases List.mem_cons.mp h with rfl | h
        · exact Nat.succ_le_succ (splC_mem_len (by rw [e]; exact List.mem_cons_self))
        · exact Nat.le_succ_of_le (splC_mem_len (by rw [e]; exact List.mem_cons_of_mem _ h))
/-! ### numbers -/
def digB (l : List Nat) : Bool := l.all fun c => decide (48 ≤ c ∧ c ≤ 57)
theorem digB_all {l : List Nat} : digB l = true ↔ NumText.AllDigits l := by
  unfold digB NumText.AllDigits
  rw [List.all_eq_true]
  exact ⟨fun h c hc => of_decide_eq_true (h c hc), fun h c hc => decide_eq_true (h c hc)⟩
/-- no needless zero ahead -/
def leadB (l : List Nat) : Bool := !(decide (l.head? = some 48) && !decide (l = [48]))
def okNum (k : Nat) (l : List Nat) : Option Nat := if digB l && (decide (1 ≤ l.length) && decide (l.length ≤ k)) && leadB l then some (NumText.digitsVal l) else none
theorem digitsVal_snoc (l : List Nat) (c : Nat) : NumText.digitsVal (l ++ [c]) = NumText.digitsVal l * 10 + (c - 48) := by
  unfold NumText.digitsVal
  rw [List.foldl_append]
  rfl
theorem digitsVal_ge (l : List Nat) : ∀ a : Nat, a ≤ l.foldl (fun acc c => acc * 10 + (c - 48)) a := by
  induction l with
  | nil => exact fun a => Nat.le_refl a
  | cons c l ih =>
    intro a
    rw [List.foldl_cons]
    exact Nat.le_trans (by omega) (ih _)
theorem digitsVal_pos {c : Nat} {l : List Nat} (h : 48 < c) : 1 ≤ NumText.digitsVal (c :: l) := by
  unfold NumText.digitsVal
  rw [List.foldl_cons]
  exact Nat.le_trans (by omega) (digitsVal_ge l _)
theorem num_back : ∀ (n : Nat) (l : List Nat), l.length = n → l ≠ [] → NumText.AllDigits l → l.head? ≠ some 48 ∨ l = [48] → numL (NumText.digitsVal l) = l
  | 0, l, hn, hne, _, _ => absurd (List.length_eq_zero_iff.mp hn) hne
  | n + 1, l, hn, hne, hd, hl => by
    have e := List.dropLast_concat_getLast hne
    generalize hm : l.dropLast = m at e
    generalize l.getLast hne = c at e
    subst e
    have hc := hd c (by simp)
    rw [digitsVal_snoc]
    cases m with
    | nil =>
      rw [show NumText.digitsVal [] = 0 from rfl, numL_lt (by omega), List.nil_append]
      congr 1
      omega
    | cons a m =>
      have ha := hd a (by simp)
      have hl' : (a :: m).head? ≠ some 48 := by
        rcases hl with h | h
        · exact h
        · exact absurd (congrArg List.length h) (by simp)
      have h48 : 48 < a := by
        have : a ≠ 48 := fun z => hl' (by rw [z]; rfl)
        omega
      have hp := digitsVal_pos (l := m) h48
      rw [numL_step (by omega), show (NumText.digitsVal (a :: m) * 10 + (c - 48)) / 10 = NumText.digitsVal (a :: m) by omega, show (NumText.digitsVal (a :: m) * 10 + (c - 48)) % 10 = c - 48 by omega,
        num_back n (a :: m) (by simp only [List.length_append, List.length_cons, List.length_nil] at hn ⊢; omega) (by simp) (fun x hx => hd x (List.mem_append_left _ hx)) (.inl hl'), show 48 + (c - 48) = c by omega]
theorem numL_head : ∀ n : Nat, (numL n).head? ≠ some 48 ∨ n = 0 := fun n => by
  induction n using Nat.strongRecOn with
  | _ n ih =>
    by_cases h : n < 10
    · rw [numL_lt h]
      by_cases h0 : n = 0
      · exact .inr h0
      · exact .inl fun z => by
          have := Option.some.inj z
          omega
    · rw [numL_step (by omega)]
      rcases ih (n / 10) (by omega) with z | z
      · left
        cases e : numL (n / 10) with
        | nil => exact absurd e (numL_ne _)
        | cons a r =>
          rw [e] at z
          exact z
      · omega
theorem leadB_num (n : Nat) : leadB (numL n) = true := by
  unfold leadB
  rcases numL_head n with h | h
  · rw [decide_eq_false h]
    rfl
  · rw [h, numL_lt (by decide)]
    rfl
theorem leadB_or {l : List Nat} : leadB l = true ↔ l.head? ≠ some 48 ∨ l = [48] := by
  unfold leadB
  by_cases h1 : l.head? = some 48 <;> by_cases h2 : l = [48] <;> simp [h1, h2]
/-- str(int(l)) == l -/
theorem leadB_iff {l : List Nat} (hd : NumText.AllDigits l) (hne : l ≠ []) : decide (numL (NumText.digitsVal l) = l) = leadB l := by
  cases h : leadB l with
  | true => exact decide_eq_true (num_back _ l rfl hne hd (leadB_or.mp h))
  | false =>
    refine decide_eq_false fun z => ?_
    rw [← z, leadB_num] at h
    cases h
theorem okNum_num {n k : Nat} (hk : 0 < k) (h : n < 10 ^ k) : okNum k (numL n) = some n := by
  unfold okNum
  have h1 : 1 ≤ (numL n).length := List.length_pos_iff.mpr (numL_ne n)
  rw [digB_all.mpr (numL_digits n), decide_eq_true h1, decide_eq_true (numL_len hk h), leadB_num, numL_val]
  rfl
theorem okNum_some {k n : Nat} {l : List Nat} (h : okNum k l = some n) : l = numL n ∧ NumText.AllDigits l ∧ l.length ≤ k := by
  unfold okNum at h
  split at h
  · rename_i hc
    simp only [Bool.and_eq_true, decide_eq_true_eq] at hc
    obtain ⟨⟨h1, h2, h3⟩, h4⟩ := hc
    refine ⟨?_, digB_all.mp h1, h3⟩
    rw [← Option.some.inj h]
    exact (num_back _ l rfl (List.length_pos_iff.mp h2) (digB_all.mp h1) (leadB_or.mp h4)).symm
  · cases h
def textL (ls : List (List Nat)) : List Nat := ls.flatMap fun l => l ++ [10]
theorem splC_text : ∀ {ls : List (List Nat)}, (∀ l ∈ ls, 10 ∉ l) → splC 10 (textL ls) = ls ++ [[]]
  | [], _ => rfl
  | l :: ls, h => by
    show splC 10 ((l ++ [10]) ++ textL ls) = _
    rw [List.append_assoc]
    show splC 10 (l ++ 10 :: textL ls) = _
    rw [splC_app (h l List.mem_cons_self), splC_text fun x hx => h x (List.mem_cons_of_mem _ hx)]
    rfl
end

/-! ### the readers of papertexts -/
section
open TL
def asc (l : List Nat) : Prop := ∀ c ∈ l, c < 128
theorem asc_strOk {s : Str} (h : asc (tl s)) : PyData.strOk s = true := by
  unfold PyData.strOk
  rw [Array.all_eq_true_iff_forall_mem]
  intro c hc
  have := h c (by simpa [tl] using hc)
  exact decide_eq_true (by omega)
theorem asc_spl {c : Nat} {l p : List Nat} (h : asc l) (hp : p ∈ splC c l) : asc p := fun x hx => by
  have : ∀ {l : List Nat}, p ∈ splC c l → x ∈ l := fun {l} => by
    intro hp
    have e := splC_join c l
    generalize splC c l = ps at hp e
    subst e
    induction ps with
    | nil => cases hp
    | cons a ps ih =>
      cases ps with
      | nil =>
        rw [List.mem_singleton.mp hp] at hx
        exact hx
      | cons b ps =>
        show x ∈ a ++ ([c] ++ joinL [c] (b :: ps))
        rcases List.mem_cons.mp hp with e | hp
        · rw [e] at hx
          exact List.mem_append_left _ hx
        · exact List.mem_append_right _ (List.mem_append_right _ (ih hp))
  exact h x (this hp)
theorem lit_sp : (" " : Str) = ⟨#[32]⟩ := by decide +kernel
theorem lit_nl : ("\n" : Str) = ⟨#[10]⟩ := by decide +kernel
theorem lit_0 : ("0" : Str) = ⟨#[48]⟩ := by decide +kernel
theorem tl_digits : tl ("0123456789" : Str) = [48, 49, 50, 51, 52, 53, 54, 55, 56, 57] := by decide +kernel
theorem mem_digits {c : Nat} : decide (c ∈ tl ("0123456789" : Str)) = decide (48 ≤ c ∧ c ≤ 57) := by
  rw [tl_digits, decide_eq_decide]
  simp only [List.mem_cons, List.not_mem_nil, or_false]
  omega
theorem str_eq_tl {a b : Str} : decide (a = b) = decide (tl a = tl b) := by
  rw [decide_eq_decide]
  exact ⟨fun e => by rw [e], ext_tl⟩
/-- the words of a text, the lines -/
theorem split_tl {c : Nat} (hc : c < 256) (x : Str) : ∃ ys : List Str, Txt.split x ⟨#[c]⟩ = ys ∧ ys.map tl = splC c (tl x) := ⟨_, rfl, tl_split hc x⟩
/-- the signs that are no digits -/
def noDig : D → Bool
  | .str s => !(tl s).all fun c => decide (48 ≤ c ∧ c ≤ 57)
  | _ => true
theorem noDig_empty (w : Str) : ((strD w).filter noDig).isEmpty = digB (tl w) := by
  unfold strD digB
  show ((((tl w).map fun c => D.str ⟨#[c]⟩)).filter noDig).isEmpty = _
  induction tl w with
  | nil => rfl
  | cons c l ih =>
    rw [List.map_cons, List.filter_cons, List.all_cons]
    have e : noDig (.str ⟨#[c]⟩) = !decide (48 ≤ c ∧ c ≤ 57) := by
      show (!([c].all fun c => decide (48 ≤ c ∧ c ≤ 57))) = _
      rw [List.all_cons, List.all_nil, Bool.and_true]
    rw [e]
    cases decide (48 ≤ c ∧ c ≤ 57) with
    | true => rw [Bool.true_and]; exact ih
    | false => rfl
theorem okq_chars {w : Str} (h : PyData.strOk w = true) (p : D → Bool) : okq 64 (.lst ((strD w).filter p)) = true := by
  show ((strD w).filter p).all (okq 63) = true
  rw [List.all_eq_true]
  intro d hd
  obtain ⟨c, hc, rfl⟩ := List.mem_map.mp (List.mem_filter.mp hd).1
  show PyData.strOk ⟨#[c]⟩ = true
  unfold PyData.strOk at h ⊢
  rw [Array.all_eq_true_iff_forall_mem] at h ⊢
  intro x hx
  rw [show x = c by simpa using hx]
  exact h c (by simpa using hc)
theorem lead_test {w : Str} {c : Nat} {r : List Nat} (e : tl w = c :: r) : (decide ((⟨#[c]⟩ : Str) = "0") && !decide (w = "0")) = !leadB (tl w) := by
  unfold leadB
  rw [Bool.not_not, str_eq_tl, str_eq_tl, lit_0, show tl (⟨#[c]⟩ : Str) = [c] from rfl, show tl (⟨#[48]⟩ : Str) = [48] from rfl, e]
  congr 1
  rw [decide_eq_decide, List.head?_cons]
  constructor
  · intro h; injection h with h; rw [h]
  · intro h; injection h with h; rw [h]
theorem first_bad {α : Type} (p : α → Bool) : ∀ xs : List α, (∀ x ∈ xs, p x = true) ∨ ∃ pre x post, xs = pre ++ x :: post ∧ (∀ y ∈ pre, p y = true) ∧ p x = false
  | [] => .inl fun _ h => nomatch h
  | a :: xs => by
    cases h : p a with
    | false => exact .inr ⟨[], a, xs, rfl, fun _ h => (nomatch h), h⟩
    | true =>
      rcases first_bad p xs with h2 | ⟨pre, x, post, e, h2, h3⟩
      · exact .inl fun x hx => by
          rcases List.mem_cons.mp hx with rfl | hx
          · exact h
          · exact h2 x hx
      · refine .inr ⟨a :: pre, x, post, by rw [e]; rfl, fun y hy => ?_, h3⟩
        rcases List.mem_cons.mp hy with rfl | hy
        · exact h
        · exact h2 y hy
section
variable {K : PySem.W.Frag} {φ : Addr → Prop} {J : Hp → Prop} {ρ : List (Option D)} {te ta tb : TE} {t : TA} {W : WX} {c : Addr} {P : D → Prop}
theorem rs_cb1 {r : List V → Hp → VK → Prop} (h : Rs K φ J te ρ W c) : Rs K φ J (tCB r (tCons te t)) ρ W c := fun σ H A k Q => h σ H A k _
theorem rs_tup2 (ha : EvP K φ J ta ρ P) (h : Rs K φ J te ρ W c) : Rs K φ J (tTup (tCons ta (tCons te t))) ρ W c := fun σ H A k Q => ha σ H A _ fun v d H1 b1 A1 pd r => h σ H1 A1 (fun H' b A' => k H' (b1.trans b) A') _
end
theorem word_ok {t : Str} {c : Nat} (hz : t.length ≤ 1000000) (ha : asc (tl t)) {ys : List Str} (hy : ys.map tl = splC c (tl t)) : ∀ y ∈ ys, y.length ≤ 1000000 ∧ asc (tl y) := fun y hm => by
  have h1 : tl y ∈ splC c (tl t) := by rw [← hy]; exact List.mem_map.mpr ⟨y, hm, rfl⟩
  refine ⟨?_, asc_spl ha h1⟩
  rw [len_tl] at hz ⊢
  exact Nat.le_trans (splC_mem_len h1) hz
theorem startswith_tl (x y : Str) : Txt.startswith x y = (tl y).isPrefixOf (tl x) := by
  unfold PySem.Txt.startswith
  rw [Bool.eq_iff_iff, Bool.and_eq_true, decide_eq_true_eq, List.isPrefixOf_iff_prefix, PySem.StrLaws.subAt_eq, List.prefix_iff_eq_take, List.drop_zero, beq_iff_eq, len_tl, len_tl]
  constructor
  · rintro ⟨_, h⟩; exact h.symm
  · intro h
    refine ⟨?_, h.symm⟩
    have := congrArg List.length h
    rw [List.length_take] at this
    omega
theorem removeprefix_tl {x y : Str} (h : (tl y).isPrefixOf (tl x) = true) : tl (Txt.removeprefix x y) = (tl x).drop (tl y).length := by
  have h2 := startswith_tl x y
  rw [h] at h2
  unfold PySem.Txt.startswith at h2
  rw [PySem.StrLaws.removeprefix_eq, if_pos h2]
  show ((tl x).drop y.length).take (x.length - y.length) = _
  rw [len_tl y, len_tl x]
  refine List.take_of_length_le ?_
  rw [List.length_drop]
  exact Nat.le_refl _
theorem okq_strs {ys : List Str} (h : ∀ y ∈ ys, PyData.strOk y = true) : okq 64 (.lst (ys.map D.str)) = true := by
  show (ys.map D.str).all (okq 63) = true
  rw [List.all_map, List.all_eq_true]
  exact fun y hy => h y hy
def numS (i : Int) : Str := Str.ofString (toString i)
def nlS (s : Str) : Str := s ++ "\n"
theorem empty_app (a : Str) : Str.empty ++ a = a := ext_tl (by rw [tl_append]; rfl)
theorem joinL_nil : ∀ ps : List (List Nat), joinL [] ps = ps.flatten
  | [] => rfl
  | [p] => by simp [joinL]
  | p :: q :: r => by
    show p ++ ([] ++ joinL [] (q :: r)) = _
    rw [joinL_nil (q :: r)]
    rfl
theorem tl_joinE (ys : List Str) : tl (Txt.join "" ys) = (ys.map tl).flatten := by
  rw [join_eq, tl_join, show tl ("" : Str) = [] from rfl, joinL_nil]
theorem tl_nlS (s : Str) : tl (nlS s) = tl s ++ [10] := by
  unfold nlS
  rw [tl_append, lit_nl]
theorem len_app (a b : Str) : (a ++ b).length = a.length + b.length := by simp only [len_tl, tl_append, List.length_append]
theorem sum_le {b : Nat} : ∀ {ys : List Str}, (∀ y ∈ ys, y.length ≤ b) → (ys.map (·.length)).sum ≤ ys.length * b
  | [], _ => Nat.zero_le _
  | y :: ys, h => by
    have ih := sum_le fun x hx => h x (List.mem_cons_of_mem _ hx)
    have h1 := h y List.mem_cons_self
    rw [List.map_cons, List.sum_cons, List.length_cons, Nat.succ_mul]
    omega
theorem len_nlS (s : Str) : (nlS s).length = s.length + 1 := by
  unfold nlS
  rw [len_app, lit_nl]
  rfl
theorem asc_numL (n : Nat) : asc (numL n) := fun c hc => by
  have := numL_digits n c hc
  omega
theorem digitsVal_lt : ∀ (n : Nat) (l : List Nat), l.length = n → NumText.AllDigits l → NumText.digitsVal l < 10 ^ n
  | 0, l, hn, _ => by
    rw [List.length_eq_zero_iff.mp hn]
    decide
  | n + 1, l, hn, hd => by
    have hne : l ≠ [] := fun z => by rw [z] at hn; cases hn
    have e := List.dropLast_concat_getLast hne
    generalize hm : l.dropLast = m at e
    generalize l.getLast hne = c at e
    subst e
    have hc := hd c (by simp)
    have ih := digitsVal_lt n m (by rw [List.length_append] at hn; exact Nat.succ.inj hn) fun x hx => hd x (List.mem_append_left _ hx)
    rw [digitsVal_snoc, Nat.pow_succ]
    omega
theorem tl_cut (z : Str) (lo hi : Option Int) : tl (cutS z lo hi) = ((tl z).drop (HT.sIx (tl z).length 0 lo)).take (HT.sIx (tl z).length (tl z).length hi - HT.sIx (tl z).length 0 lo) := by
  rw [← len_tl]
  rfl
theorem tl_last (t : Str) : tl (cutS t (some (-1)) none) = (tl t).drop ((tl t).length - 1) := by
  rw [tl_cut]
  have e : HT.sIx (tl t).length 0 (some (-1)) = (tl t).length - 1 := by
    show (if (-1 : Int) < 0 then ((-1 : Int) + ((tl t).length : Int)).toNat else min (-1 : Int).toNat (tl t).length) = _
    rw [if_pos (by decide)]
    omega
  rw [e]
  show List.take ((tl t).length - _) _ = _
  refine List.take_of_length_le ?_
  rw [List.length_drop]
  exact Nat.le_refl _
theorem tl_init (t : Str) : tl (cutS t none (some (-1))) = (tl t).dropLast := by
  rw [tl_cut]
  have e : HT.sIx (tl t).length (tl t).length (some (-1)) = (tl t).length - 1 := by
    show (if (-1 : Int) < 0 then ((-1 : Int) + ((tl t).length : Int)).toNat else min (-1 : Int).toNat (tl t).length) = _
    rw [if_pos (by decide)]
    omega
  rw [e, List.dropLast_eq_take]
  rfl
theorem last_test (t : Str) : decide (cutS t (some (-1)) none = "\n") = decide ((tl t).getLast? = some 10) := by
  rw [str_eq_tl, tl_last, lit_nl, show tl (⟨#[10]⟩ : Str) = [10] from rfl, decide_eq_decide]
  rcases List.eq_nil_or_concat (tl t) with h | ⟨i, x, h⟩
  · rw [h]
    simp
  · rw [h, List.concat_eq_append, List.length_append]
    simp
end

/-! ### the console: what is kept -/
section
open TL
theorem lexB_irrefl (p : Int × Int) : SrtO.lexB p p = false := by
  cases h : SrtO.lexB p p with
  | false => rfl
  | true =>
    have := SrtO.lexB_iff.mp h
    omega
theorem lexB_asymm {p q : Int × Int} (h : SrtO.lexB p q = true) : SrtO.lexB q p = false := by
  cases h2 : SrtO.lexB q p with
  | false => rfl
  | true =>
    have a := SrtO.lexB_iff.mp h
    have b := SrtO.lexB_iff.mp h2
    omega
theorem lexB_tr {p q r : Int × Int} (h : SrtO.lexB p q = true) (h2 : SrtO.lexB q r = true) : SrtO.lexB p r = true := by
  have a := SrtO.lexB_iff.mp h
  have b := SrtO.lexB_iff.mp h2
  exact SrtO.lexB_iff.mpr (by omega)
theorem lexS_of {ps : List (Int × Int)} (h : ps.Pairwise fun a b => SrtO.lexB a b = true) : LexS ps := h.imp fun {a b} h => lexB_asymm h
theorem lexB_eq {p q : Int × Int} (h1 : SrtO.lexB p q = false) (h2 : SrtO.lexB q p = false) : p = q := by
  have a := SrtO.lexB_no.mp h1
  have b := SrtO.lexB_no.mp h2
  refine Prod.ext ?_ ?_ <;> omega
theorem lexS_uniq : ∀ {a b : List (Int × Int)}, LexS a → LexS b → a.Perm b → a = b
  | [], b, _, _, h => (List.Perm.eq_nil h.symm).symm
  | x :: a, [], _, _, h => absurd h.length_eq (by simp)
  | x :: a, y :: b, ha, hb, h => by
    have e : x = y := by
      rcases List.mem_cons.mp (h.mem_iff.mp (List.mem_cons_self (a := x) (l := a))) with e | hx
      · exact e
      · rcases List.mem_cons.mp (h.mem_iff.mpr (List.mem_cons_self (a := y) (l := b))) with e | hy
        · exact e.symm
        · exact lexB_eq ((List.pairwise_cons.mp hb).1 x hx) ((List.pairwise_cons.mp ha).1 y hy)
    subst e
    rw [lexS_uniq (List.pairwise_cons.mp ha).2 (List.pairwise_cons.mp hb).2 h.cons_inv]
theorem nodup_of_lex {ps : List (Int × Int)} (h : ps.Pairwise fun a b => SrtO.lexB a b = true) : ps.Nodup := h.imp fun {a b} h e => by
  subst e
  rw [lexB_irrefl] at h
  cases h
/-- the needs of now: rows in the order in which they came -/
structure LsOk (n : Int) (ls : List Row) : Prop where
  n0 : 0 ≤ n
  n1 : n ≤ 24
  rows : ∀ r ∈ ls, 0 ≤ r.1 ∧ r.1 < r.2.1 ∧ r.2.1 < n ∧ 0 ≤ r.2.2 ∧ r.2.2 ≤ 9
  nd : (ls.map pairOf).Nodup
/-- pairs in order -/
def insP (p : Int × Int) : List (Int × Int) → List (Int × Int)
  | [] => [p]
  | q :: r => if SrtO.lexB q p = true then q :: insP p r else p :: q :: r
def srtP : List (Int × Int) → List (Int × Int)
  | [] => []
  | p :: r => insP p (srtP r)
theorem insP_perm (p : Int × Int) : ∀ l, (insP p l).Perm (p :: l)
  | [] => .refl _
  | q :: r => by
    unfold insP
    split
    · exact ((insP_perm p r).cons q).trans (List.Perm.swap _ _ _)
    · exact .refl _
theorem srtP_perm : ∀ l, (srtP l).Perm l
  | [] => .refl _
  | p :: r => (insP_perm p _).trans ((srtP_perm r).cons p)
theorem insP_asc {p : Int × Int} : ∀ {l : List (Int × Int)}, (l.Pairwise fun a b => SrtO.lexB a b = true) → p ∉ l → (insP p l).Pairwise fun a b => SrtO.lexB a b = true
  | [], _, _ => List.pairwise_singleton _ _
  | q :: r, h, hn => by
    have h1 := List.pairwise_cons.mp h
    unfold insP
    split
    · rename_i hq
      refine List.pairwise_cons.mpr ⟨fun x hx => ?_, insP_asc h1.2 fun z => hn (List.mem_cons_of_mem _ z)⟩
      rcases List.mem_cons.mp ((insP_perm p r).mem_iff.mp hx) with rfl | hx
      · exact hq
      · exact h1.1 x hx
    · rename_i hq
      have hq : SrtO.lexB q p = false := Bool.not_eq_true _ ▸ hq
      have hpq : SrtO.lexB p q = true := by
        cases e : SrtO.lexB p q with
        | true => rfl
        | false => exact absurd (lexB_eq e hq) fun z => hn (by rw [z]; exact List.mem_cons_self)
      refine List.pairwise_cons.mpr ⟨fun x hx => ?_, h⟩
      rcases List.mem_cons.mp hx with rfl | hx
      · exact hpq
      · exact lexB_tr hpq (h1.1 x hx)
theorem srtP_asc : ∀ {l : List (Int × Int)}, l.Nodup → (srtP l).Pairwise fun a b => SrtO.lexB a b = true
  | [], _ => List.Pairwise.nil
  | p :: r, h => insP_asc (srtP_asc (List.nodup_cons.mp h).2) fun z => (List.nodup_cons.mp h).1 ((srtP_perm r).mem_iff.mp z)
def kvOf (r : Row) : List Key × D := (prK (pairOf r), .int r.2.2)
def posB (r : Row) : Bool := decide (0 < r.2.2)
theorem val_rows : ∀ {ls : List Row} {r : Row}, (ls.map pairOf).Nodup → r ∈ ls → valD (ls.map kvOf) (prK (pairOf r)) = some (.int r.2.2)
  | a :: ls, r, hn, hr => by
    rw [List.map_cons] at hn ⊢
    rcases List.mem_cons.mp hr with rfl | hr
    · exact valD_pos rfl
    · rw [valD_neg]
      · exact val_rows (List.nodup_cons.mp hn).2 hr
      · intro e
        have e2 : pairOf a = pairOf r := prK_inj e
        exact (List.nodup_cons.mp hn).1 (by rw [e2]; exact List.mem_map.mpr ⟨r, hr, rfl⟩)
theorem val_rows_none : ∀ {ls : List Row} {p : Int × Int}, p ∉ ls.map pairOf → valD (ls.map kvOf) (prK p) = none
  | [], _, _ => rfl
  | a :: ls, p, h => by
    rw [List.map_cons] at h ⊢
    rw [valD_neg]
    · exact val_rows_none fun z => h (List.mem_cons_of_mem _ z)
    · intro e
      have e2 : pairOf a = p := prK_inj e
      exact h (by rw [e2]; exact List.mem_cons_self)
/-- the number of a pair -/
theorem least_at {ls : List Row} (hn : (ls.map pairOf).Nodup) {r : Row} (hr : r ∈ ls) {i j : Int} (e : pairOf r = (min i j, max i j)) : leastB ls i j = r.2.2 := by
  induction ls with
  | nil => cases hr
  | cons a ls ih =>
    rw [List.map_cons] at hn
    unfold leastB
    rw [List.find?_cons]
    by_cases h : pairOf a = (min i j, max i j)
    · rw [decide_eq_true h]
      rcases List.mem_cons.mp hr with rfl | hr
      · rfl
      · exact absurd (List.mem_map.mpr ⟨r, hr, e.trans h.symm⟩) (List.nodup_cons.mp hn).1
    · rw [decide_eq_false h]
      rcases List.mem_cons.mp hr with rfl | hr
      · exact absurd e h
      · exact ih (List.nodup_cons.mp hn).2 hr
theorem least_none {ls : List Row} {i j : Int} (h : ∀ r ∈ ls, pairOf r ≠ (min i j, max i j)) : leastB ls i j = 0 := by
  unfold leastB
  rw [List.find?_eq_none.mpr fun r hr => by simpa using h r hr]
  rfl
/-- the rows in order -/
def rowP (ls : List Row) (p : Int × Int) : Row := (p.1, p.2, leastB ls p.1 p.2)
def allRows (ls : List Row) : List Row := (srtP (ls.map pairOf)).map (rowP ls)
def rowsOf (ls : List Row) : List Row := (allRows ls).filter posB
theorem LsOk.row_of {n : Int} {ls : List Row} (h : LsOk n ls) {r : Row} (hr : r ∈ ls) : rowP ls (pairOf r) = r := by
  have := h.rows r hr
  have e : leastB ls r.1 r.2.1 = r.2.2 := least_at h.nd hr (by
    show (r.1, r.2.1) = _
    rw [show min r.1 r.2.1 = r.1 by omega, show max r.1 r.2.1 = r.2.1 by omega])
  show (r.1, r.2.1, leastB ls r.1 r.2.1) = r
  rw [e]
theorem LsOk.mem {n : Int} {ls : List Row} (h : LsOk n ls) {r : Row} : r ∈ allRows ls ↔ r ∈ ls := by
  unfold allRows
  rw [List.mem_map]
  constructor
  · rintro ⟨p, hp, rfl⟩
    obtain ⟨r, hr, rfl⟩ := List.mem_map.mp ((srtP_perm _).mem_iff.mp hp)
    rw [h.row_of hr]
    exact hr
  · intro hr
    exact ⟨pairOf r, (srtP_perm _).mem_iff.mpr (List.mem_map.mpr ⟨r, hr, rfl⟩), h.row_of hr⟩
theorem all_pairs (ls : List Row) : (allRows ls).map pairOf = srtP (ls.map pairOf) := by
  unfold allRows
  rw [List.map_map]
  conv => rhs; rw [← List.map_id (srtP (ls.map pairOf))]
  rfl
theorem LsOk.mem_pos {n : Int} {ls : List Row} (h : LsOk n ls) {r : Row} : r ∈ rowsOf ls ↔ r ∈ ls ∧ 0 < r.2.2 := by
  unfold rowsOf
  rw [List.mem_filter, h.mem]
  exact and_congr_right fun _ => decide_eq_true_iff
theorem LsOk.asc {n : Int} {ls : List Row} (h : LsOk n ls) : ((rowsOf ls).map pairOf).Pairwise fun a b => SrtO.lexB a b = true := by
  have h1 := srtP_asc h.nd
  rw [← all_pairs] at h1
  exact h1.sublist ((List.filter_sublist (p := posB) (l := allRows ls)).map _)
theorem rowsOf_len (ls : List Row) : (rowsOf ls).length ≤ ls.length := by
  refine Nat.le_trans (List.length_filter_le _ _) ?_
  unfold allRows
  rw [List.length_map, (srtP_perm _).length_eq, List.length_map]
  exact Nat.le_refl _
theorem LsOk.sep {n : Int} {ls : List Row} (h : LsOk n ls) (hl : ls.length ≤ 1000) : SepG n (rowsOf ls) := ⟨h.n0, h.n1, fun r hr => by
  obtain ⟨h1, h2⟩ := h.mem_pos.mp hr
  have := h.rows r h1
  omega, h.asc, Nat.le_trans (rowsOf_len ls) hl⟩
theorem LsOk.least {n : Int} {ls : List Row} (h : LsOk n ls) (i j : Int) : leastB (rowsOf ls) i j = leastB ls i j := by
  by_cases hx : ∃ r ∈ ls, pairOf r = (min i j, max i j)
  · obtain ⟨r, hr, e⟩ := hx
    rw [least_at h.nd hr e]
    by_cases hp : 0 < r.2.2
    · exact least_at (nodup_of_lex h.asc) (h.mem_pos.mpr ⟨hr, hp⟩) e
    · have := h.rows r hr
      rw [least_none fun r' hr' e' => ?_]
      · omega
      · obtain ⟨h1, h2⟩ := h.mem_pos.mp hr'
        have e3 := least_at h.nd h1 e'
        rw [least_at h.nd hr e] at e3
        omega
  · have hx : ∀ r ∈ ls, pairOf r ≠ (min i j, max i j) := fun r hr e => hx ⟨r, hr, e⟩
    rw [least_none hx, least_none fun r hr => hx r (h.mem_pos.mp hr).1]
theorem LsOk.least_rg {n : Int} {ls : List Row} (h : LsOk n ls) (i j : Int) : 0 ≤ leastB ls i j ∧ leastB ls i j ≤ 9 := leastB_range (fun r hr => ⟨(h.rows r hr).2.2.2.1, (h.rows r hr).2.2.2.2⟩) i j
/-- what the comprehension of separations tells -/
def lookD (ls : List Row) (d : D) : Int := match d with
  | .tup [.int a, .int b] => (match valD (ls.map kvOf) (prK (a, b)) with | some (.int i) => i | _ => 0)
  | _ => 0
theorem LsOk.look {n : Int} {ls : List Row} (h : LsOk n ls) {p : Int × Int} (hp : p ∈ srtP (ls.map pairOf)) : valD (ls.map kvOf) (prK p) = some (.int (rowP ls p).2.2) ∧ lookD ls (prDD p) = (rowP ls p).2.2 := by
  obtain ⟨r, hr, rfl⟩ := List.mem_map.mp ((srtP_perm _).mem_iff.mp hp)
  have e := val_rows h.nd hr
  rw [h.row_of hr]
  refine ⟨e, ?_⟩
  unfold lookD prDD
  show (match valD (ls.map kvOf) (prK (pairOf r)) with | some (.int i) => i | _ => 0) = _
  rw [e]
theorem LsOk.list {n : Int} {ls : List Row} (h : LsOk n ls) : ((((srtP (ls.map pairOf)).map prDD).filter fun d => decide (0 < lookD ls d)).map fun d => match d with | .tup [a, b] => .tup [a, b, .int (lookD ls d)] | d => d) = (rowsOf ls).map rowD := by
  unfold rowsOf allRows
  rw [List.filter_map, List.map_map, List.filter_map, List.map_map]
  have e : (srtP (ls.map pairOf)).filter ((fun d => decide (0 < lookD ls d)) ∘ prDD) = (srtP (ls.map pairOf)).filter (posB ∘ rowP ls) := List.filter_congr fun p hp => by
    show decide (0 < lookD ls (prDD p)) = decide (0 < (rowP ls p).2.2)
    rw [(h.look hp).2]
  rw [e]
  refine List.map_congr_left fun p hp => ?_
  show D.tup [.int p.1, .int p.2, .int (lookD ls (prDD p))] = _
  rw [(h.look (List.mem_filter.mp hp).1).2]
  rfl
/-- a number is put -/
def putRow (ls : List Row) (p : Int × Int) (l : Int) : List Row := if (ls.any fun r => decide (pairOf r = p)) = true then ls.map (fun r => if pairOf r = p then (p.1, p.2, l) else r) else ls ++ [(p.1, p.2, l)]
theorem put_rows (ls : List Row) (p : Int × Int) (l : Int) : putD (ls.map kvOf) (prK p) (.int l) = (putRow ls p l).map kvOf := by
  have e0 : ∀ r : Row, (decide ((kvOf r).1 = prK p)) = decide (pairOf r = p) := fun r => decide_eq_decide.mpr ⟨fun h => prK_inj h, fun h => by show prK (pairOf r) = prK p; rw [h]⟩
  unfold putD putRow
  rw [List.any_map, show ((fun kv : List Key × D => decide (kv.1 = prK p)) ∘ kvOf) = fun r => decide (pairOf r = p) from funext e0]
  split
  · rw [List.map_map, List.map_map]
    refine List.map_congr_left fun r _ => ?_
    show (if (kvOf r).1 = prK p then ((kvOf r).1, D.int l) else kvOf r) = kvOf (if pairOf r = p then (p.1, p.2, l) else r)
    by_cases h : pairOf r = p
    · rw [if_pos h, if_pos (show (kvOf r).1 = prK p by show prK (pairOf r) = _; rw [h])]
      show (prK (pairOf r), D.int l) = (prK (p.1, p.2), D.int l)
      rw [h]
    · rw [if_neg h, if_neg (show ¬ (kvOf r).1 = prK p from fun z => h (prK_inj z))]
  · rw [List.map_append]
    rfl
theorem put_pairs_old {ls : List Row} {p : Int × Int} {l : Int} (h : (ls.any fun r => decide (pairOf r = p)) = true) : (putRow ls p l).map pairOf = ls.map pairOf := by
  unfold putRow
  rw [if_pos h, List.map_map]
  refine List.map_congr_left fun r _ => ?_
  show pairOf (if pairOf r = p then (p.1, p.2, l) else r) = _
  by_cases e : pairOf r = p
  · rw [if_pos e, e]
    rfl
  · rw [if_neg e]
theorem put_len (ls : List Row) (p : Int × Int) (l : Int) : (putRow ls p l).length ≤ ls.length + 1 := by
  unfold putRow
  split
  · rw [List.length_map]; omega
  · rw [List.length_append]; exact Nat.le_refl _
theorem LsOk.put {n : Int} {ls : List Row} (h : LsOk n ls) {p : Int × Int} {l : Int} (h1 : 0 ≤ p.1) (h2 : p.1 < p.2) (h3 : p.2 < n) (h4 : 0 ≤ l) (h5 : l ≤ 9) : LsOk n (putRow ls p l) := by
  refine ⟨h.n0, h.n1, fun r hr => ?_, ?_⟩
  · unfold putRow at hr
    split at hr
    · obtain ⟨r', hr', rfl⟩ := List.mem_map.mp hr
      by_cases e : pairOf r' = p
      · rw [if_pos e]
        exact ⟨h1, h2, h3, h4, h5⟩
      · rw [if_neg e]
        exact h.rows r' hr'
    · rcases List.mem_append.mp hr with hr | hr
      · exact h.rows r hr
      · rw [List.mem_singleton.mp hr]
        exact ⟨h1, h2, h3, h4, h5⟩
  · by_cases e : (ls.any fun r => decide (pairOf r = p)) = true
    · rw [put_pairs_old e]
      exact h.nd
    · unfold putRow
      rw [if_neg e, List.map_append]
      refine List.nodup_append.mpr ⟨h.nd, List.nodup_cons.mpr ⟨List.not_mem_nil, List.nodup_nil⟩, fun a ha b hb ab => e ?_⟩
      obtain ⟨r, hr, rfl⟩ := List.mem_map.mp ha
      have hb : b = p := List.mem_singleton.mp hb
      exact List.any_eq_true.mpr ⟨r, hr, decide_eq_true (ab.trans hb)⟩
theorem lsOk_nil {n : Int} (h0 : 0 ≤ n) (h1 : n ≤ 24) : LsOk n [] := ⟨h0, h1, (fun r hr => by cases hr), List.nodup_nil⟩
end

/-! ### the console: commands -/
section
open TL
inductive Cmd where
  | users (k : Nat)
  | need (i j l : Nat)
  | span
  | assign (c : Nat)
  | check (c : Nat) (ps : List Nat)
  | greedy
  | blocking (a b c : Nat)
deriving DecidableEq
def numsOf : List Str → Option (List Nat)
  | [] => some []
  | w :: ws => match okNum 9 (tl w), numsOf ws with
    | some n, some ns => some (n :: ns)
    | _, _ => none
theorem nums_cons {w : Str} {ws : List Str} : numsOf (w :: ws) = match okNum 9 (tl w), numsOf ws with
    | some n, some ns => some (n :: ns)
    | _, _ => none := rfl
theorem nums_some : ∀ {ws : List Str} {ns : List Nat}, numsOf ws = some ns → ws.map (fun w => okNum 9 (tl w)) = ns.map some
  | [], ns, h => by
    cases h
    rfl
  | w :: ws, ns, h => by
    rw [nums_cons] at h
    cases e1 : okNum 9 (tl w) with
    | none => rw [e1] at h; cases h
    | some n =>
      cases e2 : numsOf ws with
      | none => rw [e1, e2] at h; cases h
      | some r =>
        rw [e1, e2] at h
        cases h
        rw [List.map_cons, List.map_cons, e1, nums_some e2]
theorem nums_of : ∀ {ws : List Str} {ns : List Nat}, ws.map (fun w => okNum 9 (tl w)) = ns.map some → numsOf ws = some ns
  | [], [], _ => rfl
  | [], _ :: _, h => by cases h
  | _ :: _, [], h => by cases h
  | w :: ws, n :: ns, h => by
    rw [List.map_cons, List.map_cons] at h
    obtain ⟨h1, h2⟩ := List.cons.inj h
    rw [nums_cons, h1, nums_of h2]
theorem nums_none : ∀ {ws : List Str}, numsOf ws = none → ∃ pre w post, ws = pre ++ w :: post ∧ (∀ x ∈ pre, ∃ n, okNum 9 (tl x) = some n) ∧ okNum 9 (tl w) = none
  | [], h => by cases h
  | w :: ws, h => by
    rw [nums_cons] at h
    cases e1 : okNum 9 (tl w) with
    | none => exact ⟨[], w, ws, rfl, (fun x hx => by cases hx), e1⟩
    | some n =>
      cases e2 : numsOf ws with
      | some r => rw [e1, e2] at h; cases h
      | none =>
        obtain ⟨pre, w', post, rfl, h1, h2⟩ := nums_none e2
        refine ⟨w :: pre, w', post, rfl, fun x hx => ?_, h2⟩
        rcases List.mem_cons.mp hx with rfl | hx
        · exact ⟨n, e1⟩
        · exact h1 x hx
def cmdOf : List Str → Option Cmd
  | [] => none
  | w :: r =>
    if w = "users" ∧ r.length = 1 then (match numsOf r with
      | some [k] => some (.users k)
      | _ => none)
    else if w = "need" ∧ r.length = 3 then (match numsOf r with
      | some [i, j, l] => some (.need i j l)
      | _ => none)
    else if w = "span" ∧ r.length = 0 then some .span
    else if w = "assign" ∧ r.length = 1 then (match numsOf r with
      | some [c] => some (.assign c)
      | _ => none)
    else if w = "check" ∧ 0 < r.length then (match numsOf r with
      | some (c :: ps) => some (.check c ps)
      | _ => none)
    else if w = "greedy" ∧ r.length = 0 then some .greedy
    else if w = "blocking" ∧ r.length = 3 then (match numsOf r with
      | some [a, b, c] => some (.blocking a b c)
      | _ => none)
    else none
/-- what is not allowed now -/
def bad (n : Int) : Cmd → Bool
  | .users k => decide (24 < k)
  | .need i j l => (decide (n - 1 < (i : Int)) || decide (n - 1 < (j : Int))) || (decide (9 < l) || decide (i = j))
  | .assign c => decide (40 < c)
  | .check _ ps => decide ((ps.length : Int) ≠ n)
  | .blocking _ b c => decide (b = 0) || decide (100 < c)
  | _ => false
def rejB (n : Int) (ws : List Str) : Bool := match cmdOf ws with
  | none => true
  | some c => bad n c
def pairIJ (i j : Nat) : Int × Int := (min (i : Int) j, max (i : Int) j)
def after (n : Int) (ls : List Row) : Cmd → Int × List Row
  | .users k => ((k : Int), [])
  | .need i j l => (n, putRow ls (pairIJ i j) (l : Int))
  | _ => (n, ls)
/-- there is an assignment -/
def CanN (n : Int) (ls : List Row) (c : Int) : Prop := ∃ w, Keeps n ls c w
/-- a channel is blocked for the next user -/
def BlkC (ls : List Row) (ws : List Int) (i : Nat) (ch : Int) : Prop := ∃ j : Nat, j < i ∧ ((ws.getD j 0 - ch).natAbs : Int) < leastB ls i j
/-- the least channels in order -/
def GreedyL (n : Int) (ls : List Row) (ws : List Int) : Prop := ws.length = n.toNat ∧ ∀ i : Nat, i < ws.length → 0 ≤ ws.getD i 0 ∧ ¬ BlkC ls ws i (ws.getD i 0) ∧ ∀ ch : Int, 0 ≤ ch → ch < ws.getD i 0 → BlkC ls ws i ch
def HitP (ls : List Row) (ps : List Nat) (i j : Nat) : Prop := i < j ∧ j < ps.length ∧ ((((ps.getD i 0 : Nat) : Int) - ((ps.getD j 0 : Nat) : Int)).natAbs : Int) < leastB ls i j
def CheckT (ls : List Row) (c : Nat) (ps : List Nat) (s : Str) : Prop :=
  (∃ i : Nat, i < ps.length ∧ c ≤ ps.getD i 0 ∧ (∀ k, k < i → ps.getD k 0 < c) ∧ s = "outside " ++ numS i) ∨
  ((∀ k, k < ps.length → ps.getD k 0 < c) ∧
    ((∃ i j : Nat, HitP ls ps i j ∧ (∀ i' j', HitP ls ps i' j' → i < i' ∨ (i = i' ∧ j ≤ j')) ∧ s = "breaks " ++ numS i ++ " " ++ numS j) ∨ ((∀ i j, ¬ HitP ls ps i j) ∧ s = "keeps")))
def greedyS (ws : List Int) : Str := "greedy" ++ Txt.join "" (ws.map fun c => " " ++ numS c)
def blockS (a b c : Nat) : Str := "blocking " ++ numS ((blk a b c).1 : Nat) ++ "/" ++ numS ((blk a b c).2 : Nat)
/-- what is told -/
def Tell (n : Int) (ls : List Row) : Cmd → Option Str → Prop
  | .users _, o => o = none
  | .need _ _ _, o => o = none
  | .span, o => ∃ k : Nat, CanN n ls k ∧ (∀ j : Nat, j < k → ¬ CanN n ls j) ∧ o = some ("span " ++ numS k)
  | .assign c, o => (CanN n ls c ∧ o = some "yes") ∨ (¬ CanN n ls c ∧ o = some "no")
  | .check c ps, o => ∃ s, CheckT ls c ps s ∧ o = some s
  | .greedy, o => ∃ ws, GreedyL n ls ws ∧ o = some (greedyS ws)
  | .blocking a b c, o => o = some (blockS a b c)
theorem greedy_uniq {n : Int} {ls : List Row} {ws ws' : List Int} (h : GreedyL n ls ws) (h' : GreedyL n ls ws') : ws = ws' := by
  have key : ∀ i : Nat, i ≤ ws.length → ws.take i = ws'.take i := by
    intro i
    induction i with
    | zero => exact fun _ => rfl
    | succ i ih =>
      intro hi
      have e := ih (by omega)
      have hi' : i < ws'.length := by rw [h'.1, ← h.1]; omega
      have g : ∀ j, j < i → ws.getD j 0 = ws'.getD j 0 := fun j hj => by
        have := congrArg (fun l => l.getD j 0) e
        simp only [List.getD_eq_getElem?_getD, List.getElem?_take, if_pos hj] at this ⊢
        exact this
      have b : ∀ ch, BlkC ls ws i ch ↔ BlkC ls ws' i ch := fun ch => by
        constructor
        · rintro ⟨j, hj, hb⟩
          exact ⟨j, hj, by rw [← g j hj]; exact hb⟩
        · rintro ⟨j, hj, hb⟩
          exact ⟨j, hj, by rw [g j hj]; exact hb⟩
      obtain ⟨a1, a2, a3⟩ := h.2 i (by omega)
      obtain ⟨b1, b2, b3⟩ := h'.2 i hi'
      have ev : ws.getD i 0 = ws'.getD i 0 := by
        rcases Int.lt_trichotomy (ws.getD i 0) (ws'.getD i 0) with z | z | z
        · exact absurd ((b _).mpr (b3 _ a1 z)) a2
        · exact z
        · exact absurd ((b _).mp (a3 _ b1 z)) b2
      rw [List.take_add_one, List.take_add_one, e]
      congr 1
      rw [List.getElem?_eq_getElem (show i < ws.length by omega), List.getElem?_eq_getElem hi']
      rw [List.getD_eq_getElem?_getD, List.getD_eq_getElem?_getD, List.getElem?_eq_getElem (show i < ws.length by omega), List.getElem?_eq_getElem hi'] at ev
      exact congrArg (fun x => [x]) ev
  have := key ws.length (Nat.le_refl _)
  rw [List.take_length, show ws.length = ws'.length by rw [h.1, h'.1], List.take_length] at this
  exact this
theorem check_uniq {ls : List Row} {c : Nat} {ps : List Nat} {s s' : Str} (h : CheckT ls c ps s) (h' : CheckT ls c ps s') : s = s' := by
  rcases h with ⟨i, i1, i2, i3, rfl⟩ | ⟨h1, h⟩
  · rcases h' with ⟨k, k1, k2, k3, rfl⟩ | ⟨h2, _⟩
    · have : i = k := by
        rcases Nat.lt_trichotomy i k with z | z | z
        · have := k3 i z
          omega
        · exact z
        · have := i3 k z
          omega
      rw [this]
    · have := h2 i i1
      omega
  · rcases h' with ⟨k, k1, k2, k3, rfl⟩ | ⟨h2, h'⟩
    · have := h1 k k1
      omega
    · rcases h with ⟨i, j, h3, h4, rfl⟩ | ⟨h3, rfl⟩
      · rcases h' with ⟨i', j', h5, h6, rfl⟩ | ⟨h5, rfl⟩
        · have a := h4 _ _ h5
          have b := h6 _ _ h3
          have e1 : i = i' := by omega
          have e2 : j = j' := by omega
          rw [e1, e2]
        · exact absurd h3 (h5 i j)
      · rcases h' with ⟨i', j', h5, h6, rfl⟩ | ⟨h5, rfl⟩
        · exact absurd h5 (h3 i' j')
        · rfl
theorem Tell.uniq {n : Int} {ls : List Row} {c : Cmd} {o o' : Option Str} (h : Tell n ls c o) (h' : Tell n ls c o') : o = o' := by
  cases c with
  | users k => exact Eq.trans h (Eq.symm h')
  | need i j l => exact Eq.trans h (Eq.symm h')
  | span =>
    obtain ⟨k, k1, k2, rfl⟩ := h
    obtain ⟨m, m1, m2, rfl⟩ := h'
    have : k = m := by
      rcases Nat.lt_trichotomy k m with z | z | z
      · exact absurd k1 (m2 k z)
      · exact z
      · exact absurd m1 (k2 m z)
    rw [this]
  | assign c =>
    rcases h with ⟨h1, rfl⟩ | ⟨h1, rfl⟩
    · rcases h' with ⟨h2, rfl⟩ | ⟨h2, rfl⟩
      · rfl
      · exact absurd h1 h2
    · rcases h' with ⟨h2, rfl⟩ | ⟨h2, rfl⟩
      · exact absurd h2 h1
      · rfl
  | check c ps =>
    obtain ⟨s, h1, rfl⟩ := h
    obtain ⟨s', h2, rfl⟩ := h'
    rw [check_uniq h1 h2]
  | greedy =>
    obtain ⟨s, h1, rfl⟩ := h
    obtain ⟨s', h2, rfl⟩ := h'
    rw [greedy_uniq h1 h2]
  | blocking a b c => exact Eq.trans h (Eq.symm h')
/-- of some stretches a free place is found soon -/
def Hit (iv : List (Int × Int)) (ch : Int) : Prop := ∃ p ∈ iv, ((ch - p.1).natAbs : Int) < p.2
theorem or_count (A B : Nat → Bool) : ∀ l : List Nat, (l.filter fun k => A k || B k).length ≤ (l.filter A).length + (l.filter B).length
  | [] => Nat.le_refl _
  | k :: l => by
    have ih := or_count A B l
    rw [List.filter_cons, List.filter_cons, List.filter_cons]
    cases A k <;> cases B k
    · exact ih
    · show (l.filter fun k => A k || B k).length + 1 ≤ (l.filter A).length + ((l.filter B).length + 1)
      omega
    · show (l.filter fun k => A k || B k).length + 1 ≤ ((l.filter A).length + 1) + (l.filter B).length
      omega
    · show _ + 1 ≤ (_ + 1) + (_ + 1)
      omega
theorem hit_count : ∀ (iv : List (Int × Int)) (m : Nat), (∀ p ∈ iv, 0 ≤ p.2) → (∀ k : Nat, k < m → Hit iv (k : Int)) → (m : Int) ≤ (iv.map fun p => 2 * p.2).sum := by
  -- the blocked places below m are at most as many as the stretches are long
  have count : ∀ (p : Int × Int) (m : Nat), 0 ≤ p.2 → ((((List.range m).filter fun k : Nat => decide ((((k : Int) - p.1).natAbs : Int) < p.2)).length : Nat) : Int) ≤ 2 * p.2 := by
    intro p m hp
    have h : ∀ m : Nat, ((((List.range m).filter fun k : Nat => decide ((((k : Int) - p.1).natAbs : Int) < p.2)).length : Nat) : Int) ≤ 2 * p.2 ∧ ((((List.range m).filter fun k : Nat => decide ((((k : Int) - p.1).natAbs : Int) < p.2)).length : Nat) : Int) ≤ max 0 ((m : Int) - (p.1 - p.2) - 1) := by
      intro m
      induction m with
      | zero => exact ⟨by simp; omega, by simp; omega⟩
      | succ m ih =>
        rw [List.range_succ, List.filter_append, List.length_append]
        by_cases hm : (((m : Int) - p.1).natAbs : Int) < p.2
        · rw [List.filter_cons, decide_eq_true hm, if_pos rfl, List.filter_nil]
          show ((_ + 1 : Nat) : Int) ≤ _ ∧ ((_ + 1 : Nat) : Int) ≤ _
          obtain ⟨i1, i2⟩ := ih
          constructor <;> omega
        · rw [List.filter_cons, decide_eq_false hm, if_neg (by exact Bool.false_ne_true), List.filter_nil]
          show ((_ + 0 : Nat) : Int) ≤ _ ∧ ((_ + 0 : Nat) : Int) ≤ _
          obtain ⟨i1, i2⟩ := ih
          constructor <;> omega
    exact (h m).1
  intro iv m hp hh
  have key : ∀ iv : List (Int × Int), (∀ p ∈ iv, 0 ≤ p.2) → ((((List.range m).filter fun k : Nat => iv.any fun p => decide ((((k : Int) - p.1).natAbs : Int) < p.2)).length : Nat) : Int) ≤ (iv.map fun p => 2 * p.2).sum := by
    intro iv
    induction iv with
    | nil =>
      intro _
      rw [List.filter_eq_nil_iff.mpr fun _ _ => by exact Bool.false_ne_true]
      exact Int.le_refl _
    | cons p r ih =>
      intro hp
      have h1 := ih fun x hx => hp x (List.mem_cons_of_mem _ hx)
      have h2 := count p m (hp p List.mem_cons_self)
      have h3 := or_count (fun k : Nat => decide ((((k : Int) - p.1).natAbs : Int) < p.2)) (fun k : Nat => r.any fun p => decide ((((k : Int) - p.1).natAbs : Int) < p.2)) (List.range m)
      have e3 : ((List.range m).filter fun k : Nat => (p :: r).any fun p => decide ((((k : Int) - p.1).natAbs : Int) < p.2)) = (List.range m).filter fun k : Nat => decide ((((k : Int) - p.1).natAbs : Int) < p.2) || r.any fun p => decide ((((k : Int) - p.1).natAbs : Int) < p.2) := rfl
      rw [e3]
      rw [List.map_cons, List.sum_cons]
      omega
  have h := key iv hp
  rw [List.filter_eq_self.mpr fun k hk => ?_, List.length_range] at h
  · exact h
  · obtain ⟨p, hp', e⟩ := hh k (List.mem_range.mp hk)
    exact List.any_eq_true.mpr ⟨p, hp', decide_eq_true e⟩
end

/-! ### the readers of papertexts -/
section
open TL
section
variable {P : Program} {w : World} {K : PySem.W.Frag} {mg : Str → Option Value} {base : Heap}
def RNum (c : Addr) : List D → D ⊕ Addr → Prop := fun ds o => ∃ w : Str, ds = [.str w] ∧ w.length ≤ 1000000 ∧ PyData.strOk w = true ∧ o = match okNum 9 (tl w) with
  | some n => .inl (.int (n : Int))
  | none => .inr c
theorem sc_read_number : FnScope ["word", "wrong", "char"] ["word"] (defScope s_read_number) := ⟨rfl, rfl, rfl, by decide +kernel, rfl, by decide +kernel, by decide +kernel⟩
theorem ok_read_number (B : Bi mg) (C : Cs mg) {c : Addr} (X_InvalidText : ExC K mg "InvalidText" c) {f : Addr} {fd : FuncData} (F : Fun K "read_number" "read_number" s_read_number f fd) : FnOk P w K mg base (L2N.CX P w) 1 f fd ["word"] (SpX K 1 (RNum c)) := by
  have S := sc_read_number
  refine fn_okXN F S rfl 2 rfl fun cdv A outer s H E hr => ⟨_, ((pss_cons (ps_setLc (i := 1) (own := [("char", 2)]) (g := (gName 2)) (by rfl) S.nd rfl rfl (sw_true rfl rfl rfl (by decide +kernel)) (pi_str (pv 0)) (blkOk_by (N := ["word", "wrong", "char"]) (sc := defScope s_read_number) (own := [("char", 2)]) (by decide +kernel)) (fun _ _ _ _ _ => (pg_name (i := 2) S.nd rfl (by first | exact Or.inl rfl | exact Or.inr rfl))) (fun _ _ _ _ _ => pts_one (pt_cmpR op_notInS (pv 2) (pe_cst C.DIGITS) rfl)) (fun _ _ _ _ _ => (pv 2)))
 (pss_cons (ps_if (PW.pt (pw_or (pt_not (pt_chain op_le op_le pe_int (pe_callB c_lenS (by rfl) B.len (by decide +kernel) (pa_cons (pv 0) pa_nil)) (pe_cst C.MOST_DIGITS))) (pw_or (pt_cmpR (op_neD hr.units) (pv 1) (pe_lst pa_nil) (nomark _)) (pw_or1 (PW.pt (pw_and (pt_cmpR op_eq (pe_ix ix_str (pv 0) pe_int (fun _ _ => rfl)) pe_str (nomark _)) (pw_and1 (pt_cmpR op_ne (pv 0) pe_str (nomark _)))))))))
 (pss_one (L2N.ps_raise rfl (L2N.takes_of rfl rfl rfl rfl) (L2N.pmk_own PySem.F.excBase_ValueError X_InvalidText.e X_InvalidText.m X_InvalidText.k (raises_own X_InvalidText.s X_InvalidText.t) (by rfl))))
 pss_nil)
 (pss_one (ps_ret (pe_callTy c_intS (by rfl) B.int (by decide +kernel) (pa_cons (pv 0) pa_nil))))))), fun φ ds o H D0 σ hl hR hrt hex A => ?_⟩
  obtain ⟨w, rfl, hz, hok, rfl⟩ := hR
  replace A : At K φ (Same H) [some (.str w), none, none] σ H := A
  refine q (st_set (d := .lst ((strD w).filter noDig)) A ((ev_lcF (k := 2) (p := noDig) (f := fun d => d) (it_str (ev_var rfl)) (by unfold strD; rw [List.length_map, Array.length_toList]; exact hz) (fun d hd φ' J' hx => ?_) fun d hd pd φ' J' hx => ev_var rfl).is (congrArg D.lst (List.map_id' _))) fun σ1 H1 A1 => ?_)
  · obtain ⟨x, hx', rfl⟩ := List.mem_map.mp hd
    refine (et_test (ev_notInS (c := x) (ev_var rfl) ev_str)).is ?_
    rw [mem_digits]
    show _ = !([x].all fun c => decide (48 ≤ c ∧ c ≤ 57))
    rw [List.all_cons, List.all_nil, Bool.and_true]
  replace A1 : At K φ (Same H) [some (.str w), some (.lst ((strD w).filter noDig)), none] σ1 H1 := A1
  have key : okNum 9 (tl w) = if (!(decide (1 ≤ (w.length : Int)) && decide ((w.length : Int) ≤ 9)) || (!digB (tl w) || !leadB (tl w))) = true then none else some (NumText.digitsVal (tl w)) := by
    unfold okNum
    rw [len_tl, show decide (1 ≤ ((tl w).length : Int)) = decide (1 ≤ (tl w).length) from decide_eq_decide.mpr (by omega), show decide (((tl w).length : Int) ≤ 9) = decide ((tl w).length ≤ 9) from decide_eq_decide.mpr (by omega)]
    cases decide (1 ≤ (tl w).length) <;> cases decide ((tl w).length ≤ 9) <;> cases digB (tl w) <;> cases leadB (tl w) <;> rfl
  dsimp only
  refine q (st_if A1 (et_or (et_not (et_test (ev_chainI ev_int (ev_lenS (ev_var (i := 0) rfl) hz) ev_int))) fun hb1 => et_or (b := !digB (tl w)) (c := !leadB (tl w)) ((et_test (ev_neQ (ev_var (i := 1) rfl) (ev_lst ea_nil) (okq_chars hok _) rfl)).is (by rw [eqvD_nil, noDig_empty])) fun hb2 => ?_) (fun hb H2 A2 => ?_) (fun hb H2 A2 => st_next ?_))
  · cases e : tl w with
    | nil =>
      exfalso
      have h0 : w.length = 0 := by rw [len_tl, e]; rfl
      rw [h0] at hb1
      exact absurd hb1 (by decide)
    | cons x r =>
      have e2 := lead_test e
      rw [e] at e2
      exact (et_and (et_test (ev_eqS (ev_ixStr (ev_var (i := 0) rfl) ev_int hz (by rw [e]; exact atI_ofNat (i := 0) rfl)) ev_str)) fun _ => et_test (ev_neS (ev_var (i := 0) rfl) ev_str)).is e2
  · rw [key, if_pos hb.symm] at hex
    exact hex c rfl H2 A2.j
  · have hb := hb.symm
    rw [key, if_neg (by rw [hb]; exact Bool.false_ne_true)] at hrt
    rw [Bool.or_eq_false_iff, Bool.or_eq_false_iff] at hb
    obtain ⟨h1, h2, _⟩ := hb
    have h1 : (decide (1 ≤ (w.length : Int)) && decide ((w.length : Int) ≤ 9)) = true := by simpa using h1
    rw [Bool.and_eq_true, decide_eq_true_eq, decide_eq_true_eq] at h1
    have h2 : digB (tl w) = true := by simpa using h2
    exact st_ret A2 (ev_intS (ev_var (i := 0) rfl) (intText_digits (x := w) (digB_all.mp h2) (fun z => by
      have : w.length = 0 := by rw [len_tl]; exact congrArg List.length z
      omega) (by omega)) (by omega)) fun v d H3 e A3 r => hrt _ rfl v H3 A3.j (by rw [e] at r; exact r)
theorem num_rd {c : Addr} {W : WX} {φ : Addr → Prop} {J : Hp → Prop} {ρ : List (Option D)} {ta : TE} {s : Str} {n : Nat} (ha : EvD K φ J ta ρ (.str s)) (hz : s.length ≤ 1000000) (hok : PyData.strOk s = true) (h : okNum 9 (tl s) = some n) :
    EvD K φ J (tCallS (SpX K 1 (RNum c)) (WE W) (tCons ta tNil)) ρ (.int (n : Int)) := ev_callX (ea_cons ha ea_nil) ⟨s, rfl, hz, hok, by rw [h]⟩
theorem num_no {c : Addr} {W : WX} {φ : Addr → Prop} {J : Hp → Prop} {ρ : List (Option D)} {ta : TE} {s : Str} (ha : EvD K φ J ta ρ (.str s)) (hz : s.length ≤ 1000000) (hok : PyData.strOk s = true) (h : okNum 9 (tl s) = none) :
    Rs K φ J (tCallS (SpX K 1 (RNum c)) (WE W) (tCons ta tNil)) ρ W c := rs_call (ea_cons ha ea_nil) ⟨s, rfl, hz, hok, by rw [h]⟩
end
end

/-! ### the console: numbers, the instance, separations -/
section
open TL
structure TConsole (K : PySem.W.Frag) (mg : Str → Option Value) (C : Addr) : Prop where
  cl : Cls K C
  n_count : NoAttr K C "count"
  n_needs : NoAttr K C "needs"
  mgC : mg "Console" = some (.ref C)
theorem kpe_fld {X : Cx} {K : PySem.W.Frag} {e : Expr} {f : Str} {pos : Pos} {ta : TE} (h : X.K = K) (he : PE X e ta) (hb : attributeBase e f X.env (eval e X.env) = eval e X.env) : PE X (.Attribute e f pos) (tFld K ta f) := h ▸ pe_fld he hb
theorem lkm {f g : Str} {v : V} {r : List (Str × V)} (h : (g == f) = false) : ((f, v) :: r).lookup g = r.lookup g := by simp [List.lookup, h]
theorem lkh {f : Str} {v : V} {r : List (Str × V)} : ((f, v) :: r).lookup f = some v := by simp [List.lookup]
def conF (n : Int) (d : Addr) : List (Str × V) := [("count", .int n), ("needs", .ref d)]
def vsOf (ls : List Row) : List V := ls.map fun r => V.int r.2.2
def dHO (ls : List Row) : HO := DKind.ho (((ls.map kvOf).map (·.1)).zip (vsOf ls))
theorem dHO_ne {ls : List Row} : ∀ xs, dHO ls ≠ .tup xs := fun xs h => nomatch h
structure ConAt (C p dx d : Addr) (n : Int) (ls : List Row) (H : Hp) : Prop where
  hp : H p = some (.ins C dx (conF n d))
  hd : H d = some (dHO ls)
section
variable {K : PySem.W.Frag} {φ : Addr → Prop} {J : Hp → Prop} {H H' H0 : Hp} {ρ : List (Option D)} {σ : L2.St} {te : TE} {C p dx d : Addr} {n : Int} {ls : List Row} {k : Nat} {E' : XK}
theorem ConAt.same (h : ConAt C p dx d n ls H) (s : Same H H') : ConAt C p dx d n ls H' := ⟨s _ _ h.hp, s _ _ h.hd⟩
theorem ConAt.ne (h : ConAt C p dx d n ls H) : p ≠ d := fun z => by
  have := h.hd
  rw [← z, h.hp] at this
  cases this
theorem reps_vs {H : Hp} (ls : List Row) : Reps K φ H ((ls.map kvOf).map (·.2)) (vsOf ls) := by
  rw [List.map_map]
  induction ls with
  | nil => exact Reps.nil
  | cons r ls ih => exact Reps.cons (rfl : Rep K φ H (.int r.2.2) (V.int r.2.2)) ih
theorem vs_of {H : Hp} {ls : List Row} {vs : List V} (h : Reps K φ H ((ls.map kvOf).map (·.2)) vs) : vs = vsOf ls := by
  rw [List.map_map] at h
  induction ls generalizing vs with
  | nil => exact h
  | cons r ls ih =>
    obtain ⟨v, vs', rfl, h1, h2⟩ := (show ∃ v vs', vs = v :: vs' ∧ Rep K φ H (.int r.2.2) v ∧ Reps K φ H (ls.map _) vs' from h)
    cases (show v = _ from h1)
    rw [ih h2]
    rfl
theorem liv_con (nd : ¬ φ d) (h : ∀ H', J H' → ConAt C p dx d n ls H' ∧ But φ H0 H') (h0 : H0 d ≠ none) : LivDS K φ J d (ls.map kvOf) := ⟨nd, vsOf ls, H0, reps_vs ls, h0, fun H' j => ⟨(h H' j).1.hd, (h H' j).2⟩⟩
/-- self.count, self.needs -/
theorem ev_cnt (hJ : ∀ H', J H' → ConAt C p dx d n ls H') (hk : ρ[k]? = some (some (.raw (.ref p)))) (cl : Cls K C) (na : NoAttr K C "count") : EvD K φ J (tFld K (tVar k) "count") ρ (.int n) := fun σ H A Q q => by
  obtain ⟨u, e, r⟩ := A.sr.2 k _ hk
  cases (show u = _ from r)
  exact ⟨_, e, p, C, dx, _, .int n, rfl, (hJ _ A.j).hp, cl, na, lkh, q _ _ H (But.refl _ _) A rfl rfl⟩
theorem ev_nds (hJ : ∀ H', J H' → ConAt C p dx d n ls H') (hk : ρ[k]? = some (some (.raw (.ref p)))) (cl : Cls K C) (na : NoAttr K C "needs") : EvD K φ J (tFld K (tVar k) "needs") ρ (.raw (.ref d)) := fun σ H A Q q => by
  obtain ⟨u, e, r⟩ := A.sr.2 k _ hk
  cases (show u = _ from r)
  exact ⟨_, e, p, C, dx, _, .ref d, rfl, (hJ _ A.j).hp, cl, na, (lkm (by decide +kernel)).trans lkh, q _ _ H (But.refl _ _) A rfl rfl⟩
/-- self.needs as a dict -/
theorem ed_con {td : TE} (hJ : ∀ H', J H' → ConAt C p dx d n ls H') (h : EvD K φ J td ρ (.raw (.ref d))) : EvDict K φ J td ρ (ls.map kvOf) := fun σ H A Q q => h σ H A _ fun v d' H' b A' e r => by
  subst e
  cases (show v = _ from r)
  exact q d H' b A' fun H'' b' j => ⟨vsOf ls, (hJ _ j).hd, reps_vs ls⟩
/-- the separations of now -/
def SpSep (K : PySem.W.Frag) (C : Addr) : Sp := fun vs H Q _ => ∃ φ p dx d n ls, vs = [.ref p] ∧ Frm φ H ∧ ¬ φ d ∧ ConAt C p dx d n ls H ∧ LsOk n ls ∧ ls.length ≤ 1000 ∧ ∀ v H', Same H H' → Rep K φ H' (sepD n (rowsOf ls)) v → Q v H'
theorem no_attr {m : Str} (h1 : (m == ("count" : Str)) = false) (h2 : (m == ("needs" : Str)) = false) : (conF n d).lookup m = none := by
  unfold conF
  rw [List.lookup_cons, h1, List.lookup_cons, h2]
  rfl
theorem ev_sep (hJ : ∀ H', J H' → ConAt C p dx d n ls H') (nd : ¬ φ d) (ok : LsOk n ls) (hl : ls.length ≤ 1000) (hk : ρ[k]? = some (some (.raw (.ref p)))) : EvD K φ J (tMeth C "separations" (SpSep K C) [] E' (tVar k) tNil) ρ (sepD n (rowsOf ls)) := fun σ H A Q q => by
  obtain ⟨u, e, r⟩ := A.sr.2 k _ hk
  cases (show u = _ from r)
  refine ⟨_, e, p, dx, _, rfl, (hJ _ A.j).hp, no_attr (by decide +kernel) (by decide +kernel), ?_⟩
  exact ⟨φ, p, dx, d, n, ls, rfl, A.fr, nd, hJ _ A.j, ok, hl, fun v H' s r => q v _ H' (But.of s) (A.same s) rfl r⟩
end
/-- words -/
def WsOk (ws : List Str) : Prop := ws.length ≤ 1000000 ∧ ∀ w ∈ ws, w.length ≤ 1000000 ∧ asc (tl w)
def toN (w : Str) (m : Int) : Option Nat := match okNum 9 (tl w) with
  | some n => if m < (n : Int) then none else some n
  | none => none
def RTo (c : Addr) : List D → D ⊕ Addr → Prop := fun ds o => ∃ (w : Str) (m : Int), ds = [.str w, .int m] ∧ w.length ≤ 1000000 ∧ asc (tl w) ∧ o = match toN w m with
  | some n => .inl (.int (n : Int))
  | none => .inr c
section
variable {P : Program} {w : World} {K : PySem.W.Frag} {mg : Str → Option Value} {base : Heap}
theorem sc_number_to : FnScope ["word", "most", "number"] ["word", "most"] (defScope s_number_to) := ⟨rfl, rfl, rfl, by decide +kernel, rfl, by decide +kernel, by decide +kernel⟩
theorem ok_number_to (B : Bi mg) {c : Addr} (X_InvalidText : ExC K mg "InvalidText" c) {f g : Addr} {fd gd : FuncData} (F : Fun K "number_to" "number_to" s_number_to f fd) (L_read_number : Lk K mg "read_number" g gd ["word"]) (G_read_number : FnOk P w K mg base (L2N.CX P w) 1 g gd ["word"] (SpX K 1 (RNum c))) : FnOk P w K mg base (L2N.CX P w) 2 f fd ["word", "most"] (SpX K 2 (RTo c)) := by
  have S := sc_number_to
  refine fn_okXN F S rfl 1 rfl fun cdv A outer s H E hr => ⟨_, ((pss_cons (ps_set (i := 2) S.nd rfl (by first | exact Or.inl rfl | exact Or.inr rfl) (pe_callS G_read_number (hr.mono (by first | exact Nat.le_refl _ | decide | omega)) (by rfl) L_read_number.m L_read_number.kp L_read_number.bi (fun σ => L2N.passAt (L2N.takes_of rfl rfl rfl rfl) σ) (pa_cons (pv 0) pa_nil)))
 (pss_cons (ps_if (pt_cmpR op_gt (pv 2) (pv 1) (nomark _))
 (pss_one (L2N.ps_raise rfl (L2N.takes_of rfl rfl rfl rfl) (L2N.pmk_own PySem.F.excBase_ValueError X_InvalidText.e X_InvalidText.m X_InvalidText.k (raises_own X_InvalidText.s X_InvalidText.t) (by rfl))))
 pss_nil)
 (pss_one (ps_ret (pv 2)))))), fun φ ds o H D0 σ hl hR hrt hex A => ?_⟩
  obtain ⟨w, m, rfl, hz, ha, rfl⟩ := hR
  replace A : At K φ (Same H) [some (.str w), some (.int m), none] σ H := A
  unfold toN at hrt hex
  cases e : okNum 9 (tl w) with
  | none =>
    rw [e] at hrt hex
    exact q (st_rs A (num_no (ev_var (i := 0) rfl) hz (asc_strOk ha) e) fun H' b A' => hex c rfl H' A'.j)
  | some n =>
    rw [e] at hrt hex
    refine q (st_set (d := .int (n : Int)) A (num_rd (ev_var (i := 0) rfl) hz (asc_strOk ha) e) fun σ1 H1 A1 => ?_)
    replace A1 : At K φ (Same H) [some (.str w), some (.int m), some (.int (n : Int))] σ1 H1 := A1
    dsimp only at hrt hex ⊢
    refine q (st_if A1 (et_test (ev_gt (ev_var (i := 2) rfl) (ev_var (i := 1) rfl))) (fun hb H2 A2 => ?_) fun hb H2 A2 => st_next ?_)
    · have hb : m < (n : Int) := of_decide_eq_true hb.symm
      rw [if_pos hb] at hex
      exact hex c rfl H2 A2.j
    · have hb : ¬ m < (n : Int) := of_decide_eq_false hb.symm
      rw [if_neg hb] at hrt
      exact st_ret A2 (ev_var (i := 2) rfl) fun v d H3 e A3 r => hrt _ rfl v H3 A3.j (by rw [e] at r; exact r)
theorem to_rd {c : Addr} {W : WX} {φ : Addr → Prop} {J : Hp → Prop} {ρ : List (Option D)} {ta tb : TE} {s : Str} {m : Int} {n : Nat} (ha : EvD K φ J ta ρ (.str s)) (hb : EvD K φ J tb ρ (.int m)) (hz : s.length ≤ 1000000) (hok : asc (tl s)) (h : toN s m = some n) :
    EvD K φ J (tCallS (SpX K 2 (RTo c)) (WE W) (tCons ta (tCons tb tNil))) ρ (.int (n : Int)) := ev_callX (ea_cons ha (ea_cons hb ea_nil)) ⟨s, m, rfl, hz, hok, by rw [h]⟩
theorem to_no {c : Addr} {W : WX} {φ : Addr → Prop} {J : Hp → Prop} {ρ : List (Option D)} {ta tb : TE} {s : Str} {m : Int} (ha : EvD K φ J ta ρ (.str s)) (hb : EvD K φ J tb ρ (.int m)) (hz : s.length ≤ 1000000) (hok : asc (tl s)) (h : toN s m = none) :
    Rs K φ J (tCallS (SpX K 2 (RTo c)) (WE W) (tCons ta (tCons tb tNil))) ρ W c := rs_call (ea_cons ha (ea_cons hb ea_nil)) ⟨s, m, rfl, hz, hok, by rw [h]⟩
/-! #### the instance -/
def SpCI (C : Addr) : Sp := fun vs H Q _ => ∃ p dx, vs = [.ref p] ∧ H p = some (.ins C dx []) ∧ ∀ H' d, H d = none → d ≠ p → (∀ a o, a ≠ p → H a = some o → H' a = some o) → ConAt C p dx d 0 [] H' → Q .non H'
theorem sc_Console_init : FnScope ["self"] ["self"] (defScope s_Console___init__) := ⟨rfl, rfl, rfl, by decide +kernel, rfl, by decide +kernel, by decide +kernel⟩
theorem ok_Console_init {CT : Addr} (T_Console : TConsole K mg CT) {f : Addr} {fd : FuncData} (F : Fun K "__init__" "Console.__init__" s_Console___init__ f fd) : FnOk P w K mg base CX0 1 f fd ["self"] (SpCI CT) := by
  have S := sc_Console_init
  refine F.ok S (fun vs H Q E h => ?_) (fun cdv A outer s H vs Q E hr h => ?_)
  · obtain ⟨p, dx, rfl, _⟩ := h
    rfl
  · obtain ⟨p, dx, rfl, hp, k⟩ := h
    refine ⟨_, ((pss_cons (ps_fld (pv 0) pe_int rfl)
 (pss_one (ps_fld (pv 0) pe_dnewT rfl)))), ?_⟩
    refine ⟨.ref p, rfl, p, CT, dx, [], rfl, hp, T_Console.cl, T_Console.n_count, (by decide), ?_⟩
    refine fun d hd => ⟨.ref p, rfl, p, CT, dx, _, rfl, (upd_ne ?_).trans upd_same, T_Console.cl, T_Console.n_needs, (by show 1 < 1000; decide), ?_⟩
    · rintro rfl
      rw [upd_same] at hd
      cases hd
    · have dp : d ≠ p := by
        rintro rfl
        rw [upd_same] at hd
        cases hd
      have hdH : H d = none := by
        rw [upd_ne dp] at hd
        exact hd
      refine k _ d hdH dp (fun a o na e => ?_) ⟨?_, ?_⟩
      · have nad : a ≠ d := ne_of_none e hdH
        rw [upd_ne na, upd_ne nad, upd_ne na]
        exact e
      · rw [upd_same]
        rfl
      · rw [upd_ne dp, upd_same]
        rfl
theorem sc_Console_separations : FnScope ["self", "rows", "i", "j"] ["self"] (defScope s_Console_separations) := ⟨rfl, rfl, rfl, by decide +kernel, rfl, by decide +kernel, by decide +kernel⟩
theorem ok_Console_separations (B : Bi mg) {CT : Addr} (T_Console : TConsole K mg CT) {f : Addr} {fd : FuncData} (F : Fun K "separations" "Console.separations" s_Console_separations f fd) : FnOk P w K mg base CX0 1 f fd ["self"] (SpSep K CT) := by
  have S := sc_Console_separations
  refine F.ok S (fun vs H Q E h => ?_) (fun cdv A outer s H vs Q E hr h => ?_)
  · obtain ⟨φ, p, dx, d, n, ls, rfl, _⟩ := h
    rfl
  obtain ⟨φ, p, dx, d, n, ls, rfl, fr, nd, hc, ok, hl, k⟩ := h
  refine ⟨_, ((pss_cons (ps_setLc (i := 1) (own := [("i", 2), ("j", 3)]) (g := (gTup K 2 (gCons (gName 2) (gCons (gName 3) gNil)))) (by rfl) S.nd rfl rfl (sw_true rfl rfl rfl (by decide +kernel)) (pi_list (pe_callB (cr_sortT rfl) (by rfl) B.sorted (by decide +kernel) (pa_cons (pe_fld (pv 0) rfl) pa_nil))) (blkOk_by (N := ["self", "rows", "i", "j"]) (sc := defScope s_Console_separations) (own := [("i", 2), ("j", 3)]) (by decide +kernel)) (fun _ _ _ _ _ => (pg_tup (by rfl) (pgs_cons (pg_name (i := 2) S.nd rfl (by first | exact Or.inl rfl | exact Or.inr rfl)) (pgs_cons (pg_name (i := 3) S.nd rfl (by first | exact Or.inl rfl | exact Or.inr rfl)) pgs_nil)))) (fun _ _ _ _ _ => pts_one (pt_cmpR op_gt (pe_dget hr.units1 (kpe_fld (K := K) (by rfl) (pv 0) rfl) (pe_tup (pa_cons (pv 2) (pa_cons (pv 3) pa_nil))) (fun _ _ => rfl)) pe_int (nomark _))) (fun _ _ _ _ _ => (pe_tup (pa_cons (pv 2) (pa_cons (pv 3) (pa_cons (pe_dget hr.units1 (kpe_fld (K := K) (by rfl) (pv 0) rfl) (pe_tup (pa_cons (pv 2) (pa_cons (pv 3) pa_nil))) (fun _ _ => rfl)) pa_nil))))))
 (pss_one (ps_ret (pe_tup (pa_cons (pe_fld (pv 0) rfl) (pa_cons (pe_callTy c_tupOf (by rfl) B.tuple (by decide +kernel) (pa_cons (pv 1) pa_nil)) pa_nil))))))), ?_⟩
  have A : At K φ (Same H) [some (.raw (.ref p)), none, none, none] (L2.start ["self", "rows", "i", "j"] [.ref p]) H := ⟨SR.start (ds := [.raw (.ref p)]) (n := 3) (Reps.cons rfl Reps.nil), fr, Same.refl H, Mo.sames fun _ h => h⟩
  have hJ : ∀ H', Same H H' → ConAt CT p dx d n ls H' := fun H' s => hc.same s
  have hkeys : (ls.map kvOf).map (·.1) = (ls.map pairOf).map prK := by rw [List.map_map, List.map_map]; rfl
  have nds : ∀ {ρ : List (Option D)}, ρ[0]? = some (some (.raw (.ref p))) → EvD K φ (Same H) (tFld K (tVar 0) "needs") ρ (.raw (.ref d)) := fun h => ev_nds hJ h T_Console.cl T_Console.n_needs
  have hsort : EvD K φ (Same H) (tCB rSortT (tCons (tFld K (tVar 0) "needs") tNil)) [some (.raw (.ref p)), none, none, none] (.lst ((srtP (ls.map pairOf)).map prDD)) :=
    (ev_sortT (ed_con hJ (nds rfl)) hkeys).imp fun z ⟨ps, e, hp, hs⟩ => by rw [e, lexS_uniq hs (lexS_of (srtP_asc ok.nd)) (hp.trans (srtP_perm _).symm)]
  have look : ∀ {φ' : Addr → Prop} {J2 : Hp → Prop} {ρ2 : List (Option D)} {a b : D}, Ext φ (Same H) φ' J2 → .tup [a, b] ∈ (srtP (ls.map pairOf)).map prDD → ρ2[0]? = some (some (.raw (.ref p))) → ρ2[2]? = some (some a) → ρ2[3]? = some (some b) → EvD K φ' J2 (tDGet (tFld K (tVar 0) "needs") (tTup (tCons (tVar 2) (tCons (tVar 3) tNil)))) ρ2 (.int (lookD ls (.tup [a, b]))) := fun {φ' J2 ρ2 a b} hx hm h0 h2 h3 => by
    obtain ⟨q', hq, e⟩ := List.mem_map.mp hm
    injection e with e
    have z1 := (List.cons.inj e).1
    have z2 := (List.cons.inj (List.cons.inj e).2).1
    subst z1 z2
    refine ev_dget (k := prK q') (ed_con (fun H' j => hJ _ (hx.imp _ j)) (ev_nds (fun H' j => hJ _ (hx.imp _ j)) h0 T_Console.cl T_Console.n_needs)) (ev_tup (ea_cons (ev_var h2) (ea_cons (ev_var h3) ea_nil))) ?_
    rw [(ok.look hq).1, show D.tup [.int q'.1, .int q'.2] = prDD q' from rfl, (ok.look hq).2]
  refine q (st_set (d := .lst ((rowsOf ls).map rowD)) A ((ev_lcT2 (k1 := 2) (k2 := 3) (p := fun d => decide (0 < lookD ls d)) (f := fun d => match d with | .tup [a, b] => .tup [a, b, .int (lookD ls d)] | d => d) (it_list hsort) ?_ ?_ (fun a b hm φ' J2 hx => et_test (ev_gt (look hx hm rfl rfl rfl) ev_int)) (fun a b hm pd φ' J2 hx => ev_tup (ea_cons (ev_var rfl) (ea_cons (ev_var rfl) (ea_cons (look hx hm rfl rfl rfl) ea_nil))))).is (congrArg D.lst ok.list)) fun σ4 H4 A4 => ?_)
  · rw [List.length_map, (srtP_perm _).length_eq, List.length_map]
    omega
  · intro d' hd'
    obtain ⟨p', _, rfl⟩ := List.mem_map.mp hd'
    exact ⟨_, _, rfl⟩
  · replace A4 : At K φ (Same H) [some (.raw (.ref p)), some (.lst ((rowsOf ls).map rowD)), none, none] σ4 H4 := A4
    exact st_ret A4 (ev_tup (ea_cons (ev_cnt hJ (k := 0) rfl T_Console.cl T_Console.n_count) (ea_cons (ev_tupL (ev_var (i := 1) rfl)) ea_nil))) fun v d' H6 e A6 r => k v H6 A6.j (by rw [e] at r; exact r)
end
end

-- import HandS.TryOnly
/-! ### the console: set_need, check -/
section
open TL
section
variable {K : PySem.W.Frag} {φ : Addr → Prop} {J : Hp → Prop} {H H' H0 : Hp} {ρ ρ' : List (Option D)} {σ : L2.St} {te : TE} {ds : List D} {W : WX} {c : Addr} {D0 : Ends}
theorem eg_lst {gs : TGs} {us : List Nat} (h : EvGs K gs ds ρ ρ' us) : EvG K (gLst K ds.length gs) (.lst ds) ρ ρ' us := fun φ J σ H v A r Q q => by
  obtain ⟨a, vs, rfl, p, rs⟩ := rep_lst r
  exact ⟨a, vs, rfl, p.sq, rs.length, h φ J σ H vs A rs Q q⟩
/-- d[k] = v of the instance's dict -/
theorem st_dputC {C p dx d : Addr} {n : Int} {ls : List Row} {td ty tv : TE} {q0 : Int × Int} {l : Int} (A : At K φ J ρ σ H) (hJ : ∀ H', J H' → ConAt C p dx d n ls H') (hd : EvD K φ J td ρ (.raw (.ref d))) (hy : EvD K φ J ty ρ (prDD q0)) (hv : EvD K φ J tv ρ (.int l)) (hz : ls.length ≤ 1000)
    (kk : ∀ H1 H', J H1 → (∀ a o, a ≠ d → H1 a = some o → H' a = some o) → H' d = some (dHO (putRow ls q0 l)) → D0.nx σ H') : sDPut td ty tv D0 σ H := by
  refine hv σ H A _ fun v d1 H1 b1 A1 e1 r1 => hd σ H1 A1 _ fun w d2 H2 b2 A2 e2 r2 => hy σ H2 A2 _ fun y d3 H3 b3 A3 e3 r3 => ?_
  subst e1 e2 e3
  cases (show w = _ from r2)
  cases (show v = _ from r1)
  have hd3 := (hJ _ A3.j).hd
  have hlen : (((ls.map kvOf).map (·.1)).zip (vsOf ls)).length < sizeLine := by
    rw [List.length_zip, List.length_map, List.length_map]
    unfold vsOf
    rw [List.length_map, Nat.min_self, sizeLine_eq]
    omega
  obtain ⟨vs', ep, rp⟩ := zip_put (K := K) (φ := φ) (H := H3) (k := prK q0) (d := .int l) (v := .int l) rfl (reps_vs ls)
  rw [put_rows] at rp ep
  have ev := vs_of rp
  subst ev
  have P := DKind.put (κ := List Key) (K := K) (φ := φ) (k := prK q0) (y := y) (v := .int l) (show Rep K φ H3 (DKind.kd (prK q0)) y from r3) hd3 hlen
  refine ⟨d, _, rfl, P, kk H3 _ A3.j (fun a o na e => by rw [upd_ne na]; exact e) ?_⟩
  rw [upd_same, ep]
  rfl
/-- what is told of a text of two or four parts -/
theorem evj_out (i : Nat) : ("outside " ++ numS (i : Int) : Str) = ([("outside " : Str), toString (i : Int)].foldl (· ++ ·) Str.empty) := rfl
end
theorem nums_len {ws : List Str} {ns : List Nat} (h : numsOf ws = some ns) : ns.length = ws.length := by
  have := congrArg List.length (nums_some h)
  rw [List.length_map, List.length_map] at this
  exact this.symm
theorem num_lt {w : Str} {n : Nat} (h : okNum 9 (tl w) = some n) : n < 1000000000 := by
  unfold okNum at h
  split at h
  · rename_i hc
    cases h
    rw [Bool.and_eq_true, Bool.and_eq_true, Bool.and_eq_true, decide_eq_true_eq, decide_eq_true_eq] at hc
    have h9 := digitsVal_lt _ (tl w) rfl (digB_all.mp hc.1.1)
    exact Nat.lt_of_lt_of_le h9 (Nat.pow_le_pow_right (by decide) hc.1.2.2)
  · cases h
def numD : D → D
  | .str w => .int (((okNum 9 (tl w)).getD 0 : Nat) : Int)
  | _ => .non
def toD (m : Int) : D → D
  | .str w => .int (((toN w m).getD 0 : Nat) : Int)
  | _ => .non
def SpSet (K : PySem.W.Frag) (C cT : Addr) : Sp := fun vs H Q E => ∃ φ p dx d n ls w1 w2 w3 wsv, vs = .ref p :: wsv ∧ Reps K φ H [.lst ([w1, w2, w3].map D.str)] wsv ∧ Frm φ H ∧ ¬ φ d ∧ ConAt C p dx d n ls H ∧ LsOk n ls ∧ ls.length ≤ 900 ∧ WsOk [w1, w2, w3] ∧
  (∀ i j l : Nat, toN w1 (n - 1) = some i → toN w2 (n - 1) = some j → toN w3 9 = some l → i ≠ j → ∀ H', (∀ a o, a ≠ d → H a = some o → H' a = some o) → H' d = some (dHO (putRow ls (pairIJ i j) l)) → Q .non H') ∧
  ((toN w1 (n - 1) = none ∨ toN w2 (n - 1) = none ∨ toN w3 9 = none ∨ toN w1 (n - 1) = toN w2 (n - 1)) → ∀ H', Same H H' → E (.ref cT) none H')
/-- check -/
def SpChk (K : PySem.W.Frag) (C cT : Addr) : Sp := fun vs H Q E => ∃ φ p dx d n ls ws wsv, vs = .ref p :: wsv ∧ Reps K φ H [.lst (ws.map D.str)] wsv ∧ Frm φ H ∧ ¬ φ d ∧ ConAt C p dx d n ls H ∧ LsOk n ls ∧ ls.length ≤ 900 ∧ WsOk ws ∧ ws ≠ [] ∧
  (∀ (c : Nat) (ps : List Nat) (s : Str), numsOf ws = some (c :: ps) → (ps.length : Int) = n → CheckT ls c ps s → ∀ H', Same H H' → Q (.str s) H') ∧
  ((numsOf ws = none ∨ ∃ (c : Nat) (ps : List Nat), numsOf ws = some (c :: ps) ∧ (ps.length : Int) ≠ n) → ∀ H', Same H H' → E (.ref cT) none H')
section
variable {P : Program} {w : World} {K : PySem.W.Frag} {mg : Str → Option Value} {base : Heap}
theorem sc_Console_set_need : FnScope ["self", "words", "i", "j", "word", "least"] ["self", "words"] (defScope s_Console_set_need) := ⟨rfl, rfl, rfl, by decide +kernel, rfl, by decide +kernel, by decide +kernel⟩
theorem ok_Console_set_need (B : Bi mg) (C : Cs mg) {CT : Addr} (T_Console : TConsole K mg CT) {c : Addr} (X_InvalidText : ExC K mg "InvalidText" c) {f g : Addr} {fd gd : FuncData} (F : Fun K "set_need" "Console.set_need" s_Console_set_need f fd)
    (L_number_to : Lk K mg "number_to" g gd ["word", "most"]) (G_number_to : FnOk P w K mg base (L2N.CX P w) 2 g gd ["word", "most"] (SpX K 2 (RTo c))) : FnOk P w K mg base (L2N.CX P w) 3 f fd ["self", "words"] (SpSet K CT c) := by
  have S := sc_Console_set_need
  refine Fun.okXN F S (fun vs H Q E h => ?_) (fun cdv A outer s H vs Q E hr h => ?_)
  · obtain ⟨φ, p, dx, d, n, ls, w1, w2, w3, wsv, rfl, r, _⟩ := h
    rw [List.length_cons, r.length]
    rfl
  obtain ⟨φ, p, dx, d, n, ls, w1, w2, w3, wsv, rfl, r, fr, nd, hc, ok, hl, W, hyes, hno⟩ := h
  refine ⟨_, ((pss_cons (ps_asg (pe_lcXN (own := [("word", 4)]) (g := (gName 4)) (tt := tYes) (takesLN (L2N.takes_of rfl rfl rfl rfl) rfl rfl) (by rfl) S.nd (pi_list (pe_slice sl_list (pv 1) po_none (po_some pe_int))) (blkOk_by (N := ["self", "words", "i", "j", "word", "least"]) (sc := defScope s_Console_set_need) (own := [("word", 4)]) (by decide +kernel)) (fun _ _ _ _ _ => (pg_name (i := 4) S.nd rfl (by first | exact Or.inl rfl | exact Or.inr rfl))) (fun _ _ _ _ _ => pts_nil) (fun _ _ _ _ _ xe tk => (pe_callS G_number_to (hr.mono (by first | exact Nat.le_refl _ | decide | omega)) (by rfl) L_number_to.m L_number_to.kp L_number_to.bi (fun σ => passAtLN tk σ) (pa_cons (pv 4) (pa_cons (pe_op op_sub (kpe_fld (K := K) (by rfl) (pv 0) rfl) pe_int) pa_nil))))) (pg_lst (by rfl) (pgs_cons (pg_name (i := 2) S.nd rfl (by first | exact Or.inl rfl | exact Or.inr rfl)) (pgs_cons (pg_name (i := 3) S.nd rfl (by first | exact Or.inl rfl | exact Or.inr rfl)) pgs_nil))))
 (pss_cons (ps_set (i := 5) S.nd rfl (by first | exact Or.inl rfl | exact Or.inr rfl) (pe_callS G_number_to (hr.mono (by first | exact Nat.le_refl _ | decide | omega)) (by rfl) L_number_to.m L_number_to.kp L_number_to.bi (fun σ => L2N.passAt (L2N.takes_of rfl rfl rfl rfl) σ) (pa_cons (pe_ix ix_list (pv 1) pe_int (fun _ _ => rfl)) (pa_cons (pe_cst C.MOST_LEAST) pa_nil))))
 (pss_cons (ps_if (pt_cmpR op_eq (pv 2) (pv 3) (nomark _))
 (pss_one (L2N.ps_raise rfl (L2N.takes_of rfl rfl rfl rfl) (L2N.pmk_own PySem.F.excBase_ValueError X_InvalidText.e X_InvalidText.m X_InvalidText.k (raises_own X_InvalidText.s X_InvalidText.t) (by rfl))))
 pss_nil)
 (pss_one (ps_dput hr.units1 (pe_fld (pv 0) rfl) (pe_tup (pa_cons (pe_callB (c_min2 rfl) (by rfl) B.min (by decide +kernel) (pa_cons (pv 2) (pa_cons (pv 3) pa_nil))) (pa_cons (pe_callB (c_max2 rfl) (by rfl) B.max (by decide +kernel) (pa_cons (pv 2) (pa_cons (pv 3) pa_nil))) pa_nil))) (pv 5) rfl)))))), ?_⟩
  have A : At K φ (Same H) [some (.raw (.ref p)), some (.lst ([w1, w2, w3].map D.str)), none, none, none, none] (L2.start ["self", "words", "i", "j", "word", "least"] (.ref p :: wsv)) H := by
    refine ⟨?_, fr, Same.refl H, Mo.sames fun _ h => h⟩
    have e : (["self", "words", "i", "j", "word", "least"] : List Str).length - (V.ref p :: wsv).length = 4 := by
      show 6 - (wsv.length + 1) = 4
      rw [r.length]
      rfl
    unfold L2.start
    rw [e]
    exact SR.start (ds := [.raw (.ref p), .lst ([w1, w2, w3].map D.str)]) (Reps.cons rfl r)
  have hJ : ∀ H', Same H H' → ConAt CT p dx d n ls H' := fun H' s => hc.same s
  have ok1 := W.2 w1 (by simp)
  have ok2 := W.2 w2 (by simp)
  have ok3 := W.2 w3 (by simp)
  have hcut : cutD ([w1, w2, w3].map D.str) none (some 2) = [.str w1, .str w2] := by
    rw [cutD_hi (by decide)]
    rfl
  have hit : IterD K φ (Same H) (iList K (tSl (rSlL K) (tVar 1) tNoPart (tPart (tC (.int 2))))) [some (.raw (.ref p)), some (.lst ([w1, w2, w3].map D.str)), none, none, none, none] [.str w1, .str w2] := it_list ((ev_slL (ev_var (i := 1) rfl) eo_none (eo_some ev_int)).is (by rw [hcut]))
  have cnt : ∀ {φ' : Addr → Prop} {J' : Hp → Prop} {x : D}, Ext φ (Same H) φ' J' → EvD K φ' J' (tOp (rI0 fun i j => .int (i - j)) (tFld K (tVar 0) "count") (tC (.int 1))) ((wipeR [some (.raw (.ref p)), some (.lst ([w1, w2, w3].map D.str)), none, none, none, none] [4]).set 4 (some x)) (.int (n - 1)) := fun {φ' J' x} hx => ev_sub (ev_cnt (fun H' j => hJ _ (hx.imp _ j)) (k := 0) rfl T_Console.cl T_Console.n_count) ev_int
  cases e1 : toN w1 (n - 1) with
  | none => exact q (st_rs A (rs_lc (pre := []) (d := .str w1) (post := [.str w2]) (f := toD (n - 1)) hit (Nat.le_of_ble_eq_true rfl) (fun e he => by cases he) fun φ' J' hx => to_no (ev_var rfl) (cnt hx) ok1.1 ok1.2 e1) fun H' b A' => hno (.inl e1) H' A'.j)
  | some i =>
    cases e2 : toN w2 (n - 1) with
    | none => exact q (st_rs A (rs_lc (pre := [.str w1]) (d := .str w2) (post := []) (f := toD (n - 1)) hit (Nat.le_of_ble_eq_true rfl) (fun e he φ' J' hx => by
        rw [List.mem_singleton.mp he]
        refine (to_rd (ev_var rfl) (cnt hx) ok1.1 ok1.2 e1).is ?_
        show D.int _ = D.int _
        rw [e1]
        rfl) fun φ' J' hx => to_no (ev_var rfl) (cnt hx) ok2.1 ok2.2 e2) fun H' b A' => hno (.inr (.inl e2)) H' A'.j)
    | some j =>
      refine q (st_asgG (P := fun d => d = .lst [.int (i : Int), .int (j : Int)]) A ((ev_lc (k := 4) (f := toD (n - 1)) hit (Nat.le_of_ble_eq_true rfl) fun e he φ' J' hx => ?_).is ?_) (us := [2, 3]) (ρ2 := fun _ => [some (.raw (.ref p)), some (.lst ([w1, w2, w3].map D.str)), some (.int (i : Int)), some (.int (j : Int)), none, none]) (fun d' e => by subst e; exact eg_lst (ds := [.int (i : Int), .int (j : Int)]) (egs_cons eg_name (egs_cons eg_name egs_nil))) fun d' σ1 H1 e A1 => ?_)
      · rcases List.mem_cons.mp he with rfl | he
        · refine (to_rd (ev_var rfl) (cnt hx) ok1.1 ok1.2 e1).is ?_
          show D.int _ = D.int _
          rw [e1]
          rfl
        · rw [List.mem_singleton.mp he]
          refine (to_rd (ev_var rfl) (cnt hx) ok2.1 ok2.2 e2).is ?_
          show D.int _ = D.int _
          rw [e2]
          rfl
      · show D.lst [.int _, .int _] = _
        rw [e1, e2]
        rfl
      · dsimp only at A1 ⊢
        have W3 : EvD K φ (Same H) (tOp (rIxL K) (tVar 1) (tC (.int 2))) [some (.raw (.ref p)), some (.lst ([w1, w2, w3].map D.str)), some (.int (i : Int)), some (.int (j : Int)), none, none] (.str w3) := ev_ixL (ev_var (i := 1) rfl) ev_int (atI_ofNat (i := 2) rfl)
        cases e3 : toN w3 9 with
        | none => exact q (st_rs A1 (to_no W3 ev_int ok3.1 ok3.2 e3) fun H' b A' => hno (.inr (.inr (.inl e3))) H' A'.j)
        | some l =>
          refine q (st_set (d := .int (l : Int)) A1 (to_rd W3 ev_int ok3.1 ok3.2 e3) fun σ2 H2 A2 => ?_)
          replace A2 : At K φ (Same H) [some (.raw (.ref p)), some (.lst ([w1, w2, w3].map D.str)), some (.int (i : Int)), some (.int (j : Int)), none, some (.int (l : Int))] σ2 H2 := A2
          dsimp only
          refine q (st_if A2 (et_test (ev_eqI (ev_var (i := 2) rfl) (ev_var (i := 3) rfl))) (fun hb H3 A3 => ?_) fun hb H3 A3 => st_next ?_)
          · have hb : (i : Int) = (j : Int) := of_decide_eq_true hb.symm
            have : i = j := by omega
            exact hno (.inr (.inr (.inr (by rw [e1, e2, this])))) H3 A3.j
          · have hb : ¬ (i : Int) = (j : Int) := of_decide_eq_false hb.symm
            refine st_dputC (l := (l : Int)) A3 hJ (ev_nds hJ (k := 0) rfl T_Console.cl T_Console.n_needs) (ev_tup (ea_cons (ev_min2 (ev_var (i := 2) rfl) (ev_var (i := 3) rfl)) (ea_cons (ev_max2 (ev_var (i := 2) rfl) (ev_var (i := 3) rfl)) ea_nil))) (ev_var (i := 5) rfl) (by omega) fun H4 H5 j4 k5 e5 => hyes i j l e1 e2 e3 (by omega) H5 (fun a o na e => k5 a o na (j4 a o e)) e5
end
end

/-! ### the console: check -/
section
open TL
theorem fold2 (a b : Str) : [a, b].foldl (· ++ ·) Str.empty = a ++ b := by
  show (Str.empty ++ a) ++ b = _
  rw [empty_app]
theorem fold4 (a b c d : Str) : [a, b, c, d].foldl (· ++ ·) Str.empty = a ++ b ++ c ++ d := by
  show (((Str.empty ++ a) ++ b) ++ c) ++ d = _
  rw [empty_app]
theorem tl_numN (n : Nat) : tl (numS (n : Int)) = numL n := tl_num n
theorem numS_len {n k : Nat} (hk : 0 < k) (h : n < 10 ^ k) : (numS (n : Int)).length ≤ k := by
  rw [len_tl, tl_numN]
  exact (okNum_some (okNum_num hk h)).2.2
theorem log_nat {n : Nat} (h : n < 2 ^ 1000) : ((n : Int)).natAbs.log2 < 1920 := by
  rw [Int.natAbs_natCast]
  by_cases h0 : n = 0
  · subst h0
    decide
  · exact (Nat.log2_lt h0).mpr (Nat.lt_of_lt_of_le h (Nat.pow_le_pow_right (by decide) (by decide)))
theorem nat9 {n : Nat} (h : n < 10 ^ 9) : n < 2 ^ 1000 := Nat.lt_of_lt_of_le h (by decide +kernel)
theorem getD_ps {ps : List Nat} {i : Nat} (h : i < ps.length) : ps[i]? = some (ps.getD i 0) := by
  rw [List.getD_eq_getElem?_getD, List.getElem?_eq_getElem h]
  rfl
section
variable {P : Program} {w : World} {K : PySem.W.Frag} {mg : Str → Option Value} {base : Heap}
theorem sc_Console_check : FnScope ["self", "words", "channels", "plan", "word", "i", "channel", "first", "j"] ["self", "words"] (defScope s_Console_check) := ⟨rfl, rfl, rfl, by decide +kernel, rfl, by decide +kernel, by decide +kernel⟩
theorem ok_Console_check (B : Bi mg) (C : Cs mg) {CT : Addr} (T_Console : TConsole K mg CT) {c : Addr} (X_InvalidText : ExC K mg "InvalidText" c) {f g g2 g3 : Addr} {fd gd gd2 gd3 : FuncData} (F : Fun K "check" "Console.check" s_Console_check f fd)
    (L_read_number : Lk K mg "read_number" g gd ["word"]) (G_read_number : FnOk P w K mg base (L2N.CX P w) 1 g gd ["word"] (SpX K 1 (RNum c)))
    (L_least_between : Lk K mg "least_between" g2 gd2 ["separations", "i", "j"]) (G_least_between : FnOk P w K mg base CX0 1 g2 gd2 ["separations", "i", "j"] (SpD K 3 RLeast))
    (L_Console_separations : LkM K CT "separations" g3 gd3 ["self"]) (G_Console_separations : FnOk P w K mg base CX0 1 g3 gd3 ["self"] (SpSep K CT)) : FnOk P w K mg base (L2N.CX P w) 3 f fd ["self", "words"] (SpChk K CT c) := by
  have S := sc_Console_check
  refine Fun.okXN F S (fun vs H Q E h => ?_) (fun cdv A outer s H vs Q E hr h => ?_)
  · obtain ⟨φ, p, dx, d, n, ls, ws, wsv, rfl, r, _⟩ := h
    rw [List.length_cons, r.length]
    rfl
  obtain ⟨φ, p, dx, d, n, ls, ws, wsv, rfl, r, fr, nd, hc, ok, hl, W, hne, hyes, hno⟩ := h
  refine ⟨_, ((pss_cons (ps_set (i := 2) S.nd rfl (by first | exact Or.inl rfl | exact Or.inr rfl) (pe_callS G_read_number (hr.mono (by first | exact Nat.le_refl _ | decide | omega)) (by rfl) L_read_number.m L_read_number.kp L_read_number.bi (fun σ => L2N.passAt (L2N.takes_of rfl rfl rfl rfl) σ) (pa_cons (pe_ix ix_list (pv 1) pe_int (fun _ _ => rfl)) pa_nil)))
 (pss_cons (ps_setLcXN (i := 3) (own := [("word", 4)]) (g := (gName 4)) (tt := tYes) (takesLN (L2N.takes_of rfl rfl rfl rfl) rfl rfl) (by rfl) S.nd rfl rfl (sw_true rfl rfl rfl (by decide +kernel)) (pi_list (pe_slice sl_list (pv 1) (po_some pe_int) po_none)) (blkOk_by (N := ["self", "words", "channels", "plan", "word", "i", "channel", "first", "j"]) (sc := defScope s_Console_check) (own := [("word", 4)]) (by decide +kernel)) (fun _ _ _ _ _ => (pg_name (i := 4) S.nd rfl (by first | exact Or.inl rfl | exact Or.inr rfl))) (fun _ _ _ _ _ => pts_nil) (fun _ _ _ _ _ xe tk => (pe_callS G_read_number (hr.mono (by first | exact Nat.le_refl _ | decide | omega)) (by rfl) L_read_number.m L_read_number.kp L_read_number.bi (fun σ => passAtLN tk σ) (pa_cons (pv 4) pa_nil))))
 (pss_cons (ps_if (pt_cmpR op_ne (pe_callB c_len (by rfl) B.len (by decide +kernel) (pa_cons (pv 3) pa_nil)) (pe_fld (pv 0) rfl) (nomark _))
 (pss_one (L2N.ps_raise rfl (L2N.takes_of rfl rfl rfl rfl) (L2N.pmk_own PySem.F.excBase_ValueError X_InvalidText.e X_InvalidText.m X_InvalidText.k (raises_own X_InvalidText.s X_InvalidText.t) (by rfl))))
 pss_nil)
 (pss_cons (ps_for (passes_of rfl) rfl (pi_enum (by rfl) B.enumerate (pa_cons (pv 3) pa_nil)) (pg_tup (by rfl) (pgs_cons (pg_name (i := 5) S.nd rfl (by first | exact Or.inl rfl | exact Or.inr rfl)) (pgs_cons (pg_name (i := 6) S.nd rfl (by first | exact Or.inl rfl | exact Or.inr rfl)) pgs_nil)))
 (pss_one (ps_if (pt_cmpR op_ge (pv 6) (pv 2) (nomark _))
 (pss_one (ps_ret (pe_joined (PJ.cons pe_str (PJ.cons (pe_fmt (pv 5)) PJ.nil)))))
 pss_nil)))
 (pss_cons (ps_for (passes_of rfl) rfl (pi_enum (by rfl) B.enumerate (pa_cons (pv 3) pa_nil)) (pg_tup (by rfl) (pgs_cons (pg_name (i := 5) S.nd rfl (by first | exact Or.inl rfl | exact Or.inr rfl)) (pgs_cons (pg_name (i := 7) S.nd rfl (by first | exact Or.inl rfl | exact Or.inr rfl)) pgs_nil)))
 (pss_one (ps_for (passes_of rfl) rfl (pi_range2 (by rfl) B.range (pa_cons (pe_op op_add (pv 5) pe_int) (pa_cons (pe_fld (pv 0) rfl) pa_nil))) (pg_name (i := 8) S.nd rfl (by first | exact Or.inl rfl | exact Or.inr rfl))
 (pss_one (ps_if (pt_cmpR op_lt (pe_callB c_abs (by rfl) B.abs (by decide +kernel) (pa_cons (pe_op op_sub (pv 7) (pe_ix ix_list (pv 3) (pv 8) (fun _ _ => rfl))) pa_nil)) (pe_call G_least_between (hr.mono (by first | exact Nat.le_refl _ | decide | omega)) (by rfl) L_least_between.m L_least_between.kp L_least_between.bi .nil pass0 (pa_cons (pe_meth0 (pv 0) T_Console.cl L_Console_separations.me G_Console_separations (hr.mono (by first | exact Nat.le_refl _ | decide | omega)) L_Console_separations.bi .nil pass0 ) (pa_cons (pv 5) (pa_cons (pv 8) pa_nil)))) (nomark _))
 (pss_one (ps_ret (pe_joined (PJ.cons pe_str (PJ.cons (pe_fmt (pv 5)) (PJ.cons pe_str (PJ.cons (pe_fmt (pv 8)) PJ.nil)))))))
 pss_nil)))))
 (pss_one (ps_ret pe_str)))))))), ?_⟩
  have A : At K φ (Same H) [some (.raw (.ref p)), some (.lst (ws.map D.str)), none, none, none, none, none, none, none] (L2.start ["self", "words", "channels", "plan", "word", "i", "channel", "first", "j"] (.ref p :: wsv)) H := by
    refine ⟨?_, fr, Same.refl H, Mo.sames fun _ h => h⟩
    have e : (["self", "words", "channels", "plan", "word", "i", "channel", "first", "j"] : List Str).length - (V.ref p :: wsv).length = 7 := by
      show 9 - (wsv.length + 1) = 7
      rw [r.length]
      rfl
    unfold L2.start
    rw [e]
    exact SR.start (ds := [.raw (.ref p), .lst (ws.map D.str)]) (Reps.cons rfl r)
  have hJ : ∀ H', Same H H' → ConAt CT p dx d n ls H' := fun H' s => hc.same s
  obtain ⟨w0, wr, rfl⟩ : ∃ w0 wr, ws = w0 :: wr := by
    cases ws with
    | nil => exact absurd rfl hne
    | cons a b => exact ⟨a, b, rfl⟩
  have ok0 := W.2 w0 List.mem_cons_self
  have okr := fun x hx => W.2 x (List.mem_cons_of_mem w0 hx)
  have wlen : wr.length ≤ 1000000 := by
    have := W.1
    rw [List.length_cons] at this
    omega
  have W0 : EvD K φ (Same H) (tOp (rIxL K) (tVar 1) (tC (.int 0))) [some (.raw (.ref p)), some (.lst ((w0 :: wr).map D.str)), none, none, none, none, none, none, none] (.str w0) := ev_ixL (ev_var (i := 1) rfl) ev_int (atI_ofNat (i := 0) rfl)
  cases e0 : okNum 9 (tl w0) with
  | none =>
    have en : numsOf (w0 :: wr) = none := by rw [nums_cons, e0]
    exact q (st_rs A (num_no W0 ok0.1 (asc_strOk ok0.2) e0) fun H' b A' => hno (.inl en) H' A'.j)
  | some c0 =>
    refine q (st_set (d := .int (c0 : Int)) A (num_rd W0 ok0.1 (asc_strOk ok0.2) e0) fun σ1 H1 A1 => ?_)
    replace A1 : At K φ (Same H) [some (.raw (.ref p)), some (.lst ((w0 :: wr).map D.str)), some (.int (c0 : Int)), none, none, none, none, none, none] σ1 H1 := A1
    have hit : IterD K φ (Same H) (iList K (tSl (rSlL K) (tVar 1) (tPart (tC (.int 1))) tNoPart)) [some (.raw (.ref p)), some (.lst ((w0 :: wr).map D.str)), some (.int (c0 : Int)), none, none, none, none, none, none] (wr.map D.str) := it_list ((ev_slL (ev_var (i := 1) rfl) (eo_some ev_int) eo_none).is (by rw [cutD_lo (by decide)]; rfl))
    dsimp only
    cases en : numsOf wr with
    | none =>
      obtain ⟨pre, x, post, rfl, h1, h2⟩ := nums_none en
      have en2 : numsOf (w0 :: (pre ++ x :: post)) = none := by rw [nums_cons, e0, en]
      rw [List.map_append, List.map_cons] at hit
      have okx := okr x (List.mem_append_right _ List.mem_cons_self)
      have hpl : pre.length ≤ 1000000 := by
        rw [List.length_append] at wlen
        omega
      exact q (st_rs A1 (rs_lc (pre := pre.map D.str) (d := .str x) (post := post.map D.str) (f := numD) hit (by rw [List.length_map]; exact hpl) (fun e he φ' J' hx => by
        obtain ⟨y, hy, rfl⟩ := List.mem_map.mp he
        obtain ⟨m, hm⟩ := h1 y hy
        have oky := okr y (List.mem_append_left _ hy)
        refine (num_rd (ev_var rfl) oky.1 (asc_strOk oky.2) hm).is ?_
        show D.int _ = D.int _
        rw [hm]
        rfl) fun φ' J' hx => num_no (ev_var rfl) okx.1 (asc_strOk okx.2) h2) fun H' b A' => hno (.inl en2) H' A'.j)
    | some ps =>
      have en2 : numsOf (w0 :: wr) = some (c0 :: ps) := by rw [nums_cons, e0, en]
      have hsome := nums_some en
      have hpl : ps.length ≤ 1000000 := by rw [nums_len en]; exact wlen
      have c9 : c0 < 10 ^ 9 := num_lt e0
      refine q (st_set (d := .lst (ps.map fun k : Nat => D.int (k : Int))) A1 ((ev_lc (k := 4) (f := numD) hit (by rw [List.length_map]; exact wlen) fun e he φ' J' hx => ?_).is ?_) fun σ2 H2 A2 => ?_)
      · obtain ⟨y, hy, rfl⟩ := List.mem_map.mp he
        have oky := okr y hy
        obtain ⟨m, hm⟩ : ∃ m, okNum 9 (tl y) = some m := by
          have : okNum 9 (tl y) ∈ wr.map fun w => okNum 9 (tl w) := List.mem_map.mpr ⟨y, hy, rfl⟩
          rw [hsome] at this
          obtain ⟨m, _, e⟩ := List.mem_map.mp this
          exact ⟨m, e.symm⟩
        refine (num_rd (ev_var rfl) oky.1 (asc_strOk oky.2) hm).is ?_
        show D.int _ = D.int _
        rw [hm]
        rfl
      · have e1 : (wr.map D.str).map numD = (wr.map fun w => okNum 9 (tl w)).map fun o => D.int ((o.getD 0 : Nat) : Int) := by rw [List.map_map, List.map_map]; rfl
        rw [e1, hsome, List.map_map]
        rfl
      replace A2 : At K φ (Same H) [some (.raw (.ref p)), some (.lst ((w0 :: wr).map D.str)), some (.int (c0 : Int)), some (.lst (ps.map fun k : Nat => D.int (k : Int))), none, none, none, none, none] σ2 H2 := A2
      dsimp only
      refine q (st_if A2 (et_test (ev_neI (ev_lenL (ev_var (i := 3) rfl)) (ev_cnt hJ (k := 0) rfl T_Console.cl T_Console.n_count))) (fun hb H3 A3 => ?_) fun hb H3 A3 => st_next (q ?_))
      · have hb : ¬ (((ps.map fun k : Nat => D.int (k : Int)).length : Nat) : Int) = n := by simpa using hb.symm
        rw [List.length_map] at hb
        exact hno (.inr ⟨c0, ps, en2, hb⟩) H3 A3.j
      have hn : (ps.length : Int) = n := by
        have : (((ps.map fun k : Nat => D.int (k : Int)).length : Nat) : Int) = n := by simpa using hb.symm
        rw [List.length_map] at this
        exact this
      have hp24 : ps.length ≤ 24 := by
        have := ok.n1
        omega
      have hyes' : ∀ s, CheckT ls c0 ps s → ∀ H', Same H H' → Q (.str s) H' := fun s hs => hyes c0 ps s en2 hn hs
      -- outside
      refine st_forT (us := [5, 6]) (ρt := fun d ρ' => match d with | .tup [a, b] => (ρ'.set 5 (some a)).set 6 (some b) | _ => ρ') A3 (it_enum (ea_cons (ev_var (i := 3) rfl) ea_nil)) (fun i ρ' J' => J' = Same H ∧ (∀ k, k < i → ps.getD k 0 < c0) ∧ ∃ o4 o5 o6, ρ' = [some (.raw (.ref p)), some (.lst ((w0 :: wr).map D.str)), some (.int (c0 : Int)), some (.lst (ps.map fun k : Nat => D.int (k : Int))), o4, o5, o6, none, none])
        ⟨rfl, (fun k hk => absurd hk (Nat.not_lt_zero _)), none, none, none, rfl⟩ ?_ ?_ ?_
      · rintro i d ρ' J' hd ⟨_, _, o4, o5, o6, rfl⟩
        rw [enumD_get, List.getElem?_map] at hd
        cases hx : ps[i]? with
        | none => rw [hx] at hd; cases hd
        | some x =>
          rw [hx] at hd
          cases hd
          exact eg_tup (ds := [.int (0 + (i : Nat)), .int (x : Int)]) (egs_cons eg_name (egs_cons eg_name egs_nil))
      · rintro H5 i d ρ' J' b5 j5 hd ⟨rfl, hlt, o4, o5, o6, rfl⟩ σ6 H6 A6
        rw [enumD_get, List.getElem?_map] at hd
        cases hx : ps[i]? with
        | none => rw [hx] at hd; cases hd
        | some x =>
          rw [hx] at hd
          cases hd
          have hi := (List.getElem?_eq_some_iff.mp hx).1
          have hgx : ps.getD i 0 = x := by rw [getD_ps hi] at hx; exact Option.some.inj hx
          replace A6 : At K φ (fun H' => Same H H' ∧ But φ H5 H') [some (.raw (.ref p)), some (.lst ((w0 :: wr).map D.str)), some (.int (c0 : Int)), some (.lst (ps.map fun k : Nat => D.int (k : Int))), o4, some (.int (0 + (i : Nat))), some (.int (x : Int)), none, none] σ6 H6 := A6
          refine st_if A6 (et_test (ev_ge (ev_var (i := 6) rfl) (ev_var (i := 2) rfl))) (fun hb H7 A7 => ?_) fun hb H7 A7 => st_next ?_
          · have hb : (c0 : Int) ≤ (x : Int) := of_decide_eq_true hb.symm
            have i24 : i < 10 ^ 9 := by omega
            have e0i : (0 + (i : Nat) : Int) = (i : Int) := by omega
            rw [e0i] at A7
            refine st_ret A7 ((ev_fstr (EvJ.cons ev_str (EvJ.cons (ev_fmtI (ev_var (i := 5) rfl) (log_nat (nat9 i24))) EvJ.nil)) (by
              have := numS_len (by decide) i24
              have l8 : ("outside " : Str).length = 8 := by decide +kernel
              show ("outside " : Str).length + ((numS (i : Int)).length + 0) ≤ _
              omega)).is (congrArg D.str (fold2 _ _))) fun v d H8 e A8 r => ?_
            rw [e] at r
            cases (show v = _ from r)
            exact hyes' _ (.inl ⟨i, hi, by omega, hlt, rfl⟩) H8 A8.j.1
          · have hb : ¬ (c0 : Int) ≤ (x : Int) := of_decide_eq_false hb.symm
            exact ⟨_, Same H, ⟨rfl, fun k hk => by
              by_cases e : k < i
              · exact hlt k e
              · have : k = i := by omega
                subst this
                omega, _, _, _, rfl⟩, A7⟩
      rintro H5 ρ' J' σ6 H6 b5 j5 ⟨rfl, hlt, o4, o5, o6, rfl⟩ A6
      rw [enumD_length, List.length_map] at hlt
      have A7 : At K φ (Same H) [some (.raw (.ref p)), some (.lst ((w0 :: wr).map D.str)), some (.int (c0 : Int)), some (.lst (ps.map fun k : Nat => D.int (k : Int))), o4, o5, o6, none, none] σ6 H6 := A6.live A6.j.1 (Mo.sames fun a h => by
        cases z : H a with
        | none => exact absurd z h
        | some u => rw [A6.j.1 a u z]; exact fun z => nomatch z)
      clear A6
      refine q ?_
      -- breaks
      refine st_forT (us := [5, 7]) (ρt := fun d ρ' => match d with | .tup [a, b] => (ρ'.set 5 (some a)).set 7 (some b) | _ => ρ') A7 (it_enum (ea_cons (ev_var (i := 3) rfl) ea_nil)) (fun i ρ' J' => J' = Same H ∧ (∀ i' j', i' < i → ¬ HitP ls ps i' j') ∧ ∃ o4 o5 o6 o7 o8, ρ' = [some (.raw (.ref p)), some (.lst ((w0 :: wr).map D.str)), some (.int (c0 : Int)), some (.lst (ps.map fun k : Nat => D.int (k : Int))), o4, o5, o6, o7, o8])
        ⟨rfl, (fun i' j' hk => absurd hk (Nat.not_lt_zero _)), _, _, _, _, _, rfl⟩ ?_ ?_ ?_
      · rintro i d ρ' J' hd ⟨_, _, o4, o5, o6, o7, o8, rfl⟩
        rw [enumD_get, List.getElem?_map] at hd
        cases hx : ps[i]? with
        | none => rw [hx] at hd; cases hd
        | some x =>
          rw [hx] at hd
          cases hd
          exact eg_tup (ds := [.int (0 + (i : Nat)), .int (x : Int)]) (egs_cons eg_name (egs_cons eg_name egs_nil))
      · rintro H8 i d ρ' J' b8 j8 hd ⟨rfl, hno1, o4, o5, o6, o7, o8, rfl⟩ σ9 H9 A9
        rw [enumD_get, List.getElem?_map] at hd
        cases hx : ps[i]? with
        | none => rw [hx] at hd; cases hd
        | some x =>
          rw [hx] at hd
          cases hd
          have hi := (List.getElem?_eq_some_iff.mp hx).1
          have hgx : ps.getD i 0 = x := by rw [getD_ps hi] at hx; exact Option.some.inj hx
          have e0i : (0 + (i : Nat) : Int) = (i : Int) := by omega
          rw [e0i] at A9
          replace A9 : At K φ (fun H' => Same H H' ∧ But φ H8 H') [some (.raw (.ref p)), some (.lst ((w0 :: wr).map D.str)), some (.int (c0 : Int)), some (.lst (ps.map fun k : Nat => D.int (k : Int))), o4, some (.int (i : Int)), o6, some (.int (x : Int)), o8] σ9 H9 := A9
          refine st_for A9 (it_range2 (ea_cons (ev_add (ev_var (i := 5) rfl) ev_int) (ea_cons (ev_cnt (fun H' j => hJ _ j.1) (k := 0) rfl T_Console.cl T_Console.n_count) ea_nil)) (by omega)) (fun k ρ' J' => J' = (fun H' => Same H H' ∧ But φ H8 H') ∧ (∀ j', j' < i + 1 + k → ¬ HitP ls ps i j') ∧ ∃ o8, ρ' = [some (.raw (.ref p)), some (.lst ((w0 :: wr).map D.str)), some (.int (c0 : Int)), some (.lst (ps.map fun k : Nat => D.int (k : Int))), o4, some (.int (i : Int)), o6, some (.int (x : Int)), o8])
            ⟨rfl, (fun j' hj hh => by have := hh.1; omega), _, rfl⟩ ?_ ?_
          · rintro H10 k y ρ' J' b10 j10 hy ⟨rfl, hno2, o8, rfl⟩ σ11 H11 A11
            rw [rangeD_get] at hy
            split at hy
            · rename_i hk
              cases hy
              have hj : i + 1 + k < ps.length := by omega
              have ej : ((i : Int) + 1 + (k : Nat)) = ((i + 1 + k : Nat) : Int) := by omega
              rw [ej] at A11
              generalize hJe : i + 1 + k = j at hj A11 hno2
              have hgj := getD_ps hj
              replace A11 : At K φ (fun H' => (Same H H' ∧ But φ H8 H') ∧ But φ H10 H') [some (.raw (.ref p)), some (.lst ((w0 :: wr).map D.str)), some (.int (c0 : Int)), some (.lst (ps.map fun k : Nat => D.int (k : Int))), o4, some (.int (i : Int)), o6, some (.int (x : Int)), some (.int (j : Int))] σ11 H11 := A11
              refine st_if A11 (et_test (ev_lt (ev_abs (ev_sub (ev_var (i := 7) rfl) (ev_ixL (d := .int ((ps.getD j 0 : Nat) : Int)) (ev_var (i := 3) rfl) (ev_var (i := 8) rfl) (atI_ofNat (by rw [List.getElem?_map, hgj]; rfl))))) (ev_callD (R := RLeast) (d := .int (leastB (rowsOf ls) i j)) (ea_cons (ev_sep (fun H' j => hJ _ j.1.1) nd ok (by omega) (k := 0) rfl) (ea_cons (ev_var (i := 5) rfl) (ea_cons (ev_var (i := 8) rfl) ea_nil))) ⟨n, i, j, rowsOf ls, rfl, rfl⟩))) (fun hb H12 A12 => ?_) fun hb H12 A12 => st_next ?_
              · have hb : ((((x : Int) - ((ps.getD j 0 : Nat) : Int)).natAbs : Int) < leastB (rowsOf ls) i j) := of_decide_eq_true hb.symm
                rw [ok.least, ← hgx] at hb
                have i9 : i < 10 ^ 9 := by omega
                have j9 : j < 10 ^ 9 := by omega
                refine st_ret A12 ((ev_fstr (EvJ.cons ev_str (EvJ.cons (ev_fmtI (ev_var (i := 5) rfl) (log_nat (nat9 i9))) (EvJ.cons ev_str (EvJ.cons (ev_fmtI (ev_var (i := 8) rfl) (log_nat (nat9 j9))) EvJ.nil)))) (by
                  have := numS_len (by decide) i9
                  have := numS_len (by decide) j9
                  have l7 : ("breaks " : Str).length = 7 := by decide +kernel
                  have l1 : (" " : Str).length = 1 := by decide +kernel
                  show ("breaks " : Str).length + ((numS (i : Int)).length + ((" " : Str).length + ((numS (j : Int)).length + 0))) ≤ _
                  omega)).is (congrArg D.str (fold4 _ _ _ _))) fun v d H13 e A13 r => ?_
                rw [e] at r
                cases (show v = _ from r)
                refine hyes' _ (.inr ⟨hlt, .inl ⟨i, j, ⟨by omega, hj, hb⟩, fun i' j' hh => ?_, rfl⟩⟩) H13 A13.j.1.1
                by_cases z : i' < i
                · exact absurd hh (hno1 i' j' z)
                · by_cases z2 : i' = i
                  · subst z2
                    by_cases z3 : j' < j
                    · exact absurd hh (hno2 j' z3)
                    · exact .inr ⟨rfl, by omega⟩
                  · exact .inl (by omega)
              · have hb : ¬ ((((x : Int) - ((ps.getD j 0 : Nat) : Int)).natAbs : Int) < leastB (rowsOf ls) i j) := of_decide_eq_false hb.symm
                rw [ok.least, ← hgx] at hb
                refine ⟨_, _, ⟨rfl, fun j' hj' hh => ?_, _, rfl⟩, A12⟩
                by_cases z : j' < j
                · exact hno2 j' z hh
                · have : j' = j := by omega
                  subst this
                  exact hb hh.2.2
            · cases hy
          · rintro H10 ρ' J' σ11 H11 b10 j10 ⟨rfl, hno2, o8, rfl⟩ A11
            rw [rangeD_length] at hno2
            refine ⟨_, Same H, ⟨rfl, fun i' j' hi' hh => ?_, _, _, _, _, _, rfl⟩, A11.live A11.j.1 ?_⟩
            · by_cases z : i' < i
              · exact hno1 i' j' z hh
              · have : i' = i := by omega
                subst this
                exact hno2 j' (by have := hh.2.1; omega) hh
            · exact (Mo.sames fun a h => by
                cases z : H a with
                | none => exact absurd z h
                | some u => rw [A11.j.1.1 a u z]; exact fun z => nomatch z).and (Mo.but A11.j.1.2.tr)
      · rintro H8 ρ' J' σ9 H9 b8 j8 ⟨rfl, hno1, o4, o5, o6, o7, o8, rfl⟩ A9
        rw [enumD_length, List.length_map] at hno1
        dsimp only
        refine st_ret A9 (ev_str (s := "keeps")) fun v d H10 e A10 r => ?_
        rw [e] at r
        cases (show v = _ from r)
        exact hyes' _ (.inr ⟨hlt, .inr ⟨fun i j hh => hno1 i j (by have := hh.1; have := hh.2.1; omega) hh, rfl⟩⟩) H10 A10.j.1
end
end

/-! ### a live dict as an argument; the table at further calls -/
section
variable {K : PySem.W.Frag} {φ : Addr → Prop} {J : Hp → Prop} {H H' H0 : Hp} {ρ : List (Option D)} {σ : L2.St} {ta : TA} {ds ds' : List D} {d : D} {l C : Addr} {κ : Type} [DecidableEq κ] [DKind κ] {kds : List (κ × D)} {D0 : Ends} {q : Str} {pos : Pos} {ps : Array Value}
inductive LdR (l : Addr) (t : D) : List D → List D → Prop where
  | nil : LdR l t [] []
  | same {d : D} {r r' : List D} : LdR l t r r' → LdR l t (d :: r) (d :: r')
  | here {r r' : List D} : LdR l t r r' → LdR l t (.raw (.ref l) :: r) (t :: r')
abbrev wi (φ : Addr → Prop) (l : Addr) : Addr → Prop := fun a => φ a ∨ a = l
theorem LdR.reps {t : D} (h : LdR l t ds ds') (ht : Rep K (wi φ l) H t (.ref l)) : ∀ {vs : List V}, Reps K φ H ds vs → Reps K (wi φ l) H ds' vs := by
  have up : Up φ (wi φ l) H H := fun a o p e => ⟨.inl p, e⟩
  induction h with
  | nil => exact fun r => r
  | @same d r r' _ ih =>
    intro vs h
    obtain ⟨v, vs', rfl, h1, h2⟩ := (show ∃ v vs', vs = v :: vs' ∧ Rep K φ H d v ∧ Reps K φ H r vs' from h)
    exact Reps.cons (Rep.up up d v h1) (ih h2)
  | @here r r' _ ih =>
    intro vs h
    obtain ⟨v, vs', rfl, h1, h2⟩ := (show ∃ v vs', vs = v :: vs' ∧ Rep K φ H (.raw (.ref l)) v ∧ Reps K φ H r vs' from h)
    cases (show v = .ref l from h1)
    exact Reps.cons ht (ih h2)
/-- what is told leans on nothing at l -/
def Narrow (K : PySem.W.Frag) (φ : Addr → Prop) (l : Addr) (kds : List (κ × D)) (d : D) : Prop := ∀ H v, (∃ vs, H l = some (DKind.ho ((kds.map (·.1)).zip vs))) → Rep K (wi φ l) H d v → Rep K φ H d v
theorem ev_callLD {n : Nat} {R : List D → D → Prop} {E : XK} (L : LivDS K φ J l kds) (ha : EvAD K φ J ta ρ ds) (hld : LdR l (dictD kds) ds ds') (hr : R ds' d) (hn : Narrow K φ l kds d) (hl : ds'.length = n := by rfl) : EvD K φ J (tCall (SpD K n R) [] E ta) ρ d := fun σ H A Q k =>
  ha σ H A _ fun vs ds1 H1 b1 A1 e r1 => by
    subst e
    obtain ⟨ws, H0, r0, n0, k0⟩ := L.ex
    obtain ⟨el, b0⟩ := k0 _ A1.j
    have up : Up φ (wi φ l) H1 H1 := fun a o p e => ⟨.inl p, e⟩
    have ht : Rep K (wi φ l) H1 (dictD kds) (.ref l) := DKind.rep.mpr ⟨l, ws, rfl, ⟨.inr rfl, el, by rw [List.length_map, List.length_map]⟩, Reps.up up _ _ (r0.mono b0)⟩
    refine ⟨wi φ l, ds', d, hl, by rw [List.append_nil]; exact hld.reps ht r1, ⟨fun a h => .inl (A1.fr.new a h), fun a xs h => .inl (A1.fr.tup a xs h)⟩, hr, fun v H' s r => ?_⟩
    exact k v d H' (b1.trans (But.of s)) (A1.same s) rfl (hn H' v ⟨ws, s _ _ el⟩ r)
theorem narrow_ints {kds : List (Key × D)} (ns : List Int) : Narrow K φ l kds (.lst (ns.map D.int)) := fun H v ⟨vs, e⟩ r => by
  obtain ⟨a, xs, rfl, p, rs⟩ := (show ∃ a xs, v = .ref a ∧ PL K (wi φ l) H a xs ∧ Reps K (wi φ l) H (ns.map D.int) xs from r)
  refine ⟨a, xs, rfl, ?_, ?_⟩
  · rcases p with ⟨p1, p2⟩ | p
    · rcases p1 with p1 | p1
      · exact .inl ⟨p1, p2⟩
      · rw [p1] at p2
        rcases p2 with p2 | ⟨o, p2⟩
        · rw [e] at p2
          cases p2
        · rw [e] at p2
          cases p2
    · exact .inr p
  · rw [rs.ints]
    exact Reps.of_ints
/-- a further call of a def that may make the lambda -/
theorem JF.trans {ps' : Array Value} (h : JF C q pos H0 ps H) (h2 : JF C q pos H ps' H') : JF C q pos H0 ps' H' := ⟨h.1.trans h2.1, h2.2.1, fun f => (h.2.2 f).trans (h2.2.2 (f.same (h.2.2 f)))⟩
theorem st_callJ {Hx : Hp} {n : Nat} {Pre : List D → Prop} {R : List D → D → Prop} {E : XK} {g : TG} {us : List Nat} {ρ2 : D → List (Option D)} (A : At K φ (fun H => JF C q pos H0 ps H ∧ But φ Hx H) ρ σ H) (np : ¬ φ C) (ha : EvAD K φ (fun H => JF C q pos H0 ps H ∧ But φ Hx H) ta ρ ds) (hp : Pre ds) (hg : ∀ d, R ds d → EvG K g d ρ (ρ2 d) us)
    (kk : ∀ d ps' σ' H', R ds d → At K φ (fun H => JF C q pos H0 ps' H ∧ But φ Hx H) (ρ2 d) σ' H' → D0.nx σ' H') (hl : ds.length = n := by rfl) : tAsg (tCall (SpS K C q pos n Pre R) [] E ta) g D0 σ H :=
  ha σ H A _ fun vs ds' H1 b1 A1 e r1 => by
    subst e
    have j1 := A1.j.1
    refine ⟨φ, _, ps, hl, by rw [List.append_nil]; exact r1, A1.fr, np, j1.2.1, hp, fun v d ps' H' rd j r => ?_⟩
    have b2 := butP_butT (φ := φ) j.1 np j.2.1
    have j2 := j1.trans j
    have bx := A1.j.2.trans b2
    have A2 : At K φ (fun H => JF C q pos H0 ps' H ∧ But φ Hx H) ρ σ H' := ⟨A1.sr.up (Up.of b2), A1.fr.butT j.1 j.2.1, ⟨j2, bx⟩, j2.mo.and (Mo.but bx.tr)⟩
    exact hg d rd φ _ σ H' v A2 r _ fun σ' A3 _ => kk d ps' σ' H' rd A3
end
/-! ### blocking, span, greedy -/
section
open TL
def pairD (x : Nat × Nat) : D := .tup [.int (x.1 : Nat), .int (x.2 : Nat)]
def RLow : List D → D → Prop := fun ds r => ∃ p q : Nat, ds = [.int p, .int q] ∧ 0 < q ∧ q ≤ 2 ^ 5000 ∧ r = pairD (low p q)
structure BlkOk (a b c : Nat) : Prop where
  a1 : a ≤ 1000000
  b0 : 0 < b
  b1 : b ≤ 999999999
  c1 : c ≤ 100
  bd : ∀ i, i ≤ c → (blk a b i).1 ≤ 2 ^ 900 ∧ (blk a b i).2 ≤ 2 ^ 900 ∧ 0 < (blk a b i).2
def RBlk : List D → D → Prop := fun ds r => ∃ a b c : Nat, ds = [.int a, .int b, .int c] ∧ BlkOk a b c ∧ r = pairD (blk a b c)
def PSpan : List D → Prop := fun ds => ∃ (n : Int) (R : List Row), ds = [sepD n R] ∧ SepG n R ∧ n ≤ 11
def RSpan : List D → D → Prop := fun ds d => ∀ (n : Int) (R : List Row), ds = [sepD n R] → ∃ k : Nat, CanN n R k ∧ (∀ j : Nat, j < k → ¬ CanN n R j) ∧ k ≤ 99 ∧ ∃ x y, d = .tup [.int (k : Int), x, y]
def sumR (R : List Row) : Int := (R.map fun r => 2 * r.2.2).sum
def RGreedy : List D → D → Prop := fun ds d => ∃ (n : Int) (R : List Row) (ws : List Int), ds = [sepD n R, .tup (rangeD 0 n.toNat)] ∧ SepG n R ∧ sumR R ≤ 900 ∧ GreedyL n R ws ∧ d = .tup (ws.map D.int)
theorem can_far {n : Int} {R : List Row} (S : SepG n R) : CanN n R (9 * n) := by
  refine ⟨fun i => 9 * i, fun i h1 h2 => by omega, fun i j h1 h2 h3 h4 ne => ?_⟩
  have := (leastB_range (fun r hr => by have := S.rows r hr; omega) i j).2
  omega
theorem blk_row {n : Int} {R : List Row} (S : SepG n R) {ws : List Int} {i : Nat} {ch : Int} (h : BlkC R ws i ch) : Hit (R.map fun r => (ws.getD r.1.toNat 0, r.2.2)) ch := by
  obtain ⟨j, hj, hb⟩ := h
  obtain ⟨r, hr, e⟩ := leastB_pos S (show 0 < leastB R i j by omega)
  have e1 : r.1 = min (i : Int) j := congrArg Prod.fst e
  have e2 := leastB_row S hr
  have e3 : leastB R i j = r.2.2 := by
    rw [← e2]
    unfold leastB
    rw [← e, show min r.1 r.2.1 = r.1 by have := S.rows r hr; omega, show max r.1 r.2.1 = r.2.1 by have := S.rows r hr; omega]
    rfl
  refine ⟨_, List.mem_map.mpr ⟨r, hr, rfl⟩, ?_⟩
  show (((ch - ws.getD r.1.toNat 0).natAbs : Int)) < r.2.2
  rw [show r.1.toNat = j by omega, ← e3]
  omega
theorem greedy_le {n : Int} {R : List Row} (S : SepG n R) {ws : List Int} {i : Nat} {m : Nat} (h : ∀ ch : Int, 0 ≤ ch → ch < (m : Int) → BlkC R ws i ch) : (m : Int) ≤ sumR R := by
  have := hit_count (R.map fun r => (ws.getD r.1.toNat 0, r.2.2)) m (fun p hp => by
    obtain ⟨r, hr, rfl⟩ := List.mem_map.mp hp
    have := S.rows r hr
    show 0 ≤ r.2.2
    omega) fun k hk => blk_row S (h k (by omega) (by omega))
  rw [List.map_map] at this
  exact this
theorem blk_take {R : List Row} {ws ws' : List Int} {i : Nat} {ch : Int} (h : ∀ j, j < i → ws.getD j 0 = ws'.getD j 0) : BlkC R ws i ch ↔ BlkC R ws' i ch := by
  constructor
  · rintro ⟨j, hj, hb⟩
    exact ⟨j, hj, by rw [← h j hj]; exact hb⟩
  · rintro ⟨j, hj, hb⟩
    exact ⟨j, hj, by rw [h j hj]; exact hb⟩
open Classical in
theorem greedy_ex {n : Int} {R : List Row} (S : SepG n R) : ∃ ws, GreedyL n R ws := by
  have step : ∀ k : Nat, ∃ ws : List Int, ws.length = k ∧ ∀ i : Nat, i < ws.length → 0 ≤ ws.getD i 0 ∧ ¬ BlkC R ws i (ws.getD i 0) ∧ ∀ ch : Int, 0 ≤ ch → ch < ws.getD i 0 → BlkC R ws i ch := by
    intro k
    induction k with
    | zero => exact ⟨[], rfl, fun i hi => absurd hi (Nat.not_lt_zero _)⟩
    | succ k ih =>
      obtain ⟨ws, hl, hw⟩ := ih
      -- the least free one
      have free : ∃ m : Nat, ¬ BlkC R ws k (m : Int) := by
        refine Classical.byContradiction fun hno => ?_
        have all : ∀ m : Nat, BlkC R ws k (m : Int) := fun m => Classical.byContradiction fun z => hno ⟨m, z⟩
        have := greedy_le S (ws := ws) (i := k) (m := (sumR R).toNat + 1) fun ch h0 _ => by
          have := all ch.toNat
          rw [Int.toNat_of_nonneg h0] at this
          exact this
        omega
      obtain ⟨m, hm, hmin⟩ : ∃ m : Nat, ¬ BlkC R ws k (m : Int) ∧ ∀ j : Nat, j < m → BlkC R ws k (j : Int) := by
        obtain ⟨m, hm⟩ := free
        induction m using Nat.strongRecOn with
        | _ m ih =>
          by_cases hx : ∃ j, j < m ∧ ¬ BlkC R ws k (j : Int)
          · obtain ⟨j, hj, hb⟩ := hx
            exact ih j hj hb
          · exact ⟨m, hm, fun j hj => Classical.byContradiction fun z => hx ⟨j, hj, z⟩⟩
      have old : ∀ j, j < k → (ws ++ [(m : Int)]).getD j 0 = ws.getD j 0 := fun j hj => by
        rw [List.getD_eq_getElem?_getD, List.getD_eq_getElem?_getD, List.getElem?_append_left (by omega)]
      have new : (ws ++ [(m : Int)]).getD k 0 = (m : Int) := by
        rw [List.getD_eq_getElem?_getD, List.getElem?_append_right (by omega), hl, Nat.sub_self]
        rfl
      refine ⟨ws ++ [(m : Int)], by rw [List.length_append, hl]; rfl, fun i hi => ?_⟩
      rw [List.length_append, hl] at hi
      have hi : i < k + 1 := hi
      have cg : ∀ ch, BlkC R (ws ++ [(m : Int)]) i ch ↔ BlkC R ws i ch := fun ch => blk_take fun j hj => old j (by omega)
      by_cases z : i < k
      · rw [old i z, cg]
        obtain ⟨a, b, c⟩ := hw i (by omega)
        exact ⟨a, b, fun ch h0 h1 => (cg ch).mpr (c ch h0 h1)⟩
      · have : i = k := by omega
        subst this
        rw [new, cg]
        exact ⟨by omega, hm, fun ch h0 h1 => (cg ch).mpr (by
          have := hmin ch.toNat (by omega)
          rw [Int.toNat_of_nonneg h0] at this
          exact this)⟩
  obtain ⟨ws, h1, h2⟩ := step n.toNat
  exact ⟨ws, h1, h2⟩
/-- the dict of the channels that are given -/
def gOf (ws : List Int) (k : Nat) : List (Int × Int) := (List.range k).map fun j : Nat => ((j : Int), ws.getD j 0)
theorem gOf_succ (ws : List Int) (k : Nat) : gOf ws (k + 1) = gOf ws k ++ [((k : Int), ws.getD k 0)] := by
  unfold gOf
  rw [List.range_succ, List.map_append]
  rfl
theorem gOf_val (ws : List Int) : ∀ (k : Nat) (i : Int), val (gOf ws k) i = if 0 ≤ i ∧ i < (k : Int) then some (ws.getD i.toNat 0) else none
  | 0, i => by
    rw [if_neg (by omega)]
    rfl
  | k + 1, i => by
    rw [gOf_succ]
    have hk : val (gOf ws k) (k : Int) = none := by rw [gOf_val ws k (k : Int), if_neg (by omega)]
    rw [val_snoc hk]
    unfold setv
    by_cases e : i = (k : Int)
    · rw [if_pos e, if_pos (by omega), e]
      rfl
    · rw [if_neg e, gOf_val ws k i]
      by_cases z : 0 ≤ i ∧ i < (k : Int)
      · rw [if_pos z, if_pos (by omega)]
      · rw [if_neg z, if_neg (by omega)]
theorem conf_blk {n : Int} {R : List Row} {ws : List Int} {k : Nat} (hk : (k : Int) < n) (ch : Int) : Conf n R (val (gOf ws k)) (k : Int) ch ↔ BlkC R ws k ch := by
  constructor
  · rintro ⟨j, b, j0, j1, hv, hb⟩
    rw [gOf_val] at hv
    split at hv
    · rename_i hj
      cases hv
      refine ⟨j.toNat, by omega, ?_⟩
      rw [Int.toNat_of_nonneg j0]
      omega
    · cases hv
  · rintro ⟨j, hj, hb⟩
    refine ⟨(j : Int), ws.getD j 0, by omega, by omega, ?_, by omega⟩
    rw [gOf_val, if_pos (by omega)]
    rfl
theorem free_head {n c : Int} {R : List Row} {v : Int → Option Int} {i x : Int} (h0 : 0 ≤ x) (h1 : x < c) (h2 : ¬ Conf n R v i x) (h3 : ∀ ch, 0 ≤ ch → ch < x → Conf n R v i ch) : (freeI n R c v i)[0]? = some x := by
  have hm : x ∈ freeI n R c v i := free_iff.mpr ⟨h0, h1, h2⟩
  cases e : freeI n R c v i with
  | nil => rw [e] at hm; cases hm
  | cons y r =>
    have hy : y ∈ freeI n R c v i := by rw [e]; exact List.mem_cons_self
    obtain ⟨y0, y1, y2⟩ := free_iff.mp hy
    have asc : (freeI n R c v i).Pairwise (· < ·) := by
      unfold freeI
      refine List.Pairwise.sublist List.filter_sublist ?_
      rw [List.pairwise_map]
      exact List.pairwise_lt_range.imp fun {a b} h => by show (a : Int) < (b : Int); omega
    rw [e] at asc hm
    have : y = x := by
      rcases List.mem_cons.mp hm with rfl | hm
      · rfl
      · have hlt := (List.pairwise_cons.mp asc).1 x hm
        exact absurd (h3 y y0 hlt) y2
    rw [this]
    rfl
end

/-! ### blocking, span, greedy: walked -/
section
open TL
section
variable {P : Program} {w : World} {K : PySem.W.Frag} {mg : Str → Option Value} {base : Heap}
theorem sc_lowest : FnScope ["p", "q", "common"] ["p", "q"] (defScope s_lowest) := ⟨rfl, rfl, rfl, by decide +kernel, rfl, by decide +kernel, by decide +kernel⟩
theorem ok_lowest (B : Bi mg) (C : Cs mg) {f : Addr} {fd : FuncData} (F : Fun K "lowest" "lowest" s_lowest f fd) : FnOk P w K mg base CX0 1 f fd ["p", "q"] (SpD K 2 RLow) := by
  have S := sc_lowest
  refine fn_ok F S rfl 1 rfl fun cdv A outer s H E hr => ⟨_, ((pss_cons (ps_set (i := 2) S.nd rfl (by first | exact Or.inl rfl | exact Or.inr rfl) (pe_callBfun cr_gcd (by rfl) C.gcd (pa_cons (pv 0) (pa_cons (pv 1) pa_nil))))
 (pss_one (ps_ret (pe_tup (pa_cons (pe_op op_fdivW (pv 0) (pv 2)) (pa_cons (pe_op op_fdivW (pv 1) (pv 2)) pa_nil))))))), fun φ ds d H D0 σ hl hR hrt hnx A => ?_⟩
  obtain ⟨p, q', rfl, hq, hb, rfl⟩ := hR
  replace A : At K φ (Same H) [some (.int p), some (.int q'), none] σ H := A
  have hg : 0 < Nat.gcd p q' := Nat.gcd_pos_of_pos_right _ hq
  have hc : ∀ i : Int, CDivW i ((Nat.gcd p q' : Nat) : Int) := fun i => ⟨by omega, by
    rw [Int.natAbs_natCast]
    exact Nat.lt_of_lt_of_le (log2_lt_of' (n := 5000) (Nat.le_trans (Nat.gcd_le_right _ hq) hb)) (by decide)⟩
  refine q (st_set A ((ev_gcd (ev_var rfl) (ev_var rfl)).is (d' := .int ((Nat.gcd p q' : Nat) : Int)) rfl) fun σ1 H1 A1 => ?_)
  refine st_ret A1 (ev_tup (ea_cons (ev_fdivW (ev_var rfl) (ev_var rfl) (hc _)) (ea_cons (ev_fdivW (ev_var rfl) (ev_var rfl) (hc _)) ea_nil))) fun v d' H6 e A6 r => hrt v H6 A6.j (by subst e; exact r)
theorem sc_blocking : FnScope ["a", "b", "channels", "p", "q", "channel", "above"] ["a", "b", "channels"] (defScope s_blocking) := ⟨rfl, rfl, rfl, by decide +kernel, rfl, by decide +kernel, by decide +kernel⟩
theorem ok_blocking (B : Bi mg) (C : Cs mg) {f g : Addr} {fd gd : FuncData} (F : Fun K "blocking" "blocking" s_blocking f fd) (L_lowest : Lk K mg "lowest" g gd ["p", "q"]) (G_lowest : FnOk P w K mg base CX0 1 g gd ["p", "q"] (SpD K 2 RLow)) : FnOk P w K mg base CX0 2 f fd ["a", "b", "channels"] (SpD K 3 RBlk) := by
  have S := sc_blocking
  refine fn_ok F S rfl 4 rfl fun cdv A outer s H E hr => ⟨_, ((pss_cons (ps_set (i := 3) S.nd rfl (by first | exact Or.inl rfl | exact Or.inr rfl) pe_int)
 (pss_cons (ps_set (i := 4) S.nd rfl (by first | exact Or.inl rfl | exact Or.inr rfl) pe_int)
 (pss_cons (ps_for PassesOwn.never rfl (pi_range2 (by rfl) B.range (pa_cons pe_int (pa_cons (pe_op op_add (pv 2) pe_int) pa_nil))) (pg_name (i := 5) S.nd rfl (by first | exact Or.inl rfl | exact Or.inr rfl))
 (pss_cons (ps_set (i := 6) S.nd rfl (by first | exact Or.inl rfl | exact Or.inr rfl) (pe_op op_mul (pv 0) (pv 3)))
 (pss_one (ps_asg (pe_call G_lowest (hr.mono (by first | exact Nat.le_refl _ | decide | omega)) (by rfl) L_lowest.m L_lowest.kp L_lowest.bi .nil pass0 (pa_cons (pv 6) (pa_cons (pe_op op_add (pe_op op_mul (pe_op op_mul (pv 1) (pv 5)) (pv 4)) (pv 6)) pa_nil))) (pg_tup (by rfl) (pgs_cons (pg_name (i := 3) S.nd rfl (by first | exact Or.inl rfl | exact Or.inr rfl)) (pgs_cons (pg_name (i := 4) S.nd rfl (by first | exact Or.inl rfl | exact Or.inr rfl)) pgs_nil)))))))
 (pss_one (ps_ret (pe_tup (pa_cons (pv 3) (pa_cons (pv 4) pa_nil))))))))), fun φ ds d H D0 σ hl hR hrt hnx A => ?_⟩
  obtain ⟨a, b, c, rfl, ⟨ha, hb, hb9, hc, hbd⟩, rfl⟩ := hR
  replace A : At K φ (Same H) [some (.int a), some (.int b), some (.int c), none, none, none, none] σ H := A
  refine q (st_set A ev_int fun σ1 H1 A1 => q (st_set A1 ev_int fun σ2 H2 A2 => q ?_))
  refine st_for A2 (it_range2 (ea_cons ev_int (ea_cons (ev_add (ev_var rfl) ev_int) ea_nil)) (by omega)) (fun i ρ' J' => i ≤ c ∧ (∃ o o', ρ' = [some (.int a), some (.int b), some (.int c), some (.int (blk a b i).1), some (.int (blk a b i).2), o, o']) ∧ J' = Same H) ⟨Nat.zero_le _, ⟨none, none, rfl⟩, rfl⟩ ?_ ?_
  · rintro H4 i x ρ' J' b4 j4 hx ⟨hi30, ⟨o, o', rfl⟩, rfl⟩ σ' H' A5
    rw [rangeD_get] at hx
    split at hx
    · rename_i hi
      cases hx
      have hi2 : i + 1 ≤ c := by omega
      obtain ⟨b1, b2, b3⟩ := hbd i (by omega)
      refine q (st_set A5 (ev_mul (ev_var rfl) (ev_var rfl) (.inl (by omega))) fun σ6 H6 A6 => ?_)
      have e1 : (a : Int) * ((blk a b i).1 : Nat) = ((a * (blk a b i).1 : Nat) : Int) := by rw [Int.natCast_mul]
      have e2 : (b : Int) * (1 + (i : Int)) * ((blk a b i).2 : Nat) + (a : Int) * ((blk a b i).1 : Nat) = ((b * (i + 1) * (blk a b i).2 + a * (blk a b i).1 : Nat) : Int) := by
        rw [Int.natCast_add, Int.natCast_mul, Int.natCast_mul, Int.natCast_mul, Int.natCast_add, Int.add_comm 1 (i : Int)]
        rfl
      have hbi : b * (i + 1) ≤ 99999999900 := Nat.le_trans (Nat.mul_le_mul hb9 (Nat.le_trans hi2 hc)) (by decide)
      have hbi0 : 0 < b * (i + 1) := Nat.mul_pos hb (Nat.succ_pos i)
      have hmul : CMul ((b : Int) * (1 + (i : Int))) ((blk a b i).2 : Nat) := .inl (by
        have e : (b : Int) * (1 + (i : Int)) = ((b * (i + 1) : Nat) : Int) := by rw [Int.natCast_mul, Int.natCast_add, Int.add_comm 1 (i : Int)]; rfl
        rw [e]
        omega)
      have hpos : 0 < b * (i + 1) * (blk a b i).2 + a * (blk a b i).1 := by
        have : 0 < b * (i + 1) * (blk a b i).2 := Nat.mul_pos hbi0 b3
        omega
      have hle : b * (i + 1) * (blk a b i).2 + a * (blk a b i).1 ≤ 2 ^ 5000 := by
        have h1 : b * (i + 1) * (blk a b i).2 ≤ 99999999900 * 2 ^ 900 := Nat.mul_le_mul hbi b2
        have h2 : a * (blk a b i).1 ≤ 1000000 * 2 ^ 900 := Nat.mul_le_mul ha b1
        have h3 : 99999999900 * 2 ^ 900 + 1000000 * 2 ^ 900 ≤ 2 ^ 5000 := by decide +kernel
        exact Nat.le_trans (Nat.add_le_add h1 h2) h3
      refine st_asgG A6 (ev_callD (ea_cons (ev_var rfl) (ea_cons (ev_add (ev_mul (ev_mul (ev_var rfl) (ev_var rfl) (.inl (by omega))) (ev_var rfl) hmul) (ev_var rfl)) ea_nil)) ⟨a * (blk a b i).1, b * (i + 1) * (blk a b i).2 + a * (blk a b i).1, by rw [← e2, ← e1], hpos, hle, rfl⟩)
        (us := [3, 4]) (ρ2 := fun _ => [some (.int a), some (.int b), some (.int c), some (.int (blk a b (i + 1)).1), some (.int (blk a b (i + 1)).2), some (.int (1 + (i : Int))), some (.int ((a : Int) * ((blk a b i).1 : Nat)))]) (fun d' e => by subst e; exact eg_tup (egs_cons eg_name (egs_cons eg_name egs_nil))) fun d' σ7 H7 e A7 => ?_
      exact ⟨_, _, ⟨hi2, ⟨_, _, rfl⟩, rfl⟩, A7⟩
    · cases hx
  · rintro H4 ρ' J' σ' H' b4 j4 ⟨hi30, ⟨o, o', rfl⟩, rfl⟩ A5
    refine st_ret A5 (ev_tup (ea_cons (ev_var rfl) (ea_cons (ev_var rfl) ea_nil))) fun v d' H6 e A6 r => hrt v H6 A6.j.1 ?_
    subst e
    have el : (rangeD 1 ((c : Int) + 1 - 1).toNat).length = c := by rw [rangeD_length]; omega
    rw [el] at r
    exact r
theorem sc_span : FnScope ["separations", "channels", "refusal", "word", "found"] ["separations"] (defScope s_span) := ⟨rfl, rfl, rfl, by decide +kernel, rfl, by decide +kernel, by decide +kernel⟩
theorem ok_span (B : Bi mg) {C0 f g : Addr} {fd gd : FuncData} (F : Fun K "span" "span" s_span f fd) (L_solved : Lk K mg "solved" g gd ["separations", "channels"]) (G_solved : FnOk P w K mg base CX0 160 g gd ["separations", "channels"] (SpS K C0 q0 posS 2 PSolved RSolved)) : FnOk P w K mg base CX0 162 f fd ["separations"] (SpS K C0 q0 posS 1 PSpan RSpan) := by
  have S := sc_span
  refine fn_okS0 (k := 161) F S rfl 4 rfl fun cdv A outer s H E hr => ⟨_, ((pss_cons (ps_set (i := 1) S.nd rfl (by first | exact Or.inl rfl | exact Or.inr rfl) pe_int)
 (pss_cons (ps_set (i := 2) S.nd rfl (by first | exact Or.inl rfl | exact Or.inr rfl) pe_non)
 (pss_one (ps_while PassesOwn.never (pt_val pe_bl)
 (pss_cons (ps_asg (pe_call G_solved (hr.mono (by first | exact Nat.le_refl _ | decide | omega)) (by rfl) L_solved.m L_solved.kp L_solved.bi .nil pass0 (pa_cons (pv 0) (pa_cons (pv 1) pa_nil))) (pg_tup (by rfl) (pgs_cons (pg_name (i := 3) S.nd rfl (by first | exact Or.inl rfl | exact Or.inr rfl)) (pgs_cons (pg_name (i := 4) S.nd rfl (by first | exact Or.inl rfl | exact Or.inr rfl)) pgs_nil))))
 (pss_cons (ps_if (pt_cmpR op_eq (pv 3) pe_str (nomark _))
 (pss_one (ps_ret (pe_tup (pa_cons (pv 1) (pa_cons (pv 4) (pa_cons (pv 2) pa_nil))))))
 pss_nil)
 (pss_cons (ps_set (i := 2) S.nd rfl (by first | exact Or.inl rfl | exact Or.inr rfl) (pv 4))
 (pss_one (ps_aug (i := 1) S.nd rfl (by first | exact Or.inl rfl | exact Or.inr rfl) pe_int ip_add)))))))))), fun φ ds H tb D0 σ hl hP np tj hrt A => ?_⟩
  obtain ⟨n, R, rfl, SG, n11⟩ := hP
  have n0 := SG.n0
  replace A : At K φ (Same H) [some (sepD n R), none, none, none, none] σ H := A
  refine q (st_set (d := .int ((0 : Nat) : Int)) A ev_int fun σ1 H1 A1 => ?_)
  dsimp only
  refine q (st_set A1 ev_non fun σ2 H2 A2 => ?_)
  replace A2 : At K φ (Same H) [some (sepD n R), some (.int ((0 : Nat) : Int)), some .non, none, none] σ2 H2 := A2
  have A3 : At K φ (JF C0 q0 posS H tb) [some (sepD n R), some (.int ((0 : Nat) : Int)), some .non, none, none] σ2 H2 := A2.live (jf_same tj A2.j) (jf_same tj A2.j).mo
  dsimp only
  refine st_while A3 (fun m ρ' J' => ∃ (c : Nat) (ps : Array Value) (o2 : D) (o3 o4 : Option D), m = 200 - c ∧ (c : Int) ≤ 9 * n ∧ (∀ j : Nat, j < c → ¬ CanN n R j) ∧ J' = JF C0 q0 posS H ps ∧ ρ' = [some (sepD n R), some (.int (c : Int)), some o2, o3, o4]) 200 ⟨0, tb, .non, none, none, rfl, by omega, (fun j hj => absurd hj (Nat.not_lt_zero _)), rfl, rfl⟩ ?_
  rintro m ρ' J' ⟨c, ps, o2, o3, o4, rfl, hc, hno, rfl, rfl⟩
  refine ⟨_, et_B (ev_bl (b := true)), fun _ σ4 H4 A4 N hN => ?_, fun z => nomatch z⟩
  refine q (st_callJ (us := [3, 4]) (ρ2 := fun d => match d with | .tup [a, b] => [some (sepD n R), some (.int (c : Int)), some o2, some a, some b] | _ => []) A4 np (ea_cons (ev_var (i := 0) rfl) (ea_cons (ev_var (i := 1) rfl) ea_nil)) ⟨n, (c : Int), R, rfl, SG, by omega, by omega⟩ (fun d hd => ?_) fun d ps' σ6 H6 hd A6 => ?_)
  · rcases hd n (c : Int) R rfl with ⟨ws, rfl, _⟩ | ⟨t, rfl, _⟩
    · exact eg_tup (ds := [.str "assignment", .tup (ws.map D.int)]) (egs_cons eg_name (egs_cons eg_name egs_nil))
    · exact eg_tup (ds := [.str "refusal", t]) (egs_cons eg_name (egs_cons eg_name egs_nil))
  dsimp only
  rcases hd n (c : Int) R rfl with ⟨ws, rfl, _, hk⟩ | ⟨t, rfl, ht⟩
  · replace A6 : At K φ (fun H1 => JF C0 q0 posS H ps' H1 ∧ But φ H2 H1) [some (sepD n R), some (.int (c : Int)), some o2, some (.str "assignment"), some (.tup (ws.map D.int))] σ6 H6 := A6
    refine q (st_yes A6 (et_test (ev_eqS (ev_var (i := 3) rfl) ev_str)) (decide_eq_true rfl) fun H7 A7 => ?_)
    refine st_ret A7 (ev_tup (ea_cons (ev_var (i := 1) rfl) (ea_cons (ev_var (i := 4) rfl) (ea_cons (ev_var (i := 2) rfl) ea_nil)))) fun v d H8 e A8 r => hrt v d ps' H8 (fun n' R' e' => ?_) A8.j.1 r
    obtain ⟨e1, _⟩ := List.cons.inj e'
    obtain ⟨rfl, rfl⟩ := sep_inj e1
    exact ⟨c, ⟨_, hk⟩, hno, by omega, _, _, e⟩
  · replace A6 : At K φ (fun H1 => JF C0 q0 posS H ps' H1 ∧ But φ H2 H1) [some (sepD n R), some (.int (c : Int)), some o2, some (.str "refusal"), some t] σ6 H6 := A6
    have hcan : ¬ CanN n R c := fun ⟨w', hw⟩ => ht.no (fun i => by rw [leastB_self SG i]; exact Int.le_refl _) w' hw fun i a _ _ z => nomatch z
    have hlt : (c : Int) ≠ 9 * n := fun z => by
      have := can_far SG
      rw [← z] at this
      exact hcan this
    refine q (st_no A6 (et_test (ev_eqS (ev_var (i := 3) rfl) ev_str)) (decide_eq_false (by decide +kernel)) fun H7 A7 => st_next (q ?_))
    refine st_set A7 (ev_var (i := 4) rfl) fun σ8 H8 A8 => ?_
    replace A8 : At K φ (fun H1 => JF C0 q0 posS H ps' H1 ∧ But φ H2 H1) [some (sepD n R), some (.int (c : Int)), some t, some (.str "refusal"), some t] σ8 H8 := A8
    dsimp only
    refine st_aug (f := fun i j => i + j) A8 (i := (c : Int)) rfl ev_int fun σ9 H9 A9 => hN (200 - (c + 1)) _ _ (by omega) ⟨_, _, ⟨c + 1, ps', t, _, _, rfl, by omega, fun j hj => ?_, rfl, rfl⟩, A9⟩
    · by_cases z : j < c
      · exact hno j z
      · have : j = c := by omega
        rw [this]
        exact hcan
theorem sc_greedy : FnScope ["separations", "order", "most", "row", "given", "i"] ["separations", "order"] (defScope s_greedy) := ⟨rfl, rfl, rfl, by decide +kernel, rfl, by decide +kernel, by decide +kernel⟩
theorem ok_greedy (B : Bi mg) {f g : Addr} {fd gd : FuncData} (F : Fun K "greedy" "greedy" s_greedy f fd) (L_free_channels : Lk K mg "free_channels" g gd ["separations", "channels", "given", "i"]) (G_free_channels : FnOk P w K mg base CX0 4 g gd ["separations", "channels", "given", "i"] (SpD K 4 RFree)) : FnOk P w K mg base CX0 5 f fd ["separations", "order"] (SpD K 2 RGreedy) := by
  have S := sc_greedy
  refine fn_ok F S rfl 4 rfl fun cdv A outer s H E hr => ⟨_, ((pss_cons (ps_if (pt_cmpR (op_neD hr.units) (pe_callB cr_sortedTI (by rfl) B.sorted (by decide +kernel) (pa_cons (pv 1) pa_nil)) (pe_listRg (by rfl) (by rfl) B.list (prg_1 (by rfl) B.range (pe_ix ix_tup (pv 0) pe_int (fun _ _ => rfl)))) (nomark _))
 (pss_one ps_never)
 pss_nil)
 (pss_cons (ps_set (i := 2) S.nd rfl (by first | exact Or.inl rfl | exact Or.inr rfl) (pe_op op_add pe_int (pe_callB (c_sum rfl) (by rfl) B.sum (by decide +kernel) (pa_cons (pe_lc (own := [("row", 3)]) (g := (gName 3)) (tt := tYes) (by rfl) S.nd (pi_tup (pe_ix ix_tup (pv 0) pe_int (fun _ _ => rfl))) (blkOk_by (N := ["separations", "order", "most", "row", "given", "i"]) (sc := defScope s_greedy) (own := [("row", 3)]) (by decide +kernel)) (fun _ _ _ _ _ => (pg_name (i := 3) S.nd rfl (by first | exact Or.inl rfl | exact Or.inr rfl))) (fun _ _ _ _ _ => pts_nil) (fun _ _ _ _ _ => (pe_op op_mul pe_int (pe_ix (kix_tup (K := K) (by rfl)) (pv 3) pe_int (fun _ _ => rfl))))) pa_nil))))
 (pss_cons (ps_set (i := 4) S.nd rfl (by first | exact Or.inl rfl | exact Or.inr rfl) pe_dnewK)
 (pss_cons (ps_for PassesOwn.never rfl (pi_tup (pv 1)) (pg_name (i := 5) S.nd rfl (by first | exact Or.inl rfl | exact Or.inr rfl))
 (pss_one (ps_dput hr.units1 (pv 4) (pv 5) (pe_ix ix_list (pe_call G_free_channels (hr.mono (by first | exact Nat.le_refl _ | decide | omega)) (by rfl) L_free_channels.m L_free_channels.kp L_free_channels.bi .nil pass0 (pa_cons (pv 0) (pa_cons (pv 2) (pa_cons (pv 4) (pa_cons (pv 5) pa_nil))))) pe_int (fun _ _ => rfl)) rfl)))
 (pss_one (ps_ret (pe_callTy c_tupOf (by rfl) B.tuple (by decide +kernel) (pa_cons (pe_lc (own := [("i", 5)]) (g := (gName 5)) (tt := tYes) (by rfl) S.nd (pi_range1 (by rfl) B.range (pa_cons (pe_ix ix_tup (pv 0) pe_int (fun _ _ => rfl)) pa_nil)) (blkOk_by (N := ["separations", "order", "most", "row", "given", "i"]) (sc := defScope s_greedy) (own := [("i", 5)]) (by decide +kernel)) (fun _ _ _ _ _ => (pg_name (i := 5) S.nd rfl (by first | exact Or.inl rfl | exact Or.inr rfl))) (fun _ _ _ _ _ => pts_nil) (fun _ _ _ _ _ => (pe_dget hr.units1 (pv 4) (pv 5) (fun _ _ => rfl)))) pa_nil))))))))), fun φ ds d H D0 σ hl hR hrt hnx A => ?_⟩
  obtain ⟨n, R, ws, rfl, SG, hsum, hg, rfl⟩ := hR
  have n0 := SG.n0
  have n1 := SG.n1
  replace A : At K φ (Same H) [some (sepD n R), some (.tup (rangeD 0 n.toNat)), none, none, none, none] σ H := A
  have hsort : EvD K φ (Same H) (tCB (rSortedTI K) (tCons (tVar 1) tNil)) [some (sepD n R), some (.tup (rangeD 0 n.toNat)), none, none, none, none] (.lst (rangeD 0 n.toNat)) := by
    rw [rangeD_ints]
    refine (ev_sortedTI (ev_var (i := 1) rfl)).imp fun z ⟨ns', e, hp, hs⟩ => ?_
    rw [e]
    congr 1
    congr 1
    refine List.Perm.eq_of_pairwise (le := (· ≤ ·)) (fun a b _ _ h1 h2 => Int.le_antisymm h1 h2) hs ?_ hp
    rw [List.pairwise_map]
    exact List.pairwise_lt_range.imp fun {a b} h => by show (a : Int) ≤ (b : Int); omega
  have hrg : EvD K φ (Same H) (tLstRg (tRg1 (tOp (rIxT K) (tVar 0) (tC (.int 0))))) [some (sepD n R), some (.tup (rangeD 0 n.toNat)), none, none, none, none] (.lst (rangeD 0 n.toNat)) := (ev_newD (en_listRg1 (ev_sep0 (ev_var (i := 0) rfl)) ⟨by omega, by omega, by omega, by omega, by omega⟩)).is (by rw [Int.sub_zero])
  refine q (st_no (b := false) A ((et_test (ev_neQ hsort hrg (by rw [rangeD_ints]; exact okq_ints) (by rw [rangeD_ints]; exact okq_ints))).is (by rw [eqvD_refl (n := 64) (by rw [rangeD_ints]; exact okq_ints)]; rfl)) rfl fun H1 A1 => st_next (q ?_))
  have hlen : (R.map rowD).length ≤ 1000000 := by
    rw [List.length_map]
    have := SG.len
    omega
  refine st_set (d := .int (1 + sumR R)) A1 ((ev_add ev_int (ev_sum (ns := R.map fun r => 2 * r.2.2) ((ev_lc (k := 3) (f := fun d => match d with | .tup [_, _, .int l] => .int (2 * l) | _ => .non) (it_tup (ev_sep1 (ev_var (i := 0) rfl))) hlen fun e he φ' J' hx => ?_).is ?_)))) fun σ2 H2 A2 => q ?_
  · obtain ⟨r, hr, rfl⟩ := List.mem_map.mp he
    exact ev_mul ev_int (ev_row2 (ev_var rfl)) (.inl (by decide))
  · rw [List.map_map, List.map_map]
    rfl
  replace A2 : At K φ (Same H) [some (sepD n R), some (.tup (rangeD 0 n.toNat)), some (.int (1 + sumR R)), none, none, none] σ2 H2 := A2
  refine st_newS A2 en_dnewK fun l ds0 C J1 σ3 H3 hC N1 L1 A3 => q ?_
  obtain ⟨e, rfl⟩ := hC
  subst e
  have L1' : LivDS K (wo φ l) J1 l (kdsG (gOf ws 0)) := L1
  have sb : Stab l (Same H) := N1.same fun _ h => h
  replace A3 : At K (wo φ l) J1 [some (sepD n R), some (.tup (rangeD 0 n.toNat)), some (.int (1 + sumR R)), none, some (.raw (.ref l)), none] σ3 H3 := A3
  have s0 : 0 ≤ sumR R := by
    have : ∀ R : List Row, (∀ r ∈ R, 0 ≤ r.2.2) → 0 ≤ sumR R := by
      intro R
      induction R with
      | nil => intro _; exact Int.le_refl _
      | cons r R ih =>
        intro h
        have h1 := h r List.mem_cons_self
        have h2 := ih fun x hx => h x (List.mem_cons_of_mem _ hx)
        unfold sumR at h2 ⊢
        rw [List.map_cons, List.sum_cons]
        omega
    exact this R fun r hr => by have := SG.rows r hr; omega
  refine st_for A3 (it_tup (ev_var (i := 1) rfl)) (fun k ρ' J' => ∃ o5, k ≤ n.toNat ∧ LivDS K (wo φ l) J' l (kdsG (gOf ws k)) ∧ (∀ H', J' H' → Same H H') ∧ ρ' = [some (sepD n R), some (.tup (rangeD 0 n.toNat)), some (.int (1 + sumR R)), none, some (.raw (.ref l)), o5]) ⟨none, Nat.zero_le _, L1', fun H' h => N1.ext.imp H' h, rfl⟩ ?_ ?_
  · rintro H4 k x ρ' J' b4 j4 hx ⟨o5, hk, L4, hb, rfl⟩ σ' H' A4
    rw [rangeD_get] at hx
    split at hx
    · rename_i hkn
      cases hx
      rw [show (0 : Int) + (k : Nat) = (k : Int) by omega] at A4
      replace A4 : At K (wo φ l) (fun H => J' H ∧ But (wo φ l) H4 H) [some (sepD n R), some (.tup (rangeD 0 n.toNat)), some (.int (1 + sumR R)), none, some (.raw (.ref l)), some (.int (k : Int))] σ' H' := A4
      have hkl : k < ws.length := by rw [hg.1]; exact hkn
      obtain ⟨w1, w2, w3⟩ := hg.2 k hkl
      have kn : (k : Int) < n := by omega
      have wlt : ws.getD k 0 ≤ sumR R := by
        have := greedy_le SG (ws := ws) (i := k) (m := (ws.getD k 0).toNat) fun ch h0 h1 => w3 ch h0 (by omega)
        omega
      have hfree := free_head (n := n) (c := 1 + sumR R) (R := R) (v := val (gOf ws k)) (i := (k : Int)) w1 (by omega) (fun z => w2 ((conf_blk kn _).mp z)) fun ch h0 h1 => (conf_blk kn ch).mpr (w3 ch h0 h1)
      have hval : valD (kdsG (gOf ws k)) (.inl (k : Int) : Key) = none := by
        rw [valD_kds, gOf_val, if_neg (by omega)]
        rfl
      have hfr : ∀ E' : XK, EvD K (wo φ l) (fun H => J' H ∧ But (wo φ l) H4 H) (tCall (SpD K 4 RFree) [] E' (tCons (tVar 0) (tCons (tVar 2) (tCons (tVar 4) (tCons (tVar 5) tNil))))) [some (sepD n R), some (.tup (rangeD 0 n.toNat)), some (.int (1 + sumR R)), none, some (.raw (.ref l)), some (.int (k : Int))] (.lst ((freeI n R (1 + sumR R) (val (gOf ws k)) (k : Int)).map D.int)) :=
        fun E' => ev_callLD L4.but (ea_cons (ev_var (i := 0) rfl) (ea_cons (ev_var (i := 2) rfl) (ea_cons (ev_var (i := 4) rfl) (ea_cons (ev_var (i := 5) rfl) ea_nil)))) (.same (.same (.here (.same .nil)))) ⟨n, 1 + sumR R, (k : Int), R, gOf ws k, rfl, SG, by omega, by omega, rfl⟩ (narrow_ints _)
      refine st_dputS (k := (.inl (k : Int) : Key)) (P := fun d => d = .int (ws.getD k 0)) A4 L4.but (ev_ixL (hfr _) ev_int (atI_ofNat (i := 0) (by rw [List.getElem?_map, hfree]; rfl))) rfl (ev_var (i := 5) rfl) ?_ fun d J5 H5 hd W5 L5 A5 => ?_
      · unfold kdsG gOf
        rw [List.length_map, List.length_map, List.length_range]
        omega
      · subst hd
        rw [putD_new hval] at L5
        have e5 : kdsG (gOf ws k) ++ [((.inl (k : Int) : Key), D.int (ws.getD k 0))] = kdsG (gOf ws (k + 1)) := by
          rw [gOf_succ]
          unfold kdsG
          rw [List.map_append]
          rfl
        rw [e5] at L5
        exact ⟨_, J5, ⟨_, by omega, L5, W5.base _ (fun H h => hb H h.1) sb, rfl⟩, A5.live ⟨A5.j, W5.base _ (fun H h => h.2) (Stab.but (.inl L1.np)) _ A5.j⟩ (A5.mono.and (Mo.but (W5.base _ (fun H h => h.2) (Stab.but (.inl L1.np)) _ A5.j).tr))⟩
    · cases hx
  · rintro H4 ρ' J' σ' H' b4 j4 ⟨o5, hk, L4, hb, rfl⟩ A4
    rw [rangeD_length] at L4
    have A5 := L4.but.freezeD N1.fr A4 (i := 4) rfl
    replace A5 : At K φ (fun H_1 => (J' H_1 ∧ But (wo φ l) H4 H_1) ∧ But φ H' H_1) [some (sepD n R), some (.tup (rangeD 0 n.toNat)), some (.int (1 + sumR R)), none, some (dictD (kdsG (gOf ws n.toNat))), o5] σ' H' := A5
    dsimp only
    refine st_ret A5 (ev_tupL ((ev_lc (k := 5) (f := fun d => match d with | .int i => .int (ws.getD i.toNat 0) | _ => .non) (it_range1 (ea_cons (ev_sep0 (ev_var (i := 0) rfl)) ea_nil) (by omega)) (by rw [rangeD_length]; omega) fun e he φ' J2 hx => ?_).is ?_)) fun v d H6 e A6 r => hrt v H6 (hb _ A6.j.1.1) (by rw [e] at r; exact r)
    · rw [rangeD_ints] at he
      obtain ⟨i, hi, rfl⟩ := List.mem_map.mp he
      obtain ⟨j, hj, rfl⟩ := List.mem_map.mp hi
      rw [List.mem_range] at hj
      refine ev_dget (k := (.inl (Int.ofNat j) : Key)) (ed_frozen (kds := kdsG (gOf ws n.toNat)) (ev_var rfl)) (ev_var rfl) ?_
      rw [valD_kds, gOf_val, if_pos (by show 0 ≤ (j : Int) ∧ (j : Int) < _; omega)]
      rfl
    · rw [rangeD_ints, List.map_map, List.map_map]
      congr 1
      refine List.ext_getElem? fun i => ?_
      rw [List.getElem?_map, List.getElem?_map]
      by_cases hi : i < n.toNat
      · have hi2 : i < ws.length := by rw [hg.1]; exact hi
        rw [List.getElem?_range hi, List.getElem?_eq_getElem hi2]
        show some (D.int (ws.getD (Int.ofNat i).toNat 0)) = some (D.int (ws[i]'hi2))
        rw [show (Int.ofNat i).toNat = i from rfl, List.getD_eq_getElem?_getD, List.getElem?_eq_getElem hi2]
        rfl
      · rw [List.getElem?_eq_none (by rw [List.length_range]; omega), List.getElem?_eq_none (by rw [hg.1]; omega)]
        rfl
end
end

/-! ### the console: execute -/
section
open TL
def toldV : Option Str → V
  | some s => .str s
  | none => .non
def KeepC (p d C0 : Addr) (H H' : Hp) : Prop := ∀ a o, a ≠ p → a ≠ d → a ≠ C0 → H a = some o → H' a = some o
theorem KeepC.of {p d C0 : Addr} {H H' : Hp} (s : Same H H') : KeepC p d C0 H H' := fun a o _ _ _ e => s a o e
/-- what is asked of a command ahead -/
def PreEx (n : Int) (ws : List Str) : Prop := ∀ c, cmdOf ws = some c → bad n c = false → (c = .span → n ≤ 11) ∧ ∀ a b k, c = .blocking a b k → BlkOk a b k
def SpEx (K : PySem.W.Frag) (C cT C0 : Addr) : Sp := fun vs H Q E => ∃ φ p dx d n ls tb ws wsv, vs = .ref p :: wsv ∧ Reps K φ H [.lst (ws.map D.str)] wsv ∧ Frm φ H ∧ ¬ φ p ∧ ¬ φ d ∧ ¬ φ C0 ∧ ConAt C p dx d n ls H ∧ TabJ C0 q0 tb H ∧ LsOk n ls ∧ ls.length ≤ 50 ∧ WsOk ws ∧ ws ≠ [] ∧ PreEx n ws ∧
  (∀ c o, cmdOf ws = some c → bad n c = false → Tell n ls c o → ∀ H' d' tb', KeepC p d C0 H H' → (d' = d ∨ (H d' = none ∧ H' d = H d)) → ConAt C p dx d' (after n ls c).1 (after n ls c).2 H' → TabJ C0 q0 tb' H' → Q (toldV o) H') ∧
  (rejB n ws = true → ∀ H', Same H H' → E (.ref cT) none H')
theorem can_conv {n : Int} {ls : List Row} (ok : LsOk n ls) (c : Int) : CanN n (rowsOf ls) c ↔ CanN n ls c := by
  constructor
  · rintro ⟨w, h⟩
    exact ⟨w, h.rg, fun i j h1 h2 h3 h4 ne => by rw [← ok.least]; exact h.kp i j h1 h2 h3 h4 ne⟩
  · rintro ⟨w, h⟩
    exact ⟨w, h.rg, fun i j h1 h2 h3 h4 ne => by rw [ok.least]; exact h.kp i j h1 h2 h3 h4 ne⟩
theorem blk_conv {n : Int} {ls : List Row} (ok : LsOk n ls) {ws : List Int} {i : Nat} (ch : Int) : BlkC (rowsOf ls) ws i ch ↔ BlkC ls ws i ch := by
  constructor
  · rintro ⟨j, hj, hb⟩
    exact ⟨j, hj, by rw [← ok.least]; exact hb⟩
  · rintro ⟨j, hj, hb⟩
    exact ⟨j, hj, by rw [ok.least]; exact hb⟩
theorem greedy_conv {n : Int} {ls : List Row} (ok : LsOk n ls) {ws : List Int} (h : GreedyL n (rowsOf ls) ws) : GreedyL n ls ws := ⟨h.1, fun i hi => by
  obtain ⟨a, b, c⟩ := h.2 i hi
  exact ⟨a, fun z => b ((blk_conv ok _).mpr z), fun ch h0 h1 => (blk_conv ok ch).mp (c ch h0 h1)⟩⟩
theorem sumR_le : ∀ {R : List Row}, (∀ r ∈ R, r.2.2 ≤ 9) → sumR R ≤ 18 * (R.length : Int)
  | [], _ => Int.le_refl _
  | r :: R, h => by
    have h1 := h r List.mem_cons_self
    have h2 := sumR_le fun x hx => h x (List.mem_cons_of_mem _ hx)
    unfold sumR at h2 ⊢
    rw [List.map_cons, List.sum_cons, List.length_cons]
    omega
theorem to_of {w : Str} {m : Int} {k : Nat} (h : okNum 9 (tl w) = some k) : toN w m = if m < (k : Int) then none else some k := by
  unfold toN
  rw [h]
theorem to_none {w : Str} {m : Int} (h : okNum 9 (tl w) = none) : toN w m = none := by
  unfold toN
  rw [h]
theorem nums1 {w : Str} : numsOf [w] = (okNum 9 (tl w)).map fun k => [k] := by
  rw [nums_cons]
  cases okNum 9 (tl w) <;> rfl
theorem nums3 {a b c : Str} : numsOf [a, b, c] = match okNum 9 (tl a), okNum 9 (tl b), okNum 9 (tl c) with
    | some i, some j, some k => some [i, j, k]
    | _, _, _ => none := by
  rw [nums_cons, nums_cons, nums1]
  cases okNum 9 (tl a) <;> cases okNum 9 (tl b) <;> cases okNum 9 (tl c) <;> rfl
theorem rej_none {n : Int} {ws : List Str} (h : cmdOf ws = none) : rejB n ws = true := by
  unfold rejB
  rw [h]
theorem rej_bad {n : Int} {ws : List Str} {c : Cmd} (h : cmdOf ws = some c) (hb : bad n c = true) : rejB n ws = true := by
  unfold rejB
  rw [h]
  exact hb
theorem list1 {α : Type} {r : List α} (h : r.length = 1) : ∃ a, r = [a] := by
  match r, h with
  | [a], _ => exact ⟨a, rfl⟩
theorem list3 {α : Type} {r : List α} (h : r.length = 3) : ∃ a b c, r = [a, b, c] := by
  match r, h with
  | [a, b, c], _ => exact ⟨a, b, c, rfl⟩
theorem blk_txt {x y : Nat} (h1 : x ≤ 2 ^ 900) (h2 : y ≤ 2 ^ 900) : (numS (x : Int)).length ≤ 300 ∧ (numS (y : Int)).length ≤ 300 ∧ ((x : Int)).natAbs.log2 < 1920 ∧ ((y : Int)).natAbs.log2 < 1920 :=
  ⟨numS_len (by decide) (Nat.lt_of_le_of_lt h1 (by decide +kernel)), numS_len (by decide) (Nat.lt_of_le_of_lt h2 (by decide +kernel)), log_nat (Nat.lt_of_le_of_lt h1 (by decide +kernel)), log_nat (Nat.lt_of_le_of_lt h2 (by decide +kernel))⟩
theorem cmd_cons (w : Str) (r : List Str) : cmdOf (w :: r) =
    if w = "users" ∧ r.length = 1 then (match numsOf r with
      | some [k] => some (.users k)
      | _ => none)
    else if w = "need" ∧ r.length = 3 then (match numsOf r with
      | some [i, j, l] => some (.need i j l)
      | _ => none)
    else if w = "span" ∧ r.length = 0 then some .span
    else if w = "assign" ∧ r.length = 1 then (match numsOf r with
      | some [c] => some (.assign c)
      | _ => none)
    else if w = "check" ∧ 0 < r.length then (match numsOf r with
      | some (c :: ps) => some (.check c ps)
      | _ => none)
    else if w = "greedy" ∧ r.length = 0 then some .greedy
    else if w = "blocking" ∧ r.length = 3 then (match numsOf r with
      | some [a, b, c] => some (.blocking a b c)
      | _ => none)
    else none := rfl
def suiteAt (st : Stmt) (k : Nat) : List Stmt := match (defBody st)[k]? with
  | some (.If _ b _ _) => b
  | _ => []
/-- what stands where a command is executed -/
structure ExS (CT cT C0 : Addr) (H : Hp) (Q : VK) (E : XK) (φ : Addr → Prop) (p dx d : Addr) (n : Int) (ls : List Row) (tb : Array Value) (w0 : Str) (wr : List Str) : Prop where
  np : ¬ φ p
  nd : ¬ φ d
  nC : ¬ φ C0
  hc : ConAt CT p dx d n ls H
  tj : TabJ C0 q0 tb H
  ok : LsOk n ls
  hl : ls.length ≤ 50
  W : WsOk (w0 :: wr)
  pre : PreEx n (w0 :: wr)
  hyes : ∀ c o, cmdOf (w0 :: wr) = some c → bad n c = false → Tell n ls c o → ∀ H' d' tb', KeepC p d C0 H H' → (d' = d ∨ (H d' = none ∧ H' d = H d)) → ConAt CT p dx d' (after n ls c).1 (after n ls c).2 H' → TabJ C0 q0 tb' H' → Q (toldV o) H'
  hno : rejB n (w0 :: wr) = true → ∀ H', Same H H' → E (.ref cT) none H'
abbrev ρE (p : Addr) (w0 : Str) (wr : List Str) : List (Option D) := [some (.raw (.ref p)), some (.lst ((w0 :: wr).map D.str)), some (.str w0), none, none, none, none, none, none, none]
section
variable {K : PySem.W.Frag} {CT cT C0 : Addr} {H : Hp} {Q : VK} {E : XK} {φ : Addr → Prop} {p dx d : Addr} {n : Int} {ls : List Row} {tb : Array Value} {w0 : Str} {wr : List Str}
theorem ExS.pC (X : ExS CT cT C0 H Q E φ p dx d n ls tb w0 wr) : p ≠ C0 := fun z => by
  have := X.tj.1
  rw [← z, X.hc.hp] at this
  cases this
theorem ExS.dC (X : ExS CT cT C0 H Q E φ p dx d n ls tb w0 wr) : d ≠ C0 := fun z => by
  have := X.tj.1
  rw [← z, X.hc.hd] at this
  cases this
theorem ExS.okw (X : ExS CT cT C0 H Q E φ p dx d n ls tb w0 wr) {i : Nat} {x : Str} (h : (w0 :: wr)[i]? = some x) : x.length ≤ 1000000 ∧ asc (tl x) := X.W.2 _ (List.mem_of_getElem? h)
theorem ev_wx {J : Hp → Prop} {o : List (Option D)} {i : Nat} {x : Str} (h : (w0 :: wr)[i]? = some x) : EvD K φ J (tOp (rIxL K) (tVar 1) (tC (.int (i : Int)))) (some (.raw (.ref p)) :: some (.lst ((w0 :: wr).map D.str)) :: o) (.str x) := ev_ixL (ev_var (i := 1) rfl) ev_int (atI_ofNat (by rw [List.getElem?_map, h]; rfl))
theorem ExS.stay (X : ExS CT cT C0 H Q E φ p dx d n ls tb w0 wr) {c : Cmd} {o : Option Str} {H' : Hp} (h1 : cmdOf (w0 :: wr) = some c) (h2 : bad n c = false) (h3 : Tell n ls c o) (h4 : after n ls c = (n, ls)) (s : Same H H') : Q (toldV o) H' := X.hyes c o h1 h2 h3 H' d tb (KeepC.of s) (.inl rfl) (by rw [h4]; exact X.hc.same s) (X.tj.same s)
end
section
variable {P : Program} {w : World} {K : PySem.W.Frag} {mg : Str → Option Value} {base : Heap}
theorem sc_Console_execute : FnScope ["self", "words", "word", "found", "given", "channel", "a", "b", "p", "q"] ["self", "words"] (defScope s_Console_execute) := ⟨rfl, rfl, rfl, by decide +kernel, rfl, by decide +kernel, by decide +kernel⟩
variable {CT cT C0 f : Addr} {A : Around} {outer : List Env} {s : Shared} {H : Hp} {E : XK} {cdv : Value}
abbrev cxE (P : Program) (w : World) (K : PySem.W.Frag) (mg : Str → Option Value) (base : Heap) (f : Addr) (cdv : Value) (A : Around) (outer : List Env) (s : Shared) (H : Hp) (E : XK) : Cx := cxOf (L2N.CX P w) P w K mg base ["self", "words", "word", "found", "given", "channel", "a", "b", "p", "q"] "Console.execute" (defScope s_Console_execute) f cdv A outer s H E
theorem ex_users (B : Bi mg) (C : Cs mg) (T_Console : TConsole K mg CT) (X_InvalidText : ExC K mg "InvalidText" cT) {g2 : Addr} {gd2 : FuncData} (L_number_to : Lk K mg "number_to" g2 gd2 ["word", "most"]) (G_number_to : FnOk P w K mg base (L2N.CX P w) 2 g2 gd2 ["word", "most"] (SpX K 2 (RTo cT))) (hr : Room 162 (A.deeper (envOfC "Console.execute" (defScope s_Console_execute) s.heap.objs.size f cdv))) :
    ∃ t, PSs (cxE P w K mg base f cdv A outer s H E) (suiteAt s_Console_execute 1) t ∧ ∀ (Q : VK) (φ : Addr → Prop) (p dx d : Addr) (n : Int) (ls : List Row) (tb : Array Value) (w0 : Str) (wr : List Str) (nx bk ct : L2.St → Hp → Prop) (σ1 : L2.St) (H2 : Hp), ExS CT cT C0 H Q E φ p dx d n ls tb w0 wr → w0 = "users" ∧ wr.length = 1 → cmdOf (w0 :: wr) = (match numsOf wr with | some [k] => some (.users k) | _ => none) → At K φ (Same H) (ρE p w0 wr) σ1 H2 → t ⟨nx, Q, bk, ct⟩ σ1 H2 := by
  have S := sc_Console_execute
  refine ⟨_, ((pss_cons (ps_fld (pv 0) (pe_callS G_number_to (hr.mono (by first | exact Nat.le_refl _ | decide | omega)) (by rfl) L_number_to.m L_number_to.kp L_number_to.bi (fun σ => L2N.passAt (L2N.takes_of rfl rfl rfl rfl) σ) (pa_cons (pe_ix ix_list (pv 1) pe_int (fun _ _ => rfl)) (pa_cons (pe_cst C.MOST_USERS) pa_nil))) rfl)
 (pss_cons (ps_fld (pv 0) pe_dnewT rfl)
 (pss_one (ps_ret pe_non))))), fun Q φ p dx d n ls tb w0 wr nx bk ct σ1 H2 XS hbt hcm A2 => ?_⟩
  have pC := XS.pC
  have dC := XS.dC
  have stay : ∀ {c o H'}, cmdOf (w0 :: wr) = some c → bad n c = false → Tell n ls c o → after n ls c = (n, ls) → Same H H' → Q (toldV o) H' := fun h1 h2 h3 h4 s => XS.stay h1 h2 h3 h4 s
  have okw : ∀ {i : Nat} {x : Str}, (w0 :: wr)[i]? = some x → x.length ≤ 1000000 ∧ asc (tl x) := fun h => XS.okw h
  obtain ⟨np, nd, nC, hc, tj, ok, hl, W, pre, hyes, hno⟩ := XS
  have SG := ok.sep (by omega)
  have hJ : ∀ H', Same H H' → ConAt CT p dx d n ls H' := fun H' s => hc.same s
  obtain ⟨rfl, hl1⟩ := hbt
  obtain ⟨w1, rfl⟩ := list1 hl1
  have ok1 := okw (i := 1) (x := w1) rfl
  rw [nums1] at hcm
  cases e1 : okNum 9 (tl w1) with
  | none =>
    rw [e1] at hcm
    refine q ?_
    unfold sFld
    exact (to_no (ev_wx (i := 1) rfl) ev_int ok1.1 ok1.2 (to_none e1)) _ _ A2 (fun H' b A' => hno (rej_none hcm) H' A'.j) _
  | some k =>
    rw [e1] at hcm
    have hcm : cmdOf [("users" : Str), w1] = some (.users k) := hcm
    by_cases hk : 24 < k
    · refine q ?_
      unfold sFld
      exact (to_no (ev_wx (i := 1) rfl) ev_int ok1.1 ok1.2 (by rw [to_of e1, if_pos (by omega)])) _ _ A2 (fun H' b A' => hno (rej_bad hcm (decide_eq_true hk)) H' A'.j) _
    · refine q ?_
      unfold sFld
      refine (to_rd (n := k) (ev_wx (i := 1) rfl) ev_int ok1.1 ok1.2 (by rw [to_of e1, if_neg (by omega)])) _ _ A2 _ fun v d3 H3 b3 A3 e r3 => ?_
      subst e
      cases (show v = _ from r3)
      have c3 := hJ _ A3.j
      obtain ⟨u, eu, ru⟩ := A3.sr.2 0 _ rfl
      cases (show u = _ from ru)
      refine ⟨_, eu, p, CT, dx, _, rfl, c3.hp, T_Console.cl, T_Console.n_count, (by show 2 < 1000; decide), q ?_⟩
      intro d' hd'
      have d'p : d' ≠ p := by
        rintro rfl
        rw [upd_same] at hd'
        cases hd'
      have hd3 : H3 d' = none := by
        rw [upd_ne d'p] at hd'
        exact hd'
      have hdH : H d' = none := by
        cases z : H d' with
        | none => rfl
        | some u =>
          rw [A3.j _ _ z] at hd3
          cases hd3
      refine ⟨_, eu, p, CT, dx, _, rfl, (upd_ne d'p.symm).trans upd_same, T_Console.cl, T_Console.n_needs, (by show 2 < 1000; decide), ?_⟩
      refine hyes (.users k) none hcm (decide_eq_false hk) rfl _ d' tb (fun a o na nad naC e => ?_) (.inr ⟨hdH, ?_⟩) ⟨?_, ?_⟩ ⟨?_, tj.2.1, fun pos cv hcv => ?_⟩
      · have nad' : a ≠ d' := ne_of_none e hdH
        rw [upd_ne na, upd_ne nad', upd_ne na]
        exact A3.j _ _ e
      · rw [upd_ne hc.ne.symm, upd_ne (ne_of_none hc.hd hdH), upd_ne hc.ne.symm]
        exact (A3.j _ _ hc.hd).trans hc.hd.symm
      · rw [upd_same]
        rfl
      · rw [upd_ne d'p, upd_same]
        rfl
      · rw [upd_ne pC.symm, upd_ne (ne_of_none tj.1 hdH), upd_ne pC.symm]
        exact A3.j _ _ tj.1
      · obtain ⟨c, ec, hc1⟩ := tj.2.2 pos cv hcv
        refine ⟨c, ec, ?_⟩
        have cp : c ≠ p := fun z => by
          rw [z, hc.hp] at hc1
          cases hc1
        rw [upd_ne cp, upd_ne (ne_of_none hc1 hdH), upd_ne cp]
        exact A3.j _ _ hc1
theorem ex_need (B : Bi mg) (C : Cs mg) (T_Console : TConsole K mg CT) (X_InvalidText : ExC K mg "InvalidText" cT) {g4 : Addr} {gd4 : FuncData} (L_Console_set_need : LkM K CT "set_need" g4 gd4 ["self", "words"]) (G_Console_set_need : FnOk P w K mg base (L2N.CX P w) 3 g4 gd4 ["self", "words"] (SpSet K CT cT)) (hr : Room 162 (A.deeper (envOfC "Console.execute" (defScope s_Console_execute) s.heap.objs.size f cdv))) :
    ∃ t, PSs (cxE P w K mg base f cdv A outer s H E) (suiteAt s_Console_execute 2) t ∧ ∀ (Q : VK) (φ : Addr → Prop) (p dx d : Addr) (n : Int) (ls : List Row) (tb : Array Value) (w0 : Str) (wr : List Str) (nx bk ct : L2.St → Hp → Prop) (σ1 : L2.St) (H3 : Hp), ExS CT cT C0 H Q E φ p dx d n ls tb w0 wr → w0 = "need" ∧ wr.length = 3 → cmdOf (w0 :: wr) = (match numsOf wr with | some [i, j, l] => some (.need i j l) | _ => none) → At K φ (Same H) (ρE p w0 wr) σ1 H3 → t ⟨nx, Q, bk, ct⟩ σ1 H3 := by
  have S := sc_Console_execute
  refine ⟨_, ((pss_cons (ps_expr (pe_methX (pv 0) T_Console.cl L_Console_set_need.me G_Console_set_need (hr.mono (by first | exact Nat.le_refl _ | decide | omega)) L_Console_set_need.bi (fun σ => L2N.passAt (L2N.takes_of rfl rfl rfl rfl) σ) (pa_cons (pe_slice sl_list (pv 1) (po_some pe_int) po_none) pa_nil)))
 (pss_one (ps_ret pe_non)))), fun Q φ p dx d n ls tb w0 wr nx bk ct σ1 H3 XS hbt hcm A3 => ?_⟩
  have pC := XS.pC
  have dC := XS.dC
  have stay : ∀ {c o H'}, cmdOf (w0 :: wr) = some c → bad n c = false → Tell n ls c o → after n ls c = (n, ls) → Same H H' → Q (toldV o) H' := fun h1 h2 h3 h4 s => XS.stay h1 h2 h3 h4 s
  have okw : ∀ {i : Nat} {x : Str}, (w0 :: wr)[i]? = some x → x.length ≤ 1000000 ∧ asc (tl x) := fun h => XS.okw h
  obtain ⟨np, nd, nC, hc, tj, ok, hl, W, pre, hyes, hno⟩ := XS
  have SG := ok.sep (by omega)
  have hJ : ∀ H', Same H H' → ConAt CT p dx d n ls H' := fun H' s => hc.same s
  obtain ⟨rfl, hl3⟩ := hbt
  obtain ⟨w1, w2, w3, rfl⟩ := list3 hl3
  rw [nums3] at hcm
  have c3 := hJ _ A3.j
  obtain ⟨u, eu, ru⟩ := A3.sr.2 0 _ rfl
  cases (show u = _ from ru)
  refine q ⟨_, eu, p, dx, _, rfl, c3.hp, no_attr (by decide +kernel) (by decide +kernel), ?_⟩
  refine (ea_cons (x := .lst ([w1, w2, w3].map D.str)) ((ev_slL (ev_var (i := 1) rfl) (eo_some ev_int) eo_none).is (by rw [cutD_lo (by decide)]; rfl)) ea_nil : EvAD K φ (Same H) _ _ _) _ H3 A3 _ fun vs ds' H4 b4 A4 e r4 => ?_
  subst e
  have c4 := hJ _ A4.j
  refine ⟨φ, p, dx, d, n, ls, w1, w2, w3, vs, rfl, r4, A4.fr, nd, c4, ok, by omega, ⟨Nat.le_of_ble_eq_true rfl, fun x hx => W.2 x (List.mem_cons_of_mem _ hx)⟩, fun i j l e1 e2 e3 ne H5 k5 hd5 => ?_, fun hbad H5 s5 => ?_⟩
  · have g1 : okNum 9 (tl w1) = some i ∧ (i : Int) ≤ n - 1 := by
      unfold toN at e1
      cases z : okNum 9 (tl w1) with
      | none => rw [z] at e1; cases e1
      | some m =>
        rw [z] at e1
        by_cases hm : n - 1 < (m : Int)
        · dsimp only at e1; rw [if_pos hm] at e1; cases e1
        · dsimp only at e1; rw [if_neg hm] at e1; cases e1; exact ⟨rfl, by omega⟩
    have g2 : okNum 9 (tl w2) = some j ∧ (j : Int) ≤ n - 1 := by
      unfold toN at e2
      cases z : okNum 9 (tl w2) with
      | none => rw [z] at e2; cases e2
      | some m =>
        rw [z] at e2
        by_cases hm : n - 1 < (m : Int)
        · dsimp only at e2; rw [if_pos hm] at e2; cases e2
        · dsimp only at e2; rw [if_neg hm] at e2; cases e2; exact ⟨rfl, by omega⟩
    have g3 : okNum 9 (tl w3) = some l ∧ l ≤ 9 := by
      unfold toN at e3
      cases z : okNum 9 (tl w3) with
      | none => rw [z] at e3; cases e3
      | some m =>
        rw [z] at e3
        by_cases hm : (9 : Int) < (m : Int)
        · dsimp only at e3; rw [if_pos hm] at e3; cases e3
        · dsimp only at e3; rw [if_neg hm] at e3; cases e3; exact ⟨rfl, by omega⟩
    rw [g1.1, g2.1, g3.1] at hcm
    have hcm : cmdOf [("need" : Str), w1, w2, w3] = some (.need i j l) := hcm
    have hbd : bad n (.need i j l) = false := by
      show ((decide (n - 1 < (i : Int)) || decide (n - 1 < (j : Int))) || (decide (9 < l) || decide (i = j))) = false
      rw [decide_eq_false (show ¬ n - 1 < (i : Int) by omega), decide_eq_false (show ¬ n - 1 < (j : Int) by omega), decide_eq_false (show ¬ 9 < l by omega), decide_eq_false ne]
      rfl
    refine hyes (.need i j l) none hcm hbd rfl H5 d tb (fun a o na nad naC e => k5 a o nad (A4.j _ _ e)) (.inl rfl) ⟨k5 p _ hc.ne c4.hp, hd5⟩ ⟨k5 _ _ dC.symm (A4.j _ _ tj.1), tj.2.1, fun pos cv hcv => ?_⟩
    obtain ⟨c, ec, hc1⟩ := tj.2.2 pos cv hcv
    refine ⟨c, ec, k5 c _ (fun z => ?_) (A4.j _ _ hc1)⟩
    rw [z, hc.hd] at hc1
    cases hc1
  · refine hno ?_ H5 (fun a o e => s5 a o (A4.j a o e))
    cases z1 : okNum 9 (tl w1) with
    | none => rw [z1] at hcm; exact rej_none hcm
    | some i =>
      cases z2 : okNum 9 (tl w2) with
      | none => rw [z1, z2] at hcm; exact rej_none hcm
      | some j =>
        cases z3 : okNum 9 (tl w3) with
        | none => rw [z1, z2, z3] at hcm; exact rej_none hcm
        | some l =>
          rw [z1, z2, z3] at hcm
          refine rej_bad hcm ?_
          show ((decide (n - 1 < (i : Int)) || decide (n - 1 < (j : Int))) || (decide (9 < l) || decide (i = j))) = true
          rw [to_of z1, to_of z2, to_of z3] at hbad
          by_cases a1 : n - 1 < (i : Int)
          · rw [decide_eq_true a1]; rfl
          · by_cases a2 : n - 1 < (j : Int)
            · rw [decide_eq_true a2, Bool.or_true]; rfl
            · by_cases a3 : (9 : Int) < (l : Int)
              · rw [decide_eq_true (show 9 < l by omega), Bool.true_or, Bool.or_true]
              · rw [if_neg a1, if_neg a2, if_neg a3] at hbad
                rcases hbad with z | z | z | z
                · cases z
                · cases z
                · cases z
                · cases z
                  rw [decide_eq_true rfl, Bool.or_true, Bool.or_true]
theorem ex_span (B : Bi mg) (C : Cs mg) (T_Console : TConsole K mg CT) (X_InvalidText : ExC K mg "InvalidText" cT) {g3 : Addr} {gd3 : FuncData} (L_Console_separations : LkM K CT "separations" g3 gd3 ["self"]) (G_Console_separations : FnOk P w K mg base CX0 1 g3 gd3 ["self"] (SpSep K CT)) {g6 : Addr} {gd6 : FuncData} (L_span : Lk K mg "span" g6 gd6 ["separations"]) (G_span : FnOk P w K mg base CX0 162 g6 gd6 ["separations"] (SpS K C0 q0 posS 1 PSpan RSpan)) (hr : Room 162 (A.deeper (envOfC "Console.execute" (defScope s_Console_execute) s.heap.objs.size f cdv))) :
    ∃ t, PSs (cxE P w K mg base f cdv A outer s H E) (suiteAt s_Console_execute 3) t ∧ ∀ (Q : VK) (φ : Addr → Prop) (p dx d : Addr) (n : Int) (ls : List Row) (tb : Array Value) (w0 : Str) (wr : List Str) (nx bk ct : L2.St → Hp → Prop) (σ1 : L2.St) (H4 : Hp), ExS CT cT C0 H Q E φ p dx d n ls tb w0 wr → w0 = "span" ∧ wr.length = 0 → cmdOf (w0 :: wr) = (some .span) → At K φ (Same H) (ρE p w0 wr) σ1 H4 → t ⟨nx, Q, bk, ct⟩ σ1 H4 := by
  have S := sc_Console_execute
  refine ⟨_, ((pss_one (ps_ret (pe_joined (PJ.cons pe_str (PJ.cons (pe_fmt (pe_ix ix_tup (pe_call G_span (hr.mono (by first | exact Nat.le_refl _ | decide | omega)) (by rfl) L_span.m L_span.kp L_span.bi .nil pass0 (pa_cons (pe_meth0 (pv 0) T_Console.cl L_Console_separations.me G_Console_separations (hr.mono (by first | exact Nat.le_refl _ | decide | omega)) L_Console_separations.bi .nil pass0 ) pa_nil)) pe_int (fun _ _ => rfl))) PJ.nil)))))), fun Q φ p dx d n ls tb w0 wr nx bk ct σ1 H4 XS hbt hcm A4 => ?_⟩
  have pC := XS.pC
  have dC := XS.dC
  have stay : ∀ {c o H'}, cmdOf (w0 :: wr) = some c → bad n c = false → Tell n ls c o → after n ls c = (n, ls) → Same H H' → Q (toldV o) H' := fun h1 h2 h3 h4 s => XS.stay h1 h2 h3 h4 s
  have okw : ∀ {i : Nat} {x : Str}, (w0 :: wr)[i]? = some x → x.length ≤ 1000000 ∧ asc (tl x) := fun h => XS.okw h
  obtain ⟨np, nd, nC, hc, tj, ok, hl, W, pre, hyes, hno⟩ := XS
  have SG := ok.sep (by omega)
  have hJ : ∀ H', Same H H' → ConAt CT p dx d n ls H' := fun H' s => hc.same s
  obtain ⟨rfl, hl0⟩ := hbt
  have n11 := (pre .span hcm rfl).1 rfl
  refine ⟨("span " : Str), rfl, sz (by decide +kernel), ?_⟩
  unfold tJs tFmt tOp tCall
  dsimp only
  refine (ea_cons (ev_sep hJ nd ok (by omega) (k := 0) rfl) ea_nil : EvAD K φ (Same H) _ _ [sepD n (rowsOf ls)]) _ H4 A4 _ fun vs ds' H5 b5 A5 e r5 => ?_
  subst e
  refine ⟨φ, _, tb, rfl, by rw [List.append_nil]; exact r5, A5.fr, nC, tj.same A5.j, ⟨n, rowsOf ls, rfl, SG, n11⟩, fun v d6 ps' H6 rd j r6 => ?_⟩
  obtain ⟨k, k1, k2, k99, x, y, rfl⟩ := rd n (rowsOf ls) rfl
  obtain ⟨a, xs, rfl, pt, rs⟩ := rep_tup r6
  obtain ⟨v1, xs', rfl, r1, _⟩ := (show ∃ v1 xs', xs = v1 :: xs' ∧ Rep K φ H6 (.int (k : Int)) v1 ∧ Reps K φ H6 [x, y] xs' from rs)
  cases (show v1 = _ from r1)
  have k9 : k < 10 ^ 9 := by omega
  have s8 := numS_len (by decide) k9
  have l5 : ("span " : Str).length = 5 := by decide +kernel
  refine ⟨a, _, 0, .int (k : Int), rfl, rfl, pt.sq, atI_ofNat (i := 0) rfl, .inr ⟨(k : Int), rfl, log_nat (nat9 k9), numS (k : Int), rfl, sz ?_, ?_⟩⟩
  · rw [empty_app, len_app]
    omega
  · show Q (.str (Str.empty ++ "span " ++ numS (k : Int))) H6
    rw [empty_app]
    have kp : ∀ a o, a ≠ C0 → H a = some o → H6 a = some o := fun a o na e => j.1 a o na (A5.j a o e)
    exact hyes .span (some ("span " ++ numS (k : Int))) hcm rfl ⟨k, (can_conv ok _).mp k1, fun j hj z => k2 j hj ((can_conv ok _).mpr z), rfl⟩ H6 d ps' (fun a o _ _ naC e => kp a o naC e) (.inl rfl) ⟨kp _ _ pC hc.hp, kp _ _ dC hc.hd⟩ j.2.1
theorem ex_assign (B : Bi mg) (C : Cs mg) (T_Console : TConsole K mg CT) (X_InvalidText : ExC K mg "InvalidText" cT) {g3 : Addr} {gd3 : FuncData} (L_Console_separations : LkM K CT "separations" g3 gd3 ["self"]) (G_Console_separations : FnOk P w K mg base CX0 1 g3 gd3 ["self"] (SpSep K CT)) {g2 : Addr} {gd2 : FuncData} (L_number_to : Lk K mg "number_to" g2 gd2 ["word", "most"]) (G_number_to : FnOk P w K mg base (L2N.CX P w) 2 g2 gd2 ["word", "most"] (SpX K 2 (RTo cT))) {g7 : Addr} {gd7 : FuncData} (L_solved : Lk K mg "solved" g7 gd7 ["separations", "channels"]) (G_solved : FnOk P w K mg base CX0 160 g7 gd7 ["separations", "channels"] (SpS K C0 q0 posS 2 PSolved RSolved)) (hr : Room 162 (A.deeper (envOfC "Console.execute" (defScope s_Console_execute) s.heap.objs.size f cdv))) :
    ∃ t, PSs (cxE P w K mg base f cdv A outer s H E) (suiteAt s_Console_execute 4) t ∧ ∀ (Q : VK) (φ : Addr → Prop) (p dx d : Addr) (n : Int) (ls : List Row) (tb : Array Value) (w0 : Str) (wr : List Str) (nx bk ct : L2.St → Hp → Prop) (σ1 : L2.St) (H5 : Hp), ExS CT cT C0 H Q E φ p dx d n ls tb w0 wr → w0 = "assign" ∧ wr.length = 1 → cmdOf (w0 :: wr) = (match numsOf wr with | some [c] => some (.assign c) | _ => none) → At K φ (Same H) (ρE p w0 wr) σ1 H5 → t ⟨nx, Q, bk, ct⟩ σ1 H5 := by
  have S := sc_Console_execute
  refine ⟨_, ((pss_cons (ps_set (i := 3) S.nd rfl (by first | exact Or.inl rfl | exact Or.inr rfl) (pe_call G_solved (hr.mono (by first | exact Nat.le_refl _ | decide | omega)) (by rfl) L_solved.m L_solved.kp L_solved.bi .nil pass0 (pa_cons (pe_meth0 (pv 0) T_Console.cl L_Console_separations.me G_Console_separations (hr.mono (by first | exact Nat.le_refl _ | decide | omega)) L_Console_separations.bi .nil pass0 ) (pa_cons (pe_callS G_number_to (hr.mono (by first | exact Nat.le_refl _ | decide | omega)) (by rfl) L_number_to.m L_number_to.kp L_number_to.bi (fun σ => L2N.passAt (L2N.takes_of rfl rfl rfl rfl) σ) (pa_cons (pe_ix ix_list (pv 1) pe_int (fun _ _ => rfl)) (pa_cons (pe_cst C.MOST_ASSIGN) pa_nil))) pa_nil))))
 (pss_one (ps_ret (pe_ifExp (pt_cmpR op_eq (pe_ix ix_tup (pv 3) pe_int (fun _ _ => rfl)) pe_str (nomark _)) pe_str pe_str))))), fun Q φ p dx d n ls tb w0 wr nx bk ct σ1 H5 XS hbt hcm A5 => ?_⟩
  have pC := XS.pC
  have dC := XS.dC
  have stay : ∀ {c o H'}, cmdOf (w0 :: wr) = some c → bad n c = false → Tell n ls c o → after n ls c = (n, ls) → Same H H' → Q (toldV o) H' := fun h1 h2 h3 h4 s => XS.stay h1 h2 h3 h4 s
  have okw : ∀ {i : Nat} {x : Str}, (w0 :: wr)[i]? = some x → x.length ≤ 1000000 ∧ asc (tl x) := fun h => XS.okw h
  obtain ⟨np, nd, nC, hc, tj, ok, hl, W, pre, hyes, hno⟩ := XS
  have SG := ok.sep (by omega)
  have hJ : ∀ H', Same H H' → ConAt CT p dx d n ls H' := fun H' s => hc.same s
  obtain ⟨rfl, hl1⟩ := hbt
  obtain ⟨w1, rfl⟩ := list1 hl1
  have ok1 := okw (i := 1) (x := w1) rfl
  rw [nums1] at hcm
  cases e1 : okNum 9 (tl w1) with
  | none =>
    rw [e1] at hcm
    refine q ?_
    unfold tAsg tCall tCons
    refine (ev_sep hJ nd ok (by omega) (k := 0) rfl) _ H5 A5 _ fun v d6 H6 b6 A6 e r6 => ?_
    exact (to_no (ev_wx (i := 1) rfl) ev_int ok1.1 ok1.2 (to_none e1)) _ _ A6 (fun H' b A' => hno (rej_none hcm) H' A'.j) _
  | some k =>
    rw [e1] at hcm
    have hcm : cmdOf [("assign" : Str), w1] = some (.assign k) := hcm
    by_cases hk : 40 < k
    · refine q ?_
      unfold tAsg tCall tCons
      refine (ev_sep hJ nd ok (by omega) (k := 0) rfl) _ H5 A5 _ fun v d6 H6 b6 A6 e r6 => ?_
      exact (to_no (ev_wx (i := 1) rfl) ev_int ok1.1 ok1.2 (by rw [to_of e1, if_pos (by omega)])) _ _ A6 (fun H' b A' => hno (rej_bad hcm (decide_eq_true hk)) H' A'.j) _
    · refine q (st_callS (us := [3]) (ρ2 := fun d => [some (.raw (.ref p)), some (.lst ([("assign" : Str), w1].map D.str)), some (.str "assign"), some d, none, none, none, none, none, none]) A5 nC tj (ea_cons (ev_sep hJ nd ok (by omega) (k := 0) rfl) (ea_cons (to_rd (n := k) (ev_wx (i := 1) rfl) ev_int ok1.1 ok1.2 (by rw [to_of e1, if_neg (by omega)])) ea_nil)) ⟨n, (k : Int), rowsOf ls, rfl, SG, by omega, by omega⟩ (fun d hd => eg_name) fun d6 ps' σ6 H6 hd A6 => ?_)
      have fin : ∀ {H' o}, JF C0 q0 posS H ps' H' → Tell n ls (.assign k) o → Q (toldV o) H' := fun {H' o} j ht => by
        have kp : ∀ a o, a ≠ C0 → H a = some o → H' a = some o := fun a o na e => j.1 a o na e
        exact hyes (.assign k) o hcm (decide_eq_false hk) ht H' d ps' (fun a o _ _ naC e => kp a o naC e) (.inl rfl) ⟨kp _ _ pC hc.hp, kp _ _ dC hc.hd⟩ j.2.1
      dsimp only
      rcases hd n (k : Int) (rowsOf ls) rfl with ⟨xs, rfl, _, hk2⟩ | ⟨t, rfl, ht⟩
      · refine st_ret (P := fun z => z = .str "yes") A6 (ev_if (et_test (ev_eqS (ev_ixT (d := .str "assignment") (ev_var (i := 3) rfl) ev_int rfl) ev_str)) (fun _ => ev_str) fun z => ?_) fun v d7 H7 e A7 r7 => ?_
        · rw [decide_eq_true rfl] at z
          cases z
        · rw [e] at r7
          cases (show v = _ from r7)
          exact fin A7.j (.inl ⟨(can_conv ok _).mp ⟨_, hk2⟩, rfl⟩)
      · refine st_ret (P := fun z => z = .str "no") A6 (ev_if (et_test (ev_eqS (ev_ixT (d := .str "refusal") (ev_var (i := 3) rfl) ev_int rfl) ev_str)) (fun z => ?_) fun _ => ev_str) fun v d7 H7 e A7 r7 => ?_
        · exact absurd (of_decide_eq_true z.symm) (by decide +kernel)
        · rw [e] at r7
          cases (show v = _ from r7)
          refine fin A7.j (.inr ⟨fun z => ?_, rfl⟩)
          obtain ⟨w', hw⟩ := (can_conv ok _).mpr z
          exact ht.no (fun i => by rw [leastB_self SG i]; exact Int.le_refl _) w' hw fun i a _ _ z => nomatch z
theorem ex_check (B : Bi mg) (C : Cs mg) (T_Console : TConsole K mg CT) (X_InvalidText : ExC K mg "InvalidText" cT) {g5 : Addr} {gd5 : FuncData} (L_Console_check : LkM K CT "check" g5 gd5 ["self", "words"]) (G_Console_check : FnOk P w K mg base (L2N.CX P w) 3 g5 gd5 ["self", "words"] (SpChk K CT cT)) (hr : Room 162 (A.deeper (envOfC "Console.execute" (defScope s_Console_execute) s.heap.objs.size f cdv))) :
    ∃ t, PSs (cxE P w K mg base f cdv A outer s H E) (suiteAt s_Console_execute 5) t ∧ ∀ (Q : VK) (φ : Addr → Prop) (p dx d : Addr) (n : Int) (ls : List Row) (tb : Array Value) (w0 : Str) (wr : List Str) (nx bk ct : L2.St → Hp → Prop) (σ1 : L2.St) (H6 : Hp), ExS CT cT C0 H Q E φ p dx d n ls tb w0 wr → w0 = "check" ∧ 0 < wr.length → cmdOf (w0 :: wr) = (match numsOf wr with | some (c :: ps) => some (.check c ps) | _ => none) → At K φ (Same H) (ρE p w0 wr) σ1 H6 → t ⟨nx, Q, bk, ct⟩ σ1 H6 := by
  have S := sc_Console_execute
  refine ⟨_, ((pss_one (ps_ret (pe_methX (pv 0) T_Console.cl L_Console_check.me G_Console_check (hr.mono (by first | exact Nat.le_refl _ | decide | omega)) L_Console_check.bi (fun σ => L2N.passAt (L2N.takes_of rfl rfl rfl rfl) σ) (pa_cons (pe_slice sl_list (pv 1) (po_some pe_int) po_none) pa_nil))))), fun Q φ p dx d n ls tb w0 wr nx bk ct σ1 H6 XS hbt hcm A6 => ?_⟩
  have pC := XS.pC
  have dC := XS.dC
  have stay : ∀ {c o H'}, cmdOf (w0 :: wr) = some c → bad n c = false → Tell n ls c o → after n ls c = (n, ls) → Same H H' → Q (toldV o) H' := fun h1 h2 h3 h4 s => XS.stay h1 h2 h3 h4 s
  have okw : ∀ {i : Nat} {x : Str}, (w0 :: wr)[i]? = some x → x.length ≤ 1000000 ∧ asc (tl x) := fun h => XS.okw h
  obtain ⟨np, nd, nC, hc, tj, ok, hl, W, pre, hyes, hno⟩ := XS
  have SG := ok.sep (by omega)
  have hJ : ∀ H', Same H H' → ConAt CT p dx d n ls H' := fun H' s => hc.same s
  obtain ⟨rfl, hlp⟩ := hbt
  have c6 := hJ _ A6.j
  obtain ⟨u, eu, ru⟩ := A6.sr.2 0 _ rfl
  cases (show u = _ from ru)
  refine ⟨_, eu, p, dx, _, rfl, c6.hp, no_attr (by decide +kernel) (by decide +kernel), ?_⟩
  refine (ea_cons (x := .lst (wr.map D.str)) ((ev_slL (ev_var (i := 1) rfl) (eo_some ev_int) eo_none).is (by rw [cutD_lo (by decide)]; rfl)) ea_nil : EvAD K φ (Same H) _ _ _) _ H6 A6 _ fun vs ds' H7 b7 A7 e r7 => ?_
  subst e
  refine ⟨φ, p, dx, d, n, ls, wr, vs, rfl, r7, A7.fr, nd, hJ _ A7.j, ok, by omega, ⟨by have := W.1; rw [List.length_cons] at this; omega, fun x hx => W.2 x (List.mem_cons_of_mem _ hx)⟩, (fun z => by rw [z] at hlp; exact absurd hlp (Nat.lt_irrefl 0)), fun c ps s hn hlen hs H8 s8 => ?_, fun hbad H8 s8 => ?_⟩
  · rw [hn] at hcm
    exact stay (o := some s) hcm (decide_eq_false (by simpa using hlen)) ⟨s, hs, rfl⟩ rfl fun a o e => s8 a o (A7.j a o e)
  · refine hno ?_ H8 fun a o e => s8 a o (A7.j a o e)
    rcases hbad with z | ⟨c, ps, z, hlen⟩
    · rw [z] at hcm
      exact rej_none hcm
    · rw [z] at hcm
      exact rej_bad hcm (decide_eq_true hlen)
theorem ex_greedy (B : Bi mg) (C : Cs mg) (T_Console : TConsole K mg CT) (X_InvalidText : ExC K mg "InvalidText" cT) {g3 : Addr} {gd3 : FuncData} (L_Console_separations : LkM K CT "separations" g3 gd3 ["self"]) (G_Console_separations : FnOk P w K mg base CX0 1 g3 gd3 ["self"] (SpSep K CT)) {g8 : Addr} {gd8 : FuncData} (L_greedy : Lk K mg "greedy" g8 gd8 ["separations", "order"]) (G_greedy : FnOk P w K mg base CX0 5 g8 gd8 ["separations", "order"] (SpD K 2 RGreedy)) (hr : Room 162 (A.deeper (envOfC "Console.execute" (defScope s_Console_execute) s.heap.objs.size f cdv))) :
    ∃ t, PSs (cxE P w K mg base f cdv A outer s H E) (suiteAt s_Console_execute 6) t ∧ ∀ (Q : VK) (φ : Addr → Prop) (p dx d : Addr) (n : Int) (ls : List Row) (tb : Array Value) (w0 : Str) (wr : List Str) (nx bk ct : L2.St → Hp → Prop) (σ1 : L2.St) (H7 : Hp), ExS CT cT C0 H Q E φ p dx d n ls tb w0 wr → w0 = "greedy" ∧ wr.length = 0 → cmdOf (w0 :: wr) = (some .greedy) → At K φ (Same H) (ρE p w0 wr) σ1 H7 → t ⟨nx, Q, bk, ct⟩ σ1 H7 := by
  have S := sc_Console_execute
  refine ⟨_, ((pss_cons (ps_set (i := 4) S.nd rfl (by first | exact Or.inl rfl | exact Or.inr rfl) (pe_call G_greedy (hr.mono (by first | exact Nat.le_refl _ | decide | omega)) (by rfl) L_greedy.m L_greedy.kp L_greedy.bi .nil pass0 (pa_cons (pe_meth0 (pv 0) T_Console.cl L_Console_separations.me G_Console_separations (hr.mono (by first | exact Nat.le_refl _ | decide | omega)) L_Console_separations.bi .nil pass0 ) (pa_cons (pe_tupRg (by rfl) (by rfl) B.tuple (prg_1 (by rfl) B.range (pe_fld (pv 0) rfl))) pa_nil))))
 (pss_one (ps_ret (pe_op op_addS pe_str (pe_m1 PySem.F.slot_str_join PySem.F.type_str_join mu_join pe_str (pe_lc (own := [("channel", 5)]) (g := (gName 5)) (tt := tYes) (by rfl) S.nd (pi_tup (pv 4)) (blkOk_by (N := ["self", "words", "word", "found", "given", "channel", "a", "b", "p", "q"]) (sc := defScope s_Console_execute) (own := [("channel", 5)]) (by decide +kernel)) (fun _ _ _ _ _ => (pg_name (i := 5) S.nd rfl (by first | exact Or.inl rfl | exact Or.inr rfl))) (fun _ _ _ _ _ => pts_nil) (fun _ _ _ _ _ => (pe_joined (PJ.cons pe_str (PJ.cons (pe_fmt (pv 5)) PJ.nil))))))))))), fun Q φ p dx d n ls tb w0 wr nx bk ct σ1 H7 XS hbt hcm A7 => ?_⟩
  have pC := XS.pC
  have dC := XS.dC
  have stay : ∀ {c o H'}, cmdOf (w0 :: wr) = some c → bad n c = false → Tell n ls c o → after n ls c = (n, ls) → Same H H' → Q (toldV o) H' := fun h1 h2 h3 h4 s => XS.stay h1 h2 h3 h4 s
  have okw : ∀ {i : Nat} {x : Str}, (w0 :: wr)[i]? = some x → x.length ≤ 1000000 ∧ asc (tl x) := fun h => XS.okw h
  obtain ⟨np, nd, nC, hc, tj, ok, hl, W, pre, hyes, hno⟩ := XS
  have SG := ok.sep (by omega)
  have hJ : ∀ H', Same H H' → ConAt CT p dx d n ls H' := fun H' s => hc.same s
  obtain ⟨rfl, hl0⟩ := hbt
  obtain ⟨xs, hg⟩ := greedy_ex SG
  have n0 := ok.n0
  have n24 := ok.n1
  have hsum : sumR (rowsOf ls) ≤ 900 := by
    have := sumR_le (R := rowsOf ls) fun r hr => (SG.rows r hr).2.2.2.2
    have := rowsOf_len ls
    omega
  have xlen : xs.length ≤ 24 := by rw [hg.1]; omega
  have xsm : ∀ x ∈ xs, 0 ≤ x ∧ x ≤ 900 := fun x hx => by
    obtain ⟨i, hi, e⟩ := List.mem_iff_getElem.mp hx
    obtain ⟨a, _, c⟩ := hg.2 i hi
    rw [List.getD_eq_getElem?_getD, List.getElem?_eq_getElem hi] at a c
    have a : 0 ≤ xs[i] := a
    have c : ∀ ch, 0 ≤ ch → ch < xs[i] → BlkC (rowsOf ls) xs i ch := c
    have := greedy_le SG (ws := xs) (i := i) (m := xs[i].toNat) fun ch h0 h1 => c ch h0 (by omega)
    rw [← e]
    omega
  refine q (st_set (d := .tup (xs.map D.int)) A7 (ev_callD (R := RGreedy) (ea_cons (ev_sep hJ nd ok (by omega) (k := 0) rfl) (ea_cons (ev_tupRg1 (ev_cnt hJ (k := 0) rfl T_Console.cl T_Console.n_count) ⟨by omega, by omega, by omega, by omega, by omega⟩) ea_nil)) ⟨n, rowsOf ls, xs, by rw [Int.sub_zero], SG, hsum, hg, rfl⟩) fun σ8 H8 A8 => ?_)
  replace A8 : At K φ (Same H) [some (.raw (.ref p)), some (.lst ((("greedy" : Str) :: wr).map D.str)), some (.str "greedy"), none, some (.tup (xs.map D.int)), none, none, none, none, none] σ8 H8 := A8
  dsimp only
  have l1 : (" " : Str).length = 1 := by decide +kernel
  have cs : ∀ x ∈ xs, (" " ++ numS x : Str).length ≤ 10 ∧ x.natAbs.log2 < 1920 := fun x hx => by
    obtain ⟨x0, x9⟩ := xsm x hx
    have e : x = ((x.toNat : Nat) : Int) := by omega
    rw [e]
    have h9 : x.toNat < 10 ^ 9 := by omega
    have := numS_len (by decide) h9
    exact ⟨by rw [len_app]; omega, log_nat (nat9 h9)⟩
  have sm : ((xs.map fun c => " " ++ numS c).map (·.length)).sum ≤ xs.length * 10 := by
    have a := sum_le (ys := xs.map fun c => " " ++ numS c) (b := 10) fun u hu => by
      obtain ⟨z, hz, rfl⟩ := List.mem_map.mp hu
      exact (cs z hz).1
    rw [List.length_map] at a
    exact a
  have l0 : ("" : Str).length = 0 := by decide +kernel
  have lg : ("greedy" : Str).length = 6 := by decide +kernel
  have jl : (Txt.join "" (xs.map fun c => " " ++ numS c)).length ≤ 240 := by
    rw [len_tl, tl_joinE, List.length_flatten, List.map_map]
    refine Nat.le_trans (Nat.le_of_eq (congrArg List.sum ?_)) (Nat.le_trans sm (by omega))
    exact List.map_congr_left fun y _ => by
      show (tl y).length = y.length
      rw [len_tl]
  refine st_ret A8 (ev_addS ev_str (ev_join (ys := xs.map fun c => " " ++ numS c) ev_str ((ev_lc (k := 5) (f := fun d => match d with | .int x => .str (" " ++ numS x) | _ => .non) (it_tup (ev_var (i := 4) rfl)) (by rw [List.length_map]; omega) fun e he φ' J' hx => ?_).is ?_) ?_) (by omega)) fun v d9 H9 e A9 r9 => ?_
  · obtain ⟨x, hx, rfl⟩ := List.mem_map.mp he
    have := cs x hx
    rw [len_app] at this
    exact (ev_fstr (EvJ.cons ev_str (EvJ.cons (ev_fmtI (ev_var rfl) this.2) EvJ.nil)) (by
      show (" " : Str).length + ((numS x).length + 0) ≤ _
      omega)).is (congrArg D.str (fold2 _ _))
  · rw [List.map_map, List.map_map]
    rfl
  · rw [l0, Nat.mul_zero]
    omega
  · rw [e] at r9
    cases (show v = _ from r9)
    exact stay (o := some (greedyS xs)) hcm rfl ⟨xs, greedy_conv ok hg, rfl⟩ rfl A9.j
theorem ex_blocking (B : Bi mg) (C : Cs mg) (T_Console : TConsole K mg CT) (X_InvalidText : ExC K mg "InvalidText" cT) {g1 : Addr} {gd1 : FuncData} (L_read_number : Lk K mg "read_number" g1 gd1 ["word"]) (G_read_number : FnOk P w K mg base (L2N.CX P w) 1 g1 gd1 ["word"] (SpX K 1 (RNum cT))) {g2 : Addr} {gd2 : FuncData} (L_number_to : Lk K mg "number_to" g2 gd2 ["word", "most"]) (G_number_to : FnOk P w K mg base (L2N.CX P w) 2 g2 gd2 ["word", "most"] (SpX K 2 (RTo cT))) {g9 : Addr} {gd9 : FuncData} (L_blocking : Lk K mg "blocking" g9 gd9 ["a", "b", "channels"]) (G_blocking : FnOk P w K mg base CX0 2 g9 gd9 ["a", "b", "channels"] (SpD K 3 RBlk)) (hr : Room 162 (A.deeper (envOfC "Console.execute" (defScope s_Console_execute) s.heap.objs.size f cdv))) :
    ∃ t, PSs (cxE P w K mg base f cdv A outer s H E) (suiteAt s_Console_execute 7) t ∧ ∀ (Q : VK) (φ : Addr → Prop) (p dx d : Addr) (n : Int) (ls : List Row) (tb : Array Value) (w0 : Str) (wr : List Str) (nx bk ct : L2.St → Hp → Prop) (σ1 : L2.St) (H8 : Hp), ExS CT cT C0 H Q E φ p dx d n ls tb w0 wr → w0 = "blocking" ∧ wr.length = 3 → cmdOf (w0 :: wr) = (match numsOf wr with | some [a, b, c] => some (.blocking a b c) | _ => none) → At K φ (Same H) (ρE p w0 wr) σ1 H8 → (rejB n (w0 :: wr) = true → ∀ σ' H', Same H H' → nx σ' H') → t ⟨nx, Q, bk, ct⟩ σ1 H8 := by
  have S := sc_Console_execute
  refine ⟨_, ((pss_cons (ps_set (i := 6) S.nd rfl (by first | exact Or.inl rfl | exact Or.inr rfl) (pe_callS G_read_number (hr.mono (by first | exact Nat.le_refl _ | decide | omega)) (by rfl) L_read_number.m L_read_number.kp L_read_number.bi (fun σ => L2N.passAt (L2N.takes_of rfl rfl rfl rfl) σ) (pa_cons (pe_ix ix_list (pv 1) pe_int (fun _ _ => rfl)) pa_nil)))
 (pss_cons (ps_set (i := 7) S.nd rfl (by first | exact Or.inl rfl | exact Or.inr rfl) (pe_callS G_read_number (hr.mono (by first | exact Nat.le_refl _ | decide | omega)) (by rfl) L_read_number.m L_read_number.kp L_read_number.bi (fun σ => L2N.passAt (L2N.takes_of rfl rfl rfl rfl) σ) (pa_cons (pe_ix ix_list (pv 1) pe_int (fun _ _ => rfl)) pa_nil)))
 (pss_one (ps_if (pt_cmpR op_gt (pv 7) pe_int (nomark _))
 (pss_cons (ps_asg (pe_call G_blocking (hr.mono (by first | exact Nat.le_refl _ | decide | omega)) (by rfl) L_blocking.m L_blocking.kp L_blocking.bi .nil pass0 (pa_cons (pv 6) (pa_cons (pv 7) (pa_cons (pe_callS G_number_to (hr.mono (by first | exact Nat.le_refl _ | decide | omega)) (by rfl) L_number_to.m L_number_to.kp L_number_to.bi (fun σ => L2N.passAt (L2N.takes_of rfl rfl rfl rfl) σ) (pa_cons (pe_ix ix_list (pv 1) pe_int (fun _ _ => rfl)) (pa_cons (pe_cst C.MOST_BLOCKING) pa_nil))) pa_nil)))) (pg_tup (by rfl) (pgs_cons (pg_name (i := 8) S.nd rfl (by first | exact Or.inl rfl | exact Or.inr rfl)) (pgs_cons (pg_name (i := 9) S.nd rfl (by first | exact Or.inl rfl | exact Or.inr rfl)) pgs_nil))))
 (pss_one (ps_ret (pe_joined (PJ.cons pe_str (PJ.cons (pe_fmt (pv 8)) (PJ.cons pe_str (PJ.cons (pe_fmt (pv 9)) PJ.nil))))))))
 pss_nil))))), fun Q φ p dx d n ls tb w0 wr nx bk ct σ1 H8 XS hbt hcm A8 hnx => ?_⟩
  have pC := XS.pC
  have dC := XS.dC
  have stay : ∀ {c o H'}, cmdOf (w0 :: wr) = some c → bad n c = false → Tell n ls c o → after n ls c = (n, ls) → Same H H' → Q (toldV o) H' := fun h1 h2 h3 h4 s => XS.stay h1 h2 h3 h4 s
  have okw : ∀ {i : Nat} {x : Str}, (w0 :: wr)[i]? = some x → x.length ≤ 1000000 ∧ asc (tl x) := fun h => XS.okw h
  obtain ⟨np, nd, nC, hc, tj, ok, hl, W, pre, hyes, hno⟩ := XS
  have SG := ok.sep (by omega)
  have hJ : ∀ H', Same H H' → ConAt CT p dx d n ls H' := fun H' s => hc.same s
  obtain ⟨rfl, hl3⟩ := hbt
  obtain ⟨w1, w2, w3, rfl⟩ := list3 hl3
  rw [nums3] at hcm
  have ok1 := okw (i := 1) (x := w1) rfl
  have ok2 := okw (i := 2) (x := w2) rfl
  have ok3 := okw (i := 3) (x := w3) rfl
  cases z1 : okNum 9 (tl w1) with
  | none =>
    rw [z1] at hcm
    exact q (st_rs A8 (num_no (ev_wx (i := 1) rfl) ok1.1 (asc_strOk ok1.2) z1) fun H' b A' => hno (rej_none hcm) H' A'.j)
  | some a =>
    refine q (st_set (d := .int (a : Int)) A8 (num_rd (ev_wx (i := 1) rfl) ok1.1 (asc_strOk ok1.2) z1) fun σ9 H9 A9 => ?_)
    replace A9 : At K φ (Same H) [some (.raw (.ref p)), some (.lst ([("blocking" : Str), w1, w2, w3].map D.str)), some (.str "blocking"), none, none, none, some (.int (a : Int)), none, none, none] σ9 H9 := A9
    dsimp only
    cases z2 : okNum 9 (tl w2) with
    | none =>
      rw [z1, z2] at hcm
      exact q (st_rs A9 (num_no (ev_wx (i := 2) rfl) ok2.1 (asc_strOk ok2.2) z2) fun H' b A' => hno (rej_none hcm) H' A'.j)
    | some b =>
      refine q (st_set (d := .int (b : Int)) A9 (num_rd (ev_wx (i := 2) rfl) ok2.1 (asc_strOk ok2.2) z2) fun σ10 H10 A10 => ?_)
      replace A10 : At K φ (Same H) [some (.raw (.ref p)), some (.lst ([("blocking" : Str), w1, w2, w3].map D.str)), some (.str "blocking"), none, none, none, some (.int (a : Int)), some (.int (b : Int)), none, none] σ10 H10 := A10
      dsimp only
      refine st_if A10 (et_test (ev_gt (ev_var (i := 7) rfl) ev_int)) (fun hb H11 A11 => ?_) fun hb H11 A11 => st_next ?_
      · have hb0 : (0 : Int) < (b : Int) := of_decide_eq_true hb.symm
        cases z3 : okNum 9 (tl w3) with
        | none =>
          rw [z1, z2, z3] at hcm
          refine q ?_
          unfold tAsg tCall tCons
          refine ev_var (i := 6) rfl _ H11 A11 _ fun v d1 H12 b12 A12 e r => ?_
          refine ev_var (i := 7) rfl _ H12 A12 _ fun v2 d2 H13 b13 A13 e2 r2 => ?_
          exact (to_no (ev_wx (i := 3) rfl) ev_int ok3.1 ok3.2 (to_none z3)) _ _ A13 (fun H' b A' => hno (rej_none hcm) H' A'.j) _
        | some c =>
          rw [z1, z2, z3] at hcm
          have hcm : cmdOf [("blocking" : Str), w1, w2, w3] = some (.blocking a b c) := hcm
          by_cases hk : 100 < c
          · refine q ?_
            unfold tAsg tCall tCons
            refine ev_var (i := 6) rfl _ H11 A11 _ fun v d1 H12 b12 A12 e r => ?_
            refine ev_var (i := 7) rfl _ H12 A12 _ fun v2 d2 H13 b13 A13 e2 r2 => ?_
            exact (to_no (ev_wx (i := 3) rfl) ev_int ok3.1 ok3.2 (by rw [to_of z3, if_pos (by omega)])) _ _ A13 (fun H' b' A' => hno (rej_bad hcm (by
              show (decide (b = 0) || decide (100 < c)) = true
              rw [decide_eq_true hk, Bool.or_true])) H' A'.j) _
          · have hbd : bad n (.blocking a b c) = false := by
              show (decide (b = 0) || decide (100 < c)) = false
              rw [decide_eq_false hk, decide_eq_false (show ¬ b = 0 by omega)]
              rfl
            have bo := (pre _ hcm hbd).2 a b c rfl
            obtain ⟨q1, q2, _⟩ := bo.bd c (Nat.le_refl _)
            refine q (st_asgG A11 (ev_callD (R := RBlk) (ea_cons (ev_var (i := 6) rfl) (ea_cons (ev_var (i := 7) rfl) (ea_cons (to_rd (n := c) (ev_wx (i := 3) rfl) ev_int ok3.1 ok3.2 (by rw [to_of z3, if_neg (by omega)])) ea_nil))) ⟨a, b, c, rfl, bo, rfl⟩) (us := [8, 9]) (ρ2 := fun _ => [some (.raw (.ref p)), some (.lst ([("blocking" : Str), w1, w2, w3].map D.str)), some (.str "blocking"), none, none, none, some (.int (a : Int)), some (.int (b : Int)), some (.int ((blk a b c).1 : Nat)), some (.int ((blk a b c).2 : Nat))]) (fun d' e => by subst e; exact eg_tup (egs_cons eg_name (egs_cons eg_name egs_nil))) fun d' σ12 H12 e A12 => ?_)
            dsimp only
            obtain ⟨s1, s2, g1, g2⟩ : (numS ((blk a b c).1 : Nat)).length ≤ 300 ∧ (numS ((blk a b c).2 : Nat)).length ≤ 300 ∧ (((blk a b c).1 : Nat) : Int).natAbs.log2 < 1920 ∧ (((blk a b c).2 : Nat) : Int).natAbs.log2 < 1920 := blk_txt q1 q2
            clear q1 q2 bo
            refine st_ret A12 ((ev_fstr (EvJ.cons ev_str (EvJ.cons (ev_fmtI (ev_var (i := 8) rfl) g1) (EvJ.cons ev_str (EvJ.cons (ev_fmtI (ev_var (i := 9) rfl) g2) EvJ.nil)))) (by
              have l9 : ("blocking " : Str).length = 9 := by decide +kernel
              have l1 : ("/" : Str).length = 1 := by decide +kernel
              show ("blocking " : Str).length + ((numS ((blk a b c).1 : Nat)).length + (("/" : Str).length + ((numS ((blk a b c).2 : Nat)).length + 0))) ≤ _
              omega)).is (congrArg D.str (fold4 _ _ _ _))) fun v d13 H13 e A13 r13 => ?_
            rw [e] at r13
            cases (show v = _ from r13)
            exact stay (o := some (blockS a b c)) hcm hbd rfl rfl A13.j
      · have hb0 : ¬ (0 : Int) < (b : Int) := of_decide_eq_false hb.symm
        refine hnx ?_ _ H11 A11.j
        cases z3 : okNum 9 (tl w3) with
        | none => rw [z1, z2, z3] at hcm; exact rej_none hcm
        | some c =>
          rw [z1, z2, z3] at hcm
          exact rej_bad hcm (by
            show (decide (b = 0) || decide (100 < c)) = true
            rw [decide_eq_true (show b = 0 by omega)]
            rfl)
end
end

/-! ### the console: execute, as a whole -/
section
open TL
abbrev wN (K : PySem.W.Frag) (x : Str) (n : Int) : TT := tAnd (tTest (tOp rEq (tVar 2) (tC (.str x)))) (tTest (tOp rEq (tCB (rLen K) (tCons (tVar 1) tNil)) (tC (.int n))))
abbrev wM (K : PySem.W.Frag) (x : Str) (n : Int) : TT := tAnd (tTest (tOp rEq (tVar 2) (tC (.str x)))) (tTest (tOp (rI0 fun i j => .bl (decide (j < i))) (tCB (rLen K) (tCons (tVar 1) tNil)) (tC (.int n))))
theorem ex_link {K : PySem.W.Frag} {φ : Addr → Prop} {J : Hp → Prop} {ρ : List (Option D)} {T : TT} {t rest : TS} {b : Bool} {nx bk ct : L2.St → Hp → Prop} {Q : VK} {σ : L2.St} {H : Hp} (A : At K φ J ρ σ H) (h : EvX K φ J T ρ b) (h1 : b = true → ∀ H', At K φ J ρ σ H' → ∀ nx', t ⟨nx', Q, bk, ct⟩ σ H') (h2 : b = false → ∀ H', At K φ J ρ σ H' → rest ⟨nx, Q, bk, ct⟩ σ H') : tSeq (tIfS T t tNext) rest ⟨nx, Q, bk, ct⟩ σ H :=
  q (st_if A h (fun hb H2 A2 => h1 hb.symm H2 A2 _) (fun hb H2 A2 => st_next (q (h2 hb.symm H2 A2))))
theorem ex_tst {K : PySem.W.Frag} {φ : Addr → Prop} {J : Hp → Prop} {p : Addr} {w0 : Str} {wr : List Str} (x : Str) (k : Nat) : EvX K φ J (wN K x ((k + 1 : Nat) : Int)) (ρE p w0 wr) (decide (w0 = x ∧ wr.length = k)) := by
  refine (et_and (et_test (ev_eqS (ev_var (i := 2) rfl) ev_str)) fun _ => et_test (ev_eqI (ev_lenL (ev_var (i := 1) rfl)) ev_int)).is ?_
  rw [Bool.eq_iff_iff, Bool.and_eq_true, decide_eq_true_eq, decide_eq_true_eq, decide_eq_true_eq, List.length_map, List.length_cons]
  exact and_congr_right fun _ => by omega
theorem ex_tck {K : PySem.W.Frag} {φ : Addr → Prop} {J : Hp → Prop} {p : Addr} {w0 : Str} {wr : List Str} : EvX K φ J (wM K "check" 1) (ρE p w0 wr) (decide (w0 = "check" ∧ 0 < wr.length)) := by
  refine (et_and (et_test (ev_eqS (ev_var (i := 2) rfl) ev_str)) fun _ => et_test (ev_gt (ev_lenL (ev_var (i := 1) rfl)) ev_int)).is ?_
  rw [Bool.eq_iff_iff, Bool.and_eq_true, decide_eq_true_eq, decide_eq_true_eq, decide_eq_true_eq, List.length_map, List.length_cons]
  exact and_congr_right fun _ => by omega
theorem ex_chain {K : PySem.W.Frag} {CT cT C0 : Addr} {H : Hp} {Q : VK} {E : XK} {φ : Addr → Prop} {p dx d : Addr} {n : Int} {ls : List Row} {tb : Array Value} {w0 : Str} {wr : List Str} (XS : ExS CT cT C0 H Q E φ p dx d n ls tb w0 wr) {t1 t2 t3 t4 t5 t6 t7 t8 : TS}
    (run1 : ∀ (nx bk ct : L2.St → Hp → Prop) (σ1 : L2.St) (H1 : Hp), w0 = "users" ∧ wr.length = 1 → cmdOf (w0 :: wr) = (match numsOf wr with | some [k] => some (.users k) | _ => none) → At K φ (Same H) (ρE p w0 wr) σ1 H1 → t1 ⟨nx, Q, bk, ct⟩ σ1 H1)
    (run2 : ∀ (nx bk ct : L2.St → Hp → Prop) (σ1 : L2.St) (H1 : Hp), w0 = "need" ∧ wr.length = 3 → cmdOf (w0 :: wr) = (match numsOf wr with | some [i, j, l] => some (.need i j l) | _ => none) → At K φ (Same H) (ρE p w0 wr) σ1 H1 → t2 ⟨nx, Q, bk, ct⟩ σ1 H1)
    (run3 : ∀ (nx bk ct : L2.St → Hp → Prop) (σ1 : L2.St) (H1 : Hp), w0 = "span" ∧ wr.length = 0 → cmdOf (w0 :: wr) = some .span → At K φ (Same H) (ρE p w0 wr) σ1 H1 → t3 ⟨nx, Q, bk, ct⟩ σ1 H1)
    (run4 : ∀ (nx bk ct : L2.St → Hp → Prop) (σ1 : L2.St) (H1 : Hp), w0 = "assign" ∧ wr.length = 1 → cmdOf (w0 :: wr) = (match numsOf wr with | some [c] => some (.assign c) | _ => none) → At K φ (Same H) (ρE p w0 wr) σ1 H1 → t4 ⟨nx, Q, bk, ct⟩ σ1 H1)
    (run5 : ∀ (nx bk ct : L2.St → Hp → Prop) (σ1 : L2.St) (H1 : Hp), w0 = "check" ∧ 0 < wr.length → cmdOf (w0 :: wr) = (match numsOf wr with | some (c :: ps) => some (.check c ps) | _ => none) → At K φ (Same H) (ρE p w0 wr) σ1 H1 → t5 ⟨nx, Q, bk, ct⟩ σ1 H1)
    (run6 : ∀ (nx bk ct : L2.St → Hp → Prop) (σ1 : L2.St) (H1 : Hp), w0 = "greedy" ∧ wr.length = 0 → cmdOf (w0 :: wr) = some .greedy → At K φ (Same H) (ρE p w0 wr) σ1 H1 → t6 ⟨nx, Q, bk, ct⟩ σ1 H1)
    (run7 : ∀ (nx bk ct : L2.St → Hp → Prop) (σ1 : L2.St) (H1 : Hp), w0 = "blocking" ∧ wr.length = 3 → cmdOf (w0 :: wr) = (match numsOf wr with | some [a, b, c] => some (.blocking a b c) | _ => none) → At K φ (Same H) (ρE p w0 wr) σ1 H1 → (rejB n (w0 :: wr) = true → ∀ σ' H', Same H H' → nx σ' H') → t7 ⟨nx, Q, bk, ct⟩ σ1 H1)
    (run8 : ∀ (D : Ends) (σ : L2.St) (H' : Hp), E (.ref cT) none H' → t8 D σ H') {nx bk ct : L2.St → Hp → Prop} {σ : L2.St} {H1 : Hp} (A1 : At K φ (Same H) (ρE p w0 wr) σ H1) : tSeq (tIfS (wN K "users" 2) t1 tNext) (tSeq (tIfS (wN K "need" 4) t2 tNext) (tSeq (tIfS (wN K "span" 1) t3 tNext) (tSeq (tIfS (wN K "assign" 2) t4 tNext) (tSeq (tIfS (wM K "check" 1) t5 tNext) (tSeq (tIfS (wN K "greedy" 1) t6 tNext) (tSeq (tIfS (wN K "blocking" 4) t7 tNext) (t8))))))) ⟨nx, Q, bk, ct⟩ σ H1 := by
  have hcm := cmd_cons w0 wr
  refine ex_link A1 (ex_tst "users" 1) (fun hb H2 A2 nx' => ?_) (fun hb H2 A2 => ?_)
  · have hbt := of_decide_eq_true hb
    rw [if_pos hbt] at hcm
    exact run1 _ _ _ _ _ hbt hcm A2
  rw [if_neg (of_decide_eq_false hb)] at hcm
  clear A1
  refine ex_link A2 (ex_tst "need" 3) (fun hb H3 A3 nx' => ?_) (fun hb H3 A3 => ?_)
  · have hbt := of_decide_eq_true hb
    rw [if_pos hbt] at hcm
    exact run2 _ _ _ _ _ hbt hcm A3
  rw [if_neg (of_decide_eq_false hb)] at hcm
  clear A2
  refine ex_link A3 (ex_tst "span" 0) (fun hb H4 A4 nx' => ?_) (fun hb H4 A4 => ?_)
  · have hbt := of_decide_eq_true hb
    rw [if_pos hbt] at hcm
    exact run3 _ _ _ _ _ hbt hcm A4
  rw [if_neg (of_decide_eq_false hb)] at hcm
  clear A3
  refine ex_link A4 (ex_tst "assign" 1) (fun hb H5 A5 nx' => ?_) (fun hb H5 A5 => ?_)
  · have hbt := of_decide_eq_true hb
    rw [if_pos hbt] at hcm
    exact run4 _ _ _ _ _ hbt hcm A5
  rw [if_neg (of_decide_eq_false hb)] at hcm
  clear A4
  refine ex_link A5 (ex_tck) (fun hb H6 A6 nx' => ?_) (fun hb H6 A6 => ?_)
  · have hbt := of_decide_eq_true hb
    rw [if_pos hbt] at hcm
    exact run5 _ _ _ _ _ hbt hcm A6
  rw [if_neg (of_decide_eq_false hb)] at hcm
  clear A5
  refine ex_link A6 (ex_tst "greedy" 0) (fun hb H7 A7 nx' => ?_) (fun hb H7 A7 => ?_)
  · have hbt := of_decide_eq_true hb
    rw [if_pos hbt] at hcm
    exact run6 _ _ _ _ _ hbt hcm A7
  rw [if_neg (of_decide_eq_false hb)] at hcm
  clear A6
  refine q (st_if A7 (ex_tst "blocking" 3) (fun hb H8 A8 => ?_) (fun hb H8 A8 => st_next (q ?_)))
  · have hbt := of_decide_eq_true hb.symm
    rw [if_pos hbt] at hcm
    exact run7 _ _ _ _ _ hbt hcm A8 fun hj σ' H' s' => run8 _ _ _ (XS.hno hj H' s')
  rw [if_neg (of_decide_eq_false hb.symm)] at hcm
  exact run8 _ _ _ (XS.hno (rej_none hcm) H8 A8.j)
section
variable {P : Program} {w : World} {K : PySem.W.Frag} {mg : Str → Option Value} {base : Heap}
theorem ok_Console_execute (B : Bi mg) (C : Cs mg) {CT : Addr} (T_Console : TConsole K mg CT) {cT C0 : Addr} (X_InvalidText : ExC K mg "InvalidText" cT) {f : Addr} {fd : FuncData} (F : Fun K "execute" "Console.execute" s_Console_execute f fd)
    {g1 : Addr} {gd1 : FuncData} (L_read_number : Lk K mg "read_number" g1 gd1 ["word"]) (G_read_number : FnOk P w K mg base (L2N.CX P w) 1 g1 gd1 ["word"] (SpX K 1 (RNum cT))) {g2 : Addr} {gd2 : FuncData} (L_number_to : Lk K mg "number_to" g2 gd2 ["word", "most"]) (G_number_to : FnOk P w K mg base (L2N.CX P w) 2 g2 gd2 ["word", "most"] (SpX K 2 (RTo cT))) {g3 : Addr} {gd3 : FuncData} (L_Console_separations : LkM K CT "separations" g3 gd3 ["self"]) (G_Console_separations : FnOk P w K mg base CX0 1 g3 gd3 ["self"] (SpSep K CT)) {g4 : Addr} {gd4 : FuncData} (L_Console_set_need : LkM K CT "set_need" g4 gd4 ["self", "words"]) (G_Console_set_need : FnOk P w K mg base (L2N.CX P w) 3 g4 gd4 ["self", "words"] (SpSet K CT cT)) {g5 : Addr} {gd5 : FuncData} (L_Console_check : LkM K CT "check" g5 gd5 ["self", "words"]) (G_Console_check : FnOk P w K mg base (L2N.CX P w) 3 g5 gd5 ["self", "words"] (SpChk K CT cT)) {g6 : Addr} {gd6 : FuncData} (L_span : Lk K mg "span" g6 gd6 ["separations"]) (G_span : FnOk P w K mg base CX0 162 g6 gd6 ["separations"] (SpS K C0 q0 posS 1 PSpan RSpan)) {g7 : Addr} {gd7 : FuncData} (L_solved : Lk K mg "solved" g7 gd7 ["separations", "channels"]) (G_solved : FnOk P w K mg base CX0 160 g7 gd7 ["separations", "channels"] (SpS K C0 q0 posS 2 PSolved RSolved)) {g8 : Addr} {gd8 : FuncData} (L_greedy : Lk K mg "greedy" g8 gd8 ["separations", "order"]) (G_greedy : FnOk P w K mg base CX0 5 g8 gd8 ["separations", "order"] (SpD K 2 RGreedy)) {g9 : Addr} {gd9 : FuncData} (L_blocking : Lk K mg "blocking" g9 gd9 ["a", "b", "channels"]) (G_blocking : FnOk P w K mg base CX0 2 g9 gd9 ["a", "b", "channels"] (SpD K 3 RBlk)) :
    FnOk P w K mg base (L2N.CX P w) 163 f fd ["self", "words"] (SpEx K CT cT C0) := by
  have S := sc_Console_execute
  refine Fun.okXN (k := 162) F S (fun vs H Q E h => ?_) (fun cdv A outer s H vs Q E hr h => ?_)
  · obtain ⟨φ, p, dx, d, n, ls, tb, ws, wsv, rfl, r, _⟩ := h
    rw [List.length_cons, r.length]
    rfl
  obtain ⟨φ, p, dx, d, n, ls, tb, ws, wsv, rfl, r, fr, np, nd, nC, hc, tj, ok, hl, W, hne, pre, hyes, hno⟩ := h
  obtain ⟨t1, ht1, run1⟩ := ex_users (P := P) (w := w) (base := base) (C0 := C0) (f := f) (A := A) (outer := outer) (s := s) (H := H) (E := E) (cdv := cdv) B C T_Console X_InvalidText L_number_to G_number_to hr
  obtain ⟨t2, ht2, run2⟩ := ex_need (P := P) (w := w) (base := base) (C0 := C0) (f := f) (A := A) (outer := outer) (s := s) (H := H) (E := E) (cdv := cdv) B C T_Console X_InvalidText L_Console_set_need G_Console_set_need hr
  obtain ⟨t3, ht3, run3⟩ := ex_span (P := P) (w := w) (base := base) (C0 := C0) (f := f) (A := A) (outer := outer) (s := s) (H := H) (E := E) (cdv := cdv) B C T_Console X_InvalidText L_Console_separations G_Console_separations L_span G_span hr
  obtain ⟨t4, ht4, run4⟩ := ex_assign (P := P) (w := w) (base := base) (C0 := C0) (f := f) (A := A) (outer := outer) (s := s) (H := H) (E := E) (cdv := cdv) B C T_Console X_InvalidText L_Console_separations G_Console_separations L_number_to G_number_to L_solved G_solved hr
  obtain ⟨t5, ht5, run5⟩ := ex_check (P := P) (w := w) (base := base) (C0 := C0) (f := f) (A := A) (outer := outer) (s := s) (H := H) (E := E) (cdv := cdv) B C T_Console X_InvalidText L_Console_check G_Console_check hr
  obtain ⟨t6, ht6, run6⟩ := ex_greedy (P := P) (w := w) (base := base) (C0 := C0) (f := f) (A := A) (outer := outer) (s := s) (H := H) (E := E) (cdv := cdv) B C T_Console X_InvalidText L_Console_separations G_Console_separations L_greedy G_greedy hr
  obtain ⟨t7, ht7, run7⟩ := ex_blocking (P := P) (w := w) (base := base) (C0 := C0) (f := f) (A := A) (outer := outer) (s := s) (H := H) (E := E) (cdv := cdv) B C T_Console X_InvalidText L_read_number G_read_number L_number_to G_number_to L_blocking G_blocking hr
  refine ⟨_, ((pss_cons (ps_set (i := 2) S.nd rfl (by first | exact Or.inl rfl | exact Or.inr rfl) (pe_ix ix_list (pv 1) pe_int (fun _ _ => rfl)))
 (pss_cons (ps_if (PW.pt (pw_and (pt_cmpR op_eq (pv 2) pe_str (nomark _)) (pw_and1 (pt_cmpR op_eq (pe_callB c_len (by rfl) B.len (by decide +kernel) (pa_cons (pv 1) pa_nil)) pe_int (nomark _))))) ht1 pss_nil)
 (pss_cons (ps_if (PW.pt (pw_and (pt_cmpR op_eq (pv 2) pe_str (nomark _)) (pw_and1 (pt_cmpR op_eq (pe_callB c_len (by rfl) B.len (by decide +kernel) (pa_cons (pv 1) pa_nil)) pe_int (nomark _))))) ht2 pss_nil)
 (pss_cons (ps_if (PW.pt (pw_and (pt_cmpR op_eq (pv 2) pe_str (nomark _)) (pw_and1 (pt_cmpR op_eq (pe_callB c_len (by rfl) B.len (by decide +kernel) (pa_cons (pv 1) pa_nil)) pe_int (nomark _))))) ht3 pss_nil)
 (pss_cons (ps_if (PW.pt (pw_and (pt_cmpR op_eq (pv 2) pe_str (nomark _)) (pw_and1 (pt_cmpR op_eq (pe_callB c_len (by rfl) B.len (by decide +kernel) (pa_cons (pv 1) pa_nil)) pe_int (nomark _))))) ht4 pss_nil)
 (pss_cons (ps_if (PW.pt (pw_and (pt_cmpR op_eq (pv 2) pe_str (nomark _)) (pw_and1 (pt_cmpR op_gt (pe_callB c_len (by rfl) B.len (by decide +kernel) (pa_cons (pv 1) pa_nil)) pe_int (nomark _))))) ht5 pss_nil)
 (pss_cons (ps_if (PW.pt (pw_and (pt_cmpR op_eq (pv 2) pe_str (nomark _)) (pw_and1 (pt_cmpR op_eq (pe_callB c_len (by rfl) B.len (by decide +kernel) (pa_cons (pv 1) pa_nil)) pe_int (nomark _))))) ht6 pss_nil)
 (pss_cons (ps_if (PW.pt (pw_and (pt_cmpR op_eq (pv 2) pe_str (nomark _)) (pw_and1 (pt_cmpR op_eq (pe_callB c_len (by rfl) B.len (by decide +kernel) (pa_cons (pv 1) pa_nil)) pe_int (nomark _))))) ht7 pss_nil)
 (pss_one (L2N.ps_raise rfl (L2N.takes_of rfl rfl rfl rfl) (L2N.pmk_own PySem.F.excBase_ValueError X_InvalidText.e X_InvalidText.m X_InvalidText.k (raises_own X_InvalidText.s X_InvalidText.t) (by rfl))))))))))))), ?_⟩
  obtain ⟨w0, wr, rfl⟩ : ∃ w0 wr, ws = w0 :: wr := by
    cases ws with
    | nil => exact absurd rfl hne
    | cons a b => exact ⟨a, b, rfl⟩
  have XS : ExS CT cT C0 H Q E φ p dx d n ls tb w0 wr := ⟨np, nd, nC, hc, tj, ok, hl, W, pre, hyes, hno⟩
  have A0 : At K φ (Same H) [some (.raw (.ref p)), some (.lst ((w0 :: wr).map D.str)), none, none, none, none, none, none, none, none] (L2.start ["self", "words", "word", "found", "given", "channel", "a", "b", "p", "q"] (.ref p :: wsv)) H := by
    refine ⟨?_, fr, Same.refl H, Mo.sames fun _ h => h⟩
    have e : (["self", "words", "word", "found", "given", "channel", "a", "b", "p", "q"] : List Str).length - (V.ref p :: wsv).length = 8 := by
      show 10 - (wsv.length + 1) = 8
      rw [r.length]
      rfl
    unfold L2.start
    rw [e]
    exact SR.start (ds := [.raw (.ref p), .lst ((w0 :: wr).map D.str)]) (Reps.cons rfl r)
  refine q (st_set (d := .str w0) A0 (ev_wx (i := 0) rfl) fun σ1 H1 A1 => ?_)
  exact ex_chain (K := K) XS (fun nx bk ct σ1 H1 hb hc A => run1 Q φ p dx d n ls tb w0 wr nx bk ct σ1 H1 XS hb hc A) (fun nx bk ct σ1 H1 hb hc A => run2 Q φ p dx d n ls tb w0 wr nx bk ct σ1 H1 XS hb hc A) (fun nx bk ct σ1 H1 hb hc A => run3 Q φ p dx d n ls tb w0 wr nx bk ct σ1 H1 XS hb hc A) (fun nx bk ct σ1 H1 hb hc A => run4 Q φ p dx d n ls tb w0 wr nx bk ct σ1 H1 XS hb hc A) (fun nx bk ct σ1 H1 hb hc A => run5 Q φ p dx d n ls tb w0 wr nx bk ct σ1 H1 XS hb hc A) (fun nx bk ct σ1 H1 hb hc A => run6 Q φ p dx d n ls tb w0 wr nx bk ct σ1 H1 XS hb hc A) (fun nx bk ct σ1 H1 hb hc A hx => run7 Q φ p dx d n ls tb w0 wr nx bk ct σ1 H1 XS hb hc A hx) (fun _ _ _ h => h) A1
end
end

/-! ### InvalidLine: raised, caught, its line read -/
section
/-- the class, as the written part has it -/
def oexIn (K : PySem.W.Frag) (C : Addr) : Bool := match K.lookup C with
  | some ⟨.type "type", _, .cls cd, sl⟩ => (match cd.mro, sl.toList with
    | .ref C' :: bm, [_, _, _, _, some (.builtin n), _] => (C' == C && n == "ValueError.__new__") && (!cd.hasDel && (cd.hasDict && PySem.HandSPX.refsVE bm))
    | _, _ => false)
  | _ => false
theorem oex_cls {K : PySem.W.Frag} {C : Addr} (q : oexIn K C = true) : ∃ nm q N bs bm sn sub ab col dd k0 k1 k2 k3 k5, K.lookup C = some (excClassObj nm q C N bs bm true sn sub ab col dd k0 k1 k2 k3 k5 "ValueError.__new__") ∧ PySem.HandSPX.refsVE bm = true := by
  unfold oexIn at q
  split at q
  · rename_i dd cd sl ho
    split at q
    · rename_i C' bm k0 k1 k2 k3 n k5 hm hs
      simp only [Bool.and_eq_true, beq_iff_eq, Bool.not_eq_true'] at q
      obtain ⟨⟨rfl, rfl⟩, hdel, hdic, ht⟩ := q
      obtain ⟨nm, bs, mro, ns, qn, hd, sn, sub, ab, col, del⟩ := cd
      dsimp only at hm hdel hdic
      subst hm hdel hdic
      have hsl : sl = #[k0, k1, k2, k3, some (.builtin "ValueError.__new__"), k5] := by
        obtain ⟨l⟩ := sl
        simp only at hs
        rw [hs]
      subst hsl
      exact ⟨nm, qn, ns, bs, bm, sn, sub, ab, col, dd, k0, k1, k2, k3, k5, ho, ht⟩
    · cases q
  · cases q
/-- the facts of the class -/
structure IL (P : Program) (K : PySem.W.Frag) (mg : Str → Option Value) (C fI : Addr) (fd : FuncData) (cc cda : Addr) : Prop where
  sup : SupC P K C fI "InvalidLine.__init__" s_InvalidLine___init__ fd cc cda
  m : mg "InvalidLine" = some (.ref C)
  ic : PySem.W.findIn K (.ref C) "__init__" = some (some (.ref fI))
  ti : PySem.W.typeIn K (.ref fI) = some (.type "function")
  bi : Binds K fd ["self", "line"] []
  nl : PySem.W.findIn K (.ref C) "line" = some none
  xf : XfC K C
  s0 : mg "super" = none
  xm : PySem.W.exmOne K (.ref C) (.ref C) = some true
theorem IL.ok {P : Program} {w : World} {K : PySem.W.Frag} {mg : Str → Option Value} {base : Heap} {C fI cc cda : Addr} {fd : FuncData} (X : IL P K mg C fI fd cc cda) : FnOk P w K mg base CX0 2 fI fd ["self", "line"] (SpIL C "line") := ok_supinit X.sup X.s0 X.nl
section
variable {K : PySem.W.Frag} {φ φ' : Addr → Prop} {J : Hp → Prop} {H H' : Hp} {ρ : List (Option D)} {σ : L2.St} {te : TE} {n : Int} {C : Addr} {D0 : Ends} {W : WX}
/-- raise C(e): the dict of the exception is told -/
theorem st_raiseL (A : At K φ J ρ σ H) (h : EvD K φ J te ρ (.int n)) (k : ∀ d H1 H', But φ H H1 → At K φ J ρ σ H1 → H1 d = none → Same H1 H' → H' d = some (.xd [("line", .int n)]) → W (.ref C) (some d) σ H') :
    tMkO C (SpIL C "line") [] (tCons te tNil) σ H (fun cls d H' => W cls d σ H') :=
  h σ H A _ fun v d' H1 b A1 e r => by
    subst e
    cases (show v = _ from r)
    refine ⟨Nat.le_of_ble_eq_true rfl, fun a ha => ⟨a, .int n, rfl, upd_same, fun dx hdx nda => ⟨rfl, dx, [("line", .int n)], upd_same, ?_, ?_, ?_⟩⟩⟩
    · exact (upd_ne nda).trans upd_same
    · rw [upd_ne nda] at hdx
      exact hdx
    · have hdx' : H1 dx = none := by
        rw [upd_ne nda] at hdx
        exact hdx
      refine k dx H1 _ b A1 hdx' (fun c o e => ?_) upd_same
      have n1 : c ≠ dx := ne_of_none e hdx'
      have n2 : c ≠ a := ne_of_none e ha
      rw [upd_ne n1, del_ne n2, upd_ne n2, upd_ne n1, upd_ne n2]
      exact e
/-- except C as e: return e.line -/
theorem ev_xf {a d : Addr} {k : Nat} {f : Str} {m : Int} (hk : ρ[k]? = some (some (.raw (.ref a)))) (hd : ∀ H, J H → H d = some (.xd [(f, .int m)])) : EvD K φ J (tXf a (.ref C) (some d) C f (tVar k)) ρ (.int m) := fun σ H A Q q => by
  obtain ⟨u, e, r⟩ := A.sr.2 k _ hk
  cases (show u = _ from r)
  exact ⟨_, e, rfl, rfl, d, _, .int m, rfl, hd H A.j, by simp [List.lookup], q _ _ H (But.refl _ _) A rfl rfl⟩
theorem wAs_yes {c : Addr} {C : Value} {i : Nat} {ts : Addr → Value → Option Addr → TS} {d : Option Addr} (hx : PySem.W.exmOne K (.ref c) C = some true)
    (h : ∀ a, H a = none → ts a (.ref c) d { nx := fun σ' H' => D0.nx (σ'.set i none) H', rt := D0.rt, bk := fun σ' H' => D0.bk (σ'.set i none) H', ct := fun σ' H' => D0.ct (σ'.set i none) H' } (σ.set i (some (.ref a))) H) : wAs K C i ts W D0 (.ref c) d σ H := ⟨true, hx, fun _ => h, fun e => nomatch e⟩
end
/-- C(..) whose __init__ may raise -/
def tMakeX (C : Addr) (sp : Sp) (E : L2.St → XK) (t : TA) : TE := fun σ H Q => t σ H fun vs H1 => ∀ x dx, H1 x = none → H1 dx = none → dx ≠ x →
  sp (.ref x :: vs) (upd (upd H1 dx (.own x)) x (.ins C dx [])) (fun v H2 => v = .non ∧ Q (.ref x) H2) (E σ)
section
variable {X : Cx} {CX : CXT} {k : Nat} {f C : Addr} {fd : FuncData} {ps : List Str} {sp : Sp} {E : L2.St → XK} {x : Str} {pos p : Pos} {e : Expr} {es : List Expr} {t : TA}
theorem pe_makeX (M : Mk X.K C f) (F : FnOk X.prog X.w X.K X.mg X.base CX k f fd ps sp) (hr : Room (k + 1) X.A) (hg : Gl X x) (hm : X.mg x = some (.ref C)) (hb : Binds X.K fd ps []) (hx : ∀ σ, PassesAt CX X σ (E σ))
    (ha : PA X (e :: es) t) (hdb : (x == ("__debug__" : Str)) = false := by decide) (he : starEach (e :: es) X.env = (false, eval e X.env) :: starEach es X.env := by rfl) (hpl : (backTo pos (starEach es X.env)).any (·.1) = false := by rfl) :
    PE X (.Call (.Name x p) (e :: es) [] pos) (tMakeX C sp E t) := by
  refine ⟨fun pins s σ H Q I h => ?_⟩
  refine wpAny_Call_Name_kw (ld_glob I hg hm ?_ hdb)
  refine PySem.W.callWith_K (h₀ := X.base) I.ok.mod.kin M.kp (thn (ha.run pos pins s σ H _ I h) fun us s1 ⟨vs, H1, I1, r, q⟩ => ⟨I1.kIn, ?_⟩) he hpl
  show wpAny _ _ (call (.ref C) us) _ _ _
  have hq := q (s1.heap.objs.size + 1) s1.heap.objs.size (I1.hok.fresh (Nat.le_succ _)) (I1.hok.fresh (Nat.le_refl _)) (Nat.ne_of_lt (Nat.lt_succ_self _))
  have I2 := Inv.made (C := C) I1
  have r2 : Vals (V.ref (s1.heap.objs.size + 1) :: vs) (Value.ref (s1.heap.objs.size + 1) :: us) := .cons rfl r
  have hl : (Value.ref (s1.heap.objs.size + 1) :: us).length = ps.length := by
    have e := r2.length
    rw [F.len _ _ _ _ hq] at e
    exact e.symm
  have b := hb { s1 with heap := _ } (Value.ref (s1.heap.objs.size + 1) :: us) I2.kIn (by rw [List.append_nil]; exact hl)
  rw [List.append_nil] at b
  refine wpAny_call (make_map (f := f) I1.kIn M.makes M.init (beq_iff_eq.mp M.fn) (codeAny_mono (F.run _ X.stack _ _ ⟨Value.ref (s1.heap.objs.size + 1) :: us, []⟩ (Value.ref (s1.heap.objs.size + 1) :: us) _ _ (E σ) (hr.make C us [])
    (I2.env0.make C us []) b r2 hq) fun r s' hq' => ?_))
  cases r with
  | error e => exact hx σ pins _ _ e s' I2 hq'
  | ok fl =>
    cases fl with
    | ret u =>
      obtain ⟨v, H', I3, rv, ev, q3⟩ := I2.after hq'
      subst ev
      exact ⟨rv, ⟨V.ref (s1.heap.objs.size + 1), H', I3, rfl, q3⟩⟩
    | next => exact False.elim hq'
    | brk => exact False.elim hq'
    | cont => exact False.elim hq'
end
end

/-! ### run_console -/
section
open TL
theorem IL.okH {P : Program} {w : World} {K : PySem.W.Frag} {mg : Str → Option Value} {base : Heap} {C fI cc cda : Addr} {fd : FuncData} (X : IL P K mg C fI fd cc cda) : L2H.FnH P w K mg base CX0 2 fI fd ["self", "line"] (SpIL C "line") := okH_supinit X.sup X.s0 X.nl
def blankB (x : Str) : Bool := decide (x = "") || Txt.startswith x "#"
def toldL : Option Str → List Str
  | some s => [s ++ "\n"]
  | none => []
def toldD : Option Str → D
  | some s => .str s
  | none => .non
/-- what the lines tell from (n, ls) on: the place of the first wrong one, or the report -/
inductive RunsTo : Int → List Row → List Str → Option Nat → List Str → Prop where
  | done {n : Int} {ls : List Row} : RunsTo n ls [] none []
  | skip {n : Int} {ls : List Row} {x : Str} {xs : List Str} {o : Option Nat} {r : List Str} : blankB x = true → RunsTo n ls xs o r → RunsTo n ls (x :: xs) (o.map (· + 1)) r
  | cmd {n : Int} {ls : List Row} {x : Str} {xs : List Str} {o : Option Nat} {r : List Str} {c : Cmd} {t : Option Str} : blankB x = false → cmdOf (Txt.split x " ") = some c → bad n c = false → Tell n ls c t → PreEx n (Txt.split x " ") → RunsTo (after n ls c).1 (after n ls c).2 xs o r → RunsTo n ls (x :: xs) (o.map (· + 1)) (toldL t ++ r)
  | stop {n : Int} {ls : List Row} {x : Str} {xs : List Str} : blankB x = false → rejB n (Txt.split x " ") = true → RunsTo n ls (x :: xs) (some 1) []
structure TxtOk (t : Str) (lines : List Str) : Prop where
  len : t.length ≤ 900000
  sp : ∃ (xs : List Str) (last : Str), Txt.split t "\n" = xs ++ [last] ∧ lines = if last = "" then xs else xs ++ [last]
  few : lines.length ≤ 40
  ws : ∀ x ∈ lines, x.length ≤ 900000 ∧ WsOk (Txt.split x " ") ∧ Txt.split x " " ≠ []
theorem atI_snoc {α : Type} {xs : List α} {y : α} : L2.atI (xs ++ [y]) (-1) = some y := by
  have e : L2.ixN (xs ++ [y]).length (-1) = some xs.length := by
    unfold L2.ixN
    rw [List.length_append, if_neg (by decide), List.length_singleton, if_pos (by omega)]
    congr 1
    show (-1 + ((xs.length + 1 : Nat) : Int)).toNat = _
    omega
  unfold L2.atI
  rw [e]
  show (xs ++ [y])[xs.length]? = _
  rw [List.getElem?_append_right (Nat.le_refl _), Nat.sub_self]
  rfl
/-- what is told is short -/
theorem tell_len {n : Int} {ls : List Row} {c : Cmd} {t : Option Str} (ok : LsOk n ls) (hl : ls.length ≤ 50) (hb : bad n c = false) (hp : ∀ a b k, c = .blocking a b k → BlkOk a b k) (h : Tell n ls c t) : ∀ s, t = some s → s.length ≤ 1000 := by
  have SG := ok.sep (by omega)
  have n0 := ok.n0
  have n1 := ok.n1
  intro s e
  subst e
  cases c with
  | users k => cases h
  | need i j l => cases h
  | span =>
    obtain ⟨k, k1, k2, e⟩ := h
    cases e
    have hk : k ≤ 9 * n.toNat := by
      refine Nat.le_of_not_lt fun z => k2 _ z ?_
      have := (can_conv ok _).mp (can_far SG)
      rw [show ((9 * n.toNat : Nat) : Int) = 9 * n by omega]
      exact this
    have := numS_len (k := 3) (by decide) (show k < 10 ^ 3 by omega)
    have l5 : ("span " : Str).length = 5 := by decide +kernel
    rw [len_app]
    omega
  | assign c =>
    rcases h with ⟨_, e⟩ | ⟨_, e⟩
    · cases e
      exact (by decide +kernel : ("yes" : Str).length ≤ 1000)
    · cases e
      exact (by decide +kernel : ("no" : Str).length ≤ 1000)
  | check c ps =>
    have hps : (ps.length : Int) = n := Decidable.of_not_not (of_decide_eq_false hb)
    obtain ⟨s', h, e⟩ := h
    cases e
    rcases h with ⟨i, h1, _, _, rfl⟩ | ⟨_, ⟨i, j, h1, _, rfl⟩ | ⟨_, rfl⟩⟩
    · have := numS_len (k := 3) (by decide) (show i < 10 ^ 3 by omega)
      have l5 : ("outside " : Str).length = 8 := by decide +kernel
      rw [len_app]
      omega
    · have := h1.1
      have := h1.2.1
      have := numS_len (k := 3) (by decide) (show i < 10 ^ 3 by omega)
      have := numS_len (k := 3) (by decide) (show j < 10 ^ 3 by omega)
      have l5 : ("breaks " : Str).length = 7 := by decide +kernel
      have l1 : (" " : Str).length = 1 := by decide +kernel
      rw [len_app, len_app, len_app]
      omega
    · exact (by decide +kernel : ("keeps" : Str).length ≤ 1000)
  | greedy =>
    obtain ⟨xs, hg, e⟩ := h
    cases e
    have hsum : sumR (rowsOf ls) ≤ 900 := by
      have := sumR_le (R := rowsOf ls) fun r hr => (SG.rows r hr).2.2.2.2
      have := rowsOf_len ls
      omega
    have xlen : xs.length ≤ 24 := by rw [hg.1]; omega
    have xsm : ∀ x ∈ xs, 0 ≤ x ∧ x ≤ 900 := fun x hx => by
      obtain ⟨i, hi, e⟩ := List.mem_iff_getElem.mp hx
      obtain ⟨a, _, c⟩ := hg.2 i hi
      rw [List.getD_eq_getElem?_getD, List.getElem?_eq_getElem hi] at a c
      have a : 0 ≤ xs[i] := a
      have c : ∀ ch, 0 ≤ ch → ch < xs[i] → BlkC ls xs i ch := c
      have := greedy_le SG (ws := xs) (i := i) (m := xs[i].toNat) fun ch h0 h1 => (blk_conv ok ch).mpr (c ch h0 (by omega))
      rw [← e]
      omega
    have l1 : (" " : Str).length = 1 := by decide +kernel
    have sm : ((xs.map fun c => " " ++ numS c).map (·.length)).sum ≤ xs.length * 10 := by
      have a := sum_le (ys := xs.map fun c => " " ++ numS c) (b := 10) fun u hu => by
        obtain ⟨z, hz, rfl⟩ := List.mem_map.mp hu
        obtain ⟨x0, x9⟩ := xsm z hz
        have e : z = ((z.toNat : Nat) : Int) := by omega
        rw [e]
        have h9 : z.toNat < 10 ^ 9 := by omega
        have := numS_len (by decide) h9
        rw [len_app]
        omega
      rw [List.length_map] at a
      exact a
    have lg : ("greedy" : Str).length = 6 := by decide +kernel
    have jl : (Txt.join "" (xs.map fun c => " " ++ numS c)).length ≤ 240 := by
      rw [len_tl, tl_joinE, List.length_flatten, List.map_map]
      refine Nat.le_trans (Nat.le_of_eq (congrArg List.sum ?_)) (Nat.le_trans sm (by omega))
      exact List.map_congr_left fun y _ => by
        show (tl y).length = y.length
        rw [len_tl]
    show (greedyS xs).length ≤ 1000
    unfold greedyS
    rw [len_app]
    omega
  | blocking a b c =>
    cases h
    obtain ⟨q1, q2, _⟩ := (hp a b c rfl).bd c (Nat.le_refl _)
    obtain ⟨s1, s2, _, _⟩ := blk_txt q1 q2
    have l9 : ("blocking " : Str).length = 9 := by decide +kernel
    have l1 : ("/" : Str).length = 1 := by decide +kernel
    show (blockS a b c).length ≤ 1000
    unfold blockS
    rw [len_app, len_app, len_app]
    omega
theorem bad_put {n : Int} {i j l : Nat} (h : bad n (.need i j l) = false) : (i : Int) < n ∧ (j : Int) < n ∧ l ≤ 9 ∧ i ≠ j := by
  have h : ((decide (n - 1 < (i : Int)) || decide (n - 1 < (j : Int))) || (decide (9 < l) || decide (i = j))) = false := h
  rw [Bool.or_eq_false_iff, Bool.or_eq_false_iff, Bool.or_eq_false_iff, decide_eq_false_iff_not, decide_eq_false_iff_not, decide_eq_false_iff_not, decide_eq_false_iff_not] at h
  omega
theorem LsOk.after {n : Int} {ls : List Row} (ok : LsOk n ls) {c : Cmd} (hb : bad n c = false) : LsOk (after n ls c).1 (after n ls c).2 ∧ (after n ls c).2.length ≤ ls.length + 1 := by
  cases c with
  | users k =>
    have hk : ¬ 24 < k := of_decide_eq_false hb
    exact ⟨lsOk_nil (show (0 : Int) ≤ (k : Int) by omega) (show (k : Int) ≤ 24 by omega), Nat.zero_le _⟩
  | need i j l =>
    have h := bad_put hb
    exact ⟨ok.put (p := pairIJ i j) (l := (l : Int)) (by show 0 ≤ min (i : Int) j; omega) (by show min (i : Int) j < max (i : Int) j; omega) (by show max (i : Int) j < n; omega) (by omega) (by omega), put_len _ _ _⟩
  | span => exact ⟨ok, Nat.le_succ _⟩
  | assign c => exact ⟨ok, Nat.le_succ _⟩
  | check c ps => exact ⟨ok, Nat.le_succ _⟩
  | greedy => exact ⟨ok, Nat.le_succ _⟩
  | blocking a b c => exact ⟨ok, Nat.le_succ _⟩
theorem st_forH {K : PySem.W.Frag} {φ : Addr → Prop} {J : Hp → Prop} {ρ : List (Option D)} {σ : L2.St} {H : Hp} {ds : List D} {D0 : Ends} {wi : TI} {tb : TS} {g : TG} {us : List Nat} {ρt : D → List (Option D) → List (Option D)} (A : At K φ J ρ σ H) (hi : IterD K φ J wi ρ ds) (Inv : Hp → Nat → List (Option D) → (Hp → Prop) → Prop) (h0 : ∀ H1, But φ H H1 → J H1 → Inv H1 0 ρ J)
    (hg : ∀ H1 i d ρ' J', ds[i]? = some d → Inv H1 i ρ' J' → EvG K g d ρ' (ρt d ρ') us)
    (hs : ∀ H1 i d ρ' J', But φ H H1 → J H1 → ds[i]? = some d → Inv H1 i ρ' J' → ∀ σ' H', At K φ (fun H => J' H ∧ But φ H1 H) (ρt d ρ') σ' H' → tb { D0 with nx := NX K φ H1 (Inv H1) (i + 1), ct := NX K φ H1 (Inv H1) (i + 1), bk := D0.nx } σ' H')
    (hd : ∀ H1 ρ' J' σ' H', But φ H H1 → J H1 → Inv H1 ds.length ρ' J' → At K φ (fun H => J' H ∧ But φ H1 H) ρ' σ' H' → D0.nx σ' H') : tFor wi g tb D0 σ H :=
  hi σ H A _ fun J0 ds' H1 b A1 pd w => by
    subst pd
    exact forG_by (D0 := D0) A1 (Inv H1) (h0 H1 b A1.j) (fun i d ρ' J' hx inv => ⟨_, _, hg H1 i d ρ' J' hx inv, fun σ' H' A' => hs H1 i d ρ' J' b A1.j hx inv σ' H' A'⟩) (fun ρ' J' σ' H' inv A' => hd H1 ρ' J' σ' H' b A1.j inv A') J0 w
/-- what stays while commands are run -/
structure Bs (CT C0 : Addr) (H : Hp) (p dx d : Addr) (n : Int) (ls : List Row) (tb : Array Value) (H' : Hp) : Prop where
  con : ConAt CT p dx d n ls H'
  tj : TabJ C0 q0 tb H'
  old : ButP C0 H H'
def RInv (K : PySem.W.Frag) (φ : Addr → Prop) (CT C0 : Addr) (H : Hp) (p dx d0 l : Addr) (t : Str) (lines : List Str) (O : Option Nat) (R : List Str) (H1 : Hp) (i : Nat) (ρ : List (Option D)) (J : Hp → Prop) : Prop :=
  ∃ d n ls tb o r rp o4 o5 o6, RunsTo n ls (lines.drop i) o r ∧ O = o.map (· + i) ∧ rp ++ r = R ∧ LsOk n ls ∧ ls.length ≤ i ∧ rp.length ≤ i ∧ (∀ s ∈ rp, s.length ≤ 1001) ∧ (d = d0 ∨ H1 d = none) ∧ (∀ H', J H' → Bs CT C0 H p dx d n ls tb H') ∧ LivS K φ J l HO.lst (rp.map D.str) ∧
    ρ = [some (.str t), some (.lst (lines.map D.str)), some (.raw (.ref p)), some (.raw (.ref l)), o4, o5, o6]
section
variable {K : PySem.W.Frag} {φ : Addr → Prop} {CT cT cE C0 p dx d d0 l : Addr} {H : Hp} {t : Str} {lines : List Str} {O : Option Nat} {R : List Str} {E : XK}
theorem Bs.mo {n : Int} {ls : List Row} {tb : Array Value} {H2 : Hp} (h : Bs CT C0 H p dx d n ls tb H2) : Mo H2 (Bs CT C0 H p dx d n ls tb) := fun Ha Hb kk j =>
  ⟨⟨kk p _ (by rw [h.con.hp]; exact fun z => nomatch z) j.con.hp, kk d _ (by rw [h.con.hd]; exact fun z => nomatch z) j.con.hd⟩, h.tj.mo Ha Hb kk j.tj, fun a o n1 e => kk a o (by rw [h.old a o n1 e]; exact fun z => nomatch z) (j.old a o n1 e)⟩
theorem reps_strW {φ' : Addr → Prop} {H H' : Hp} : ∀ (ws : List Str) (xs : List V), Reps K φ H (ws.map D.str) xs → Reps K φ' H' (ws.map D.str) xs
  | [], _, h => h
  | w :: ws, xs, h => by
    obtain ⟨v, vs', rfl, h1, h2⟩ := (show ∃ v vs', xs = v :: vs' ∧ Rep K φ H (.str w) v ∧ Reps K φ H (ws.map D.str) vs' from h)
    exact Reps.cons (show Rep K φ' H' (.str w) v from h1) (reps_strW ws _ h2)
theorem rep_strW {φ' : Addr → Prop} {H H' : Hp} {ws : List Str} {v : V} {ls : List Row} (h : Rep K φ H (.lst (ws.map D.str)) v) (hd : H d = some (dHO ls)) (hk : ∀ a o, φ a → a ≠ d → H a = some o → φ' a ∧ H' a = some o) : Rep K φ' H' (.lst (ws.map D.str)) v := by
  obtain ⟨a, xs, rfl, p, rs⟩ := (show ∃ a xs, v = .ref a ∧ PL K φ H a xs ∧ Reps K φ H (ws.map D.str) xs from h)
  refine ⟨a, xs, rfl, ?_, reps_strW _ _ rs⟩
  rcases p with ⟨p1, p2⟩ | p
  · have ne : a ≠ d := fun z => by
      rw [z] at p2
      rcases p2 with p2 | ⟨o, p2⟩
      · rw [hd] at p2
        cases p2
      · rw [hd] at p2
        cases p2
    rcases p2 with p2 | ⟨o, p2⟩
    · obtain ⟨k1, k2⟩ := hk a _ p1 ne p2
      exact .inl ⟨k1, .inl k2⟩
    · obtain ⟨k1, k2⟩ := hk a _ p1 ne p2
      exact .inl ⟨k1, .inr ⟨o, k2⟩⟩
  · exact .inr p
abbrev rcBody (K : PySem.W.Frag) (CT cT cE C0 : Addr) (E : XK) : TS := tIfS (tAnd (tTest (tOp rNe (tVar 5) (tC (.str "")))) (tNot (tB (tM1 rStarts (tVar 5) (tC (.str "#"))))))
  (tSeq (fun D σ H => tAsg (tMethX CT "execute" (SpEx K CT cT C0) (WE (wOnly K (.ref cT) (fun a cls d x σ H => tMkO cE (SpIL cE "line") [] (tCons (tVar 4) tNil) σ H fun cls d H' => E cls d H') (fun cls d x H => E cls d H) D)) (tVar 2) (tCons (tM1 rSplit (tVar 5) (tC (.str " "))) tNil)) (gName 6) D σ H)
    (tIfS (tTest (tOp rNotN (tVar 6) (tC .non))) (tDrop (tBM K "list" rAppend (tVar 3) (tCons (tOp rAddS (tVar 6) (tC (.str "\n"))) tNil))) tNext)) tNext
theorem rc_body (X_T : PySem.W.exmOne K (.ref cT) (.ref cT) = some true) (nC : ¬ φ C0) (np : ¬ φ p) (n0 : ¬ φ d0) (nl : ¬ φ l) (hp0 : H p = none) (hd00 : H d0 = none) (hl0 : H l = none) (hlz : ∀ x ∈ lines, x.length ≤ 900000 ∧ WsOk (Txt.split x " ") ∧ Txt.split x " " ≠ []) (few : lines.length ≤ 40)
    (hno : ∀ k : Nat, O = some k → ∀ H' d tb', ButP C0 H H' → TabJ C0 q0 tb' H' → H' d = some (.xd [("line", .int (k : Int))]) → E (.ref cE) (some d) H')
    {H1 : Hp} (hH1 : ∀ a, H a ≠ none → H1 a ≠ none) {i : Nat} {x : Str} {ρ' : List (Option D)} {J' : Hp → Prop} (hx : lines[i]? = some x) (inv : RInv K φ CT C0 H p dx d0 l t lines O R H1 i ρ' J') {rt : VK} {bk ct : L2.St → Hp → Prop} {σ6 : L2.St} {H6 : Hp}
    (A6 : At K φ (fun H' => J' H' ∧ But φ H1 H') ((ρ'.set 4 (some (.int (1 + (i : Nat))))).set 5 (some (.str x))) σ6 H6) : rcBody K CT cT cE C0 E ⟨NX K φ H1 (RInv K φ CT C0 H p dx d0 l t lines O R H1) (i + 1), rt, bk, ct⟩ σ6 H6 := by
  obtain ⟨d, n, ls, tb, o, r, rp, o4, o5, o6, hr, hO, hR, ok, hls, hrp, hrs, hd0, hB, LJ, rfl⟩ := inv
  replace A6 : At K φ (fun H' => J' H' ∧ But φ H1 H') [some (.str t), some (.lst (lines.map D.str)), some (.raw (.ref p)), some (.raw (.ref l)), some (.int (1 + (i : Nat))), some (.str x), o6] σ6 H6 := A6
  have hil : i < lines.length := (List.getElem?_eq_some_iff.mp hx).1
  have hxi : lines[i] = x := (List.getElem?_eq_some_iff.mp hx).2
  obtain ⟨xl, W, wne⟩ := hlz x (List.mem_of_getElem? hx)
  rw [List.drop_eq_getElem_cons hil, hxi] at hr
  have hdH : H d = none := by
    rcases hd0 with z | z
    · rw [z]; exact hd00
    · cases e : H d with
      | none => rfl
      | some u => exact absurd z (hH1 d (by rw [e]; exact fun z => nomatch z))
  refine st_if A6 (et_and (et_test (ev_neS (ev_var (i := 5) rfl) ev_str)) fun _ => et_not (et_B (ev_startswith (ev_var (i := 5) rfl) ev_str))) (fun hb H7 A7 => ?_) (fun hb H7 A7 => st_next ?_)
  · have hb : blankB x = false := by
      have hb : true = (!decide (x = "") && !Txt.startswith x "#") := hb
      unfold blankB
      rw [← Bool.not_or] at hb
      rw [← Bool.not_eq_true', ← hb]
    have hpre : PreEx n (Txt.split x " ") := by
      cases hr with
      | skip h _ => rw [hb] at h; cases h
      | cmd _ _ _ _ hp _ => exact hp
      | stop _ hj =>
        intro c e1 e2
        unfold rejB at hj
        rw [e1] at hj
        have hj : bad n c = true := hj
        rw [e2] at hj
        cases hj
    have pB := hB _ A7.j.1
    obtain ⟨v, ev, rv⟩ := A7.sr.2 2 _ rfl
    cases (show v = _ from rv)
    refine ⟨_, ev, p, dx, _, rfl, pB.con.hp, no_attr (by decide +kernel) (by decide +kernel), ?_⟩
    refine (ea_cons (ev_splitD (ev_var (i := 5) rfl) ev_str (by decide +kernel) (by omega)) ea_nil) σ6 H7 A7 _ fun vs ds H8 b8 A8 e8 r8 => ?_
    subst e8
    obtain ⟨v1, rfl, r1⟩ := r8.one
    clear pB ev rv r8 b8 A7 A6 H6 H7
    have pB := hB _ A8.j.1
    have pC : p ≠ C0 := fun z => by
      have := pB.tj.1
      rw [← z, pB.con.hp] at this
      cases this
    have dC : d ≠ C0 := fun z => by
      have := pB.tj.1
      rw [← z, pB.con.hd] at this
      cases this
    obtain ⟨vs, Hb, rr, m0, k0⟩ := LJ.ex
    have hl8 := k0 _ A8.j.1
    have lp : l ≠ p := fun z => by
      have := hl8.1
      rw [z, pB.con.hp] at this
      cases this
    have ld : l ≠ d := fun z => by
      have := hl8.1
      rw [z, pB.con.hd] at this
      cases this
    have lC : l ≠ C0 := fun z => by
      have := hl8.1
      rw [z, pB.tj.1] at this
      cases this
    refine ⟨fun a => φ a ∧ a ≠ d, p, dx, d, n, ls, tb, Txt.split x " ", [v1], rfl, Reps.cons (rep_strW r1 pB.con.hd fun a o pa ne e => ⟨⟨pa, ne⟩, e⟩) Reps.nil, ⟨fun a h => ⟨A8.fr.new a h, fun z => by rw [z, pB.con.hd] at h; cases h⟩, fun a xs h => ⟨A8.fr.tup a xs h, fun z => by rw [z, pB.con.hd] at h; cases h⟩⟩, fun z => np z.1, fun z => z.2 rfl, fun z => nC z.1, pB.con, pB.tj, ok, by omega, W, wne, hpre, ?_, ?_⟩
    · intro c tt hc hbd ht H9 d9 tb9 keep hd9 con9 tj9
      obtain ⟨o', r', rfl, rfl, hrun⟩ : ∃ o' r', o = o'.map (· + 1) ∧ r = toldL tt ++ r' ∧ RunsTo (after n ls c).1 (after n ls c).2 (lines.drop (i + 1)) o' r' := by
        cases hr with
        | skip h _ => rw [hb] at h; cases h
        | @cmd _ _ _ _ o' r' c' t' _ h2 h3 h4 h5 h6 =>
          rw [hc] at h2
          cases h2
          cases ht.uniq h4
          exact ⟨o', r', rfl, rfl, h6⟩
        | stop _ hj =>
          unfold rejB at hj
          rw [hc] at hj
          have hj : bad n c = true := hj
          rw [hbd] at hj
          cases hj
      obtain ⟨okA, lenA⟩ := ok.after hbd
      have hlen := tell_len ok (by omega) hbd (fun a b k e => (hpre c hc hbd).2 a b k e) ht
      -- what stays
      have tr9 : ∀ a, H8 a ≠ none → H9 a ≠ none := fun a h => by
        by_cases e1 : a = p
        · rw [e1, con9.hp]; exact fun z => nomatch z
        · by_cases e2 : a = C0
          · rw [e2, tj9.1]; exact fun z => nomatch z
          · by_cases e3 : a = d
            · rcases hd9 with z | z
              · rw [e3, ← z, con9.hd]; exact fun z => nomatch z
              · rw [e3, z.2, pB.con.hd]; exact fun z => nomatch z
            · cases e : H8 a with
              | none => exact absurd e h
              | some u => rw [keep a u e1 e3 e2 e]; exact fun z => nomatch z
      have bs9 : Bs CT C0 H p dx d9 (after n ls c).1 (after n ls c).2 tb9 H9 := ⟨con9, tj9, fun a o na e => keep a o (ne_of_none e hp0) (ne_of_none e hdH) na (pB.old a o na e)⟩
      have hl9 : H9 l = some (.lst vs) := keep l _ lp ld lC hl8.1
      have bH1 : But φ H1 H9 := by
        refine ⟨fun a u pa e => ?_, fun a h => tr9 a (A8.j.2.tr a h)⟩
        have e8 := A8.j.2.keep a u pa e
        refine keep a u (fun z => np (z ▸ pa)) (fun z => ?_) (fun z => nC (z ▸ pa)) e8
        rcases hd0 with z0 | z0
        · exact n0 (by rw [← z0, ← z]; exact pa)
        · rw [← z, e] at z0
          cases z0
      have fr9 : Frm φ H9 := ⟨fun a h => A8.fr.new a (by
          cases e : H8 a with
          | none => rfl
          | some u => exact absurd h (tr9 a (by rw [e]; exact fun z => nomatch z))), fun a xs h => by
        cases e : H8 a with
        | none => exact A8.fr.new a e
        | some u =>
          by_cases e1 : a = p
          · rw [e1, con9.hp] at h; cases h
          · by_cases e2 : a = C0
            · rw [e2, tj9.1] at h; cases h
            · by_cases e3 : a = d
              · rcases hd9 with z | z
                · rw [e3, ← z, con9.hd] at h; cases h
                · rw [e3, z.2, pB.con.hd] at h; cases h
              · have z := keep a u e1 e3 e2 e
                rw [h] at z
                cases z
                exact A8.fr.tup a xs e⟩
      -- the list and the words, as they stand then
      let J9 : Hp → Prop := fun H' => (Bs CT C0 H p dx d9 (after n ls c).1 (after n ls c).2 tb9 H' ∧ H' l = some (.lst vs)) ∧ But φ H9 H'
      have A9 : At K φ (fun H' => J9 H' ∧ But φ H1 H') [some (.str t), some (.lst (lines.map D.str)), some (.raw (.ref p)), some (.raw (.ref l)), some (.int (1 + (i : Nat))), some (.str x), none] σ6 H9 := by
        refine ⟨⟨A8.sr.1, fun j dd hj => ?_⟩, fr9, ⟨⟨⟨bs9, hl9⟩, But.refl _ _⟩, bH1⟩, ((bs9.mo.and (Mo.at (by rw [hl9]; exact fun z => nomatch z))).and (Mo.but fun _ h => h)).and (Mo.but bH1.tr)⟩
        rcases j with _ | _ | _ | _ | _ | _ | _ | j
        · cases hj
          exact A8.sr.2 0 _ rfl
        · cases hj
          obtain ⟨u, e, r⟩ := A8.sr.2 1 _ rfl
          exact ⟨u, e, rep_strW r pB.con.hd fun a o pa ne e => ⟨pa, keep a o (fun z => np (z ▸ pa)) ne (fun z => nC (z ▸ pa)) e⟩⟩
        · cases hj
          exact A8.sr.2 2 _ rfl
        · cases hj
          exact A8.sr.2 3 _ rfl
        · cases hj
          exact A8.sr.2 4 _ rfl
        · cases hj
          exact A8.sr.2 5 _ rfl
        · cases hj
        · cases hj
      have L9 : LivS K φ (fun H' => J9 H' ∧ But φ H1 H') l HO.lst (rp.map D.str) := ⟨nl, vs, H9, reps_strW _ _ rr, (by rw [hl9]; exact fun z => nomatch z), fun H' h => ⟨h.1.1.2, h.1.2⟩⟩
      have hd9' : d9 = d0 ∨ H1 d9 = none := by
        rcases hd9 with z | z
        · rw [z]; exact hd0
        · refine .inr ?_
          cases e : H1 d9 with
          | none => rfl
          | some u => exact absurd z.1 (A8.j.2.tr d9 (by rw [e]; exact fun z => nomatch z))
      have l9 : l ≠ d9 := fun z => by
        rw [z, con9.hd] at hl9
        cases hl9
      have stab : Stab l (Bs CT C0 H p dx d9 (after n ls c).1 (after n ls c).2 tb9) := fun H' o b => ⟨⟨(upd_ne lp.symm).trans b.con.hp, (upd_ne l9.symm).trans b.con.hd⟩, ⟨(upd_ne lC.symm).trans b.tj.1, b.tj.2.1, fun pos cv hc => by
        obtain ⟨c, ec, hc1⟩ := b.tj.2.2 pos cv hc
        obtain ⟨c', ec', hc9⟩ := tj9.2.2 pos cv hc
        rw [ec] at ec'
        cases ec'
        refine ⟨c, ec, (upd_ne fun z => ?_).trans hc1⟩
        rw [z, hl9] at hc9
        cases hc9⟩, fun a o' na e => (upd_ne (ne_of_none e hl0)).trans (b.old a o' na e)⟩
      refine eg_name (d := toldD tt) φ _ σ6 H9 _ A9 (by cases tt <;> exact rfl) _ fun σ7 A10 _ => ?_
      replace A10 : At K φ (fun H' => J9 H' ∧ But φ H1 H') [some (.str t), some (.lst (lines.map D.str)), some (.raw (.ref p)), some (.raw (.ref l)), some (.int (1 + (i : Nat))), some (.str x), some (toldD tt)] σ7 H9 := A10
      refine st_if A10 (et_test (ev_notN (ev_var (i := 6) rfl))) (fun hb H11 A11 => ?_) (fun hb H11 A11 => st_next ?_)
      · cases tt with
        | none => cases hb
        | some s =>
          have l1 : ("\n" : Str).length = 1 := by decide +kernel
          have sl := hlen s rfl
          refine st_appS (P := fun d => d = .str (s ++ "\n")) A11 L9 (k := 3) rfl (ev_addS (ev_var (i := 6) rfl) ev_str (by omega)) (by rw [List.length_map]; omega) fun dd J12 H12 hdd W12 L12 A12 => ?_
          subst hdd
          have b12 : But φ H1 H12 := W12.base (But φ H1) (fun H' h => h.2) (fun H' o b => b.upd nl) H12 A12.j
          refine ⟨_, J12, ⟨d9, (after n ls c).1, (after n ls c).2, tb9, o', r', rp ++ [s ++ "\n"], _, _, _, hrun, ?_, ?_, okA, by omega, ?_, fun u hu => ?_, hd9', W12.base _ (fun H' h => h.1.1.1) stab, ?_, rfl⟩, A12.sr, A12.fr, ⟨A12.j, b12⟩, A12.mono.and (Mo.but b12.tr)⟩
          · rw [hO, Option.map_map]
            congr 1
            funext z
            show z + 1 + i = z + (i + 1)
            omega
          · rw [← hR, List.append_assoc]
            rfl
          · rw [List.length_append, List.length_singleton]
            omega
          · rcases List.mem_append.mp hu with hu | hu
            · exact hrs u hu
            · rw [List.mem_singleton.mp hu, len_app]
              omega
          · rw [List.map_append]
            exact L12
      · cases tt with
        | some s => cases hb
        | none =>
          have b11 : But φ H1 H11 := A11.j.2
          refine ⟨_, J9, ⟨d9, (after n ls c).1, (after n ls c).2, tb9, o', r', rp, _, _, _, hrun, ?_, hR, okA, by omega, by omega, hrs, hd9', fun H' h => h.1.1, ⟨nl, vs, H9, reps_strW _ _ rr, (by rw [hl9]; exact fun z => nomatch z), fun H' h => ⟨h.1.2, h.2⟩⟩, rfl⟩, A11⟩
          rw [hO, Option.map_map]
          congr 1
          funext z
          show z + 1 + i = z + (i + 1)
          omega
    · intro hj H9 s9
      have hO1 : O = some (1 + i) := by
        cases hr with
        | skip h _ => rw [hb] at h; cases h
        | cmd _ h2 h3 _ _ _ =>
          unfold rejB at hj
          rw [h2] at hj
          have hj : bad n _ = true := hj
          rw [h3] at hj
          cases hj
        | stop _ _ => exact hO
      refine ⟨true, X_T, fun _ a ha => ?_, fun e => nomatch e⟩
      refine st_raiseL (W := fun cls d _ H' => E cls d H') (n := 1 + (i : Nat)) (A8.same s9) (ev_var (i := 4) rfl) fun dd H10 H11 b10 A10 hdd s11 e11 => ?_
      have pB := hB _ A10.j.1
      refine hno (1 + i) hO1 H11 dd tb (fun a o na e => s11 a o (pB.old a o na e)) (pB.tj.same s11) ?_
      rw [e11]
      congr 4
  · have hb : blankB x = true := by
      have hb : false = (!decide (x = "") && !Txt.startswith x "#") := hb
      unfold blankB
      rw [← Bool.not_or] at hb
      rw [eq_comm, Bool.not_eq_false'] at hb
      exact hb
    obtain ⟨o', ho, hrun⟩ : ∃ o', o = o'.map (· + 1) ∧ RunsTo n ls (lines.drop (i + 1)) o' r := by
      cases hr with
      | @skip _ _ _ _ o' _ _ h => exact ⟨o', rfl, h⟩
      | cmd h _ _ _ _ _ => rw [hb] at h; cases h
      | stop h _ => rw [hb] at h; cases h
    subst ho
    refine ⟨_, J', ⟨d, n, ls, tb, o', r, rp, _, _, _, hrun, ?_, hR, ok, by omega, by omega, hrs, hd0, hB, LJ, rfl⟩, A7⟩
    rw [hO, Option.map_map]
    congr 1
    funext z
    show z + 1 + i = z + (i + 1)
    omega
end
end

/-! ### run_console, as a whole -/
section
open TL
section
variable {K : PySem.W.Frag} {φ : Addr → Prop} {CT cT cE C0 : Addr} {H : Hp} {t : Str} {lines : List Str} {D0 : Ends} {σ : L2.St} {rest : TS}
theorem rc_lines (hT : TxtOk t lines) (A : At K φ (Same H) [some (.str t), none, none, none, none, none, none] σ H) (kk : ∀ J3 σ3 H3, (∀ H', J3 H' → Same H H') → At K φ J3 [some (.str t), some (.lst (lines.map D.str)), none, none, none, none, none] σ3 H3 → rest D0 σ3 H3) :
    tSeq (tAsg (tM1 rSplit (tVar 0) (tC (.str "\n"))) (gName 1)) (tSeq (tIfS (tTest (tOp rEq (tOp (rIxL K) (tVar 1) (tUn (rU fun i => .int (-i)) (tC (.int 1)))) (tC (.str "")))) (tDrop (tBM0 K "list" rPop (tVar 1))) tNext) rest) D0 σ H := by
  obtain ⟨xs, last, hsp, hln⟩ := hT.sp
  refine st_newS A (en_ofN (ev_split (ev_var (i := 0) rfl) ev_str (by decide +kernel) (by have := hT.len; omega))) fun l ds0 C J2 σ2 H2 hC N2 L2' A2 => q ?_
  obtain ⟨e, rfl⟩ := hC
  subst e
  rw [hsp, List.map_append] at L2'
  have hs2 : ∀ H', J2 H' → Same H H' := N2.ext.imp
  refine st_if A2 (et_test (ev_eqS (ev_ixS L2' (ev_var (i := 1) rfl) (ev_neg ev_int) atI_snoc) ev_str)) (fun hb H3 A3 => ?_) (fun hb H3 A3 => st_next (q ?_))
  · have hb : last = "" := of_decide_eq_true hb.symm
    rw [if_pos hb] at hln
    refine pop_run A3 L2' rfl fun v J' H' W L3 A4 r => q ?_
    have A5 := L3.freeze N2.fr A4 (k := 1) rfl
    rw [← hln] at A5
    refine kk _ _ _ ?_ A5
    exact fun H'' h => W.base (Same H) hs2 (N2.same fun _ h => h) H'' h.1
  · have hb : ¬ last = "" := of_decide_eq_false hb.symm
    rw [if_neg hb] at hln
    have A5 := L2'.freeze N2.fr A3 (k := 1) rfl
    rw [← List.map_append, ← hln] at A5
    refine kk _ _ _ ?_ A5
    exact fun H'' h => hs2 H'' h.1
theorem rc_console {J3 : Hp → Prop} {ρ : List (Option D)} {H3 : Hp} {tb : Array Value} (hl : ρ.length = 7) (A : At K φ J3 ρ σ H3) (hs : ∀ H', J3 H' → Same H H') (nC : ¬ φ C0) (tj : TabJ C0 q0 tb H)
    (kk : ∀ p dx d0 σ' H4, H p = none → H d0 = none → At K (wo (wo φ p) d0) (fun H' => Bs CT C0 H p dx d0 0 [] tb H' ∧ But (wo (wo φ p) d0) H4 H') (ρ.set 2 (some (.raw (.ref p)))) σ' H4 → rest D0 σ' H4) :
    tSeq (tAsg (tMake CT (SpCI CT) [] E0 tNil) (gName 2)) rest D0 σ H3 := by
  intro x dx hx hdx ne
  refine ⟨x, dx, rfl, upd_same, fun H4 d hd ndx keep con => ⟨rfl, ?_⟩⟩
  have hd3 : H3 d = none := by
    rw [upd_ne ndx] at hd
    by_cases e : d = dx
    · rw [e]; exact hdx
    · rw [upd_ne e] at hd
      exact hd
  have s34 : ∀ a o, H3 a = some o → H4 a = some o := fun a o e => keep a o (ne_of_none e hx) ((upd_ne (ne_of_none e hx)).trans ((upd_ne (ne_of_none e hdx)).trans e))
  have s3 := hs _ A.j
  have none0 : ∀ {a}, H3 a = none → H a = none := fun {a} h => by
    cases e : H a with
    | none => rfl
    | some u => rw [s3 a u e] at h; cases h
  have bs4 : Bs CT C0 H x dx d 0 [] tb H4 := ⟨con, (tj.same s3).same s34, fun a o _ e => s34 a o (s3 a o e)⟩
  have A4 : At K (wo (wo φ x) d) (fun H' => Bs CT C0 H x dx d 0 [] tb H' ∧ But (wo (wo φ x) d) H4 H') ρ σ H4 := by
    refine ⟨A.sr.up fun a o p e => ⟨⟨⟨p, ne_of_none e hx⟩, ne_of_none e hd3⟩, s34 a o e⟩, ⟨fun a h => ⟨⟨A.fr.new a ?_, fun z => ?_⟩, fun z => ?_⟩, fun a xs h => ⟨⟨?_, fun z => ?_⟩, fun z => ?_⟩⟩, ⟨bs4, But.refl _ _⟩, bs4.mo.and (Mo.but fun _ h => h)⟩
    · cases e : H3 a with
      | none => rfl
      | some u => rw [s34 a u e] at h; cases h
    · rw [z, con.hp] at h; cases h
    · rw [z, con.hd] at h; cases h
    · cases e : H3 a with
      | none => exact A.fr.new a e
      | some u =>
        have z := s34 a u e
        rw [h] at z
        cases z
        exact A.fr.tup a xs e
    · rw [z, con.hp] at h; cases h
    · rw [z, con.hd] at h; cases h
  exact eg_name (d := .raw (.ref x)) _ _ σ H4 _ A4 rfl _ fun σ' A5 _ => q (kk x dx d σ' H4 (none0 hx) (none0 hd3) A5)
end
section
variable {P : Program} {w : World} {K : PySem.W.Frag} {mg : Str → Option Value} {base : Heap}
theorem sc_run_console : FnScope ["text", "lines", "console", "report", "number", "line", "told"] ["text"] (defScope s_run_console) := ⟨rfl, rfl, rfl, by decide +kernel, rfl, by decide +kernel, by decide +kernel⟩
def SpRun (C0 cE : Addr) : Sp := fun vs H Q E => ∃ φ t lines o R tb, vs = [.str t] ∧ Frm φ H ∧ ¬ φ C0 ∧ TabJ C0 q0 tb H ∧ TxtOk t lines ∧ RunsTo 0 [] lines o R ∧
  (o = none → ∀ H' tb', ButP C0 H H' → TabJ C0 q0 tb' H' → Q (.str (Txt.join "" R)) H') ∧
  ∀ k : Nat, o = some k → ∀ H' d tb', ButP C0 H H' → TabJ C0 q0 tb' H' → H' d = some (.xd [("line", .int (k : Int))]) → E (.ref cE) (some d) H'
theorem ok_run_console (B : Bi mg) (C : Cs mg) {CT : Addr} (T_Console : TConsole K mg CT) {cT C0 : Addr} (X_InvalidText : ExC K mg "InvalidText" cT) {cE fI cc cda : Addr} {fdI : FuncData} (X_InvalidLine : IL P K mg cE fI fdI cc cda) {f : Addr} {fd : FuncData} (F : Fun K "run_console" "run_console" s_run_console f fd)
    {g1 : Addr} {gd1 : FuncData} (L_Console___init__ : LkM K CT "__init__" g1 gd1 ["self"]) (M_Console : Mk K CT g1) (G_Console___init__ : FnOk P w K mg base CX0 1 g1 gd1 ["self"] (SpCI CT)) {g2 : Addr} {gd2 : FuncData} (L_Console_execute : LkM K CT "execute" g2 gd2 ["self", "words"]) (G_Console_execute : FnOk P w K mg base (L2N.CX P w) 163 g2 gd2 ["self", "words"] (SpEx K CT cT C0)) :
    FnOk P w K mg base (L2.CX P w) 164 f fd ["text"] (SpRun C0 cE) := by
  have S := sc_run_console
  refine F.okX S (fun vs H Q E h => ?_) (fun cdv A outer s H vs Q E hr h => ?_)
  · obtain ⟨φ, t, lines, o, R, tb, rfl, _⟩ := h
    rfl
  · obtain ⟨φ, t, lines, o, R, tb, rfl, fr, nC, tj, hT, hrun, hyes, hno⟩ := h
    refine ⟨_, ((pss_cons (ps_set (i := 1) S.nd rfl (by first | exact Or.inl rfl | exact Or.inr rfl) (pe_m1 PySem.F.slot_str_split PySem.F.type_str_split mu_split (pv 0) pe_str))
 (pss_cons (ps_if (pt_cmpR op_eq (pe_ix ix_list (pv 1) (pe_un un_neg pe_int) (fun _ _ => rfl)) pe_str (nomark _))
 (pss_one (ps_expr (pe_bm0 PySem.F.plainAttrs_list PySem.F.slot_list_pop PySem.F.type_list_pop mt_pop (pv 1))))
 pss_nil)
 (pss_cons (ps_set (i := 2) S.nd rfl (by first | exact Or.inl rfl | exact Or.inr rfl) (pe_make0 M_Console G_Console___init__ (hr.mono (by first | exact Nat.le_refl _ | decide | omega)) (by rfl) T_Console.mgC L_Console___init__.bi .nil pass0))
 (pss_cons (ps_set (i := 3) S.nd rfl (by first | exact Or.inl rfl | exact Or.inr rfl) (pe_lst pa_nil))
 (pss_cons (ps_for (passes_of rfl) rfl (pi_enumS (by rfl) B.enumerate (pv 1) pe_int) (pg_tup (by rfl) (pgs_cons (pg_name (i := 4) S.nd rfl (by first | exact Or.inl rfl | exact Or.inr rfl)) (pgs_cons (pg_name (i := 5) S.nd rfl (by first | exact Or.inl rfl | exact Or.inr rfl)) pgs_nil)))
 (pss_one (ps_if (PW.pt (pw_and (pt_cmpR op_ne (pv 5) pe_str (nomark _)) (pw_and1 (pt_not (pt_val (pe_m1 PySem.F.slot_str_startswith PySem.F.type_str_startswith mu_startswith (pv 5) pe_str))))))
 (pss_cons (L2H.ps_try_onlyX rfl rfl ⟨(by rfl), by decide, .inl X_InvalidText.m⟩ (fun _ => PassesOwnAt.leaving) (takes_of rfl rfl rfl rfl) (fun W pn xe tk tk2 po => (pss_one (ps_set (i := 6) S.nd rfl (by first | exact Or.inl rfl | exact Or.inr rfl) (pe_methX (pv 2) T_Console.cl L_Console_execute.me G_Console_execute (hr.mono (by first | exact Nat.le_refl _ | decide | omega)) L_Console_execute.bi (fun σ => L2N.passAt tk σ) (pa_cons (pe_m1 PySem.F.slot_str_split PySem.F.type_str_split mu_split (pv 5) pe_str) pa_nil)))))
 (fun a oe cls d pn hz hf tk hot => (pss_one (L2H.ps_raiseH hot tk (L2H.pmk5_oexH X_InvalidLine.sup.ex X_InvalidLine.ic X_InvalidLine.ti X_InvalidLine.okH (L2H.roomH_mark (hr.mono (by first | exact Nat.le_refl _ | decide | omega)) _) hot X_InvalidLine.bi pass0 (by rfl) X_InvalidLine.m (pa_cons (pv 4) pa_nil)).pmk))))
 (pss_one (ps_if (pt_cmpR op_notN1 (pv 6) pe_non (nomark _))
 (pss_one (ps_expr (pe_bm PySem.F.plainAttrs_list PySem.F.slot_list_append PySem.F.type_list_append mt_append (pv 3) (pa_cons (pe_op op_addS (pv 6) pe_str) pa_nil))))
 pss_nil)))
 pss_nil)))
 (pss_one (ps_ret (pe_m1 PySem.F.slot_str_join PySem.F.type_str_join mu_join pe_str (pv 3)))))))))), ?_⟩
    have A0 : At K φ (Same H) [some (.str t), none, none, none, none, none, none] (L2.start ["text", "lines", "console", "report", "number", "line", "told"] [.str t]) H :=
      ⟨SR.start (ds := [.str t]) (n := 6) (Reps.cons rfl Reps.nil), fr, Same.refl H, Mo.sames fun _ h => h⟩
    refine rc_lines hT A0 fun J3 σ3 H3 hs A3 => ?_
    refine rc_console rfl A3 hs nC tj fun p dx d0 σ4 H4 hp0 hd0 A4 => ?_
    refine st_newS A4 (en_ofN (en_lstD ea_nil)) fun l ds0 Cc J5 σ5 H5 hC N5 L5 A5 => q ?_
    obtain ⟨e, rfl⟩ := hC
    subst e
    have hJ5 : ∀ H', J5 H' → Bs CT C0 H p dx d0 0 [] tb H' := fun H' h => (N5.ext.imp H' h).1
    have hl0 : H l = none := by
      obtain ⟨Hc, jc, ec⟩ := N5.hc
      cases e : H l with
      | none => rfl
      | some u =>
        by_cases z : l = C0
        · rw [z, jc.1.tj.1] at ec
          cases ec
        · rw [jc.1.old l u z e] at ec
          cases ec
    refine st_forH (us := [4, 5]) (ρt := fun d ρ' => match d with | .tup [a, b] => (ρ'.set 4 (some a)).set 5 (some b) | _ => ρ') A5 (it_enumS (ev_var (i := 1) rfl) rfl ev_int (by decide)) (RInv K (wo (wo (wo φ p) d0) l) CT C0 H p dx d0 l t lines o R) (fun H1 b1 j1 => ?_) ?_ ?_ ?_
    · exact ⟨d0, 0, [], tb, o, R, [], none, none, none, hrun, by cases o <;> rfl, rfl, lsOk_nil (by decide) (by decide), Nat.le_refl _, Nat.le_refl _, fun s hs => (by cases hs), .inl rfl, hJ5, L5, rfl⟩
    · rintro H1 i d ρ' J' hd ⟨d9, n, ls, tb9, o9, r9, rp, o4, o5, o6, _, _, _, _, _, _, _, _, _, _, rfl⟩
      rw [enumD_get, List.getElem?_map] at hd
      cases hx : lines[i]? with
      | none => rw [hx] at hd; cases hd
      | some x =>
        rw [hx] at hd
        cases hd
        exact eg_tup (ds := [.int (1 + (i : Nat)), .str x]) (egs_cons eg_name (egs_cons eg_name egs_nil))
    · intro H1 i d ρ' J' b1 j1 hd inv σ6 H6 A6
      rw [enumD_get, List.getElem?_map] at hd
      cases hx : lines[i]? with
      | none => rw [hx] at hd; cases hd
      | some x =>
        rw [hx] at hd
        cases hd
        have pB := hJ5 _ j1
        refine rc_body X_InvalidText.x (fun z => nC z.1.1.1) (fun z => z.1.1.2 rfl) (fun z => z.1.2 rfl) (fun z => z.2 rfl) hp0 hd0 hl0 hT.ws hT.few hno (fun a h => ?_) hx inv A6
        by_cases z : a = C0
        · rw [z, pB.tj.1]
          exact fun z => nomatch z
        · cases e : H a with
          | none => exact absurd e h
          | some u => rw [pB.old a u z e]; exact fun z => nomatch z
    · rintro H1 ρ' J' σ6 H6 b1 j1 ⟨d9, n, ls, tb9, o9, r9, rp, o4, o5, o6, hr9, hO, hR, ok, hls, hrp, hrs, hd9, hB, L9, rfl⟩ A6
      rw [enumD_length, List.length_map, List.drop_length] at hr9
      rw [enumD_length, List.length_map] at hrp
      cases hr9
      rw [List.append_nil] at hR
      subst hR
      have few := hT.few
      have A7 := L9.but.freeze N5.fr A6 (k := 3) rfl
      refine st_ret A7 (ev_join (ys := rp) ev_str (ev_var (i := 3) rfl) ?_) fun v d7 H7 e A8 r7 => ?_
      · have := sum_le (ys := rp) (b := 1001) hrs
        have l0 : ("" : Str).length = 0 := by decide +kernel
        rw [l0, Nat.mul_zero]
        omega
      · rw [e] at r7
        cases (show v = _ from r7)
        have pB := hB _ A8.j.1.1
        exact hyes hO H7 tb9 pB.old pB.tj
end
end

/-! ### _law_told -/
section
open TL
def oD (R : List Str) : Option Nat → D
  | none => .str (Txt.join "" R)
  | some k => .int (k : Int)
/-- what a text tells -/
def RunT (t : Str) (d : D) : Prop := ∃ lines o R, TxtOk t lines ∧ RunsTo 0 [] lines o R ∧ d = oD R o
def RTold : List D → D → Prop := fun ds d => ∃ t, ds = [.str t] ∧ RunT t d
section
variable {P : Program} {w : World} {K : PySem.W.Frag} {mg : Str → Option Value} {base : Heap}
theorem sc__law_told : FnScope ["text", "e"] ["text"] (defScope s__law_told) := ⟨rfl, rfl, rfl, by decide +kernel, rfl, by decide +kernel, by decide +kernel⟩
theorem ok__law_told {cE fI cc cda C0 : Addr} {fdI : FuncData} (X_InvalidLine : IL P K mg cE fI fdI cc cda) {f g : Addr} {fd gd : FuncData} (F : Fun K "_law_told" "_law_told" s__law_told f fd)
    (L_run_console : Lk K mg "run_console" g gd ["text"]) (G_run_console : FnOk P w K mg base (L2.CX P w) 164 g gd ["text"] (SpRun C0 cE)) : FnOk P w K mg base CX0 166 f fd ["text"] (SpT K C0 q0 1 RTold) := by
  have S := sc__law_told
  refine F.ok S (fun vs H Q E h => ?_) (fun cdv A outer s H vs Q E hr h => ?_)
  · obtain ⟨φ, ds, d, tb, hl, r, _⟩ := h
    rw [r.length, hl]
    rfl
  · obtain ⟨φ, ds, d, tb, hl, r, fr, nC, tj, hR, hq⟩ := h
    obtain ⟨t, rfl, lines, o, R, hT, hrun, rfl⟩ := hR
    obtain ⟨v, rfl, rv⟩ := r.one
    cases (show v = _ from rv)
    refine ⟨_, ((pss_one (ps_try_as (i := 1) rfl rfl S.nd rfl (by rfl) ⟨(by rfl), by decide, .inl X_InvalidLine.m⟩ takes0 (fun W pn xe tk po => (pss_one (ps_ret (pe_callS G_run_console (hr.mono (by first | exact Nat.le_refl _ | decide | omega)) (by rfl) L_run_console.m L_run_console.kp L_run_console.bi (fun σ => passAt tk σ) (pa_cons (pv 0) pa_nil)))))
 (fun a oe cls d pn hz hf => (pss_one (ps_ret (pe_xf X_InvalidLine.xf X_InvalidLine.nl hz hf (pv 1)))))))), ?_⟩
    have A0 : At K φ (JT C0 q0 H tb) [some (.str t), none] (L2.start ["text", "e"] [.str t]) H :=
      ⟨SR.start (ds := [.str t]) (n := 1) (Reps.cons rfl Reps.nil), fr, ⟨ButP.of (Same.refl H), tj⟩, (mo_butP fun _ h => h).and tj.mo⟩
    unfold tRet tCallS
    refine (ea_cons (ev_var (i := 0) rfl) ea_nil : EvAD K φ (JT C0 q0 H tb) (tCons (tVar 0) tNil) [some (.str t), none] [.str t]) _ H A0 _ fun vs ds' H1 b1 A1 e r1 => ?_
    subst e
    obtain ⟨v, rfl, rv⟩ := r1.one
    cases (show v = _ from rv)
    refine ⟨φ, t, lines, o, R, tb, rfl, A1.fr, nC, A1.j.2, hT, hrun, fun hn H3 tb3 b3 t3 => ?_, fun k hn H3 d3 tb3 b3 t3 hd3 => ?_⟩
    · subst hn
      exact hq _ tb3 H3 (A1.j.1.trans b3) t3 rfl
    · subst hn
      have A3 := At.tbl (tblT nC) A1 b3 t3
      refine wAs_yes X_InvalidLine.xm fun a ha => ?_
      have A4 : At K φ (fun H' => JT C0 q0 H tb3 H' ∧ H' d3 = some (.xd [("line", .int (k : Int))])) [some (.str t), some (.raw (.ref a))] ((L2.start ["text", "e"] [.str t]).set 1 (some (.ref a))) H3 := At.set (A3.live ⟨A3.j, hd3⟩ (A3.mono.and (Mo.at (by rw [hd3]; exact fun z => nomatch z)))) 1 rfl
      exact st_ret A4 (ev_xf (k := 1) rfl fun H h => h.2) fun v d H5 e A5 r => hq v tb3 H5 A5.j.1.1 A5.j.1.2 (by rw [e] at r; exact r)
end
end

/-! ### texts of commands, and what they tell -/
section
open TL
theorem least_nat {p : Nat → Prop} (h : ∃ n, p n) : ∃ k, p k ∧ ∀ j, j < k → ¬ p j := by
  obtain ⟨n, hn⟩ := h
  induction n using Nat.strongRecOn with
  | _ n ih =>
    by_cases z : ∃ j, j < n ∧ p j
    · obtain ⟨j, h1, h2⟩ := z
      exact ih j h1 h2
    · exact ⟨n, hn, fun j h1 h2 => z ⟨j, h1, h2⟩⟩
theorem check_ex (ls : List Row) (c : Nat) (ps : List Nat) : ∃ s, CheckT ls c ps s := by
  by_cases h : ∃ i, i < ps.length ∧ c ≤ ps.getD i 0
  · obtain ⟨i, ⟨h1, h2⟩, h3⟩ := least_nat h
    exact ⟨_, .inl ⟨i, h1, h2, fun k hk => Nat.lt_of_not_le fun z => h3 k hk ⟨by omega, z⟩, rfl⟩⟩
  · have h0 : ∀ k, k < ps.length → ps.getD k 0 < c := fun k hk => Nat.lt_of_not_le fun z => h ⟨k, hk, z⟩
    by_cases h' : ∃ i, ∃ j, HitP ls ps i j
    · obtain ⟨i, hi, h1⟩ := least_nat h'
      obtain ⟨j, hj, h2⟩ := least_nat hi
      refine ⟨_, .inr ⟨h0, .inl ⟨i, j, hj, fun i' j' hh => ?_, rfl⟩⟩⟩
      rcases Nat.lt_trichotomy i i' with z | z | z
      · exact .inl z
      · refine .inr ⟨z, Nat.le_of_not_lt fun z2 => h2 j' z2 (by rw [z]; exact hh)⟩
      · exact absurd ⟨j', hh⟩ (h1 i' z)
    · exact ⟨_, .inr ⟨h0, .inr ⟨fun i j hh => h' ⟨i, j, hh⟩, rfl⟩⟩⟩
theorem tell_ex {n : Int} {ls : List Row} (ok : LsOk n ls) (hl : ls.length ≤ 900) (c : Cmd) : ∃ t, Tell n ls c t := by
  have SG := ok.sep (by omega)
  cases c with
  | users k => exact ⟨none, rfl⟩
  | need i j l => exact ⟨none, rfl⟩
  | span =>
    have h0 : CanN n ls ((9 * n.toNat : Nat) : Int) := by
      have := (can_conv ok _).mp (can_far SG)
      have n0 := ok.n0
      rw [show ((9 * n.toNat : Nat) : Int) = 9 * n by omega]
      exact this
    obtain ⟨k, k1, k2⟩ := least_nat (p := fun k : Nat => CanN n ls (k : Int)) ⟨_, h0⟩
    exact ⟨_, k, k1, k2, rfl⟩
  | assign c =>
    by_cases h : CanN n ls c
    · exact ⟨_, .inl ⟨h, rfl⟩⟩
    · exact ⟨_, .inr ⟨h, rfl⟩⟩
  | check c ps =>
    obtain ⟨s, h⟩ := check_ex ls c ps
    exact ⟨_, s, h, rfl⟩
  | greedy =>
    obtain ⟨ws, h⟩ := greedy_ex SG
    exact ⟨_, ws, greedy_conv ok h, rfl⟩
  | blocking a b c => exact ⟨_, rfl⟩
/-- what is asked of a line -/
def LnOk (l : Str) : Prop := l.length ≤ 1000 ∧ asc (tl l) ∧ 10 ∉ tl l
def lnB (l : Str) : Bool := decide (l.length ≤ 1000) && ((tl l).all (fun c => decide (c < 128)) && !(tl l).contains 10)
theorem lnB_ok {l : Str} (h : lnB l = true) : LnOk l := by
  unfold lnB at h
  rw [Bool.and_eq_true, Bool.and_eq_true, Bool.not_eq_true'] at h
  refine ⟨of_decide_eq_true h.1, fun c hc => of_decide_eq_true (List.all_eq_true.mp h.2.1 c hc), fun z => ?_⟩
  have := h.2.2
  rw [List.contains_iff_mem.mpr z] at this
  cases this
theorem ln_ws {x : Str} (h : LnOk x) : x.length ≤ 900000 ∧ WsOk (Txt.split x " ") ∧ Txt.split x " " ≠ [] := by
  have e : (Txt.split x " ").map tl = splC 32 (tl x) := by
    rw [lit_sp]
    exact tl_split (by decide) x
  have l1 := h.1
  have l2 : (Txt.split x " ").length ≤ x.length + 1 := by
    have a := splC_len 32 (tl x)
    rw [← e, List.length_map, ← len_tl] at a
    exact a
  refine ⟨by omega, ⟨by omega, word_ok (by omega) h.2.1 e⟩, fun z => ?_⟩
  rw [z] at e
  exact splC_ne 32 (tl x) e.symm
theorem splC_rows {last : List Nat} (hl : 10 ∉ last) : ∀ {ls : List (List Nat)}, (∀ l ∈ ls, 10 ∉ l) → splC 10 (textL ls ++ last) = ls ++ [last]
  | [], _ => splC_one hl
  | l :: ls, h => by
    have ih := splC_rows hl (ls := ls) fun x hx => h x (List.mem_cons_of_mem _ hx)
    show splC 10 ((l ++ [10]) ++ textL ls ++ last) = _
    rw [show (l ++ [10]) ++ textL ls ++ last = l ++ 10 :: (textL ls ++ last) by simp, splC_app (h l List.mem_cons_self), ih]
    rfl
theorem map_tl_inj : ∀ {xs ys : List Str}, xs.map tl = ys.map tl → xs = ys
  | [], [], _ => rfl
  | [], y :: ys, h => by cases h
  | x :: xs, [], h => by cases h
  | x :: xs, y :: ys, h => by
    rw [List.map_cons, List.map_cons] at h
    obtain ⟨h1, h2⟩ := List.cons.inj h
    rw [ext_tl h1, map_tl_inj h2]
/-- a text of lines and a last one -/
def TxL (t : Str) (L : List Str) (last : Str) : Prop := tl t = textL (L.map tl) ++ tl last
theorem TxL.split {t last : Str} {L : List Str} (h : TxL t L last) (hL : ∀ l ∈ L, LnOk l) (hl : LnOk last) : Txt.split t "\n" = L ++ [last] := by
  refine map_tl_inj ?_
  rw [lit_nl, tl_split (by decide), show tl t = _ from h, List.map_append]
  exact splC_rows hl.2.2 fun l hm => by
    obtain ⟨x, hx, rfl⟩ := List.mem_map.mp hm
    exact (hL x hx).2.2
theorem TxL.ok {t last : Str} {L : List Str} (h : TxL t L last) (hL : ∀ l ∈ L, LnOk l) (hl : LnOk last) (hn : L.length ≤ 39) (ht : t.length ≤ 900000) : TxtOk t (if last = "" then L else L ++ [last]) := by
  refine ⟨ht, ⟨L, last, h.split hL hl, rfl⟩, ?_, fun x hx => ?_⟩
  · split
    · omega
    · rw [List.length_append]
      show L.length + 1 ≤ 40
      omega
  · split at hx
    · exact ln_ws (hL x hx)
    · rcases List.mem_append.mp hx with hx | hx
      · exact ln_ws (hL x hx)
      · rw [List.mem_singleton.mp hx]
        exact ln_ws hl
theorem ln_nil : LnOk "" := ⟨by decide, (fun c hc => by cases hc), fun h => by cases h⟩
theorem TxL.ok0 {t : Str} {L : List Str} (h : TxL t L "") (hL : ∀ l ∈ L, LnOk l) (hn : L.length ≤ 39) (ht : t.length ≤ 900000) : TxtOk t L := by
  have := h.ok hL ln_nil hn ht
  rw [if_pos rfl] at this
  exact this
theorem tl_nl1 : tl ("\n" : Str) = [10] := by rw [lit_nl]
/-- the text of lines -/
def txtS (L : List Str) : Str := Txt.join "" (L.map nlS)
theorem txtS_tx (L : List Str) : TxL (txtS L) L "" := by
  show tl (txtS L) = textL (L.map tl) ++ tl ""
  rw [show tl ("" : Str) = [] from rfl, List.append_nil]
  unfold txtS
  rw [tl_joinE, List.map_map]
  unfold textL
  rw [List.flatMap_map, List.flatMap_def]
  congr 1
  exact List.map_congr_left fun l _ => tl_nlS l
theorem txtS_sum {L : List Str} (h : ∀ l ∈ L, LnOk l) (hl : L.length ≤ 40) : ((L.map nlS).map (·.length)).sum ≤ 45000 := by
  have a := sum_le (ys := L.map nlS) (b := 1001) fun u hu => by
    obtain ⟨z, hz, rfl⟩ := List.mem_map.mp hu
    have := (h z hz).1
    rw [len_nlS]
    omega
  rw [List.length_map] at a
  omega
theorem txtS_len {L : List Str} (h : ∀ l ∈ L, LnOk l) (hl : L.length ≤ 40) : (txtS L).length ≤ 45000 := by
  unfold txtS
  rw [len_tl, tl_joinE, List.length_flatten, List.map_map]
  refine Nat.le_trans (Nat.le_of_eq (congrArg List.sum ?_)) (txtS_sum h hl)
  exact List.map_congr_left fun y _ => by
    show (tl y).length = y.length
    rw [len_tl]
theorem textL_app (a b : List (List Nat)) : textL (a ++ b) = textL a ++ textL b := by
  unfold textL
  rw [List.flatMap_append]
theorem joinL_rows : ∀ (ls : List (List Nat)) (last : List Nat), joinL [10] (ls ++ [last]) = textL ls ++ last
  | [], last => rfl
  | [l], last => by
    show l ++ ([10] ++ last) = (l ++ [10] ++ []) ++ last
    simp
  | l :: m :: ls, last => by
    have ih := joinL_rows (m :: ls) last
    show l ++ ([10] ++ joinL [10] ((m :: ls) ++ [last])) = ((l ++ [10]) ++ textL (m :: ls)) ++ last
    rw [ih]
    simp
theorem tl_joinNl (ys : List Str) : tl (Txt.join "\n" ys) = joinL [10] (ys.map tl) := by
  have e : tl ("\n" : Str) = [10] := by rw [lit_nl]
  rw [join_eq, tl_join, e]
theorem join_tx (L : List Str) (last : Str) : TxL (Txt.join "\n" (L ++ [last])) L last := by
  show tl _ = _
  rw [tl_joinNl, List.map_append]
  exact joinL_rows _ _
theorem textL_len : ∀ {L : List Str}, (∀ l ∈ L, LnOk l) → (textL (L.map tl)).length ≤ L.length * 1001
  | [], _ => Nat.le_refl _
  | l :: L, h => by
    have ih := textL_len (L := L) fun x hx => h x (List.mem_cons_of_mem _ hx)
    have h1 := (h l List.mem_cons_self).1
    rw [len_tl] at h1
    show ((tl l ++ [10]) ++ textL (L.map tl)).length ≤ (L.length + 1) * 1001
    rw [List.length_append, List.length_append]
    show (tl l).length + 1 + _ ≤ _
    omega
theorem TxL.len {t last : Str} {L : List Str} (h : TxL t L last) (hL : ∀ l ∈ L, LnOk l) (hl : LnOk last) : t.length ≤ L.length * 1001 + 1000 := by
  have a := textL_len hL
  have b := hl.1
  rw [len_tl] at b ⊢
  rw [show tl t = _ from h, List.length_append]
  omega
def notBlk : Cmd → Bool
  | .blocking _ _ _ => false
  | _ => true
/-- lines that keep three users -/
def stayB (x : Str) : Bool := blankB x || (match cmdOf (Txt.split x " ") with
  | some c => !bad 3 c && (decide ((after 3 [] c).1 = 3) && notBlk c)
  | none => false)
theorem after_n {n : Int} {ls ls' : List Row} (c : Cmd) : (after n ls c).1 = (after n ls' c).1 := by cases c <;> rfl
theorem runs_stay : ∀ {L : List Str} {ls : List Row} {rest : List Str} {o : Option Nat}, (∀ l ∈ L, stayB l = true) → LsOk 3 ls → ls.length + L.length ≤ 900 → (∀ ls', LsOk 3 ls' → ∃ r, RunsTo 3 ls' rest o r) → ∃ r, RunsTo 3 ls (L ++ rest) (o.map (· + L.length)) r
  | [], ls, rest, o, _, ok, _, h => by
    obtain ⟨r, hr⟩ := h ls ok
    refine ⟨r, ?_⟩
    have e : o.map (· + ([] : List Str).length) = o := by cases o <;> rfl
    rw [e]
    exact hr
  | x :: L, ls, rest, o, hL, ok, hl, h => by
    have hx := hL x List.mem_cons_self
    have hL' : ∀ l ∈ L, stayB l = true := fun l hm => hL l (List.mem_cons_of_mem _ hm)
    have hl : ls.length + (L.length + 1) ≤ 900 := hl
    have e : o.map (· + (x :: L).length) = (o.map (· + L.length)).map (· + 1) := by cases o <;> rfl
    rw [e]
    cases hb : blankB x with
    | true =>
      obtain ⟨r, hr⟩ := runs_stay (ls := ls) hL' ok (by omega) h
      exact ⟨r, .skip hb hr⟩
    | false =>
      unfold stayB at hx
      rw [hb, Bool.false_or] at hx
      cases hc : cmdOf (Txt.split x " ") with
      | none => rw [hc] at hx; cases hx
      | some c =>
        rw [hc] at hx
        have hx : (!bad 3 c && (decide ((after 3 [] c).1 = 3) && notBlk c)) = true := hx
        rw [Bool.and_eq_true, Bool.and_eq_true, Bool.not_eq_true'] at hx
        obtain ⟨h1, h2, h3⟩ := hx
        have h2 : (after 3 ls c).1 = 3 := (after_n c).trans (of_decide_eq_true h2)
        obtain ⟨ok', hl'⟩ := ok.after h1
        obtain ⟨t, ht⟩ := tell_ex ok (by omega) c
        rw [h2] at ok'
        obtain ⟨r, hr⟩ := runs_stay (ls := (after 3 ls c).2) hL' ok' (by omega) h
        refine ⟨toldL t ++ r, .cmd hb hc h1 ht (fun c' e1 e2 => ?_) (by rw [h2]; exact hr)⟩
        rw [hc] at e1
        cases e1
        refine ⟨fun _ => by decide, fun a b k e => ?_⟩
        subst e
        cases h3
/-- the first line: three users -/
theorem runs_three {L : List Str} {o : Option Nat} (h : ∃ r, RunsTo 3 [] L o r) : ∃ r, RunsTo 0 [] ("users 3" :: L) (o.map (· + 1)) r := by
  obtain ⟨r, hr⟩ := h
  have hc : cmdOf (Txt.split "users 3" " ") = some (.users 3) := by decide +kernel
  refine ⟨toldL none ++ r, .cmd (by decide +kernel) hc (by decide) rfl (fun c' e1 e2 => ?_) hr⟩
  rw [hc] at e1
  cases e1
  exact ⟨(fun e => nomatch e), fun a b k e => nomatch e⟩
end

/-! ### the law's start beside a table -/
section
variable {P : Program} {w : World} {K : PySem.W.Frag} {mg : Str → Option Value} {base : Heap}
def spLawT (K : PySem.W.Frag) (C : Addr) : Sp := fun vs H Q _ => ∃ (a : Addr) (ns : List Int), vs = [.ref a] ∧ SqL K H a (ns.map V.int) ∧ ns.length ≤ 63 ∧ H C = some (.tbl #[]) ∧ ∀ H', Q (.bl true) H'
/-- st_pool beside a table -/
theorem st_poolT {D0 : Ends} {σ : L2.St} {H : Hp} {E : XK} {k n : Nat} {a C : Addr} {q : Str} {ps : Array Value} {ns : List Int} (hS : SqL K H a (ns.map V.int)) (hl : ns.length ≤ 63) (h0 : σ[0]? = some (some (.ref a))) (hk : σ.length = n) (hkn : k < n) (tj : TabJ C q ps H)
    (kk : ∀ p s σ' H', s ≠ p → p ≠ C → s ≠ C → At K (fun b => b ≠ p ∧ b ≠ C) (JPT p s ns C q ps) ((List.replicate n none).set k (some (.raw (.ref p)))) σ' H' → D0.nx σ' H') : tAsg (tCall (spPool K) [] E (tCons (tVar 0) tNil)) (gName k) D0 σ H := by
  refine ⟨_, h0, a, ns, rfl, hS, hl, fun p s H' sm hp hs ne po => ?_⟩
  have hp' : H' p ≠ none := by obtain ⟨_, _, _, _, e, _⟩ := po; rw [e]; exact fun z => by cases z
  have hs' : H' s ≠ none := by obtain ⟨_, _, _, _, _, e, _⟩ := po; rw [e]; exact fun z => by cases z
  have hpC : p ≠ C := fun z => by rw [z, tj.1] at hp; cases hp
  have hsC : s ≠ C := fun z => by rw [z, tj.1] at hs; cases hs
  have tj' := tj.same sm
  refine kk p s _ H' ne hpC hsC ⟨⟨by rw [List.length_set, List.length_set, List.length_replicate]; exact hk, fun i d hd => ?_⟩, ⟨fun b hb => ⟨fun z => hp' (z ▸ hb), fun z => by rw [z, tj'.1] at hb; cases hb⟩, fun b xs hb => ⟨(fun z => by obtain ⟨_, _, _, _, e, _⟩ := po; rw [z, e] at hb; cases hb), (fun z => by rw [z, tj'.1] at hb; cases hb)⟩⟩, ⟨po, tj'⟩, (mo_pool hp' hs').and tj'.mo⟩
  by_cases e : k = i
  · subst e
    rw [List.getElem?_set_self (by rw [List.length_replicate]; exact hkn)] at hd
    cases hd
    exact ⟨_, List.getElem?_set_self (by rw [hk]; exact hkn), rfl⟩
  · rw [List.getElem?_set_ne e, List.getElem?_replicate] at hd
    split at hd <;> cases hd
theorem sqL_same {H H' : Hp} {a : Addr} {xs : List V} (h : SqL K H a xs) (s : Same H H') : SqL K H' a xs := by
  rcases h with h | h
  · rcases h with h | ⟨o, h⟩
    · exact .inl (.inl (s _ _ h))
    · exact .inl (.inr ⟨o, s _ _ h⟩)
  · exact .inr h
theorem rangeD_snoc {lo : Int} {n : Nat} : rangeD lo (n + 1) = rangeD lo n ++ [.int (lo + (n : Int))] := by
  unfold rangeD
  rw [List.range_succ, List.map_append]
  rfl
theorem etu_no {φ : Addr → Prop} {J : Array Value → Hp → Prop} {ρ : List (Option D)} {t1 : TT} (ha : EvTU K φ J t1 ρ (fun b => b = true)) : EvTU K φ J (tNot t1) ρ (fun b => b = false) := fun ps σ H A Q k => etu_not ha ps σ H A Q fun b ps' H' bt A' e => k b ps' H' bt A' (by
  cases b with
  | false => rfl
  | true => cases e)
def hdD (E : List D) : D := match E with
  | [] => .non
  | d :: _ => d
end

/-! ### law_k58: the drawn lines -/
section
open TL
abbrev U3 : Str := "users 3"
def D8 : List Str := ["", "#", "need 0 1 2", "need 2 1 0", "span", "assign 4", "check 3 0 1 2", "greedy"]
def W26 : List Str := ["users", "users 25", "users -1", "users 01", "need 0 0 1", "need 0 3 1", "need 0 1 10", "need 0 1", "need 0 1 1 1", "span 1",
  "assign", "assign 41", "check 3 0 1", "check 3 0 1 2 3", "check", "greedy 1", "blocking 1 0 1", "blocking 1 1 101", "blocking 1 1", "blocking 1234567890 1 1", "Span", "span ", " span", "need  0 1 1", "check 3 0 1 x", "x"]
theorem d8_ok {l : Str} (h : l ∈ D8) : LnOk l ∧ stayB l = true := by
  have a : (D8.all fun l => lnB l && stayB l) = true := by decide +kernel
  have := List.all_eq_true.mp a l h
  rw [Bool.and_eq_true] at this
  exact ⟨lnB_ok this.1, this.2⟩
theorem w26_ok {l : Str} (h : l ∈ W26) : LnOk l ∧ blankB l = false ∧ rejB 3 (Txt.split l " ") = true := by
  have a : (W26.all fun l => lnB l && (!blankB l && rejB 3 (Txt.split l " "))) = true := by decide +kernel
  have := List.all_eq_true.mp a l h
  rw [Bool.and_eq_true, Bool.and_eq_true, Bool.not_eq_true'] at this
  exact ⟨lnB_ok this.1, this.2⟩
theorem users_ok : LnOk U3 := lnB_ok (by decide +kernel)
/-- right lines tell a text -/
theorem run_right {L : List Str} (h : ∀ l ∈ L, l ∈ D8) (hl : L.length ≤ 30) : ∃ R, RunT (txtS (U3 :: L)) (.str R) := by
  have hL : ∀ l ∈ U3 :: L, LnOk l := fun l hm => by
    rcases List.mem_cons.mp hm with rfl | hm
    · exact users_ok
    · exact (d8_ok (h l hm)).1
  obtain ⟨r, hr⟩ := runs_three (runs_stay (o := none) (rest := []) (fun l hm => (d8_ok (h l hm)).2) (lsOk_nil (by decide) (by decide)) (by show 0 + L.length ≤ _; omega) fun ls' _ => ⟨[], .done⟩)
  rw [List.append_nil] at hr
  have := txtS_len hL (by show L.length + 1 ≤ 40; omega)
  exact ⟨Txt.join "" r, _, none, r, (txtS_tx _).ok0 hL (by show L.length + 1 ≤ 39; omega) (by omega), hr, rfl⟩
/-- a wrong line behind right ones, whatever follows -/
theorem runs_wrong {L R : List Str} {b : Str} (h : ∀ l ∈ L, l ∈ D8) (hb : b ∈ W26) (hl : L.length ≤ 30) : ∃ r, RunsTo 0 [] (U3 :: (L ++ b :: R)) (some (L.length + 2)) r := by
  obtain ⟨_, w1, w2⟩ := w26_ok hb
  have := runs_three (runs_stay (o := some 1) (rest := b :: R) (fun l hm => (d8_ok (h l hm)).2) (lsOk_nil (by decide) (by decide)) (by show 0 + L.length ≤ _; omega) fun ls' _ => ⟨[], .stop w1 w2⟩)
  have e : ((some 1 : Option Nat).map (· + L.length)).map (· + 1) = some (L.length + 2) := by
    show some (1 + L.length + 1) = _
    congr 1
    omega
  rw [e] at this
  exact this
theorem run_wrong {L R : List Str} {b : Str} (h : ∀ l ∈ L, l ∈ D8) (hR : ∀ l ∈ R, l ∈ D8) (hb : b ∈ W26) (hl : L.length + R.length ≤ 20) : RunT (Txt.join "\n" (U3 :: (L ++ b :: R))) (.int ((L.length : Int) + 2)) := by
  have hb' := w26_ok hb
  have hall : ∀ l ∈ U3 :: (L ++ b :: R), LnOk l := fun l hm => by
    rcases List.mem_cons.mp hm with rfl | hm
    · exact users_ok
    · rcases List.mem_append.mp hm with hm | hm
      · exact (d8_ok (h l hm)).1
      · rcases List.mem_cons.mp hm with rfl | hm
        · exact hb'.1
        · exact (d8_ok (hR l hm)).1
  obtain ⟨ini, last, e, hi⟩ : ∃ (ini : List Str) (last : Str), U3 :: (L ++ b :: R) = ini ++ [last] ∧ ∃ R' : List Str, (if last = "" then ini else ini ++ [last]) = U3 :: (L ++ b :: R') := by
    rcases List.eq_nil_or_concat R with z | ⟨R', last, z⟩
    · subst z
      refine ⟨U3 :: L, b, by simp, [], ?_⟩
      rw [if_neg fun z => ?_]
      · simp
      · rw [z] at hb'
        exact absurd hb'.2.1 (by decide +kernel)
    · rw [List.concat_eq_append] at z
      subst z
      refine ⟨U3 :: (L ++ b :: R'), last, by simp, ?_⟩
      by_cases z : last = ""
      · exact ⟨R', by rw [if_pos z]⟩
      · exact ⟨R' ++ [last], by rw [if_neg z]; simp⟩
  obtain ⟨R', hi⟩ := hi
  obtain ⟨r, hr⟩ := runs_wrong (R := R') h hb (by omega)
  have hlen : ini.length ≤ 39 := by
    have := congrArg List.length e
    simp at this
    omega
  have hini : ∀ l ∈ ini, LnOk l := fun l hm => hall l (by rw [e]; exact List.mem_append_left _ hm)
  have hlast : LnOk last := hall last (by rw [e]; exact List.mem_append_right _ List.mem_cons_self)
  have tx := join_tx ini last
  have tl := tx.len hini hlast
  have ok := tx.ok hini hlast hlen (by omega)
  rw [← hi] at hr
  rw [e]
  exact ⟨_, _, r, ok, hr, rfl⟩
theorem run_first : RunT "need 0 1 1\n" (.int 1) := by
  have tx : TxL "need 0 1 1\n" ["need 0 1 1"] "" := by
    show tl _ = _
    decide +kernel
  exact ⟨_, some 1, [], tx.ok0 (fun l hl => by rw [List.mem_singleton.mp hl]; exact lnB_ok (by decide +kernel)) (by decide) (by decide +kernel), .stop (by decide +kernel) (by decide +kernel), rfl⟩
theorem run_blank : RunT "\n\n" (.str "") := by
  have tx : TxL "\n\n" ["", ""] "" := by
    show tl _ = _
    decide +kernel
  refine ⟨_, none, [], tx.ok0 (fun l hl => ?_) (by decide) (by decide +kernel), RunsTo.skip (o := none) (by decide +kernel) (RunsTo.skip (o := none) (by decide +kernel) .done), rfl⟩
  rcases List.mem_cons.mp hl with rfl | hl
  · exact ln_nil
  · rw [List.mem_singleton.mp hl]
    exact ln_nil
def goodL : List Str := ["users 24", "need 23 22 9", "need 0 1 0", "users 0", "assign 40", "check 0", "blocking 0 999999999 100", "greedy", "span"]
theorem blk0 : BlkOk 0 999999999 100 := by
  have h : ((List.range 101).all fun i => decide ((blk 0 999999999 i).1 ≤ 2 ^ 900) && (decide ((blk 0 999999999 i).2 ≤ 2 ^ 900) && decide (0 < (blk 0 999999999 i).2))) = true := by decide +kernel
  refine ⟨by decide, by decide, by decide, by decide, fun i hi => ?_⟩
  have := List.all_eq_true.mp h i (List.mem_range.mpr (by omega))
  rw [Bool.and_eq_true, Bool.and_eq_true] at this
  exact ⟨of_decide_eq_true this.1, of_decide_eq_true this.2.1, of_decide_eq_true this.2.2⟩
theorem can_none (c : Int) : CanN 0 [] c := ⟨fun _ => 0, fun i h1 h2 => by omega, fun i j h1 h2 => by omega⟩
theorem run_good : RunT "users 24\nneed 23 22 9\nneed 0 1 0\nusers 0\nassign 40\ncheck 0\nblocking 0 999999999 100\ngreedy\nspan\n" (.str "yes\nkeeps\nblocking 0/1\ngreedy\nspan 0\n") := by
  have tx : TxL "users 24\nneed 23 22 9\nneed 0 1 0\nusers 0\nassign 40\ncheck 0\nblocking 0 999999999 100\ngreedy\nspan\n" goodL "" := by
    show tl _ = _
    decide +kernel
  have hL : ∀ l ∈ goodL, LnOk l := fun l hl => by
    have a : goodL.all lnB = true := by decide +kernel
    exact lnB_ok (List.all_eq_true.mp a l hl)
  have step : ∀ {n : Int} {ls : List Row} {x : Str} {xs : List Str} {r : List Str} {c : Cmd} {t : Option Str}, blankB x = false → cmdOf (Txt.split x " ") = some c → bad n c = false → Tell n ls c t → ((c = .span → n ≤ 11) ∧ ∀ a b k, c = .blocking a b k → BlkOk a b k) → RunsTo (after n ls c).1 (after n ls c).2 xs none r → RunsTo n ls (x :: xs) none (toldL t ++ r) := fun h1 h2 h3 h4 h5 h6 =>
    RunsTo.cmd (o := none) h1 h2 h3 h4 (fun c' e1 e2 => by rw [h2] at e1; cases e1; exact h5) h6
  have run : RunsTo 0 [] goodL none (toldL none ++ (toldL none ++ (toldL none ++ (toldL none ++ (toldL (some "yes") ++ (toldL (some "keeps") ++ (toldL (some (blockS 0 999999999 100)) ++ (toldL (some (greedyS [])) ++ (toldL (some ("span " ++ numS (0 : Nat))) ++ []))))))))) := by
    refine step (c := .users 24) (by decide +kernel) (by decide +kernel) (by decide +kernel) rfl ⟨(fun e => nomatch e), fun a b k e => nomatch e⟩ ?_
    refine step (c := .need 23 22 9) (by decide +kernel) (by decide +kernel) (by decide +kernel) rfl ⟨(fun e => nomatch e), fun a b k e => nomatch e⟩ ?_
    refine step (c := .need 0 1 0) (by decide +kernel) (by decide +kernel) (by decide +kernel) rfl ⟨(fun e => nomatch e), fun a b k e => nomatch e⟩ ?_
    refine step (c := .users 0) (by decide +kernel) (by decide +kernel) (by decide +kernel) rfl ⟨(fun e => nomatch e), fun a b k e => nomatch e⟩ ?_
    refine step (n := 0) (ls := []) (c := .assign 40) (by decide +kernel) (by decide +kernel) (by decide +kernel) (.inl ⟨can_none _, rfl⟩) ⟨(fun e => nomatch e), fun a b k e => nomatch e⟩ ?_
    refine step (n := 0) (ls := []) (c := .check 0 []) (by decide +kernel) (by decide +kernel) (by decide +kernel) ⟨_, .inr ⟨fun k hk => absurd hk (Nat.not_lt_zero _), .inr ⟨fun i j h => absurd h.2.1 (Nat.not_lt_zero _), rfl⟩⟩, rfl⟩ ⟨(fun e => nomatch e), fun a b k e => nomatch e⟩ ?_
    refine step (n := 0) (ls := []) (c := .blocking 0 999999999 100) (by decide +kernel) (by decide +kernel) (by decide +kernel) rfl ⟨(fun e => nomatch e), fun a b k e => by cases e; exact blk0⟩ ?_
    refine step (n := 0) (ls := []) (c := .greedy) (by decide +kernel) (by decide +kernel) rfl ⟨[], ⟨rfl, fun i hi => absurd hi (Nat.not_lt_zero _)⟩, rfl⟩ ⟨(fun e => nomatch e), fun a b k e => nomatch e⟩ ?_
    refine step (n := 0) (ls := []) (c := .span) (by decide +kernel) (by decide +kernel) rfl ⟨0, can_none _, fun j hj => absurd hj (Nat.not_lt_zero _), rfl⟩ ⟨fun _ => by decide, fun a b k e => nomatch e⟩ .done
  refine ⟨_, none, _, tx.ok0 hL (by decide) (by decide +kernel), run, ?_⟩
  have e : Txt.join "" (toldL none ++ (toldL none ++ (toldL none ++ (toldL none ++ (toldL (some "yes") ++ (toldL (some "keeps") ++ (toldL (some (blockS 0 999999999 100)) ++ (toldL (some (greedyS [])) ++ (toldL (some ("span " ++ numS (0 : Nat))) ++ []))))))))) = "yes\nkeeps\nblocking 0/1\ngreedy\nspan 0\n" := by decide +kernel
  exact congrArg D.str e.symm
end

-- import HandS.EndTab
-- import KE.KNestM
-- import KE.KLam
/-! ### law_k58_faulty_consoles -/
section
open TL
section
variable {K : PySem.W.Frag} {φ : Addr → Prop} {J : Array Value → Hp → Prop} {ρ : List (Option D)} {te u : TE} {t1 t2 : TT} {P : D → Prop} {C : Addr} {q : Str}
theorem eu_isi {n : String} (h : EvU K φ J te ρ P) (hP : ∀ d, P d → isRaw d = false ∧ isT n d = true) (hn : n ∈ (["tuple", "list", "bool", "int", "str", "dict"] : List String) := by simp) : EvU K φ J (tCB (rIsi K) (tCons te (tCons (tC (.ty n)) tNil))) ρ (fun d => ∃ b, d = .bl b ∧ b = true) := fun ps σ H A Q k =>
  h ps σ H A _ fun v d ps' H1 b1 A1 pd r => (ea_cons ev_ty ea_nil : EvAD K φ (J ps') (tCons (tC (.ty n)) tNil) ρ [.raw (.ty n)]) σ H1 A1 _ fun vs ds H2 b2 A2 e r2 => by
    subst e
    obtain ⟨w, rfl, rw2⟩ := r2.one
    cases (show w = _ from rw2)
    obtain ⟨hx, ht⟩ := hP d pd
    exact ⟨v, _, _, _, _, rfl, .ty n, tyx_rep (r.mono b2) hx, kit_ty (kit_all hn hx), k _ _ ps' H2 (b1.trans b2) A2 ⟨_, rfl, ht⟩ rfl⟩
theorem etu_orF (ha : EvTU K φ J t1 ρ (fun b => b = false)) (hb : EvTU K φ J t2 ρ (fun b => b = false)) : EvTU K φ J (tOr t1 t2) ρ (fun b => b = false) := fun ps σ H A Q k => ha ps σ H A _ fun b ps1 H1 b1 A1 e1 => by
  subst e1
  exact hb ps1 σ H1 A1 _ fun b2 ps2 H2 bt2 A2 e2 => k b2 ps2 H2 (b1.trans bt2) A2 e2
/-- _law_same(_law_told(te), u) -/
theorem eu_same {E1 E2 : XK} {t : Str} {d : D} (T : TblF φ C q0 J) (h : ∀ ps, EvD K φ (J ps) te ρ (.str t)) (hT : RunT t d) (hp : plain 3 d = true) (hu : ∀ ps, EvD K φ (J ps) u ρ d) (hP : P (.bl true)) :
    EvU K φ J (tCall (SpD K 2 (RSame 3)) [] E1 (tCons (tCall (SpT K C q0 1 RTold) [] E2 (tCons te tNil)) (tCons u tNil))) ρ P :=
  eu_call (P := P) (eau_cons (eu_callT (P := fun z => z = d) T (eau_of (Pr := fun z => z = [.str t]) fun ps => ea_cons (h ps) ea_nil) fun ds e => ⟨d, by rw [e]; rfl, ⟨t, e, hT⟩, rfl⟩) (eau_of (Pr := fun z => z = [d]) fun ps' => ea_cons (hu ps') ea_nil)) fun ds ⟨z, r, e, e1, e2⟩ => by
    subst e e1 e2
    exact ⟨.bl true, rfl, ⟨z, rfl, hp, rfl⟩, hP⟩
theorem etu_same {E1 E2 : XK} {t : Str} {d : D} (T : TblF φ C q0 J) (h : ∀ ps, EvD K φ (J ps) te ρ (.str t)) (hT : RunT t d) (hp : plain 3 d = true) (hu : ∀ ps, EvD K φ (J ps) u ρ d) :
    EvTU K φ J (tNot (tB (tCall (SpD K 2 (RSame 3)) [] E1 (tCons (tCall (SpT K C q0 1 RTold) [] E2 (tCons te tNil)) (tCons u tNil))))) ρ (fun b => b = false) :=
  etu_no (etu_B (eu_same T h hT hp hu ⟨true, rfl, rfl⟩))
theorem ea_i {J : Hp → Prop} {ta : TE} {p : Int → Prop} (h : EvI K φ J ta ρ p) : EvA K φ J (tCons ta tNil) ρ (fun x => ∃ n, x = [.int n] ∧ p n) := fun σ H A Q k => ea_consP h ea_nil σ H A Q fun vs ds H' b A' h r => k vs ds H' b A' (by
  obtain ⟨d, r', rfl, ⟨n, rfl, hp⟩, rfl⟩ := h
  exact ⟨n, rfl, hp⟩) r
def nl1 : D → D
  | .str s => .str (nlS s)
  | d => d
theorem ev_txt {J : Hp → Prop} {k : Nat} {wi : TI} {L : List Str} (hi : IterD K φ J wi ρ (L.map D.str)) (h : ∀ l ∈ L, LnOk l) (hl : L.length ≤ 40) (hk : ∀ d : D, ((wipeR ρ [k]).set k (some d))[k]? = some (some d)) :
    EvD K φ J (tM1 (rJoin K) (tC (.str "")) (tLc wi (gName k) tYes (tOp rAddS (tVar k) (tC (.str "\n"))) [k])) ρ (.str (txtS L)) := by
  refine ev_join ev_str ((ev_lc (k := k) (f := nl1) hi (by rw [List.length_map]; omega) fun d hd φ' J' hx => ?_).is (by rw [List.map_map, List.map_map]; rfl)) ?_
  · obtain ⟨l, hm, rfl⟩ := List.mem_map.mp hd
    have := (h l hm).1
    exact ev_addS (ev_var (hk _)) ev_str (by have : ("\n" : Str).length = 1 := by decide +kernel
                                             omega)
  · have := txtS_sum h hl
    have : ("" : Str).length = 0 := by decide +kernel
    rw [this]
    omega
end
section
variable {P : Program} {w : World} {K : PySem.W.Frag} {mg : Str → Option Value} {base : Heap}
theorem scL : FnScope ["script", "pool", "lines", "turn", "wrong", "text", "line", "place", "bad", "broken", "good"] ["script"] (defScope s_law) := ⟨rfl, rfl, rfl, by decide +kernel, rfl, by decide +kernel, by decide +kernel⟩
set_option maxHeartbeats 2000000 in
theorem ok_all (B : Bi mg) (C : Cs mg) {cR C0 : Addr} (TB : LamX.TabB base mg cR C0) {c_InvalidText : Addr} (X_InvalidText : ExC K mg "InvalidText" c_InvalidText) {c_InvalidLine fI_InvalidLine cc_InvalidLine cda_InvalidLine : Addr} {fdI_InvalidLine : FuncData} (X_InvalidLine : IL P K mg c_InvalidLine fI_InvalidLine fdI_InvalidLine cc_InvalidLine cda_InvalidLine) {C_Console : Addr} (T_Console : TConsole K mg C_Console) {f_Console___init__ : Addr} {fd_Console___init__ : FuncData} (F_Console___init__ : Fun K "__init__" "Console.__init__" s_Console___init__ f_Console___init__ fd_Console___init__) (L_Console___init__ : LkM K C_Console "__init__" f_Console___init__ fd_Console___init__ ["self"]) (M_Console : Mk K C_Console f_Console___init__) {f_Console_separations : Addr} {fd_Console_separations : FuncData} (F_Console_separations : Fun K "separations" "Console.separations" s_Console_separations f_Console_separations fd_Console_separations) (L_Console_separations : LkM K C_Console "separations" f_Console_separations fd_Console_separations ["self"]) {f_Console_set_need : Addr} {fd_Console_set_need : FuncData} (F_Console_set_need : Fun K "set_need" "Console.set_need" s_Console_set_need f_Console_set_need fd_Console_set_need) (L_Console_set_need : LkM K C_Console "set_need" f_Console_set_need fd_Console_set_need ["self", "words"]) {f_Console_check : Addr} {fd_Console_check : FuncData} (F_Console_check : Fun K "check" "Console.check" s_Console_check f_Console_check fd_Console_check) (L_Console_check : LkM K C_Console "check" f_Console_check fd_Console_check ["self", "words"]) {f_Console_execute : Addr} {fd_Console_execute : FuncData} (F_Console_execute : Fun K "execute" "Console.execute" s_Console_execute f_Console_execute fd_Console_execute) (L_Console_execute : LkM K C_Console "execute" f_Console_execute fd_Console_execute ["self", "words"]) {f_least_between : Addr} {fd_least_between : FuncData} (F_least_between : Fun K "least_between" "least_between" s_least_between f_least_between fd_least_between) (L_least_between : Lk K mg "least_between" f_least_between fd_least_between ["separations", "i", "j"]) {f_neighbors : Addr} {fd_neighbors : FuncData} (F_neighbors : Fun K "neighbors" "neighbors" s_neighbors f_neighbors fd_neighbors) (L_neighbors : Lk K mg "neighbors" f_neighbors fd_neighbors ["separations", "i"]) {f_breaks : Addr} {fd_breaks : FuncData} (F_breaks : Fun K "breaks" "breaks" s_breaks f_breaks fd_breaks) (L_breaks : Lk K mg "breaks" f_breaks fd_breaks ["separations", "i", "j", "first", "second"]) {f_would_break : Addr} {fd_would_break : FuncData} (F_would_break : Fun K "would_break" "would_break" s_would_break f_would_break fd_would_break) (L_would_break : Lk K mg "would_break" f_would_break fd_would_break ["separations", "given", "i", "channel"]) {f_free_channels : Addr} {fd_free_channels : FuncData} (F_free_channels : Fun K "free_channels" "free_channels" s_free_channels f_free_channels fd_free_channels) (L_free_channels : Lk K mg "free_channels" f_free_channels fd_free_channels ["separations", "channels", "given", "i"]) {f_search : Addr} {fd_search : FuncData} (F_search : Fun K "search" "search" s_search f_search fd_search) (L_search : Lk K mg "search" f_search fd_search ["separations", "channels", "given"]) {f_clash_with : Addr} {fd_clash_with : FuncData} (F_clash_with : Fun K "clash_with" "clash_with" s_clash_with f_clash_with fd_clash_with) (L_clash_with : Lk K mg "clash_with" f_clash_with fd_clash_with ["separations", "given", "i", "channel"]) {f_solved : Addr} {fd_solved : FuncData} (F_solved : Fun K "solved" "solved" s_solved f_solved fd_solved) (L_solved : Lk K mg "solved" f_solved fd_solved ["separations", "channels"]) {f_read_number : Addr} {fd_read_number : FuncData} (F_read_number : Fun K "read_number" "read_number" s_read_number f_read_number fd_read_number) (L_read_number : Lk K mg "read_number" f_read_number fd_read_number ["word"]) {f_span : Addr} {fd_span : FuncData} (F_span : Fun K "span" "span" s_span f_span fd_span) (L_span : Lk K mg "span" f_span fd_span ["separations"]) {f_greedy : Addr} {fd_greedy : FuncData} (F_greedy : Fun K "greedy" "greedy" s_greedy f_greedy fd_greedy) (L_greedy : Lk K mg "greedy" f_greedy fd_greedy ["separations", "order"]) {f_lowest : Addr} {fd_lowest : FuncData} (F_lowest : Fun K "lowest" "lowest" s_lowest f_lowest fd_lowest) (L_lowest : Lk K mg "lowest" f_lowest fd_lowest ["p", "q"]) {f_blocking : Addr} {fd_blocking : FuncData} (F_blocking : Fun K "blocking" "blocking" s_blocking f_blocking fd_blocking) (L_blocking : Lk K mg "blocking" f_blocking fd_blocking ["a", "b", "channels"]) {f_number_to : Addr} {fd_number_to : FuncData} (F_number_to : Fun K "number_to" "number_to" s_number_to f_number_to fd_number_to) (L_number_to : Lk K mg "number_to" f_number_to fd_number_to ["word", "most"]) {f_run_console : Addr} {fd_run_console : FuncData} (F_run_console : Fun K "run_console" "run_console" s_run_console f_run_console fd_run_console) (L_run_console : Lk K mg "run_console" f_run_console fd_run_console ["text"]) {f__law_same : Addr} {fd__law_same : FuncData} (F__law_same : Fun K "_law_same" "_law_same" s__law_same f__law_same fd__law_same) (L__law_same : Lk K mg "_law_same" f__law_same fd__law_same ["actual", "due"]) {f__law_pool : Addr} {fd__law_pool : FuncData} (F__law_pool : Fun K "_law_pool" "_law_pool" s__law_pool f__law_pool fd__law_pool) (L__law_pool : Lk K mg "_law_pool" f__law_pool fd__law_pool ["script"]) {f__law_spread : Addr} {fd__law_spread : FuncData} (F__law_spread : Fun K "_law_spread" "_law_spread" s__law_spread f__law_spread fd__law_spread) (L__law_spread : Lk K mg "_law_spread" f__law_spread fd__law_spread ["cell"]) {f__law_draw : Addr} {fd__law_draw : FuncData} (F__law_draw : Fun K "_law_draw" "_law_draw" s__law_draw f__law_draw fd__law_draw) (L__law_draw : Lk K mg "_law_draw" f__law_draw fd__law_draw ["pool", "many"]) {f__law_told : Addr} {fd__law_told : FuncData} (F__law_told : Fun K "_law_told" "_law_told" s__law_told f__law_told fd__law_told) (L__law_told : Lk K mg "_law_told" f__law_told fd__law_told ["text"]) {f_law : Addr} {fd_law : FuncData} (F_law : Fun K "law" "law" s_law f_law fd_law) (L_law : Lk K mg "law" f_law fd_law ["script"]) (FC : FunC K "search" "search" s_search f_search fd_search cR) : FnOk P w K mg base CX0 167 f_law fd_law ["script"] (spLawT K C0) := by
  have G_least_between : FnOk P w K mg base CX0 1 _ _ _ _ := ok_least_between B F_least_between
  have G_neighbors : FnOk P w K mg base CX0 1 _ _ _ _ := ok_neighbors B F_neighbors
  have G_breaks : FnOk P w K mg base CX0 2 _ _ _ _ := ok_breaks B F_breaks L_least_between G_least_between
  have G_would_break : FnOk P w K mg base CX0 3 _ _ _ _ := ok_would_break B F_would_break L_neighbors G_neighbors L_breaks G_breaks
  have G_free_channels : FnOk P w K mg base CX0 4 _ _ _ _ := ok_free_channels B F_free_channels L_would_break G_would_break
  have G_clash_with : FnOk P w K mg base CX0 3 _ _ _ _ := ok_clash_with B F_clash_with L_neighbors G_neighbors L_breaks G_breaks
  have G_search : FnOk P w K mg base CX0 (6 * 25 + 9) _ _ _ _ := ok_search TB B FC L_search L_free_channels G_free_channels L_neighbors G_neighbors L_clash_with G_clash_with 25
  have G_solved : FnOk P w K mg base CX0 160 _ _ _ _ := ok_solved B F_solved L_search G_search
  have G_lowest : FnOk P w K mg base CX0 1 _ _ _ _ := ok_lowest B C F_lowest
  have G_blocking : FnOk P w K mg base CX0 2 _ _ _ _ := ok_blocking B C F_blocking L_lowest G_lowest
  have G_span : FnOk P w K mg base CX0 162 _ _ _ _ := ok_span B F_span L_solved G_solved
  have G_greedy : FnOk P w K mg base CX0 5 _ _ _ _ := ok_greedy B F_greedy L_free_channels G_free_channels
  have G_read_number : FnOk P w K mg base (L2N.CX P w) 1 _ _ _ _ := ok_read_number B C X_InvalidText F_read_number
  have G_number_to : FnOk P w K mg base (L2N.CX P w) 2 _ _ _ _ := ok_number_to B X_InvalidText F_number_to L_read_number G_read_number
  have G_Console___init__ : FnOk P w K mg base CX0 1 _ _ _ _ := ok_Console_init T_Console F_Console___init__
  have G_Console_separations : FnOk P w K mg base CX0 1 _ _ _ _ := ok_Console_separations B T_Console F_Console_separations
  have G_Console_set_need : FnOk P w K mg base (L2N.CX P w) 3 _ _ _ _ := ok_Console_set_need B C T_Console X_InvalidText F_Console_set_need L_number_to G_number_to
  have G_Console_check : FnOk P w K mg base (L2N.CX P w) 3 _ _ _ _ := ok_Console_check B C T_Console X_InvalidText F_Console_check L_read_number G_read_number L_least_between G_least_between L_Console_separations G_Console_separations
  have G_Console_execute : FnOk P w K mg base (L2N.CX P w) 163 _ _ _ _ := ok_Console_execute B C T_Console X_InvalidText F_Console_execute L_read_number G_read_number L_number_to G_number_to L_Console_separations G_Console_separations L_Console_set_need G_Console_set_need L_Console_check G_Console_check L_span G_span L_solved G_solved L_greedy G_greedy L_blocking G_blocking
  have G_run_console : FnOk P w K mg base (L2.CX P w) 164 _ _ _ _ := ok_run_console B C T_Console X_InvalidText X_InvalidLine F_run_console L_Console___init__ M_Console G_Console___init__ L_Console_execute G_Console_execute
  have G__law_told : FnOk P w K mg base CX0 166 _ _ _ _ := ok__law_told X_InvalidLine F__law_told L_run_console G_run_console
  have G__law_same : FnOk P w K mg base CX0 3 _ _ _ _ := ok__law_same B F__law_same L__law_same 3
  have G__law_pool : FnOk P w K mg base CX0 1 _ _ _ _ := ok__law_pool B F__law_pool
  have G__law_spread : FnOk P w K mg base CX0 1 _ _ _ _ := ok__law_spread B F__law_spread
  have G__law_draw : FnOk P w K mg base CX0 2 _ _ _ _ := ok__law_draw B F__law_draw L__law_spread G__law_spread
  have S := scL
  refine F_law.ok S (fun vs H Q E h => ?_) (fun cdv A outer s H vs Q E hr h => ?_)
  · obtain ⟨a, ns, rfl, _⟩ := h
    rfl
  obtain ⟨a, ns, rfl, hS, hlen, hC, kq⟩ := h
  refine ⟨_, ((pss_cons (ps_set (i := 1) S.nd rfl (by first | exact Or.inl rfl | exact Or.inr rfl) (pe_call G__law_pool (hr.mono (by first | exact Nat.le_refl _ | decide | omega)) (by rfl) L__law_pool.m L__law_pool.kp L__law_pool.bi .nil pass0 (pa_cons (pv 0) pa_nil)))
 (pss_cons (ps_set (i := 2) S.nd rfl (by first | exact Or.inl rfl | exact Or.inr rfl) (pe_lst (pa_cons pe_str pa_nil)))
 (pss_cons (ps_for PassesOwn.never rfl (pi_range1 (by rfl) B.range (pa_cons (pe_call G__law_draw (hr.mono (by first | exact Nat.le_refl _ | decide | omega)) (by rfl) L__law_draw.m L__law_draw.kp L__law_draw.bi .nil pass0 (pa_cons (pv 1) (pa_cons pe_int pa_nil))) pa_nil)) (pg_name (i := 3) S.nd rfl (by first | exact Or.inl rfl | exact Or.inr rfl))
 (pss_one (ps_expr (pe_bm PySem.F.plainAttrs_list PySem.F.slot_list_append PySem.F.type_list_append mt_append (pv 2) (pa_cons (pe_ix ix_tup (pe_tup (pa_cons pe_str (pa_cons pe_str (pa_cons pe_str (pa_cons pe_str (pa_cons pe_str (pa_cons pe_str (pa_cons pe_str (pa_cons pe_str pa_nil))))))))) (pe_call G__law_draw (hr.mono (by first | exact Nat.le_refl _ | decide | omega)) (by rfl) L__law_draw.m L__law_draw.kp L__law_draw.bi .nil pass0 (pa_cons (pv 1) (pa_cons pe_int pa_nil))) (fun _ _ => rfl)) pa_nil)))))
 (pss_cons (ps_set (i := 4) S.nd rfl (by first | exact Or.inl rfl | exact Or.inr rfl) (pe_tup (pa_cons pe_str (pa_cons pe_str (pa_cons pe_str (pa_cons pe_str (pa_cons pe_str (pa_cons pe_str (pa_cons pe_str (pa_cons pe_str (pa_cons pe_str (pa_cons pe_str (pa_cons pe_str (pa_cons pe_str (pa_cons pe_str (pa_cons pe_str (pa_cons pe_str (pa_cons pe_str (pa_cons pe_str (pa_cons pe_str (pa_cons pe_str (pa_cons pe_str (pa_cons pe_str (pa_cons pe_str (pa_cons pe_str (pa_cons pe_str (pa_cons pe_str (pa_cons pe_str pa_nil))))))))))))))))))))))))))))
 (pss_cons (ps_set (i := 5) S.nd rfl (by first | exact Or.inl rfl | exact Or.inr rfl) (pe_m1 PySem.F.slot_str_join PySem.F.type_str_join mu_join pe_str (pe_lc (own := [("line", 6)]) (g := (gName 6)) (tt := tYes) (by rfl) S.nd (pi_list (pv 2)) (blkOk_by (N := ["script", "pool", "lines", "turn", "wrong", "text", "line", "place", "bad", "broken", "good"]) (sc := defScope s_law) (own := [("line", 6)]) (by decide +kernel)) (fun _ _ _ _ _ => (pg_name (i := 6) S.nd rfl (by first | exact Or.inl rfl | exact Or.inr rfl))) (fun _ _ _ _ _ => pts_nil) (fun _ _ _ _ _ => (pe_op op_addS (pv 6) pe_str)))))
 (pss_cons (ps_if (pt_not (pt_val (pe_callB call_isi (by rfl) B.isinstance (by decide +kernel) (pa_cons (pe_call G__law_told (hr.mono (by first | exact Nat.le_refl _ | decide | omega)) (by rfl) L__law_told.m L__law_told.kp L__law_told.bi .nil pass0 (pa_cons (pv 5) pa_nil)) (pa_cons (pe_ty (n := "str") B.str (by decide +kernel)) pa_nil)))))
 (pss_one (ps_ret pe_bl))
 pss_nil)
 (pss_cons (ps_set (i := 7) S.nd rfl (by first | exact Or.inl rfl | exact Or.inr rfl) (pe_op op_add pe_int (pe_call G__law_draw (hr.mono (by first | exact Nat.le_refl _ | decide | omega)) (by rfl) L__law_draw.m L__law_draw.kp L__law_draw.bi .nil pass0 (pa_cons (pv 1) (pa_cons (pe_callB c_len (by rfl) B.len (by decide +kernel) (pa_cons (pv 2) pa_nil)) pa_nil)))))
 (pss_cons (ps_set (i := 8) S.nd rfl (by first | exact Or.inl rfl | exact Or.inr rfl) (pe_ix ix_tup (pv 4) (pe_call G__law_draw (hr.mono (by first | exact Nat.le_refl _ | decide | omega)) (by rfl) L__law_draw.m L__law_draw.kp L__law_draw.bi .nil pass0 (pa_cons (pv 1) (pa_cons pe_int pa_nil))) (fun _ _ => rfl)))
 (pss_cons (ps_set (i := 9) S.nd rfl (by first | exact Or.inl rfl | exact Or.inr rfl) (pe_op op_catL (pe_op op_catL (pe_slice sl_list (pv 2) po_none (po_some (pv 7))) (pe_lst (pa_cons (pv 8) pa_nil))) (pe_slice sl_list (pv 2) (po_some (pv 7)) po_none)))
 (pss_cons (ps_if (pt_not (pt_val (pe_call G__law_same (hr.mono (by first | exact Nat.le_refl _ | decide | omega)) (by rfl) L__law_same.m L__law_same.kp L__law_same.bi .nil pass0 (pa_cons (pe_call G__law_told (hr.mono (by first | exact Nat.le_refl _ | decide | omega)) (by rfl) L__law_told.m L__law_told.kp L__law_told.bi .nil pass0 (pa_cons (pe_m1 PySem.F.slot_str_join PySem.F.type_str_join mu_join pe_str (pv 9)) pa_nil)) (pa_cons (pe_op op_add (pv 7) pe_int) pa_nil)))))
 (pss_one (ps_ret pe_bl))
 pss_nil)
 (pss_cons (ps_if (PW.pt (pw_or (pt_not (pt_val (pe_call G__law_same (hr.mono (by first | exact Nat.le_refl _ | decide | omega)) (by rfl) L__law_same.m L__law_same.kp L__law_same.bi .nil pass0 (pa_cons (pe_call G__law_told (hr.mono (by first | exact Nat.le_refl _ | decide | omega)) (by rfl) L__law_told.m L__law_told.kp L__law_told.bi .nil pass0 (pa_cons pe_str pa_nil)) (pa_cons pe_int pa_nil))))) (pw_or1 (pt_not (pt_val (pe_call G__law_same (hr.mono (by first | exact Nat.le_refl _ | decide | omega)) (by rfl) L__law_same.m L__law_same.kp L__law_same.bi .nil pass0 (pa_cons (pe_call G__law_told (hr.mono (by first | exact Nat.le_refl _ | decide | omega)) (by rfl) L__law_told.m L__law_told.kp L__law_told.bi .nil pass0 (pa_cons pe_str pa_nil)) (pa_cons pe_str pa_nil))))))))
 (pss_one (ps_ret pe_bl))
 pss_nil)
 (pss_cons (ps_set (i := 10) S.nd rfl (by first | exact Or.inl rfl | exact Or.inr rfl) pe_str)
 (pss_one (ps_ret (pe_call G__law_same (hr.mono (by first | exact Nat.le_refl _ | decide | omega)) (by rfl) L__law_same.m L__law_same.kp L__law_same.bi .nil pass0 (pa_cons (pe_call G__law_told (hr.mono (by first | exact Nat.le_refl _ | decide | omega)) (by rfl) L__law_told.m L__law_told.kp L__law_told.bi .nil pass0 (pa_cons (pv 10) pa_nil)) (pa_cons pe_str pa_nil)))))))))))))))))), ?_⟩
  clear G_least_between G_neighbors G_breaks G_would_break G_free_channels G_clash_with G_search G_solved G_lowest G_blocking G_span G_greedy G_read_number G_number_to G_Console___init__ G_Console_separations G_Console_set_need G_Console_check G_Console_execute G_run_console G__law_told G__law_same G__law_pool G__law_spread G__law_draw L_least_between L_neighbors L_breaks L_would_break L_free_channels L_search L_clash_with L_solved L_read_number L_span L_greedy L_lowest L_blocking L_number_to L_run_console L__law_same L__law_pool L__law_spread L__law_draw L__law_told L_law F_least_between F_neighbors F_breaks F_would_break F_free_channels F_clash_with F_solved F_read_number F_span F_greedy F_lowest F_blocking F_number_to F_run_console F__law_same F__law_pool F__law_spread F__law_draw F__law_told F_law L_Console___init__ L_Console_separations L_Console_set_need L_Console_check L_Console_execute F_Console___init__ F_Console_separations F_Console_set_need F_Console_check F_Console_execute M_Console T_Console X_InvalidText X_InvalidLine FC F_search TB
  have tj : TabJ C0 q0 #[] H := TabJ.nil hC
  refine q (st_poolT (n := 11) hS hlen rfl rfl (by decide) tj fun p s σ3 H3 hne hpC hsC A3 => q ?_)
  replace A3 : At K (fun b => b ≠ p ∧ b ≠ C0) (JPT p s ns C0 q0 #[]) [none, some (.raw (.ref p)), none, none, none, none, none, none, none, none, none] σ3 H3 := A3
  have hP : ∀ ps, Pooled (fun b => b ≠ p ∧ b ≠ C0) (JPT p s ns C0 q0 ps) p s ns := fun ps => pooledT (fun z => z.1 rfl) hne hpC.symm
  have T : TblF (fun b => b ≠ p ∧ b ≠ C0) C0 q0 (JPT p s ns C0 q0) := tblP (fun z => z.2 rfl) hpC hsC
  clear tj
  generalize (fun b => b ≠ p ∧ b ≠ C0 : Addr → Prop) = φ at A3 hP T
  refine st_newS A3 (en_ofN (en_lstD (ea_cons ev_str ea_nil))) fun l ds0 Cc J4 σ4 H4 hC4 N4 L4 A4 => q ?_
  obtain ⟨e, rfl⟩ := hC4
  subst e
  have hP4 : Pooled (wo φ l) J4 p s ns := N4.ext.pool _ _ _ (hP #[])
  obtain ⟨npl, nsl⟩ := N4.pl _ _ _ (hP #[])
  have sb := N4.st
  replace A4 : At K (wo φ l) J4 [none, some (.raw (.ref p)), some (.raw (.ref l)), none, none, none, none, none, none, none, none] σ4 H4 := A4
  refine st_forP A4 (it_range1P (p := fun n => 0 ≤ n ∧ n < 4) (ea_i (ev_draw hP4 rfl ev_int (by decide) (by decide))) (fun n h => by omega)) fun ds5 H5 h5 A5 => ?_
  obtain ⟨nn, ⟨nn0, nn4⟩, rfl⟩ := h5
  refine forG_by A5 (fun i ρ' J' => ∃ (L : List Str) (o : Option D), L.length = i ∧ i ≤ 3 ∧ (∀ x ∈ L, x ∈ D8) ∧ LivS K (wo φ l) J' l HO.lst ((U3 :: L).map D.str) ∧ (∀ H', J' H' → JPT p s ns C0 q0 #[] H') ∧ Pooled (wo φ l) J' p s ns ∧ ρ' = [none, some (.raw (.ref p)), some (.raw (.ref l)), o, none, none, none, none, none, none, none]) ⟨[], none, rfl, by decide, (fun x h => by cases h), L4, fun H' h => N4.ext.imp H' h, hP4, rfl⟩ ?_ ?_
  · rintro i x ρ' J' hx ⟨L, o, hL, hi3, hD, L6, hb6, hP6, rfl⟩
    refine ⟨_, _, eg_name, fun σ' H' A6 => ?_⟩
    have hi : i < 3 := by
      have := (List.getElem?_eq_some_iff.mp hx).1
      rw [rangeD_length] at this
      omega
    replace A6 : At K (wo φ l) (fun H => J' H ∧ But (wo φ l) H5 H) [none, some (.raw (.ref p)), some (.raw (.ref l)), some x, none, none, none, none, none, none, none] σ' H' := A6
    have hP6' : Pooled (wo φ l) (fun H => J' H ∧ But (wo φ l) H5 H) p s ns := Ext.but'.pool _ _ _ hP6
    refine st_appS (P := fun d => ∃ b ∈ D8, d = .str b) A6 L6.but rfl (ev_ixTP (Pa := fun d => d = .tup (D8.map D.str)) (P := fun d => ∃ b ∈ D8, d = .str b) (ev_tup (ea_cons ev_str (ea_cons ev_str (ea_cons ev_str (ea_cons ev_str (ea_cons ev_str (ea_cons ev_str (ea_cons ev_str (ea_cons ev_str ea_nil))))))))) (ev_draw hP6' rfl ev_int (by decide) (by decide)) ?_) (by rw [List.length_map]; show L.length + 1 ≤ _; omega) fun d J8 H8 hd W8 L8 A8 => ?_
    · rintro x j rfl ⟨h0, h1⟩
      have hj : j.toNat < D8.length := by
        have : D8.length = 8 := rfl
        omega
      refine ⟨_, _, rfl, ?_, D8[j.toNat], List.getElem_mem hj, rfl⟩
      have z := atI_ofNat (xs := D8.map D.str) (i := j.toNat) (x := .str D8[j.toNat]) (by rw [List.getElem?_map, List.getElem?_eq_getElem hj]; rfl)
      rw [Int.toNat_of_nonneg h0] at z
      exact z
    · obtain ⟨b, hb, rfl⟩ := hd
      have hb8 := W8.base _ (fun H h => h.2) (Stab.but (.inl L6.np))
      refine ⟨_, J8, ⟨L ++ [b], _, by rw [List.length_append, hL]; rfl, hi, fun z hz => ?_, by rw [← List.cons_append, List.map_append]; exact L8, W8.base _ (fun H h => hb6 H h.1) sb, W8.pool _ _ _ hP6' npl nsl, rfl⟩, A8.live ⟨A8.j, hb8 _ A8.j⟩ (A8.mono.and (Mo.but (hb8 _ A8.j).tr))⟩
      rcases List.mem_append.mp hz with hz | hz
      · exact hD z hz
      · rw [List.mem_singleton.mp hz]
        exact hb
  rintro ρ' J' σ6 H6 ⟨L, o, hL, hL3, hD, L6, hb6, hP6, rfl⟩ A6
  have A7 := L6.but.freeze N4.fr A6 (k := 2) rfl
  have hj := hb6 _ A7.j.1.1
  have A8 : At K φ (JPT p s ns C0 q0 #[]) [none, some (.raw (.ref p)), some (.lst ((U3 :: L).map D.str)), o, none, none, none, none, none, none, none] σ6 H6 := A7.live hj (T.mo _ _ hj)
  clear A7 A6 L6 hP6 A5 A4 L4 hP4 N4 hj hb6
  have hLl : L.length ≤ 3 := by omega
  have hLn : ∀ x ∈ U3 :: L, LnOk x := fun x hx => by
    rcases List.mem_cons.mp hx with rfl | hx
    · exact users_ok
    · exact (d8_ok (hD x hx)).1
  have hLl1 : (U3 :: L).length ≤ 40 := by show L.length + 1 ≤ 40; omega
  dsimp only
  refine q (st_set (d := .tup (W26.map D.str)) A8 (ev_tup (ea_cons ev_str (ea_cons ev_str (ea_cons ev_str (ea_cons ev_str (ea_cons ev_str (ea_cons ev_str (ea_cons ev_str (ea_cons ev_str (ea_cons ev_str (ea_cons ev_str (ea_cons ev_str (ea_cons ev_str (ea_cons ev_str (ea_cons ev_str (ea_cons ev_str (ea_cons ev_str (ea_cons ev_str (ea_cons ev_str (ea_cons ev_str (ea_cons ev_str (ea_cons ev_str (ea_cons ev_str (ea_cons ev_str (ea_cons ev_str (ea_cons ev_str (ea_cons ev_str ea_nil))))))))))))))))))))))))))) fun σ9 H9 A9 => q ?_)
  replace A9 : At K φ (JPT p s ns C0 q0 #[]) [none, some (.raw (.ref p)), some (.lst ((U3 :: L).map D.str)), o, some (.tup (W26.map D.str)), none, none, none, none, none, none] σ9 H9 := A9
  refine st_set (d := .str (txtS (U3 :: L))) A9 (ev_txt (k := 6) (it_list (ev_var (i := 2) rfl)) hLn hLl1 fun d => rfl) fun σ10 H10 A10 => q ?_
  replace A10 : At K φ (JPT p s ns C0 q0 #[]) [none, some (.raw (.ref p)), some (.lst ((U3 :: L).map D.str)), o, some (.tup (W26.map D.str)), some (.str (txtS (U3 :: L))), none, none, none, none, none] σ10 H10 := A10
  obtain ⟨R0, hR0⟩ := run_right hD (by omega)
  refine st_noJ (J := JPT p s ns C0 q0) A10 (etu_no (etu_B (eu_isi (eu_callT (P := fun z => z = .str R0) T (eau_of (Pr := fun z => z = [.str (txtS (U3 :: L))]) fun ps => ea_cons (ev_var (i := 5) rfl) ea_nil) fun ds e => ⟨_, by rw [e]; rfl, ⟨_, e, hR0⟩, rfl⟩) fun d e => by rw [e]; exact ⟨rfl, rfl⟩))) fun ps1 H11 A11 => st_next (q ?_)
  refine st_asg (P := fun d => ∃ k : Nat, k ≤ L.length ∧ d = .int (1 + (k : Int))) A11 ((ei_add (ev_i ev_int) (ev_draw (n := ((L.length + 1 : Nat) : Int)) (hP _) rfl ((ev_lenL (ev_var (i := 2) rfl)).is (by rw [List.length_map]; rfl)) (by omega) (by omega))).imp ?_) fun d σ12 H12 hd A12 => q ?_
  · rintro d ⟨n, rfl, i, j, hi, hj, e⟩
    exact ⟨j.toNat, by omega, by congr 1; omega⟩
  obtain ⟨k, hk, rfl⟩ := hd
  replace A12 : At K φ (JPT p s ns C0 q0 ps1) [none, some (.raw (.ref p)), some (.lst ((U3 :: L).map D.str)), o, some (.tup (W26.map D.str)), some (.str (txtS (U3 :: L))), none, some (.int (1 + (k : Int))), none, none, none] σ12 H12 := A12
  refine st_asg (P := fun d => ∃ b ∈ W26, d = .str b) A12 (ev_ixTP (Pa := fun d => d = .tup (W26.map D.str)) (P := fun d => ∃ b ∈ W26, d = .str b) (ev_var (i := 4) rfl) (ev_draw (hP _) rfl ev_int (by decide) (by decide)) ?_) fun d σ14 H14 hd A14 => q ?_
  · rintro x j rfl ⟨h0, h1⟩
    have hj : j.toNat < W26.length := by
      have : W26.length = 26 := rfl
      omega
    refine ⟨_, _, rfl, ?_, W26[j.toNat], List.getElem_mem hj, rfl⟩
    have z := atI_ofNat (xs := W26.map D.str) (i := j.toNat) (x := .str W26[j.toNat]) (by rw [List.getElem?_map, List.getElem?_eq_getElem hj]; rfl)
    rw [Int.toNat_of_nonneg h0] at z
    exact z
  obtain ⟨b, hb, rfl⟩ := hd
  obtain ⟨b1, b2, b3⟩ := w26_ok hb
  replace A14 : At K φ (JPT p s ns C0 q0 ps1) [none, some (.raw (.ref p)), some (.lst ((U3 :: L).map D.str)), o, some (.tup (W26.map D.str)), some (.str (txtS (U3 :: L))), none, some (.int (1 + (k : Int))), some (.str b), none, none] σ14 H14 := A14
  have hk0 : (0 : Int) ≤ 1 + (k : Int) := by omega
  have hkn : (1 + (k : Int)).toNat = k + 1 := by omega
  have lenTk : (L.take k).length = k := by rw [List.length_take, Nat.min_eq_left hk]
  have hll : (U3 :: L).length = L.length + 1 := rfl
  refine st_set (d := .lst ((U3 :: (L.take k ++ b :: L.drop k)).map D.str)) A14 ((ev_catL (ev_catL (ev_slL (ev_var (i := 2) rfl) eo_none (eo_some (ev_var (i := 7) rfl))) (ev_lst (ea_cons (ev_var (i := 8) rfl) ea_nil)) (by
      rw [cutD_hi hk0, List.length_take, List.length_map]
      show _ + 1 ≤ _
      omega)) (ev_slL (ev_var (i := 2) rfl) (eo_some (ev_var (i := 7) rfl)) eo_none) (by
      rw [cutD_hi hk0, cutD_lo hk0, List.length_append, List.length_take, List.length_drop, List.length_map]
      show _ + 1 + _ ≤ _
      omega)).is (by
      rw [cutD_hi hk0, cutD_lo hk0, hkn, ← List.map_take, ← List.map_drop, List.take_succ_cons, List.drop_succ_cons, List.map_cons, List.map_cons, List.map_append, List.map_cons]
      simp)) fun σ15 H15 A15 => q ?_
  replace A15 : At K φ (JPT p s ns C0 q0 ps1) [none, some (.raw (.ref p)), some (.lst ((U3 :: L).map D.str)), o, some (.tup (W26.map D.str)), some (.str (txtS (U3 :: L))), none, some (.int (1 + (k : Int))), some (.str b), some (.lst ((U3 :: (L.take k ++ b :: L.drop k)).map D.str)), none] σ15 H15 := A15
  have hBr : ∀ x ∈ U3 :: (L.take k ++ b :: L.drop k), x.length ≤ 1000 := fun x hx => by
    rcases List.mem_cons.mp hx with rfl | hx
    · exact users_ok.1
    · rcases List.mem_append.mp hx with hx | hx
      · exact (d8_ok (hD x (List.mem_of_mem_take hx))).1.1
      · rcases List.mem_cons.mp hx with rfl | hx
        · exact b1.1
        · exact (d8_ok (hD x (List.mem_of_mem_drop hx))).1.1
  have lenBr : (U3 :: (L.take k ++ b :: L.drop k)).length ≤ 7 := by
    rw [List.length_cons, List.length_append, lenTk, List.length_cons, List.length_drop]
    omega
  have T1 := run_wrong (L := L.take k) (R := L.drop k) (fun x hx => hD x (List.mem_of_mem_take hx)) (fun x hx => hD x (List.mem_of_mem_drop hx)) hb (by rw [lenTk, List.length_drop]; omega)
  rw [lenTk] at T1
  refine st_noJ (J := JPT p s ns C0 q0) A15 (etu_same T (fun ps => ev_join (ys := U3 :: (L.take k ++ b :: L.drop k)) ev_str (ev_var (i := 9) rfl) ?_) T1 rfl fun ps => (ev_add (ev_var (i := 7) rfl) ev_int).is (by congr 1; omega)) fun ps2 H16 A16 => st_next (q ?_)
  · have a := sum_le (ys := U3 :: (L.take k ++ b :: L.drop k)) (b := 1000) hBr
    have l1 : ("\n" : Str).length = 1 := by decide +kernel
    rw [l1]
    omega
  refine st_noJ (J := JPT p s ns C0 q0) A16 (etu_orF (etu_same (E1 := E0) (E2 := E0) T (fun ps => ev_str) run_first rfl fun ps => ev_int) (etu_same (E1 := E0) (E2 := E0) T (fun ps => ev_str) run_blank rfl fun ps => ev_str)) fun ps3 H17 A17 => st_next ?_
  dsimp only
  refine q (st_set (d := .str "users 24\nneed 23 22 9\nneed 0 1 0\nusers 0\nassign 40\ncheck 0\nblocking 0 999999999 100\ngreedy\nspan\n") A17 ev_str fun σ18 H18 A18 => q ?_)
  replace A18 : At K φ (JPT p s ns C0 q0 ps3) [none, some (.raw (.ref p)), some (.lst ((U3 :: L).map D.str)), o, some (.tup (W26.map D.str)), some (.str (txtS (U3 :: L))), none, some (.int (1 + (k : Int))), some (.str b), some (.lst ((U3 :: (L.take k ++ b :: L.drop k)).map D.str)), some (.str "users 24\nneed 23 22 9\nneed 0 1 0\nusers 0\nassign 40\ncheck 0\nblocking 0 999999999 100\ngreedy\nspan\n")] σ18 H18 := A18
  refine st_retJ (J := JPT p s ns C0 q0) A18 (eu_same (P := fun z => z = .bl true) T (fun ps => ev_var (i := 10) rfl) run_good rfl (fun ps => ev_str) rfl) fun v d ps4 H19 e A19 r => ?_
  subst e
  cases (show v = .bl true from r)
  exact kq H19
end
end
/-! ### what the top has written; the law's own head -/
theorem all_mk {l : PySem.W.OpenLaw} {w : World} {K : PySem.W.Frag} {h : Heap} {mg : Str → Option Value} {fa : Addr} {f0 : Addr} {od0 an0 : Option Addr} {sl0 : Array (Option Value)} {oc0 kV0 dc0 pm0 cd0 ct0 : Value} {f1 : Addr} {od1 an1 : Option Addr} {sl1 : Array (Option Value)} {oc1 kV1 dc1 pm1 cd1 ct1 : Value} {f2 : Addr} {od2 an2 : Option Addr} {sl2 : Array (Option Value)} {oc2 kV2 dc2 pm2 cd2 ct2 : Value} {f3 : Addr} {od3 an3 : Option Addr} {sl3 : Array (Option Value)} {oc3 kV3 dc3 pm3 cd3 ct3 : Value} {f4 : Addr} {od4 an4 : Option Addr} {sl4 : Array (Option Value)} {oc4 kV4 dc4 pm4 cd4 ct4 : Value} {f5 : Addr} {od5 an5 : Option Addr} {sl5 : Array (Option Value)} {oc5 kV5 dc5 pm5 ct5 : Value} {f6 : Addr} {od6 an6 : Option Addr} {sl6 : Array (Option Value)} {oc6 kV6 dc6 pm6 cd6 ct6 : Value} {f7 : Addr} {od7 an7 : Option Addr} {sl7 : Array (Option Value)} {oc7 kV7 dc7 pm7 cd7 ct7 : Value} {f8 : Addr} {od8 an8 : Option Addr} {sl8 : Array (Option Value)} {oc8 kV8 dc8 pm8 cd8 ct8 : Value} {f9 : Addr} {od9 an9 : Option Addr} {sl9 : Array (Option Value)} {oc9 kV9 dc9 pm9 cd9 ct9 : Value} {f10 : Addr} {od10 an10 : Option Addr} {sl10 : Array (Option Value)} {oc10 kV10 dc10 pm10 cd10 ct10 : Value} {f11 : Addr} {od11 an11 : Option Addr} {sl11 : Array (Option Value)} {oc11 kV11 dc11 pm11 cd11 ct11 : Value} {f12 : Addr} {od12 an12 : Option Addr} {sl12 : Array (Option Value)} {oc12 kV12 dc12 pm12 cd12 ct12 : Value} {f13 : Addr} {od13 an13 : Option Addr} {sl13 : Array (Option Value)} {oc13 kV13 dc13 pm13 cd13 ct13 : Value} {f14 : Addr} {od14 an14 : Option Addr} {sl14 : Array (Option Value)} {oc14 kV14 dc14 pm14 cd14 ct14 : Value} {f15 : Addr} {od15 an15 : Option Addr} {sl15 : Array (Option Value)} {oc15 kV15 dc15 pm15 cd15 ct15 : Value} {f16 : Addr} {od16 an16 : Option Addr} {sl16 : Array (Option Value)} {oc16 kV16 dc16 pm16 cd16 ct16 : Value} {f17 : Addr} {od17 an17 : Option Addr} {sl17 : Array (Option Value)} {oc17 kV17 dc17 pm17 cd17 ct17 : Value} {f18 : Addr} {od18 an18 : Option Addr} {sl18 : Array (Option Value)} {oc18 kV18 dc18 pm18 cd18 ct18 : Value} {f19 : Addr} {od19 an19 : Option Addr} {sl19 : Array (Option Value)} {oc19 kV19 dc19 pm19 cd19 ct19 : Value} {f20 : Addr} {od20 an20 : Option Addr} {sl20 : Array (Option Value)} {oc20 kV20 dc20 pm20 cd20 ct20 : Value} {t_MOST_LEAST : Tok} {t_MOST_USERS : Tok} {t_MOST_ASSIGN : Tok} {t_MOST_BLOCKING : Tok} {t_DIGITS : Tok} {t_MOST_DIGITS : Tok} {c_InvalidText : Addr} {c_InvalidLine fI_InvalidLine cc_InvalidLine cda_InvalidLine : Addr} {oc_InvalidLine : Value} {od_InvalidLine an_InvalidLine : Option Addr} {kV_InvalidLine dc_InvalidLine pm_InvalidLine ct_InvalidLine : Value} {sl_InvalidLine : Array (Option Value)} {ccl_InvalidLine : Value} {cdd_InvalidLine : Option Addr} {vs_InvalidLine : Array Value} {ccs_InvalidLine : Array (Option Value)} {file_InvalidLine : Str} {tf_InvalidLine : Tok} {cl_InvalidLine : Value} {cld_InvalidLine : Option Addr} {csl_InvalidLine : Array (Option Value)} {C_Console : Addr} {f_Console___init__ : Addr} {od_Console___init__ an_Console___init__ : Option Addr} {sl_Console___init__ : Array (Option Value)} {oc_Console___init__ kV_Console___init__ dc_Console___init__ pm_Console___init__ cd_Console___init__ ct_Console___init__ : Value} {f_Console_separations : Addr} {od_Console_separations an_Console_separations : Option Addr} {sl_Console_separations : Array (Option Value)} {oc_Console_separations kV_Console_separations dc_Console_separations pm_Console_separations cd_Console_separations ct_Console_separations : Value} {f_Console_set_need : Addr} {od_Console_set_need an_Console_set_need : Option Addr} {sl_Console_set_need : Array (Option Value)} {oc_Console_set_need kV_Console_set_need dc_Console_set_need pm_Console_set_need cd_Console_set_need ct_Console_set_need : Value} {f_Console_check : Addr} {od_Console_check an_Console_check : Option Addr} {sl_Console_check : Array (Option Value)} {oc_Console_check kV_Console_check dc_Console_check pm_Console_check cd_Console_check ct_Console_check : Value} {f_Console_execute : Addr} {od_Console_execute an_Console_execute : Option Addr} {sl_Console_execute : Array (Option Value)} {oc_Console_execute kV_Console_execute dc_Console_execute pm_Console_execute cd_Console_execute ct_Console_execute : Value} {cR CT : Addr} (X : K.In h) (G : h.Ns mainGlobals mg) (hfa : mg "law" = some (.ref fa))
    (hT : h.get? CT = some { cls := .none, data := .fields #[] }) (a0 : PySem.W.nsIn K mainGlobals "least_between" = some (some (.ref f0))) (l0 : K.lookup f0 = some ⟨oc0, od0, .func (PySem.W.fnOf "least_between" "least_between" (defArgs s_least_between) (defBody s_least_between) (defScope s_least_between) .none kV0 dc0 pm0 an0 cd0 ct0), sl0⟩) (c0 : PySem.W.codeIn K cd0 "least_between" = true) (k0 : PySem.W.keepIn K (.ref f0) = true) (a1 : PySem.W.nsIn K mainGlobals "neighbors" = some (some (.ref f1))) (l1 : K.lookup f1 = some ⟨oc1, od1, .func (PySem.W.fnOf "neighbors" "neighbors" (defArgs s_neighbors) (defBody s_neighbors) (defScope s_neighbors) .none kV1 dc1 pm1 an1 cd1 ct1), sl1⟩) (c1 : PySem.W.codeIn K cd1 "neighbors" = true) (k1 : PySem.W.keepIn K (.ref f1) = true) (a2 : PySem.W.nsIn K mainGlobals "breaks" = some (some (.ref f2))) (l2 : K.lookup f2 = some ⟨oc2, od2, .func (PySem.W.fnOf "breaks" "breaks" (defArgs s_breaks) (defBody s_breaks) (defScope s_breaks) .none kV2 dc2 pm2 an2 cd2 ct2), sl2⟩) (c2 : PySem.W.codeIn K cd2 "breaks" = true) (k2 : PySem.W.keepIn K (.ref f2) = true) (a3 : PySem.W.nsIn K mainGlobals "would_break" = some (some (.ref f3))) (l3 : K.lookup f3 = some ⟨oc3, od3, .func (PySem.W.fnOf "would_break" "would_break" (defArgs s_would_break) (defBody s_would_break) (defScope s_would_break) .none kV3 dc3 pm3 an3 cd3 ct3), sl3⟩) (c3 : PySem.W.codeIn K cd3 "would_break" = true) (k3 : PySem.W.keepIn K (.ref f3) = true) (a4 : PySem.W.nsIn K mainGlobals "free_channels" = some (some (.ref f4))) (l4 : K.lookup f4 = some ⟨oc4, od4, .func (PySem.W.fnOf "free_channels" "free_channels" (defArgs s_free_channels) (defBody s_free_channels) (defScope s_free_channels) .none kV4 dc4 pm4 an4 cd4 ct4), sl4⟩) (c4 : PySem.W.codeIn K cd4 "free_channels" = true) (k4 : PySem.W.keepIn K (.ref f4) = true) (a5 : PySem.W.nsIn K mainGlobals "search" = some (some (.ref f5))) (l5 : K.lookup f5 = some ⟨oc5, od5, .func (PySem.W.fnOf "search" "search" (defArgs s_search) (defBody s_search) (defScope s_search) .none kV5 dc5 pm5 an5 (.ref cR) ct5), sl5⟩) (c5 : PySem.W.codeIn K (.ref cR) "search" = true) (k5 : PySem.W.keepIn K (.ref f5) = true) (a6 : PySem.W.nsIn K mainGlobals "clash_with" = some (some (.ref f6))) (l6 : K.lookup f6 = some ⟨oc6, od6, .func (PySem.W.fnOf "clash_with" "clash_with" (defArgs s_clash_with) (defBody s_clash_with) (defScope s_clash_with) .none kV6 dc6 pm6 an6 cd6 ct6), sl6⟩) (c6 : PySem.W.codeIn K cd6 "clash_with" = true) (k6 : PySem.W.keepIn K (.ref f6) = true) (a7 : PySem.W.nsIn K mainGlobals "solved" = some (some (.ref f7))) (l7 : K.lookup f7 = some ⟨oc7, od7, .func (PySem.W.fnOf "solved" "solved" (defArgs s_solved) (defBody s_solved) (defScope s_solved) .none kV7 dc7 pm7 an7 cd7 ct7), sl7⟩) (c7 : PySem.W.codeIn K cd7 "solved" = true) (k7 : PySem.W.keepIn K (.ref f7) = true) (a8 : PySem.W.nsIn K mainGlobals "read_number" = some (some (.ref f8))) (l8 : K.lookup f8 = some ⟨oc8, od8, .func (PySem.W.fnOf "read_number" "read_number" (defArgs s_read_number) (defBody s_read_number) (defScope s_read_number) .none kV8 dc8 pm8 an8 cd8 ct8), sl8⟩) (c8 : PySem.W.codeIn K cd8 "read_number" = true) (k8 : PySem.W.keepIn K (.ref f8) = true) (a9 : PySem.W.nsIn K mainGlobals "span" = some (some (.ref f9))) (l9 : K.lookup f9 = some ⟨oc9, od9, .func (PySem.W.fnOf "span" "span" (defArgs s_span) (defBody s_span) (defScope s_span) .none kV9 dc9 pm9 an9 cd9 ct9), sl9⟩) (c9 : PySem.W.codeIn K cd9 "span" = true) (k9 : PySem.W.keepIn K (.ref f9) = true) (a10 : PySem.W.nsIn K mainGlobals "greedy" = some (some (.ref f10))) (l10 : K.lookup f10 = some ⟨oc10, od10, .func (PySem.W.fnOf "greedy" "greedy" (defArgs s_greedy) (defBody s_greedy) (defScope s_greedy) .none kV10 dc10 pm10 an10 cd10 ct10), sl10⟩) (c10 : PySem.W.codeIn K cd10 "greedy" = true) (k10 : PySem.W.keepIn K (.ref f10) = true) (a11 : PySem.W.nsIn K mainGlobals "lowest" = some (some (.ref f11))) (l11 : K.lookup f11 = some ⟨oc11, od11, .func (PySem.W.fnOf "lowest" "lowest" (defArgs s_lowest) (defBody s_lowest) (defScope s_lowest) .none kV11 dc11 pm11 an11 cd11 ct11), sl11⟩) (c11 : PySem.W.codeIn K cd11 "lowest" = true) (k11 : PySem.W.keepIn K (.ref f11) = true) (a12 : PySem.W.nsIn K mainGlobals "blocking" = some (some (.ref f12))) (l12 : K.lookup f12 = some ⟨oc12, od12, .func (PySem.W.fnOf "blocking" "blocking" (defArgs s_blocking) (defBody s_blocking) (defScope s_blocking) .none kV12 dc12 pm12 an12 cd12 ct12), sl12⟩) (c12 : PySem.W.codeIn K cd12 "blocking" = true) (k12 : PySem.W.keepIn K (.ref f12) = true) (a13 : PySem.W.nsIn K mainGlobals "number_to" = some (some (.ref f13))) (l13 : K.lookup f13 = some ⟨oc13, od13, .func (PySem.W.fnOf "number_to" "number_to" (defArgs s_number_to) (defBody s_number_to) (defScope s_number_to) .none kV13 dc13 pm13 an13 cd13 ct13), sl13⟩) (c13 : PySem.W.codeIn K cd13 "number_to" = true) (k13 : PySem.W.keepIn K (.ref f13) = true) (a14 : PySem.W.nsIn K mainGlobals "run_console" = some (some (.ref f14))) (l14 : K.lookup f14 = some ⟨oc14, od14, .func (PySem.W.fnOf "run_console" "run_console" (defArgs s_run_console) (defBody s_run_console) (defScope s_run_console) .none kV14 dc14 pm14 an14 cd14 ct14), sl14⟩) (c14 : PySem.W.codeIn K cd14 "run_console" = true) (k14 : PySem.W.keepIn K (.ref f14) = true) (a15 : PySem.W.nsIn K mainGlobals "_law_same" = some (some (.ref f15))) (l15 : K.lookup f15 = some ⟨oc15, od15, .func (PySem.W.fnOf "_law_same" "_law_same" (defArgs s__law_same) (defBody s__law_same) (defScope s__law_same) .none kV15 dc15 pm15 an15 cd15 ct15), sl15⟩) (c15 : PySem.W.codeIn K cd15 "_law_same" = true) (k15 : PySem.W.keepIn K (.ref f15) = true) (a16 : PySem.W.nsIn K mainGlobals "_law_pool" = some (some (.ref f16))) (l16 : K.lookup f16 = some ⟨oc16, od16, .func (PySem.W.fnOf "_law_pool" "_law_pool" (defArgs s__law_pool) (defBody s__law_pool) (defScope s__law_pool) .none kV16 dc16 pm16 an16 cd16 ct16), sl16⟩) (c16 : PySem.W.codeIn K cd16 "_law_pool" = true) (k16 : PySem.W.keepIn K (.ref f16) = true) (a17 : PySem.W.nsIn K mainGlobals "_law_spread" = some (some (.ref f17))) (l17 : K.lookup f17 = some ⟨oc17, od17, .func (PySem.W.fnOf "_law_spread" "_law_spread" (defArgs s__law_spread) (defBody s__law_spread) (defScope s__law_spread) .none kV17 dc17 pm17 an17 cd17 ct17), sl17⟩) (c17 : PySem.W.codeIn K cd17 "_law_spread" = true) (k17 : PySem.W.keepIn K (.ref f17) = true) (a18 : PySem.W.nsIn K mainGlobals "_law_draw" = some (some (.ref f18))) (l18 : K.lookup f18 = some ⟨oc18, od18, .func (PySem.W.fnOf "_law_draw" "_law_draw" (defArgs s__law_draw) (defBody s__law_draw) (defScope s__law_draw) .none kV18 dc18 pm18 an18 cd18 ct18), sl18⟩) (c18 : PySem.W.codeIn K cd18 "_law_draw" = true) (k18 : PySem.W.keepIn K (.ref f18) = true) (a19 : PySem.W.nsIn K mainGlobals "_law_told" = some (some (.ref f19))) (l19 : K.lookup f19 = some ⟨oc19, od19, .func (PySem.W.fnOf "_law_told" "_law_told" (defArgs s__law_told) (defBody s__law_told) (defScope s__law_told) .none kV19 dc19 pm19 an19 cd19 ct19), sl19⟩) (c19 : PySem.W.codeIn K cd19 "_law_told" = true) (k19 : PySem.W.keepIn K (.ref f19) = true) (a20 : PySem.W.nsIn K mainGlobals "law" = some (some (.ref f20))) (l20 : K.lookup f20 = some ⟨oc20, od20, .func (PySem.W.fnOf "law" "law" (defArgs s_law) (defBody s_law) (defScope s_law) .none kV20 dc20 pm20 an20 cd20 ct20), sl20⟩) (c20 : PySem.W.codeIn K cd20 "law" = true) (k20 : PySem.W.keepIn K (.ref f20) = true) (z_len : PySem.W.nsIn K mainGlobals "len" = some none) (z_range : PySem.W.nsIn K mainGlobals "range" = some none) (z_isinstance : PySem.W.nsIn K mainGlobals "isinstance" = some none) (z_int : PySem.W.nsIn K mainGlobals "int" = some none) (z_str : PySem.W.nsIn K mainGlobals "str" = some none) (z_bool : PySem.W.nsIn K mainGlobals "bool" = some none) (z_list : PySem.W.nsIn K mainGlobals "list" = some none) (z_tuple : PySem.W.nsIn K mainGlobals "tuple" = some none) (z_dict : PySem.W.nsIn K mainGlobals "dict" = some none) (z_sum : PySem.W.nsIn K mainGlobals "sum" = some none) (z_max : PySem.W.nsIn K mainGlobals "max" = some none) (z_min : PySem.W.nsIn K mainGlobals "min" = some none) (z_abs : PySem.W.nsIn K mainGlobals "abs" = some none) (z_sorted : PySem.W.nsIn K mainGlobals "sorted" = some none) (z_enumerate : PySem.W.nsIn K mainGlobals "enumerate" = some none) (z_zip : PySem.W.nsIn K mainGlobals "zip" = some none) (z_set : PySem.W.nsIn K mainGlobals "set" = some none) (y_MOST_LEAST : PySem.W.nsIn K mainGlobals "MOST_LEAST" = some (some (.int (9) t_MOST_LEAST))) (y_MOST_USERS : PySem.W.nsIn K mainGlobals "MOST_USERS" = some (some (.int (24) t_MOST_USERS))) (y_MOST_ASSIGN : PySem.W.nsIn K mainGlobals "MOST_ASSIGN" = some (some (.int (40) t_MOST_ASSIGN))) (y_MOST_BLOCKING : PySem.W.nsIn K mainGlobals "MOST_BLOCKING" = some (some (.int (100) t_MOST_BLOCKING))) (y_DIGITS : PySem.W.nsIn K mainGlobals "DIGITS" = some (some (.str "0123456789" t_DIGITS))) (y_gcd : PySem.W.nsIn K mainGlobals "gcd" = some (some (.builtin "math.gcd"))) (y_MOST_DIGITS : PySem.W.nsIn K mainGlobals "MOST_DIGITS" = some (some (.int (9) t_MOST_DIGITS))) (xa_InvalidText : PySem.W.nsIn K mainGlobals "InvalidText" = some (some (.ref c_InvalidText))) (xe_InvalidText : PySem.W.excIn K c_InvalidText [.type "ValueError", .type "Exception", .type "BaseException", .type "object"] "ValueError.__new__" = true) (xk_InvalidText : PySem.W.keepIn K (.ref c_InvalidText) = true) (xs_InvalidText : PySem.W.subIn K (.ref c_InvalidText) (.type "BaseException") = some true) (xt_InvalidText : PySem.W.typeIn K (.ref c_InvalidText) = some (.type "type")) (xi_InvalidText : PySem.W.isClsIn K c_InvalidText = true) (xy_InvalidText : PySem.W.subIn K (.ref c_InvalidText) (.ref c_InvalidText) = some true) (xa_InvalidLine : PySem.W.nsIn K mainGlobals "InvalidLine" = some (some (.ref c_InvalidLine))) (xi_InvalidLine : PySem.W.findIn K (.ref c_InvalidLine) "__init__" = some (some (.ref fI_InvalidLine))) (xl_InvalidLine : K.lookup fI_InvalidLine = some ⟨oc_InvalidLine, od_InvalidLine, .func (PySem.W.ksFn "__init__" "InvalidLine.__init__" (defArgs s_InvalidLine___init__) (defBody s_InvalidLine___init__) (defScope s_InvalidLine___init__) .none kV_InvalidLine dc_InvalidLine pm_InvalidLine an_InvalidLine (.ref cda_InvalidLine) ct_InvalidLine cc_InvalidLine), sl_InvalidLine⟩) (xc_InvalidLine : PySem.W.codeIn K (.ref cda_InvalidLine) "InvalidLine.__init__" = true) (xd_InvalidLine : K.lookup cda_InvalidLine = some ⟨ccl_InvalidLine, cdd_InvalidLine, .fields vs_InvalidLine, ccs_InvalidLine⟩) (kf1_InvalidLine : vs_InvalidLine[2]? = some (.str file_InvalidLine tf_InvalidLine)) (kr1_InvalidLine : ((l.prog.main.file : Str) == file_InvalidLine) = true) (xe_InvalidLine : K.lookup cc_InvalidLine = some ⟨cl_InvalidLine, cld_InvalidLine, .cell (some (.ref c_InvalidLine)), csl_InvalidLine⟩) (xf_InvalidLine : PySem.W.isClsIn K c_InvalidLine = true) (xm_InvalidLine : PySem.W.mroIn K c_InvalidLine (.ref c_InvalidLine) = some true) (kr2_InvalidLine : (l.prog.main.scope.names.lookup ("super" : Str)).isSome = false) (kr3_InvalidLine : PySem.W.ks_superIn K c_InvalidLine c_InvalidLine "__init__" = some (some (.builtin "ValueError.__init__"))) (xn_InvalidLine : PySem.W.nsIn K cStatics "thirdparty.any" = some none) (xv_InvalidLine : PySem.W.subIn K (.ref c_InvalidLine) (.type "ValueError") = some true) (kr4_InvalidLine : oexIn K c_InvalidLine = true) (xsa_InvalidLine : PySem.W.findIn K (.ref c_InvalidLine) "__setattr__" = some (some (.builtin "object.__setattr__"))) (xs_InvalidLine : PySem.W.subIn K (.ref c_InvalidLine) (.type "BaseException") = some true) (xt_InvalidLine : PySem.W.typeIn K (.ref c_InvalidLine) = some (.type "type")) (xk_InvalidLine : PySem.W.keepIn K (.ref c_InvalidLine) = true) (xti_InvalidLine : PySem.W.typeIn K (.ref fI_InvalidLine) = some (.type "function")) (xnl_InvalidLine : PySem.W.findIn K (.ref c_InvalidLine) "line" = some none) (xga_InvalidLine : PySem.W.findIn K (.ref c_InvalidLine) "__getattribute__" = some (some (.builtin "BaseException.__getattribute__"))) (xgg_InvalidLine : PySem.W.findIn K (.ref c_InvalidLine) "__getattr__" = some none) (xhd_InvalidLine : PySem.W.hasDictIn K c_InvalidLine = true) (xz_InvalidLine : PySem.W.nsIn K mainGlobals "super" = some none) (xy_InvalidLine : PySem.W.subIn K (.ref c_InvalidLine) (.ref c_InvalidLine) = some true) (qa_Console : PySem.W.nsIn K mainGlobals "Console" = some (some (.ref C_Console))) (qpg_Console : PySem.W.plainGet K C_Console Str.empty = true) (qhd_Console : PySem.W.hasDictIn K C_Console = true) (qpo_Console : PySem.W.plainOver K C_Console = true) (qsa_Console : PySem.W.findIn K (.ref C_Console) "__setattr__" = some (some (.builtin "object.__setattr__"))) (qmk_Console : PySem.W.makesIn K C_Console = true) (qkc_Console : PySem.W.keepIn K (.ref C_Console) = true) (qn_Console_count : PySem.W.findIn K (.ref C_Console) "count" = some none) (qn_Console_needs : PySem.W.findIn K (.ref C_Console) "needs" = some none) (ma_Console___init__ : PySem.W.findIn K (.ref C_Console) "__init__" = some (some (.ref f_Console___init__))) (mi_Console___init__ : PySem.W.isFn K (.ref f_Console___init__) = true) (ml_Console___init__ : K.lookup f_Console___init__ = some ⟨oc_Console___init__, od_Console___init__, .func (PySem.W.fnOf "__init__" "Console.__init__" (defArgs s_Console___init__) (defBody s_Console___init__) (defScope s_Console___init__) .none kV_Console___init__ dc_Console___init__ pm_Console___init__ an_Console___init__ cd_Console___init__ ct_Console___init__), sl_Console___init__⟩) (mc_Console___init__ : PySem.W.codeIn K cd_Console___init__ "Console.__init__" = true) (mk_Console___init__ : PySem.W.keepIn K (.ref f_Console___init__) = true) (ma_Console_separations : PySem.W.findIn K (.ref C_Console) "separations" = some (some (.ref f_Console_separations))) (mi_Console_separations : PySem.W.isFn K (.ref f_Console_separations) = true) (ml_Console_separations : K.lookup f_Console_separations = some ⟨oc_Console_separations, od_Console_separations, .func (PySem.W.fnOf "separations" "Console.separations" (defArgs s_Console_separations) (defBody s_Console_separations) (defScope s_Console_separations) .none kV_Console_separations dc_Console_separations pm_Console_separations an_Console_separations cd_Console_separations ct_Console_separations), sl_Console_separations⟩) (mc_Console_separations : PySem.W.codeIn K cd_Console_separations "Console.separations" = true) (mk_Console_separations : PySem.W.keepIn K (.ref f_Console_separations) = true) (ma_Console_set_need : PySem.W.findIn K (.ref C_Console) "set_need" = some (some (.ref f_Console_set_need))) (mi_Console_set_need : PySem.W.isFn K (.ref f_Console_set_need) = true) (ml_Console_set_need : K.lookup f_Console_set_need = some ⟨oc_Console_set_need, od_Console_set_need, .func (PySem.W.fnOf "set_need" "Console.set_need" (defArgs s_Console_set_need) (defBody s_Console_set_need) (defScope s_Console_set_need) .none kV_Console_set_need dc_Console_set_need pm_Console_set_need an_Console_set_need cd_Console_set_need ct_Console_set_need), sl_Console_set_need⟩) (mc_Console_set_need : PySem.W.codeIn K cd_Console_set_need "Console.set_need" = true) (mk_Console_set_need : PySem.W.keepIn K (.ref f_Console_set_need) = true) (ma_Console_check : PySem.W.findIn K (.ref C_Console) "check" = some (some (.ref f_Console_check))) (mi_Console_check : PySem.W.isFn K (.ref f_Console_check) = true) (ml_Console_check : K.lookup f_Console_check = some ⟨oc_Console_check, od_Console_check, .func (PySem.W.fnOf "check" "Console.check" (defArgs s_Console_check) (defBody s_Console_check) (defScope s_Console_check) .none kV_Console_check dc_Console_check pm_Console_check an_Console_check cd_Console_check ct_Console_check), sl_Console_check⟩) (mc_Console_check : PySem.W.codeIn K cd_Console_check "Console.check" = true) (mk_Console_check : PySem.W.keepIn K (.ref f_Console_check) = true) (ma_Console_execute : PySem.W.findIn K (.ref C_Console) "execute" = some (some (.ref f_Console_execute))) (mi_Console_execute : PySem.W.isFn K (.ref f_Console_execute) = true) (ml_Console_execute : K.lookup f_Console_execute = some ⟨oc_Console_execute, od_Console_execute, .func (PySem.W.fnOf "execute" "Console.execute" (defArgs s_Console_execute) (defBody s_Console_execute) (defScope s_Console_execute) .none kV_Console_execute dc_Console_execute pm_Console_execute an_Console_execute cd_Console_execute ct_Console_execute), sl_Console_execute⟩) (mc_Console_execute : PySem.W.codeIn K cd_Console_execute "Console.execute" = true) (mk_Console_execute : PySem.W.keepIn K (.ref f_Console_execute) = true) (nT : K.lookup CT = none) (hC : PySem.W.codeHdIn K cR CT = true) :
    LamX.LawAtS l w K CX0 167 63 "script" mg fa h := by
  have e := hfa.symm.trans (PySem.W.mg_of X G a20)
  cases e
  have F0 := fun_mk (st := s_least_between) l0 c0 k0
  have b0 := F0.binds (ps := ["separations", "i", "j"]) fun _ _ _ _ _ _ us hl => match us, hl with | [_, _, _], _ => rfl
  have L0 : Lk K mg "least_between" f0 _ ["separations", "i", "j"] := ⟨PySem.W.mg_of X G a0, k0, b0⟩
  have F1 := fun_mk (st := s_neighbors) l1 c1 k1
  have b1 := F1.binds (ps := ["separations", "i"]) fun _ _ _ _ _ _ us hl => match us, hl with | [_, _], _ => rfl
  have L1 : Lk K mg "neighbors" f1 _ ["separations", "i"] := ⟨PySem.W.mg_of X G a1, k1, b1⟩
  have F2 := fun_mk (st := s_breaks) l2 c2 k2
  have b2 := F2.binds (ps := ["separations", "i", "j", "first", "second"]) fun _ _ _ _ _ _ us hl => match us, hl with | [_, _, _, _, _], _ => rfl
  have L2 : Lk K mg "breaks" f2 _ ["separations", "i", "j", "first", "second"] := ⟨PySem.W.mg_of X G a2, k2, b2⟩
  have F3 := fun_mk (st := s_would_break) l3 c3 k3
  have b3 := F3.binds (ps := ["separations", "given", "i", "channel"]) fun _ _ _ _ _ _ us hl => match us, hl with | [_, _, _, _], _ => rfl
  have L3 : Lk K mg "would_break" f3 _ ["separations", "given", "i", "channel"] := ⟨PySem.W.mg_of X G a3, k3, b3⟩
  have F4 := fun_mk (st := s_free_channels) l4 c4 k4
  have b4 := F4.binds (ps := ["separations", "channels", "given", "i"]) fun _ _ _ _ _ _ us hl => match us, hl with | [_, _, _, _], _ => rfl
  have L4 : Lk K mg "free_channels" f4 _ ["separations", "channels", "given", "i"] := ⟨PySem.W.mg_of X G a4, k4, b4⟩
  have F5 := (funC_mk (st := s_search) l5 c5 k5)
  have b5 := F5.fn.binds (ps := ["separations", "channels", "given"]) fun _ _ _ _ _ _ us hl => match us, hl with | [_, _, _], _ => rfl
  have L5 : Lk K mg "search" f5 _ ["separations", "channels", "given"] := ⟨PySem.W.mg_of X G a5, k5, b5⟩
  have F6 := fun_mk (st := s_clash_with) l6 c6 k6
  have b6 := F6.binds (ps := ["separations", "given", "i", "channel"]) fun _ _ _ _ _ _ us hl => match us, hl with | [_, _, _, _], _ => rfl
  have L6 : Lk K mg "clash_with" f6 _ ["separations", "given", "i", "channel"] := ⟨PySem.W.mg_of X G a6, k6, b6⟩
  have F7 := fun_mk (st := s_solved) l7 c7 k7
  have b7 := F7.binds (ps := ["separations", "channels"]) fun _ _ _ _ _ _ us hl => match us, hl with | [_, _], _ => rfl
  have L7 : Lk K mg "solved" f7 _ ["separations", "channels"] := ⟨PySem.W.mg_of X G a7, k7, b7⟩
  have F8 := fun_mk (st := s_read_number) l8 c8 k8
  have b8 := F8.binds (ps := ["word"]) fun _ _ _ _ _ _ us hl => match us, hl with | [_], _ => rfl
  have L8 : Lk K mg "read_number" f8 _ ["word"] := ⟨PySem.W.mg_of X G a8, k8, b8⟩
  have F9 := fun_mk (st := s_span) l9 c9 k9
  have b9 := F9.binds (ps := ["separations"]) fun _ _ _ _ _ _ us hl => match us, hl with | [_], _ => rfl
  have L9 : Lk K mg "span" f9 _ ["separations"] := ⟨PySem.W.mg_of X G a9, k9, b9⟩
  have F10 := fun_mk (st := s_greedy) l10 c10 k10
  have b10 := F10.binds (ps := ["separations", "order"]) fun _ _ _ _ _ _ us hl => match us, hl with | [_, _], _ => rfl
  have L10 : Lk K mg "greedy" f10 _ ["separations", "order"] := ⟨PySem.W.mg_of X G a10, k10, b10⟩
  have F11 := fun_mk (st := s_lowest) l11 c11 k11
  have b11 := F11.binds (ps := ["p", "q"]) fun _ _ _ _ _ _ us hl => match us, hl with | [_, _], _ => rfl
  have L11 : Lk K mg "lowest" f11 _ ["p", "q"] := ⟨PySem.W.mg_of X G a11, k11, b11⟩
  have F12 := fun_mk (st := s_blocking) l12 c12 k12
  have b12 := F12.binds (ps := ["a", "b", "channels"]) fun _ _ _ _ _ _ us hl => match us, hl with | [_, _, _], _ => rfl
  have L12 : Lk K mg "blocking" f12 _ ["a", "b", "channels"] := ⟨PySem.W.mg_of X G a12, k12, b12⟩
  have F13 := fun_mk (st := s_number_to) l13 c13 k13
  have b13 := F13.binds (ps := ["word", "most"]) fun _ _ _ _ _ _ us hl => match us, hl with | [_, _], _ => rfl
  have L13 : Lk K mg "number_to" f13 _ ["word", "most"] := ⟨PySem.W.mg_of X G a13, k13, b13⟩
  have F14 := fun_mk (st := s_run_console) l14 c14 k14
  have b14 := F14.binds (ps := ["text"]) fun _ _ _ _ _ _ us hl => match us, hl with | [_], _ => rfl
  have L14 : Lk K mg "run_console" f14 _ ["text"] := ⟨PySem.W.mg_of X G a14, k14, b14⟩
  have F15 := fun_mk (st := s__law_same) l15 c15 k15
  have b15 := F15.binds (ps := ["actual", "due"]) fun _ _ _ _ _ _ us hl => match us, hl with | [_, _], _ => rfl
  have L15 : Lk K mg "_law_same" f15 _ ["actual", "due"] := ⟨PySem.W.mg_of X G a15, k15, b15⟩
  have F16 := fun_mk (st := s__law_pool) l16 c16 k16
  have b16 := F16.binds (ps := ["script"]) fun _ _ _ _ _ _ us hl => match us, hl with | [_], _ => rfl
  have L16 : Lk K mg "_law_pool" f16 _ ["script"] := ⟨PySem.W.mg_of X G a16, k16, b16⟩
  have F17 := fun_mk (st := s__law_spread) l17 c17 k17
  have b17 := F17.binds (ps := ["cell"]) fun _ _ _ _ _ _ us hl => match us, hl with | [_], _ => rfl
  have L17 : Lk K mg "_law_spread" f17 _ ["cell"] := ⟨PySem.W.mg_of X G a17, k17, b17⟩
  have F18 := fun_mk (st := s__law_draw) l18 c18 k18
  have b18 := F18.binds (ps := ["pool", "many"]) fun _ _ _ _ _ _ us hl => match us, hl with | [_, _], _ => rfl
  have L18 : Lk K mg "_law_draw" f18 _ ["pool", "many"] := ⟨PySem.W.mg_of X G a18, k18, b18⟩
  have F19 := fun_mk (st := s__law_told) l19 c19 k19
  have b19 := F19.binds (ps := ["text"]) fun _ _ _ _ _ _ us hl => match us, hl with | [_], _ => rfl
  have L19 : Lk K mg "_law_told" f19 _ ["text"] := ⟨PySem.W.mg_of X G a19, k19, b19⟩
  have F20 := fun_mk (st := s_law) l20 c20 k20
  have b20 := F20.binds (ps := ["script"]) fun _ _ _ _ _ _ us hl => match us, hl with | [_], _ => rfl
  have L20 : Lk K mg "law" fa _ ["script"] := ⟨PySem.W.mg_of X G a20, k20, b20⟩
  have B : Bi mg := ⟨PySem.W.mg_none_of X G z_len, PySem.W.mg_none_of X G z_range, PySem.W.mg_none_of X G z_isinstance, PySem.W.mg_none_of X G z_int, PySem.W.mg_none_of X G z_str, PySem.W.mg_none_of X G z_bool, PySem.W.mg_none_of X G z_list, PySem.W.mg_none_of X G z_tuple, PySem.W.mg_none_of X G z_dict, PySem.W.mg_none_of X G z_sum, PySem.W.mg_none_of X G z_max, PySem.W.mg_none_of X G z_min, PySem.W.mg_none_of X G z_abs, PySem.W.mg_none_of X G z_sorted, PySem.W.mg_none_of X G z_enumerate, PySem.W.mg_none_of X G z_zip, PySem.W.mg_none_of X G z_set⟩
  have C : Cs mg := ⟨⟨_, PySem.W.mg_of X G y_MOST_LEAST, _, rfl⟩, ⟨_, PySem.W.mg_of X G y_MOST_USERS, _, rfl⟩, ⟨_, PySem.W.mg_of X G y_MOST_ASSIGN, _, rfl⟩, ⟨_, PySem.W.mg_of X G y_MOST_BLOCKING, _, rfl⟩, ⟨_, PySem.W.mg_of X G y_DIGITS, _, rfl⟩, PySem.W.mg_of X G y_gcd, ⟨_, PySem.W.mg_of X G y_MOST_DIGITS, _, rfl⟩⟩
  have X_InvalidText : ExC K mg "InvalidText" c_InvalidText := ⟨PySem.W.mg_of X G xa_InvalidText, xe_InvalidText, xk_InvalidText, xs_InvalidText, xt_InvalidText, exm_sub xs_InvalidText xi_InvalidText xt_InvalidText xy_InvalidText⟩
  have X_InvalidLine : IL l.prog K mg c_InvalidLine fI_InvalidLine (PySem.W.ksFn "__init__" "InvalidLine.__init__" (defArgs s_InvalidLine___init__) (defBody s_InvalidLine___init__) (defScope s_InvalidLine___init__) .none kV_InvalidLine dc_InvalidLine pm_InvalidLine an_InvalidLine (.ref cda_InvalidLine) ct_InvalidLine cc_InvalidLine) cc_InvalidLine cda_InvalidLine := ⟨⟨⟨_, _, _, _, _, _, _, _, rfl, xl_InvalidLine⟩, xc_InvalidLine, ⟨_, _, _, _, _, _, xd_InvalidLine, kf1_InvalidLine, kr1_InvalidLine⟩, ⟨_, _, _, xe_InvalidLine⟩, Option.isSome_iff_exists.mp xf_InvalidLine, xm_InvalidLine, kr2_InvalidLine, kr3_InvalidLine, xn_InvalidLine, xv_InvalidLine, ⟨oex_cls kr4_InvalidLine, xsa_InvalidLine, xs_InvalidLine, xt_InvalidLine, xk_InvalidLine⟩⟩, PySem.W.mg_of X G xa_InvalidLine, xi_InvalidLine, xti_InvalidLine, Binds.all (fun us hl => match us, hl with | [_, _], _ => rfl), xnl_InvalidLine, ⟨xga_InvalidLine, xgg_InvalidLine, xs_InvalidLine, xhd_InvalidLine⟩, PySem.W.mg_none_of X G xz_InvalidLine, exm_sub xs_InvalidLine xf_InvalidLine xt_InvalidLine xy_InvalidLine⟩
  have T_Console : TConsole K mg C_Console := ⟨⟨qpg_Console, qhd_Console, qpo_Console, qsa_Console⟩, qn_Console_count, qn_Console_needs, PySem.W.mg_of X G qa_Console⟩
  have F_Console___init__ := fun_mk (st := s_Console___init__) ml_Console___init__ mc_Console___init__ mk_Console___init__
  have b_Console___init__ := F_Console___init__.binds (ps := ["self"]) fun _ _ _ _ _ _ us hl => match us, hl with | [_], _ => rfl
  have L_Console___init__ : LkM K C_Console "__init__" f_Console___init__ _ ["self"] := ⟨⟨ma_Console___init__, mi_Console___init__, mk_Console___init__⟩, b_Console___init__⟩
  have M_Console : Mk K C_Console f_Console___init__ := ⟨qmk_Console, ma_Console___init__, mi_Console___init__, qkc_Console⟩
  have F_Console_separations := fun_mk (st := s_Console_separations) ml_Console_separations mc_Console_separations mk_Console_separations
  have b_Console_separations := F_Console_separations.binds (ps := ["self"]) fun _ _ _ _ _ _ us hl => match us, hl with | [_], _ => rfl
  have L_Console_separations : LkM K C_Console "separations" f_Console_separations _ ["self"] := ⟨⟨ma_Console_separations, mi_Console_separations, mk_Console_separations⟩, b_Console_separations⟩
  have F_Console_set_need := fun_mk (st := s_Console_set_need) ml_Console_set_need mc_Console_set_need mk_Console_set_need
  have b_Console_set_need := F_Console_set_need.binds (ps := ["self", "words"]) fun _ _ _ _ _ _ us hl => match us, hl with | [_, _], _ => rfl
  have L_Console_set_need : LkM K C_Console "set_need" f_Console_set_need _ ["self", "words"] := ⟨⟨ma_Console_set_need, mi_Console_set_need, mk_Console_set_need⟩, b_Console_set_need⟩
  have F_Console_check := fun_mk (st := s_Console_check) ml_Console_check mc_Console_check mk_Console_check
  have b_Console_check := F_Console_check.binds (ps := ["self", "words"]) fun _ _ _ _ _ _ us hl => match us, hl with | [_, _], _ => rfl
  have L_Console_check : LkM K C_Console "check" f_Console_check _ ["self", "words"] := ⟨⟨ma_Console_check, mi_Console_check, mk_Console_check⟩, b_Console_check⟩
  have F_Console_execute := fun_mk (st := s_Console_execute) ml_Console_execute mc_Console_execute mk_Console_execute
  have b_Console_execute := F_Console_execute.binds (ps := ["self", "words"]) fun _ _ _ _ _ _ us hl => match us, hl with | [_, _], _ => rfl
  have L_Console_execute : LkM K C_Console "execute" f_Console_execute _ ["self", "words"] := ⟨⟨ma_Console_execute, mi_Console_execute, mk_Console_execute⟩, b_Console_execute⟩
  have one : ∀ {p : Addr × Addr}, p ∈ [(cR, CT)] → p = (cR, CT) := fun h => List.mem_singleton.mp h
  refine ⟨_, [(cR, CT)], spLawT K CT, fun p hp => by rw [one hp]; exact hT, fun p hp => by rw [one hp]; exact nT, fun p hp => by rw [one hp]; exact PySem.W.codeHd_of_K X hC, fun s v => .of_eq rfl, fun H a ns hl _ hH hS => ⟨a, ns, rfl, hS, hl, hH _ (List.mem_singleton.mpr rfl), fun _ => rfl⟩, fun base _ _ TB => ok_all B C (cR := cR) (TB _ (List.mem_singleton.mpr rfl)) X_InvalidText X_InvalidLine T_Console F_Console___init__ L_Console___init__ M_Console F_Console_separations L_Console_separations F_Console_set_need L_Console_set_need F_Console_check L_Console_check F_Console_execute L_Console_execute F0 L0 F1 L1 F2 L2 F3 L3 F4 L4 F5.fn L5 F6 L6 F7 L7 F8 L8 F9 L9 F10 L10 F11 L11 F12 L12 F13 L13 F14 L14 F15 L15 F16 L16 F17 L17 F18 L18 F19 L19 F20 L20 F5⟩
end DL
open PySem PySem.W PyProof.Rows
set_option maxRecDepth 100000 in
set_option maxHeartbeats 0 in
theorem PySem.Challenge.cw_airwave_k58_faulty_consoles_holds : PySem.Challenge.rw_airwave_k58_faulty_consoles.Holds := by
  w_on; o_law; k_head; (case hw => w_witness2)
  k_fill
  refine LamX.walk_ofTs (l := PySem.Challenge.rw_airwave_k58_faulty_consoles) (n := 63) (k := 167) (x := "script") (CX := fun _ => L2.CX0) rfl (by decide) rfl ⟨rfl, by decide, by decide⟩ (fun w h Y => PySem.W.km_in_of Y) ?F (fun _ _ _ _ _ h => h)
  case F =>
    intro w mg fa h Y KX G hmg
    have hT := PySem.W.km_tabs_of Y
    refine' DL.all_mk (CT := 133) KX G hmg (hT _ (by simp)) ?a0 ?l0 ?c0 ?k0 ?a1 ?l1 ?c1 ?k1 ?a2 ?l2 ?c2 ?k2 ?a3 ?l3 ?c3 ?k3 ?a4 ?l4 ?c4 ?k4 ?a5 ?l5 ?c5 ?k5 ?a6 ?l6 ?c6 ?k6 ?a7 ?l7 ?c7 ?k7 ?a8 ?l8 ?c8 ?k8 ?a9 ?l9 ?c9 ?k9 ?a10 ?l10 ?c10 ?k10 ?a11 ?l11 ?c11 ?k11 ?a12 ?l12 ?c12 ?k12 ?a13 ?l13 ?c13 ?k13 ?a14 ?l14 ?c14 ?k14 ?a15 ?l15 ?c15 ?k15 ?a16 ?l16 ?c16 ?k16 ?a17 ?l17 ?c17 ?k17 ?a18 ?l18 ?c18 ?k18 ?a19 ?l19 ?c19 ?k19 ?a20 ?l20 ?c20 ?k20 ?z_len ?z_range ?z_isinstance ?z_int ?z_str ?z_bool ?z_list ?z_tuple ?z_dict ?z_sum ?z_max ?z_min ?z_abs ?z_sorted ?z_enumerate ?z_zip ?z_set ?y_MOST_LEAST ?y_MOST_USERS ?y_MOST_ASSIGN ?y_MOST_BLOCKING ?y_DIGITS ?y_gcd ?y_MOST_DIGITS ?xa_InvalidText ?xe_InvalidText ?xk_InvalidText ?xs_InvalidText ?xt_InvalidText ?xi_InvalidText ?xy_InvalidText ?xa_InvalidLine ?xi_InvalidLine ?xl_InvalidLine ?xc_InvalidLine ?xd_InvalidLine ?kf1_InvalidLine ?kr1_InvalidLine ?xe_InvalidLine ?xf_InvalidLine ?xm_InvalidLine ?kr2_InvalidLine ?kr3_InvalidLine ?xn_InvalidLine ?xv_InvalidLine ?kr4_InvalidLine ?xsa_InvalidLine ?xs_InvalidLine ?xt_InvalidLine ?xk_InvalidLine ?xti_InvalidLine ?xnl_InvalidLine ?xga_InvalidLine ?xgg_InvalidLine ?xhd_InvalidLine ?xz_InvalidLine ?xy_InvalidLine ?qa_Console ?qpg_Console ?qhd_Console ?qpo_Console ?qsa_Console ?qmk_Console ?qkc_Console ?qn_Console_count ?qn_Console_needs ?ma_Console___init__ ?mi_Console___init__ ?ml_Console___init__ ?mc_Console___init__ ?mk_Console___init__ ?ma_Console_separations ?mi_Console_separations ?ml_Console_separations ?mc_Console_separations ?mk_Console_separations ?ma_Console_set_need ?mi_Console_set_need ?ml_Console_set_need ?mc_Console_set_need ?mk_Console_set_need ?ma_Console_check ?mi_Console_check ?ml_Console_check ?mc_Console_check ?mk_Console_check ?ma_Console_execute ?mi_Console_execute ?ml_Console_execute ?mc_Console_execute ?mk_Console_execute ?nT ?hC
    (case a0 => k_is); (case l0 => k_is); (case c0 => k_is); (case k0 => k_is); (case a1 => k_is); (case l1 => k_is); (case c1 => k_is); (case k1 => k_is); (case a2 => k_is); (case l2 => k_is); (case c2 => k_is); (case k2 => k_is); (case a3 => k_is); (case l3 => k_is); (case c3 => k_is); (case k3 => k_is); (case a4 => k_is); (case l4 => k_is); (case c4 => k_is); (case k4 => k_is); (case a5 => k_is); (case l5 => k_is); (case c5 => k_is); (case k5 => k_is); (case a6 => k_is); (case l6 => k_is); (case c6 => k_is); (case k6 => k_is); (case a7 => k_is); (case l7 => k_is); (case c7 => k_is); (case k7 => k_is); (case a8 => k_is); (case l8 => k_is); (case c8 => k_is); (case k8 => k_is); (case a9 => k_is); (case l9 => k_is); (case c9 => k_is); (case k9 => k_is); (case a10 => k_is); (case l10 => k_is); (case c10 => k_is); (case k10 => k_is); (case a11 => k_is); (case l11 => k_is); (case c11 => k_is); (case k11 => k_is); (case a12 => k_is); (case l12 => k_is); (case c12 => k_is); (case k12 => k_is); (case a13 => k_is); (case l13 => k_is); (case c13 => k_is); (case k13 => k_is); (case a14 => k_is); (case l14 => k_is); (case c14 => k_is); (case k14 => k_is); (case a15 => k_is); (case l15 => k_is); (case c15 => k_is); (case k15 => k_is); (case a16 => k_is); (case l16 => k_is); (case c16 => k_is); (case k16 => k_is); (case a17 => k_is); (case l17 => k_is); (case c17 => k_is); (case k17 => k_is); (case a18 => k_is); (case l18 => k_is); (case c18 => k_is); (case k18 => k_is); (case a19 => k_is); (case l19 => k_is); (case c19 => k_is); (case k19 => k_is); (case a20 => k_is); (case l20 => k_is); (case c20 => k_is); (case k20 => k_is); (case z_len => k_is); (case z_range => k_is); (case z_isinstance => k_is); (case z_int => k_is); (case z_str => k_is); (case z_bool => k_is); (case z_list => k_is); (case z_tuple => k_is); (case z_dict => k_is); (case z_sum => k_is); (case z_max => k_is); (case z_min => k_is); (case z_abs => k_is); (case z_sorted => k_is); (case z_enumerate => k_is); (case z_zip => k_is); (case z_set => k_is); (case y_MOST_LEAST => k_is); (case y_MOST_USERS => k_is); (case y_MOST_ASSIGN => k_is); (case y_MOST_BLOCKING => k_is); (case y_DIGITS => k_is); (case y_gcd => k_is); (case y_MOST_DIGITS => k_is); (case xa_InvalidText => k_is); (case xe_InvalidText => k_exc); (case xk_InvalidText => k_is); (case xs_InvalidText => k_is); (case xt_InvalidText => k_is); (case xi_InvalidText => k_is); (case xy_InvalidText => k_is); (case xa_InvalidLine => k_is); (case xi_InvalidLine => k_is); (case xl_InvalidLine => k_is); (case xc_InvalidLine => k_is); (case xd_InvalidLine => k_is); (case kf1_InvalidLine => rfl); (case kr1_InvalidLine => kernel_rfl); (case xe_InvalidLine => k_is); (case xf_InvalidLine => k_is); (case xm_InvalidLine => k_is); (case kr2_InvalidLine => kernel_rfl); (case kr3_InvalidLine => kernel_rfl); (case xn_InvalidLine => k_is); (case xv_InvalidLine => k_is); (case kr4_InvalidLine => kernel_rfl); (case xsa_InvalidLine => k_is); (case xs_InvalidLine => k_is); (case xt_InvalidLine => k_is); (case xk_InvalidLine => k_is); (case xti_InvalidLine => k_is); (case xnl_InvalidLine => k_is); (case xga_InvalidLine => k_is); (case xgg_InvalidLine => k_is); (case xhd_InvalidLine => k_is); (case xz_InvalidLine => k_is); (case xy_InvalidLine => k_is); (case qa_Console => k_is); (case qpg_Console => k_is); (case qhd_Console => k_is); (case qpo_Console => k_is); (case qsa_Console => k_is); (case qmk_Console => k_is); (case qkc_Console => k_is); (case qn_Console_count => k_is); (case qn_Console_needs => k_is); (case ma_Console___init__ => k_is); (case mi_Console___init__ => k_is); (case ml_Console___init__ => k_is); (case mc_Console___init__ => k_is); (case mk_Console___init__ => k_is); (case ma_Console_separations => k_is); (case mi_Console_separations => k_is); (case ml_Console_separations => k_is); (case mc_Console_separations => k_is); (case mk_Console_separations => k_is); (case ma_Console_set_need => k_is); (case mi_Console_set_need => k_is); (case ml_Console_set_need => k_is); (case mc_Console_set_need => k_is); (case mk_Console_set_need => k_is); (case ma_Console_check => k_is); (case mi_Console_check => k_is); (case ml_Console_check => k_is); (case mc_Console_check => k_is); (case mk_Console_check => k_is); (case ma_Console_execute => k_is); (case mi_Console_execute => k_is); (case ml_Console_execute => k_is); (case mc_Console_execute => k_is); (case mk_Console_execute => k_is); (case nT => kernel_rfl); (case hC => kernel_rfl)
#print axioms PySem.Challenge.cw_airwave_k58_faulty_consoles_holds
